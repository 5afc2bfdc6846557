/-
  A part of the proof: the layers over the model. Nothing in it is assumed.
-/
import Derived.Test.YtcjfmpodkafceaaGreatDoorBytesP4

set_option linter.unusedSimpArgs false
set_option linter.unusedVariables false

namespace Go.Vd
open Go.RowKit
set_option maxRecDepth 10000
def nodD (k n : Int) (s : Bs) (nk : Bool) (ks : List D) (nn : Bool) (ns : List D) : D := .agg [.int .u8 k, .int .u64 n, .str s, .slice nk [] ks, .slice nn [] ns]
def sayD (s : Bs) : D := nodD 3 0 s true [] true []
def countD (n : Int) : D := nodD 2 (1099511627776 + n) [] true [] true []
def truthD (b : Bool) : D := nodD 1 (if b = true then 1 else 0) [] true [] true []
def F49 : List D → Option D
 | [.str s] => some (sayD s)
 | _ => none
theorem ok49 {P : Program} (hb : DeskB P) : (funS F49).ok P 49 := by
 refine fun_ok (S := fun _ => none) none_ok hb.f49 (fun ds r h => ?_) (fun ds r h => ?_)
 ·unfold F49 at h; split at h
  ·simp
  ·cases h
 ·unfold F49 at h; split at h
  ·rename_i s
   simp only [Option.some.injEq] at h
   subst h
   have hfill : fillD [.int .u8 0, .int .u64 0, .str [], .slice true [] [], .slice true [] []] [(0, 1, .int .u8 3), (2, 1, .str s)] = some [.int .u8 3, .int .u64 0, .str s, .slice true [] [], .slice true [] []] := rfl
   unfold dc49
   simp only [↓go1, gB0, reduceIte, Nat.reduceEqDiff, Nat.reduceAdd, Nat.reduceSub, Nat.reduceLT, Nat.reduceLeDiff, put_rd, put2_rd, rd_zero, rd_succ, gB4, reduceCtorEq, res_cell, ldD_agg, hfill, List.map_cons, List.map_nil]
   exact ⟨rfl, rfl⟩
  ·cases h
def F50 : List D → Option D
 | [.int .i64 n] => if inR n = true then some (countD n) else none
 | _ => none
theorem ok50 {P : Program} (hb : DeskB P) : (funS F50).ok P 50 := by
 refine fun_ok (S := fun _ => none) none_ok hb.f50 (fun ds r h => ?_) (fun ds r h => ?_)
 ·unfold F50 at h; split at h
  ·simp
  ·cases h
 ·unfold F50 at h; split at h
  ·rename_i n
   split at h
   ·rename_i hn
    simp only [Option.some.injEq] at h
    subst h
    have hfill : ∀ n, fillD [.int .u8 0, .int .u64 0, .str [], .slice true [] [], .slice true [] []] [(0, 1, .int .u8 2), (1, 1, .int .u64 n)] = some [.int .u8 2, .int .u64 n, .str [], .slice true [] [], .slice true [] []] := fun n => rfl
    unfold dc50
    simp only [↓go1, gB0, reduceIte, Nat.reduceEqDiff, Nat.reduceAdd, Nat.reduceSub, Nat.reduceLT, Nat.reduceLeDiff, put_rd, put2_rd, rd_zero, rd_succ, gB4, reduceCtorEq, res_cell, ldD_agg, hfill, List.map_cons, List.map_nil, cnt_wrap hn]
    exact ⟨rfl, rfl⟩
   ·cases h
  ·cases h
def F51 : List D → Option D
 | [.bool b] => some (truthD b)
 | _ => none
theorem ok51 {P : Program} (hb : DeskB P) : (funS F51).ok P 51 := by
 refine fun_ok (S := fun _ => none) none_ok hb.f51 (fun ds r h => ?_) (fun ds r h => ?_)
 ·unfold F51 at h; split at h
  ·simp
  ·cases h
 ·unfold F51 at h; split at h
  ·rename_i b
   simp only [Option.some.injEq] at h
   subst h
   have hfill : fillD [.int .u8 0, .int .u64 0, .str [], .slice true [] [], .slice true [] []] [(0, 1, .int .u8 1), (1, 1, .int .u64 1)] = some [.int .u8 1, .int .u64 1, .str [], .slice true [] [], .slice true [] []] := rfl
   have hfill2 : fillD [.int .u8 0, .int .u64 0, .str [], .slice true [] [], .slice true [] []] [(0, 1, .int .u8 1)] = some [.int .u8 1, .int .u64 0, .str [], .slice true [] [], .slice true [] []] := rfl
   unfold dc51
   cases b
   all_goals
    simp only [↓go1, gB0, reduceIte, Nat.reduceEqDiff, Nat.reduceAdd, Nat.reduceSub, Nat.reduceLT, Nat.reduceLeDiff, put_rd, put2_rd, rd_zero, rd_succ, gB4, reduceCtorEq, res_cell, ldD_agg, hfill, hfill2, List.map_cons, List.map_nil]
    exact ⟨rfl, rfl⟩
  ·cases h
def F83 : List D → Option D
 | [.agg [.int .u8 _, .int .u64 _, .str _, .slice _ _ _, .slice _ _ ns], .int .i64 i] => match strsOf ns with
  | some b => if 0 ≤ i then some (.str ((b[i.toNat]?).getD [])) else none
  | none => none
 | _ => none
theorem ok83 {P : Program} (hb : DeskB P) : (funS F83).ok P 83 := by
 refine fun_ok (S := fun _ => none) none_ok hb.f83 (fun ds r h => ?_) (fun ds r h => ?_)
 ·unfold F83 at h; split at h
  ·simp
  ·cases h
 ·unfold F83 at h; split at h
  ·rename_i k x s nk tk ks nn tn ns i
   split at h
   ·rename_i b hbs
    obtain rfl := strsOf_some hbs
    split at h
    ·rename_i hi
     simp only [Option.some.injEq] at h
     subst h
     unfold dc83
     by_cases hl : i < (b.length : Int)
     ·have hl' : (i < (b.length : Int)) = True := eq_true hl
      have hx : (b.map D.str)[i.toNat]? = some (.str ((b[i.toNat]?).getD [])) := by
       have : i.toNat < b.length := by omega
       simp [this]
      simp only [↓go1, gB0, reduceIte, Nat.reduceEqDiff, Nat.reduceAdd, Nat.reduceSub, Nat.reduceLT, Nat.reduceLeDiff, put_rd, put2_rd, rd_zero, rd_succ, gB4, reduceCtorEq, res_cell, ldD_agg, hl', hi, hx]
     ·have hl' : (i < (b.length : Int)) = False := eq_false hl
      have hx : (b[i.toNat]?).getD [] = [] := by
       rw [List.getElem?_eq_none (by omega)]; rfl
      simp only [↓go1, gB0, reduceIte, Nat.reduceEqDiff, Nat.reduceAdd, Nat.reduceSub, Nat.reduceLT, Nat.reduceLeDiff, put_rd, put2_rd, rd_zero, rd_succ, gB4, reduceCtorEq, res_cell, ldD_agg, hl', hx]
    ·cases h
   ·cases h
  ·cases h
def leafOf : D → Option Tr
 | .agg [.int .u8 k, .int .u64 x, .str s, .slice _ _ _, .slice _ _ _] => if k = 0 then some .nil else if k = 1 then some (.tr (decide (x = 1))) else if k = 2 then some (.num x) else if k = 3 then some (.text s) else none
 | _ => none
def nodeOf : Nat → D → Option Tr
 | 0, d => leafOf d
 | n + 1, d => match leafOf d with
  | some v => some v
  | none => match d with
   | .agg [.int .u8 k, .int .u64 _, .str _, .slice _ _ ks, .slice _ _ ns] => match allM (nodeOf n) ks with
    | some l => if k = 4 then some (.list l) else if k = 5 then match strsOf ns with
     | some b => if b.length = l.length then some (.pairs (b.zip l)) else none
     | none => none
     else none
    | none => none
   | _ => none
theorem leafOf_inv {d : D} {v : Tr} (h : leafOf d = some v) : ∃ k x s nk tk ks nn tn ns, d = .agg [.int .u8 k, .int .u64 x, .str s, .slice nk tk ks, .slice nn tn ns] ∧ ((k = 0 ∧ v = .nil) ∨ (k = 1 ∧ v = .tr (decide (x = 1))) ∨ (k = 2 ∧ v = .num x) ∨ (k = 3 ∧ v = .text s)) := by
 unfold leafOf at h
 split at h
 ·rename_i k x s nk tk ks nn tn ns
  refine ⟨k, x, s, nk, tk, ks, nn, tn, ns, rfl, ?_⟩
  split at h
  ·rename_i e; simp only [Option.some.injEq] at h; exact .inl ⟨e, h.symm⟩
  ·split at h
   ·rename_i e; simp only [Option.some.injEq] at h; exact .inr (.inl ⟨e, h.symm⟩)
   ·split at h
    ·rename_i e; simp only [Option.some.injEq] at h; exact .inr (.inr (.inl ⟨e, h.symm⟩))
    ·split at h
     ·rename_i e; simp only [Option.some.injEq] at h; exact .inr (.inr (.inr ⟨e, h.symm⟩))
     ·cases h
 ·cases h
theorem nodeOf_inv {n : Nat} {d : D} {v : Tr} (h : nodeOf n d = some v) : leafOf d = some v ∨ ∃ m k x s nk tk ks nn tn ns l, n = m + 1 ∧ d = .agg [.int .u8 k, .int .u64 x, .str s, .slice nk tk ks, .slice nn tn ns] ∧ allM (nodeOf m) ks = some l ∧
  ((k = 4 ∧ v = .list l) ∨ (k = 5 ∧ ∃ b : List Bs, ns = b.map .str ∧ b.length = l.length ∧ v = .pairs (b.zip l))) := by
 cases n with
 | zero => exact .inl h
 | succ n =>
  unfold nodeOf at h
  split at h
  ·rename_i w hw; rw [← h]; exact .inl hw
  ·split at h
   ·rename_i k x s nk tk ks nn tn ns hq
    split at h
    ·rename_i l hl
     refine .inr ⟨n, k, x, s, nk, tk, ks, nn, tn, ns, l, rfl, rfl, hl, ?_⟩
     split at h
     ·rename_i e; simp only [Option.some.injEq] at h; exact .inl ⟨e, h.symm⟩
     ·split at h
      ·rename_i e
       split at h
       ·rename_i b hb
        split at h
        ·rename_i hlen
         simp only [Option.some.injEq] at h
         exact .inr ⟨e, b, strsOf_some hb, hlen, h.symm⟩
        ·cases h
       ·cases h
      ·cases h
    ·cases h
   ·cases h
def F52 (n : Nat) : List D → Option D
 | [d] => match nodeOf n d with
  | some v => if v.fit = true ∧ v.enc.length ≤ 90000000 then some (.str v.enc) else none
  | none => none
 | _ => none
set_option maxHeartbeats 2000000 in
theorem put_leaf10 {S : Summs} (s81 : S 81 = some (cQ 5 id F81)) (s82 : S 82 = some (funS F82)) {d : D} {v : Tr} (hv : leafOf d = some v) (hf : v.fit = true) : dc52.wp S [] (Ends [.t 2] fun d _ => d.unR = .str v.enc ∧ (D.str v.enc).calmR = true) ⟨entryS [d], fun _ _ => none, 0⟩ := by
 obtain ⟨k, x, s, nk, tk, ks, nn, tn, ns, rfl, h⟩ := leafOf_inv hv
 unfold dc52
 rcases h with ⟨rfl, rfl⟩ | ⟨rfl, rfl⟩ | ⟨rfl, rfl⟩ | ⟨rfl, rfl⟩
 ·simp only [↓go1, gB0, reduceIte, Nat.reduceEqDiff, Nat.reduceAdd, Nat.reduceSub, Nat.reduceLT, Nat.reduceLeDiff, put_rd, put2_rd, rd_zero, rd_succ, gB4, reduceCtorEq, res_cell, ldD_agg, Tr.enc]
 ·have h10 : ((1 : Int) = 0) = False := eq_false (by decide)
  by_cases hx : x = 1
  ·have hx' : (x = 1) = True := eq_true hx
   simp only [↓go1, gB0, reduceIte, Nat.reduceEqDiff, Nat.reduceAdd, Nat.reduceSub, Nat.reduceLT, Nat.reduceLeDiff, put_rd, put2_rd, rd_zero, rd_succ, gB4, reduceCtorEq, res_cell, ldD_agg, h10, hx', decide_true, Tr.enc]
  ·have hx' : (x = 1) = False := eq_false hx
   simp only [↓go1, gB0, reduceIte, Nat.reduceEqDiff, Nat.reduceAdd, Nat.reduceSub, Nat.reduceLT, Nat.reduceLeDiff, put_rd, put2_rd, rd_zero, rd_succ, gB4, reduceCtorEq, res_cell, ldD_agg, h10, hx', decide_false, Tr.enc, Bool.false_eq_true]
 ·have h20 : ((2 : Int) = 0) = False := eq_false (by decide)
  have h21 : ((2 : Int) = 1) = False := eq_false (by decide)
  simp only [Tr.fit, Bool.and_eq_true, decide_eq_true_eq] at hf
  have f81 : F81 [.int .i64 8, .int .u64 x] = some (bytesD (beB 8 x), [405]) := by
   simp only [F81]
   rw [if_pos ⟨by omega, by omega, by omega, by omega⟩]; rfl
  simp only [↓go1, gB0, reduceIte, Nat.reduceEqDiff, Nat.reduceAdd, Nat.reduceSub, Nat.reduceLT, Nat.reduceLeDiff, put_rd, put2_rd, rd_zero, rd_succ, gB4, reduceCtorEq, res_cell, ldD_agg, h20, h21, callK_fn s81]
  refine got_c rfl (by decide) f81 ?_
  have hu : unbytesD (.int .u8 3 :: bytesD (beB 8 x)) = some (3 :: beB 8 x) := by
   rw [unbytes_cons, unbytes_bytes]; rfl
  simp only [↓go1, gB0, reduceIte, Nat.reduceEqDiff, Nat.reduceAdd, Nat.reduceSub, Nat.reduceLT, Nat.reduceLeDiff, put_rd, put2_rd, rd_zero, rd_succ, gB4, reduceCtorEq, res_cell, ldD_agg, id, h20, h21, callK_fn s81, List.cons_append, List.nil_append, hu, Tr.enc]
 ·have h30 : ((3 : Int) = 0) = False := eq_false (by decide)
  have h31 : ((3 : Int) = 1) = False := eq_false (by decide)
  have h32 : ((3 : Int) = 2) = False := eq_false (by decide)
  simp only [Tr.fit, decide_eq_true_eq] at hf
  have f82 : ∀ nl t, F82 [.slice nl t [.int .u8 4], .str s] = some (.tup [.slice false [] ([.int .u8 4] ++ bytesD (rowB s)), .int .i64 0]) := fun nl t => by
   simp only [F82]; exact if_pos ⟨by decide, rfl, hf⟩
  have hu : unbytesD (.int .u8 4 :: bytesD (rowB s)) = some (4 :: rowB s) := by
   rw [unbytes_cons, unbytes_bytes]; rfl
  simp only [↓go1, gB0, reduceIte, Nat.reduceEqDiff, Nat.reduceAdd, Nat.reduceSub, Nat.reduceLT, Nat.reduceLeDiff, put_rd, put2_rd, rd_zero, rd_succ, gB4, reduceCtorEq, res_cell, ldD_agg, h30, h31, h32, callK_fun s82, f82, List.cons_append, List.nil_append, hu, Tr.enc]
end Go.Vd

namespace Go.Vd
open Go.RowKit
set_option maxRecDepth 10000
theorem nodeOf_agg {n : Nat} {d : D} {v : Tr} (h : nodeOf n d = some v) : ∃ k x s nk tk ks nn tn ns, d = .agg [.int .u8 k, .int .u64 x, .str s, .slice nk tk ks, .slice nn tn ns] ∧ nodeOf n (.agg [.int .u8 k, .int .u64 x, .str s, .slice nk [] ks, .slice nn [] ns]) = some v := by
 rcases nodeOf_inv h with h1 | ⟨m, k, x, s, nk, tk, ks, nn, tn, ns, l, rfl, rfl, _⟩
 ·obtain ⟨k, x, s, nk, tk, ks, nn, tn, ns, rfl, _⟩ := leafOf_inv h1
  exact ⟨k, x, s, nk, tk, ks, nn, tn, ns, rfl, by rw [← h]; cases n <;> rfl⟩
 ·exact ⟨k, x, s, nk, tk, ks, nn, tn, ns, rfl, by rw [← h]; rfl⟩
set_option maxHeartbeats 1000000 in
theorem loop52a {S : Summs} {n : Nat} (s52 : S 52 = some (funS (F52 n))) {l : List Tr} {ks : List D} {nk : Bool} {tk : Id} {base : Bs} {Q : Ex → St → Prop} (hlen : ks.length = l.length) (hl64 : l.length ≤ 64)
  (hget : ∀ (i : Nat) x v, ks[i]? = some x → l[i]? = some v → nodeOf n x = some v) (hfit : Tr.fitL l = true) (hbl : base.length + (Tr.encL l).length ≤ 90000000)
  (hexit : ∀ st, st.s 5 = .str (base ++ Tr.encL l) → Q (.exit 0) st) :
  ∀ (j k : Nat) st g, j = l.length - k → k ≤ l.length → st.s 6 = .int .i64 (k : Int) → st.s 1 = .ptr [0] 0 → st.m [0] 0 = some (.int .u8 4) → st.m [0] 3 = some (.slice nk tk ks) → st.s 5 = .str (base ++ Tr.encL (l.take k)) → loopW S [] dc52l0 Q st g := by
 intro j
 induction j with
 | zero =>
  intro k st g hj hk h6 h1 m0 m3 h5
  refine wp_loopd dc52l0.eq_1 ?_
  have hlt : ((k : Int) < (l.length : Int)) = False := eq_false (by omega)
  rw [List.take_of_length_le (by omega)] at h5
  simp only [↓go1, gB0, reduceIte, Nat.reduceEqDiff, Nat.reduceAdd, Nat.reduceSub, Nat.reduceLT, Nat.reduceLeDiff, put_rd, put2_rd, rd_zero, rd_succ, gB4, reduceCtorEq, res_cell, ldD_agg, h6, h1, m3, hlen, hlt]
  exact hexit _ h5
 | succ j ih =>
  intro k st g hj hk h6 h1 m0 m3 h5
  refine wp_loopd dc52l0.eq_1 ?_
  have hlt : ((k : Int) < (l.length : Int)) = True := eq_true (by omega)
  have hk0 : (0 : Int) ≤ (k : Int) := by omega
  have hkl : k < l.length := by omega
  have hkx : k < ks.length := by omega
  have hw : IntKind.i64.wrap ((k : Int) + 1) = ((k + 1 : Nat) : Int) := by rw [IntWalk.i64_in _ ⟨by omega, by omega⟩]; omega
  have htk : l.take (k + 1) = l.take k ++ [l[k]] := by rw [List.take_add_one, List.getElem?_eq_getElem hkl]; rfl
  have hel := encL_take hkl
  obtain ⟨a1, a2, a3, a4, a5, a6, a7, a8, a9, hxe, hv⟩ := nodeOf_agg (hget k ks[k] l[k] (List.getElem?_eq_getElem hkx) (List.getElem?_eq_getElem hkl))
  have hx : ks[(k : Int).toNat]? = some (.agg [.int .u8 a1, .int .u64 a2, .str a3, .slice a4 a5 a6, .slice a7 a8 a9]) := by simp [hkx, hxe]
  have f52 : F52 n [.agg [.int .u8 a1, .int .u64 a2, .str a3, .slice a4 [] a6, .slice a7 [] a9]] = some (.str l[k].enc) := by
   simp only [F52, hv]; exact if_pos ⟨fitL_get hkl hfit, by omega⟩
  have h45 : ((4 : Int) = 5) = False := eq_false (by decide)
  simp (disch := omega) only [↓go1, gB0, reduceIte, Nat.reduceEqDiff, Nat.reduceAdd, Nat.reduceSub, Nat.reduceLT, Nat.reduceLeDiff, put_rd, put2_rd, rd_zero, rd_succ, gB4, reduceCtorEq, res_cell, ldD_agg, big_le, List.length_append, h6, h1, m0, m3, h5, hlen, hlt, hk0, hx, hw, h45, f52, callK_fun s52]
  refine ih (k + 1) _ _ (by omega) (by omega) rfl h1 m0 m3 ?_
  rw [htk, encL_app, ← List.append_assoc]; simp only [Tr.encL, List.append_nil]; rfl
set_option maxHeartbeats 1000000 in
theorem loop52b {S : Summs} {n : Nat} (s52 : S 52 = some (funS (F52 n))) (s82 : S 82 = some (funS F82)) (s83 : S 83 = some (funS F83)) {l : List Tr} {b : List Bs} {ks : List D} {x : Int} {s : Bs} {nk nn : Bool} {tk tn : Id} {base : Bs} {Q : Ex → St → Prop} (hlen : ks.length = l.length) (hbn : b.length = l.length) (hl64 : l.length ≤ 64)
  (hget : ∀ (i : Nat) x v, ks[i]? = some x → l[i]? = some v → nodeOf n x = some v) (hfit : Tr.fitP (b.zip l) = true) (hbl : base.length + (Tr.encP (b.zip l)).length ≤ 90000000)
  (hexit : ∀ st, st.s 5 = .str (base ++ Tr.encP (b.zip l)) → Q (.exit 0) st) :
  ∀ (j k : Nat) st g, j = l.length - k → k ≤ l.length → st.s 6 = .int .i64 (k : Int) → st.s 1 = .ptr [0] 0 → st.m [0] 0 = some (.int .u8 5) → st.m [0] 1 = some (.int .u64 x) → st.m [0] 2 = some (.str s) → st.m [0] 3 = some (.slice nk tk ks) → st.m [0] 4 = some (.slice nn tn (b.map .str)) →
   st.s 5 = .str (base ++ Tr.encP ((b.zip l).take k)) → loopW S [] dc52l0 Q st g := by
 have hzl : (b.zip l).length = l.length := by simp [hbn]
 intro j
 induction j with
 | zero =>
  intro k st g hj hk h6 h1 m0 m1 m2 m3 m4 h5
  refine wp_loopd dc52l0.eq_1 ?_
  have hlt : ((k : Int) < (l.length : Int)) = False := eq_false (by omega)
  rw [List.take_of_length_le (by omega)] at h5
  simp only [↓go1, gB0, reduceIte, Nat.reduceEqDiff, Nat.reduceAdd, Nat.reduceSub, Nat.reduceLT, Nat.reduceLeDiff, put_rd, put2_rd, rd_zero, rd_succ, gB4, reduceCtorEq, res_cell, ldD_agg, h6, h1, m3, hlen, hlt]
  exact hexit _ h5
 | succ j ih =>
  intro k st g hj hk h6 h1 m0 m1 m2 m3 m4 h5
  refine wp_loopd dc52l0.eq_1 ?_
  have hlt : ((k : Int) < (l.length : Int)) = True := eq_true (by omega)
  have hk0 : (0 : Int) ≤ (k : Int) := by omega
  have hkl : k < l.length := by omega
  have hkb : k < b.length := by omega
  have hkz : k < (b.zip l).length := by omega
  have hkx : k < ks.length := by omega
  have hzk : (b.zip l)[k] = (b[k], l[k]) := List.getElem_zip
  have hw : IntKind.i64.wrap ((k : Int) + 1) = ((k + 1 : Nat) : Int) := by rw [IntWalk.i64_in _ ⟨by omega, by omega⟩]; omega
  have htk : (b.zip l).take (k + 1) = (b.zip l).take k ++ [(b[k], l[k])] := by rw [List.take_add_one, List.getElem?_eq_getElem hkz, hzk]; rfl
  have hel := encP_take hkz
  obtain ⟨hf1, hf2⟩ := fitP_get hkz hfit
  rw [hzk] at hel hf1 hf2
  simp only at hel hf1 hf2
  obtain ⟨a1, a2, a3, a4, a5, a6, a7, a8, a9, hxe, hv⟩ := nodeOf_agg (hget k ks[k] l[k] (List.getElem?_eq_getElem hkx) (List.getElem?_eq_getElem hkl))
  have hx : ks[(k : Int).toNat]? = some (.agg [.int .u8 a1, .int .u64 a2, .str a3, .slice a4 a5 a6, .slice a7 a8 a9]) := by simp [hkx, hxe]
  have f52 : F52 n [.agg [.int .u8 a1, .int .u64 a2, .str a3, .slice a4 [] a6, .slice a7 [] a9]] = some (.str l[k].enc) := by
   simp only [F52, hv]; exact if_pos ⟨hf2, by omega⟩
  have f83 : F83 [.agg [.int .u8 5, .int .u64 x, .str s, .slice nk [] ks, .slice nn [] (b.map .str)], .int .i64 (k : Int)] = some (.str b[k]) := by
   simp only [F83, strsOf_map]
   rw [if_pos hk0]; simp [hkb]
  have f82 : F82 [.slice true [] [], .str b[k]] = some (.tup [.slice false [] (bytesD (rowB b[k])), .int .i64 0]) := by
   simp only [F82]; rw [if_pos ⟨by decide, rfl, hf1⟩]; rfl
  simp (disch := omega) only [↓go1, gB0, reduceIte, Nat.reduceEqDiff, Nat.reduceAdd, Nat.reduceSub, Nat.reduceLT, Nat.reduceLeDiff, put_rd, put2_rd, rd_zero, rd_succ, gB4, reduceCtorEq, res_cell, ldD_agg, big_le, unbytes_bytes, List.length_append, h6, h1, m0, m1, m2, m3, m4, h5, hlen, hlt, hk0, hx, hw, f52, f82, f83, callK_fun s52, callK_fun s82, callK_fun s83]
  refine ih (k + 1) _ _ (by omega) (by omega) rfl h1 m0 m1 m2 m3 m4 ?_
  rw [htk, encP_app, ← List.append_assoc]; simp only [Tr.encP, List.append_nil, ← List.append_assoc]; rfl
theorem ok52 {P : Program} (hb : DeskB P) : ∀ n, (funS (F52 n)).ok P 52
 | 0 => by
  have hS : Summs.ok P (tabL [(81, cQ 5 id F81), (82, funS F82)]) := tabL_cons (ok81 hb) (tabL_cons (ok82 hb) tabL_nil)
  refine fun_ok (S := tabL [(81, cQ 5 id F81), (82, funS F82)]) hS hb.f52 (fun ds r h => ?_) (fun ds r h => ?_)
  ·unfold F52 at h; split at h
   ·simp
   ·cases h
  ·unfold F52 at h; split at h
   ·rename_i d
    split at h
    ·rename_i v hv
     split at h
     ·rename_i hc
      simp only [Option.some.injEq] at h
      subst h
      exact put_leaf10 rfl rfl hv hc.1
     ·cases h
    ·cases h
   ·cases h
 | n + 1 => by
  have hS : Summs.ok P (tabL [(81, cQ 5 id F81), (82, funS F82), (83, funS F83), (52, funS (F52 n))]) := tabL_cons (ok81 hb) (tabL_cons (ok82 hb) (tabL_cons (ok83 hb) (tabL_cons (ok52 hb n) tabL_nil)))
  have s81 : tabL [(81, cQ 5 id F81), (82, funS F82), (83, funS F83), (52, funS (F52 n))] 81 = some (cQ 5 id F81) := rfl
  have s82 : tabL [(81, cQ 5 id F81), (82, funS F82), (83, funS F83), (52, funS (F52 n))] 82 = some (funS F82) := rfl
  have s83 : tabL [(81, cQ 5 id F81), (82, funS F82), (83, funS F83), (52, funS (F52 n))] 83 = some (funS F83) := rfl
  have s52 : tabL [(81, cQ 5 id F81), (82, funS F82), (83, funS F83), (52, funS (F52 n))] 52 = some (funS (F52 n)) := rfl
  generalize tabL [(81, cQ 5 id F81), (82, funS F82), (83, funS F83), (52, funS (F52 n))] = S at hS s81 s82 s83 s52
  refine fun_ok (S := S) hS hb.f52 (fun ds r h => ?_) (fun ds r h => ?_)
  ·unfold F52 at h; split at h
   ·simp
   ·cases h
  ·unfold F52 at h; split at h
   ·rename_i d
    split at h
    ·rename_i v hv
     split at h
     ·rename_i hc
      simp only [Option.some.injEq] at h
      subst h
      obtain ⟨hf, hel⟩ := hc
      rcases nodeOf_inv hv with h1 | ⟨m, k, x, s, nk, tk, ks, nn, tn, ns, l, e, rfl, hy, hkk⟩
      ·exact put_leaf10 s81 s82 h1 hf
      ·obtain rfl := Nat.succ.inj e
       obtain ⟨hlen, hget⟩ := allM_some hy
       rcases hkk with ⟨rfl, rfl⟩ | ⟨rfl, b, rfl, hbn, rfl⟩
       ·simp only [Tr.fit, Bool.and_eq_true, decide_eq_true_eq] at hf
        have hu : unbytesD [.int .u8 5, .int .u8 ((l.length % 256 : Nat) : Int)] = some [5, UInt8.ofNat (l.length % 256)] := rfl
        have hm : ((l.length : Int) % 256).toNat = l.length % 256 := by omega
        have g0 : ((4 : Int) = 0) = False := eq_false (by decide)
        have g1 : ((4 : Int) = 1) = False := eq_false (by decide)
        have g2 : ((4 : Int) = 2) = False := eq_false (by decide)
        have g3 : ((4 : Int) = 3) = False := eq_false (by decide)
        have w5 : IntKind.u8.wrap (4 + 1) = 5 := by decide
        unfold dc52
        simp only [↓go1, gB0, reduceIte, Nat.reduceEqDiff, Nat.reduceAdd, Nat.reduceSub, Nat.reduceLT, Nat.reduceLeDiff, put_rd, put2_rd, rd_zero, rd_succ, gB4, reduceCtorEq, res_cell, ldD_agg, g0, g1, g2, g3, w5, u8_wrap, hlen, hm, hu]
        refine loop52a s52 (l := l) (base := [5, UInt8.ofNat (l.length % 256)]) hlen hf.1 hget hf.2 ?_ (fun st e => ?_) l.length 0 _ _ rfl (by omega) rfl rfl rfl rfl rfl
        ·simp only [Tr.enc, List.length_cons] at hel; simp only [List.length_cons, List.length_nil]; omega
        ·simp only [↓go1, gB0, reduceIte, Nat.reduceEqDiff, Nat.reduceAdd, Nat.reduceSub, Nat.reduceLT, Nat.reduceLeDiff, put_rd, put2_rd, rd_zero, rd_succ, gB4, reduceCtorEq, res_cell, ldD_agg, e, Tr.enc, List.cons_append, List.nil_append]
       ·simp only [Tr.fit, Bool.and_eq_true, decide_eq_true_eq] at hf
        have hzl : (b.zip l).length = l.length := by simp [hbn]
        have hu : unbytesD [.int .u8 6, .int .u8 ((l.length % 256 : Nat) : Int)] = some [6, UInt8.ofNat (l.length % 256)] := rfl
        have hm : ((l.length : Int) % 256).toNat = l.length % 256 := by omega
        have g0 : ((5 : Int) = 0) = False := eq_false (by decide)
        have g1 : ((5 : Int) = 1) = False := eq_false (by decide)
        have g2 : ((5 : Int) = 2) = False := eq_false (by decide)
        have g3 : ((5 : Int) = 3) = False := eq_false (by decide)
        have w5 : IntKind.u8.wrap (5 + 1) = 6 := by decide
        rw [hzl] at hf
        unfold dc52
        simp only [↓go1, gB0, reduceIte, Nat.reduceEqDiff, Nat.reduceAdd, Nat.reduceSub, Nat.reduceLT, Nat.reduceLeDiff, put_rd, put2_rd, rd_zero, rd_succ, gB4, reduceCtorEq, res_cell, ldD_agg, g0, g1, g2, g3, w5, u8_wrap, hlen, hm, hu]
        refine loop52b s52 s82 s83 (l := l) (b := b) (base := [6, UInt8.ofNat (l.length % 256)]) hlen hbn hf.1 hget hf.2 ?_ (fun st e => ?_) l.length 0 _ _ rfl (by omega) rfl rfl rfl rfl rfl rfl rfl rfl
        ·simp only [Tr.enc, List.length_cons] at hel; simp only [List.length_cons, List.length_nil]; omega
        ·simp only [↓go1, gB0, reduceIte, Nat.reduceEqDiff, Nat.reduceAdd, Nat.reduceSub, Nat.reduceLT, Nat.reduceLeDiff, put_rd, put2_rd, rd_zero, rd_succ, gB4, reduceCtorEq, res_cell, ldD_agg, e, Tr.enc, hzl, List.cons_append, List.nil_append]
     ·cases h
    ·cases h
   ·cases h
end Go.Vd

namespace Go.Vd
open Go.RowKit
set_option maxRecDepth 10000
structure NI (m : Mem) (M0 : Nat → Option D) (kb : List D) (tb : Id) (kc : List D) (tc : Id) : Prop where
 a : ∀ o, m [0] o = M0 o
 b0 : m [10] 0 = some (.int .u8 4)
 b1 : m [10] 1 = some (.int .u64 0)
 b2 : m [10] 2 = some (.str [])
 b3 : m [10] 3 = some (.slice kb.isEmpty tb kb)
 b4 : m [10] 4 = some (.slice true [] [])
 c0 : m [11] 0 = some (.int .u8 4)
 c1 : m [11] 1 = some (.int .u64 0)
 c2 : m [11] 2 = some (.str [])
 c3 : m [11] 3 = some (.slice kc.isEmpty tc kc)
 c4 : m [11] 4 = some (.slice true [] [])
section
variable {m m' : Mem} {M0 : Nat → Option D} {kb kc : List D} {tb tc : Id} {c j f : Nat} {x : D}
theorem NI.keep (h : NI m M0 kb tb kc tc) (h0 : ∀ o, m' [0] o = m [0] o) (h1 : ∀ o, m' [10] o = m [10] o) (h2 : ∀ o, m' [11] o = m [11] o) : NI m' M0 kb tb kc tc :=
 ⟨fun o => (h0 o).trans (h.a o), by rw [h1, h.b0], by rw [h1, h.b1], by rw [h1, h.b2], by rw [h1, h.b3], by rw [h1, h.b4], by rw [h2, h.c0], by rw [h2, h.c1], by rw [h2, h.c2], by rw [h2, h.c3], by rw [h2, h.c4]⟩
theorem NI.put (h : NI m M0 kb tb kc tc) {o : Nat} {ds : List D} (hj : 12 ≤ j) : NI (m.put [j] o ds) M0 kb tb kc tc :=
 h.keep (fun o => Mem.put_other (by simp; omega)) (fun o => Mem.put_other (by simp; omega)) (fun o => Mem.put_other (by simp; omega))
theorem growU_keep {e : Nat} {nl : Bool} {t i : Id} {xs : List D} {o : Nat} (hg : Gw m c e nl t) (hi : i ≠ [f]) (h0 : ∀ x, m i 0 ≠ some (.tok x)) : Upd.app m (growU e [f] (.slice nl t xs)) i o = m i o := by
 rw [growU_rd, if_neg (fun h => hi h.1), if_neg]
 rintro ⟨h1, rfl, rfl⟩
 rcases hg with h2 | ⟨j, rfl, _, h3⟩
 ·rw [h1] at h2; cases h2
 ·exact h0 _ h3
theorem NI.grow (h : NI m M0 kb tb kc tc) {nl : Bool} {t : Id} {xs : List D} (hM : ∀ x, M0 0 ≠ some (.tok x)) (hg : Gw m c 89 nl t) (hf : 12 ≤ f) : NI (Upd.app m (growU 89 [f] (.slice nl t xs))) M0 kb tb kc tc :=
 h.keep (fun o => growU_keep hg (by simp; omega) (by rw [h.a]; exact hM)) (fun o => growU_keep hg (by simp; omega) (by rw [h.b0]; simp)) (fun o => growU_keep hg (by simp; omega) (by rw [h.c0]; simp))
theorem NI.setB (h : NI m M0 kb tb kc tc) {t' : Id} : NI (m.put [10] 3 [.slice false t' (kb ++ [x])]) M0 (kb ++ [x]) t' kc tc := by
 refine ⟨fun o => (Mem.put_other (by simp)).trans (h.a o), ?_, ?_, ?_, ?_, ?_, (Mem.put_other (by simp)).trans h.c0, (Mem.put_other (by simp)).trans h.c1, (Mem.put_other (by simp)).trans h.c2, (Mem.put_other (by simp)).trans h.c3, (Mem.put_other (by simp)).trans h.c4⟩
 ·simpa [put_rd] using h.b0
 ·simpa [put_rd] using h.b1
 ·simpa [put_rd] using h.b2
 ·rw [isEmpty_snoc]; simp [put_rd]
 ·simpa [put_rd] using h.b4
theorem NI.setC (h : NI m M0 kb tb kc tc) {t' : Id} : NI (m.put [11] 3 [.slice false t' (kc ++ [x])]) M0 kb tb (kc ++ [x]) t' := by
 refine ⟨fun o => (Mem.put_other (by simp)).trans (h.a o), (Mem.put_other (by simp)).trans h.b0, (Mem.put_other (by simp)).trans h.b1, (Mem.put_other (by simp)).trans h.b2, (Mem.put_other (by simp)).trans h.b3, (Mem.put_other (by simp)).trans h.b4, ?_, ?_, ?_, ?_, ?_⟩
 ·simpa [put_rd] using h.c0
 ·simpa [put_rd] using h.c1
 ·simpa [put_rd] using h.c2
 ·rw [isEmpty_snoc]; simp [put_rd]
 ·simpa [put_rd] using h.c4
theorem Gw.out {e : Nat} {i : Id} {o : Nat} {d : D} (hi : i = [10] ∨ i = [11]) (hc : 12 ≤ j) (h : m [j] 0 = some (.tok (e + 1))) (hj : j < c) : Gw (m.put i o [d]) c e false [j] :=
 .inr ⟨j, rfl, hj, by rw [Mem.put_other]; exact h; rcases hi with rfl | rfl <;> simp <;> omega⟩
end
theorem lit_ne {a b k : Nat} (h : a < b + k) : (a = b + k) = False := eq_false (by omega)
set_option maxHeartbeats 2000000 in
theorem loop22a {S : Summs} (s49 : S 49 = some (funS F49)) {l : List Bs} (hb : l.length ≤ 64) {M0 : Nat → Option D} {nlb : Bool} {tlb : Id} (hM4 : M0 4 = some (.slice nlb tlb (l.map .str))) (hM0 : ∀ x, M0 0 ≠ some (.tok x)) {Q : Ex → St → Prop}
  (hexit : ∀ st tb, st.s 1 = .ptr [0] 0 → st.s 5 = .ptr [10] 0 → st.s 6 = .ptr [11] 0 → NI st.m M0 (l.map sayD) tb [] [] → 15 ≤ st.c → Q (.exit 0) st) :
  ∀ (n k : Nat) (tb : Id) st g, n = l.length - k → k ≤ l.length → st.s 7 = .int .i64 (k : Int) → st.s 1 = .ptr [0] 0 → st.s 5 = .ptr [10] 0 → st.s 6 = .ptr [11] 0 → NI st.m M0 ((l.take k).map sayD) tb [] [] → Gw st.m st.c 89 ((l.take k).map sayD).isEmpty tb → 15 ≤ st.c →
   loopW S [] dc22l0 Q st g := by
 intro n
 induction n with
 | zero =>
  intro k tb st g hn hk h7 h1 h5 h6 hI hg hc
  refine wp_loopd dc22l0.eq_1 ?_
  have hlt : ((k : Int) < (l.length : Int)) = False := eq_false (by omega)
  simp only [↓go1, gB0, reduceIte, Nat.reduceEqDiff, Nat.reduceAdd, Nat.reduceSub, Nat.reduceLT, Nat.reduceLeDiff, put1_rd, put_rd, growU_rd, rd_zero, rd_succ, gB4, reduceCtorEq, ldD_agg, h7, h1, hI.a, hM4, hlt]
  rw [List.take_of_length_le (by omega)] at hI
  exact hexit _ tb h1 h5 h6 hI (by simp only; omega)
 | succ n ih =>
  intro k tb st g hn hk h7 h1 h5 h6 hI hg hc
  refine wp_loopd dc22l0.eq_1 ?_
  have hlt : ((k : Int) < (l.length : Int)) = True := eq_true (by omega)
  have hk0 : (0 : Int) ≤ (k : Int) := by omega
  have hkl : k < l.length := by omega
  have hx : (l.map D.str)[(k : Int).toNat]? = some (.str l[k]) := by simp [hkl]
  have hw : IntKind.i64.wrap ((k : Int) + 1) = ((k + 1 : Nat) : Int) := by rw [IntWalk.i64_in _ ⟨by omega, by omega⟩]; omega
  have htk : (l.take (k + 1)).map sayD = (l.take k).map sayD ++ [sayD l[k]] := by rw [List.take_add_one, List.getElem?_eq_getElem hkl, List.map_append]; rfl
  have hlen : ((l.take k).map sayD).length = k := by simp; omega
  have f49 : F49 [.str l[k]] = some (.agg [.int .u8 3, .int .u64 0, .str l[k], .slice true [] [], .slice true [] []]) := rfl
  have hnil : ((l.take k).map sayD).isEmpty = true → (l.take k).map sayD = [] := fun h => List.isEmpty_iff.1 h
  generalize (l.take k).map sayD = kb at hI hg hnil htk hlen
  simp (disch := omega) only [↓go1, gB0, reduceIte, Nat.reduceEqDiff, Nat.reduceAdd, Nat.reduceSub, Nat.reduceLT, Nat.reduceLeDiff, put1_rd, put_rd, growU_rd, rd_zero, rd_succ, gB4, reduceCtorEq, ldD_agg, h7, h1, h5, h6, hI.a, hM4, hI.b3, hlt, hk0, hx, hw, f49, callK_fun s49, lit_ne]
  refine Need.intro ⟨by omega, rfl, (hg.put (by omega)).toGrow⟩ ?_
  rw [app_fold hnil]
  simp (disch := omega) only [↓go1, gB0, reduceIte, Nat.reduceEqDiff, Nat.reduceAdd, Nat.reduceSub, Nat.reduceLT, Nat.reduceLeDiff, put1_rd, put_rd, growU_rd, rd_zero, rd_succ, gB4, reduceCtorEq, ldD_agg, h7, h1, h5, h6, hI.a, hM4, hI.b3, hlt, hk0, hx, hw, f49, callK_fun s49, lit_ne]
  refine Need.intro (fun p hp w hw' => ?_) ?_
  ·simp only [List.mem_cons, List.mem_nil_iff, or_false] at hp
   rcases hp with rfl | rfl
   all_goals simp only [List.getD_cons_succ, List.getD_cons_zero, wlocs, rds] at hw' ⊢
   ·cases hw'
   ·simp (disch := omega) only [↓go1, gB0, reduceIte, Nat.reduceEqDiff, Nat.reduceAdd, Nat.reduceSub, Nat.reduceLT, Nat.reduceLeDiff, put1_rd, put_rd, growU_rd, rd_zero, rd_succ, gB4, reduceCtorEq, ldD_agg, h7, h1, h5, h6, hI.a, hM4, hI.b3, hlt, hk0, hx, hw, f49, callK_fun s49, lit_ne] at hw' ⊢
    exact feet_one (by first | (simp; done) | (simp; omega)) hw'
  ·simp (disch := omega) only [↓go1, gB0, reduceIte, Nat.reduceEqDiff, Nat.reduceAdd, Nat.reduceSub, Nat.reduceLT, Nat.reduceLeDiff, put1_rd, put_rd, growU_rd, rd_zero, rd_succ, gB4, reduceCtorEq, ldD_agg, h7, h1, h5, h6, hI.a, hM4, hI.b3, hlt, hk0, hx, hw, f49, callK_fun s49, lit_ne]
   refine ih (k + 1) [st.c + 5 + 9] _ _ (by omega) (by omega) rfl h1 h5 h6 ?_ ?_ (by simp only; omega)
   ·rw [htk]
    exact NI.setB (NI.grow (NI.put hI (by omega)) hM0 (Gw.put hg (by omega)) (by omega))
   ·rw [htk, isEmpty_snoc]
    exact Gw.out (.inl rfl) (by omega) (by rw [growU_rd, if_pos ⟨rfl, rfl⟩]) (by simp only; omega)
def callN (d : Dn) : D := nodD 4 0 [] false [countD d.at_, countD d.cl, countD d.fr, countD d.to, truthD d.is, sayD d.line, sayD d.reply] true []
set_option maxHeartbeats 8000000 in
theorem loop22b {S : Summs} (s49 : S 49 = some (funS F49)) (s50 : S 50 = some (funS F50)) (s51 : S 51 = some (funS F51)) {l : List Dn} (hb : l.length ≤ 64) (hok : ∀ d ∈ l, okN d = true) {kb : List D} {tb : Id} {M0 : Nat → Option D} {nlb : Bool} {tlb : Id} (hM0 : M0 0 = some (.slice nlb tlb (l.map dnD))) {Q : Ex → St → Prop}
  (hexit : ∀ st tc, st.s 1 = .ptr [0] 0 → st.s 5 = .ptr [10] 0 → st.s 6 = .ptr [11] 0 → NI st.m M0 kb tb (l.map callN) tc → 15 ≤ st.c → Q (.exit 2) st) :
  ∀ (n k : Nat) (tc : Id) st g, n = l.length - k → k ≤ l.length → st.s 8 = .int .i64 (k : Int) → st.s 1 = .ptr [0] 0 → st.s 5 = .ptr [10] 0 → st.s 6 = .ptr [11] 0 → NI st.m M0 kb tb ((l.take k).map callN) tc → Gw st.m st.c 89 ((l.take k).map callN).isEmpty tc → 15 ≤ st.c →
   loopW S [] dc22l1 Q st g := by
 intro n
 induction n with
 | zero =>
  intro k tc st g hn hk h8 h1 h5 h6 hI hg hc
  refine wp_loopd dc22l1.eq_1 ?_
  have hlt : ((k : Int) < (l.length : Int)) = False := eq_false (by omega)
  simp only [↓go1, gB0, reduceIte, Nat.reduceEqDiff, Nat.reduceAdd, Nat.reduceSub, Nat.reduceLT, Nat.reduceLeDiff, put1_rd, put_rd, growU_rd, rd_zero, rd_succ, gB4, reduceCtorEq, ldD_agg, h8, h1, hI.a, hM0, hlt]
  rw [List.take_of_length_le (by omega)] at hI
  exact hexit _ tc h1 h5 h6 hI (by simp only; omega)
 | succ n ih =>
  intro k tc st g hn hk h8 h1 h5 h6 hI hg hc
  refine wp_loopd dc22l1.eq_1 ?_
  have hlt : ((k : Int) < (l.length : Int)) = True := eq_true (by omega)
  have hk0 : (0 : Int) ≤ (k : Int) := by omega
  have hkl : k < l.length := by omega
  have hx : (l.map dnD)[(k : Int).toNat]? = some (.agg [.int .i64 l[k].cl, .str l[k].line, .str l[k].reply, .int .i64 l[k].fr, .int .i64 l[k].at_, .int .i64 l[k].to, .bool l[k].is]) := by simp [hkl, dnD]
  have hw : IntKind.i64.wrap ((k : Int) + 1) = ((k + 1 : Nat) : Int) := by rw [IntWalk.i64_in _ ⟨by omega, by omega⟩]; omega
  have htk : (l.take (k + 1)).map callN = (l.take k).map callN ++ [callN l[k]] := by rw [List.take_add_one, List.getElem?_eq_getElem hkl, List.map_append]; rfl
  have hlen : ((l.take k).map callN).length = k := by simp; omega
  have hdk := hok l[k] (List.getElem_mem hkl)
  simp only [okN, Bool.and_eq_true] at hdk
  have f49 : ∀ s, F49 [.str s] = some (.agg [.int .u8 3, .int .u64 0, .str s, .slice true [] [], .slice true [] []]) := fun s => rfl
  have f51 : ∀ b, F51 [.bool b] = some (.agg [.int .u8 1, .int .u64 (if b = true then 1 else 0), .str [], .slice true [] [], .slice true [] []]) := fun s => rfl
  have fa : F50 [.int .i64 l[k].at_] = some (.agg [.int .u8 2, .int .u64 (1099511627776 + l[k].at_), .str [], .slice true [] [], .slice true [] []]) := if_pos (by simp [hdk])
  have fb : F50 [.int .i64 l[k].cl] = some (.agg [.int .u8 2, .int .u64 (1099511627776 + l[k].cl), .str [], .slice true [] [], .slice true [] []]) := if_pos (by simp [hdk])
  have fc : F50 [.int .i64 l[k].fr] = some (.agg [.int .u8 2, .int .u64 (1099511627776 + l[k].fr), .str [], .slice true [] [], .slice true [] []]) := if_pos (by simp [hdk])
  have fd : F50 [.int .i64 l[k].to] = some (.agg [.int .u8 2, .int .u64 (1099511627776 + l[k].to), .str [], .slice true [] [], .slice true [] []]) := if_pos (by simp [hdk])
  have hfill : ∀ id xs, fillD [.int .u8 0, .int .u64 0, .str [], .slice true [] [], .slice true [] []] [(0, 1, .int .u8 4), (3, 1, .slice false id xs)] = some [.int .u8 4, .int .u64 0, .str [], .slice false id xs, .slice true [] []] := fun id xs => rfl
  have hnil : ((l.take k).map callN).isEmpty = true → (l.take k).map callN = [] := fun h => List.isEmpty_iff.1 h
  generalize (l.take k).map callN = kc at hI hg hnil htk hlen
  simp (disch := omega) only [↓go1, gB0, reduceIte, Nat.reduceEqDiff, Nat.reduceAdd, Nat.reduceSub, Nat.reduceLT, Nat.reduceLeDiff, put1_rd, put_rd, growU_rd, rd_zero, rd_succ, gB4, reduceCtorEq, ldD_agg, h8, h1, h5, h6, hI.a, hM0, hI.c3, hlt, hk0, hx, hw, f49, f51, fa, fb, fc, fd, hfill, List.map_cons, List.map_nil, callK_fun s49, callK_fun s50, callK_fun s51, lit_ne]
  refine Need.intro ⟨by omega, rfl, ((((hg.put (by omega)).put (by omega)).put (by omega)).put (by omega)).toGrow⟩ ?_
  rw [app_fold hnil]
  simp (disch := omega) only [↓go1, gB0, reduceIte, Nat.reduceEqDiff, Nat.reduceAdd, Nat.reduceSub, Nat.reduceLT, Nat.reduceLeDiff, put1_rd, put_rd, growU_rd, rd_zero, rd_succ, gB4, reduceCtorEq, ldD_agg, h8, h1, h5, h6, hI.a, hM0, hI.c3, hlt, hk0, hx, hw, f49, f51, fa, fb, fc, fd, hfill, List.map_cons, List.map_nil, callK_fun s49, callK_fun s50, callK_fun s51, lit_ne]
  refine Need.intro (fun p hp w hw' => ?_) ?_
  ·simp only [List.mem_cons, List.mem_nil_iff, or_false] at hp
   repeat' (rcases hp with rfl | hp)
   all_goals (try subst hp)
   all_goals simp only [List.getD_cons_succ, List.getD_cons_zero, wlocs, rds] at hw' ⊢
   all_goals first
    | (cases hw'; done)
    | skip
   all_goals
    simp (disch := omega) only [↓go1, gB0, reduceIte, Nat.reduceEqDiff, Nat.reduceAdd, Nat.reduceSub, Nat.reduceLT, Nat.reduceLeDiff, put1_rd, put_rd, growU_rd, rd_zero, rd_succ, gB4, reduceCtorEq, ldD_agg, h8, h1, h5, h6, hI.a, hM0, hI.c3, hlt, hk0, hx, hw, f49, f51, fa, fb, fc, fd, hfill, List.map_cons, List.map_nil, callK_fun s49, callK_fun s50, callK_fun s51, lit_ne] at hw' ⊢
    exact feet_one (by first | (simp; done) | (simp; omega)) hw'
  ·simp (disch := omega) only [↓go1, gB0, reduceIte, Nat.reduceEqDiff, Nat.reduceAdd, Nat.reduceSub, Nat.reduceLT, Nat.reduceLeDiff, put1_rd, put_rd, growU_rd, rd_zero, rd_succ, gB4, reduceCtorEq, ldD_agg, h8, h1, h5, h6, hI.a, hM0, hI.c3, hlt, hk0, hx, hw, f49, f51, fa, fb, fc, fd, hfill, List.map_cons, List.map_nil, callK_fun s49, callK_fun s50, callK_fun s51, lit_ne]
   refine ih (k + 1) [st.c + 5 + 7 + 26] _ _ (by omega) (by omega) rfl h1 h5 h6 ?_ ?_ (by simp only; omega)
   ·rw [htk]
    exact NI.setC (NI.grow (NI.put (NI.put (NI.put (NI.put hI (by omega)) (by omega)) (by omega)) (by omega)) (by rw [hM0]; simp) ((((hg.put (by omega)).put (by omega)).put (by omega)).put (by omega)) (by omega))
   ·rw [htk, isEmpty_snoc]
    exact Gw.out (.inr rfl) (by omega) (by rw [growU_rd, if_pos ⟨rfl, rfl⟩]) (by simp only; omega)
end Go.Vd

namespace Go.Vd
open Go.RowKit
set_option maxRecDepth 10000
theorem nodeOf_say (n : Nat) (s : Bs) : nodeOf n (sayD s) = some (.text s) := by cases n <;> rfl
theorem nodeOf_count (n : Nat) (k : Int) : nodeOf n (countD k) = some (cntT k) := by cases n <;> rfl
theorem nodeOf_truth (n : Nat) (b : Bool) : nodeOf n (truthD b) = some (.tr b) := by cases n <;> cases b <;> rfl
theorem nodeOf_list {n : Nat} {x : Int} {s : Bs} {nk nn : Bool} {tk tn : Id} {ks ns : List D} {l : List Tr} (h : allM (nodeOf n) ks = some l) : nodeOf (n + 1) (.agg [.int .u8 4, .int .u64 x, .str s, .slice nk tk ks, .slice nn tn ns]) = some (.list l) := by
 have : leafOf (.agg [.int .u8 4, .int .u64 x, .str s, .slice nk tk ks, .slice nn tn ns]) = none := rfl
 simp only [nodeOf, this, h, if_true]
theorem nodeOf_pairs {n : Nat} {x : Int} {s : Bs} {nk nn : Bool} {tk tn : Id} {ks : List D} {l : List Tr} {b : List Bs} (h : allM (nodeOf n) ks = some l) (hb : b.length = l.length) : nodeOf (n + 1) (.agg [.int .u8 5, .int .u64 x, .str s, .slice nk tk ks, .slice nn tn (b.map .str)]) = some (.pairs (b.zip l)) := by
 have : leafOf (.agg [.int .u8 5, .int .u64 x, .str s, .slice nk tk ks, .slice nn tn (b.map .str)]) = none := rfl
 have h54 : ¬ ((5 : Int) = 4) := by decide
 simp only [nodeOf, this, h, if_true, strsOf_map, hb, if_neg h54]
theorem nodeOf_call (d : Dn) : nodeOf 2 (callN d) = some (callT d) := by
 unfold callN nodD callT
 exact nodeOf_list (by simp only [allM, nodeOf_say, nodeOf_count, nodeOf_truth])
theorem nodeOf_tell (t : Td) {nk nn nb nc : Bool} {tk tn tb tc : Id} : nodeOf 4 (.agg [.int .u8 5, .int .u64 0, .str [], .slice nk tk [.agg [.int .u8 4, .int .u64 0, .str [], .slice nb tb (t.behind.map sayD), .slice true [] []], .agg [.int .u8 4, .int .u64 0, .str [], .slice nc tc (t.calls.map callN), .slice true [] []], countD t.left, truthD t.shut, countD t.ticks], .slice nn tn ([kBehind, kCalls, kLeft, kSealed, kTicks].map .str)]) = some (tellT t) := by
 have e1 : allM (nodeOf 2) (t.behind.map sayD) = some (t.behind.map .text) := allM_map (fun s => nodeOf_say 2 s) _
 have e2 : allM (nodeOf 2) (t.calls.map callN) = some (t.calls.map callT) := allM_map (fun d => nodeOf_call d) _
 have e3 : allM (nodeOf 3) [.agg [.int .u8 4, .int .u64 0, .str [], .slice nb tb (t.behind.map sayD), .slice true [] []], .agg [.int .u8 4, .int .u64 0, .str [], .slice nc tc (t.calls.map callN), .slice true [] []], countD t.left, truthD t.shut, countD t.ticks] = some [.list (t.behind.map .text), .list (t.calls.map callT), cntT t.left, .tr t.shut, cntT t.ticks] := by
  simp only [allM, nodeOf_list e1, nodeOf_list e2, nodeOf_count, nodeOf_truth]
 rw [nodeOf_pairs e3 rfl]; rfl
theorem put_at {i : Id} {ds : List D} {o : Nat} : (Mem.put (fun _ _ => none) i 0 ds) i o = ds[o]? := by
 rw [put_rd]
 by_cases h : o < ds.length
 ·rw [if_pos ⟨rfl, by omega, by omega⟩]; simp
 ·rw [if_neg (by omega), List.getElem?_eq_none (by omega)]
set_option maxHeartbeats 8000000 in
theorem ok22 {P : Program} (hb : DeskB P) (h16 : (funS F15).ok P 16) : (funS Fbytes).ok P 22 := by
 have hS : Summs.ok P (tabL [(16, funS F15), (49, funS F49), (50, funS F50), (51, funS F51), (52, funS (F52 4))]) := tabL_cons h16 (tabL_cons (ok49 hb) (tabL_cons (ok50 hb) (tabL_cons (ok51 hb) (tabL_cons (ok52 hb 4) tabL_nil))))
 have s16 : tabL [(16, funS F15), (49, funS F49), (50, funS F50), (51, funS F51), (52, funS (F52 4))] 16 = some (funS F15) := rfl
 have s49 : tabL [(16, funS F15), (49, funS F49), (50, funS F50), (51, funS F51), (52, funS (F52 4))] 49 = some (funS F49) := rfl
 have s50 : tabL [(16, funS F15), (49, funS F49), (50, funS F50), (51, funS F51), (52, funS (F52 4))] 50 = some (funS F50) := rfl
 have s51 : tabL [(16, funS F15), (49, funS F49), (50, funS F50), (51, funS F51), (52, funS (F52 4))] 51 = some (funS F51) := rfl
 have s52 : tabL [(16, funS F15), (49, funS F49), (50, funS F50), (51, funS F51), (52, funS (F52 4))] 52 = some (funS (F52 4)) := rfl
 generalize tabL [(16, funS F15), (49, funS F49), (50, funS F50), (51, funS F51), (52, funS (F52 4))] = S at hS s16 s49 s50 s51 s52
 refine fun_ok (S := S) hS hb.f22 (fun ds r h => ?_) (fun ds r h => ?_)
 ·unfold Fbytes at h; split at h
  ·simp
  ·cases h
 ·unfold Fbytes at h; split at h
  ·rename_i d
   split at h
   ·rename_i nc nb t ht
    obtain ⟨x, y, rfl⟩ := tdOf_some ht
    simp only [Option.some.injEq] at h
    subst h
    have f15 : ∀ x y, F15 [.agg [.slice nc x (t.calls.map dnD), .int .i64 t.ticks, .int .i64 t.left, .bool t.shut, .slice nb y (t.behind.map .str)]] = some (.int .i64 (checkB t)) := fun x y => by
     simp only [F15, tdOf, dnsOf_map, strsOf_map]
    unfold dc22
    by_cases hz : checkB t = 0
    ·obtain ⟨b1, b2, b3, b4⟩ := lines_ok hz
     obtain ⟨c1, c2, c3⟩ := check_ok hz
     have f50a : F50 [.int .i64 t.left] = some (.agg [.int .u8 2, .int .u64 (1099511627776 + t.left), .str [], .slice true [] [], .slice true [] []]) := if_pos c2
     have f50b : F50 [.int .i64 t.ticks] = some (.agg [.int .u8 2, .int .u64 (1099511627776 + t.ticks), .str [], .slice true [] [], .slice true [] []]) := if_pos c1
     have f51 : F51 [.bool t.shut] = some (.agg [.int .u8 1, .int .u64 (if t.shut = true then 1 else 0), .str [], .slice true [] [], .slice true [] []]) := rfl
     have f52 : ∀ i1 i2 i3 i4 n1 n2 n3 n4, F52 4 [.agg [.int .u8 5, .int .u64 0, .str [], .slice n1 i1 [.agg [.int .u8 4, .int .u64 0, .str [], .slice n2 i2 (t.behind.map sayD), .slice true [] []], .agg [.int .u8 4, .int .u64 0, .str [], .slice n3 i3 (t.calls.map callN), .slice true [] []], .agg [.int .u8 2, .int .u64 (1099511627776 + t.left), .str [], .slice true [] [], .slice true [] []], .agg [.int .u8 1, .int .u64 (if t.shut = true then 1 else 0), .str [], .slice true [] [], .slice true [] []], .agg [.int .u8 2, .int .u64 (1099511627776 + t.ticks), .str [], .slice true [] [], .slice true [] []]], .slice n4 i4 [.str [98, 101, 104, 105, 110, 100], .str [99, 97, 108, 108, 115], .str [108, 101, 102, 116], .str [115, 101, 97, 108, 101, 100], .str [116, 105, 99, 107, 115]]]] = some (.str (bytesB t)) := fun i1 i2 i3 i4 n1 n2 n3 n4 => by
      have e := nodeOf_tell t (nk := n1) (tk := i1) (nb := n2) (tb := i2) (nc := n3) (tc := i3) (nn := n4) (tn := i4)
      simp only [kBehind, kCalls, kLeft, kSealed, kTicks, List.map_cons, List.map_nil, countD, truthD, nodD] at e
      simp only [F52, e]
      exact if_pos ⟨tell_fit hz, by have := tell_len hz; omega⟩
     have hfill0 : fillD [.int .u8 0, .int .u64 0, .str [], .slice true [] [], .slice true [] []] [(0, 1, .int .u8 4)] = some [.int .u8 4, .int .u64 0, .str [], .slice true [] [], .slice true [] []] := rfl
     have hfill : ∀ i1 x1 i2 x2, fillD [.int .u8 0, .int .u64 0, .str [], .slice true [] [], .slice true [] []] [(0, 1, .int .u8 5), (4, 1, .slice false i1 x1), (3, 1, .slice false i2 x2)] = some [.int .u8 5, .int .u64 0, .str [], .slice false i2 x2, .slice false i1 x1] := fun i1 x1 i2 x2 => rfl
     simp only [↓go1, gB0, reduceIte, Nat.reduceEqDiff, Nat.reduceAdd, Nat.reduceSub, Nat.reduceLT, Nat.reduceLeDiff, put1_rd, put_rd, rd_zero, rd_succ, gB4, reduceCtorEq, ldD_agg, f15, hz, hfill0, List.map_cons, List.map_nil, callK_fun s16]
     refine loop22a s49 (l := t.behind) b2 (M0 := fun o => ([.slice nc x (t.calls.map dnD), .int .i64 t.ticks, .int .i64 t.left, .bool t.shut, .slice nb y (t.behind.map .str)] : List D)[o]?) (nlb := nb) (tlb := y) rfl (by simp) (fun st tb h1 h5 h6 I hc => ?_) t.behind.length 0 [] _ _ rfl (by omega) rfl rfl rfl rfl ?_ (.inl rfl) (by simp only; omega)
     ·simp only [↓go1, gB0, reduceIte, Nat.reduceEqDiff, Nat.reduceAdd, Nat.reduceSub, Nat.reduceLT, Nat.reduceLeDiff, put1_rd, put_rd, rd_zero, rd_succ, gB4, reduceCtorEq, ldD_agg, h1, h5, h6]
      refine loop22b s49 s50 s51 (l := t.calls) b1 (fun d hd => by
       obtain ⟨d1, d2, d3, d4⟩ := c3 d hd
       simp only [okN, d1, d2, d3, d4, Bool.and_true]) (M0 := fun o => ([.slice nc x (t.calls.map dnD), .int .i64 t.ticks, .int .i64 t.left, .bool t.shut, .slice nb y (t.behind.map .str)] : List D)[o]?) (nlb := nc) (tlb := x) rfl (fun st tc h1 h5 h6 I hc => ?_) t.calls.length 0 [] _ _ rfl (by omega) rfl h1 h5 h6 I (.inl rfl) (by simp only; omega)
      have a1 := I.a 1
      have a2 := I.a 2
      have a3 := I.a 3
      simp only [List.getElem?_cons_zero, List.getElem?_cons_succ] at a1 a2 a3
      simp (disch := omega) only [↓go1, gB0, reduceIte, Nat.reduceEqDiff, Nat.reduceAdd, Nat.reduceSub, Nat.reduceLT, Nat.reduceLeDiff, put1_rd, put_rd, rd_zero, rd_succ, gB4, reduceCtorEq, ldD_agg, a1, a2, a3, I.b0, I.b1, I.b2, I.b3, I.b4, I.c0, I.c1, I.c2, I.c3, I.c4, h1, h5, h6, hz, f50a, f50b, f51, f52, hfill, List.map_cons, List.map_nil, callK_fun s50, callK_fun s51, callK_fun s52, lit_ne]
      refine Need.intro (fun p hp w hw' => ?_) ?_
      ·simp only [List.mem_cons, List.mem_nil_iff, or_false] at hp
       repeat' (rcases hp with rfl | hp)
       all_goals (try subst hp)
       all_goals simp only [List.getD_cons_succ, List.getD_cons_zero, wlocs, rds] at hw' ⊢
       all_goals first
        | (cases hw'; done)
        | skip
       all_goals
        simp (disch := omega) only [↓go1, gB0, reduceIte, Nat.reduceEqDiff, Nat.reduceAdd, Nat.reduceSub, Nat.reduceLT, Nat.reduceLeDiff, put1_rd, put_rd, rd_zero, rd_succ, gB4, reduceCtorEq, ldD_agg, a1, a2, a3, I.b0, I.b1, I.b2, I.b3, I.b4, I.c0, I.c1, I.c2, I.c3, I.c4, h1, h5, h6, hz, f50a, f50b, f51, f52, hfill, List.map_cons, List.map_nil, callK_fun s50, callK_fun s51, callK_fun s52, lit_ne, s50, s51, s52, funS, List.not_mem_nil, not_false_eq_true] at hw' ⊢
       all_goals first
        | done
        | exact (feet_one (by first | (simp; done) | (simp; omega)) hw').1
      ·simp (disch := omega) only [↓go1, gB0, reduceIte, Nat.reduceEqDiff, Nat.reduceAdd, Nat.reduceSub, Nat.reduceLT, Nat.reduceLeDiff, put1_rd, put_rd, rd_zero, rd_succ, gB4, reduceCtorEq, ldD_agg, a1, a2, a3, I.b0, I.b1, I.b2, I.b3, I.b4, I.c0, I.c1, I.c2, I.c3, I.c4, h1, h5, h6, hz, f50a, f50b, f51, f52, hfill, List.map_cons, List.map_nil, callK_fun s50, callK_fun s51, callK_fun s52, lit_ne]
     ·refine ⟨fun o => ?_, rfl, rfl, rfl, rfl, rfl, rfl, rfl, rfl, rfl, rfl⟩
      have n10 : ([0] : Id) ≠ [10] := by simp
      have n11 : ([0] : Id) ≠ [11] := by simp
      simp only [app_nil, app_cons, Mem.put_other n10, Mem.put_other n11]
      exact put_at
    ·have hz : (checkB t = 0) = False := by simpa using hz
     simp only [↓go1, gB0, reduceIte, Nat.reduceEqDiff, Nat.reduceAdd, Nat.reduceSub, Nat.reduceLT, Nat.reduceLeDiff, put1_rd, put_rd, rd_zero, rd_succ, gB4, reduceCtorEq, ldD_agg, f15, hz, callK_fun s16]
   ·cases h
  ·cases h
end Go.Vd

namespace Go.Vd
open Go.RowKit
def beN (l : Bs) : Nat := l.foldl (fun n b => 256 * n + b.toNat) 0
theorem beN_snoc (l : Bs) (b : UInt8) : beN (l ++ [b]) = 256 * beN l + b.toNat := by simp [beN]
theorem beN_lt (l : Bs) : beN l < 256 ^ l.length := by
 have : ∀ (r l : Bs), l = r.reverse → beN l < 256 ^ l.length := by
  intro r
  induction r with
  | nil => rintro l rfl; simp [beN]
  | cons b r ih =>
   rintro l rfl
   rw [List.reverse_cons, beN_snoc]
   have h1 := ih r.reverse rfl
   have h2 := b.toNat_lt
   simp only [List.length_append, List.length_cons, List.length_nil, Nat.pow_add, Nat.pow_succ, Nat.pow_zero] at h1 ⊢
   omega
 exact this l.reverse l (by simp)
theorem beN_take {l : Bs} {k : Nat} (h : k < l.length) : beN (l.take (k + 1)) = 256 * beN (l.take k) + l[k].toNat := by
 rw [List.take_add_one, List.getElem?_eq_getElem h]; exact beN_snoc _ _
theorem or_byte {n b : Nat} (hn : n < 72057594037927936) (hb : b < 256) : bits .or .u64 (IntKind.u64.wrap ((n : Int) * 2 ^ min (8 : Int).toNat IntKind.u64.bits)) (b : Int) = ((256 * n + b : Nat) : Int) := by
 have hm : min (8 : Int).toNat IntKind.u64.bits = 8 := by decide
 have hw : IntKind.u64.wrap ((n : Int) * 2 ^ 8) = ((n * 256 : Nat) : Int) := by
  rw [u64_small (by omega) (by omega)]; omega
 rw [hm, hw]
 unfold bits
 have e1 : BitVec.ofInt IntKind.u64.bits ((n * 256 : Nat) : Int) = BitVec.ofNat 64 (n * 256) := by
  show BitVec.ofInt 64 _ = _
  rw [BitVec.ofInt_natCast]
 have e2 : BitVec.ofInt IntKind.u64.bits ((b : Nat) : Int) = BitVec.ofNat 64 b := by
  show BitVec.ofInt 64 _ = _
  rw [BitVec.ofInt_natCast]
 simp only [e1, e2]
 have e3 : (BitVec.ofNat 64 (n * 256) ||| BitVec.ofNat 64 b).toNat = 256 * n + b := by
  rw [BitVec.toNat_or, BitVec.toNat_ofNat, BitVec.toNat_ofNat, Nat.mod_eq_of_lt (by omega), Nat.mod_eq_of_lt (by omega)]
  have := Nat.shiftLeft_add_eq_or_of_lt (i := 8) (b := b) (by omega) n
  rw [Nat.shiftLeft_eq] at this
  rw [show n * 256 = n * 2 ^ 8 by rfl, ← this]; omega
 show IntKind.u64.wrap ((BitVec.ofNat 64 (n * 256) ||| BitVec.ofNat 64 b).toNat : Int) = _
 rw [e3]
 exact u64_small (by omega) (by omega)
structure Sc where
 s : Bs
 at_ : Nat
 bad : Int
def numS (k : Nat) (c : Sc) : Nat × Sc :=
 if c.bad ≠ 0 then (0, c) else if c.s.length - c.at_ < k then (0, { c with bad := 3 }) else (beN ((c.s.drop c.at_).take k), { c with at_ := c.at_ + k })
def rowS (c : Sc) : Bs × Sc :=
 if (numS 2 c).2.bad ≠ 0 then ([], (numS 2 c).2)
 else if (numS 2 c).2.s.length - (numS 2 c).2.at_ < (numS 2 c).1 then ([], { c with bad := 3 })
 else (((numS 2 c).2.s.drop (numS 2 c).2.at_).take (numS 2 c).1, { (numS 2 c).2 with at_ := (numS 2 c).2.at_ + (numS 2 c).1 })
def endS (c : Sc) : Int := if c.bad ≠ 0 then c.bad else if c.at_ < c.s.length then 4 else 0
def failS (e : Int) (c : Sc) : Sc := if c.bad = 0 then { c with bad := e } else c
def countS (n : Nat) (c : Sc) : Nat × Sc :=
 let p := numS 1 (if n = 0 then failS 24 c else c)
 let e : Int := if n = 0 then 24 else if 64 < p.1 then 5 else 0
 (p.1, if p.2.bad = 0 ∧ e ≠ 0 then failS e p.2 else p.2)
def itemsL (f : Sc → Tr × Sc) : Nat → List Tr → Sc → Tr × Sc
 | 0, acc, c => (.list acc, c)
 | k + 1, acc, c => if c.bad ≠ 0 then (.nil, c) else itemsL f k (acc ++ [(f c).1]) (f c).2
def lastB (acc : List (Bs × Tr)) (s : Bs) : Bool := match acc.getLast? with
 | some (a, _) => !(Op.bytesLess a s)
 | none => false
def namedL (f : Sc → Tr × Sc) : Nat → List (Bs × Tr) → Sc → Tr × Sc
 | 0, acc, c => (.pairs acc, c)
 | k + 1, acc, c => if c.bad ≠ 0 then (.nil, c) else
  let c2 := if lastB acc (rowS c).1 = true then failS 4 (rowS c).2 else (rowS c).2
  if c2.bad ≠ 0 then (.nil, c2) else namedL f k (acc ++ [((rowS c).1, (f c2).1)]) (f c2).2
def itemsS (n : Nat) (f : Sc → Tr × Sc) (c : Sc) : Tr × Sc := itemsL f (countS n c).1 [] (countS n c).2
def namedS (n : Nat) (f : Sc → Tr × Sc) (c : Sc) : Tr × Sc := namedL f (countS n c).1 [] (countS n c).2
def valS (n : Nat) (f : Sc → Tr × Sc) (c : Sc) : Tr × Sc :=
 let p := numS 1 c
 if p.2.bad ≠ 0 then (.nil, p.2) else if p.1 = 0 then (.nil, p.2) else if p.1 = 1 then (.tr false, p.2) else if p.1 = 2 then (.tr true, p.2)
 else if p.1 = 3 then (.num (numS 8 p.2).1, (numS 8 p.2).2) else if p.1 = 4 then (.text (rowS p.2).1, (rowS p.2).2)
 else if p.1 = 5 then itemsS n f p.2 else if p.1 = 6 then namedS n f p.2 else (.nil, failS 22 p.2)
def takeV : Nat → Sc → Tr × Sc
 | 0 => valS 0 fun c => (.nil, c)
 | n + 1 => valS (n + 1) (takeV n)
def kidsA (f : Sc → Tr × Sc) : Nat → List Tr → Sc → Tr × Sc
 | 0, acc, c => (.list acc, c)
 | k + 1, acc, c => if c.bad ≠ 0 then (.list acc, c) else kidsA f k (acc ++ [(f c).1]) (f c).2
def kidsB (f : Sc → Tr × Sc) : Nat → List (Bs × Tr) → Sc → Tr × Sc
 | 0, acc, c => (.pairs acc, c)
 | k + 1, acc, c => if c.bad ≠ 0 then (.pairs acc, c) else
  let c2 := if (rowS c).2.bad = 0 ∧ lastB acc (rowS c).1 = true then { (rowS c).2 with bad := 4 } else (rowS c).2
  if c2.bad ≠ 0 then (.nil, c2) else kidsB f k (acc ++ [((rowS c).1, (f c2).1)]) (f c2).2
def oneS (n : Nat) (f : Sc → Tr × Sc) (c : Sc) : Tr × Sc :=
 let p := numS 1 c
 if p.2.bad ≠ 0 then (.nil, p.2) else if 6 < p.1 then (.nil, { p.2 with bad := 22 }) else if p.1 = 0 then (.nil, p.2) else if p.1 < 3 then (.tr (decide (p.1 = 2)), p.2)
 else if p.1 = 3 then (.num (numS 8 p.2).1, (numS 8 p.2).2) else if p.1 = 4 then (.text (rowS p.2).1, (rowS p.2).2)
 else if n = 0 then (.nil, { p.2 with bad := 24 })
 else
  let q := numS 1 p.2
  let c2 := if q.2.bad = 0 ∧ 64 < q.1 then { q.2 with bad := 5 } else q.2
  if p.1 = 5 then kidsA f q.1 [] c2 else kidsB f q.1 [] c2
def oneV : Nat → Sc → Tr × Sc
 | 0 => oneS 0 fun c => (.nil, c)
 | n + 1 => oneS (n + 1) (oneV n)
end Go.Vd

namespace Go.Vd
open Go.RowKit
set_option maxRecDepth 10000
theorem res_tc {s : Nat → D} {m : Mem} {k : Option Nat} {a t : Nat} : resOf [.t t, .cell k a] s m = (ldD m k (s a)).map fun d => .tup [s t, d] := by
 simp only [resOf, rvAll, RV.of]
 cases ldD m k (s a) <;> rfl
def scD (c : Sc) : D := .agg [.str c.s, .int .i64 (c.at_ : Int), .int .i64 c.bad]
def scOf : D → Option Sc
 | .agg [.str s, .int .i64 a, .int .i64 b] => if 0 ≤ a ∧ a ≤ (s.length : Int) ∧ s.length ≤ 1000000 then some ⟨s, a.toNat, b⟩ else none
 | _ => none
theorem scOf_inv {d : D} {c : Sc} (h : scOf d = some c) : d = .agg [.str c.s, .int .i64 (c.at_ : Int), .int .i64 c.bad] ∧ c.at_ ≤ c.s.length ∧ c.s.length ≤ 1000000 := by
 unfold scOf at h
 split at h
 ·rename_i s a b
  split at h
  ·rename_i hc
   simp only [Option.some.injEq] at h
   subst h
   refine ⟨?_, by simp only; omega, hc.2.2⟩
   simp only [Int.toNat_of_nonneg hc.1]
  ·cases h
 ·cases h
theorem scOf_of {c : Sc} (h : c.at_ ≤ c.s.length) (h' : c.s.length ≤ 1000000) : scOf (.agg [.str c.s, .int .i64 (c.at_ : Int), .int .i64 c.bad]) = some c := by
 simp only [scOf]
 rw [if_pos ⟨by omega, by omega, h'⟩]; simp
theorem scOf_of' {s : Bs} {a : Nat} {b : Int} (h : a ≤ s.length) (h' : s.length ≤ 1000000) : scOf (.agg [.str s, .int .i64 (a : Int), .int .i64 b]) = some ⟨s, a, b⟩ := scOf_of (c := ⟨s, a, b⟩) h h'
def F106 : List D → Option D
 | [d] => (scOf d).map fun _ => .bool true
 | _ => none
def F107 : List D → Option D
 | [d] => (scOf d).map fun c => .int .i64 ((c.s.length : Int) - c.at_)
 | _ => none
def F135 : List D → Option D
 | [d, .int .i64 e] => (scOf d).map fun c => scD { c with bad := e }
 | _ => none
def F124 : List D → Option D
 | [d, .int .i64 k] => if 1 ≤ k ∧ k ≤ 8 then (scOf d).map fun c => .tup [.int .u64 ((numS k.toNat c).1 : Int), scD (numS k.toNat c).2] else none
 | _ => none
def F125 : List D → Option D
 | [d] => (scOf d).map fun c => .tup [.str (rowS c).1, scD (rowS c).2]
 | _ => none
def F85 : List D → Option D
 | [d] => (scOf d).map fun c => .int .i64 (endS c)
 | _ => none
theorem ok106 {P : Program} (hb : DeskB P) : (funS F106).ok P 106 := by
 refine fun_ok (S := fun _ => none) none_ok hb.f106 (fun ds r h => ?_) (fun ds r h => ?_)
 ·unfold F106 at h; split at h
  ·simp
  ·cases h
 ·unfold F106 at h; split at h
  ·rename_i d
   rw [Option.map_eq_some_iff] at h
   obtain ⟨c, hc, rfl⟩ := h
   obtain ⟨rfl, h1, h2⟩ := scOf_inv hc
   have g1 : ((0 : Int) ≤ (c.at_ : Int)) = True := eq_true (by omega)
   have g2 : ((c.at_ : Int) ≤ (c.s.length : Int)) = True := eq_true (by omega)
   unfold dc106
   simp only [↓go1, gB0, reduceIte, Nat.reduceEqDiff, Nat.reduceAdd, Nat.reduceSub, Nat.reduceLT, Nat.reduceLeDiff, put1_rd, put_rd, rd_zero, rd_succ, gB1, reduceCtorEq, res_cell, res_tc, ldD_agg, scD, g1, g2]
  ·cases h
theorem ok110 {P : Program} (hb : DeskB P) : (funS F106).ok P 110 := by
 refine fun_ok (S := fun _ => none) none_ok hb.f110 (fun ds r h => ?_) (fun ds r h => ?_)
 ·unfold F106 at h; split at h
  ·simp
  ·cases h
 ·unfold F106 at h; split at h
  ·rename_i d
   rw [Option.map_eq_some_iff] at h
   obtain ⟨c, hc, rfl⟩ := h
   obtain ⟨rfl, h1, h2⟩ := scOf_inv hc
   have g1 : ((0 : Int) ≤ (c.at_ : Int)) = True := eq_true (by omega)
   have g2 : ((c.at_ : Int) ≤ (c.s.length : Int)) = True := eq_true (by omega)
   unfold dc110
   simp only [↓go1, gB0, reduceIte, Nat.reduceEqDiff, Nat.reduceAdd, Nat.reduceSub, Nat.reduceLT, Nat.reduceLeDiff, put1_rd, put_rd, rd_zero, rd_succ, gB1, reduceCtorEq, res_cell, res_tc, ldD_agg, scD, g1, g2]
  ·cases h
theorem ok107 {P : Program} (hb : DeskB P) : (funS F107).ok P 107 := by
 refine fun_ok (S := fun _ => none) none_ok hb.f107 (fun ds r h => ?_) (fun ds r h => ?_)
 ·unfold F107 at h; split at h
  ·simp
  ·cases h
 ·unfold F107 at h; split at h
  ·rename_i d
   rw [Option.map_eq_some_iff] at h
   obtain ⟨c, hc, rfl⟩ := h
   obtain ⟨rfl, h1, h2⟩ := scOf_inv hc
   have g1 : IntKind.i64.wrap ((c.s.length : Int) - (c.at_ : Int)) = (c.s.length : Int) - (c.at_ : Int) := IntWalk.i64_in _ ⟨by omega, by omega⟩
   unfold dc107
   simp only [↓go1, gB0, reduceIte, Nat.reduceEqDiff, Nat.reduceAdd, Nat.reduceSub, Nat.reduceLT, Nat.reduceLeDiff, put1_rd, put_rd, rd_zero, rd_succ, gB1, reduceCtorEq, res_cell, res_tc, ldD_agg, scD, g1]
  ·cases h
theorem ok135 {P : Program} (hb : DeskB P) : (funS F135).ok P 135 := by
 refine fun_ok (S := fun _ => none) none_ok hb.f135 (fun ds r h => ?_) (fun ds r h => ?_)
 ·unfold F135 at h; split at h
  ·simp
  ·cases h
 ·unfold F135 at h; split at h
  ·rename_i d e
   rw [Option.map_eq_some_iff] at h
   obtain ⟨c, hc, rfl⟩ := h
   obtain ⟨rfl, h1, h2⟩ := scOf_inv hc
   unfold dc135
   simp only [↓go1, gB0, reduceIte, Nat.reduceEqDiff, Nat.reduceAdd, Nat.reduceSub, Nat.reduceLT, Nat.reduceLeDiff, put1_rd, put_rd, rd_zero, rd_succ, gB1, reduceCtorEq, res_cell, res_tc, ldD_agg, scD]
  ·cases h
theorem ok127 {P : Program} (hb : DeskB P) : (funS F135).ok P 127 := by
 refine fun_ok (S := fun _ => none) none_ok hb.f127 (fun ds r h => ?_) (fun ds r h => ?_)
 ·unfold F135 at h; split at h
  ·simp
  ·cases h
 ·unfold F135 at h; split at h
  ·rename_i d e
   rw [Option.map_eq_some_iff] at h
   obtain ⟨c, hc, rfl⟩ := h
   obtain ⟨rfl, h1, h2⟩ := scOf_inv hc
   have hfill : fillD [.str [], .int .i64 0, .int .i64 0] [(0, 1, .str c.s), (1, 1, .int .i64 (c.at_ : Int)), (2, 1, .int .i64 e)] = some [.str c.s, .int .i64 (c.at_ : Int), .int .i64 e] := rfl
   unfold dc127
   simp only [↓go1, gB0, reduceIte, Nat.reduceEqDiff, Nat.reduceAdd, Nat.reduceSub, Nat.reduceLT, Nat.reduceLeDiff, put1_rd, put_rd, rd_zero, rd_succ, gB1, reduceCtorEq, res_cell, res_tc, ldD_agg, scD, hfill, List.map_cons, List.map_nil]
  ·cases h
theorem pow_le {k n : Nat} (h : k ≤ n) : (256 : Nat) ^ k ≤ 256 ^ n := Nat.pow_le_pow_right (by omega) h
set_option maxHeartbeats 1000000 in
theorem loop124 {S : Summs} {b : Bs} (hb : b.length ≤ 8) {nl : Bool} {t : Id} {M : Mem} {X : D} {Q : Ex → St → Prop} (hexit : ∀ st, st.s 6 = .int .u64 (beN b : Int) → st.m = M → st.s 2 = .ptr [0] 0 → st.s 5 = .ptr [2] 0 → st.s 1 = X → Q (.exit 1) st) :
  ∀ (n k : Nat) st g, n = b.length - k → k ≤ b.length → st.s 43 = .int .i64 (k : Int) → st.s 42 = .int .i64 (b.length : Int) → st.s 41 = .slice nl t (bytesD b) → st.s 6 = .int .u64 (beN (b.take k) : Int) → st.m = M → st.s 2 = .ptr [0] 0 → st.s 5 = .ptr [2] 0 → st.s 1 = X → loopW S [] dc124l0 Q st g := by
 intro n
 induction n with
 | zero =>
  intro k st g hn hk h43 h42 h41 h6 hm h2 h5 h1
  refine wp_loopd dc124l0.eq_1 ?_
  have hlt : ((k : Int) < (b.length : Int)) = False := eq_false (by omega)
  rw [List.take_of_length_le (by omega)] at h6
  simp only [↓go1, gB0, reduceIte, Nat.reduceEqDiff, Nat.reduceAdd, Nat.reduceSub, Nat.reduceLT, Nat.reduceLeDiff, put1_rd, put_rd, rd_zero, rd_succ, gB1, reduceCtorEq, res_cell, res_tc, ldD_agg, scD, h43, h42, hlt]
  exact hexit _ h6 hm h2 h5 h1
 | succ n ih =>
  intro k st g hn hk h43 h42 h41 h6 hm h2 h5 h1
  refine wp_loopd dc124l0.eq_1 ?_
  have hlt : ((k : Int) < (b.length : Int)) = True := eq_true (by omega)
  have hk0 : (0 : Int) ≤ (k : Int) := by omega
  have hkl : k < b.length := by omega
  have hx : (bytesD b)[(k : Int).toNat]? = some (.int .u8 (b[k].toNat : Int)) := by simp [bytesD, hkl]
  have hw : IntKind.i64.wrap ((k : Int) + 1) = ((k + 1 : Nat) : Int) := by rw [IntWalk.i64_in _ ⟨by omega, by omega⟩]; omega
  have hb1 : b[k].toNat < 256 := b[k].toNat_lt
  have hw2 : IntKind.u64.wrap (b[k].toNat : Int) = (b[k].toNat : Int) := u64_small (by omega) (by omega)
  have hlt2 : beN (b.take k) < 72057594037927936 := by
   have h1 := beN_lt (b.take k)
   have h2 : (b.take k).length ≤ 7 := by simp; omega
   exact Nat.lt_of_lt_of_le h1 (pow_le h2)
  have hor := or_byte hlt2 hb1
  have h08 : (0 : Int) ≤ 8 := by omega
  simp only [↓go1, gB0, reduceIte, Nat.reduceEqDiff, Nat.reduceAdd, Nat.reduceSub, Nat.reduceLT, Nat.reduceLeDiff, put1_rd, put_rd, rd_zero, rd_succ, gB1, reduceCtorEq, res_cell, res_tc, ldD_agg, scD, h43, h42, h41, h6, hlt, hk0, hx, hw, hw2, hor, h08]
  refine ih (k + 1) _ _ (by omega) (by omega) rfl h42 h41 ?_ hm h2 h5 h1
  simp only [↓go1, gB0, reduceIte, Nat.reduceEqDiff, Nat.reduceAdd, Nat.reduceSub, Nat.reduceLT, Nat.reduceLeDiff, put1_rd, put_rd, rd_zero, rd_succ, gB1, reduceCtorEq, res_cell, res_tc, ldD_agg, scD, beN_take hkl]
set_option maxHeartbeats 2000000 in
theorem ok124 {P : Program} (hb : DeskB P) : (funS F124).ok P 124 := by
 have hS : Summs.ok P (tabL [(106, funS F106), (107, funS F107), (120, funS F120), (135, funS F135)]) := tabL_cons (ok106 hb) (tabL_cons (ok107 hb) (tabL_cons (ok120 hb) (tabL_cons (ok135 hb) tabL_nil)))
 have s106 : tabL [(106, funS F106), (107, funS F107), (120, funS F120), (135, funS F135)] 106 = some (funS F106) := rfl
 have s107 : tabL [(106, funS F106), (107, funS F107), (120, funS F120), (135, funS F135)] 107 = some (funS F107) := rfl
 have s120 : tabL [(106, funS F106), (107, funS F107), (120, funS F120), (135, funS F135)] 120 = some (funS F120) := rfl
 have s135 : tabL [(106, funS F106), (107, funS F107), (120, funS F120), (135, funS F135)] 135 = some (funS F135) := rfl
 generalize tabL [(106, funS F106), (107, funS F107), (120, funS F120), (135, funS F135)] = S at hS s106 s107 s120 s135
 refine fun_ok (S := S) hS hb.f124 (fun ds r h => ?_) (fun ds r h => ?_)
 ·unfold F124 at h; split at h
  ·simp
  ·cases h
 ·unfold F124 at h; split at h
  ·rename_i d k
   split at h
   ·rename_i hk
    rw [Option.map_eq_some_iff] at h
    obtain ⟨⟨s, a, b⟩, hc, rfl⟩ := h
    obtain ⟨rfl, h1, h2⟩ := scOf_inv hc
    simp only at h1 h2
    have f106 : F106 [.agg [.str s, .int .i64 (a : Int), .int .i64 b]] = some (.bool true) := by simp only [F106, scOf_of' h1 h2, Option.map_some]
    have f107 : F107 [.agg [.str s, .int .i64 (a : Int), .int .i64 b]] = some (.int .i64 ((s.length : Int) - a)) := by simp only [F107, scOf_of' h1 h2, Option.map_some]
    have f120 : F120 [.int .i64 k] = some (.bool true) := by simp [F120, hk.1, hk.2]
    have f135 : ∀ e, F135 [.agg [.str s, .int .i64 (a : Int), .int .i64 b], .int .i64 e] = some (.agg [.str s, .int .i64 (a : Int), .int .i64 e]) := fun e => by simp only [F135, scOf_of' h1 h2, Option.map_some, scD]
    unfold dc124
    by_cases hb0 : b = 0
    ·have hb0' : (b = 0) = True := eq_true hb0
     by_cases hl : s.length - a < k.toNat
     ·have hl' : ((s.length : Int) - a < k) = True := eq_true (by omega)
      simp only [↓go1, gB0, reduceIte, Nat.reduceEqDiff, Nat.reduceAdd, Nat.reduceSub, Nat.reduceLT, Nat.reduceLeDiff, put1_rd, put_rd, rd_zero, rd_succ, gB1, reduceCtorEq, res_cell, res_tc, ldD_agg, scD, hb0', hl', f106, f107, f120, f135, numS, if_pos hl, callK_fun s106, callK_fun s107, callK_fun s120, callK_fun s135]
      rfl
     ·have hl' : ((s.length : Int) - a < k) = False := eq_false (by omega)
      have hwk : IntKind.i64.wrap ((a : Int) + k) = (a : Int) + k := IntWalk.i64_in _ ⟨by omega, by omega⟩
      have c1 : ((0 : Int) ≤ (a : Int) + k) = True := eq_true (by omega)
      have c2 : ((a : Int) + k ≤ (s.length : Int)) = True := eq_true (by omega)
      have c3 : ((0 : Int) ≤ (a : Int)) = True := eq_true (by omega)
      have c4 : ((a : Int) ≤ (a : Int) + k) = True := eq_true (by omega)
      have c5 : ((a : Int) + k).toNat = a + k.toNat := by omega
      have c6 : ((a : Int)).toNat = a := by omega
      have c8 : a + k.toNat - a = k.toNat := by omega
      have c7 : ((a : Int) ≤ ((a + k.toNat : Nat) : Int)) = True := eq_true (by omega)
      simp only [↓go1, gB0, reduceIte, Nat.reduceEqDiff, Nat.reduceAdd, Nat.reduceSub, Nat.reduceLT, Nat.reduceLeDiff, put1_rd, put_rd, rd_zero, rd_succ, gB1, reduceCtorEq, res_cell, res_tc, ldD_agg, scD, hb0', hl', f106, f107, f120, f135, numS, if_neg hl, hwk, c1, c2, c3, c4, c5, c6, c7, c8, callK_fun s106, callK_fun s107, callK_fun s120, callK_fun s135]
      have hbl : ((s.drop a).take k.toNat).length = k.toNat := by rw [List.length_take, List.length_drop]; omega
      have hif : (if ¬ b = 0 then ((0 : Nat), (⟨s, a, b⟩ : Sc)) else if s.length - a < k.toNat then (0, ⟨s, a, 3⟩) else (beN ((s.drop a).take k.toNat), ⟨s, a + k.toNat, b⟩)) = (beN ((s.drop a).take k.toNat), ⟨s, a + k.toNat, b⟩) := by
       rw [if_neg (by simp [hb0]), if_neg hl]
      rw [hif]
      refine loop124 (b := (s.drop a).take k.toNat) (by omega) (X := .int .i64 k) (M := (Mem.put (fun _ _ => none) [0] 0 [.str s, .int .i64 (a : Int), .int .i64 b]).put [2] 0 [.str [], .int .i64 0, .int .i64 0]) (fun st e6 em e2 e5 e1 => ?_) _ 0 _ _ rfl (by omega) rfl ?_ rfl rfl rfl rfl rfl rfl
      ·have hcast : ((a + k.toNat : Nat) : Int) = (a : Int) + k := by omega
       simp only [↓go1, gB0, reduceIte, Nat.reduceEqDiff, Nat.reduceAdd, Nat.reduceSub, Nat.reduceLT, Nat.reduceLeDiff, put1_rd, put_rd, rd_zero, rd_succ, gB1, reduceCtorEq, res_cell, res_tc, ldD_agg, scD, e6, em, e2, e5, e1, hwk, hb0, hcast]
       refine Need.intro (feetB_ok rfl) ?_
       simp only [↓go1, gB0, reduceIte, Nat.reduceEqDiff, Nat.reduceAdd, Nat.reduceSub, Nat.reduceLT, Nat.reduceLeDiff, put1_rd, put_rd, rd_zero, rd_succ, gB1, reduceCtorEq, res_cell, res_tc, ldD_agg, scD, e6, em, e2, e5, e1, hwk, hb0, hcast]
      ·simp only [↓go1, gB0, reduceIte, Nat.reduceEqDiff, Nat.reduceAdd, Nat.reduceSub, Nat.reduceLT, Nat.reduceLeDiff, put1_rd, put_rd, rd_zero, rd_succ, gB1, reduceCtorEq, res_cell, res_tc, ldD_agg, scD, bytesD_len, hbl]
    ·have hb0' : (b = 0) = False := eq_false hb0
     simp only [↓go1, gB0, reduceIte, Nat.reduceEqDiff, Nat.reduceAdd, Nat.reduceSub, Nat.reduceLT, Nat.reduceLeDiff, put1_rd, put_rd, rd_zero, rd_succ, gB1, reduceCtorEq, res_cell, res_tc, ldD_agg, scD, hb0', f106, f107, f120, f135, numS, callK_fun s106, callK_fun s107, callK_fun s120, callK_fun s135]
     refine Need.intro (feetB_ok rfl) ?_
     simp only [↓go1, gB0, reduceIte, Nat.reduceEqDiff, Nat.reduceAdd, Nat.reduceSub, Nat.reduceLT, Nat.reduceLeDiff, put1_rd, put_rd, rd_zero, rd_succ, gB1, reduceCtorEq, res_cell, res_tc, ldD_agg, scD, hb0', f106, f107, f120, f135, numS, callK_fun s106, callK_fun s107, callK_fun s120, callK_fun s135]
     rfl
   ·cases h
  ·cases h
theorem numS_inv {k : Nat} {c : Sc} (h : c.at_ ≤ c.s.length) : (numS k c).2.s = c.s ∧ (numS k c).2.at_ ≤ c.s.length ∧ (numS k c).1 < 256 ^ k ∧ ((numS k c).2.bad = 0 → c.bad = 0) := by
 unfold numS
 split
 ·exact ⟨rfl, h, Nat.pos_of_ne_zero (by simp), fun e => e⟩
 ·split
  ·exact ⟨rfl, h, Nat.pos_of_ne_zero (by simp), fun e => by simp at e⟩
  ·refine ⟨rfl, by simp only; omega, ?_, fun e => e⟩
   refine Nat.lt_of_lt_of_le (beN_lt _) (pow_le ?_)
   simp; omega
theorem u64i64 {n : Nat} (h : n < 65536) : IntKind.i64.wrap (n : Int) = (n : Int) := IntWalk.i64_in _ ⟨by omega, by omega⟩
set_option maxHeartbeats 2000000 in
theorem ok125 {P : Program} (hb : DeskB P) : (funS F125).ok P 125 := by
 have hS : Summs.ok P (tabL [(107, funS F107), (124, funS F124), (135, funS F135)]) := tabL_cons (ok107 hb) (tabL_cons (ok124 hb) (tabL_cons (ok135 hb) tabL_nil))
 have s107 : tabL [(107, funS F107), (124, funS F124), (135, funS F135)] 107 = some (funS F107) := rfl
 have s124 : tabL [(107, funS F107), (124, funS F124), (135, funS F135)] 124 = some (funS F124) := rfl
 have s135 : tabL [(107, funS F107), (124, funS F124), (135, funS F135)] 135 = some (funS F135) := rfl
 generalize tabL [(107, funS F107), (124, funS F124), (135, funS F135)] = S at hS s107 s124 s135
 refine fun_ok (S := S) hS hb.f125 (fun ds r h => ?_) (fun ds r h => ?_)
 ·unfold F125 at h; split at h
  ·simp
  ·cases h
 ·unfold F125 at h; split at h
  ·rename_i d
   rw [Option.map_eq_some_iff] at h
   obtain ⟨c, hc, rfl⟩ := h
   obtain ⟨rfl, h1, h2⟩ := scOf_inv hc
   obtain ⟨i1, i2, i3, _⟩ := numS_inv (k := 2) h1
   have f124 : F124 [.agg [.str c.s, .int .i64 (c.at_ : Int), .int .i64 c.bad], .int .i64 2] = some (.tup [.int .u64 ((numS 2 c).1 : Int), .agg [.str c.s, .int .i64 ((numS 2 c).2.at_ : Int), .int .i64 (numS 2 c).2.bad]]) := by
    simp only [F124, scOf_of h1 h2, Option.map_some, scD]
    rw [if_pos ⟨by omega, by omega⟩]
    show some (D.tup [.int .u64 ((numS 2 c).1 : Int), .agg [.str (numS 2 c).2.s, _, _]]) = _
    rw [i1]; rfl
   have f135 : ∀ e, F135 [.agg [.str c.s, .int .i64 (c.at_ : Int), .int .i64 c.bad], .int .i64 e] = some (.agg [.str c.s, .int .i64 (c.at_ : Int), .int .i64 e]) := fun e => by simp only [F135, scOf_of h1 h2, Option.map_some, scD]
   unfold rowS
   generalize numS 2 c = p at i1 i2 i3 f124 ⊢
   obtain ⟨n, ⟨s', a, b⟩⟩ := p
   simp only at i1 i2 i3 f124 ⊢
   subst i1
   have f107 : F107 [.agg [.str c.s, .int .i64 (a : Int), .int .i64 b]] = some (.int .i64 ((c.s.length : Int) - a)) := by simp only [F107, scOf_of' i2 h2, Option.map_some]
   have hw := u64i64 (n := n) (by simpa using i3)
   unfold dc125
   by_cases hb0 : b = 0
   ·have hb0' : (b = 0) = True := eq_true hb0
    by_cases hl : c.s.length - a < n
    ·have hl' : ((c.s.length : Int) - a < (n : Int)) = True := eq_true (by omega)
     simp only [↓go1, gB0, reduceIte, Nat.reduceEqDiff, Nat.reduceAdd, Nat.reduceSub, Nat.reduceLT, Nat.reduceLeDiff, put1_rd, put_rd, rd_zero, rd_succ, gB1, reduceCtorEq, res_cell, res_tc, ldD_agg, scD, hb0', hl', if_pos hl, f107, f124, f135, hw, if_false, callK_fun s107, callK_fun s124, callK_fun s135]
    ·have hl' : ((c.s.length : Int) - a < (n : Int)) = False := eq_false (by omega)
     have hwk : IntKind.i64.wrap ((a : Int) + (n : Int)) = ((a + n : Nat) : Int) := by rw [IntWalk.i64_in _ ⟨by omega, by omega⟩]; omega
     have c1 : ((0 : Int) ≤ ((a + n : Nat) : Int)) = True := eq_true (by omega)
     have c2 : (((a + n : Nat) : Int) ≤ (c.s.length : Int)) = True := eq_true (by omega)
     have c3 : ((0 : Int) ≤ (a : Int)) = True := eq_true (by omega)
     have c4 : ((a : Int) ≤ ((a + n : Nat) : Int)) = True := eq_true (by omega)
     have c5 : (((a + n : Nat) : Int)).toNat = a + n := by omega
     have c6 : ((a : Int)).toNat = a := by omega
     have c8 : a + n - a = n := by omega
     simp only [↓go1, gB0, reduceIte, Nat.reduceEqDiff, Nat.reduceAdd, Nat.reduceSub, Nat.reduceLT, Nat.reduceLeDiff, put1_rd, put_rd, rd_zero, rd_succ, gB1, reduceCtorEq, res_cell, res_tc, ldD_agg, scD, hb0', hl', if_neg hl, f107, f124, f135, hw, hwk, c1, c2, c3, c4, c5, c6, c8, if_false, callK_fun s107, callK_fun s124, callK_fun s135]
     refine Need.intro (feetB_ok rfl) ?_
     simp only [↓go1, gB0, reduceIte, Nat.reduceEqDiff, Nat.reduceAdd, Nat.reduceSub, Nat.reduceLT, Nat.reduceLeDiff, put1_rd, put_rd, rd_zero, rd_succ, gB1, reduceCtorEq, res_cell, res_tc, ldD_agg, scD, hb0', hl', if_neg hl, f107, f124, f135, hw, hwk, c1, c2, c3, c4, c5, c6, c8, if_false, callK_fun s107, callK_fun s124, callK_fun s135]
   ·have hb0' : (b = 0) = False := eq_false hb0
    simp only [↓go1, gB0, reduceIte, Nat.reduceEqDiff, Nat.reduceAdd, Nat.reduceSub, Nat.reduceLT, Nat.reduceLeDiff, put1_rd, put_rd, rd_zero, rd_succ, gB1, reduceCtorEq, res_cell, res_tc, ldD_agg, scD, hb0', f107, f124, f135, hw, if_true, callK_fun s107, callK_fun s124, callK_fun s135]
    refine Need.intro (feetB_ok rfl) ?_
    simp only [↓go1, gB0, reduceIte, Nat.reduceEqDiff, Nat.reduceAdd, Nat.reduceSub, Nat.reduceLT, Nat.reduceLeDiff, put1_rd, put_rd, rd_zero, rd_succ, gB1, reduceCtorEq, res_cell, res_tc, ldD_agg, scD, hb0', f107, f124, f135, hw, if_true, callK_fun s107, callK_fun s124, callK_fun s135]
  ·cases h
theorem ok85 {P : Program} (hb : DeskB P) : (funS F85).ok P 85 := by
 have hS : Summs.ok P (tabL [(106, funS F106), (107, funS F107)]) := tabL_cons (ok106 hb) (tabL_cons (ok107 hb) tabL_nil)
 have s106 : tabL [(106, funS F106), (107, funS F107)] 106 = some (funS F106) := rfl
 have s107 : tabL [(106, funS F106), (107, funS F107)] 107 = some (funS F107) := rfl
 generalize tabL [(106, funS F106), (107, funS F107)] = S at hS s106 s107
 refine fun_ok (S := S) hS hb.f85 (fun ds r h => ?_) (fun ds r h => ?_)
 ·unfold F85 at h; split at h
  ·simp
  ·cases h
 ·unfold F85 at h; split at h
  ·rename_i d
   rw [Option.map_eq_some_iff] at h
   obtain ⟨c, hc, rfl⟩ := h
   obtain ⟨rfl, h1, h2⟩ := scOf_inv hc
   have f106 : F106 [.agg [.str c.s, .int .i64 (c.at_ : Int), .int .i64 c.bad]] = some (.bool true) := by simp only [F106, scOf_of h1 h2, Option.map_some]
   have f107 : F107 [.agg [.str c.s, .int .i64 (c.at_ : Int), .int .i64 c.bad]] = some (.int .i64 ((c.s.length : Int) - c.at_)) := by simp only [F107, scOf_of h1 h2, Option.map_some]
   unfold dc85
   by_cases hb0 : c.bad = 0
   ·have hb0' : (c.bad = 0) = True := eq_true hb0
    by_cases hl : c.at_ < c.s.length
    ·have hl' : ((0 : Int) < (c.s.length : Int) - (c.at_ : Int)) = True := eq_true (by omega)
     simp only [↓go1, gB0, reduceIte, Nat.reduceEqDiff, Nat.reduceAdd, Nat.reduceSub, Nat.reduceLT, Nat.reduceLeDiff, put1_rd, put_rd, rd_zero, rd_succ, gB1, reduceCtorEq, res_cell, res_tc, ldD_agg, scD, hb0', hl', f106, f107, endS, if_pos hl, callK_fun s106, callK_fun s107]
    ·have hl' : ((0 : Int) < (c.s.length : Int) - (c.at_ : Int)) = False := eq_false (by omega)
     simp only [↓go1, gB0, reduceIte, Nat.reduceEqDiff, Nat.reduceAdd, Nat.reduceSub, Nat.reduceLT, Nat.reduceLeDiff, put1_rd, put_rd, rd_zero, rd_succ, gB1, reduceCtorEq, res_cell, res_tc, ldD_agg, scD, hb0', hl', f106, f107, endS, if_neg hl, callK_fun s106, callK_fun s107]
   ·have hb0' : (c.bad = 0) = False := eq_false hb0
    simp only [↓go1, gB0, reduceIte, Nat.reduceEqDiff, Nat.reduceAdd, Nat.reduceSub, Nat.reduceLT, Nat.reduceLeDiff, put1_rd, put_rd, rd_zero, rd_succ, gB1, reduceCtorEq, res_cell, res_tc, ldD_agg, scD, hb0', f106, f107, endS, callK_fun s106, callK_fun s107]
  ·cases h
theorem ok89 {P : Program} (hb : DeskB P) : (funS F85).ok P 89 := by
 have hS : Summs.ok P (tabL [(110, funS F106)]) := tabL_cons (ok110 hb) tabL_nil
 have s110 : tabL [(110, funS F106)] 110 = some (funS F106) := rfl
 generalize tabL [(110, funS F106)] = S at hS s110
 refine fun_ok (S := S) hS hb.f89 (fun ds r h => ?_) (fun ds r h => ?_)
 ·unfold F85 at h; split at h
  ·simp
  ·cases h
 ·unfold F85 at h; split at h
  ·rename_i d
   rw [Option.map_eq_some_iff] at h
   obtain ⟨c, hc, rfl⟩ := h
   obtain ⟨rfl, h1, h2⟩ := scOf_inv hc
   have f106 : F106 [.agg [.str c.s, .int .i64 (c.at_ : Int), .int .i64 c.bad]] = some (.bool true) := by simp only [F106, scOf_of h1 h2, Option.map_some]
   unfold dc89
   by_cases hb0 : c.bad = 0
   ·have hb0' : (c.bad = 0) = True := eq_true hb0
    by_cases hl : c.at_ < c.s.length
    ·have hl' : ((c.at_ : Int) = (c.s.length : Int)) = False := eq_false (by omega)
     simp only [↓go1, gB0, reduceIte, Nat.reduceEqDiff, Nat.reduceAdd, Nat.reduceSub, Nat.reduceLT, Nat.reduceLeDiff, put1_rd, put_rd, rd_zero, rd_succ, gB1, reduceCtorEq, res_cell, res_tc, ldD_agg, scD, hb0', hl', f106, endS, if_pos hl, callK_fun s110]
    ·have hl' : ((c.at_ : Int) = (c.s.length : Int)) = True := eq_true (by omega)
     simp only [↓go1, gB0, reduceIte, Nat.reduceEqDiff, Nat.reduceAdd, Nat.reduceSub, Nat.reduceLT, Nat.reduceLeDiff, put1_rd, put_rd, rd_zero, rd_succ, gB1, reduceCtorEq, res_cell, res_tc, ldD_agg, scD, hb0', hl', f106, endS, if_neg hl, callK_fun s110]
   ·have hb0' : (c.bad = 0) = False := eq_false hb0
    simp only [↓go1, gB0, reduceIte, Nat.reduceEqDiff, Nat.reduceAdd, Nat.reduceSub, Nat.reduceLT, Nat.reduceLeDiff, put1_rd, put_rd, rd_zero, rd_succ, gB1, reduceCtorEq, res_cell, res_tc, ldD_agg, scD, hb0', f106, endS, callK_fun s110]
  ·cases h
set_option maxHeartbeats 1000000 in
theorem loop108 {S : Summs} {s : Bs} {a k : Nat} (hk8 : k ≤ 8) (ha : a + k ≤ s.length) (hs : s.length ≤ 1000000) {M : Mem} (m0 : M [0] 0 = some (.str s)) (m1 : M [0] 1 = some (.int .i64 (a : Int))) {Q : Ex → St → Prop} (hexit : ∀ st, st.s 6 = .int .u64 (beN ((s.drop a).take k) : Int) → st.m = M → st.s 2 = .ptr [0] 0 → st.s 5 = .ptr [2] 0 → st.s 1 = .int .i64 (k : Int) → Q (.exit 0) st) :
  ∀ (n j : Nat) st g, n = k - j → j ≤ k → st.s 7 = .int .i64 (j : Int) → st.s 6 = .int .u64 (beN ((s.drop a).take j) : Int) → st.m = M → st.s 2 = .ptr [0] 0 → st.s 5 = .ptr [2] 0 → st.s 1 = .int .i64 (k : Int) → loopW S [] dc108l0 Q st g := by
 intro n
 induction n with
 | zero =>
  intro j st g hn hj h7 h6 hm h2 h5 h1
  refine wp_loopd dc108l0.eq_1 ?_
  have hlt : ((j : Int) < (k : Int)) = False := eq_false (by omega)
  obtain rfl : j = k := by omega
  simp only [↓go1, gB0, reduceIte, Nat.reduceEqDiff, Nat.reduceAdd, Nat.reduceSub, Nat.reduceLT, Nat.reduceLeDiff, put1_rd, put_rd, rd_zero, rd_succ, gB1, reduceCtorEq, res_cell, res_tc, ldD_agg, scD, h7, h1, hlt]
  exact hexit _ h6 hm h2 h5 h1
 | succ n ih =>
  intro j st g hn hj h7 h6 hm h2 h5 h1
  refine wp_loopd dc108l0.eq_1 ?_
  have hlt : ((j : Int) < (k : Int)) = True := eq_true (by omega)
  have hd : j < (s.drop a).length := by rw [List.length_drop]; omega
  have hw : IntKind.i64.wrap ((j : Int) + 1) = ((j + 1 : Nat) : Int) := by rw [IntWalk.i64_in _ ⟨by omega, by omega⟩]; omega
  have hwa : IntKind.i64.wrap ((a : Int) + (j : Int)) = ((a + j : Nat) : Int) := by rw [IntWalk.i64_in _ ⟨by omega, by omega⟩]; omega
  have hx : s[a + j]? = some (s.drop a)[j] := by
   rw [← List.getElem?_drop, List.getElem?_eq_getElem hd]
  have hb1 : ((s.drop a)[j]).toNat < 256 := UInt8.toNat_lt _
  have hlt2 : beN ((s.drop a).take j) < 72057594037927936 := by
   have h1 := beN_lt ((s.drop a).take j)
   have h2 : ((s.drop a).take j).length ≤ 7 := by simp; omega
   exact Nat.lt_of_lt_of_le h1 (pow_le h2)
  have hbt := beN_take hd
  generalize beN ((s.drop a).take j) = v at h6 hlt2 hbt
  have hw2 : IntKind.u64.wrap (((s.drop a)[j]).toNat : Int) = (((s.drop a)[j]).toNat : Int) := u64_small (by omega) (by omega)
  have hw3 : IntKind.u64.wrap (256 * (v : Int)) = 256 * (v : Int) := u64_small (by omega) (by omega)
  have hw4 : IntKind.u64.wrap (256 * (v : Int) + (((s.drop a)[j]).toNat : Int)) = ((256 * v + ((s.drop a)[j]).toNat : Nat) : Int) := by rw [u64_small (by omega) (by omega)]; omega
  have c1 : ((0 : Int) ≤ ((a + j : Nat) : Int)) := by omega
  have c2 : (((a + j : Nat) : Int)).toNat = a + j := by omega
  simp only [↓go1, gB0, reduceIte, Nat.reduceEqDiff, Nat.reduceAdd, Nat.reduceSub, Nat.reduceLT, Nat.reduceLeDiff, put1_rd, put_rd, rd_zero, rd_succ, gB1, reduceCtorEq, res_cell, res_tc, ldD_agg, scD, h7, h1, hlt, h6, hm, m0, m1, h2, hwa, hx, hw, hw2, hw3, hw4, c1, c2]
  refine ih (j + 1) _ _ (by omega) (by omega) rfl ?_ hm h2 h5 h1
  simp only [↓go1, gB0, reduceIte, Nat.reduceEqDiff, Nat.reduceAdd, Nat.reduceSub, Nat.reduceLT, Nat.reduceLeDiff, put1_rd, put_rd, rd_zero, rd_succ, gB1, reduceCtorEq, res_cell, res_tc, ldD_agg, scD, hbt]
set_option maxHeartbeats 2000000 in
theorem ok108 {P : Program} (hb : DeskB P) : (funS F124).ok P 108 := by
 have hS : Summs.ok P (tabL [(110, funS F106), (127, funS F135)]) := tabL_cons (ok110 hb) (tabL_cons (ok127 hb) tabL_nil)
 have s110 : tabL [(110, funS F106), (127, funS F135)] 110 = some (funS F106) := rfl
 have s127 : tabL [(110, funS F106), (127, funS F135)] 127 = some (funS F135) := rfl
 generalize tabL [(110, funS F106), (127, funS F135)] = S at hS s110 s127
 refine fun_ok (S := S) hS hb.f108 (fun ds r h => ?_) (fun ds r h => ?_)
 ·unfold F124 at h; split at h
  ·simp
  ·cases h
 ·unfold F124 at h; split at h
  ·rename_i d k
   split at h
   ·rename_i hk
    rw [Option.map_eq_some_iff] at h
    obtain ⟨⟨s, a, b⟩, hc, rfl⟩ := h
    obtain ⟨rfl, h1, h2⟩ := scOf_inv hc
    simp only at h1 h2
    have f106 : F106 [.agg [.str s, .int .i64 (a : Int), .int .i64 b]] = some (.bool true) := by simp only [F106, scOf_of' h1 h2, Option.map_some]
    have f135 : ∀ e, F135 [.agg [.str s, .int .i64 (a : Int), .int .i64 b], .int .i64 e] = some (.agg [.str s, .int .i64 (a : Int), .int .i64 e]) := fun e => by simp only [F135, scOf_of' h1 h2, Option.map_some, scD]
    have g1 : (k < 1) = False := eq_false (by omega)
    have g2 : ((8 : Int) < k) = False := eq_false (by omega)
    have hsub : IntKind.i64.wrap ((s.length : Int) - (a : Int)) = (s.length : Int) - (a : Int) := IntWalk.i64_in _ ⟨by omega, by omega⟩
    unfold dc108
    by_cases hb0 : b = 0
    ·have hb0' : (b = 0) = True := eq_true hb0
     by_cases hl : s.length - a < k.toNat
     ·have hl' : ((s.length : Int) - a < k) = True := eq_true (by omega)
      simp only [↓go1, gB0, reduceIte, Nat.reduceEqDiff, Nat.reduceAdd, Nat.reduceSub, Nat.reduceLT, Nat.reduceLeDiff, put1_rd, put_rd, rd_zero, rd_succ, gB1, reduceCtorEq, res_cell, res_tc, ldD_agg, scD, hb0', hl', g1, g2, hsub, f106, f135, numS, if_pos hl, callK_fun s110, callK_fun s127]
      rfl
     ·have hl' : ((s.length : Int) - a < k) = False := eq_false (by omega)
      have hwk : IntKind.i64.wrap ((a : Int) + k) = (a : Int) + k := IntWalk.i64_in _ ⟨by omega, by omega⟩
      have hif : (if ¬ b = 0 then ((0 : Nat), (⟨s, a, b⟩ : Sc)) else if s.length - a < k.toNat then (0, ⟨s, a, 3⟩) else (beN ((s.drop a).take k.toNat), ⟨s, a + k.toNat, b⟩)) = (beN ((s.drop a).take k.toNat), ⟨s, a + k.toNat, b⟩) := by
       rw [if_neg (by simp [hb0]), if_neg hl]
      have hkn : ((k.toNat : Nat) : Int) = k := by omega
      simp only [↓go1, gB0, reduceIte, Nat.reduceEqDiff, Nat.reduceAdd, Nat.reduceSub, Nat.reduceLT, Nat.reduceLeDiff, put1_rd, put_rd, rd_zero, rd_succ, gB1, reduceCtorEq, res_cell, res_tc, ldD_agg, scD, hb0', hl', g1, g2, hsub, f106, f135, numS, callK_fun s110, callK_fun s127]
      rw [hif]
      refine loop108 (s := s) (a := a) (k := k.toNat) (by omega) (by omega) h2 (M := (Mem.put (fun _ _ => none) [0] 0 [.str s, .int .i64 (a : Int), .int .i64 b]).put [2] 0 [.str [], .int .i64 0, .int .i64 0]) rfl rfl (fun st e6 em e2 e5 e1 => ?_) _ 0 _ _ rfl (by omega) rfl rfl rfl rfl rfl ?_
      ·have hcast : ((a + k.toNat : Nat) : Int) = (a : Int) + k := by omega
       have hfill : fillD [.str [], .int .i64 0, .int .i64 0] [(0, 1, .str s), (1, 1, .int .i64 ((a : Int) + k)), (2, 1, .int .i64 0)] = some [.str s, .int .i64 ((a : Int) + k), .int .i64 0] := rfl
       rw [hkn] at e1
       simp only [↓go1, gB0, reduceIte, Nat.reduceEqDiff, Nat.reduceAdd, Nat.reduceSub, Nat.reduceLT, Nat.reduceLeDiff, put1_rd, put_rd, rd_zero, rd_succ, gB1, reduceCtorEq, res_cell, res_tc, ldD_agg, scD, e6, em, e2, e5, e1, hwk, hb0, hcast, hfill, List.map_cons, List.map_nil]
       refine Need.intro (feetB_ok rfl) ?_
       simp only [↓go1, gB0, reduceIte, Nat.reduceEqDiff, Nat.reduceAdd, Nat.reduceSub, Nat.reduceLT, Nat.reduceLeDiff, put1_rd, put_rd, rd_zero, rd_succ, gB1, reduceCtorEq, res_cell, res_tc, ldD_agg, scD, e6, em, e2, e5, e1, hwk, hb0, hcast, hfill, List.map_cons, List.map_nil]
      ·simp only [↓go1, gB0, reduceIte, Nat.reduceEqDiff, Nat.reduceAdd, Nat.reduceSub, Nat.reduceLT, Nat.reduceLeDiff, put1_rd, put_rd, rd_zero, rd_succ, gB1, reduceCtorEq, res_cell, res_tc, ldD_agg, scD, hkn]
    ·have hb0' : (b = 0) = False := eq_false hb0
     simp only [↓go1, gB0, reduceIte, Nat.reduceEqDiff, Nat.reduceAdd, Nat.reduceSub, Nat.reduceLT, Nat.reduceLeDiff, put1_rd, put_rd, rd_zero, rd_succ, gB1, reduceCtorEq, res_cell, res_tc, ldD_agg, scD, hb0', f106, f135, numS, callK_fun s110, callK_fun s127]
     refine Need.intro (feetB_ok rfl) ?_
     simp only [↓go1, gB0, reduceIte, Nat.reduceEqDiff, Nat.reduceAdd, Nat.reduceSub, Nat.reduceLT, Nat.reduceLeDiff, put1_rd, put_rd, rd_zero, rd_succ, gB1, reduceCtorEq, res_cell, res_tc, ldD_agg, scD, hb0', f106, f135, numS, callK_fun s110, callK_fun s127]
     rfl
   ·cases h
  ·cases h
set_option maxHeartbeats 2000000 in
theorem ok109 {P : Program} (hb : DeskB P) : (funS F125).ok P 109 := by
 have hS : Summs.ok P (tabL [(108, funS F124), (127, funS F135)]) := tabL_cons (ok108 hb) (tabL_cons (ok127 hb) tabL_nil)
 have s108 : tabL [(108, funS F124), (127, funS F135)] 108 = some (funS F124) := rfl
 have s127 : tabL [(108, funS F124), (127, funS F135)] 127 = some (funS F135) := rfl
 generalize tabL [(108, funS F124), (127, funS F135)] = S at hS s108 s127
 refine fun_ok (S := S) hS hb.f109 (fun ds r h => ?_) (fun ds r h => ?_)
 ·unfold F125 at h; split at h
  ·simp
  ·cases h
 ·unfold F125 at h; split at h
  ·rename_i d
   rw [Option.map_eq_some_iff] at h
   obtain ⟨c, hc, rfl⟩ := h
   obtain ⟨rfl, h1, h2⟩ := scOf_inv hc
   obtain ⟨i1, i2, i3, _⟩ := numS_inv (k := 2) h1
   have f124 : F124 [.agg [.str c.s, .int .i64 (c.at_ : Int), .int .i64 c.bad], .int .i64 2] = some (.tup [.int .u64 ((numS 2 c).1 : Int), .agg [.str c.s, .int .i64 ((numS 2 c).2.at_ : Int), .int .i64 (numS 2 c).2.bad]]) := by
    simp only [F124, scOf_of h1 h2, Option.map_some, scD]
    rw [if_pos ⟨by omega, by omega⟩]
    show some (D.tup [.int .u64 ((numS 2 c).1 : Int), .agg [.str (numS 2 c).2.s, _, _]]) = _
    rw [i1]; rfl
   have f135 : ∀ e, F135 [.agg [.str c.s, .int .i64 (c.at_ : Int), .int .i64 c.bad], .int .i64 e] = some (.agg [.str c.s, .int .i64 (c.at_ : Int), .int .i64 e]) := fun e => by simp only [F135, scOf_of h1 h2, Option.map_some, scD]
   unfold rowS
   generalize numS 2 c = p at i1 i2 i3 f124 ⊢
   obtain ⟨n, ⟨s', a, b⟩⟩ := p
   simp only at i1 i2 i3 f124 ⊢
   subst i1
   have hw := u64i64 (n := n) (by simpa using i3)
   have hsub : IntKind.i64.wrap ((c.s.length : Int) - (a : Int)) = (c.s.length : Int) - (a : Int) := IntWalk.i64_in _ ⟨by omega, by omega⟩
   unfold dc109
   by_cases hb0 : b = 0
   ·have hb0' : (b = 0) = True := eq_true hb0
    by_cases hl : c.s.length - a < n
    ·have hl' : ((c.s.length : Int) - a < (n : Int)) = True := eq_true (by omega)
     simp only [↓go1, gB0, reduceIte, Nat.reduceEqDiff, Nat.reduceAdd, Nat.reduceSub, Nat.reduceLT, Nat.reduceLeDiff, put1_rd, put_rd, rd_zero, rd_succ, gB1, reduceCtorEq, res_cell, res_tc, ldD_agg, scD, hb0', hl', hsub, if_pos hl, f124, f135, hw, if_false, callK_fun s108, callK_fun s127]
    ·have hl' : ((c.s.length : Int) - a < (n : Int)) = False := eq_false (by omega)
     have hwk : IntKind.i64.wrap ((a : Int) + (n : Int)) = ((a + n : Nat) : Int) := by rw [IntWalk.i64_in _ ⟨by omega, by omega⟩]; omega
     have c1 : ((0 : Int) ≤ ((a + n : Nat) : Int)) = True := eq_true (by omega)
     have c2 : (((a + n : Nat) : Int) ≤ (c.s.length : Int)) = True := eq_true (by omega)
     have c3 : ((0 : Int) ≤ (a : Int)) = True := eq_true (by omega)
     have c4 : ((a : Int) ≤ ((a + n : Nat) : Int)) = True := eq_true (by omega)
     have c5 : (((a + n : Nat) : Int)).toNat = a + n := by omega
     have c6 : ((a : Int)).toNat = a := by omega
     have c8 : a + n - a = n := by omega
     have hfill : fillD [.str [], .int .i64 0, .int .i64 0] [(0, 1, .str c.s), (1, 1, .int .i64 ((a + n : Nat) : Int)), (2, 1, .int .i64 0)] = some [.str c.s, .int .i64 ((a + n : Nat) : Int), .int .i64 0] := rfl
     simp only [↓go1, gB0, reduceIte, Nat.reduceEqDiff, Nat.reduceAdd, Nat.reduceSub, Nat.reduceLT, Nat.reduceLeDiff, put1_rd, put_rd, rd_zero, rd_succ, gB1, reduceCtorEq, res_cell, res_tc, ldD_agg, scD, hb0', hl', hsub, if_neg hl, f124, f135, hw, hwk, c1, c2, c3, c4, c5, c6, c8, hfill, List.map_cons, List.map_nil, if_false, callK_fun s108, callK_fun s127]
     refine Need.intro (feetB_ok rfl) ?_
     simp only [↓go1, gB0, reduceIte, Nat.reduceEqDiff, Nat.reduceAdd, Nat.reduceSub, Nat.reduceLT, Nat.reduceLeDiff, put1_rd, put_rd, rd_zero, rd_succ, gB1, reduceCtorEq, res_cell, res_tc, ldD_agg, scD, hb0', hl', hsub, if_neg hl, f124, f135, hw, hwk, c1, c2, c3, c4, c5, c6, c8, hfill, List.map_cons, List.map_nil, if_false, callK_fun s108, callK_fun s127]
     rw [hb0]
   ·have hb0' : (b = 0) = False := eq_false hb0
    simp only [↓go1, gB0, reduceIte, Nat.reduceEqDiff, Nat.reduceAdd, Nat.reduceSub, Nat.reduceLT, Nat.reduceLeDiff, put1_rd, put_rd, rd_zero, rd_succ, gB1, reduceCtorEq, res_cell, res_tc, ldD_agg, scD, hb0', f124, f135, hw, if_true, callK_fun s108, callK_fun s127]
    refine Need.intro (feetB_ok rfl) ?_
    simp only [↓go1, gB0, reduceIte, Nat.reduceEqDiff, Nat.reduceAdd, Nat.reduceSub, Nat.reduceLT, Nat.reduceLeDiff, put1_rd, put_rd, rd_zero, rd_succ, gB1, reduceCtorEq, res_cell, res_tc, ldD_agg, scD, hb0', f124, f135, hw, if_true, callK_fun s108, callK_fun s127]
  ·cases h
end Go.Vd

namespace Go.Vd
open Go.RowKit
set_option maxRecDepth 10000
structure ScAt (m : Mem) (r : Id) (c : Sc) : Prop where
 c0 : m r 0 = some (.str c.s)
 c1 : m r 1 = some (.int .i64 (c.at_ : Int))
 c2 : m r 2 = some (.int .i64 c.bad)
 le : c.at_ ≤ c.s.length
 len : c.s.length ≤ 1000000
def scAt (m : Mem) (r : Id) : Option Sc :=
 match m r 0, m r 1, m r 2 with
 | some (.str s), some (.int .i64 a), some (.int .i64 b) => if 0 ≤ a ∧ a ≤ (s.length : Int) ∧ s.length ≤ 1000000 then some ⟨s, a.toNat, b⟩ else none
 | _, _, _ => none
theorem scAt_some {m : Mem} {r : Id} {c : Sc} (h : scAt m r = some c) : ScAt m r c := by
 unfold scAt at h
 split at h
 ·rename_i s a b h0 h1 h2
  split at h
  ·rename_i hc
   simp only [Option.some.injEq] at h
   subst h
   exact ⟨h0, by rw [h1]; simp only [Int.toNat_of_nonneg hc.1], h2, by simp only; omega, hc.2.2⟩
  ·cases h
 ·cases h
theorem ScAt.of {m : Mem} {r : Id} {c : Sc} (h : ScAt m r c) : scAt m r = some c := by
 unfold scAt
 rw [h.c0, h.c1, h.c2]
 have := h.le
 simp only
 rw [if_pos ⟨by omega, by omega, h.len⟩]; simp
def scU (r : Id) (c : Sc) : Upd := [(r, 0, [.str c.s, .int .i64 (c.at_ : Int), .int .i64 c.bad])]
theorem rowU_sc {S : Summs} {ns : Id} {n k : Nat} {ops l : List DOper} {s : Nat → D} {dst : Option Nat} {m : Mem} {K} {d : D} {r : Id} {c : Sc} : rowU S ns n ops l k s dst m K d (scU r c) = rowK S ns n ops l k (setS s dst d) (Upd.app m (scU r c)) K := rfl
theorem drawnU_sc {S : Summs} {ns : Id} {n k : Nat} {ops l : List DOper} {s : Nat → D} {dst : Option Nat} {m : Mem} {op : DOp} {K} {d : D} {r : Id} {c : Sc} : drawnU S ns n ops l k s dst m op K d (scU r c) = drawnK S ns n ops l k (setS s dst d) (Upd.app m (scU r c)) fun k' s' m' f => K k' s' m' ((rds S s m op, wlocs (scU r c)) :: f) := rfl
theorem put3_rd {m : Mem} {r i : Id} {a b c : D} {o : Nat} : m.put r 0 [a, b, c] i o = if i = r ∧ o = 0 then some a else if i = r ∧ o = 1 then some b else if i = r ∧ o = 2 then some c else m i o := by
 rw [put_rd]
 by_cases hi : i = r
 ·match o with
  | 0 => simp [hi]
  | 1 => simp [hi]
  | 2 => simp [hi]
  | o + 3 => rw [if_neg (by simp), if_neg (by simp), if_neg (by simp), if_neg (by simp)]
 ·simp [hi]
def tkQ (F : Sc → List D → Option (D × Sc)) : Summ where
 rd := fun ds _ => match ds with
  | .ptr r 0 :: _ => [(r, 0), (r, 1), (r, 2)]
  | _ => []
 ex := fun ds m _ => match ds with
  | .ptr r 0 :: rest => match scAt m r with
   | some c => (F c rest).map fun x => (x.1, scU r x.2)
   | none => none
  | _ => none
theorem tkQ_loc (F : Sc → List D → Option (D × Sc)) (ds : List D) (m m' : Mem) (fr : Id) (h : ∀ l ∈ (tkQ F).rd ds m, m l.1 l.2 = m' l.1 l.2) : (tkQ F).ex ds m fr = (tkQ F).ex ds m' fr := by
 simp only [tkQ] at h ⊢
 split
 ·rename_i r rest
  unfold scAt
  rw [h (r, 0) (by simp), h (r, 1) (by simp), h (r, 2) (by simp)]
 ·rfl
theorem tkQ_inv {F : Sc → List D → Option (D × Sc)} {ds : List D} {m : Mem} {fr : Id} {d : D} {u : Upd} (h : (tkQ F).ex ds m fr = some (d, u)) :
  ∃ r rest c c', ds = .ptr r 0 :: rest ∧ ScAt m r c ∧ F c rest = some (d, c') ∧ u = scU r c' := by
 simp only [tkQ] at h
 split at h
 ·rename_i r rest
  split at h
  ·rename_i c hc
   rw [Option.map_eq_some_iff] at h
   obtain ⟨⟨d', c'⟩, hF, h⟩ := h
   simp only [Prod.mk.injEq] at h
   exact ⟨r, rest, c, c', rfl, scAt_some hc, by rw [hF, ← h.1], h.2.symm⟩
  ·cases h
 ·cases h
theorem got_tk {F : Sc → List D → Option (D × Sc)} {m : Mem} {fr r : Id} {rest : List D} {c c' : Sc} {d : D} {K : D × Upd → Prop} {g} (h : ScAt m r c) (hF : F c rest = some (d, c')) (k : K (d, scU r c')) : Got ((tkQ F).ex (.ptr r 0 :: rest) m fr) K g := by
 refine Got.intro ?_ k
 simp only [tkQ, h.of, hF]; rfl
theorem ScAt.upd {m : Mem} {r : Id} {c : Sc} (h1 : c.at_ ≤ c.s.length) (h2 : c.s.length ≤ 1000000) : ScAt (Upd.app m (scU r c)) r c :=
 ⟨by simp [scU, Upd.app, put3_rd], by simp [scU, Upd.app, put3_rd], by simp [scU, Upd.app, put3_rd], h1, h2⟩
theorem ScAt.keep {m m' : Mem} {r : Id} {c : Sc} (h : ScAt m r c) (hm : ∀ o, m' r o = m r o) : ScAt m' r c := ⟨by rw [hm, h.c0], by rw [hm, h.c1], by rw [hm, h.c2], h.le, h.len⟩
theorem ScAt.nfr {m : Mem} {r fr : Id} {c : Sc} (h : ScAt m r c) (hfr : ∀ i o, fr <:+ i → m i o = none) : ¬ fr <:+ r := fun e => by have := h.c0; rw [hfr _ _ e] at this; cases this
structure Tk (fr r : Id) (m0 m : Mem) (c : Sc) : Prop where
 at_ : ScAt m r c
 out : ∀ i o, ¬ fr <:+ i → ¬ (i = r ∧ o < 3) → m i o = m0 i o
section
variable {fr r : Id} {m0 m : Mem} {c c' : Sc}
theorem Tk.start (h : ScAt m r c) : Tk fr r m m c := ⟨h, fun _ _ _ _ => rfl⟩
theorem Tk.upd (h : Tk fr r m0 m c) (h1 : c'.at_ ≤ c'.s.length) (h2 : c'.s.length ≤ 1000000) : Tk fr r m0 (Upd.app m (scU r c')) c' := by
 refine ⟨ScAt.upd h1 h2, fun i o hi ho => ?_⟩
 rw [← h.out i o hi ho]
 simp only [scU, Upd.app, put3_rd]
 rw [if_neg (fun e => ho ⟨e.1, by omega⟩), if_neg (fun e => ho ⟨e.1, by omega⟩), if_neg (fun e => ho ⟨e.1, by omega⟩)]
theorem Tk.setBad (h : Tk fr r m0 m c) {e : Int} : Tk fr r m0 (m.put r 2 [.int .i64 e]) { c with bad := e } := by
 refine ⟨⟨?_, ?_, ?_, h.at_.le, h.at_.len⟩, fun i o hi ho => ?_⟩
 ·simp [put1_rd, h.at_.c0]
 ·simp [put1_rd, h.at_.c1]
 ·simp [put1_rd]
 ·rw [← h.out i o hi ho, put1_rd, if_neg (fun e => ho ⟨e.1, by omega⟩)]
theorem Tk.mem (h : Tk fr r m0 m c) {m' : Mem} (hr : ¬ fr <:+ r) (hm : ∀ i o, ¬ fr <:+ i → m' i o = m i o) : Tk fr r m0 m' c :=
 ⟨h.at_.keep (fun o => hm r o hr), fun i o hi ho => (hm i o hi).trans (h.out i o hi ho)⟩
theorem Tk.fin (h : Tk fr r m0 m c) (hfr : ∀ i o, fr <:+ i → m0 i o = none) : ∀ i o x, Upd.app m0 (scU r c) i o = some x → m i o = some x := by
 intro i o x hx
 simp only [scU, Upd.app, put3_rd] at hx
 by_cases e0 : i = r ∧ o = 0
 ·rw [if_pos e0] at hx; rw [e0.1, e0.2, h.at_.c0]; exact hx
 ·rw [if_neg e0] at hx
  by_cases e1 : i = r ∧ o = 1
  ·rw [if_pos e1] at hx; rw [e1.1, e1.2, h.at_.c1]; exact hx
  ·rw [if_neg e1] at hx
   by_cases e2 : i = r ∧ o = 2
   ·rw [if_pos e2] at hx; rw [e2.1, e2.2, h.at_.c2]; exact hx
   ·rw [if_neg e2] at hx
    by_cases hf : fr <:+ i
    ·rw [hfr i o hf] at hx; cases hx
    ·rw [h.out i o hf (fun e => ?_)]
     ·exact hx
     ·match o with
      | 0 => exact e0 ⟨e.1, rfl⟩
      | 1 => exact e1 ⟨e.1, rfl⟩
      | 2 => exact e2 ⟨e.1, rfl⟩
      | o + 3 => omega
end
theorem rowS_inv {c : Sc} (h : c.at_ ≤ c.s.length) : (rowS c).2.s = c.s ∧ (rowS c).2.at_ ≤ c.s.length ∧ (rowS c).1.length ≤ 65535 ∧ ((rowS c).2.bad = 0 → c.bad = 0) := by
 obtain ⟨i1, i2, i3, i4⟩ := numS_inv (k := 2) h
 unfold rowS
 split
 ·exact ⟨i1, i2, by simp, i4⟩
 ·split
  ·exact ⟨rfl, h, by simp, fun e => by simp at e⟩
  ·rename_i h1 h2
   rw [i1] at h2 ⊢
   refine ⟨rfl, by simp only; omega, ?_, i4⟩
   simp only [List.length_take]
   have : (numS 2 c).1 < 65536 := by simpa using i3
   omega
theorem failS_inv {e : Int} {c : Sc} : (failS e c).s = c.s ∧ (failS e c).at_ = c.at_ := by
 unfold failS; split <;> exact ⟨rfl, rfl⟩
def F101 (c : Sc) : List D → Option (D × Sc)
 | [.int .i64 k] => if 1 ≤ k ∧ k ≤ 8 then some (.int .u64 ((numS k.toNat c).1 : Int), (numS k.toNat c).2) else none
 | _ => none
theorem ok101 {P : Program} (hb : DeskB P) : (tkQ F101).ok P 101 := by
 have hS : Summs.ok P (tabL [(124, funS F124)]) := tabL_cons (ok124 hb) tabL_nil
 have s124 : tabL [(124, funS F124)] 124 = some (funS F124) := rfl
 generalize tabL [(124, funS F124)] = S at hS s124
 refine opn_ok2 (S := S) hS hb.f101 (tkQ_loc _) (fun ds m fr d u h hfr => ?_)
 obtain ⟨r, rest, c, c', rfl, T, hF, rfl⟩ := tkQ_inv h
 unfold F101 at hF
 split at hF
 ·rename_i k
  split at hF
  ·rename_i hk
   simp only [Option.some.injEq, Prod.mk.injEq] at hF
   obtain ⟨rfl, rfl⟩ := hF
   refine ⟨by simp, ?_⟩
   clear h
   obtain ⟨c0, c1, c2, h1, h2⟩ := T
   obtain ⟨i1, i2, i3, _⟩ := numS_inv (k := k.toNat) h1
   have f124 : F124 [.agg [.str c.s, .int .i64 (c.at_ : Int), .int .i64 c.bad], .int .i64 k] = some (.tup [.int .u64 ((numS k.toNat c).1 : Int), .agg [.str (numS k.toNat c).2.s, .int .i64 ((numS k.toNat c).2.at_ : Int), .int .i64 (numS k.toNat c).2.bad]]) := by
    simp only [F124, scOf_of h1 h2, Option.map_some, scD]
    rw [if_pos ⟨by omega, by omega⟩]
   unfold dc101
   simp only [↓go1, gB0, reduceIte, Nat.reduceEqDiff, Nat.reduceAdd, Nat.reduceSub, Nat.reduceLT, Nat.reduceLeDiff, put1_rd, rd_zero, rd_succ, gB1, reduceCtorEq, ldD_agg, scD, List.append_nil, rowU_sc, drawnU_sc, c0, c1, c2, f124, callK_fun s124]
   exact fun i o x hx => hx
  ·cases hF
 ·cases hF
def F102 (c : Sc) : List D → Option (D × Sc)
 | [] => some (.str (rowS c).1, (rowS c).2)
 | _ => none
theorem ok102 {P : Program} (hb : DeskB P) : (tkQ F102).ok P 102 := by
 have hS : Summs.ok P (tabL [(125, funS F125)]) := tabL_cons (ok125 hb) tabL_nil
 have s125 : tabL [(125, funS F125)] 125 = some (funS F125) := rfl
 generalize tabL [(125, funS F125)] = S at hS s125
 refine opn_ok2 (S := S) hS hb.f102 (tkQ_loc _) (fun ds m fr d u h hfr => ?_)
 obtain ⟨r, rest, c, c', rfl, T, hF, rfl⟩ := tkQ_inv h
 unfold F102 at hF
 split at hF
 ·simp only [Option.some.injEq, Prod.mk.injEq] at hF
  obtain ⟨rfl, rfl⟩ := hF
  refine ⟨by simp, ?_⟩
  clear h
  obtain ⟨c0, c1, c2, h1, h2⟩ := T
  have f125 : F125 [.agg [.str c.s, .int .i64 (c.at_ : Int), .int .i64 c.bad]] = some (.tup [.str (rowS c).1, .agg [.str (rowS c).2.s, .int .i64 ((rowS c).2.at_ : Int), .int .i64 (rowS c).2.bad]]) := by
   simp only [F125, scOf_of h1 h2, Option.map_some, scD]
  unfold dc102
  simp only [↓go1, gB0, reduceIte, Nat.reduceEqDiff, Nat.reduceAdd, Nat.reduceSub, Nat.reduceLT, Nat.reduceLeDiff, put1_rd, rd_zero, rd_succ, gB1, reduceCtorEq, ldD_agg, scD, List.append_nil, rowU_sc, drawnU_sc, c0, c1, c2, f125, callK_fun s125]
  exact fun i o x hx => hx
 ·cases hF
def F105 (c : Sc) : List D → Option (D × Sc)
 | [.int .i64 e] => some (.tup [], failS e c)
 | _ => none
theorem ok105 {P : Program} (hb : DeskB P) : (tkQ F105).ok P 105 := by
 refine opn_ok2 (S := fun _ => none) none_ok hb.f105 (tkQ_loc _) (fun ds m fr d u h hfr => ?_)
 obtain ⟨r, rest, c, c', rfl, T, hF, rfl⟩ := tkQ_inv h
 unfold F105 at hF
 split at hF
 ·rename_i e
  simp only [Option.some.injEq, Prod.mk.injEq] at hF
  obtain ⟨rfl, rfl⟩ := hF
  refine ⟨by simp, ?_⟩
  clear h
  have T0 := Tk.start (fr := fr) T
  obtain ⟨c0, c1, c2, h1, h2⟩ := T
  unfold dc105
  by_cases hb0 : c.bad = 0
  ·have hb0' : (c.bad = 0) = True := eq_true hb0
   simp only [↓go1, gB0, reduceIte, Nat.reduceEqDiff, Nat.reduceAdd, Nat.reduceSub, Nat.reduceLT, Nat.reduceLeDiff, put1_rd, rd_zero, rd_succ, gB1, reduceCtorEq, ldD_agg, scD, List.append_nil, rowU_sc, drawnU_sc, c0, c1, c2, hb0']
   unfold failS
   rw [if_pos hb0]
   have := T0.setBad (e := e).fin hfr
   simpa only [put1_rd] using this
  ·have hb0' : (c.bad = 0) = False := eq_false hb0
   simp only [↓go1, gB0, reduceIte, Nat.reduceEqDiff, Nat.reduceAdd, Nat.reduceSub, Nat.reduceLT, Nat.reduceLeDiff, put1_rd, rd_zero, rd_succ, gB1, reduceCtorEq, ldD_agg, scD, List.append_nil, rowU_sc, drawnU_sc, c0, c1, c2, hb0']
   unfold failS
   rw [if_neg hb0]
   exact T0.fin hfr
 ·cases hF
def F126 (n : Nat) (c : Sc) : List D → Option (D × Sc)
 | [.int .i64 d] => if d = 4 - (n : Int) ∧ n ≤ 4 then some (.int .i64 ((countS n c).1 : Int), (countS n c).2) else none
 | _ => none
set_option maxHeartbeats 1000000 in
theorem ok126 {P : Program} (hb : DeskB P) (n : Nat) : (tkQ (F126 n)).ok P 126 := by
 have hS : Summs.ok P (tabL [(101, tkQ F101), (105, tkQ F105), (134, funS F134)]) := tabL_cons (ok101 hb) (tabL_cons (ok105 hb) (tabL_cons (ok134 hb) tabL_nil))
 have s101 : tabL [(101, tkQ F101), (105, tkQ F105), (134, funS F134)] 101 = some (tkQ F101) := rfl
 have s105 : tabL [(101, tkQ F101), (105, tkQ F105), (134, funS F134)] 105 = some (tkQ F105) := rfl
 have s134 : tabL [(101, tkQ F101), (105, tkQ F105), (134, funS F134)] 134 = some (funS F134) := rfl
 generalize tabL [(101, tkQ F101), (105, tkQ F105), (134, funS F134)] = S at hS s101 s105 s134
 refine opn_ok2 (S := S) hS hb.f126 (tkQ_loc _) (fun ds m fr d u h hfr => ?_)
 obtain ⟨r, rest, c, c', rfl, T, hF, rfl⟩ := tkQ_inv h
 unfold F126 at hF
 split at hF
 ·rename_i d
  split at hF
  ·rename_i hk
   simp only [Option.some.injEq, Prod.mk.injEq] at hF
   obtain ⟨rfl, rfl⟩ := hF
   refine ⟨by simp, ?_⟩
   clear h
   have T0 := Tk.start (fr := fr) T
   obtain ⟨c0, c1, c2, h1, h2⟩ := T
   have tail : ∀ (C0 : Sc) (M : Mem) (E0 : Int), Tk fr r m M C0 → True := fun _ _ _ _ => trivial
   unfold dc126
   by_cases hn : n = 0
   ·subst hn
    obtain rfl : d = 4 := by omega
    have g4 : ((4 : Int) ≤ 4) = True := eq_true (by omega)
    have f105 : F105 c [.int .i64 24] = some (.tup [], failS 24 c) := rfl
    have L0 : (failS 24 c).at_ ≤ (failS 24 c).s.length := by rw [failS_inv.1, failS_inv.2]; exact h1
    have L1 : (failS 24 c).s.length ≤ 1000000 := by rw [failS_inv.1]; exact h2
    have T1 := T0.upd L0 L1
    have f101 : F101 (failS 24 c) [.int .i64 1] = some (.int .u64 ((numS 1 (failS 24 c)).1 : Int), (numS 1 (failS 24 c)).2) := by
     simp only [F101]; rw [if_pos ⟨by omega, by omega⟩]; rfl
    have hbad : (failS 24 c).bad ≠ 0 := by unfold failS; split <;> simp_all
    have hnum : numS 1 (failS 24 c) = (0, failS 24 c) := by unfold numS; rw [if_pos hbad]
    rw [hnum] at f101
    simp only at f101
    have T2 := T1.upd L0 L1
    have hbad' : ((failS 24 c).bad = 0) = False := eq_false hbad
    have w0 : IntKind.i64.wrap ((0 : Nat) : Int) = ((0 : Nat) : Int) := by decide
    have f134 : F134 [.int .i64 4, .int .i64 ((0 : Nat) : Int)] = some (.int .i64 24) := rfl
    have hcs : countS 0 c = (0, failS 24 c) := by
     simp only [countS, if_true, hnum]; rw [if_neg (by simp [hbad])]
    rw [hcs]
    simp only [↓go1, gB0, reduceIte, Nat.reduceEqDiff, Nat.reduceAdd, Nat.reduceSub, Nat.reduceLT, Nat.reduceLeDiff, put1_rd, rd_zero, rd_succ, gB1, reduceCtorEq, ldD_agg, scD, List.append_nil, rowU_sc, drawnU_sc, g4, callK_fn s101, callK_fn s105, callK_fun s134]
    refine got_tk T0.at_ f105 ?_
    simp only [↓go1, gB0, reduceIte, Nat.reduceEqDiff, Nat.reduceAdd, Nat.reduceSub, Nat.reduceLT, Nat.reduceLeDiff, put1_rd, rd_zero, rd_succ, gB1, reduceCtorEq, ldD_agg, scD, List.append_nil, rowU_sc, drawnU_sc, callK_fn s101, callK_fn s105, callK_fun s134]
    refine got_tk T1.at_ f101 ?_
    simp only [↓go1, gB0, reduceIte, Nat.reduceEqDiff, Nat.reduceAdd, Nat.reduceSub, Nat.reduceLT, Nat.reduceLeDiff, put1_rd, rd_zero, rd_succ, gB1, reduceCtorEq, ldD_agg, scD, List.append_nil, rowU_sc, drawnU_sc, w0, f134, T2.at_.c2, hbad', callK_fn s101, callK_fn s105, callK_fun s134]
    exact T2.fin hfr
   ·have g4 : ((4 : Int) ≤ d) = False := eq_false (by omega)
    obtain ⟨i1, i2, i3, i4⟩ := numS_inv (k := 1) h1
    have f101 : F101 c [.int .i64 1] = some (.int .u64 ((numS 1 c).1 : Int), (numS 1 c).2) := by
     simp only [F101]; rw [if_pos ⟨by omega, by omega⟩]; rfl
    have T1 := T0.upd (c' := (numS 1 c).2) (by rw [i1]; exact i2) (by rw [i1]; exact h2)
    have hw : IntKind.i64.wrap ((numS 1 c).1 : Int) = ((numS 1 c).1 : Int) := u64i64 (by omega)
    have hcs : countS n c = ((numS 1 c).1, if (numS 1 c).2.bad = 0 ∧ (if 64 < (numS 1 c).1 then (5 : Int) else 0) ≠ 0 then failS (if 64 < (numS 1 c).1 then (5 : Int) else 0) (numS 1 c).2 else (numS 1 c).2) := by
     simp only [countS, if_neg hn]
    rw [hcs]
    simp only [↓go1, gB0, reduceIte, Nat.reduceEqDiff, Nat.reduceAdd, Nat.reduceSub, Nat.reduceLT, Nat.reduceLeDiff, put1_rd, rd_zero, rd_succ, gB1, reduceCtorEq, ldD_agg, scD, List.append_nil, rowU_sc, drawnU_sc, g4, callK_fn s101, callK_fn s105, callK_fun s134]
    refine got_tk T0.at_ f101 ?_
    rw [← i1] at h2
    have i2' : (numS 1 c).2.at_ ≤ (numS 1 c).2.s.length := by rw [i1]; exact i2
    generalize numS 1 c = p at i3 T1 hw i2' h2 ⊢
    obtain ⟨x, c3⟩ := p
    simp only at i3 T1 hw i2' h2 ⊢
    by_cases hx : 64 < x
    ·have f134 : F134 [.int .i64 d, .int .i64 (x : Int)] = some (.int .i64 5) := by
      simp only [F134]; rw [if_neg (by omega), if_pos (by omega)]
     by_cases hb0 : c3.bad = 0
     ·have hb0' : (c3.bad = 0) = True := eq_true hb0
      have f105 : F105 c3 [.int .i64 5] = some (.tup [], failS 5 c3) := rfl
      have h50 : ((5 : Int) = 0) = False := eq_false (by decide)
      have T2 := T1.upd (c' := failS 5 c3) (by rw [failS_inv.1, failS_inv.2]; exact i2') (by rw [failS_inv.1]; exact h2)
      simp only [↓go1, gB0, reduceIte, Nat.reduceEqDiff, Nat.reduceAdd, Nat.reduceSub, Nat.reduceLT, Nat.reduceLeDiff, put1_rd, rd_zero, rd_succ, gB1, reduceCtorEq, ldD_agg, scD, List.append_nil, rowU_sc, drawnU_sc, hw, f134, T1.at_.c2, hb0', hx, h50, callK_fn s101, callK_fn s105, callK_fun s134]
      refine got_tk T1.at_ f105 ?_
      simp only [↓go1, gB0, reduceIte, Nat.reduceEqDiff, Nat.reduceAdd, Nat.reduceSub, Nat.reduceLT, Nat.reduceLeDiff, put1_rd, rd_zero, rd_succ, gB1, reduceCtorEq, ldD_agg, scD, List.append_nil, rowU_sc, drawnU_sc, hw, f134, T1.at_.c2, hb0', hx, h50, callK_fn s101, callK_fn s105, callK_fun s134]
      exact T2.fin hfr
     ·have hb0' : (c3.bad = 0) = False := eq_false hb0
      simp only [↓go1, gB0, reduceIte, Nat.reduceEqDiff, Nat.reduceAdd, Nat.reduceSub, Nat.reduceLT, Nat.reduceLeDiff, put1_rd, rd_zero, rd_succ, gB1, reduceCtorEq, ldD_agg, scD, List.append_nil, rowU_sc, drawnU_sc, hw, f134, T1.at_.c2, hb0', callK_fn s101, callK_fn s105, callK_fun s134]
      exact T1.fin hfr
    ·have f134 : F134 [.int .i64 d, .int .i64 (x : Int)] = some (.int .i64 0) := by
      simp only [F134]; rw [if_neg (by omega), if_neg (by omega)]
     by_cases hb0 : c3.bad = 0
     ·have hb0' : (c3.bad = 0) = True := eq_true hb0
      simp only [↓go1, gB0, reduceIte, Nat.reduceEqDiff, Nat.reduceAdd, Nat.reduceSub, Nat.reduceLT, Nat.reduceLeDiff, put1_rd, rd_zero, rd_succ, gB1, reduceCtorEq, ldD_agg, scD, List.append_nil, rowU_sc, drawnU_sc, hw, f134, T1.at_.c2, hb0', if_neg hx, callK_fn s101, callK_fn s105, callK_fun s134]
      exact T1.fin hfr
     ·have hb0' : (c3.bad = 0) = False := eq_false hb0
      simp only [↓go1, gB0, reduceIte, Nat.reduceEqDiff, Nat.reduceAdd, Nat.reduceSub, Nat.reduceLT, Nat.reduceLeDiff, put1_rd, rd_zero, rd_succ, gB1, reduceCtorEq, ldD_agg, scD, List.append_nil, rowU_sc, drawnU_sc, hw, f134, T1.at_.c2, hb0', if_neg hx, callK_fn s101, callK_fn s105, callK_fun s134]
      exact T1.fin hfr
  ·cases hF
 ·cases hF
end Go.Vd

namespace Go.Vd
open Go.RowKit
set_option maxRecDepth 10000
mutual
def Tr.dat : Tr → D
 | .nil => .nilIface
 | .tr b => .iface 4 (.bool b)
 | .num n => .iface 86 (.int .u64 n)
 | .text s => .iface 9 (.str s)
 | .list l => .iface 99 (.slice false [] (Tr.datL l))
 | .pairs l => .iface 85 (.slice false [] (Tr.datP l))
def Tr.datL : List Tr → List D
 | [] => []
 | v :: r => Tr.dat v :: Tr.datL r
def Tr.datP : List (Bs × Tr) → List D
 | [] => []
 | (k, v) :: r => .agg [.str k, Tr.dat v] :: Tr.datP r
end
theorem datL_app : ∀ a b : List Tr, Tr.datL (a ++ b) = Tr.datL a ++ Tr.datL b
 | [], b => by simp [Tr.datL]
 | v :: r, b => by simp [Tr.datL, datL_app r b]
theorem datP_app : ∀ a b : List (Bs × Tr), Tr.datP (a ++ b) = Tr.datP a ++ Tr.datP b
 | [], b => by simp [Tr.datP]
 | (k, v) :: r, b => by simp [Tr.datP, datP_app r b]
theorem datL_len : ∀ a : List Tr, (Tr.datL a).length = a.length
 | [] => rfl
 | v :: r => by simp [Tr.datL, datL_len r]
theorem datP_len : ∀ a : List (Bs × Tr), (Tr.datP a).length = a.length
 | [] => rfl
 | (k, v) :: r => by simp [Tr.datP, datP_len r]
theorem datP_get : ∀ {a : List (Bs × Tr)} {k : Nat} (h : k < a.length), (Tr.datP a)[k]? = some (.agg [.str a[k].1, a[k].2.dat])
 | (x, v) :: r, 0, _ => rfl
 | (x, v) :: r, k + 1, h => by simpa [Tr.datP] using datP_get (a := r) (k := k) (by simpa using h)
theorem dat_cells : ∀ v : Tr, v.dat.un = v.dat ∧ v.dat.calm = true ∧ v.dat.cells = [v.dat] ∧ v.dat.data = true ∧ v.dat.calm1 = true ∧ v.dat.un1 = v.dat ∧ v.dat.leaf = true
 | .nil => ⟨rfl, rfl, rfl, rfl, rfl, rfl, rfl⟩
 | .tr _ => ⟨rfl, rfl, rfl, rfl, rfl, rfl, rfl⟩
 | .num _ => ⟨rfl, rfl, rfl, rfl, rfl, rfl, rfl⟩
 | .text _ => ⟨rfl, rfl, rfl, rfl, rfl, rfl, rfl⟩
 | .list _ => ⟨rfl, rfl, rfl, rfl, rfl, rfl, rfl⟩
 | .pairs _ => ⟨rfl, rfl, rfl, rfl, rfl, rfl, rfl⟩
def Stays (f : Sc → Tr × Sc) : Prop := ∀ c : Sc, c.at_ ≤ c.s.length → (f c).2.s = c.s ∧ (f c).2.at_ ≤ c.s.length
theorem countS_inv {n : Nat} {c : Sc} (h : c.at_ ≤ c.s.length) : (countS n c).2.s = c.s ∧ (countS n c).2.at_ ≤ c.s.length ∧ (countS n c).1 < 256 := by
 have h0 : (if n = 0 then failS 24 c else c).s = c.s ∧ (if n = 0 then failS 24 c else c).at_ = c.at_ := by
  split
  ·exact failS_inv
  ·exact ⟨rfl, rfl⟩
 have h1 : (if n = 0 then failS 24 c else c).at_ ≤ (if n = 0 then failS 24 c else c).s.length := by rw [h0.1, h0.2]; exact h
 obtain ⟨i1, i2, i3, _⟩ := numS_inv (k := 1) h1
 rw [h0.1] at i1 i2
 simp only [countS]
 generalize numS 1 (if n = 0 then failS 24 c else c) = p at i1 i2 i3 ⊢
 generalize (if n = 0 then (24 : Int) else if 64 < p.1 then 5 else 0) = e
 refine ⟨?_, ?_, by simpa using i3⟩
 ·split
  ·rw [failS_inv.1]; exact i1
  ·exact i1
 ·split
  ·rw [failS_inv.2]; exact i2
  ·exact i2
theorem countS_zero {c : Sc} : (countS 0 c).1 = 0 := by
 have hbad : (failS 24 c).bad ≠ 0 := by unfold failS; split <;> simp_all
 simp only [countS, if_true]
 unfold numS; rw [if_pos hbad]
theorem Stays.itemsL {f : Sc → Tr × Sc} (hf : Stays f) : ∀ (k : Nat) (acc : List Tr), Stays (itemsL f k acc)
 | 0, acc => fun c h => ⟨rfl, h⟩
 | k + 1, acc => fun c h => by
  unfold Go.Vd.itemsL
  split
  ·exact ⟨rfl, h⟩
  ·obtain ⟨e1, e2⟩ := hf c h
   obtain ⟨e3, e4⟩ := Stays.itemsL hf k (acc ++ [(f c).1]) (f c).2 (by rw [e1]; exact e2)
   exact ⟨e3.trans e1, by rw [e1] at e4; exact e4⟩
theorem Stays.namedL {f : Sc → Tr × Sc} (hf : Stays f) : ∀ (k : Nat) (acc : List (Bs × Tr)), Stays (namedL f k acc)
 | 0, acc => fun c h => ⟨rfl, h⟩
 | k + 1, acc => fun c h => by
  obtain ⟨r1, r2, _, _⟩ := rowS_inv h
  have h2 : (if lastB acc (rowS c).1 = true then failS 4 (rowS c).2 else (rowS c).2).s = c.s ∧ (if lastB acc (rowS c).1 = true then failS 4 (rowS c).2 else (rowS c).2).at_ ≤ c.s.length := by
   split
   ·rw [failS_inv.1, failS_inv.2]; exact ⟨r1, r2⟩
   ·exact ⟨r1, r2⟩
  unfold Go.Vd.namedL
  split
  ·exact ⟨rfl, h⟩
  ·simp only
   generalize (if lastB acc (rowS c).1 = true then failS 4 (rowS c).2 else (rowS c).2) = c2 at h2 ⊢
   split
   ·exact h2
   ·obtain ⟨e1, e2⟩ := hf c2 (by rw [h2.1]; exact h2.2)
    rw [h2.1] at e1 e2
    obtain ⟨e3, e4⟩ := Stays.namedL hf k (acc ++ [((rowS c).1, (f c2).1)]) (f c2).2 (by rw [e1]; exact e2)
    exact ⟨e3.trans e1, by rw [e1] at e4; exact e4⟩
theorem Stays.valS {f : Sc → Tr × Sc} (hf : Stays f) (n : Nat) : Stays (valS n f) := by
 intro c h
 obtain ⟨i1, i2, i3, _⟩ := numS_inv (k := 1) h
 have h1 : (numS 1 c).2.at_ ≤ (numS 1 c).2.s.length := by rw [i1]; exact i2
 simp only [Go.Vd.valS]
 generalize (numS 1 c) = p at i1 i2 i3 h1 ⊢
 obtain ⟨n8a, n8b, _, _⟩ := numS_inv (k := 8) h1
 obtain ⟨ra, rb, _, _⟩ := rowS_inv h1
 obtain ⟨ca, cb, _⟩ := countS_inv (n := n) h1
 have hc : (countS n p.2).2.at_ ≤ (countS n p.2).2.s.length := by rw [ca]; exact cb
 rw [i1] at n8a n8b ra rb ca cb
 split
 ·exact ⟨i1, i2⟩
 ·split
  ·exact ⟨i1, i2⟩
  ·split
   ·exact ⟨i1, i2⟩
   ·split
    ·exact ⟨i1, i2⟩
    ·split
     ·exact ⟨n8a, n8b⟩
     ·split
      ·exact ⟨ra, rb⟩
      ·split
       ·have := hf.itemsL (countS n p.2).1 [] _ hc
        rw [ca] at this; exact this
       ·split
        ·have := hf.namedL (countS n p.2).1 [] _ hc
         rw [ca] at this; exact this
        ·rw [failS_inv.1, failS_inv.2]; exact ⟨i1, i2⟩
def prevV : Nat → Sc → Tr × Sc
 | 0 => fun c => (.nil, c)
 | n + 1 => takeV n
theorem takeV_eq (n : Nat) : takeV n = valS n (prevV n) := by cases n <;> rfl
theorem Stays.takeV : ∀ n, Stays (takeV n)
 | 0 => Stays.valS (fun c h => ⟨rfl, h⟩) 0
 | n + 1 => Stays.valS (Stays.takeV n) (n + 1)
def Gf (fr : Id) (m : Mem) (c e : Nat) (t : Id) : Prop := ∃ j, t = j :: fr ∧ j < c ∧ m t 0 = some (.tok (e + 1))
section
variable {fr r : Id} {m m' : Mem} {c c' e j o : Nat} {t : Id} {ds xs : List D}
theorem Gf.grow (h : Gf fr m c e t) : Grow m e (.slice false t xs) := by
 obtain ⟨j, rfl, _, h⟩ := h
 exact .inr ⟨h, by simp⟩
theorem Gf.put (h : Gf fr m c e t) (hj : c ≤ j) : Gf fr (m.put (j :: fr) o ds) c e t := by
 obtain ⟨k, rfl, hk, h⟩ := h
 exact ⟨k, rfl, hk, by rw [Mem.put_other (by simp; omega)]; exact h⟩
theorem Gf.more (h : Gf fr m c e t) (hc : c ≤ c') : Gf fr m c' e t := by
 obtain ⟨k, a, b, d⟩ := h
 exact ⟨k, a, by omega, d⟩
theorem Gf.sc (h : Gf fr m c e t) (hr : ¬ fr <:+ r) {x : Sc} : Gf fr (Upd.app m (scU r x)) c e t := by
 obtain ⟨k, rfl, hk, h⟩ := h
 refine ⟨k, rfl, hk, ?_⟩
 have : k :: fr ≠ r := fun e => hr (e ▸ List.suffix_cons k fr)
 simp only [scU, Upd.app, put3_rd, this, false_and, if_false]; exact h
theorem Gf.new {e : Nat} {nl : Bool} (hc : j < c) : Gf fr (Upd.app m (growU e (j :: fr) (.slice nl t xs))) c e (j :: fr) :=
 ⟨j, rfl, hc, by rw [growU_rd, if_pos ⟨rfl, rfl⟩]⟩
theorem Tk.putF {x : Sc} {m0 : Mem} (h : Tk fr r m0 m x) (hr : ¬ fr <:+ r) : Tk fr r m0 (m.put (j :: fr) o ds) x :=
 h.mem hr (fun i o' hi => Mem.put_other (fun e => hi (e ▸ List.suffix_cons j fr)))
theorem Tk.growF {x : Sc} {m0 : Mem} {nl : Bool} (h : Tk fr r m0 m x) (hr : ¬ fr <:+ r) (ht : Gf fr m c e t) : Tk fr r m0 (Upd.app m (growU e (j :: fr) (.slice nl t xs))) x := by
 refine h.mem hr (fun i o' hi => ?_)
 obtain ⟨k, rfl, _, _⟩ := ht
 have n1 : i ≠ j :: fr := fun q => hi (q ▸ List.suffix_cons j fr)
 have n2 : i ≠ k :: fr := fun q => hi (q ▸ List.suffix_cons k fr)
 rw [growU_rd, if_neg (fun q => n1 q.1), if_neg (fun q => n2 q.2.1)]
end
set_option maxHeartbeats 2000000 in
theorem loop103 {S : Summs} {fr r : Id} {m0 : Mem} (hr : ¬ fr <:+ r) {f : Sc → Tr × Sc} (hf : Stays f) {N : Nat} (hN : N ≤ 255) {d : Int} (hd : 0 ≤ d ∧ d ≤ 4) (s84 : 0 < N → ∃ G, S 84 = some (tkQ G) ∧ ∀ c, G c [.int .i64 (d + 1)] = some ((f c).1.dat, (f c).2)) {c0 : Sc} {Q : Ex → St → Prop}
  (hret : ∀ st c', itemsL f N [] c0 = (.nil, c') → st.s 4 = .nilIface → Tk fr r m0 st.m c' → Q .ret st)
  (hexit : ∀ st c' acc t, itemsL f N [] c0 = (.list acc, c') → st.s 6 = .slice false t (Tr.datL acc) → Tk fr r m0 st.m c' → Q (.exit 0) st) :
  ∀ (k i : Nat) (acc : List Tr) (c : Sc) (t : Id) st g, i + k = N → acc.length = i → itemsL f N [] c0 = itemsL f k acc c → st.s 12 = .int .i64 (i : Int) → st.s 11 = .int .i64 (N : Int) → st.s 0 = .ptr r 0 → st.s 1 = .int .i64 d → st.s 6 = .slice false t (Tr.datL acc) → Tk fr r m0 st.m c → Gf fr st.m st.c 20 t →
   loopW S fr dc103l0 Q st g := by
 intro k
 induction k with
 | zero =>
  intro i acc c t st g hik hacc he h12 h11 h0 h1 h6 T G
  refine wp_loopd dc103l0.eq_1 ?_
  have hlt : ((i : Int) < (N : Int)) = False := eq_false (by omega)
  simp only [↓go1, gB0, reduceIte, Nat.reduceEqDiff, Nat.reduceAdd, Nat.reduceSub, Nat.reduceLT, Nat.reduceLeDiff, rd_zero, rd_succ, gB1, reduceCtorEq, ldD_agg, List.append_nil, rowU_sc, drawnU_sc, data_if, cells_if, un_if, calm_if, calm1_if, data_ni, cells_ni, un_ni, calm_ni, calm1_ni, h12, h11, hlt]
  exact hexit _ c acc t he h6 T
 | succ k ih =>
  intro i acc c t st g hik hacc he h12 h11 h0 h1 h6 T G
  refine wp_loopd dc103l0.eq_1 ?_
  have hlt : ((i : Int) < (N : Int)) = True := eq_true (by omega)
  have hw : IntKind.i64.wrap ((i : Int) + 1) = ((i + 1 : Nat) : Int) := by rw [IntWalk.i64_in _ ⟨by omega, by omega⟩]; omega
  have hwd : IntKind.i64.wrap (d + 1) = d + 1 := IntWalk.i64_in _ ⟨by omega, by omega⟩
  obtain ⟨G84, s84, g84⟩ := s84 (by omega)
  by_cases hb0 : c.bad = 0
  ·have hb0' : (c.bad = 0) = True := eq_true hb0
   have he2 : itemsL f N [] c0 = itemsL f k (acc ++ [(f c).1]) (f c).2 := by
    rw [he]; simp only [itemsL]; rw [if_neg (by simp [hb0])]
   obtain ⟨e1, e2⟩ := hf c T.at_.le
   have T1 := T.upd (c' := (f c).2) (by rw [e1]; exact e2) (by rw [e1]; exact T.at_.len)
   have G1 := G.sc (r := r) (x := (f c).2) hr
   simp only [↓go1, gB0, reduceIte, Nat.reduceEqDiff, Nat.reduceAdd, Nat.reduceSub, Nat.reduceLT, Nat.reduceLeDiff, rd_zero, rd_succ, gB1, reduceCtorEq, ldD_agg, List.append_nil, rowU_sc, drawnU_sc, data_if, cells_if, un_if, calm_if, calm1_if, data_ni, cells_ni, un_ni, calm_ni, calm1_ni, h12, h11, h0, h1, h6, hlt, hw, hwd, T.at_.c2, hb0', callK_fn s84]
   refine got_tk T.at_ (g84 c) ?_
   obtain ⟨u1, u2, u3, u4, _, _, _⟩ := dat_cells (f c).1
   simp only [↓go1, gB0, reduceIte, Nat.reduceEqDiff, Nat.reduceAdd, Nat.reduceSub, Nat.reduceLT, Nat.reduceLeDiff, rd_zero, rd_succ, gB1, reduceCtorEq, ldD_agg, List.append_nil, rowU_sc, drawnU_sc, data_if, cells_if, un_if, calm_if, calm1_if, data_ni, cells_ni, un_ni, calm_ni, calm1_ni, h12, h11, h0, h1, h6, hlt, hw, hwd, T.at_.c2, hb0', u1, u2, u3, u4, callK_fn s84]
   have G2 : Gf fr ((Upd.app st.m (scU r (f c).2)).put ((st.c + 1 + 6 + 5) :: fr) 0 [.tok 21]) st.c 20 t := G1.put (by omega)
   refine Need.intro ⟨by rw [datL_len]; omega, by simp [D.headSz, u3], G2.grow⟩ ?_
   simp only [↓go1, gB0, reduceIte, Nat.reduceEqDiff, Nat.reduceAdd, Nat.reduceSub, Nat.reduceLT, Nat.reduceLeDiff, rd_zero, rd_succ, gB1, reduceCtorEq, ldD_agg, List.append_nil, rowU_sc, drawnU_sc, data_if, cells_if, un_if, calm_if, calm1_if, data_ni, cells_ni, un_ni, calm_ni, calm1_ni, h12, h11, h0, h1, h6, hlt, hw, hwd, T.at_.c2, hb0', u1, u2, u3, u4, callK_fn s84]
   refine ih (i + 1) (acc ++ [(f c).1]) (f c).2 ((st.c + 1 + 6 + 6) :: fr) _ _ (by omega) (by simp; omega) he2 rfl h11 h0 h1 ?_ ?_ (Gf.new (by simp only; omega))
   ·rw [datL_app]; rfl
   ·exact Tk.growF (Tk.putF T1 hr) hr G2
  ·have hb0' : (c.bad = 0) = False := eq_false hb0
   have he2 : itemsL f N [] c0 = (.nil, c) := by
    rw [he]; simp only [itemsL]; rw [if_pos hb0]
   simp only [↓go1, gB0, reduceIte, Nat.reduceEqDiff, Nat.reduceAdd, Nat.reduceSub, Nat.reduceLT, Nat.reduceLeDiff, rd_zero, rd_succ, gB1, reduceCtorEq, ldD_agg, List.append_nil, rowU_sc, drawnU_sc, data_if, cells_if, un_if, calm_if, calm1_if, data_ni, cells_ni, un_ni, calm_ni, calm1_ni, h12, h11, h0, h1, h6, hlt, hw, hwd, T.at_.c2, hb0']
   exact hret _ c he2 rfl T
def F103 (n : Nat) (c : Sc) : List D → Option (D × Sc)
 | [.int .i64 d] => if d = 4 - (n : Int) ∧ n ≤ 4 then some ((itemsS n (prevV n) c).1.dat, (itemsS n (prevV n) c).2) else none
 | _ => none
def Fval (n : Nat) (c : Sc) : List D → Option (D × Sc)
 | [.int .i64 d] => if d = 4 - (n : Int) ∧ n ≤ 4 then some ((takeV n c).1.dat, (takeV n c).2) else none
 | _ => none
set_option maxHeartbeats 1000000 in
theorem ok103 {P : Program} (hb : DeskB P) (n : Nat) (h84 : n = 0 ∨ ∃ k, n = k + 1 ∧ (tkQ (Fval k)).ok P 84) : (tkQ (F103 n)).ok P 103 := by
 have hS : ∃ S : Summs, Summs.ok P S ∧ S 126 = some (tkQ (F126 n)) ∧ ∀ k, n = k + 1 → S 84 = some (tkQ (Fval k)) := by
  rcases h84 with rfl | ⟨k, rfl, h⟩
  ·exact ⟨tabL [(126, tkQ (F126 0))], tabL_cons (ok126 hb 0) tabL_nil, rfl, fun k e => by cases e⟩
  ·exact ⟨tabL [(126, tkQ (F126 (k + 1))), (84, tkQ (Fval k))], tabL_cons (ok126 hb (k + 1)) (tabL_cons h tabL_nil), rfl, fun k' e => by cases e; rfl⟩
 obtain ⟨S, hS, s126, s84⟩ := hS
 refine opn_ok2 (S := S) hS hb.f103 (tkQ_loc _) (fun ds m fr d u h hfr => ?_)
 obtain ⟨r, rest, c, c', rfl, T, hF, rfl⟩ := tkQ_inv h
 unfold F103 at hF
 split at hF
 ·rename_i d
  split at hF
  ·rename_i hk
   simp only [Option.some.injEq, Prod.mk.injEq] at hF
   obtain ⟨rfl, rfl⟩ := hF
   refine ⟨by simp, ?_⟩
   clear h
   have hr := T.nfr hfr
   have T0 := Tk.start (fr := fr) T
   have f126 : F126 n c [.int .i64 d] = some (.int .i64 ((countS n c).1 : Int), (countS n c).2) := if_pos hk
   obtain ⟨i1, i2, i3⟩ := countS_inv (n := n) T.le
   have T1 := T0.upd (c' := (countS n c).2) (by rw [i1]; exact i2) (by rw [i1]; exact T.len)
   have hz : n = 0 → (countS n c).1 = 0 := fun e => by rw [e]; exact countS_zero
   have hf : Stays (prevV n) := by
    cases n with
    | zero => exact fun c h => ⟨rfl, h⟩
    | succ n => exact Stays.takeV n
   unfold itemsS
   unfold dc103
   simp only [↓go1, gB0, reduceIte, Nat.reduceEqDiff, Nat.reduceAdd, Nat.reduceSub, Nat.reduceLT, Nat.reduceLeDiff, rd_zero, rd_succ, gB1, reduceCtorEq, ldD_agg, List.append_nil, rowU_sc, drawnU_sc, data_if, cells_if, un_if, calm_if, calm1_if, data_ni, cells_ni, un_ni, calm_ni, calm1_ni, callK_fn s126]
   refine got_tk T f126 ?_
   simp only [↓go1, gB0, reduceIte, Nat.reduceEqDiff, Nat.reduceAdd, Nat.reduceSub, Nat.reduceLT, Nat.reduceLeDiff, rd_zero, rd_succ, gB1, reduceCtorEq, ldD_agg, List.append_nil, rowU_sc, drawnU_sc, data_if, cells_if, un_if, calm_if, calm1_if, data_ni, cells_ni, un_ni, calm_ni, calm1_ni, callK_fn s126]
   generalize (countS n c) = q at i1 i2 i3 T1 hz ⊢
   refine loop103 (m0 := m) (c0 := q.2) (N := q.1) hr hf (by omega) (d := d) (by omega) (fun hp => ?_) (fun st c' e h4 T' => ?_) (fun st c' acc t e h6 T' => ?_) q.1 0 [] q.2 (5 :: fr) _ _ (by omega) rfl rfl rfl rfl rfl rfl rfl ?_ ?_
   ·cases n with
    | zero => have := hz rfl; omega
    | succ k => exact ⟨Fval k, s84 k rfl, fun c => if_pos ⟨by omega, by omega⟩⟩
   ·rw [e]
    simp only [↓go1, gB0, reduceIte, Nat.reduceEqDiff, Nat.reduceAdd, Nat.reduceSub, Nat.reduceLT, Nat.reduceLeDiff, rd_zero, rd_succ, gB1, reduceCtorEq, ldD_agg, List.append_nil, rowU_sc, drawnU_sc, data_if, cells_if, un_if, calm_if, calm1_if, data_ni, cells_ni, un_ni, calm_ni, calm1_ni, h4, Tr.dat]
    exact T'.fin hfr
   ·rw [e]
    simp only [↓go1, gB0, reduceIte, Nat.reduceEqDiff, Nat.reduceAdd, Nat.reduceSub, Nat.reduceLT, Nat.reduceLeDiff, rd_zero, rd_succ, gB1, reduceCtorEq, ldD_agg, List.append_nil, rowU_sc, drawnU_sc, data_if, cells_if, un_if, calm_if, calm1_if, data_ni, cells_ni, un_ni, calm_ni, calm1_ni, h6, Tr.dat]
    exact T'.fin hfr
   ·exact Tk.putF T1 hr
   ·exact ⟨5, rfl, by simp only; omega, by simp [put_tok]⟩
  ·cases hF
 ·cases hF
end Go.Vd

namespace Go.Vd
open Go.RowKit
set_option maxRecDepth 10000
theorem sc_rd {m : Mem} {r i : Id} {c : Sc} {o : Nat} (h : i ≠ r) : Upd.app m (scU r c) i o = m i o := by
 simp only [scU, Upd.app, put3_rd, h, false_and, if_false]
theorem lastB_get {acc : List (Bs × Tr)} {s : Bs} {i : Nat} (h : acc.length = i + 1) : lastB acc s = !(Op.bytesLess (acc[i]'(by omega)).1 s) := by
 unfold lastB
 have e : acc.length - 1 = i := by omega
 rw [List.getLast?_eq_getElem?, e, List.getElem?_eq_getElem (by omega)]
set_option maxHeartbeats 4000000 in
theorem loop104 {S : Summs} {fr r : Id} {m0 : Mem} (hr : ¬ fr <:+ r) {f : Sc → Tr × Sc} (hf : Stays f) {N : Nat} (hN : N ≤ 255) {d : Int} (hd : 0 ≤ d ∧ d ≤ 4) (s102 : S 102 = some (tkQ F102)) (s105 : S 105 = some (tkQ F105)) (s84 : 0 < N → ∃ G, S 84 = some (tkQ G) ∧ ∀ c, G c [.int .i64 (d + 1)] = some ((f c).1.dat, (f c).2)) {c0 : Sc} {Q : Ex → St → Prop}
  (hret : ∀ st c', namedL f N [] c0 = (.nil, c') → st.s 4 = .nilIface → Tk fr r m0 st.m c' → Q .ret st)
  (hexit : ∀ st c' acc t, namedL f N [] c0 = (.pairs acc, c') → st.s 6 = .slice false t (Tr.datP acc) → Tk fr r m0 st.m c' → Q (.exit 0) st) :
  ∀ (k i : Nat) (acc : List (Bs × Tr)) (c : Sc) (t : Id) st g, i + k = N → acc.length = i → namedL f N [] c0 = namedL f k acc c → st.s 14 = .int .i64 (i : Int) → st.s 13 = .int .i64 (N : Int) → st.s 0 = .ptr r 0 → st.s 1 = .int .i64 d → st.s 6 = .slice false t (Tr.datP acc) → Tk fr r m0 st.m c → Gf fr st.m st.c 82 t →
   loopW S fr dc104l0 Q st g := by
 intro k
 induction k with
 | zero =>
  intro i acc c t st g hik hacc he h14 h13 h0 h1 h6 T G
  refine wp_loopd dc104l0.eq_1 ?_
  have hlt : ((i : Int) < (N : Int)) = False := eq_false (by omega)
  simp only [↓go1, gB0, reduceIte, Nat.reduceEqDiff, Nat.reduceAdd, Nat.reduceSub, Nat.reduceLT, Nat.reduceLeDiff, rd_zero, rd_succ, gB1, reduceCtorEq, ldD_agg, List.append_nil, rowU_sc, drawnU_sc, data_if, cells_if, un_if, calm_if, calm1_if, data_ni, cells_ni, un_ni, calm_ni, calm1_ni, h14, h13, hlt]
  exact hexit _ c acc t he h6 T
 | succ k ih =>
  intro i acc c t st g hik hacc he h14 h13 h0 h1 h6 T G
  refine wp_loopd dc104l0.eq_1 ?_
  have hlt : ((i : Int) < (N : Int)) = True := eq_true (by omega)
  have hw : IntKind.i64.wrap ((i : Int) + 1) = ((i + 1 : Nat) : Int) := by rw [IntWalk.i64_in _ ⟨by omega, by omega⟩]; omega
  have hwd : IntKind.i64.wrap (d + 1) = d + 1 := IntWalk.i64_in _ ⟨by omega, by omega⟩
  obtain ⟨G84, s84, g84⟩ := s84 (by omega)
  by_cases hb0 : c.bad = 0
  ·have hb0' : (c.bad = 0) = True := eq_true hb0
   have f102 : F102 c [] = some (.str (rowS c).1, (rowS c).2) := rfl
   obtain ⟨r1, r2, r3, r4⟩ := rowS_inv T.at_.le
   have hfill : ∀ s, fillD [.str [], .nilIface] [(0, 1, .str s)] = some [.str s, .nilIface] := fun s => rfl
   have he2 : namedL f N [] c0 = (if (if lastB acc (rowS c).1 = true then failS 4 (rowS c).2 else (rowS c).2).bad ≠ 0 then (.nil, if lastB acc (rowS c).1 = true then failS 4 (rowS c).2 else (rowS c).2) else namedL f k (acc ++ [((rowS c).1, (f (if lastB acc (rowS c).1 = true then failS 4 (rowS c).2 else (rowS c).2)).1)]) (f (if lastB acc (rowS c).1 = true then failS 4 (rowS c).2 else (rowS c).2)).2) := by
    rw [he]; simp only [namedL]; rw [if_neg (by simp [hb0])]
   have T1 := T.upd (c' := (rowS c).2) (by rw [r1]; exact r2) (by rw [r1]; exact T.at_.len)
   simp only [↓go1, gB0, reduceIte, Nat.reduceEqDiff, Nat.reduceAdd, Nat.reduceSub, Nat.reduceLT, Nat.reduceLeDiff, rd_zero, rd_succ, gB1, reduceCtorEq, ldD_agg, List.append_nil, rowU_sc, drawnU_sc, data_if, cells_if, un_if, calm_if, calm1_if, data_ni, cells_ni, un_ni, calm_ni, calm1_ni, h14, h13, h0, h1, h6, hlt, hw, hwd, T.at_.c2, hb0', callK_fn s102, callK_fn s105, callK_fn s84]
   refine got_tk T.at_ f102 ?_
   have hl2 : (rowS c).2.at_ ≤ (rowS c).2.s.length := by rw [r1]; exact r2
   have hl3 : (rowS c).2.s.length ≤ 1000000 := by rw [r1]; exact T.at_.len
   generalize rowS c = q at r1 r2 r3 r4 he2 T1 hl2 hl3 ⊢
   obtain ⟨s, c1⟩ := q
   simp only at r1 r2 r3 r4 he2 T1 hl2 hl3 ⊢
   have hA : (st.c + 1 + 2 + 6 + 3) :: fr ≠ r := fun e => hr (e ▸ List.suffix_cons _ fr)
   have hAr : ∀ m x o, Upd.app m (scU r x) ((st.c + 1 + 2 + 6 + 3) :: fr) o = m ((st.c + 1 + 2 + 6 + 3) :: fr) o := fun m x o => sc_rd hA
   have hr2 : (r = (st.c + 1 + 2 + 6 + 3) :: fr) = False := eq_false (fun e => hA e.symm)
   have G1 := G.sc (r := r) (x := c1) hr
   have T2 : Tk fr r m0 (((Upd.app st.m (scU r c1)).put ((st.c + 1 + 2 + 6 + 3) :: fr) 0 [.str [], .nilIface]).put ((st.c + 1 + 2 + 6 + 3) :: fr) 0 [.str s, .nilIface]) c1 := Tk.putF (Tk.putF T1 hr) hr
   have G2 : Gf fr (((Upd.app st.m (scU r c1)).put ((st.c + 1 + 2 + 6 + 3) :: fr) 0 [.str [], .nilIface]).put ((st.c + 1 + 2 + 6 + 3) :: fr) 0 [.str s, .nilIface]) st.c 82 t := (G1.put (by omega)).put (by omega)
   by_cases hlast : lastB acc s = true
   ·obtain ⟨i', rfl⟩ : ∃ i', i = i' + 1 := by
     cases i with
     | zero => rw [List.eq_nil_of_length_eq_zero hacc] at hlast; simp [lastB] at hlast
     | succ i => exact ⟨i, rfl⟩
    have hcmp := lastB_get (s := s) hacc
    rw [hlast] at hcmp
    simp only [hlast, if_true] at he2
    have hgt : ((0 : Int) < ((i' + 1 : Nat) : Int)) = True := eq_true (by omega)
    have hwm : IntKind.i64.wrap (((i' + 1 : Nat) : Int) - 1) = (i' : Int) := by rw [IntWalk.i64_in _ ⟨by omega, by omega⟩]; omega
    have hi0 : ((0 : Int) ≤ (i' : Int)) := by omega
    have hx : (Tr.datP acc)[((i' : Int)).toNat]? = some (.agg [.str (acc[i']'(by omega)).1, (acc[i']'(by omega)).2.dat]) := by
     rw [Int.toNat_natCast]; exact datP_get (by omega)
    simp only [↓go1, gB0, reduceIte, Nat.reduceEqDiff, Nat.reduceAdd, Nat.reduceSub, Nat.reduceLT, Nat.reduceLeDiff, rd_zero, rd_succ, gB1, reduceCtorEq, ldD_agg, List.append_nil, rowU_sc, drawnU_sc, data_if, cells_if, un_if, calm_if, calm1_if, data_ni, cells_ni, un_ni, calm_ni, calm1_ni, h14, h13, h0, h1, h6, hlt, hw, hwd, hfill, hr2, put2_rd, T1.at_.c2, hgt, hwm, hi0, hx, v_sgeq, ← hcmp, List.map_cons, List.map_nil, callK_fn s102, callK_fn s105, callK_fn s84]
    refine Need.intro (fun p hp => by cases hp) ?_
    simp only [↓go1, gB0, reduceIte, Nat.reduceEqDiff, Nat.reduceAdd, Nat.reduceSub, Nat.reduceLT, Nat.reduceLeDiff, rd_zero, rd_succ, gB1, reduceCtorEq, ldD_agg, List.append_nil, rowU_sc, drawnU_sc, data_if, cells_if, un_if, calm_if, calm1_if, data_ni, cells_ni, un_ni, calm_ni, calm1_ni, h14, h13, h0, h1, h6, hlt, hw, hwd, hfill, hr2, put2_rd, put1_rd, T1.at_.c2, hAr, v_sgeq, List.map_cons, List.map_nil, callK_fn s102, callK_fn s105, callK_fn s84, hgt, hwm, hi0, hx, ← hcmp]
    have f105 : F105 c1 [.int .i64 4] = some (.tup [], failS 4 c1) := rfl
    have hfb : (failS 4 c1).bad ≠ 0 := by unfold failS; split <;> simp_all
    have hfb' : ((failS 4 c1).bad = 0) = False := eq_false hfb
    have T3 := T2.upd (c' := failS 4 c1) (by rw [failS_inv.1, failS_inv.2]; exact hl2) (by rw [failS_inv.1]; exact hl3)
    refine got_tk T2.at_ f105 ?_
    simp only [↓go1, gB0, reduceIte, Nat.reduceEqDiff, Nat.reduceAdd, Nat.reduceSub, Nat.reduceLT, Nat.reduceLeDiff, rd_zero, rd_succ, gB1, reduceCtorEq, ldD_agg, List.append_nil, rowU_sc, drawnU_sc, data_if, cells_if, un_if, calm_if, calm1_if, data_ni, cells_ni, un_ni, calm_ni, calm1_ni, h14, h13, h0, h1, h6, hlt, hw, hwd, hfill, hr2, put2_rd, put1_rd, T1.at_.c2, hAr, v_sgeq, List.map_cons, List.map_nil, callK_fn s102, callK_fn s105, callK_fn s84, T3.at_.c2, hgt, hwm, hi0, hx, ← hcmp, hfb']
    have he3 : namedL f N [] c0 = (.nil, failS 4 c1) := by rw [he2, if_pos hfb]
    exact hret _ _ he3 rfl T3
   ·have hnl : lastB acc s = false := by simpa using hlast
    simp only [hnl, Bool.false_eq_true, if_false] at he2
    by_cases hi : i = 0
    ·have hgt : ((0 : Int) < (i : Int)) = False := eq_false (by omega)
     simp only [↓go1, gB0, reduceIte, Nat.reduceEqDiff, Nat.reduceAdd, Nat.reduceSub, Nat.reduceLT, Nat.reduceLeDiff, rd_zero, rd_succ, gB1, reduceCtorEq, ldD_agg, List.append_nil, rowU_sc, drawnU_sc, data_if, cells_if, un_if, calm_if, calm1_if, data_ni, cells_ni, un_ni, calm_ni, calm1_ni, h14, h13, h0, h1, h6, hlt, hw, hwd, hfill, hr2, put2_rd, put1_rd, T1.at_.c2, hAr, v_sgeq, List.map_cons, List.map_nil, callK_fn s102, callK_fn s105, callK_fn s84, hgt]
     refine Need.intro (fun p hp => by cases hp) ?_
     simp only [↓go1, gB0, reduceIte, Nat.reduceEqDiff, Nat.reduceAdd, Nat.reduceSub, Nat.reduceLT, Nat.reduceLeDiff, rd_zero, rd_succ, gB1, reduceCtorEq, ldD_agg, List.append_nil, rowU_sc, drawnU_sc, data_if, cells_if, un_if, calm_if, calm1_if, data_ni, cells_ni, un_ni, calm_ni, calm1_ni, h14, h13, h0, h1, h6, hlt, hw, hwd, hfill, hr2, put2_rd, put1_rd, T1.at_.c2, hAr, v_sgeq, List.map_cons, List.map_nil, callK_fn s102, callK_fn s105, callK_fn s84, hgt]
     by_cases hb1 : c1.bad = 0
     ·have hb1' : (c1.bad = 0) = True := eq_true hb1
      have he3 : namedL f N [] c0 = namedL f k (acc ++ [(s, (f c1).1)]) (f c1).2 := by rw [he2, if_neg (by simp [hb1])]
      obtain ⟨e1, e2⟩ := hf c1 hl2
      have hl4 : (f c1).2.at_ ≤ (f c1).2.s.length := by rw [e1]; exact e2
      have hl5 : (f c1).2.s.length ≤ 1000000 := by rw [e1]; exact hl3
      have T3 := T2.upd hl4 hl5
      have G3 := G2.sc (r := r) (x := (f c1).2) hr
      simp only [↓go1, gB0, reduceIte, Nat.reduceEqDiff, Nat.reduceAdd, Nat.reduceSub, Nat.reduceLT, Nat.reduceLeDiff, rd_zero, rd_succ, gB1, reduceCtorEq, ldD_agg, List.append_nil, rowU_sc, drawnU_sc, data_if, cells_if, un_if, calm_if, calm1_if, data_ni, cells_ni, un_ni, calm_ni, calm1_ni, h14, h13, h0, h1, h6, hlt, hw, hwd, hfill, hr2, put2_rd, put1_rd, T1.at_.c2, hAr, v_sgeq, List.map_cons, List.map_nil, callK_fn s102, callK_fn s105, callK_fn s84, hgt, hb1']
      refine got_tk T2.at_ (g84 c1) ?_
      obtain ⟨u1, u2, u3, u4, u5, u6, _⟩ := dat_cells (f c1).1
      simp only [↓go1, gB0, reduceIte, Nat.reduceEqDiff, Nat.reduceAdd, Nat.reduceSub, Nat.reduceLT, Nat.reduceLeDiff, rd_zero, rd_succ, gB1, reduceCtorEq, ldD_agg, List.append_nil, rowU_sc, drawnU_sc, data_if, cells_if, un_if, calm_if, calm1_if, data_ni, cells_ni, un_ni, calm_ni, calm1_ni, h14, h13, h0, h1, h6, hlt, hw, hwd, hfill, hr2, put2_rd, put1_rd, T1.at_.c2, hAr, v_sgeq, List.map_cons, List.map_nil, callK_fn s102, callK_fn s105, callK_fn s84, hgt, hb1', u1, u2, u3, u4, u5, u6]
      have G4 : Gf fr (((Upd.app (((Upd.app st.m (scU r c1)).put ((st.c + 1 + 2 + 6 + 3) :: fr) 0 [.str [], .nilIface]).put ((st.c + 1 + 2 + 6 + 3) :: fr) 0 [.str s, .nilIface]) (scU r (f c1).2)).put ((st.c + 1 + 2 + 6 + 3) :: fr) 1 [(f c1).1.dat]).put ((st.c + 1 + 2 + 6 + 5 + 13 + 6 + 6 + 2) :: fr) 0 [.tok 83]) st.c 82 t := (G3.put (by omega)).put (by omega)
      refine Need.intro ⟨by rw [datP_len]; omega, rfl, G4.grow⟩ ?_
      simp only [↓go1, gB0, reduceIte, Nat.reduceEqDiff, Nat.reduceAdd, Nat.reduceSub, Nat.reduceLT, Nat.reduceLeDiff, rd_zero, rd_succ, gB1, reduceCtorEq, ldD_agg, List.append_nil, rowU_sc, drawnU_sc, data_if, cells_if, un_if, calm_if, calm1_if, data_ni, cells_ni, un_ni, calm_ni, calm1_ni, h14, h13, h0, h1, h6, hlt, hw, hwd, hfill, hr2, put2_rd, put1_rd, T1.at_.c2, hAr, v_sgeq, List.map_cons, List.map_nil, callK_fn s102, callK_fn s105, callK_fn s84, hgt, hb1', u1, u2, u3, u4, u5, u6]
      refine ih (i + 1) (acc ++ [(s, (f c1).1)]) (f c1).2 ((st.c + 1 + 2 + 6 + 5 + 13 + 6 + 6 + 3) :: fr) _ _ (by omega) (by simp; omega) he3 rfl h13 h0 h1 ?_ ?_ (Gf.new (by simp only; omega))
      ·rw [datP_app]; rfl
      ·exact Tk.growF (c := st.c) (Tk.putF (Tk.putF T3 hr) hr) hr (by rw [u3]; exact G4)
     ·have hb1' : (c1.bad = 0) = False := eq_false hb1
      have he3 : namedL f N [] c0 = (.nil, c1) := by rw [he2, if_pos hb1]
      simp only [↓go1, gB0, reduceIte, Nat.reduceEqDiff, Nat.reduceAdd, Nat.reduceSub, Nat.reduceLT, Nat.reduceLeDiff, rd_zero, rd_succ, gB1, reduceCtorEq, ldD_agg, List.append_nil, rowU_sc, drawnU_sc, data_if, cells_if, un_if, calm_if, calm1_if, data_ni, cells_ni, un_ni, calm_ni, calm1_ni, h14, h13, h0, h1, h6, hlt, hw, hwd, hfill, hr2, put2_rd, put1_rd, T1.at_.c2, hAr, v_sgeq, List.map_cons, List.map_nil, callK_fn s102, callK_fn s105, callK_fn s84, hgt, hb1']
      exact hret _ _ he3 rfl T2
    ·obtain ⟨i', rfl⟩ : ∃ i', i = i' + 1 := ⟨i - 1, by omega⟩
     have hcmp := lastB_get (s := s) hacc
     rw [hnl] at hcmp
     have hgt : ((0 : Int) < ((i' + 1 : Nat) : Int)) = True := eq_true (by omega)
     have hwm : IntKind.i64.wrap (((i' + 1 : Nat) : Int) - 1) = (i' : Int) := by rw [IntWalk.i64_in _ ⟨by omega, by omega⟩]; omega
     have hi0 : ((0 : Int) ≤ (i' : Int)) := by omega
     have hx : (Tr.datP acc)[((i' : Int)).toNat]? = some (.agg [.str (acc[i']'(by omega)).1, (acc[i']'(by omega)).2.dat]) := by
      rw [Int.toNat_natCast]; exact datP_get (by omega)
     simp only [↓go1, gB0, reduceIte, Nat.reduceEqDiff, Nat.reduceAdd, Nat.reduceSub, Nat.reduceLT, Nat.reduceLeDiff, rd_zero, rd_succ, gB1, reduceCtorEq, ldD_agg, List.append_nil, rowU_sc, drawnU_sc, data_if, cells_if, un_if, calm_if, calm1_if, data_ni, cells_ni, un_ni, calm_ni, calm1_ni, h14, h13, h0, h1, h6, hlt, hw, hwd, hfill, hr2, put2_rd, put1_rd, T1.at_.c2, hAr, v_sgeq, List.map_cons, List.map_nil, callK_fn s102, callK_fn s105, callK_fn s84, hgt, hwm, hi0, hx, ← hcmp]
     refine Need.intro (fun p hp => by cases hp) ?_
     simp only [↓go1, gB0, reduceIte, Nat.reduceEqDiff, Nat.reduceAdd, Nat.reduceSub, Nat.reduceLT, Nat.reduceLeDiff, rd_zero, rd_succ, gB1, reduceCtorEq, ldD_agg, List.append_nil, rowU_sc, drawnU_sc, data_if, cells_if, un_if, calm_if, calm1_if, data_ni, cells_ni, un_ni, calm_ni, calm1_ni, h14, h13, h0, h1, h6, hlt, hw, hwd, hfill, hr2, put2_rd, put1_rd, T1.at_.c2, hAr, v_sgeq, List.map_cons, List.map_nil, callK_fn s102, callK_fn s105, callK_fn s84, hgt, hwm, hi0, hx, ← hcmp]
     by_cases hb1 : c1.bad = 0
     ·have hb1' : (c1.bad = 0) = True := eq_true hb1
      have he3 : namedL f N [] c0 = namedL f k (acc ++ [(s, (f c1).1)]) (f c1).2 := by rw [he2, if_neg (by simp [hb1])]
      obtain ⟨e1, e2⟩ := hf c1 hl2
      have hl4 : (f c1).2.at_ ≤ (f c1).2.s.length := by rw [e1]; exact e2
      have hl5 : (f c1).2.s.length ≤ 1000000 := by rw [e1]; exact hl3
      have T3 := T2.upd hl4 hl5
      have G3 := G2.sc (r := r) (x := (f c1).2) hr
      simp only [↓go1, gB0, reduceIte, Nat.reduceEqDiff, Nat.reduceAdd, Nat.reduceSub, Nat.reduceLT, Nat.reduceLeDiff, rd_zero, rd_succ, gB1, reduceCtorEq, ldD_agg, List.append_nil, rowU_sc, drawnU_sc, data_if, cells_if, un_if, calm_if, calm1_if, data_ni, cells_ni, un_ni, calm_ni, calm1_ni, h14, h13, h0, h1, h6, hlt, hw, hwd, hfill, hr2, put2_rd, put1_rd, T1.at_.c2, hAr, v_sgeq, List.map_cons, List.map_nil, callK_fn s102, callK_fn s105, callK_fn s84, hgt, hwm, hi0, hx, ← hcmp, hb1']
      refine got_tk T2.at_ (g84 c1) ?_
      obtain ⟨u1, u2, u3, u4, u5, u6, _⟩ := dat_cells (f c1).1
      simp only [↓go1, gB0, reduceIte, Nat.reduceEqDiff, Nat.reduceAdd, Nat.reduceSub, Nat.reduceLT, Nat.reduceLeDiff, rd_zero, rd_succ, gB1, reduceCtorEq, ldD_agg, List.append_nil, rowU_sc, drawnU_sc, data_if, cells_if, un_if, calm_if, calm1_if, data_ni, cells_ni, un_ni, calm_ni, calm1_ni, h14, h13, h0, h1, h6, hlt, hw, hwd, hfill, hr2, put2_rd, put1_rd, T1.at_.c2, hAr, v_sgeq, List.map_cons, List.map_nil, callK_fn s102, callK_fn s105, callK_fn s84, hgt, hwm, hi0, hx, ← hcmp, hb1', u1, u2, u3, u4, u5, u6]
      have G4 : Gf fr (((Upd.app (((Upd.app st.m (scU r c1)).put ((st.c + 1 + 2 + 6 + 3) :: fr) 0 [.str [], .nilIface]).put ((st.c + 1 + 2 + 6 + 3) :: fr) 0 [.str s, .nilIface]) (scU r (f c1).2)).put ((st.c + 1 + 2 + 6 + 3) :: fr) 1 [(f c1).1.dat]).put ((st.c + 1 + 2 + 6 + 5 + 13 + 6 + 6 + 2) :: fr) 0 [.tok 83]) st.c 82 t := (G3.put (by omega)).put (by omega)
      refine Need.intro ⟨by rw [datP_len]; omega, rfl, G4.grow⟩ ?_
      simp only [↓go1, gB0, reduceIte, Nat.reduceEqDiff, Nat.reduceAdd, Nat.reduceSub, Nat.reduceLT, Nat.reduceLeDiff, rd_zero, rd_succ, gB1, reduceCtorEq, ldD_agg, List.append_nil, rowU_sc, drawnU_sc, data_if, cells_if, un_if, calm_if, calm1_if, data_ni, cells_ni, un_ni, calm_ni, calm1_ni, h14, h13, h0, h1, h6, hlt, hw, hwd, hfill, hr2, put2_rd, put1_rd, T1.at_.c2, hAr, v_sgeq, List.map_cons, List.map_nil, callK_fn s102, callK_fn s105, callK_fn s84, hgt, hwm, hi0, hx, ← hcmp, hb1', u1, u2, u3, u4, u5, u6]
      refine ih (i' + 1 + 1) (acc ++ [(s, (f c1).1)]) (f c1).2 ((st.c + 1 + 2 + 6 + 5 + 13 + 6 + 6 + 3) :: fr) _ _ (by omega) (by simp; omega) he3 rfl h13 h0 h1 ?_ ?_ (Gf.new (by simp only; omega))
      ·rw [datP_app]; rfl
      ·exact Tk.growF (c := st.c) (Tk.putF (Tk.putF T3 hr) hr) hr (by rw [u3]; exact G4)
     ·have hb1' : (c1.bad = 0) = False := eq_false hb1
      have he3 : namedL f N [] c0 = (.nil, c1) := by rw [he2, if_pos hb1]
      simp only [↓go1, gB0, reduceIte, Nat.reduceEqDiff, Nat.reduceAdd, Nat.reduceSub, Nat.reduceLT, Nat.reduceLeDiff, rd_zero, rd_succ, gB1, reduceCtorEq, ldD_agg, List.append_nil, rowU_sc, drawnU_sc, data_if, cells_if, un_if, calm_if, calm1_if, data_ni, cells_ni, un_ni, calm_ni, calm1_ni, h14, h13, h0, h1, h6, hlt, hw, hwd, hfill, hr2, put2_rd, put1_rd, T1.at_.c2, hAr, v_sgeq, List.map_cons, List.map_nil, callK_fn s102, callK_fn s105, callK_fn s84, hgt, hwm, hi0, hx, ← hcmp, hb1']
      exact hret _ _ he3 rfl T2
  ·have hb0' : (c.bad = 0) = False := eq_false hb0
   have he2 : namedL f N [] c0 = (.nil, c) := by
    rw [he]; simp only [namedL]; rw [if_pos hb0]
   simp only [↓go1, gB0, reduceIte, Nat.reduceEqDiff, Nat.reduceAdd, Nat.reduceSub, Nat.reduceLT, Nat.reduceLeDiff, rd_zero, rd_succ, gB1, reduceCtorEq, ldD_agg, List.append_nil, rowU_sc, drawnU_sc, data_if, cells_if, un_if, calm_if, calm1_if, data_ni, cells_ni, un_ni, calm_ni, calm1_ni, h14, h13, h0, h1, h6, hlt, hw, hwd, T.at_.c2, hb0']
   exact hret _ c he2 rfl T
def F104 (n : Nat) (c : Sc) : List D → Option (D × Sc)
 | [.int .i64 d] => if d = 4 - (n : Int) ∧ n ≤ 4 then some ((namedS n (prevV n) c).1.dat, (namedS n (prevV n) c).2) else none
 | _ => none
set_option maxHeartbeats 1000000 in
theorem ok104 {P : Program} (hb : DeskB P) (n : Nat) (h84 : n = 0 ∨ ∃ k, n = k + 1 ∧ (tkQ (Fval k)).ok P 84) : (tkQ (F104 n)).ok P 104 := by
 have hS : ∃ S : Summs, Summs.ok P S ∧ S 126 = some (tkQ (F126 n)) ∧ S 102 = some (tkQ F102) ∧ S 105 = some (tkQ F105) ∧ ∀ k, n = k + 1 → S 84 = some (tkQ (Fval k)) := by
  rcases h84 with rfl | ⟨k, rfl, h⟩
  ·exact ⟨tabL [(126, tkQ (F126 0)), (102, tkQ F102), (105, tkQ F105)], tabL_cons (ok126 hb 0) (tabL_cons (ok102 hb) (tabL_cons (ok105 hb) tabL_nil)), rfl, rfl, rfl, fun k e => by cases e⟩
  ·exact ⟨tabL [(126, tkQ (F126 (k + 1))), (102, tkQ F102), (105, tkQ F105), (84, tkQ (Fval k))], tabL_cons (ok126 hb (k + 1)) (tabL_cons (ok102 hb) (tabL_cons (ok105 hb) (tabL_cons h tabL_nil))), rfl, rfl, rfl, fun k' e => by cases e; rfl⟩
 obtain ⟨S, hS, s126, s102, s105, s84⟩ := hS
 refine opn_ok2 (S := S) hS hb.f104 (tkQ_loc _) (fun ds m fr d u h hfr => ?_)
 obtain ⟨r, rest, c, c', rfl, T, hF, rfl⟩ := tkQ_inv h
 unfold F104 at hF
 split at hF
 ·rename_i d
  split at hF
  ·rename_i hk
   simp only [Option.some.injEq, Prod.mk.injEq] at hF
   obtain ⟨rfl, rfl⟩ := hF
   refine ⟨by simp, ?_⟩
   clear h
   have hr := T.nfr hfr
   have T0 := Tk.start (fr := fr) T
   have f126 : F126 n c [.int .i64 d] = some (.int .i64 ((countS n c).1 : Int), (countS n c).2) := if_pos hk
   obtain ⟨i1, i2, i3⟩ := countS_inv (n := n) T.le
   have T1 := T0.upd (c' := (countS n c).2) (by rw [i1]; exact i2) (by rw [i1]; exact T.len)
   have hz : n = 0 → (countS n c).1 = 0 := fun e => by rw [e]; exact countS_zero
   have hf : Stays (prevV n) := by
    cases n with
    | zero => exact fun c h => ⟨rfl, h⟩
    | succ n => exact Stays.takeV n
   unfold namedS
   unfold dc104
   simp only [↓go1, gB0, reduceIte, Nat.reduceEqDiff, Nat.reduceAdd, Nat.reduceSub, Nat.reduceLT, Nat.reduceLeDiff, rd_zero, rd_succ, gB1, reduceCtorEq, ldD_agg, List.append_nil, rowU_sc, drawnU_sc, data_if, cells_if, un_if, calm_if, calm1_if, data_ni, cells_ni, un_ni, calm_ni, calm1_ni, callK_fn s126]
   refine got_tk T f126 ?_
   simp only [↓go1, gB0, reduceIte, Nat.reduceEqDiff, Nat.reduceAdd, Nat.reduceSub, Nat.reduceLT, Nat.reduceLeDiff, rd_zero, rd_succ, gB1, reduceCtorEq, ldD_agg, List.append_nil, rowU_sc, drawnU_sc, data_if, cells_if, un_if, calm_if, calm1_if, data_ni, cells_ni, un_ni, calm_ni, calm1_ni, callK_fn s126]
   generalize (countS n c) = q at i1 i2 i3 T1 hz ⊢
   refine loop104 (m0 := m) (c0 := q.2) (N := q.1) hr hf (by omega) (d := d) (by omega) s102 s105 (fun hp => ?_) (fun st c' e h4 T' => ?_) (fun st c' acc t e h6 T' => ?_) q.1 0 [] q.2 (5 :: fr) _ _ (by omega) rfl rfl rfl rfl rfl rfl rfl ?_ ?_
   ·cases n with
    | zero => have := hz rfl; omega
    | succ k => exact ⟨Fval k, s84 k rfl, fun c => if_pos ⟨by omega, by omega⟩⟩
   ·rw [e]
    simp only [↓go1, gB0, reduceIte, Nat.reduceEqDiff, Nat.reduceAdd, Nat.reduceSub, Nat.reduceLT, Nat.reduceLeDiff, rd_zero, rd_succ, gB1, reduceCtorEq, ldD_agg, List.append_nil, rowU_sc, drawnU_sc, data_if, cells_if, un_if, calm_if, calm1_if, data_ni, cells_ni, un_ni, calm_ni, calm1_ni, h4, Tr.dat]
    exact T'.fin hfr
   ·rw [e]
    simp only [↓go1, gB0, reduceIte, Nat.reduceEqDiff, Nat.reduceAdd, Nat.reduceSub, Nat.reduceLT, Nat.reduceLeDiff, rd_zero, rd_succ, gB1, reduceCtorEq, ldD_agg, List.append_nil, rowU_sc, drawnU_sc, data_if, cells_if, un_if, calm_if, calm1_if, data_ni, cells_ni, un_ni, calm_ni, calm1_ni, h6, Tr.dat]
    exact T'.fin hfr
   ·exact Tk.putF T1 hr
   ·exact ⟨5, rfl, by simp only; omega, by simp [put_tok]⟩
  ·cases hF
 ·cases hF
set_option maxHeartbeats 2000000 in
theorem ok84s {P : Program} (hb : DeskB P) (n : Nat) (h103 : (tkQ (F103 n)).ok P 103) (h104 : (tkQ (F104 n)).ok P 104) : (tkQ (Fval n)).ok P 84 := by
 have hS : Summs.ok P (tabL [(101, tkQ F101), (102, tkQ F102), (103, tkQ (F103 n)), (104, tkQ (F104 n)), (105, tkQ F105)]) := tabL_cons (ok101 hb) (tabL_cons (ok102 hb) (tabL_cons h103 (tabL_cons h104 (tabL_cons (ok105 hb) tabL_nil))))
 have s101 : tabL [(101, tkQ F101), (102, tkQ F102), (103, tkQ (F103 n)), (104, tkQ (F104 n)), (105, tkQ F105)] 101 = some (tkQ F101) := rfl
 have s102 : tabL [(101, tkQ F101), (102, tkQ F102), (103, tkQ (F103 n)), (104, tkQ (F104 n)), (105, tkQ F105)] 102 = some (tkQ F102) := rfl
 have s103 : tabL [(101, tkQ F101), (102, tkQ F102), (103, tkQ (F103 n)), (104, tkQ (F104 n)), (105, tkQ F105)] 103 = some (tkQ (F103 n)) := rfl
 have s104 : tabL [(101, tkQ F101), (102, tkQ F102), (103, tkQ (F103 n)), (104, tkQ (F104 n)), (105, tkQ F105)] 104 = some (tkQ (F104 n)) := rfl
 have s105 : tabL [(101, tkQ F101), (102, tkQ F102), (103, tkQ (F103 n)), (104, tkQ (F104 n)), (105, tkQ F105)] 105 = some (tkQ F105) := rfl
 generalize tabL [(101, tkQ F101), (102, tkQ F102), (103, tkQ (F103 n)), (104, tkQ (F104 n)), (105, tkQ F105)] = S at hS s101 s102 s103 s104 s105
 refine opn_ok2 (S := S) hS hb.f84 (tkQ_loc _) (fun ds m fr d u h hfr => ?_)
 obtain ⟨r, rest, c, c', rfl, T, hF, rfl⟩ := tkQ_inv h
 unfold Fval at hF
 split at hF
 ·rename_i d
  split at hF
  ·rename_i hk
   simp only [Option.some.injEq, Prod.mk.injEq] at hF
   obtain ⟨rfl, rfl⟩ := hF
   refine ⟨by simp, ?_⟩
   clear h
   have hr := T.nfr hfr
   have T0 := Tk.start (fr := fr) T
   have hf : Stays (prevV n) := by
    cases n with
    | zero => exact fun c h => ⟨rfl, h⟩
    | succ n => exact Stays.takeV n
   obtain ⟨i1, i2, i3, _⟩ := numS_inv (k := 1) T.le
   have f101 : F101 c [.int .i64 1] = some (.int .u64 ((numS 1 c).1 : Int), (numS 1 c).2) := by
    simp only [F101]; rw [if_pos ⟨by omega, by omega⟩]; rfl
   have T1 := T0.upd (c' := (numS 1 c).2) (by rw [i1]; exact i2) (by rw [i1]; exact T.len)
   rw [takeV_eq]
   simp only [valS]
   unfold dc84
   simp only [↓go1, gB0, reduceIte, Nat.reduceEqDiff, Nat.reduceAdd, Nat.reduceSub, Nat.reduceLT, Nat.reduceLeDiff, rd_zero, rd_succ, gB1, reduceCtorEq, ldD_agg, List.append_nil, rowU_sc, drawnU_sc, data_if, cells_if, un_if, calm_if, calm1_if, data_ni, cells_ni, un_ni, calm_ni, calm1_ni, callK_fn s101]
   refine got_tk T f101 ?_
   have hl2 : (numS 1 c).2.at_ ≤ (numS 1 c).2.s.length := by rw [i1]; exact i2
   have hl3 : (numS 1 c).2.s.length ≤ 1000000 := by rw [i1]; exact T.len
   generalize numS 1 c = p at i1 i2 i3 T1 hl2 hl3 ⊢
   obtain ⟨x, c1⟩ := p
   simp only at i1 i2 i3 T1 hl2 hl3 ⊢
   by_cases hb0 : c1.bad = 0
   ·have hb0' : (c1.bad = 0) = True := eq_true hb0
    rw [if_neg (by simp [hb0])]
    have e0 : ((0 : Nat) : Int) = 0 := rfl
    have e1 : ((1 : Nat) : Int) = 1 := rfl
    have e2 : ((2 : Nat) : Int) = 2 := rfl
    have e3 : ((3 : Nat) : Int) = 3 := rfl
    have e4 : ((4 : Nat) : Int) = 4 := rfl
    have e5 : ((5 : Nat) : Int) = 5 := rfl
    have e6 : ((6 : Nat) : Int) = 6 := rfl
    have hxc : x = 0 ∨ x = 1 ∨ x = 2 ∨ x = 3 ∨ x = 4 ∨ x = 5 ∨ x = 6 ∨ 7 ≤ x := by omega
    rcases hxc with rfl | rfl | rfl | rfl | rfl | rfl | rfl | hx7
    ·simp only [↓go1, gB0, reduceIte, Nat.reduceEqDiff, Nat.reduceAdd, Nat.reduceSub, Nat.reduceLT, Nat.reduceLeDiff, rd_zero, rd_succ, gB1, reduceCtorEq, ldD_agg, List.append_nil, rowU_sc, drawnU_sc, data_if, cells_if, un_if, calm_if, calm1_if, data_ni, cells_ni, un_ni, calm_ni, calm1_ni, Int.reduceEq, T1.at_.c2, hb0', Tr.dat, callK_fn s101, callK_fn s102, callK_fn s103, callK_fn s104, callK_fn s105, e0]
     exact T1.fin hfr
    ·simp only [↓go1, gB0, reduceIte, Nat.reduceEqDiff, Nat.reduceAdd, Nat.reduceSub, Nat.reduceLT, Nat.reduceLeDiff, rd_zero, rd_succ, gB1, reduceCtorEq, ldD_agg, List.append_nil, rowU_sc, drawnU_sc, data_if, cells_if, un_if, calm_if, calm1_if, data_ni, cells_ni, un_ni, calm_ni, calm1_ni, Int.reduceEq, T1.at_.c2, hb0', Tr.dat, callK_fn s101, callK_fn s102, callK_fn s103, callK_fn s104, callK_fn s105, e1]
     exact T1.fin hfr
    ·simp only [↓go1, gB0, reduceIte, Nat.reduceEqDiff, Nat.reduceAdd, Nat.reduceSub, Nat.reduceLT, Nat.reduceLeDiff, rd_zero, rd_succ, gB1, reduceCtorEq, ldD_agg, List.append_nil, rowU_sc, drawnU_sc, data_if, cells_if, un_if, calm_if, calm1_if, data_ni, cells_ni, un_ni, calm_ni, calm1_ni, Int.reduceEq, T1.at_.c2, hb0', Tr.dat, callK_fn s101, callK_fn s102, callK_fn s103, callK_fn s104, callK_fn s105, e2]
     exact T1.fin hfr
    ·obtain ⟨j1, j2, j3, _⟩ := numS_inv (k := 8) hl2
     have f101' : F101 c1 [.int .i64 8] = some (.int .u64 ((numS 8 c1).1 : Int), (numS 8 c1).2) := by
      simp only [F101]; rw [if_pos ⟨by omega, by omega⟩]; rfl
     have T2 := T1.upd (c' := (numS 8 c1).2) (by rw [j1]; exact j2) (by rw [j1]; exact hl3)
     simp only [↓go1, gB0, reduceIte, Nat.reduceEqDiff, Nat.reduceAdd, Nat.reduceSub, Nat.reduceLT, Nat.reduceLeDiff, rd_zero, rd_succ, gB1, reduceCtorEq, ldD_agg, List.append_nil, rowU_sc, drawnU_sc, data_if, cells_if, un_if, calm_if, calm1_if, data_ni, cells_ni, un_ni, calm_ni, calm1_ni, Int.reduceEq, T1.at_.c2, hb0', Tr.dat, callK_fn s101, callK_fn s102, callK_fn s103, callK_fn s104, callK_fn s105, e3]
     refine got_tk T1.at_ f101' ?_
     simp only [↓go1, gB0, reduceIte, Nat.reduceEqDiff, Nat.reduceAdd, Nat.reduceSub, Nat.reduceLT, Nat.reduceLeDiff, rd_zero, rd_succ, gB1, reduceCtorEq, ldD_agg, List.append_nil, rowU_sc, drawnU_sc, data_if, cells_if, un_if, calm_if, calm1_if, data_ni, cells_ni, un_ni, calm_ni, calm1_ni, Int.reduceEq, T1.at_.c2, hb0', Tr.dat, callK_fn s101, callK_fn s102, callK_fn s103, callK_fn s104, callK_fn s105, e3]
     exact T2.fin hfr
    ·obtain ⟨j1, j2, j3, _⟩ := rowS_inv hl2
     have f102 : F102 c1 [] = some (.str (rowS c1).1, (rowS c1).2) := rfl
     have T2 := T1.upd (c' := (rowS c1).2) (by rw [j1]; exact j2) (by rw [j1]; exact hl3)
     simp only [↓go1, gB0, reduceIte, Nat.reduceEqDiff, Nat.reduceAdd, Nat.reduceSub, Nat.reduceLT, Nat.reduceLeDiff, rd_zero, rd_succ, gB1, reduceCtorEq, ldD_agg, List.append_nil, rowU_sc, drawnU_sc, data_if, cells_if, un_if, calm_if, calm1_if, data_ni, cells_ni, un_ni, calm_ni, calm1_ni, Int.reduceEq, T1.at_.c2, hb0', Tr.dat, callK_fn s101, callK_fn s102, callK_fn s103, callK_fn s104, callK_fn s105, e4]
     refine got_tk T1.at_ f102 ?_
     simp only [↓go1, gB0, reduceIte, Nat.reduceEqDiff, Nat.reduceAdd, Nat.reduceSub, Nat.reduceLT, Nat.reduceLeDiff, rd_zero, rd_succ, gB1, reduceCtorEq, ldD_agg, List.append_nil, rowU_sc, drawnU_sc, data_if, cells_if, un_if, calm_if, calm1_if, data_ni, cells_ni, un_ni, calm_ni, calm1_ni, Int.reduceEq, T1.at_.c2, hb0', Tr.dat, callK_fn s101, callK_fn s102, callK_fn s103, callK_fn s104, callK_fn s105, e4]
     exact T2.fin hfr
    ·obtain ⟨ca, cb, _⟩ := countS_inv (n := n) hl2
     have hi : (itemsS n (prevV n) c1).2.s = c1.s ∧ (itemsS n (prevV n) c1).2.at_ ≤ c1.s.length := by
      have := hf.itemsL (countS n c1).1 [] (countS n c1).2 (by rw [ca]; exact cb)
      rw [ca] at this; exact this
     have f103 : F103 n c1 [.int .i64 d] = some ((itemsS n (prevV n) c1).1.dat, (itemsS n (prevV n) c1).2) := if_pos hk
     have T2 := T1.upd (c' := (itemsS n (prevV n) c1).2) (by rw [hi.1]; exact hi.2) (by rw [hi.1]; exact hl3)
     simp only [↓go1, gB0, reduceIte, Nat.reduceEqDiff, Nat.reduceAdd, Nat.reduceSub, Nat.reduceLT, Nat.reduceLeDiff, rd_zero, rd_succ, gB1, reduceCtorEq, ldD_agg, List.append_nil, rowU_sc, drawnU_sc, data_if, cells_if, un_if, calm_if, calm1_if, data_ni, cells_ni, un_ni, calm_ni, calm1_ni, Int.reduceEq, T1.at_.c2, hb0', Tr.dat, callK_fn s101, callK_fn s102, callK_fn s103, callK_fn s104, callK_fn s105, e5]
     refine got_tk T1.at_ f103 ?_
     simp only [↓go1, gB0, reduceIte, Nat.reduceEqDiff, Nat.reduceAdd, Nat.reduceSub, Nat.reduceLT, Nat.reduceLeDiff, rd_zero, rd_succ, gB1, reduceCtorEq, ldD_agg, List.append_nil, rowU_sc, drawnU_sc, data_if, cells_if, un_if, calm_if, calm1_if, data_ni, cells_ni, un_ni, calm_ni, calm1_ni, Int.reduceEq, T1.at_.c2, hb0', Tr.dat, callK_fn s101, callK_fn s102, callK_fn s103, callK_fn s104, callK_fn s105, e5]
     exact T2.fin hfr
    ·obtain ⟨ca, cb, _⟩ := countS_inv (n := n) hl2
     have hi : (namedS n (prevV n) c1).2.s = c1.s ∧ (namedS n (prevV n) c1).2.at_ ≤ c1.s.length := by
      have := hf.namedL (countS n c1).1 [] (countS n c1).2 (by rw [ca]; exact cb)
      rw [ca] at this; exact this
     have f104 : F104 n c1 [.int .i64 d] = some ((namedS n (prevV n) c1).1.dat, (namedS n (prevV n) c1).2) := if_pos hk
     have T2 := T1.upd (c' := (namedS n (prevV n) c1).2) (by rw [hi.1]; exact hi.2) (by rw [hi.1]; exact hl3)
     simp only [↓go1, gB0, reduceIte, Nat.reduceEqDiff, Nat.reduceAdd, Nat.reduceSub, Nat.reduceLT, Nat.reduceLeDiff, rd_zero, rd_succ, gB1, reduceCtorEq, ldD_agg, List.append_nil, rowU_sc, drawnU_sc, data_if, cells_if, un_if, calm_if, calm1_if, data_ni, cells_ni, un_ni, calm_ni, calm1_ni, Int.reduceEq, T1.at_.c2, hb0', Tr.dat, callK_fn s101, callK_fn s102, callK_fn s103, callK_fn s104, callK_fn s105, e6]
     refine got_tk T1.at_ f104 ?_
     simp only [↓go1, gB0, reduceIte, Nat.reduceEqDiff, Nat.reduceAdd, Nat.reduceSub, Nat.reduceLT, Nat.reduceLeDiff, rd_zero, rd_succ, gB1, reduceCtorEq, ldD_agg, List.append_nil, rowU_sc, drawnU_sc, data_if, cells_if, un_if, calm_if, calm1_if, data_ni, cells_ni, un_ni, calm_ni, calm1_ni, Int.reduceEq, T1.at_.c2, hb0', Tr.dat, callK_fn s101, callK_fn s102, callK_fn s103, callK_fn s104, callK_fn s105, e6]
     exact T2.fin hfr
    ·have g0 : ((x : Int) = 0) = False := eq_false (by omega)
     have g1 : ((x : Int) = 1) = False := eq_false (by omega)
     have g2 : ((x : Int) = 2) = False := eq_false (by omega)
     have g3 : ((x : Int) = 3) = False := eq_false (by omega)
     have g4 : ((x : Int) = 4) = False := eq_false (by omega)
     have g5 : ((x : Int) = 5) = False := eq_false (by omega)
     have g6 : ((x : Int) = 6) = False := eq_false (by omega)
     have f105 : F105 c1 [.int .i64 22] = some (.tup [], failS 22 c1) := rfl
     have T2 := T1.upd (c' := failS 22 c1) (by rw [failS_inv.1, failS_inv.2]; exact hl2) (by rw [failS_inv.1]; exact hl3)
     rw [if_neg (by omega), if_neg (by omega), if_neg (by omega), if_neg (by omega), if_neg (by omega), if_neg (by omega), if_neg (by omega)]
     simp only [↓go1, gB0, reduceIte, Nat.reduceEqDiff, Nat.reduceAdd, Nat.reduceSub, Nat.reduceLT, Nat.reduceLeDiff, rd_zero, rd_succ, gB1, reduceCtorEq, ldD_agg, List.append_nil, rowU_sc, drawnU_sc, data_if, cells_if, un_if, calm_if, calm1_if, data_ni, cells_ni, un_ni, calm_ni, calm1_ni, Int.reduceEq, T1.at_.c2, hb0', Tr.dat, callK_fn s101, callK_fn s102, callK_fn s103, callK_fn s104, callK_fn s105, g0, g1, g2, g3, g4, g5, g6]
     refine got_tk T1.at_ f105 ?_
     simp only [↓go1, gB0, reduceIte, Nat.reduceEqDiff, Nat.reduceAdd, Nat.reduceSub, Nat.reduceLT, Nat.reduceLeDiff, rd_zero, rd_succ, gB1, reduceCtorEq, ldD_agg, List.append_nil, rowU_sc, drawnU_sc, data_if, cells_if, un_if, calm_if, calm1_if, data_ni, cells_ni, un_ni, calm_ni, calm1_ni, Int.reduceEq, T1.at_.c2, hb0', Tr.dat, callK_fn s101, callK_fn s102, callK_fn s103, callK_fn s104, callK_fn s105, g0, g1, g2, g3, g4, g5, g6]
     exact T2.fin hfr
   ·have hb0' : (c1.bad = 0) = False := eq_false hb0
    rw [if_pos hb0]
    simp only [↓go1, gB0, reduceIte, Nat.reduceEqDiff, Nat.reduceAdd, Nat.reduceSub, Nat.reduceLT, Nat.reduceLeDiff, rd_zero, rd_succ, gB1, reduceCtorEq, ldD_agg, List.append_nil, rowU_sc, drawnU_sc, data_if, cells_if, un_if, calm_if, calm1_if, data_ni, cells_ni, un_ni, calm_ni, calm1_ni, T1.at_.c2, hb0', Tr.dat]
    exact T1.fin hfr
  ·cases hF
 ·cases hF
theorem ok84 {P : Program} (hb : DeskB P) : ∀ n, (tkQ (Fval n)).ok P 84
 | 0 => ok84s hb 0 (ok103 hb 0 (.inl rfl)) (ok104 hb 0 (.inl rfl))
 | n + 1 => ok84s hb (n + 1) (ok103 hb (n + 1) (.inr ⟨n, rfl, ok84 hb n⟩)) (ok104 hb (n + 1) (.inr ⟨n, rfl, ok84 hb n⟩))
def F53 : List D → Option D
 | [.str s] => if s.length ≤ 1000000 then some (if endS (takeV 4 ⟨s, 0, 0⟩).2 = 0 then .tup [(takeV 4 ⟨s, 0, 0⟩).1.dat, .int .i64 0] else .tup [.nilIface, .int .i64 (endS (takeV 4 ⟨s, 0, 0⟩).2)]) else none
 | _ => none
set_option maxHeartbeats 1000000 in
theorem ok53 {P : Program} (hb : DeskB P) : (funS F53).ok P 53 := by
 have hS : Summs.ok P (tabL [(84, tkQ (Fval 4)), (85, funS F85)]) := tabL_cons (ok84 hb 4) (tabL_cons (ok85 hb) tabL_nil)
 have s84 : tabL [(84, tkQ (Fval 4)), (85, funS F85)] 84 = some (tkQ (Fval 4)) := rfl
 have s85 : tabL [(84, tkQ (Fval 4)), (85, funS F85)] 85 = some (funS F85) := rfl
 generalize tabL [(84, tkQ (Fval 4)), (85, funS F85)] = S at hS s84 s85
 refine fun_ok (S := S) hS hb.f53 (fun ds r h => ?_) (fun ds r h => ?_)
 ·unfold F53 at h; split at h
  ·simp
  ·cases h
 ·unfold F53 at h; split at h
  ·rename_i s
   split at h
   ·rename_i hs
    simp only [Option.some.injEq] at h
    subst h
    have hf := Stays.takeV 4 ⟨s, 0, 0⟩ (Nat.zero_le _)
    have f84 : Fval 4 ⟨s, 0, 0⟩ [.int .i64 0] = some ((takeV 4 ⟨s, 0, 0⟩).1.dat, (takeV 4 ⟨s, 0, 0⟩).2) := by
     simp only [Fval]; rw [if_pos ⟨by omega, by omega⟩]
    have hfill1 : fillD [.str [], .int .i64 0, .int .i64 0] [(0, 1, .str s)] = some [.str s, .int .i64 0, .int .i64 0] := rfl
    have hfill2 : fillD [.str [], .int .i64 0, .int .i64 0] [(0, 3, .agg [.str s, .int .i64 0, .int .i64 0])] = some [.str s, .int .i64 0, .int .i64 0] := rfl
    generalize takeV 4 ⟨s, 0, 0⟩ = q at hf f84 ⊢
    obtain ⟨v, c⟩ := q
    simp only at hf f84 ⊢
    have f85 : F85 [.agg [.str c.s, .int .i64 (c.at_ : Int), .int .i64 c.bad]] = some (.int .i64 (endS c)) := by
     simp only [F85, scOf_of (c := c) (by rw [hf.1]; exact hf.2) (by rw [hf.1]; exact hs), Option.map_some]
    obtain ⟨u1, u2, u3, u4, u5, u6, _⟩ := dat_cells v
    unfold dc53
    simp only [↓go1, gB0, reduceIte, Nat.reduceEqDiff, Nat.reduceAdd, Nat.reduceSub, Nat.reduceLT, Nat.reduceLeDiff, rd_zero, rd_succ, gB1, reduceCtorEq, ldD_agg, List.append_nil, rowU_sc, drawnU_sc, data_if, cells_if, un_if, calm_if, calm1_if, data_ni, cells_ni, un_ni, calm_ni, calm1_ni, hfill1, hfill2, List.map_cons, List.map_nil, callK_fn s84, callK_fun s85]
    refine got_tk (c := ⟨s, 0, 0⟩) ⟨rfl, rfl, rfl, Nat.zero_le _, hs⟩ f84 ?_
    have T := ScAt.upd (m := Mem.put (fun _ _ => none) [5] 0 [.str s, .int .i64 0, .int .i64 0]) (r := [5]) (c := c) (by rw [hf.1]; exact hf.2) (by rw [hf.1]; exact hs)
    by_cases he : endS c = 0
    ·have he' : (endS c = 0) = True := eq_true he
     simp only [↓go1, gB0, reduceIte, Nat.reduceEqDiff, Nat.reduceAdd, Nat.reduceSub, Nat.reduceLT, Nat.reduceLeDiff, rd_zero, rd_succ, gB1, reduceCtorEq, ldD_agg, List.append_nil, rowU_sc, drawnU_sc, data_if, cells_if, un_if, calm_if, calm1_if, data_ni, cells_ni, un_ni, calm_ni, calm1_ni, callK_fn s84, callK_fun s85, f85, T.c0, T.c1, T.c2, u1, u2, u3, u4, u5, u6, he']
    ·have he' : (endS c = 0) = False := eq_false he
     simp only [↓go1, gB0, reduceIte, Nat.reduceEqDiff, Nat.reduceAdd, Nat.reduceSub, Nat.reduceLT, Nat.reduceLeDiff, rd_zero, rd_succ, gB1, reduceCtorEq, ldD_agg, List.append_nil, rowU_sc, drawnU_sc, data_if, cells_if, un_if, calm_if, calm1_if, data_ni, cells_ni, un_ni, calm_ni, calm1_ni, callK_fn s84, callK_fun s85, f85, T.c0, T.c1, T.c2, u1, u2, u3, u4, u5, u6, he']
   ·cases h
  ·cases h
end Go.Vd

namespace Go.Vd
open Go.RowKit
set_option maxRecDepth 10000
mutual
def Tr.nod : Tr → D
 | .nil => nodD 0 0 [] true [] true []
 | .tr b => truthD b
 | .num n => nodD 2 n [] true [] true []
 | .text s => sayD s
 | .list l => nodD 4 0 [] l.isEmpty (Tr.nodL l) true []
 | .pairs l => nodD 5 0 [] l.isEmpty (Tr.nodP l) l.isEmpty (Tr.nodK l)
def Tr.nodL : List Tr → List D
 | [] => []
 | v :: r => Tr.nod v :: Tr.nodL r
def Tr.nodP : List (Bs × Tr) → List D
 | [] => []
 | (_, v) :: r => Tr.nod v :: Tr.nodP r
def Tr.nodK : List (Bs × Tr) → List D
 | [] => []
 | (k, _) :: r => .str k :: Tr.nodK r
end
theorem nodL_app : ∀ a b : List Tr, Tr.nodL (a ++ b) = Tr.nodL a ++ Tr.nodL b
 | [], b => by simp [Tr.nodL]
 | v :: r, b => by simp [Tr.nodL, nodL_app r b]
theorem nodP_app : ∀ a b : List (Bs × Tr), Tr.nodP (a ++ b) = Tr.nodP a ++ Tr.nodP b
 | [], b => by simp [Tr.nodP]
 | (k, v) :: r, b => by simp [Tr.nodP, nodP_app r b]
theorem nodK_app : ∀ a b : List (Bs × Tr), Tr.nodK (a ++ b) = Tr.nodK a ++ Tr.nodK b
 | [], b => by simp [Tr.nodK]
 | (k, v) :: r, b => by simp [Tr.nodK, nodK_app r b]
theorem nodL_len : ∀ a : List Tr, (Tr.nodL a).length = a.length
 | [] => rfl
 | v :: r => by simp [Tr.nodL, nodL_len r]
theorem nodP_len : ∀ a : List (Bs × Tr), (Tr.nodP a).length = a.length
 | [] => rfl
 | (k, v) :: r => by simp [Tr.nodP, nodP_len r]
theorem nodK_len : ∀ a : List (Bs × Tr), (Tr.nodK a).length = a.length
 | [] => rfl
 | (k, v) :: r => by simp [Tr.nodK, nodK_len r]
theorem nodK_get : ∀ {a : List (Bs × Tr)} {k : Nat} (h : k < a.length), (Tr.nodK a)[k]? = some (.str a[k].1)
 | (x, v) :: r, 0, _ => rfl
 | (x, v) :: r, k + 1, h => by simpa [Tr.nodK] using nodK_get (a := r) (k := k) (by simpa using h)
theorem nod_agg (v : Tr) : ∃ k n s nk ks nn ns, v.nod = .agg [.int .u8 k, .int .u64 n, .str s, .slice nk [] ks, .slice nn [] ns] := by
 cases v <;> exact ⟨_, _, _, _, _, _, _, rfl⟩
theorem res_cc {s : Nat → D} {m : Mem} {k k' : Option Nat} {a b : Nat} : resOf [.cell k a, .cell k' b] s m = (ldD m k (s a)).bind fun d => (ldD m k' (s b)).map fun d' => .tup [d, d'] := by
 simp only [resOf, rvAll, RV.of]
 cases ldD m k (s a) <;> cases ldD m k' (s b) <;> rfl
def prevO : Nat → Sc → Tr × Sc
 | 0 => fun c => (.nil, c)
 | n + 1 => oneV n
theorem oneV_eq (n : Nat) : oneV n = oneS n (prevO n) := by cases n <;> rfl
theorem Stays.kidsA {f : Sc → Tr × Sc} (hf : Stays f) : ∀ (k : Nat) (acc : List Tr), Stays (kidsA f k acc)
 | 0, acc => fun c h => ⟨rfl, h⟩
 | k + 1, acc => fun c h => by
  unfold Go.Vd.kidsA
  split
  ·exact ⟨rfl, h⟩
  ·obtain ⟨e1, e2⟩ := hf c h
   obtain ⟨e3, e4⟩ := Stays.kidsA hf k (acc ++ [(f c).1]) (f c).2 (by rw [e1]; exact e2)
   exact ⟨e3.trans e1, by rw [e1] at e4; exact e4⟩
theorem Stays.kidsB {f : Sc → Tr × Sc} (hf : Stays f) : ∀ (k : Nat) (acc : List (Bs × Tr)), Stays (kidsB f k acc)
 | 0, acc => fun c h => ⟨rfl, h⟩
 | k + 1, acc => fun c h => by
  obtain ⟨r1, r2, _, _⟩ := rowS_inv h
  have h2 : (if (rowS c).2.bad = 0 ∧ lastB acc (rowS c).1 = true then { (rowS c).2 with bad := 4 } else (rowS c).2).s = c.s ∧ (if (rowS c).2.bad = 0 ∧ lastB acc (rowS c).1 = true then { (rowS c).2 with bad := 4 } else (rowS c).2).at_ ≤ c.s.length := by
   split <;> exact ⟨r1, r2⟩
  unfold Go.Vd.kidsB
  split
  ·exact ⟨rfl, h⟩
  ·simp only
   generalize (if (rowS c).2.bad = 0 ∧ lastB acc (rowS c).1 = true then { (rowS c).2 with bad := 4 } else (rowS c).2) = c2 at h2 ⊢
   split
   ·exact h2
   ·obtain ⟨e1, e2⟩ := hf c2 (by rw [h2.1]; exact h2.2)
    rw [h2.1] at e1 e2
    obtain ⟨e3, e4⟩ := Stays.kidsB hf k (acc ++ [((rowS c).1, (f c2).1)]) (f c2).2 (by rw [e1]; exact e2)
    exact ⟨e3.trans e1, by rw [e1] at e4; exact e4⟩
theorem Stays.oneS {f : Sc → Tr × Sc} (hf : Stays f) (n : Nat) : Stays (oneS n f) := by
 intro c h
 obtain ⟨i1, i2, i3, _⟩ := numS_inv (k := 1) h
 have h1 : (numS 1 c).2.at_ ≤ (numS 1 c).2.s.length := by rw [i1]; exact i2
 simp only [Go.Vd.oneS]
 generalize (numS 1 c) = p at i1 i2 i3 h1 ⊢
 obtain ⟨n8a, n8b, _, _⟩ := numS_inv (k := 8) h1
 obtain ⟨n1a, n1b, _, _⟩ := numS_inv (k := 1) h1
 obtain ⟨ra, rb, _, _⟩ := rowS_inv h1
 rw [i1] at n8a n8b ra rb n1a n1b
 have hc : (if (numS 1 p.2).2.bad = 0 ∧ 64 < (numS 1 p.2).1 then { (numS 1 p.2).2 with bad := 5 } else (numS 1 p.2).2).s = c.s ∧ (if (numS 1 p.2).2.bad = 0 ∧ 64 < (numS 1 p.2).1 then { (numS 1 p.2).2 with bad := 5 } else (numS 1 p.2).2).at_ ≤ c.s.length := by
  split <;> exact ⟨n1a, n1b⟩
 generalize (if (numS 1 p.2).2.bad = 0 ∧ 64 < (numS 1 p.2).1 then { (numS 1 p.2).2 with bad := 5 } else (numS 1 p.2).2) = c2 at hc ⊢
 have hc' : c2.at_ ≤ c2.s.length := by rw [hc.1]; exact hc.2
 split
 ·exact ⟨i1, i2⟩
 ·split
  ·exact ⟨i1, i2⟩
  ·split
   ·exact ⟨i1, i2⟩
   ·split
    ·exact ⟨i1, i2⟩
    ·split
     ·exact ⟨n8a, n8b⟩
     ·split
      ·exact ⟨ra, rb⟩
      ·split
       ·exact ⟨i1, i2⟩
       ·split
        ·have := hf.kidsA (numS 1 p.2).1 [] c2 hc'
         rw [hc.1] at this; exact this
        ·have := hf.kidsB (numS 1 p.2).1 [] c2 hc'
         rw [hc.1] at this; exact this
theorem Stays.oneV : ∀ n, Stays (oneV n)
 | 0 => Stays.oneS (fun c h => ⟨rfl, h⟩) 0
 | n + 1 => Stays.oneS (Stays.oneV n) (n + 1)
theorem Stays.prevO (n : Nat) : Stays (prevO n) := by
 cases n with
 | zero => exact fun c h => ⟨rfl, h⟩
 | succ n => exact Stays.oneV n
def F88 (n : Nat) : List D → Option D
 | [x, .int .i64 d] => if d = 4 - (n : Int) ∧ n ≤ 4 then (scOf x).map fun c => .tup [(oneV n c).1.nod, scD (oneV n c).2] else none
 | _ => none
set_option maxHeartbeats 8000000 in
theorem one_leaf {S : Summs} (s108 : S 108 = some (funS F124)) (s109 : S 109 = some (funS F125)) {n : Nat} (hn : n ≤ 4) {c : Sc} (h1 : c.at_ ≤ c.s.length) (h2 : c.s.length ≤ 1000000) {f : Sc → Tr × Sc}
  (hleaf : ¬ ((numS 1 c).2.bad = 0 ∧ ((numS 1 c).1 = 5 ∨ (numS 1 c).1 = 6) ∧ n ≠ 0)) :
  dc88.wp S [] (Ends [.cell (some 5) 4, .cell (some 3) 5] fun d _ => d.unR = .tup [(oneS n f c).1.nod, scD (oneS n f c).2] ∧ (D.tup [(oneS n f c).1.nod, scD (oneS n f c).2]).calmR = true) ⟨entryS [.agg [.str c.s, .int .i64 (c.at_ : Int), .int .i64 c.bad], .int .i64 (4 - (n : Int))], fun _ _ => none, 0⟩ := by
 obtain ⟨i1, i2, i3, _⟩ := numS_inv (k := 1) h1
 have f124 : F124 [.agg [.str c.s, .int .i64 (c.at_ : Int), .int .i64 c.bad], .int .i64 1] = some (.tup [.int .u64 ((numS 1 c).1 : Int), .agg [.str c.s, .int .i64 ((numS 1 c).2.at_ : Int), .int .i64 (numS 1 c).2.bad]]) := by
  simp only [F124, scOf_of h1 h2, Option.map_some, scD]
  rw [if_pos ⟨by omega, by omega⟩]
  show some (D.tup [.int .u64 ((numS 1 c).1 : Int), .agg [.str (numS 1 c).2.s, _, _]]) = _
  rw [i1]; rfl
 simp only [oneS]
 generalize numS 1 c = p at i1 i2 i3 f124 hleaf ⊢
 obtain ⟨x, ⟨s', a, b⟩⟩ := p
 simp only at i1 i2 i3 f124 hleaf ⊢
 subst i1
 have hfz : ∀ k : Int, fillD [.int .u8 0, .int .u64 0, .str [], .slice true [] [], .slice true [] []] [(0, 1, .int .u8 1), (1, 1, .int .u64 k)] = some [.int .u8 1, .int .u64 k, .str [], .slice true [] [], .slice true [] []] := fun k => rfl
 have hfn : ∀ k : Int, fillD [.int .u8 0, .int .u64 0, .str [], .slice true [] [], .slice true [] []] [(0, 1, .int .u8 2), (1, 1, .int .u64 k)] = some [.int .u8 2, .int .u64 k, .str [], .slice true [] [], .slice true [] []] := fun k => rfl
 have hfs : ∀ t : Bs, fillD [.int .u8 0, .int .u64 0, .str [], .slice true [] [], .slice true [] []] [(0, 1, .int .u8 3), (2, 1, .str t)] = some [.int .u8 3, .int .u64 0, .str t, .slice true [] [], .slice true [] []] := fun k => rfl
 unfold dc88
 by_cases hb0 : b = 0
 ·have hb0' : (b = 0) = True := eq_true hb0
  have e0 : ((0 : Nat) : Int) = 0 := rfl
  have e1 : ((1 : Nat) : Int) = 1 := rfl
  have e2 : ((2 : Nat) : Int) = 2 := rfl
  have e3 : ((3 : Nat) : Int) = 3 := rfl
  have e4 : ((4 : Nat) : Int) = 4 := rfl
  have e5 : ((5 : Nat) : Int) = 5 := rfl
  have e6 : ((6 : Nat) : Int) = 6 := rfl
  rw [if_neg (by simp [hb0])]
  have hxc : x = 0 ∨ x = 1 ∨ x = 2 ∨ x = 3 ∨ x = 4 ∨ (x = 5 ∨ x = 6) ∨ 7 ≤ x := by omega
  rcases hxc with rfl | rfl | rfl | rfl | rfl | hx56 | hx7
  ·have l6 : ((6 : Int) < 0) = False := eq_false (by decide)
   simp only [↓go1, gB0, reduceIte, Nat.reduceEqDiff, Nat.reduceAdd, Nat.reduceSub, Nat.reduceLT, Nat.reduceLeDiff, put1_rd, put_rd, rd_zero, rd_succ, gB1, reduceCtorEq, res_cc, ldD_agg, List.map_cons, List.map_nil, fill_nil, Int.reduceEq, e0, l6, hb0', f124, callK_fun s108, callK_fun s109]
   refine Need.intro (feetB_ok rfl) ?_
   simp only [↓go1, gB0, reduceIte, Nat.reduceEqDiff, Nat.reduceAdd, Nat.reduceSub, Nat.reduceLT, Nat.reduceLeDiff, put1_rd, put_rd, rd_zero, rd_succ, gB1, reduceCtorEq, res_cc, ldD_agg, List.map_cons, List.map_nil, fill_nil, Int.reduceEq, e0, l6, hb0', f124, callK_fun s108, callK_fun s109]
   exact ⟨rfl, rfl⟩
  ·have l6 : ((6 : Int) < 1) = False := eq_false (by decide)
   have l3 : ((1 : Int) < 3) = True := eq_true (by decide)
   have w1 : IntKind.u64.wrap ((1 : Int) - 1) = 0 := by decide
   simp only [↓go1, gB0, reduceIte, Nat.reduceEqDiff, Nat.reduceAdd, Nat.reduceSub, Nat.reduceLT, Nat.reduceLeDiff, put1_rd, put_rd, rd_zero, rd_succ, gB1, reduceCtorEq, res_cc, ldD_agg, List.map_cons, List.map_nil, fill_nil, Int.reduceEq, e1, l6, l3, w1, hfz, hb0', f124, callK_fun s108, callK_fun s109]
   refine Need.intro (feetB_ok rfl) ?_
   simp only [↓go1, gB0, reduceIte, Nat.reduceEqDiff, Nat.reduceAdd, Nat.reduceSub, Nat.reduceLT, Nat.reduceLeDiff, put1_rd, put_rd, rd_zero, rd_succ, gB1, reduceCtorEq, res_cc, ldD_agg, List.map_cons, List.map_nil, fill_nil, Int.reduceEq, e1, l6, l3, w1, hfz, hb0', f124, callK_fun s108, callK_fun s109]
   exact ⟨rfl, rfl⟩
  ·have l6 : ((6 : Int) < 2) = False := eq_false (by decide)
   have l3 : ((2 : Int) < 3) = True := eq_true (by decide)
   have w1 : IntKind.u64.wrap ((2 : Int) - 1) = 1 := by decide
   simp only [↓go1, gB0, reduceIte, Nat.reduceEqDiff, Nat.reduceAdd, Nat.reduceSub, Nat.reduceLT, Nat.reduceLeDiff, put1_rd, put_rd, rd_zero, rd_succ, gB1, reduceCtorEq, res_cc, ldD_agg, List.map_cons, List.map_nil, fill_nil, Int.reduceEq, e2, l6, l3, w1, hfz, hb0', f124, callK_fun s108, callK_fun s109]
   refine Need.intro (feetB_ok rfl) ?_
   simp only [↓go1, gB0, reduceIte, Nat.reduceEqDiff, Nat.reduceAdd, Nat.reduceSub, Nat.reduceLT, Nat.reduceLeDiff, put1_rd, put_rd, rd_zero, rd_succ, gB1, reduceCtorEq, res_cc, ldD_agg, List.map_cons, List.map_nil, fill_nil, Int.reduceEq, e2, l6, l3, w1, hfz, hb0', f124, callK_fun s108, callK_fun s109]
   exact ⟨rfl, rfl⟩
  ·have l6 : ((6 : Int) < 3) = False := eq_false (by decide)
   have l3 : ((3 : Int) < 3) = False := eq_false (by decide)
   obtain ⟨j1, j2, j3, _⟩ := numS_inv (k := 8) (c := ⟨c.s, a, b⟩) i2
   have f124' : F124 [.agg [.str c.s, .int .i64 (a : Int), .int .i64 b], .int .i64 8] = some (.tup [.int .u64 ((numS 8 ⟨c.s, a, b⟩).1 : Int), .agg [.str (numS 8 ⟨c.s, a, b⟩).2.s, .int .i64 ((numS 8 ⟨c.s, a, b⟩).2.at_ : Int), .int .i64 (numS 8 ⟨c.s, a, b⟩).2.bad]]) := by
    simp only [F124, scOf_of' i2 h2, Option.map_some, scD]
    rw [if_pos ⟨by omega, by omega⟩]; rfl
   simp only [↓go1, gB0, reduceIte, Nat.reduceEqDiff, Nat.reduceAdd, Nat.reduceSub, Nat.reduceLT, Nat.reduceLeDiff, put1_rd, put_rd, rd_zero, rd_succ, gB1, reduceCtorEq, res_cc, ldD_agg, List.map_cons, List.map_nil, fill_nil, Int.reduceEq, e3, l6, l3, hfn, f124', hb0', f124, callK_fun s108, callK_fun s109]
   refine Need.intro (feetB_ok rfl) ?_
   simp only [↓go1, gB0, reduceIte, Nat.reduceEqDiff, Nat.reduceAdd, Nat.reduceSub, Nat.reduceLT, Nat.reduceLeDiff, put1_rd, put_rd, rd_zero, rd_succ, gB1, reduceCtorEq, res_cc, ldD_agg, List.map_cons, List.map_nil, fill_nil, Int.reduceEq, e3, l6, l3, hfn, f124', hb0', f124, callK_fun s108, callK_fun s109]
   exact ⟨rfl, rfl⟩
  ·have l6 : ((6 : Int) < 4) = False := eq_false (by decide)
   have l3 : ((4 : Int) < 3) = False := eq_false (by decide)
   have f125 : F125 [.agg [.str c.s, .int .i64 (a : Int), .int .i64 b]] = some (.tup [.str (rowS ⟨c.s, a, b⟩).1, .agg [.str (rowS ⟨c.s, a, b⟩).2.s, .int .i64 ((rowS ⟨c.s, a, b⟩).2.at_ : Int), .int .i64 (rowS ⟨c.s, a, b⟩).2.bad]]) := by
    simp only [F125, scOf_of' i2 h2, Option.map_some, scD]
   simp only [↓go1, gB0, reduceIte, Nat.reduceEqDiff, Nat.reduceAdd, Nat.reduceSub, Nat.reduceLT, Nat.reduceLeDiff, put1_rd, put_rd, rd_zero, rd_succ, gB1, reduceCtorEq, res_cc, ldD_agg, List.map_cons, List.map_nil, fill_nil, Int.reduceEq, e4, l6, l3, hfs, f125, hb0', f124, callK_fun s108, callK_fun s109]
   refine Need.intro (feetB_ok rfl) ?_
   simp only [↓go1, gB0, reduceIte, Nat.reduceEqDiff, Nat.reduceAdd, Nat.reduceSub, Nat.reduceLT, Nat.reduceLeDiff, put1_rd, put_rd, rd_zero, rd_succ, gB1, reduceCtorEq, res_cc, ldD_agg, List.map_cons, List.map_nil, fill_nil, Int.reduceEq, e4, l6, l3, hfs, f125, hb0', f124, callK_fun s108, callK_fun s109]
   exact ⟨rfl, rfl⟩
  ·have hn0 : n = 0 := by
    by_cases h : n = 0
    ·exact h
    ·exact absurd ⟨hb0, hx56, h⟩ hleaf
   subst hn0
   have g0 : ((x : Int) = 0) = False := eq_false (by omega)
   have g3 : ((x : Int) = 3) = False := eq_false (by omega)
   have g4 : ((x : Int) = 4) = False := eq_false (by omega)
   have l6 : ((6 : Int) < (x : Int)) = False := eq_false (by omega)
   have l3 : ((x : Int) < 3) = False := eq_false (by omega)
   have d4 : ((4 : Int) ≤ 4 - ((0 : Nat) : Int)) = True := eq_true (by omega)
   rw [if_neg (by omega), if_neg (by omega), if_neg (by omega), if_neg (by omega), if_neg (by omega), if_pos rfl]
   simp only [↓go1, gB0, reduceIte, Nat.reduceEqDiff, Nat.reduceAdd, Nat.reduceSub, Nat.reduceLT, Nat.reduceLeDiff, put1_rd, put_rd, rd_zero, rd_succ, gB1, reduceCtorEq, res_cc, ldD_agg, List.map_cons, List.map_nil, fill_nil, Int.reduceEq, g0, g3, g4, l6, l3, d4, hb0', f124, callK_fun s108, callK_fun s109]
   refine Need.intro (feetB_ok rfl) ?_
   simp only [↓go1, gB0, reduceIte, Nat.reduceEqDiff, Nat.reduceAdd, Nat.reduceSub, Nat.reduceLT, Nat.reduceLeDiff, put1_rd, put_rd, rd_zero, rd_succ, gB1, reduceCtorEq, res_cc, ldD_agg, List.map_cons, List.map_nil, fill_nil, Int.reduceEq, g0, g3, g4, l6, l3, d4, hb0', f124, callK_fun s108, callK_fun s109]
   exact ⟨rfl, rfl⟩
  ·have l6 : ((6 : Int) < (x : Int)) = True := eq_true (by omega)
   rw [if_pos (by omega)]
   simp only [↓go1, gB0, reduceIte, Nat.reduceEqDiff, Nat.reduceAdd, Nat.reduceSub, Nat.reduceLT, Nat.reduceLeDiff, put1_rd, put_rd, rd_zero, rd_succ, gB1, reduceCtorEq, res_cc, ldD_agg, List.map_cons, List.map_nil, fill_nil, Int.reduceEq, l6, hb0', f124, callK_fun s108, callK_fun s109]
   refine Need.intro (feetB_ok rfl) ?_
   simp only [↓go1, gB0, reduceIte, Nat.reduceEqDiff, Nat.reduceAdd, Nat.reduceSub, Nat.reduceLT, Nat.reduceLeDiff, put1_rd, put_rd, rd_zero, rd_succ, gB1, reduceCtorEq, res_cc, ldD_agg, List.map_cons, List.map_nil, fill_nil, Int.reduceEq, l6, hb0', f124, callK_fun s108, callK_fun s109]
   exact ⟨rfl, rfl⟩
 ·have hb0' : (b = 0) = False := eq_false hb0
  rw [if_pos hb0]
  simp only [↓go1, gB0, reduceIte, Nat.reduceEqDiff, Nat.reduceAdd, Nat.reduceSub, Nat.reduceLT, Nat.reduceLeDiff, put1_rd, put_rd, rd_zero, rd_succ, gB1, reduceCtorEq, res_cc, ldD_agg, List.map_cons, List.map_nil, fill_nil, Int.reduceEq, hb0', f124, callK_fun s108]
  refine Need.intro (feetB_ok rfl) ?_
  simp only [↓go1, gB0, reduceIte, Nat.reduceEqDiff, Nat.reduceAdd, Nat.reduceSub, Nat.reduceLT, Nat.reduceLeDiff, put1_rd, put_rd, rd_zero, rd_succ, gB1, reduceCtorEq, res_cc, ldD_agg, List.map_cons, List.map_nil, fill_nil, Int.reduceEq, hb0', f124, callK_fun s108]
  exact ⟨rfl, rfl⟩
end Go.Vd

namespace Go.Vd
open Go.RowKit
set_option maxRecDepth 10000
structure NO (m : Mem) (c : Sc) (k : Int) (ks : List D) (tk : Id) (ns : List D) (tn : Id) : Prop where
 s0 : m [0] 0 = some (.str c.s)
 s1 : m [0] 1 = some (.int .i64 (c.at_ : Int))
 s2 : m [0] 2 = some (.int .i64 c.bad)
 le : c.at_ ≤ c.s.length
 len : c.s.length ≤ 1000000
 z0 : m [1] 0 = some (.int .u8 0)
 z1 : m [1] 1 = some (.int .u64 0)
 z2 : m [1] 2 = some (.str [])
 z3 : m [1] 3 = some (.slice true [] [])
 z4 : m [1] 4 = some (.slice true [] [])
 y0 : m [2] 0 = some (.str [])
 y1 : m [2] 1 = some (.int .i64 0)
 y2 : m [2] 2 = some (.int .i64 0)
 a0 : m [36] 0 = some (.int .u8 k)
 a1 : m [36] 1 = some (.int .u64 0)
 a2 : m [36] 2 = some (.str [])
 a3 : m [36] 3 = some (.slice ks.isEmpty tk ks)
 a4 : m [36] 4 = some (.slice ns.isEmpty tn ns)
def Gk (m : Mem) (c e : Nat) (nl : Bool) (t : Id) : Prop := nl = true ∨ ∃ j, t = [j] ∧ 37 ≤ j ∧ j < c ∧ m t 0 = some (.tok (e + 1))
section
variable {m m' : Mem} {c c' : Sc} {k : Int} {ks ns : List D} {tk tn t : Id} {n n' e j f : Nat} {x : D} {nl : Bool}
theorem NO.keep (h : NO m c k ks tk ns tn) (h0 : ∀ o, m' [0] o = m [0] o) (h1 : ∀ o, m' [1] o = m [1] o) (h2 : ∀ o, m' [2] o = m [2] o) (h3 : ∀ o, m' [36] o = m [36] o) : NO m' c k ks tk ns tn :=
 ⟨by rw [h0, h.s0], by rw [h0, h.s1], by rw [h0, h.s2], h.le, h.len, by rw [h1, h.z0], by rw [h1, h.z1], by rw [h1, h.z2], by rw [h1, h.z3], by rw [h1, h.z4], by rw [h2, h.y0], by rw [h2, h.y1], by rw [h2, h.y2],
  by rw [h3, h.a0], by rw [h3, h.a1], by rw [h3, h.a2], by rw [h3, h.a3], by rw [h3, h.a4]⟩
theorem NO.put (h : NO m c k ks tk ns tn) {o : Nat} {ds : List D} (hj : 37 ≤ j) : NO (m.put [j] o ds) c k ks tk ns tn :=
 h.keep (fun o => Mem.put_other (by simp; omega)) (fun o => Mem.put_other (by simp; omega)) (fun o => Mem.put_other (by simp; omega)) (fun o => Mem.put_other (by simp; omega))
theorem NO.sc (h : NO m c k ks tk ns tn) (h1 : c'.at_ ≤ c'.s.length) (h2 : c'.s.length ≤ 1000000) : NO (m.put [0] 0 [.str c'.s, .int .i64 (c'.at_ : Int), .int .i64 c'.bad]) c' k ks tk ns tn := by
 have n1 : ([1] : Id) ≠ [0] := by simp
 have n2 : ([2] : Id) ≠ [0] := by simp
 have n3 : ([36] : Id) ≠ [0] := by simp
 exact ⟨by simp [put3_rd], by simp [put3_rd], by simp [put3_rd], h1, h2, by rw [Mem.put_other n1, h.z0], by rw [Mem.put_other n1, h.z1], by rw [Mem.put_other n1, h.z2], by rw [Mem.put_other n1, h.z3], by rw [Mem.put_other n1, h.z4],
  by rw [Mem.put_other n2, h.y0], by rw [Mem.put_other n2, h.y1], by rw [Mem.put_other n2, h.y2], by rw [Mem.put_other n3, h.a0], by rw [Mem.put_other n3, h.a1], by rw [Mem.put_other n3, h.a2], by rw [Mem.put_other n3, h.a3], by rw [Mem.put_other n3, h.a4]⟩
theorem NO.bad (h : NO m c k ks tk ns tn) {b : Int} : NO (m.put [0] 2 [.int .i64 b]) { c with bad := b } k ks tk ns tn := by
 have n1 : ([1] : Id) ≠ [0] := by simp
 have n2 : ([2] : Id) ≠ [0] := by simp
 have n3 : ([36] : Id) ≠ [0] := by simp
 exact ⟨by simp [put1_rd, h.s0], by simp [put1_rd, h.s1], by simp [put1_rd], h.le, h.len, by rw [Mem.put_other n1, h.z0], by rw [Mem.put_other n1, h.z1], by rw [Mem.put_other n1, h.z2], by rw [Mem.put_other n1, h.z3], by rw [Mem.put_other n1, h.z4],
  by rw [Mem.put_other n2, h.y0], by rw [Mem.put_other n2, h.y1], by rw [Mem.put_other n2, h.y2], by rw [Mem.put_other n3, h.a0], by rw [Mem.put_other n3, h.a1], by rw [Mem.put_other n3, h.a2], by rw [Mem.put_other n3, h.a3], by rw [Mem.put_other n3, h.a4]⟩
theorem Gk.toGrow {xs : List D} (h : Gk m n e nl t) : Grow m e (.slice nl t xs) := by
 rcases h with h | ⟨j, rfl, _, _, h⟩
 ·exact .inl h
 ·exact .inr ⟨h, by simp⟩
theorem Gk.more (h : Gk m n e nl t) (hc : n ≤ n') : Gk m n' e nl t := by
 rcases h with h | ⟨j, a, b, d, h⟩
 ·exact .inl h
 ·exact .inr ⟨j, a, b, by omega, h⟩
theorem Gk.put (h : Gk m n e nl t) {o : Nat} {ds : List D} (hj : n ≤ j) : Gk (m.put [j] o ds) n e nl t := by
 rcases h with h | ⟨i, rfl, a, b, h⟩
 ·exact .inl h
 ·exact .inr ⟨i, rfl, a, b, by rw [Mem.put_other (by simp; omega)]; exact h⟩
theorem Gk.low (h : Gk m n e nl t) {o : Nat} {ds : List D} (hj : j < 37) : Gk (m.put [j] o ds) n e nl t := by
 rcases h with h | ⟨i, rfl, a, b, h⟩
 ·exact .inl h
 ·exact .inr ⟨i, rfl, a, b, by rw [Mem.put_other (by simp; omega)]; exact h⟩
theorem Gk.keep {e' : Nat} {nl' : Bool} {t' : Id} {xs : List D} (h : Gk m n e nl t) (h' : Gk m n e' nl' t') (he : e ≠ e') (hf : n ≤ f) : Gk (Upd.app m (growU e' [f] (.slice nl' t' xs))) n e nl t := by
 rcases h with h | ⟨i, rfl, a, b, h⟩
 ·exact .inl h
 ·refine .inr ⟨i, rfl, a, b, ?_⟩
  rw [growU_rd, if_neg (by simp; omega), if_neg]
  ·exact h
  ·rintro ⟨q1, q2, _⟩
   rcases h' with h' | ⟨i', rfl, _, _, h'⟩
   ·rw [q1] at h'; cases h'
   ·rw [← q2, h] at h'
    simp at h'; omega
theorem Gk.new {t : Id} {xs : List D} (hf : 37 ≤ f) (hc : f < n) : Gk (Upd.app m (growU e [f] (.slice nl t xs))) n e false [f] :=
 .inr ⟨f, rfl, hf, hc, by rw [growU_rd, if_pos ⟨rfl, rfl⟩]⟩
theorem NO.grow (h : NO m c k ks tk ns tn) {xs : List D} (hg : Gk m n e nl t) (hf : 37 ≤ f) : NO (Upd.app m (growU e [f] (.slice nl t xs))) c k ks tk ns tn := by
 have key : ∀ i o, i < 37 → Upd.app m (growU e [f] (.slice nl t xs)) [i] o = m [i] o := by
  intro i o hi
  rw [growU_rd, if_neg (by simp; omega), if_neg]
  rintro ⟨q1, q2, _⟩
  rcases hg with h' | ⟨i', rfl, a, _, _⟩
  ·rw [q1] at h'; cases h'
  ·simp at q2; omega
 exact h.keep (fun o => key 0 o (by omega)) (fun o => key 1 o (by omega)) (fun o => key 2 o (by omega)) (fun o => key 36 o (by omega))
theorem NO.setK (h : NO m c k ks tk ns tn) {t' : Id} : NO (m.put [36] 3 [.slice false t' (ks ++ [x])]) c k (ks ++ [x]) t' ns tn := by
 have n0 : ([0] : Id) ≠ [36] := by simp
 have n1 : ([1] : Id) ≠ [36] := by simp
 have n2 : ([2] : Id) ≠ [36] := by simp
 exact ⟨by rw [Mem.put_other n0, h.s0], by rw [Mem.put_other n0, h.s1], by rw [Mem.put_other n0, h.s2], h.le, h.len, by rw [Mem.put_other n1, h.z0], by rw [Mem.put_other n1, h.z1], by rw [Mem.put_other n1, h.z2], by rw [Mem.put_other n1, h.z3], by rw [Mem.put_other n1, h.z4],
  by rw [Mem.put_other n2, h.y0], by rw [Mem.put_other n2, h.y1], by rw [Mem.put_other n2, h.y2], by simp [put1_rd, h.a0], by simp [put1_rd, h.a1], by simp [put1_rd, h.a2], by rw [isEmpty_snoc]; simp [put1_rd], by simp [put1_rd, h.a4]⟩
theorem NO.setN (h : NO m c k ks tk ns tn) {t' : Id} : NO (m.put [36] 4 [.slice false t' (ns ++ [x])]) c k ks tk (ns ++ [x]) t' := by
 have n0 : ([0] : Id) ≠ [36] := by simp
 have n1 : ([1] : Id) ≠ [36] := by simp
 have n2 : ([2] : Id) ≠ [36] := by simp
 exact ⟨by rw [Mem.put_other n0, h.s0], by rw [Mem.put_other n0, h.s1], by rw [Mem.put_other n0, h.s2], h.le, h.len, by rw [Mem.put_other n1, h.z0], by rw [Mem.put_other n1, h.z1], by rw [Mem.put_other n1, h.z2], by rw [Mem.put_other n1, h.z3], by rw [Mem.put_other n1, h.z4],
  by rw [Mem.put_other n2, h.y0], by rw [Mem.put_other n2, h.y1], by rw [Mem.put_other n2, h.y2], by simp [put1_rd, h.a0], by simp [put1_rd, h.a1], by simp [put1_rd, h.a2], by simp [put1_rd, h.a3], by rw [isEmpty_snoc]; simp [put1_rd]⟩
end
theorem ne_lit {a b k : Nat} (h : a < b + k) : (b + k = a) = False := eq_false (by omega)
theorem nodL_empty (l : List Tr) : (Tr.nodL l).isEmpty = l.isEmpty := by cases l <;> rfl
theorem nodP_empty (l : List (Bs × Tr)) : (Tr.nodP l).isEmpty = l.isEmpty := by cases l <;> rfl
theorem nodK_empty (l : List (Bs × Tr)) : (Tr.nodK l).isEmpty = l.isEmpty := by cases l <;> rfl
set_option maxHeartbeats 8000000 in
theorem loop88a {S : Summs} {kk : Nat} (s88 : S 88 = some (funS (F88 kk))) (hkk : kk ≤ 3) {N : Nat} (hN : N < 256) {c0 : Sc} {Q : Ex → St → Prop}
  (hexit : ∀ st c' acc tk tn, kidsA (oneV kk) N [] c0 = (.list acc, c') → st.s 12 = .ptr [36] 0 → st.s 2 = .ptr [0] 0 → st.s 4 = .ptr [1] 0 → st.s 5 = .ptr [2] 0 → NO st.m c' 4 (Tr.nodL acc) tk [] tn → Q (.exit 0) st) :
  ∀ (r i : Nat) (acc : List Tr) (c : Sc) (tk tn : Id) st g, i + r = N → acc.length = i → kidsA (oneV kk) N [] c0 = kidsA (oneV kk) r acc c →
   st.s 13 = .int .i64 (i : Int) → st.s 11 = .int .u64 (N : Int) → st.s 6 = .int .u64 5 → st.s 12 = .ptr [36] 0 → st.s 1 = .int .i64 (4 - ((kk + 1 : Nat) : Int)) → st.s 2 = .ptr [0] 0 → st.s 4 = .ptr [1] 0 → st.s 5 = .ptr [2] 0 → 37 ≤ st.c →
   NO st.m c 4 (Tr.nodL acc) tk [] tn → Gk st.m st.c 89 (Tr.nodL acc).isEmpty tk → loopW S [] dc88l0 Q st g := by
 intro r
 induction r with
 | zero =>
  intro i acc c tk tn st g hir hacc he h13 h11 h6 h12 h1 h2 h4 h5 hc I G
  refine wp_loopd dc88l0.eq_1 ?_
  have hwN : IntKind.i64.wrap (N : Int) = (N : Int) := u64i64 (by omega)
  have hlt : ((i : Int) < (N : Int)) = False := eq_false (by omega)
  simp (disch := omega) only [↓go1, gB0, reduceIte, Nat.reduceEqDiff, Nat.reduceAdd, Nat.reduceSub, Nat.reduceLT, Nat.reduceLeDiff, put1_rd, put_rd, growU_rd, rd_zero, rd_succ, gB1, reduceCtorEq, res_cc, ldD_agg, List.map_cons, List.map_nil, fill_nil, Int.reduceEq, lit_ne, ne_lit, h13, h11, h6, h12, h1, h2, h4, h5, hwN, hlt, I.s0, I.s1, I.s2, I.z0, I.z1, I.z2, I.z3, I.z4, I.y0, I.y1, I.y2, I.a0, I.a1, I.a2, I.a3, I.a4]
  exact hexit _ c acc tk tn he h12 h2 h4 h5 I
 | succ r ih =>
  intro i acc c tk tn st g hir hacc he h13 h11 h6 h12 h1 h2 h4 h5 hc I G
  refine wp_loopd dc88l0.eq_1 ?_
  have hwN : IntKind.i64.wrap (N : Int) = (N : Int) := u64i64 (by omega)
  have hlt : ((i : Int) < (N : Int)) = True := eq_true (by omega)
  by_cases hb0 : c.bad = 0
  ·have hb0' : (c.bad = 0) = True := eq_true hb0
   have hw : IntKind.i64.wrap ((i : Int) + 1) = ((i + 1 : Nat) : Int) := by rw [IntWalk.i64_in _ ⟨by omega, by omega⟩]; omega
   have hwd : IntKind.i64.wrap (4 - ((kk + 1 : Nat) : Int) + 1) = 4 - (kk : Int) := by rw [IntWalk.i64_in _ ⟨by omega, by omega⟩]; omega
   have he2 : kidsA (oneV kk) N [] c0 = kidsA (oneV kk) r (acc ++ [(oneV kk c).1]) (oneV kk c).2 := by
    rw [he]; simp only [kidsA]; rw [if_neg (by simp [hb0])]
   obtain ⟨e1, e2⟩ := Stays.oneV kk c I.le
   have hl2 : (oneV kk c).2.at_ ≤ (oneV kk c).2.s.length := by rw [e1]; exact e2
   have hl3 : (oneV kk c).2.s.length ≤ 1000000 := by rw [e1]; exact I.len
   have f88 : F88 kk [.agg [.str c.s, .int .i64 (c.at_ : Int), .int .i64 c.bad], .int .i64 (4 - (kk : Int))] = some (.tup [(oneV kk c).1.nod, .agg [.str (oneV kk c).2.s, .int .i64 ((oneV kk c).2.at_ : Int), .int .i64 (oneV kk c).2.bad]]) := by
    simp only [F88, scOf_of I.le I.len, Option.map_some, scD]
    rw [if_pos ⟨trivial, by omega⟩]
   have happ : Tr.nodL (acc ++ [(oneV kk c).1]) = Tr.nodL acc ++ [(oneV kk c).1.nod] := by rw [nodL_app]; rfl
   obtain ⟨a1, a2, a3, a4, a5, a6, a7, hnod⟩ := nod_agg (oneV kk c).1
   rw [hnod] at f88 happ
   have hnil : (Tr.nodL acc).isEmpty = true → Tr.nodL acc = [] := fun h => List.isEmpty_iff.1 h
   have hlen : (Tr.nodL acc).length ≤ 255 := by rw [nodL_len]; omega
   generalize oneV kk c = q at e1 e2 hl2 hl3 he2 f88 happ
   obtain ⟨v, c2⟩ := q
   simp only at e1 e2 hl2 hl3 he2 f88 happ
   simp (disch := omega) only [↓go1, gB0, reduceIte, Nat.reduceEqDiff, Nat.reduceAdd, Nat.reduceSub, Nat.reduceLT, Nat.reduceLeDiff, put1_rd, put_rd, growU_rd, rd_zero, rd_succ, gB1, reduceCtorEq, res_cc, ldD_agg, List.map_cons, List.map_nil, fill_nil, Int.reduceEq, lit_ne, ne_lit, h13, h11, h6, h12, h1, h2, h4, h5, hwN, hlt, I.s0, I.s1, I.s2, I.z0, I.z1, I.z2, I.z3, I.z4, I.y0, I.y1, I.y2, I.a0, I.a1, I.a2, I.a3, I.a4, hb0', hw, hwd, f88, callK_fun s88]
   have G1 : Gk (((((((st.m.put [st.c + 9 + 2 + 7] 0 [.int .u8 0, .int .u64 0, .str [], .slice true [] [], .slice true [] []]).put [st.c + 9 + 2 + 8] 0 [.str [], .int .i64 0, .int .i64 0]).put [st.c + 9 + 2 + 7] 0 [.int .u8 a1, .int .u64 a2, .str a3, .slice a4 [] a5, .slice a6 [] a7]).put [st.c + 9 + 2 + 8] 0 [.str c2.s, .int .i64 (c2.at_ : Int), .int .i64 c2.bad]).put [0] 0 [.str c2.s, .int .i64 (c2.at_ : Int), .int .i64 c2.bad]).put [st.c + 9 + 2 + 11 + 2 + 3] 0 [.tok 90])) st.c 89 (Tr.nodL acc).isEmpty tk :=
    Gk.put (Gk.low (Gk.put (Gk.put (Gk.put (Gk.put G (by omega)) (by omega)) (by omega)) (by omega)) (by omega)) (by omega)
   refine Need.intro ⟨by omega, rfl, G1.toGrow⟩ ?_
   rw [app_fold hnil]
   simp (disch := omega) only [↓go1, gB0, reduceIte, Nat.reduceEqDiff, Nat.reduceAdd, Nat.reduceSub, Nat.reduceLT, Nat.reduceLeDiff, put1_rd, put_rd, growU_rd, rd_zero, rd_succ, gB1, reduceCtorEq, res_cc, ldD_agg, List.map_cons, List.map_nil, fill_nil, Int.reduceEq, lit_ne, ne_lit, h13, h11, h6, h12, h1, h2, h4, h5, hwN, hlt, I.s0, I.s1, I.s2, I.z0, I.z1, I.z2, I.z3, I.z4, I.y0, I.y1, I.y2, I.a0, I.a1, I.a2, I.a3, I.a4, hb0', hw, hwd, f88, callK_fun s88]
   refine ih (i + 1) (acc ++ [v]) c2 [st.c + 9 + 2 + 11 + 2 + 4] tn _ _ (by omega) (by simp; omega) he2 rfl h11 h6 h12 h1 h2 h4 h5 (by simp only; omega) ?_ ?_
   ·rw [happ]
    exact NO.setK (NO.grow (NO.put (NO.sc (NO.put (NO.put (NO.put (NO.put I (by omega)) (by omega)) (by omega)) (by omega)) hl2 hl3) (by omega)) G1 (by omega))
   ·rw [happ, isEmpty_snoc]
    exact Gk.low (Gk.new (by omega) (by simp only; omega)) (by omega)
  ·have hb0' : (c.bad = 0) = False := eq_false hb0
   have he2 : kidsA (oneV kk) N [] c0 = (.list acc, c) := by
    rw [he]; simp only [kidsA]; rw [if_pos hb0]
   simp (disch := omega) only [↓go1, gB0, reduceIte, Nat.reduceEqDiff, Nat.reduceAdd, Nat.reduceSub, Nat.reduceLT, Nat.reduceLeDiff, put1_rd, put_rd, growU_rd, rd_zero, rd_succ, gB1, reduceCtorEq, res_cc, ldD_agg, List.map_cons, List.map_nil, fill_nil, Int.reduceEq, lit_ne, ne_lit, h13, h11, h6, h12, h1, h2, h4, h5, hwN, hlt, I.s0, I.s1, I.s2, I.z0, I.z1, I.z2, I.z3, I.z4, I.y0, I.y1, I.y2, I.a0, I.a1, I.a2, I.a3, I.a4, hb0']
   exact hexit _ c acc tk tn he2 h12 h2 h4 h5 I
end Go.Vd

namespace Go.Vd
open Go.RowKit
set_option maxRecDepth 10000
def dc88t : DC := (.seq (.row [⟨some 134, .load (some 3) (.t 2), [], none⟩, ⟨some 135, .mv (.t 1), [], none⟩, ⟨some 136, .bin .add (.t 135) (.c (.int .i64 1)), [], none⟩, ⟨some 137, .call (.c (.fn 88 [])) [(.t 134), (.t 136)], [], none⟩, ⟨some 133, .mv (.t 137), [], none⟩, ⟨some 138, .ext 0 (.t 133), [], none⟩, ⟨some 139, .ext 1 (.t 133), [], none⟩, ⟨some 16, .alloc [(.int .u8 0), (.int .u64 0), (.str []), (.slice true [] []), (.slice true [] [])], [], none⟩, ⟨some 17, .alloc [(.str []), (.int .i64 0), (.int .i64 0)], [], none⟩, ⟨none, .store 5 (.t 16) (.t 138), [], none⟩, ⟨none, .store 3 (.t 17) (.t 139), [], none⟩]) (.seq (.row [⟨some 140, .load (some 3) (.t 17), [], none⟩, ⟨none, .store 3 (.t 2) (.t 140), [], none⟩]) (.row [⟨some 141, .faddr 3 (.t 12), [], none⟩, ⟨some 142, .load none (.t 141), [], none⟩, ⟨some 143, .load (some 5) (.t 16), [], none⟩, ⟨some 144, .bslice 89 5 [(.t 143)], [], none⟩, ⟨some 145, .app 89 5 80 (.t 142) (.t 144), [], none⟩, ⟨some 146, .faddr 3 (.t 12), [], none⟩, ⟨none, .store 1 (.t 146) (.t 145), [], none⟩])))
theorem dc88l0_cut : dc88l0 = (.seq (.seq (.row [⟨some 85, .mv (.t 13), [], none⟩, ⟨some 86, .mv (.t 11), [], none⟩, ⟨some 87, .conv .i64 (.t 86), [], none⟩, ⟨some 88, .bin .lss (.t 85) (.t 87), [], none⟩, ⟨some 89, .mv (.t 88), [], none⟩, ⟨some 90, .faddr 2 (.t 2), [], some (4, true)⟩, ⟨some 91, .load none (.t 90), [], some (4, true)⟩, ⟨some 92, .bin .eql (.t 91) (.c (.int .i64 0)), [], some (4, true)⟩, ⟨some 93, .pick (.t 89) (.t 92) (.c (.bool false)), [], none⟩]) (.cond (.t 93) .skip (.exit 0))) (.seq (.block 1 (.seq (.seq (.row [⟨some 96, .mv (.t 6), [], none⟩, ⟨some 97, .bin .eql (.t 96) (.c (.int .u64 6)), [], none⟩]) (.cond (.t 97) (.seq (.row [⟨some 99, .load (some 3) (.t 2), [], none⟩, ⟨some 100, .call (.c (.fn 109 [])) [(.t 99)], [], none⟩, ⟨some 98, .mv (.t 100), [], none⟩, ⟨some 101, .ext 0 (.t 98), [], none⟩, ⟨some 102, .ext 1 (.t 98), [], none⟩, ⟨some 15, .alloc [(.str []), (.int .i64 0), (.int .i64 0)], [], none⟩, ⟨some 14, .mv (.t 101), [], none⟩, ⟨none, .store 3 (.t 15) (.t 102), [], none⟩]) (.seq (.row [⟨some 103, .load (some 3) (.t 15), [], none⟩, ⟨none, .store 3 (.t 2) (.t 103), [], none⟩]) (.seq (.seq (.row [⟨some 104, .faddr 2 (.t 2), [], none⟩, ⟨some 105, .load none (.t 104), [], none⟩, ⟨some 106, .bin .eql (.t 105) (.c (.int .i64 0)), [], none⟩, ⟨some 107, .mv (.t 106), [], none⟩, ⟨some 108, .mv (.t 13), [], some (3, true)⟩, ⟨some 109, .bin .gtr (.t 108) (.c (.int .i64 0)), [], some (3, true)⟩, ⟨some 110, .pick (.t 107) (.t 109) (.c (.bool false)), [], none⟩, ⟨some 111, .mv (.t 110), [], none⟩, ⟨some 112, .faddr 4 (.t 12), [], some (7, true)⟩, ⟨some 113, .load none (.t 112), [], some (7, true)⟩, ⟨some 114, .mv (.t 13), [], some (7, true)⟩, ⟨some 115, .bin .sub (.t 114) (.c (.int .i64 1)), [], some (7, true)⟩, ⟨some 116, .iaddr 1 (.t 113) (.t 115), [], some (7, true)⟩, ⟨some 117, .load none (.t 116), [], some (7, true)⟩, ⟨some 118, .mv (.t 14), [], some (7, true)⟩, ⟨some 119, .bin .geq (.t 117) (.t 118), [], some (7, true)⟩, ⟨some 120, .pick (.t 111) (.t 119) (.c (.bool false)), [], none⟩]) (.cond (.t 120) (.row [⟨some 121, .faddr 2 (.t 2), [], none⟩, ⟨none, .store 1 (.t 121) (.c (.int .i64 4)), [], none⟩]) .skip)) (.seq (.seq (.row [⟨some 122, .faddr 2 (.t 2), [], none⟩, ⟨some 123, .load none (.t 122), [], none⟩, ⟨some 124, .bin .neq (.t 123) (.c (.int .i64 0)), [], none⟩]) (.cond (.t 124) (.seq (.drawn [⟨some 125, .build [(.int .u8 0), (.int .u64 0), (.str []), (.slice true [] []), (.slice true [] [])] [], [], none⟩, ⟨some 126, .load (some 3) (.t 2), [], none⟩, ⟨none, .store 5 (.t 4) (.t 125), [], none⟩, ⟨none, .store 3 (.t 5) (.t 126), [], none⟩] [(2, 1)]) .ret) .skip)) (.row [⟨some 127, .faddr 4 (.t 12), [], none⟩, ⟨some 128, .load none (.t 127), [], none⟩, ⟨some 129, .mv (.t 14), [], none⟩, ⟨some 130, .bslice 9 1 [(.t 129)], [], none⟩, ⟨some 131, .app 9 1 16 (.t 128) (.t 130), [], none⟩, ⟨some 132, .faddr 4 (.t 12), [], none⟩, ⟨none, .store 1 (.t 132) (.t 131), [], none⟩]))))) .skip)) dc88t)) (.row [⟨some 94, .mv (.t 13), [], none⟩, ⟨some 95, .bin .add (.t 94) (.c (.int .i64 1)), [], none⟩, ⟨some 13, .mv (.t 95), [], none⟩]))) := rfl
theorem Gk.nlow {m : Mem} {n e j : Nat} {nl : Bool} {t : Id} (h : Gk m n e nl t) (hj : j < 37) : (nl = false ∧ [j] = t) = False := by
 refine eq_false (fun ⟨a, b⟩ => ?_)
 rcases h with h | ⟨i, rfl, q, _⟩
 ·rw [a] at h; cases h
 ·simp at b; omega
set_option maxHeartbeats 8000000 in
theorem tail88 {S : Summs} {kk : Nat} (s88 : S 88 = some (funS (F88 kk))) (hkk : kk ≤ 3) {c1 c2 : Sc} {v : Tr} {k : Int} {ks ns : List D} {tk tn : Id} {X Y Z W V : D} {st : St} {Q : Ex → St → Prop} (hone : oneV kk c1 = (v, c2)) (hlen : ks.length ≤ 1000)
  (h13 : st.s 13 = X) (h11 : st.s 11 = Y) (h6 : st.s 6 = Z) (h12 : st.s 12 = .ptr [36] 0) (h1 : st.s 1 = .int .i64 (4 - ((kk + 1 : Nat) : Int))) (h2 : st.s 2 = .ptr [0] 0) (h4 : st.s 4 = W) (h5 : st.s 5 = V) (hc : 37 ≤ st.c)
  (I : NO st.m c1 k ks tk ns tn) (G : Gk st.m st.c 89 ks.isEmpty tk) (G' : Gk st.m st.c 9 ns.isEmpty tn)
  (hQ : ∀ st' tk', st'.s 13 = X → st'.s 11 = Y → st'.s 6 = Z → st'.s 12 = .ptr [36] 0 → st'.s 1 = .int .i64 (4 - ((kk + 1 : Nat) : Int)) → st'.s 2 = .ptr [0] 0 → st'.s 4 = W → st'.s 5 = V → 37 ≤ st'.c → NO st'.m c2 k (ks ++ [v.nod]) tk' ns tn → Gk st'.m st'.c 89 false tk' → Gk st'.m st'.c 9 ns.isEmpty tn → Q .normal st') : dc88t.wp S [] Q st := by
 have hwd : IntKind.i64.wrap (4 - ((kk + 1 : Nat) : Int) + 1) = 4 - (kk : Int) := by rw [IntWalk.i64_in _ ⟨by omega, by omega⟩]; omega
 obtain ⟨e1, e2⟩ := Stays.oneV kk c1 I.le
 have hl2 : (oneV kk c1).2.at_ ≤ (oneV kk c1).2.s.length := by rw [e1]; exact e2
 have hl3 : (oneV kk c1).2.s.length ≤ 1000000 := by rw [e1]; exact I.len
 have f88 : F88 kk [.agg [.str c1.s, .int .i64 (c1.at_ : Int), .int .i64 c1.bad], .int .i64 (4 - (kk : Int))] = some (.tup [(oneV kk c1).1.nod, .agg [.str (oneV kk c1).2.s, .int .i64 ((oneV kk c1).2.at_ : Int), .int .i64 (oneV kk c1).2.bad]]) := by
  simp only [F88, scOf_of I.le I.len, Option.map_some, scD]
  rw [if_pos ⟨trivial, by omega⟩]
 rw [hone] at f88 hl2 hl3
 simp only at f88 hl2 hl3
 obtain ⟨a1, a2, a3, a4, a5, a6, a7, hnod⟩ := nod_agg v
 rw [hnod] at f88 hQ
 have hnil : ks.isEmpty = true → ks = [] := fun h => List.isEmpty_iff.1 h
 unfold dc88t
 simp (disch := omega) only [↓go1, gB0, reduceIte, Nat.reduceEqDiff, Nat.reduceAdd, Nat.reduceSub, Nat.reduceLT, Nat.reduceLeDiff, put1_rd, put_rd, growU_rd, rd_zero, rd_succ, gB1, reduceCtorEq, res_cc, ldD_agg, List.map_cons, List.map_nil, fill_nil, Int.reduceEq, lit_ne, ne_lit, h13, h11, h6, h12, h1, h2, h4, h5, I.s0, I.s1, I.s2, I.z0, I.z1, I.z2, I.z3, I.z4, I.y0, I.y1, I.y2, I.a0, I.a1, I.a2, I.a3, I.a4, hwd, f88, callK_fun s88]
 have G1 : Gk (((((((st.m.put [st.c + 7] 0 [.int .u8 0, .int .u64 0, .str [], .slice true [] [], .slice true [] []]).put [st.c + 8] 0 [.str [], .int .i64 0, .int .i64 0]).put [st.c + 7] 0 [.int .u8 a1, .int .u64 a2, .str a3, .slice a4 [] a5, .slice a6 [] a7]).put [st.c + 8] 0 [.str c2.s, .int .i64 (c2.at_ : Int), .int .i64 c2.bad]).put [0] 0 [.str c2.s, .int .i64 (c2.at_ : Int), .int .i64 c2.bad]).put [st.c + 11 + 2 + 3] 0 [.tok 90])) st.c 89 ks.isEmpty tk :=
  Gk.put (Gk.low (Gk.put (Gk.put (Gk.put (Gk.put G (by omega)) (by omega)) (by omega)) (by omega)) (by omega)) (by omega)
 have G2 : Gk (((((((st.m.put [st.c + 7] 0 [.int .u8 0, .int .u64 0, .str [], .slice true [] [], .slice true [] []]).put [st.c + 8] 0 [.str [], .int .i64 0, .int .i64 0]).put [st.c + 7] 0 [.int .u8 a1, .int .u64 a2, .str a3, .slice a4 [] a5, .slice a6 [] a7]).put [st.c + 8] 0 [.str c2.s, .int .i64 (c2.at_ : Int), .int .i64 c2.bad]).put [0] 0 [.str c2.s, .int .i64 (c2.at_ : Int), .int .i64 c2.bad]).put [st.c + 11 + 2 + 3] 0 [.tok 90])) st.c 9 ns.isEmpty tn :=
  Gk.put (Gk.low (Gk.put (Gk.put (Gk.put (Gk.put G' (by omega)) (by omega)) (by omega)) (by omega)) (by omega)) (by omega)
 refine Need.intro ⟨by omega, rfl, G1.toGrow⟩ ?_
 rw [app_fold hnil]
 simp (disch := omega) only [↓go1, gB0, reduceIte, Nat.reduceEqDiff, Nat.reduceAdd, Nat.reduceSub, Nat.reduceLT, Nat.reduceLeDiff, put1_rd, put_rd, growU_rd, rd_zero, rd_succ, gB1, reduceCtorEq, res_cc, ldD_agg, List.map_cons, List.map_nil, fill_nil, Int.reduceEq, lit_ne, ne_lit, h13, h11, h6, h12, h1, h2, h4, h5, I.s0, I.s1, I.s2, I.z0, I.z1, I.z2, I.z3, I.z4, I.y0, I.y1, I.y2, I.a0, I.a1, I.a2, I.a3, I.a4, hwd, f88, callK_fun s88]
 refine hQ _ [st.c + 11 + 2 + 4] h13 h11 h6 h12 h1 h2 h4 h5 (by simp only; omega) ?_ ?_ ?_
 ·exact NO.setK (NO.grow (NO.put (NO.sc (NO.put (NO.put (NO.put (NO.put I (by omega)) (by omega)) (by omega)) (by omega)) hl2 hl3) (by omega)) G1 (by omega))
 ·exact Gk.low (Gk.new (by omega) (by simp only; omega)) (by omega)
 ·exact Gk.more (Gk.low (Gk.keep G2 G1 (by decide) (by omega)) (by omega)) (by simp only; omega)
set_option maxHeartbeats 16000000 in
theorem loop88b {S : Summs} {kk : Nat} (s88 : S 88 = some (funS (F88 kk))) (s109 : S 109 = some (funS F125)) (hkk : kk ≤ 3) {N : Nat} (hN : N < 256) {c0 : Sc} {Q : Ex → St → Prop}
  (hret : ∀ st c', kidsB (oneV kk) N [] c0 = (.nil, c') → ldD st.m (some 5) (st.s 4) = some Tr.nil.nod → ldD st.m (some 3) (st.s 5) = some (scD c') → Q .ret st)
  (hexit : ∀ st c' acc tk tn, kidsB (oneV kk) N [] c0 = (.pairs acc, c') → st.s 12 = .ptr [36] 0 → st.s 2 = .ptr [0] 0 → st.s 4 = .ptr [1] 0 → st.s 5 = .ptr [2] 0 → NO st.m c' 5 (Tr.nodP acc) tk (Tr.nodK acc) tn → Q (.exit 0) st) :
  ∀ (r i : Nat) (acc : List (Bs × Tr)) (c : Sc) (tk tn : Id) st g, i + r = N → acc.length = i → kidsB (oneV kk) N [] c0 = kidsB (oneV kk) r acc c →
   st.s 13 = .int .i64 (i : Int) → st.s 11 = .int .u64 (N : Int) → st.s 6 = .int .u64 6 → st.s 12 = .ptr [36] 0 → st.s 1 = .int .i64 (4 - ((kk + 1 : Nat) : Int)) → st.s 2 = .ptr [0] 0 → st.s 4 = .ptr [1] 0 → st.s 5 = .ptr [2] 0 → 37 ≤ st.c →
   NO st.m c 5 (Tr.nodP acc) tk (Tr.nodK acc) tn → Gk st.m st.c 89 (Tr.nodP acc).isEmpty tk → Gk st.m st.c 9 (Tr.nodK acc).isEmpty tn → loopW S [] dc88l0 Q st g := by
 intro r
 induction r with
 | zero =>
  intro i acc c tk tn st g hir hacc he h13 h11 h6 h12 h1 h2 h4 h5 hc I G G'
  refine wp_loopd dc88l0_cut ?_
  have hwN : IntKind.i64.wrap (N : Int) = (N : Int) := u64i64 (by omega)
  have hlt : ((i : Int) < (N : Int)) = False := eq_false (by omega)
  simp (disch := omega) only [↓go1, gB0, reduceIte, Nat.reduceEqDiff, Nat.reduceAdd, Nat.reduceSub, Nat.reduceLT, Nat.reduceLeDiff, put1_rd, put_rd, growU_rd, rd_zero, rd_succ, gB1, reduceCtorEq, res_cc, ldD_agg, List.map_cons, List.map_nil, fill_nil, Int.reduceEq, lit_ne, ne_lit, h13, h11, h6, h12, h1, h2, h4, h5, hwN, hlt, I.s0, I.s1, I.s2, I.z0, I.z1, I.z2, I.z3, I.z4, I.y0, I.y1, I.y2, I.a0, I.a1, I.a2, I.a3, I.a4]
  exact hexit _ c acc tk tn he h12 h2 h4 h5 I
 | succ r ih =>
  intro i acc c tk tn st g hir hacc he h13 h11 h6 h12 h1 h2 h4 h5 hc I G G'
  refine wp_loopd dc88l0_cut ?_
  have hwN : IntKind.i64.wrap (N : Int) = (N : Int) := u64i64 (by omega)
  have hlt : ((i : Int) < (N : Int)) = True := eq_true (by omega)
  by_cases hb0 : c.bad = 0
  ·have hb0' : (c.bad = 0) = True := eq_true hb0
   have hw : IntKind.i64.wrap ((i : Int) + 1) = ((i + 1 : Nat) : Int) := by rw [IntWalk.i64_in _ ⟨by omega, by omega⟩]; omega
   have hwd : IntKind.i64.wrap (4 - ((kk + 1 : Nat) : Int) + 1) = 4 - (kk : Int) := by rw [IntWalk.i64_in _ ⟨by omega, by omega⟩]; omega
   obtain ⟨r1, r2, r3, r4⟩ := rowS_inv I.le
   have f125 : F125 [.agg [.str c.s, .int .i64 (c.at_ : Int), .int .i64 c.bad]] = some (.tup [.str (rowS c).1, .agg [.str (rowS c).2.s, .int .i64 ((rowS c).2.at_ : Int), .int .i64 (rowS c).2.bad]]) := by
    simp only [F125, scOf_of I.le I.len, Option.map_some, scD]
   have he2 : kidsB (oneV kk) N [] c0 = (if (if (rowS c).2.bad = 0 ∧ lastB acc (rowS c).1 = true then { (rowS c).2 with bad := 4 } else (rowS c).2).bad ≠ 0 then (.nil, if (rowS c).2.bad = 0 ∧ lastB acc (rowS c).1 = true then { (rowS c).2 with bad := 4 } else (rowS c).2) else kidsB (oneV kk) r (acc ++ [((rowS c).1, (oneV kk (if (rowS c).2.bad = 0 ∧ lastB acc (rowS c).1 = true then { (rowS c).2 with bad := 4 } else (rowS c).2)).1)]) (oneV kk (if (rowS c).2.bad = 0 ∧ lastB acc (rowS c).1 = true then { (rowS c).2 with bad := 4 } else (rowS c).2)).2) := by
    rw [he]; simp only [kidsB]; rw [if_neg (by simp [hb0])]
   have hl2 : (rowS c).2.at_ ≤ (rowS c).2.s.length := by rw [r1]; exact r2
   have hl3 : (rowS c).2.s.length ≤ 1000000 := by rw [r1]; exact I.len
   generalize rowS c = q at r1 r2 r3 r4 he2 f125 hl2 hl3
   obtain ⟨s, c1⟩ := q
   simp only at r1 r2 r3 r4 he2 f125 hl2 hl3
   by_cases hb1 : c1.bad = 0
   ·have hb1' : (c1.bad = 0) = True := eq_true hb1
    have hnilK : (Tr.nodK acc).isEmpty = true → Tr.nodK acc = [] := fun h => List.isEmpty_iff.1 h
    have hnilP : (Tr.nodP acc).isEmpty = true → Tr.nodP acc = [] := fun h => List.isEmpty_iff.1 h
    have hlenK : (Tr.nodK acc).length ≤ 255 := by rw [nodK_len]; omega
    have hlenP : (Tr.nodP acc).length ≤ 255 := by rw [nodP_len]; omega
    by_cases hlast : lastB acc s = true
    ·obtain ⟨i', rfl⟩ : ∃ i', i = i' + 1 := by
      cases i with
      | zero => rw [List.eq_nil_of_length_eq_zero hacc] at hlast; simp [lastB] at hlast
      | succ i => exact ⟨i, rfl⟩
     have hcmp := lastB_get (s := s) hacc
     rw [hlast] at hcmp
     have hif : (if c1.bad = 0 ∧ lastB acc s = true then ({ c1 with bad := 4 } : Sc) else c1) = { c1 with bad := 4 } := if_pos ⟨hb1, hlast⟩
     rw [hif, if_pos (show (4 : Int) ≠ 0 by decide)] at he2
     have hgt : ((0 : Int) < ((i' + 1 : Nat) : Int)) = True := eq_true (by omega)
     have hwm : IntKind.i64.wrap (((i' + 1 : Nat) : Int) - 1) = (i' : Int) := by rw [IntWalk.i64_in _ ⟨by omega, by omega⟩]; omega
     have hi0 : ((0 : Int) ≤ (i' : Int)) := by omega
     have hx : (Tr.nodK acc)[((i' : Int)).toNat]? = some (.str (acc[i']'(by omega)).1) := by
      rw [Int.toNat_natCast]; exact nodK_get (by omega)
     simp (disch := omega) only [↓go1, gB0, reduceIte, Nat.reduceEqDiff, Nat.reduceAdd, Nat.reduceSub, Nat.reduceLT, Nat.reduceLeDiff, put1_rd, put_rd, growU_rd, rd_zero, rd_succ, gB1, reduceCtorEq, res_cc, ldD_agg, List.map_cons, List.map_nil, fill_nil, Int.reduceEq, lit_ne, ne_lit, h13, h11, h6, h12, h1, h2, h4, h5, hwN, hlt, I.s0, I.s1, I.s2, I.z0, I.z1, I.z2, I.z3, I.z4, I.y0, I.y1, I.y2, I.a0, I.a1, I.a2, I.a3, I.a4, hb0', hb1', f125, hgt, hwm, hi0, hx, v_sgeq, ← hcmp, callK_fun s109]
     refine Need.intro (fun p hp w hw' => ?_) ?_
     ·simp only [List.mem_cons, List.mem_nil_iff, or_false] at hp
      subst hp
      simp only [List.getD_cons_succ, List.getD_cons_zero, wlocs, rds] at hw' ⊢
      simp only [↓go1, go2, go3, go4, reduceIte, Nat.reduceEqDiff, h2, h4, h5] at hw' ⊢
      exact feet_one (by simp) hw'
     simp (disch := omega) only [↓go1, gB0, reduceIte, Nat.reduceEqDiff, Nat.reduceAdd, Nat.reduceSub, Nat.reduceLT, Nat.reduceLeDiff, put1_rd, put_rd, growU_rd, rd_zero, rd_succ, gB1, reduceCtorEq, res_cc, ldD_agg, List.map_cons, List.map_nil, fill_nil, Int.reduceEq, lit_ne, ne_lit, h13, h11, h6, h12, h1, h2, h4, h5, hwN, hlt, I.s0, I.s1, I.s2, I.z0, I.z1, I.z2, I.z3, I.z4, I.y0, I.y1, I.y2, I.a0, I.a1, I.a2, I.a3, I.a4, hb0', hb1', f125, hgt, hwm, hi0, hx, v_sgeq, ← hcmp, callK_fun s109]
     refine hret _ _ he2 ?_ ?_
     ·simp (disch := omega) only [↓go1, gB0, reduceIte, Nat.reduceEqDiff, Nat.reduceAdd, Nat.reduceSub, Nat.reduceLT, Nat.reduceLeDiff, put1_rd, put_rd, growU_rd, rd_zero, rd_succ, gB1, reduceCtorEq, res_cc, ldD_agg, List.map_cons, List.map_nil, fill_nil, Int.reduceEq, lit_ne, ne_lit, h13, h11, h6, h12, h1, h2, h4, h5]
      rfl
     ·simp (disch := omega) only [↓go1, gB0, reduceIte, Nat.reduceEqDiff, Nat.reduceAdd, Nat.reduceSub, Nat.reduceLT, Nat.reduceLeDiff, put1_rd, put_rd, growU_rd, rd_zero, rd_succ, gB1, reduceCtorEq, res_cc, ldD_agg, List.map_cons, List.map_nil, fill_nil, Int.reduceEq, lit_ne, ne_lit, h13, h11, h6, h12, h1, h2, h4, h5]
      rfl
    ·have hnl : lastB acc s = false := by simpa using hlast
     simp only [hnl, Bool.false_eq_true, and_false, if_false] at he2
     rw [if_neg (by simp [hb1])] at he2
     have happP : Tr.nodP (acc ++ [(s, (oneV kk c1).1)]) = Tr.nodP acc ++ [(oneV kk c1).1.nod] := by rw [nodP_app]; rfl
     have happK : Tr.nodK (acc ++ [(s, (oneV kk c1).1)]) = Tr.nodK acc ++ [.str s] := by rw [nodK_app]; rfl
     generalize hone : oneV kk c1 = q at he2 happP happK
     obtain ⟨v, c2⟩ := q
     simp only at he2 happP happK
     by_cases hi : i = 0
     ·have hgt : ((0 : Int) < (i : Int)) = False := eq_false (by omega)
      simp (disch := omega) only [↓go1, gB0, reduceIte, Nat.reduceEqDiff, Nat.reduceAdd, Nat.reduceSub, Nat.reduceLT, Nat.reduceLeDiff, put1_rd, put_rd, growU_rd, rd_zero, rd_succ, gB1, reduceCtorEq, res_cc, ldD_agg, List.map_cons, List.map_nil, fill_nil, Int.reduceEq, lit_ne, ne_lit, h13, h11, h6, h12, h1, h2, h4, h5, hwN, hlt, I.s0, I.s1, I.s2, I.z0, I.z1, I.z2, I.z3, I.z4, I.y0, I.y1, I.y2, I.a0, I.a1, I.a2, I.a3, I.a4, hb0', hb1', f125, hgt, callK_fun s109]
      have G1 : Gk ((((st.m.put [st.c + 9 + 2 + 5] 0 [.str [], .int .i64 0, .int .i64 0]).put [st.c + 9 + 2 + 5] 0 [.str c1.s, .int .i64 (c1.at_ : Int), .int .i64 c1.bad]).put [0] 0 [.str c1.s, .int .i64 (c1.at_ : Int), .int .i64 c1.bad]).put [st.c + 9 + 2 + 8 + 2 + 17 + 3 + 3] 0 [.tok 10]) st.c 9 (Tr.nodK acc).isEmpty tn :=
       Gk.put (Gk.low (Gk.put (Gk.put G' (by omega)) (by omega)) (by omega)) (by omega)
      have G2 : Gk ((((st.m.put [st.c + 9 + 2 + 5] 0 [.str [], .int .i64 0, .int .i64 0]).put [st.c + 9 + 2 + 5] 0 [.str c1.s, .int .i64 (c1.at_ : Int), .int .i64 c1.bad]).put [0] 0 [.str c1.s, .int .i64 (c1.at_ : Int), .int .i64 c1.bad]).put [st.c + 9 + 2 + 8 + 2 + 17 + 3 + 3] 0 [.tok 10]) st.c 89 (Tr.nodP acc).isEmpty tk :=
       Gk.put (Gk.low (Gk.put (Gk.put G (by omega)) (by omega)) (by omega)) (by omega)
      have G3 := Gk.keep (f := st.c + 9 + 2 + 8 + 2 + 17 + 3 + 4) (xs := Tr.nodK acc) G2 G1 (by decide) (by omega)
      refine Need.intro ⟨by omega, rfl, G1.toGrow⟩ ?_
      rw [app_fold hnilK]
      simp (disch := omega) only [↓go1, gB0, reduceIte, Nat.reduceEqDiff, Nat.reduceAdd, Nat.reduceSub, Nat.reduceLT, Nat.reduceLeDiff, put1_rd, put_rd, growU_rd, rd_zero, rd_succ, gB1, reduceCtorEq, res_cc, ldD_agg, List.map_cons, List.map_nil, fill_nil, Int.reduceEq, lit_ne, ne_lit, h13, h11, h6, h12, h1, h2, h4, h5, hwN, hlt, I.s0, I.s1, I.s2, I.z0, I.z1, I.z2, I.z3, I.z4, I.y0, I.y1, I.y2, I.a0, I.a1, I.a2, I.a3, I.a4, hb0', hb1', f125, hgt, callK_fun s109]
      refine tail88 s88 hkk (c1 := c1) (c2 := c2) (v := v) (k := 5) (ks := Tr.nodP acc) (ns := Tr.nodK acc ++ [.str s]) (tk := tk) (tn := [st.c + 9 + 2 + 8 + 2 + 17 + 3 + 4]) hone (by omega) h13 h11 h6 h12 h1 h2 h4 h5 (by simp only; omega) ?_ ?_ ?_ ?_
      ·exact NO.setN (NO.grow (NO.put (NO.sc (NO.put (NO.put I (by omega)) (by omega)) hl2 hl3) (by omega)) G1 (by omega))
      ·exact Gk.more (Gk.low G3 (by omega)) (by simp only; omega)
      ·rw [isEmpty_snoc]
       exact Gk.low (Gk.new (by omega) (by simp only; omega)) (by omega)
      ·intro st' tk' k13 k11 k6 k12 k1 k2 k4 k5 kc kI kG kG'
       simp (disch := omega) only [↓go1, gB0, reduceIte, Nat.reduceEqDiff, Nat.reduceAdd, Nat.reduceSub, Nat.reduceLT, Nat.reduceLeDiff, put1_rd, put_rd, growU_rd, rd_zero, rd_succ, gB1, reduceCtorEq, res_cc, ldD_agg, List.map_cons, List.map_nil, fill_nil, Int.reduceEq, lit_ne, ne_lit, k13, hw]
       refine ih (i + 1) (acc ++ [(s, v)]) c2 tk' [st.c + 9 + 2 + 8 + 2 + 17 + 3 + 4] _ _ (by omega) (by simp; omega) he2 rfl k11 k6 k12 k1 k2 k4 k5 (by simp only; omega) ?_ ?_ ?_
       ·rw [happP, happK]; exact kI.keep (fun _ => rfl) (fun _ => rfl) (fun _ => rfl) (fun _ => rfl)
       ·rw [happP, isEmpty_snoc]; exact kG.more (by simp only; omega)
       ·rw [happK]; exact kG'.more (by simp only; omega)
     ·obtain ⟨i', rfl⟩ : ∃ i', i = i' + 1 := ⟨i - 1, by omega⟩
      have hcmp := lastB_get (s := s) hacc
      rw [hnl] at hcmp
      have hgt : ((0 : Int) < ((i' + 1 : Nat) : Int)) = True := eq_true (by omega)
      have hwm : IntKind.i64.wrap (((i' + 1 : Nat) : Int) - 1) = (i' : Int) := by rw [IntWalk.i64_in _ ⟨by omega, by omega⟩]; omega
      have hi0 : ((0 : Int) ≤ (i' : Int)) := by omega
      have hx : (Tr.nodK acc)[((i' : Int)).toNat]? = some (.str (acc[i']'(by omega)).1) := by
       rw [Int.toNat_natCast]; exact nodK_get (by omega)
      simp (disch := omega) only [↓go1, gB0, reduceIte, Nat.reduceEqDiff, Nat.reduceAdd, Nat.reduceSub, Nat.reduceLT, Nat.reduceLeDiff, put1_rd, put_rd, growU_rd, rd_zero, rd_succ, gB1, reduceCtorEq, res_cc, ldD_agg, List.map_cons, List.map_nil, fill_nil, Int.reduceEq, lit_ne, ne_lit, h13, h11, h6, h12, h1, h2, h4, h5, hwN, hlt, I.s0, I.s1, I.s2, I.z0, I.z1, I.z2, I.z3, I.z4, I.y0, I.y1, I.y2, I.a0, I.a1, I.a2, I.a3, I.a4, hb0', hb1', f125, hgt, hwm, hi0, hx, v_sgeq, ← hcmp, callK_fun s109]
      have G1 : Gk ((((st.m.put [st.c + 9 + 2 + 5] 0 [.str [], .int .i64 0, .int .i64 0]).put [st.c + 9 + 2 + 5] 0 [.str c1.s, .int .i64 (c1.at_ : Int), .int .i64 c1.bad]).put [0] 0 [.str c1.s, .int .i64 (c1.at_ : Int), .int .i64 c1.bad]).put [st.c + 9 + 2 + 8 + 2 + 17 + 3 + 3] 0 [.tok 10]) st.c 9 (Tr.nodK acc).isEmpty tn :=
       Gk.put (Gk.low (Gk.put (Gk.put G' (by omega)) (by omega)) (by omega)) (by omega)
      have G2 : Gk ((((st.m.put [st.c + 9 + 2 + 5] 0 [.str [], .int .i64 0, .int .i64 0]).put [st.c + 9 + 2 + 5] 0 [.str c1.s, .int .i64 (c1.at_ : Int), .int .i64 c1.bad]).put [0] 0 [.str c1.s, .int .i64 (c1.at_ : Int), .int .i64 c1.bad]).put [st.c + 9 + 2 + 8 + 2 + 17 + 3 + 3] 0 [.tok 10]) st.c 89 (Tr.nodP acc).isEmpty tk :=
       Gk.put (Gk.low (Gk.put (Gk.put G (by omega)) (by omega)) (by omega)) (by omega)
      have G3 := Gk.keep (f := st.c + 9 + 2 + 8 + 2 + 17 + 3 + 4) (xs := Tr.nodK acc) G2 G1 (by decide) (by omega)
      refine Need.intro ⟨by omega, rfl, G1.toGrow⟩ ?_
      rw [app_fold hnilK]
      simp (disch := omega) only [↓go1, gB0, reduceIte, Nat.reduceEqDiff, Nat.reduceAdd, Nat.reduceSub, Nat.reduceLT, Nat.reduceLeDiff, put1_rd, put_rd, growU_rd, rd_zero, rd_succ, gB1, reduceCtorEq, res_cc, ldD_agg, List.map_cons, List.map_nil, fill_nil, Int.reduceEq, lit_ne, ne_lit, h13, h11, h6, h12, h1, h2, h4, h5, hwN, hlt, I.s0, I.s1, I.s2, I.z0, I.z1, I.z2, I.z3, I.z4, I.y0, I.y1, I.y2, I.a0, I.a1, I.a2, I.a3, I.a4, hb0', hb1', f125, hgt, hwm, hi0, hx, v_sgeq, ← hcmp, callK_fun s109]
      refine tail88 s88 hkk (c1 := c1) (c2 := c2) (v := v) (k := 5) (ks := Tr.nodP acc) (ns := Tr.nodK acc ++ [.str s]) (tk := tk) (tn := [st.c + 9 + 2 + 8 + 2 + 17 + 3 + 4]) hone (by omega) h13 h11 h6 h12 h1 h2 h4 h5 (by simp only; omega) ?_ ?_ ?_ ?_
      ·exact NO.setN (NO.grow (NO.put (NO.sc (NO.put (NO.put I (by omega)) (by omega)) hl2 hl3) (by omega)) G1 (by omega))
      ·exact Gk.more (Gk.low G3 (by omega)) (by simp only; omega)
      ·rw [isEmpty_snoc]
       exact Gk.low (Gk.new (by omega) (by simp only; omega)) (by omega)
      ·intro st' tk' k13 k11 k6 k12 k1 k2 k4 k5 kc kI kG kG'
       simp (disch := omega) only [↓go1, gB0, reduceIte, Nat.reduceEqDiff, Nat.reduceAdd, Nat.reduceSub, Nat.reduceLT, Nat.reduceLeDiff, put1_rd, put_rd, growU_rd, rd_zero, rd_succ, gB1, reduceCtorEq, res_cc, ldD_agg, List.map_cons, List.map_nil, fill_nil, Int.reduceEq, lit_ne, ne_lit, k13, hw]
       refine ih (i' + 1 + 1) (acc ++ [(s, v)]) c2 tk' [st.c + 9 + 2 + 8 + 2 + 17 + 3 + 4] _ _ (by omega) (by simp; omega) he2 rfl k11 k6 k12 k1 k2 k4 k5 (by simp only; omega) ?_ ?_ ?_
       ·rw [happP, happK]; exact kI.keep (fun _ => rfl) (fun _ => rfl) (fun _ => rfl) (fun _ => rfl)
       ·rw [happP, isEmpty_snoc]; exact kG.more (by simp only; omega)
       ·rw [happK]; exact kG'.more (by simp only; omega)
   ·have hb1' : (c1.bad = 0) = False := eq_false hb1
    have hif : (if c1.bad = 0 ∧ lastB acc s = true then ({ c1 with bad := 4 } : Sc) else c1) = c1 := if_neg (fun h => hb1 h.1)
    rw [hif, if_pos hb1] at he2
    simp (disch := omega) only [↓go1, gB0, reduceIte, Nat.reduceEqDiff, Nat.reduceAdd, Nat.reduceSub, Nat.reduceLT, Nat.reduceLeDiff, put1_rd, put_rd, growU_rd, rd_zero, rd_succ, gB1, reduceCtorEq, res_cc, ldD_agg, List.map_cons, List.map_nil, fill_nil, Int.reduceEq, lit_ne, ne_lit, h13, h11, h6, h12, h1, h2, h4, h5, hwN, hlt, I.s0, I.s1, I.s2, I.z0, I.z1, I.z2, I.z3, I.z4, I.y0, I.y1, I.y2, I.a0, I.a1, I.a2, I.a3, I.a4, hb0', hb1', f125, callK_fun s109]
    refine Need.intro (fun p hp w hw' => ?_) ?_
    ·simp only [List.mem_cons, List.mem_nil_iff, or_false] at hp
     subst hp
     simp only [List.getD_cons_succ, List.getD_cons_zero, wlocs, rds] at hw' ⊢
     simp only [↓go1, go2, go3, go4, reduceIte, Nat.reduceEqDiff, h2, h4, h5] at hw' ⊢
     exact feet_one (by simp) hw'
    simp (disch := omega) only [↓go1, gB0, reduceIte, Nat.reduceEqDiff, Nat.reduceAdd, Nat.reduceSub, Nat.reduceLT, Nat.reduceLeDiff, put1_rd, put_rd, growU_rd, rd_zero, rd_succ, gB1, reduceCtorEq, res_cc, ldD_agg, List.map_cons, List.map_nil, fill_nil, Int.reduceEq, lit_ne, ne_lit, h13, h11, h6, h12, h1, h2, h4, h5, hwN, hlt, I.s0, I.s1, I.s2, I.z0, I.z1, I.z2, I.z3, I.z4, I.y0, I.y1, I.y2, I.a0, I.a1, I.a2, I.a3, I.a4, hb0', hb1', f125, callK_fun s109]
    refine hret _ _ he2 ?_ ?_
    ·simp (disch := omega) only [↓go1, gB0, reduceIte, Nat.reduceEqDiff, Nat.reduceAdd, Nat.reduceSub, Nat.reduceLT, Nat.reduceLeDiff, put1_rd, put_rd, growU_rd, rd_zero, rd_succ, gB1, reduceCtorEq, res_cc, ldD_agg, List.map_cons, List.map_nil, fill_nil, Int.reduceEq, lit_ne, ne_lit, h13, h11, h6, h12, h1, h2, h4, h5]
     rfl
    ·simp (disch := omega) only [↓go1, gB0, reduceIte, Nat.reduceEqDiff, Nat.reduceAdd, Nat.reduceSub, Nat.reduceLT, Nat.reduceLeDiff, put1_rd, put_rd, growU_rd, rd_zero, rd_succ, gB1, reduceCtorEq, res_cc, ldD_agg, List.map_cons, List.map_nil, fill_nil, Int.reduceEq, lit_ne, ne_lit, h13, h11, h6, h12, h1, h2, h4, h5]
     rfl
  ·have hb0' : (c.bad = 0) = False := eq_false hb0
   have he2 : kidsB (oneV kk) N [] c0 = (.pairs acc, c) := by
    rw [he]; simp only [kidsB]; rw [if_pos hb0]
   simp (disch := omega) only [↓go1, gB0, reduceIte, Nat.reduceEqDiff, Nat.reduceAdd, Nat.reduceSub, Nat.reduceLT, Nat.reduceLeDiff, put1_rd, put_rd, growU_rd, rd_zero, rd_succ, gB1, reduceCtorEq, res_cc, ldD_agg, List.map_cons, List.map_nil, fill_nil, Int.reduceEq, lit_ne, ne_lit, h13, h11, h6, h12, h1, h2, h4, h5, hwN, hlt, I.s0, I.s1, I.s2, I.z0, I.z1, I.z2, I.z3, I.z4, I.y0, I.y1, I.y2, I.a0, I.a1, I.a2, I.a3, I.a4, hb0']
   exact hexit _ c acc tk tn he2 h12 h2 h4 h5 I
end Go.Vd

namespace Go.Vd
open Go.RowKit
set_option maxRecDepth 10000
set_option maxHeartbeats 16000000 in
theorem one_list {S : Summs} (s108 : S 108 = some (funS F124)) (s109 : S 109 = some (funS F125)) {kk : Nat} (s88 : S 88 = some (funS (F88 kk))) (hkk : kk ≤ 3) {c : Sc} (h1 : c.at_ ≤ c.s.length) (h2 : c.s.length ≤ 1000000)
  (hb0 : (numS 1 c).2.bad = 0) (hx : (numS 1 c).1 = 5 ∨ (numS 1 c).1 = 6) :
  dc88.wp S [] (Ends [.cell (some 5) 4, .cell (some 3) 5] fun d _ => d.unR = .tup [(oneS (kk + 1) (oneV kk) c).1.nod, scD (oneS (kk + 1) (oneV kk) c).2] ∧ (D.tup [(oneS (kk + 1) (oneV kk) c).1.nod, scD (oneS (kk + 1) (oneV kk) c).2]).calmR = true) ⟨entryS [.agg [.str c.s, .int .i64 (c.at_ : Int), .int .i64 c.bad], .int .i64 (4 - ((kk + 1 : Nat) : Int))], fun _ _ => none, 0⟩ := by
 obtain ⟨i1, i2, i3, _⟩ := numS_inv (k := 1) h1
 have f124 : F124 [.agg [.str c.s, .int .i64 (c.at_ : Int), .int .i64 c.bad], .int .i64 1] = some (.tup [.int .u64 ((numS 1 c).1 : Int), .agg [.str c.s, .int .i64 ((numS 1 c).2.at_ : Int), .int .i64 (numS 1 c).2.bad]]) := by
  simp only [F124, scOf_of h1 h2, Option.map_some, scD]
  rw [if_pos ⟨by omega, by omega⟩]
  show some (D.tup [.int .u64 ((numS 1 c).1 : Int), .agg [.str (numS 1 c).2.s, _, _]]) = _
  rw [i1]; rfl
 simp only [oneS]
 generalize numS 1 c = p at i1 i2 i3 f124 hb0 hx ⊢
 obtain ⟨x, ⟨s', a, b⟩⟩ := p
 simp only at i1 i2 i3 f124 hb0 hx ⊢
 subst i1
 subst hb0
 obtain ⟨j1, j2, j3, _⟩ := numS_inv (k := 1) (c := ⟨c.s, a, 0⟩) i2
 have g124 : F124 [.agg [.str c.s, .int .i64 (a : Int), .int .i64 0], .int .i64 1] = some (.tup [.int .u64 ((numS 1 ⟨c.s, a, 0⟩).1 : Int), .agg [.str c.s, .int .i64 ((numS 1 ⟨c.s, a, 0⟩).2.at_ : Int), .int .i64 (numS 1 ⟨c.s, a, 0⟩).2.bad]]) := by
  simp only [F124, scOf_of' i2 h2, Option.map_some, scD]
  rw [if_pos ⟨by omega, by omega⟩]
  show some (D.tup [.int .u64 ((numS 1 ⟨c.s, a, 0⟩).1 : Int), .agg [.str (numS 1 ⟨c.s, a, 0⟩).2.s, _, _]]) = _
  rw [j1]; rfl
 generalize numS 1 ⟨c.s, a, 0⟩ = q at j1 j2 j3 g124 ⊢
 obtain ⟨N, ⟨s'', a', b'⟩⟩ := q
 simp only at j1 j2 j3 g124 ⊢
 subst j1
 have hN : N < 256 := by simpa using j3
 have e5 : ((5 : Nat) : Int) = 5 := rfl
 have e6 : ((6 : Nat) : Int) = 6 := rfl
 have d4 : ((4 : Int) ≤ 4 - ((kk + 1 : Nat) : Int)) = False := eq_false (by omega)
 have hfill : ∀ k : Int, fillD [.int .u8 0, .int .u64 0, .str [], .slice true [] [], .slice true [] []] [(0, 1, .int .u8 k)] = some [.int .u8 k, .int .u64 0, .str [], .slice true [] [], .slice true [] []] := fun k => rfl
 have l65 : ((6 : Int) < 5) = False := eq_false (by decide)
 have l66 : ((6 : Int) < 6) = False := eq_false (by decide)
 have l53 : ((5 : Int) < 3) = False := eq_false (by decide)
 have l63 : ((6 : Int) < 3) = False := eq_false (by decide)
 have w5 : IntKind.u64.wrap ((5 : Int) - 1) = 4 := by decide
 have w6 : IntKind.u64.wrap ((6 : Int) - 1) = 5 := by decide
 have v4 : IntKind.u8.wrap (4 : Int) = 4 := by decide
 have v5 : IntKind.u8.wrap (5 : Int) = 5 := by decide
 unfold dc88
 rcases hx with rfl | rfl
 ·rw [if_neg (by simp), if_neg (by omega), if_neg (by omega), if_neg (by omega), if_neg (by omega), if_neg (by omega), if_neg (by omega), if_pos rfl]
  by_cases hbig : b' = 0 ∧ 64 < N
  ·obtain ⟨rfl, hbig⟩ := hbig
   have hb64 : ((64 : Int) < (N : Int)) = True := eq_true (by omega)
   rw [if_pos ⟨rfl, hbig⟩]
   simp only [↓go1, gB0, reduceIte, Nat.reduceEqDiff, Nat.reduceAdd, Nat.reduceSub, Nat.reduceLT, Nat.reduceLeDiff, put1_rd, put_rd, rd_zero, rd_succ, gB1, reduceCtorEq, res_cc, ldD_agg, List.map_cons, List.map_nil, fill_nil, Int.reduceEq, lit_ne, ne_lit, e5, l65, l66, l53, l63, w5, v4, d4, hb64, hfill, f124, g124, callK_fun s108]
   refine loop88a s88 hkk hN (c0 := ⟨c.s, a', 5⟩) (fun st c' acc tk tn he h12 h2 h4 h5 I => ?_) N 0 [] ⟨c.s, a', 5⟩ [] [] _ _ (by omega) rfl rfl rfl rfl rfl rfl rfl rfl rfl rfl (by simp only; omega) ?_ (.inl rfl)
   ·rw [he]
    simp (disch := omega) only [↓go1, gB0, reduceIte, Nat.reduceEqDiff, Nat.reduceAdd, Nat.reduceSub, Nat.reduceLT, Nat.reduceLeDiff, put1_rd, put_rd, rd_zero, rd_succ, gB1, reduceCtorEq, res_cc, ldD_agg, List.map_cons, List.map_nil, fill_nil, Int.reduceEq, lit_ne, ne_lit, h12, h2, h4, h5, I.s0, I.s1, I.s2, I.z0, I.z1, I.z2, I.z3, I.z4, I.y0, I.y1, I.y2, I.a0, I.a1, I.a2, I.a3, I.a4]
    refine Need.intro (fun p hp w hw' => ?_) ?_
    ·simp only [List.mem_cons, List.mem_nil_iff, or_false] at hp
     subst hp
     simp only [List.getD_cons_succ, List.getD_cons_zero, wlocs, rds] at hw' ⊢
     simp only [↓go1, go2, go3, go4, reduceIte, Nat.reduceEqDiff, h2, h4, h5, h12] at hw' ⊢
     exact feet_one (by simp) hw'
    ·simp (disch := omega) only [↓go1, gB0, reduceIte, Nat.reduceEqDiff, Nat.reduceAdd, Nat.reduceSub, Nat.reduceLT, Nat.reduceLeDiff, put1_rd, put_rd, rd_zero, rd_succ, gB1, reduceCtorEq, res_cc, ldD_agg, List.map_cons, List.map_nil, fill_nil, Int.reduceEq, lit_ne, ne_lit, h12, h2, h4, h5, I.s0, I.s1, I.s2, I.z0, I.z1, I.z2, I.z3, I.z4, I.y0, I.y1, I.y2, I.a0, I.a1, I.a2, I.a3, I.a4]
     simp only [nodL_empty, nodP_empty, nodK_empty]
     exact ⟨rfl, rfl⟩
   ·exact ⟨rfl, rfl, rfl, j2, h2, rfl, rfl, rfl, rfl, rfl, rfl, rfl, rfl, rfl, rfl, rfl, rfl, rfl⟩
  ·rw [if_neg hbig]
   by_cases hb' : b' = 0
   ·subst hb'
    have hb64 : ((64 : Int) < (N : Int)) = False := eq_false (fun h => hbig ⟨rfl, by omega⟩)
    simp only [↓go1, gB0, reduceIte, Nat.reduceEqDiff, Nat.reduceAdd, Nat.reduceSub, Nat.reduceLT, Nat.reduceLeDiff, put1_rd, put_rd, rd_zero, rd_succ, gB1, reduceCtorEq, res_cc, ldD_agg, List.map_cons, List.map_nil, fill_nil, Int.reduceEq, lit_ne, ne_lit, e5, l65, l66, l53, l63, w5, v4, d4, hb64, hfill, f124, g124, callK_fun s108]
    refine loop88a s88 hkk hN (c0 := ⟨c.s, a', 0⟩) (fun st c' acc tk tn he h12 h2 h4 h5 I => ?_) N 0 [] ⟨c.s, a', 0⟩ [] [] _ _ (by omega) rfl rfl rfl rfl rfl rfl rfl rfl rfl rfl (by simp only; omega) ?_ (.inl rfl)
    ·rw [he]
     simp (disch := omega) only [↓go1, gB0, reduceIte, Nat.reduceEqDiff, Nat.reduceAdd, Nat.reduceSub, Nat.reduceLT, Nat.reduceLeDiff, put1_rd, put_rd, rd_zero, rd_succ, gB1, reduceCtorEq, res_cc, ldD_agg, List.map_cons, List.map_nil, fill_nil, Int.reduceEq, lit_ne, ne_lit, h12, h2, h4, h5, I.s0, I.s1, I.s2, I.z0, I.z1, I.z2, I.z3, I.z4, I.y0, I.y1, I.y2, I.a0, I.a1, I.a2, I.a3, I.a4]
     refine Need.intro (fun p hp w hw' => ?_) ?_
     ·simp only [List.mem_cons, List.mem_nil_iff, or_false] at hp
      subst hp
      simp only [List.getD_cons_succ, List.getD_cons_zero, wlocs, rds] at hw' ⊢
      simp only [↓go1, go2, go3, go4, reduceIte, Nat.reduceEqDiff, h2, h4, h5, h12] at hw' ⊢
      exact feet_one (by simp) hw'
     ·simp (disch := omega) only [↓go1, gB0, reduceIte, Nat.reduceEqDiff, Nat.reduceAdd, Nat.reduceSub, Nat.reduceLT, Nat.reduceLeDiff, put1_rd, put_rd, rd_zero, rd_succ, gB1, reduceCtorEq, res_cc, ldD_agg, List.map_cons, List.map_nil, fill_nil, Int.reduceEq, lit_ne, ne_lit, h12, h2, h4, h5, I.s0, I.s1, I.s2, I.z0, I.z1, I.z2, I.z3, I.z4, I.y0, I.y1, I.y2, I.a0, I.a1, I.a2, I.a3, I.a4]
      simp only [nodL_empty, nodP_empty, nodK_empty]
      exact ⟨rfl, rfl⟩
    ·exact ⟨rfl, rfl, rfl, j2, h2, rfl, rfl, rfl, rfl, rfl, rfl, rfl, rfl, rfl, rfl, rfl, rfl, rfl⟩
   ·have hb0' : (b' = 0) = False := eq_false hb'
    simp only [↓go1, gB0, reduceIte, Nat.reduceEqDiff, Nat.reduceAdd, Nat.reduceSub, Nat.reduceLT, Nat.reduceLeDiff, put1_rd, put_rd, rd_zero, rd_succ, gB1, reduceCtorEq, res_cc, ldD_agg, List.map_cons, List.map_nil, fill_nil, Int.reduceEq, lit_ne, ne_lit, e5, l65, l66, l53, l63, w5, v4, d4, hb0', hfill, f124, g124, callK_fun s108]
    refine loop88a s88 hkk hN (c0 := ⟨c.s, a', b'⟩) (fun st c' acc tk tn he h12 h2 h4 h5 I => ?_) N 0 [] ⟨c.s, a', b'⟩ [] [] _ _ (by omega) rfl rfl rfl rfl rfl rfl rfl rfl rfl rfl (by simp only; omega) ?_ (.inl rfl)
    ·rw [he]
     simp (disch := omega) only [↓go1, gB0, reduceIte, Nat.reduceEqDiff, Nat.reduceAdd, Nat.reduceSub, Nat.reduceLT, Nat.reduceLeDiff, put1_rd, put_rd, rd_zero, rd_succ, gB1, reduceCtorEq, res_cc, ldD_agg, List.map_cons, List.map_nil, fill_nil, Int.reduceEq, lit_ne, ne_lit, h12, h2, h4, h5, I.s0, I.s1, I.s2, I.z0, I.z1, I.z2, I.z3, I.z4, I.y0, I.y1, I.y2, I.a0, I.a1, I.a2, I.a3, I.a4]
     refine Need.intro (fun p hp w hw' => ?_) ?_
     ·simp only [List.mem_cons, List.mem_nil_iff, or_false] at hp
      subst hp
      simp only [List.getD_cons_succ, List.getD_cons_zero, wlocs, rds] at hw' ⊢
      simp only [↓go1, go2, go3, go4, reduceIte, Nat.reduceEqDiff, h2, h4, h5, h12] at hw' ⊢
      exact feet_one (by simp) hw'
     ·simp (disch := omega) only [↓go1, gB0, reduceIte, Nat.reduceEqDiff, Nat.reduceAdd, Nat.reduceSub, Nat.reduceLT, Nat.reduceLeDiff, put1_rd, put_rd, rd_zero, rd_succ, gB1, reduceCtorEq, res_cc, ldD_agg, List.map_cons, List.map_nil, fill_nil, Int.reduceEq, lit_ne, ne_lit, h12, h2, h4, h5, I.s0, I.s1, I.s2, I.z0, I.z1, I.z2, I.z3, I.z4, I.y0, I.y1, I.y2, I.a0, I.a1, I.a2, I.a3, I.a4]
      simp only [nodL_empty, nodP_empty, nodK_empty]
      exact ⟨rfl, rfl⟩
    ·exact ⟨rfl, rfl, rfl, j2, h2, rfl, rfl, rfl, rfl, rfl, rfl, rfl, rfl, rfl, rfl, rfl, rfl, rfl⟩
 ·rw [if_neg (by simp), if_neg (by omega), if_neg (by omega), if_neg (by omega), if_neg (by omega), if_neg (by omega), if_neg (by omega), if_neg (by omega)]
  by_cases hbig : b' = 0 ∧ 64 < N
  ·obtain ⟨rfl, hbig⟩ := hbig
   have hb64 : ((64 : Int) < (N : Int)) = True := eq_true (by omega)
   rw [if_pos ⟨rfl, hbig⟩]
   simp only [↓go1, gB0, reduceIte, Nat.reduceEqDiff, Nat.reduceAdd, Nat.reduceSub, Nat.reduceLT, Nat.reduceLeDiff, put1_rd, put_rd, rd_zero, rd_succ, gB1, reduceCtorEq, res_cc, ldD_agg, List.map_cons, List.map_nil, fill_nil, Int.reduceEq, lit_ne, ne_lit, e6, l65, l66, l53, l63, w6, v5, d4, hb64, hfill, f124, g124, callK_fun s108]
   refine loop88b s88 s109 hkk hN (c0 := ⟨c.s, a', 5⟩) (fun st c' he r4 r5 => ?_) (fun st c' acc tk tn he h12 h2 h4 h5 I => ?_) N 0 [] ⟨c.s, a', 5⟩ [] [] _ _ (by omega) rfl rfl rfl rfl rfl rfl rfl rfl rfl rfl (by simp only; omega) ?_ (.inl rfl) (.inl rfl)
   ·rw [he]
    simp (disch := omega) only [↓go1, go2, go3, go4, reduceIte, Nat.reduceEqDiff, res_cc, r4, r5, Option.map_some, Option.bind_some]
    exact ⟨rfl, rfl⟩
   ·rw [he]
    simp (disch := omega) only [↓go1, gB0, reduceIte, Nat.reduceEqDiff, Nat.reduceAdd, Nat.reduceSub, Nat.reduceLT, Nat.reduceLeDiff, put1_rd, put_rd, rd_zero, rd_succ, gB1, reduceCtorEq, res_cc, ldD_agg, List.map_cons, List.map_nil, fill_nil, Int.reduceEq, lit_ne, ne_lit, h12, h2, h4, h5, I.s0, I.s1, I.s2, I.z0, I.z1, I.z2, I.z3, I.z4, I.y0, I.y1, I.y2, I.a0, I.a1, I.a2, I.a3, I.a4]
    refine Need.intro (fun p hp w hw' => ?_) ?_
    ·simp only [List.mem_cons, List.mem_nil_iff, or_false] at hp
     subst hp
     simp only [List.getD_cons_succ, List.getD_cons_zero, wlocs, rds] at hw' ⊢
     simp only [↓go1, go2, go3, go4, reduceIte, Nat.reduceEqDiff, h2, h4, h5, h12] at hw' ⊢
     exact feet_one (by simp) hw'
    ·simp (disch := omega) only [↓go1, gB0, reduceIte, Nat.reduceEqDiff, Nat.reduceAdd, Nat.reduceSub, Nat.reduceLT, Nat.reduceLeDiff, put1_rd, put_rd, rd_zero, rd_succ, gB1, reduceCtorEq, res_cc, ldD_agg, List.map_cons, List.map_nil, fill_nil, Int.reduceEq, lit_ne, ne_lit, h12, h2, h4, h5, I.s0, I.s1, I.s2, I.z0, I.z1, I.z2, I.z3, I.z4, I.y0, I.y1, I.y2, I.a0, I.a1, I.a2, I.a3, I.a4]
     simp only [nodL_empty, nodP_empty, nodK_empty]
     exact ⟨rfl, rfl⟩
   ·exact ⟨rfl, rfl, rfl, j2, h2, rfl, rfl, rfl, rfl, rfl, rfl, rfl, rfl, rfl, rfl, rfl, rfl, rfl⟩
  ·rw [if_neg hbig]
   by_cases hb' : b' = 0
   ·subst hb'
    have hb64 : ((64 : Int) < (N : Int)) = False := eq_false (fun h => hbig ⟨rfl, by omega⟩)
    simp only [↓go1, gB0, reduceIte, Nat.reduceEqDiff, Nat.reduceAdd, Nat.reduceSub, Nat.reduceLT, Nat.reduceLeDiff, put1_rd, put_rd, rd_zero, rd_succ, gB1, reduceCtorEq, res_cc, ldD_agg, List.map_cons, List.map_nil, fill_nil, Int.reduceEq, lit_ne, ne_lit, e6, l65, l66, l53, l63, w6, v5, d4, hb64, hfill, f124, g124, callK_fun s108]
    refine loop88b s88 s109 hkk hN (c0 := ⟨c.s, a', 0⟩) (fun st c' he r4 r5 => ?_) (fun st c' acc tk tn he h12 h2 h4 h5 I => ?_) N 0 [] ⟨c.s, a', 0⟩ [] [] _ _ (by omega) rfl rfl rfl rfl rfl rfl rfl rfl rfl rfl (by simp only; omega) ?_ (.inl rfl) (.inl rfl)
    ·rw [he]
     simp (disch := omega) only [↓go1, go2, go3, go4, reduceIte, Nat.reduceEqDiff, res_cc, r4, r5, Option.map_some, Option.bind_some]
     exact ⟨rfl, rfl⟩
    ·rw [he]
     simp (disch := omega) only [↓go1, gB0, reduceIte, Nat.reduceEqDiff, Nat.reduceAdd, Nat.reduceSub, Nat.reduceLT, Nat.reduceLeDiff, put1_rd, put_rd, rd_zero, rd_succ, gB1, reduceCtorEq, res_cc, ldD_agg, List.map_cons, List.map_nil, fill_nil, Int.reduceEq, lit_ne, ne_lit, h12, h2, h4, h5, I.s0, I.s1, I.s2, I.z0, I.z1, I.z2, I.z3, I.z4, I.y0, I.y1, I.y2, I.a0, I.a1, I.a2, I.a3, I.a4]
     refine Need.intro (fun p hp w hw' => ?_) ?_
     ·simp only [List.mem_cons, List.mem_nil_iff, or_false] at hp
      subst hp
      simp only [List.getD_cons_succ, List.getD_cons_zero, wlocs, rds] at hw' ⊢
      simp only [↓go1, go2, go3, go4, reduceIte, Nat.reduceEqDiff, h2, h4, h5, h12] at hw' ⊢
      exact feet_one (by simp) hw'
     ·simp (disch := omega) only [↓go1, gB0, reduceIte, Nat.reduceEqDiff, Nat.reduceAdd, Nat.reduceSub, Nat.reduceLT, Nat.reduceLeDiff, put1_rd, put_rd, rd_zero, rd_succ, gB1, reduceCtorEq, res_cc, ldD_agg, List.map_cons, List.map_nil, fill_nil, Int.reduceEq, lit_ne, ne_lit, h12, h2, h4, h5, I.s0, I.s1, I.s2, I.z0, I.z1, I.z2, I.z3, I.z4, I.y0, I.y1, I.y2, I.a0, I.a1, I.a2, I.a3, I.a4]
      simp only [nodL_empty, nodP_empty, nodK_empty]
      exact ⟨rfl, rfl⟩
    ·exact ⟨rfl, rfl, rfl, j2, h2, rfl, rfl, rfl, rfl, rfl, rfl, rfl, rfl, rfl, rfl, rfl, rfl, rfl⟩
   ·have hb0' : (b' = 0) = False := eq_false hb'
    simp only [↓go1, gB0, reduceIte, Nat.reduceEqDiff, Nat.reduceAdd, Nat.reduceSub, Nat.reduceLT, Nat.reduceLeDiff, put1_rd, put_rd, rd_zero, rd_succ, gB1, reduceCtorEq, res_cc, ldD_agg, List.map_cons, List.map_nil, fill_nil, Int.reduceEq, lit_ne, ne_lit, e6, l65, l66, l53, l63, w6, v5, d4, hb0', hfill, f124, g124, callK_fun s108]
    refine loop88b s88 s109 hkk hN (c0 := ⟨c.s, a', b'⟩) (fun st c' he r4 r5 => ?_) (fun st c' acc tk tn he h12 h2 h4 h5 I => ?_) N 0 [] ⟨c.s, a', b'⟩ [] [] _ _ (by omega) rfl rfl rfl rfl rfl rfl rfl rfl rfl rfl (by simp only; omega) ?_ (.inl rfl) (.inl rfl)
    ·rw [he]
     simp (disch := omega) only [↓go1, go2, go3, go4, reduceIte, Nat.reduceEqDiff, res_cc, r4, r5, Option.map_some, Option.bind_some]
     exact ⟨rfl, rfl⟩
    ·rw [he]
     simp (disch := omega) only [↓go1, gB0, reduceIte, Nat.reduceEqDiff, Nat.reduceAdd, Nat.reduceSub, Nat.reduceLT, Nat.reduceLeDiff, put1_rd, put_rd, rd_zero, rd_succ, gB1, reduceCtorEq, res_cc, ldD_agg, List.map_cons, List.map_nil, fill_nil, Int.reduceEq, lit_ne, ne_lit, h12, h2, h4, h5, I.s0, I.s1, I.s2, I.z0, I.z1, I.z2, I.z3, I.z4, I.y0, I.y1, I.y2, I.a0, I.a1, I.a2, I.a3, I.a4]
     refine Need.intro (fun p hp w hw' => ?_) ?_
     ·simp only [List.mem_cons, List.mem_nil_iff, or_false] at hp
      subst hp
      simp only [List.getD_cons_succ, List.getD_cons_zero, wlocs, rds] at hw' ⊢
      simp only [↓go1, go2, go3, go4, reduceIte, Nat.reduceEqDiff, h2, h4, h5, h12] at hw' ⊢
      exact feet_one (by simp) hw'
     ·simp (disch := omega) only [↓go1, gB0, reduceIte, Nat.reduceEqDiff, Nat.reduceAdd, Nat.reduceSub, Nat.reduceLT, Nat.reduceLeDiff, put1_rd, put_rd, rd_zero, rd_succ, gB1, reduceCtorEq, res_cc, ldD_agg, List.map_cons, List.map_nil, fill_nil, Int.reduceEq, lit_ne, ne_lit, h12, h2, h4, h5, I.s0, I.s1, I.s2, I.z0, I.z1, I.z2, I.z3, I.z4, I.y0, I.y1, I.y2, I.a0, I.a1, I.a2, I.a3, I.a4]
      simp only [nodL_empty, nodP_empty, nodK_empty]
      exact ⟨rfl, rfl⟩
    ·exact ⟨rfl, rfl, rfl, j2, h2, rfl, rfl, rfl, rfl, rfl, rfl, rfl, rfl, rfl, rfl, rfl, rfl, rfl⟩
theorem ok88s {P : Program} (hb : DeskB P) (n : Nat) (h88 : n = 0 ∨ ∃ k, n = k + 1 ∧ (funS (F88 k)).ok P 88) : (funS (F88 n)).ok P 88 := by
 have hS : ∃ S : Summs, Summs.ok P S ∧ S 108 = some (funS F124) ∧ S 109 = some (funS F125) ∧ ∀ k, n = k + 1 → S 88 = some (funS (F88 k)) := by
  rcases h88 with rfl | ⟨k, rfl, h⟩
  ·exact ⟨tabL [(108, funS F124), (109, funS F125)], tabL_cons (ok108 hb) (tabL_cons (ok109 hb) tabL_nil), rfl, rfl, fun k e => by cases e⟩
  ·exact ⟨tabL [(108, funS F124), (109, funS F125), (88, funS (F88 k))], tabL_cons (ok108 hb) (tabL_cons (ok109 hb) (tabL_cons h tabL_nil)), rfl, rfl, fun k' e => by cases e; rfl⟩
 obtain ⟨S, hS, s108, s109, s88⟩ := hS
 refine fun_ok (S := S) hS hb.f88 (fun ds r h => ?_) (fun ds r h => ?_)
 ·unfold F88 at h; split at h
  ·simp
  ·cases h
 ·unfold F88 at h; split at h
  ·rename_i x d
   split at h
   ·rename_i hk
    rw [Option.map_eq_some_iff] at h
    obtain ⟨c, hc, rfl⟩ := h
    obtain ⟨rfl, h1, h2⟩ := scOf_inv hc
    obtain ⟨rfl, hn4⟩ := hk
    rw [oneV_eq]
    by_cases hl : (numS 1 c).2.bad = 0 ∧ ((numS 1 c).1 = 5 ∨ (numS 1 c).1 = 6) ∧ n ≠ 0
    ·obtain ⟨hb0, hx, hn0⟩ := hl
     obtain ⟨k, rfl⟩ : ∃ k, n = k + 1 := ⟨n - 1, by omega⟩
     exact one_list s108 s109 (s88 k rfl) (by omega) h1 h2 hb0 hx
    ·exact one_leaf s108 s109 hn4 h1 h2 hl
   ·cases h
  ·cases h
theorem ok88 {P : Program} (hb : DeskB P) : ∀ n, (funS (F88 n)).ok P 88
 | 0 => ok88s hb 0 (.inl rfl)
 | n + 1 => ok88s hb (n + 1) (.inr ⟨n, rfl, ok88 hb n⟩)
def F60 : List D → Option D
 | [.str s] => if s.length ≤ 1000000 then some (if endS (oneV 4 ⟨s, 0, 0⟩).2 = 0 then .tup [(oneV 4 ⟨s, 0, 0⟩).1.nod, .int .i64 0] else .tup [Tr.nil.nod, .int .i64 (endS (oneV 4 ⟨s, 0, 0⟩).2)]) else none
 | _ => none
set_option maxHeartbeats 4000000 in
theorem ok60 {P : Program} (hb : DeskB P) : (funS F60).ok P 60 := by
 have hS : Summs.ok P (tabL [(88, funS (F88 4)), (89, funS F85)]) := tabL_cons (ok88 hb 4) (tabL_cons (ok89 hb) tabL_nil)
 have s88 : tabL [(88, funS (F88 4)), (89, funS F85)] 88 = some (funS (F88 4)) := rfl
 have s89 : tabL [(88, funS (F88 4)), (89, funS F85)] 89 = some (funS F85) := rfl
 generalize tabL [(88, funS (F88 4)), (89, funS F85)] = S at hS s88 s89
 refine fun_ok (S := S) hS hb.f60 (fun ds r h => ?_) (fun ds r h => ?_)
 ·unfold F60 at h; split at h
  ·simp
  ·cases h
 ·unfold F60 at h; split at h
  ·rename_i s
   split at h
   ·rename_i hs
    simp only [Option.some.injEq] at h
    subst h
    have hf := Stays.oneV 4 ⟨s, 0, 0⟩ (Nat.zero_le _)
    have f88 : F88 4 [.agg [.str s, .int .i64 0, .int .i64 0], .int .i64 0] = some (.tup [(oneV 4 ⟨s, 0, 0⟩).1.nod, .agg [.str (oneV 4 ⟨s, 0, 0⟩).2.s, .int .i64 ((oneV 4 ⟨s, 0, 0⟩).2.at_ : Int), .int .i64 (oneV 4 ⟨s, 0, 0⟩).2.bad]]) := by
     have : scOf (.agg [.str s, .int .i64 0, .int .i64 0]) = some ⟨s, 0, 0⟩ := scOf_of' (a := 0) (Nat.zero_le _) hs
     simp only [F88, this, Option.map_some, scD]
     rw [if_pos ⟨by omega, by omega⟩]
    have hfill1 : fillD [.str [], .int .i64 0, .int .i64 0] [(0, 1, .str s)] = some [.str s, .int .i64 0, .int .i64 0] := rfl
    generalize oneV 4 ⟨s, 0, 0⟩ = q at hf f88 ⊢
    obtain ⟨v, c⟩ := q
    simp only at hf f88 ⊢
    have f85 : F85 [.agg [.str c.s, .int .i64 (c.at_ : Int), .int .i64 c.bad]] = some (.int .i64 (endS c)) := by
     simp only [F85, scOf_of (c := c) (by rw [hf.1]; exact hf.2) (by rw [hf.1]; exact hs), Option.map_some]
    obtain ⟨a1, a2, a3, a4, a5, a6, a7, hnod⟩ := nod_agg v
    rw [hnod] at f88 ⊢
    unfold dc60
    by_cases he : endS c = 0
    ·have he' : (endS c = 0) = True := eq_true he
     simp (disch := omega) only [↓go1, gB0, reduceIte, Nat.reduceEqDiff, Nat.reduceAdd, Nat.reduceSub, Nat.reduceLT, Nat.reduceLeDiff, put1_rd, put_rd, rd_zero, rd_succ, gB1, reduceCtorEq, res_cc, ldD_agg, List.map_cons, List.map_nil, fill_nil, Int.reduceEq, lit_ne, ne_lit, res_ct, hfill1, f88, f85, he', callK_fun s88, callK_fun s89]
    ·have he' : (endS c = 0) = False := eq_false he
     simp (disch := omega) only [↓go1, gB0, reduceIte, Nat.reduceEqDiff, Nat.reduceAdd, Nat.reduceSub, Nat.reduceLT, Nat.reduceLeDiff, put1_rd, put_rd, rd_zero, rd_succ, gB1, reduceCtorEq, res_cc, ldD_agg, List.map_cons, List.map_nil, fill_nil, Int.reduceEq, lit_ne, ne_lit, res_ct, hfill1, f88, f85, he', callK_fun s88, callK_fun s89]
     exact ⟨rfl, rfl⟩
   ·cases h
  ·cases h
def kidsT : Tr → List Tr
 | .list l => l
 | .pairs l => l.map (·.2)
 | _ => []
def kidT (v : Tr) (i : Nat) : Tr := ((kidsT v)[i]?).getD .nil
def numT : Tr → Int
 | .tr b => if b = true then 1 else 0
 | .num n => n
 | _ => 0
def textT : Tr → Bs
 | .text s => s
 | _ => []
def backN (n : Int) : Int := if 2199023255552 < n then 2199023255552 else IntKind.i64.wrap (IntKind.i64.wrap n - 1099511627776)
theorem nodP_map : ∀ l : List (Bs × Tr), Tr.nodP l = (l.map (·.2)).map Tr.nod
 | [] => rfl
 | (k, v) :: r => by simp [Tr.nodP, nodP_map r]
theorem nodL_map : ∀ l : List Tr, Tr.nodL l = l.map Tr.nod
 | [] => rfl
 | v :: r => by simp [Tr.nodL, nodL_map r]
theorem nod_form (v : Tr) : ∃ k nk nn ns, v.nod = .agg [.int .u8 k, .int .u64 (numT v), .str (textT v), .slice nk [] ((kidsT v).map Tr.nod), .slice nn [] ns] := by
 cases v with
 | nil => exact ⟨_, _, _, _, rfl⟩
 | tr b => exact ⟨_, _, _, _, rfl⟩
 | num n => exact ⟨_, _, _, _, rfl⟩
 | text s => exact ⟨_, _, _, _, rfl⟩
 | list l => exact ⟨4, l.isEmpty, true, [], by show nodD 4 0 [] l.isEmpty (Tr.nodL l) true [] = _; rw [nodL_map]; rfl⟩
 | pairs l => exact ⟨5, l.isEmpty, l.isEmpty, Tr.nodK l, by show nodD 5 0 [] l.isEmpty (Tr.nodP l) l.isEmpty (Tr.nodK l) = _; rw [nodP_map]; rfl⟩
def unNod : D → Option D
 | .agg [.int .u8 a, .int .u64 b, .str c, .slice d _ e, .slice f _ g] => some (.agg [.int .u8 a, .int .u64 b, .str c, .slice d [] e, .slice f [] g])
 | _ => none
def F62 : List D → Option D
 | [.agg [.int .u8 _, .int .u64 _, .str _, .slice _ _ ks, .slice _ _ _], .int .i64 i] => if 0 ≤ i then (match ks[i.toNat]? with
  | some x => unNod x
  | none => some Tr.nil.nod) else none
 | _ => none
theorem F62_nod {v : Tr} {k : Int} {nk nn : Bool} {tk tn : Id} {ns : List D} {i : Nat} : F62 [.agg [.int .u8 k, .int .u64 (numT v), .str (textT v), .slice nk tk ((kidsT v).map Tr.nod), .slice nn tn ns], .int .i64 (i : Int)] = some (kidT v i).nod := by
 simp only [F62]
 rw [if_pos (by omega)]
 simp only [Int.toNat_natCast, List.getElem?_map]
 unfold kidT
 cases h : (kidsT v)[i]? with
 | none => rfl
 | some w =>
  obtain ⟨k', nk', nn', ns', e⟩ := nod_form w
  simp only [Option.map_some, Option.getD_some]
  rw [e]; rfl
theorem ok62 {P : Program} (hb : DeskB P) : (funS F62).ok P 62 := by
 refine fun_ok (S := fun _ => none) none_ok hb.f62 (fun ds r h => ?_) (fun ds r h => ?_)
 ·unfold F62 at h; split at h
  ·simp
  ·cases h
 ·unfold F62 at h; split at h
  ·rename_i k x s nk tk ks nn tn ns i
   split at h
   ·rename_i hi
    unfold dc62
    split at h
    ·rename_i y hy
     unfold unNod at h
     split at h
     ·rename_i a b c d t e f t' g
      simp only [Option.some.injEq] at h
      subst h
      have hlt : (i < (ks.length : Int)) = True := by
       refine eq_true ?_
       have := (List.getElem?_eq_some_iff.1 hy).1
       omega
      simp (disch := omega) only [↓go1, gB0, reduceIte, Nat.reduceEqDiff, Nat.reduceAdd, Nat.reduceSub, Nat.reduceLT, Nat.reduceLeDiff, put1_rd, put_rd, rd_zero, rd_succ, gB1, reduceCtorEq, res_cc, ldD_agg, List.map_cons, List.map_nil, fill_nil, Int.reduceEq, lit_ne, ne_lit, hlt, hi, hy, res_cell]
     ·cases h
    ·rename_i hy
     simp only [Option.some.injEq] at h
     subst h
     have hlt : (i < (ks.length : Int)) = False := by
      refine eq_false ?_
      have := List.getElem?_eq_none_iff.1 hy
      omega
     simp (disch := omega) only [↓go1, gB0, reduceIte, Nat.reduceEqDiff, Nat.reduceAdd, Nat.reduceSub, Nat.reduceLT, Nat.reduceLeDiff, put1_rd, put_rd, rd_zero, rd_succ, gB1, reduceCtorEq, res_cc, ldD_agg, List.map_cons, List.map_nil, fill_nil, Int.reduceEq, lit_ne, ne_lit, hlt, hi, hy, res_cell]
     exact ⟨rfl, rfl⟩
   ·cases h
  ·cases h
def F61 : List D → Option D
 | [.agg [.int .u8 _, .int .u64 n, .str _, .slice _ _ _, .slice _ _ _]] => some (.int .i64 (backN n))
 | _ => none
theorem ok61 {P : Program} (hb : DeskB P) : (funS F61).ok P 61 := by
 refine fun_ok (S := fun _ => none) none_ok hb.f61 (fun ds r h => ?_) (fun ds r h => ?_)
 ·unfold F61 at h; split at h
  ·simp
  ·cases h
 ·unfold F61 at h; split at h
  ·rename_i k n s nk tk ks nn tn ns
   simp only [Option.some.injEq] at h
   subst h
   unfold dc61 backN
   by_cases hn : 2199023255552 < n
   ·have hn' : ((2199023255552 : Int) < n) = True := eq_true hn
    simp (disch := omega) only [↓go1, gB0, reduceIte, Nat.reduceEqDiff, Nat.reduceAdd, Nat.reduceSub, Nat.reduceLT, Nat.reduceLeDiff, put1_rd, put_rd, rd_zero, rd_succ, gB1, reduceCtorEq, res_cc, ldD_agg, List.map_cons, List.map_nil, fill_nil, Int.reduceEq, lit_ne, ne_lit, hn']
   ·have hn' : ((2199023255552 : Int) < n) = False := eq_false hn
    simp (disch := omega) only [↓go1, gB0, reduceIte, Nat.reduceEqDiff, Nat.reduceAdd, Nat.reduceSub, Nat.reduceLT, Nat.reduceLeDiff, put1_rd, put_rd, rd_zero, rd_succ, gB1, reduceCtorEq, res_cc, ldD_agg, List.map_cons, List.map_nil, fill_nil, Int.reduceEq, lit_ne, ne_lit, hn']
  ·cases h
end Go.Vd
