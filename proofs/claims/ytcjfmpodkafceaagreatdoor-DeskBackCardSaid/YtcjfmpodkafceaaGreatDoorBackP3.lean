/-
  A part of the proof: the layers over the model. Nothing in it is assumed.
-/
import Derived.Test.YtcjfmpodkafceaaGreatDoorBackP2
import Derived.Laws.AppendOwn
import Derived.Shelf.Strings.OnBuilder
import Derived.Shelf.Strings.Split

set_option linter.unusedSimpArgs false
set_option linter.unusedVariables false

namespace Go.Vd
open Go.RowKit
def tabL : List (FuncId × Summ) → Summs
 | [], _ => none
 | (k, q) :: r, f => if f = k then some q else tabL r f
theorem tabL_nil {P : Program} : Summs.ok P (tabL []) := fun f q h => by cases h
theorem tabL_cons {P : Program} {k : FuncId} {q : Summ} {r : List (FuncId × Summ)} (h : q.ok P k) (hr : Summs.ok P (tabL r)) : Summs.ok P (tabL ((k, q) :: r)) := fun f q' e => by
 simp only [tabL] at e
 split at e
 ·rename_i hf; subst hf; simp only [Option.some.injEq] at e; subst e; exact h
 ·exact hr f q' e
def F78 : List D → Option D
 | [.str s] => some (.bool (!okT s))
 | _ => none
theorem ok78 {P : Program} (hd : Desk P) : (funS F78).ok P 78 := by
 refine fun_ok (S := fun _ => none) none_ok hd.f78 (fun ds r h => ?_) (fun ds r h => ?_)
 ·unfold F78 at h; split at h
  ·simp
  ·cases h
 ·unfold F78 at h; split at h
  ·rename_i s
   simp only [Option.some.injEq] at h
   subst h
   unfold dc78
   have g1 : ((500 : Int) < (s.length : Int)) = (500 < s.length) := by simp only [eq_iff_iff]; omega
   simp only [↓go1, go2, go3, go4, reduceIte, Nat.reduceEqDiff, Nat.reduceAdd, g1]
   simp only [okT, D.bool.injEq, and_true]
   by_cases h : 500 < s.length
   ·simp [h]
   ·simp [h]; omega
  ·cases h
def firstLong (l : List Bs) : Int := match l.findIdx? (fun s => !okT s) with
 | some k => k
 | none => -1
def F97 : List D → Option D
 | [.slice _ _ xs, .fn 78 []] => match strsOf xs with
  | some l => if l.length ≤ 1000000000 then some (.int .i64 (firstLong l)) else none
  | none => none
 | _ => none
theorem loop97 {S : Summs} {ns : Id} {l : List Bs} {nl : Bool} {t : Id} {Q : Ex → St → Prop} (hS : S 78 = some (funS F78)) (hb : l.length ≤ 1000000000)
  (hret : ∀ (k : Nat) st, l.findIdx? (fun n => !okT n) = some k → st.s 4 = .int .i64 k → Q .ret st)
  (hexit : ∀ st, l.findIdx? (fun n => !okT n) = none → Q (.exit 0) st) :
  ∀ (n k : Nat) st g, n = l.length - k → k ≤ l.length → (∀ j, j < k → ∀ x, l[j]? = some x → okT x = true) → st.s 8 = .int .i64 (k : Int) → st.s 7 = .int .i64 (l.length : Int) → st.s 0 = .slice nl t (l.map .str) → st.s 1 = .fn 78 [] →
   loopW S ns dc97l0 Q st g := by
 intro n
 induction n with
 | zero =>
  intro k st g hn hk hall h8 h7 h0 h1
  refine wp_loopd dc97l0.eq_1 ?_
  have : ¬ ((k : Int) < l.length) := by omega
  simp only [↓go1, go2, go3, go4, reduceIte, Nat.reduceEqDiff, Nat.reduceAdd, h8, h7, h0, h1, this]
  refine hexit _ (List.findIdx?_eq_none_iff.2 fun x hx => ?_)
  obtain ⟨j, hj, e⟩ := List.getElem_of_mem hx
  simp [hall j (by omega) x (by rw [List.getElem?_eq_getElem hj, e])]
 | succ n ih =>
  intro k st g hn hk hall h8 h7 h0 h1
  refine wp_loopd dc97l0.eq_1 ?_
  have hlt : ((k : Int) < l.length) := by omega
  have hk0 : (0 : Int) ≤ (k : Int) := by omega
  have hkl : k < l.length := by omega
  have hx : (l.map D.str)[(k : Int).toNat]? = some (.str (l[k])) := by simp [hkl]
  have hw : IntKind.i64.wrap ((k : Int) + 1) = (k : Int) + 1 := IntWalk.i64_in _ ⟨by omega, by omega⟩
  cases hok : okT l[k] with
  | false =>
   simp only [↓go1, go2, go3, go4, reduceIte, Nat.reduceEqDiff, Nat.reduceAdd, h8, h7, h0, h1, hlt, hk0, hx, callK_fun hS, F78, hok, Bool.not_false]
   refine hret k _ ?_ rfl
   rw [List.findIdx?_eq_some_iff_getElem]
   refine ⟨hkl, by simp [hok], fun j hj => ?_⟩
   simp [hall j hj _ (List.getElem?_eq_getElem (by omega))]
  | true =>
   simp only [↓go1, go2, go3, go4, reduceIte, Nat.reduceEqDiff, Nat.reduceAdd, h8, h7, h0, h1, hlt, hk0, hx, callK_fun hS, F78, hok, Bool.not_true, hw]
   refine ih (k + 1) _ _ (by omega) (by omega) (fun j hj x hx' => ?_) rfl h7 h0 h1
   rcases Nat.lt_or_eq_of_le (Nat.le_of_lt_succ hj) with hj | rfl
   ·exact hall j hj x hx'
   ·rw [List.getElem?_eq_getElem hkl] at hx'
    simp only [Option.some.injEq] at hx'; subst hx'
    exact hok
theorem ok97 {P : Program} (hd : Desk P) : (funS F97).ok P 97 := by
 have hS : Summs.ok P (tabL [(78, funS F78)]) := tabL_cons (ok78 hd) tabL_nil
 have s78 : tabL [(78, funS F78)] 78 = some (funS F78) := rfl
 generalize tabL [(78, funS F78)] = S at hS s78
 refine fun_ok (S := S) hS hd.f97 (fun ds r h => ?_) (fun ds r h => ?_)
 ·unfold F97 at h; split at h
  ·simp
  ·cases h
 ·unfold F97 at h; split at h
  ·rename_i nl t xs
   split at h
   ·rename_i l hl
    obtain rfl := strsOf_some hl
    split at h
    ·rename_i hb
     simp only [Option.some.injEq] at h
     subst h
     unfold dc97
     simp only [↓go1, go2, go3, go4, reduceIte, Nat.reduceEqDiff, Nat.reduceAdd, List.length_map]
     refine loop97 s78 hb (fun k st h1 h2 => ?_) (fun st h1 => ?_) l.length 0 _ _ rfl (by omega) (by omega) rfl rfl rfl rfl
     ·simp only [↓go1, go2, go3, go4, reduceIte, Nat.reduceEqDiff, Nat.reduceAdd, h2, firstLong, h1]
     ·simp only [↓go1, go2, go3, go4, reduceIte, Nat.reduceEqDiff, Nat.reduceAdd, firstLong, h1]
    ·cases h
   ·cases h
  ·cases h
def F77 : List D → Option D
 | [.slice _ _ xs, .fn 78 []] => match strsOf xs with
  | some l => if l.length ≤ 1000000000 then some (.bool (l.any fun n => !okT n)) else none
  | none => none
 | _ => none
theorem firstLong_any (l : List Bs) : decide (0 ≤ firstLong l) = l.any fun n => !okT n := by
 unfold firstLong
 cases h : l.findIdx? (fun n => !okT n) with
 | none =>
  have := List.findIdx?_eq_none_iff.1 h
  have h2 : (l.any fun n => !okT n) = false := by rw [List.any_eq_false]; intro x hx; simpa using this x hx
  rw [h2]; simp
 | some k =>
  rw [List.findIdx?_eq_some_iff_getElem] at h
  obtain ⟨hk, h1, _⟩ := h
  have : (l.any fun n => !okT n) = true := List.any_eq_true.2 ⟨l[k], List.getElem_mem hk, h1⟩
  rw [this]; simp
theorem ok77 {P : Program} (hd : Desk P) : (funS F77).ok P 77 := by
 have hS : Summs.ok P (tabL [(97, funS F97)]) := tabL_cons (ok97 hd) tabL_nil
 have s97 : tabL [(97, funS F97)] 97 = some (funS F97) := rfl
 generalize tabL [(97, funS F97)] = S at hS s97
 refine fun_ok (S := S) hS hd.f77 (fun ds r h => ?_) (fun ds r h => ?_)
 ·unfold F77 at h; split at h
  ·simp
  ·cases h
 ·unfold F77 at h; split at h
  ·rename_i nl t xs
   split at h
   ·rename_i l hl
    split at h
    ·rename_i hb
     simp only [Option.some.injEq] at h
     subst h
     unfold dc77
     simp only [↓go1, go2, go3, go4, reduceIte, Nat.reduceEqDiff, Nat.reduceAdd, callK_fun s97, F97, hl, hb, firstLong_any]
    ·cases h
   ·cases h
  ·cases h
def F40 : List D → Option D
 | [.slice _ _ xs] => match strsOf xs with
  | some l => if l.length ≤ 1000000000 then some (.bool (l.all okT)) else none
  | none => none
 | _ => none
theorem ok40 {P : Program} (hd : Desk P) : (funS F40).ok P 40 := by
 have hS : Summs.ok P (tabL [(77, funS F77)]) := tabL_cons (ok77 hd) tabL_nil
 have s77 : tabL [(77, funS F77)] 77 = some (funS F77) := rfl
 generalize tabL [(77, funS F77)] = S at hS s77
 refine fun_ok (S := S) hS hd.f40 (fun ds r h => ?_) (fun ds r h => ?_)
 ·unfold F40 at h; split at h
  ·simp
  ·cases h
 ·unfold F40 at h; split at h
  ·rename_i nl t xs
   split at h
   ·rename_i l hl
    split at h
    ·rename_i hb
     simp only [Option.some.injEq] at h
     subst h
     unfold dc40
     have e : (!l.any fun n => !okT n) = l.all okT := by simp [List.all_eq_not_any_not]
     simp only [↓go1, go2, go3, go4, reduceIte, Nat.reduceEqDiff, Nat.reduceAdd, callK_fun s77, F77, hl, hb, e]
    ·cases h
   ·cases h
  ·cases h
def okL (d : Dn) : Bool := okT d.line && okT d.reply
def F15 : List D → Option D
 | [d] => match tdOf d with
  | some (_, _, t) => some (.int .i64 (checkB t))
  | none => none
 | _ => none
theorem f39_four (d : Dn) {nl : Bool} {t : Id} : F39 [.slice nl t [.int .i64 d.cl, .int .i64 d.fr, .int .i64 d.at_, .int .i64 d.to]] = some (.bool (okN d)) := by
 simp [F39, intsOf, okN, Bool.and_assoc]
theorem f39_two (a b : Int) {nl : Bool} {t : Id} : F39 [.slice nl t [.int .i64 a, .int .i64 b]] = some (.bool (inR a && inR b)) := by
 simp [F39, intsOf]
theorem f40_two (d : Dn) {nl : Bool} {t : Id} : F40 [.slice nl t [.str d.line, .str d.reply]] = some (.bool (okL d)) := by
 simp [F40, strsOf, okL]
end Go.Vd

namespace Go.Vd
open Go.RowKit
set_option maxRecDepth 10000
theorem loop15 {S : Summs} {l : List Dn} {nl : Bool} {t : Id} {Q : Ex → St → Prop} (s39 : S 39 = some (funS F39)) (s40 : S 40 = some (funS F40)) (hb : l.length ≤ 64) :
  ∀ (n k : Nat) (u v : Bool) st g, n = l.length - k → k ≤ l.length → st.s 29 = .int .i64 (k : Int) → st.s 28 = .int .i64 (l.length : Int) → st.s 27 = .slice nl t (l.map dnD) → st.s 3 = .bool u → st.s 4 = .bool v →
   (∀ st, st.s 3 = .bool (u && (l.drop k).all okN) → st.s 4 = .bool (v && (l.drop k).all okL) → Q (.exit 0) st) → loopW S [] dc15l0 Q st g := by
 intro n
 induction n with
 | zero =>
  intro k u v st g hn hk h29 h28 h27 h3 h4 hexit
  refine wp_loopd dc15l0.eq_1 ?_
  have : ¬ ((k : Int) < l.length) := by omega
  simp only [↓go1, go2, go3, go4, reduceIte, Nat.reduceEqDiff, Nat.reduceAdd, h29, h28, this]
  refine hexit _ ?_ ?_
  ·rw [List.drop_of_length_le (by omega)]
   simp only [↓go1, go2, go3, go4, reduceIte, Nat.reduceEqDiff, Nat.reduceAdd, h3, List.all_nil, Bool.and_true]
  ·rw [List.drop_of_length_le (by omega)]
   simp only [↓go1, go2, go3, go4, reduceIte, Nat.reduceEqDiff, Nat.reduceAdd, h4, List.all_nil, Bool.and_true]
 | succ n ih =>
  intro k u v st g hn hk h29 h28 h27 h3 h4 hexit
  refine wp_loopd dc15l0.eq_1 ?_
  have hlt : ((k : Int) < l.length) := by omega
  have hk0 : (0 : Int) ≤ (k : Int) := by omega
  have hkl : k < l.length := by omega
  have hx : (l.map dnD)[(k : Int).toNat]? = some (.agg [.int .i64 l[k].cl, .str l[k].line, .str l[k].reply, .int .i64 l[k].fr, .int .i64 l[k].at_, .int .i64 l[k].to, .bool l[k].is]) := by simp [hkl, dnD]
  have hw : IntKind.i64.wrap ((k : Int) + 1) = (k : Int) + 1 := IntWalk.i64_in _ ⟨by omega, by omega⟩
  have f39 := fun (nl : Bool) (t : Id) => f39_four l[k] (nl := nl) (t := t)
  have f40 := fun (nl : Bool) (t : Id) => f40_two l[k] (nl := nl) (t := t)
  have hdr : l.drop k = l[k] :: l.drop (k + 1) := List.drop_eq_getElem_cons hkl
  rw [hdr] at hexit
  simp only [List.all_cons] at hexit
  cases u <;> cases v
  all_goals simp only [↓go1, gB2, reduceIte, Nat.reduceEqDiff, Nat.reduceAdd, Nat.reduceSub, Nat.reduceLT, List.take_succ_cons, List.take_zero, List.getElem?_cons_zero, List.getElem?_cons_succ, put_rd, rd_zero, rd_succ, Nat.le_refl, Nat.reduceLeDiff, h29, h28, h27, h3, h4, hlt, hk0, hx, hw, callK_fun s39, callK_fun s40, f39, f40]
  all_goals refine ih (k + 1) _ _ _ _ (by omega) (by omega) rfl h28 h27 rfl rfl (fun st a b => hexit st ?_ ?_)
  all_goals first | simpa using a | simpa using b
theorem ok15 {P : Program} (hd : Desk P) (h39 : (funS F39).ok P 39) : (funS F15).ok P 15 := by
 have hS : Summs.ok P (tabL [(39, funS F39), (40, funS F40)]) := tabL_cons h39 (tabL_cons (ok40 hd) tabL_nil)
 have s39 : tabL [(39, funS F39), (40, funS F40)] 39 = some (funS F39) := rfl
 have s40 : tabL [(39, funS F39), (40, funS F40)] 40 = some (funS F40) := rfl
 generalize tabL [(39, funS F39), (40, funS F40)] = S at hS s39 s40
 refine fun_ok (S := S) hS hd.f15 (fun ds r h => ?_) (fun ds r h => ?_)
 ·unfold F15 at h; split at h
  ·simp
  ·cases h
 ·unfold F15 at h; split at h
  ·rename_i d
   split at h
   ·rename_i nc nb t ht
    obtain ⟨x, y, rfl⟩ := tdOf_some ht
    simp only [Option.some.injEq] at h
    subst h
    unfold dc15
    have g1 : ((64 : Int) < (t.calls.length : Int)) = (64 < t.calls.length) := by simp only [eq_iff_iff]; omega
    have g2 : ((64 : Int) < (t.behind.length : Int)) = (64 < t.behind.length) := by simp only [eq_iff_iff]; omega
    simp only [↓go1, gB4, reduceIte, Nat.reduceEqDiff, Nat.reduceAdd, put_rd, List.length_map, Nat.reduceLeDiff, Nat.reduceLT, and_self, true_and, Nat.reduceSub, List.getElem?_cons_zero, List.getElem?_cons_succ, Nat.zero_add, g1, g2]
    refine ifQ.intro (fun hc => ?_) (fun hc => ?_)
    ·simp only [↓go1, go2, go3, go4, reduceIte, Nat.reduceEqDiff, Nat.reduceAdd, hc]
     simp [checkB, hc]
    ·simp only [↓go1, gB4, reduceIte, Nat.reduceEqDiff, Nat.reduceAdd, put_rd, List.length_map, Nat.reduceLeDiff, Nat.reduceLT, and_self, true_and, Nat.reduceSub, List.getElem?_cons_zero, List.getElem?_cons_succ, Nat.zero_add, g1, g2, hc]
     refine ifQ.intro (fun hc2 => ?_) (fun hc2 => ?_)
     ·simp only [↓go1, go2, go3, go4, reduceIte, Nat.reduceEqDiff, Nat.reduceAdd, hc2]
      simp [checkB, hc2]
     ·have f39 := fun (nl : Bool) (t' : Id) => f39_two t.ticks t.left (nl := nl) (t := t')
      have f40 : ∀ (nl : Bool) (t' : Id), F40 [.slice nl t' (t.behind.map .str)] = some (.bool (t.behind.all okT)) := fun nl t' => by
       simp only [F40, strsOf_map]; exact if_pos (by omega)
      simp only [↓go1, gB4, reduceIte, Nat.reduceEqDiff, Nat.reduceAdd, put_rd, List.length_map, Nat.reduceLeDiff, Nat.reduceLT, and_self, true_and, and_true, and_false, false_and, List.cons.injEq, Nat.reduceSub, List.getElem?_cons_zero, List.getElem?_cons_succ, Nat.zero_add, g1, g2, hc, hc2, callK_fun s39, callK_fun s40, f39, f40]
      refine Need.intro (feetB_ok rfl) ?_
      simp only [↓go1, gB4, reduceIte, Nat.reduceEqDiff, Nat.reduceAdd, put_rd, List.length_map, Nat.reduceLeDiff, Nat.reduceLT, and_self, true_and, and_true, and_false, false_and, List.cons.injEq, Nat.reduceSub, List.getElem?_cons_zero, List.getElem?_cons_succ, Nat.zero_add, g1, g2, hc, hc2, callK_fun s39, callK_fun s40, f39, f40]
      refine loop15 (l := t.calls) (nl := nc) (t := x) s39 s40 (by omega) t.calls.length 0 (inR t.ticks && inR t.left) (t.behind.all okT) _ _ rfl (by omega) rfl rfl rfl rfl rfl (fun st a b => ?_)
      rw [List.drop_zero] at a b
      have hcs : checkB t = if (inR t.ticks && inR t.left && t.calls.all okN) = false then 8 else if (t.behind.all okT && t.calls.all okL) = false then 5 else 0 := by
       unfold checkB
       rw [if_neg (by omega)]
       rfl
      rw [hcs]
      cases hu : (inR t.ticks && inR t.left && t.calls.all okN) with
      | false =>
       rw [hu] at a
       simp only [↓go1, go2, go3, go4, reduceIte, Nat.reduceEqDiff, Nat.reduceAdd, a, b, Bool.not_false]
      | true =>
       rw [hu] at a
       cases hv : (t.behind.all okT && t.calls.all okL) with
       | false =>
        rw [hv] at b
        simp only [↓go1, go2, go3, go4, reduceIte, Nat.reduceEqDiff, Nat.reduceAdd, a, b, Bool.not_false, Bool.not_true]
       | true =>
        rw [hv] at b
        simp only [↓go1, go2, go3, go4, reduceIte, Nat.reduceEqDiff, Nat.reduceAdd, a, b, Bool.not_false, Bool.not_true]
   ·cases h
  ·cases h
end Go.Vd

namespace Go.Vd
open Go.RowKit
set_option maxRecDepth 10000
end Go.Vd

namespace Go.Vd
open Go.RowKit
set_option maxRecDepth 10000
def Gw (m : Mem) (c e : Nat) (nl : Bool) (t : Id) : Prop := nl = true ∨ ∃ j, t = [j] ∧ j < c ∧ m t 0 = some (.tok (e + 1))
theorem Gw.grow {m : Mem} {c e c' x : Nat} {nl : Bool} {t : Id} {xs : List D} (h : Gw m c e nl t) (hc : c ≤ c') : Grow (m.put [c'] 0 [.tok x]) e (.slice nl t xs) := by
 rcases h with h | ⟨j, rfl, h1, h2⟩
 ·exact .inl h
 ·refine .inr ⟨?_, by simp⟩
  rw [Mem.put_other (by simp; omega)]; exact h2
theorem Gw.new {m : Mem} {c e c' : Nat} {nl : Bool} {t : Id} {xs : List D} (hc : c' < c) : Gw (Upd.app m (growU e [c'] (.slice nl t xs))) c e false [c'] := by
 refine .inr ⟨c', rfl, hc, ?_⟩
 cases nl <;> simp [growU, Upd.app, put_tok]
theorem Gw.more {m : Mem} {c c' e : Nat} {nl : Bool} {t : Id} (h : Gw m c e nl t) (hc : c ≤ c') : Gw m c' e nl t := by
 rcases h with h | ⟨j, h1, h2, h3⟩
 ·exact .inl h
 ·exact .inr ⟨j, h1, by omega, h3⟩
def Fdns : List D → Option D
 | [.slice _ _ xs] => match dnsOf xs with
  | some l => if l.length ≤ 1000 then some (.slice l.isEmpty [] (l.map dnD)) else none
  | none => none
 | _ => none
theorem isEmpty_take {α : Type} {l : List α} {k : Nat} (h : k < l.length) : (l.take (k + 1)).isEmpty = false := by
 cases l with
 | nil => simp at h
 | cons x r => rfl
theorem dnD_eq (d : Dn) : dnD d = .agg [.int .i64 d.cl, .str d.line, .str d.reply, .int .i64 d.fr, .int .i64 d.at_, .int .i64 d.to, .bool d.is] := rfl
theorem loop32 {S : Summs} {l : List Dn} {nl0 : Bool} {t0 : Id} {Q : Ex → St → Prop} (hb : l.length ≤ 1000)
  (hexit : ∀ st t, st.s 3 = .slice l.isEmpty t (l.map dnD) → Q (.exit 0) st) :
  ∀ (n k : Nat) (t : Id) st g, n = l.length - k → k ≤ l.length → st.s 4 = .int .i64 (k : Int) → st.s 0 = .slice nl0 t0 (l.map dnD) → st.s 3 = .slice (l.take k).isEmpty t ((l.take k).map dnD) → Gw st.m st.c 65 (l.take k).isEmpty t →
   loopW S [] dc32l0 Q st g := by
 intro n
 induction n with
 | zero =>
  intro k t st g hn hk h4 h0 h3 hg
  refine wp_loopd dc32l0.eq_1 ?_
  have : ¬ ((k : Int) < l.length) := by omega
  simp only [↓go1, go2, go3, go4, reduceIte, Nat.reduceEqDiff, Nat.reduceAdd, h4, h0, List.length_map, this]
  refine hexit _ t ?_
  rw [List.take_of_length_le (by omega)] at h3
  simp only [↓go1, go2, go3, go4, reduceIte, Nat.reduceEqDiff, Nat.reduceAdd, h3]
 | succ n ih =>
  intro k t st g hn hk h4 h0 h3 hg
  refine wp_loopd dc32l0.eq_1 ?_
  have hlt : ((k : Int) < l.length) := by omega
  have hk0 : (0 : Int) ≤ (k : Int) := by omega
  have hkl : k < l.length := by omega
  have hx : (l.map dnD)[(k : Int).toNat]? = some (.agg [.int .i64 l[k].cl, .str l[k].line, .str l[k].reply, .int .i64 l[k].fr, .int .i64 l[k].at_, .int .i64 l[k].to, .bool l[k].is]) := by simp [hkl, dnD]
  have hw : IntKind.i64.wrap ((k : Int) + 1) = (k : Int) + 1 := IntWalk.i64_in _ ⟨by omega, by omega⟩
  have htk : l.take (k + 1) = l.take k ++ [l[k]] := by rw [List.take_add_one, List.getElem?_eq_getElem hkl]; rfl
  have hlen : (l.take k).length = k := by simp; omega
  have hnil : (l.take k).isEmpty = true → (l.take k).map dnD = [] := fun h => by rw [List.isEmpty_iff] at h; rw [h]; rfl
  simp only [↓go1, gB4, reduceIte, Nat.reduceEqDiff, Nat.reduceAdd, Nat.reduceSub, Nat.reduceLT, List.take_succ_cons, List.take_zero, List.length_map, Nat.le_refl, Nat.reduceLeDiff, h4, h0, h3, hlt, hk0, hx, hw, and_false, reduceCtorEq]
  refine Need.intro ⟨by simp [hlen]; omega, rfl, hg.grow (by omega)⟩ ?_
  rw [app_fold hnil]
  simp only [↓go1, go2, go3, go4, reduceIte, Nat.reduceEqDiff, Nat.reduceAdd, h4, hw]
  refine ih (k + 1) [st.c + 4 + 6] _ _ (by omega) (by omega) rfl h0 ?_ ?_
  ·rw [isEmpty_take hkl, htk, List.map_append]; rfl
  ·rw [isEmpty_take hkl]
   exact Gw.new (by simp only; omega)
theorem ok32 {P : Program} (hd : Desk P) : (funS Fdns).ok P 32 := by
 refine fun_ok (S := fun _ => none) none_ok hd.f32 (fun ds r h => ?_) (fun ds r h => ?_)
 ·unfold Fdns at h; split at h
  ·simp
  ·cases h
 ·unfold Fdns at h; split at h
  ·rename_i nl t xs
   split at h
   ·rename_i l hl
    obtain rfl := dnsOf_some hl
    split at h
    ·rename_i hb
     simp only [Option.some.injEq] at h
     subst h
     unfold dc32
     simp only [↓go1, go2, go3, go4, reduceIte, Nat.reduceEqDiff, Nat.reduceAdd]
     refine loop32 (l := l) (nl0 := nl) (t0 := t) hb (fun st t' h1 => ?_) l.length 0 [] _ _ rfl (by omega) rfl rfl rfl (.inl rfl)
     simp only [↓go1, go2, go3, go4, reduceIte, Nat.reduceEqDiff, Nat.reduceAdd, h1]
    ·cases h
   ·cases h
  ·cases h
def F11 : List D → Option D
 | [d] => match tdOf d with
  | some (_, nb, t) => if t.calls.length ≤ 1000 then some (tdD t.calls.isEmpty nb t) else none
  | none => none
 | _ => none
theorem fdns_map (l : List Dn) (nl : Bool) (t : Id) (h : l.length ≤ 1000) : Fdns [.slice nl t (l.map dnD)] = some (.slice l.isEmpty [] (l.map dnD)) := by
 simp only [Fdns, dnsOf_map]; exact if_pos h
theorem ok11 {P : Program} (hd : Desk P) : (funS F11).ok P 11 := by
 have hS : Summs.ok P (tabL [(32, funS Fdns)]) := tabL_cons (ok32 hd) tabL_nil
 have s32 : tabL [(32, funS Fdns)] 32 = some (funS Fdns) := rfl
 generalize tabL [(32, funS Fdns)] = S at hS s32
 refine fun_ok (S := S) hS hd.f11 (fun ds r h => ?_) (fun ds r h => ?_)
 ·unfold F11 at h; split at h
  ·simp
  ·cases h
 ·unfold F11 at h; split at h
  ·rename_i d
   split at h
   ·rename_i nc nb t ht
    obtain ⟨x, y, rfl⟩ := tdOf_some ht
    split at h
    ·rename_i hb
     simp only [Option.some.injEq] at h
     subst h
     have f32 : ∀ (nl : Bool) (t' : Id), Fdns [.slice nl t' (t.calls.map dnD)] = some (.slice t.calls.isEmpty [] (t.calls.map dnD)) := fun nl t' => fdns_map _ _ _ hb
     have hfill2 : ∀ (n1 n2 : Bool) (t1 t2 : Id) (xs ys : List D) (b c : Int) (d : Bool), fillD [.slice true [] [], .int .i64 0, .int .i64 0, .bool false, .slice true [] []] [(0, 1, .slice n1 t1 xs), (1, 1, .int .i64 b), (2, 1, .int .i64 c), (3, 1, .bool d), (4, 1, .slice n2 t2 ys)] = some [.slice n1 t1 xs, .int .i64 b, .int .i64 c, .bool d, .slice n2 t2 ys] := by
      intro n1 n2 t1 t2 xs ys b c d
      simp [fillD, putAt, D.data, D.cells]
     unfold dc11
     simp only [↓go1, gB2, reduceIte, Nat.reduceEqDiff, Nat.reduceAdd, put_rd, List.length_map, Nat.reduceLeDiff, Nat.reduceLT, false_and, List.cons.injEq, Nat.reduceSub, List.getElem?_cons_zero, List.getElem?_cons_succ, Nat.zero_add, callK_fun s32, f32, hfill2, rd_zero, rd_succ]
     refine Need.intro (feetB_ok rfl) ?_
     simp only [↓go1, gB2, reduceIte, Nat.reduceEqDiff, Nat.reduceAdd, put_rd, List.length_map, Nat.reduceLeDiff, Nat.reduceLT, false_and, List.cons.injEq, Nat.reduceSub, List.getElem?_cons_zero, List.getElem?_cons_succ, Nat.zero_add, callK_fun s32, f32, hfill2, rd_zero, rd_succ, res_cell, ldD_agg]
     exact ⟨rfl, rfl⟩
    ·cases h
   ·cases h
  ·cases h
end Go.Vd

namespace Go.Vd
open Go.RowKit
set_option maxRecDepth 10000
theorem bytesD_app (a b : Bs) : bytesD (a ++ b) = bytesD a ++ bytesD b := by simp [bytesD]
theorem bytesD_len (a : Bs) : (bytesD a).length = a.length := by simp [bytesD]
theorem unbytes_bytes : ∀ a : Bs, unbytesD (bytesD a) = some a
 | [] => rfl
 | c :: r => by
  have h := c.toNat_lt
  show (unbytesD (bytesD r)).map _ = _
  rw [unbytes_bytes r]
  simp
theorem hexTab : ∀ n, n < 16 → ([48, 49, 50, 51, 52, 53, 54, 55, 56, 57, 97, 98, 99, 100, 101, 102] : Bs)[n]? = some (hexD n) := by decide +kernel
theorem and15 : ∀ n : Nat, n < 256 → bits .and .u8 (n : Int) 15 = ((n % 16 : Nat) : Int) := by decide +kernel
theorem shr4 : ∀ n : Nat, n < 256 → (n : Int).fdiv (2 ^ min (4 : Int).toNat IntKind.u8.bits) = ((n / 16 : Nat) : Int) := by decide +kernel
theorem hexB_snoc (s : Bs) (c : UInt8) : hexB (s ++ [c]) = hexB s ++ [hexD (c.toNat / 16), hexD (c.toNat % 16)] := by simp [hexB]
def F65 : List D → Option D
 | [.str s] => if s.length ≤ 1000000 then some (.str (hexB s)) else none
 | _ => none
theorem loop65 {S : Summs} {l : Bs} {Q : Ex → St → Prop} (hb : l.length ≤ 1000000)
  (hexit : ∀ st t, st.s 3 = .slice false t (bytesD (hexB l)) → Q (.exit 0) st) :
  ∀ (n k : Nat) (t : Id) st g, n = l.length - k → k ≤ l.length → st.s 13 = .int .i64 (k : Int) → st.s 12 = .int .i64 (l.length : Int) → st.s 11 = .slice false [] (bytesD l) → st.s 3 = .slice false t (bytesD (hexB (l.take k))) → Gw st.m st.c 5 false t →
   loopW S [] dc65l0 Q st g := by
 intro n
 induction n with
 | zero =>
  intro k t st g hn hk h13 h12 h11 h3 hg
  refine wp_loopd dc65l0.eq_1 ?_
  have : ¬ ((k : Int) < l.length) := by omega
  simp only [↓go1, go2, go3, go4, reduceIte, Nat.reduceEqDiff, Nat.reduceAdd, h13, h12, this]
  refine hexit _ t ?_
  rw [List.take_of_length_le (by omega)] at h3
  simp only [↓go1, go2, go3, go4, reduceIte, Nat.reduceEqDiff, Nat.reduceAdd, h3]
 | succ n ih =>
  intro k t st g hn hk h13 h12 h11 h3 hg
  refine wp_loopd dc65l0.eq_1 ?_
  have hlt : ((k : Int) < l.length) := by omega
  have hk0 : (0 : Int) ≤ (k : Int) := by omega
  have hkl : k < l.length := by omega
  have hx : (bytesD l)[(k : Int).toNat]? = some (.int .u8 (l[k].toNat : Int)) := by simp [bytesD, hkl]
  have hw : IntKind.i64.wrap ((k : Int) + 1) = (k : Int) + 1 := IntWalk.i64_in _ ⟨by omega, by omega⟩
  have hc := l[k].toNat_lt
  have htk : l.take (k + 1) = l.take k ++ [l[k]] := by rw [List.take_add_one, List.getElem?_eq_getElem hkl]; rfl
  have hlen : (l.take k).length = k := by simp; omega
  have h04 : (0 : Int) ≤ 4 := by decide
  have a1 := shr4 l[k].toNat (by omega)
  have a2 := and15 l[k].toNat (by omega)
  have p1 : (0 : Int) ≤ ((l[k].toNat / 16 : Nat) : Int) := by omega
  have p2 : (0 : Int) ≤ ((l[k].toNat % 16 : Nat) : Int) := by omega
  have q1 : (((l[k].toNat / 16 : Nat) : Int)).toNat = l[k].toNat / 16 := Int.toNat_natCast _
  have q2 : (((l[k].toNat % 16 : Nat) : Int)).toNat = l[k].toNat % 16 := Int.toNat_natCast _
  have t1 := hexTab (l[k].toNat / 16) (by omega)
  have t2 := hexTab (l[k].toNat % 16) (by omega)
  simp only [↓go1, gB4, reduceIte, Nat.reduceEqDiff, Nat.reduceAdd, Nat.reduceSub, Nat.reduceLT, Nat.le_refl, Nat.reduceLeDiff, h13, h12, h11, h3, hlt, hk0, hx, hw, h04, a1, a2, p1, p2, q1, q2, t1, t2, false_and, reduceCtorEq]
  refine Need.intro ⟨by rw [bytesD_len, hexB_len, hlen]; omega, rfl, hg.grow (by omega)⟩ ?_
  simp only [↓go1, go2, go3, go4, reduceIte, Nat.reduceEqDiff, Nat.reduceAdd, Bool.false_eq_true, h13, hw]
  refine Need.intro (feetB_ok rfl) ?_
  simp only [↓go1, go2, go3, go4, reduceIte, Nat.reduceEqDiff, Nat.reduceAdd, Bool.false_eq_true, h13, hw]
  refine ih (k + 1) [st.c + 1 + 3 + 8] _ _ (by omega) (by omega) rfl h12 h11 ?_ ?_
  ·rw [htk, hexB_snoc, bytesD_app]; rfl
  ·exact Gw.new (by simp only; omega)
theorem ok65 {P : Program} (hd : Desk P) : (funS F65).ok P 65 := by
 refine fun_ok (S := fun _ => none) none_ok hd.f65 (fun ds r h => ?_) (fun ds r h => ?_)
 ·unfold F65 at h; split at h
  ·simp
  ·cases h
 ·unfold F65 at h; split at h
  ·rename_i s
   split at h
   ·rename_i hb
    simp only [Option.some.injEq] at h
    subst h
    have hw : IntKind.i64.wrap (2 * (s.length : Int)) = 2 * (s.length : Int) := IntWalk.i64_in _ ⟨by omega, by omega⟩
    have b1 : (0 : Int) ≤ 0 := by decide
    have b2 : (0 : Int) ≤ 2 * (s.length : Int) := by omega
    have b3 : 2 * (s.length : Int) * 2 ≤ 140737488355328 := by omega
    have e0 : (0 : Int).toNat = 0 := rfl
    unfold dc65
    simp only [↓go1, go2, go3, go4, reduceIte, Nat.reduceEqDiff, Nat.reduceAdd, hw, b1, b2, b3, e0, List.replicate_zero, bytesD_len, true_and, and_true]
    refine Need.intro (by omega) ?_
    simp only [↓go1, go2, go3, go4, reduceIte, Nat.reduceEqDiff, Nat.reduceAdd, hw, e0, List.replicate_zero, bytesD_len]
    refine loop65 (l := s) hb (fun st t' h1 => ?_) s.length 0 [4] _ _ rfl (by omega) rfl rfl rfl rfl (.inr ⟨4, rfl, by simp only; omega, by simp [put_tok]⟩)
    simp only [↓go1, go2, go3, go4, reduceIte, Nat.reduceEqDiff, Nat.reduceAdd, h1, unbytes_bytes]
   ·cases h
  ·cases h
def F30 : List D → Option D
 | [.bool b] => some (.str (flagB b))
 | _ => none
theorem ok30 {P : Program} (hd : Desk P) : (funS F30).ok P 30 := by
 refine fun_ok (S := fun _ => none) none_ok hd.f30 (fun ds r h => ?_) (fun ds r h => ?_)
 ·unfold F30 at h; split at h
  ·simp
  ·cases h
 ·unfold F30 at h; split at h
  ·rename_i b
   simp only [Option.some.injEq] at h
   subst h
   unfold dc30
   cases b
   all_goals simp only [↓go1, go2, go3, go4, reduceIte, Nat.reduceEqDiff, Nat.reduceAdd, flagB, Bool.false_eq_true]
  ·cases h
def F31 : List D → Option D
 | [.str s] => if s.length ≤ 1000000 then some (.str (wordB s)) else none
 | _ => none
theorem ok31 {P : Program} (hd : Desk P) : (funS F31).ok P 31 := by
 have hS : Summs.ok P (tabL [(65, funS F65)]) := tabL_cons (ok65 hd) tabL_nil
 have s65 : tabL [(65, funS F65)] 65 = some (funS F65) := rfl
 generalize tabL [(65, funS F65)] = S at hS s65
 refine fun_ok (S := S) hS hd.f31 (fun ds r h => ?_) (fun ds r h => ?_)
 ·unfold F31 at h; split at h
  ·simp
  ·cases h
 ·unfold F31 at h; split at h
  ·rename_i s
   split at h
   ·rename_i hb
    simp only [Option.some.injEq] at h
    subst h
    unfold dc31
    have f65 : F65 [.str s] = some (.str (hexB s)) := if_pos hb
    by_cases hs : s = []
    ·subst hs
     simp only [↓go1, go2, go3, go4, reduceIte, Nat.reduceEqDiff, Nat.reduceAdd, wordB]
    ·simp only [↓go1, go2, go3, go4, reduceIte, Nat.reduceEqDiff, Nat.reduceAdd, wordB, hs, callK_fun s65, f65]
   ·cases h
  ·cases h
end Go.Vd

namespace Go.Vd
open Go.RowKit
def isStrD : D → Bool
 | .str _ => true
 | _ => false
def strOf : D → List UInt8
 | .str s => s
 | _ => []
theorem rep_own {P : Program} {B : Nat} {w0 w w' : World} {m : Mem} {g : Gh} {e n : Nat} {v : Value} {xs : List D} (hi : InvM P B w0 m w g) (hb : Below w.heap.size w w') (hx : xs.all isStrD = true) (hn : n = xs.length)
  (ho : w'.ownsRow w.heap.size e 1 v n (xs.map fun d => Value.string ⟨(strOf d).toArray⟩)) (hv : v ≠ .slice none 0 0) : Rep w' (g.over w w') (.slice false [] xs) v := by
 obtain ⟨h1, h2⟩ := ho
 rcases h2 with ⟨h2, _⟩ | ⟨b, cap, cur, rfl, hbase, hh, hnc, hcm, hsz, htk⟩
 ·exact absurd h2 hv
 ·have hcells : ∀ d ∈ xs, d.cells.length = 1 ∧ d.calm = true := by
   intro d hd
   have := List.all_eq_true.1 hx d hd
   unfold isStrD at this
   split at this
   ·exact ⟨rfl, rfl⟩
   ·cases this
  have hreps : Reps w' (g.over w w') (flat xs) (xs.map fun d => Value.string ⟨(strOf d).toArray⟩) := by
   clear hn h1 htk hv
   induction xs with
   | nil => exact Reps.nil _ _
   | cons x r ih =>
    simp only [List.all_cons, Bool.and_eq_true] at hx
    have ihr := ih hx.2 (fun d hd => hcells d (List.mem_cons_of_mem _ hd))
    match x, hx.1 with
    | .str s, _ => exact Reps.append (Reps.one (.str s) rfl) ihr
  refine Rep.ofRow (sz := 1) (vs := xs.map fun d => Value.string ⟨(strOf d).toArray⟩) hh hn hnc (fun d hd => (hcells d hd).1) hreps (fun j v hv => ?_) ?_ (fun h => absurd rfl h) (fun d hd => (hcells d hd).2)
  ·rw [← htk] at hv
   have hj : j < n * 1 := by
    rcases Nat.lt_or_ge j (n * 1) with h | h
    ·exact h
    ·rw [List.getElem?_eq_none (by simp; omega)] at hv; cases hv
   rw [List.getElem?_take_of_lt hj] at hv
   simpa using hv
  ·simp only [Gh.over]
   rw [if_neg (by omega), hh]
   show n * 1 ≤ cur.size
   omega
theorem flat_strs : ∀ {xs : List D}, xs.all isStrD = true → flat xs = xs
 | [], _ => rfl
 | .str s :: r, h => by
  simp only [List.all_cons, Bool.and_eq_true] at h
  show [D.str s] ++ flat r = _
  rw [flat_strs h.2]; rfl
 | .junk :: r, h => by simp [isStrD] at h
 | .bool _ :: r, h => by simp [isStrD] at h
 | .int _ _ :: r, h => by simp [isStrD] at h
 | .slice _ _ _ :: r, h => by simp [isStrD] at h
 | .ptr _ _ :: r, h => by simp [isStrD] at h
 | .eptr _ :: r, h => by simp [isStrD] at h
 | .nilptr :: r, h => by simp [isStrD] at h
 | .agg _ :: r, h => by simp [isStrD] at h
 | .tup _ :: r, h => by simp [isStrD] at h
 | .iface _ _ :: r, h => by simp [isStrD] at h
 | .nilIface :: r, h => by simp [isStrD] at h
 | .fn _ _ :: r, h => by simp [isStrD] at h
 | .nilFunc :: r, h => by simp [isStrD] at h
 | .nilMap :: r, h => by simp [isStrD] at h
 | .tok _ :: r, h => by simp [isStrD] at h
end Go.Vd

namespace Go.Vd
open Go.RowKit
set_option maxRecDepth 10000
def sumL : List Bs → Nat
 | [] => 0
 | w :: r => w.length + sumL r
theorem joinB_len : ∀ l : List Bs, (joinB l).length ≤ sumL l + l.length
 | [] => by simp [joinB]
 | [w] => by simp [joinB, sumL]
 | w :: v :: r => by
  have := joinB_len (v :: r)
  simp only [joinB, List.length_append, List.length_cons, sumL] at this ⊢
  omega
theorem join_eq : ∀ l : List Bs, Lib.join l [32] = joinB l
 | [] => rfl
 | [w] => Lib.join_one w [32]
 | w :: v :: r => by
  have ih := join_eq (v :: r)
  rw [Lib.join_cons] at ih
  rw [Lib.join_cons, joinB, ← ih]
  simp [Lib.joinTail]
def Fjoin : List D → Option D
 | [.slice _ _ xs, .str [32]] => match strsOf xs with
  | some l => if l ≠ [] ∧ l.length ≤ 1000 ∧ sumL l ≤ 1000000 then some (.str (joinB l)) else none
  | none => none
 | _ => none
theorem strs_all : ∀ l : List Bs, (l.map D.str).all isStrD = true
 | [] => rfl
 | w :: r => by
  show (isStrD (.str w) && _) = true
  rw [strs_all r]; rfl
theorem join_ok {P : Program} {ρ : Go.Shelf.Ren} (L : Go.Proofs.Lays.n156 P ρ) (X : Go.Proofs.Builder.Extra P ρ) (ent : ∃ fn, P.funcs[ρ.f 156]? = some fn ∧ fn.body.isSome = true ∧ (fn.name == "runtime.NumGoroutine") = false) : (funS Fjoin).ok P (ρ.f 156) := by
 refine ⟨ent, fun ds m m' fr _ => rfl, ?_⟩
 intro B w0 w m g fr ds vs r u hi hfresh hl hrep hex
 simp only [funS] at hex
 split at hex
 ·rw [Option.map_eq_some_iff] at hex
  obtain ⟨r', hr, hex⟩ := hex
  simp only [Prod.mk.injEq] at hex
  obtain ⟨rfl, rfl⟩ := hex
  match ds, vs, hl with
  | [d, d1], [v, v1], _ =>
   have h0 := hrep 0 d v rfl rfl
   have h1 := hrep 1 d1 v1 rfl rfl
   have hd : ∃ nl t xs, d = .slice nl t xs := by
    cases d <;> first | exact ⟨_, _, _, rfl⟩ | (exfalso; simp [Fjoin, D.un] at hr; done)
   obtain ⟨nl, t, xs, rfl⟩ := hd
   have hd1 : d1 = .str [32] := by
    cases d1 with
    | str s =>
     simp only [List.map_cons, List.map_nil, D.un, Fjoin] at hr
     split at hr
     ·rename_i heq; simp at heq; rw [heq.2]
     ·cases hr
    | _ => exfalso; simp [Fjoin, D.un] at hr
   subst hd1
   simp only [List.map_cons, List.map_nil, D.un, Fjoin] at hr
   split at hr
   ·rename_i l hls
    obtain rfl := strsOf_some hls
    split at hr
    ·rename_i hc
     obtain ⟨c0, c1, c2⟩ := hc
     simp only [Option.some.injEq] at hr; subst hr
     rw [h1.str_inv]
     cases nl with
     | true =>
      rcases h0.slice_inv with ⟨_, hx, _⟩ | ⟨h, _⟩
      ·exfalso; cases l with
       | nil => exact c0 rfl
       | cons a b => cases hx
      ·cases h
     | false =>
      obtain ⟨ad, n, c, sz, ws, rfl, hn, hnc, hsz, hwl, hrp, hcl, _⟩ := h0.slice_list
      have hpos : 0 < l.length := List.length_pos_iff.2 c0
      have hsz1 : sz = 1 := by
       obtain ⟨a, b, e⟩ := List.exists_cons_of_ne_nil c0
       have := hsz (.str a) (by rw [e]; simp)
       exact this.symm
      subst hsz1
      have hcell : ∀ (j : Nat) z, l[j]? = some z → w.cell? (ad.add j) = some (.string ⟨z.toArray⟩) := by
       intro j z hz
       have hj : j < l.length := (List.getElem?_eq_some_iff.1 hz).1
       have hfl : (flat (l.map D.str))[j]? = some (.str z) := by
        rw [flat_strs (strs_all l), List.getElem?_map, hz]; rfl
       have hw := List.getElem?_eq_getElem (l := ws) (i := j) (by simp at hn; omega)
       have hr := hrp.2.2 j (.str z) _ hfl hw
       rw [hr.str_inv] at hw
       exact hcl j _ hw
      have hsp : ad.spot = none := by
       obtain ⟨z, hz⟩ : ∃ z, l[0]? = some z := ⟨_, List.getElem?_eq_getElem hpos⟩
       have := hcell 0 z hz
       unfold World.cell? at this
       split at this
       ·split at this
        ·cases this
        ·rename_i hh
         cases hsp : ad.spot with
         | none => rfl
         | some q => simp [Addr.add, hsp] at hh
       ·cases this
      have hadd : ∀ j, ad.add j = ⟨ad.block, ad.off + j, none⟩ := by
       intro j
       cases ad with
       | mk b o s => simp at hsp; subst hsp; unfold Addr.add; split <;> simp_all
      have hlt : ad.block < w.heap.size := by
       obtain ⟨z, hz⟩ : ∃ z, l[0]? = some z := ⟨_, List.getElem?_eq_getElem hpos⟩
       have := hcell 0 z hz
       rw [hadd] at this
       unfold World.cell? at this
       split at this
       ·rename_i hh; exact (Array.getElem?_eq_some_iff.1 hh).1
       ·cases this
      have hmap : (l.map fun x => (⟨x.toArray⟩ : ByteArray)).map (·.data.toList) = l := by simp [List.map_map, Function.comp_def]
      have hj : (⟨#[32]⟩ : ByteArray).data.toList = [32] := rfl
      have hjl := joinB_len l
      have := Go.Proofs.Any.strings_Join L X ad.block ad.off c (l.map fun x => (⟨x.toArray⟩ : ByteArray)) ⟨#[32]⟩ w (fun j x hx => by
       rw [List.getElem?_map, Option.map_eq_some_iff] at hx
       obtain ⟨z, hz, rfl⟩ := hx
       rw [← hadd]; exact hcell j z hz) hlt (by simp; omega) (by simp at hn ⊢; omega) (by rw [hmap, hj, join_eq]; omega)
      rw [hmap, hj, join_eq, List.length_map] at this
      have hnl : n = l.length := by simpa using hn
      have had : (some (⟨ad.block, ad.off, none⟩ : Addr)) = some ad := by cases ad; simp at hsp; simp [hsp]
      rw [had, ← hnl] at this
      refine this.mono ?_
      rintro ev w' ⟨rfl, hb⟩
      exact ⟨_, g.over w w', rfl, hi.over hb, Ext.over hi.gz hb, .str _, fun i hf _ => hf⟩
    ·cases hr
   ·cases hr
  | [], _, _ => simp [Fjoin] at hr
  | [_], _, _ => simp [Fjoin] at hr
  | _ :: _ :: _ :: _, _, _ => simp [Fjoin] at hr
 ·cases hex
def F29 : List D → Option D
 | [.slice _ _ xs] => match strsOf xs with
  | some l => if l ≠ [] ∧ l.length ≤ 1000 ∧ sumL l ≤ 1000000 then some (.str (joinB l)) else none
  | none => none
 | _ => none
theorem ok29 {P : Program} (hd : Desk P) (h64 : (funS Fjoin).ok P 64) : (funS F29).ok P 29 := by
 have hS : Summs.ok P (tabL [(64, funS Fjoin)]) := tabL_cons h64 tabL_nil
 have s64 : tabL [(64, funS Fjoin)] 64 = some (funS Fjoin) := rfl
 generalize tabL [(64, funS Fjoin)] = S at hS s64
 refine fun_ok (S := S) hS hd.f29 (fun ds r h => ?_) (fun ds r h => ?_)
 ·unfold F29 at h; split at h
  ·simp
  ·cases h
 ·unfold F29 at h; split at h
  ·rename_i nl t xs
   split at h
   ·rename_i l hl
    split at h
    ·rename_i hc
     simp only [Option.some.injEq] at h
     subst h
     have fj : ∀ (nl : Bool) (t : Id), Fjoin [.slice nl t xs, .str [32]] = some (.str (joinB l)) := fun nl t => by
      simp only [Fjoin, hl]; exact if_pos hc
     unfold dc29
     simp only [↓go1, go2, go3, go4, reduceIte, Nat.reduceEqDiff, Nat.reduceAdd, callK_fun s64, fj]
    ·cases h
   ·cases h
  ·cases h
end Go.Vd

namespace Go.Vd
open Go.RowKit
set_option maxRecDepth 10000
theorem Gw.put {m : Mem} {c e c' o : Nat} {nl : Bool} {t : Id} {ds : List D} (h : Gw m c e nl t) (hc : c ≤ c') : Gw (m.put [c'] o ds) c e nl t := by
 rcases h with h | ⟨j, rfl, h1, h2⟩
 ·exact .inl h
 ·refine .inr ⟨j, rfl, h1, ?_⟩
  rw [Mem.put_other (by simp; omega)]; exact h2
theorem Gw.toGrow {m : Mem} {c e : Nat} {nl : Bool} {t : Id} {xs : List D} (h : Gw m c e nl t) : Grow m e (.slice nl t xs) := by
 rcases h with h | ⟨j, rfl, h1, h2⟩
 ·exact .inl h
 ·exact .inr ⟨h2, by simp⟩
theorem digits_len (n : Int) : (digitsB n).length ≤ 14 := by
 by_cases h : inR n = true
 ·exact (numV_digits h).2.2
 ·unfold digitsB; rw [if_neg h]; simp
theorem flag_len (b : Bool) : (flagB b).length = 1 := by cases b <;> rfl
theorem word_len (s : Bs) : (wordB s).length ≤ 2 * s.length + 1 := by
 unfold wordB
 split
 ·simp
 ·rw [hexB_len]; omega
theorem lines_ok {t : Td} (h : checkB t = 0) : t.calls.length ≤ 64 ∧ t.behind.length ≤ 64 ∧ (∀ d ∈ t.calls, d.line.length ≤ 500 ∧ d.reply.length ≤ 500) ∧ ∀ s ∈ t.behind, s.length ≤ 500 := by
 unfold checkB at h
 split at h
 ·cases h
 ·rename_i h1
  split at h
  ·cases h
  ·split at h
   ·cases h
   ·rename_i h2
    simp only [Bool.not_eq_false, Bool.and_eq_true] at h2
    refine ⟨by omega, by omega, fun d hd => ?_, fun s hs => ?_⟩
    ·have := List.all_eq_true.1 h2.2 d hd
     simp only [okT, Bool.and_eq_true, decide_eq_true_eq] at this
     exact this
    ·have := List.all_eq_true.1 h2.1 s hs
     simpa [okT] using this
def Flines : List D → Option D
 | [d] => match tdOf d with
  | some (_, _, t) => some (.tup [if checkB t = 0 then .slice false [] ((linesB t).map .str) else .slice true [] [], .int .i64 (checkB t)])
  | none => none
 | _ => none
theorem f29_call (d : Dn) (h : d.line.length ≤ 500 ∧ d.reply.length ≤ 500) {nl : Bool} {t : Id} : F29 [.slice nl t [.str [99, 97, 108, 108], .str (digitsB d.cl), .str (digitsB d.fr), .str (digitsB d.at_), .str (digitsB d.to), .str (flagB d.is), .str (wordB d.line), .str (wordB d.reply)]] = some (.str (joinB (callW d))) := by
 have h1 := digits_len d.cl
 have h2 := digits_len d.fr
 have h3 := digits_len d.at_
 have h4 := digits_len d.to
 have h5 := flag_len d.is
 have h6 := word_len d.line
 have h7 := word_len d.reply
 simp only [F29, strsOf, Option.map_some]
 exact if_pos ⟨by simp, by simp, by simp only [sumL, List.length_cons, List.length_nil]; omega⟩
theorem f29_told (t : Td) {nl : Bool} {t' : Id} : F29 [.slice nl t' [.str [116, 111, 108, 100], .str (digitsB t.ticks), .str (digitsB t.left), .str (flagB t.shut)]] = some (.str (joinB (toldW t))) := by
 have h1 := digits_len t.ticks
 have h2 := digits_len t.left
 have h5 := flag_len t.shut
 simp only [F29, strsOf, Option.map_some]
 exact if_pos ⟨by simp, by simp, by simp only [sumL, List.length_cons, List.length_nil]; omega⟩
theorem f29_said (s : Bs) (h : s.length ≤ 500) {nl : Bool} {t' : Id} : F29 [.slice nl t' [.str [115, 97, 105, 100], .str (wordB s)]] = some (.str (joinB (saidW s))) := by
 have h6 := word_len s
 simp only [F29, strsOf, Option.map_some]
 exact if_pos ⟨by simp, by simp, by simp only [sumL, List.length_cons, List.length_nil]; omega⟩
set_option maxHeartbeats 1000000 in
theorem loop10a {S : Summs} {l : List Dn} {nl0 : Bool} {t0 : Id} {pre : List D} {y : D} {Q : Ex → St → Prop} (s27 : S 27 = some (funS F27)) (s29 : S 29 = some (funS F29)) (s30 : S 30 = some (funS F30)) (s31 : S 31 = some (funS F31)) (hb : l.length ≤ 64) (hpre : pre.length ≤ 1000)
  (hok : ∀ d ∈ l, d.line.length ≤ 500 ∧ d.reply.length ≤ 500)
  (hexit : ∀ st t, st.s 1 = .ptr [0] 0 → st.m [0] 4 = some y → st.s 5 = .slice false t (pre ++ l.map fun d => .str (joinB (callW d))) → Gw st.m st.c 9 false t → 1 ≤ st.c → Q (.exit 0) st) :
  ∀ (n k : Nat) (t : Id) st g, n = l.length - k → k ≤ l.length → st.s 30 = .int .i64 (k : Int) → st.s 29 = .int .i64 (l.length : Int) → st.s 28 = .slice nl0 t0 (l.map dnD) → st.s 1 = .ptr [0] 0 → st.m [0] 4 = some y →
   st.s 5 = .slice false t (pre ++ (l.take k).map fun d => .str (joinB (callW d))) → Gw st.m st.c 9 false t → 1 ≤ st.c →
   loopW S [] dc10l0 Q st g := by
 intro n
 induction n with
 | zero =>
  intro k t st g hn hk h30 h29 h28 h1 m4 h5 hg hc1
  refine wp_loopd dc10l0.eq_1 ?_
  have : ¬ ((k : Int) < l.length) := by omega
  simp only [↓go1, go2, go3, go4, reduceIte, Nat.reduceEqDiff, Nat.reduceAdd, h30, h29, this]
  rw [List.take_of_length_le (by omega)] at h5
  refine hexit _ t ?_ m4 ?_ (hg.more (by simp only; omega)) (by simp only; omega)
  ·simp only [↓go1, go2, go3, go4, reduceIte, Nat.reduceEqDiff, Nat.reduceAdd, h1]
  ·simp only [↓go1, go2, go3, go4, reduceIte, Nat.reduceEqDiff, Nat.reduceAdd, h5]
 | succ n ih =>
  intro k t st g hn hk h30 h29 h28 h1 m4 h5 hg hc1
  refine wp_loopd dc10l0.eq_1 ?_
  have hlt : ((k : Int) < l.length) := by omega
  have hk0 : (0 : Int) ≤ (k : Int) := by omega
  have hkl : k < l.length := by omega
  have hx : (l.map dnD)[(k : Int).toNat]? = some (.agg [.int .i64 l[k].cl, .str l[k].line, .str l[k].reply, .int .i64 l[k].fr, .int .i64 l[k].at_, .int .i64 l[k].to, .bool l[k].is]) := by simp [hkl, dnD]
  have hw : IntKind.i64.wrap ((k : Int) + 1) = (k : Int) + 1 := IntWalk.i64_in _ ⟨by omega, by omega⟩
  have htk : l.take (k + 1) = l.take k ++ [l[k]] := by rw [List.take_add_one, List.getElem?_eq_getElem hkl]; rfl
  have hlen : (l.take k).length = k := by simp; omega
  have hdk := hok l[k] (List.getElem_mem hkl)
  have f27 : ∀ n, F27 [.int .i64 n] = some (.str (digitsB n)) := fun n => rfl
  have f30 : ∀ b, F30 [.bool b] = some (.str (flagB b)) := fun b => rfl
  have f31a : F31 [.str l[k].line] = some (.str (wordB l[k].line)) := if_pos (by omega)
  have f31b : F31 [.str l[k].reply] = some (.str (wordB l[k].reply)) := if_pos (by omega)
  have f29 := fun (nl : Bool) (t : Id) => f29_call l[k] hdk (nl := nl) (t := t)
  simp only [↓go1, gB2, reduceIte, Nat.reduceEqDiff, Nat.reduceAdd, Nat.reduceSub, Nat.reduceLT, List.take_succ_cons, List.take_zero, List.getElem?_cons_zero, List.getElem?_cons_succ, put_rd, rd_zero, rd_succ, Nat.le_refl, Nat.reduceLeDiff, h30, h29, h28, h5, hlt, hk0, hx, hw, callK_fun s27, callK_fun s29, callK_fun s30, callK_fun s31, f27, f29, f30, f31a, f31b, reduceCtorEq]
  refine Need.intro ⟨by simp only [List.length_append, List.length_map, List.length_take]; omega, rfl, ((((hg.put (by omega)).put (by omega)).put (by omega)).put (by omega)).toGrow⟩ ?_
  simp only [↓go1, gB2, reduceIte, Nat.reduceEqDiff, Nat.reduceAdd, Nat.reduceSub, Nat.reduceLT, List.take_succ_cons, List.take_zero, List.getElem?_cons_zero, List.getElem?_cons_succ, put_rd, rd_zero, rd_succ, Nat.le_refl, Nat.reduceLeDiff, h30, h29, h28, h5, hlt, hk0, hx, hw, callK_fun s27, callK_fun s29, callK_fun s30, callK_fun s31, f27, f29, f30, f31a, f31b, reduceCtorEq]
  refine Need.intro (feetB_ok rfl) ?_
  simp only [↓go1, gB2, reduceIte, Nat.reduceEqDiff, Nat.reduceAdd, Nat.reduceSub, Nat.reduceLT, List.take_succ_cons, List.take_zero, List.getElem?_cons_zero, List.getElem?_cons_succ, put_rd, rd_zero, rd_succ, Nat.le_refl, Nat.reduceLeDiff, h30, h29, h28, h5, hlt, hk0, hx, hw, callK_fun s27, callK_fun s29, callK_fun s30, callK_fun s31, f27, f29, f30, f31a, f31b, reduceCtorEq]
  refine ih (k + 1) [st.c + 1 + 4 + 25] _ _ (by omega) (by omega) rfl h29 h28 h1 ?_ ?_ (Gw.new (by simp only; omega)) (by simp only; omega)
  ·have e1 : ([0] : Id) ≠ [st.c + 1 + 2] := by simp
   simp only [growU, Upd.app, put_tok, Nat.reduceEqDiff, and_false, reduceIte, Mem.put_other e1, m4]
  ·rw [htk, List.map_append, ← List.append_assoc]; rfl
set_option maxHeartbeats 1000000 in
theorem loop10b {S : Summs} {l : List Bs} {nl0 : Bool} {t0 : Id} {pre : List D} {Q : Ex → St → Prop} (s29 : S 29 = some (funS F29)) (s31 : S 31 = some (funS F31)) (hb : l.length ≤ 64) (hpre : pre.length ≤ 1000)
  (hok : ∀ d ∈ l, d.length ≤ 500)
  (hexit : ∀ st t, st.s 5 = .slice false t (pre ++ l.map fun d => .str (joinB (saidW d))) → Q (.exit 2) st) :
  ∀ (n k : Nat) (t : Id) st g, n = l.length - k → k ≤ l.length → st.s 64 = .int .i64 (k : Int) → st.s 63 = .int .i64 (l.length : Int) → st.s 62 = .slice nl0 t0 (l.map .str) →
   st.s 5 = .slice false t (pre ++ (l.take k).map fun d => .str (joinB (saidW d))) → Gw st.m st.c 9 false t →
   loopW S [] dc10l1 Q st g := by
 intro n
 induction n with
 | zero =>
  intro k t st g hn hk h30 h29 h28 h5 hg
  refine wp_loopd dc10l1.eq_1 ?_
  have : ¬ ((k : Int) < l.length) := by omega
  simp only [↓go1, go2, go3, go4, reduceIte, Nat.reduceEqDiff, Nat.reduceAdd, h30, h29, this]
  rw [List.take_of_length_le (by omega)] at h5
  refine hexit _ t ?_
  simp only [↓go1, go2, go3, go4, reduceIte, Nat.reduceEqDiff, Nat.reduceAdd, h5]
 | succ n ih =>
  intro k t st g hn hk h30 h29 h28 h5 hg
  refine wp_loopd dc10l1.eq_1 ?_
  have hlt : ((k : Int) < l.length) := by omega
  have hk0 : (0 : Int) ≤ (k : Int) := by omega
  have hkl : k < l.length := by omega
  have hx : (l.map D.str)[(k : Int).toNat]? = some (.str l[k]) := by simp [hkl]
  have hw : IntKind.i64.wrap ((k : Int) + 1) = (k : Int) + 1 := IntWalk.i64_in _ ⟨by omega, by omega⟩
  have htk : l.take (k + 1) = l.take k ++ [l[k]] := by rw [List.take_add_one, List.getElem?_eq_getElem hkl]; rfl
  have hlen : (l.take k).length = k := by simp; omega
  have hdk := hok l[k] (List.getElem_mem hkl)
  have f31a : F31 [.str l[k]] = some (.str (wordB l[k])) := if_pos (by omega)
  have f29 := fun (nl : Bool) (t : Id) => f29_said l[k] hdk (nl := nl) (t' := t)
  simp only [↓go1, gB2, reduceIte, Nat.reduceEqDiff, Nat.reduceAdd, Nat.reduceSub, Nat.reduceLT, List.take_succ_cons, List.take_zero, List.getElem?_cons_zero, List.getElem?_cons_succ, put_rd, rd_zero, rd_succ, Nat.le_refl, Nat.reduceLeDiff, h30, h29, h28, h5, hlt, hk0, hx, hw, callK_fun s29, callK_fun s31, f29, f31a, reduceCtorEq]
  refine Need.intro ⟨by simp only [List.length_append, List.length_map, List.length_take]; omega, rfl, (((hg.put (by omega)).put (by omega))).toGrow⟩ ?_
  simp only [↓go1, gB2, reduceIte, Nat.reduceEqDiff, Nat.reduceAdd, Nat.reduceSub, Nat.reduceLT, List.take_succ_cons, List.take_zero, List.getElem?_cons_zero, List.getElem?_cons_succ, put_rd, rd_zero, rd_succ, Nat.le_refl, Nat.reduceLeDiff, h30, h29, h28, h5, hlt, hk0, hx, hw, callK_fun s29, callK_fun s31, f29, f31a, reduceCtorEq]
  refine ih (k + 1) [st.c + 1 + 3 + 6] _ _ (by omega) (by omega) rfl h29 h28 ?_ (Gw.new (by simp only; omega))
  ·rw [htk, List.map_append, ← List.append_assoc]; rfl
theorem ok10 {P : Program} (hd : Desk P) (h27 : (funS F27).ok P 27) (h15 : (funS F15).ok P 15) (h29 : (funS F29).ok P 29) : (funS Flines).ok P 10 := by
 have hS : Summs.ok P (tabL [(15, funS F15), (27, funS F27), (29, funS F29), (30, funS F30), (31, funS F31)]) := tabL_cons h15 (tabL_cons h27 (tabL_cons h29 (tabL_cons (ok30 hd) (tabL_cons (ok31 hd) tabL_nil))))
 have s15 : tabL [(15, funS F15), (27, funS F27), (29, funS F29), (30, funS F30), (31, funS F31)] 15 = some (funS F15) := rfl
 have s27 : tabL [(15, funS F15), (27, funS F27), (29, funS F29), (30, funS F30), (31, funS F31)] 27 = some (funS F27) := rfl
 have s29 : tabL [(15, funS F15), (27, funS F27), (29, funS F29), (30, funS F30), (31, funS F31)] 29 = some (funS F29) := rfl
 have s30 : tabL [(15, funS F15), (27, funS F27), (29, funS F29), (30, funS F30), (31, funS F31)] 30 = some (funS F30) := rfl
 have s31 : tabL [(15, funS F15), (27, funS F27), (29, funS F29), (30, funS F30), (31, funS F31)] 31 = some (funS F31) := rfl
 generalize tabL [(15, funS F15), (27, funS F27), (29, funS F29), (30, funS F30), (31, funS F31)] = S at hS s15 s27 s29 s30 s31
 refine fun_ok (S := S) hS hd.f10 (fun ds r h => ?_) (fun ds r h => ?_)
 ·unfold Flines at h; split at h
  ·simp
  ·cases h
 ·unfold Flines at h; split at h
  ·rename_i d
   split at h
   ·rename_i nc nb t ht
    obtain ⟨x, y, rfl⟩ := tdOf_some ht
    simp only [Option.some.injEq] at h
    subst h
    have f15 : ∀ x y, F15 [.agg [.slice nc x (t.calls.map dnD), .int .i64 t.ticks, .int .i64 t.left, .bool t.shut, .slice nb y (t.behind.map .str)]] = some (.int .i64 (checkB t)) := fun x y => by
     simp only [F15, tdOf, dnsOf_map, strsOf_map]
    have f27 : ∀ n, F27 [.int .i64 n] = some (.str (digitsB n)) := fun n => rfl
    have f30 : ∀ b, F30 [.bool b] = some (.str (flagB b)) := fun b => rfl
    have f29 := fun (nl : Bool) (t' : Id) => f29_told t (nl := nl) (t' := t')
    unfold dc10
    by_cases hz : checkB t = 0
    ·simp only [↓go1, gB2, reduceIte, Nat.reduceEqDiff, Nat.reduceAdd, put_rd, List.length_map, Nat.reduceLeDiff, Nat.reduceLT, false_and, List.cons.injEq, Nat.reduceSub, List.getElem?_cons_zero, List.getElem?_cons_succ, Nat.zero_add, rd_zero, rd_succ, callK_fun s15, callK_fun s27, callK_fun s29, callK_fun s30, f15, f27, f29, f30, hz]
     refine Need.intro (feetB_ok rfl) ?_
     simp only [↓go1, gB2, reduceIte, Nat.reduceEqDiff, Nat.reduceAdd, put_rd, List.length_map, Nat.reduceLeDiff, Nat.reduceLT, false_and, List.cons.injEq, Nat.reduceSub, List.getElem?_cons_zero, List.getElem?_cons_succ, Nat.zero_add, rd_zero, rd_succ, callK_fun s15, callK_fun s27, callK_fun s29, callK_fun s30, f15, f27, f29, f30, hz]
     obtain ⟨b1, b2, b3, b4⟩ := lines_ok hz
     refine loop10a (l := t.calls) (pre := [.str (joinB (toldW t))]) (y := .slice nb y (t.behind.map .str)) s27 s29 s30 s31 b1 (by simp) b3 (fun st u a1 a2 a3 a4 a5 => ?_) t.calls.length 0 [19] _ _ rfl (by omega) rfl rfl rfl rfl ?_ rfl ?_ (by simp)
     ·simp only [↓go1, gB2, reduceIte, Nat.reduceEqDiff, Nat.reduceAdd, put_rd, List.length_map, Nat.reduceLeDiff, Nat.reduceLT, false_and, List.cons.injEq, Nat.reduceSub, List.getElem?_cons_zero, List.getElem?_cons_succ, Nat.zero_add, rd_zero, rd_succ, hz, a1, a2, a3]
      refine loop10b (l := t.behind) (pre := [.str (joinB (toldW t))] ++ t.calls.map fun d => .str (joinB (callW d))) s29 s31 b2 (by simp; omega) b4 (fun st u c => ?_) t.behind.length 0 u _ _ rfl (by omega) rfl rfl rfl ?_ ?_
      ·simp only [↓go1, gB2, reduceIte, Nat.reduceEqDiff, Nat.reduceAdd, put_rd, List.length_map, Nat.reduceLeDiff, Nat.reduceLT, false_and, List.cons.injEq, Nat.reduceSub, List.getElem?_cons_zero, List.getElem?_cons_succ, Nat.zero_add, rd_zero, rd_succ, hz, c]
       simp [linesB, List.map_map, Function.comp_def]
      ·simp only [↓go1, go2, go3, go4, reduceIte, Nat.reduceEqDiff, Nat.reduceAdd, a3, List.take_zero, List.map_nil, List.append_nil]
      ·exact a4.more (by simp only; omega)
     ·rfl
     ·exact .inr ⟨19, rfl, by simp, rfl⟩
    ·have hz : (checkB t = 0) = False := by simpa using hz
     simp only [↓go1, gB2, reduceIte, Nat.reduceEqDiff, Nat.reduceAdd, put_rd, List.length_map, Nat.reduceLeDiff, Nat.reduceLT, false_and, List.cons.injEq, Nat.reduceSub, List.getElem?_cons_zero, List.getElem?_cons_succ, Nat.zero_add, rd_zero, rd_succ, callK_fun s15, callK_fun s27, callK_fun s29, callK_fun s30, f15, f27, f29, f30, hz]
   ·cases h
  ·cases h
end Go.Vd

namespace Go.Vd
open Go.RowKit
set_option maxRecDepth 10000
theorem Gw.ne {m : Mem} {c e : Nat} {t i : Id} {nl : Bool} {t0 : Id} {xs : List D} (h : Gw m c e false t) (hm : m i 0 = some (.slice nl t0 xs)) : i ≠ t := by
 rcases h with h | ⟨j, rfl, h1, h2⟩
 ·cases h
 ·rintro rfl; rw [hm] at h2; cases h2
end Go.Vd

namespace Go.Vd
open Go.RowKit
set_option maxRecDepth 10000
def Fst : List D → Option D
 | [.slice _ _ xs, .slice _ _ ys] => match strsOf xs, strsOf ys with
  | some a, some b => if a.length ≤ 1000000000 then some (.bool (decide (a = b))) else none
  | _, _ => none
 | _ => none
def Fsd : List D → Option D
 | [.slice _ _ xs, .slice _ _ ys] => match dnsOf xs, dnsOf ys with
  | some a, some b => if a.length ≤ 1000000000 then some (.bool (decide (a = b))) else none
  | _, _ => none
 | _ => none
theorem leaves_eq {a b : Dn} (h : a = b) : leavesEq [.int .i64 a.cl, .str a.line, .str a.reply, .int .i64 a.fr, .int .i64 a.at_, .int .i64 a.to, .bool a.is] [.int .i64 b.cl, .str b.line, .str b.reply, .int .i64 b.fr, .int .i64 b.at_, .int .i64 b.to, .bool b.is] [(0, 0), (2, 1), (2, 2), (0, 3), (0, 4), (0, 5), (1, 6)] = some true := by
 subst h; simp [leavesEq, leafEq]
theorem leaves_ne {a b : Dn} (h : a ≠ b) : leavesEq [.int .i64 a.cl, .str a.line, .str a.reply, .int .i64 a.fr, .int .i64 a.at_, .int .i64 a.to, .bool a.is] [.int .i64 b.cl, .str b.line, .str b.reply, .int .i64 b.fr, .int .i64 b.at_, .int .i64 b.to, .bool b.is] [(0, 0), (2, 1), (2, 2), (0, 3), (0, 4), (0, 5), (1, 6)] = some false := by
 cases a with | mk a1 a2 a3 a4 a5 a6 a7 =>
 cases b with | mk b1 b2 b3 b4 b5 b6 b7 =>
 simp only [ne_eq, Dn.mk.injEq] at h
 simp only [leavesEq, leafEq, List.getElem?_cons_zero, List.getElem?_cons_succ, if_true]
 by_cases h1 : a1 = b1
 ·by_cases h2 : a2 = b2
  ·by_cases h3 : a3 = b3
   ·by_cases h4 : a4 = b4
    ·by_cases h5 : a5 = b5
     ·by_cases h6 : a6 = b6
      ·by_cases h7 : a7 = b7
       ·exact absurd ⟨h1, h2, h3, h4, h5, h6, h7⟩ h
       ·simp [h1, h2, h3, h4, h5, h6, beq_eq_false_iff_ne.2 h7]
      ·simp [h1, h2, h3, h4, h5, beq_eq_false_iff_ne.2 h6]
     ·simp [h1, h2, h3, h4, beq_eq_false_iff_ne.2 h5]
    ·simp [h1, h2, h3, beq_eq_false_iff_ne.2 h4]
   ·simp [h1, h2, beq_eq_false_iff_ne.2 h3]
  ·simp [h1, beq_eq_false_iff_ne.2 h2]
 ·simp [beq_eq_false_iff_ne.2 h1]
set_option maxHeartbeats 1000000 in
theorem loop17 {S : Summs} {a b : List Bs} {nl nl2 : Bool} {t t2 : Id} {Q : Ex → St → Prop} (hab : a.length = b.length) (hb : a.length ≤ 1000000000)
  (hret : ∀ st, a ≠ b → st.s 4 = .bool false → Q .ret st)
  (hexit : ∀ st, a = b → Q (.exit 0) st) :
  ∀ (n k : Nat) st g, n = a.length - k → k ≤ a.length → (∀ j, j < k → a[j]? = b[j]?) → st.s 5 = .int .i64 (k : Int) → st.s 0 = .slice nl t (a.map .str) → st.s 1 = .slice nl2 t2 (b.map .str) → loopW S [] dc17l0 Q st g := by
 intro n
 induction n with
 | zero =>
  intro k st g hn hk hall h5 h0 h1
  refine wp_loopd dc17l0.eq_1 ?_
  have : ¬ ((k : Int) < a.length) := by omega
  simp only [↓go1, go2, go3, go4, reduceIte, Nat.reduceEqDiff, Nat.reduceAdd, h5, h0, h1, List.length_map, this]
  refine hexit _ (List.ext_getElem? fun j => ?_)
  by_cases hj : j < k
  ·exact hall j hj
  ·rw [List.getElem?_eq_none (by omega), List.getElem?_eq_none (by omega)]
 | succ n ih =>
  intro k st g hn hk hall h5 h0 h1
  refine wp_loopd dc17l0.eq_1 ?_
  have hlt : ((k : Int) < a.length) := by omega
  have hk0 : (0 : Int) ≤ (k : Int) := by omega
  have hka : k < a.length := by omega
  have hkb : k < b.length := by omega
  have hx : (a.map D.str)[(k : Int).toNat]? = some (.str a[k]) := by simp [hka]
  have hy : (b.map D.str)[(k : Int).toNat]? = some (.str b[k]) := by simp [hkb]
  have hw : IntKind.i64.wrap ((k : Int) + 1) = (k : Int) + 1 := IntWalk.i64_in _ ⟨by omega, by omega⟩
  by_cases hc : a[k] = b[k]
  ·have hl := True.intro
   simp only [↓go1, gB4, reduceIte, Nat.reduceEqDiff, Nat.reduceAdd, Nat.reduceSub, List.drop_zero, List.drop_succ_cons, Nat.reduceLeDiff, List.take_succ_cons, List.take_zero, Nat.le_refl, h5, h0, h1, List.length_map, hlt, hk0, hx, hy, hw, hc, hl, Bool.bne_true, Bool.bne_false, Bool.not_true, Bool.not_false, bne_self_eq_false, Bool.false_bne, Bool.true_bne, Option.map_some]
   refine Need.intro (feetB_ok rfl) ?_
   simp only [↓go1, gB4, reduceIte, Nat.reduceEqDiff, Nat.reduceAdd, Nat.reduceSub, List.drop_zero, List.drop_succ_cons, Nat.reduceLeDiff, List.take_succ_cons, List.take_zero, Nat.le_refl, h5, h0, h1, List.length_map, hlt, hk0, hx, hy, hw, hc, hl, Bool.bne_true, Bool.bne_false, Bool.not_true, Bool.not_false, bne_self_eq_false, Bool.false_bne, Bool.true_bne, Option.map_some]
   refine ih (k + 1) _ _ (by omega) (by omega) (fun j hj => ?_) rfl h0 h1
   rcases Nat.lt_or_eq_of_le (Nat.le_of_lt_succ hj) with hj | rfl
   ·exact hall j hj
   ·rw [List.getElem?_eq_getElem hka, List.getElem?_eq_getElem hkb, hc]
  ·have hl := True.intro
   simp only [↓go1, gB4, reduceIte, Nat.reduceEqDiff, Nat.reduceAdd, Nat.reduceSub, List.drop_zero, List.drop_succ_cons, Nat.reduceLeDiff, List.take_succ_cons, List.take_zero, Nat.le_refl, h5, h0, h1, List.length_map, hlt, hk0, hx, hy, hw, hc, hl, Bool.bne_true, Bool.bne_false, Bool.not_true, Bool.not_false, bne_self_eq_false, Bool.false_bne, Bool.true_bne, Option.map_some]
   refine Need.intro (feetB_ok rfl) ?_
   simp only [↓go1, gB4, reduceIte, Nat.reduceEqDiff, Nat.reduceAdd, Nat.reduceSub, List.drop_zero, List.drop_succ_cons, Nat.reduceLeDiff, List.take_succ_cons, List.take_zero, Nat.le_refl, h5, h0, h1, List.length_map, hlt, hk0, hx, hy, hw, hc, hl, Bool.bne_true, Bool.bne_false, Bool.not_true, Bool.not_false, bne_self_eq_false, Bool.false_bne, Bool.true_bne, Option.map_some]
   refine hret _ (fun e => ?_) rfl
   subst e; exact hc rfl
theorem ok17 {P : Program} (hd : Desk P) : (funS Fst).ok P 17 := by
 refine fun_ok (S := tabL []) tabL_nil hd.f17 (fun ds r h => ?_) (fun ds r h => ?_)
 ·unfold Fst at h; split at h
  ·simp
  ·cases h
 ·unfold Fst at h; split at h
  ·rename_i nl t xs nl2 t2 ys
   split at h
   ·rename_i a b ha hb
    obtain rfl := strsOf_some ha
    obtain rfl := strsOf_some hb
    split at h
    ·rename_i hlen
     simp only [Option.some.injEq] at h
     subst h
     unfold dc17
     by_cases hc : a.length = b.length
     ·have he : ((a.length : Int) = (b.length : Int)) = True := by simp; omega
      simp only [↓go1, go2, go3, go4, reduceIte, Nat.reduceEqDiff, Nat.reduceAdd, List.length_map, he]
      refine loop17 (a := a) (b := b) (nl := nl) (t := t) (nl2 := nl2) (t2 := t2) hc hlen (fun st h1 h2 => ?_) (fun st h1 => ?_) a.length 0 _ _ rfl (by omega) (by omega) rfl rfl rfl
      ·simp only [↓go1, go2, go3, go4, reduceIte, Nat.reduceEqDiff, Nat.reduceAdd, h2]
       simp [h1]
      ·simp only [↓go1, go2, go3, go4, reduceIte, Nat.reduceEqDiff, Nat.reduceAdd]
       simp [h1]
     ·have he : ((a.length : Int) = (b.length : Int)) = False := by simp; omega
      simp only [↓go1, go2, go3, go4, reduceIte, Nat.reduceEqDiff, Nat.reduceAdd, List.length_map, he]
      have : a ≠ b := fun e => hc (by rw [e])
      simp [this]
    ·cases h
   ·cases h
  ·cases h
set_option maxHeartbeats 1000000 in
theorem loop44 {S : Summs} {a b : List Bs} {nl nl2 : Bool} {t t2 : Id} {Q : Ex → St → Prop} (hab : a.length = b.length) (hb : a.length ≤ 1000000000)
  (hret : ∀ st, a ≠ b → st.s 4 = .bool false → Q .ret st)
  (hexit : ∀ st, a = b → Q (.exit 0) st) :
  ∀ (n k : Nat) st g, n = a.length - k → k ≤ a.length → (∀ j, j < k → a[j]? = b[j]?) → st.s 13 = .int .i64 (k : Int) → st.s 12 = .int .i64 (a.length : Int) → st.s 0 = .slice nl t (a.map .str) → st.s 1 = .slice nl2 t2 (b.map .str) → loopW S [] dc44l0 Q st g := by
 intro n
 induction n with
 | zero =>
  intro k st g hn hk hall h5 h12 h0 h1
  refine wp_loopd dc44l0.eq_1 ?_
  have : ¬ ((k : Int) < a.length) := by omega
  simp only [↓go1, go2, go3, go4, reduceIte, Nat.reduceEqDiff, Nat.reduceAdd, h5, h12, h0, h1, List.length_map, this]
  refine hexit _ (List.ext_getElem? fun j => ?_)
  by_cases hj : j < k
  ·exact hall j hj
  ·rw [List.getElem?_eq_none (by omega), List.getElem?_eq_none (by omega)]
 | succ n ih =>
  intro k st g hn hk hall h5 h12 h0 h1
  refine wp_loopd dc44l0.eq_1 ?_
  have hlt : ((k : Int) < a.length) := by omega
  have hk0 : (0 : Int) ≤ (k : Int) := by omega
  have hka : k < a.length := by omega
  have hkb : k < b.length := by omega
  have hx : (a.map D.str)[(k : Int).toNat]? = some (.str a[k]) := by simp [hka]
  have hy : (b.map D.str)[(k : Int).toNat]? = some (.str b[k]) := by simp [hkb]
  have hw : IntKind.i64.wrap ((k : Int) + 1) = (k : Int) + 1 := IntWalk.i64_in _ ⟨by omega, by omega⟩
  by_cases hc : a[k] = b[k]
  ·have hl := True.intro
   simp only [↓go1, gB4, reduceIte, Nat.reduceEqDiff, Nat.reduceAdd, Nat.reduceSub, List.drop_zero, List.drop_succ_cons, Nat.reduceLeDiff, List.take_succ_cons, List.take_zero, Nat.le_refl, h5, h12, h0, h1, List.length_map, hlt, hk0, hx, hy, hw, hc, hl, Bool.bne_true, Bool.bne_false, Bool.not_true, Bool.not_false, bne_self_eq_false, Bool.false_bne, Bool.true_bne, Option.map_some]
   refine Need.intro (feetB_ok rfl) ?_
   simp only [↓go1, gB4, reduceIte, Nat.reduceEqDiff, Nat.reduceAdd, Nat.reduceSub, List.drop_zero, List.drop_succ_cons, Nat.reduceLeDiff, List.take_succ_cons, List.take_zero, Nat.le_refl, h5, h12, h0, h1, List.length_map, hlt, hk0, hx, hy, hw, hc, hl, Bool.bne_true, Bool.bne_false, Bool.not_true, Bool.not_false, bne_self_eq_false, Bool.false_bne, Bool.true_bne, Option.map_some]
   refine ih (k + 1) _ _ (by omega) (by omega) (fun j hj => ?_) rfl h12 h0 h1
   rcases Nat.lt_or_eq_of_le (Nat.le_of_lt_succ hj) with hj | rfl
   ·exact hall j hj
   ·rw [List.getElem?_eq_getElem hka, List.getElem?_eq_getElem hkb, hc]
  ·have hl := True.intro
   simp only [↓go1, gB4, reduceIte, Nat.reduceEqDiff, Nat.reduceAdd, Nat.reduceSub, List.drop_zero, List.drop_succ_cons, Nat.reduceLeDiff, List.take_succ_cons, List.take_zero, Nat.le_refl, h5, h12, h0, h1, List.length_map, hlt, hk0, hx, hy, hw, hc, hl, Bool.bne_true, Bool.bne_false, Bool.not_true, Bool.not_false, bne_self_eq_false, Bool.false_bne, Bool.true_bne, Option.map_some]
   refine Need.intro (feetB_ok rfl) ?_
   simp only [↓go1, gB4, reduceIte, Nat.reduceEqDiff, Nat.reduceAdd, Nat.reduceSub, List.drop_zero, List.drop_succ_cons, Nat.reduceLeDiff, List.take_succ_cons, List.take_zero, Nat.le_refl, h5, h12, h0, h1, List.length_map, hlt, hk0, hx, hy, hw, hc, hl, Bool.bne_true, Bool.bne_false, Bool.not_true, Bool.not_false, bne_self_eq_false, Bool.false_bne, Bool.true_bne, Option.map_some]
   refine hret _ (fun e => ?_) rfl
   subst e; exact hc rfl
theorem ok44 {P : Program} (hd : Desk P) : (funS Fst).ok P 44 := by
 refine fun_ok (S := tabL []) tabL_nil hd.f44 (fun ds r h => ?_) (fun ds r h => ?_)
 ·unfold Fst at h; split at h
  ·simp
  ·cases h
 ·unfold Fst at h; split at h
  ·rename_i nl t xs nl2 t2 ys
   split at h
   ·rename_i a b ha hb
    obtain rfl := strsOf_some ha
    obtain rfl := strsOf_some hb
    split at h
    ·rename_i hlen
     simp only [Option.some.injEq] at h
     subst h
     unfold dc44
     by_cases hc : a.length = b.length
     ·have he : ((a.length : Int) = (b.length : Int)) = True := by simp; omega
      simp only [↓go1, go2, go3, go4, reduceIte, Nat.reduceEqDiff, Nat.reduceAdd, List.length_map, he]
      refine loop44 (a := a) (b := b) (nl := nl) (t := t) (nl2 := nl2) (t2 := t2) hc hlen (fun st h1 h2 => ?_) (fun st h1 => ?_) a.length 0 _ _ rfl (by omega) (by omega) rfl rfl rfl rfl
      ·simp only [↓go1, go2, go3, go4, reduceIte, Nat.reduceEqDiff, Nat.reduceAdd, h2]
       simp [h1]
      ·simp only [↓go1, go2, go3, go4, reduceIte, Nat.reduceEqDiff, Nat.reduceAdd]
       simp [h1]
     ·have he : ((a.length : Int) = (b.length : Int)) = False := by simp; omega
      simp only [↓go1, go2, go3, go4, reduceIte, Nat.reduceEqDiff, Nat.reduceAdd, List.length_map, he]
      have : a ≠ b := fun e => hc (by rw [e])
      simp [this]
    ·cases h
   ·cases h
  ·cases h
set_option maxHeartbeats 1000000 in
theorem loop43 {S : Summs} {a b : List Dn} {nl nl2 : Bool} {t t2 : Id} {Q : Ex → St → Prop} (hab : a.length = b.length) (hb : a.length ≤ 1000000000)
  (hret : ∀ st, a ≠ b → st.s 4 = .bool false → Q .ret st)
  (hexit : ∀ st, a = b → Q (.exit 0) st) :
  ∀ (n k : Nat) st g, n = a.length - k → k ≤ a.length → (∀ j, j < k → a[j]? = b[j]?) → st.s 13 = .int .i64 (k : Int) → st.s 12 = .int .i64 (a.length : Int) → st.s 0 = .slice nl t (a.map dnD) → st.s 1 = .slice nl2 t2 (b.map dnD) → loopW S [] dc43l0 Q st g := by
 intro n
 induction n with
 | zero =>
  intro k st g hn hk hall h5 h12 h0 h1
  refine wp_loopd dc43l0.eq_1 ?_
  have : ¬ ((k : Int) < a.length) := by omega
  simp only [↓go1, go2, go3, go4, reduceIte, Nat.reduceEqDiff, Nat.reduceAdd, h5, h12, h0, h1, List.length_map, this]
  refine hexit _ (List.ext_getElem? fun j => ?_)
  by_cases hj : j < k
  ·exact hall j hj
  ·rw [List.getElem?_eq_none (by omega), List.getElem?_eq_none (by omega)]
 | succ n ih =>
  intro k st g hn hk hall h5 h12 h0 h1
  refine wp_loopd dc43l0.eq_1 ?_
  have hlt : ((k : Int) < a.length) := by omega
  have hk0 : (0 : Int) ≤ (k : Int) := by omega
  have hka : k < a.length := by omega
  have hkb : k < b.length := by omega
  have hx : (a.map dnD)[(k : Int).toNat]? = some (.agg [.int .i64 a[k].cl, .str a[k].line, .str a[k].reply, .int .i64 a[k].fr, .int .i64 a[k].at_, .int .i64 a[k].to, .bool a[k].is]) := by simp [hka, dnD]
  have hy : (b.map dnD)[(k : Int).toNat]? = some (.agg [.int .i64 b[k].cl, .str b[k].line, .str b[k].reply, .int .i64 b[k].fr, .int .i64 b[k].at_, .int .i64 b[k].to, .bool b[k].is]) := by simp [hkb, dnD]
  have hw : IntKind.i64.wrap ((k : Int) + 1) = (k : Int) + 1 := IntWalk.i64_in _ ⟨by omega, by omega⟩
  by_cases hc : a[k] = b[k]
  ·have hl := leaves_eq hc
   simp only [↓go1, gB4, reduceIte, Nat.reduceEqDiff, Nat.reduceAdd, Nat.reduceSub, List.drop_zero, List.drop_succ_cons, Nat.reduceLeDiff, List.take_succ_cons, List.take_zero, Nat.le_refl, h5, h12, h0, h1, List.length_map, hlt, hk0, hx, hy, hw, hl, Bool.bne_true, Bool.bne_false, Bool.not_true, Bool.not_false, bne_self_eq_false, Bool.false_bne, Bool.true_bne, Option.map_some]
   refine Need.intro (feetB_ok rfl) ?_
   simp only [↓go1, gB4, reduceIte, Nat.reduceEqDiff, Nat.reduceAdd, Nat.reduceSub, List.drop_zero, List.drop_succ_cons, Nat.reduceLeDiff, List.take_succ_cons, List.take_zero, Nat.le_refl, h5, h12, h0, h1, List.length_map, hlt, hk0, hx, hy, hw, hl, Bool.bne_true, Bool.bne_false, Bool.not_true, Bool.not_false, bne_self_eq_false, Bool.false_bne, Bool.true_bne, Option.map_some]
   refine ih (k + 1) _ _ (by omega) (by omega) (fun j hj => ?_) rfl h12 h0 h1
   rcases Nat.lt_or_eq_of_le (Nat.le_of_lt_succ hj) with hj | rfl
   ·exact hall j hj
   ·rw [List.getElem?_eq_getElem hka, List.getElem?_eq_getElem hkb, hc]
  ·have hl := leaves_ne hc
   simp only [↓go1, gB4, reduceIte, Nat.reduceEqDiff, Nat.reduceAdd, Nat.reduceSub, List.drop_zero, List.drop_succ_cons, Nat.reduceLeDiff, List.take_succ_cons, List.take_zero, Nat.le_refl, h5, h12, h0, h1, List.length_map, hlt, hk0, hx, hy, hw, hl, Bool.bne_true, Bool.bne_false, Bool.not_true, Bool.not_false, bne_self_eq_false, Bool.false_bne, Bool.true_bne, Option.map_some]
   refine Need.intro (feetB_ok rfl) ?_
   simp only [↓go1, gB4, reduceIte, Nat.reduceEqDiff, Nat.reduceAdd, Nat.reduceSub, List.drop_zero, List.drop_succ_cons, Nat.reduceLeDiff, List.take_succ_cons, List.take_zero, Nat.le_refl, h5, h12, h0, h1, List.length_map, hlt, hk0, hx, hy, hw, hl, Bool.bne_true, Bool.bne_false, Bool.not_true, Bool.not_false, bne_self_eq_false, Bool.false_bne, Bool.true_bne, Option.map_some]
   refine hret _ (fun e => ?_) rfl
   subst e; exact hc rfl
theorem ok43 {P : Program} (hd : Desk P) : (funS Fsd).ok P 43 := by
 refine fun_ok (S := tabL []) tabL_nil hd.f43 (fun ds r h => ?_) (fun ds r h => ?_)
 ·unfold Fsd at h; split at h
  ·simp
  ·cases h
 ·unfold Fsd at h; split at h
  ·rename_i nl t xs nl2 t2 ys
   split at h
   ·rename_i a b ha hb
    obtain rfl := dnsOf_some ha
    obtain rfl := dnsOf_some hb
    split at h
    ·rename_i hlen
     simp only [Option.some.injEq] at h
     subst h
     unfold dc43
     by_cases hc : a.length = b.length
     ·have he : ((a.length : Int) = (b.length : Int)) = True := by simp; omega
      simp only [↓go1, go2, go3, go4, reduceIte, Nat.reduceEqDiff, Nat.reduceAdd, List.length_map, he]
      refine loop43 (a := a) (b := b) (nl := nl) (t := t) (nl2 := nl2) (t2 := t2) hc hlen (fun st h1 h2 => ?_) (fun st h1 => ?_) a.length 0 _ _ rfl (by omega) (by omega) rfl rfl rfl rfl
      ·simp only [↓go1, go2, go3, go4, reduceIte, Nat.reduceEqDiff, Nat.reduceAdd, h2]
       simp [h1]
      ·simp only [↓go1, go2, go3, go4, reduceIte, Nat.reduceEqDiff, Nat.reduceAdd]
       simp [h1]
     ·have he : ((a.length : Int) = (b.length : Int)) = False := by simp; omega
      simp only [↓go1, go2, go3, go4, reduceIte, Nat.reduceEqDiff, Nat.reduceAdd, List.length_map, he]
      have : a ≠ b := fun e => hc (by rw [e])
      simp [this]
    ·cases h
   ·cases h
  ·cases h
end Go.Vd

namespace Go.Vd
open Go.RowKit
set_option maxRecDepth 10000
def Fsame : List D → Option D
 | [a, b] => match tdOf a, tdOf b with
  | some (_, _, t), some (_, _, u) => if t.calls.length ≤ 1000000000 ∧ t.behind.length ≤ 1000000000 then some (.bool (decide (t = u))) else none
  | _, _ => none
 | _ => none
theorem td_ne {t u : Td} (h : ¬ (t.ticks = u.ticks ∧ t.left = u.left ∧ t.shut = u.shut ∧ t.calls = u.calls ∧ t.behind = u.behind)) : t ≠ u := by
 rintro rfl; exact h ⟨rfl, rfl, rfl, rfl, rfl⟩
theorem td_eq {t u : Td} (h1 : t.ticks = u.ticks) (h2 : t.left = u.left) (h3 : t.shut = u.shut) (h4 : t.calls = u.calls) (h5 : t.behind = u.behind) : t = u := by
 cases t; cases u; simp_all
set_option maxHeartbeats 4000000 in
theorem ok20 {P : Program} (hd : Desk P) : (funS Fsame).ok P 20 := by
 have hS : Summs.ok P (tabL [(43, funS Fsd), (44, funS Fst)]) := tabL_cons (ok43 hd) (tabL_cons (ok44 hd) tabL_nil)
 have s43 : tabL [(43, funS Fsd), (44, funS Fst)] 43 = some (funS Fsd) := rfl
 have s44 : tabL [(43, funS Fsd), (44, funS Fst)] 44 = some (funS Fst) := rfl
 generalize tabL [(43, funS Fsd), (44, funS Fst)] = S at hS s43 s44
 refine fun_ok (S := S) hS hd.f20 (fun ds r h => ?_) (fun ds r h => ?_)
 ·unfold Fsame at h; split at h
  ·simp
  ·cases h
 ·unfold Fsame at h; split at h
  ·rename_i d e
   split at h
   ·rename_i nc nb t nc2 nb2 u ht hu
    obtain ⟨x, y, rfl⟩ := tdOf_some ht
    obtain ⟨x2, y2, rfl⟩ := tdOf_some hu
    split at h
    ·rename_i hb
     obtain ⟨hb1, hb2⟩ := hb
     simp only [Option.some.injEq] at h
     subst h
     have f43 : ∀ n1 i1 n2 i2, Fsd [.slice n1 i1 (t.calls.map dnD), .slice n2 i2 (u.calls.map dnD)] = some (.bool (decide (t.calls = u.calls))) := fun _ _ _ _ => by
      simp only [Fsd, dnsOf_map]; exact if_pos hb1
     have f44 : ∀ n1 i1 n2 i2, Fst [.slice n1 i1 (t.behind.map .str), .slice n2 i2 (u.behind.map .str)] = some (.bool (decide (t.behind = u.behind))) := fun _ _ _ _ => by
      simp only [Fst, strsOf_map]; exact if_pos hb2
     unfold dc20
     by_cases h1 : t.ticks = u.ticks
     ·have h1' : (t.ticks = u.ticks) = True := by simp [h1]
      by_cases h2 : t.left = u.left
      ·have h2' : (t.left = u.left) = True := by simp [h2]
       by_cases h3 : t.shut = u.shut
       ·have h3' : (t.shut = u.shut) = True := by simp [h3]
        by_cases h4 : t.calls = u.calls
        ·have h4' : (t.calls = u.calls) = True := by simp [h4]
         by_cases h5 : t.behind = u.behind
         ·have h5' : (t.behind = u.behind) = True := by simp [h5]
          have he := td_eq h1 h2 h3 h4 h5
          simp only [↓go1, gB0, reduceIte, Nat.reduceEqDiff, Nat.reduceAdd, put_rd, List.length_append, Nat.reduceLeDiff, Nat.reduceLT, Nat.reduceSub, rd_zero, rd_succ, List.take_succ_cons, List.take_zero, Nat.le_refl, callK_fun s43, callK_fun s44, f43, f44, h1', h2', h3', h4', h5']
          simp [he]
         ·have he := td_ne (t := t) (u := u) (fun h => h5 h.2.2.2.2)
          have h5' : (t.behind = u.behind) = False := by simp [h5]
          simp only [↓go1, gB0, reduceIte, Nat.reduceEqDiff, Nat.reduceAdd, put_rd, List.length_append, Nat.reduceLeDiff, Nat.reduceLT, Nat.reduceSub, rd_zero, rd_succ, List.take_succ_cons, List.take_zero, Nat.le_refl, callK_fun s43, callK_fun s44, f43, f44, h1', h2', h3', h4', h5']
          simp [he]
        ·have he := td_ne (t := t) (u := u) (fun h => h4 h.2.2.2.1)
         have h4' : (t.calls = u.calls) = False := by simp [h4]
         simp only [↓go1, gB0, reduceIte, Nat.reduceEqDiff, Nat.reduceAdd, put_rd, List.length_append, Nat.reduceLeDiff, Nat.reduceLT, Nat.reduceSub, rd_zero, rd_succ, List.take_succ_cons, List.take_zero, Nat.le_refl, callK_fun s43, callK_fun s44, f43, f44, h1', h2', h3', h4']
         simp [he]
       ·have he := td_ne (t := t) (u := u) (fun h => h3 h.2.2.1)
        have h3' : (t.shut = u.shut) = False := by simp [h3]
        simp only [↓go1, gB0, reduceIte, Nat.reduceEqDiff, Nat.reduceAdd, put_rd, List.length_append, Nat.reduceLeDiff, Nat.reduceLT, Nat.reduceSub, rd_zero, rd_succ, List.take_succ_cons, List.take_zero, Nat.le_refl, callK_fun s43, callK_fun s44, f43, f44, h1', h2', h3']
        simp [he]
      ·have he := td_ne (t := t) (u := u) (fun h => h2 h.2.1)
       have h2' : (t.left = u.left) = False := by simp [h2]
       simp only [↓go1, gB0, reduceIte, Nat.reduceEqDiff, Nat.reduceAdd, put_rd, List.length_append, Nat.reduceLeDiff, Nat.reduceLT, Nat.reduceSub, rd_zero, rd_succ, List.take_succ_cons, List.take_zero, Nat.le_refl, callK_fun s43, callK_fun s44, f43, f44, h1', h2']
       simp [he]
     ·have he := td_ne (t := t) (u := u) (fun h => h1 h.1)
      have h1' : (t.ticks = u.ticks) = False := by simp [h1]
      simp only [↓go1, gB0, reduceIte, Nat.reduceEqDiff, Nat.reduceAdd, put_rd, List.length_append, Nat.reduceLeDiff, Nat.reduceLT, Nat.reduceSub, rd_zero, rd_succ, List.take_succ_cons, List.take_zero, Nat.le_refl, callK_fun s43, callK_fun s44, f43, f44, h1']
      simp [he]
    ·cases h
   ·cases h
  ·cases h
end Go.Vd

namespace Go.Vd
open Go.RowKit
set_option maxRecDepth 10000
def digI (c : UInt8) : Int := match digV c with
 | some x => (x : Int)
 | none => -1
def F117 : List D → Option D
 | [.int .u8 n] => if 0 ≤ n ∧ n < 256 then some (.int .i64 (digI (UInt8.ofNat n.toNat))) else none
 | _ => none
theorem digI_eq {n : Int} (h : 0 ≤ n ∧ n < 256) : digI (UInt8.ofNat n.toNat) = if 48 ≤ n ∧ n ≤ 57 then n - 48 else if 97 ≤ n ∧ n ≤ 102 then n - 87 else -1 := by
 unfold digI digV
 rw [toNat_ofNat (by omega)]
 by_cases h1 : 48 ≤ n ∧ n ≤ 57
 ·rw [if_pos h1, if_pos (by omega)]; simp only; omega
 ·rw [if_neg h1, if_neg (by omega)]
  by_cases h2 : 97 ≤ n ∧ n ≤ 102
  ·rw [if_pos h2, if_pos (by omega)]; simp only; omega
  ·rw [if_neg h2, if_neg (by omega)]
theorem ok117 {P : Program} (hd : Desk P) : (funS F117).ok P 117 := by
 refine fun_ok (S := fun _ => none) none_ok hd.f117 (fun ds r h => ?_) (fun ds r h => ?_)
 ·unfold F117 at h; split at h
  ·simp
  ·cases h
 ·unfold F117 at h; split at h
  ·rename_i n
   split at h
   ·rename_i hb
    simp only [Option.some.injEq] at h
    subst h
    rw [digI_eq hb]
    unfold dc117
    by_cases h1 : 48 ≤ n
    ·have h1' : ((48 : Int) ≤ n) = True := by simp [h1]
     by_cases h2 : n ≤ 57
     ·have h2' : (n ≤ (57 : Int)) = True := by simp [h2]
      have e1 : IntKind.u8.wrap (n - 48) = n - 48 := IntWalk.u8_in _ ⟨by omega, by omega⟩
      have e2 : IntKind.i64.wrap (n - 48) = n - 48 := IntWalk.i64_in _ ⟨by omega, by omega⟩
      simp only [↓go1, go2, go3, go4, reduceIte, Nat.reduceEqDiff, Nat.reduceAdd, h1', h2', e1, e2, and_self]
     ·have h2' : (n ≤ (57 : Int)) = False := by simp; omega
      by_cases h3 : 97 ≤ n
      ·have h3' : ((97 : Int) ≤ n) = True := by simp [h3]
       by_cases h4 : n ≤ 102
       ·have h4' : (n ≤ (102 : Int)) = True := by simp [h4]
        have e1 : IntKind.u8.wrap (n - 97) = n - 97 := IntWalk.u8_in _ ⟨by omega, by omega⟩
        have e2 : IntKind.i64.wrap (n - 97) = n - 97 := IntWalk.i64_in _ ⟨by omega, by omega⟩
        have e3 : IntKind.i64.wrap (n - 97 + 10) = n - 87 := by rw [IntWalk.i64_in _ ⟨by omega, by omega⟩]; omega
        simp only [↓go1, go2, go3, go4, reduceIte, Nat.reduceEqDiff, Nat.reduceAdd, h1', h2', h3', h4', e1, e2, e3, and_self, and_false]
       ·have h4' : (n ≤ (102 : Int)) = False := by simp; omega
        simp only [↓go1, go2, go3, go4, reduceIte, Nat.reduceEqDiff, Nat.reduceAdd, h1', h2', h3', h4', and_self, and_false, Int.reduceNeg]
      ·have h3' : ((97 : Int) ≤ n) = False := by simp; omega
       simp only [↓go1, go2, go3, go4, reduceIte, Nat.reduceEqDiff, Nat.reduceAdd, h1', h2', h3', and_self, and_false, false_and, Int.reduceNeg]
    ·have h1' : ((48 : Int) ≤ n) = False := by simp; omega
     have h3' : ((97 : Int) ≤ n) = False := by simp; omega
     simp only [↓go1, go2, go3, go4, reduceIte, Nat.reduceEqDiff, Nat.reduceAdd, h1', h3', and_self, and_false, false_and, Int.reduceNeg]
   ·cases h
  ·cases h
theorem orD : ∀ x : Nat, x < 16 → ∀ y : Nat, y < 16 → IntKind.u8.wrap (bits .or .i64 (IntKind.i64.wrap ((x : Int) * 2 ^ min (4 : Int).toNat IntKind.i64.bits)) (y : Int)) = ((16 * x + y : Nat) : Int) := by decide +kernel
theorem digV_lt {c : UInt8} {n : Nat} (h : digV c = some n) : n < 16 := (hexD_digV h).2
def F95 : List D → Option D
 | [.str s] => if s.length ≤ 1000000 then some (match unhexB s with
  | some r => .tup [.str r, .bool true]
  | none => .tup [.str [], .bool false]) else none
 | _ => none
theorem bytesD_snoc (a : Bs) {n : Nat} (h : n < 256) : bytesD a ++ [.int .u8 (n : Int)] = bytesD (a ++ [UInt8.ofNat n]) := by
 rw [bytesD_app]; simp only [bytesD, List.map_cons, List.map_nil]; rw [toNat_ofNat h]
set_option maxHeartbeats 1000000 in
theorem loop95 {S : Summs} {l : Bs} {Q : Ex → St → Prop} (s117 : S 117 = some (funS F117)) (hb : l.length ≤ 1000000) (hev : l.length % 2 = 0)
  (hexit : ∀ st r t, unhexB l = some r → st.s 4 = .slice false t (bytesD r) → Q (.exit 0) st)
  (hret : ∀ st, unhexB l = none → st.s 2 = .str [] → st.s 3 = .bool false → Q .ret st) :
  ∀ (n k : Nat) (t : Id) (acc : Bs) st g, n = l.length - k → k ≤ l.length → k % 2 = 0 → acc.length ≤ k → unhexB l = (unhexB (l.drop k)).map (acc ++ ·) → st.s 5 = .int .i64 (k : Int) → st.s 0 = .str l → st.s 4 = .slice false t (bytesD acc) → Gw st.m st.c 5 false t →
   loopW S [] dc95l0 Q st g := by
 intro n
 induction n using Nat.strongRecOn with
 | _ n ih =>
  intro k t acc st g hn hk hk2 ha hu h5 h0 h4 hg
  refine wp_loopd dc95l0.eq_1 ?_
  by_cases hl : k = l.length
  ·have : ¬ ((k : Int) < l.length) := by omega
   simp only [↓go1, go2, go3, go4, reduceIte, Nat.reduceEqDiff, Nat.reduceAdd, h5, h0, this]
   refine hexit _ acc t ?_ ?_
   ·rw [hu, List.drop_of_length_le (by omega)]; simp [unhexB]
   ·simp only [↓go1, go2, go3, go4, reduceIte, Nat.reduceEqDiff, Nat.reduceAdd, h4]
  ·have hlt : ((k : Int) < l.length) := by omega
   have hk0 : (0 : Int) ≤ (k : Int) := by omega
   have hk1 : (0 : Int) ≤ (k : Int) + 1 := by omega
   have hkl : k < l.length := by omega
   have hkl1 : k + 1 < l.length := by omega
   have hx : l[(k : Int).toNat]? = some l[k] := by simp [hkl]
   have hy : l[((k : Int) + 1).toNat]? = some l[k + 1] := by
    rw [show ((k : Int) + 1).toNat = k + 1 by omega]; simp [hkl1]
   have hw1 : IntKind.i64.wrap ((k : Int) + 1) = (k : Int) + 1 := IntWalk.i64_in _ ⟨by omega, by omega⟩
   have hw : IntKind.i64.wrap ((k : Int) + 2) = (k : Int) + 2 := IntWalk.i64_in _ ⟨by omega, by omega⟩
   have hdr : l.drop k = l[k] :: l[k + 1] :: l.drop (k + 2) := by
    rw [List.drop_eq_getElem_cons hkl, List.drop_eq_getElem_cons hkl1]
   have hcx := l[k].toNat_lt
   have hcy := l[k + 1].toNat_lt
   have f1 : F117 [.int .u8 (l[k].toNat : Int)] = some (.int .i64 (digI l[k])) := by
    have : UInt8.ofNat ((l[k].toNat : Int)).toNat = l[k] := by rw [Int.toNat_natCast, ← UInt8.toNat_inj, toNat_ofNat (by omega)]
    rw [← this]; simp only [this]; exact if_pos ⟨by omega, by omega⟩ |>.trans (by rw [this])
   have f2 : F117 [.int .u8 (l[k + 1].toNat : Int)] = some (.int .i64 (digI l[k + 1])) := by
    have : UInt8.ofNat ((l[k + 1].toNat : Int)).toNat = l[k + 1] := by rw [Int.toNat_natCast, ← UInt8.toNat_inj, toNat_ofNat (by omega)]
    exact if_pos ⟨by omega, by omega⟩ |>.trans (by rw [this])
   cases hdx : digV l[k] with
   | none =>
    have d1 : digI l[k] = -1 := by simp [digI, hdx]
    have m1 : ((-1 : Int) < 0) = True := by simp
    have hnone : unhexB l = none := by rw [hu, hdr]; simp [unhexB, hdx]
    simp only [↓go1, go2, go3, go4, reduceIte, Nat.reduceEqDiff, Nat.reduceAdd, h5, h0, hlt, hk0, hk1, hx, hy, hw1, callK_fun s117, f1, f2, d1]
    refine Need.intro (feetB_ok rfl) ?_
    simp only [↓go1, go2, go3, go4, reduceIte, Nat.reduceEqDiff, Nat.reduceAdd, m1]
    exact hret _ hnone rfl rfl
   | some x =>
    have hx16 := digV_lt hdx
    have d1 : digI l[k] = (x : Int) := by simp [digI, hdx]
    have m1 : ((x : Int) < 0) = False := by simp
    cases hdy : digV l[k + 1] with
    | none =>
     have d2 : digI l[k + 1] = -1 := by simp [digI, hdy]
     have m2 : ((-1 : Int) < 0) = True := by simp
     have hnone : unhexB l = none := by rw [hu, hdr]; simp [unhexB, hdx, hdy]
     simp only [↓go1, go2, go3, go4, reduceIte, Nat.reduceEqDiff, Nat.reduceAdd, h5, h0, hlt, hk0, hk1, hx, hy, hw1, callK_fun s117, f1, f2, d1, d2]
     refine Need.intro (feetB_ok rfl) ?_
     simp only [↓go1, go2, go3, go4, reduceIte, Nat.reduceEqDiff, Nat.reduceAdd, m1, m2]
     exact hret _ hnone rfl rfl
    | some y =>
     have hy16 := digV_lt hdy
     have d2 : digI l[k + 1] = (y : Int) := by simp [digI, hdy]
     have m2 : ((y : Int) < 0) = False := by simp
     have ho := orD x hx16 y hy16
     have h04 : ((0 : Int) ≤ 4) = True := by simp
     simp only [↓go1, go2, go3, go4, reduceIte, Nat.reduceEqDiff, Nat.reduceAdd, h5, h0, hlt, hk0, hk1, hx, hy, hw1, callK_fun s117, f1, f2, d1, d2]
     refine Need.intro (feetB_ok rfl) ?_
     simp only [↓go1, gB4, reduceIte, Nat.reduceEqDiff, Nat.reduceAdd, Nat.reduceSub, Nat.reduceLT, Nat.le_refl, Nat.reduceLeDiff, h5, h0, h4, m1, m2, ho, h04, false_and, reduceCtorEq]
     refine Need.intro ⟨by rw [bytesD_len]; omega, rfl, (hg.put (by omega)).toGrow⟩ ?_
     simp only [↓go1, go2, go3, go4, reduceIte, Nat.reduceEqDiff, Nat.reduceAdd, Bool.false_eq_true, h5, hw]
     refine ih (n - 2) (by omega) (k + 2) [st.c + 4 + 11 + 6 + 7] (acc ++ [UInt8.ofNat (16 * x + y)]) _ _ (by omega) (by omega) (by omega) (by simp; omega) ?_ rfl h0 ?_ (Gw.new (by simp only; omega))
     ·rw [hu, hdr]; simp only [unhexB, hdx, hdy]
      cases unhexB (l.drop (k + 2)) <;> simp
     ·rw [← bytesD_snoc acc (show 16 * x + y < 256 by omega)]; rfl
theorem ok95 {P : Program} (hd : Desk P) : (funS F95).ok P 95 := by
 have hS : Summs.ok P (tabL [(117, funS F117)]) := tabL_cons (ok117 hd) tabL_nil
 have s117 : tabL [(117, funS F117)] 117 = some (funS F117) := rfl
 generalize tabL [(117, funS F117)] = S at hS s117
 refine fun_ok (S := S) hS hd.f95 (fun ds r h => ?_) (fun ds r h => ?_)
 ·unfold F95 at h; split at h
  ·simp
  ·cases h
 ·unfold F95 at h; split at h
  ·rename_i s
   split at h
   ·rename_i hb
    simp only [Option.some.injEq] at h
    subst h
    unfold dc95
    have n2 : ((2 : Int) ≠ 0) = True := by simp
    have hm : (s.length : Int).tmod 2 = ((s.length % 2 : Nat) : Int) := by rw [Int.tmod_eq_emod_of_nonneg (by omega)]; omega
    by_cases hev : s.length % 2 = 0
    ·have hq : IntKind.i64.wrap ((s.length : Int).tdiv 2) = ((s.length / 2 : Nat) : Int) := by
      have : (s.length : Int).tdiv 2 = ((s.length / 2 : Nat) : Int) := by rw [Int.tdiv_eq_ediv_of_nonneg (by omega)]; omega
      rw [this]; exact IntWalk.i64_in _ ⟨by omega, by omega⟩
     have hz : ((((s.length % 2 : Nat) : Int)) ≠ 0) = False := by simp; omega
     have hz' : ((((s.length % 2 : Nat) : Int)) = 0) = True := by simp; omega
     have e0 : (0 : Int).toNat = 0 := rfl
     have b1 : ((0 : Int) ≤ 0) = True := by simp
     have b2 : ((0 : Int) ≤ ((s.length / 2 : Nat) : Int)) = True := eq_true (by omega)
     simp only [↓go1, go2, go3, go4, reduceIte, Nat.reduceEqDiff, Nat.reduceAdd, n2, hm, hz, hz', hq, e0, b1, b2, List.length_cons, List.length_nil, List.replicate_zero, true_and, and_true]
     refine Need.intro (by omega) ?_
     simp only [↓go1, go2, go3, go4, reduceIte, Nat.reduceEqDiff, Nat.reduceAdd, List.replicate_zero]
     refine loop95 (l := s) s117 hb hev (fun st r t' e h1 => ?_) (fun st e h2 h3 => ?_) s.length 0 [9] [] _ _ rfl (by omega) rfl (by simp) (by simp) rfl rfl rfl (.inr ⟨9, rfl, by simp only; omega, by simp [put_tok]⟩)
     ·simp only [↓go1, go2, go3, go4, reduceIte, Nat.reduceEqDiff, Nat.reduceAdd, h1, e, unbytes_bytes]
     ·simp only [↓go1, go2, go3, go4, reduceIte, Nat.reduceEqDiff, Nat.reduceAdd, h2, h3, e]
    ·have hz : ((((s.length % 2 : Nat) : Int)) ≠ 0) = True := by simp; omega
     have hz' : ((((s.length % 2 : Nat) : Int)) = 0) = False := by simp; omega
     have hn : unhexB s = none := by
      cases h : unhexB s with
      | none => rfl
      | some r => have := unhex_len h; omega
     simp only [↓go1, go2, go3, go4, reduceIte, Nat.reduceEqDiff, Nat.reduceAdd, n2, hm, hz, hz', hn]
   ·cases h
  ·cases h
end Go.Vd

namespace Go.Vd
open Go.RowKit
set_option maxRecDepth 10000
def hv (c : UInt8) : Int := if 97 ≤ c.toNat then (c.toNat : Int) - 87 else (c.toNat : Int) - 48
theorem u8_wrap (n : Int) : IntKind.u8.wrap n = (((n % 256).toNat : Nat) : Int) := by
 have h1 : IntKind.u8.wrap n = n % 256 := by simp [IntKind.wrap, IntKind.bits, IntKind.signed]
 rw [h1]; omega
end Go.Vd

namespace Go.Vd
open Go.RowKit
set_option maxRecDepth 10000
end Go.Vd

namespace Go.Proofs
open Go.Shelf Go.RowKit Go.Lib
variable {P : Program} {ρ : Ren}
theorem indexByte_hit {c : UInt8} {r : List UInt8} : ∀ {w : List UInt8}, c ∉ w → Lib.indexByte (w ++ c :: r) c = w.length
 | [], _ => by simp [Lib.indexByte]
 | b :: w, h => by
  simp only [List.mem_cons, not_or] at h
  have ih := indexByte_hit (r := r) h.2
  have hb : (b == c) = false := beq_eq_false_iff_ne.2 (fun e => h.1 e.symm)
  have h1 : ((w.length : Int) == -1) = false := beq_eq_false_iff_ne.2 (by omega)
  rw [List.cons_append, Lib.indexByte, hb, ih, h1]; simp
theorem splitK_eq : ∀ (n : Nat) (s : List UInt8), s.length ≤ n → Lib.splitK [32] 0 (s.count 32) s = Go.Vd.splitB s := by
 intro n
 induction n with
 | zero => intro s h; obtain rfl : s = [] := List.length_eq_zero_iff.1 (by omega); rfl
 | succ n ih =>
  intro s h
  by_cases hm : (32 : UInt8) ∈ s
  ·obtain ⟨w, r, rfl, hw⟩ := List.eq_append_cons_of_mem hm
   have hc : (w ++ 32 :: r).count 32 = r.count 32 + 1 := by rw [List.count_append, List.count_eq_zero_of_not_mem hw]; simp
   have hi : Lib.index (w ++ 32 :: r) [32] = w.length := by rw [Lib.index_one]; exact indexByte_hit hw
   have h1 : ¬ ((w.length : Int) == -1) = true := fun e => by have := beq_iff_eq.1 e; omega
   rw [hc, Lib.splitK, hi, if_neg h1, Go.Vd.split_word hw, Int.toNat_natCast]
   have e1 : (w ++ 32 :: r).take (w.length + 0) = w := by simp
   have e2 : (w ++ 32 :: r).drop (w.length + [(32 : UInt8)].length) = r := by
    rw [show w.length + [(32 : UInt8)].length = (w ++ [32]).length by simp, show w ++ 32 :: r = (w ++ [32]) ++ r by simp, List.drop_left]
   rw [e1, e2, ih r (by simp at h; omega)]
  ·rw [List.count_eq_zero_of_not_mem hm, Go.Vd.split_one hm]; rfl
set_option maxHeartbeats 1000000 in
theorem split_space (L : Lays.n146 P ρ) (hi9 : (P.info? (ρ.t 9)).map (fun i => (i.zero, i.size, i.bytes)) = some (some (.string ByteArray.empty), 1, 16)) (s : ByteArray) (w : World) (hs : s.size < 4294967281) :
  Calls P (ρ.f 146) #[.string s, .string ⟨#[32]⟩] w fun e w' =>
   e = .returned (.slice (some ⟨w.heap.size, 0, none⟩) (Lib.countB s ⟨#[32]⟩ + 1) (Lib.countB s ⟨#[32]⟩ + 1)) ∧ w' = w.alloc (.cells ((Lib.splitB ⟨#[32]⟩ 0 (Lib.countB s ⟨#[32]⟩) s).map Value.string).toArray (ρ.t 9)) := by
 have h1 : 1 ≤ (⟨#[32]⟩ : ByteArray).size := by decide
 have hle := Lib.countB_le ⟨#[32]⟩ h1 s.size s (Nat.le_refl _)
 have hlen := Lib.splitB_all ⟨#[32]⟩ h1 0 _ s rfl
 have c := Any.strings_genSplit_core { L with } hi9 s ⟨#[32]⟩ 0 (-1) (Lib.countB s ⟨#[32]⟩ + 1) w hs h1 (Nat.zero_le _)
  (fun x cc _ => (Any.strings_Index_one { L with } x 32 _).mono fun e w' ⟨he, hw⟩ => ⟨by rw [he, ← Lib.index_one], hw⟩)
  ((Any.strings_Count_one { L with } s 32 w).mono fun e w' ⟨he, hw⟩ => ⟨by rw [he]; show _ = Ending.returned (Value.int .i64 ((Lib.count s.data.toList [32] : Nat) : Int)); rw [Lib.count_one]; rfl, hw⟩)
  (by decide) (by decide) (by rw [if_pos (by decide)]; omega)
 rw [Nat.add_sub_cancel, hlen] at c
 have e2 : Lib.cellsOf (Lib.splitB ⟨#[32]⟩ 0 (Lib.countB s ⟨#[32]⟩) s) (Lib.countB s ⟨#[32]⟩ + 1) = ((Lib.splitB ⟨#[32]⟩ 0 (Lib.countB s ⟨#[32]⟩) s).map Value.string).toArray := by rw [← hlen]; exact Lib.cellsOf_full _
 rw [e2] at c
 have t3 := L.t3; have t9 := L.t9; have t31 := L.t31
 have a3 := L.a3; have a9 := L.a9; have a31 := L.a31
 have z3 := L.z3; have v3 := L.v3; have z9 := L.z9; have v9 := L.v9; have z31 := L.z31; have v31 := L.v31
 have e221 : ∀ args w, (callFunc (ρ.f 221) args).run P w = .ok (.enter (ρ.f 221) args) w := enters_of L.f221 (by kernel_rfl) rfl
 go_enter L.f146, Body.n146_ntmps ρ
 go_wp2_with (go_at_fn (ρ.f 221); refine c.mono ?_; rintro e w' ⟨rfl, hw⟩; rw [hw])
 go_ret
 exact ⟨rfl, rfl⟩
end Go.Proofs
namespace Go.Vd
open Go.RowKit
def Fsplit : List D → Option D
 | [.str s, .str [32]] => if s.length ≤ 1000000 then some (.slice false [] ((splitB s).map .str)) else none
 | _ => none
theorem splitB_len : ∀ s : Bs, (splitB s).length ≤ s.length + 1
 | [] => by simp [splitB]
 | c :: r => by
  have ih := splitB_len r
  unfold splitB
  split
  ·simp; omega
  ·split
   ·rename_i h t e; rw [e] at ih; simp at ih ⊢; omega
   ·simp
theorem split_ok {P : Program} {ρ : Go.Shelf.Ren} (L : Go.Proofs.Lays.n146 P ρ) (hi9 : (P.info? (ρ.t 9)).map (fun i => (i.zero, i.size, i.bytes)) = some (some (.string ByteArray.empty), 1, 16)) (ent : ∃ fn, P.funcs[ρ.f 146]? = some fn ∧ fn.body.isSome = true ∧ (fn.name == "runtime.NumGoroutine") = false) : (funS Fsplit).ok P (ρ.f 146) := by
 refine ⟨ent, fun ds m m' fr _ => rfl, ?_⟩
 intro B w0 w m g fr ds vs r u hi hfresh hl hrep hex
 simp only [funS] at hex
 split at hex
 ·rw [Option.map_eq_some_iff] at hex
  obtain ⟨r', hr, hex⟩ := hex
  simp only [Prod.mk.injEq] at hex
  obtain ⟨rfl, rfl⟩ := hex
  match ds, vs, hl with
  | [d, d1], [v, v1], _ =>
   have h0 := hrep 0 d v rfl rfl
   have h1 := hrep 1 d1 v1 rfl rfl
   have hd : ∃ s, d = .str s := by
    cases d <;> first | exact ⟨_, rfl⟩ | (exfalso; simp [Fsplit, D.un] at hr; done)
   obtain ⟨s, rfl⟩ := hd
   have hd1 : d1 = .str [32] := by
    cases d1 with
    | str z =>
     simp only [List.map_cons, List.map_nil, D.un, Fsplit] at hr
     split at hr
     ·rename_i heq; simp at heq; rw [heq.2]
     ·cases hr
    | _ => exfalso; simp [Fsplit, D.un] at hr
   subst hd1
   simp only [List.map_cons, List.map_nil, D.un, Fsplit] at hr
   split at hr
   ·rename_i hc
    simp only [Option.some.injEq] at hr; subst hr
    rw [h0.str_inv, h1.str_inv]
    have hcnt : Lib.countB ⟨s.toArray⟩ ⟨#[32]⟩ = s.count 32 := by
     show Lib.count s [32] = _
     exact Lib.count_one 32 s
    have hpc : (Lib.splitB ⟨#[32]⟩ 0 (s.count 32) ⟨s.toArray⟩).map (·.data.toList) = splitB s := by
     rw [Lib.splitB_data]; exact Go.Proofs.splitK_eq s.length s (Nat.le_refl _)
    have hlen : (splitB s).length = s.count 32 + 1 := by
     rw [← hpc, List.length_map, ← hcnt]; exact Lib.splitB_all ⟨#[32]⟩ (by decide) 0 _ _ rfl
    refine (Go.Proofs.split_space L hi9 ⟨s.toArray⟩ w (by show s.length < _; omega)).mono ?_
    rintro ev w' ⟨rfl, rfl⟩
    have hb : Below w.heap.size w (w.alloc (.cells ((Lib.splitB ⟨#[32]⟩ 0 (Lib.countB ⟨s.toArray⟩ ⟨#[32]⟩) ⟨s.toArray⟩).map Value.string).toArray (ρ.t 9))) := (Below.refl _ _).alloc (Nat.le_refl _) _
    refine ⟨_, g.over w _, rfl, hi.over hb, Ext.over hi.gz hb, rep_own (e := ρ.t 9) (n := s.count 32 + 1) hi hb (strs_all _) (by rw [List.length_map, hlen]) ?_ (by simp), fun i hf _ => hf⟩
    have hl2 := splitB_len s
    have hmap : ((splitB s).map D.str).map (fun d => Value.string ⟨(strOf d).toArray⟩) = (Lib.splitB ⟨#[32]⟩ 0 (s.count 32) ⟨s.toArray⟩).map Value.string := by
     rw [← hpc, List.map_map, List.map_map]
     refine List.map_congr_left fun x _ => ?_
     rfl
    rw [hmap, hcnt]
    have hll : ((Lib.splitB ⟨#[32]⟩ 0 (s.count 32) ⟨s.toArray⟩).map Value.string).length = s.count 32 + 1 := by
     rw [← hlen, ← hpc]; simp
    refine ⟨by rw [hll]; omega, .inr ⟨w.heap.size, s.count 32 + 1, _, rfl, Nat.le_refl _, heap_alloc_new w _, Nat.le_refl _, ?_, ?_, ?_⟩⟩
    ·rw [hlen] at hl2; have : maxLen = 9223372036854775807 := rfl; omega
    ·rw [List.size_toArray, hll]; omega
    ·rw [List.take_of_length_le (by rw [hll]; omega)]
   ·cases hr
  | [], _, _ => simp [Fsplit] at hr
  | [_], _, _ => simp [Fsplit] at hr
  | _ :: _ :: _ :: _, _, _ => simp [Fsplit] at hr
 ·cases hex
end Go.Vd

namespace Go.Vd
abbrev Rs := List Bs × Bool
def rNext : Rs → Bs × Rs
 | ([], b) => ([], ([], true))
 | (w :: ws, b) => (w, (ws, b))
def rNum (r : Rs) : Int × Rs := ((numB (rNext r).1).1, ((rNext r).2.1, (rNext r).2.2 || !(numB (rNext r).1).2))
def rFlag (r : Rs) : Bool × Rs := (decide ((rNext r).1 = [49]), ((rNext r).2.1, (rNext r).2.2 || (decide (¬ (rNext r).1 = [48]) && decide (¬ (rNext r).1 = [49]))))
def unhexP (w : Bs) : Bs × Bool := match unhexB w with
 | some s => (s, true)
 | none => ([], false)
def rText (r : Rs) : Bs × Rs := if (rNext r).1 = [45] then ([], (rNext r).2) else
 ((unhexP (rNext r).1).1, ((rNext r).2.1, (rNext r).2.2 || !(unhexP (rNext r).1).2 || decide ((unhexP (rNext r).1).1 = [])))
def rDone (r : Rs) : Bool := !r.2 && decide (r.1.length = 0)
def rCall (r : Rs) : Dn × Rs :=
 let a := rNum r; let b := rNum a.2; let c := rNum b.2; let d := rNum c.2; let f := rFlag d.2; let x := rText f.2; let y := rText x.2
 (⟨a.1, x.1, y.1, b.1, c.1, d.1, f.1⟩, y.2)
def readP (t : Td) (first : Bool) (s : Bs) : Td × Bool :=
 let k := rNext (splitB s, false)
 if first then
  let a := rNum k.2; let b := rNum a.2; let f := rFlag b.2
  ({ t with ticks := a.1, left := b.1, shut := f.1 }, decide (k.1 = kTold) && rDone f.2)
 else if k.1 = kCall then
  let d := rCall k.2
  ({ t with calls := t.calls ++ [d.1] }, decide (t.behind.length = 0) && rDone d.2)
 else if k.1 = kSaid then
  let x := rText k.2
  ({ t with behind := t.behind ++ [x.1] }, rDone x.2)
 else (t, false)
theorem next_bad (r : Rs) (h : r.2 = true) : (rNext r).2.2 = true := by
 obtain ⟨ws, b⟩ := r
 cases ws <;> simp_all [rNext]
theorem num_bad (r : Rs) (h : r.2 = true) : (rNum r).2.2 = true := by simp [rNum, next_bad r h]
theorem flag_bad (r : Rs) (h : r.2 = true) : (rFlag r).2.2 = true := by simp [rFlag, next_bad r h]
theorem text_bad (r : Rs) (h : r.2 = true) : (rText r).2.2 = true := by
 unfold rText
 split
 ·exact next_bad r h
 ·simp [next_bad r h]
theorem done_bad (r : Rs) (h : r.2 = true) : rDone r = false := by simp [rDone, h]
theorem num_nil (b : Bool) : (rNum ([], b)).2.2 = true := by simp [rNum, rNext]
theorem flag_nil (b : Bool) : (rFlag ([], b)).2.2 = true := by simp [rFlag, rNext]
theorem text_nil (b : Bool) : (rText ([], b)).2.2 = true := by simp [rText, rNext]
theorem num_cons (w : Bs) (ws : List Bs) : rNum (w :: ws, false) = match numO w with | some n => (n, (ws, false)) | none => ((numB w).1, (ws, true)) := by
 simp only [rNum, rNext, numO]
 cases (numB w).2 <;> simp
theorem flag_cons (w : Bs) (ws : List Bs) : rFlag (w :: ws, false) = match flagO w with | some n => (n, (ws, false)) | none => (decide (w = [49]), (ws, true)) := by
 simp only [rFlag, rNext, flagO]
 by_cases h1 : w = [49]
 ·subst h1; simp
 ·by_cases h0 : w = [48]
  ·subst h0; simp
  ·simp [h1, h0]
theorem text_cons (w : Bs) (ws : List Bs) : rText (w :: ws, false) = match textB w with | some n => (n, (ws, false)) | none => ((unhexP w).1, (ws, true)) := by
 simp only [rText, rNext, textB]
 by_cases h1 : w = [45]
 ·subst h1; simp
 ·simp only [h1, if_false, unhexP]
  rcases Option.eq_none_or_eq_some (unhexB w) with h | ⟨s, h⟩
  ·simp [h]
  ·by_cases hs : s = []
   ·simp [h, hs]
   ·simp [h, hs]
theorem told_iff (t : Td) (s : Bs) : readP t true s = match toldO (splitB s) with
  | some (a, b, f) => ({ t with ticks := a, left := b, shut := f }, true)
  | none => ((readP t true s).1, false) := by
 cases h : toldO (splitB s) with
 | none =>
  have key : (readP t true s).2 = false := by
   unfold readP
   simp only [if_true]
   generalize splitB s = ws at h
   match ws, h with
   | [], _ => simp only [rNext]; rw [done_bad _ (flag_bad _ (num_bad _ (num_bad _ rfl)))]; simp
   | [k], _ => simp only [rNext]; rw [done_bad _ (flag_bad _ (num_bad _ (num_nil _)))]; simp
   | [k, a], _ =>
    simp only [rNext, num_cons]
    cases numO a with
    | none => rw [done_bad _ (flag_bad _ (num_bad _ rfl))]; simp
    | some x => rw [done_bad _ (flag_bad _ (num_nil _))]; simp
   | [k, a, b], _ =>
    simp only [rNext, num_cons]
    cases numO a with
    | none => rw [done_bad _ (flag_bad _ (num_bad _ rfl))]; simp
    | some x =>
     simp only [num_cons]
     cases numO b with
     | none => rw [done_bad _ (flag_bad _ rfl)]; simp
     | some y => rw [done_bad _ (flag_nil _)]; simp
   | k :: a :: b :: f :: r, h =>
    simp only [rNext, num_cons]
    cases ha : numO a with
    | none => rw [done_bad _ (flag_bad _ (num_bad _ rfl))]; simp
    | some x =>
     simp only [num_cons]
     cases hb : numO b with
     | none => rw [done_bad _ (flag_bad _ rfl)]; simp
     | some y =>
      simp only [flag_cons]
      cases hf : flagO f with
      | none => rw [done_bad _ rfl]; simp
      | some z =>
       cases r with
       | cons x r => simp [rDone]
       | nil =>
        simp only [toldO, ha, hb, hf] at h
        by_cases hk : k = kTold
        ·rw [if_pos hk] at h; cases h
        ·simp [hk]
  exact Prod.ext rfl key
 | some p =>
  obtain ⟨a, b, f⟩ := p
  unfold toldO at h
  split at h
  ·rename_i k x y z hs
   split at h
   ·rename_i hk
    split at h
    ·rename_i h1 h2 h3
     simp only [Option.some.injEq, Prod.mk.injEq] at h
     obtain ⟨rfl, rfl, rfl⟩ := h
     unfold readP
     rw [hs]
     simp only [if_true, rNext, num_cons, h1, h2, flag_cons, h3, hk]
     simp [rDone]
    ·cases h
   ·cases h
  ·cases h
theorem callR (R : Rs) : (rCall R).2 = (rText (rText (rFlag (rNum (rNum (rNum (rNum R).2).2).2).2).2).2).2 := rfl
theorem call_iff (r : List Bs) : match callO (kCall :: r) with
  | some d => rCall (r, false) = (d, ([], false))
  | none => rDone (rCall (r, false)).2 = false := by
 have b7 : ∀ R : Rs, R.2 = true → rDone R = false := done_bad
 have b6 : ∀ R : Rs, R.2 = true → rDone (rText R).2 = false := fun R h => b7 _ (text_bad _ h)
 have b5 : ∀ R : Rs, R.2 = true → rDone (rText (rText R).2).2 = false := fun R h => b6 _ (text_bad _ h)
 have b4 : ∀ R : Rs, R.2 = true → rDone (rText (rText (rFlag R).2).2).2 = false := fun R h => b5 _ (flag_bad _ h)
 have b3 : ∀ R : Rs, R.2 = true → rDone (rText (rText (rFlag (rNum R).2).2).2).2 = false := fun R h => b4 _ (num_bad _ h)
 have b2 : ∀ R : Rs, R.2 = true → rDone (rText (rText (rFlag (rNum (rNum R).2).2).2).2).2 = false := fun R h => b3 _ (num_bad _ h)
 have b1 : ∀ R : Rs, R.2 = true → rDone (rText (rText (rFlag (rNum (rNum (rNum R).2).2).2).2).2).2 = false := fun R h => b2 _ (num_bad _ h)
 match r with
 | [] => simp only [callO, callR]; exact b1 _ (num_nil _)
 | a :: r =>
  cases ha : numO a with
  | none =>
   have hc : callO (kCall :: a :: r) = none := by
    unfold callO
    split
    ·rename_i h; simp only [List.cons.injEq] at h; obtain ⟨_, rfl, _⟩ := h; rw [ha]; simp
    ·rfl
   rw [hc, callR, num_cons, ha]; exact b1 _ rfl
  | some xa =>
   match r with
   | [] => simp only [callO, callR, num_cons, ha]; exact b2 _ (num_nil _)
   | b :: r =>
    cases hb : numO b with
    | none =>
     have hc : callO (kCall :: a :: b :: r) = none := by
      unfold callO
      split
      ·rename_i h; simp only [List.cons.injEq] at h; obtain ⟨_, rfl, rfl, _⟩ := h; rw [ha, hb]; simp
      ·rfl
     rw [hc, callR]; simp only [num_cons, ha, hb]; exact b2 _ rfl
    | some xb =>
     match r with
     | [] => simp only [callO, callR, num_cons, ha, hb]; exact b3 _ (num_nil _)
     | c :: r =>
      cases hcc : numO c with
      | none =>
       have hc : callO (kCall :: a :: b :: c :: r) = none := by
        unfold callO
        split
        ·rename_i h; simp only [List.cons.injEq] at h; obtain ⟨_, rfl, rfl, rfl, _⟩ := h; rw [ha, hb, hcc]; simp
        ·rfl
       rw [hc, callR]; simp only [num_cons, ha, hb, hcc]; exact b3 _ rfl
      | some xc =>
       match r with
       | [] => simp only [callO, callR, num_cons, ha, hb, hcc]; exact b4 _ (num_nil _)
       | d :: r =>
        cases hdd : numO d with
        | none =>
         have hc : callO (kCall :: a :: b :: c :: d :: r) = none := by
          unfold callO
          split
          ·rename_i h; simp only [List.cons.injEq] at h; obtain ⟨_, rfl, rfl, rfl, rfl, _⟩ := h; rw [ha, hb, hcc, hdd]; simp
          ·rfl
         rw [hc, callR]; simp only [num_cons, ha, hb, hcc, hdd]; exact b4 _ rfl
        | some xd =>
         match r with
         | [] => simp only [callO, callR, num_cons, ha, hb, hcc, hdd]; exact b5 _ (flag_nil _)
         | f :: r =>
          cases hf : flagO f with
          | none =>
           have hc : callO (kCall :: a :: b :: c :: d :: f :: r) = none := by
            unfold callO
            split
            ·rename_i h; simp only [List.cons.injEq] at h; obtain ⟨_, rfl, rfl, rfl, rfl, rfl, _⟩ := h; rw [ha, hb, hcc, hdd, hf]; simp
            ·rfl
           rw [hc, callR]; simp only [num_cons, flag_cons, ha, hb, hcc, hdd, hf]; exact b5 _ rfl
          | some xf =>
           match r with
           | [] => simp only [callO, callR, num_cons, flag_cons, ha, hb, hcc, hdd, hf]; exact b6 _ (text_nil _)
           | x :: r =>
            cases hx : textB x with
            | none =>
             have hc : callO (kCall :: a :: b :: c :: d :: f :: x :: r) = none := by
              unfold callO
              split
              ·rename_i h; simp only [List.cons.injEq] at h; obtain ⟨_, rfl, rfl, rfl, rfl, rfl, rfl, _⟩ := h; rw [ha, hb, hcc, hdd, hf, hx]; simp
              ·rfl
             rw [hc, callR]; simp only [num_cons, flag_cons, text_cons, ha, hb, hcc, hdd, hf, hx]; exact b6 _ rfl
            | some xx =>
             match r with
             | [] => simp only [callO, callR, num_cons, flag_cons, text_cons, ha, hb, hcc, hdd, hf, hx]; exact b7 _ (text_nil _)
             | y :: r =>
              cases hy : textB y with
              | none =>
               have hc : callO (kCall :: a :: b :: c :: d :: f :: x :: y :: r) = none := by
                unfold callO
                split
                ·rename_i h; simp only [List.cons.injEq] at h; obtain ⟨_, rfl, rfl, rfl, rfl, rfl, rfl, rfl, _⟩ := h; rw [ha, hb, hcc, hdd, hf, hx, hy]; simp
                ·rfl
               rw [hc, callR]; simp only [num_cons, flag_cons, text_cons, ha, hb, hcc, hdd, hf, hx, hy]; exact b7 _ rfl
              | some xy =>
               cases r with
               | nil =>
                simp only [callO, if_true, ha, hb, hcc, hdd, hf, hx, hy]
                simp only [rCall, num_cons, flag_cons, text_cons, ha, hb, hcc, hdd, hf, hx, hy]
               | cons z r =>
                simp only [callO, callR, num_cons, flag_cons, text_cons, ha, hb, hcc, hdd, hf, hx, hy]
                simp [rDone]
theorem said_iff (r : List Bs) : match saidO (kSaid :: r) with
  | some x => rText (r, false) = (x, ([], false))
  | none => rDone (rText (r, false)).2 = false := by
 match r with
 | [] => simp only [saidO]; exact done_bad _ (text_nil _)
 | x :: r =>
  rw [text_cons]
  cases hx : textB x with
  | none =>
   have hc : saidO (kSaid :: x :: r) = none := by
    unfold saidO
    split
    ·rename_i h; simp only [List.cons.injEq] at h; obtain ⟨_, rfl, _⟩ := h; rw [hx]; simp
    ·rfl
   rw [hc]; exact done_bad _ rfl
  | some xx =>
   cases r with
   | nil => simp only [saidO, if_true, hx]
   | cons z r => simp only [saidO]; simp [rDone]
theorem callO_kind {ws : List Bs} {d : Dn} (h : callO ws = some d) : ∃ r, ws = kCall :: r := by
 unfold callO at h
 split at h
 ·split at h
  ·rename_i hk; exact ⟨_, by rw [hk]⟩
  ·cases h
 ·cases h
theorem saidO_kind {ws : List Bs} {d : Bs} (h : saidO ws = some d) : ∃ r, ws = kSaid :: r := by
 unfold saidO at h
 split at h
 ·split at h
  ·rename_i hk; exact ⟨_, by rw [hk]⟩
  ·cases h
 ·cases h
theorem rest_iff (t : Td) (s : Bs) : match readB t s with
  | some t' => readP t false s = (t', true)
  | none => (readP t false s).2 = false := by
 unfold readB
 have hne := splitB_ne s
 cases hs : splitB s with
 | nil => exact absurd hs hne
 | cons k r =>
  have hP : readP t false s = if k = kCall then ({ t with calls := t.calls ++ [(rCall (r, false)).1] }, decide (t.behind.length = 0) && rDone (rCall (r, false)).2)
    else if k = kSaid then ({ t with behind := t.behind ++ [(rText (r, false)).1] }, rDone (rText (r, false)).2) else (t, false) := by
   unfold readP
   rw [hs]
   simp only [rNext]
   rfl
  rw [hP]
  by_cases hk : k = kCall
  ·subst hk
   rw [if_pos rfl]
   have hc := call_iff r
   cases hco : callO (kCall :: r) with
   | none =>
    rw [hco] at hc
    simp only at hc ⊢
    have : saidO (kCall :: r) = none := by
     cases hso : saidO (kCall :: r) with
     | none => rfl
     | some x => obtain ⟨r', e⟩ := saidO_kind hso; simp only [List.cons.injEq] at e; exact absurd e.1 (by decide)
    rw [this]
    simp [hc]
   | some d =>
    rw [hco] at hc
    simp only at hc ⊢
    rw [hc]
    by_cases hb : t.behind = []
    ·rw [if_pos hb]; simp [hb, rDone]
    ·rw [if_neg hb]
     have : t.behind.length ≠ 0 := fun e => hb (List.length_eq_zero_iff.1 e)
     simp [this]
  ·rw [if_neg hk]
   have hco : callO (k :: r) = none := by
    cases hco : callO (k :: r) with
    | none => rfl
    | some d => obtain ⟨r', e⟩ := callO_kind hco; simp only [List.cons.injEq] at e; exact absurd e.1 hk
   rw [hco]
   simp only
   by_cases hk2 : k = kSaid
   ·subst hk2
    rw [if_pos rfl]
    have hc := said_iff r
    cases hso : saidO (kSaid :: r) with
    | none => rw [hso] at hc; simp only at hc ⊢; exact hc
    | some x => rw [hso] at hc; simp only at hc ⊢; rw [hc]; simp [rDone]
   ·rw [if_neg hk2]
    have hso : saidO (k :: r) = none := by
     cases hso : saidO (k :: r) with
     | none => rfl
     | some d => obtain ⟨r', e⟩ := saidO_kind hso; simp only [List.cons.injEq] at e; exact absurd e.1 hk2
    rw [hso]
def goP : Bool → Td → List Bs → Option Td
 | _, t, [] => some t
 | first, t, s :: r => if (readP t first s).2 = true then goP false (readP t first s).1 r else none
theorem goP_rest : ∀ (l : List Bs) (t : Td), goP false t l = restB t l
 | [], t => rfl
 | s :: r, t => by
  simp only [goP, restB]
  have h := rest_iff t s
  cases hr : readB t s with
  | some t' => rw [hr] at h; simp only at h ⊢; rw [h]; simp only [if_true]; exact goP_rest r t'
  | none => rw [hr] at h; simp only at h ⊢; rw [if_neg (by rw [h]; simp)]
def zeroT : Td := ⟨[], 0, 0, false, []⟩
theorem parseP_eq (l : List Bs) : (match goP true zeroT l with
  | some t => if l.length = 0 ∨ checkB t ≠ 0 then none else some t
  | none => none) = parseB l := by
 cases l with
 | nil => exact if_pos (Or.inl rfl)
 | cons s r =>
  have ht := told_iff zeroT s
  cases h : toldO (splitB s) with
  | none =>
   rw [h] at ht
   have h2 : (readP zeroT true s).2 = false := by rw [ht]
   simp only [goP, parseB, h, h2]; simp
  | some p =>
   obtain ⟨a, b, f⟩ := p
   rw [h] at ht
   simp only at ht
   simp only [goP, parseB, h, ht, if_true, goP_rest]
   simp only [zeroT]
   cases restB ⟨[], a, b, f, []⟩ r with
   | none => rfl
   | some t => by_cases hc : checkB t = 0 <;> simp [hc]
end Go.Vd

namespace Go.Vd
open Go.RowKit
set_option maxRecDepth 10000
def rdD (r : Rs) : List D := [.slice false [] (r.1.map .str), .bool r.2]
def okR (l : List Bs) : Prop := ∀ w ∈ l, w.length ≤ 1000000
instance (l : List Bs) : Decidable (okR l) := inferInstanceAs (Decidable (∀ w ∈ l, w.length ≤ 1000000))
def rdQ (F : Rs → D × Rs) : Summ where
 rd := fun ds _ => match ds with
  | [.ptr r 0] => [(r, 0), (r, 1)]
  | _ => []
 ex := fun ds m _ => match ds with
  | [.ptr r 0] => match m r 0, m r 1 with
   | some (.slice false [] xs), some (.bool b) => match strsOf xs with
    | some ws => if okR ws then some ((F (ws, b)).1, [(r, 0, rdD (F (ws, b)).2)]) else none
    | none => none
   | _, _ => none
  | _ => none
theorem rdQ_loc (F : Rs → D × Rs) (ds : List D) (m m' : Mem) (fr : Id) (h : ∀ l ∈ (rdQ F).rd ds m, m l.1 l.2 = m' l.1 l.2) : (rdQ F).ex ds m fr = (rdQ F).ex ds m' fr := by
 simp only [rdQ] at h ⊢
 split
 ·rename_i r
  rw [h (r, 0) (by simp), h (r, 1) (by simp)]
 ·rfl
theorem rdQ_inv {F : Rs → D × Rs} {ds : List D} {m : Mem} {fr : Id} {d : D} {u : Upd} (h : (rdQ F).ex ds m fr = some (d, u)) :
  ∃ r ws b, ds = [.ptr r 0] ∧ m r 0 = some (.slice false [] (ws.map .str)) ∧ m r 1 = some (.bool b) ∧ okR ws ∧ d = (F (ws, b)).1 ∧ u = [(r, 0, rdD (F (ws, b)).2)] := by
 simp only [rdQ] at h
 split at h
 ·rename_i r
  split at h
  ·rename_i h0 h1
   split at h
   ·rename_i hs
    obtain rfl := strsOf_some hs
    split at h
    ·rename_i hk
     simp only [Option.some.injEq, Prod.mk.injEq] at h
     exact ⟨_, _, _, rfl, h0, h1, hk, h.1.symm, h.2.symm⟩
    ·cases h
   ·cases h
  ·cases h
 ·cases h
theorem rdQ_ex {F : Rs → D × Rs} {m : Mem} {fr r : Id} {ws : List Bs} {b : Bool} (h0 : m r 0 = some (.slice false [] (ws.map .str))) (h1 : m r 1 = some (.bool b)) (hk : okR ws) : (rdQ F).ex [.ptr r 0] m fr = some ((F (ws, b)).1, [(r, 0, rdD (F (ws, b)).2)]) := by
 simp only [rdQ, h0, h1, strsOf_map]; exact if_pos hk
theorem got_rd {F : Rs → D × Rs} {m : Mem} {fr r : Id} {ws : List Bs} {b : Bool} {K : D × Upd → Prop} {g} (h0 : m r 0 = some (.slice false [] (ws.map .str))) (h1 : m r 1 = some (.bool b)) (hk : okR ws) (h : K ((F (ws, b)).1, [(r, 0, rdD (F (ws, b)).2)])) : Got ((rdQ F).ex ([.ptr r 0] ++ []) m fr) K g := by
 simp only [List.append_nil, rdQ_ex h0 h1 hk, Got_some]; exact h
theorem put2_rd {m : Mem} {r i : Id} {a b : D} {o : Nat} : m.put r 0 [a, b] i o = if i = r ∧ o = 0 then some a else if i = r ∧ o = 1 then some b else m i o := by
 rw [put_rd]
 by_cases hi : i = r
 ·match o with
  | 0 => simp [hi]
  | 1 => simp [hi]
  | o + 2 => rw [if_neg (by simp), if_neg (by simp), if_neg (by simp)]
 ·simp [hi]
theorem put1_rd {m : Mem} {r i : Id} {a : D} {k o : Nat} : m.put r k [a] i o = if i = r ∧ o = k then some a else m i o := by
 rw [put_rd]
 by_cases h : i = r ∧ o = k
 ·obtain ⟨rfl, rfl⟩ := h; simp
 ·rw [if_neg h, if_neg]
  rintro ⟨h1, h2, h3⟩
  simp at h3
  exact h ⟨h1, by omega⟩
theorem okR_tail {w : Bs} {ws : List Bs} (h : okR (w :: ws)) : okR ws := fun x hx => h x (List.mem_cons_of_mem _ hx)
theorem le_upd {m m' : Mem} {i : Id} {a b : D} (h0 : m' i 0 = some a) (h1 : m' i 1 = some b) (hr : ∀ j o, ¬ (j = i ∧ (o = 0 ∨ o = 1)) → m j o = none ∨ m' j o = m j o) : ∀ j o x, Upd.app m [(i, 0, [a, b])] j o = some x → m' j o = some x := by
 intro j o x hx
 simp only [Upd.app, put2_rd] at hx
 by_cases e0 : j = i ∧ o = 0
 ·rw [if_pos e0] at hx; rw [e0.1, e0.2, h0]; exact hx
 ·rw [if_neg e0] at hx
  by_cases e1 : j = i ∧ o = 1
  ·rw [if_pos e1] at hx; rw [e1.1, e1.2, h1]; exact hx
  ·rw [if_neg e1] at hx
   rcases hr j o (fun h => by rcases h.2 with h2 | h2; exact e0 ⟨h.1, h2⟩; exact e1 ⟨h.1, h2⟩) with h | h
   ·rw [h] at hx; cases hx
   ·rw [h]; exact hx
def rNextD (r : Rs) : D × Rs := (.str (rNext r).1, (rNext r).2)
theorem ok68 {P : Program} (hd : Desk P) : (rdQ rNextD).ok P 68 := by
 refine opn_ok (S := fun _ => none) none_ok hd.f68 (rdQ_loc _) (fun ds m fr r u h hfr => ?_)
 obtain ⟨i, ws, b, rfl, h0, h1, hk, rfl, rfl⟩ := rdQ_inv h
 refine ⟨by simp, ?_⟩
 unfold dc68
 cases ws with
 | nil =>
  have z0 : (((0 : Nat) : Int) = 0) = True := by simp
  simp only [↓go1, gB4, reduceIte, Nat.reduceEqDiff, Nat.reduceAdd, Nat.reduceSub, Nat.reduceLT, h0, h1, List.map_cons, List.map_nil, List.length_map, Nat.zero_add, rd_succ, rd_zero, Option.bind_some, Option.map_some, Option.isSome_some, z0]
  refine ⟨rfl, le_upd (a := .slice false [] []) (b := .bool true) (by simp [put1_rd, h0]) (by simp [put1_rd]) (fun j o hn => .inr (by rw [put1_rd, if_neg (fun h => hn ⟨h.1, .inr h.2⟩)]))⟩
 | cons w ws =>
  have z0 : (((ws.length + 1 : Nat) : Int) = 0) = False := eq_false (by omega)
  have z1 : ((0 : Int) ≤ 0) = True := by simp
  have z2 : ((0 : Int) ≤ 1) = True := by simp
  have z3 : ((1 : Int) ≤ ((ws.length + 1 : Nat) : Int)) = True := eq_true (by omega)
  have z4 : ((ws.map D.str).take ws.length) = ws.map D.str := List.take_of_length_le (by simp)
  have e0 : (0 : Int).toNat = 0 := rfl
  have e1 : (1 : Int).toNat = 1 := rfl
  simp only [↓go1, gB4, reduceIte, Nat.reduceEqDiff, Nat.reduceAdd, Nat.reduceSub, Nat.reduceLT, h0, h1, List.map_cons, List.map_nil, List.length_map, Nat.zero_add, rd_succ, rd_zero, Option.bind_some, Option.map_some, Option.isSome_some, z0, z1, z2, z3, z4, e0, e1, List.getElem?_cons_zero, List.drop_succ_cons, List.drop_zero, Nat.add_sub_cancel, and_self, D.headSz]
  refine ⟨rfl, le_upd (a := .slice false [] (ws.map .str)) (b := .bool b) (by simp [put1_rd]) (by simp [put1_rd, h1]) (fun j o hn => .inr (by rw [put1_rd, if_neg (fun h => hn ⟨h.1, .inl h.2⟩)]))⟩
theorem okR_next {ws : List Bs} {b : Bool} (h : okR ws) : okR (rNext (ws, b)).2.1 ∧ (rNext (ws, b)).1.length ≤ 1000000 := by
 cases ws with
 | nil => exact ⟨h, by simp [rNext]⟩
 | cons w r => exact ⟨okR_tail h, h w (List.mem_cons_self ..)⟩
theorem ite_upd {m : Mem} {i : Id} {a b b0 : D} : ∀ (j : Id) (o : Nat) (x : D), (if j = i ∧ o = 0 then some a else if j = i ∧ o = 1 then some b else m j o) = some x → (if j = i ∧ o = 1 then some b else if j = i ∧ o = 0 then some a else if j = i ∧ o = 1 then some b0 else m j o) = some x := by
 intro j o x hx
 by_cases e0 : j = i ∧ o = 0
 ·rw [if_pos e0] at hx
  rw [if_neg (fun e => by have := e.2; have := e0.2; omega), if_pos e0]; exact hx
 ·rw [if_neg e0] at hx
  by_cases e1 : j = i ∧ o = 1
  ·rw [if_pos e1] at hx ⊢; exact hx
  ·rw [if_neg e1] at hx
   rw [if_neg e1, if_neg e0, if_neg e1]; exact hx
def rNumD (r : Rs) : D × Rs := (.int .i64 (rNum r).1, (rNum r).2)
theorem ok69 {P : Program} (hd : Desk P) (h25 : (funS F25).ok P 25) : (rdQ rNumD).ok P 69 := by
 have hS : Summs.ok P (tabL [(68, rdQ rNextD), (25, funS F25)]) := tabL_cons (ok68 hd) (tabL_cons h25 tabL_nil)
 have s68 : tabL [(68, rdQ rNextD), (25, funS F25)] 68 = some (rdQ rNextD) := rfl
 have s25 : tabL [(68, rdQ rNextD), (25, funS F25)] 25 = some (funS F25) := rfl
 generalize tabL [(68, rdQ rNextD), (25, funS F25)] = S at hS s68 s25
 refine opn_ok (S := S) hS hd.f69 (rdQ_loc _) (fun ds m fr r u h hfr => ?_)
 obtain ⟨i, ws, b, rfl, h0, h1, hk, rfl, rfl⟩ := rdQ_inv h
 refine ⟨by simp, ?_⟩
 clear h
 unfold dc69
 simp only [↓go1, gB2, reduceIte, Nat.reduceEqDiff, Nat.reduceAdd, Nat.reduceSub, Nat.reduceLT, h0, h1, Nat.zero_add, rd_succ, rd_zero, put2_rd, put1_rd, Nat.one_ne_zero, Nat.zero_ne_one, callK_fn s68]
 refine got_rd h0 h1 hk ?_
 obtain ⟨hk', hw'⟩ := okR_next (b := b) hk
 simp only [rNumD, rNum, rNextD]
 generalize rNext (ws, b) = n at hk' hw' ⊢
 obtain ⟨w, ws', b'⟩ := n
 have f25 : F25 [.str w] = some (.tup [.int .i64 (numB w).1, .bool (numB w).2]) := rfl
 generalize numB w = q at f25 ⊢
 obtain ⟨x, y⟩ := q
 cases b' <;> cases y
 all_goals
  simp only [↓go1, gB2, reduceIte, Nat.reduceEqDiff, Nat.reduceAdd, Nat.reduceSub, Nat.reduceLT, h0, h1, Nat.zero_add, rd_succ, rd_zero, put2_rd, put1_rd, Nat.one_ne_zero, Nat.zero_ne_one, callK_fn s68, callK_fun s25, f25, Bool.or_true, Bool.or_false, Bool.true_or, Bool.false_or, rdD]
 all_goals exact ite_upd
def rFlagD (r : Rs) : D × Rs := (.bool (rFlag r).1, (rFlag r).2)
theorem ok70 {P : Program} (hd : Desk P) : (rdQ rFlagD).ok P 70 := by
 have hS : Summs.ok P (tabL [(68, rdQ rNextD)]) := tabL_cons (ok68 hd) tabL_nil
 have s68 : tabL [(68, rdQ rNextD)] 68 = some (rdQ rNextD) := rfl
 generalize tabL [(68, rdQ rNextD)] = S at hS s68
 refine opn_ok (S := S) hS hd.f70 (rdQ_loc _) (fun ds m fr r u h hfr => ?_)
 obtain ⟨i, ws, b, rfl, h0, h1, hk, rfl, rfl⟩ := rdQ_inv h
 refine ⟨by simp, ?_⟩
 clear h
 unfold dc70
 simp only [↓go1, gB2, reduceIte, Nat.reduceEqDiff, Nat.reduceAdd, Nat.reduceSub, Nat.reduceLT, h0, h1, List.length_map, Nat.zero_add, rd_succ, rd_zero, put2_rd, put1_rd, Nat.one_ne_zero, Nat.zero_ne_one, Bool.or_true, Bool.or_false, Bool.true_or, Bool.false_or, Bool.true_and, Bool.false_and, Bool.not_true, Bool.not_false, decide_true, decide_false, callK_fn s68]
 refine got_rd h0 h1 hk ?_
 simp only [rFlagD, rFlag, rNextD]
 generalize rNext (ws, b) = n
 obtain ⟨w, ws', b'⟩ := n
 by_cases w1 : w = [49]
 ·subst w1
  have w0 : (([49] : Bs) = [48]) = False := by simp
  have w2 : (([49] : Bs) = [49]) = True := by simp
  have w3 : (([49] : Bs) ≠ [48]) = True := by simp
  have w4 : (([49] : Bs) ≠ [49]) = False := by simp
  cases b'
  all_goals
  simp only [↓go1, gB2, reduceIte, Nat.reduceEqDiff, Nat.reduceAdd, Nat.reduceSub, Nat.reduceLT, h0, h1, List.length_map, Nat.zero_add, rd_succ, rd_zero, put2_rd, put1_rd, Nat.one_ne_zero, Nat.zero_ne_one, Bool.or_true, Bool.or_false, Bool.true_or, Bool.false_or, Bool.true_and, Bool.false_and, Bool.not_true, Bool.not_false, decide_true, decide_false, callK_fn s68, rdD, w0, w2, w3, w4]
  all_goals exact ite_upd
 ·have w2 : (w = [49]) = False := eq_false w1
  have w4 : (w ≠ [49]) = True := eq_true w1
  by_cases w00 : w = [48]
  ·have w0 : (w = [48]) = True := eq_true w00
   have w3 : (w ≠ [48]) = False := by simp [w00]
   cases b'
   all_goals
   simp only [↓go1, gB2, reduceIte, Nat.reduceEqDiff, Nat.reduceAdd, Nat.reduceSub, Nat.reduceLT, h0, h1, List.length_map, Nat.zero_add, rd_succ, rd_zero, put2_rd, put1_rd, Nat.one_ne_zero, Nat.zero_ne_one, Bool.or_true, Bool.or_false, Bool.true_or, Bool.false_or, Bool.true_and, Bool.false_and, Bool.not_true, Bool.not_false, decide_true, decide_false, callK_fn s68, rdD, w0, w2, w3, w4]
   all_goals exact ite_upd
  ·have w0 : (w = [48]) = False := eq_false w00
   have w3 : (w ≠ [48]) = True := eq_true w00
   cases b'
   all_goals
   simp only [↓go1, gB2, reduceIte, Nat.reduceEqDiff, Nat.reduceAdd, Nat.reduceSub, Nat.reduceLT, h0, h1, List.length_map, Nat.zero_add, rd_succ, rd_zero, put2_rd, put1_rd, Nat.one_ne_zero, Nat.zero_ne_one, Bool.or_true, Bool.or_false, Bool.true_or, Bool.false_or, Bool.true_and, Bool.false_and, Bool.not_true, Bool.not_false, decide_true, decide_false, callK_fn s68, rdD, w0, w2, w3, w4]
   all_goals exact ite_upd
def rDoneD (r : Rs) : D × Rs := (.bool (rDone r), r)
theorem ok71 {P : Program} (hd : Desk P) : (rdQ rDoneD).ok P 71 := by
 refine opn_ok (S := fun _ => none) none_ok hd.f71 (rdQ_loc _) (fun ds m fr r u h hfr => ?_)
 obtain ⟨i, ws, b, rfl, h0, h1, hk, rfl, rfl⟩ := rdQ_inv h
 refine ⟨by simp, ?_⟩
 clear h
 unfold dc71
 have key : ∀ (j : Id) (o : Nat) (x : D), Upd.app m [(i, 0, rdD (rDoneD (ws, b)).2)] j o = some x → m j o = some x := by
  intro j o x hx
  simp only [Upd.app, rDoneD, rdD, put2_rd] at hx
  by_cases e0 : j = i ∧ o = 0
  ·rw [if_pos e0] at hx; rw [e0.1, e0.2, h0]; exact hx
  ·rw [if_neg e0] at hx
   by_cases e1 : j = i ∧ o = 1
   ·rw [if_pos e1] at hx; rw [e1.1, e1.2, h1]; exact hx
   ·rw [if_neg e1] at hx; exact hx
 by_cases hl : ws.length = 0
 ·have hl' : (((ws.length : Nat) : Int) = 0) = True := eq_true (by omega)
  have hl2 : (ws.length = 0) = True := eq_true hl
  cases b
  all_goals
  simp only [↓go1, gB2, reduceIte, Nat.reduceEqDiff, Nat.reduceAdd, Nat.reduceSub, Nat.reduceLT, h0, h1, List.length_map, Nat.zero_add, rd_succ, rd_zero, put2_rd, put1_rd, Nat.one_ne_zero, Nat.zero_ne_one, Bool.or_true, Bool.or_false, Bool.true_or, Bool.false_or, Bool.true_and, Bool.false_and, Bool.not_true, Bool.not_false, decide_true, decide_false, hl', hl2]
  all_goals exact ⟨by simp [rDoneD, rDone, hl], key⟩
 ·have hl' : (((ws.length : Nat) : Int) = 0) = False := eq_false (by omega)
  have hl2 : (ws.length = 0) = False := eq_false hl
  cases b
  all_goals
  simp only [↓go1, gB2, reduceIte, Nat.reduceEqDiff, Nat.reduceAdd, Nat.reduceSub, Nat.reduceLT, h0, h1, List.length_map, Nat.zero_add, rd_succ, rd_zero, put2_rd, put1_rd, Nat.one_ne_zero, Nat.zero_ne_one, Bool.or_true, Bool.or_false, Bool.true_or, Bool.false_or, Bool.true_and, Bool.false_and, Bool.not_true, Bool.not_false, decide_true, decide_false, hl', hl2]
  all_goals exact ⟨by simp [rDoneD, rDone, hl], key⟩
def rTextD (r : Rs) : D × Rs := (.str (rText r).1, (rText r).2)
theorem ok73 {P : Program} (hd : Desk P) : (rdQ rTextD).ok P 73 := by
 have hS : Summs.ok P (tabL [(68, rdQ rNextD), (95, funS F95)]) := tabL_cons (ok68 hd) (tabL_cons (ok95 hd) tabL_nil)
 have s68 : tabL [(68, rdQ rNextD), (95, funS F95)] 68 = some (rdQ rNextD) := rfl
 have s95 : tabL [(68, rdQ rNextD), (95, funS F95)] 95 = some (funS F95) := rfl
 generalize tabL [(68, rdQ rNextD), (95, funS F95)] = S at hS s68 s95
 refine opn_ok (S := S) hS hd.f73 (rdQ_loc _) (fun ds m fr r u h hfr => ?_)
 obtain ⟨i, ws, b, rfl, h0, h1, hk, rfl, rfl⟩ := rdQ_inv h
 refine ⟨by simp, ?_⟩
 clear h
 unfold dc73
 simp only [↓go1, gB2, reduceIte, Nat.reduceEqDiff, Nat.reduceAdd, Nat.reduceSub, Nat.reduceLT, h0, h1, List.length_map, Nat.zero_add, rd_succ, rd_zero, put2_rd, put1_rd, Nat.one_ne_zero, Nat.zero_ne_one, Bool.or_true, Bool.or_false, Bool.true_or, Bool.false_or, Bool.true_and, Bool.false_and, Bool.not_true, Bool.not_false, decide_true, decide_false, callK_fn s68]
 refine got_rd h0 h1 hk ?_
 obtain ⟨hk', hw'⟩ := okR_next (b := b) hk
 simp only [rTextD, rText, rNextD]
 generalize rNext (ws, b) = n at hk' hw' ⊢
 obtain ⟨w, ws', b'⟩ := n
 simp only at hk' hw'
 by_cases w1 : w = [45]
 ·have w2 : (w = [45]) = True := eq_true w1
  simp only [↓go1, gB2, reduceIte, Nat.reduceEqDiff, Nat.reduceAdd, Nat.reduceSub, Nat.reduceLT, h0, h1, List.length_map, Nat.zero_add, rd_succ, rd_zero, put2_rd, put1_rd, Nat.one_ne_zero, Nat.zero_ne_one, Bool.or_true, Bool.or_false, Bool.true_or, Bool.false_or, Bool.true_and, Bool.false_and, Bool.not_true, Bool.not_false, decide_true, decide_false, callK_fn s68, rdD, w2]
  try (intro j o x hx; exact hx)
 ·have w2 : (w = [45]) = False := eq_false w1
  have f95 : F95 [.str w] = some (.tup [.str (unhexP w).1, .bool (unhexP w).2]) := by
   refine (if_pos hw').trans ?_
   unfold unhexP
   cases unhexB w <;> rfl
  generalize unhexP w = q at f95 ⊢
  obtain ⟨x, y⟩ := q
  by_cases hx0 : x = []
  ·have hx1 : (x = []) = True := eq_true hx0
   cases b' <;> cases y
   all_goals
   simp only [↓go1, gB2, reduceIte, Nat.reduceEqDiff, Nat.reduceAdd, Nat.reduceSub, Nat.reduceLT, h0, h1, List.length_map, Nat.zero_add, rd_succ, rd_zero, put2_rd, put1_rd, Nat.one_ne_zero, Nat.zero_ne_one, Bool.or_true, Bool.or_false, Bool.true_or, Bool.false_or, Bool.true_and, Bool.false_and, Bool.not_true, Bool.not_false, decide_true, decide_false, callK_fn s68, rdD, w2, callK_fun s95, f95, hx1]
   all_goals exact ite_upd
  ·have hx1 : (x = []) = False := eq_false hx0
   cases b' <;> cases y
   all_goals
   simp only [↓go1, gB2, reduceIte, Nat.reduceEqDiff, Nat.reduceAdd, Nat.reduceSub, Nat.reduceLT, h0, h1, List.length_map, Nat.zero_add, rd_succ, rd_zero, put2_rd, put1_rd, Nat.one_ne_zero, Nat.zero_ne_one, Bool.or_true, Bool.or_false, Bool.true_or, Bool.false_or, Bool.true_and, Bool.false_and, Bool.not_true, Bool.not_false, decide_true, decide_false, callK_fn s68, rdD, w2, callK_fun s95, f95, hx1]
   all_goals exact ite_upd
end Go.Vd

namespace Go.Vd
open Go.RowKit
set_option maxRecDepth 10000
theorem okR_num {r : Rs} (h : okR r.1) : okR (rNum r).2.1 := (okR_next (b := r.2) h).1
theorem okR_flag {r : Rs} (h : okR r.1) : okR (rFlag r).2.1 := (okR_next (b := r.2) h).1
theorem okR_text {r : Rs} (h : okR r.1) : okR (rText r).2.1 := by
 have := (okR_next (b := r.2) h).1
 unfold rText; split
 ·exact this
 ·exact this
def rCallD (r : Rs) : D × Rs := (dnD (rCall r).1, (rCall r).2)
set_option maxHeartbeats 4000000 in
theorem ok72 {P : Program} (hd : Desk P) (h25 : (funS F25).ok P 25) : (rdQ rCallD).ok P 72 := by
 have hS : Summs.ok P (tabL [(69, rdQ rNumD), (70, rdQ rFlagD), (73, rdQ rTextD)]) := tabL_cons (ok69 hd h25) (tabL_cons (ok70 hd) (tabL_cons (ok73 hd) tabL_nil))
 have s69 : tabL [(69, rdQ rNumD), (70, rdQ rFlagD), (73, rdQ rTextD)] 69 = some (rdQ rNumD) := rfl
 have s70 : tabL [(69, rdQ rNumD), (70, rdQ rFlagD), (73, rdQ rTextD)] 70 = some (rdQ rFlagD) := rfl
 have s73 : tabL [(69, rdQ rNumD), (70, rdQ rFlagD), (73, rdQ rTextD)] 73 = some (rdQ rTextD) := rfl
 generalize tabL [(69, rdQ rNumD), (70, rdQ rFlagD), (73, rdQ rTextD)] = S at hS s69 s70 s73
 refine opn_ok (S := S) hS hd.f72 (rdQ_loc _) (fun ds m fr r u h hfr => ?_)
 obtain ⟨i, ws, b, rfl, h0, h1, hk, rfl, rfl⟩ := rdQ_inv h
 refine ⟨by simp, ?_⟩
 clear h
 have n0 : ∀ o, m (0 :: fr) o = none := fun o => hfr 0 _ o (List.suffix_refl _)
 have n10 : ∀ o, m (10 :: fr) o = none := fun o => hfr 10 _ o (List.suffix_refl _)
 have hi1 : (i = 0 :: fr) = False := eq_false (fun e => by rw [e, n0] at h0; cases h0)
 have hi2 : (0 :: fr = i) = False := eq_false (fun e => by rw [← e, n0] at h0; cases h0)
 have hi3 : (i = 10 :: fr) = False := eq_false (fun e => by rw [e, n10] at h0; cases h0)
 have hi4 : (10 :: fr = i) = False := eq_false (fun e => by rw [← e, n10] at h0; cases h0)
 have hfill : ∀ a b c d : Int, fillD [.int .i64 0, .str [], .str [], .int .i64 0, .int .i64 0, .int .i64 0, .bool false] [(0, 1, .int .i64 a), (3, 1, .int .i64 b), (4, 1, .int .i64 c), (5, 1, .int .i64 d)] = some [.int .i64 a, .str [], .str [], .int .i64 b, .int .i64 c, .int .i64 d, .bool false] := by
  intro a b c d; simp [fillD, putAt, D.data, D.cells]
 unfold dc72
 simp only [rCallD, rCall]
 simp only [↓go1, gB0, reduceIte, Nat.reduceEqDiff, Nat.reduceAdd, Nat.reduceSub, Nat.reduceLT, Nat.reduceLeDiff, h0, h1, rd_succ, rd_zero, put2_rd, put1_rd, put_rd, callK_fn s69, callK_fn s70, callK_fn s73, hi1, hi2, hi3, hi4, hfill, res_cell, ldD_agg]
 refine got_rd (ws := ws) (b := b) (by simp only [↓go1, gB0, reduceIte, Nat.reduceEqDiff, Nat.reduceAdd, Nat.reduceSub, Nat.reduceLT, Nat.reduceLeDiff, h0, h1, rd_succ, rd_zero, put2_rd, put1_rd, put_rd, callK_fn s69, callK_fn s70, callK_fn s73, hi1, hi2, hi3, hi4, hfill, res_cell, ldD_agg]) (by simp only [↓go1, gB0, reduceIte, Nat.reduceEqDiff, Nat.reduceAdd, Nat.reduceSub, Nat.reduceLT, Nat.reduceLeDiff, h0, h1, rd_succ, rd_zero, put2_rd, put1_rd, put_rd, callK_fn s69, callK_fn s70, callK_fn s73, hi1, hi2, hi3, hi4, hfill, res_cell, ldD_agg]) hk ?_
 have k1 := okR_num (r := (ws, b)) hk
 simp only [rNumD]
 generalize rNum (ws, b) = a1 at k1 ⊢
 obtain ⟨a1, ws1, b1⟩ := a1
 simp only [rdD]
 simp only [↓go1, gB0, reduceIte, Nat.reduceEqDiff, Nat.reduceAdd, Nat.reduceSub, Nat.reduceLT, Nat.reduceLeDiff, h0, h1, rd_succ, rd_zero, put2_rd, put1_rd, put_rd, callK_fn s69, callK_fn s70, callK_fn s73, hi1, hi2, hi3, hi4, hfill, res_cell, ldD_agg]
 refine got_rd (ws := ws1) (b := b1) (by simp only [↓go1, gB0, reduceIte, Nat.reduceEqDiff, Nat.reduceAdd, Nat.reduceSub, Nat.reduceLT, Nat.reduceLeDiff, h0, h1, rd_succ, rd_zero, put2_rd, put1_rd, put_rd, callK_fn s69, callK_fn s70, callK_fn s73, hi1, hi2, hi3, hi4, hfill, res_cell, ldD_agg]) (by simp only [↓go1, gB0, reduceIte, Nat.reduceEqDiff, Nat.reduceAdd, Nat.reduceSub, Nat.reduceLT, Nat.reduceLeDiff, h0, h1, rd_succ, rd_zero, put2_rd, put1_rd, put_rd, callK_fn s69, callK_fn s70, callK_fn s73, hi1, hi2, hi3, hi4, hfill, res_cell, ldD_agg]) k1 ?_
 have k2 := okR_num (r := (ws1, b1)) k1
 simp only [rNumD]
 generalize rNum (ws1, b1) = a2 at k2 ⊢
 obtain ⟨a2, ws2, b2⟩ := a2
 simp only [rdD]
 simp only [↓go1, gB0, reduceIte, Nat.reduceEqDiff, Nat.reduceAdd, Nat.reduceSub, Nat.reduceLT, Nat.reduceLeDiff, h0, h1, rd_succ, rd_zero, put2_rd, put1_rd, put_rd, callK_fn s69, callK_fn s70, callK_fn s73, hi1, hi2, hi3, hi4, hfill, res_cell, ldD_agg]
 refine got_rd (ws := ws2) (b := b2) (by simp only [↓go1, gB0, reduceIte, Nat.reduceEqDiff, Nat.reduceAdd, Nat.reduceSub, Nat.reduceLT, Nat.reduceLeDiff, h0, h1, rd_succ, rd_zero, put2_rd, put1_rd, put_rd, callK_fn s69, callK_fn s70, callK_fn s73, hi1, hi2, hi3, hi4, hfill, res_cell, ldD_agg]) (by simp only [↓go1, gB0, reduceIte, Nat.reduceEqDiff, Nat.reduceAdd, Nat.reduceSub, Nat.reduceLT, Nat.reduceLeDiff, h0, h1, rd_succ, rd_zero, put2_rd, put1_rd, put_rd, callK_fn s69, callK_fn s70, callK_fn s73, hi1, hi2, hi3, hi4, hfill, res_cell, ldD_agg]) k2 ?_
 have k3 := okR_num (r := (ws2, b2)) k2
 simp only [rNumD]
 generalize rNum (ws2, b2) = a3 at k3 ⊢
 obtain ⟨a3, ws3, b3⟩ := a3
 simp only [rdD]
 simp only [↓go1, gB0, reduceIte, Nat.reduceEqDiff, Nat.reduceAdd, Nat.reduceSub, Nat.reduceLT, Nat.reduceLeDiff, h0, h1, rd_succ, rd_zero, put2_rd, put1_rd, put_rd, callK_fn s69, callK_fn s70, callK_fn s73, hi1, hi2, hi3, hi4, hfill, res_cell, ldD_agg]
 refine got_rd (ws := ws3) (b := b3) (by simp only [↓go1, gB0, reduceIte, Nat.reduceEqDiff, Nat.reduceAdd, Nat.reduceSub, Nat.reduceLT, Nat.reduceLeDiff, h0, h1, rd_succ, rd_zero, put2_rd, put1_rd, put_rd, callK_fn s69, callK_fn s70, callK_fn s73, hi1, hi2, hi3, hi4, hfill, res_cell, ldD_agg]) (by simp only [↓go1, gB0, reduceIte, Nat.reduceEqDiff, Nat.reduceAdd, Nat.reduceSub, Nat.reduceLT, Nat.reduceLeDiff, h0, h1, rd_succ, rd_zero, put2_rd, put1_rd, put_rd, callK_fn s69, callK_fn s70, callK_fn s73, hi1, hi2, hi3, hi4, hfill, res_cell, ldD_agg]) k3 ?_
 have k4 := okR_num (r := (ws3, b3)) k3
 simp only [rNumD]
 generalize rNum (ws3, b3) = a4 at k4 ⊢
 obtain ⟨a4, ws4, b4⟩ := a4
 simp only [rdD]
 simp only [↓go1, gB0, reduceIte, Nat.reduceEqDiff, Nat.reduceAdd, Nat.reduceSub, Nat.reduceLT, Nat.reduceLeDiff, h0, h1, rd_succ, rd_zero, put2_rd, put1_rd, put_rd, callK_fn s69, callK_fn s70, callK_fn s73, hi1, hi2, hi3, hi4, hfill, res_cell, ldD_agg]
 refine got_rd (ws := ws4) (b := b4) (by simp only [↓go1, gB0, reduceIte, Nat.reduceEqDiff, Nat.reduceAdd, Nat.reduceSub, Nat.reduceLT, Nat.reduceLeDiff, h0, h1, rd_succ, rd_zero, put2_rd, put1_rd, put_rd, callK_fn s69, callK_fn s70, callK_fn s73, hi1, hi2, hi3, hi4, hfill, res_cell, ldD_agg]) (by simp only [↓go1, gB0, reduceIte, Nat.reduceEqDiff, Nat.reduceAdd, Nat.reduceSub, Nat.reduceLT, Nat.reduceLeDiff, h0, h1, rd_succ, rd_zero, put2_rd, put1_rd, put_rd, callK_fn s69, callK_fn s70, callK_fn s73, hi1, hi2, hi3, hi4, hfill, res_cell, ldD_agg]) k4 ?_
 have k5 := okR_flag (r := (ws4, b4)) k4
 simp only [rFlagD]
 generalize rFlag (ws4, b4) = a5 at k5 ⊢
 obtain ⟨a5, ws5, b5⟩ := a5
 simp only [rdD]
 simp only [↓go1, gB0, reduceIte, Nat.reduceEqDiff, Nat.reduceAdd, Nat.reduceSub, Nat.reduceLT, Nat.reduceLeDiff, h0, h1, rd_succ, rd_zero, put2_rd, put1_rd, put_rd, callK_fn s69, callK_fn s70, callK_fn s73, hi1, hi2, hi3, hi4, hfill, res_cell, ldD_agg]
 refine got_rd (ws := ws5) (b := b5) (by simp only [↓go1, gB0, reduceIte, Nat.reduceEqDiff, Nat.reduceAdd, Nat.reduceSub, Nat.reduceLT, Nat.reduceLeDiff, h0, h1, rd_succ, rd_zero, put2_rd, put1_rd, put_rd, callK_fn s69, callK_fn s70, callK_fn s73, hi1, hi2, hi3, hi4, hfill, res_cell, ldD_agg]) (by simp only [↓go1, gB0, reduceIte, Nat.reduceEqDiff, Nat.reduceAdd, Nat.reduceSub, Nat.reduceLT, Nat.reduceLeDiff, h0, h1, rd_succ, rd_zero, put2_rd, put1_rd, put_rd, callK_fn s69, callK_fn s70, callK_fn s73, hi1, hi2, hi3, hi4, hfill, res_cell, ldD_agg]) k5 ?_
 have k6 := okR_text (r := (ws5, b5)) k5
 simp only [rTextD]
 generalize rText (ws5, b5) = a6 at k6 ⊢
 obtain ⟨a6, ws6, b6⟩ := a6
 simp only [rdD]
 simp only [↓go1, gB0, reduceIte, Nat.reduceEqDiff, Nat.reduceAdd, Nat.reduceSub, Nat.reduceLT, Nat.reduceLeDiff, h0, h1, rd_succ, rd_zero, put2_rd, put1_rd, put_rd, callK_fn s69, callK_fn s70, callK_fn s73, hi1, hi2, hi3, hi4, hfill, res_cell, ldD_agg]
 refine got_rd (ws := ws6) (b := b6) (by simp only [↓go1, gB0, reduceIte, Nat.reduceEqDiff, Nat.reduceAdd, Nat.reduceSub, Nat.reduceLT, Nat.reduceLeDiff, h0, h1, rd_succ, rd_zero, put2_rd, put1_rd, put_rd, callK_fn s69, callK_fn s70, callK_fn s73, hi1, hi2, hi3, hi4, hfill, res_cell, ldD_agg]) (by simp only [↓go1, gB0, reduceIte, Nat.reduceEqDiff, Nat.reduceAdd, Nat.reduceSub, Nat.reduceLT, Nat.reduceLeDiff, h0, h1, rd_succ, rd_zero, put2_rd, put1_rd, put_rd, callK_fn s69, callK_fn s70, callK_fn s73, hi1, hi2, hi3, hi4, hfill, res_cell, ldD_agg]) k6 ?_
 have k7 := okR_text (r := (ws6, b6)) k6
 simp only [rTextD]
 generalize rText (ws6, b6) = a7 at k7 ⊢
 obtain ⟨a7, ws7, b7⟩ := a7
 simp only [rdD]
 simp only [↓go1, gB0, reduceIte, Nat.reduceEqDiff, Nat.reduceAdd, Nat.reduceSub, Nat.reduceLT, Nat.reduceLeDiff, h0, h1, rd_succ, rd_zero, put2_rd, put1_rd, put_rd, callK_fn s69, callK_fn s70, callK_fn s73, hi1, hi2, hi3, hi4, hfill, res_cell, ldD_agg]
 refine ⟨?_, ?_⟩
 ·rfl
 ·intro j o x hx
  by_cases e0 : j = 0 :: fr
  ·exfalso
   rw [e0] at hx
   simp only [hi2, false_and, if_false, n0] at hx
   cases hx
  ·by_cases e1 : j = 10 :: fr
   ·exfalso
    rw [e1] at hx
    simp only [hi4, false_and, if_false, n10] at hx
    cases hx
   ·have e0' : (j = 0 :: fr) = False := eq_false e0
    have e1' : (j = 10 :: fr) = False := eq_false e1
    simp only [e0', e1', false_and, if_false] at hx ⊢
    by_cases f0 : j = i ∧ o < 2
    ·rw [if_pos f0] at hx ⊢; exact hx
    ·simp only [if_neg f0] at hx ⊢; exact hx
end Go.Vd

namespace Go.Vd
open Go.RowKit
set_option maxRecDepth 10000
def tdAt (m : Mem) (r : Id) : Option (Bool × Id × Bool × Id × Td) :=
 match m r 0, m r 1, m r 2, m r 3, m r 4 with
 | some (.slice nc tc xs), some (.int .i64 a), some (.int .i64 b), some (.bool f), some (.slice nb tb ys) =>
  match dnsOf xs, strsOf ys with
  | some cs, some bs => some (nc, tc, nb, tb, ⟨cs, a, b, f, bs⟩)
  | _, _ => none
 | _, _, _, _, _ => none
structure TdAt (m : Mem) (r : Id) (nc : Bool) (tc : Id) (nb : Bool) (tb : Id) (t : Td) : Prop where
 c0 : m r 0 = some (.slice nc tc (t.calls.map dnD))
 c1 : m r 1 = some (.int .i64 t.ticks)
 c2 : m r 2 = some (.int .i64 t.left)
 c3 : m r 3 = some (.bool t.shut)
 c4 : m r 4 = some (.slice nb tb (t.behind.map .str))
theorem tdAt_some {m : Mem} {r : Id} {nc : Bool} {tc : Id} {nb : Bool} {tb : Id} {t : Td} (h : tdAt m r = some (nc, tc, nb, tb, t)) : TdAt m r nc tc nb tb t := by
 unfold tdAt at h
 split at h
 ·rename_i h0 h1 h2 h3 h4
  split at h
  ·rename_i e1 e2
   simp only [Option.some.injEq, Prod.mk.injEq] at h
   obtain ⟨rfl, rfl, rfl, rfl, rfl⟩ := h
   obtain rfl := dnsOf_some e1
   obtain rfl := strsOf_some e2
   exact ⟨h0, h1, h2, h3, h4⟩
  ·cases h
 ·cases h
theorem tdAt_of {m : Mem} {r : Id} {nc : Bool} {tc : Id} {nb : Bool} {tb : Id} {t : Td} (h : TdAt m r nc tc nb tb t) : tdAt m r = some (nc, tc, nb, tb, t) := by
 unfold tdAt
 rw [h.c0, h.c1, h.c2, h.c3, h.c4]
 simp only [dnsOf_map, strsOf_map]
def growT (m : Mem) (e : Nat) (nl : Bool) (t : Id) (emp : Bool) : Bool :=
 if nl = true then emp else match m t 0 with
  | some (.tok k) => k == e + 1 && !t.isEmpty
  | _ => false
theorem growT_grow {m : Mem} {e : Nat} {nl : Bool} {t : Id} {emp : Bool} {xs : List D} (h : growT m e nl t emp = true) : Grow m e (.slice nl t xs) := by
 unfold growT at h
 split at h
 ·rename_i h0; exact .inl h0
 ·split at h
  ·rename_i k hm
   simp only [Bool.and_eq_true, beq_iff_eq] at h
   rw [h.1] at hm
   exact .inr ⟨hm, by intro e; rw [e] at h; simp at h⟩
  ·cases h
def readU (fr r : Id) (nc : Bool) (tc : Id) (nb : Bool) (tb : Id) (t : Td) (k : Int) (s : Bs) : Upd :=
 if k = 0 then [(r, 1, [.int .i64 (readP t true s).1.ticks, .int .i64 (readP t true s).1.left, .bool (readP t true s).1.shut])]
 else if (rNext (splitB s, false)).1 = kCall then growU 65 (23 :: fr) (.slice nc tc []) ++ [(r, 0, [.slice false (23 :: fr) ((readP t false s).1.calls.map dnD)])]
 else if (rNext (splitB s, false)).1 = kSaid then growU 9 (26 :: fr) (.slice nb tb []) ++ [(r, 4, [.slice false (26 :: fr) ((readP t false s).1.behind.map .str)])]
 else []
def okRd (m : Mem) (nc : Bool) (tc : Id) (nb : Bool) (tb : Id) (t : Td) (s : Bs) : Bool :=
 decide (s.length ≤ 1000000) && decide (t.calls.length ≤ 1000000) && decide (t.behind.length ≤ 1000000) && growT m 65 nc tc t.calls.isEmpty && growT m 9 nb tb t.behind.isEmpty
def slT : Option D → List (Id × Nat)
 | some (.slice _ t _) => [(t, 0)]
 | _ => []
def readQ : Summ where
 rd := fun ds m => match ds with
  | [.ptr r 0, _, _] => [(r, 0), (r, 1), (r, 2), (r, 3), (r, 4)] ++ slT (m r 0) ++ slT (m r 4)
  | _ => []
 ex := fun ds m fr => match ds with
  | [.ptr r 0, .int .i64 k, .str s] => match tdAt m r with
   | some (nc, tc, nb, tb, t) => if okRd m nc tc nb tb t s = true then some (.bool (readP t (decide (k = 0)) s).2, readU fr r nc tc nb tb t k s) else none
   | none => none
  | _ => none
theorem growT_congr {m m' : Mem} {e : Nat} {nl : Bool} {t : Id} {emp : Bool} (h : m t 0 = m' t 0) : growT m e nl t emp = growT m' e nl t emp := by
 unfold growT; rw [h]
theorem readQ_loc (ds : List D) (m m' : Mem) (fr : Id) (h : ∀ l ∈ readQ.rd ds m, m l.1 l.2 = m' l.1 l.2) : readQ.ex ds m fr = readQ.ex ds m' fr := by
 simp only [readQ] at h ⊢
 split
 ·rename_i r k s
  have e0 := h (r, 0) (by simp)
  have e1 := h (r, 1) (by simp)
  have e2 := h (r, 2) (by simp)
  have e3 := h (r, 3) (by simp)
  have e4 := h (r, 4) (by simp)
  have et : tdAt m' r = tdAt m r := by
   unfold tdAt
   simp only at e0 e1 e2 e3 e4
   rw [e0, e1, e2, e3, e4]
  rw [et]
  cases hT : tdAt m r with
  | none => rfl
  | some p =>
   obtain ⟨nc, tc, nb, tb, t⟩ := p
   have T := tdAt_some hT
   have g1 : m tc 0 = m' tc 0 := h (tc, 0) (by simp [T.c0, slT])
   have g2 : m tb 0 = m' tb 0 := h (tb, 0) (by simp [T.c4, slT])
   simp only [okRd, growT_congr g1, growT_congr g2]; rfl
 ·rfl
theorem readQ_inv {ds : List D} {m : Mem} {fr : Id} {d : D} {u : Upd} (h : readQ.ex ds m fr = some (d, u)) :
  ∃ r k s nc tc nb tb t, ds = [.ptr r 0, .int .i64 k, .str s] ∧ TdAt m r nc tc nb tb t ∧ okRd m nc tc nb tb t s = true ∧ d = .bool (readP t (decide (k = 0)) s).2 ∧ u = readU fr r nc tc nb tb t k s := by
 simp only [readQ] at h
 split at h
 ·rename_i r k s
  split at h
  ·rename_i nc tc nb tb t hT
   split at h
   ·rename_i hk
    simp only [Option.some.injEq, Prod.mk.injEq] at h
    exact ⟨r, k, s, nc, tc, nb, tb, t, rfl, tdAt_some hT, hk, h.1.symm, h.2.symm⟩
   ·cases h
  ·cases h
 ·cases h
theorem splitB_okR {s : Bs} (h : s.length ≤ 1000000) : okR (splitB s) := by
 have : ∀ (s : Bs) w, w ∈ splitB s → w.length ≤ s.length := by
  intro s
  induction s with
  | nil => intro w hw; simp [splitB] at hw; simp [hw]
  | cons c r ih =>
   intro w hw
   unfold splitB at hw
   split at hw
   ·rcases List.mem_cons.1 hw with rfl | hw
    ·simp
    ·have := ih w hw; simp; omega
   ·split at hw
    ·rename_i a b e
     rcases List.mem_cons.1 hw with rfl | hw
     ·have := ih a (by rw [e]; simp); simp; omega
     ·have := ih w (by rw [e]; simp [hw]); simp; omega
    ·simp at hw; subst hw; simp
 exact fun w hw => Nat.le_trans (this s w hw) h
end Go.Vd

namespace Go.Vd
open Go.RowKit
set_option maxRecDepth 10000
theorem okR_call {r : Rs} (h : okR r.1) : okR (rCall r).2.1 :=
 okR_text (okR_text (okR_flag (okR_num (okR_num (okR_num (okR_num h))))))
theorem growT_grow' {m m' : Mem} {e : Nat} {nl : Bool} {t : Id} {emp : Bool} {xs : List D} (h : growT m e nl t emp = true) (hm : nl = false → m t 0 = some (.tok (e + 1)) → m' t 0 = m t 0) : Grow m' e (.slice nl t xs) := by
 rcases growT_grow (xs := xs) h with h0 | ⟨h1, h2⟩
 ·exact .inl h0
 ·cases nl with
  | true => exact .inl rfl
  | false => exact .inr ⟨by rw [hm rfl h1]; exact h1, h2⟩
theorem growT_tok {m : Mem} {e : Nat} {nl : Bool} {t : Id} {emp : Bool} (h : growT m e nl t emp = true) : nl = false → m t 0 = some (.tok (e + 1)) := by
 rintro rfl
 rcases growT_grow (xs := []) h with h0 | ⟨h1, h2⟩
 ·cases h0
 ·exact h1
theorem growU_rd {m : Mem} {e : Nat} {f t i : Id} {nl : Bool} {xs : List D} {o : Nat} : Upd.app m (growU e f (.slice nl t xs)) i o = if i = f ∧ o = 0 then some (.tok (e + 1)) else if nl = false ∧ i = t ∧ o = 0 then some (.tok 0) else m i o := by
 cases nl <;> simp [growU, Upd.app, put_tok]
theorem growT_nil {m : Mem} {e : Nat} {nl : Bool} {t : Id} {emp : Bool} {xs : List D} (h : growT m e nl t emp = true) (hx : emp = true → xs = []) : nl = true → xs = [] := by
 rintro rfl
 unfold growT at h
 rw [if_pos rfl] at h
 exact hx h
theorem feet_one {i j : Id} {l : Id × Nat} {ds : List D} {o n : Nat} (h : i ≠ j) (hl : l ∈ List.flatMap (fun x : Id × Nat × List D => cellLocs x.1 x.2.1 x.2.2.length) [(i, 0, ds)]) : ¬ l ∈ cellLocs j o n ∧ ¬ l ∈ ([] : List (Id × Nat)) := by
 refine ⟨fun hm => ?_, by simp⟩
 simp only [List.flatMap_cons, List.flatMap_nil, List.append_nil, cellLocs, List.mem_map, List.mem_range] at hl hm
 obtain ⟨_, _, rfl⟩ := hl
 obtain ⟨_, _, e⟩ := hm
 exact h (congrArg Prod.fst e).symm
theorem upd_append : ∀ {m : Mem} {u v : Upd}, Upd.app m (u ++ v) = Upd.app (Upd.app m u) v
 | m, [], v => rfl
 | m, (i, o, ds) :: u, v => by show Upd.app (m.put i o ds) (u ++ v) = _; rw [upd_append]; rfl
set_option maxHeartbeats 8000000 in
theorem ok35 {P : Program} (hd : Desk P) (h25 : (funS F25).ok P 25) (h67 : (funS Fsplit).ok P 67) : readQ.ok P 35 := by
 have hS : Summs.ok P (tabL [(67, funS Fsplit), (68, rdQ rNextD), (69, rdQ rNumD), (70, rdQ rFlagD), (71, rdQ rDoneD), (72, rdQ rCallD), (73, rdQ rTextD)]) :=
  tabL_cons h67 (tabL_cons (ok68 hd) (tabL_cons (ok69 hd h25) (tabL_cons (ok70 hd) (tabL_cons (ok71 hd) (tabL_cons (ok72 hd h25) (tabL_cons (ok73 hd) tabL_nil))))))
 have s67 : tabL [(67, funS Fsplit), (68, rdQ rNextD), (69, rdQ rNumD), (70, rdQ rFlagD), (71, rdQ rDoneD), (72, rdQ rCallD), (73, rdQ rTextD)] 67 = some (funS Fsplit) := rfl
 have s68 : tabL [(67, funS Fsplit), (68, rdQ rNextD), (69, rdQ rNumD), (70, rdQ rFlagD), (71, rdQ rDoneD), (72, rdQ rCallD), (73, rdQ rTextD)] 68 = some (rdQ rNextD) := rfl
 have s69 : tabL [(67, funS Fsplit), (68, rdQ rNextD), (69, rdQ rNumD), (70, rdQ rFlagD), (71, rdQ rDoneD), (72, rdQ rCallD), (73, rdQ rTextD)] 69 = some (rdQ rNumD) := rfl
 have s70 : tabL [(67, funS Fsplit), (68, rdQ rNextD), (69, rdQ rNumD), (70, rdQ rFlagD), (71, rdQ rDoneD), (72, rdQ rCallD), (73, rdQ rTextD)] 70 = some (rdQ rFlagD) := rfl
 have s71 : tabL [(67, funS Fsplit), (68, rdQ rNextD), (69, rdQ rNumD), (70, rdQ rFlagD), (71, rdQ rDoneD), (72, rdQ rCallD), (73, rdQ rTextD)] 71 = some (rdQ rDoneD) := rfl
 have s72 : tabL [(67, funS Fsplit), (68, rdQ rNextD), (69, rdQ rNumD), (70, rdQ rFlagD), (71, rdQ rDoneD), (72, rdQ rCallD), (73, rdQ rTextD)] 72 = some (rdQ rCallD) := rfl
 have s73 : tabL [(67, funS Fsplit), (68, rdQ rNextD), (69, rdQ rNumD), (70, rdQ rFlagD), (71, rdQ rDoneD), (72, rdQ rCallD), (73, rdQ rTextD)] 73 = some (rdQ rTextD) := rfl
 generalize tabL [(67, funS Fsplit), (68, rdQ rNextD), (69, rdQ rNumD), (70, rdQ rFlagD), (71, rdQ rDoneD), (72, rdQ rCallD), (73, rdQ rTextD)] = S at hS s67 s68 s69 s70 s71 s72 s73
 refine opn_ok (S := S) hS hd.f35 readQ_loc (fun ds m fr d u h hfr => ?_)
 obtain ⟨r, k, s, nc, tc, nb, tb, t, rfl, T, hok, rfl, rfl⟩ := readQ_inv h
 refine ⟨by simp, ?_⟩
 clear h
 obtain ⟨c0, c1, c2, c3, c4⟩ := T
 simp only [okRd, Bool.and_eq_true, decide_eq_true_eq] at hok
 obtain ⟨⟨⟨⟨o1, o2⟩, o3⟩, o4⟩, o5⟩ := hok
 have n4 : ∀ o, m (4 :: fr) o = none := fun o => hfr 4 _ o (List.suffix_refl _)
 have n22 : ∀ o, m (22 :: fr) o = none := fun o => hfr 22 _ o (List.suffix_refl _)
 have n23 : ∀ o, m (23 :: fr) o = none := fun o => hfr 23 _ o (List.suffix_refl _)
 have n25 : ∀ o, m (25 :: fr) o = none := fun o => hfr 25 _ o (List.suffix_refl _)
 have n26 : ∀ o, m (26 :: fr) o = none := fun o => hfr 26 _ o (List.suffix_refl _)
 have hnc := growT_nil (xs := t.calls.map dnD) o4 (fun h => by rw [List.isEmpty_iff] at h; rw [h]; rfl)
 have hnb := growT_nil (xs := t.behind.map D.str) o5 (fun h => by rw [List.isEmpty_iff] at h; rw [h]; rfl)
 have hr1 : (r = 4 :: fr) = False := eq_false (fun e => by rw [e, n4] at c0; cases c0)
 have hr2 : (4 :: fr = r) = False := eq_false (fun e => by rw [← e, n4] at c0; cases c0)
 have r22 : (r = 22 :: fr) = False := eq_false (fun e => by rw [e, n22] at c0; cases c0)
 have r23 : (r = 23 :: fr) = False := eq_false (fun e => by rw [e, n23] at c0; cases c0)
 have r25 : (r = 25 :: fr) = False := eq_false (fun e => by rw [e, n25] at c0; cases c0)
 have r26 : (r = 26 :: fr) = False := eq_false (fun e => by rw [e, n26] at c0; cases c0)
 have kc : nc = false → m tc 0 = some (.tok 66) := growT_tok o4
 have kb : nb = false → m tb 0 = some (.tok 10) := growT_tok o5
 have q1 : (nc = false ∧ r = tc) = False := eq_false (fun ⟨a, e⟩ => by have := kc a; rw [← e, c0] at this; cases this)
 have q2 : (nc = false ∧ 4 :: fr = tc) = False := eq_false (fun ⟨a, e⟩ => by have := kc a; rw [← e, n4] at this; cases this)
 have q3 : (nb = false ∧ r = tb) = False := eq_false (fun ⟨a, e⟩ => by have := kb a; rw [← e, c0] at this; cases this)
 have q4 : (nb = false ∧ 4 :: fr = tb) = False := eq_false (fun ⟨a, e⟩ => by have := kb a; rw [← e, n4] at this; cases this)
 have m23 : (4 :: fr = 23 :: fr) = False := eq_false (by simp)
 have m26 : (4 :: fr = 26 :: fr) = False := eq_false (by simp)
 have q5 : (nc = false ∧ 22 :: fr = tc) = False := eq_false (fun ⟨a, e⟩ => by have := kc a; rw [← e, n22] at this; cases this)
 have q6 : (nb = false ∧ 25 :: fr = tb) = False := eq_false (fun ⟨a, e⟩ => by have := kb a; rw [← e, n25] at this; cases this)
 have q2' : ∀ o : Nat, (nc = false ∧ 4 :: fr = tc ∧ o = 0) = False := fun o => eq_false (fun h => of_eq_false q2 ⟨h.1, h.2.1⟩)
 have q4' : ∀ o : Nat, (nb = false ∧ 4 :: fr = tb ∧ o = 0) = False := fun o => eq_false (fun h => of_eq_false q4 ⟨h.1, h.2.1⟩)
 have q5' : ∀ o : Nat, (nc = false ∧ 22 :: fr = tc ∧ o = 0) = False := fun o => eq_false (fun h => of_eq_false q5 ⟨h.1, h.2.1⟩)
 have q6' : ∀ o : Nat, (nb = false ∧ 25 :: fr = tb ∧ o = 0) = False := fun o => eq_false (fun h => of_eq_false q6 ⟨h.1, h.2.1⟩)
 have m22 : (22 :: fr = 23 :: fr) = False := eq_false (by simp)
 have m25 : (25 :: fr = 26 :: fr) = False := eq_false (by simp)
 have r22' : (22 :: fr = r) = False := eq_false (fun e => of_eq_false r22 e.symm)
 have r25' : (25 :: fr = r) = False := eq_false (fun e => of_eq_false r25 e.symm)
 have f67 : Fsplit [.str s, .str [32]] = some (.slice false [] ((splitB s).map .str)) := if_pos o1
 have hfill : ∀ xs, fillD [.slice true [] [], .bool false] [(0, 1, .slice false [] xs)] = some [.slice false [] xs, .bool false] := by
  intro xs; simp [fillD, putAt, D.data, D.cells]
 have hk0 := splitB_okR o1
 unfold dc35
 simp only [↓go1, gB0, reduceIte, Nat.reduceEqDiff, Nat.reduceAdd, Nat.reduceSub, Nat.reduceLT, Nat.reduceLeDiff, c0, c1, c2, c3, c4, rd_succ, rd_zero, put2_rd, put1_rd, put_rd, callK_fn s68, callK_fn s69, callK_fn s70, callK_fn s71, callK_fn s72, callK_fn s73, callK_fun s67, f67, hr1, hr2, hfill, reduceCtorEq, growU_rd, q1, q2, q3, q4, r22, r23, r25, r26]
 refine got_rd (ws := splitB s) (b := false) (by simp only [↓go1, gB0, reduceIte, Nat.reduceEqDiff, Nat.reduceAdd, Nat.reduceSub, Nat.reduceLT, Nat.reduceLeDiff, c0, c1, c2, c3, c4, rd_succ, rd_zero, put2_rd, put1_rd, put_rd, callK_fn s68, callK_fn s69, callK_fn s70, callK_fn s71, callK_fn s72, callK_fn s73, callK_fun s67, f67, hr1, hr2, hfill, reduceCtorEq, growU_rd, q1, q2, q3, q4, r22, r23, r25, r26]) (by simp only [↓go1, gB0, reduceIte, Nat.reduceEqDiff, Nat.reduceAdd, Nat.reduceSub, Nat.reduceLT, Nat.reduceLeDiff, c0, c1, c2, c3, c4, rd_succ, rd_zero, put2_rd, put1_rd, put_rd, callK_fn s68, callK_fn s69, callK_fn s70, callK_fn s71, callK_fn s72, callK_fn s73, callK_fun s67, f67, hr1, hr2, hfill, reduceCtorEq, growU_rd, q1, q2, q3, q4, r22, r23, r25, r26]) hk0 ?_
 have k0 := (okR_next (b := false) hk0).1
 simp only [rNextD]
 by_cases hz : k = 0
 ·have hz1 : (k = 0) = True := eq_true hz
  simp only [readU, readP, hz1, if_true, decide_true]
  generalize rNext (splitB s, false) = a0 at k0 ⊢
  obtain ⟨w, ws0, b0⟩ := a0
  simp only [rdD]
  simp only [↓go1, gB0, reduceIte, Nat.reduceEqDiff, Nat.reduceAdd, Nat.reduceSub, Nat.reduceLT, Nat.reduceLeDiff, c0, c1, c2, c3, c4, rd_succ, rd_zero, put2_rd, put1_rd, put_rd, callK_fn s68, callK_fn s69, callK_fn s70, callK_fn s71, callK_fn s72, callK_fn s73, callK_fun s67, f67, hr1, hr2, hfill, reduceCtorEq, growU_rd, q1, q2, q3, q4, r22, r23, r25, r26, hz1]
  refine got_rd (ws := ws0) (b := b0) (by simp only [↓go1, gB0, reduceIte, Nat.reduceEqDiff, Nat.reduceAdd, Nat.reduceSub, Nat.reduceLT, Nat.reduceLeDiff, c0, c1, c2, c3, c4, rd_succ, rd_zero, put2_rd, put1_rd, put_rd, callK_fn s68, callK_fn s69, callK_fn s70, callK_fn s71, callK_fn s72, callK_fn s73, callK_fun s67, f67, hr1, hr2, hfill, reduceCtorEq, growU_rd, q1, q2, q3, q4, r22, r23, r25, r26, hz1]) (by simp only [↓go1, gB0, reduceIte, Nat.reduceEqDiff, Nat.reduceAdd, Nat.reduceSub, Nat.reduceLT, Nat.reduceLeDiff, c0, c1, c2, c3, c4, rd_succ, rd_zero, put2_rd, put1_rd, put_rd, callK_fn s68, callK_fn s69, callK_fn s70, callK_fn s71, callK_fn s72, callK_fn s73, callK_fun s67, f67, hr1, hr2, hfill, reduceCtorEq, growU_rd, q1, q2, q3, q4, r22, r23, r25, r26, hz1]) k0 ?_
  have k1 := okR_num (r := (ws0, b0)) k0
  simp only [rNumD]
  generalize rNum (ws0, b0) = a1 at k1 ⊢
  obtain ⟨a1, ws1, b1⟩ := a1
  simp only [rdD]
  simp only [↓go1, gB0, reduceIte, Nat.reduceEqDiff, Nat.reduceAdd, Nat.reduceSub, Nat.reduceLT, Nat.reduceLeDiff, c0, c1, c2, c3, c4, rd_succ, rd_zero, put2_rd, put1_rd, put_rd, callK_fn s68, callK_fn s69, callK_fn s70, callK_fn s71, callK_fn s72, callK_fn s73, callK_fun s67, f67, hr1, hr2, hfill, reduceCtorEq, growU_rd, q1, q2, q3, q4, r22, r23, r25, r26, hz1]
  refine got_rd (ws := ws1) (b := b1) (by simp only [↓go1, gB0, reduceIte, Nat.reduceEqDiff, Nat.reduceAdd, Nat.reduceSub, Nat.reduceLT, Nat.reduceLeDiff, c0, c1, c2, c3, c4, rd_succ, rd_zero, put2_rd, put1_rd, put_rd, callK_fn s68, callK_fn s69, callK_fn s70, callK_fn s71, callK_fn s72, callK_fn s73, callK_fun s67, f67, hr1, hr2, hfill, reduceCtorEq, growU_rd, q1, q2, q3, q4, r22, r23, r25, r26, hz1]) (by simp only [↓go1, gB0, reduceIte, Nat.reduceEqDiff, Nat.reduceAdd, Nat.reduceSub, Nat.reduceLT, Nat.reduceLeDiff, c0, c1, c2, c3, c4, rd_succ, rd_zero, put2_rd, put1_rd, put_rd, callK_fn s68, callK_fn s69, callK_fn s70, callK_fn s71, callK_fn s72, callK_fn s73, callK_fun s67, f67, hr1, hr2, hfill, reduceCtorEq, growU_rd, q1, q2, q3, q4, r22, r23, r25, r26, hz1]) k1 ?_
  have k2 := okR_num (r := (ws1, b1)) k1
  simp only [rNumD]
  generalize rNum (ws1, b1) = a2 at k2 ⊢
  obtain ⟨a2, ws2, b2⟩ := a2
  simp only [rdD]
  simp only [↓go1, gB0, reduceIte, Nat.reduceEqDiff, Nat.reduceAdd, Nat.reduceSub, Nat.reduceLT, Nat.reduceLeDiff, c0, c1, c2, c3, c4, rd_succ, rd_zero, put2_rd, put1_rd, put_rd, callK_fn s68, callK_fn s69, callK_fn s70, callK_fn s71, callK_fn s72, callK_fn s73, callK_fun s67, f67, hr1, hr2, hfill, reduceCtorEq, growU_rd, q1, q2, q3, q4, r22, r23, r25, r26, hz1]
  refine got_rd (ws := ws2) (b := b2) (by simp only [↓go1, gB0, reduceIte, Nat.reduceEqDiff, Nat.reduceAdd, Nat.reduceSub, Nat.reduceLT, Nat.reduceLeDiff, c0, c1, c2, c3, c4, rd_succ, rd_zero, put2_rd, put1_rd, put_rd, callK_fn s68, callK_fn s69, callK_fn s70, callK_fn s71, callK_fn s72, callK_fn s73, callK_fun s67, f67, hr1, hr2, hfill, reduceCtorEq, growU_rd, q1, q2, q3, q4, r22, r23, r25, r26, hz1]) (by simp only [↓go1, gB0, reduceIte, Nat.reduceEqDiff, Nat.reduceAdd, Nat.reduceSub, Nat.reduceLT, Nat.reduceLeDiff, c0, c1, c2, c3, c4, rd_succ, rd_zero, put2_rd, put1_rd, put_rd, callK_fn s68, callK_fn s69, callK_fn s70, callK_fn s71, callK_fn s72, callK_fn s73, callK_fun s67, f67, hr1, hr2, hfill, reduceCtorEq, growU_rd, q1, q2, q3, q4, r22, r23, r25, r26, hz1]) k2 ?_
  have k3 := okR_flag (r := (ws2, b2)) k2
  simp only [rFlagD]
  generalize rFlag (ws2, b2) = a3 at k3 ⊢
  obtain ⟨a3, ws3, b3⟩ := a3
  simp only [rdD]
  by_cases hw : w = kTold
  ·have hw1 : (w = [116, 111, 108, 100]) = True := eq_true hw
   have hw2 : (w = kTold) = True := eq_true hw
   simp only [↓go1, gB0, reduceIte, Nat.reduceEqDiff, Nat.reduceAdd, Nat.reduceSub, Nat.reduceLT, Nat.reduceLeDiff, c0, c1, c2, c3, c4, rd_succ, rd_zero, put2_rd, put1_rd, put_rd, callK_fn s68, callK_fn s69, callK_fn s70, callK_fn s71, callK_fn s72, callK_fn s73, callK_fun s67, f67, hr1, hr2, hfill, reduceCtorEq, growU_rd, q1, q2, q3, q4, r22, r23, r25, r26, hz1, hw1, hw2, decide_true, decide_false, Bool.true_and, Bool.false_and]
   refine got_rd (ws := ws3) (b := b3) (by simp only [↓go1, gB0, reduceIte, Nat.reduceEqDiff, Nat.reduceAdd, Nat.reduceSub, Nat.reduceLT, Nat.reduceLeDiff, c0, c1, c2, c3, c4, rd_succ, rd_zero, put2_rd, put1_rd, put_rd, callK_fn s68, callK_fn s69, callK_fn s70, callK_fn s71, callK_fn s72, callK_fn s73, callK_fun s67, f67, hr1, hr2, hfill, reduceCtorEq, growU_rd, q1, q2, q3, q4, r22, r23, r25, r26, hz1, hw1, hw2, decide_true, decide_false, Bool.true_and, Bool.false_and]) (by simp only [↓go1, gB0, reduceIte, Nat.reduceEqDiff, Nat.reduceAdd, Nat.reduceSub, Nat.reduceLT, Nat.reduceLeDiff, c0, c1, c2, c3, c4, rd_succ, rd_zero, put2_rd, put1_rd, put_rd, callK_fn s68, callK_fn s69, callK_fn s70, callK_fn s71, callK_fn s72, callK_fn s73, callK_fun s67, f67, hr1, hr2, hfill, reduceCtorEq, growU_rd, q1, q2, q3, q4, r22, r23, r25, r26, hz1, hw1, hw2, decide_true, decide_false, Bool.true_and, Bool.false_and]) k3 ?_
   simp only [rDoneD, rdD]
   simp only [↓go1, gB0, reduceIte, Nat.reduceEqDiff, Nat.reduceAdd, Nat.reduceSub, Nat.reduceLT, Nat.reduceLeDiff, c0, c1, c2, c3, c4, rd_succ, rd_zero, put2_rd, put1_rd, put_rd, callK_fn s68, callK_fn s69, callK_fn s70, callK_fn s71, callK_fn s72, callK_fn s73, callK_fun s67, f67, hr1, hr2, hfill, reduceCtorEq, growU_rd, q1, q2, q3, q4, r22, r23, r25, r26, hz1, hw1, hw2, decide_true, decide_false, Bool.true_and, Bool.false_and]
   intro i o x hx
   by_cases e4 : i = 4 :: fr
   ·exfalso
    rw [e4] at hx
    simp only [hr2, false_and, if_false, n4] at hx
    cases hx
   ·have e4' : (i = 4 :: fr) = False := eq_false e4
    simp only [e4', false_and, if_false] at hx ⊢
    by_cases er : i = r
    ·match o, hx with
     | 0, hx => simpa [er] using hx
     | 1, hx => simpa [er] using hx
     | 2, hx => simpa [er] using hx
     | 3, hx => simpa [er] using hx
     | n + 4, hx =>
      rw [if_neg (by omega)] at hx
      rw [if_neg (by omega), if_neg (by omega), if_neg (by omega)]; exact hx
    ·simpa [er] using hx
  ·have hw1 : (w = [116, 111, 108, 100]) = False := eq_false hw
   have hw2 : (w = kTold) = False := eq_false hw
   simp only [↓go1, gB0, reduceIte, Nat.reduceEqDiff, Nat.reduceAdd, Nat.reduceSub, Nat.reduceLT, Nat.reduceLeDiff, c0, c1, c2, c3, c4, rd_succ, rd_zero, put2_rd, put1_rd, put_rd, callK_fn s68, callK_fn s69, callK_fn s70, callK_fn s71, callK_fn s72, callK_fn s73, callK_fun s67, f67, hr1, hr2, hfill, reduceCtorEq, growU_rd, q1, q2, q3, q4, r22, r23, r25, r26, hz1, hw1, hw2, decide_true, decide_false, Bool.true_and, Bool.false_and]
   intro i o x hx
   by_cases e4 : i = 4 :: fr
   ·exfalso
    rw [e4] at hx
    simp only [hr2, false_and, if_false, n4] at hx
    cases hx
   ·have e4' : (i = 4 :: fr) = False := eq_false e4
    simp only [e4', false_and, if_false] at hx ⊢
    by_cases er : i = r
    ·match o, hx with
     | 0, hx => simpa [er] using hx
     | 1, hx => simpa [er] using hx
     | 2, hx => simpa [er] using hx
     | 3, hx => simpa [er] using hx
     | n + 4, hx =>
      rw [if_neg (by omega)] at hx
      rw [if_neg (by omega), if_neg (by omega), if_neg (by omega)]; exact hx
    ·simpa [er] using hx
 ·have hz1 : (k = 0) = False := eq_false hz
  simp only [readU, readP, hz1, if_false, decide_false, Bool.false_eq_true]
  generalize rNext (splitB s, false) = a0 at k0 ⊢
  obtain ⟨w, ws0, b0⟩ := a0
  simp only [rdD]
  by_cases hw : w = kCall
  ·have hw1 : (w = [99, 97, 108, 108]) = True := eq_true hw
   have hw2 : (w = kCall) = True := eq_true hw
   simp only [hw2, if_true]
   simp only [↓go1, gB0, reduceIte, Nat.reduceEqDiff, Nat.reduceAdd, Nat.reduceSub, Nat.reduceLT, Nat.reduceLeDiff, c0, c1, c2, c3, c4, rd_succ, rd_zero, put2_rd, put1_rd, put_rd, callK_fn s68, callK_fn s69, callK_fn s70, callK_fn s71, callK_fn s72, callK_fn s73, callK_fun s67, f67, hr1, hr2, hfill, reduceCtorEq, growU_rd, q1, q2, q3, q4, r22, r23, r25, r26, hz1, hw1, hw2, decide_true, decide_false, Bool.true_and, Bool.false_and]
   refine got_rd (ws := ws0) (b := b0) (by simp only [↓go1, gB0, reduceIte, Nat.reduceEqDiff, Nat.reduceAdd, Nat.reduceSub, Nat.reduceLT, Nat.reduceLeDiff, c0, c1, c2, c3, c4, rd_succ, rd_zero, put2_rd, put1_rd, put_rd, callK_fn s68, callK_fn s69, callK_fn s70, callK_fn s71, callK_fn s72, callK_fn s73, callK_fun s67, f67, hr1, hr2, hfill, reduceCtorEq, growU_rd, q1, q2, q3, q4, r22, r23, r25, r26, hz1, hw1, hw2, decide_true, decide_false, Bool.true_and, Bool.false_and]) (by simp only [↓go1, gB0, reduceIte, Nat.reduceEqDiff, Nat.reduceAdd, Nat.reduceSub, Nat.reduceLT, Nat.reduceLeDiff, c0, c1, c2, c3, c4, rd_succ, rd_zero, put2_rd, put1_rd, put_rd, callK_fn s68, callK_fn s69, callK_fn s70, callK_fn s71, callK_fn s72, callK_fn s73, callK_fun s67, f67, hr1, hr2, hfill, reduceCtorEq, growU_rd, q1, q2, q3, q4, r22, r23, r25, r26, hz1, hw1, hw2, decide_true, decide_false, Bool.true_and, Bool.false_and]) k0 ?_
   have k1 : okR (rCall (ws0, b0)).2.1 := okR_call (r := (ws0, b0)) k0
   simp only [rCallD]
   generalize rCall (ws0, b0) = a1 at k1 ⊢
   obtain ⟨a1, ws1, b1⟩ := a1
   simp only [rdD, dnD_eq]
   simp only [↓go1, gB0, reduceIte, Nat.reduceEqDiff, Nat.reduceAdd, Nat.reduceSub, Nat.reduceLT, Nat.reduceLeDiff, c0, c1, c2, c3, c4, rd_succ, rd_zero, put2_rd, put1_rd, put_rd, callK_fn s68, callK_fn s69, callK_fn s70, callK_fn s71, callK_fn s72, callK_fn s73, callK_fun s67, f67, hr1, hr2, hfill, reduceCtorEq, growU_rd, q1, q2, q3, q4, r22, r23, r25, r26, hz1, hw1, hw2, decide_true, decide_false, Bool.true_and, Bool.false_and]
   refine Need.intro ⟨by omega, rfl, growT_grow' o4 (fun e1 e2 => ?_)⟩ ?_
   ·have t4 : (tc = 4 :: fr) = False := eq_false (fun e => by rw [e, n4] at e2; cases e2)
    have t22 : (tc = 22 :: fr) = False := eq_false (fun e => by rw [e, n22] at e2; cases e2)
    simp only [app_nil, put2_rd, put1_rd, put_rd, t4, t22, false_and, if_false, D.cells]
   rw [app_fold hnc]
   simp only [↓go1, gB0, reduceIte, Nat.reduceEqDiff, Nat.reduceAdd, Nat.reduceSub, Nat.reduceLT, Nat.reduceLeDiff, c0, c1, c2, c3, c4, rd_succ, rd_zero, put2_rd, put1_rd, put_rd, callK_fn s68, callK_fn s69, callK_fn s70, callK_fn s71, callK_fn s72, callK_fn s73, callK_fun s67, f67, hr1, hr2, hfill, reduceCtorEq, growU_rd, q1, q2, q3, q4, r22, r23, r25, r26, hz1, hw1, hw2, decide_true, decide_false, Bool.true_and, Bool.false_and]
   refine Need.intro (fun p hp l hl => ?_) ?_
   ·simp only [List.mem_cons, List.mem_nil_iff, or_false] at hp
    rcases hp with rfl | rfl
    all_goals
     simp only [List.getD_cons_succ, List.getD_cons_zero, wlocs, rds] at hl ⊢
     simp only [↓go1, gB0, reduceIte, Nat.reduceEqDiff, Nat.reduceAdd, Nat.reduceSub, Nat.reduceLT, Nat.reduceLeDiff, c0, c1, c2, c3, c4, rd_succ, rd_zero, put2_rd, put1_rd, put_rd, callK_fn s68, callK_fn s69, callK_fn s70, callK_fn s71, callK_fn s72, callK_fn s73, callK_fun s67, f67, hr1, hr2, hfill, reduceCtorEq, growU_rd, q1, q2, q3, q4, r22, r23, r25, r26, hz1, hw1, hw2, decide_true, decide_false, Bool.true_and, Bool.false_and] at hl ⊢
    ·exact feet_one (of_eq_false hr2) hl
    ·exact feet_one (fun e => of_eq_false r22 e.symm) hl
   ·simp only [↓go1, gB0, reduceIte, Nat.reduceEqDiff, Nat.reduceAdd, Nat.reduceSub, Nat.reduceLT, Nat.reduceLeDiff, c0, c1, c2, c3, c4, rd_succ, rd_zero, put2_rd, put1_rd, put_rd, callK_fn s68, callK_fn s69, callK_fn s70, callK_fn s71, callK_fn s72, callK_fn s73, callK_fun s67, f67, hr1, hr2, hfill, reduceCtorEq, growU_rd, q1, q2, q3, q4, r22, r23, r25, r26, hz1, hw1, hw2, decide_true, decide_false, Bool.true_and, Bool.false_and]
    by_cases hb0 : t.behind.length = 0
    ·have hb1 : ((t.behind.length : Int) = 0) = True := eq_true (by omega)
     have hb2 : (t.behind.length = 0) = True := eq_true hb0
     simp only [↓go1, gB0, reduceIte, Nat.reduceEqDiff, Nat.reduceAdd, Nat.reduceSub, Nat.reduceLT, Nat.reduceLeDiff, c0, c1, c2, c3, c4, rd_succ, rd_zero, put2_rd, put1_rd, put_rd, callK_fn s68, callK_fn s69, callK_fn s70, callK_fn s71, callK_fn s72, callK_fn s73, callK_fun s67, f67, hr1, hr2, hfill, reduceCtorEq, growU_rd, q1, q2, q3, q4, r22, r23, r25, r26, hz1, hw1, hw2, hb1, hb2, decide_true, decide_false, Bool.true_and, Bool.false_and, m23, upd_append, Upd.app]
     refine got_rd (ws := ws1) (b := b1) (by simp only [↓go1, gB0, reduceIte, Nat.reduceEqDiff, Nat.reduceAdd, Nat.reduceSub, Nat.reduceLT, Nat.reduceLeDiff, c0, c1, c2, c3, c4, rd_succ, rd_zero, put2_rd, put1_rd, put_rd, callK_fn s68, callK_fn s69, callK_fn s70, callK_fn s71, callK_fn s72, callK_fn s73, callK_fun s67, f67, hr1, hr2, hfill, reduceCtorEq, growU_rd, q1, q2, q3, q4, r22, r23, r25, r26, hz1, hw1, hw2, hb1, hb2, decide_true, decide_false, Bool.true_and, Bool.false_and, m23, upd_append, Upd.app]) (by simp only [↓go1, gB0, reduceIte, Nat.reduceEqDiff, Nat.reduceAdd, Nat.reduceSub, Nat.reduceLT, Nat.reduceLeDiff, c0, c1, c2, c3, c4, rd_succ, rd_zero, put2_rd, put1_rd, put_rd, callK_fn s68, callK_fn s69, callK_fn s70, callK_fn s71, callK_fn s72, callK_fn s73, callK_fun s67, f67, hr1, hr2, hfill, reduceCtorEq, growU_rd, q1, q2, q3, q4, r22, r23, r25, r26, hz1, hw1, hw2, hb1, hb2, decide_true, decide_false, Bool.true_and, Bool.false_and, m23, upd_append, Upd.app]) k1 ?_
     simp only [rDoneD, rdD]
     simp only [↓go1, gB0, reduceIte, Nat.reduceEqDiff, Nat.reduceAdd, Nat.reduceSub, Nat.reduceLT, Nat.reduceLeDiff, c0, c1, c2, c3, c4, rd_succ, rd_zero, put2_rd, put1_rd, put_rd, callK_fn s68, callK_fn s69, callK_fn s70, callK_fn s71, callK_fn s72, callK_fn s73, callK_fun s67, f67, hr1, hr2, hfill, reduceCtorEq, growU_rd, q1, q2, q3, q4, r22, r23, r25, r26, hz1, hw1, hw2, hb1, hb2, decide_true, decide_false, Bool.true_and, Bool.false_and, m23, upd_append, Upd.app]
     intro i o x hx
     by_cases e4 : i = 4 :: fr
     ·exfalso
      rw [e4] at hx
      simp only [hr2, m23, false_and, if_false, q2', n4] at hx
      cases hx
     ·by_cases e22 : i = 22 :: fr
      ·exfalso
       rw [e22] at hx
       simp only [r22', m22, false_and, if_false, q5', n22] at hx
       cases hx
      ·have e4' : (i = 4 :: fr) = False := eq_false e4
       have e22' : (i = 22 :: fr) = False := eq_false e22
       simp only [e4', e22', false_and, if_false] at hx ⊢
       rw [List.map_append] at hx
       exact hx
    ·have hb1 : ((t.behind.length : Int) = 0) = False := eq_false (by omega)
     have hb2 : (t.behind.length = 0) = False := eq_false hb0
     simp only [↓go1, gB0, reduceIte, Nat.reduceEqDiff, Nat.reduceAdd, Nat.reduceSub, Nat.reduceLT, Nat.reduceLeDiff, c0, c1, c2, c3, c4, rd_succ, rd_zero, put2_rd, put1_rd, put_rd, callK_fn s68, callK_fn s69, callK_fn s70, callK_fn s71, callK_fn s72, callK_fn s73, callK_fun s67, f67, hr1, hr2, hfill, reduceCtorEq, growU_rd, q1, q2, q3, q4, r22, r23, r25, r26, hz1, hw1, hw2, hb1, hb2, decide_true, decide_false, Bool.true_and, Bool.false_and, m23, upd_append, Upd.app]
     intro i o x hx
     by_cases e4 : i = 4 :: fr
     ·exfalso
      rw [e4] at hx
      simp only [hr2, m23, false_and, if_false, q2', n4] at hx
      cases hx
     ·by_cases e22 : i = 22 :: fr
      ·exfalso
       rw [e22] at hx
       simp only [r22', m22, false_and, if_false, q5', n22] at hx
       cases hx
      ·have e4' : (i = 4 :: fr) = False := eq_false e4
       have e22' : (i = 22 :: fr) = False := eq_false e22
       simp only [e4', e22', false_and, if_false] at hx ⊢
       rw [List.map_append] at hx
       exact hx
  ·have hwc1 : (w = [99, 97, 108, 108]) = False := eq_false hw
   have hwc2 : (w = kCall) = False := eq_false hw
   by_cases hs : w = kSaid
   ·have hw1 : (w = [115, 97, 105, 100]) = True := eq_true hs
    have hw2 : (w = kSaid) = True := eq_true hs
    simp only [hwc2, hw2, if_true, if_false]
    simp only [↓go1, gB0, reduceIte, Nat.reduceEqDiff, Nat.reduceAdd, Nat.reduceSub, Nat.reduceLT, Nat.reduceLeDiff, c0, c1, c2, c3, c4, rd_succ, rd_zero, put2_rd, put1_rd, put_rd, callK_fn s68, callK_fn s69, callK_fn s70, callK_fn s71, callK_fn s72, callK_fn s73, callK_fun s67, f67, hr1, hr2, hfill, reduceCtorEq, growU_rd, q1, q2, q3, q4, r22, r23, r25, r26, hz1, hw1, hw2, hwc1, hwc2, decide_true, decide_false, Bool.true_and, Bool.false_and, m26]
    refine got_rd (ws := ws0) (b := b0) (by simp only [↓go1, gB0, reduceIte, Nat.reduceEqDiff, Nat.reduceAdd, Nat.reduceSub, Nat.reduceLT, Nat.reduceLeDiff, c0, c1, c2, c3, c4, rd_succ, rd_zero, put2_rd, put1_rd, put_rd, callK_fn s68, callK_fn s69, callK_fn s70, callK_fn s71, callK_fn s72, callK_fn s73, callK_fun s67, f67, hr1, hr2, hfill, reduceCtorEq, growU_rd, q1, q2, q3, q4, r22, r23, r25, r26, hz1, hw1, hw2, hwc1, hwc2, decide_true, decide_false, Bool.true_and, Bool.false_and, m26]) (by simp only [↓go1, gB0, reduceIte, Nat.reduceEqDiff, Nat.reduceAdd, Nat.reduceSub, Nat.reduceLT, Nat.reduceLeDiff, c0, c1, c2, c3, c4, rd_succ, rd_zero, put2_rd, put1_rd, put_rd, callK_fn s68, callK_fn s69, callK_fn s70, callK_fn s71, callK_fn s72, callK_fn s73, callK_fun s67, f67, hr1, hr2, hfill, reduceCtorEq, growU_rd, q1, q2, q3, q4, r22, r23, r25, r26, hz1, hw1, hw2, hwc1, hwc2, decide_true, decide_false, Bool.true_and, Bool.false_and, m26]) k0 ?_
    have k1 : okR (rText (ws0, b0)).2.1 := okR_text (r := (ws0, b0)) k0
    simp only [rTextD]
    generalize rText (ws0, b0) = a1 at k1 ⊢
    obtain ⟨a1, ws1, b1⟩ := a1
    simp only [rdD]
    simp only [↓go1, gB0, reduceIte, Nat.reduceEqDiff, Nat.reduceAdd, Nat.reduceSub, Nat.reduceLT, Nat.reduceLeDiff, c0, c1, c2, c3, c4, rd_succ, rd_zero, put2_rd, put1_rd, put_rd, callK_fn s68, callK_fn s69, callK_fn s70, callK_fn s71, callK_fn s72, callK_fn s73, callK_fun s67, f67, hr1, hr2, hfill, reduceCtorEq, growU_rd, q1, q2, q3, q4, r22, r23, r25, r26, hz1, hw1, hw2, hwc1, hwc2, decide_true, decide_false, Bool.true_and, Bool.false_and, m26]
    refine Need.intro ⟨by omega, rfl, growT_grow' o5 (fun e1 e2 => ?_)⟩ ?_
    ·have t4 : (tb = 4 :: fr) = False := eq_false (fun e => by rw [e, n4] at e2; cases e2)
     have t25 : (tb = 25 :: fr) = False := eq_false (fun e => by rw [e, n25] at e2; cases e2)
     simp only [app_nil, put2_rd, put1_rd, put_rd, t4, t25, false_and, if_false, D.cells]
    rw [app_fold hnb]
    simp only [↓go1, gB0, reduceIte, Nat.reduceEqDiff, Nat.reduceAdd, Nat.reduceSub, Nat.reduceLT, Nat.reduceLeDiff, c0, c1, c2, c3, c4, rd_succ, rd_zero, put2_rd, put1_rd, put_rd, callK_fn s68, callK_fn s69, callK_fn s70, callK_fn s71, callK_fn s72, callK_fn s73, callK_fun s67, f67, hr1, hr2, hfill, reduceCtorEq, growU_rd, q1, q2, q3, q4, r22, r23, r25, r26, hz1, hw1, hw2, hwc1, hwc2, decide_true, decide_false, Bool.true_and, Bool.false_and, m26]
    refine Need.intro (fun p hp l hl => ?_) ?_
    ·simp only [List.mem_cons, List.mem_nil_iff, or_false] at hp
     rcases hp with rfl | rfl
     all_goals
      simp only [List.getD_cons_succ, List.getD_cons_zero, wlocs, rds] at hl ⊢
      simp only [↓go1, gB0, reduceIte, Nat.reduceEqDiff, Nat.reduceAdd, Nat.reduceSub, Nat.reduceLT, Nat.reduceLeDiff, c0, c1, c2, c3, c4, rd_succ, rd_zero, put2_rd, put1_rd, put_rd, callK_fn s68, callK_fn s69, callK_fn s70, callK_fn s71, callK_fn s72, callK_fn s73, callK_fun s67, f67, hr1, hr2, hfill, reduceCtorEq, growU_rd, q1, q2, q3, q4, r22, r23, r25, r26, hz1, hw1, hw2, hwc1, hwc2, decide_true, decide_false, Bool.true_and, Bool.false_and, m26] at hl ⊢
     ·exact feet_one (of_eq_false hr2) hl
     ·exact feet_one (fun e => of_eq_false r25 e.symm) hl
    ·simp only [↓go1, gB0, reduceIte, Nat.reduceEqDiff, Nat.reduceAdd, Nat.reduceSub, Nat.reduceLT, Nat.reduceLeDiff, c0, c1, c2, c3, c4, rd_succ, rd_zero, put2_rd, put1_rd, put_rd, callK_fn s68, callK_fn s69, callK_fn s70, callK_fn s71, callK_fn s72, callK_fn s73, callK_fun s67, f67, hr1, hr2, hfill, reduceCtorEq, growU_rd, q1, q2, q3, q4, r22, r23, r25, r26, hz1, hw1, hw2, hwc1, hwc2, decide_true, decide_false, Bool.true_and, Bool.false_and, m26]
     refine got_rd (ws := ws1) (b := b1) (by simp only [↓go1, gB0, reduceIte, Nat.reduceEqDiff, Nat.reduceAdd, Nat.reduceSub, Nat.reduceLT, Nat.reduceLeDiff, c0, c1, c2, c3, c4, rd_succ, rd_zero, put2_rd, put1_rd, put_rd, callK_fn s68, callK_fn s69, callK_fn s70, callK_fn s71, callK_fn s72, callK_fn s73, callK_fun s67, f67, hr1, hr2, hfill, reduceCtorEq, growU_rd, q1, q2, q3, q4, r22, r23, r25, r26, hz1, hw1, hw2, hwc1, hwc2, decide_true, decide_false, Bool.true_and, Bool.false_and, m26, upd_append, Upd.app]) (by simp only [↓go1, gB0, reduceIte, Nat.reduceEqDiff, Nat.reduceAdd, Nat.reduceSub, Nat.reduceLT, Nat.reduceLeDiff, c0, c1, c2, c3, c4, rd_succ, rd_zero, put2_rd, put1_rd, put_rd, callK_fn s68, callK_fn s69, callK_fn s70, callK_fn s71, callK_fn s72, callK_fn s73, callK_fun s67, f67, hr1, hr2, hfill, reduceCtorEq, growU_rd, q1, q2, q3, q4, r22, r23, r25, r26, hz1, hw1, hw2, hwc1, hwc2, decide_true, decide_false, Bool.true_and, Bool.false_and, m26, upd_append, Upd.app]) k1 ?_
     simp only [rDoneD, rdD]
     simp only [↓go1, gB0, reduceIte, Nat.reduceEqDiff, Nat.reduceAdd, Nat.reduceSub, Nat.reduceLT, Nat.reduceLeDiff, c0, c1, c2, c3, c4, rd_succ, rd_zero, put2_rd, put1_rd, put_rd, callK_fn s68, callK_fn s69, callK_fn s70, callK_fn s71, callK_fn s72, callK_fn s73, callK_fun s67, f67, hr1, hr2, hfill, reduceCtorEq, growU_rd, q1, q2, q3, q4, r22, r23, r25, r26, hz1, hw1, hw2, hwc1, hwc2, decide_true, decide_false, Bool.true_and, Bool.false_and, m26, upd_append, Upd.app]
     intro i o x hx
     by_cases e4 : i = 4 :: fr
     ·exfalso
      rw [e4] at hx
      simp only [hr2, m26, false_and, if_false, q4', n4] at hx
      cases hx
     ·by_cases e25 : i = 25 :: fr
      ·exfalso
       rw [e25] at hx
       simp only [r25', m25, false_and, if_false, q6', n25] at hx
       cases hx
      ·have e4' : (i = 4 :: fr) = False := eq_false e4
       have e25' : (i = 25 :: fr) = False := eq_false e25
       simp only [e4', e25', false_and, if_false] at hx ⊢
       rw [List.map_append] at hx
       exact hx
   ·have hw1 : (w = [115, 97, 105, 100]) = False := eq_false hs
    have hw2 : (w = kSaid) = False := eq_false hs
    simp only [hwc2, hw2, if_false]
    simp only [↓go1, gB0, reduceIte, Nat.reduceEqDiff, Nat.reduceAdd, Nat.reduceSub, Nat.reduceLT, Nat.reduceLeDiff, c0, c1, c2, c3, c4, rd_succ, rd_zero, put2_rd, put1_rd, put_rd, callK_fn s68, callK_fn s69, callK_fn s70, callK_fn s71, callK_fn s72, callK_fn s73, callK_fun s67, f67, hr1, hr2, hfill, reduceCtorEq, growU_rd, q1, q2, q3, q4, r22, r23, r25, r26, hz1, hw1, hw2, hwc1, hwc2, decide_true, decide_false, Bool.true_and, Bool.false_and, m26, upd_append, Upd.app]
    intro i o x hx
    by_cases e4 : i = 4 :: fr
    ·exfalso
     rw [e4, n4] at hx
     cases hx
    ·have e4' : (i = 4 :: fr) = False := eq_false e4
     simp only [e4', false_and, if_false] at hx ⊢
     exact hx
end Go.Vd

namespace Go.Vd
open Go.RowKit
set_option maxRecDepth 10000
structure PInv (m : Mem) (c : Nat) (t : Td) (tc tb : Id) : Prop where
 td : TdAt m [2] t.calls.isEmpty tc t.behind.isEmpty tb t
 z : TdAt m [0] true [] true [] zeroT
 gc : growT m 65 t.calls.isEmpty tc t.calls.isEmpty = true
 gb : growT m 9 t.behind.isEmpty tb t.behind.isEmpty = true
 fc : tc = [] ∨ ∃ j, tc = [23, j] ∧ j < c
 fb : tb = [] ∨ ∃ j, tb = [26, j] ∧ j < c
theorem TdAt.congr {m m' : Mem} {r : Id} {nc : Bool} {tc : Id} {nb : Bool} {tb : Id} {t : Td} (h : TdAt m r nc tc nb tb t) (he : ∀ o, m' r o = m r o) : TdAt m' r nc tc nb tb t :=
 ⟨by rw [he]; exact h.c0, by rw [he]; exact h.c1, by rw [he]; exact h.c2, by rw [he]; exact h.c3, by rw [he]; exact h.c4⟩
theorem growT_new {m : Mem} {e : Nat} {f : Id} (hf : f ≠ []) (h : m f 0 = some (.tok (e + 1))) : growT m e false f false = true := by
 unfold growT
 rw [if_neg (by simp), h]
 cases f with
 | nil => exact absurd rfl hf
 | cons a b => simp
theorem PInv.more {m : Mem} {c c' : Nat} {t : Td} {tc tb : Id} (h : PInv m c t tc tb) (hc : c ≤ c') : PInv m c' t tc tb :=
 ⟨h.td, h.z, h.gc, h.gb, h.fc.imp id (fun ⟨j, e, hj⟩ => ⟨j, e, by omega⟩), h.fb.imp id (fun ⟨j, e, hj⟩ => ⟨j, e, by omega⟩)⟩
theorem isEmpty_snoc {α : Type} (l : List α) (x : α) : (l ++ [x]).isEmpty = false := by cases l <;> rfl
theorem read_inv {m : Mem} {c f : Nat} {t : Td} {tc tb : Id} {k : Int} {s : Bs} (h : PInv m c t tc tb) (hf : c ≤ f) :
  ∃ tc' tb', PInv (Upd.app m (readU [f] [2] t.calls.isEmpty tc t.behind.isEmpty tb t k s)) (f + 1) (readP t (decide (k = 0)) s).1 tc' tb' := by
 have n1 : tc ≠ [0] := by rcases h.fc with rfl | ⟨j, rfl, _⟩ <;> simp
 have n2 : tc ≠ [2] := by rcases h.fc with rfl | ⟨j, rfl, _⟩ <;> simp
 have n3 : tb ≠ [0] := by rcases h.fb with rfl | ⟨j, rfl, _⟩ <;> simp
 have n4 : tb ≠ [2] := by rcases h.fb with rfl | ⟨j, rfl, _⟩ <;> simp
 have n5 : tc ≠ [26, f] := by rcases h.fc with rfl | ⟨j, rfl, _⟩ <;> simp
 have n6 : tb ≠ [23, f] := by rcases h.fb with rfl | ⟨j, rfl, _⟩ <;> simp
 have n7 : t.calls.isEmpty = false → t.behind.isEmpty = false → tc ≠ tb := by
  intro a b e
  have g1 := growT_tok h.gc a
  have g2 := growT_tok h.gb b
  rw [e, g2] at g1; simp at g1
 have n8 : ([0] : Id) ≠ [2] := by simp
 have n9 : ([2] : Id) ≠ [0] := by simp
 have m1 : ([0] : Id) ≠ [23, f] := by simp
 have m2 : ([2] : Id) ≠ [23, f] := by simp
 have m3 : ([0] : Id) ≠ [26, f] := by simp
 have m4 : ([2] : Id) ≠ [26, f] := by simp
 have m5 : ([23, f] : Id) ≠ [2] := by simp
 have m6 : ([26, f] : Id) ≠ [2] := by simp
 unfold readU
 by_cases hz : k = 0
 ·rw [if_pos hz]
  have hd : decide (k = 0) = true := by simp [hz]
  rw [hd]
  have hc : (readP t true s).1.calls = t.calls := rfl
  have hb : (readP t true s).1.behind = t.behind := rfl
  generalize (readP t true s).1 = t' at hc hb ⊢
  refine ⟨tc, tb, ⟨?_, ?_, ?_, ?_, ?_⟩, h.z.congr (fun o => ?_), ?_, ?_, ?_, ?_⟩
  ·rw [hc]; simpa [Upd.app, put_rd] using h.td.c0
  ·simp [Upd.app, put_rd]
  ·simp [Upd.app, put_rd]
  ·simp [Upd.app, put_rd]
  ·rw [hb]; simpa [Upd.app, put_rd] using h.td.c4
  ·simp [Upd.app, put_rd]
  ·rw [hc, ← h.gc]; exact growT_congr (by simp [Upd.app, put_rd])
  ·rw [hb, ← h.gb]; exact growT_congr (by simp [Upd.app, put_rd])
  ·exact (h.more (by omega : c ≤ f + 1)).fc
  ·exact (h.more (by omega : c ≤ f + 1)).fb
 ·rw [if_neg hz]
  have hd : decide (k = 0) = false := by simp [hz]
  rw [hd]
  by_cases hk : (rNext (splitB s, false)).1 = kCall
  ·rw [if_pos hk]
   obtain ⟨d, hc⟩ : ∃ d, (readP t false s).1.calls = t.calls ++ [d] := ⟨(rCall (rNext (splitB s, false)).2).1, by simp [readP, hk]⟩
   have hb : (readP t false s).1.behind = t.behind := by simp [readP, hk]
   have e1 : (readP t false s).1.ticks = t.ticks := by simp [readP, hk]
   have e2 : (readP t false s).1.left = t.left := by simp [readP, hk]
   have e3 : (readP t false s).1.shut = t.shut := by simp [readP, hk]
   generalize (readP t false s).1 = t' at hc hb e1 e2 e3 ⊢
   simp only [upd_append]
   refine ⟨[23, f], tb, ⟨?_, ?_, ?_, ?_, ?_⟩, h.z.congr (fun o => ?_), ?_, ?_, ?_, ?_⟩
   ·rw [hc, isEmpty_snoc]; simp [Upd.app, put1_rd]
   ·rw [e1, ← h.td.c1]; simp [Upd.app, put1_rd, growU_rd]
   ·rw [e2, ← h.td.c2]; simp [Upd.app, put1_rd, growU_rd]
   ·rw [e3, ← h.td.c3]; simp [Upd.app, put1_rd, growU_rd]
   ·rw [hb, ← h.td.c4]; simp [Upd.app, put1_rd, growU_rd]
   ·simp [Upd.app, put1_rd, growU_rd, n1.symm]
   ·rw [hc, isEmpty_snoc]; exact growT_new (by simp) (by simp [Upd.app, put1_rd, growU_rd])
   ·rw [hb]
    by_cases hbe : t.behind.isEmpty = true
    ·simp [growT, hbe]
    ·have hbe : t.behind.isEmpty = false := by simpa using hbe
     rw [← h.gb]; refine growT_congr ?_
     by_cases hce : t.calls.isEmpty = true
     ·simp [Upd.app, put1_rd, growU_rd, n4, n6, hce]
     ·have hce : t.calls.isEmpty = false := by simpa using hce
      simp [Upd.app, put1_rd, growU_rd, n4, n6, (n7 hce hbe).symm]
   ·exact .inr ⟨f, rfl, by omega⟩
   ·exact (h.more (by omega : c ≤ f + 1)).fb
  ·rw [if_neg hk]
   by_cases hs : (rNext (splitB s, false)).1 = kSaid
   ·rw [if_pos hs]
    have hks : ¬ kSaid = kCall := by decide
    obtain ⟨d, hb⟩ : ∃ d, (readP t false s).1.behind = t.behind ++ [d] := ⟨(rText (rNext (splitB s, false)).2).1, by simp [readP, hs, hks]⟩
    have hc : (readP t false s).1.calls = t.calls := by simp [readP, hs, hks]
    have e1 : (readP t false s).1.ticks = t.ticks := by simp [readP, hs, hks]
    have e2 : (readP t false s).1.left = t.left := by simp [readP, hs, hks]
    have e3 : (readP t false s).1.shut = t.shut := by simp [readP, hs, hks]
    generalize (readP t false s).1 = t' at hc hb e1 e2 e3 ⊢
    simp only [upd_append]
    refine ⟨tc, [26, f], ⟨?_, ?_, ?_, ?_, ?_⟩, h.z.congr (fun o => ?_), ?_, ?_, ?_, ?_⟩
    ·rw [hc, ← h.td.c0]; simp [Upd.app, put1_rd, growU_rd, n4.symm]
    ·rw [e1, ← h.td.c1]; simp [Upd.app, put1_rd, growU_rd]
    ·rw [e2, ← h.td.c2]; simp [Upd.app, put1_rd, growU_rd]
    ·rw [e3, ← h.td.c3]; simp [Upd.app, put1_rd, growU_rd]
    ·rw [hb, isEmpty_snoc]; simp [Upd.app, put1_rd]
    ·simp [Upd.app, put1_rd, growU_rd, n3.symm]
    ·rw [hc]
     by_cases hce : t.calls.isEmpty = true
     ·simp [growT, hce]
     ·have hce : t.calls.isEmpty = false := by simpa using hce
      rw [← h.gc]; refine growT_congr ?_
      by_cases hbe : t.behind.isEmpty = true
      ·simp [Upd.app, put1_rd, growU_rd, n2, n5, hbe]
      ·have hbe : t.behind.isEmpty = false := by simpa using hbe
       simp [Upd.app, put1_rd, growU_rd, n2, n5, n7 hce hbe]
    ·rw [hb, isEmpty_snoc]; exact growT_new (by simp) (by simp [Upd.app, put1_rd, growU_rd])
    ·exact (h.more (by omega : c ≤ f + 1)).fc
    ·exact .inr ⟨f, rfl, by omega⟩
   ·rw [if_neg hs]
    have ht : (readP t false s).1 = t := by simp [readP, hk, hs]
    rw [ht]
    exact ⟨tc, tb, h.more (by omega)⟩
theorem fill_nil {cs : List D} : fillD cs [] = some cs := rfl
theorem rowU_any {S : Summs} {ns : Id} {c k : Nat} {ops l : List DOper} {s : Nat → D} {dst : Option Nat} {m : Mem} {K} {d : D} {u : Upd} : rowU S ns c ops l k s dst m K d u = rowK S ns c ops l k (setS s dst d) (Upd.app m u) K := rfl
theorem got_read {m : Mem} {fr r : Id} {nc : Bool} {tc : Id} {nb : Bool} {tb : Id} {t : Td} {k : Int} {s : Bs} {K : D × Upd → Prop} {g} (T : TdAt m r nc tc nb tb t) (hok : okRd m nc tc nb tb t s = true) (h : K (.bool (readP t (decide (k = 0)) s).2, readU fr r nc tc nb tb t k s)) : Got (readQ.ex ([.ptr r 0, .int .i64 k, .str s] ++ []) m fr) K g := by
 refine Got.intro ?_ h
 simp only [List.append_nil, readQ, tdAt_of T]
 exact if_pos hok
theorem readP_len (t : Td) (f : Bool) (s : Bs) : (readP t f s).1.calls.length ≤ t.calls.length + 1 ∧ (readP t f s).1.behind.length ≤ t.behind.length + 1 := by
 unfold readP
 cases f with
 | true => simp
 | false =>
  simp only [Bool.false_eq_true, if_false]
  split
  ·simp
  ·split
   ·simp
   ·simp
set_option maxHeartbeats 2000000 in
theorem loop13 {S : Summs} {l : List Bs} {nl0 : Bool} {t0 : Id} {Q : Ex → St → Prop} (s35 : S 35 = some readQ) (hb : l.length ≤ 1000) (hlen : ∀ s ∈ l, s.length ≤ 1000000) :
  ∀ (n k : Nat) (t : Td) (tc tb : Id) st g, n = l.length - k → k ≤ l.length → t.calls.length ≤ k → t.behind.length ≤ k → st.s 9 = .int .i64 (k : Int) → st.s 8 = .int .i64 (l.length : Int) → st.s 7 = .slice nl0 t0 (l.map .str) → st.s 4 = .ptr [2] 0 → st.s 2 = .ptr [0] 0 → st.s 0 = .slice nl0 t0 (l.map .str) → PInv st.m st.c t tc tb →
   (∀ st' t' tc' tb', goP (decide (k = 0)) t (l.drop k) = some t' → st'.s 4 = .ptr [2] 0 → st'.s 2 = .ptr [0] 0 → st'.s 0 = .slice nl0 t0 (l.map .str) → PInv st'.m st'.c t' tc' tb' → Q (.exit 0) st') →
   (∀ st', goP (decide (k = 0)) t (l.drop k) = none → st'.s 2 = .ptr [0] 0 → st'.s 3 = .int .i64 4 → TdAt st'.m [0] true [] true [] zeroT → Q .ret st') →
   loopW S [] dc13l0 Q st g := by
 intro n
 induction n with
 | zero =>
  intro k t tc tb st g hn hk hlc hlb h9 h8 h7 h4 h2 h0 hI hexit hret
  refine wp_loopd dc13l0.eq_1 ?_
  have : ¬ ((k : Int) < l.length) := by omega
  simp only [↓go1, go2, go3, go4, reduceIte, Nat.reduceEqDiff, Nat.reduceAdd, h9, h8, this]
  refine hexit _ t tc tb ?_ h4 h2 h0 (hI.more (by simp only; omega))
  rw [List.drop_of_length_le (by omega)]
  cases decide (k = 0) <;> rfl
 | succ n ih =>
  intro k t tc tb st g hn hk hlc hlb h9 h8 h7 h4 h2 h0 hI hexit hret
  refine wp_loopd dc13l0.eq_1 ?_
  have hlt : ((k : Int) < l.length) := by omega
  have hk0 : (0 : Int) ≤ (k : Int) := by omega
  have hkl : k < l.length := by omega
  have hx : (l.map D.str)[(k : Int).toNat]? = some (.str l[k]) := by simp [hkl]
  have hw : IntKind.i64.wrap ((k : Int) + 1) = (k : Int) + 1 := IntWalk.i64_in _ ⟨by omega, by omega⟩
  have hdr : l.drop k = l[k] :: l.drop (k + 1) := List.drop_eq_getElem_cons hkl
  have hls := hlen l[k] (List.getElem_mem hkl)
  have hok : okRd st.m t.calls.isEmpty tc t.behind.isEmpty tb t l[k] = true := by
   simp only [okRd, hI.gc, hI.gb, Bool.and_true, Bool.and_eq_true, decide_eq_true_eq]
   exact ⟨⟨hls, by omega⟩, by omega⟩
  simp only [↓go1, gB0, reduceIte, Nat.reduceEqDiff, Nat.reduceAdd, Nat.reduceSub, Nat.reduceLT, Nat.reduceLeDiff, rd_succ, rd_zero, put_rd, fill_nil, h9, h8, h7, h4, h2, h0, hlt, hk0, hx, hw, callK_fn s35]
  refine got_read hI.td hok ?_
  obtain ⟨tc', tb', hI'⟩ := read_inv (f := st.c + 1 + 5 + 2) (k := (k : Int)) (s := l[k]) hI (by omega)
  have hd : decide ((k : Int) = 0) = decide (k = 0) := by simp
  have hl := readP_len t (decide (k = 0)) l[k]
  simp only [rowU_any]
  generalize Upd.app st.m (readU [st.c + 1 + 5 + 2] [2] t.calls.isEmpty tc t.behind.isEmpty tb t (k : Int) l[k]) = m1 at hI' ⊢
  rw [hd] at hI' ⊢
  rw [hdr] at hexit hret
  simp only [goP] at hexit hret
  generalize readP t (decide (k = 0)) l[k] = p at hI' hl hexit hret ⊢
  obtain ⟨t', b⟩ := p
  cases b with
  | false =>
   simp only [Bool.false_eq_true, if_false] at hexit hret
   simp only [↓go1, gB0, reduceIte, Nat.reduceEqDiff, Nat.reduceAdd, Nat.reduceSub, Nat.reduceLT, Nat.reduceLeDiff, rd_succ, rd_zero, put_rd, fill_nil, h9, h8, h7, h4, h2, h0, hw, hI'.z.c0, hI'.z.c1, hI'.z.c2, hI'.z.c3, hI'.z.c4]
   exact hret _ trivial h2 rfl ⟨by simp [put_rd, zeroT], by simp [put_rd, zeroT], by simp [put_rd, zeroT], by simp [put_rd, zeroT], by simp [put_rd, zeroT]⟩
  | true =>
   simp only [if_true] at hexit hret
   simp only [↓go1, gB0, reduceIte, Nat.reduceEqDiff, Nat.reduceAdd, Nat.reduceSub, Nat.reduceLT, Nat.reduceLeDiff, rd_succ, rd_zero, put_rd, fill_nil, h9, h8, h7, h4, h2, h0, hw, hI'.z.c0, hI'.z.c1, hI'.z.c2, hI'.z.c3, hI'.z.c4]
   have hd2 : decide (k + 1 = 0) = false := by simp
   exact ih (k + 1) t' tc' tb' _ _ (by omega) (by omega) (by simp only at hl; omega) (by simp only at hl; omega) rfl h8 h7 h4 h2 h0 (hI'.more (by simp only; omega))
    (fun st' t2 tc2 tb2 e => by rw [hd2] at e; exact hexit st' t2 tc2 tb2 e) (fun st' e => by rw [hd2] at e; exact hret st' e)
theorem res_ct {s : Nat → D} {m : Mem} {k : Option Nat} {a t : Nat} : resOf [.cell k a, .t t] s m = (ldD m k (s a)).map fun d => .tup [d, s t] := by
 simp only [resOf, rvAll, RV.of]
 cases ldD m k (s a) <;> rfl
def parsed (o : Option Td) : D := match o with
 | some t => .tup [tdD t.calls.isEmpty t.behind.isEmpty t, .int .i64 0]
 | none => .tup [tdD true true zeroT, .int .i64 4]
def F13 : List D → Option D
 | [.slice _ _ xs] => match strsOf xs with
  | some l => if l.length ≤ 1000 ∧ ∀ s ∈ l, s.length ≤ 1000000 then some (parsed (parseB l)) else none
  | none => none
 | _ => none
set_option maxHeartbeats 2000000 in
theorem ok13 {P : Program} (hd : Desk P) (h25 : (funS F25).ok P 25) (h67 : (funS Fsplit).ok P 67) (h15 : (funS F15).ok P 15) : (funS F13).ok P 13 := by
 have hS : Summs.ok P (tabL [(35, readQ), (15, funS F15)]) := tabL_cons (ok35 hd h25 h67) (tabL_cons h15 tabL_nil)
 have s35 : tabL [(35, readQ), (15, funS F15)] 35 = some readQ := rfl
 have s15 : tabL [(35, readQ), (15, funS F15)] 15 = some (funS F15) := rfl
 generalize tabL [(35, readQ), (15, funS F15)] = S at hS s35 s15
 refine fun_ok (S := S) hS hd.f13 (fun ds r h => ?_) (fun ds r h => ?_)
 ·unfold F13 at h; split at h
  ·simp
  ·cases h
 ·unfold F13 at h; split at h
  ·rename_i nl t xs
   split at h
   ·rename_i l hl
    obtain rfl := strsOf_some hl
    split at h
    ·rename_i hb
     obtain ⟨hb1, hb2⟩ := hb
     simp only [Option.some.injEq] at h
     subst h
     unfold dc13
     simp only [↓go1, gB0, reduceIte, Nat.reduceEqDiff, Nat.reduceAdd, Nat.reduceSub, Nat.reduceLT, Nat.reduceLeDiff, rd_succ, rd_zero, put_rd, fill_nil]
     refine loop13 (l := l) s35 hb1 hb2 l.length 0 zeroT [] [] _ _ rfl (by omega) (by simp [zeroT]) (by simp [zeroT]) rfl rfl rfl rfl rfl rfl ?_ (fun st t' tc tb e h4 h2 h0 hI => ?_) (fun st e h2 h3 hz => ?_)
     ·refine ⟨⟨rfl, rfl, rfl, rfl, rfl⟩, ⟨rfl, rfl, rfl, rfl, rfl⟩, rfl, rfl, .inl rfl, .inl rfl⟩
     ·have hp := parseP_eq l
      have e' : goP true zeroT l = some t' := by simpa using e
      rw [e'] at hp
      simp only at hp
      rw [← hp]
      obtain ⟨T, Z, _, _, _, _⟩ := hI
      have x20 : ([0] : Id) = [2] ↔ False := by simp
      have f15 : ∀ x y, F15 [.agg [.slice t'.calls.isEmpty x (t'.calls.map dnD), .int .i64 t'.ticks, .int .i64 t'.left, .bool t'.shut, .slice t'.behind.isEmpty y (t'.behind.map .str)]] = some (.int .i64 (checkB t')) := fun x y => by
       simp only [F15, tdOf, dnsOf_map, strsOf_map]
      by_cases hl0 : l.length = 0
      ·have g1 : ((l.length : Int) = 0) = True := eq_true (by omega)
       have g2 : (l.length = 0) = True := eq_true hl0
       simp only [↓go1, gB0, reduceIte, Nat.reduceEqDiff, Nat.reduceAdd, Nat.reduceSub, Nat.reduceLT, Nat.reduceLeDiff, rd_succ, rd_zero, put_rd, fill_nil, h2, h0, h4, callK_fun s15, f15, T.c0, T.c1, T.c2, T.c3, T.c4, Z.c0, Z.c1, Z.c2, Z.c3, Z.c4, res_ct, ldD_agg, x20, g1, g2, true_or, false_or, or_true, or_false]
       exact ⟨rfl, rfl⟩
      ·have g1 : ((l.length : Int) = 0) = False := eq_false (by omega)
       have g2 : (l.length = 0) = False := eq_false hl0
       by_cases hc : checkB t' = 0
       ·have g3 : (checkB t' ≠ 0) = False := eq_false (fun h => h hc)
        have g4 : (checkB t' = 0) = True := eq_true hc
        simp only [↓go1, gB0, reduceIte, Nat.reduceEqDiff, Nat.reduceAdd, Nat.reduceSub, Nat.reduceLT, Nat.reduceLeDiff, rd_succ, rd_zero, put_rd, fill_nil, h2, h0, h4, callK_fun s15, f15, T.c0, T.c1, T.c2, T.c3, T.c4, Z.c0, Z.c1, Z.c2, Z.c3, Z.c4, res_ct, ldD_agg, x20, g1, g2, g3, g4, true_or, false_or, or_true, or_false]
        exact ⟨rfl, rfl⟩
       ·have g3 : (checkB t' ≠ 0) = True := eq_true hc
        have g4 : (checkB t' = 0) = False := eq_false hc
        simp only [↓go1, gB0, reduceIte, Nat.reduceEqDiff, Nat.reduceAdd, Nat.reduceSub, Nat.reduceLT, Nat.reduceLeDiff, rd_succ, rd_zero, put_rd, fill_nil, h2, h0, h4, callK_fun s15, f15, T.c0, T.c1, T.c2, T.c3, T.c4, Z.c0, Z.c1, Z.c2, Z.c3, Z.c4, res_ct, ldD_agg, x20, g1, g2, g3, g4, true_or, false_or, or_true, or_false]
        exact ⟨rfl, rfl⟩
     ·have hp := parseP_eq l
      have e' : goP true zeroT l = none := by simpa using e
      rw [e'] at hp
      simp only at hp
      rw [← hp]
      simp only [↓go1, go2, go3, go4, reduceIte, Nat.reduceEqDiff, Nat.reduceAdd, Nat.zero_le, Nat.sub_zero, Nat.reduceSub, Nat.reduceLT, Nat.reduceLeDiff, Nat.zero_add, rd_succ, rd_zero, Option.bind_some, Option.map_some, Option.isSome_some, res_ct, ldD_agg, h2, h3, hz.c0, hz.c1, hz.c2, hz.c3, hz.c4]
      exact ⟨rfl, rfl⟩
    ·cases h
   ·cases h
  ·cases h
end Go.Vd

namespace Go.Vd
open Go.RowKit
set_option maxRecDepth 10000
structure LInv (m : Mem) (c : Nat) (t : Td) (tc tb : Id) : Prop where
 td : TdAt m [2] t.calls.isEmpty tc t.behind.isEmpty tb t
 z : TdAt m [0] true [] true [] zeroT
 gc : growT m 62 t.calls.isEmpty tc t.calls.isEmpty = true
 gb : growT m 9 t.behind.isEmpty tb t.behind.isEmpty = true
 fc : tc = [] ∨ ∃ j, tc = [j] ∧ 3 ≤ j ∧ j < c
 fb : tb = [] ∨ ∃ j, tb = [j] ∧ 3 ≤ j ∧ j < c
 c3 : 3 ≤ c
theorem LInv.more {m : Mem} {c c' : Nat} {t : Td} {tc tb : Id} (h : LInv m c t tc tb) (hc : c ≤ c') : LInv m c' t tc tb :=
 ⟨h.td, h.z, h.gc, h.gb, h.fc.imp id (fun ⟨j, e, a, hj⟩ => ⟨j, e, a, by omega⟩), h.fb.imp id (fun ⟨j, e, a, hj⟩ => ⟨j, e, a, by omega⟩), by have := h.c3; omega⟩
theorem LInv.call {m : Mem} {c c' a b : Nat} {t : Td} {tc tb : Id} (h : LInv m c t tc tb) (ha : c ≤ a) (hb : a < b) (hc : b < c') (d : Dn) :
  LInv ((Upd.app (m.put [a] 0 [.tok 63]) (growU 62 [b] (.slice t.calls.isEmpty tc (t.calls.map dnD)))).put [2] 0 [.slice false [b] (t.calls.map dnD ++ [dnD d])]) c' { t with calls := t.calls ++ [d] } [b] tb := by
 obtain ⟨⟨c0, c1, c2, c3, c4⟩, Z, gc, gb, fc, fb, hc3⟩ := h
 have n1 : ([2] : Id) ≠ tc := by rcases fc with rfl | ⟨j, rfl, h, _⟩ <;> simp; omega
 have n2 : tb ≠ [2] := by rcases fb with rfl | ⟨j, rfl, h, _⟩ <;> simp; omega
 have n3 : ([0] : Id) ≠ tc := by rcases fc with rfl | ⟨j, rfl, h, _⟩ <;> simp; omega
 have n5 : tb ≠ [a] := by rcases fb with rfl | ⟨j, rfl, h, _⟩ <;> simp; omega
 have n6 : tb ≠ [b] := by rcases fb with rfl | ⟨j, rfl, h, _⟩ <;> simp; omega
 have n7 : t.calls.isEmpty = false → t.behind.isEmpty = false → tb ≠ tc := by
  intro a b e
  have g1 := growT_tok gc a
  have g2 := growT_tok gb b
  rw [← e, g2] at g1; simp at g1
 have m1 : ([2] : Id) ≠ [a] := by simp; omega
 have m2 : ([2] : Id) ≠ [b] := by simp; omega
 have m3 : ([0] : Id) ≠ [a] := by simp; omega
 have m4 : ([0] : Id) ≠ [b] := by simp; omega
 have m5 : ([b] : Id) ≠ [2] := by simp; omega
 have m6 : ([0] : Id) ≠ [2] := by simp
 refine ⟨⟨?_, ?_, ?_, ?_, ?_⟩, Z.congr (fun o => ?_), ?_, ?_, ?_, ?_, by omega⟩
 ·simp only [isEmpty_snoc, put1_rd, and_self, if_true, List.map_append]; rfl
 ·simp [put1_rd, growU_rd, c1]
 ·simp [put1_rd, growU_rd, c2]
 ·simp [put1_rd, growU_rd, c3]
 ·simp [put1_rd, growU_rd, c4]
 ·simp only [put1_rd, growU_rd, m6, m4, m3, n3, false_and, and_false, if_false]
 ·simp only [isEmpty_snoc]; exact growT_new (by simp) (by simp only [put1_rd, growU_rd, m5, false_and, if_false, and_self, if_true])
 ·by_cases hbe : t.behind.isEmpty = true
  ·simp [growT, hbe]
  ·have hbe : t.behind.isEmpty = false := by simpa using hbe
   rw [← gb]; refine growT_congr ?_
   by_cases hce : t.calls.isEmpty = true
   ·simp only [put1_rd, growU_rd, n2, n5, n6, hce, false_and, if_false, Bool.true_eq_false]
   ·have hce : t.calls.isEmpty = false := by simpa using hce
    simp only [put1_rd, growU_rd, n2, n5, n6, n7 hce hbe, false_and, and_false, if_false]
 ·exact .inr ⟨b, rfl, by omega, hc⟩
 ·exact fb.imp id (fun ⟨j, e, x, y⟩ => ⟨j, e, x, by omega⟩)
theorem LInv.said {m : Mem} {c c' a b : Nat} {t : Td} {tc tb : Id} (h : LInv m c t tc tb) (ha : c ≤ a) (hb : a < b) (hc : b < c') (d : Bs) :
  LInv ((Upd.app (m.put [a] 0 [.tok 10]) (growU 9 [b] (.slice t.behind.isEmpty tb (t.behind.map .str)))).put [2] 4 [.slice false [b] (t.behind.map .str ++ [.str d])]) c' { t with behind := t.behind ++ [d] } tc [b] := by
 obtain ⟨⟨c0, c1, c2, c3, c4⟩, Z, gc, gb, fc, fb, hc3⟩ := h
 have n1 : ([2] : Id) ≠ tb := by rcases fb with rfl | ⟨j, rfl, h, _⟩ <;> simp; omega
 have n2 : tc ≠ [2] := by rcases fc with rfl | ⟨j, rfl, h, _⟩ <;> simp; omega
 have n3 : ([0] : Id) ≠ tb := by rcases fb with rfl | ⟨j, rfl, h, _⟩ <;> simp; omega
 have n5 : tc ≠ [a] := by rcases fc with rfl | ⟨j, rfl, h, _⟩ <;> simp; omega
 have n6 : tc ≠ [b] := by rcases fc with rfl | ⟨j, rfl, h, _⟩ <;> simp; omega
 have n7 : t.calls.isEmpty = false → t.behind.isEmpty = false → tc ≠ tb := by
  intro a b e
  have g1 := growT_tok gc a
  have g2 := growT_tok gb b
  rw [e, g2] at g1; simp at g1
 have m1 : ([2] : Id) ≠ [a] := by simp; omega
 have m2 : ([2] : Id) ≠ [b] := by simp; omega
 have m3 : ([0] : Id) ≠ [a] := by simp; omega
 have m4 : ([0] : Id) ≠ [b] := by simp; omega
 have m5 : ([b] : Id) ≠ [2] := by simp; omega
 have m6 : ([0] : Id) ≠ [2] := by simp
 refine ⟨⟨?_, ?_, ?_, ?_, ?_⟩, Z.congr (fun o => ?_), ?_, ?_, ?_, ?_, by omega⟩
 ·simp [put1_rd, growU_rd, c0, m1, m2, n1]
 ·simp [put1_rd, growU_rd, c1]
 ·simp [put1_rd, growU_rd, c2]
 ·simp [put1_rd, growU_rd, c3]
 ·simp only [isEmpty_snoc, put1_rd, and_self, if_true, List.map_append]; rfl
 ·simp only [put1_rd, growU_rd, m6, m4, m3, n3, false_and, and_false, if_false]
 ·by_cases hce : t.calls.isEmpty = true
  ·simp [growT, hce]
  ·have hce : t.calls.isEmpty = false := by simpa using hce
   rw [← gc]; refine growT_congr ?_
   by_cases hbe : t.behind.isEmpty = true
   ·simp only [put1_rd, growU_rd, n2, n5, n6, hbe, false_and, if_false, Bool.true_eq_false]
   ·have hbe : t.behind.isEmpty = false := by simpa using hbe
    simp only [put1_rd, growU_rd, n2, n5, n6, n7 hce hbe, false_and, and_false, if_false]
 ·simp only [isEmpty_snoc]; exact growT_new (by simp) (by simp only [put1_rd, growU_rd, m5, false_and, if_false, and_self, if_true])
 ·exact fc.imp id (fun ⟨j, e, x, y⟩ => ⟨j, e, x, by omega⟩)
 ·exact .inr ⟨b, rfl, by omega, hc⟩
end Go.Vd

namespace Go.Vd
open Go.RowKit
set_option maxRecDepth 10000
theorem over_le {t : Td} (h : overB t = false) : t.calls.length ≤ 70 ∧ t.behind.length ≤ 70 := by
 simp only [overB, Bool.or_eq_false_iff, decide_eq_false_iff_not] at h
 omega
theorem many_le {l : List Bs} (h : manyB l = false) : l.length ≤ 1000 ∧ ∀ s ∈ l, s.length ≤ 1000000 := by
 simp only [manyB, Bool.or_eq_false_iff, decide_eq_false_iff_not, List.any_eq_false] at h
 refine ⟨by omega, fun s hs => ?_⟩
 have := h.2 s hs
 simp at this; omega
theorem tdOf_mk {nc nb : Bool} {x y : Id} {t : Td} : tdOf (.agg [.slice nc x (t.calls.map dnD), .int .i64 t.ticks, .int .i64 t.left, .bool t.shut, .slice nb y (t.behind.map .str)]) = some (nc, nb, t) := by
 simp only [tdOf, dnsOf_map, strsOf_map]
end Go.Vd
