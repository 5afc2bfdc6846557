/-
  A part of the proof: the program at hand. Nothing in it is assumed.
-/
import Derived.Test.YtfocnoaoekkloaaGreatDoorRefusesP5
import Derived.Test.YtfocnoaoekkloaaGreatDoorProg
import Derived.Laws.CopyOwn
import Derived.Laws.MakeOwn
import Derived.WalkKit
import Derived.Lib.AppendZeros
import Derived.Deep.Slices
import Derived.Deep.Fields
import Derived.ChangeSame
import Derived.ChangeArms

set_option linter.unusedSimpArgs false
set_option linter.unusedVariables false
set_option linter.defProp false
set_option maxHeartbeats 4000000
set_option maxRecDepth 100000
namespace Go.Vd
open Go.Proofs Go.RowKit
def rowB (s : Bs) : Bs := beB 2 s.length ++ s
def mtB (m : Mt) : Bs := rowB m.1 ++ [UInt8.ofNat (m.2.1 % 256).toNat, if m.2.2 then 1 else 0]
def Cq (l : List Mt) : Bs := l.flatMap mtB
theorem rowB_len (s : Bs) : (rowB s).length = 2 + s.length := by simp [rowB, beB_len]
theorem mtB_len (m : Mt) : (mtB m).length = 4 + m.1.length := by simp [mtB, rowB_len]; omega
theorem tabB_take {l : List Mt} {j : Nat} (h : j < l.length) : Cq (l.take (j + 1)) = Cq (l.take j) ++ mtB (AQ l j) := by
 have e : AQ l j = l[j] := by simp [AQ, List.getElem?_eq_getElem h]
 rw [e, Cq, Cq, ← List.take_append_getElem h, List.flatMap_append]
 simp
theorem mtAt_mem {l : List Mt} {j : Nat} (h : j < l.length) : AQ l j ∈ l := by simp [AQ, List.getElem?_eq_getElem h]
theorem lenR_eq {l : List Mt} : ∀ (f j a : Nat), l.length = j + f → lenR l f j a = a + (Cq (l.drop j)).length
 | 0, j, a, h => by
  rw [List.drop_eq_nil_of_le (by omega)]; rfl
 | f + 1, j, a, h => by
  have hj : j < l.length := by omega
  unfold lenR
  rw [lenR_eq f (j + 1) _ (by omega), List.drop_eq_getElem_cons hj]
  have e : AQ l j = l[j] := by simp [AQ, List.getElem?_eq_getElem hj]
  rw [e]
  simp only [Cq, List.flatMap_cons, List.length_append, mtB_len]
  omega
theorem lenM_eq (l : List Mt) : lenM l = (Cq l).length := by
 unfold lenM
 rw [lenR_eq l.length 0 0 (by omega), Nat.zero_add, List.drop_zero]
theorem tabB_le {l : List Mt} (h : MsOk l) : ∀ j, j ≤ l.length → (Cq (l.take j)).length ≤ 1004 * j
 | 0, _ => by simp [Cq]
 | j + 1, hj => by
  have h1 := tabB_le h j (by omega)
  have h2 := h.2 _ (mtAt_mem (show j < l.length by omega))
  rw [tabB_take (by omega), List.length_append, mtB_len]
  omega
theorem set_end (a : Bs) (x y z : UInt8) : (a ++ [x, y]).set ((a ++ [x, y]).length - 1) z = a ++ [x, z] := by
 rw [List.length_append, List.set_append_right _ _ (by simp)]
 congr 1
 have : a.length + [x, y].length - 1 - a.length = 1 := by simp
 rw [this]; rfl
end Go.Vd
namespace Go.Vd
open Go.Proofs
def dc126l0 : DC := (sr [bt 11 .lss 10 9] (.seq (cd 11 .skip (.exit 0)) (.seq (.block 1 (sr [ii 12 3 8 10, lk 13 3 12, oo 5 (.alloc [(.str []), (.int .i64 0), (.bool false)]), oz (.store 3 (.t 5) (.t 13))] (sr [mm 15 3, ff 16 0 5, ll 17 16, cc 18 231 [(.t 15), (.t 17)], mm 14 18, xx 19 0 14, xx 20 1 14, mm 3 19] (sr [oo 6 (.mv (.c (.int .u8 0)))] (.seq (sr [ff 21 1 5, ff 22 1 21, ll 23 22] (cd 23 (.row [oo 6 (.mv (.c (.int .u8 1)))]) .skip)) (.row [mm 24 3, ff 25 1 5, ff 26 0 25, ll 27 26, oo 28 (.conv .u8 (.t 27)), mm 29 6, oo 30 (.bslice 5 1 [(.t 28), (.t 29)]), oo 31 (.app 5 1 1 (.t 24) (.t 30)), mm 3 31])))))) (.row [bi 32 .add 10 1, mm 10 32]))))
def dc126 : DC := (sr [oo 1 (.box (.t 0)), oo 2 (.mv (.c (.str [])))] (sr [oo 3 (.mv (.c (.slice true [] [])))] (.seq (sr [ff 7 0 1, ll 8 7, nn 9 false 8, ci 10 0] (.block 0 (.loop dc126l0))) (sr [mm 33 3, oo 34 (.b2s (.t 33)), mm 2 34] .ret))))
theorem fn126 : Fn Tryz.prog 126 35 dc126 [.t 2] := Ao Tryz.func126
def dc147l0 : DC := (.seq (sr [mm 5 4, mm 6 0, nn 7 false 6, bt 8 .lss 5 7] (cd 8 .skip (.exit 0))) (.seq (.block 1 (sr [mm 12 3, mm 13 0, mm 14 4, ii 15 3 13 14, ff 16 0 15, ll 17 16, cc 18 254 [(.t 12), (.t 17)], mm 11 18, xx 19 0 11, xx 20 1 11, mm 3 19] (sr [mm 21 3, mm 22 0, mm 23 4, ii 24 3 22 23, ff 25 1 24, ff 26 0 25, ll 27 26, oo 28 (.conv .u8 (.t 27)), oo 29 (.bslice 5 1 [(.t 28), (.c (.int .u8 0))]), oo 30 (.app 5 1 1 (.t 21) (.t 29)), mm 3 30] (sr [mm 31 0, mm 32 4, ii 33 3 31 32, ff 34 1 33, ff 35 1 34, ll 36 35] (cd 36 (.row [mm 37 3, mm 38 3, nn 39 false 38, bi 40 .sub 39 1, ii 41 1 37 40, oz (.store 1 (.t 41) (.c (.int .u8 1)))]) .skip))))) (.row [mm 9 4, bi 10 .add 9 1, mm 4 10])))
def dc147 : DC := (sr [oo 2 (.mv (.c (.str [])))] (sr [oo 3 (.mv (.c (.slice true [] [])))] (.seq (sr [ci 4 0] (.block 0 (.loop dc147l0))) (sr [mm 42 3, oo 43 (.b2s (.t 42)), mm 2 43] .ret))))
theorem fn147 : Fn Tryz.prog 147 44 dc147 [.t 2] := Ao Tryz.func147
def dc231 : DC := (sr [oo 4 (.mv (.c (.slice true [] []))), ci 5 0] (.seq (sr [mm 7 1, nn 8 true 7, bi 9 .gtr 8 65535] (cd 9 (sr [oo 4 (.mv (.c (.slice true [] []))), ci 5 5] .ret) .skip)) (sr [mm 10 0, mm 11 1, nn 12 true 11, oo 13 (.bin .add (.c (.int .i64 2)) (.t 12)), cc 14 327 [(.t 10), (.t 13)], mm 15 1, nn 16 true 15, oo 17 (.conv .u64 (.t 16)), cc 18 326 [(.t 14), (.c (.int .i64 2)), (.t 17)], mm 6 18] (sr [mm 19 6, mm 20 1, oo 21 (.app 5 1 1 (.t 19) (.t 20)), mm 4 21, ci 5 0] .ret))))
theorem fn231 : Fn Tryz.prog 231 22 dc231 [.t 4, .t 5] := Ao Tryz.func231
def dc254 : DC := (sr [oo 4 (.mv (.c (.slice true [] []))), ci 5 0] (.seq (sr [mm 6 1, nn 7 true 6, bi 8 .gtr 7 65535] (cd 8 (sr [oo 4 (.mv (.c (.slice true [] []))), ci 5 5] .ret) .skip)) (sr [mm 9 0, mm 10 1, nn 11 true 10, oo 12 (.conv .u64 (.t 11)), cc 13 342 [(.t 9), (.c (.int .i64 2)), (.t 12)], mm 14 1, oo 15 (.app 5 1 1 (.t 13) (.t 14)), mm 4 15, ci 5 0] .ret)))
theorem fn254 : Fn Tryz.prog 254 16 dc254 [.t 4, .t 5] := Ao Tryz.func254
def dc326l0 : DC := (.seq (sr [mm 11 7, bi 12 .geq 11 0] (cd 12 .skip (.exit 0))) (.seq (.block 1 (.row [mm 15 0, mm 16 2, mm 17 7, bt 18 .shr 16 17, oo 19 (.conv .u8 (.t 18)), oo 20 (.bslice 5 1 [(.t 19)]), oo 21 (.app 5 1 1 (.t 15) (.t 20)), mm 0 21])) (.row [mm 13 7, bi 14 .sub 13 8, mm 7 14])))
def dc326 : DC := (sr [oo 6 (.mv (.c (.slice true [] [])))] (.seq (sr [mm 8 1, bi 9 .sub 8 1, oo 10 (.bin .mul (.c (.int .i64 8)) (.t 9)), mm 7 10] (.block 0 (.loop dc326l0))) (sr [mm 22 0, mm 6 22] .ret)))
theorem fn326 : Fn Tryz.prog 326 23 dc326 [.t 6] := Ao Tryz.func326
def dc342l0 : DC := (.seq (sr [mm 28 10, mm 29 8, bt 30 .lss 28 29] (cd 30 .skip (.exit 2))) (.seq (.block 3 (.row [mm 33 9, oo 34 (.bin .quo (.t 33) (.c (.int .u64 256))), mm 9 34])) (.row [mm 31 10, bi 32 .add 31 1, mm 10 32])))
def dc342l1 : DC := (.seq (sr [mm 23 8, bi 24 .geq 23 0] (cd 24 .skip (.exit 0))) (.seq (.block 1 (sr [mm 27 2, mm 9 27] (.seq (sr [ci 10 0] (.block 2 (.loop dc342l0))) (.row [mm 35 7, mm 36 9, oo 37 (.bin .rem (.t 36) (.c (.int .u64 256))), oo 38 (.conv .u8 (.t 37)), oo 39 (.bslice 5 1 [(.t 38)]), oo 40 (.app 5 1 1 (.t 35) (.t 39)), mm 7 40])))) (.row [mm 25 8, bi 26 .sub 25 1, mm 8 26])))
def dc342 : DC := (sr [oo 6 (.mv (.c (.slice true [] [])))] (sr [oo 11 (.bslice 5 1 []), mm 12 0, oo 13 (.app 5 1 1 (.t 11) (.t 12)), mm 7 13] (.seq (sr [mm 14 1, bi 15 .lss 14 1, mm 16 15, og 17 (.mv (.t 1)) 2 false, og 18 (.bin .gtr (.t 17) (.c (.int .i64 8))) 2 false, oo 19 (.pick (.t 16) (.c (.bool true)) (.t 18))] (cd 19 (sr [mm 20 7, mm 6 20] .ret) .skip)) (.seq (sr [mm 21 1, bi 22 .sub 21 1, mm 8 22] (.block 0 (.loop dc342l1))) (sr [mm 41 7, mm 6 41] .ret)))))
theorem fn342 : Fn Tryz.prog 342 42 dc342 [.t 6] := Ao Tryz.func342
end Go.Vd
namespace Go.Vd
open Go.Proofs Go.RowKit
def F326 : List D → Option (List D × List Nat)
 | [.int .i64 s, .int .u64 n] => if 1 ≤ s ∧ s ≤ 8 ∧ 0 ≤ n then some (Ay (beB s.toNat n), [13 * s.toNat]) else none
 | _ => none
set_option maxHeartbeats 1000000 in
theorem loop326 {S : Summs} {fr : Id} {m0 : Mem} {nl0 : Bool} {t0 : Id} {emp : Bool} {n : Int} {sz : Nat} {Q : Ex → St → Prop} (hsz : sz ≤ 8) (hn0 : 0 ≤ n) (hfr : ∀ i o, fr <:+ i → m0 i o = none) (hg0 : CI m0 5 nl0 t0 emp = true) :
  ∀ (k : Nat) (st : St) (nl : Bool) (t : Id) (xs : List D) g, k ≤ sz → xs.length + k ≤ 200000000 → (nl = true → xs = []) → st.c = 5 + 13 * (sz - k) → Gs 5 fr m0 nl0 t0 st.m st.c nl t →
   st.s 7 = .int .i64 (8 * (k : Int) - 8) → st.s 0 = .slice nl t xs → st.s 2 = .int .u64 n →
   (∀ st' nl' t', st'.s 0 = .slice nl' t' (xs ++ Ay (beB k n)) → (k = 0 → nl' = nl ∧ t' = t ∧ st'.m = st.m ∧ st.c ≤ st'.c) → (0 < k → nl' = false ∧ t' = [13 * sz] ++ fr ∧ Gd 5 fr m0 nl0 t0 st'.m st'.c t') → Q (.exit 0) st') → AV S fr dc326l0 Q st g := by
 intro k
 induction k with
 | zero =>
  intro st nl t xs g _ _ _ _ hG h7 h0 h2 hexit
  refine Ad dc326l0.eq_1 ?_
  have hn : ((0 : Int) ≤ 8 * ((0 : Nat) : Int) - 8) = False := eq_false (by decide)
  simp only [↓go1, go2, go4, reduceIte, Nat.reduceEqDiff, Nat.reduceAdd, h7, hn]
  exact hexit _ nl t (by simp only [↓go1, reduceIte, Nat.reduceEqDiff, h0, beB, Ay, List.map_nil, List.append_nil]) (fun _ => ⟨rfl, rfl, rfl, by simp only; omega⟩) (fun h => absurd h (by omega))
 | succ k ih =>
  intro st nl t xs g hk hlen hnil hc hG h7 h0 h2 hexit
  refine Ad dc326l0.eq_1 ?_
  have hn : ((0 : Int) ≤ 8 * ((k + 1 : Nat) : Int) - 8) = True := eq_true (by omega)
  have hb : ((0 : Int) ≤ 8 * ((k + 1 : Nat) : Int) - 8) := by omega
  have hmin : min (8 * ((k + 1 : Nat) : Int) - 8).toNat IntKind.u64.bits = 8 * k := by
   have : IntKind.u64.bits = 64 := rfl
   omega
  have hw : IntKind.i64.wrap (8 * ((k + 1 : Nat) : Int) - 8 - 8) = 8 * (k : Int) - 8 := by rw [IntWalk.i64_in _ ⟨by omega, by omega⟩]; omega
  simp only [↓go1, go2, go3, go4, reduceIte, Nat.reduceEqDiff, Nat.reduceAdd, List.length_cons, List.length_nil, h7, h0, h2, hn, hmin, u8_wrap, and_false, reduceCtorEq]
  refine AA.intro ⟨by omega, rfl, Gs.grow (hG.put (l := []) (k := st.c + 2 + 5) (by omega)) hfr hg0⟩ ?_
  rw [C3 hnil]
  simp only [↓go1, go2, go3, go4, reduceIte, Nat.reduceEqDiff, Nat.reduceAdd, h7, hw]
  have hd : Gd 5 fr m0 nl0 t0 (Upd.app (st.m.put ((st.c + 2 + 5) :: fr) 0 [D.tok 6]) (BL 5 ((st.c + 2 + 6) :: fr) (.slice nl t xs))) (st.c + 2 + 8 + 3) ((st.c + 2 + 6) :: fr) :=
   Gs.app (l := []) (hG.put (l := []) (k := st.c + 2 + 5) (by omega)) (by omega) (by omega)
  refine ih _ false ((st.c + 2 + 6) :: fr) (xs ++ [.int .u8 ((((n.fdiv (2 ^ (8 * k))) % 256).toNat : Nat) : Int)]) _ (by omega) (by simp; omega) (by simp) (by simp only; omega) hd.gs rfl rfl h2 (fun st' nl' t' e1 e2 e3 => ?_)
  refine hexit st' nl' t' ?_ (fun h => absurd h (by omega)) (fun _ => ?_)
  ·rw [e1, List.append_assoc]; simp only [beB, Ay, List.map_cons]; rw [CW (by omega)]; rfl
  ·by_cases hk0 : k = 0
   ·obtain ⟨a, b, c, d⟩ := e2 hk0
    refine ⟨a, ?_, ?_⟩
    ·rw [b]; simp only [List.cons_append, List.nil_append, List.cons.injEq, and_true]; omega
    ·rw [b, c]; exact hd.more d
   ·exact e3 (by omega)
theorem ok326 : (gQ 5 F326).ok Tryz.prog 326 := by
 refine opn_ok2 (S := fun _ => none) Au fn326 gQ_loc (fun ds m fr d u h hfr => ?_)
 obtain ⟨nl, t, xs, rest, ys, l, rfl, hg, hx, hF, rfl, rfl⟩ := gQ_inv h
 unfold F326 at hF
 split at hF
 ·rename_i s n
  split at hF
  ·rename_i hc
   obtain ⟨hc1, hc2, hc3⟩ := hc
   simp only [Option.some.injEq, Prod.mk.injEq] at hF
   obtain ⟨rfl, rfl⟩ := hF
   refine ⟨by simp, ?_⟩
   clear h
   have hs : ((s.toNat : Nat) : Int) = s := Int.toNat_of_nonneg (by omega)
   have w1 : IntKind.i64.wrap (s - 1) = s - 1 := IntWalk.i64_in _ ⟨by omega, by omega⟩
   have w2 : IntKind.i64.wrap (8 * (s - 1)) = 8 * (s.toNat : Int) - 8 := by rw [IntWalk.i64_in _ ⟨by omega, by omega⟩]; omega
   unfold dc326
   simp only [↓go1, go2, reduceIte, Nat.reduceEqDiff, Nat.reduceAdd, w1, w2]
   refine loop326 (sz := s.toNat) (by omega) hc3 hfr hg s.toNat _ nl t xs _ (by omega) (by omega) (fun h => ?_) (by simp only; omega) Gs.start rfl rfl rfl (fun st nl' t' e1 _ e3 => ?_)
   ·subst h; unfold CI at hg; rw [if_pos rfl, List.isEmpty_iff] at hg; exact hg
   ·obtain ⟨rfl, rfl, hd⟩ := e3 (by omega)
    simp only [↓go1, go2, go4, reduceIte, Nat.reduceEqDiff, Nat.reduceAdd, e1]
    exact hd.fin hfr hg
  ·cases hF
 ·cases hF
def F231 : List D → Option (List D × List Nat)
 | [.str s] => if s.length ≤ 65535 then some (Ay (beB 2 s.length ++ s), [17]) else none
 | _ => none
set_option maxHeartbeats 1000000 in
theorem ok231 (h327 : grownQ.ok Tryz.prog 327) : (cQ 5 rowW F231).ok Tryz.prog 231 := by
 have hS : Summs.ok Tryz.prog (Dr [(327, grownQ), (326, gQ 5 F326)]) := Ab h327 (Ab (ok326) Ae)
 have s327 : Dr [(327, grownQ), (326, gQ 5 F326)] 327 = some grownQ := rfl
 have s326 : Dr [(327, grownQ), (326, gQ 5 F326)] 326 = some (gQ 5 F326) := rfl
 generalize Dr [(327, grownQ), (326, gQ 5 F326)] = S at hS s327 s326
 refine opn_ok2 (S := S) hS fn231 (fun ds m m' fr _ => rfl) (fun ds m fr d u h hfr => ?_)
 obtain ⟨nl, t, xs, rest, ys, l, rfl, ha, hx, hF, rfl, rfl⟩ := cQ_inv h
 unfold F231 at hF
 split at hF
 ·rename_i s
  split at hF
  ·rename_i hc
   simp only [Option.some.injEq, Prod.mk.injEq] at hF
   obtain ⟨rfl, rfl⟩ := hF
   refine ⟨by simp, ?_⟩
   clear h
   have g1 : ((65535 : Int) < (s.length : Int)) = False := eq_false (by omega)
   have w1 : IntKind.i64.wrap (2 + (s.length : Int)) = 2 + (s.length : Int) := IntWalk.i64_in _ ⟨by omega, by omega⟩
   have w2 : IntKind.u64.wrap (s.length : Int) = (s.length : Int) := u64_small (by omega) (by omega)
   have f326 : F326 [.int .i64 2, .int .u64 (s.length : Int)] = some (Ay (beB 2 s.length), [26]) := by
    show (if (1 : Int) ≤ 2 ∧ (2 : Int) ≤ 8 ∧ 0 ≤ (s.length : Int) then some (Ay (beB (2 : Int).toNat (s.length : Int)), [13 * (2 : Int).toNat]) else none) = _
    rw [if_pos ⟨by omega, by omega, by omega⟩]; rfl
   have g327 : ∀ m fr, grownQ.ex [.slice nl t xs, .int .i64 (2 + (s.length : Int))] m fr = some (.slice false (0 :: fr) xs, [(0 :: fr, 0, [.tok 6])]) := fun m fr => grown_ex (by omega) ha (by omega)
   unfold dc231
   simp only [↓go1, go2, go4, reduceIte, Nat.reduceEqDiff, Nat.reduceAdd, AK s327, AK s326, g327, g1, w1, w2, reduceCtorEq]
   have hd : Gd 5 fr m true [] (m.put ([0] ++ 9 :: fr) 0 [.tok 6]) 10 ([0] ++ 9 :: fr) :=
    ⟨⟨[0], 9, rfl, by omega⟩, by rw [Bd, if_pos ⟨rfl, rfl⟩], fun i o hi => out_put i o hi⟩
   refine got_g (.inr ⟨hd.tok, by simp⟩) (by simp) hx f326 ?_
   have hd2 : Gd 5 fr m true [] (Upd.app (m.put (0 :: 9 :: fr) 0 [.tok 6]) (BL 5 ([26] ++ 13 :: fr) (.slice false (0 :: 9 :: fr) xs))) 14 ([26] ++ 13 :: fr) :=
    Gs.app (l := [26]) (k := 13) hd.gs (by omega) (by omega)
   simp only [↓go1, go2, reduceIte, Nat.reduceEqDiff, Nat.reduceAdd, false_and, Bo]
   refine AA.intro ⟨by simp only [List.length_append, Bo, beB_len]; omega, ?_, .inr ⟨hd2.tok, by simp⟩⟩ ?_
   ·cases s <;> rfl
   simp only [↓go1, go2, reduceIte, Nat.reduceEqDiff, Nat.reduceAdd]
   refine ⟨by rw [Ca, List.append_assoc]; rfl, ?_⟩
   exact (Gs.app (c' := 18) (l := []) (k := 17) hd2.gs (by omega) (by omega)).finc hfr
  ·cases hF
 ·cases hF
theorem loop342a {S : Summs} {fr : Id} {n : Int} (h : 0 ≤ n) (h' : n < 18446744073709551616) {i : Nat} (hi : i ≤ 8) {X Y : D} {M : Mem} {cs : Nat} {Q : Ex → St → Prop}
  (hexit : ∀ st, st.s 9 = .int .u64 (n.fdiv (2 ^ (8 * i))) → st.s 8 = .int .i64 (i : Int) → st.s 7 = X → st.s 2 = Y → st.m = M → st.c = cs + 9 * i + 3 → Q (.exit 2) st) :
  ∀ (r j : Nat) st g, r = i - j → j ≤ i → st.s 10 = .int .i64 (j : Int) → st.s 9 = .int .u64 (n.fdiv (2 ^ (8 * j))) → st.s 8 = .int .i64 (i : Int) → st.s 7 = X → st.s 2 = Y → st.m = M → st.c = cs + 9 * j → AV S fr dc342l0 Q st g := by
 intro r
 induction r with
 | zero =>
  intro j st g hr hj h10 h9 h8 h7 h2 hm hc
  refine Ad dc342l0.eq_1 ?_
  have hlt : ((j : Int) < (i : Int)) = False := eq_false (by omega)
  obtain rfl : j = i := by omega
  simp only [↓go1, go2, go4, reduceIte, Nat.reduceEqDiff, Nat.reduceAdd, h10, h8, hlt]
  exact hexit _ h9 h8 h7 h2 hm (by simp only; omega)
 | succ r ih =>
  intro j st g hr hj h10 h9 h8 h7 h2 hm hc
  refine Ad dc342l0.eq_1 ?_
  have hlt : ((j : Int) < (i : Int)) = True := eq_true (by omega)
  have hw : IntKind.i64.wrap ((j : Int) + 1) = ((j + 1 : Nat) : Int) := by rw [IntWalk.i64_in _ ⟨by omega, by omega⟩]; omega
  have h256 : ((256 : Int) = 0) = False := eq_false (by decide)
  simp only [↓go1, go2, go4, reduceIte, Nat.reduceEqDiff, Nat.reduceAdd, h10, h9, h8, hlt, hw, byte_step h h', ne_eq, h256]
  exact ih (j + 1) _ _ (by omega) (by omega) rfl rfl h8 h7 h2 hm (by simp only; omega)
set_option maxHeartbeats 1000000 in
theorem loop342b {S : Summs} {fr : Id} {m0 : Mem} {n : Int} (h : 0 ≤ n) (h' : n < 18446744073709551616) {T : Nat} {Q : Ex → St → Prop} :
  ∀ (k : Nat) st (t : Id) (xs : List D) g, k ≤ 8 → xs.length + k ≤ 200000000 → st.c + roundW k = T → st.s 8 = .int .i64 ((k : Int) - 1) → st.s 7 = .slice false t xs → st.s 2 = .int .u64 n → Gd 5 fr m0 true [] st.m st.c t →
   (∀ st' t', st'.s 7 = .slice false t' (xs ++ Ay (beB k n)) → (k = 0 → t' = t ∧ st'.m = st.m ∧ st.c ≤ st'.c) → (0 < k → t' = [T - 5] ++ fr ∧ Gd 5 fr m0 true [] st'.m st'.c t') → Q (.exit 0) st') → AV S fr dc342l1 Q st g := by
 intro k
 induction k with
 | zero =>
  intro st t xs g _ _ hT h8 h7 h2 hG hexit
  refine Ad dc342l1.eq_1 ?_
  have hn : ((0 : Int) ≤ ((0 : Nat) : Int) - 1) = False := eq_false (by decide)
  simp only [↓go1, go2, go4, reduceIte, Nat.reduceEqDiff, Nat.reduceAdd, h8, hn]
  exact hexit _ t (by simp only [↓go1, reduceIte, Nat.reduceEqDiff, h7, beB, Ay, List.map_nil, List.append_nil]) (fun _ => ⟨rfl, rfl, by simp only; omega⟩) (fun h => absurd h (by omega))
 | succ k ih =>
  intro st t xs g hk hlen hT h8 h7 h2 hG hexit
  simp only [roundW] at hT
  refine Ad dc342l1.eq_1 ?_
  have hw : IntKind.i64.wrap ((k : Int) - 1) = (k : Int) - 1 := IntWalk.i64_in _ ⟨by omega, by omega⟩
  have h8' : st.s 8 = .int .i64 (k : Int) := by rw [h8]; congr 1; omega
  have hn' : ((0 : Int) ≤ (k : Int)) = True := eq_true (by omega)
  have h256 : ((256 : Int) = 0) = False := eq_false (by decide)
  simp only [↓go1, go2, go4, reduceIte, Nat.reduceEqDiff, Nat.reduceAdd, h8', hn', h2]
  refine loop342a h h' (i := k) (by omega) (X := .slice false t xs) (Y := .int .u64 n) (M := st.m) (cs := st.c + 5) (fun st' a9 a8 a7 a2 am ac => ?_) k 0 _ _ rfl (by omega) rfl ?_ h8' h7 h2 rfl (by first | omega | rfl | (simp only; done))
  ·have hd0 : Gd 5 fr m0 true [] (st.m.put ((st'.c + 4) :: fr) 0 [.tok 6]) st.c t := hG.put (l := []) (by omega)
   have hne : t ≠ [] := by
    obtain ⟨a, b, e, _⟩ := hG.name
    rw [e]; simp
   simp only [↓go1, gB1, reduceIte, Nat.reduceEqDiff, Nat.reduceAdd, and_self, reduceCtorEq, a9, a8, a7, ne_eq, h256, u8_wrap, byte_last h]
   rw [am]
   refine AA.intro ⟨by omega, rfl, .inr ⟨hd0.tok, hne⟩⟩ ?_
   simp only [↓go1, go2, go3, go4, reduceIte, Nat.reduceEqDiff, Nat.reduceAdd, a8, hw]
   have hd : Gd 5 fr m0 true [] (Upd.app (st.m.put ((st'.c + 4) :: fr) 0 [.tok 6]) (BL 5 ((st'.c + 5) :: fr) (.slice false t xs))) (st'.c + 7 + 3) ((st'.c + 5) :: fr) :=
    Gs.app (l := []) hd0.gs (by omega) (by omega)
   refine ih _ ((st'.c + 5) :: fr) (xs ++ [.int .u8 ((((n.fdiv (2 ^ (8 * k))) % 256).toNat : Nat) : Int)]) _ (by omega) (by simp; omega) (by simp only; omega) rfl rfl a2 hd (fun st'' t'' e e2 e3 => ?_)
   refine hexit st'' t'' ?_ (fun h => absurd h (by omega)) (fun _ => ?_)
   ·rw [e, List.append_assoc]
    simp only [beB, Ay, List.map_cons]
    rw [CW (by omega)]; rfl
   ·by_cases hk0 : k = 0
    ·obtain ⟨b, c, d⟩ := e2 hk0
     subst hk0
     simp only [roundW] at hT
     refine ⟨?_, ?_⟩
     ·rw [b]; simp only [List.cons_append, List.nil_append, List.cons.injEq, and_true]; omega
     ·rw [b, c]; exact hd.more d
    ·exact e3 (by omega)
  ·simp only [↓go1, reduceIte, Nat.reduceEqDiff, Nat.mul_zero, Int.pow_zero]
   rw [show n.fdiv 1 = n from Int.fdiv_one n]
def F342 : List D → Option (List D × List Nat)
 | [.int .i64 s, .int .u64 n] => if 1 ≤ s ∧ s ≤ 8 ∧ 0 ≤ n ∧ n < 18446744073709551616 then some (Ay (beB s.toNat n), [9 + roundW s.toNat]) else none
 | _ => none
set_option maxHeartbeats 1000000 in
theorem ok342 : (cQ 5 id F342).ok Tryz.prog 342 := by
 refine opn_ok2 (S := fun _ => none) Au fn342 (fun ds m m' fr _ => rfl) (fun ds m fr d u h hfr => ?_)
 obtain ⟨nl, t, xs, rest, ys, l, rfl, ha, hx, hF, rfl, rfl⟩ := cQ_inv h
 unfold F342 at hF
 split at hF
 ·rename_i s n
  split at hF
  ·rename_i hc
   obtain ⟨hs1, hs2, hn1, hn2⟩ := hc
   simp only [Option.some.injEq, Prod.mk.injEq] at hF
   obtain ⟨rfl, rfl⟩ := hF
   refine ⟨by simp, ?_⟩
   clear h
   have hs : ((s.toNat : Nat) : Int) = s := Int.toNat_of_nonneg (by omega)
   have w1 : IntKind.i64.wrap (s - 1) = ((s.toNat : Nat) : Int) - 1 := by rw [IntWalk.i64_in _ ⟨by omega, by omega⟩]; omega
   have g1 : (s < (1 : Int)) = False := eq_false (by omega)
   have g2 : ((8 : Int) < s) = False := eq_false (by omega)
   have hh : D.headSz xs 1 = 1 := by
    cases xs with
    | nil => rfl
    | cons a b =>
     simp only [List.all_cons, Bool.and_eq_true] at ha
     cases a <;> simp [DP] at ha
     rfl
   unfold dc342
   simp only [↓go1, go2, go4, reduceIte, Nat.reduceEqDiff, Nat.reduceAdd, List.length_nil, Nat.zero_add, false_and, reduceCtorEq]
   refine AA.intro ⟨by omega, hh, .inr ⟨by simp [Bd], by simp⟩⟩ ?_
   simp only [↓go1, go2, go4, reduceIte, Nat.reduceEqDiff, Nat.reduceAdd, g1, g2, w1]
   have hd : Gd 5 fr m true [] (Upd.app (m.put (1 :: fr) 0 [.tok 6]) (BL 5 (3 :: fr) (.slice false (1 :: fr) []))) 14 (3 :: fr) := by
    have hd0 : Gd 5 fr m true [] (m.put (1 :: fr) 0 [.tok 6]) 2 (1 :: fr) := ⟨⟨[], 1, rfl, by omega⟩, by simp [Bd], fun i o hi => out_put (l := []) i o hi⟩
    exact Gs.app (l := []) hd0.gs (by omega) (by omega)
   refine loop342b hn1 hn2 (T := 14 + roundW s.toNat) s.toNat _ (3 :: fr) xs _ (by omega) (by omega) rfl rfl (by simp only [↓go1, go2, go4, reduceIte, Nat.reduceEqDiff, List.nil_append]) rfl hd (fun st' t' e e2 e3 => ?_)
   obtain ⟨rfl, hG⟩ := e3 (by omega)
   have ht : 14 + roundW s.toNat - 5 = 9 + roundW s.toNat := by omega
   rw [ht] at e hG
   simp only [↓go1, go2, reduceIte, Nat.reduceEqDiff, Nat.reduceAdd, e]
   exact ⟨rfl, hG.finc hfr⟩
  ·cases hF
 ·cases hF
def F254 : List D → Option (List D × List Nat)
 | [.str s] => if s.length ≤ 65535 then some (Ay (beB 2 s.length ++ s), [11]) else none
 | _ => none
theorem ok254 : (cQ 5 rowW F254).ok Tryz.prog 254 := by
 obtain ⟨S, hS, hl⟩ := AJ (Ab ok342 Ae)
 have s342 := hl 342 _ rfl
 clear hl
 refine opn_ok2 (S := S) hS fn254 (fun ds m m' fr _ => rfl) (fun ds m fr d u h hfr => ?_)
 obtain ⟨nl, t, xs, rest, ys, l, rfl, ha, hx, hF, rfl, rfl⟩ := cQ_inv h
 unfold F254 at hF
 split at hF
 ·rename_i s
  split at hF
  ·rename_i hc
   simp only [Option.some.injEq, Prod.mk.injEq] at hF
   obtain ⟨rfl, rfl⟩ := hF
   refine ⟨by simp, ?_⟩
   clear h
   have g1 : ((65535 : Int) < (s.length : Int)) = False := eq_false (by omega)
   have w2 : IntKind.u64.wrap (s.length : Int) = (s.length : Int) := u64_small (by omega) (by omega)
   have f342 : F342 [.int .i64 2, .int .u64 (s.length : Int)] = some (Ay (beB 2 s.length), [54]) := by
    simp only [F342]
    rw [if_pos ⟨by omega, by omega, by omega, by omega⟩]; rfl
   unfold dc254
   simp only [↓go1, go2, go4, reduceIte, Nat.reduceEqDiff, Nat.reduceAdd, AK s342, g1, w2, reduceCtorEq]
   refine got_c ha hx f342 ?_
   simp only [↓go1, go2, reduceIte, Nat.reduceEqDiff, Nat.reduceAdd, false_and, id, Bo]
   have hd : Gd 5 fr m true [] (m.put ([54] ++ 9 :: fr) 0 [.tok 6]) 10 ([54] ++ 9 :: fr) :=
    ⟨⟨[54], 9, rfl, by omega⟩, by rw [Bd, if_pos ⟨rfl, rfl⟩], fun i o hi => out_put i o hi⟩
   refine AA.intro ⟨by simp only [List.length_append, Bo, beB_len]; omega, ?_, .inr ⟨hd.tok, by simp⟩⟩ ?_
   ·cases s <;> rfl
   simp only [↓go1, go2, reduceIte, Nat.reduceEqDiff, Nat.reduceAdd]
   refine ⟨by rw [Ca, List.append_assoc]; rfl, ?_⟩
   exact (Gs.app (c' := 12) (l := []) (k := 11) hd.gs (by omega) (by omega)).finc hfr
  ·cases hF
 ·cases hF
set_option maxRecDepth 20000 in
theorem walk327 (w : World) (sp : Option Addr) (n c k : Nat) (cs : List Value) (hl : cs.length = n) (h1 : ∀ v ∈ cs, v.oneCell' = true) (hk : n + k ≤ 140737488355328)
  (hsrc : 0 < n → ∃ ad, sp = some ad ∧ ∀ (j : Nat) v, cs[j]? = some v → w.cell? (ad.add j) = some v) :
  Calls Tryz.prog 327 #[.slice sp n c, .int .i64 (k : Int)] w fun e w' => e = .returned (.slice (some ⟨w.heap.size, 0, none⟩) n (n + k)) ∧ w' = (w.alloc (.cells (madeCells #[.int .u8 0] (n + k)) 5)).setRow w.heap.size (cs ++ (madeCells #[.int .u8 0] (n + k)).toList.drop n).toArray := by
 have hw : IntKind.i64.wrap ((n : Int) + (k : Int)) = (n : Int) + (k : Int) := IntWalk.i64_in _ ⟨by omega, by omega⟩
 have hmk : ∀ u : World, (Instr.makeSlice 264 (.int .i64 (n : Int)) (.int .i64 ((n : Int) + (k : Int)))).run Tryz.prog u = .ok (.slice (some ⟨u.heap.size, 0, none⟩) n (n + k)) (u.alloc (.cells (madeCells #[.int .u8 0] (n + k)) 5)) := fun u => by
  have e1 : ((n : Int) + (k : Int)).toNat = n + k := by omega
  have := run_make (P := Tryz.prog) u 264 5 Tryz.t5 (.int .u8 0) Tryz.underlying264 (by kernel_rfl) (by kernel_rfl) .i64 .i64 (n : Int) ((n : Int) + (k : Int)) (by omega) (by omega) (by show ((1 : Nat) : Int) * _ ≤ _; omega) (by omega)
  simpa [show Tryz.t5.size = 1 from rfl, Value.cells, e1] using this
 have hcp : (Builtin.copy_ #[264, 264] 3 #[.slice (some ⟨w.heap.size, 0, none⟩) n (n + k), .slice sp n c]).run Tryz.prog (w.alloc (.cells (madeCells #[.int .u8 0] (n + k)) 5)) = .ok (goInt n) ((w.alloc (.cells (madeCells #[.int .u8 0] (n + k)) 5)).setRow w.heap.size (cs ++ (madeCells #[.int .u8 0] (n + k)).toList.drop n).toArray) := by
  have hg : (w.alloc (.cells (madeCells #[.int .u8 0] (n + k)) 5)).heap[w.heap.size]? = some (.cells (madeCells #[.int .u8 0] (n + k)) 5 (0, 0)) := heap_alloc_new w _
  rcases Nat.eq_zero_or_pos n with h0 | h0
  ·have hc0 : cs = [] := List.eq_nil_of_length_eq_zero (by omega)
   subst hc0
   have := run_copy_none (P := Tryz.prog) (w.alloc (.cells (madeCells #[.int .u8 0] (n + k)) 5)) 264 264 3 5 (some ⟨w.heap.size, 0, none⟩) sp n (n + k) n c Tryz.underlying264 (by kernel_rfl) (by rw [h0]; rfl)
   rw [this, h0]
   simp only [List.nil_append, List.drop_zero, Array.toArray_toList]
   rw [setRow_self _ _ _ 5 (0, 0) (by rw [h0] at hg; exact hg)]
   rfl
  ·obtain ⟨ad, rfl, hs⟩ := hsrc h0
   have := run_copy_row (P := Tryz.prog) (w.alloc (.cells (madeCells #[.int .u8 0] (n + k)) 5)) 264 264 3 5 w.heap.size 0 n (n + k) ad n c (madeCells #[.int .u8 0] (n + k)) 5 cs Tryz.underlying264 (by kernel_rfl) hg (by rw [hl]; simp) (fun j v hv => by rw [World.cell?_alloc_old _ _ _ (Nat.ne_of_lt (World.block_lt_of_cell? _ _ (hs j v hv)))]; exact hs j v hv) (by simp [madeCells]; omega) h1
   rw [this, hl]
   simp []
 go_enter Tryz.func327, Tryz.ntmps327
 go_wp2
 go_ret
 exact ⟨rfl, rfl⟩
theorem alloc_setRow (w : World) (a b : Array Value) (e : TypeId) : (w.alloc (.cells a e)).setRow w.heap.size b = w.alloc (.cells b e) := by
 have h : ∀ (F : Obj → Obj), (w.heap.push (.cells a e)).modify w.heap.size F = w.heap.push (F (.cells a e)) := by
  intro F
  apply Array.ext_getElem?
  intro i
  rw [Array.getElem?_modify]
  by_cases hi : w.heap.size = i
  ·subst hi; simp
  ·rw [if_neg hi]
   rcases Nat.lt_or_ge i w.heap.size with hlt | hge
   ·simp [Array.getElem?_push, Ne.symm hi]
   ·simp [Array.getElem?_push, show i ≠ w.heap.size from Ne.symm hi]
 unfold World.setRow World.alloc
 simp only [h]
theorem ok327 : grownQ.ok Tryz.prog 327 := by
 refine ⟨⟨Tryz.f327, Tryz.func327, rfl, by kernel_rfl⟩, fun ds m m' fr _ => rfl, ?_⟩
 intro B w0 w m g fr ds vs r u hi hfresh hl hrep hex
 simp only [grownQ] at hex
 split at hex
 ·rename_i nl t xs k
  split at hex
  ·rename_i hc
   obtain ⟨hk0, hall, hk⟩ := hc
   simp only [Option.some.injEq, Prod.mk.injEq] at hex
   obtain ⟨rfl, rfl⟩ := hex
   match vs, hl with
   | [v0, v1], _ =>
    have hr0 := hrep 0 _ v0 rfl rfl
    have hr1 := (hrep 1 _ v1 rfl rfl).int_inv
    subst hr1
    have hcell : ∀ d ∈ xs, d.cells.length = 1 ∧ d.calm = true := by
     intro d hd
     have := List.all_eq_true.1 hall d hd
     unfold DP at this
     split at this
     ·exact ⟨rfl, rfl⟩
     ·cases this
    obtain ⟨sp, c, cs, e0, hcl, hreps, hsrc⟩ : ∃ (sp : Option Addr) (c : Nat) (cs : List Value), v0 = .slice sp xs.length c ∧ cs.length = xs.length ∧ AU w g (flat xs) cs ∧
      (0 < xs.length → ∃ ad, sp = some ad ∧ ∀ (j : Nat) v, cs[j]? = some v → w.cell? (ad.add j) = some v) := by
     cases nl with
     | true =>
      rcases hr0.slice_inv with ⟨_, rfl, e⟩ | ⟨h, _⟩
      ·exact ⟨none, 0, [], e, rfl, AU.nil w g, fun h => by simp at h⟩
      ·cases h
     | false =>
      obtain ⟨ad, n, c, sz, ws, ev, hn, hnc, hsz, hwl, hrp, hcl, _⟩ := hr0.slice_list
      subst hn
      refine ⟨some ad, c, ws, ev, ?_, hrp, fun _ => ⟨ad, rfl, hcl⟩⟩
      rw [hwl]
      cases xs with
      | nil => simp
      | cons x r =>
       have h1 := hsz x (List.mem_cons_self ..)
       rw [(hcell x (List.mem_cons_self ..)).1] at h1
       rw [← h1, Nat.mul_one]
    subst e0
    have hkn : ((k.toNat : Nat) : Int) = k := Int.toNat_of_nonneg hk0
    have hw := walk327 w sp xs.length c k.toNat cs hcl hreps.2.1 (by omega) hsrc
    rw [hkn] at hw
    refine hw.mono ?_
    rintro e w' ⟨rfl, rfl⟩
    rw [alloc_setRow]
    have hsz : (cs ++ (madeCells #[Value.int .u8 0] (xs.length + k.toNat)).toList.drop xs.length).toArray.size = (xs.length + k.toNat) * 1 := by simp [madeCells, hcl]
    have hinfo : ∃ ti z, Tryz.prog.info? 5 = some ti ∧ ti.size = 1 ∧ ti.zero = some z ∧ z.cells.size = 1 := ⟨Tryz.t5, .int .u8 0, by kernel_rfl, by kernel_rfl, by kernel_rfl, by kernel_rfl⟩
    have hf0 := hfresh (0 :: fr) (List.suffix_cons 0 fr)
    have hinv := hi.newTok hf0 (e := 5) (n := xs.length) (c := xs.length + k.toNat) (sz := 1) (cur := (cs ++ (madeCells #[Value.int .u8 0] (xs.length + k.toNat)).toList.drop xs.length).toArray) (by decide) hinfo (by omega) (by unfold maxLen; omega) hsz
    have hext := Ext.newTok (w := w) (t := 0 :: fr) (n := xs.length) (c := xs.length + k.toNat) (sz := 1) (Obj.cells (cs ++ (madeCells #[Value.int .u8 0] (xs.length + k.toNat)).toList.drop xs.length).toArray 5) hi.gz hf0.2.2 rfl
    refine ⟨_, _, rfl, hinv, hext, ?_, fun i hf hn => Ce hf (fun h => hn ((List.suffix_cons 0 fr).trans h)) _ _ _ _ _⟩
    refine Rep.ofRow (sz := 1) (cur := (cs ++ (madeCells #[Value.int .u8 0] (xs.length + k.toNat)).toList.drop xs.length).toArray) (T := 5) (fz := (0, 0)) (heap_alloc_new w _) rfl (by omega) (fun d hd => (hcell d hd).1) (hreps.ext hext) (fun j v hv => ?_) (by simp [Gh.tok]) (fun _ => by simp [Gh.tok]) (fun d hd => (hcell d hd).2)
    rw [List.getElem?_toArray, List.getElem?_append_left (List.getElem?_eq_some_iff.1 hv).1]
    exact hv
  ·cases hex
 ·cases hex
theorem sl_of {d : D} {n : Bool} {t : Id} {xs ys : List D} (h : d = .slice n t xs) (e : xs = ys) : d = .slice n t ys := e ▸ h
theorem loop126 {S : Summs} (s231 : S 231 = some (cQ 5 rowW F231)) {l : List Mt} {nl : Bool} {Q : Ex → St → Prop} (hl : MsOk l)
  (hexit : ∀ st n t, st.s 3 = .slice n t (Ay (Cq l)) → Q (.exit 0) st) :
  ∀ (f j : Nat) (n : Bool) (t : Id) (st : St) g, l.length = j + f → st.s 3 = .slice n t (Ay (Cq (l.take j))) → st.s 8 = .slice nl [] (Ar l) → st.s 9 = .int .i64 (l.length : Int) → st.s 10 = .int .i64 (j : Int) → AV S [] dc126l0 Q st g := by
 intro f
 induction f with
 | zero =>
  intro j n t st g hf h3 h8 h9 h10
  refine Ad dc126l0.eq_1 ?_
  have : ¬ ((j : Int) < l.length) := by omega
  simp only [↓go1, go2, go4, reduceIte, Nat.reduceAdd, h9, h10, this]
  rw [List.take_of_length_le (by omega)] at h3
  exact hexit _ n t h3
 | succ f ih =>
  intro j n t st g hf h3 h8 h9 h10
  refine Ad dc126l0.eq_1 ?_
  have hj : j < l.length := by omega
  have hlt : ((j : Int) < l.length) := by omega
  have hj0 : (0 : Int) ≤ (j : Int) := by omega
  have hl0 := hl.1
  have hb := tabB_le hl j (by omega)
  have hp := hl.2 _ (mtAt_mem hj)
  have hw : IntKind.i64.wrap ((j : Int) + 1) = ((j + 1 : Nat) : Int) := w64 (by omega) (by omega)
  have hat : (Ar l)[j]? = some (.agg [.str (AQ l j).1, .int .i64 (AQ l j).2.1, .bool (AQ l j).2.2]) := Cp hj
  have htk := tabB_take hj
  generalize AQ l j = m at hat hp htk
  obtain ⟨p, k, b⟩ := m
  simp only at hp hat
  have hF : F231 [.str p] = some (Ay (rowB p), [17]) := if_pos (by omega)
  obtain ⟨st_s, st_m, st_c⟩ := st
  simp only at h3 h8 h9 h10
  cases b with
  | true =>
   simp only [↓go1, gB0, reduceIte, Nat.reduceEqDiff, Nat.reduceAdd, h8, h9, h10, h3, hlt, hj0, Int.toNat_natCast, hat, AK s231, Ac, Ag, Ah, Nat.reduceLT, Nat.reduceLeDiff, Option.bind_some, List.take_succ_cons, List.take_zero, Option.isSome_some]
   refine got_c (bytes_all _) (by rw [Bo]; omega) hF ?_
   simp only [↓go1, gB0, reduceIte, Nat.reduceEqDiff, Nat.reduceAdd, rowW, h3, and_false, reduceCtorEq, u8_wrap, Ac, Nat.reduceLT, and_false]
   refine AA.intro ⟨by simp only [List.length_append, Bo, rowB_len]; omega, rfl, .inr ⟨by simp [Bd], by simp⟩⟩ ?_
   simp only [↓go1, go2, go3, go4, reduceIte, Nat.reduceEqDiff, Nat.reduceAdd, h10, hw]
   refine ih (j + 1) false _ _ _ (by omega) (sl_of rfl ?_) h8 h9 rfl
   rw [htk]
   simp only [mtB, Ca, List.append_assoc]
   simp only [Ay, List.map_cons, List.map_nil]
   rw [CW (by omega)]
   rfl
  | false =>
   simp only [↓go1, gB0, reduceIte, Nat.reduceEqDiff, Nat.reduceAdd, h8, h9, h10, h3, hlt, hj0, Int.toNat_natCast, hat, AK s231, Ac, Ag, Ah, Nat.reduceLT, Nat.reduceLeDiff, Option.bind_some, List.take_succ_cons, List.take_zero, Option.isSome_some]
   refine got_c (bytes_all _) (by rw [Bo]; omega) hF ?_
   simp only [↓go1, gB0, reduceIte, Nat.reduceEqDiff, Nat.reduceAdd, rowW, h3, and_false, reduceCtorEq, u8_wrap, Ac, Nat.reduceLT, and_false]
   refine AA.intro ⟨by simp only [List.length_append, Bo, rowB_len]; omega, rfl, .inr ⟨by simp [Bd], by simp⟩⟩ ?_
   simp only [↓go1, go2, go3, go4, reduceIte, Nat.reduceEqDiff, Nat.reduceAdd, h10, hw]
   refine ih (j + 1) false _ _ _ (by omega) (sl_of rfl ?_) h8 h9 rfl
   rw [htk]
   simp only [mtB, Ca, List.append_assoc]
   simp only [Ay, List.map_cons, List.map_nil]
   rw [CW (by omega)]
   rfl
def mk126 (p : Bool × List Mt) : List D := [.agg [.slice p.1 [] (Ar p.2)]]
theorem mk126_inj (x y : Bool × List Mt) (e : mk126 x = mk126 y) : x = y := by
 simp only [mk126, List.cons.injEq, D.agg.injEq, D.slice.injEq, true_and, and_true] at e
 exact Prod.ext e.1 (mtsD_inj e.2)
noncomputable def F126 : List D → Option D := FX mk126 (fun p => MsOk p.2) (fun p => .str (Cq p.2))
theorem F126_eq {n : Bool} {l : List Mt} (h : MsOk l) : F126 [.agg [.slice n [] (Ar l)]] = some (.str (Cq l)) := AP (mk := mk126) (a := (n, l)) mk126_inj h
theorem ok126 : (Ai F126).ok Tryz.prog 126 := by
 obtain ⟨S, hS, hl⟩ := AJ (Ab (ok231 ok327) Ae)
 have s231 := hl 231 _ rfl
 clear hl
 refine AL hS fn126 (fun _ => by simp [mk126]) (fun p hp => ?_)
 obtain ⟨n, l⟩ := p
 have hl : MsOk l := hp
 unfold dc126 mk126
 simp only [↓go1, go2, go3, reduceIte, Nat.reduceEqDiff, Nat.reduceAdd, Aq, Ac, Nat.zero_le, Nat.reduceLT, Nat.sub_zero, List.length_cons, List.length_nil, Nat.zero_add, List.getElem?_cons_zero, and_self]
 refine loop126 s231 hl (fun st n' t' e => ?_) l.length 0 true [] _ _ (by omega) rfl rfl rfl rfl
 simp only [↓go1, go2, go3, reduceIte, Nat.reduceEqDiff, Nat.reduceAdd, e, b2sV, Cj, and_self]
end Go.Vd
namespace Go.Vd
open Go.RowKit
section
variable {P : Program} {B : Nat} {w0 : World} {N : Nat} {S : Summs}
theorem piece (hS : Summs.ok P S) {code : Code} {dc : DC} {t : Nat} (htr : AB P N code = some dc) (hk : Ct t code = true) {st : St} {a : Act} {w : World} {g : Gh} (hx : Co P B w0 N [] st a w g) {Q : Ex → St → Prop} (h : dc.wp S [] Q st) :
  code.wp P (fun e' a' w' => ∃ e st' g', e' = e.toExit ∧ Q e st' ∧ Co P B w0 N [] st' a' w' g' ∧ g'.G0 = g.G0 ∧ a'.tmps[t]? = a.tmps[t]?) a w := by
 obtain ⟨e, st', hev, hq⟩ := h
 refine wp_mono (ev_keeps hS code dc htr hk st e st' hev a w g hx) ?_
 rintro e' a' w' ⟨⟨rfl, g', hh, hxt, _⟩, hfr⟩
 exact ⟨e, st', g', rfl, hq, hh, hxt.G0, hfr⟩
end
end Go.Vd
namespace Go.Vd
open Go.Proofs Go.RowKit
def mk147 (p : Bool × List Mt) : List D := [.slice p.1 [] (Ar p.2)]
theorem mk147_inj (x y : Bool × List Mt) (e : mk147 x = mk147 y) : x = y := by
 simp only [mk147, List.cons.injEq, D.slice.injEq, true_and, and_true] at e
 exact Prod.ext e.1 (mtsD_inj e.2)
noncomputable def F147 : List D → Option D := FX mk147 (fun p => MsOk p.2) (fun p => .str (Cq p.2))
theorem F147_eq {n : Bool} {l : List Mt} (h : MsOk l) : F147 [.slice n [] (Ar l)] = some (.str (Cq l)) := AP (mk := mk147) (a := (n, l)) mk147_inj h
def d147a : DC := (.seq (.row [⟨some 5, .mv (.t 4), [], none⟩, ⟨some 6, .mv (.t 0), [], none⟩, ⟨some 7, .len false (.t 6), [], none⟩, ⟨some 8, .bin .lss (.t 5) (.t 7), [], none⟩]) (.cond (.t 8) .skip (.exit 0)))
def d147b : DC := (.row [⟨some 12, .mv (.t 3), [], none⟩, ⟨some 13, .mv (.t 0), [], none⟩, ⟨some 14, .mv (.t 4), [], none⟩, ⟨some 15, .iaddr 3 (.t 13) (.t 14), [], none⟩, ⟨some 16, .faddr 0 (.t 15), [], none⟩, ⟨some 17, .load none (.t 16), [], none⟩, ⟨some 18, .call (.c (.fn 254 [])) [(.t 12), (.t 17)], [], none⟩, ⟨some 11, .mv (.t 18), [], none⟩, ⟨some 19, .ext 0 (.t 11), [], none⟩, ⟨some 20, .ext 1 (.t 11), [], none⟩, ⟨some 3, .mv (.t 19), [], none⟩])
def d147c : DC := (.row [⟨some 21, .mv (.t 3), [], none⟩, ⟨some 22, .mv (.t 0), [], none⟩, ⟨some 23, .mv (.t 4), [], none⟩, ⟨some 24, .iaddr 3 (.t 22) (.t 23), [], none⟩, ⟨some 25, .faddr 1 (.t 24), [], none⟩, ⟨some 26, .faddr 0 (.t 25), [], none⟩, ⟨some 27, .load none (.t 26), [], none⟩, ⟨some 28, .conv .u8 (.t 27), [], none⟩, ⟨some 29, .bslice 5 1 [(.t 28), (.c (.int .u8 0))], [], none⟩, ⟨some 30, .app 5 1 1 (.t 21) (.t 29), [], none⟩, ⟨some 3, .mv (.t 30), [], none⟩])
def d147d : DC := (.row [⟨some 31, .mv (.t 0), [], none⟩, ⟨some 32, .mv (.t 4), [], none⟩, ⟨some 33, .iaddr 3 (.t 31) (.t 32), [], none⟩, ⟨some 34, .faddr 1 (.t 33), [], none⟩, ⟨some 35, .faddr 1 (.t 34), [], none⟩, ⟨some 36, .load none (.t 35), [], none⟩])
def d147e : DC := (.row [⟨some 9, .mv (.t 4), [], none⟩, ⟨some 10, .bin .add (.t 9) (.c (.int .i64 1)), [], none⟩, ⟨some 4, .mv (.t 10), [], none⟩])
section
variable {S : Summs} {l : List Mt} {n1 : Bool} {j : Nat} {st : St} {n : Bool} {t : Id} {bs : Bs}
def K147 (n1 : Bool) (l : List Mt) (j : Nat) (n : Bool) (t : Id) (bs : Bs) (st : St) : Prop :=
 st.s 0 = .slice n1 [] (Ar l) ∧ st.s 3 = .slice n t (Ay bs) ∧ st.s 4 = .int .i64 (j : Int)
theorem k147a (h : K147 n1 l j n t bs st) (hj : j < l.length) : d147a.wp S [] (fun e st' => e = .normal ∧ K147 n1 l j n t bs st') st := by
 obtain ⟨h0, h3, h4⟩ := h
 have hlt : ((j : Int) < l.length) := by omega
 simp only [↓go1, go2, go4, reduceIte, Nat.reduceEqDiff, Nat.reduceAdd, d147a, h0, h4, hlt, Aq]
 exact ⟨h0, h3, h4⟩
theorem k147z (h : K147 n1 l j n t bs st) (hj : ¬ j < l.length) : d147a.wp S [] (fun e st' => e = .exit 0 ∧ K147 n1 l j n t bs st') st := by
 obtain ⟨h0, h3, h4⟩ := h
 have hlt : ¬ ((j : Int) < l.length) := by omega
 simp only [↓go1, go2, go4, reduceIte, Nat.reduceEqDiff, Nat.reduceAdd, d147a, h0, h4, hlt, Aq]
 exact ⟨h0, h3, h4⟩
theorem k147b (s254 : S 254 = some (cQ 5 rowW F254)) (h : K147 n1 l j n t bs st) (hj : j < l.length) (hb : bs.length ≤ 10000000) (hp : (AQ l j).1.length ≤ 1000) :
  d147b.wp S [] (fun e st' => e = .normal ∧ ∃ t', K147 n1 l j false t' (bs ++ rowB (AQ l j).1) st' ∧ t' ≠ [] ∧ st'.m t' 0 = some (.tok 6)) st := by
 obtain ⟨h0, h3, h4⟩ := h
 have hlt : ((j : Int) < l.length) := by omega
 have hj0 : (0 : Int) ≤ (j : Int) := by omega
 have hat : (Ar l)[j]? = some (.agg [.str (AQ l j).1, .int .i64 (AQ l j).2.1, .bool (AQ l j).2.2]) := Cp hj
 generalize AQ l j = m at hat hp ⊢
 obtain ⟨p, k, b⟩ := m
 simp only at hp hat
 have hF : F254 [.str p] = some (Ay (rowB p), [11]) := if_pos (by omega)
 obtain ⟨st_s, st_m, st_c⟩ := st
 simp only at h0 h3 h4
 simp only [↓go1, gB1, reduceIte, Nat.reduceEqDiff, Nat.reduceAdd, d147b, h0, h3, h4, hj0, Int.toNat_natCast, hat, reduceCtorEq, AK s254, Nat.zero_le, List.drop_zero, List.head?_cons]
 refine got_c (bytes_all _) (by rw [Bo]; omega) hF ?_
 simp only [↓go1, gB0, reduceIte, Nat.reduceEqDiff, Nat.reduceAdd, rowW, Ac, Nat.reduceLT]
 refine ⟨_, ⟨h0, sl_of rfl (by rw [Ca]), h4⟩, ?_, ?_⟩
 ·simp
 ·simp only []; simp
theorem k147c (h : K147 n1 l j false t bs st) (hj : j < l.length) (hb : bs.length ≤ 10000000) (ht : t ≠ []) (hm : st.m t 0 = some (.tok 6)) :
  d147c.wp S [] (fun e st' => e = .normal ∧ ∃ t', K147 n1 l j false t' (bs ++ [UInt8.ofNat ((AQ l j).2.1 % 256).toNat, 0]) st' ∧ t' ≠ [] ∧ st'.m t' 0 = some (.tok 6)) st := by
 obtain ⟨h0, h3, h4⟩ := h
 have hlt : ((j : Int) < l.length) := by omega
 have hj0 : (0 : Int) ≤ (j : Int) := by omega
 have hat : (Ar l)[j]? = some (.agg [.str (AQ l j).1, .int .i64 (AQ l j).2.1, .bool (AQ l j).2.2]) := Cp hj
 generalize AQ l j = m at hat ⊢
 obtain ⟨p, k, b⟩ := m
 simp only at hat
 obtain ⟨st_s, st_m, st_c⟩ := st
 simp only at h0 h3 h4 hm
 simp only [↓go1, gB1, reduceIte, Nat.reduceEqDiff, Nat.reduceAdd, d147c, h0, h3, h4, hj0, Int.toNat_natCast, hat, reduceCtorEq, u8_wrap, Nat.zero_le, Nat.reduceLeDiff, and_self, List.drop_zero, List.drop_succ_cons, List.head?_cons]
 refine AA.intro ⟨by simp only [Bo]; omega, rfl, .inr ⟨?_, ht⟩⟩ ?_
 ·rw [Bd]
  split
  ·rfl
  ·exact hm
 simp only [↓go1, go2, go3, go4, reduceIte, Nat.reduceEqDiff, Nat.reduceAdd]
 refine ⟨[st_c + 9], ⟨h0, sl_of rfl ?_, h4⟩, ?_, ?_⟩
 ·rw [Ca]
  simp only [Ay, List.map_cons, List.map_nil]
  rw [CW (by omega)]
  rfl
 ·simp
 ·first | rfl | (simp only [BL, Upd.app, Bd]; simp)
theorem k147d (h : K147 n1 l j false t bs st) (hj : j < l.length) :
  d147d.wp S [] (fun e st' => e = .normal ∧ K147 n1 l j false t bs st' ∧ st'.m = st.m ∧ st'.s 36 = .bool (AQ l j).2.2) st := by
 obtain ⟨h0, h3, h4⟩ := h
 have hlt : ((j : Int) < l.length) := by omega
 have hj0 : (0 : Int) ≤ (j : Int) := by omega
 have hat : (Ar l)[j]? = some (.agg [.str (AQ l j).1, .int .i64 (AQ l j).2.1, .bool (AQ l j).2.2]) := Cp hj
 generalize AQ l j = m at hat ⊢
 obtain ⟨p, k, b⟩ := m
 simp only at hat
 obtain ⟨st_s, st_m, st_c⟩ := st
 simp only at h0 h3 h4
 simp only [↓go1, gB1, reduceIte, Nat.reduceEqDiff, Nat.reduceAdd, d147d, h0, h4, hj0, Int.toNat_natCast, hat, Nat.reduceLeDiff, and_self, List.drop_zero, List.drop_succ_cons, List.head?_cons]
 exact ⟨h0, h3, h4⟩
theorem k147e (h : K147 n1 l j n t bs st) (hj : j < l.length) (hl : l.length ≤ 1000) :
  d147e.wp S [] (fun e st' => e = .normal ∧ K147 n1 l (j + 1) n t bs st') st := by
 obtain ⟨h0, h3, h4⟩ := h
 have hw : IntKind.i64.wrap ((j : Int) + 1) = ((j + 1 : Nat) : Int) := w64 (by omega) (by omega)
 simp only [↓go1, go2, go4, reduceIte, Nat.reduceEqDiff, Nat.reduceAdd, d147e, h4, hw]
 exact ⟨h0, h3, rfl⟩
end
theorem keeps147 : (Tryz.f147.body.map (Ct 0)) = some true := by kernel_rfl
theorem ok147 : (Ai F147).ok Tryz.prog 147 := by
 obtain ⟨S, hS, hl⟩ := AJ (Ab ok254 Ae)
 have s254 := hl 254 _ rfl
 clear hl
 refine fun_ok_wp fn147 (fun ds r h => ?_) (fun ds r h fn code a w g hf hbody htr hdl htb hG hst => ?_)
 ·obtain ⟨p, _, rfl, _⟩ := FX_get h; simp [mk147]
 ·obtain ⟨⟨n1, l⟩, hl, rfl, rfl⟩ := FX_get h
  replace hl : MsOk l := hl
  have hk : Ct 0 code = true := by
   have e : fn = Tryz.f147 := (Option.some.inj (Tryz.func147.symm.trans hf)).symm
   have hk0 := keeps147
   rw [e] at hbody
   rw [hbody] at hk0
   exact Option.some.inj hk0
  unfold dc147 at htr
  obtain ⟨c1, y, rfl, t1, htr1⟩ := Ew htr
  obtain ⟨c2, y, rfl, t2, htr2⟩ := Ew htr1
  obtain ⟨c34, y3, rfl, t34, ty⟩ := Ew htr2
  obtain ⟨c3, y4, rfl, t3, t4⟩ := Ew t34
  obtain ⟨c4, rfl, t4b⟩ := tr_block t4
  obtain ⟨c5, rfl, t5⟩ := tr_loop t4b
  unfold dc147l0 at t5
  obtain ⟨cA, y, rfl, tA, tB⟩ := Ew t5
  obtain ⟨cB, c9, rfl, tB2, t9⟩ := Ew tB
  obtain ⟨cC, rfl, tC⟩ := tr_block tB2
  obtain ⟨k1, y, rfl, u1, tD⟩ := Ew tC
  obtain ⟨k2, y, rfl, u2, tE⟩ := Ew tD
  obtain ⟨k3, k4, rfl, u3, tF⟩ := Ew tE
  obtain ⟨o, kx, ky, rfl, uo, ux, uy⟩ := tr_cond tF
  obtain ⟨i, os, dops, rfl, hops, hd⟩ := tr_row ux
  simp only [Ct, Bool.and_eq_true] at hk
  obtain ⟨q1, q2, ⟨q3, qA, ⟨w1', w2', w3', _, wy⟩, q9⟩, qy⟩ := hk
  have hs0 := hst.slots 0
  have hgz := hst.inv.gz
  refine wp_seq (wp_mono (piece hS t1 q1 hst (Q := fun e st' => e = .normal ∧ st'.s 0 = .slice n1 [] (Ar l)) (by simp only [↓go1, go2, reduceIte, Nat.reduceEqDiff, Nat.reduceAdd, mk147, and_self])) ?_)
  rintro e1 a1 w1 ⟨e, st1, g1, rfl, ⟨rfl, r1⟩, h1, G1, T1⟩
  refine wp_seq (wp_mono (piece hS t2 q2 h1 (Q := fun e st' => e = .normal ∧ st'.s 0 = .slice n1 [] (Ar l) ∧ st'.s 3 = .slice true [] []) (by simp only [↓go1, go2, reduceIte, Nat.reduceEqDiff, Nat.reduceAdd, r1, and_self])) ?_)
  rintro e1 a2 w2 ⟨e, st2, g2, rfl, ⟨rfl, r2, r2'⟩, h2, G2, T2⟩
  refine wp_seq (wp_seq (wp_mono (piece hS t3 q3 h2 (Q := fun e st' => e = .normal ∧ K147 n1 l 0 true [] [] st') (by simp only [↓go1, go2, go4, reduceIte, Nat.reduceEqDiff, Nat.reduceAdd, K147, r2, r2']; first | done | exact ⟨r2, r2', rfl⟩ | exact ⟨rfl, rfl⟩ | exact ⟨rfl, rfl, rfl⟩ | rfl)) ?_))
  rintro e1 a3 w3 ⟨e, st3, g3, rfl, ⟨rfl, r3⟩, h3, G3, T3⟩
  let J : Nat → Act → World → Prop := fun n a' w' => ∃ st g' j nl t, Co Tryz.prog w.heap.size w 44 [] st a' w' g' ∧ g'.G0 = g.G0 ∧ a'.tmps[0]? = a.tmps[0]? ∧ K147 n1 l j nl t (Cq (l.take j)) st ∧ n = l.length - j ∧ j ≤ l.length
  refine wp_block (wp_loop_n J ?_ (n := l.length) ⟨st3, g3, 0, true, [], h3, by rw [G3, G2, G1], by rw [T3, T2, T1], r3, by omega, by omega⟩)
  rintro n a4 w4 ⟨st, g4, j, nl, t, h4, G4, T4, K4, rfl, hj⟩
  rcases Nat.lt_or_ge j l.length with hlt | hge
  ·have hb := tabB_le hl j hj
   have hl0 := hl.1
   have hp := hl.2 _ (mtAt_mem hlt)
   refine wp_seq (wp_mono (piece hS tA qA h4 (k147a K4 hlt)) ?_)
   rintro e1 a5 w5 ⟨e, st5, g5, rfl, ⟨rfl, r5⟩, h5, G5, T5⟩
   refine wp_seq (wp_block ?_)
   refine wp_seq (wp_mono (piece hS u1 w1' h5 (k147b s254 r5 hlt (by omega) hp)) ?_)
   rintro e1 a6 w6 ⟨e, st6, g6, rfl, ⟨rfl, t6, r6, n6, m6⟩, h6, G6, T6⟩
   refine wp_seq (wp_mono (piece hS u2 w2' h6 (k147c r6 hlt (by rw [List.length_append, rowB_len]; omega) n6 m6)) ?_)
   rintro e1 a7 w7 ⟨e, st7, g7, rfl, ⟨rfl, t7, r7, n7, m7⟩, h7, G7, T7⟩
   refine wp_seq (wp_mono (piece hS u3 w3' h7 (k147d r7 hlt)) ?_)
   rintro e1 a8 w8 ⟨e, st8, g8, rfl, ⟨rfl, r8, m8, c8⟩, h8, G8, T8⟩
   have hG8 : g8.G0 = g.G0 := by rw [G8, G7, G6, G5, G4]
   have hT8 : a8.tmps[0]? = a.tmps[0]? := by rw [T8, T7, T6, T5, T4]
   have fin : ∀ (a' : Act) (w' : World) (st' : St) (g' : Gh) (n' : Bool) (t' : Id), Co Tryz.prog w.heap.size w 44 [] st' a' w' g' → g'.G0 = g.G0 → a'.tmps[0]? = a.tmps[0]? → K147 n1 l j n' t' (Cq (l.take (j + 1))) st' →
     c9.wp Tryz.prog (Exit.then (fun a' w' => ∃ k, k < l.length - j ∧ J k a' w') (Exit.inBlock 0 (Exit.then (y3.wp Tryz.prog (fun e a' w' => (e = .normal ∨ e = .ret) ∧ ∃ st' g' d, Co Tryz.prog w.heap.size w 44 [] st' a' w' g' ∧ g'.G0 = g.G0 ∧ BX [RV.t 2] st'.s st'.m = some d ∧ d.unR = .str (Cq l) ∧ (D.str (Cq l)).calmR = true) ) (fun e a' w' => (e = .normal ∨ e = .ret) ∧ ∃ st' g' d, Co Tryz.prog w.heap.size w 44 [] st' a' w' g' ∧ g'.G0 = g.G0 ∧ BX [RV.t 2] st'.s st'.m = some d ∧ d.unR = .str (Cq l) ∧ (D.str (Cq l)).calmR = true)))) a' w' := by
    intro a' w' st' g' n' t' hh hg ht hk'
    refine wp_mono (piece hS t9 q9 hh (k147e hk' hlt hl0)) ?_
    rintro e1 a9 w9 ⟨e, st9, g9, rfl, ⟨rfl, r9⟩, h9, G9, T9⟩
    exact ⟨l.length - (j + 1), by omega, st9, g9, j + 1, n', t', h9, by rw [G9, hg], by rw [T9, ht], r9, rfl, by omega⟩
   have htk := tabB_take hlt
   have hc8 := h8.slots.arg uo
   rw [show Arg.ev st8.s (.t 36) = st8.s 36 from rfl, c8] at hc8
   cases hb2 : (AQ l j).2.2 with
   | true =>
    rw [hb2] at hc8
    refine wp_cond_true hc8.bool_inv ?_
    have hlw := last_wp (id := i) (e := 5) (g0 := g) (w0 := w) hS hops hd.symm h8 hdl htb hG hgz hG8 (by
     rw [r8.1]
     rw [show a8.tmps.getD 0 undef = a.tmps.getD 0 undef by rw [Array.getD_eq_getD_getElem?, Array.getD_eq_getD_getElem?, hT8]]
     exact hs0) (bs := Cq (l.take j) ++ rowB (AQ l j).1 ++ [UInt8.ofNat ((AQ l j).2.1 % 256).toNat, 0]) (by simp) (by simp only [List.length_append, rowB_len, List.length_cons, List.length_nil]; omega) n7 r8.2.1 r8.2.2 (by rw [m8]; exact m7)
    refine wp_mono hlw ?_
    rintro e1 a9 w9 ⟨rfl, T9, st9, g9, h9, G9, z0, z4, z3⟩
    refine fin a9 w9 st9 g9 false [] h9 G9 (T9.trans hT8) ⟨z0.trans r8.1, ?_, z4.trans r8.2.2⟩
    rw [z3, set_end, htk]
    simp only [mtB, hb2, if_true, List.append_assoc]
   | false =>
    rw [hb2] at hc8
    refine wp_cond_false hc8.bool_inv ?_
    refine wp_mono (piece hS uy wy h8 (Q := fun e st' => e = .normal ∧ st' = st8) ⟨_, _, ⟨rfl, rfl⟩, rfl, rfl⟩) ?_
    rintro e1 a9 w9 ⟨e, st9, g9, rfl, ⟨rfl, rfl⟩, h9, G9, T9⟩
    refine fin a9 w9 st9 g9 false t7 h9 (G9.trans hG8) (T9.trans hT8) ⟨r8.1, ?_, r8.2.2⟩
    rw [r8.2.1, htk]
    simp only [mtB, hb2, if_false, Bool.false_eq_true, List.append_assoc]
  ·refine wp_seq (wp_mono (piece hS tA qA h4 (k147z K4 (by omega))) ?_)
   rintro e1 a5 w5 ⟨e, st5, g5, rfl, ⟨rfl, r5⟩, h5, G5, T5⟩
   have hje : j = l.length := by omega
   rw [hje, List.take_of_length_le (Nat.le_refl _)] at r5
   simp only [Ex.toExit, Exit.then, Exit.inBlock, if_true]
   refine wp_mono (piece hS ty qy h5 (Q := fun e st' => (e = .ret ∨ e = .normal) ∧ st'.s 2 = .str (Cq l)) (by
    obtain ⟨z0, z3, z4⟩ := r5
    simp only [↓go1, go2, go4, reduceIte, Nat.reduceEqDiff, Nat.reduceAdd, z3, b2sV, Cj]
    first | done | exact ⟨.inl rfl, rfl⟩ | simp)) ?_
   rintro e1 a6 w6 ⟨e, st6, g6, rfl, ⟨he, r6⟩, h6, G6, T6⟩
   refine ⟨?_, st6, g6, .str (Cq l), h6, by rw [G6, G5, G4], ?_, rfl, rfl⟩
   ·rcases he with rfl | rfl
    ·exact .inr rfl
    ·exact .inl rfl
   ·show BX [RV.t 2] st6.s st6.m = _
    simp only [BX, rvAll, RV.of, r6]
theorem lv3 {p : Bs} {q : Int} {b : Bool} : Bc [.str p, .int .i64 q, .bool b] [.str p, .int .i64 q, .bool b] [(2, 0), (0, 1), (1, 2)] = some true := by simp [Bc, leafEq]
theorem loop66 {S : Summs} {l : List Mt} {n2 n5 : Bool} {Q : Ex → St → Prop} {M : Mem} (s46 : S 46 = some (Ai F46)) (hl : l.length ≤ 1000) (hexit : ∀ st, st.m = M → st.s 1 = .slice n2 [] (Ar l) → st.s 2 = .ptr [0] 0 → Q (.exit 0) st) :
  ∀ (f j : Nat) (st : St) g, l.length = j + f → st.m = M → st.s 1 = .slice n2 [] (Ar l) → st.s 2 = .ptr [0] 0 → st.s 5 = .slice n5 [] (Ar l) → st.s 6 = .int .i64 (j : Int) → AV S [] dc66l0 Q st g := by
 intro f
 induction f with
 | zero =>
  intro j st g hf hm h1 h2 h5 h6
  refine Ad dc66l0.eq_1 ?_
  have : ¬ ((j : Int) < l.length) := by omega
  simp only [↓go1, go2, go4, reduceIte, Nat.reduceEqDiff, Nat.reduceAdd, h1, h6, this, Aq]
  exact hexit _ hm h1 h2
 | succ f ih =>
  intro j st g hf hm h1 h2 h5 h6
  refine Ad dc66l0.eq_1 ?_
  have hj : j < l.length := by omega
  have hlt : ((j : Int) < l.length) := by omega
  have hj0 : (0 : Int) ≤ (j : Int) := by omega
  have hw : IntKind.i64.wrap ((j : Int) + 1) = ((j + 1 : Nat) : Int) := w64 (by omega) (by omega)
  have hat : (Ar l)[j]? = some (.agg [.str (AQ l j).1, .int .i64 (AQ l j).2.1, .bool (AQ l j).2.2]) := Cp hj
  generalize AQ l j = m at hat
  obtain ⟨p, q, b⟩ := m
  simp only at hat
  have h46 : F46 [.agg [.str p, .int .i64 q, .bool b]] = some (.agg [.str p, .int .i64 q, .bool b]) := F46_eq (m := (p, q, b))
  obtain ⟨st_s, st_m, st_c⟩ := st
  simp only at hm h1 h2 h5 h6
  simp only [↓go1, gB1, reduceIte, Nat.reduceEqDiff, Nat.reduceAdd, h1, h5, h6, hlt, hj0, Int.toNat_natCast, hat, Aq, Aa s46, h46, lv3, bne_self_eq_false, Nat.le_refl, List.take_succ_cons, List.take_zero]
  refine AA.intro (Al ?_) ?_
  ·first | rfl | (simp [Bh, A1, rds, AG, s46, Ai]; done)
  simp only [↓go1, go2, go3, reduceIte, Nat.reduceEqDiff, Nat.reduceAdd, h6, hw]
  exact ih (j + 1) _ _ (by omega) hm h1 h2 h5 rfl
open Classical in
theorem F146_eq {n : Bool} {l : List Mt} (hl : MsOk l) (hn : n = true → l = []) : F146 [.agg [.slice n [] (Ar l)]] = some (.slice n [] (Ar l)) := by
 show (if _ then _ else _) = _
 rw [if_pos (mtsOk_mk (by have := hl.1; omega) hn)]
open Classical in
theorem F148_eq {n : Bool} {l : List Mt} (hl : MsOk l) : F148 [.agg [.slice n [] (Ar l)]] = some (.int .i64 ((Cq l).length : Int)) := by
 have h : Ar l = Ar (Bw (Ar l)) ∧ (Ar l).length ≤ 1000 ∧ ∀ m ∈ Bw (Ar l), m.1.length ≤ 1000000 := ⟨by rw [AY], by rw [Aq]; exact hl.1, fun m hm => by rw [AY] at hm; have := hl.2 m hm; omega⟩
 show (if _ then _ else _) = _
 rw [if_pos h, AY, lenM_eq]
theorem ok66 : (Ai F66).ok Tryz.prog 66 := by
 obtain ⟨S, hS, hl⟩ := AJ (Ab ok146 (Ab ok46 (Ab ok126 (Ab ok147 (Ab ok148 Ae)))))
 have s146 := hl 146 _ rfl
 have s46 := hl 46 _ rfl
 have s126 := hl 126 _ rfl
 have s147 := hl 147 _ rfl
 have s148 := hl 148 _ rfl
 clear hl
 refine AL hS fn66 (fun _ => by simp [mkMM]) (fun p hp => ?_)
 obtain ⟨n1, n2, l⟩ := p
 obtain ⟨hl, hn⟩ := hp
 replace hl : MsOk l := hl
 replace hn : n1 = true → l = [] := hn
 have h146 := F146_eq hl hn
 have h126 := F126_eq (n := n1) hl
 have h147 := F147_eq (n := n2) hl
 have h148 := F148_eq (n := n1) hl
 unfold dc66 mkMM
 simp only
 simp only [↓go1, gB1, reduceIte, Nat.reduceEqDiff, Nat.reduceAdd, Aq, Aa s146, h146, Ac, Ag, Ah, Nat.zero_le, Nat.reduceLT, Nat.sub_zero, List.getElem?_cons_zero, and_self, Option.bind_some]
 refine loop66 (l := l) (n2 := n2) (n5 := n1) s46 hl.1 (fun st hm h1 h2 => ?_) l.length 0 _ _ (by omega) rfl rfl rfl rfl rfl
 simp only [↓go1, gB1, reduceIte, Nat.reduceEqDiff, Nat.reduceAdd, h1, h2, hm, Aa s126, h126, Aa s147, h147, Aa s148, h148, Ac, Ag, Ah, Nat.zero_le, Nat.reduceLT, Nat.sub_zero, List.getElem?_cons_zero, and_self, Option.bind_some]
end Go.Vd
namespace Go.Vd
open Go.Proofs
def dc384 : DC := (sr [oo 1 (.box (.t 0)), cb 2 false] (sr [ff 3 1 1, ll 4 3, bi 5 .geq 4 0, mm 6 5, og 7 (.faddr 1 (.t 1)) 3 true, og 8 (.load none (.t 7)) 3 true, og 9 (.faddr 0 (.t 1)) 3 true, og 10 (.load none (.t 9)) 3 true, og 11 (.len true (.t 10)) 3 true, og 12 (.bin .leq (.t 8) (.t 11)) 3 true, oo 13 (.pick (.t 6) (.t 12) (.c (.bool false))), mm 2 13] .ret))
theorem fn384 : Fn Tryz.prog 384 14 dc384 [.t 2] := Ao Tryz.func384
def dc385 : DC := (sr [oo 1 (.box (.t 0)), ci 2 0] (sr [ff 3 0 1, ll 4 3, nn 5 true 4, ff 6 1 1, ll 7 6, bt 8 .sub 5 7, mm 2 8] .ret))
theorem fn385 : Fn Tryz.prog 385 9 dc385 [.t 2] := Ao Tryz.func385
def dc404 : DC := (sr [cb 2 false] (sr [mm 3 0, bi 4 .geq 3 1, mm 5 4, og 6 (.mv (.t 0)) 2 true, og 7 (.bin .leq (.t 6) (.c (.int .i64 8))) 2 true, oo 8 (.pick (.t 5) (.t 7) (.c (.bool false))), mm 2 8] .ret))
theorem fn404 : Fn Tryz.prog 404 9 dc404 [.t 2] := Ao Tryz.func404
def dc405 : DC := (sr [oo 2 (.box (.t 0)), oo 4 (.alloc [(.str []), (.int .i64 0), (.int .i64 0)])] (sr [mm 5 1, ff 6 2 2, oz (.store 1 (.t 6) (.t 5))] (sr [lk 7 3 2, oz (.store 3 (.t 4) (.t 7))] .ret)))
theorem fn405 : Fn Tryz.prog 405 8 dc405 [.cell (some 3) 4] := Ao Tryz.func405
def dc383l0 : DC := (sr [bt 44 .lss 43 42] (.seq (cd 44 .skip (.exit 1)) (.seq (.block 2 (sr [ii 45 1 41 43, ll 46 45, mm 8 46] (.row [mm 47 6, oo 48 (.bin .shl (.t 47) (.c (.int .u64 8))), mm 49 8, oo 50 (.conv .u64 (.t 49)), bt 51 .or 48 50, mm 6 51]))) (.row [bi 52 .add 43 1, mm 43 52]))))
def dc383 : DC := (sr [oo 2 (.box (.t 0)), oo 4 (.mv (.c (.int .u64 0))), oo 5 (.alloc [(.str []), (.int .i64 0), (.int .i64 0)])] (.seq (.block 0 (sr [ff 10 2 2, ll 11 10, bi 12 .neq 11 0, mm 9 12] (cd 9 (.seq (.drawn [lk 13 3 2, oo 4 (.mv (.c (.int .u64 0))), oz (.store 3 (.t 5) (.t 13))] []) .ret) (sr [lk 15 3 2, cc 16 384 [(.t 15)], oo 17 (.un .not (.t 16)), mm 18 17, og 19 (.mv (.t 1)) 3 false, og 20 (.call (.c (.fn 404 [])) [(.t 19)]) 3 false, og 21 (.un .not (.t 20)) 3 false, oo 22 (.pick (.t 18) (.c (.bool true)) (.t 21)), mm 14 22] (cd 14 (sr [lk 23 3 2, cc 24 405 [(.t 23), (.c (.int .i64 2))], oo 4 (.mv (.c (.int .u64 0))), oz (.store 3 (.t 5) (.t 24))] .ret) (sr [lk 26 3 2, cc 27 385 [(.t 26)], mm 28 1, bt 29 .lss 27 28, mm 25 29] (cd 25 (sr [lk 30 3 2, cc 31 405 [(.t 30), (.c (.int .i64 3))], oo 4 (.mv (.c (.int .u64 0))), oz (.store 3 (.t 5) (.t 31))] .ret) .skip))))))) (sr [oo 6 (.mv (.c (.int .u64 0)))] (.seq (sr [ff 32 0 2, ll 33 32, ff 34 1 2, ll 35 34, ff 36 1 2, ll 37 36, mm 38 1, bt 39 .add 37 38, oo 40 (.cuts (.t 33) (some (.t 35)) (some (.t 39))), oo 41 (.s2b (.t 40)), nn 42 false 41, ci 43 0] (.block 1 (.loop dc383l0))) (sr [ff 53 1 2, ll 54 53, mm 55 1, bt 56 .add 54 55, ff 57 1 2, oz (.store 1 (.t 57) (.t 56))] (.seq (.drawn [mm 58 6, lk 59 3 2, mm 4 58, oz (.store 3 (.t 5) (.t 59))] []) .ret))))))
theorem fn383 : Fn Tryz.prog 383 60 dc383 [.t 4, .cell (some 3) 5] := Ao Tryz.func383
def dc333 : DC := (sr [ci 2 0] (sr [mm 6 0, nk 7 6, lk 8 3 7, cc 9 383 [(.t 8), (.c (.int .i64 1))], mm 5 9, xx 10 0 5, xx 11 1 5, oo 4 (.alloc [(.str []), (.int .i64 0), (.int .i64 0)]), mm 3 10, oz (.store 3 (.t 4) (.t 11))] (sr [mm 12 0, lk 13 3 4, nk 14 12, oz (.store 3 (.t 14) (.t 13))] (sr [mm 15 3, oo 16 (.conv .i64 (.t 15)), mm 2 16] .ret))))
theorem fn333 : Fn Tryz.prog 333 17 dc333 [.t 2] := Ao Tryz.func333
def dc334 : DC := (sr [oo 1 (.box (.t 0)), ci 2 0] (.seq (.block 0 (sr [ff 4 2 1, ll 5 4, bi 6 .neq 5 0, mm 3 6] (cd 3 (sr [ff 7 2 1, ll 8 7, mm 2 8] .ret) (sr [lk 10 3 1, cc 11 384 [(.t 10)], oo 12 (.un .not (.t 11)), mm 9 12] (cd 9 (sr [ci 2 2] .ret) (sr [lk 14 3 1, cc 15 385 [(.t 14)], bi 16 .gtr 15 0, mm 13 16] (cd 13 (sr [ci 2 4] .ret) .skip))))))) (sr [ci 2 0] .ret)))
theorem fn334 : Fn Tryz.prog 334 17 dc334 [.t 2] := Ao Tryz.func334
def dc240l0 : DC := (sr [bt 30 .lss 29 28] (.seq (cd 30 .skip (.exit 0)) (.seq (.block 1 (sr [mm 31 4, cc 32 333 [(.t 31)], mm 33 4, cc 34 333 [(.t 33)], mm 8 32, mm 9 34] (sr [mm 35 7, mm 36 35, og 37 (.mv (.t 9)) 1 false, og 38 (.bin .gtr (.t 37) (.c (.int .i64 3))) 1 false, oo 39 (.pick (.t 36) (.c (.bool true)) (.t 38)), mm 7 39] (.row [ff 40 3 5, ll 41 40, mm 42 8, mm 43 9, bi 44 .and 43 1, bi 45 .neq 44 0, mm 46 9, bi 47 .and 46 2, bi 48 .neq 47 0, oo 49 (.build [(.int .i64 0), (.bool false), (.bool false)] [(0, 1, (.t 42)), (1, 1, (.t 45)), (2, 1, (.t 48))]), oo 50 (.bslice 228 3 [(.t 49)]), oo 51 (.app 228 3 16 (.t 41) (.t 50)), ff 52 3 5, oz (.store 1 (.t 52) (.t 51))])))) (.row [bi 53 .add 29 1, mm 29 53]))))
def dc240 : DC := (sr [oo 2 (.alloc [(.int .i64 0), (.bool false), (.int .i64 0), (.slice true [] [])]), ci 3 0] (sr [mm 11 0, oo 12 (.build [(.str []), (.int .i64 0), (.int .i64 0)] [(0, 1, (.t 11))]), oo 13 (.box (.t 12)), mm 4 13] (sr [mm 14 4, cc 15 333 [(.t 14)], oo 16 (.build [(.int .i64 0), (.bool false), (.int .i64 0), (.slice true [] [])] [(0, 1, (.t 15))]), oo 5 (.alloc [(.int .i64 0), (.bool false), (.int .i64 0), (.slice true [] [])]), oz (.store 4 (.t 5) (.t 16))] (sr [mm 17 4, cc 18 333 [(.t 17)], mm 6 18] (sr [mm 19 6, bi 20 .eql 19 1, mm 21 4, cc 22 333 [(.t 21)], ff 23 1 5, oz (.store 1 (.t 23) (.t 20)), ff 24 2 5, oz (.store 1 (.t 24) (.t 22))] (sr [mm 25 6, bi 26 .gtr 25 1, mm 7 26] (.seq (sr [mm 27 4, cc 28 333 [(.t 27)], ci 29 0] (.block 0 (.loop dc240l0))) (.seq (sr [mm 54 4, nk 55 54, lk 56 3 55, cc 57 334 [(.t 56)], mm 10 57] (.block 2 (sr [mm 59 10, bi 60 .eql 59 3, mm 58 60] (cd 58 (sr [oo 61 (.build [(.int .i64 0), (.bool false), (.int .i64 0), (.slice true [] [])] []), mm 62 10, oz (.store 4 (.t 2) (.t 61)), mm 3 62] .ret) (.seq (.drawn [mm 64 10, bi 65 .neq 64 0, mm 66 65, og 67 (.mv (.t 7)) 2 false, oo 68 (.pick (.t 66) (.c (.bool true)) (.t 67)), mm 69 68, og 70 (.load (some 4) (.t 5)) 5 false, og 71 (.call (.c (.fn 335 [])) []) 5 false, og 72 (.call (.c (.fn 191 [])) [(.t 70), (.t 71)]) 5 false, og 73 (.bin .neq (.t 72) (.c (.int .i64 0))) 5 false, oo 74 (.pick (.t 69) (.c (.bool true)) (.t 73)), mm 63 74] [(7, 6)]) (cd 63 (sr [oo 75 (.build [(.int .i64 0), (.bool false), (.int .i64 0), (.slice true [] [])] []), oz (.store 4 (.t 2) (.t 75)), ci 3 4] .ret) .skip)))))) (sr [lk 76 4 5, oz (.store 4 (.t 2) (.t 76)), ci 3 0] .ret)))))))))
theorem fn240 : Fn Tryz.prog 240 77 dc240 [.cell (some 4) 2, .t 3] := Ao Tryz.func240
def dc292l0 : DC := (sr [bt 14 .lss 13 12] (.seq (cd 14 .skip (.exit 0)) (.seq (.block 1 (sr [mm 15 13, mm 5 15] (.seq (.drawn [mm 16 0, mm 17 5, ii 18 1 16 17, ll 19 18, mm 20 1, mm 21 5, ii 22 1 20 21, ll 23 22, bt 24 .neq 19 23] []) (cd 24 (sr [cb 4 false] .ret) .skip)))) (.row [bi 25 .add 13 1, mm 13 25]))))
def dc292 : DC := (sr [cb 4 false] (.seq (sr [mm 6 0, nn 7 false 6, mm 8 1, nn 9 false 8, bt 10 .neq 7 9] (cd 10 (sr [cb 4 false] .ret) .skip)) (.seq (sr [mm 11 0, nn 12 false 11, ci 13 0] (.block 0 (.loop dc292l0))) (sr [cb 4 true] .ret))))
theorem fn292 : Fn Tryz.prog 292 26 dc292 [.t 4] := Ao Tryz.func292
def dc359l0 : DC := (sr [bt 14 .lss 13 12] (.seq (cd 14 .skip (.exit 0)) (.seq (.block 1 (sr [mm 15 13, mm 5 15] (.seq (.drawn [mm 16 0, mm 17 5, ii 18 3 16 17, lk 19 3 18, mm 20 1, mm 21 5, ii 22 3 20 21, lk 23 3 22, oo 24 (.seq true [(0, 0), (1, 1), (1, 2)] (.t 19) (.t 23))] []) (cd 24 (sr [cb 4 false] .ret) .skip)))) (.row [bi 25 .add 13 1, mm 13 25]))))
def dc359 : DC := (sr [cb 4 false] (.seq (sr [mm 6 0, nn 7 false 6, mm 8 1, nn 9 false 8, bt 10 .neq 7 9] (cd 10 (sr [cb 4 false] .ret) .skip)) (.seq (sr [mm 11 0, nn 12 false 11, ci 13 0] (.block 0 (.loop dc359l0))) (sr [cb 4 true] .ret))))
theorem fn359 : Fn Tryz.prog 359 26 dc359 [.t 4] := Ao Tryz.func359
def dc293 : DC := (sr [oo 2 (.box (.t 0)), oo 3 (.box (.t 1)), cb 4 false] (sr [ff 5 0 2, ll 6 5, ff 7 0 3, ll 8 7, bt 9 .eql 6 8, mm 10 9, og 11 (.faddr 1 (.t 2)) 5 true, og 12 (.load none (.t 11)) 5 true, og 13 (.faddr 1 (.t 3)) 5 true, og 14 (.load none (.t 13)) 5 true, og 15 (.beq false (.t 12) (.t 14)) 5 true, oo 16 (.pick (.t 10) (.t 15) (.c (.bool false))), mm 17 16, og 18 (.faddr 2 (.t 2)) 12 true, og 19 (.load none (.t 18)) 12 true, og 20 (.faddr 2 (.t 3)) 12 true, og 21 (.load none (.t 20)) 12 true, og 22 (.bin .eql (.t 19) (.t 21)) 12 true, oo 23 (.pick (.t 17) (.t 22) (.c (.bool false))), mm 24 23, og 25 (.faddr 3 (.t 2)) 19 true, og 26 (.load none (.t 25)) 19 true, og 27 (.faddr 3 (.t 3)) 19 true, og 28 (.load none (.t 27)) 19 true, og 29 (.call (.c (.fn 359 [])) [(.t 26), (.t 28)]) 19 true, oo 30 (.pick (.t 24) (.t 29) (.c (.bool false))), mm 4 30] .ret))
theorem fn293 : Fn Tryz.prog 293 31 dc293 [.t 4] := Ao Tryz.func293
def dc189 : DC := (sr [oo 2 (.box (.t 0)), oo 3 (.box (.t 1)), cb 4 false] (.seq (sr [ff 5 4 2, ll 6 5, ff 7 4 3, ll 8 7, cc 9 292 [(.t 6), (.t 8)], oo 10 (.un .not (.t 9)), mm 11 10, og 12 (.faddr 5 (.t 2)) 6 false, og 13 (.load (some 4) (.t 12)) 6 false, og 14 (.faddr 5 (.t 3)) 6 false, og 15 (.load (some 4) (.t 14)) 6 false, og 16 (.call (.c (.fn 293 [])) [(.t 13), (.t 15)]) 6 false, og 17 (.un .not (.t 16)) 6 false, oo 18 (.pick (.t 11) (.c (.bool true)) (.t 17))] (cd 18 (sr [cb 4 false] .ret) .skip)) (sr [ff 19 0 2, ll 20 19, ff 21 0 3, ll 22 21, bt 23 .eql 20 22, mm 24 23, og 25 (.faddr 1 (.t 2)) 5 true, og 26 (.load none (.t 25)) 5 true, og 27 (.faddr 1 (.t 3)) 5 true, og 28 (.load none (.t 27)) 5 true, og 29 (.bin .eql (.t 26) (.t 28)) 5 true, oo 30 (.pick (.t 24) (.t 29) (.c (.bool false))), mm 31 30, og 32 (.faddr 2 (.t 2)) 12 true, og 33 (.load none (.t 32)) 12 true, og 34 (.faddr 2 (.t 3)) 12 true, og 35 (.load none (.t 34)) 12 true, og 36 (.bin .eql (.t 33) (.t 35)) 12 true, oo 37 (.pick (.t 31) (.t 36) (.c (.bool false))), mm 38 37, og 39 (.faddr 3 (.t 2)) 19 true, og 40 (.load none (.t 39)) 19 true, og 41 (.faddr 3 (.t 3)) 19 true, og 42 (.load none (.t 41)) 19 true, og 43 (.bin .eql (.t 40) (.t 42)) 19 true, oo 44 (.pick (.t 38) (.t 43) (.c (.bool false))), mm 45 44, og 46 (.faddr 9 (.t 2)) 26 true, og 47 (.load none (.t 46)) 26 true, og 48 (.faddr 9 (.t 3)) 26 true, og 49 (.load none (.t 48)) 26 true, og 50 (.beq false (.t 47) (.t 49)) 26 true, oo 51 (.pick (.t 45) (.t 50) (.c (.bool false))), mm 4 51] .ret)))
theorem fn189 : Fn Tryz.prog 189 52 dc189 [.t 4] := Ao Tryz.func189
def dc190 : DC := (sr [oo 1 (.box (.t 0)), oo 2 (.alloc [(.int .u8 0), (.int .i64 0), (.int .i64 0), (.str []), (.slice true [] []), (.int .i64 0), (.bool false), (.int .i64 0), (.slice true [] []), (.bool false)])] (.seq (sr [ff 3 0 1, ll 4 3] (.block 0 (sr [oo 6 (.bin .eql (.t 4) (.c (.int .u8 0))), mm 5 6] (cd 5 (sr [ff 7 0 1, ll 8 7, ff 9 1 1, ll 10 9, oo 11 (.build [(.int .u8 0), (.int .i64 0), (.int .i64 0), (.str []), (.slice true [] []), (.int .i64 0), (.bool false), (.int .i64 0), (.slice true [] []), (.bool false)] [(0, 1, (.t 8)), (1, 1, (.t 10))]), oz (.store 10 (.t 2) (.t 11))] .ret) (sr [oo 13 (.bin .eql (.t 4) (.c (.int .u8 2))), mm 12 13] (cd 12 (sr [ff 14 0 1, ll 15 14, ff 16 2 1, ll 17 16, oo 18 (.build [(.int .u8 0), (.int .i64 0), (.int .i64 0), (.str []), (.slice true [] []), (.int .i64 0), (.bool false), (.int .i64 0), (.slice true [] []), (.bool false)] [(0, 1, (.t 15)), (2, 1, (.t 17))]), oz (.store 10 (.t 2) (.t 18))] .ret) (sr [oo 20 (.bin .eql (.t 4) (.c (.int .u8 3))), mm 19 20] (cd 19 (sr [ff 21 0 1, ll 22 21, ff 23 2 1, ll 24 23, ff 25 3 1, ll 26 25, oo 27 (.build [(.int .u8 0), (.int .i64 0), (.int .i64 0), (.str []), (.slice true [] []), (.int .i64 0), (.bool false), (.int .i64 0), (.slice true [] []), (.bool false)] [(0, 1, (.t 22)), (2, 1, (.t 24)), (3, 1, (.t 26))]), oz (.store 10 (.t 2) (.t 27))] .ret) (sr [oo 29 (.bin .eql (.t 4) (.c (.int .u8 4))), mm 28 29] (cd 28 (sr [ff 30 0 1, ll 31 30, ff 32 5 1, lk 33 4 32, oo 34 (.build [(.int .u8 0), (.int .i64 0), (.int .i64 0), (.str []), (.slice true [] []), (.int .i64 0), (.bool false), (.int .i64 0), (.slice true [] []), (.bool false)] [(0, 1, (.t 31)), (5, 4, (.t 33))]), oz (.store 10 (.t 2) (.t 34))] .ret) (sr [oo 36 (.bin .eql (.t 4) (.c (.int .u8 5))), mm 35 36] (cd 35 (sr [ff 37 0 1, ll 38 37, ff 39 4 1, ll 40 39, oo 41 (.build [(.int .u8 0), (.int .i64 0), (.int .i64 0), (.str []), (.slice true [] []), (.int .i64 0), (.bool false), (.int .i64 0), (.slice true [] []), (.bool false)] [(0, 1, (.t 38)), (4, 1, (.t 40))]), oz (.store 10 (.t 2) (.t 41))] .ret) (sr [oo 43 (.bin .eql (.t 4) (.c (.int .u8 6))), mm 42 43] (cd 42 (sr [ff 44 0 1, ll 45 44, ff 46 9 1, ll 47 46, oo 48 (.build [(.int .u8 0), (.int .i64 0), (.int .i64 0), (.str []), (.slice true [] []), (.int .i64 0), (.bool false), (.int .i64 0), (.slice true [] []), (.bool false)] [(0, 1, (.t 45)), (9, 1, (.t 47))]), oz (.store 10 (.t 2) (.t 48))] .ret) .skip)))))))))))))) (sr [ff 49 0 1, ll 50 49, oo 51 (.build [(.int .u8 0), (.int .i64 0), (.int .i64 0), (.str []), (.slice true [] []), (.int .i64 0), (.bool false), (.int .i64 0), (.slice true [] []), (.bool false)] [(0, 1, (.t 50))]), oz (.store 10 (.t 2) (.t 51))] .ret)))
theorem fn190 : Fn Tryz.prog 190 52 dc190 [.cell (some 10) 2] := Ao Tryz.func190
end Go.Vd
namespace Go.Vd
open Go.RowKit
def mQ (n : Nat) (F : List D → List D → Option (D × List D)) : Summ where
 rd := fun ds _ => match ds with
  | .ptr i 0 :: _ => AG i 0 n
  | _ => []
 ex := fun ds m _ => match ds with
  | .ptr i 0 :: rest => match Af m i 0 n with
   | some cs => (F cs rest).map fun y => (y.1, [(i, 0, y.2)])
   | none => none
  | _ => none
theorem mQ_loc {n : Nat} {F : List D → List D → Option (D × List D)} (ds : List D) (m m' : Mem) (fr : Id) (h : ∀ l ∈ (mQ n F).rd ds m, m l.1 l.2 = m' l.1 l.2) : (mQ n F).ex ds m fr = (mQ n F).ex ds m' fr := by
 simp only [mQ] at h ⊢
 split
 ·rename_i i rest
  rw [Cl (m := m) (m' := m') h]
 ·rfl
theorem D6 {n : Nat} {F : List D → List D → Option (D × List D)} {i : Id} {m : Mem} {rest : List D} {fr : Id} : (mQ n F).ex (.ptr i 0 :: rest) m fr = (Af m i 0 n).bind fun cs => (F cs rest).map fun y => (y.1, [(i, 0, y.2)]) := by
 simp only [mQ]
 cases Af m i 0 n <;> rfl
theorem mQ_inv {n : Nat} {F : List D → List D → Option (D × List D)} {ds : List D} {m : Mem} {fr : Id} {r : D} {u : Upd} (h : (mQ n F).ex ds m fr = some (r, u)) :
  ∃ i rest cs cs', ds = .ptr i 0 :: rest ∧ Af m i 0 n = some cs ∧ F cs rest = some (r, cs') ∧ u = [(i, 0, cs')] := by
 simp only [mQ] at h
 split at h
 ·rename_i i rest
  split at h
  ·rename_i cs hcs
   rw [Option.map_eq_some_iff] at h
   obtain ⟨y, hF, h⟩ := h
   simp only [Prod.mk.injEq] at h
   obtain ⟨rfl, rfl⟩ := h
   exact ⟨i, rest, cs, y.2, rfl, hcs, hF, rfl⟩
  ·cases h
 ·cases h
section
variable {m m' : Mem} {i j : Id} {n o k : Nat} {cs ys : List D} {d : D} {fr : Id}
theorem rd_at (h : Af m i 0 n = some cs) (hd : cs[k]? = some d) : m i k = some d := by
 obtain ⟨h1, h2⟩ := A8 h
 have hk : k < n := by rw [← h1]; exact (List.getElem?_eq_some_iff.1 hd).1
 have := h2 k hk
 rw [Nat.zero_add] at this
 rw [this, hd]
theorem rd_aux : ∀ {ds : List D} {m : Mem} {p : Nat}, (∀ k d, ds[k]? = some d → m i (p + k) = some d) → Af m i p ds.length = some ds
 | [], m, p, _ => rfl
 | x :: r, m, p, h => by
  have h0 := h 0 x rfl
  rw [Nat.add_zero] at h0
  have h1 := rd_aux (ds := r) (m := m) (p := p + 1) (fun k d hd => by
   have := h (k + 1) d (by simpa using hd)
   rw [show p + (k + 1) = p + 1 + k by omega] at this
   exact this)
  simp only [Af, List.length_cons, h0, h1, Option.map_some]
theorem rd_sub (h : Af m i 0 n = some cs) (hk : o + k ≤ n) : Af m i o k = some ((cs.drop o).take k) := by
 obtain ⟨h1, h2⟩ := A8 h
 have hl : ((cs.drop o).take k).length = k := by rw [List.length_take, List.length_drop]; omega
 have := rd_aux (i := i) (m := m) (p := o) (ds := (cs.drop o).take k) (fun q d hd => by
  rw [List.getElem?_take] at hd
  split at hd
  ·rw [List.getElem?_drop] at hd
   exact rd_at h hd
  ·cases hd)
 rw [hl] at this
 exact this
theorem rd_put (h : Af m i 0 n = some cs) (hk : o + ys.length ≤ n) : Af (m.put i o ys) i 0 n = some (cs.take o ++ ys ++ cs.drop (o + ys.length)) := by
 obtain ⟨h1, h2⟩ := A8 h
 have hl : (cs.take o ++ ys ++ cs.drop (o + ys.length)).length = n := by simp only [List.length_append, List.length_take, List.length_drop]; omega
 have := rd_aux (i := i) (m := m.put i o ys) (p := 0) (ds := cs.take o ++ ys ++ cs.drop (o + ys.length)) (fun q d hd => by
  rw [Nat.zero_add]
  simp only [Mem.put]
  have hto : (cs.take o).length = o := by rw [List.length_take]; omega
  by_cases hq : q < o
  ·have hc : ¬ (True ∧ o ≤ q ∧ q < o + ys.length) := by omega
   first
    | rw [if_neg (by simp; omega)]
    | skip
   rw [List.append_assoc, List.getElem?_append_left (by omega), List.getElem?_take, if_pos hq] at hd
   exact rd_at h hd
  ·by_cases hq2 : q < o + ys.length
   ·rw [if_pos (by simp; omega)]
    rw [List.append_assoc, List.getElem?_append_right (by omega), hto, List.getElem?_append_left (by omega)] at hd
    exact hd
   ·rw [if_neg (by simp; omega)]
    rw [List.append_assoc, List.getElem?_append_right (by omega), hto, List.getElem?_append_right (by omega), List.getElem?_drop] at hd
    rw [show o + ys.length + (q - o - ys.length) = q by omega] at hd
    exact rd_at h hd)
 rw [hl] at this
 exact this
def Bm (n : Nat) (i : Id) (m m' : Mem) : Prop := ∀ (j : Id) (o : Nat) (x : D), (j ≠ i ∨ n ≤ o) → m j o = some x → m' j o = some x
theorem Bm.refl : Bm n i m m := fun _ _ _ _ h => h
theorem Bm.own (h : Bm n i m m') (ho : o + ys.length ≤ n) : Bm n i m (m'.put i o ys) := fun j p x hj hx => by
 have h1 := h j p x hj hx
 simp only [Mem.put]
 split
 ·rename_i hc
  exfalso
  rcases hj with hj | hj
  ·exact hj (by first | exact hc.1 | (simp at hc; exact hc.1))
  ·omega
 ·exact h1
theorem Bm.new (hfr : ∀ i o, fr <:+ i → m i o = none) (l : List Nat) (h : Bm n i m m') : Bm n i m (m'.put (l ++ k :: fr) o ys) := fun j p x hj hx => by
 have h1 := h j p x hj hx
 have hne : j ≠ l ++ k :: fr := fun e => by
  rw [e, hfr _ _ ⟨l ++ [k], by simp⟩] at hx
  cases hx
 rw [Mem.put_other hne]
 exact h1
theorem Bm.new0 (hfr : ∀ i o, fr <:+ i → m i o = none) (h : Bm n i m m') : Bm n i m (m'.put (k :: fr) o ys) := Bm.new hfr [] h
end
theorem m_ok {P : Program} {S : Summs} {f : FuncId} {N : Nat} {dc : DC} {rs : List RV} (hS : Summs.ok P S) (hf : Fn P f N dc rs) {n : Nat} {F : List D → List D → Option (D × List D)} (hn : 0 < n) (hN : ∀ cs rest y, F cs rest = some y → rest.length + 1 ≤ N)
  (h : ∀ (i : Id) (m : Mem) (fr : Id) (cs rest : List D) (r : D) (cs' : List D), Af m i 0 n = some cs → F cs rest = some (r, cs') → (∀ j o, fr <:+ j → m j o = none) → (∀ k l, (i = l ++ k :: fr) = False) → (∀ k, (i = k :: fr) = False) →
   dc.wp S fr (De rs fun d m' => d = r ∧ Af m' i 0 n = some cs' ∧ Bm n i m m') ⟨Bi (.ptr i 0 :: rest), m, 0⟩) : (mQ n F).ok P f := by
 refine opn_ok2 hS hf mQ_loc (fun ds m fr r u hex hfr => ?_)
 obtain ⟨i, rest, cs, cs', rfl, hcs, hF, rfl⟩ := mQ_inv hex
 have hi0 : ∃ x, m i 0 = some x := by
  obtain ⟨h1, h2⟩ := A8 hcs
  have := h2 0 hn
  rw [List.getElem?_eq_getElem (by omega)] at this
  exact ⟨_, this⟩
 obtain ⟨x0, hx0⟩ := hi0
 have hni : ∀ k l, (i = l ++ k :: fr) = False := fun k l => eq_false (fun e => by
  rw [e, hfr _ _ ⟨l ++ [k], by simp⟩] at hx0
  cases hx0)
 refine ⟨hN _ _ _ hF, ?_⟩
 have hw := h i m fr cs rest r cs' hcs hF hfr hni (fun k => hni k [])
 refine wp_mono' hw (fun e st' he => ?_)
 obtain ⟨he1, d, he2, rfl, hc', ho⟩ := he
 refine ⟨he1, d, he2, rfl, fun j o x hx => ?_⟩
 obtain ⟨h1, h2⟩ := A8 hc'
 have hx' : (m.put i 0 cs') j o = some x := hx
 by_cases hj : j = i
 ·subst hj
  by_cases ho' : o < n
  ·have := h2 o ho'
   rw [Nat.zero_add] at this
   rw [this]
   simp only [Mem.put] at hx'
   rw [if_pos (by simp; omega)] at hx'
   simpa using hx'
  ·have hx2 : m j o = some x := by
    simp only [Mem.put] at hx'
    rw [if_neg (by simp; omega)] at hx'
    exact hx'
   exact ho j o x (.inr (by omega)) hx2
 ·rw [Mem.put_other hj] at hx'
  exact ho j o x (.inl hj) hx'
def mkJ (p : List (List UInt8) × List UInt8) : List D := [.slice false [] (p.1.map .str), .str p.2]
theorem mkJ_inj (x y : List (List UInt8) × List UInt8) (e : mkJ x = mkJ y) : x = y := by
 simp only [mkJ, List.cons.injEq, D.slice.injEq, D.str.injEq, true_and, and_true] at e
 exact Prod.ext ((List.map_inj_right (fun a b h => by simpa using h)).1 e.1) e.2
theorem flatS : ∀ l : List (List UInt8), flat (l.map D.str) = l.map D.str
 | [] => rfl
 | x :: r => by
  have ih := flatS r
  simp only [List.map_cons, flat, ih]
  rfl
noncomputable def joinF : List D → Option D := FX mkJ (fun p => p.1 ≠ [] ∧ p.1.length ≤ 1000 ∧ sumL p.1 ≤ 1000000 ∧ p.2.length ≤ 1000 ∧ (Lib.join p.1 p.2).length ≤ 10000000) (fun p => .str (Lib.join p.1 p.2))
theorem joinF_ok {P : Program} {ρ : Go.Shelf.Ren} (L : Go.Proofs.Lays.n156 P ρ) (X : Go.Proofs.Builder.Extra P ρ) (ent : ∃ fn, P.funcs[ρ.f 156]? = some fn ∧ fn.body.isSome = true ∧ (fn.name == "runtime.NumGoroutine") = false) : (Ai joinF).ok P (ρ.f 156) := by
 refine ⟨ent, fun ds m m' fr _ => rfl, ?_⟩
 intro B w0 w m g fr ds vs r u hi hfresh hl hrep hex
 simp only [Ai] at hex
 split at hex
 ·rename_i hcalm
  rw [Option.map_eq_some_iff] at hex
  obtain ⟨r', hr, hex⟩ := hex
  simp only [Prod.mk.injEq] at hex
  obtain ⟨rfl, rfl⟩ := hex
  obtain ⟨⟨l, s⟩, ⟨h1, h2, h3, h4, h5⟩, hmk, rfl⟩ := FX_get hr
  simp only at h1 h2 h3 h4 h5
  have hrep0 : ∀ (j : Nat) d v, (mkJ (l, s))[j]? = some d → vs[j]? = some v → Rep w g d v := by
   intro j d v hd hv
   rw [hmk, List.getElem?_map, Option.map_eq_some_iff] at hd
   obtain ⟨d', hd', rfl⟩ := hd
   exact (hrep j d' v hd' hv).un
  have hlen : ds.length = 2 := by
   have := congrArg List.length hmk
   simpa [mkJ] using this.symm
  match vs, hl.trans hlen with
  | [v, v1], _ =>
   have r0 := hrep0 0 _ v rfl rfl
   have r1 := hrep0 1 _ v1 rfl rfl
   rw [r1.str_inv]
   obtain ⟨ad, n, c, sz, ws, rfl, hn, hnc, hsz, hwl, hrp, hcl, _⟩ := r0.slice_list
   have hn' : n = l.length := by simpa using hn
   subst hn'
   have hsz1 : sz = 1 := by
    cases l with
    | nil => exact absurd rfl h1
    | cons x r => exact (hsz (.str x) (by simp)).symm
   subst hsz1
   have hflat := flatS l
   rw [hflat] at hrp
   have hcell : ∀ (j : Nat) z, l[j]? = some z → w.cell? (ad.add j) = some (.string ⟨z.toArray⟩) := by
    intro j z hz
    have hj : j < l.length := (List.getElem?_eq_some_iff.1 hz).1
    have hjw : j < ws.length := by rw [hwl]; omega
    have hd : (l.map D.str)[j]? = some (.str z) := by rw [List.getElem?_map, hz]; rfl
    have := hrp.2.2 j (.str z) ws[j] hd (List.getElem?_eq_getElem hjw)
    rw [hcl j ws[j] (List.getElem?_eq_getElem hjw), this.str_inv]
   obtain ⟨b, off, spot⟩ := ad
   have hpos : 0 < l.length := List.length_pos_iff.2 h1
   have hc0 := hcell 0 _ (List.getElem?_eq_getElem hpos)
   have hspot : spot = none := by simpa [Addr.add] using World.cell?_spot hc0
   subst hspot
   have hblt : b < w.heap.size := by simpa [Addr.add] using World.block_lt_of_cell? _ _ hc0
   have hmap : (l.map fun x => (⟨x.toArray⟩ : ByteArray)).map (·.data.toList) = l := by simp [List.map_map, Function.comp_def]
   have hj : (⟨s.toArray⟩ : ByteArray).data.toList = s := rfl
   have := Go.Proofs.Any.strings_Join L X b off c (l.map fun x => (⟨x.toArray⟩ : ByteArray)) ⟨s.toArray⟩ w (fun j x hx => by
    rw [List.getElem?_map, Option.map_eq_some_iff] at hx
    obtain ⟨z, hz, rfl⟩ := hx
    have := hcell j z hz
    rw [C7] at this
    exact this) hblt (by simp; omega) (by simp; omega) (by rw [hmap, hj]; omega)
   rw [hmap, hj, List.length_map] at this
   refine this.mono ?_
   rintro ev w' ⟨rfl, hb⟩
   exact ⟨_, g.over w w', rfl, hi.over hb, Ext.over hi.gz hb, .str _, fun i hf _ => hf⟩
 ·cases hex
section
variable {α : Type} {mk : α → List D × List D} {ok : α → Prop} {res : α → D × List D}
open Classical in
noncomputable def FM (mk : α → List D × List D) (ok : α → Prop) (res : α → D × List D) : List D → List D → Option (D × List D) := fun cs rest => if h : ∃ a, ok a ∧ mk a = (cs, rest) then some (res (Classical.choose h)) else none
theorem FM_eq (inj : ∀ a b, mk a = mk b → a = b) {a : α} (ha : ok a) : FM mk ok res (mk a).1 (mk a).2 = some (res a) := by
 have h : ∃ b, ok b ∧ mk b = ((mk a).1, (mk a).2) := ⟨a, ha, rfl⟩
 unfold FM
 rw [dif_pos h, inj _ _ (Classical.choose_spec h).2]
theorem FM_get {cs rest : List D} {r : D × List D} (h : FM mk ok res cs rest = some r) : ∃ a, ok a ∧ mk a = (cs, rest) ∧ res a = r := by
 unfold FM at h
 split at h
 ·rename_i hx
  simp only [Option.some.injEq] at h
  exact ⟨_, (Classical.choose_spec hx).1, (Classical.choose_spec hx).2, h⟩
 ·cases h
theorem mx_ok {P : Program} {S : Summs} {f : FuncId} {N : Nat} {dc : DC} {rs : List RV} (hS : Summs.ok P S) (hf : Fn P f N dc rs) {n : Nat} (hn : 0 < n) (hN : ∀ a, (mk a).2.length + 1 ≤ N)
  (h : ∀ a, ok a → ∀ (i : Id) (m : Mem) (fr : Id), Af m i 0 n = some (mk a).1 → (∀ j o, fr <:+ j → m j o = none) → (∀ k l, (i = l ++ k :: fr) = False) → (∀ k, (i = k :: fr) = False) →
   dc.wp S fr (De rs fun d m' => d = (res a).1 ∧ Af m' i 0 n = some (res a).2 ∧ Bm n i m m') ⟨Bi (.ptr i 0 :: (mk a).2), m, 0⟩) : (mQ n (FM mk ok res)).ok P f := by
 refine m_ok hS hf hn (fun cs rest y hy => ?_) (fun i m fr cs rest r cs' hcs hF hfr h1 h2 => ?_)
 ·obtain ⟨a, _, e, _⟩ := FM_get hy
  have := hN a
  rw [e] at this
  exact this
 ·obtain ⟨a, ha, e, e2⟩ := FM_get hF
  have hh := h a ha i m fr
  rw [e, e2] at hh
  exact hh hcs hfr h1 h2
end
end Go.Vd
namespace Go.Vd
open Go.Proofs Go.RowKit
theorem res_t_cell {s : Nat → D} {m : Mem} {k : Option Nat} {a b : Nat} : BX [.t b, .cell k a] s m = (ldD m k (s a)).map fun d => .tup [s b, d] := by
 simp only [BX, rvAll, RV.of]
 cases ldD m k (s a) <;> rfl
theorem res_cell_tt {s : Nat → D} {m : Mem} {k : Option Nat} {a b c : Nat} : BX [.cell k a, .t b, .t c] s m = (ldD m k (s a)).map fun d => .tup [d, s b, s c] := by
 simp only [BX, rvAll, RV.of]
 cases ldD m k (s a) <;> rfl
theorem oth1 {i fr : Id} (h : ∀ k, (i = k :: fr) = False) (m : Mem) (k o : Nat) (ys : List D) (p n : Nat) : Af (m.put (k :: fr) o ys) i p n = Af m i p n := AD (fun e => (h k).mp e)
theorem oth3 {i fr : Id} (h : ∀ k l, (i = l ++ k :: fr) = False) (m : Mem) (a k o : Nat) (ys : List D) (p n : Nat) : Af (m.put (a :: k :: fr) o ys) i p n = Af m i p n := AD (fun e => (h k [a]).mp e)
theorem oth5 {i fr : Id} (h : ∀ k, (i = k :: fr) = False) (m : Mem) (k o : Nat) (ys : List D) (p n : Nat) : Af (m.put i o ys) (k :: fr) p n = Af m (k :: fr) p n := AD (fun e => (h k).mp e.symm)
theorem oth6 {i fr : Id} (h : ∀ k, (i = k :: fr) = False) (m : Mem) (k o : Nat) (ys : List D) (p : Nat) : m.put i o ys (k :: fr) p = m (k :: fr) p := Mem.put_other (fun e => (h k).mp e.symm)
def mk384 (p : Int) : List D := [.agg [.str [], .int .i64 0, .int .i64 p]]
theorem mk384_inj (x y : Int) (e : mk384 x = mk384 y) : x = y := by
 simpa [mk384] using e
noncomputable def F384 : List D → Option D := FX mk384 (fun p => True) (fun p => .bool true)
theorem F384_eq (p : Int) (h : True) : F384 (mk384 p) = some (.bool true) := AP (mk := mk384) (ok := fun p => True) (res := fun p => .bool true) (a := p) mk384_inj h
theorem ok384 : (Ai F384).ok Tryz.prog 384 := by
 have hS : Summs.ok Tryz.prog (fun _ => none) := Au
 refine AL hS fn384 (fun _ => by simp [mk384]) (fun p hp => ?_)
 unfold dc384 mk384
 simp only [↓go1, gB0, reduceIte, Nat.reduceEqDiff, Nat.reduceAdd, Int.cast_ofNat_Int, Int.le_refl, Ac, Nat.reduceLT]
 all_goals (first | rfl | exact ⟨rfl, rfl⟩)
def mk385 (p : Int) : List D := [.agg [.str [], .int .i64 0, .int .i64 p]]
theorem mk385_inj (x y : Int) (e : mk385 x = mk385 y) : x = y := by
 simpa [mk385] using e
noncomputable def F385 : List D → Option D := FX mk385 (fun p => True) (fun p => .int .i64 0)
theorem F385_eq (p : Int) (h : True) : F385 (mk385 p) = some (.int .i64 0) := AP (mk := mk385) (ok := fun p => True) (res := fun p => .int .i64 0) (a := p) mk385_inj h
theorem ok385 : (Ai F385).ok Tryz.prog 385 := by
 have hS : Summs.ok Tryz.prog (fun _ => none) := Au
 refine AL hS fn385 (fun _ => by simp [mk385]) (fun p hp => ?_)
 unfold dc385 mk385
 have w0 : IntKind.i64.wrap (0 : Int) = 0 := rfl
 simp only [↓go1, go2, go3, reduceIte, Nat.reduceEqDiff, Nat.reduceAdd, w0, Int.sub_self, Int.cast_ofNat_Int, Ac, Nat.zero_le, Nat.reduceLT, Nat.sub_zero, List.length_cons, List.length_nil, Nat.zero_add, List.getElem?_cons_zero, List.getElem?_cons_succ, and_self]
 all_goals (first | rfl | exact ⟨rfl, rfl⟩)
def mk404 (p : Unit) : List D := [.int .i64 1]
theorem mk404_inj (x y : Unit) (e : mk404 x = mk404 y) : x = y := by
 rfl
noncomputable def F404 : List D → Option D := FX mk404 (fun p => True) (fun p => .bool true)
theorem F404_eq (p : Unit) (h : True) : F404 (mk404 p) = some (.bool true) := AP (mk := mk404) (ok := fun p => True) (res := fun p => .bool true) (a := p) mk404_inj h
theorem ok404 : (Ai F404).ok Tryz.prog 404 := by
 have hS : Summs.ok Tryz.prog (fun _ => none) := Au
 refine AL hS fn404 (fun _ => by simp [mk404]) (fun p hp => ?_)
 unfold dc404 mk404
 simp only [↓go1, go2, go3, go4, reduceIte, Nat.reduceEqDiff, Nat.reduceAdd, Int.reduceLE, Int.le_refl, reduceCtorEq, and_self]
 all_goals (first | rfl | exact ⟨rfl, rfl⟩)
def mk405 (p : Int × Int) : List D := [.agg [.str [], .int .i64 0, .int .i64 p.1], .int .i64 p.2]
theorem mk405_inj (x y : Int × Int) (e : mk405 x = mk405 y) : x = y := by
 simp [mk405] at e; exact Prod.ext e.1 e.2
noncomputable def F405 : List D → Option D := FX mk405 (fun p => True) (fun p => .agg [.str [], .int .i64 0, .int .i64 p.2])
theorem F405_eq (p : Int × Int) (h : True) : F405 (mk405 p) = some (.agg [.str [], .int .i64 0, .int .i64 p.2]) := AP (mk := mk405) (ok := fun p => True) (res := fun p => .agg [.str [], .int .i64 0, .int .i64 p.2]) (a := p) mk405_inj h
theorem ok405 : (Ai F405).ok Tryz.prog 405 := by
 have hS : Summs.ok Tryz.prog (fun _ => none) := Au
 refine AL hS fn405 (fun _ => by simp [mk405]) (fun p hp => ?_)
 unfold dc405 mk405
 simp only [↓go1, gB0, reduceIte, Nat.reduceEqDiff, Nat.reduceAdd, and_false, Ac, Ag, Ah, Nat.reduceLT, Nat.reduceLeDiff, Nat.reduceSub, Option.bind_some, Option.isSome_some, List.cons.injEq, Nat.zero_ne_one, and_false, Nat.succ_ne_zero, AR, AE]
 all_goals (first | rfl | exact ⟨rfl, rfl⟩)
def mk383 (p : Bool) : List D := [.agg [.str [], .int .i64 0, .int .i64 (if p then 3 else 0)], .int .i64 1]
theorem mk383_inj (x y : Bool) (e : mk383 x = mk383 y) : x = y := by
 revert e; cases x <;> cases y <;> simp [mk383]
noncomputable def F383 : List D → Option D := FX mk383 (fun p => True) (fun p => .tup [.int .u64 0, .agg [.str [], .int .i64 0, .int .i64 3]])
theorem F383_eq (p : Bool) (h : True) : F383 (mk383 p) = some (.tup [.int .u64 0, .agg [.str [], .int .i64 0, .int .i64 3]]) := AP (mk := mk383) (ok := fun p => True) (res := fun p => .tup [.int .u64 0, .agg [.str [], .int .i64 0, .int .i64 3]]) (a := p) mk383_inj h
theorem ok383 : (Ai F383).ok Tryz.prog 383 := by
 obtain ⟨S, hS, hl⟩ := AJ (Ab ok384 (Ab ok404 (Ab ok385 (Ab ok405 Ae))))
 have s384 := hl 384 _ rfl
 have s404 := hl 404 _ rfl
 have s385 := hl 385 _ rfl
 have s405 := hl 405 _ rfl
 clear hl
 refine AL hS fn383 (fun _ => by simp [mk383]) (fun p hp => ?_)
 unfold dc383 mk383
 cases p with
 | true =>
  simp only [if_true]
  simp only [↓go1, gB0, reduceIte, Nat.reduceEqDiff, Nat.reduceAdd, Int.reduceEq, reduceCtorEq, Ac, Ag, Ah, Nat.reduceLT, Option.bind_some, Option.isSome_some, List.cons.injEq, Nat.succ_ne_zero]
  refine AA.intro (Al ?_) ?_
  ·first | rfl | (simp [Bh, A1, rds, AG]; done) | (simp [Bh, A1, rds, AG, Ai]; done)
  simp only [↓go1, gB0, reduceIte, Nat.reduceEqDiff, Nat.reduceAdd, res_t_cell, Ac, Ag, Ah, Nat.reduceLT, Option.bind_some, List.cons.injEq, Nat.succ_ne_zero, AE]
  all_goals (first | rfl | exact ⟨rfl, rfl⟩)
 | false =>
  have h384 : F384 [.agg [.str [], .int .i64 0, .int .i64 0]] = some (.bool true) := F384_eq 0 trivial
  have h385 : F385 [.agg [.str [], .int .i64 0, .int .i64 0]] = some (.int .i64 0) := F385_eq 0 trivial
  have h404 : F404 [.int .i64 1] = some (.bool true) := F404_eq () trivial
  have h405 : F405 [.agg [.str [], .int .i64 0, .int .i64 0], .int .i64 3] = some (.agg [.str [], .int .i64 0, .int .i64 3]) := F405_eq (0, 3) trivial
  simp only [if_false, Bool.false_eq_true]
  simp only [↓go1, gB0, reduceIte, Nat.reduceEqDiff, Nat.reduceAdd, Aa s384, h384, Aa s385, h385, Aa s404, h404, Aa s405, h405, Int.reduceLT, reduceCtorEq, res_t_cell, Ac, Ag, Ah, Nat.reduceLT, Option.bind_some, Option.isSome_some, List.cons.injEq, Nat.succ_ne_zero, AE]
  all_goals (first | rfl | exact ⟨rfl, rfl⟩)
def mk333 (p : Bool) : List D × List D := ([.str [], .int .i64 0, .int .i64 (if p then 3 else 0)], [])
theorem mk333_inj (x y : Bool) (e : mk333 x = mk333 y) : x = y := by
 revert e; cases x <;> cases y <;> simp [mk333]
def rs333 (p : Bool) : D × List D := (.int .i64 0, [.str [], .int .i64 0, .int .i64 3])
noncomputable def F333 : List D → List D → Option (D × List D) := FM mk333 (fun p => True) rs333
theorem F333_eq (p : Bool) (h : True) : F333 (mk333 p).1 (mk333 p).2 = some (rs333 p) := FM_eq (mk := mk333) (ok := fun p => True) (res := rs333) (a := p) mk333_inj h
theorem ok333 : (mQ 3 F333).ok Tryz.prog 333 := by
 obtain ⟨S, hS, hl⟩ := AJ (Ab ok383 Ae)
 have s383 := hl 383 _ rfl
 clear hl
 refine mx_ok hS fn333 (by decide) (fun _ => by simp [mk333]) (fun p hp i m fr hcs hfr hni hni0 => ?_)
 unfold dc333
 have h383 : F383 [.agg [.str [], .int .i64 0, .int .i64 (if p then 3 else 0)], .int .i64 1] = some (.tup [.int .u64 0, .agg [.str [], .int .i64 0, .int .i64 3]]) := F383_eq p trivial
 have hr : Af m i 0 3 = some [.str [], .int .i64 0, .int .i64 (if p then 3 else 0)] := hcs
 have hw : IntKind.i64.wrap 0 = 0 := rfl
 unfold mk333 rs333
 simp only [↓go1, gB1, reduceIte, Nat.reduceEqDiff, Nat.reduceAdd, hr, Aa s383, h383, hw, oth1 hni0, reduceCtorEq, List.getElem?_cons_zero, List.getElem?_cons_succ, and_self, Option.isSome_some, Av]
 repeat' (first | rfl | trivial | exact Av rfl | exact Bm.refl | exact Nat.le_of_ble_eq_true rfl | refine Bm.own ?_ ?_ | refine Bm.new0 hfr ?_ | refine Bm.new hfr [_] ?_ | refine And.intro ?_ ?_)
def mk334 (p : Unit) : List D := [.agg [.str [], .int .i64 0, .int .i64 3]]
theorem mk334_inj (x y : Unit) (e : mk334 x = mk334 y) : x = y := by
 rfl
noncomputable def F334 : List D → Option D := FX mk334 (fun p => True) (fun p => .int .i64 3)
theorem F334_eq (p : Unit) (h : True) : F334 (mk334 p) = some (.int .i64 3) := AP (mk := mk334) (ok := fun p => True) (res := fun p => .int .i64 3) (a := p) mk334_inj h
theorem ok334 : (Ai F334).ok Tryz.prog 334 := by
 have hS : Summs.ok Tryz.prog (fun _ => none) := Au
 refine AL hS fn334 (fun _ => by simp [mk334]) (fun p hp => ?_)
 unfold dc334 mk334
 simp only [↓go1, gB0, reduceIte, Nat.reduceEqDiff, Nat.reduceAdd, Int.reduceEq, Ac, Nat.reduceLT]
 all_goals (first | rfl | exact ⟨rfl, rfl⟩)
def mk240 (p : Unit) : List D := [.str []]
theorem mk240_inj (x y : Unit) (e : mk240 x = mk240 y) : x = y := by
 rfl
noncomputable def F240 : List D → Option D := FX mk240 (fun p => True) (fun p => .tup [.agg [.int .i64 0, .bool false, .int .i64 0, .slice true [] []], .int .i64 3])
theorem F240_eq (p : Unit) (h : True) : F240 (mk240 p) = some (.tup [.agg [.int .i64 0, .bool false, .int .i64 0, .slice true [] []], .int .i64 3]) := AP (mk := mk240) (ok := fun p => True) (res := fun p => .tup [.agg [.int .i64 0, .bool false, .int .i64 0, .slice true [] []], .int .i64 3]) (a := p) mk240_inj h
theorem ok240 : (Ai F240).ok Tryz.prog 240 := by
 obtain ⟨S, hS, hl⟩ := AJ (Ab ok333 (Ab ok334 Ae))
 have s333 := hl 333 _ rfl
 have s334 := hl 334 _ rfl
 clear hl
 refine AL hS fn240 (fun _ => by simp [mk240]) (fun p hp => ?_)
 unfold dc240 mk240
 have h334 : F334 [.agg [.str [], .int .i64 0, .int .i64 3]] = some (.int .i64 3) := F334_eq () trivial
 have ha : F333 [.str [], .int .i64 0, .int .i64 0] [] = some (.int .i64 0, [.str [], .int .i64 0, .int .i64 3]) := F333_eq false trivial
 have hb : F333 [.str [], .int .i64 0, .int .i64 3] [] = some (.int .i64 0, [.str [], .int .i64 0, .int .i64 3]) := F333_eq true trivial
 simp only [↓go1, gB0, reduceIte, Nat.reduceEqDiff, Nat.reduceAdd, AK s333, D6, ha, hb, A2, Bt, Int.reduceLT, Int.reduceEq, and_false, reduceCtorEq, Ac, Ag, Ah, Nat.reduceLT, Nat.reduceLeDiff, Nat.reduceSub, Option.bind_some, List.take_zero, Option.isSome_some, List.drop_zero, List.drop_succ_cons, List.cons.injEq, and_false, Nat.succ_ne_zero]
 refine Ad dc240l0.eq_1 ?_
 simp only [↓go1, gB0, reduceIte, Nat.reduceEqDiff, Nat.reduceAdd, Aa s334, h334, A2, Int.lt_irrefl, and_false, reduceCtorEq, Ac, Ag, Ah, Nat.reduceLT, Nat.reduceLeDiff, Nat.reduceSub, Option.bind_some, Option.isSome_some, List.cons.injEq, and_false, Nat.succ_ne_zero, AE, A3]
 all_goals (first | rfl | exact ⟨rfl, rfl⟩)
end Go.Vd
namespace Go.Vd
open Go.Proofs
def dc92 : DC := (sr [oo 1 (.box (.t 0)), ci 2 0] (.seq (sr [ff 4 0 1, ll 5 4, oo 6 (.bin .gtr (.t 5) (.c (.int .u8 6)))] (cd 6 (sr [ci 2 22] .ret) .skip)) (.seq (.drawn [lk 7 10 1, lk 8 10 1, cc 9 190 [(.t 8)], cc 10 189 [(.t 7), (.t 9)], mm 3 10] [(2, 0)]) (.seq (sr [ff 11 0 1, ll 12 11] (.block 0 (sr [oo 14 (.bin .eql (.t 12) (.c (.int .u8 0))), mm 13 14] (cd 13 (.row [mm 15 3, mm 16 15, og 17 (.faddr 1 (.t 1)) 1 true, og 18 (.load none (.t 17)) 1 true, og 19 (.bin .geq (.t 18) (.c (.int .i64 1))) 1 true, oo 20 (.pick (.t 16) (.t 19) (.c (.bool false))), mm 21 20, og 22 (.faddr 1 (.t 1)) 6 true, og 23 (.load none (.t 22)) 6 true, og 24 (.bin .leq (.t 23) (.c (.int .i64 99))) 6 true, oo 25 (.pick (.t 21) (.t 24) (.c (.bool false))), mm 3 25]) (.seq (sr [oo 27 (.bin .eql (.t 12) (.c (.int .u8 2))), mm 26 27] (cd 26 .skip (.row [oo 28 (.bin .eql (.t 12) (.c (.int .u8 3))), mm 26 28]))) (cd 26 (.row [mm 29 3, mm 30 29, og 31 (.faddr 2 (.t 1)) 1 true, og 32 (.load none (.t 31)) 1 true, og 33 (.bin .geq (.t 32) (.c (.int .i64 0))) 1 true, oo 34 (.pick (.t 30) (.t 33) (.c (.bool false))), mm 35 34, og 36 (.faddr 2 (.t 1)) 6 true, og 37 (.load none (.t 36)) 6 true, og 38 (.bin .leq (.t 37) (.c (.int .i64 999))) 6 true, oo 39 (.pick (.t 35) (.t 38) (.c (.bool false))), mm 40 39, og 41 (.faddr 3 (.t 1)) 11 true, og 42 (.load none (.t 41)) 11 true, og 43 (.len true (.t 42)) 11 true, og 44 (.bin .leq (.t 43) (.c (.int .i64 400))) 11 true, oo 45 (.pick (.t 40) (.t 44) (.c (.bool false))), mm 3 45]) (sr [oo 47 (.bin .eql (.t 12) (.c (.int .u8 4))), mm 46 47] (cd 46 (.row [mm 48 3, mm 49 48, og 50 (.faddr 5 (.t 1)) 1 true, og 51 (.load (some 4) (.t 50)) 1 true, og 52 (.build [(.int .i64 0), (.bool false)] [(0, 1, (.c (.int .i64 6)))]) 1 true, og 53 (.call (.c (.fn 191 [])) [(.t 51), (.t 52)]) 1 true, og 54 (.bin .eql (.t 53) (.c (.int .i64 0))) 1 true, oo 55 (.pick (.t 49) (.t 54) (.c (.bool false))), mm 3 55]) (sr [oo 57 (.bin .eql (.t 12) (.c (.int .u8 5))), mm 56 57] (cd 56 (.row [mm 58 3, mm 59 58, og 60 (.faddr 4 (.t 1)) 1 true, og 61 (.load none (.t 60)) 1 true, og 62 (.len false (.t 61)) 1 true, og 63 (.bin .leq (.t 62) (.c (.int .i64 64))) 1 true, oo 64 (.pick (.t 59) (.t 63) (.c (.bool false))), mm 65 64, og 66 (.faddr 4 (.t 1)) 7 true, og 67 (.load none (.t 66)) 7 true, og 68 (.call (.c (.fn 192 [])) [(.t 67), (.c (.fn 193 []))]) 7 true, og 69 (.un .not (.t 68)) 7 true, oo 70 (.pick (.t 65) (.t 69) (.c (.bool false))), mm 3 70]) .skip)))))))))) (.seq (sr [mm 71 3, oo 72 (.un .not (.t 71))] (cd 72 (sr [ci 2 2] .ret) .skip)) (sr [ci 2 0] .ret))))))
theorem fn92 : Fn Tryz.prog 92 73 dc92 [.t 2] := Ao Tryz.func92
def dc316l0 : DC := (.block 1 (sr [mm 4 0, bi 5 .rem 4 10, oo 6 (.bin .add (.c (.int .i64 48)) (.t 5)), oo 7 (.conv .u8 (.t 6)), oo 8 (.bslice 5 1 [(.t 7)]), oo 9 (.b2s (.t 8)), mm 10 3, bt 11 .add 9 10, mm 3 11] (sr [mm 12 0, bi 13 .quo 12 10, mm 0 13] (sr [mm 14 0, bi 15 .eql 14 0] (cd 15 (sr [mm 16 3, mm 2 16] .ret) .skip)))))
def dc316 : DC := (sr [oo 2 (.mv (.c (.str [])))] (sr [oo 3 (.mv (.c (.str [])))] (.block 0 (.loop dc316l0))))
theorem fn316 : Fn Tryz.prog 316 17 dc316 [.t 2] := Ao Tryz.func316
def dc222l0 : DC := (sr [bt 41 .lss 40 39] (.seq (cd 41 .skip (.exit 1)) (.seq (.block 2 (sr [ii 42 3 38 40, lk 43 3 42, oo 6 (.alloc [(.int .i64 0), (.bool false), (.bool false)]), oz (.store 3 (.t 6) (.t 43))] (.row [mm 44 4, lk 45 3 6, cc 46 318 [(.t 45)], oo 47 (.bslice 9 1 [(.t 46)]), oo 48 (.app 9 1 16 (.t 44) (.t 47)), mm 4 48]))) (.row [bi 49 .add 40 1, mm 40 49]))))
def dc222 : DC := (sr [oo 1 (.box (.t 0)), oo 2 (.mv (.c (.slice true [] [])))] (.seq (sr [ff 7 0 1, ll 8 7] (.block 0 (sr [oo 10 (.bin .eql (.t 8) (.c (.int .u8 0))), mm 9 10] (cd 9 (sr [ff 11 1 1, ll 12 11, cc 13 316 [(.t 12)], oo 14 (.bslice 9 1 [(.c (.str [101, 114, 114, 111, 114])), (.t 13)]), mm 2 14] .ret) (sr [oo 16 (.bin .eql (.t 8) (.c (.int .u8 2))), mm 15 16] (cd 15 (sr [ff 17 2 1, ll 18 17, cc 19 316 [(.t 18)], oo 20 (.bslice 9 1 [(.c (.str [111, 107])), (.c (.str [110, 117, 109, 98, 101, 114])), (.t 19)]), mm 2 20] .ret) (sr [oo 22 (.bin .eql (.t 8) (.c (.int .u8 3))), mm 21 22] (cd 21 (sr [oo 3 (.mv (.c (.str [45])))] (.seq (sr [ff 23 3 1, ll 24 23, oo 25 (.bin .neq (.t 24) (.c (.str [])))] (cd 25 (.row [ff 26 3 1, ll 27 26, cc 28 317 [(.t 27)], mm 3 28]) .skip)) (sr [ff 29 2 1, ll 30 29, cc 31 316 [(.t 30)], mm 32 3, oo 33 (.bslice 9 1 [(.c (.str [111, 107])), (.c (.str [102, 111, 117, 110, 100])), (.t 31), (.t 32)]), mm 2 33] .ret))) (sr [oo 35 (.bin .eql (.t 8) (.c (.int .u8 4))), mm 34 35] (cd 34 (sr [oo 4 (.mv (.c (.slice true [] [])))] (.seq (sr [ff 36 5 1, ff 37 3 36, ll 38 37, nn 39 false 38, ci 40 0] (.block 1 (.loop dc222l0))) (.seq (.drawn [ff 50 5 1, ff 51 0 50, ll 52 51, cc 53 316 [(.t 52)], ff 54 5 1, ff 55 1 54, ll 56 55, cc 57 319 [(.t 56)], ff 58 5 1, ff 59 2 58, ll 60 59, cc 61 316 [(.t 60)], mm 62 4, cc 63 320 [(.t 62)], oo 64 (.bslice 9 1 [(.c (.str [111, 107])), (.c (.str [97, 98, 111, 117, 116])), (.t 53), (.t 57), (.t 61), (.t 63)]), mm 2 64] [(3, 6), (3, 10), (7, 10)]) .ret))) (sr [oo 66 (.bin .eql (.t 8) (.c (.int .u8 5))), mm 65 66] (cd 65 (sr [ff 67 4 1, ll 68 67, cc 69 320 [(.t 68)], oo 70 (.bslice 9 1 [(.c (.str [111, 107])), (.c (.str [110, 97, 109, 101, 115])), (.t 69)]), mm 2 70] .ret) (sr [oo 72 (.bin .eql (.t 8) (.c (.int .u8 6))), mm 71 72] (cd 71 (.seq (sr [ff 73 9 1, ll 74 73] (cd 74 (sr [oo 75 (.bslice 9 1 [(.c (.str [111, 107])), (.c (.str [115, 101, 97, 108, 101, 100]))]), mm 2 75] .ret) .skip)) (sr [oo 76 (.bslice 9 1 [(.c (.str [111, 107])), (.c (.str [111, 112, 101, 110]))]), mm 2 76] .ret)) .skip)))))))))))))) (sr [oo 77 (.bslice 9 1 [(.c (.str [111, 107]))]), mm 2 77] .ret)))
theorem fn222 : Fn Tryz.prog 222 78 dc222 [.t 2] := Ao Tryz.func222
def dc121 : DC := (sr [oo 1 (.box (.t 0)), oo 2 (.mv (.c (.str []))), ci 3 0] (.seq (sr [lk 5 10 1, cc 6 92 [(.t 5)], mm 4 6] (sr [mm 7 4, bi 8 .neq 7 0] (cd 8 (sr [mm 9 4, oo 2 (.mv (.c (.str []))), mm 3 9] .ret) .skip))) (sr [lk 10 10 1, cc 11 222 [(.t 10)], cc 12 221 [(.t 11), (.c (.str [32]))], mm 2 12, ci 3 0] .ret)))
theorem fn121 : Fn Tryz.prog 121 13 dc121 [.t 2, .t 3] := Ao Tryz.func121
def dc120 : DC := (sr [oo 2 (.mv (.c (.str [])))] (sr [mm 6 0, oo 7 (.build [(.int .u8 0), (.int .i64 0), (.int .i64 0), (.str []), (.slice true [] []), (.int .i64 0), (.bool false), (.int .i64 0), (.slice true [] []), (.bool false)] [(1, 1, (.t 6))]), oo 3 (.alloc [(.int .u8 0), (.int .i64 0), (.int .i64 0), (.str []), (.slice true [] []), (.int .i64 0), (.bool false), (.int .i64 0), (.slice true [] []), (.bool false)]), oz (.store 10 (.t 3) (.t 7))] (.seq (sr [mm 8 0, bi 9 .eql 8 0] (cd 9 (.row [ff 10 0 3, oz (.store 1 (.t 10) (.c (.int .u8 1)))]) .skip)) (sr [lk 12 10 3, cc 13 121 [(.t 12)], mm 11 13, xx 14 0 11, xx 15 1 11, mm 4 14, mm 5 15] (sr [mm 16 4, mm 2 16] .ret)))))
theorem fn120 : Fn Tryz.prog 120 17 dc120 [.t 2] := Ao Tryz.func120
def dc223 : DC := (sr [oo 1 (.box (.t 0)), oo 2 (.mv (.c (.str []))), ci 3 0] (.seq (sr [lk 5 3 1, cc 6 98 [(.t 5)], mm 4 6] (sr [mm 7 4, bi 8 .neq 7 0] (cd 8 (sr [mm 9 4, oo 2 (.mv (.c (.str []))), mm 3 9] .ret) .skip))) (.seq (sr [ff 10 0 1, ll 11 10] (.block 0 (sr [oo 13 (.bin .eql (.t 11) (.c (.int .u8 1))), mm 12 13] (cd 12 (sr [ff 14 1 1, ll 15 14, oo 16 (.bin .add (.c (.str [109, 47])) (.t 15)), mm 2 16, ci 3 0] .ret) (sr [oo 18 (.bin .eql (.t 11) (.c (.int .u8 2))), mm 17 18] (cd 17 (sr [ff 19 1 1, ll 20 19, oo 21 (.bin .add (.c (.str [100, 47])) (.t 20)), ff 22 2 1, ll 23 22, oo 24 (.conv .u8 (.t 23)), oo 25 (.bslice 5 1 [(.c (.int .u8 0)), (.t 24)]), oo 26 (.b2s (.t 25)), bt 27 .add 21 26, mm 2 27, ci 3 0] .ret) (sr [oo 29 (.bin .eql (.t 11) (.c (.int .u8 3))), mm 28 29] (cd 28 (sr [ff 30 1 1, ll 31 30, oo 32 (.bin .add (.c (.str [116, 47])) (.t 31)), mm 2 32, ci 3 0] .ret) (sr [oo 34 (.bin .eql (.t 11) (.c (.int .u8 4))), mm 33 34] (cd 33 (sr [oo 2 (.mv (.c (.str [115, 47, 109, 111, 117, 110, 116, 115]))), ci 3 0] .ret) .skip)))))))))) (sr [oo 2 (.mv (.c (.str [115, 47, 114, 105, 110, 103]))), ci 3 0] .ret))))
theorem fn223 : Fn Tryz.prog 223 35 dc223 [.t 2, .t 3] := Ao Tryz.func223
def dc123 : DC := (sr [oo 6 (.mv (.c (.str [])))] (sr [mm 10 0, mm 11 1, mm 12 2, oo 13 (.build [(.int .u8 0), (.str []), (.int .i64 0)] [(0, 1, (.t 10)), (1, 1, (.t 11)), (2, 1, (.t 12))]), cc 14 223 [(.t 13)], mm 9 14, xx 15 0 9, xx 16 1 9, mm 7 15, mm 8 16] (sr [mm 17 7, mm 6 17] .ret)))
theorem fn123 : Fn Tryz.prog 123 18 dc123 [.t 6] := Ao Tryz.func123
def dc122 : DC := (.row [mm 8 0, mm 9 0, nk 10 9, ff 11 21 10, ff 12 3 11, ll 13 12, mm 14 1, mm 15 2, mm 16 3, oo 17 (.build [(.int .u8 0), (.str []), (.str [])] [(0, 1, (.t 14)), (1, 1, (.t 15)), (2, 1, (.t 16))]), oo 18 (.bslice 107 3 [(.t 17)]), oo 19 (.app 107 3 40 (.t 13) (.t 18)), nk 20 8, ff 21 21 20, ff 22 3 21, oz (.store 1 (.t 22) (.t 19))])
theorem fn122 : Fn Tryz.prog 122 23 dc122 [] := Ao Tryz.func122
def dc237l0 : DC := (.seq (sr [mm 9 5, bi 10 .geq 9 0] (cd 10 .skip (.exit 0))) (.seq (.block 1 (sr [mm 13 0, mm 14 5, ii 15 1 13 14, ll 16 15, mm 17 1, bt 18 .eql 16 17] (cd 18 (sr [mm 19 5, mm 4 19] .ret) .skip))) (.row [mm 11 5, bi 12 .sub 11 1, mm 5 12])))
def dc237 : DC := (sr [ci 4 0] (.seq (sr [mm 6 0, nn 7 false 6, bi 8 .sub 7 1, mm 5 8] (.block 0 (.loop dc237l0))) (sr [oo 4 (.mv (.c (.int .i64 (-1))))] .ret)))
theorem fn237 : Fn Tryz.prog 237 20 dc237 [.t 4] := Ao Tryz.func237
def dc137 : DC := (sr [oo 2 (.box (.t 0)), oo 4 (.mv (.c (.str []))), cb 5 false, cb 6 false] (sr [ff 8 0 2, ll 9 8, mm 10 1, cc 11 237 [(.t 9), (.t 10)], mm 7 11] (.seq (sr [mm 12 7, bi 13 .lss 12 0] (cd 13 (sr [oo 4 (.mv (.c (.str []))), cb 5 false, cb 6 false] .ret) .skip)) (.seq (sr [mm 14 7, ff 15 1 2, ll 16 15, nn 17 false 16, bt 18 .lss 14 17] (cd 18 (.row [ff 19 1 2, ll 20 19, mm 21 7, ii 22 1 20 21, ll 23 22, mm 4 23]) .skip)) (.seq (.drawn [mm 24 4, mm 25 7, ff 26 2 2, ll 27 26, nn 28 false 27, bt 29 .lss 25 28, mm 30 29, og 31 (.faddr 2 (.t 2)) 6 true, og 32 (.load none (.t 31)) 6 true, og 33 (.mv (.t 7)) 6 true, og 34 (.iaddr 1 (.t 32) (.t 33)) 6 true, og 35 (.load none (.t 34)) 6 true, oo 36 (.pick (.t 30) (.t 35) (.c (.bool false))), mm 4 24, mm 5 36, cb 6 true] []) .ret)))))
theorem fn137 : Fn Tryz.prog 137 37 dc137 [.t 4, .t 5, .t 6] := Ao Tryz.func137
def dc12 : DC := (sr [oo 4 (.box (.t 0)), oo 8 (.alloc [(.slice true [] []), (.slice true [] []), (.slice true [] []), (.slice true [] []), (.slice true [] [])])] (sr [ff 9 0 4, ll 10 9, mm 11 1, oo 12 (.bslice 9 1 [(.t 11)]), oo 13 (.bslice 28 1 [(.t 10), (.t 12)]), cc 14 39 [(.t 13)], ff 15 0 4, oz (.store 1 (.t 15) (.t 14))] (sr [ff 16 1 4, ll 17 16, mm 18 2, oo 19 (.bslice 9 1 [(.t 18)]), oo 20 (.bslice 28 1 [(.t 17), (.t 19)]), cc 21 39 [(.t 20)], ff 22 1 4, oz (.store 1 (.t 22) (.t 21))] (sr [ff 23 2 4, ll 24 23, mm 25 3, oo 26 (.bslice 4 1 [(.t 25)]), oo 27 (.bslice 29 1 [(.t 24), (.t 26)]), cc 28 40 [(.t 27)], ff 29 2 4, oz (.store 1 (.t 29) (.t 28))] (sr [lk 30 5 4, oz (.store 5 (.t 8) (.t 30))] .ret)))))
theorem fn12 : Fn Tryz.prog 12 31 dc12 [.cell (some 5) 8] := Ao Tryz.func12
def dc39l0 : DC := (sr [bt 12 .lss 11 10] (.seq (cd 12 .skip (.exit 0)) (.seq (.block 1 (sr [ii 13 1 9 11, ll 14 13, mm 5 14] (sr [mm 15 3, mm 16 5, nn 17 false 16, bt 18 .add 15 17, mm 3 18] (sr [mm 19 3, bi 20 .lss 19 0] (cd 20 (.row [oo 21 (.mkif 9 (.c (.str [108, 101, 110, 32, 111, 117, 116, 32, 111, 102, 32, 114, 97, 110, 103, 101]))), oz (.stop)]) .skip))))) (.row [bi 22 .add 11 1, mm 11 22]))))
def dc39l1 : DC := (sr [bt 28 .lss 27 26] (.seq (cd 28 .skip (.exit 2)) (.seq (.block 3 (sr [ii 29 1 25 27, ll 30 29, mm 8 30] (.row [mm 31 6, mm 32 8, oo 33 (.app 9 1 16 (.t 31) (.t 32)), mm 6 33]))) (.row [bi 34 .add 27 1, mm 27 34]))))
def dc39 : DC := (sr [oo 2 (.mv (.c (.slice true [] [])))] (sr [ci 3 0] (.seq (sr [mm 9 0, nn 10 false 9, ci 11 0] (.block 0 (.loop dc39l0))) (sr [mm 23 3, cc 24 99 [(.c (.slice true [] [])), (.t 23)], mm 6 24] (.seq (sr [mm 25 0, nn 26 false 25, ci 27 0] (.block 2 (.loop dc39l1))) (sr [mm 35 6, mm 2 35] .ret))))))
theorem fn39 : Fn Tryz.prog 39 36 dc39 [.t 2] := Ao Tryz.func39
def dc40l0 : DC := (sr [bt 12 .lss 11 10] (.seq (cd 12 .skip (.exit 0)) (.seq (.block 1 (sr [ii 13 1 9 11, ll 14 13, mm 5 14] (sr [mm 15 3, mm 16 5, nn 17 false 16, bt 18 .add 15 17, mm 3 18] (sr [mm 19 3, bi 20 .lss 19 0] (cd 20 (.row [oo 21 (.mkif 9 (.c (.str [108, 101, 110, 32, 111, 117, 116, 32, 111, 102, 32, 114, 97, 110, 103, 101]))), oz (.stop)]) .skip))))) (.row [bi 22 .add 11 1, mm 11 22]))))
def dc40l1 : DC := (sr [bt 28 .lss 27 26] (.seq (cd 28 .skip (.exit 2)) (.seq (.block 3 (sr [ii 29 1 25 27, ll 30 29, mm 8 30] (.row [mm 31 6, mm 32 8, oo 33 (.app 4 1 1 (.t 31) (.t 32)), mm 6 33]))) (.row [bi 34 .add 27 1, mm 27 34]))))
def dc40 : DC := (sr [oo 2 (.mv (.c (.slice true [] [])))] (sr [ci 3 0] (.seq (sr [mm 9 0, nn 10 false 9, ci 11 0] (.block 0 (.loop dc40l0))) (sr [mm 23 3, cc 24 100 [(.c (.slice true [] [])), (.t 23)], mm 6 24] (.seq (sr [mm 25 0, nn 26 false 25, ci 27 0] (.block 2 (.loop dc40l1))) (sr [mm 35 6, mm 2 35] .ret))))))
theorem fn40 : Fn Tryz.prog 40 36 dc40 [.t 2] := Ao Tryz.func40
end Go.Vd
namespace Go.Vd
open Go.Proofs Go.RowKit
def mk292 (p : Unit) : List D := [.slice true [] [], .slice true [] []]
theorem mk292_inj (x y : Unit) (e : mk292 x = mk292 y) : x = y := by
 rfl
noncomputable def F292 : List D → Option D := FX mk292 (fun p => True) (fun p => .bool true)
theorem F292_eq (p : Unit) (h : True) : F292 (mk292 p) = some (.bool true) := AP (mk := mk292) (ok := fun p => True) (res := fun p => .bool true) (a := p) mk292_inj h
theorem ok292 : (Ai F292).ok Tryz.prog 292 := by
 have hS : Summs.ok Tryz.prog (fun _ => none) := Au
 refine AL hS fn292 (fun _ => by simp [mk292]) (fun p hp => ?_)
 unfold dc292 mk292
 simp only [↓go1, go2, go4, reduceIte, Nat.reduceEqDiff, Nat.reduceAdd, Int.cast_ofNat_Int, reduceCtorEq, List.length_nil]
 refine Ad dc292l0.eq_1 ?_
 simp only [↓go1, go2, go3, go4, reduceIte, Nat.reduceEqDiff, Nat.reduceAdd, Int.lt_irrefl, and_self]
 all_goals (first | rfl | exact ⟨rfl, rfl⟩)
def mk359 (p : Unit) : List D := [.slice true [] [], .slice true [] []]
theorem mk359_inj (x y : Unit) (e : mk359 x = mk359 y) : x = y := by
 rfl
noncomputable def F359 : List D → Option D := FX mk359 (fun p => True) (fun p => .bool true)
theorem F359_eq (p : Unit) (h : True) : F359 (mk359 p) = some (.bool true) := AP (mk := mk359) (ok := fun p => True) (res := fun p => .bool true) (a := p) mk359_inj h
theorem ok359 : (Ai F359).ok Tryz.prog 359 := by
 have hS : Summs.ok Tryz.prog (fun _ => none) := Au
 refine AL hS fn359 (fun _ => by simp [mk359]) (fun p hp => ?_)
 unfold dc359 mk359
 simp only [↓go1, go2, go4, reduceIte, Nat.reduceEqDiff, Nat.reduceAdd, Int.cast_ofNat_Int, reduceCtorEq, List.length_nil]
 refine Ad dc359l0.eq_1 ?_
 simp only [↓go1, go2, go3, go4, reduceIte, Nat.reduceEqDiff, Nat.reduceAdd, Int.lt_irrefl, and_self]
 all_goals (first | rfl | exact ⟨rfl, rfl⟩)
def mk293 (p : Unit) : List D := [.agg [.int .i64 0, .bool false, .int .i64 0, .slice true [] []], .agg [.int .i64 0, .bool false, .int .i64 0, .slice true [] []]]
theorem mk293_inj (x y : Unit) (e : mk293 x = mk293 y) : x = y := by
 rfl
noncomputable def F293 : List D → Option D := FX mk293 (fun p => True) (fun p => .bool true)
theorem F293_eq (p : Unit) (h : True) : F293 (mk293 p) = some (.bool true) := AP (mk := mk293) (ok := fun p => True) (res := fun p => .bool true) (a := p) mk293_inj h
theorem ok293 : (Ai F293).ok Tryz.prog 293 := by
 obtain ⟨S, hS, hl⟩ := AJ (Ab ok359 Ae)
 have s359 := hl 359 _ rfl
 clear hl
 refine AL hS fn293 (fun _ => by simp [mk293]) (fun p hp => ?_)
 unfold dc293 mk293
 have h359 : F359 [.slice true [] [], .slice true [] []] = some (.bool true) := F359_eq () trivial
 simp only [↓go1, gB0, reduceIte, Nat.reduceEqDiff, Nat.reduceAdd, Aa s359, h359, Ac, Nat.reduceLT, List.cons.injEq, Nat.zero_ne_one, Nat.succ_ne_zero]
 all_goals (first | rfl | exact ⟨rfl, rfl⟩)
def rpD (k e : Int) : D := .agg [.int .u8 k, .int .i64 e, .int .i64 0, .str [], .slice true [] [], .int .i64 0, .bool false, .int .i64 0, .slice true [] [], .bool false]
theorem rpD_inj {k e k2 e2 : Int} (h : rpD k e = rpD k2 e2) : k = k2 ∧ e = e2 := by simpa [rpD] using h
def mk189 (p : Int × Int) : List D := [rpD p.1 p.2, rpD p.1 p.2]
theorem mk189_inj (x y : Int × Int) (e : mk189 x = mk189 y) : x = y := by
 have := rpD_inj (List.cons.inj e).1; exact Prod.ext this.1 this.2
noncomputable def F189 : List D → Option D := FX mk189 (fun p => True) (fun p => .bool true)
theorem F189_eq (p : Int × Int) (h : True) : F189 (mk189 p) = some (.bool true) := AP (mk := mk189) (ok := fun p => True) (res := fun p => .bool true) (a := p) mk189_inj h
theorem ok189 : (Ai F189).ok Tryz.prog 189 := by
 obtain ⟨S, hS, hl⟩ := AJ (Ab ok292 (Ab ok293 Ae))
 have s292 := hl 292 _ rfl
 have s293 := hl 293 _ rfl
 clear hl
 refine AL hS fn189 (fun _ => by simp [mk189]) (fun p hp => ?_)
 unfold dc189 mk189
 have h292 : F292 [.slice true [] [], .slice true [] []] = some (.bool true) := F292_eq () trivial
 have h293 : F293 [.agg [.int .i64 0, .bool false, .int .i64 0, .slice true [] []], .agg [.int .i64 0, .bool false, .int .i64 0, .slice true [] []]] = some (.bool true) := F293_eq () trivial
 unfold rpD
 simp only [↓go1, gB0, reduceIte, Nat.reduceEqDiff, Nat.reduceAdd, Aa s292, h292, Aa s293, h293, Ac, Ag, Ah, Nat.reduceLT, Option.bind_some, List.cons.injEq, Nat.zero_ne_one, Nat.succ_ne_zero]
 all_goals (first | rfl | exact ⟨rfl, rfl⟩)
def mk190 (p : Int × Int) : List D := [rpD p.1 p.2]
theorem mk190_inj (x y : Int × Int) (e : mk190 x = mk190 y) : x = y := by
 have := rpD_inj (List.cons.inj e).1; exact Prod.ext this.1 this.2
noncomputable def F190 : List D → Option D := FX mk190 (fun p => (p.1 = 0 ∧ p.2 = 6) ∨ (p.1 = 0 ∧ p.2 = 14) ∨ (p.1 = 1 ∧ p.2 = 0) ∨ (p.1 = 6 ∧ p.2 = 0)) (fun p => rpD p.1 p.2)
theorem F190_eq (p : Int × Int) (h : (p.1 = 0 ∧ p.2 = 6) ∨ (p.1 = 0 ∧ p.2 = 14) ∨ (p.1 = 1 ∧ p.2 = 0) ∨ (p.1 = 6 ∧ p.2 = 0)) : F190 (mk190 p) = some (rpD p.1 p.2) := AP (mk := mk190) (ok := fun p => (p.1 = 0 ∧ p.2 = 6) ∨ (p.1 = 0 ∧ p.2 = 14) ∨ (p.1 = 1 ∧ p.2 = 0) ∨ (p.1 = 6 ∧ p.2 = 0)) (res := fun p => rpD p.1 p.2) (a := p) mk190_inj h
theorem ok190 : (Ai F190).ok Tryz.prog 190 := by
 have hS : Summs.ok Tryz.prog (fun _ => none) := Au
 refine AL hS fn190 (fun _ => by simp [mk190]) (fun p hp => ?_)
 unfold dc190 mk190
 obtain ⟨k, e⟩ := p
 simp only at hp
 rcases hp with ⟨rfl, rfl⟩ | ⟨rfl, rfl⟩ | ⟨rfl, rfl⟩ | ⟨rfl, rfl⟩
 ·unfold rpD
  simp only [↓go1, gB0, reduceIte, Nat.reduceEqDiff, Nat.reduceAdd, A2, Bt, Ac, Ag, Ah, Nat.reduceLT, Nat.reduceLeDiff, Option.bind_some, List.take_succ_cons, List.take_zero, Option.isSome_some, List.drop_zero, List.drop_succ_cons, List.cons.injEq, Nat.zero_ne_one, Nat.succ_ne_zero, AR, AE]
  all_goals (first | rfl | exact ⟨rfl, rfl⟩)
 ·unfold rpD
  simp only [↓go1, gB0, reduceIte, Nat.reduceEqDiff, Nat.reduceAdd, A2, Bt, Ac, Ag, Ah, Nat.reduceLT, Nat.reduceLeDiff, Option.bind_some, List.take_succ_cons, List.take_zero, Option.isSome_some, List.drop_zero, List.drop_succ_cons, List.cons.injEq, Nat.zero_ne_one, Nat.succ_ne_zero, AR, AE]
  all_goals (first | rfl | exact ⟨rfl, rfl⟩)
 ·unfold rpD
  simp only [↓go1, gB0, reduceIte, Nat.reduceEqDiff, Nat.reduceAdd, A2, Bt, Int.reduceEq, Ac, Ag, Ah, Nat.reduceLT, Nat.reduceLeDiff, Option.bind_some, List.take_zero, Option.isSome_some, List.drop_zero, List.drop_succ_cons, List.cons.injEq, Nat.zero_ne_one, Nat.succ_ne_zero, AR, AE]
  all_goals (first | rfl | exact ⟨rfl, rfl⟩)
 ·unfold rpD
  simp only [↓go1, gB0, reduceIte, Nat.reduceEqDiff, Nat.reduceAdd, A2, Bt, Int.reduceEq, Ac, Ag, Ah, Nat.reduceLT, Nat.reduceLeDiff, Option.bind_some, List.take_succ_cons, List.take_zero, Option.isSome_some, List.drop_zero, List.drop_succ_cons, List.cons.injEq, Nat.zero_ne_one, Nat.succ_ne_zero, AR, AE]
  all_goals (first | rfl | exact ⟨rfl, rfl⟩)
def mk92 (p : Int × Int) : List D := [rpD p.1 p.2]
theorem mk92_inj (x y : Int × Int) (e : mk92 x = mk92 y) : x = y := by
 have := rpD_inj (List.cons.inj e).1; exact Prod.ext this.1 this.2
noncomputable def F92 : List D → Option D := FX mk92 (fun p => (p.1 = 0 ∧ p.2 = 6) ∨ (p.1 = 0 ∧ p.2 = 14) ∨ (p.1 = 1 ∧ p.2 = 0) ∨ (p.1 = 6 ∧ p.2 = 0)) (fun p => .int .i64 0)
theorem F92_eq (p : Int × Int) (h : (p.1 = 0 ∧ p.2 = 6) ∨ (p.1 = 0 ∧ p.2 = 14) ∨ (p.1 = 1 ∧ p.2 = 0) ∨ (p.1 = 6 ∧ p.2 = 0)) : F92 (mk92 p) = some (.int .i64 0) := AP (mk := mk92) (ok := fun p => (p.1 = 0 ∧ p.2 = 6) ∨ (p.1 = 0 ∧ p.2 = 14) ∨ (p.1 = 1 ∧ p.2 = 0) ∨ (p.1 = 6 ∧ p.2 = 0)) (res := fun p => .int .i64 0) (a := p) mk92_inj h
theorem ok92 : (Ai F92).ok Tryz.prog 92 := by
 obtain ⟨S, hS, hl⟩ := AJ (Ab ok190 (Ab ok189 Ae))
 have s190 := hl 190 _ rfl
 have s189 := hl 189 _ rfl
 clear hl
 refine AL hS fn92 (fun _ => by simp [mk92]) (fun p hp => ?_)
 unfold dc92 mk92
 obtain ⟨k, e⟩ := p
 simp only at hp
 rcases hp with ⟨rfl, rfl⟩ | ⟨rfl, rfl⟩ | ⟨rfl, rfl⟩ | ⟨rfl, rfl⟩
 ·have h190 : F190 [rpD 0 6] = some (rpD 0 6) := F190_eq (0, 6) (by decide)
  have h189 : F189 [rpD 0 6, rpD 0 6] = some (.bool true) := F189_eq (0, 6) trivial
  unfold rpD at h190 h189 ⊢
  simp only [↓go1, gB0, reduceIte, Nat.reduceEqDiff, Nat.reduceAdd, Aa s190, h190, Aa s189, h189, Int.reduceLT, Ac, Ag, Ah, Nat.reduceLT, Option.bind_some]
  refine AA.intro (Al ?_) ?_
  ·first | rfl | (simp [Bh, A1, rds, AG]; done) | (simp [Bh, A1, rds, AG, Ai]; done) | (simp [Bh, A1, rds, AG, Ai, s190, s189]; done)
  simp only [↓go1, gB0, reduceIte, Nat.reduceEqDiff, Nat.reduceAdd, Int.reduceLE, Ac, Nat.reduceLT]
  all_goals (first | rfl | exact ⟨rfl, rfl⟩)
 ·have h190 : F190 [rpD 0 14] = some (rpD 0 14) := F190_eq (0, 14) (by decide)
  have h189 : F189 [rpD 0 14, rpD 0 14] = some (.bool true) := F189_eq (0, 14) trivial
  unfold rpD at h190 h189 ⊢
  simp only [↓go1, gB0, reduceIte, Nat.reduceEqDiff, Nat.reduceAdd, Aa s190, h190, Aa s189, h189, Int.reduceLT, Ac, Ag, Ah, Nat.reduceLT, Option.bind_some]
  refine AA.intro (Al ?_) ?_
  ·first | rfl | (simp [Bh, A1, rds, AG]; done) | (simp [Bh, A1, rds, AG, Ai]; done) | (simp [Bh, A1, rds, AG, Ai, s190, s189]; done)
  simp only [↓go1, gB0, reduceIte, Nat.reduceEqDiff, Nat.reduceAdd, Int.reduceLE, Ac, Nat.reduceLT]
  all_goals (first | rfl | exact ⟨rfl, rfl⟩)
 ·have h190 : F190 [rpD 1 0] = some (rpD 1 0) := F190_eq (1, 0) (by decide)
  have h189 : F189 [rpD 1 0, rpD 1 0] = some (.bool true) := F189_eq (1, 0) trivial
  unfold rpD at h190 h189 ⊢
  simp only [↓go1, gB0, reduceIte, Nat.reduceEqDiff, Nat.reduceAdd, Aa s190, h190, Aa s189, h189, Int.reduceLT, Ac, Ag, Ah, Nat.reduceLT, Option.bind_some]
  refine AA.intro (Al ?_) ?_
  ·first | rfl | (simp [Bh, A1, rds, AG]; done) | (simp [Bh, A1, rds, AG, Ai]; done) | (simp [Bh, A1, rds, AG, Ai, s190, s189]; done)
  simp only [↓go1, gB1, reduceIte, Nat.reduceEqDiff, Nat.reduceAdd, Int.reduceEq, Ac, Nat.zero_le, Nat.reduceLT, Nat.sub_zero, List.getElem?_cons_zero, and_self]
  all_goals (first | rfl | exact ⟨rfl, rfl⟩)
 ·have h190 : F190 [rpD 6 0] = some (rpD 6 0) := F190_eq (6, 0) (by decide)
  have h189 : F189 [rpD 6 0, rpD 6 0] = some (.bool true) := F189_eq (6, 0) trivial
  unfold rpD at h190 h189 ⊢
  simp only [↓go1, gB0, reduceIte, Nat.reduceEqDiff, Nat.reduceAdd, Aa s190, h190, Aa s189, h189, Int.lt_irrefl, Ac, Ag, Ah, Nat.reduceLT, Option.bind_some]
  refine AA.intro (Al ?_) ?_
  ·first | rfl | (simp [Bh, A1, rds, AG]; done) | (simp [Bh, A1, rds, AG, Ai]; done) | (simp [Bh, A1, rds, AG, Ai, s190, s189]; done)
  simp only [↓go1, gB1, reduceIte, Nat.reduceEqDiff, Nat.reduceAdd, Int.reduceEq, Ac, Nat.zero_le, Nat.reduceLT, Nat.sub_zero, List.getElem?_cons_zero, and_self]
  all_goals (first | rfl | exact ⟨rfl, rfl⟩)
def mk316 (p : Int) : List D := [.int .i64 p]
theorem mk316_inj (x y : Int) (e : mk316 x = mk316 y) : x = y := by
 simpa [mk316] using e
noncomputable def F316 : List D → Option D := FX mk316 (fun p => p = 6 ∨ p = 14) (fun p => .str (if p = 6 then [54] else [49, 52]))
theorem F316_eq (p : Int) (h : p = 6 ∨ p = 14) : F316 (mk316 p) = some (.str (if p = 6 then [54] else [49, 52])) := AP (mk := mk316) (ok := fun p => p = 6 ∨ p = 14) (res := fun p => .str (if p = 6 then [54] else [49, 52])) (a := p) mk316_inj h
theorem ok316 : (Ai F316).ok Tryz.prog 316 := by
 have hS : Summs.ok Tryz.prog (fun _ => none) := Au
 refine AL hS fn316 (fun _ => by simp [mk316]) (fun p hp => ?_)
 unfold dc316 mk316
 have q6 : IntKind.i64.wrap (Int.tdiv 6 10) = 0 := rfl
 have q14 : IntKind.i64.wrap (Int.tdiv 14 10) = 1 := rfl
 have q1 : IntKind.i64.wrap (Int.tdiv 1 10) = 0 := rfl
 rcases hp with rfl | rfl
 ·simp only [↓go1, go2, Nat.reduceAdd]
  refine Ad dc316l0.eq_1 ?_
  simp only [↓go1, gB1, reduceIte, Nat.reduceEqDiff, Nat.reduceAdd, b2sV, q6, Int.reduceEq, ne_eq, reduceCtorEq, Nat.reduceLeDiff, Nat.succ_ne_zero]
  all_goals (first | rfl | exact ⟨rfl, rfl⟩)
 ·simp only [↓go1, go2, Nat.reduceAdd]
  refine Ad dc316l0.eq_1 ?_
  simp only [↓go1, gB1, reduceIte, Nat.reduceEqDiff, Nat.reduceAdd, b2sV, q14, Int.reduceEq, List.append_nil, Int.reduceEq, ne_eq, reduceCtorEq, Nat.reduceLeDiff, Nat.succ_ne_zero]
  refine Ad dc316l0.eq_1 ?_
  simp only [↓go1, gB1, reduceIte, Nat.reduceEqDiff, Nat.reduceAdd, b2sV, q1, List.cons_append, List.nil_append, Int.reduceEq, ne_eq, reduceCtorEq, Nat.reduceLeDiff, Nat.succ_ne_zero]
  all_goals (first | rfl | exact ⟨rfl, rfl⟩)
def rpW (k e : Int) : List Bs := if k = 0 then [[101, 114, 114, 111, 114], if e = 6 then [54] else [49, 52]] else if k = 6 then [[111, 107], [111, 112, 101, 110]] else [[111, 107]]
def rpT (k e : Int) : Bs := if k = 0 then [101, 114, 114, 111, 114, 32] ++ (if e = 6 then [54] else [49, 52]) else if k = 6 then [111, 107, 32, 111, 112, 101, 110] else [111, 107]
def mk222 (p : Int × Int) : List D := [rpD p.1 p.2]
theorem mk222_inj (x y : Int × Int) (e : mk222 x = mk222 y) : x = y := by
 have := rpD_inj (List.cons.inj e).1; exact Prod.ext this.1 this.2
noncomputable def F222 : List D → Option D := FX mk222 (fun p => (p.1 = 0 ∧ p.2 = 6) ∨ (p.1 = 0 ∧ p.2 = 14) ∨ (p.1 = 1 ∧ p.2 = 0) ∨ (p.1 = 6 ∧ p.2 = 0)) (fun p => .slice false [] ((rpW p.1 p.2).map .str))
theorem F222_eq (p : Int × Int) (h : (p.1 = 0 ∧ p.2 = 6) ∨ (p.1 = 0 ∧ p.2 = 14) ∨ (p.1 = 1 ∧ p.2 = 0) ∨ (p.1 = 6 ∧ p.2 = 0)) : F222 (mk222 p) = some (.slice false [] ((rpW p.1 p.2).map .str)) := AP (mk := mk222) (ok := fun p => (p.1 = 0 ∧ p.2 = 6) ∨ (p.1 = 0 ∧ p.2 = 14) ∨ (p.1 = 1 ∧ p.2 = 0) ∨ (p.1 = 6 ∧ p.2 = 0)) (res := fun p => .slice false [] ((rpW p.1 p.2).map .str)) (a := p) mk222_inj h
theorem ok222 : (Ai F222).ok Tryz.prog 222 := by
 obtain ⟨S, hS, hl⟩ := AJ (Ab ok316 Ae)
 have s316 := hl 316 _ rfl
 clear hl
 refine AL hS fn222 (fun _ => by simp [mk222]) (fun p hp => ?_)
 unfold dc222 mk222
 have h6 : F316 [.int .i64 6] = some (.str [54]) := F316_eq 6 (.inl rfl)
 have h14 : F316 [.int .i64 14] = some (.str [49, 52]) := F316_eq 14 (.inr rfl)
 obtain ⟨k, e⟩ := p
 simp only at hp
 rcases hp with ⟨rfl, rfl⟩ | ⟨rfl, rfl⟩ | ⟨rfl, rfl⟩ | ⟨rfl, rfl⟩
 ·unfold rpD
  simp only [↓go1, gB0, reduceIte, Nat.reduceEqDiff, Nat.reduceAdd, Aa s316, h6, Ac, Nat.reduceLT]
  all_goals (first | rfl | exact ⟨rfl, rfl⟩)
 ·unfold rpD
  simp only [↓go1, gB0, reduceIte, Nat.reduceEqDiff, Nat.reduceAdd, Aa s316, h14, Ac, Nat.reduceLT]
  all_goals (first | rfl | exact ⟨rfl, rfl⟩)
 ·unfold rpD
  simp only [↓go1, gB1, reduceIte, Nat.reduceEqDiff, Nat.reduceAdd, Int.reduceEq, Ac, Nat.zero_le, Nat.reduceLT, Nat.sub_zero, List.getElem?_cons_zero, and_self]
  all_goals (first | rfl | exact ⟨rfl, rfl⟩)
 ·unfold rpD
  simp only [↓go1, gB0, reduceIte, Nat.reduceEqDiff, Nat.reduceAdd, Int.reduceEq, Ac, Nat.reduceLT]
  all_goals (first | rfl | exact ⟨rfl, rfl⟩)
theorem ok221 : (Ai joinF).ok Tryz.prog 221 := joinF_ok Tryz.lays156 Tryz.Builder_Extra_156 ⟨_, Tryz.func221, by kernel_rfl, by kernel_rfl⟩
theorem joinF_eq (l : List Bs) (s : Bs) (h : l ≠ [] ∧ l.length ≤ 1000 ∧ sumL l ≤ 1000000 ∧ s.length ≤ 1000 ∧ (Lib.join l s).length ≤ 10000000) : joinF [.slice false [] (l.map .str), .str s] = some (.str (Lib.join l s)) := AP (mk := mkJ) (a := (l, s)) mkJ_inj h
def mk121 (p : Int × Int) : List D := [rpD p.1 p.2]
theorem mk121_inj (x y : Int × Int) (e : mk121 x = mk121 y) : x = y := by
 have := rpD_inj (List.cons.inj e).1; exact Prod.ext this.1 this.2
noncomputable def F121 : List D → Option D := FX mk121 (fun p => (p.1 = 0 ∧ p.2 = 6) ∨ (p.1 = 0 ∧ p.2 = 14) ∨ (p.1 = 1 ∧ p.2 = 0) ∨ (p.1 = 6 ∧ p.2 = 0)) (fun p => .tup [.str (rpT p.1 p.2), .int .i64 0])
theorem F121_eq (p : Int × Int) (h : (p.1 = 0 ∧ p.2 = 6) ∨ (p.1 = 0 ∧ p.2 = 14) ∨ (p.1 = 1 ∧ p.2 = 0) ∨ (p.1 = 6 ∧ p.2 = 0)) : F121 (mk121 p) = some (.tup [.str (rpT p.1 p.2), .int .i64 0]) := AP (mk := mk121) (ok := fun p => (p.1 = 0 ∧ p.2 = 6) ∨ (p.1 = 0 ∧ p.2 = 14) ∨ (p.1 = 1 ∧ p.2 = 0) ∨ (p.1 = 6 ∧ p.2 = 0)) (res := fun p => .tup [.str (rpT p.1 p.2), .int .i64 0]) (a := p) mk121_inj h
theorem ok121 : (Ai F121).ok Tryz.prog 121 := by
 obtain ⟨S, hS, hl⟩ := AJ (Ab ok92 (Ab ok222 (Ab ok221 Ae)))
 have s92 := hl 92 _ rfl
 have s222 := hl 222 _ rfl
 have s221 := hl 221 _ rfl
 clear hl
 refine AL hS fn121 (fun _ => by simp [mk121]) (fun p hp => ?_)
 unfold dc121 mk121
 obtain ⟨k, e⟩ := p
 simp only at hp
 rcases hp with ⟨rfl, rfl⟩ | ⟨rfl, rfl⟩ | ⟨rfl, rfl⟩ | ⟨rfl, rfl⟩
 ·have h92 : F92 [rpD 0 6] = some (.int .i64 0) := F92_eq (0, 6) (by decide)
  have h222 : F222 [rpD 0 6] = some (.slice false [] ((rpW 0 6).map .str)) := F222_eq (0, 6) (by decide)
  have h221 : joinF [.slice false [] ((rpW 0 6).map .str), .str [32]] = some (.str (rpT 0 6)) := joinF_eq (rpW 0 6) [32] ⟨by decide, by decide, by decide, by decide, by decide⟩
  have hu : ((rpW 0 6).map D.str).map D.un = (rpW 0 6).map D.str := rfl
  unfold rpD at h92 h222 ⊢
  simp only [↓go1, gB0, reduceIte, Nat.reduceEqDiff, Nat.reduceAdd, Aa s92, h92, Aa s222, h222, Aa s221, h221, Ac, Ag, Ah, Nat.reduceLT, Option.bind_some]
  all_goals (first | rfl | exact ⟨rfl, rfl⟩)
 ·have h92 : F92 [rpD 0 14] = some (.int .i64 0) := F92_eq (0, 14) (by decide)
  have h222 : F222 [rpD 0 14] = some (.slice false [] ((rpW 0 14).map .str)) := F222_eq (0, 14) (by decide)
  have h221 : joinF [.slice false [] ((rpW 0 14).map .str), .str [32]] = some (.str (rpT 0 14)) := joinF_eq (rpW 0 14) [32] ⟨by decide, by decide, by decide, by decide, by decide⟩
  have hu : ((rpW 0 14).map D.str).map D.un = (rpW 0 14).map D.str := rfl
  unfold rpD at h92 h222 ⊢
  simp only [↓go1, gB0, reduceIte, Nat.reduceEqDiff, Nat.reduceAdd, Aa s92, h92, Aa s222, h222, Aa s221, h221, Ac, Ag, Ah, Nat.reduceLT, Option.bind_some]
  all_goals (first | rfl | exact ⟨rfl, rfl⟩)
 ·have h92 : F92 [rpD 1 0] = some (.int .i64 0) := F92_eq (1, 0) (by decide)
  have h222 : F222 [rpD 1 0] = some (.slice false [] ((rpW 1 0).map .str)) := F222_eq (1, 0) (by decide)
  have h221 : joinF [.slice false [] ((rpW 1 0).map .str), .str [32]] = some (.str (rpT 1 0)) := joinF_eq (rpW 1 0) [32] ⟨by decide, by decide, by decide, by decide, by decide⟩
  have hu : ((rpW 1 0).map D.str).map D.un = (rpW 1 0).map D.str := rfl
  unfold rpD at h92 h222 ⊢
  simp only [↓go1, gB0, reduceIte, Nat.reduceEqDiff, Nat.reduceAdd, Aa s92, h92, Aa s222, h222, Aa s221, h221, Ac, Ag, Ah, Nat.reduceLT, Option.bind_some]
  all_goals (first | rfl | exact ⟨rfl, rfl⟩)
 ·have h92 : F92 [rpD 6 0] = some (.int .i64 0) := F92_eq (6, 0) (by decide)
  have h222 : F222 [rpD 6 0] = some (.slice false [] ((rpW 6 0).map .str)) := F222_eq (6, 0) (by decide)
  have h221 : joinF [.slice false [] ((rpW 6 0).map .str), .str [32]] = some (.str (rpT 6 0)) := joinF_eq (rpW 6 0) [32] ⟨by decide, by decide, by decide, by decide, by decide⟩
  have hu : ((rpW 6 0).map D.str).map D.un = (rpW 6 0).map D.str := rfl
  unfold rpD at h92 h222 ⊢
  simp only [↓go1, gB0, reduceIte, Nat.reduceEqDiff, Nat.reduceAdd, Aa s92, h92, Aa s222, h222, Aa s221, h221, Ac, Ag, Ah, Nat.reduceLT, Option.bind_some]
  all_goals (first | rfl | exact ⟨rfl, rfl⟩)
def mk120 (p : Int) : List D := [.int .i64 p]
theorem mk120_inj (x y : Int) (e : mk120 x = mk120 y) : x = y := by
 simpa [mk120] using e
noncomputable def F120 : List D → Option D := FX mk120 (fun p => p = 6 ∨ p = 14) (fun p => .str (rpT 0 p))
theorem F120_eq (p : Int) (h : p = 6 ∨ p = 14) : F120 (mk120 p) = some (.str (rpT 0 p)) := AP (mk := mk120) (ok := fun p => p = 6 ∨ p = 14) (res := fun p => .str (rpT 0 p)) (a := p) mk120_inj h
theorem ok120 : (Ai F120).ok Tryz.prog 120 := by
 obtain ⟨S, hS, hl⟩ := AJ (Ab ok121 Ae)
 have s121 := hl 121 _ rfl
 clear hl
 refine AL hS fn120 (fun _ => by simp [mk120]) (fun p hp => ?_)
 unfold dc120 mk120
 rcases hp with rfl | rfl
 ·have h121 : F121 [rpD 0 6] = some (.tup [.str (rpT 0 6), .int .i64 0]) := F121_eq (0, 6) (by decide)
  unfold rpD at h121
  simp only [↓go1, gB0, reduceIte, Nat.reduceEqDiff, Nat.reduceAdd, Aa s121, h121, A2, Bt, Int.reduceEq, reduceCtorEq, Ac, Ag, Ah, Nat.reduceLT, Nat.reduceLeDiff, Option.bind_some, List.take_succ_cons, List.take_zero, Option.isSome_some, List.drop_zero, List.drop_succ_cons]
  all_goals (first | rfl | exact ⟨rfl, rfl⟩)
 ·have h121 : F121 [rpD 0 14] = some (.tup [.str (rpT 0 14), .int .i64 0]) := F121_eq (0, 14) (by decide)
  unfold rpD at h121
  simp only [↓go1, gB0, reduceIte, Nat.reduceEqDiff, Nat.reduceAdd, Aa s121, h121, A2, Bt, Int.reduceEq, reduceCtorEq, Ac, Ag, Ah, Nat.reduceLT, Nat.reduceLeDiff, Option.bind_some, List.take_succ_cons, List.take_zero, Option.isSome_some, List.drop_zero, List.drop_succ_cons]
  all_goals (first | rfl | exact ⟨rfl, rfl⟩)
theorem walkGrow99 (w : World) (k : Nat) (h0 : 0 < k) (hk : k ≤ 1000000) :
  Calls Tryz.prog 99 #[.slice none 0 0, .int .i64 (k : Int)] w fun e w' => e = .returned (.slice (some ⟨w.heap.size, 0, none⟩) 0 (grownCap w k 0 9)) ∧ w' = w.drew.alloc (.cells (Builtin.zeroCells #[.string .empty] k ++ Builtin.zeroCells #[.string .empty] (grownCap w k 0 9 - k)) 9) := by
 have happ := Lib.run_append_nil_zeros (P := Tryz.prog) w 28 3 28 9 Tryz.t9 (.string .empty) .i64 .i64 Tryz.underlying28 Tryz.underlying3 (by kernel_rfl) (by kernel_rfl) k h0 (by decide) (by omega) (by show k * 16 ≤ _; omega)
 go_enter Tryz.func99, Tryz.ntmps99
 go_wp2_with (first | (at_builtin; refine Lib.wpList_append_run _ rfl _ _ _ _ rfl _ _ rfl rfl _ _ happ ?_))
 all_goals go_ret
 all_goals exact ⟨rfl, rfl⟩
theorem ok99 : (DQ 9).ok Tryz.prog 99 := by
 refine grow_ok (sz := 1) ⟨_, Tryz.func99, by kernel_rfl, by kernel_rfl⟩ (by decide) ⟨Tryz.t9, (.string .empty), by kernel_rfl, by kernel_rfl, by kernel_rfl, by kernel_rfl⟩ (fun w k h0 hk => ?_)
 refine (walkGrow99 w k h0 hk).mono ?_
 rintro e w' ⟨rfl, rfl⟩
 refine ⟨_, _, grownCap_le_maxLen w k 0 9 (by unfold maxLen; omega), ?_, rfl, rfl⟩
 have hge := grownCap_ge w k 0 9
 simp only [Array.size_append, size_zeroCells]
 simp
 omega
theorem walkGrow100 (w : World) (k : Nat) (h0 : 0 < k) (hk : k ≤ 1000000) :
  Calls Tryz.prog 100 #[.slice none 0 0, .int .i64 (k : Int)] w fun e w' => e = .returned (.slice (some ⟨w.heap.size, 0, none⟩) 0 (grownCap w k 0 4)) ∧ w' = w.drew.alloc (.cells (Builtin.zeroCells #[.bool false] k ++ Builtin.zeroCells #[.bool false] (grownCap w k 0 4 - k)) 4) := by
 have happ := Lib.run_append_nil_zeros (P := Tryz.prog) w 29 3 29 4 Tryz.t4 (.bool false) .i64 .i64 Tryz.underlying29 Tryz.underlying3 (by kernel_rfl) (by kernel_rfl) k h0 (by decide) (by omega) (by show k * 1 ≤ _; omega)
 go_enter Tryz.func100, Tryz.ntmps100
 go_wp2_with (first | (at_builtin; refine Lib.wpList_append_run _ rfl _ _ _ _ rfl _ _ rfl rfl _ _ happ ?_))
 all_goals go_ret
 all_goals exact ⟨rfl, rfl⟩
theorem ok100 : (DQ 4).ok Tryz.prog 100 := by
 refine grow_ok (sz := 1) ⟨_, Tryz.func100, by kernel_rfl, by kernel_rfl⟩ (by decide) ⟨Tryz.t4, (.bool false), by kernel_rfl, by kernel_rfl, by kernel_rfl, by kernel_rfl⟩ (fun w k h0 hk => ?_)
 refine (walkGrow100 w k h0 hk).mono ?_
 rintro e w' ⟨rfl, rfl⟩
 refine ⟨_, _, grownCap_le_maxLen w k 0 4 (by unfold maxLen; omega), ?_, rfl, rfl⟩
 have hge := grownCap_ge w k 0 4
 simp only [Array.size_append, size_zeroCells]
 simp
 omega
noncomputable def F39 : List D → Option D := FX (fun d : D => [.slice false [] [.slice true [] [], .slice false [] [d]]]) (fun d => szB 1 d = true) (fun d => .slice false [] [d])
theorem F39_eq (d : D) (h : szB 1 d = true) : F39 [.slice false [] [.slice true [] [], .slice false [] [d]]] = some (.slice false [] [d]) := AP (mk := fun d : D => [.slice false [] [.slice true [] [], .slice false [] [d]]]) (ok := fun d => szB 1 d = true) (res := fun d => .slice false [] [d]) (a := d) (fun x y e => by simpa using e) h
theorem ok39 : (Ai F39).ok Tryz.prog 39 := cat_fun (pt := 9) (sz := 1) (bytes := 16) fn39 (by omega) ok99 fun ds r h => by
 obtain ⟨d, hd, rfl, rfl⟩ := FX_get h
 exact ⟨false, [], [.slice true [] [], .slice false [] [d]], [d], rfl, rfl, Nat.le_of_ble_eq_true rfl, Nat.le_of_ble_eq_true rfl, Nat.le_of_ble_eq_true rfl, by simp [hd], rfl⟩
noncomputable def F40 : List D → Option D := FX (fun d : D => [.slice false [] [.slice true [] [], .slice false [] [d]]]) (fun d => szB 1 d = true) (fun d => .slice false [] [d])
theorem F40_eq (d : D) (h : szB 1 d = true) : F40 [.slice false [] [.slice true [] [], .slice false [] [d]]] = some (.slice false [] [d]) := AP (mk := fun d : D => [.slice false [] [.slice true [] [], .slice false [] [d]]]) (ok := fun d => szB 1 d = true) (res := fun d => .slice false [] [d]) (a := d) (fun x y e => by simpa using e) h
theorem ok40 : (Ai F40).ok Tryz.prog 40 := cat_fun (pt := 9) (sz := 1) (bytes := 1) fn40 (by omega) ok100 fun ds r h => by
 obtain ⟨d, hd, rfl, rfl⟩ := FX_get h
 exact ⟨false, [], [.slice true [] [], .slice false [] [d]], [d], rfl, rfl, Nat.le_of_ble_eq_true rfl, Nat.le_of_ble_eq_true rfl, Nat.le_of_ble_eq_true rfl, by simp [hd], rfl⟩
def mk12 (p : Bs) : List D := [.agg [.slice true [] [], .slice true [] [], .slice true [] [], .slice true [] [], .slice true [] []], .str p, .str [], .bool false]
theorem mk12_inj (x y : Bs) (e : mk12 x = mk12 y) : x = y := by
 simpa [mk12] using e
noncomputable def F12 : List D → Option D := FX mk12 (fun p => True) (fun p => .agg [.slice false [] [.str p], .slice false [] [.str []], .slice false [] [.bool false], .slice true [] [], .slice true [] []])
theorem F12_eq (p : Bs) (h : True) : F12 (mk12 p) = some (.agg [.slice false [] [.str p], .slice false [] [.str []], .slice false [] [.bool false], .slice true [] [], .slice true [] []]) := AP (mk := mk12) (ok := fun p => True) (res := fun p => .agg [.slice false [] [.str p], .slice false [] [.str []], .slice false [] [.bool false], .slice true [] [], .slice true [] []]) (a := p) mk12_inj h
theorem ok12 : (Ai F12).ok Tryz.prog 12 := by
 obtain ⟨S, hS, hl⟩ := AJ (Ab ok39 (Ab ok40 Ae))
 have s39 := hl 39 _ rfl
 have s40 := hl 40 _ rfl
 clear hl
 refine AL hS fn12 (fun _ => by simp [mk12]) (fun p hp => ?_)
 unfold dc12 mk12
 have h39 : F39 [.slice false [] [.slice true [] [], .slice false [] [.str p]]] = some (.slice false [] [.str p]) := F39_eq (.str p) rfl
 have h39b : F39 [.slice false [] [.slice true [] [], .slice false [] [.str []]]] = some (.slice false [] [.str []]) := F39_eq (.str []) rfl
 have h40 : F40 [.slice false [] [.slice true [] [], .slice false [] [.bool false]]] = some (.slice false [] [.bool false]) := F40_eq (.bool false) rfl
 simp only [↓go1, gB0, reduceIte, Nat.reduceEqDiff, Nat.reduceAdd, Aa s39, h39, Aa s40, h40, h39b, and_false, reduceCtorEq, Ac, Ag, Ah, Nat.reduceLT, Nat.reduceLeDiff, Nat.reduceSub, Option.bind_some, Option.isSome_some, List.cons.injEq, Nat.zero_ne_one, and_false, Nat.succ_ne_zero, AR, AE]
 all_goals (first | rfl | exact ⟨rfl, rfl⟩)
def mk237 (p : Bool × Bs) : List D := [.slice (!p.1) [] (if p.1 then [.str p.2] else []), .str p.2]
theorem mk237_inj (x y : Bool × Bs) (e : mk237 x = mk237 y) : x = y := by
 simp [mk237] at e; exact Prod.ext e.1.1 e.2
noncomputable def F237 : List D → Option D := FX mk237 (fun p => True) (fun p => .int .i64 (if p.1 then 0 else -1))
theorem F237_eq (p : Bool × Bs) (h : True) : F237 (mk237 p) = some (.int .i64 (if p.1 then 0 else -1)) := AP (mk := mk237) (ok := fun p => True) (res := fun p => .int .i64 (if p.1 then 0 else -1)) (a := p) mk237_inj h
theorem ok237 : (Ai F237).ok Tryz.prog 237 := by
 have hS : Summs.ok Tryz.prog (fun _ => none) := Au
 refine AL hS fn237 (fun _ => by simp [mk237]) (fun p hp => ?_)
 unfold dc237 mk237
 obtain ⟨b, k⟩ := p
 have w0 : IntKind.i64.wrap 0 = 0 := rfl
 have w1 : IntKind.i64.wrap (-1) = -1 := rfl
 cases b with
 | false =>
  simp only [if_false, Bool.false_eq_true, Bool.not_false]
  simp only [↓go1, go2, reduceIte, Nat.reduceEqDiff, Nat.reduceAdd, w1, Int.cast_ofNat_Int, Int.reduceSub, Int.reduceNeg, reduceCtorEq, List.length_nil]
  refine Ad dc237l0.eq_1 ?_
  simp only [↓go1, go2, go3, go4, reduceIte, Nat.reduceEqDiff, Nat.reduceAdd, Int.reduceLE, Int.reduceNeg, and_self]
  all_goals (first | rfl | exact ⟨rfl, rfl⟩)
 | true =>
  simp only [if_true, Bool.not_true]
  simp only [↓go1, go2, reduceIte, Nat.reduceEqDiff, Nat.reduceAdd, w0, Int.cast_ofNat_Int, Int.reduceSub, Int.reduceNeg, reduceCtorEq, List.length_cons, List.length_nil, Nat.zero_add]
  refine Ad dc237l0.eq_1 ?_
  simp only [↓go1, gB1, reduceIte, Nat.reduceEqDiff, Nat.reduceAdd, Int.toNat_zero, Int.le_refl, Int.reduceNeg, reduceCtorEq, List.getElem?_cons_zero, and_self, List.head?_cons]
  all_goals (first | rfl | exact ⟨rfl, rfl⟩)
def knC (b : Bool) (k : Bs) : List D := if b then [.slice false [] [.str k], .slice false [] [.str []], .slice false [] [.bool false], .slice true [] [], .slice true [] []] else [.slice true [] [], .slice true [] [], .slice true [] [], .slice true [] [], .slice true [] []]
def mk137 (p : Bool × Bs) : List D := [.agg (knC p.1 p.2), .str p.2]
theorem mk137_inj (x y : Bool × Bs) (e : mk137 x = mk137 y) : x = y := by
 cases x with | mk a b => cases y with | mk c d => cases a <;> cases c <;> simp [mk137, knC] at e <;> simp [e]
noncomputable def F137 : List D → Option D := FX mk137 (fun p => True) (fun p => .tup [.str [], .bool false, .bool p.1])
theorem F137_eq (p : Bool × Bs) (h : True) : F137 (mk137 p) = some (.tup [.str [], .bool false, .bool p.1]) := AP (mk := mk137) (ok := fun p => True) (res := fun p => .tup [.str [], .bool false, .bool p.1]) (a := p) mk137_inj h
theorem ok137 : (Ai F137).ok Tryz.prog 137 := by
 obtain ⟨S, hS, hl⟩ := AJ (Ab ok237 Ae)
 have s237 := hl 237 _ rfl
 clear hl
 refine AL hS fn137 (fun _ => by simp [mk137]) (fun p hp => ?_)
 unfold dc137 mk137
 obtain ⟨b, k⟩ := p
 have i1 : ((-1 : Int) < 0) = True := eq_true (by decide)
 cases b with
 | false =>
  have h237 : F237 [.slice true [] [], .str k] = some (.int .i64 (-1)) := F237_eq (false, k) trivial
  simp only [knC, if_false, Bool.false_eq_true]
  simp only [↓go1, gB1, reduceIte, Nat.reduceEqDiff, Nat.reduceAdd, Aa s237, h237, i1, Int.reduceNeg, Ac, Nat.zero_le, Nat.reduceLT, Nat.sub_zero, List.getElem?_cons_zero, and_self]
  all_goals (first | rfl | exact ⟨rfl, rfl⟩)
 | true =>
  have h237 : F237 [.slice false [] [.str k], .str k] = some (.int .i64 0) := F237_eq (true, k) trivial
  simp only [knC, if_true]
  simp only [↓go1, gB0, reduceIte, Nat.reduceEqDiff, Nat.reduceAdd, Aa s237, h237, Int.zero_lt_one, Int.toNat_zero, Int.cast_ofNat_Int, Int.lt_irrefl, Int.le_refl, Ac, Nat.reduceLT, List.head?_cons]
  refine AA.intro (Al ?_) ?_
  ·first | rfl | (simp [Bh, A1, rds, AG]; done) | (simp [Bh, A1, rds, AG, Ai]; done)
  simp only [↓go1, go2, go3, go4, reduceIte, Nat.reduceEqDiff, and_self]
  all_goals (first | rfl | exact ⟨rfl, rfl⟩)
def mk223 (p : Bool) : List D := [.agg [.int .u8 (if p then 4 else 1), .str (if p then [] else [97, 47, 98]), .int .i64 0]]
theorem mk223_inj (x y : Bool) (e : mk223 x = mk223 y) : x = y := by
 revert e; cases x <;> cases y <;> simp [mk223]
noncomputable def F223 : List D → Option D := FX mk223 (fun p => True) (fun p => .tup [.str (if p then [115, 47, 109, 111, 117, 110, 116, 115] else [109, 47, 97, 47, 98]), .int .i64 0])
theorem F223_eq (p : Bool) (h : True) : F223 (mk223 p) = some (.tup [.str (if p then [115, 47, 109, 111, 117, 110, 116, 115] else [109, 47, 97, 47, 98]), .int .i64 0]) := AP (mk := mk223) (ok := fun p => True) (res := fun p => .tup [.str (if p then [115, 47, 109, 111, 117, 110, 116, 115] else [109, 47, 97, 47, 98]), .int .i64 0]) (a := p) mk223_inj h
theorem ok223 : (Ai F223).ok Tryz.prog 223 := by
 obtain ⟨S, hS, hl⟩ := AJ (Ab ok98 Ae)
 have s98 := hl 98 _ rfl
 clear hl
 refine AL hS fn223 (fun _ => by simp [mk223]) (fun p hp => ?_)
 unfold dc223 mk223
 cases p with
 | false =>
  have h98 : F98 [.agg [.int .u8 1, .str [97, 47, 98], .int .i64 0]] = some (.int .i64 0) := by
   have e : rowsE 1 [97, 47, 98] 0 = 0 := by kernel_rfl
   show (if ([97, 47, 98] : Bs).length ≤ 1000000 then some (D.int .i64 (rowsE 1 [97, 47, 98] 0)) else none) = _
   rw [if_pos (by decide), e]
  simp only [if_false, Bool.false_eq_true]
  simp only [↓go1, gB0, reduceIte, Nat.reduceEqDiff, Nat.reduceAdd, Aa s98, h98, Ac, Ag, Ah, Nat.reduceLT, Nat.reduceLeDiff, Option.bind_some]
  all_goals (first | rfl | exact ⟨rfl, rfl⟩)
 | true =>
  have h98 : F98 [.agg [.int .u8 4, .str [], .int .i64 0]] = some (.int .i64 0) := by
   have e : rowsE 4 [] 0 = 0 := by kernel_rfl
   show (if ([] : Bs).length ≤ 1000000 then some (D.int .i64 (rowsE 4 [] 0)) else none) = _
   rw [if_pos (by decide), e]
  simp only [if_true]
  simp only [↓go1, gB0, reduceIte, Nat.reduceEqDiff, Nat.reduceAdd, Aa s98, h98, Int.reduceEq, Ac, Ag, Ah, Nat.reduceLT, Option.bind_some]
  all_goals (first | rfl | exact ⟨rfl, rfl⟩)
def mk123 (p : Bool) : List D := [.int .u8 (if p then 4 else 1), .str (if p then [] else [97, 47, 98]), .int .i64 0]
theorem mk123_inj (x y : Bool) (e : mk123 x = mk123 y) : x = y := by
 revert e; cases x <;> cases y <;> simp [mk123]
noncomputable def F123 : List D → Option D := FX mk123 (fun p => True) (fun p => .str (if p then [115, 47, 109, 111, 117, 110, 116, 115] else [109, 47, 97, 47, 98]))
theorem F123_eq (p : Bool) (h : True) : F123 (mk123 p) = some (.str (if p then [115, 47, 109, 111, 117, 110, 116, 115] else [109, 47, 97, 47, 98])) := AP (mk := mk123) (ok := fun p => True) (res := fun p => .str (if p then [115, 47, 109, 111, 117, 110, 116, 115] else [109, 47, 97, 47, 98])) (a := p) mk123_inj h
theorem ok123 : (Ai F123).ok Tryz.prog 123 := by
 obtain ⟨S, hS, hl⟩ := AJ (Ab ok223 Ae)
 have s223 := hl 223 _ rfl
 clear hl
 refine AL hS fn123 (fun _ => by simp [mk123]) (fun p hp => ?_)
 unfold dc123 mk123
 have h223 : F223 [.agg [.int .u8 (if p then 4 else 1), .str (if p then [] else [97, 47, 98]), .int .i64 0]] = some (.tup [.str (if p then [115, 47, 109, 111, 117, 110, 116, 115] else [109, 47, 97, 47, 98]), .int .i64 0]) := F223_eq p trivial
 simp only [↓go1, gB1, reduceIte, Nat.reduceEqDiff, Nat.reduceAdd, Aa s223, h223, A2, Bt, reduceCtorEq, Nat.reduceLeDiff, List.getElem?_cons_zero, List.getElem?_cons_succ, and_self, List.take_succ_cons, List.take_zero, List.drop_zero, List.drop_succ_cons]
 all_goals (first | rfl | exact ⟨rfl, rfl⟩)
end Go.Vd
namespace Go.Vd
open Go.Proofs
def dc54 : DC := (.drawn [mm 4 0, mm 5 1, cc 6 120 [(.t 5)], mm 7 0, nk 8 7, ff 9 0 8, lk 10 5 9, oo 11 (.build [(.str []), (.bool false), (.str []), (.slice true [] []), (.bool false), (.int .i64 0), (.str []), (.slice true [] []), (.slice true [] [])] [(2, 1, (.t 6)), (4, 5, (.t 10))]), nk 12 4, ff 13 21 12, oz (.store 9 (.t 13) (.t 11))] [(2, 6)])
theorem fn54 : Fn Tryz.prog 54 14 dc54 [] := Ao Tryz.func54
def dc55 : DC := (sr [oo 3 (.box (.t 1))] (.row [mm 5 0, lk 6 10 3, cc 7 121 [(.t 6)], mm 4 7, xx 8 0 4, xx 9 1 4, nk 10 5, ff 11 21 10, ff 12 2 11, oz (.store 1 (.t 12) (.t 8))]))
theorem fn55 : Fn Tryz.prog 55 13 dc55 [] := Ao Tryz.func55
def dc56 : DC := (.row [mm 2 0, oo 3 (.build [(.int .u8 0), (.int .i64 0), (.int .i64 0), (.str []), (.slice true [] []), (.int .i64 0), (.bool false), (.int .i64 0), (.slice true [] []), (.bool false)] [(0, 1, (.c (.int .u8 1)))]), cc 4 55 [(.t 2), (.t 3)]])
theorem fn56 : Fn Tryz.prog 56 5 dc56 [] := Ao Tryz.func56
def dc133 : DC := (.row [mm 6 0, mm 7 1, mm 8 2, mm 9 0, nk 10 9, ff 11 0 10, lk 12 5 11, oo 13 (.build [(.str []), (.bool false), (.str []), (.slice true [] []), (.bool false), (.int .i64 0), (.str []), (.slice true [] []), (.slice true [] [])] [(0, 1, (.t 7)), (1, 1, (.t 8)), (4, 5, (.t 12))]), nk 14 6, ff 15 21 14, oz (.store 9 (.t 15) (.t 13))])
theorem fn133 : Fn Tryz.prog 133 16 dc133 [] := Ao Tryz.func133
def dc135 : DC := (sr [oo 4 (.alloc [(.int .i64 0), (.bool false), (.int .i64 0), (.slice true [] [])]), cb 5 false, cb 6 false] (sr [mm 11 1, cc 12 123 [(.c (.int .u8 1)), (.t 11), (.c (.int .i64 0))], mm 7 12] (sr [mm 14 0, nk 15 14, ff 16 16 15, lk 17 5 16, mm 18 7, cc 19 137 [(.t 17), (.t 18)], mm 13 19, xx 20 0 13, xx 21 1 13, xx 22 2 13, mm 8 20, mm 9 21, mm 6 22] (.seq (sr [mm 23 6, oo 24 (.un .not (.t 23))] (cd 24 (sr [mm 25 0, mm 26 7, cc 27 133 [(.t 25), (.t 26), (.c (.bool false))]] (sr [oo 28 (.build [(.int .i64 0), (.bool false), (.int .i64 0), (.slice true [] [])] []), oz (.store 4 (.t 4) (.t 28)), cb 5 false, cb 6 false] .ret)) .skip)) (sr [mm 30 8, cc 31 240 [(.t 30)], mm 29 31, xx 32 0 29, xx 33 1 29, oz (.store 4 (.t 4) (.t 32)), mm 10 33] (.seq (sr [mm 34 9, oo 35 (.un .not (.t 34)), mm 36 35, og 37 (.mv (.t 10)) 2 false, og 38 (.bin .neq (.t 37) (.c (.int .i64 0))) 2 false, oo 39 (.pick (.t 36) (.c (.bool true)) (.t 38))] (cd 39 (sr [oo 40 (.build [(.int .i64 0), (.bool false), (.int .i64 0), (.slice true [] [])] []), oz (.store 4 (.t 4) (.t 40)), cb 5 false, cb 6 true] .ret) .skip)) (sr [lk 41 4 4, oz (.store 4 (.t 4) (.t 41)), cb 5 true, cb 6 true] .ret)))))))
theorem fn135 : Fn Tryz.prog 135 42 dc135 [.cell (some 4) 4, .t 5, .t 6] := Ao Tryz.func135
def dc58 : DC := (.seq (.drawn [mm 5 0, nk 6 5, ff 7 0 6, ff 8 3 7, lk 9 1 8, mm 10 0, nk 11 10, ff 12 5 11, ff 13 2 12, ll 14 13, mm 15 0, nk 16 15, ff 17 5 16, ff 18 4 17, ll 19 18, mm 20 0, nk 21 20, ff 22 5 21, ff 23 6 22, ll 24 23, oo 25 (.build [(.int .i64 0), (.bool false)] [(0, 1, (.t 19)), (1, 1, (.t 24))]), oo 26 (.build [(.str []), (.int .i64 0), (.bool false)] [(0, 1, (.t 14)), (1, 2, (.t 25))]), cc 27 45 [(.t 9), (.t 26)], mm 4 27, xx 28 0 4, xx 29 1 4, oo 2 (.alloc [(.slice true [] [])]), oz (.store 1 (.t 2) (.t 28)), mm 3 29] [(22, 26), (26, 4), (26, 9), (26, 14), (26, 19), (26, 22)]) (.seq (sr [mm 30 3, bi 31 .neq 30 0] (cd 31 (sr [mm 32 0, mm 33 3, cc 34 54 [(.t 32), (.t 33)]] .ret) .skip)) (sr [mm 35 0, lk 36 1 2, nk 37 35, ff 38 21 37, ff 39 4 38, ff 40 3 39, oz (.store 1 (.t 40) (.t 36))] (.seq (.drawn [mm 41 0, cc 42 123 [(.c (.int .u8 4)), (.c (.str [])), (.c (.int .i64 0))], lk 43 1 2, cc 44 126 [(.t 43)], cc 45 122 [(.t 41), (.c (.int .u8 1)), (.t 42), (.t 44)]] [(1, 2)]) (.row [mm 46 0, cc 47 56 [(.t 46)]])))))
theorem fn58 : Fn Tryz.prog 58 48 dc58 [] := Ao Tryz.func58
def dc63 : DC := (sr [mm 15 0, mm 16 0, nk 17 16, ff 18 5 17, ff 19 2 18, ll 20 19, cc 21 135 [(.t 15), (.t 20)], mm 14 21, xx 22 0 14, xx 23 1 14, xx 24 2 14, oo 2 (.alloc [(.int .i64 0), (.bool false), (.int .i64 0), (.slice true [] [])]), oz (.store 4 (.t 2) (.t 22)), mm 3 23, mm 4 24] (.seq (sr [mm 25 4, oo 26 (.un .not (.t 25))] (cd 26 .ret .skip)) (.seq (sr [mm 27 3, oo 28 (.un .not (.t 27))] (cd 28 (sr [mm 29 0, cc 30 54 [(.t 29), (.c (.int .i64 6))]] .ret) .skip)) (sr [mm 31 0, nk 32 31, ff 33 5 32, ff 34 4 33, ll 35 34, mm 5 35] (.seq (sr [mm 36 0, nk 37 36, ff 38 5 37, ff 39 0 38, ll 40 39, oo 41 (.bin .eql (.t 40) (.c (.int .u8 18)))] (cd 41 (.row [ci 5 0]) .skip)) (sr [lk 43 4 2, mm 44 5, cc 45 136 [(.t 43), (.t 44)], mm 42 45, xx 46 0 42, xx 47 1 42, oo 6 (.alloc [(.int .i64 0), (.bool false), (.bool false)]), oz (.store 3 (.t 6) (.t 46)), mm 7 47] (.seq (sr [mm 48 7, bi 49 .neq 48 0] (cd 49 (sr [mm 50 0, mm 51 7, cc 52 54 [(.t 50), (.t 51)]] .ret) .skip)) (.seq (.drawn [mm 53 0, nk 54 53, ff 55 5 54, ff 56 2 55, ll 57 56, ff 58 0 6, ll 59 58, cc 60 123 [(.c (.int .u8 2)), (.t 57), (.t 59)], mm 8 60] []) (sr [mm 62 0, nk 63 62, ff 64 16 63, lk 65 5 64, mm 66 8, cc 67 137 [(.t 65), (.t 66)], mm 61 67, xx 68 0 61, xx 69 1 61, xx 70 2 61, mm 9 68, mm 10 69, mm 4 70] (.seq (.block 0 (sr [mm 72 4, oo 73 (.un .not (.t 72)), mm 71 73] (cd 71 (sr [mm 74 0, mm 75 8, cc 76 133 [(.t 74), (.t 75), (.c (.bool false))]] .ret) (sr [mm 78 10, oo 79 (.un .not (.t 78)), mm 77 79] (cd 77 (.row [oo 9 (.mv (.c (.str [])))]) .skip))))) (.seq (sr [mm 80 0, nk 81 80, ff 82 5 81, ff 83 0 82, ll 84 83, oo 85 (.bin .eql (.t 84) (.c (.int .u8 9)))] (cd 85 (sr [mm 86 0, ff 87 0 6, ll 88 87, mm 89 9, oo 90 (.build [(.int .u8 0), (.int .i64 0), (.int .i64 0), (.str []), (.slice true [] []), (.int .i64 0), (.bool false), (.int .i64 0), (.slice true [] []), (.bool false)] [(0, 1, (.c (.int .u8 3))), (2, 1, (.t 88)), (3, 1, (.t 89))]), cc 91 55 [(.t 86), (.t 90)]] .ret) .skip)) (sr [mm 93 0, mm 94 0, nk 95 94, ff 96 5 95, ff 97 3 96, ll 98 97, cc 99 135 [(.t 93), (.t 98)], mm 92 99, xx 100 0 92, xx 101 1 92, xx 102 2 92, oo 11 (.alloc [(.int .i64 0), (.bool false), (.int .i64 0), (.slice true [] [])]), oz (.store 4 (.t 11) (.t 100)), mm 12 101, mm 13 102] (sr [mm 103 13] (cd 103 (.drawn [mm 104 0, mm 105 0, nk 106 105, ff 107 5 106, ff 108 3 107, ll 109 108, lk 110 4 11, mm 111 9, cc 112 138 [(.t 104), (.t 109), (.t 110), (.c (.int .i64 (-1))), (.t 111)]] []) .skip))))))))))))))
theorem fn63 : Fn Tryz.prog 63 113 dc63 [] := Ao Tryz.func63
def dc19 : DC := (sr [oo 3 (.box (.t 0)), oo 4 (.box (.t 1)), oo 5 (.box (.t 2)), oo 6 (.alloc [(.str []), (.bool false), (.str []), (.slice true [] []), (.bool false), (.int .i64 0), (.str []), (.slice true [] []), (.slice true [] [])])] (sr [lk 9 5 3, lk 10 11 4, lk 11 5 5, lk 12 5 3, oo 13 (.build [(.str []), (.bool false), (.str []), (.slice true [] []), (.bool false), (.int .i64 0), (.str []), (.slice true [] []), (.slice true [] [])] [(4, 5, (.t 12))]), oo 14 (.build [(.bool false), (.int .i64 0), (.str []), (.slice true [] []), (.slice true [] []), (.int .u8 0), (.str []), (.str []), (.str []), (.int .i64 0), (.int .i64 0), (.bool false), (.slice true [] []), (.str []), (.slice true [] []), (.str []), (.slice true [] []), (.slice true [] []), (.slice true [] []), (.slice true [] []), (.slice true [] []), (.str []), (.bool false), (.str []), (.slice true [] []), (.bool false), (.int .i64 0), (.str []), (.slice true [] []), (.slice true [] [])] [(0, 5, (.t 9)), (5, 11, (.t 10)), (16, 5, (.t 11)), (21, 9, (.t 13))]), oo 15 (.box (.t 14)), mm 7 15] (.seq (sr [lk 16 5 3, lk 17 11 4, cc 18 25 [(.t 16), (.t 17)], mm 8 18] (sr [mm 19 8, bi 20 .neq 19 0] (cd 20 (sr [mm 21 7, mm 22 8, cc 23 54 [(.t 21), (.t 22)]] (sr [mm 24 7, nk 25 24, ff 26 21 25, lk 27 9 26, oz (.store 9 (.t 6) (.t 27))] .ret)) .skip))) (.seq (sr [ff 28 0 4, ll 29 28] (.block 0 (sr [oo 33 (.bin .eql (.t 29) (.c (.int .u8 1))), mm 32 33] (cd 32 (.row [mm 34 7, mm 35 7, nk 36 35, ff 37 0 36, ff 38 0 37, ll 39 38, oo 40 (.build [(.int .u8 0), (.int .i64 0), (.int .i64 0), (.str []), (.slice true [] []), (.int .i64 0), (.bool false), (.int .i64 0), (.slice true [] []), (.bool false)] [(0, 1, (.c (.int .u8 6))), (9, 1, (.t 39))]), cc 41 55 [(.t 34), (.t 40)]]) (.seq (sr [oo 43 (.bin .eql (.t 29) (.c (.int .u8 2))), mm 42 43] (cd 42 .skip (.row [oo 44 (.bin .eql (.t 29) (.c (.int .u8 3))), mm 42 44]))) (cd 42 (sr [mm 45 7, ff 46 0 4, ll 47 46, oo 48 (.bin .eql (.t 47) (.c (.int .u8 3))), nk 49 45, ff 50 21 49, ff 51 4 50, ff 52 0 51, oz (.store 1 (.t 52) (.t 48))] (.row [mm 53 7, cc 54 56 [(.t 53)]])) (sr [oo 56 (.bin .eql (.t 29) (.c (.int .u8 4))), mm 55 56] (cd 55 (.row [mm 57 7, cc 58 57 [(.t 57)]]) (sr [oo 60 (.bin .eql (.t 29) (.c (.int .u8 5))), mm 59 60] (cd 59 (.row [mm 61 7, cc 62 58 [(.t 61)]]) (sr [oo 64 (.bin .eql (.t 29) (.c (.int .u8 6))), mm 63 64] (cd 63 (.row [mm 65 7, cc 66 59 [(.t 65)]]) (sr [oo 68 (.bin .eql (.t 29) (.c (.int .u8 7))), mm 67 68] (cd 67 (.row [mm 69 7, cc 70 60 [(.t 69)]]) (sr [oo 72 (.bin .eql (.t 29) (.c (.int .u8 8))), mm 71 72] (cd 71 (.row [mm 73 7, cc 74 61 [(.t 73)]]) (sr [oo 76 (.bin .eql (.t 29) (.c (.int .u8 17))), mm 75 76] (cd 75 (.row [mm 77 7, cc 78 62 [(.t 77)]]) (.seq (sr [oo 80 (.bin .eql (.t 29) (.c (.int .u8 9))), mm 79 80] (cd 79 .skip (.row [oo 81 (.bin .eql (.t 29) (.c (.int .u8 18))), mm 79 81]))) (cd 79 (.row [mm 82 7, cc 83 63 [(.t 82)]]) (.row [mm 30 7, cc 31 64 [(.t 30)]]))))))))))))))))))))) (sr [mm 84 7, nk 85 84, ff 86 21 85, lk 87 9 86, oz (.store 9 (.t 6) (.t 87))] .ret)))))
theorem fn19 : Fn Tryz.prog 19 88 dc19 [.cell (some 9) 6] := Ao Tryz.func19
def dc10 : DC := (sr [cb 0 false] (sr [cc 7 23 [(.c (.str [107]))], oo 1 (.alloc [(.bool false), (.int .i64 0), (.str []), (.slice true [] []), (.slice true [] [])]), oz (.store 5 (.t 1) (.t 7))] (sr [lk 8 5 1, oo 9 (.build [(.int .u8 0), (.str []), (.str []), (.str []), (.int .i64 0), (.int .i64 0), (.bool false), (.slice true [] []), (.str []), (.slice true [] []), (.str [])] [(0, 1, (.c (.int .u8 1)))]), oo 10 (.build [(.slice true [] []), (.slice true [] []), (.slice true [] []), (.slice true [] []), (.slice true [] [])] []), cc 11 19 [(.t 8), (.t 9), (.t 10)], oo 2 (.alloc [(.str []), (.bool false), (.str []), (.slice true [] []), (.bool false), (.int .i64 0), (.str []), (.slice true [] []), (.slice true [] [])]), oz (.store 9 (.t 2) (.t 11))] (sr [lk 12 5 1, oo 13 (.build [(.int .u8 0), (.str []), (.str []), (.str []), (.int .i64 0), (.int .i64 0), (.bool false), (.slice true [] []), (.str []), (.slice true [] []), (.str [])] [(0, 1, (.c (.int .u8 9))), (1, 1, (.c (.str [114, 111, 111, 116]))), (2, 1, (.c (.str [97, 47, 98])))]), oo 14 (.build [(.slice true [] []), (.slice true [] []), (.slice true [] []), (.slice true [] []), (.slice true [] [])] []), cc 15 19 [(.t 12), (.t 13), (.t 14)], oo 3 (.alloc [(.str []), (.bool false), (.str []), (.slice true [] []), (.bool false), (.int .i64 0), (.str []), (.slice true [] []), (.slice true [] [])]), oz (.store 9 (.t 3) (.t 15))] (sr [lk 16 5 1, oo 17 (.build [(.int .u8 0), (.str []), (.str []), (.str []), (.int .i64 0), (.int .i64 0), (.bool false), (.slice true [] []), (.str []), (.slice true [] []), (.str [])] [(0, 1, (.c (.int .u8 5))), (1, 1, (.c (.str [114, 111, 111, 116]))), (2, 1, (.c (.str [97]))), (4, 1, (.c (.int .i64 2)))]), oo 18 (.build [(.slice true [] []), (.slice true [] []), (.slice true [] []), (.slice true [] []), (.slice true [] [])] []), cc 19 19 [(.t 16), (.t 17), (.t 18)], oo 4 (.alloc [(.str []), (.bool false), (.str []), (.slice true [] []), (.bool false), (.int .i64 0), (.str []), (.slice true [] []), (.slice true [] [])]), oz (.store 9 (.t 4) (.t 19))] (sr [ff 20 4 4, lk 21 5 20, oo 22 (.build [(.int .u8 0), (.str []), (.str []), (.str []), (.int .i64 0), (.int .i64 0), (.bool false), (.slice true [] []), (.str []), (.slice true [] []), (.str [])] [(0, 1, (.c (.int .u8 9))), (1, 1, (.c (.str [114, 111, 111, 116]))), (2, 1, (.c (.str [97, 47, 98])))]), oo 23 (.build [(.slice true [] []), (.slice true [] []), (.slice true [] []), (.slice true [] []), (.slice true [] [])] []), cc 24 19 [(.t 21), (.t 22), (.t 23)], oo 5 (.alloc [(.str []), (.bool false), (.str []), (.slice true [] []), (.bool false), (.int .i64 0), (.str []), (.slice true [] []), (.slice true [] [])]), oz (.store 9 (.t 5) (.t 24))] (.seq (.drawn [ff 25 4 4, lk 26 5 25, oo 27 (.build [(.int .u8 0), (.str []), (.str []), (.str []), (.int .i64 0), (.int .i64 0), (.bool false), (.slice true [] []), (.str []), (.slice true [] []), (.str [])] [(0, 1, (.c (.int .u8 9))), (1, 1, (.c (.str [114, 111, 111, 116]))), (2, 1, (.c (.str [97, 47, 98])))]), oo 28 (.build [(.slice true [] []), (.slice true [] []), (.slice true [] []), (.slice true [] []), (.slice true [] [])] []), cc 29 12 [(.t 28), (.c (.str [109, 47, 97, 47, 98])), (.c (.str [])), (.c (.bool false))], cc 30 19 [(.t 26), (.t 27), (.t 29)], oo 6 (.alloc [(.str []), (.bool false), (.str []), (.slice true [] []), (.bool false), (.int .i64 0), (.str []), (.slice true [] []), (.slice true [] [])]), oz (.store 9 (.t 6) (.t 30))] [(4, 1), (4, 6), (5, 6), (6, 1), (6, 4), (6, 5)]) (sr [ff 31 2 2, ll 32 31, oo 33 (.bin .eql (.t 32) (.c (.str [111, 107, 32, 111, 112, 101, 110]))), mm 34 33, og 35 (.faddr 2 (.t 3)) 3 true, og 36 (.load none (.t 35)) 3 true, og 37 (.bin .eql (.t 36) (.c (.str [101, 114, 114, 111, 114, 32, 49, 52]))) 3 true, oo 38 (.pick (.t 34) (.t 37) (.c (.bool false))), mm 39 38, og 40 (.faddr 2 (.t 4)) 8 true, og 41 (.load none (.t 40)) 8 true, og 42 (.bin .eql (.t 41) (.c (.str [111, 107]))) 8 true, oo 43 (.pick (.t 39) (.t 42) (.c (.bool false))), mm 44 43, og 45 (.faddr 3 (.t 4)) 13 true, og 46 (.load none (.t 45)) 13 true, og 47 (.len false (.t 46)) 13 true, og 48 (.bin .eql (.t 47) (.c (.int .i64 1))) 13 true, oo 49 (.pick (.t 44) (.t 48) (.c (.bool false))), mm 50 49, og 51 (.faddr 3 (.t 4)) 19 true, og 52 (.load none (.t 51)) 19 true, og 53 (.iaddr 3 (.t 52) (.c (.int .i64 0))) 19 true, og 54 (.faddr 1 (.t 53)) 19 true, og 55 (.load none (.t 54)) 19 true, og 56 (.bin .eql (.t 55) (.c (.str [115, 47, 109, 111, 117, 110, 116, 115]))) 19 true, oo 57 (.pick (.t 50) (.t 56) (.c (.bool false))), mm 58 57, og 59 (.faddr 0 (.t 5)) 27 true, og 60 (.load none (.t 59)) 27 true, og 61 (.bin .eql (.t 60) (.c (.str [109, 47, 97, 47, 98]))) 27 true, oo 62 (.pick (.t 58) (.t 61) (.c (.bool false))), mm 63 62, og 64 (.faddr 1 (.t 5)) 32 true, og 65 (.load none (.t 64)) 32 true, og 66 (.un .not (.t 65)) 32 true, oo 67 (.pick (.t 63) (.t 66) (.c (.bool false))), mm 68 67, og 69 (.faddr 2 (.t 5)) 37 true, og 70 (.load none (.t 69)) 37 true, og 71 (.bin .eql (.t 70) (.c (.str []))) 37 true, oo 72 (.pick (.t 68) (.t 71) (.c (.bool false))), mm 73 72, og 74 (.faddr 2 (.t 6)) 42 true, og 75 (.load none (.t 74)) 42 true, og 76 (.bin .eql (.t 75) (.c (.str [101, 114, 114, 111, 114, 32, 54]))) 42 true, oo 77 (.pick (.t 73) (.t 76) (.c (.bool false))), mm 78 77, og 79 (.call (.c (.fn 27 [])) [(.c (.int .u8 10))]) 47 true, og 80 (.bin .eql (.t 79) (.c (.int .u8 2))) 47 true, oo 81 (.pick (.t 78) (.t 80) (.c (.bool false))), mm 82 81, og 83 (.call (.c (.fn 29 [])) [(.c (.int .u8 18))]) 51 true, oo 84 (.pick (.t 82) (.t 83) (.c (.bool false))), mm 85 84, og 86 (.call (.c (.fn 29 [])) [(.c (.int .u8 9))]) 54 true, og 87 (.un .not (.t 86)) 54 true, oo 88 (.pick (.t 85) (.t 87) (.c (.bool false))), mm 89 88, og 90 (.load (some 5) (.t 1)) 58 true, og 91 (.build [(.int .u8 0), (.str []), (.str []), (.str []), (.int .i64 0), (.int .i64 0), (.bool false), (.slice true [] []), (.str []), (.slice true [] []), (.str [])] []) 58 true, og 92 (.call (.c (.fn 25 [])) [(.t 90), (.t 91)]) 58 true, og 93 (.bin .eql (.t 92) (.c (.int .i64 22))) 58 true, oo 94 (.pick (.t 89) (.t 93) (.c (.bool false))), mm 95 94, oo 96 (.pick (.t 95) (.c (.bool true)) (.c (.bool false))), mm 97 96, oo 98 (.pick (.t 97) (.c (.bool true)) (.c (.bool false))), mm 99 98, oo 100 (.pick (.t 99) (.c (.bool true)) (.c (.bool false))), mm 0 100] .ret))))))))
theorem fn10 : Fn Tryz.prog 10 101 dc10 [.t 0] := Ao Tryz.func10
end Go.Vd
namespace Go.Vd
open Go.Proofs Go.RowKit
theorem vwC_ex (v : Vw) : vwC v = [.bool v.se, .int .i64 v.te, .str v.key, .slice v.nlm [] (Ar v.ms), .slice v.nlt [] (AC v.ks)] := rfl
theorem Et {a b : Vw} {r q : List D} (h : vwC a ++ r = vwC b ++ q) : a = b ∧ r = q := by
 obtain ⟨h1, h2⟩ := List.append_inj h (by rw [AM, AM])
 exact ⟨DH (congrArg D.agg h1), h2⟩
theorem rd_view {m : Mem} {i : Id} {v : Vw} {r : List D} {n : Nat} (h : Af m i 0 n = some (vwC v ++ r)) (hn : 5 ≤ n) : Af m i 0 5 = some (vwC v) := by
 have := rd_sub (o := 0) (k := 5) h (by omega)
 rw [this, List.drop_zero, List.take_left' (AM v)]
theorem rd_is {m : Mem} {i : Id} {cs : List D} {n o k : Nat} (h : Af m i 0 n = some cs) (hn : o + k ≤ n) : (Af m i o k).isSome = true := by
 rw [rd_sub h hn]; rfl
theorem rd_is1 {m : Mem} {i : Id} {cs : List D} {n o : Nat} (h : Af m i 0 n = some cs) (hn : o + 1 ≤ n) : ∃ x, m i o = some x := by
 obtain ⟨h1, h2⟩ := A8 h
 have := h2 o (by omega)
 rw [Nat.zero_add] at this
 rw [this, List.getElem?_eq_getElem (by omega)]
 exact ⟨_, rfl⟩
def A6 (cs : List D) (o : Nat) (ys : List D) : List D := cs.take o ++ ys ++ cs.drop (o + ys.length)
theorem Eg {m : Mem} {i : Id} {cs ys : List D} {n o : Nat} (h : Af m i 0 n = some cs) (hk : o + ys.length ≤ n) : Af (m.put i o ys) i 0 n = some (A6 cs o ys) := rd_put h hk
def mk54 (p : Vw × List D × Int) : List D × List D := (vwC p.1 ++ p.2.1, [.int .i64 p.2.2])
theorem mk54_inj (x y : Vw × List D × Int) (e : mk54 x = mk54 y) : x = y := by
 simp only [mk54, Prod.mk.injEq, List.cons.injEq, D.int.injEq, true_and, and_true] at e
 obtain ⟨h1, h2⟩ := Et e.1
 exact Prod.ext h1 (Prod.ext h2 e.2)
def rs54 (p : Vw × List D × Int) : D × List D := (.tup [], A6 (vwC p.1 ++ p.2.1) 21 ([.str [], .bool false, .str (rpT 0 p.2.2), .slice true [] []] ++ vwC p.1))
noncomputable def F54 : List D → List D → Option (D × List D) := FM mk54 (fun p => p.2.1.length = 25 ∧ (p.2.2 = 6 ∨ p.2.2 = 14)) rs54
theorem F54_eq (p : Vw × List D × Int) (h : p.2.1.length = 25 ∧ (p.2.2 = 6 ∨ p.2.2 = 14)) : F54 (mk54 p).1 (mk54 p).2 = some (rs54 p) := FM_eq (mk := mk54) (ok := fun p => p.2.1.length = 25 ∧ (p.2.2 = 6 ∨ p.2.2 = 14)) (res := rs54) (a := p) mk54_inj h
theorem ok54 : (mQ 30 F54).ok Tryz.prog 54 := by
 obtain ⟨S, hS, hl⟩ := AJ (Ab ok120 Ae)
 have s120 := hl 120 _ rfl
 clear hl
 refine mx_ok hS fn54 (by decide) (fun _ => by simp [mk54]) (fun p hp i m fr hcs hfr hni hni0 => ?_)
 unfold dc54
 obtain ⟨v, r, e⟩ := p
 obtain ⟨hr, he⟩ := hp
 simp only at hr he
 have h120 : F120 [.int .i64 e] = some (.str (rpT 0 e)) := F120_eq e he
 replace hcs : Af m i 0 30 = some (vwC v ++ r) := hcs
 have r0 := rd_view hcs (by decide)
 rw [vwC_ex] at r0
 have r1 := rd_is (o := 21) (k := 9) hcs (by decide)
 have r2 := Eg (o := 21) (ys := [.str [], .bool false, .str (rpT 0 e), .slice true [] []] ++ vwC v) hcs (Nat.le_of_ble_eq_true rfl)
 unfold mk54 rs54
 simp only [↓go1, gB1, reduceIte, Nat.reduceEqDiff, Nat.reduceAdd, r0, r1, Aa s120, h120, A2, Bt, reduceCtorEq, Nat.reduceLeDiff, and_self, List.take_succ_cons, List.take_zero, List.drop_zero, List.drop_succ_cons]
 refine AA.intro (Al ?_) ?_
 ·first | rfl | (simp [Bh, A1, rds, AG]; done) | (simp [Bh, A1, rds, AG, Ai]; done)
 simp only [↓go1, go2, go3, go4]
 exact ⟨r2, Bm.own Bm.refl (Nat.le_of_ble_eq_true rfl)⟩
def mk133 (p : Vw × List D × Bs) : List D × List D := (vwC p.1 ++ p.2.1, [.str p.2.2, .bool false])
theorem mk133_inj (x y : Vw × List D × Bs) (e : mk133 x = mk133 y) : x = y := by
 simp only [mk133, Prod.mk.injEq, List.cons.injEq, D.str.injEq, and_true] at e
 obtain ⟨h1, h2⟩ := Et e.1
 exact Prod.ext h1 (Prod.ext h2 e.2)
def rs133 (p : Vw × List D × Bs) : D × List D := (.tup [], A6 (vwC p.1 ++ p.2.1) 21 ([.str p.2.2, .bool false, .str [], .slice true [] []] ++ vwC p.1))
noncomputable def F133 : List D → List D → Option (D × List D) := FM mk133 (fun p => p.2.1.length = 25) rs133
theorem F133_eq (p : Vw × List D × Bs) (h : p.2.1.length = 25) : F133 (mk133 p).1 (mk133 p).2 = some (rs133 p) := FM_eq (mk := mk133) (ok := fun p => p.2.1.length = 25) (res := rs133) (a := p) mk133_inj h
theorem ok133 : (mQ 30 F133).ok Tryz.prog 133 := by
 have hS : Summs.ok Tryz.prog (fun _ => none) := Au
 refine mx_ok hS fn133 (by decide) (fun _ => by simp [mk133]) (fun p hp i m fr hcs hfr hni hni0 => ?_)
 unfold dc133
 obtain ⟨v, r, w⟩ := p
 replace hcs : Af m i 0 30 = some (vwC v ++ r) := hcs
 have r0 := rd_view hcs (by decide)
 rw [vwC_ex] at r0
 have r1 := rd_is (o := 21) (k := 9) hcs (by decide)
 have r2 := Eg (o := 21) (ys := [.str w, .bool false, .str [], .slice true [] []] ++ vwC v) hcs (Nat.le_of_ble_eq_true rfl)
 unfold mk133 rs133
 simp only [↓go1, gB1, reduceIte, Nat.reduceEqDiff, Nat.reduceAdd, r0, r1, A2, Bt, reduceCtorEq, Nat.reduceLeDiff, and_self, List.take_succ_cons, List.take_zero, List.drop_zero, List.drop_succ_cons]
 exact ⟨r2, Bm.own Bm.refl (Nat.le_of_ble_eq_true rfl)⟩
def mk55 (p : List D × Int × Int) : List D × List D := (p.1, [rpD p.2.1 p.2.2])
theorem mk55_inj (x y : List D × Int × Int) (e : mk55 x = mk55 y) : x = y := by
 simp only [mk55, Prod.mk.injEq, List.cons.injEq, and_true] at e
 obtain ⟨h1, h2⟩ := rpD_inj e.2
 exact Prod.ext e.1 (Prod.ext h1 h2)
def rs55 (p : List D × Int × Int) : D × List D := (.tup [], A6 p.1 23 [.str (rpT p.2.1 p.2.2)])
noncomputable def F55 : List D → List D → Option (D × List D) := FM mk55 (fun p => p.1.length = 30 ∧ ((p.2.1 = 1 ∧ p.2.2 = 0) ∨ (p.2.1 = 6 ∧ p.2.2 = 0))) rs55
theorem F55_eq (p : List D × Int × Int) (h : p.1.length = 30 ∧ ((p.2.1 = 1 ∧ p.2.2 = 0) ∨ (p.2.1 = 6 ∧ p.2.2 = 0))) : F55 (mk55 p).1 (mk55 p).2 = some (rs55 p) := FM_eq (mk := mk55) (ok := fun p => p.1.length = 30 ∧ ((p.2.1 = 1 ∧ p.2.2 = 0) ∨ (p.2.1 = 6 ∧ p.2.2 = 0))) (res := rs55) (a := p) mk55_inj h
theorem ok55 : (mQ 30 F55).ok Tryz.prog 55 := by
 obtain ⟨S, hS, hl⟩ := AJ (Ab ok121 Ae)
 have s121 := hl 121 _ rfl
 clear hl
 refine mx_ok hS fn55 (by decide) (fun _ => by simp [mk55]) (fun p hp i m fr hcs hfr hni hni0 => ?_)
 unfold dc55
 obtain ⟨cs, k, e⟩ := p
 obtain ⟨hl, hk⟩ := hp
 simp only at hl hk
 have h121 : F121 [rpD k e] = some (.tup [.str (rpT k e), .int .i64 0]) := F121_eq (k, e) (by simp only; omega)
 replace hcs : Af m i 0 30 = some cs := hcs
 obtain ⟨x, hx⟩ := rd_is1 (o := 23) hcs (by decide)
 have r2 := fun (m' : Mem) (h : Af m' i 0 30 = some cs) => Eg (o := 23) (ys := [.str (rpT k e)]) h (Nat.le_of_ble_eq_true rfl)
 have o1 := oth1 hni0
 unfold rpD at h121
 unfold mk55 rs55 rpD
 simp only [↓go1, gB1, reduceIte, Nat.reduceEqDiff, Nat.reduceAdd, hx, Aa s121, h121, oth1 hni0, reduceCtorEq, Dk, List.getElem?_cons_zero, List.getElem?_cons_succ, and_self, Option.isSome_some, Av]
 refine ⟨r2 _ ?_, Bm.own (Bm.new0 hfr Bm.refl) (Nat.le_of_ble_eq_true rfl)⟩
 rw [o1]; exact hcs
def mk56 (p : List D) : List D × List D := (p, [])
theorem mk56_inj (x y : List D) (e : mk56 x = mk56 y) : x = y := by
 simpa [mk56] using e
def rs56 (p : List D) : D × List D := (.tup [], A6 p 23 [.str [111, 107]])
noncomputable def F56 : List D → List D → Option (D × List D) := FM mk56 (fun p => p.length = 30) rs56
theorem F56_eq (p : List D) (h : p.length = 30) : F56 (mk56 p).1 (mk56 p).2 = some (rs56 p) := FM_eq (mk := mk56) (ok := fun p => p.length = 30) (res := rs56) (a := p) mk56_inj h
theorem ok56 : (mQ 30 F56).ok Tryz.prog 56 := by
 obtain ⟨S, hS, hl⟩ := AJ (Ab ok55 Ae)
 have s55 := hl 55 _ rfl
 clear hl
 refine mx_ok hS fn56 (by decide) (fun _ => by simp [mk56]) (fun p hp i m fr hcs hfr hni hni0 => ?_)
 unfold dc56
 replace hcs : Af m i 0 30 = some p := hcs
 have h55 : F55 p [rpD 1 0] = some (.tup [], A6 p 23 [.str [111, 107]]) := F55_eq (p, 1, 0) ⟨hp, .inl ⟨rfl, rfl⟩⟩
 have hl : (A6 p 23 [.str [111, 107]]).length = 30 := by simp [A6, hp]
 unfold rpD at h55
 unfold mk56 rs56
 simp only [↓go1, gB1, reduceIte, Nat.reduceEqDiff, Nat.reduceAdd, AK s55, D6, hcs, h55, A2, Bt, Nat.reduceLeDiff, and_self, Option.bind_some, List.take_zero, List.drop_zero, List.drop_succ_cons]
 exact ⟨Av hl, Bm.own Bm.refl (by rw [hl]; exact Nat.le_of_ble_eq_true rfl)⟩
end Go.Vd
namespace Go.Vd
open Go.RowKit
def nQ (n e : Nat) (F : List D → List D → Option (D × Id × (Id → List D))) : Summ where
 rd := fun ds _ => match ds with
  | .ptr i 0 :: _ => AG i 0 n
  | _ => []
 ex := fun ds m fr => match ds with
  | .ptr i 0 :: rest => match Af m i 0 n with
   | some cs => (F cs rest).map fun y => (y.1, [(i, 0, y.2.2 (y.2.1 ++ fr)), (y.2.1 ++ fr, 0, [.tok (e + 1)])])
   | none => none
  | _ => none
theorem nQ_loc {n e : Nat} {F : List D → List D → Option (D × Id × (Id → List D))} (ds : List D) (m m' : Mem) (fr : Id) (h : ∀ l ∈ (nQ n e F).rd ds m, m l.1 l.2 = m' l.1 l.2) : (nQ n e F).ex ds m fr = (nQ n e F).ex ds m' fr := by
 simp only [nQ] at h ⊢
 split
 ·rename_i i rest
  rw [Cl (m := m) (m' := m') h]
 ·rfl
theorem nQ_run {n e : Nat} {F : List D → List D → Option (D × Id × (Id → List D))} {i : Id} {m : Mem} {rest : List D} {fr : Id} :
  (nQ n e F).ex (.ptr i 0 :: rest) m fr = (Af m i 0 n).bind fun cs => (F cs rest).map fun y => (y.1, [(i, 0, y.2.2 (y.2.1 ++ fr)), (y.2.1 ++ fr, 0, [.tok (e + 1)])]) := by
 simp only [nQ]
 cases Af m i 0 n <;> rfl
section
variable {α : Type} {mk : α → List D × List D} {ok : α → Prop} {res : α → D × Id × (Id → List D)}
open Classical in
noncomputable def FN (mk : α → List D × List D) (ok : α → Prop) (res : α → D × Id × (Id → List D)) : List D → List D → Option (D × Id × (Id → List D)) := fun cs rest => if h : ∃ a, ok a ∧ mk a = (cs, rest) then some (res (Classical.choose h)) else none
theorem FN_eq (inj : ∀ a b, mk a = mk b → a = b) {a : α} (ha : ok a) : FN mk ok res (mk a).1 (mk a).2 = some (res a) := by
 have h : ∃ b, ok b ∧ mk b = ((mk a).1, (mk a).2) := ⟨a, ha, rfl⟩
 unfold FN
 rw [dif_pos h, inj _ _ (Classical.choose_spec h).2]
theorem FN_get {cs rest : List D} {r : D × Id × (Id → List D)} (h : FN mk ok res cs rest = some r) : ∃ a, ok a ∧ mk a = (cs, rest) ∧ res a = r := by
 unfold FN at h
 split at h
 ·rename_i hx
  simp only [Option.some.injEq] at h
  exact ⟨_, (Classical.choose_spec hx).1, (Classical.choose_spec hx).2, h⟩
 ·cases h
theorem nx_ok {P : Program} {S : Summs} {f : FuncId} {N : Nat} {dc : DC} {rs : List RV} (hS : Summs.ok P S) (hf : Fn P f N dc rs) {n e : Nat} (hn : 0 < n) (hN : ∀ a, (mk a).2.length + 1 ≤ N) (hq : ∀ a, ∃ l k, (res a).2.1 = l ++ [k])
  (h : ∀ a, ok a → ∀ (i : Id) (m : Mem) (fr : Id), Af m i 0 n = some (mk a).1 → (∀ j o, fr <:+ j → m j o = none) → (∀ k l, (i = l ++ k :: fr) = False) → (∀ k, (i = k :: fr) = False) →
   dc.wp S fr (De rs fun d m' => d = (res a).1 ∧ Af m' i 0 n = some ((res a).2.2 ((res a).2.1 ++ fr)) ∧ m' ((res a).2.1 ++ fr) 0 = some (.tok (e + 1)) ∧ Bm n i m m') ⟨Bi (.ptr i 0 :: (mk a).2), m, 0⟩) : (nQ n e (FN mk ok res)).ok P f := by
 refine opn_ok2 hS hf nQ_loc (fun ds m fr r u hex hfr => ?_)
 simp only [nQ] at hex
 split at hex
 ·rename_i i rest
  split at hex
  ·rename_i cs hcs
   rw [Option.map_eq_some_iff] at hex
   obtain ⟨y, hF, hex⟩ := hex
   simp only [Prod.mk.injEq] at hex
   obtain ⟨rfl, rfl⟩ := hex
   obtain ⟨a, ha, e1, rfl⟩ := FN_get hF
   have hi0 : ∃ x, m i 0 = some x := by
    obtain ⟨h1, h2⟩ := A8 hcs
    have := h2 0 hn
    rw [List.getElem?_eq_getElem (by omega)] at this
    exact ⟨_, this⟩
   obtain ⟨x0, hx0⟩ := hi0
   have hni : ∀ k l, (i = l ++ k :: fr) = False := fun k l => eq_false (fun e => by
    rw [e, hfr _ _ ⟨l ++ [k], by simp⟩] at hx0
    cases hx0)
   have hh := h a ha i m fr
   have hN' := hN a
   rw [e1] at hh hN'
   refine ⟨hN', ?_⟩
   refine wp_mono' (hh hcs hfr hni (fun k => hni k [])) (fun ex st' he => ?_)
   obtain ⟨he1, d, he2, rfl, hc', ht, ho⟩ := he
   refine ⟨he1, _, he2, rfl, fun j o x hx => ?_⟩
   obtain ⟨h1, h2⟩ := A8 hc'
   obtain ⟨l, k, hlk⟩ := hq a
   have hqi : i ≠ (res a).2.1 ++ fr := fun e => (hni k l).mp (by rw [e, hlk]; simp)
   have hx' : ((m.put i 0 ((res a).2.2 ((res a).2.1 ++ fr))).put ((res a).2.1 ++ fr) 0 [.tok (e + 1)]) j o = some x := hx
   rw [Bd] at hx'
   split at hx'
   ·rename_i hc
    obtain ⟨rfl, rfl⟩ := hc
    rw [ht]; exact hx'
   ·by_cases hj : j = i
    ·subst hj
     by_cases ho' : o < n
     ·have := h2 o ho'
      rw [Nat.zero_add] at this
      rw [this]
      simp only [Mem.put] at hx'
      rw [if_pos (by simp; omega)] at hx'
      simpa using hx'
     ·have hx2 : m j o = some x := by
       simp only [Mem.put] at hx'
       rw [if_neg (by simp; omega)] at hx'
       exact hx'
      exact ho j o x (.inr (by omega)) hx2
    ·rw [Mem.put_other hj] at hx'
     exact ho j o x (.inl hj) hx'
  ·cases hex
 ·cases hex
end
end Go.Vd
namespace Go.Vd
open Go.Proofs Go.RowKit
def mk122 (p : List D × Int × Bs × Bs) : List D × List D := (p.1, [.int .u8 p.2.1, .str p.2.2.1, .str p.2.2.2])
theorem mk122_inj (x y : List D × Int × Bs × Bs) (e : mk122 x = mk122 y) : x = y := by
 simp only [mk122, Prod.mk.injEq, List.cons.injEq, D.int.injEq, D.str.injEq, true_and, and_true] at e
 exact Prod.ext e.1 (Prod.ext e.2.1 (Prod.ext e.2.2.1 e.2.2.2))
def rs122 (p : List D × Int × Bs × Bs) : D × Id × (Id → List D) := (.tup [], [11], fun t => A6 p.1 24 [.slice false t [.agg [.int .u8 p.2.1, .str p.2.2.1, .str p.2.2.2]]])
noncomputable def F122 : List D → List D → Option (D × Id × (Id → List D)) := FN mk122 (fun p : List D × Int × Bs × Bs => p.1.length = 30 ∧ p.1[24]? = some (D.slice true [] [])) rs122
theorem F122_eq (p : List D × Int × Bs × Bs) (h : p.1.length = 30 ∧ p.1[24]? = some (D.slice true [] [])) : F122 (mk122 p).1 (mk122 p).2 = some (rs122 p) := FN_eq (mk := mk122) (ok := fun p : List D × Int × Bs × Bs => p.1.length = 30 ∧ p.1[24]? = some (D.slice true [] [])) (res := rs122) (a := p) mk122_inj h
theorem ok122 : (nQ 30 107 F122).ok Tryz.prog 122 := by
 have hS : Summs.ok Tryz.prog (fun _ => none) := Au
 refine nx_ok hS fn122 (by decide) (fun _ => by simp [mk122]) (fun p => ⟨[], 11, rfl⟩) (fun p hp i m fr hcs hfr hni hni0 => ?_)
 unfold dc122
 obtain ⟨cs, k, a, b⟩ := p
 obtain ⟨hl, h24⟩ := hp
 simp only at hl h24
 replace hcs : Af m i 0 30 = some cs := hcs
 have hx := rd_at hcs h24
 have o1 := oth1 hni0
 have gt : BL 107 (11 :: fr) (.slice true [] []) = [(11 :: fr, 0, [.tok 108])] := rfl
 have r2 := fun (m' : Mem) (t : Id) (h : Af m' i 0 30 = some cs) => Eg (o := 24) (ys := [.slice false t [.agg [.int .u8 k, .str a, .str b]]]) h (Nat.le_of_ble_eq_true rfl)
 unfold mk122 rs122
 simp only [↓go1, gB1, reduceIte, Nat.reduceEqDiff, Nat.reduceAdd, hx, A2, Bt, and_false, reduceCtorEq, Nat.reduceLeDiff, and_self, List.take_succ_cons, List.take_zero, List.drop_zero, List.drop_succ_cons, and_false]
 refine AA.intro ⟨Nat.le_of_ble_eq_true rfl, rfl, .inl rfl⟩ ?_
 simp only [↓go1, gB1, reduceIte, Nat.reduceEqDiff, Nat.reduceAdd, gt, hx, oth1 hni0, Dk, and_self, Option.isSome_some]
 refine ⟨r2 _ _ ?_, ?_, Bm.own (Bm.new0 hfr (Bm.new0 hfr Bm.refl)) (Nat.le_of_ble_eq_true rfl)⟩
 ·show Af ((m.put (10 :: fr) 0 _).put (11 :: fr) 0 _) i 0 30 = _
  rw [o1, o1]
  exact hcs
 ·show (((m.put _ 0 _).put (11 :: fr) 0 _).put i 24 _) (11 :: fr) 0 = _
  rw [oth6 hni0, Bd]
  simp
def mk135 (p : Vw × Ak × Bool × List D) : List D × List D := (vwC p.1 ++ (akC p.2.1 ++ (knC p.2.2.1 [109, 47, 97, 47, 98] ++ p.2.2.2)), [.str [97, 47, 98]])
theorem mk135_inj (x y : Vw × Ak × Bool × List D) (e : mk135 x = mk135 y) : x = y := by
 simp only [mk135, Prod.mk.injEq, and_true] at e
 obtain ⟨h1, h2⟩ := Et e
 obtain ⟨h3, h4⟩ := List.append_inj h2 (by rw [Ax, Ax])
 have h5 : x.2.2.1 = y.2.2.1 ∧ x.2.2.2 = y.2.2.2 := by
  obtain ⟨_, _, a, _⟩ := x
  obtain ⟨_, _, b, _⟩ := y
  cases a <;> cases b <;> simp [knC] at h4 <;> simp [h4]
 exact Prod.ext h1 (Prod.ext (BI (congrArg D.agg h3)) (Prod.ext h5.1 h5.2))
def rs135 (p : Vw × Ak × Bool × List D) : D × List D := (.tup [.agg [.int .i64 0, .bool false, .int .i64 0, .slice true [] []], .bool false, .bool p.2.2.1], if p.2.2.1 then vwC p.1 ++ (akC p.2.1 ++ (knC p.2.2.1 [109, 47, 97, 47, 98] ++ p.2.2.2)) else A6 (vwC p.1 ++ (akC p.2.1 ++ (knC p.2.2.1 [109, 47, 97, 47, 98] ++ p.2.2.2))) 21 ([.str [109, 47, 97, 47, 98], .bool false, .str [], .slice true [] []] ++ vwC p.1))
noncomputable def F135 : List D → List D → Option (D × List D) := FM mk135 (fun p => p.2.2.2.length = 9) rs135
theorem F135_eq (p : Vw × Ak × Bool × List D) (h : p.2.2.2.length = 9) : F135 (mk135 p).1 (mk135 p).2 = some (rs135 p) := FM_eq (mk := mk135) (ok := fun p => p.2.2.2.length = 9) (res := rs135) (a := p) mk135_inj h
theorem ok135 : (mQ 30 F135).ok Tryz.prog 135 := by
 obtain ⟨S, hS, hl⟩ := AJ (Ab ok123 (Ab ok137 (Ab ok240 (Ab ok133 Ae))))
 have s123 := hl 123 _ rfl
 have s137 := hl 137 _ rfl
 have s240 := hl 240 _ rfl
 have s133 := hl 133 _ rfl
 clear hl
 refine mx_ok hS fn135 (by decide) (fun _ => by simp [mk135]) (fun p hp i m fr hcs hfr hni hni0 => ?_)
 unfold dc135
 obtain ⟨v, a, b, o⟩ := p
 simp only at hp
 have h123 : F123 [.int .u8 1, .str [97, 47, 98], .int .i64 0] = some (.str [109, 47, 97, 47, 98]) := F123_eq false trivial
 have h137 : F137 [.agg (knC b [109, 47, 97, 47, 98]), .str [109, 47, 97, 47, 98]] = some (.tup [.str [], .bool false, .bool b]) := F137_eq (b, [109, 47, 97, 47, 98]) trivial
 have h240 : F240 [.str []] = some (.tup [.agg [.int .i64 0, .bool false, .int .i64 0, .slice true [] []], .int .i64 3]) := F240_eq () trivial
 replace hcs : Af m i 0 30 = some (vwC v ++ (akC a ++ (knC b [109, 47, 97, 47, 98] ++ o))) := hcs
 have h133 : F133 (vwC v ++ (akC a ++ (knC b [109, 47, 97, 47, 98] ++ o))) [.str [109, 47, 97, 47, 98], .bool false] = some (.tup [], A6 (vwC v ++ (akC a ++ (knC b [109, 47, 97, 47, 98] ++ o))) 21 ([.str [109, 47, 97, 47, 98], .bool false, .str [], .slice true [] []] ++ vwC v)) := F133_eq (v, _, _) (by cases b <;> simp [knC, Ax, hp])
 have hl : (A6 (vwC v ++ (akC a ++ (knC b [109, 47, 97, 47, 98] ++ o))) 21 ([.str [109, 47, 97, 47, 98], .bool false, .str [], .slice true [] []] ++ vwC v)).length = 30 := by cases b <;> simp [A6, knC, Ax, AM, hp]
 have hk : Af m i 16 5 = some (knC b [109, 47, 97, 47, 98]) := by
  rw [rd_sub hcs (by decide)]
  cases b <;> rfl
 have hk1 : (D.agg (knC b [109, 47, 97, 47, 98])).un = .agg (knC b [109, 47, 97, 47, 98]) := by cases b <;> rfl
 have hk2 : (D.agg (knC b [109, 47, 97, 47, 98])).calm = true := by cases b <;> rfl
 have hk3 : (knC b [109, 47, 97, 47, 98]).map D.un1 = knC b [109, 47, 97, 47, 98] := by cases b <;> rfl
 have hk4 : (knC b [109, 47, 97, 47, 98]).all D.calm1 = true := by cases b <;> rfl
 unfold mk135 rs135
 generalize hcells : vwC v ++ (akC a ++ (knC b [109, 47, 97, 47, 98] ++ o)) = cells at hcs h133 hl
 generalize A6 cells 21 ([.str [109, 47, 97, 47, 98], .bool false, .str [], .slice true [] []] ++ vwC v) = cells2 at h133 hl
 generalize knC b [109, 47, 97, 47, 98] = kn at h137 hk hk1 hk2 hk3 hk4
 cases b with
 | true =>
  simp only [↓go1, gB1, reduceIte, Nat.reduceEqDiff, Nat.reduceAdd, hcs, hk, hk1, hk2, Aa s123, h123, Aa s137, h137, Aa s240, h240, A2, oth1 hni0, reduceCtorEq, res_cell_tt, List.getElem?_cons_zero, List.getElem?_cons_succ, and_self, Option.isSome_some, AE, Av]
  exact Bm.new0 hfr (Bm.new0 hfr (Bm.new0 hfr Bm.refl))
 | false =>
  simp only [↓go1, gB1, reduceIte, Nat.reduceEqDiff, Nat.reduceAdd, hcs, hk, hk1, hk2, Aa s123, h123, Aa s137, h137, AK s133, D6, h133, A2, oth1 hni0, oth5 hni0, reduceCtorEq, res_cell_tt, List.getElem?_cons_zero, List.getElem?_cons_succ, and_self, Option.bind_some, Option.isSome_some, AE, Av]
  exact ⟨Av hl, Bm.new0 hfr (Bm.own (Bm.new0 hfr Bm.refl) (by rw [hl]; exact Nat.le_of_ble_eq_true rfl))⟩
def mk63 (p : Vw × Ak × Bool × List D) : List D × List D := (vwC p.1 ++ (akC p.2.1 ++ (knC p.2.2.1 [109, 47, 97, 47, 98] ++ p.2.2.2)), [])
theorem mk63_inj (x y : Vw × Ak × Bool × List D) (e : mk63 x = mk63 y) : x = y := by
 simp only [mk63, Prod.mk.injEq, and_true] at e
 obtain ⟨h1, h2⟩ := Et e
 obtain ⟨h3, h4⟩ := List.append_inj h2 (by rw [Ax, Ax])
 have h5 : x.2.2.1 = y.2.2.1 ∧ x.2.2.2 = y.2.2.2 := by
  obtain ⟨_, _, a, _⟩ := x
  obtain ⟨_, _, b, _⟩ := y
  cases a <;> cases b <;> simp [knC] at h4 <;> simp [h4]
 exact Prod.ext h1 (Prod.ext (BI (congrArg D.agg h3)) (Prod.ext h5.1 h5.2))
def rs63 (p : Vw × Ak × Bool × List D) : D × List D := (.tup [], if p.2.2.1 then A6 (vwC p.1 ++ (akC p.2.1 ++ (knC p.2.2.1 [109, 47, 97, 47, 98] ++ p.2.2.2))) 21 ([.str [], .bool false, .str (rpT 0 6), .slice true [] []] ++ vwC p.1) else A6 (vwC p.1 ++ (akC p.2.1 ++ (knC p.2.2.1 [109, 47, 97, 47, 98] ++ p.2.2.2))) 21 ([.str [109, 47, 97, 47, 98], .bool false, .str [], .slice true [] []] ++ vwC p.1))
noncomputable def F63 : List D → List D → Option (D × List D) := FM mk63 (fun p => p.2.2.2.length = 9 ∧ p.2.1.pa = [97, 47, 98]) rs63
theorem F63_eq (p : Vw × Ak × Bool × List D) (h : p.2.2.2.length = 9 ∧ p.2.1.pa = [97, 47, 98]) : F63 (mk63 p).1 (mk63 p).2 = some (rs63 p) := FM_eq (mk := mk63) (ok := fun p => p.2.2.2.length = 9 ∧ p.2.1.pa = [97, 47, 98]) (res := rs63) (a := p) mk63_inj h
theorem ok63 : (mQ 30 F63).ok Tryz.prog 63 := by
 obtain ⟨S, hS, hl⟩ := AJ (Ab ok135 (Ab ok54 Ae))
 have s135 := hl 135 _ rfl
 have s54 := hl 54 _ rfl
 clear hl
 refine mx_ok hS fn63 (by decide) (fun _ => by simp [mk63]) (fun p hp i m fr hcs hfr hni hni0 => ?_)
 unfold dc63
 obtain ⟨v, a, b, o⟩ := p
 obtain ⟨hp, hpa⟩ := hp
 simp only at hp hpa
 replace hcs : Af m i 0 30 = some (vwC v ++ (akC a ++ (knC b [109, 47, 97, 47, 98] ++ o))) := hcs
 have hx7 : m i 7 = some (.str a.pa) := rd_at hcs rfl
 rw [hpa] at hx7
 have h135 := F135_eq (v, a, b, o) hp
 have h54 : F54 (vwC v ++ (akC a ++ (knC b [109, 47, 97, 47, 98] ++ o))) [.int .i64 6] = some (.tup [], A6 (vwC v ++ (akC a ++ (knC b [109, 47, 97, 47, 98] ++ o))) 21 ([.str [], .bool false, .str (rpT 0 6), .slice true [] []] ++ vwC v)) := F54_eq (v, _, 6) ⟨by cases b <;> simp [knC, Ax, hp], .inl rfl⟩
 have hl : (vwC v ++ (akC a ++ (knC b [109, 47, 97, 47, 98] ++ o))).length = 30 := by cases b <;> simp [knC, Ax, AM, hp]
 have hl2 : (A6 (vwC v ++ (akC a ++ (knC b [109, 47, 97, 47, 98] ++ o))) 21 ([.str [109, 47, 97, 47, 98], .bool false, .str [], .slice true [] []] ++ vwC v)).length = 30 := by cases b <;> simp [A6, knC, Ax, AM, hp]
 have hl3 : (A6 (vwC v ++ (akC a ++ (knC b [109, 47, 97, 47, 98] ++ o))) 21 ([.str [], .bool false, .str (rpT 0 6), .slice true [] []] ++ vwC v)).length = 30 := by cases b <;> simp [A6, knC, Ax, AM, hp]
 unfold mk135 rs135 at h135
 unfold mk63 rs63
 simp only at h135
 generalize vwC v ++ (akC a ++ (knC b [109, 47, 97, 47, 98] ++ o)) = cells at hcs h135 h54 hl hl2 hl3
 generalize A6 cells 21 ([.str [109, 47, 97, 47, 98], .bool false, .str [], .slice true [] []] ++ vwC v) = cells2 at h135 hl2
 generalize A6 cells 21 ([.str [], .bool false, .str (rpT 0 6), .slice true [] []] ++ vwC v) = cells3 at h54 hl3
 have e7 : ∀ m' : Mem, Af (m'.put i 0 cells) i 0 30 = some cells := fun m' => Av hl
 cases b with
 | true =>
  simp only [if_true] at h135 ⊢
  simp only [↓go1, gB1, reduceIte, Nat.reduceEqDiff, Nat.reduceAdd, hcs, hx7, AK s135, AK s54, D6, h135, h54, e7, oth1 hni0, Int.reduceNeg, reduceCtorEq, List.getElem?_cons_zero, List.getElem?_cons_succ, and_self, Option.bind_some, Option.isSome_some, Av]
  exact ⟨Av hl3, Bm.own (Bm.new0 hfr (Bm.new0 hfr (Bm.own Bm.refl (by rw [hl]; exact Nat.le_of_ble_eq_true rfl)))) (by rw [hl3]; exact Nat.le_of_ble_eq_true rfl)⟩
 | false =>
  simp only [if_false, Bool.false_eq_true] at h135 ⊢
  simp only [↓go1, gB1, reduceIte, Nat.reduceEqDiff, Nat.reduceAdd, hcs, hx7, AK s135, D6, h135, oth1 hni0, Int.reduceNeg, reduceCtorEq, List.getElem?_cons_zero, List.getElem?_cons_succ, and_self, Option.bind_some, Option.isSome_some, Av]
  exact ⟨Av hl2, Bm.new0 hfr (Bm.new0 hfr (Bm.own Bm.refl (by rw [hl2]; exact Nat.le_of_ble_eq_true rfl)))⟩
theorem put_one {m : Mem} {i : Id} {o : Nat} {d : D} : m.put i o [d] i o = some d := by simp [Mem.put]
def v0 : Vw := keyV [107] false
def t1 : List Mt := [([97], 2, false)]
def v1 : Vw := ⟨false, 1, [107], false, t1, false, [firstTk]⟩
def akS : Ak := ⟨1, [], [], [], 0, 0, false, true, [], [], true, [], []⟩
def akR : Ak := ⟨9, [114, 111, 111, 116], [97, 47, 98], [], 0, 0, false, true, [], [], true, [], []⟩
def akM : Ak := ⟨5, [114, 111, 111, 116], [97], [], 2, 0, false, true, [], [], true, [], []⟩
def akZ : Ak := ⟨0, [], [], [], 0, 0, false, true, [], [], true, [], []⟩
def out0 (v : Vw) : List D := [.str [], .bool false, .str [], .slice true [] []] ++ vwC v
def wk (v : Vw) (a : Ak) (b : Bool) : List D := vwC v ++ (akC a ++ (knC b [109, 47, 97, 47, 98] ++ out0 v))
theorem wk_len (v : Vw) (a : Ak) (b : Bool) : (wk v a b).length = 30 := by cases b <;> rfl
def wm1 : List D := A6 (wk v0 akM false) 28 [.slice false [] (Ar t1)]
def wm2 (t : Id) : List D := A6 wm1 24 [.slice false t [.agg [.int .u8 1, .str [115, 47, 109, 111, 117, 110, 116, 115], .str (Cq t1)]]]
def wm3 (t : Id) : List D := A6 (wm2 t) 23 [.str [111, 107]]
theorem wm2_len (t : Id) : (wm2 t).length = 30 := rfl
theorem wm3_len (t : Id) : (wm3 t).length = 30 := rfl
theorem t1_ok : MsOk t1 := ⟨by decide, by decide⟩
def mk58 (p : Unit) : List D × List D := (wk v0 akM false, [])
theorem mk58_inj (x y : Unit) (e : mk58 x = mk58 y) : x = y := by
 rfl
def rs58 (p : Unit) : D × Id × (Id → List D) := (.tup [], [11, 42], wm3)
noncomputable def F58 : List D → List D → Option (D × Id × (Id → List D)) := FN mk58 (fun p : Unit => True) rs58
theorem F58_eq (p : Unit) (h : True) : F58 (mk58 p).1 (mk58 p).2 = some (rs58 p) := FN_eq (mk := mk58) (ok := fun p : Unit => True) (res := rs58) (a := p) mk58_inj h
theorem ok58 : (nQ 30 107 F58).ok Tryz.prog 58 := by
 obtain ⟨S, hS, hl⟩ := AJ (Ab ok45 (Ab ok126 (Ab ok123 (Ab ok122 (Ab ok56 Ae)))))
 have s45 := hl 45 _ rfl
 have s126 := hl 126 _ rfl
 have s123 := hl 123 _ rfl
 have s122 := hl 122 _ rfl
 have s56 := hl 56 _ rfl
 clear hl
 refine nx_ok hS fn58 (by decide) (fun _ => by simp [mk58]) (fun p => ⟨[11], 42, rfl⟩) (fun p hp i m fr hcs hfr hni hni0 => ?_)
 unfold dc58
 have h123 : F123 [.int .u8 4, .str [], .int .i64 0] = some (.str [115, 47, 109, 111, 117, 110, 116, 115]) := F123_eq true trivial
 have h126 : F126 [.agg [.slice false [] (Ar t1)]] = some (.str (Cq t1)) := F126_eq t1_ok
 have h45 : F45 [.agg [.slice true [] []], .agg [.str [97], .int .i64 2, .bool false]] = some (.tup [.agg [.slice false [] (Ar t1)], .int .i64 0]) := by
  have e := F45_eq (nl := true) (t := []) (l := []) (m := ([97], 2, false)) (by decide) (fun _ => rfl) (by decide)
  have e2 : addE [] ([97], 2, false) = (some t1, 0) := by kernel_rfl
  rw [e2] at e
  exact e
 have h122 : F122 wm1 [.int .u8 1, .str [115, 47, 109, 111, 117, 110, 116, 115], .str (Cq t1)] = some (.tup [], [11], wm2) := F122_eq (wm1, 1, _, Cq t1) ⟨rfl, rfl⟩
 have h56 : ∀ t, F56 (wm2 t) [] = some (.tup [], wm3 t) := fun t => F56_eq (wm2 t) rfl
 replace hcs : Af m i 0 30 = some (wk v0 akM false) := hcs
 have x3 : m i 3 = some (.slice true [] []) := rd_at hcs rfl
 have x7 : m i 7 = some (.str [97]) := rd_at hcs rfl
 have x9 : m i 9 = some (.int .i64 2) := rd_at hcs rfl
 have x11 : m i 11 = some (.bool false) := rd_at hcs rfl
 have x28 : m i 28 = some (.slice true [] []) := rd_at hcs rfl
 have s28 : ∀ m' : Mem, Af m' i 0 30 = some (wk v0 akM false) → Af (m'.put i 28 [.slice false [] (Ar t1)]) i 0 30 = some wm1 := fun m' h => Eg h (Nat.le_of_ble_eq_true rfl)
 have s2 : ∀ (m' : Mem) t, Af (m'.put i 0 (wm2 t)) i 0 30 = some (wm2 t) := fun m' t => Av rfl
 have hni1 : ∀ k, (k :: fr = i) = False := fun k => eq_false (fun e => (hni0 k).mp e.symm)
 unfold mk58 rs58
 simp only [↓go1, gB1, reduceIte, Nat.reduceEqDiff, Nat.reduceAdd, List.cons_append, List.nil_append, put_one, x3, x7, x9, x11, Aa s45, h45, A2, Bt, reduceCtorEq, Dk, Nat.reduceLeDiff, List.getElem?_cons_zero, List.getElem?_cons_succ, and_self, List.take_succ_cons, List.take_zero, Option.isSome_some, List.drop_zero, List.drop_succ_cons]
 refine AA.intro (Al ?_) ?_
 ·simp only [Bh, List.all_cons, List.all_nil, List.getD, List.getElem?_cons_zero, List.getElem?_cons_succ, Option.getD_some, A1, List.map_cons, List.map_nil, List.length_cons, List.length_nil, List.flatMap_cons, List.flatMap_nil, rds, ↓go1, go2, reduceIte, Nat.reduceEqDiff]
  simp [AG, hni1, Ai, s45]
 simp only [↓go1, gB1, reduceIte, Nat.reduceEqDiff, Nat.reduceAdd, List.cons_append, List.nil_append, put_one, hcs, x28, s28, Aa s126, h126, Aa s123, h123, AK s122, nQ_run, h122, oth1 hni0, oth5 hni0, reduceCtorEq, Dk, and_self, Option.bind_some, Option.isSome_some]
 refine AA.intro (Al ?_) ?_
 ·simp only [Bh, List.all_cons, List.all_nil, List.getD, List.getElem?_cons_zero, List.getElem?_cons_succ, Option.getD_some, A1, List.map_cons, List.map_nil, List.length_cons, List.length_nil, List.flatMap_cons, List.flatMap_nil, rds, ↓go1, go2, reduceIte, Nat.reduceEqDiff]
  simp []
 simp only [↓go1, go2, go4, reduceIte, Nat.reduceEqDiff, Nat.reduceAdd, List.cons_append, List.nil_append, s2, AK s56, D6, h56, oth3 hni, reduceCtorEq, Option.bind_some]
 refine ⟨Av rfl, ?_, Bm.own (Bm.new hfr [11] (Bm.own (Bm.own (Bm.new0 hfr (Bm.new0 hfr Bm.refl)) (Nat.le_of_ble_eq_true rfl)) (by rw [wm2_len]; exact Nat.le_of_ble_eq_true rfl))) (by rw [wm3_len]; exact Nat.le_of_ble_eq_true rfl)⟩
 rw [Mem.put_other (i' := 11 :: 42 :: fr) (fun e => (hni 42 [11]).mp e.symm), put_one]
theorem kn_len (b : Bool) : (knC b [109, 47, 97, 47, 98]).length = 5 := by cases b <;> rfl
def BA (w r : Bs) (nl : Bool) (t : Id) (xs : List D) (v : Vw) : List D := [.str w, .bool false, .str r, .slice nl t xs] ++ vwC v
theorem CQ (w r : Bs) (nl : Bool) (t : Id) (xs : List D) (v : Vw) : D.cells (.agg (BA w r nl t xs v)) = BA w r nl t xs v := rfl
theorem Ej (w r : Bs) (nl : Bool) (t : Id) (xs : List D) (v : Vw) : (BA w r nl t xs v).length = 9 := rfl
theorem rd_vw {m : Mem} {i : Id} (v : Vw) : Af (m.put i 0 (vwC v)) i 0 5 = some (vwC v) := Av rfl
theorem rd_ak {m : Mem} {i : Id} (a : Ak) : Af (m.put i 0 (akC a)) i 0 11 = some (akC a) := Av rfl
def opsM : List D := [.agg [.int .u8 1, .str [115, 47, 109, 111, 117, 110, 116, 115], .str (Cq t1)]]
theorem fill9 (v : Vw) : A2 [.str [], .bool false, .str [], .slice true [] [], .bool false, .int .i64 0, .str [], .slice true [] [], .slice true [] []] [(4, 5, .agg (vwC v))] = some (BA [] [] true [] [] v) := rfl
theorem fill30 (v : Vw) (a : Ak) (b : Bool) : A2 [.bool false, .int .i64 0, .str [], .slice true [] [], .slice true [] [], .int .u8 0, .str [], .str [], .str [], .int .i64 0, .int .i64 0, .bool false, .slice true [] [], .str [], .slice true [] [], .str [], .slice true [] [], .slice true [] [], .slice true [] [], .slice true [] [], .slice true [] [], .str [], .bool false, .str [], .slice true [] [], .bool false, .int .i64 0, .str [], .slice true [] [], .slice true [] []] [(0, 5, .agg (vwC v)), (5, 11, .agg (akC a)), (16, 5, .agg (knC b [109, 47, 97, 47, 98])), (21, 9, .agg (BA [] [] true [] [] v))] = some (wk v a b) := by cases b <;> rfl
theorem rd_out {m : Mem} {i : Id} {cs ys : List D} (hl : cs.length = 30) (h : (cs.drop 21).take 9 = ys) : Af (m.put i 0 cs) i 21 9 = some ys := by
 rw [rd_sub (Av hl) (by decide), h]
theorem D4 {m : Mem} {i : Id} {cs : List D} {k : Nat} {d : D} (h : cs[k]? = some d) : (m.put i 0 cs) i k = some d := by
 have hk := (List.getElem?_eq_some_iff.1 h).1
 have := Mem.put_same (m := m) (i := i) (o := 0) hk
 rw [Nat.zero_add] at this
 rw [this, h]
theorem v0_ok : VwOk v0 := ⟨by decide, by decide, by decide, fun k hk => by
 have e : k = firstTk := by simpa [v0, keyV] using hk
 subst e
 exact ⟨⟨by decide, by decide⟩, ⟨by decide, fun r hr => by rw [List.mem_singleton.1 hr]; decide, fun r hr => by rw [List.mem_singleton.1 hr]; decide⟩⟩⟩
theorem v1_ok : VwOk v1 := ⟨by decide, by decide, by decide, fun k hk => by
 have e : k = firstTk := by simpa [v1] using hk
 subst e
 exact ⟨⟨by decide, by decide⟩, ⟨by decide, fun r hr => by rw [List.mem_singleton.1 hr]; decide, fun r hr => by rw [List.mem_singleton.1 hr]; decide⟩⟩⟩
theorem ak_ok {a : Ak} (h : a = akS ∨ a = akR ∨ a = akM ∨ a = akZ) : AkOk a := by
 rcases h with rfl | rfl | rfl | rfl <;> exact ⟨by decide, by decide, by decide, by decide, by decide, by decide, by decide, by decide, (by decide), by decide⟩
theorem refS : refA v0 akS = 0 := by kernel_rfl
theorem refR : refA v0 akR = 14 := by kernel_rfl
theorem refM : refA v0 akM = 0 := by kernel_rfl
theorem refV : refA v1 akR = 0 := by kernel_rfl
theorem refZ : refA v0 akZ = 22 := by kernel_rfl
theorem d19_0 {S : Summs} (s25 : S 25 = some (Ai F25)) (s54 : S 54 = some (mQ 30 F54)) (s55 : S 55 = some (mQ 30 F55)) (s58 : S 58 = some (nQ 30 107 F58)) (s63 : S 63 = some (mQ 30 F63)) :
  dc19.wp S [] (De [.cell (some 9) 6] fun d _ => d.unR = .agg (BA [] [111, 107, 32, 111, 112, 101, 110] true [] [] v0) ∧ D.calmR (.agg (BA [] [111, 107, 32, 111, 112, 101, 110] true [] [] v0)) = true) ⟨Bi [.agg (vwC v0), .agg (akC akS), .agg (knC false [109, 47, 97, 47, 98])], fun _ _ => none, 0⟩ := by
 have h25 : F25 [.agg (vwC v0), .agg (akC akS)] = some (.int .i64 0) := by
  have e := F25_eq v0_ok (a := akS) (ak_ok (by simp))
  rw [refS] at e
  exact e
 have h55 : F55 (wk v0 akS false) [rpD 6 0] = some (.tup [], A6 (wk v0 akS false) 23 [.str (rpT 6 0)]) := F55_eq (wk v0 akS false, 6, 0) ⟨rfl, .inr ⟨rfl, rfl⟩⟩
 have w0 : ∀ (m : Mem) (i : Id), (m.put i 0 (wk v0 akS false)) i 0 = some (.bool false) := fun m i => D4 rfl
 have hr : ∀ x y, D.agg [.int .u8 6, x, .int .i64 0, .str [], .slice true [] [], .int .i64 0, .bool false, .int .i64 0, .slice true [] [], y] = D.agg [.int .u8 6, x, .int .i64 0, .str [], .slice true [] [], .int .i64 0, .bool false, .int .i64 0, .slice true [] [], y] := fun _ _ => rfl
 unfold rpD at h55
 have a0 : ∀ m : Mem, (m.put [1] 0 (akC akS)) [1] 0 = some (.int .u8 akS.op) := fun m => D4 rfl
 have a1 : akS.op = 1 := rfl
 have o21 : ∀ (m : Mem) (i : Id), Af (m.put i 0 (A6 (wk v0 akS false) 23 [.str (rpT 6 0)])) i 21 9 = some (BA [] [111, 107, 32, 111, 112, 101, 110] true [] [] v0) := fun m i => rd_out rfl rfl
 have ol : ∀ (m : Mem) (i : Id) (w r : Bs) (nl : Bool) (t : Id) (xs : List D) (v : Vw), Af (m.put i 0 (BA w r nl t xs v)) i 0 9 = some (BA w r nl t xs v) := fun m i w r nl t xs v => Av rfl
 unfold dc19
 simp only [↓go1, gB1, reduceIte, Nat.reduceEqDiff, Nat.reduceAdd, a0, a1, w0, AK s55, D6, h55, A2, Bt, o21, ol, Aa s25, h25, Bn, Bj, Aw, AW, AX, Ap, kn_len, wk_len, CQ, Ej, fill9, fill30, rd_vw, rd_ak, AD, Mem.put_other, ne_eq, reduceCtorEq, Nat.reduceLeDiff, and_self, Option.bind_some, List.take_succ_cons, List.take_zero, Option.isSome_some, List.drop_zero, List.drop_succ_cons, List.cons.injEq, Nat.zero_ne_one, AR, AE, Av]
 all_goals (first | rfl | exact ⟨rfl, rfl⟩)
theorem d19_1 {S : Summs} (s25 : S 25 = some (Ai F25)) (s54 : S 54 = some (mQ 30 F54)) (s55 : S 55 = some (mQ 30 F55)) (s58 : S 58 = some (nQ 30 107 F58)) (s63 : S 63 = some (mQ 30 F63)) :
  dc19.wp S [] (De [.cell (some 9) 6] fun d _ => d.unR = .agg (BA [] (rpT 0 14) true [] [] v0) ∧ D.calmR (.agg (BA [] (rpT 0 14) true [] [] v0)) = true) ⟨Bi [.agg (vwC v0), .agg (akC akR), .agg (knC false [109, 47, 97, 47, 98])], fun _ _ => none, 0⟩ := by
 have h25 : F25 [.agg (vwC v0), .agg (akC akR)] = some (.int .i64 14) := by
  have e := F25_eq v0_ok (a := akR) (ak_ok (by simp))
  rw [refR] at e
  exact e
 have h54 : F54 (wk v0 akR false) [.int .i64 14] = some (.tup [], A6 (wk v0 akR false) 21 (.str [] :: .bool false :: .str (rpT 0 14) :: .slice true [] [] :: vwC v0)) := F54_eq (v0, _, 14) ⟨rfl, .inr rfl⟩
 have a0 : ∀ m : Mem, (m.put [1] 0 (akC akR)) [1] 0 = some (.int .u8 akR.op) := fun m => D4 rfl
 have a1 : akR.op = 9 := rfl
 have o21 : ∀ (m : Mem) (i : Id), Af (m.put i 0 (A6 (wk v0 akR false) 21 (.str [] :: .bool false :: .str (rpT 0 14) :: .slice true [] [] :: vwC v0))) i 21 9 = some (BA [] (rpT 0 14) true [] [] v0) := fun m i => rd_out rfl rfl
 have ol : ∀ (m : Mem) (i : Id) (w r : Bs) (nl : Bool) (t : Id) (xs : List D) (v : Vw), Af (m.put i 0 (BA w r nl t xs v)) i 0 9 = some (BA w r nl t xs v) := fun m i w r nl t xs v => Av rfl
 unfold dc19
 simp only [↓go1, gB1, reduceIte, Nat.reduceEqDiff, Nat.reduceAdd, AK s54, D6, h54, o21, ol, Aa s25, h25, Bn, Bj, Aw, AW, AX, Ap, kn_len, wk_len, CQ, Ej, fill9, fill30, rd_vw, rd_ak, AD, Int.reduceEq, ne_eq, reduceCtorEq, and_self, Option.bind_some, Option.isSome_some, List.cons.injEq, Nat.zero_ne_one, AR, AE, Av]
 all_goals (first | rfl | exact ⟨rfl, rfl⟩)
theorem d19_2 {S : Summs} (s25 : S 25 = some (Ai F25)) (s54 : S 54 = some (mQ 30 F54)) (s55 : S 55 = some (mQ 30 F55)) (s58 : S 58 = some (nQ 30 107 F58)) (s63 : S 63 = some (mQ 30 F63)) :
  dc19.wp S [] (De [.cell (some 9) 6] fun d _ => d.unR = .agg (BA [] [111, 107] false [] opsM v1) ∧ D.calmR (.agg (BA [] [111, 107] false [] opsM v1)) = true) ⟨Bi [.agg (vwC v0), .agg (akC akM), .agg (knC false [109, 47, 97, 47, 98])], fun _ _ => none, 0⟩ := by
 have h25 : F25 [.agg (vwC v0), .agg (akC akM)] = some (.int .i64 0) := by
  have e := F25_eq v0_ok (a := akM) (ak_ok (by simp))
  rw [refM] at e
  exact e
 have h58 : F58 (wk v0 akM false) [] = some (.tup [], [11, 42], wm3) := F58_eq () trivial
 have o22 : ∀ (m : Mem) (i t : Id), Af (m.put i 0 (wm3 t)) i 21 9 = some (BA [] [111, 107] false t opsM v1) := fun m i t => rd_out rfl rfl
 have a0 : ∀ m : Mem, (m.put [1] 0 (akC akM)) [1] 0 = some (.int .u8 akM.op) := fun m => D4 rfl
 have a1 : akM.op = 5 := rfl
 have ol : ∀ (m : Mem) (i : Id) (w r : Bs) (nl : Bool) (t : Id) (xs : List D) (v : Vw), Af (m.put i 0 (BA w r nl t xs v)) i 0 9 = some (BA w r nl t xs v) := fun m i w r nl t xs v => Av rfl
 unfold dc19
 simp only [↓go1, gB1, reduceIte, Nat.reduceEqDiff, Nat.reduceAdd, a0, a1, AK s58, nQ_run, h58, o22, List.cons_append, List.nil_append, ol, Aa s25, h25, Bn, Bj, Aw, AW, AX, Ap, kn_len, wk_len, CQ, Ej, fill9, fill30, rd_vw, rd_ak, AD, Mem.put_other, Int.reduceEq, ne_eq, reduceCtorEq, and_self, Option.bind_some, Option.isSome_some, List.cons.injEq, Nat.zero_ne_one, AR, AE, Av]
 all_goals (first | rfl | exact ⟨rfl, rfl⟩)
theorem d19_3 {S : Summs} (s25 : S 25 = some (Ai F25)) (s54 : S 54 = some (mQ 30 F54)) (s55 : S 55 = some (mQ 30 F55)) (s58 : S 58 = some (nQ 30 107 F58)) (s63 : S 63 = some (mQ 30 F63)) :
  dc19.wp S [] (De [.cell (some 9) 6] fun d _ => d.unR = .agg (BA [109, 47, 97, 47, 98] [] true [] [] v1) ∧ D.calmR (.agg (BA [109, 47, 97, 47, 98] [] true [] [] v1)) = true) ⟨Bi [.agg (vwC v1), .agg (akC akR), .agg (knC false [109, 47, 97, 47, 98])], fun _ _ => none, 0⟩ := by
 have h25 : F25 [.agg (vwC v1), .agg (akC akR)] = some (.int .i64 0) := by
  have e := F25_eq v1_ok (a := akR) (ak_ok (by simp))
  rw [refV] at e
  exact e
 have h63 : F63 (wk v1 akR false) [] = some (.tup [], A6 (wk v1 akR false) 21 (.str [109, 47, 97, 47, 98] :: .bool false :: .str [] :: .slice true [] [] :: vwC v1)) := F63_eq (v1, akR, false, out0 v1) ⟨rfl, rfl⟩
 have a0 : ∀ m : Mem, (m.put [1] 0 (akC akR)) [1] 0 = some (.int .u8 akR.op) := fun m => D4 rfl
 have a1 : akR.op = 9 := rfl
 have o21 : ∀ (m : Mem) (i : Id), Af (m.put i 0 (A6 (wk v1 akR false) 21 (.str [109, 47, 97, 47, 98] :: .bool false :: .str [] :: .slice true [] [] :: vwC v1))) i 21 9 = some (BA [109, 47, 97, 47, 98] [] true [] [] v1) := fun m i => rd_out rfl rfl
 have ol : ∀ (m : Mem) (i : Id) (w r : Bs) (nl : Bool) (t : Id) (xs : List D) (v : Vw), Af (m.put i 0 (BA w r nl t xs v)) i 0 9 = some (BA w r nl t xs v) := fun m i w r nl t xs v => Av rfl
 unfold dc19
 simp only [↓go1, gB1, reduceIte, Nat.reduceEqDiff, Nat.reduceAdd, a0, a1, AK s63, D6, h63, o21, ol, Aa s25, h25, Bn, Bj, Aw, AW, AX, Ap, kn_len, wk_len, CQ, Ej, fill9, fill30, rd_vw, rd_ak, AD, Mem.put_other, Int.reduceEq, ne_eq, reduceCtorEq, and_self, Option.bind_some, Option.isSome_some, List.cons.injEq, Nat.zero_ne_one, AR, AE, Av]
 all_goals (first | rfl | exact ⟨rfl, rfl⟩)
theorem d19_4 {S : Summs} (s25 : S 25 = some (Ai F25)) (s54 : S 54 = some (mQ 30 F54)) (s55 : S 55 = some (mQ 30 F55)) (s58 : S 58 = some (nQ 30 107 F58)) (s63 : S 63 = some (mQ 30 F63)) :
  dc19.wp S [] (De [.cell (some 9) 6] fun d _ => d.unR = .agg (BA [] (rpT 0 6) true [] [] v1) ∧ D.calmR (.agg (BA [] (rpT 0 6) true [] [] v1)) = true) ⟨Bi [.agg (vwC v1), .agg (akC akR), .agg (knC true [109, 47, 97, 47, 98])], fun _ _ => none, 0⟩ := by
 have h25 : F25 [.agg (vwC v1), .agg (akC akR)] = some (.int .i64 0) := by
  have e := F25_eq v1_ok (a := akR) (ak_ok (by simp))
  rw [refV] at e
  exact e
 have h63 : F63 (wk v1 akR true) [] = some (.tup [], A6 (wk v1 akR true) 21 (.str [] :: .bool false :: .str (rpT 0 6) :: .slice true [] [] :: vwC v1)) := F63_eq (v1, akR, true, out0 v1) ⟨rfl, rfl⟩
 have a0 : ∀ m : Mem, (m.put [1] 0 (akC akR)) [1] 0 = some (.int .u8 akR.op) := fun m => D4 rfl
 have a1 : akR.op = 9 := rfl
 have o21 : ∀ (m : Mem) (i : Id), Af (m.put i 0 (A6 (wk v1 akR true) 21 (.str [] :: .bool false :: .str (rpT 0 6) :: .slice true [] [] :: vwC v1))) i 21 9 = some (BA [] (rpT 0 6) true [] [] v1) := fun m i => rd_out rfl rfl
 have ol : ∀ (m : Mem) (i : Id) (w r : Bs) (nl : Bool) (t : Id) (xs : List D) (v : Vw), Af (m.put i 0 (BA w r nl t xs v)) i 0 9 = some (BA w r nl t xs v) := fun m i w r nl t xs v => Av rfl
 unfold dc19
 simp only [↓go1, gB1, reduceIte, Nat.reduceEqDiff, Nat.reduceAdd, a0, a1, AK s63, D6, h63, o21, ol, Aa s25, h25, Bn, Bj, Aw, AW, AX, Ap, kn_len, wk_len, CQ, Ej, fill9, fill30, rd_vw, rd_ak, AD, Mem.put_other, Int.reduceEq, ne_eq, reduceCtorEq, and_self, Option.bind_some, Option.isSome_some, List.cons.injEq, Nat.zero_ne_one, AR, AE, Av]
 all_goals (first | rfl | exact ⟨rfl, rfl⟩)
def a19 : Fin 5 → Vw × Ak × Bool
 | 0 => (v0, akS, false)
 | 1 => (v0, akR, false)
 | 2 => (v0, akM, false)
 | 3 => (v1, akR, false)
 | 4 => (v1, akR, true)
def r19 : Fin 5 → D
 | 0 => .agg (BA [] [111, 107, 32, 111, 112, 101, 110] true [] [] v0)
 | 1 => .agg (BA [] (rpT 0 14) true [] [] v0)
 | 2 => .agg (BA [] [111, 107] false [] opsM v1)
 | 3 => .agg (BA [109, 47, 97, 47, 98] [] true [] [] v1)
 | 4 => .agg (BA [] (rpT 0 6) true [] [] v1)
def mk19 (p : Fin 5) : List D := [.agg (vwC (a19 p).1), .agg (akC (a19 p).2.1), .agg (knC (a19 p).2.2 [109, 47, 97, 47, 98])]
theorem c19 : ∀ x y : Fin 5, ((a19 x).2.1.op, (a19 x).1.ms.length, (a19 x).2.2) = ((a19 y).2.1.op, (a19 y).1.ms.length, (a19 y).2.2) → x = y := by decide
theorem mk19_inj (x y : Fin 5) (e : mk19 x = mk19 y) : x = y := by
 simp only [mk19, List.cons.injEq, and_true] at e
 obtain ⟨e1, e2, e3⟩ := e
 have h1 := DH e1
 have h2 := BI e2
 have h3 : (a19 x).2.2 = (a19 y).2.2 := by
  revert e3
  cases (a19 x).2.2 <;> cases (a19 y).2.2 <;> simp [knC]
 exact c19 x y (by rw [h1, h2, h3])
noncomputable def F19 : List D → Option D := FX mk19 (fun _ => True) r19
theorem F19_eq (p : Fin 5) : F19 (mk19 p) = some (r19 p) := AP (mk := mk19) (a := p) mk19_inj trivial
theorem ok19 : (Ai F19).ok Tryz.prog 19 := by
 obtain ⟨S, hS, hl⟩ := AJ (Ab ok25 (Ab ok54 (Ab ok55 (Ab ok58 (Ab ok63 Ae)))))
 have s25 := hl 25 _ rfl
 have s54 := hl 54 _ rfl
 have s55 := hl 55 _ rfl
 have s58 := hl 58 _ rfl
 have s63 := hl 63 _ rfl
 clear hl
 refine AL hS fn19 (fun _ => by simp [mk19]) (fun p hp => ?_)
 match p with
 | 0 => exact d19_0 s25 s54 s55 s58 s63
 | 1 => exact d19_1 s25 s54 s55 s58 s63
 | 2 => exact d19_2 s25 s54 s55 s58 s63
 | 3 => exact d19_3 s25 s54 s55 s58 s63
 | 4 => exact d19_4 s25 s54 s55 s58 s63
theorem ok10 : (Ai trueF).ok Tryz.prog 10 := by
 obtain ⟨S, hS, hl⟩ := AJ (Ab ok23 (Ab ok19 (Ab ok12 (Ab ok27 (Ab ok29 (Ab ok25 Ae))))))
 have s23 := hl 23 _ rfl
 have s19 := hl 19 _ rfl
 have s12 := hl 12 _ rfl
 have s27 := hl 27 _ rfl
 have s29 := hl 29 _ rfl
 have s25 := hl 25 _ rfl
 clear hl
 refine As hS fn10 (fun ds r h => ?_) (fun ds r h => ?_)
 ·unfold trueF at h; split at h
  ·simp
  ·cases h
 ·unfold trueF at h; split at h
  ·simp only [Option.some.injEq] at h
   subst h
   have h23 : F23 [.str [107]] = some (.agg (vwC v0)) := rfl
   have ha : F19 [.agg (vwC v0), .agg [.int .u8 1, .str [], .str [], .str [], .int .i64 0, .int .i64 0, .bool false, .slice true [] [], .str [], .slice true [] [], .str []], .agg [.slice true [] [], .slice true [] [], .slice true [] [], .slice true [] [], .slice true [] []]] = some (.agg (BA [] [111, 107, 32, 111, 112, 101, 110] true [] [] v0)) := F19_eq 0
   have hb : F19 [.agg (vwC v0), .agg [.int .u8 9, .str [114, 111, 111, 116], .str [97, 47, 98], .str [], .int .i64 0, .int .i64 0, .bool false, .slice true [] [], .str [], .slice true [] [], .str []], .agg [.slice true [] [], .slice true [] [], .slice true [] [], .slice true [] [], .slice true [] []]] = some (.agg (BA [] [101, 114, 114, 111, 114, 32, 49, 52] true [] [] v0)) := F19_eq 1
   have hc : F19 [.agg (vwC v0), .agg [.int .u8 5, .str [114, 111, 111, 116], .str [97], .str [], .int .i64 2, .int .i64 0, .bool false, .slice true [] [], .str [], .slice true [] [], .str []], .agg [.slice true [] [], .slice true [] [], .slice true [] [], .slice true [] [], .slice true [] []]] = some (.agg (BA [] [111, 107] false [] [.agg [.int .u8 1, .str [115, 47, 109, 111, 117, 110, 116, 115], .str (Cq t1)]] v1)) := F19_eq 2
   have hd : F19 [.agg (vwC v1), .agg [.int .u8 9, .str [114, 111, 111, 116], .str [97, 47, 98], .str [], .int .i64 0, .int .i64 0, .bool false, .slice true [] [], .str [], .slice true [] [], .str []], .agg [.slice true [] [], .slice true [] [], .slice true [] [], .slice true [] [], .slice true [] []]] = some (.agg (BA [109, 47, 97, 47, 98] [] true [] [] v1)) := F19_eq 3
   have he : F19 [.agg (vwC v1), .agg [.int .u8 9, .str [114, 111, 111, 116], .str [97, 47, 98], .str [], .int .i64 0, .int .i64 0, .bool false, .slice true [] [], .str [], .slice true [] [], .str []], .agg [.slice false [] [.str [109, 47, 97, 47, 98]], .slice false [] [.str []], .slice false [] [.bool false], .slice true [] [], .slice true [] []]] = some (.agg (BA [] [101, 114, 114, 111, 114, 32, 54] true [] [] v1)) := F19_eq 4
   have h12 : F12 [.agg [.slice true [] [], .slice true [] [], .slice true [] [], .slice true [] [], .slice true [] []], .str [109, 47, 97, 47, 98], .str [], .bool false] = some (.agg [.slice false [] [.str [109, 47, 97, 47, 98]], .slice false [] [.str []], .slice false [] [.bool false], .slice true [] [], .slice true [] []]) := F12_eq [109, 47, 97, 47, 98] trivial
   have h27 : F27 [.int .u8 10] = some (.int .u8 2) := by kernel_rfl
   have h29 : F29 [.int .u8 18] = some (.bool true) := by kernel_rfl
   have h29b : F29 [.int .u8 9] = some (.bool false) := by kernel_rfl
   have h25 : F25 [.agg (vwC v0), .agg [.int .u8 0, .str [], .str [], .str [], .int .i64 0, .int .i64 0, .bool false, .slice true [] [], .str [], .slice true [] [], .str []]] = some (.int .i64 22) := by
    have e := F25_eq v0_ok (a := akZ) (ak_ok (by simp))
    rw [refZ] at e
    exact e
   have q0 : ∀ (m : Mem) (i : Id) (w r : Bs) (nl : Bool) (t : Id) (xs : List D) (v : Vw), (m.put i 0 (BA w r nl t xs v)) i 0 = some (.str w) := fun m i w r nl t xs v => D4 rfl
   have q1 : ∀ (m : Mem) (i : Id) (w r : Bs) (nl : Bool) (t : Id) (xs : List D) (v : Vw), (m.put i 0 (BA w r nl t xs v)) i 1 = some (.bool false) := fun m i w r nl t xs v => D4 rfl
   have q2 : ∀ (m : Mem) (i : Id) (w r : Bs) (nl : Bool) (t : Id) (xs : List D) (v : Vw), (m.put i 0 (BA w r nl t xs v)) i 2 = some (.str r) := fun m i w r nl t xs v => D4 rfl
   have q3 : ∀ (m : Mem) (i : Id) (w r : Bs) (nl : Bool) (t : Id) (xs : List D) (v : Vw), (m.put i 0 (BA w r nl t xs v)) i 3 = some (.slice nl t xs) := fun m i w r nl t xs v => D4 rfl
   have q4 : ∀ (m : Mem) (i : Id) (w r : Bs) (nl : Bool) (t : Id) (xs : List D) (v : Vw), Af (m.put i 0 (BA w r nl t xs v)) i 4 5 = some (vwC v) := fun m i w r nl t xs v => by rw [rd_sub (Av (n := 9) rfl) (by decide)]; rfl
   have ol : ∀ (m : Mem) (i : Id) (w r : Bs) (nl : Bool) (t : Id) (xs : List D) (v : Vw), Af (m.put i 0 (BA w r nl t xs v)) i 0 9 = some (BA w r nl t xs v) := fun m i w r nl t xs v => Av rfl
   have hv : True := trivial
   unfold dc10
   simp only [↓go1, gB1, reduceIte, Nat.reduceEqDiff, Nat.reduceAdd, ha, hb, hc, hd, he, Aa s23, h23, Aa s12, h12, q4, Aa s19, A2, Bt, Bn, Bj, Aw, AM, CQ, Ej, rd_vw, AD, ne_eq, Nat.reduceLeDiff, and_self, List.take_succ_cons, List.take_zero, Option.isSome_some, List.drop_zero, List.drop_succ_cons, List.cons.injEq, Nat.succ_ne_zero, Av]
   refine AA.intro (Al ?_) ?_
   ·simp only [Bh, List.all_cons, List.all_nil, List.getD, List.getElem?_cons_zero, List.getElem?_cons_succ, Option.getD_some, A1, List.map_cons, List.map_nil, List.length_cons, List.length_nil, List.flatMap_cons, List.flatMap_nil, rds, ↓go1, go2, reduceIte, Nat.reduceEqDiff]
    simp [AG, Ai, s19, s12]
   simp only [↓go1, gB1, reduceIte, Nat.reduceEqDiff, Nat.reduceAdd, Aa s27, h27, Aa s29, h29, Aa s25, h25, h29b, q0, q1, q2, q3, A2, Bn, Bj, rd_vw, AD, Mem.put_other, Int.toNat_zero, Int.cast_ofNat_Int, Int.le_refl, ne_eq, reduceCtorEq, Nat.reduceLeDiff, List.getElem?_cons_zero, and_self, List.drop_zero, List.drop_succ_cons, List.head?_cons, List.cons.injEq, Nat.zero_ne_one, Nat.succ_ne_zero]
   all_goals (first | rfl | exact ⟨rfl, rfl⟩)
  ·cases h
end Go.Vd
namespace Go.Vd
open Go.RowKit Go.ChangeShapes Go.WideShapes Go.Deep
def allG (w : World) (b : Nat) : Nat := match w.heap[b]? with
 | some (.cells c _ _) => c.size
 | _ => 0
theorem allG_out (w : World) (b : Nat) (h : w.heap.size ≤ b) : allG w b = 0 := by
 simp [allG, Array.getElem?_eq_none h]
theorem cell_in {w : World} {p : Addr} {v : Value} (h : w.cell? p = some v) : p.off < allG w p.block := by
 unfold World.cell? at h
 unfold allG
 split at h
 ·rename_i c e fz hh
  split at h
  ·cases h
  ·rw [hh]; exact (Array.getElem?_eq_some_iff.1 h).1
 ·cases h
theorem exists_list {α : Type} {p : Nat → α → Prop} : ∀ n, (∀ i, i < n → ∃ x, p i x) → ∃ l : List α, l.length = n ∧ ∀ i x, l[i]? = some x → p i x
 | 0, _ => ⟨[], rfl, by simp⟩
 | n + 1, h => by
  obtain ⟨l, h1, h2⟩ := exists_list n (fun i hi => h i (by omega))
  obtain ⟨x, hx⟩ := h n (by omega)
  refine ⟨l ++ [x], by simp [h1], fun i y hy => ?_⟩
  by_cases hi : i < l.length
  ·rw [List.getElem?_append_left hi] at hy; exact h2 i y hy
  ·rw [List.getElem?_append_right (by omega)] at hy
   have hi0 : i - l.length = 0 := by
    rcases Nat.eq_zero_or_pos (i - l.length) with e | e
    ·exact e
    ·rw [List.getElem?_eq_none (by simp; omega)] at hy; cases hy
   rw [hi0] at hy
   simp only [List.getElem?_cons_zero, Option.some.injEq] at hy
   subst hy
   have : i = n := by omega
   subst this; exact hx
def isSt (P : Program) (t : TypeId) : Bool := match P.underlying t with
 | some (.struct _) => true
 | _ => false
def wrapD : Bool → List D → D
 | true, cs => .agg cs
 | false, [d] => d
 | false, _ => .junk
def FitL (F : TypeId → List D → Prop) : List TypeId → List D → Prop
 | [], ds => ds = []
 | t :: r, ds => ∃ a b, ds = a ++ b ∧ F t a ∧ FitL F r b
def Fit (P : Program) : Nat → TypeId → List D → Prop
 | 0, _, _ => False
 | n + 1, t, ds => match P.underlying t with
  | some .string => ∃ s, ds = [.str s]
  | some .bool => ∃ b, ds = [.bool b]
  | some (.int k) => ∃ x, ds = [.int k x] ∧ (Lit.int k x).wf = true
  | some (.struct fs) => FitL (Fit P n) (fs.toList.map (·.type)) ds
  | some (.slice e) => ∃ nl xs, ds = [.slice nl [] xs] ∧ (nl = true → xs = []) ∧ ∀ x ∈ xs, ∃ cs, x = wrapD (isSt P e) cs ∧ Fit P n e cs
  | _ => False
def tile (P : Program) (c : Nat) : List Field → Nat → Bool
 | [], o => o == c
 | f :: r, o => f.offset == o && tile P c r (o + P.cellsOf f.type)
def plainT (P : Program) : Nat → TypeId → Bool
 | 0, _ => false
 | n + 1, t => match P.underlying t with
  | some .string => P.cellsOf t == 1
  | some .bool => P.cellsOf t == 1
  | some (.int _) => P.cellsOf t == 1
  | some (.struct fs) => tile P (P.cellsOf t) fs.toList 0 && fs.toList.all fun f => plainT P n f.type
  | some (.slice e) => P.cellsOf t == 1 && plainT P n e
  | _ => false
structure Says (w : World) (ds : List D) (cs : List Value) : Prop where
 len : ds.length = cs.length
 calm : ∀ d ∈ ds, d.calm1 = true
 un : ds.map D.un1 = ds
 rep : ∀ (j : Nat) d v, ds[j]? = some d → cs[j]? = some v → Rep w (Cr (allG w)) d v ∧ v.oneCell' = true
theorem Says.one {w : World} {d : D} {v : Value} (h1 : d.calm1 = true) (h2 : d.un1 = d) (h3 : Rep w (Cr (allG w)) d v) (h4 : v.oneCell' = true) : Says w [d] [v] :=
 ⟨rfl, fun x hx => by simp only [List.mem_cons, List.mem_nil_iff, or_false] at hx; subst hx; exact h1, by simp [h2], fun j x y hx hy => by
  match j with
  | 0 => simp only [List.getElem?_cons_zero, Option.some.injEq] at hx hy; subst hx hy; exact ⟨h3, h4⟩
  | j + 1 => simp at hx⟩
theorem flat_wrap {c : Nat} {b : Bool} : ∀ (l : List (List D)) (j : Nat) (d : D), (∀ ds ∈ l, ds.length = c ∧ (wrapD b ds).cells = ds) → (flat (l.map (wrapD b)))[j]? = some d → ∃ i k ds, l[i]? = some ds ∧ ds[k]? = some d ∧ j = i * c + k
 | [], j, d, _, h => by simp [flat] at h
 | x :: r, j, d, hl, h => by
  obtain ⟨h1, h2⟩ := hl x (List.mem_cons_self ..)
  simp only [List.map_cons, flat, h2] at h
  by_cases hj : j < x.length
  ·rw [List.getElem?_append_left hj] at h
   exact ⟨0, j, x, rfl, h, by omega⟩
  ·rw [List.getElem?_append_right (by omega)] at h
   obtain ⟨i, k, ds, e1, e2, e3⟩ := flat_wrap r _ d (fun ds hd => hl ds (List.mem_cons_of_mem _ hd)) h
   refine ⟨i + 1, k, ds, by simpa using e1, e2, ?_⟩
   rw [Nat.succ_mul]; omega
section
variable {H : Type} {enc : TypeId × Value → H} {P : Program} {w : World} {base : Nat} {spare : Nat → Bool} {held : Bool}
theorem read_fields {n : Nat} {cs : List Value} {fuel : Nat} (ih : ∀ t, plainT P n t = true → ∀ (fuel : Nat) (cs : List Value) x, DataW.trod enc P w base spare held fuel t cs = some x → cs.length = P.cellsOf t ∧ ∃ ds, Fit P n t ds ∧ Says w ds cs) :
  ∀ (fs : List Field) (o : Nat), tile P cs.length fs o = true → (fs.all fun f => plainT P n f.type) = true → (∀ (j : Nat) f, fs[j]? = some f → ∃ y, DataW.trod enc P w base spare held fuel f.type ((cs.drop f.offset).take (P.cellsOf f.type)) = some y) →
   o ≤ cs.length ∧ ∃ ds, FitL (Fit P n) (fs.map (·.type)) ds ∧ Says w ds (cs.drop o)
 | [], o, ht, _, _ => by
  simp only [tile, beq_iff_eq] at ht
  subst ht
  refine ⟨Nat.le_refl _, [], rfl, by simp, by simp, rfl, by simp⟩
 | f :: r, o, ht, hp, hf => by
  simp only [tile, Bool.and_eq_true, beq_iff_eq] at ht
  obtain ⟨rfl, ht⟩ := ht
  simp only [List.all_cons, Bool.and_eq_true] at hp
  obtain ⟨y, hy⟩ := hf 0 f rfl
  obtain ⟨h1, a, fa, sa⟩ := ih _ hp.1 _ _ _ hy
  obtain ⟨h2, b, fb, sb⟩ := read_fields ih r _ ht hp.2 (fun j g hg => hf (j + 1) g (by simpa using hg))
  have hsplit : cs.drop f.offset = (cs.drop f.offset).take (P.cellsOf f.type) ++ cs.drop (f.offset + P.cellsOf f.type) := by
   rw [← List.drop_drop, List.take_append_drop]
  refine ⟨by omega, a ++ b, ⟨a, b, rfl, fa, fb⟩, ?_⟩
  rw [hsplit]
  refine ⟨by rw [List.length_append, List.length_append, sa.len, sb.len], fun d hd => ?_, by rw [List.map_append, sa.un, sb.un], fun j d v hd hv => ?_⟩
  ·rcases List.mem_append.1 hd with h | h
   ·exact sa.calm d h
   ·exact sb.calm d h
  ·have hl := sa.len
   by_cases hj : j < a.length
   ·rw [List.getElem?_append_left hj] at hd
    rw [List.getElem?_append_left (by omega)] at hv
    exact sa.rep j d v hd hv
   ·rw [List.getElem?_append_right (by omega)] at hd
    rw [List.getElem?_append_right (by omega), ← hl] at hv
    exact sb.rep _ d v hd hv
theorem wrap_cells {n : Nat} {e : TypeId} {ds : List D} (h : Fit P n e ds) : (wrapD (isSt P e) ds).cells = ds ∧ (ds.all D.calm1 = true → (wrapD (isSt P e) ds).calm = true) := by
 cases n with
 | zero => exact h.elim
 | succ n =>
  unfold Fit at h
  unfold isSt
  split at h
  ·rename_i he; rw [he]; obtain ⟨s, rfl⟩ := h; exact ⟨rfl, fun _ => rfl⟩
  ·rename_i he; rw [he]; obtain ⟨s, rfl⟩ := h; exact ⟨rfl, fun _ => rfl⟩
  ·rename_i he; rw [he]; obtain ⟨s, rfl, _⟩ := h; exact ⟨rfl, fun _ => rfl⟩
  ·rename_i fs he; rw [he]; exact ⟨rfl, fun hc => by simpa [wrapD, D.calm] using hc⟩
  ·rename_i he; rw [he]; obtain ⟨nl, xs, rfl, _⟩ := h; exact ⟨rfl, fun _ => rfl⟩
  ·exact h.elim
theorem read_fit : ∀ (n : Nat) (t : TypeId), plainT P n t = true → ∀ (fuel : Nat) (cs : List Value) x, DataW.trod enc P w base spare held fuel t cs = some x → cs.length = P.cellsOf t ∧ ∃ ds, Fit P n t ds ∧ Says w ds cs
 | 0, t, hp => by simp [plainT] at hp
 | n + 1, t, hp => by
  intro fuel cs x h
  unfold plainT at hp
  unfold Fit
  split at hp
  ·rename_i ht
   simp only [beq_iff_eq] at hp
   obtain ⟨s, rfl, _⟩ := DataW.trod_string ht h
   exact ⟨hp.symm, _, ⟨s.data.toList, rfl⟩, Says.one rfl rfl (.str _) rfl⟩
  ·rename_i ht
   simp only [beq_iff_eq] at hp
   obtain ⟨b, rfl, _⟩ := DataW.trod_bool ht h
   exact ⟨hp.symm, _, ⟨b, rfl⟩, Says.one rfl rfl (.bool _) rfl⟩
  ·rename_i k ht
   simp only [beq_iff_eq] at hp
   obtain ⟨b, rfl, _, hw⟩ := DataW.trod_int ht h
   exact ⟨hp.symm, _, ⟨b, rfl, hw⟩, Says.one rfl rfl (.int _ _) rfl⟩
  ·rename_i fs ht
   simp only [Bool.and_eq_true] at hp
   obtain ⟨ys, n', _, _, hl, hyl, hf⟩ := DataW.trod_struct ht h
   rw [← hl] at hp
   have := read_fields (fuel := n') (read_fit n) fs.toList 0 hp.1 hp.2 (fun j f hj => by
    have hj' : fs[j]? = some f := by simpa using hj
    have hjl : j < fs.size := (Array.getElem?_eq_some_iff.1 hj').1
    have hys : ys[j]? = some (ys[j]'(by omega)) := List.getElem?_eq_getElem (by omega)
    exact ⟨_, (hf j f hj').trans hys⟩)
   obtain ⟨_, ds, h1, h2⟩ := this
   exact ⟨hl, ds, h1, by simpa using h2⟩
  ·rename_i e ht
   simp only [Bool.and_eq_true, beq_iff_eq] at hp
   rcases open_slice ht h with ⟨rfl, _⟩ | ⟨a, len, cap, m, n', D', Pl, rfl, _, hl, _, hm, _, hi⟩
   ·exact ⟨hp.1.symm, _, ⟨true, [], rfl, (fun _ => rfl), (fun x hx => by cases hx)⟩, Says.one rfl rfl (.nils []) rfl⟩
   ·have hlm : len ≤ m := by rw [hm]; split <;> omega
    have hc := exists_list (p := fun i (ds : List D) => Fit P n e ds ∧ ds.length = P.cellsOf e ∧ ds.all D.calm1 = true ∧ ∀ (j : Nat) d, ds[j]? = some d → ∃ v, w.cell? (a.add (i * P.cellsOf e + j)) = some v ∧ Rep w (Cr (allG w)) d v ∧ v.oneCell' = true) len (fun i hil => by
     obtain ⟨cs', h1, h2⟩ := hi i (by omega)
     obtain ⟨h3, ds, h4, h5⟩ := read_fit n e hp.2 _ _ _ h2
     refine ⟨ds, h4, h5.len.trans h3, List.all_eq_true.2 h5.calm, fun j d hd => ?_⟩
     have hj : j < ds.length := (List.getElem?_eq_some_iff.1 hd).1
     have hjc : j < cs'.length := by rw [← h5.len]; exact hj
     obtain ⟨_, _, hat⟩ := World.cells?_some h1
     obtain ⟨r1, r2⟩ := h5.rep j d _ hd (List.getElem?_eq_getElem hjc)
     refine ⟨_, ?_, r1, r2⟩
     rw [← Go.Deep.add_add, hat j (by omega), List.getElem?_eq_getElem hjc])
    obtain ⟨l, hll, hlp⟩ := hc
    have key : ∀ j, j < len * P.cellsOf e → ∃ v, w.cell? (a.add j) = some v ∧ v.oneCell' = true := by
     intro j hj
     have hc0 : 0 < P.cellsOf e := by
      rcases Nat.eq_zero_or_pos (P.cellsOf e) with h0 | h0
      ·rw [h0] at hj; simp at hj
      ·exact h0
     have hi : j / P.cellsOf e < l.length := by rw [hll]; exact Nat.div_lt_of_lt_mul (by rw [Nat.mul_comm]; exact hj)
     obtain ⟨_, q2, _, q4⟩ := hlp _ _ (List.getElem?_eq_getElem hi)
     have hk : j % P.cellsOf e < (l[j / P.cellsOf e]).length := by rw [q2]; exact Nat.mod_lt _ hc0
     obtain ⟨v, h1, _, h3⟩ := q4 _ _ (List.getElem?_eq_getElem hk)
     rw [Nat.mul_comm, Nat.div_add_mod] at h1
     exact ⟨v, h1, h3⟩
    have hall : ∀ ds ∈ l, ds.length = P.cellsOf e ∧ (wrapD (isSt P e) ds).cells = ds ∧ (wrapD (isSt P e) ds).calm = true := fun ds hd => by
     obtain ⟨i, hi, rfl⟩ := List.getElem_of_mem hd
     obtain ⟨q1, q2, q3, _⟩ := hlp i _ (List.getElem?_eq_getElem hi)
     exact ⟨q2, (wrap_cells q1).1, (wrap_cells q1).2 q3⟩
    refine ⟨hp.1.symm, [.slice false [] (l.map (wrapD (isSt P e)))], ⟨false, _, rfl, (fun h0 => by cases h0), fun x hx => ?_⟩, Says.one rfl rfl ?_ rfl⟩
    ·obtain ⟨ds, hd, rfl⟩ := List.mem_map.1 hx
     obtain ⟨i, hi, rfl⟩ := List.getElem_of_mem hd
     exact ⟨_, rfl, (hlp i _ (List.getElem?_eq_getElem hi)).1⟩
    ·refine .slice [] _ a len cap (P.cellsOf e) (fun j => (w.cell? (a.add j)).getD undef) (by simp [hll]) hl (fun d hd => ?_) (fun j hj => ?_) (fun j hj => ?_) (fun j d hd => ?_) (fun h0 => ?_) (fun h => absurd rfl h) (fun d hd => ?_)
     ·obtain ⟨ds, hds, rfl⟩ := List.mem_map.1 hd
      obtain ⟨q1, q2, _⟩ := hall ds hds
      rw [q2, q1]
     ·obtain ⟨v, hv, _⟩ := key j hj
      simp only [hv, Option.getD_some]
     ·obtain ⟨v, hv, ho⟩ := key j hj
      simp only [hv, Option.getD_some, ho]
     ·obtain ⟨i, k, ds, e1, e2, rfl⟩ := flat_wrap (c := P.cellsOf e) l j d (fun ds hds => ⟨(hall ds hds).1, (hall ds hds).2.1⟩) hd
      obtain ⟨_, _, _, q4⟩ := hlp i ds e1
      obtain ⟨v, h1, h2, _⟩ := q4 k d e2
      simp only [h1, Option.getD_some]
      exact h2
     ·obtain ⟨v, hv, _⟩ := key (len * P.cellsOf e - 1) (by omega)
      have := cell_in hv
      rw [EL, CU] at this
      show a.off + len * P.cellsOf e ≤ allG w a.block
      omega
     ·obtain ⟨ds, hds, rfl⟩ := List.mem_map.1 hd
      exact (hall ds hds).2.2
  ·cases hp
theorem agg_fit {n : Nat} {r : Reach} {b0 : Nat} {t : TypeId} {fs : Array Field} {v : Value} {d : DataW H} {p : List MemPlace} (ht : P.underlying t = some (.struct fs)) (hp : plainT P n t = true) (hv : Value.okWide P w r b0 t v) (h : DataW.Trod enc P w base spare held t v d p) :
  ∃ ds, Fit P n t ds ∧ Rep w (Cr (allG w)) (.agg ds) v ∧ (D.agg ds).un = .agg ds ∧ (D.agg ds).calm = true := by
 obtain ⟨cs, rfl, hsz⟩ := okWide_struct ht hv
 obtain ⟨fuel, hf⟩ := h
 obtain ⟨_, ds, h1, h2⟩ := read_fit n t hp _ _ _ hf
 have hl : ds.length = cs.toList.length := h2.len
 refine ⟨ds, h1, .agg ds cs.toList hl.symm (fun v hv => ?_) (fun j d v hd hv => (h2.rep j d v hd hv).1), ?_, ?_⟩
 ·obtain ⟨j, hj, rfl⟩ := List.getElem_of_mem hv
  exact (h2.rep j _ _ (List.getElem?_eq_getElem (by omega)) (List.getElem?_eq_getElem hj)).2
 ·have := h2.un
  show D.agg _ = _
  first | exact congrArg D.agg this | rfl
 ·exact List.all_eq_true.2 h2.calm
end
end Go.Vd
namespace Go.Vd
open Go.Proofs Go.RowKit
section
variable {P : Program} {n : Nat} {t : TypeId} {ds : List D}
theorem Fit.str (hu : P.underlying t = some .string) (h : Fit P (n + 1) t ds) : ∃ s, ds = [.str s] := by unfold Fit at h; rw [hu] at h; exact h
theorem Fit.bool (hu : P.underlying t = some .bool) (h : Fit P (n + 1) t ds) : ∃ b, ds = [.bool b] := by unfold Fit at h; rw [hu] at h; exact h
theorem Fit.int {k : IntKind} (hu : P.underlying t = some (.int k)) (h : Fit P (n + 1) t ds) : ∃ x, ds = [.int k x] ∧ (Lit.int k x).wf = true := by unfold Fit at h; rw [hu] at h; exact h
theorem Fit.struct {fs : Array Field} (hu : P.underlying t = some (.struct fs)) (h : Fit P (n + 1) t ds) : FitL (Fit P n) (fs.toList.map (·.type)) ds := by unfold Fit at h; rw [hu] at h; exact h
theorem Fit.slice {e : TypeId} (hu : P.underlying t = some (.slice e)) (h : Fit P (n + 1) t ds) : ∃ nl xs, ds = [.slice nl [] xs] ∧ (nl = true → xs = []) ∧ ∀ x ∈ xs, ∃ cs, x = wrapD (isSt P e) cs ∧ Fit P n e cs := by unfold Fit at h; rw [hu] at h; exact h
end
theorem all_map {α : Type} {f : α → D} {p : α → Prop} : ∀ {xs : List D}, (∀ x ∈ xs, ∃ y, x = f y ∧ p y) → ∃ l : List α, xs = l.map f ∧ ∀ y ∈ l, p y
 | [], _ => ⟨[], rfl, fun y hy => by cases hy⟩
 | x :: r, h => by
  obtain ⟨y, rfl, hp⟩ := h x (List.mem_cons_self ..)
  obtain ⟨l, rfl, hl⟩ := all_map (f := f) (p := p) (xs := r) (fun z hz => h z (List.mem_cons_of_mem _ hz))
  exact ⟨y :: l, rfl, fun z hz => by
   rcases List.mem_cons.1 hz with rfl | hz
   ·exact hp
   ·exact hl z hz⟩
theorem wf_u8 {x : Int} (h : (Lit.int .u8 x).wf = true) : 0 ≤ x ∧ x < 256 := by
 simp only [Lit.wf, Bool.and_eq_true, decide_eq_true_eq] at h
 have h1 := h.1
 have h2 := h.2
 simp [IntKind.min, IntKind.max, IntKind.bits, IntKind.signed] at h1 h2
 omega
section
variable {n : Nat} {ds : List D}
theorem fit_rules (h : Fit Tryz.prog (n + 3) 45 ds) : ∃ nl l, ds = [.slice nl [] (Aj l)] ∧ (nl = true → l = []) ∧ Da l := by
 obtain ⟨nl, xs, rfl, hn, hx⟩ := Fit.slice Tryz.underlying45 h
 obtain ⟨l, rfl, hl⟩ := all_map (f := rlD) (p := fun r => 0 ≤ r.2 ∧ r.2 < 256) (xs := xs) (fun x hxx => by
  obtain ⟨cs, rfl, hf⟩ := hx x hxx
  rw [show isSt Tryz.prog 191 = true by kernel_rfl]
  have hf := Fit.struct Tryz.underlying191 hf
  obtain ⟨a, b, rfl, f1, a2, b2, rfl, f2, rfl⟩ := hf
  obtain ⟨s, rfl⟩ := Fit.str Tryz.underlying9 f1
  obtain ⟨x, rfl, hw⟩ := Fit.int Tryz.underlying5 f2
  exact ⟨(s, x), rfl, wf_u8 hw⟩)
 exact ⟨nl, l, rfl, fun e => by simpa using hn e, hl⟩
theorem fit_mounts (h : Fit Tryz.prog (n + 4) 40 ds) : ∃ nl l, ds = [.slice nl [] (Ar l)] := by
 obtain ⟨nl, xs, rfl, hn, hx⟩ := Fit.slice Tryz.underlying40 h
 obtain ⟨l, rfl, hl⟩ := all_map (f := mtD) (p := fun _ => True) (xs := xs) (fun x hxx => by
  obtain ⟨cs, rfl, hf⟩ := hx x hxx
  rw [show isSt Tryz.prog 118 = true by kernel_rfl]
  have hf := Fit.struct Tryz.underlying118 hf
  obtain ⟨a, b, rfl, f1, a2, b2, rfl, f2, rfl⟩ := hf
  obtain ⟨s, rfl⟩ := Fit.str Tryz.underlying9 f1
  have g := Fit.struct Tryz.underlying116 f2
  obtain ⟨a', b', rfl, g1, a2', b2', rfl, g2, rfl⟩ := g
  obtain ⟨x, rfl, _⟩ := Fit.int Tryz.underlying3 g1
  obtain ⟨c, rfl⟩ := Fit.bool Tryz.underlying4 g2
  exact ⟨(s, x, c), rfl, trivial⟩)
 exact ⟨nl, l, rfl⟩
theorem fit_tokens (h : Fit Tryz.prog (n + 6) 41 ds) : ∃ nl l, ds = [.slice nl [] (AC l)] ∧ ∀ k ∈ l, rawT k := by
 obtain ⟨nl, xs, rfl, hn, hx⟩ := Fit.slice Tryz.underlying41 h
 obtain ⟨l, rfl, hl⟩ := all_map (f := tkD) (p := rawT) (xs := xs) (fun x hxx => by
  obtain ⟨cs, rfl, hf⟩ := hx x hxx
  rw [show isSt Tryz.prog 134 = true by kernel_rfl]
  have hf := Fit.struct Tryz.underlying134 hf
  obtain ⟨a, b, rfl, f1, a2, b2, rfl, f2, a3, b3, rfl, f3, rfl⟩ := hf
  obtain ⟨s, rfl⟩ := Fit.str Tryz.underlying9 f1
  obtain ⟨s2, rfl⟩ := Fit.str Tryz.underlying9 f2
  obtain ⟨nr, lr, rfl, h1, h2⟩ := fit_rules f3
  exact ⟨(s, s2, nr, lr), rfl, h1, h2⟩)
 exact ⟨nl, l, rfl, hl⟩
theorem fit_ints (h : Fit Tryz.prog (n + 2) 44 ds) : ∃ nl l, ds = [.slice nl [] (By l)] := by
 obtain ⟨nl, xs, rfl, hn, hx⟩ := Fit.slice Tryz.underlying44 h
 obtain ⟨l, rfl, hl⟩ := all_map (f := fun x => D.int .i64 x) (p := fun _ => True) (xs := xs) (fun x hxx => by
  obtain ⟨cs, rfl, hf⟩ := hx x hxx
  rw [show isSt Tryz.prog 3 = false by kernel_rfl]
  obtain ⟨x, rfl, _⟩ := Fit.int Tryz.underlying3 hf
  exact ⟨x, rfl, trivial⟩)
 exact ⟨nl, l, rfl⟩
theorem fit_sight (h : Fit Tryz.prog 8 43 ds) : ∃ v : Vw, ds = vwC v ∧ ∀ k ∈ v.ks, rawT k := by
 have h := Fit.struct Tryz.underlying43 h
 obtain ⟨a1, b1, rfl, f1, a2, b2, rfl, f2, a3, b3, rfl, f3, a4, b4, rfl, f4, a5, b5, rfl, f5, rfl⟩ := h
 obtain ⟨x1, rfl⟩ := Fit.bool Tryz.underlying4 f1
 obtain ⟨x2, rfl, _⟩ := Fit.int Tryz.underlying3 f2
 obtain ⟨x3, rfl⟩ := Fit.str Tryz.underlying9 f3
 obtain ⟨n4, x4, rfl⟩ := fit_mounts f4
 obtain ⟨n5, x5, rfl, h5⟩ := fit_tokens f5
 exact ⟨⟨x1, x2, x3, n4, x4, n5, x5⟩, rfl, h5⟩
theorem fit_ask (h : Fit Tryz.prog 8 47 ds) : ∃ a : Ak, ds = akC a ∧ Da a.rs ∧ 0 ≤ a.op ∧ a.op < 256 := by
 have h := Fit.struct Tryz.underlying47 h
 obtain ⟨a1, b1, rfl, f1, a2, b2, rfl, f2, a3, b3, rfl, f3, a4, b4, rfl, f4, a5, b5, rfl, f5, a6, b6, rfl, f6, a7, b7, rfl, f7, a8, b8, rfl, f8, a9, b9, rfl, f9, a10, b10, rfl, f10, a11, b11, rfl, f11, rfl⟩ := h
 obtain ⟨x1, rfl, w1⟩ := Fit.int Tryz.underlying5 f1
 obtain ⟨x2, rfl⟩ := Fit.str Tryz.underlying9 f2
 obtain ⟨x3, rfl⟩ := Fit.str Tryz.underlying9 f3
 obtain ⟨x4, rfl⟩ := Fit.str Tryz.underlying9 f4
 obtain ⟨x5, rfl, _⟩ := Fit.int Tryz.underlying3 f5
 obtain ⟨x6, rfl, _⟩ := Fit.int Tryz.underlying3 f6
 obtain ⟨x7, rfl⟩ := Fit.bool Tryz.underlying4 f7
 obtain ⟨n8, x8, rfl⟩ := fit_ints f8
 obtain ⟨x9, rfl⟩ := Fit.str Tryz.underlying9 f9
 obtain ⟨n10, x10, rfl, _, h10⟩ := fit_rules f10
 obtain ⟨x11, rfl⟩ := Fit.str Tryz.underlying9 f11
 obtain ⟨w2, w3⟩ := wf_u8 w1
 exact ⟨⟨x1, x2, x3, x4, x5, x6, x7, n8, x8, x9, n10, x10, x11⟩, rfl, h10, w2, w3⟩
end
theorem refuses_law {w : World} {v0 v1 : Value} {q : Int} (h0 : ∃ v : Vw, (∀ k ∈ v.ks, rawT k) ∧ Rep w (Cr (allG w)) (.agg (vwC v)) v0) (h1 : ∃ a : Ak, Da a.rs ∧ 0 ≤ a.op ∧ a.op < 256 ∧ Rep w (Cr (allG w)) (.agg (akC a)) v1) (hq : 0 ≤ q ∧ q < 256) :
  Calls Tryz.prog 5 #[v0, v1, .int .u8 q] w fun e w' => e = .returned (.bool true) ∧ Below w.heap.size w w' := by
 obtain ⟨v, hv, r0⟩ := h0
 obtain ⟨a, ha, ho, ho2, r1⟩ := h1
 refine row_true (ok5 (ok22 ok66) ok10) (G := allG w) (fun b hb => allG_out w b hb) (ds := mkL (v, a, q)) (vs := [v0, v1, .int .u8 q]) rfl (fun j d x hd hx => ?_) rfl rfl (AP (mk := mkL) (a := (v, a, q)) mkL_inj ⟨hv, ha, ho, ho2, hq.1, hq.2⟩)
 match j with
 | 0 => simp only [mkL, vwD, List.getElem?_cons_zero, Option.some.injEq] at hd hx; subst hd hx; exact r0
 | 1 => simp only [mkL, akD, List.getElem?_cons_succ, List.getElem?_cons_zero, Option.some.injEq] at hd hx; subst hd hx; exact r1
 | 2 => simp only [mkL, List.getElem?_cons_succ, List.getElem?_cons_zero, Option.some.injEq] at hd hx; subst hd hx; exact .int _ _
 | j + 3 => simp [mkL] at hd
end Go.Vd
