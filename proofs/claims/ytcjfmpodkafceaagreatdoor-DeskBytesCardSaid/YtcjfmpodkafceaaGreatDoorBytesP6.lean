/-
  A part of the proof: the program at hand. Nothing in it is assumed.
-/
import Derived.Test.YtcjfmpodkafceaaGreatDoorBytesP5
import Derived.Deep.Slices
import Derived.Deep.Fields
import Derived.ChangeSame
import Derived.ChangeArms
import Derived.Lib.SmallJoins
import Derived.Test.YtcjfmpodkafceaaGreatDoorProg
import Derived.Shelf.Strings.OnBuilder
import Derived.Shelf.Strings.Split

set_option linter.unusedSimpArgs false
set_option linter.unusedVariables false

namespace Go.Vd
open Go.RowKit
set_option maxRecDepth 10000
structure UI (m : Mem) (v : Tr) (k : Int) (nk nn : Bool) (ns : List D) (t : Td) (tc tb : Id) : Prop where
 z0 : m [0] 0 = some (.slice true [] [])
 z1 : m [0] 1 = some (.int .i64 0)
 z2 : m [0] 2 = some (.int .i64 0)
 z3 : m [0] 3 = some (.bool false)
 z4 : m [0] 4 = some (.slice true [] [])
 n0 : m [7] 0 = some (.int .u8 k)
 n1 : m [7] 1 = some (.int .u64 (numT v))
 n2 : m [7] 2 = some (.str (textT v))
 n3 : m [7] 3 = some (.slice nk [] ((kidsT v).map Tr.nod))
 n4 : m [7] 4 = some (.slice nn [] ns)
 t0 : m [23] 0 = some (.slice t.calls.isEmpty tc (t.calls.map dnD))
 t1 : m [23] 1 = some (.int .i64 t.ticks)
 t2 : m [23] 2 = some (.int .i64 t.left)
 t3 : m [23] 3 = some (.bool t.shut)
 t4 : m [23] 4 = some (.slice t.behind.isEmpty tb (t.behind.map .str))
section
variable {m m' : Mem} {v : Tr} {k : Int} {nk nn : Bool} {ns : List D} {t : Td} {tc tb t' : Id} {j f n e : Nat}
theorem UI.keep (h : UI m v k nk nn ns t tc tb) (h0 : ∀ o, m' [0] o = m [0] o) (h1 : ∀ o, m' [7] o = m [7] o) (h2 : ∀ o, m' [23] o = m [23] o) : UI m' v k nk nn ns t tc tb :=
 ⟨by rw [h0, h.z0], by rw [h0, h.z1], by rw [h0, h.z2], by rw [h0, h.z3], by rw [h0, h.z4], by rw [h1, h.n0], by rw [h1, h.n1], by rw [h1, h.n2], by rw [h1, h.n3], by rw [h1, h.n4], by rw [h2, h.t0], by rw [h2, h.t1], by rw [h2, h.t2], by rw [h2, h.t3], by rw [h2, h.t4]⟩
theorem UI.put (h : UI m v k nk nn ns t tc tb) {o : Nat} {ds : List D} (hj : 24 ≤ j) : UI (m.put [j] o ds) v k nk nn ns t tc tb :=
 h.keep (fun o => Mem.put_other (by simp; omega)) (fun o => Mem.put_other (by simp; omega)) (fun o => Mem.put_other (by simp; omega))
theorem UI.grow (h : UI m v k nk nn ns t tc tb) {nl : Bool} {xs : List D} (hg : Gk m n e nl t') (hf : 37 ≤ f) : UI (Upd.app m (growU e [f] (.slice nl t' xs))) v k nk nn ns t tc tb := by
 have key : ∀ i o, i < 37 → Upd.app m (growU e [f] (.slice nl t' xs)) [i] o = m [i] o := by
  intro i o hi
  rw [growU_rd, if_neg (by simp; omega), if_neg]
  rintro ⟨q1, q2, _⟩
  rcases hg with h' | ⟨i', rfl, a, _, _⟩
  ·rw [q1] at h'; cases h'
  ·simp at q2; omega
 exact h.keep (fun o => key 0 o (by omega)) (fun o => key 7 o (by omega)) (fun o => key 23 o (by omega))
theorem UI.setB (h : UI m v k nk nn ns t tc tb) {s : Bs} : UI (m.put [23] 4 [.slice false t' (t.behind.map .str ++ [.str s])]) v k nk nn ns { t with behind := t.behind ++ [s] } tc t' := by
 have nz : ([0] : Id) ≠ [23] := by simp
 have nn' : ([7] : Id) ≠ [23] := by simp
 exact ⟨by rw [Mem.put_other nz, h.z0], by rw [Mem.put_other nz, h.z1], by rw [Mem.put_other nz, h.z2], by rw [Mem.put_other nz, h.z3], by rw [Mem.put_other nz, h.z4], by rw [Mem.put_other nn', h.n0], by rw [Mem.put_other nn', h.n1], by rw [Mem.put_other nn', h.n2], by rw [Mem.put_other nn', h.n3], by rw [Mem.put_other nn', h.n4], by simp [put1_rd, h.t0], by simp [put1_rd, h.t1], by simp [put1_rd, h.t2], by simp [put1_rd, h.t3], by rw [isEmpty_snoc, List.map_append]; simp [put1_rd]⟩
theorem UI.setC (h : UI m v k nk nn ns t tc tb) {d : Dn} : UI (m.put [23] 0 [.slice false t' (t.calls.map dnD ++ [dnD d])]) v k nk nn ns { t with calls := t.calls ++ [d] } t' tb := by
 have nz : ([0] : Id) ≠ [23] := by simp
 have nn' : ([7] : Id) ≠ [23] := by simp
 exact ⟨by rw [Mem.put_other nz, h.z0], by rw [Mem.put_other nz, h.z1], by rw [Mem.put_other nz, h.z2], by rw [Mem.put_other nz, h.z3], by rw [Mem.put_other nz, h.z4], by rw [Mem.put_other nn', h.n0], by rw [Mem.put_other nn', h.n1], by rw [Mem.put_other nn', h.n2], by rw [Mem.put_other nn', h.n3], by rw [Mem.put_other nn', h.n4], by rw [isEmpty_snoc, List.map_append]; simp [put1_rd], by simp [put1_rd, h.t1], by simp [put1_rd, h.t2], by simp [put1_rd, h.t3], by simp [put1_rd, h.t4]⟩
end
set_option maxHeartbeats 8000000 in
theorem loop24a {S : Summs} (s62 : S 62 = some (funS F62)) {v : Tr} (hl : (kidsT (kidT v 0)).length ≤ 1000) {k : Int} {nk nn : Bool} {ns : List D} {t0 : Td} (ht0 : t0.behind = []) {tc : Id} {X : D} {Q : Ex → St → Prop}
  (hexit : ∀ st tb, st.s 2 = .ptr [0] 0 → st.s 4 = .ptr [7] 0 → st.s 6 = .ptr [23] 0 → st.s 0 = X → UI st.m v k nk nn ns { t0 with behind := (kidsT (kidT v 0)).map textT } tc tb → 26 ≤ st.c → Q (.exit 0) st) :
  ∀ (r i : Nat) (tb : Id) st g, i + r = (kidsT (kidT v 0)).length → st.s 7 = .int .i64 (i : Int) → st.s 2 = .ptr [0] 0 → st.s 4 = .ptr [7] 0 → st.s 6 = .ptr [23] 0 → st.s 0 = X → 26 ≤ st.c →
   UI st.m v k nk nn ns { t0 with behind := ((kidsT (kidT v 0)).take i).map textT } tc tb → Gk st.m st.c 9 (((kidsT (kidT v 0)).take i).map textT).isEmpty tb → loopW S [] dc24l0 Q st g := by
 obtain ⟨k0, nk0, nn0, ns0, hnod⟩ := nod_form (kidT v 0)
 have f62 : ∀ tk tn, F62 [.agg [.int .u8 k, .int .u64 (numT v), .str (textT v), .slice nk tk ((kidsT v).map Tr.nod), .slice nn tn ns], .int .i64 0] = some (.agg [.int .u8 k0, .int .u64 (numT (kidT v 0)), .str (textT (kidT v 0)), .slice nk0 [] ((kidsT (kidT v 0)).map Tr.nod), .slice nn0 [] ns0]) := fun tk tn => by
  have := F62_nod (v := v) (k := k) (nk := nk) (nn := nn) (tk := tk) (tn := tn) (ns := ns) (i := 0)
  rw [hnod] at this; exact this
 generalize kidT v 0 = w at f62 hl hexit ⊢
 intro r
 induction r with
 | zero =>
  intro i tb st g hir h7 h2 h4 h6 h0 hc I G
  refine wp_loopd dc24l0.eq_1 ?_
  have hlt : ((i : Int) < ((kidsT w).length : Int)) = False := eq_false (by omega)
  simp (disch := omega) only [↓go1, gB0, reduceIte, Nat.reduceEqDiff, Nat.reduceAdd, Nat.reduceSub, Nat.reduceLT, Nat.reduceLeDiff, put1_rd, put_rd, growU_rd, rd_zero, rd_succ, gB1, reduceCtorEq, res_cc, ldD_agg, List.map_cons, List.map_nil, fill_nil, Int.reduceEq, lit_ne, ne_lit, List.drop_succ_cons, List.head?_cons, h7, h2, h4, h6, I.z0, I.z1, I.z2, I.z3, I.z4, I.n0, I.n1, I.n2, I.n3, I.n4, I.t0, I.t1, I.t2, I.t3, I.t4, f62, hlt, callK_fun s62]
  rw [List.take_of_length_le (by omega)] at I
  exact hexit _ tb h2 h4 h6 h0 I (by simp only; omega)
 | succ r ih =>
  intro i tb st g hir h7 h2 h4 h6 h0 hc I G
  refine wp_loopd dc24l0.eq_1 ?_
  have hlt : ((i : Int) < ((kidsT w).length : Int)) = True := eq_true (by omega)
  have hi0 : ((0 : Int) ≤ (i : Int)) := by omega
  have hil : i < (kidsT w).length := by omega
  have hw : IntKind.i64.wrap ((i : Int) + 1) = ((i + 1 : Nat) : Int) := by rw [IntWalk.i64_in _ ⟨by omega, by omega⟩]; omega
  obtain ⟨k1, nk1, nn1, ns1, hnod1⟩ := nod_form (kidsT w)[i]
  have hx : ((kidsT w).map Tr.nod)[((i : Int)).toNat]? = some (.agg [.int .u8 k1, .int .u64 (numT (kidsT w)[i]), .str (textT (kidsT w)[i]), .slice nk1 [] ((kidsT (kidsT w)[i]).map Tr.nod), .slice nn1 [] ns1]) := by
   rw [Int.toNat_natCast, List.getElem?_map, List.getElem?_eq_getElem hil, ← hnod1]; rfl
  have htk : ((kidsT w).take (i + 1)).map textT = ((kidsT w).take i).map textT ++ [textT (kidsT w)[i]] := by rw [List.take_add_one, List.getElem?_eq_getElem hil, List.map_append]; rfl
  have hlen : (((kidsT w).take i).map textT).length ≤ 1000 := by simp; omega
  have hnil : (((kidsT w).take i).map textT).isEmpty = true → (((kidsT w).take i).map textT).map D.str = [] := fun h => by rw [List.isEmpty_iff.1 h]; rfl
  generalize ((kidsT w).take i).map textT = bs at I G htk hlen hnil
  simp (disch := omega) only [↓go1, gB0, reduceIte, Nat.reduceEqDiff, Nat.reduceAdd, Nat.reduceSub, Nat.reduceLT, Nat.reduceLeDiff, put1_rd, put_rd, growU_rd, rd_zero, rd_succ, gB1, reduceCtorEq, res_cc, ldD_agg, List.map_cons, List.map_nil, fill_nil, Int.reduceEq, lit_ne, ne_lit, List.drop_succ_cons, List.head?_cons, h7, h2, h4, h6, I.z0, I.z1, I.z2, I.z3, I.z4, I.n0, I.n1, I.n2, I.n3, I.n4, I.t0, I.t1, I.t2, I.t3, I.t4, f62, hlt, hi0, hx, hw, callK_fun s62]
  have G1 : Gk (st.m.put [st.c + 6 + 9] 0 [.tok 10]) st.c 9 bs.isEmpty tb := G.put (by omega)
  refine Need.intro ⟨by omega, rfl, G1.toGrow⟩ ?_
  rw [app_fold hnil]
  simp (disch := omega) only [↓go1, gB0, reduceIte, Nat.reduceEqDiff, Nat.reduceAdd, Nat.reduceSub, Nat.reduceLT, Nat.reduceLeDiff, put1_rd, put_rd, growU_rd, rd_zero, rd_succ, gB1, reduceCtorEq, res_cc, ldD_agg, List.map_cons, List.map_nil, fill_nil, Int.reduceEq, lit_ne, ne_lit, List.drop_succ_cons, List.head?_cons, h7, h2, h4, h6, I.z0, I.z1, I.z2, I.z3, I.z4, I.n0, I.n1, I.n2, I.n3, I.n4, I.t0, I.t1, I.t2, I.t3, I.t4, f62, hlt, hi0, hx, hw, callK_fun s62]
  refine Need.intro (fun p hp w hw' => ?_) ?_
  ·simp only [List.mem_cons, List.mem_nil_iff, or_false] at hp
   rcases hp with rfl | rfl
   all_goals simp only [List.getD_cons_succ, List.getD_cons_zero, wlocs, rds] at hw' ⊢
   ·cases hw'
   ·simp (disch := omega) only [↓go1, gB0, reduceIte, Nat.reduceEqDiff, Nat.reduceAdd, Nat.reduceSub, Nat.reduceLT, Nat.reduceLeDiff, put1_rd, put_rd, growU_rd, rd_zero, rd_succ, gB1, reduceCtorEq, res_cc, ldD_agg, List.map_cons, List.map_nil, fill_nil, Int.reduceEq, lit_ne, ne_lit, List.drop_succ_cons, List.head?_cons, h7, h2, h4, h6, I.z0, I.z1, I.z2, I.z3, I.z4, I.n0, I.n1, I.n2, I.n3, I.n4, I.t0, I.t1, I.t2, I.t3, I.t4, f62, hlt, hi0, hx, hw, callK_fun s62] at hw' ⊢
    exact feet_one (by first | (simp; done) | (simp; omega)) hw'
  ·simp (disch := omega) only [↓go1, gB0, reduceIte, Nat.reduceEqDiff, Nat.reduceAdd, Nat.reduceSub, Nat.reduceLT, Nat.reduceLeDiff, put1_rd, put_rd, growU_rd, rd_zero, rd_succ, gB1, reduceCtorEq, res_cc, ldD_agg, List.map_cons, List.map_nil, fill_nil, Int.reduceEq, lit_ne, ne_lit, List.drop_succ_cons, List.head?_cons, h7, h2, h4, h6, I.z0, I.z1, I.z2, I.z3, I.z4, I.n0, I.n1, I.n2, I.n3, I.n4, I.t0, I.t1, I.t2, I.t3, I.t4, f62, hlt, hi0, hx, hw, callK_fun s62]
   refine ih (i + 1) [st.c + 6 + 10] _ _ (by omega) rfl h2 h4 h6 h0 (by simp only; omega) ?_ ?_
   ·rw [htk]
    exact UI.setB (UI.grow (UI.put I (by omega)) G1 (by omega))
   ·rw [htk, isEmpty_snoc]
    exact Gk.low (Gk.new (by omega) (by simp only; omega)) (by omega)
def callX (x : Tr) : Dn := ⟨backN (numT (kidT x 1)), textT (kidT x 5), textT (kidT x 6), backN (numT (kidT x 2)), backN (numT (kidT x 0)), backN (numT (kidT x 3)), decide (numT (kidT x 4) = 1)⟩
set_option maxHeartbeats 16000000 in
theorem loop24b {S : Summs} (s62 : S 62 = some (funS F62)) (s61 : S 61 = some (funS F61)) {v : Tr} (hl : (kidsT (kidT v 1)).length ≤ 1000) {k : Int} {nk nn : Bool} {ns : List D} {t0 : Td} (ht0 : t0.calls = []) {tb : Id} {X : D} {Q : Ex → St → Prop}
  (hexit : ∀ st tc, st.s 2 = .ptr [0] 0 → st.s 4 = .ptr [7] 0 → st.s 6 = .ptr [23] 0 → st.s 0 = X → UI st.m v k nk nn ns { t0 with calls := (kidsT (kidT v 1)).map callX } tc tb → 26 ≤ st.c → Q (.exit 2) st) :
  ∀ (r i : Nat) (tc : Id) st g, i + r = (kidsT (kidT v 1)).length → st.s 8 = .int .i64 (i : Int) → st.s 2 = .ptr [0] 0 → st.s 4 = .ptr [7] 0 → st.s 6 = .ptr [23] 0 → st.s 0 = X → 26 ≤ st.c →
   UI st.m v k nk nn ns { t0 with calls := ((kidsT (kidT v 1)).take i).map callX } tc tb → Gk st.m st.c 62 (((kidsT (kidT v 1)).take i).map callX).isEmpty tc → loopW S [] dc24l1 Q st g := by
 obtain ⟨k0, nk0, nn0, ns0, hnod⟩ := nod_form (kidT v 1)
 have f62 : ∀ tk tn, F62 [.agg [.int .u8 k, .int .u64 (numT v), .str (textT v), .slice nk tk ((kidsT v).map Tr.nod), .slice nn tn ns], .int .i64 1] = some (.agg [.int .u8 k0, .int .u64 (numT (kidT v 1)), .str (textT (kidT v 1)), .slice nk0 [] ((kidsT (kidT v 1)).map Tr.nod), .slice nn0 [] ns0]) := fun tk tn => by
  have := F62_nod (v := v) (k := k) (nk := nk) (nn := nn) (tk := tk) (tn := tn) (ns := ns) (i := 1)
  rw [hnod] at this; exact this
 generalize kidT v 1 = w at f62 hl hexit ⊢
 intro r
 induction r with
 | zero =>
  intro i tc st g hir h8 h2 h4 h6 h0 hc I G
  refine wp_loopd dc24l1.eq_1 ?_
  have hlt : ((i : Int) < ((kidsT w).length : Int)) = False := eq_false (by omega)
  simp (disch := omega) only [↓go1, gB0, reduceIte, Nat.reduceEqDiff, Nat.reduceAdd, Nat.reduceSub, Nat.reduceLT, Nat.reduceLeDiff, put1_rd, put_rd, growU_rd, rd_zero, rd_succ, gB1, reduceCtorEq, res_cc, ldD_agg, List.map_cons, List.map_nil, fill_nil, Int.reduceEq, lit_ne, ne_lit, List.drop_succ_cons, List.head?_cons, h8, h2, h4, h6, I.z0, I.z1, I.z2, I.z3, I.z4, I.n0, I.n1, I.n2, I.n3, I.n4, I.t0, I.t1, I.t2, I.t3, I.t4, f62, hlt, callK_fun s62]
  rw [List.take_of_length_le (by omega)] at I
  exact hexit _ tc h2 h4 h6 h0 I (by simp only; omega)
 | succ r ih =>
  intro i tc st g hir h8 h2 h4 h6 h0 hc I G
  refine wp_loopd dc24l1.eq_1 ?_
  have hlt : ((i : Int) < ((kidsT w).length : Int)) = True := eq_true (by omega)
  have hi0 : ((0 : Int) ≤ (i : Int)) := by omega
  have hil : i < (kidsT w).length := by omega
  have hw : IntKind.i64.wrap ((i : Int) + 1) = ((i + 1 : Nat) : Int) := by rw [IntWalk.i64_in _ ⟨by omega, by omega⟩]; omega
  obtain ⟨k1, nk1, nn1, ns1, hnod1⟩ := nod_form (kidsT w)[i]
  have hx : ((kidsT w).map Tr.nod)[((i : Int)).toNat]? = some (.agg [.int .u8 k1, .int .u64 (numT (kidsT w)[i]), .str (textT (kidsT w)[i]), .slice nk1 [] ((kidsT (kidsT w)[i]).map Tr.nod), .slice nn1 [] ns1]) := by
   rw [Int.toNat_natCast, List.getElem?_map, List.getElem?_eq_getElem hil, ← hnod1]; rfl
  have htk : ((kidsT w).take (i + 1)).map callX = ((kidsT w).take i).map callX ++ [callX (kidsT w)[i]] := by rw [List.take_add_one, List.getElem?_eq_getElem hil, List.map_append]; rfl
  have hlen : (((kidsT w).take i).map callX).length ≤ 1000 := by simp; omega
  have hnil : (((kidsT w).take i).map callX).isEmpty = true → (((kidsT w).take i).map callX).map dnD = [] := fun h => by rw [List.isEmpty_iff.1 h]; rfl
  generalize ((kidsT w).take i).map callX = bs at I G htk hlen hnil
  generalize (kidsT w)[i] = x at hx htk
  have g62 : ∀ (j : Nat) tk tn, ∃ a b c d, F62 [.agg [.int .u8 k1, .int .u64 (numT x), .str (textT x), .slice nk1 tk ((kidsT x).map Tr.nod), .slice nn1 tn ns1], .int .i64 (j : Int)] = some (.agg [.int .u8 a, .int .u64 (numT (kidT x j)), .str (textT (kidT x j)), .slice b [] ((kidsT (kidT x j)).map Tr.nod), .slice c [] d]) := fun j tk tn => by
   obtain ⟨a, b, c, d, e⟩ := nod_form (kidT x j)
   exact ⟨a, b, c, d, by rw [← e]; exact F62_nod⟩
  obtain ⟨x01, x02, x03, x04, q0⟩ := g62 0 [] []
  obtain ⟨x11, x12, x13, x14, q1⟩ := g62 1 [] []
  obtain ⟨x21, x22, x23, x24, q2⟩ := g62 2 [] []
  obtain ⟨x31, x32, x33, x34, q3⟩ := g62 3 [] []
  obtain ⟨x41, x42, x43, x44, q4⟩ := g62 4 [] []
  obtain ⟨x51, x52, x53, x54, q5⟩ := g62 5 [] []
  obtain ⟨x61, x62, x63, x64, q6⟩ := g62 6 [] []
  have c0 : ((0 : Nat) : Int) = 0 := rfl
  have c1 : ((1 : Nat) : Int) = 1 := rfl
  have c2 : ((2 : Nat) : Int) = 2 := rfl
  have c3 : ((3 : Nat) : Int) = 3 := rfl
  have c4 : ((4 : Nat) : Int) = 4 := rfl
  have c5 : ((5 : Nat) : Int) = 5 := rfl
  have c6 : ((6 : Nat) : Int) = 6 := rfl
  rw [c0] at q0
  rw [c1] at q1
  rw [c2] at q2
  rw [c3] at q3
  rw [c4] at q4
  rw [c5] at q5
  rw [c6] at q6
  have f61 : ∀ a n s b t c d t' e, F61 [.agg [.int .u8 a, .int .u64 n, .str s, .slice b t c, .slice d t' e]] = some (.int .i64 (backN n)) := fun a n s b t c d t' e => rfl
  have hfill : ∀ (p q r u : Int) (s s' : Bs) (o : Bool), fillD [.int .i64 0, .str [], .str [], .int .i64 0, .int .i64 0, .int .i64 0, .bool false] [(4, 1, .int .i64 p), (0, 1, .int .i64 q), (3, 1, .int .i64 r), (5, 1, .int .i64 u), (6, 1, .bool o), (1, 1, .str s), (2, 1, .str s')] = some [.int .i64 q, .str s, .str s', .int .i64 r, .int .i64 p, .int .i64 u, .bool o] := fun p q r u s s' o => rfl
  have hd : dnD (callX x) = .agg [.int .i64 (backN (numT (kidT x 1))), .str (textT (kidT x 5)), .str (textT (kidT x 6)), .int .i64 (backN (numT (kidT x 2))), .int .i64 (backN (numT (kidT x 0))), .int .i64 (backN (numT (kidT x 3))), .bool (decide (numT (kidT x 4) = 1))] := rfl
  simp (disch := omega) only [↓go1, gB0, reduceIte, Nat.reduceEqDiff, Nat.reduceAdd, Nat.reduceSub, Nat.reduceLT, Nat.reduceLeDiff, put1_rd, put_rd, growU_rd, rd_zero, rd_succ, gB1, reduceCtorEq, res_cc, ldD_agg, List.map_cons, List.map_nil, fill_nil, Int.reduceEq, lit_ne, ne_lit, List.drop_succ_cons, List.head?_cons, h8, h2, h4, h6, I.z0, I.z1, I.z2, I.z3, I.z4, I.n0, I.n1, I.n2, I.n3, I.n4, I.t0, I.t1, I.t2, I.t3, I.t4, f62, hlt, hi0, hx, hw, q0, q1, q2, q3, q4, q5, q6, f61, hfill, callK_fun s62, callK_fun s61]
  have G1 : Gk (((st.m.put [st.c + 6 + 6] 0 [.int .u8 0, .int .u64 0, .str [], .slice true [] [], .slice true [] []]).put [st.c + 6 + 6] 0 [.int .u8 k1, .int .u64 (numT x), .str (textT x), .slice nk1 [] ((kidsT x).map Tr.nod), .slice nn1 [] ns1]).put [st.c + 6 + 8 + 25] 0 [.tok 63]) st.c 62 bs.isEmpty tc :=
   Gk.put (Gk.put (Gk.put G (by omega)) (by omega)) (by omega)
  refine Need.intro ⟨by omega, rfl, G1.toGrow⟩ ?_
  rw [app_fold hnil]
  have qn := G.nlow (j := 23) (by omega)
  simp (disch := omega) only [↓go1, gB0, reduceIte, Nat.reduceEqDiff, Nat.reduceAdd, Nat.reduceSub, Nat.reduceLT, Nat.reduceLeDiff, put1_rd, put_rd, growU_rd, rd_zero, rd_succ, gB1, reduceCtorEq, res_cc, ldD_agg, List.map_cons, List.map_nil, fill_nil, Int.reduceEq, lit_ne, ne_lit, List.drop_succ_cons, List.head?_cons, qn, h8, h2, h4, h6, I.z0, I.z1, I.z2, I.z3, I.z4, I.n0, I.n1, I.n2, I.n3, I.n4, I.t0, I.t1, I.t2, I.t3, I.t4, f62, hlt, hi0, hx, hw, q0, q1, q2, q3, q4, q5, q6, f61, hfill, callK_fun s62, callK_fun s61]
  refine Need.intro (fun p hp w hw' => ?_) ?_
  ·simp only [List.mem_cons, List.mem_nil_iff, or_false] at hp
   repeat' (rcases hp with rfl | hp)
   all_goals (try subst hp)
   all_goals simp only [List.getD_cons_succ, List.getD_cons_zero, wlocs, rds] at hw' ⊢
   all_goals first
    | (cases hw'; done)
    | skip
   all_goals
    simp (disch := omega) only [↓go1, gB0, reduceIte, Nat.reduceEqDiff, Nat.reduceAdd, Nat.reduceSub, Nat.reduceLT, Nat.reduceLeDiff, put1_rd, put_rd, growU_rd, rd_zero, rd_succ, gB1, reduceCtorEq, res_cc, ldD_agg, List.map_cons, List.map_nil, fill_nil, Int.reduceEq, lit_ne, ne_lit, List.drop_succ_cons, List.head?_cons, qn, h8, h2, h4, h6, I.z0, I.z1, I.z2, I.z3, I.z4, I.n0, I.n1, I.n2, I.n3, I.n4, I.t0, I.t1, I.t2, I.t3, I.t4, f62, hlt, hi0, hx, hw, q0, q1, q2, q3, q4, q5, q6, f61, hfill, callK_fun s62, callK_fun s61] at hw' ⊢
    exact feet_one (by first | (simp; done) | (simp; omega)) hw'
  ·simp (disch := omega) only [↓go1, gB0, reduceIte, Nat.reduceEqDiff, Nat.reduceAdd, Nat.reduceSub, Nat.reduceLT, Nat.reduceLeDiff, put1_rd, put_rd, growU_rd, rd_zero, rd_succ, gB1, reduceCtorEq, res_cc, ldD_agg, List.map_cons, List.map_nil, fill_nil, Int.reduceEq, lit_ne, ne_lit, List.drop_succ_cons, List.head?_cons, qn, h8, h2, h4, h6, I.z0, I.z1, I.z2, I.z3, I.z4, I.n0, I.n1, I.n2, I.n3, I.n4, I.t0, I.t1, I.t2, I.t3, I.t4, f62, hlt, hi0, hx, hw, q0, q1, q2, q3, q4, q5, q6, f61, hfill, callK_fun s62, callK_fun s61]
   refine ih (i + 1) [st.c + 6 + 8 + 26] _ _ (by omega) rfl h2 h4 h6 h0 (by simp only; omega) ?_ ?_
   ·rw [htk]
    exact UI.setC (d := callX x) (UI.grow (UI.put (UI.put (UI.put I (by omega)) (by omega)) (by omega)) G1 (by omega))
   ·rw [htk, isEmpty_snoc]
    exact Gk.low (Gk.new (by omega) (by simp only; omega)) (by omega)
def readT (v : Tr) : Td := ⟨(kidsT (kidT v 1)).map callX, backN (numT (kidT v 4)), backN (numT (kidT v 2)), decide (numT (kidT v 3) = 1), (kidsT (kidT v 0)).map textT⟩
def unbytesR (s : Bs) : Option Td :=
 if endS (oneV 4 ⟨s, 0, 0⟩).2 ≠ 0 then none
 else if checkB (readT (oneV 4 ⟨s, 0, 0⟩).1) = 0 ∧ bytesB (readT (oneV 4 ⟨s, 0, 0⟩).1) = s then some (readT (oneV 4 ⟨s, 0, 0⟩).1) else none
mutual
def Tr.small : Tr → Bool
 | .list l => decide (l.length ≤ 255) && Tr.smallL l
 | .pairs l => decide (l.length ≤ 255) && Tr.smallP l
 | _ => true
def Tr.smallL : List Tr → Bool
 | [] => true
 | v :: r => Tr.small v && Tr.smallL r
def Tr.smallP : List (Bs × Tr) → Bool
 | [] => true
 | (_, v) :: r => Tr.small v && Tr.smallP r
end
theorem smallL_all : ∀ {l : List Tr}, Tr.smallL l = true ↔ ∀ v ∈ l, v.small = true
 | [] => by simp [Tr.smallL]
 | v :: r => by simp only [Tr.smallL, Bool.and_eq_true, smallL_all, List.mem_cons, forall_eq_or_imp]
theorem smallP_all : ∀ {l : List (Bs × Tr)}, Tr.smallP l = true ↔ ∀ v ∈ l.map (·.2), v.small = true
 | [] => by simp [Tr.smallP]
 | (k, v) :: r => by simp only [Tr.smallP, Bool.and_eq_true, smallP_all, List.map_cons, List.mem_cons, forall_eq_or_imp]
theorem small_kids {v : Tr} (h : v.small = true) : (kidsT v).length ≤ 255 ∧ ∀ w ∈ kidsT v, w.small = true := by
 cases v with
 | list l =>
  simp only [Tr.small, Bool.and_eq_true, decide_eq_true_eq, smallL_all] at h
  exact h
 | pairs l =>
  simp only [Tr.small, Bool.and_eq_true, decide_eq_true_eq, smallP_all] at h
  exact ⟨by simp only [kidsT, List.length_map]; exact h.1, h.2⟩
 | _ => simp [kidsT]
theorem small_kid {v : Tr} (h : v.small = true) (i : Nat) : (kidT v i).small = true := by
 unfold kidT
 cases e : (kidsT v)[i]? with
 | none => rfl
 | some w => exact (small_kids h).2 w (List.mem_of_getElem? e)
theorem kidsA_small {f : Sc → Tr × Sc} (hf : ∀ c, (f c).1.small = true) : ∀ (k : Nat) (acc : List Tr) (c : Sc), acc.length + k ≤ 255 → (∀ v ∈ acc, v.small = true) → (kidsA f k acc c).1.small = true
 | 0, acc, c, h, ha => by simp only [kidsA, Tr.small, Bool.and_eq_true, decide_eq_true_eq, smallL_all]; exact ⟨by omega, ha⟩
 | k + 1, acc, c, h, ha => by
  unfold kidsA
  split
  ·simp only [Tr.small, Bool.and_eq_true, decide_eq_true_eq, smallL_all]; exact ⟨by omega, ha⟩
  ·refine kidsA_small hf k _ _ (by simp; omega) (fun v hv => ?_)
   rcases List.mem_append.1 hv with hv | hv
   ·exact ha v hv
   ·simp only [List.mem_singleton] at hv; rw [hv]; exact hf c
theorem kidsB_small {f : Sc → Tr × Sc} (hf : ∀ c, (f c).1.small = true) : ∀ (k : Nat) (acc : List (Bs × Tr)) (c : Sc), acc.length + k ≤ 255 → (∀ v ∈ acc.map (·.2), v.small = true) → (kidsB f k acc c).1.small = true
 | 0, acc, c, h, ha => by simp only [kidsB, Tr.small, Bool.and_eq_true, decide_eq_true_eq, smallP_all]; exact ⟨by omega, ha⟩
 | k + 1, acc, c, h, ha => by
  unfold kidsB
  split
  ·simp only [Tr.small, Bool.and_eq_true, decide_eq_true_eq, smallP_all]; exact ⟨by omega, ha⟩
  ·simp only
   generalize (if (rowS c).2.bad = 0 ∧ lastB acc (rowS c).1 = true then { (rowS c).2 with bad := 4 } else (rowS c).2) = c2
   split
   ·rfl
   ·refine kidsB_small hf k _ _ (by simp; omega) (fun v hv => ?_)
    rw [List.map_append] at hv
    rcases List.mem_append.1 hv with hv | hv
    ·exact ha v hv
    ·simp only [List.map_cons, List.map_nil, List.mem_singleton] at hv; rw [hv]; exact hf c2
theorem numS_lt {k : Nat} {c : Sc} : (numS k c).1 < 256 ^ k := by
 unfold numS
 split
 ·exact Nat.pos_of_ne_zero (by simp)
 ·split
  ·exact Nat.pos_of_ne_zero (by simp)
  ·refine Nat.lt_of_lt_of_le (beN_lt _) (pow_le ?_)
   simp; omega
theorem oneS_small {n : Nat} {f : Sc → Tr × Sc} (hf : ∀ c, (f c).1.small = true) (c : Sc) : (oneS n f c).1.small = true := by
 simp only [oneS]
 generalize numS 1 c = p
 have hq : (numS 1 p.2).1 < 256 := by simpa using numS_lt (k := 1) (c := p.2)
 generalize (if (numS 1 p.2).2.bad = 0 ∧ 64 < (numS 1 p.2).1 then { (numS 1 p.2).2 with bad := 5 } else (numS 1 p.2).2) = c2
 split
 ·rfl
 ·split
  ·rfl
  ·split
   ·rfl
   ·split
    ·rfl
    ·split
     ·rfl
     ·split
      ·rfl
      ·split
       ·rfl
       ·split
        ·exact kidsA_small hf _ _ _ (by simp; omega) (by simp)
        ·exact kidsB_small hf _ _ _ (by simp; omega) (by simp)
theorem oneV_small : ∀ (n : Nat) (c : Sc), (oneV n c).1.small = true
 | 0, c => oneS_small (fun _ => rfl) c
 | n + 1, c => oneS_small (oneV_small n) c
theorem oneV_len (n : Nat) (c : Sc) (i : Nat) : (kidsT (kidT (oneV n c).1 i)).length ≤ 1000 := by
 have := (small_kids (small_kid (oneV_small n c) i)).1
 omega
def F24 : List D → Option D
 | [.str s] => if s.length ≤ 1000000 then some (parsed (unbytesR s)) else none
 | _ => none
set_option maxHeartbeats 16000000 in
theorem ok24 {P : Program} (hb : DeskB P) (h22 : (funS Fbytes).ok P 22) : (funS F24).ok P 24 := by
 have hS : Summs.ok P (tabL [(60, funS F60), (61, funS F61), (62, funS F62), (22, funS Fbytes)]) := tabL_cons (ok60 hb) (tabL_cons (ok61 hb) (tabL_cons (ok62 hb) (tabL_cons h22 tabL_nil)))
 have s60 : tabL [(60, funS F60), (61, funS F61), (62, funS F62), (22, funS Fbytes)] 60 = some (funS F60) := rfl
 have s61 : tabL [(60, funS F60), (61, funS F61), (62, funS F62), (22, funS Fbytes)] 61 = some (funS F61) := rfl
 have s62 : tabL [(60, funS F60), (61, funS F61), (62, funS F62), (22, funS Fbytes)] 62 = some (funS F62) := rfl
 have s22 : tabL [(60, funS F60), (61, funS F61), (62, funS F62), (22, funS Fbytes)] 22 = some (funS Fbytes) := rfl
 generalize tabL [(60, funS F60), (61, funS F61), (62, funS F62), (22, funS Fbytes)] = S at hS s60 s61 s62 s22
 refine fun_ok (S := S) hS hb.f24 (fun ds r h => ?_) (fun ds r h => ?_)
 ·unfold F24 at h; split at h
  ·simp
  ·cases h
 ·unfold F24 at h; split at h
  ·rename_i s
   split at h
   ·rename_i hs
    simp only [Option.some.injEq] at h
    subst h
    have hlen := oneV_len 4 ⟨s, 0, 0⟩
    have f60 : F60 [.str s] = some (if endS (oneV 4 ⟨s, 0, 0⟩).2 = 0 then .tup [(oneV 4 ⟨s, 0, 0⟩).1.nod, .int .i64 0] else .tup [Tr.nil.nod, .int .i64 (endS (oneV 4 ⟨s, 0, 0⟩).2)]) := if_pos hs
    unfold unbytesR
    generalize oneV 4 ⟨s, 0, 0⟩ = q at f60 hlen ⊢
    obtain ⟨v, c⟩ := q
    simp only at f60 hlen ⊢
    unfold dc24
    by_cases he : endS c = 0
    ·have he' : (endS c = 0) = True := eq_true he
     rw [if_pos he] at f60
     rw [if_neg (by simp [he])]
     obtain ⟨k, nk, nn, ns, hnod⟩ := nod_form v
     rw [hnod] at f60
     have g62 : ∀ (j : Nat) tk tn, ∃ a b c d, F62 [.agg [.int .u8 k, .int .u64 (numT v), .str (textT v), .slice nk tk ((kidsT v).map Tr.nod), .slice nn tn ns], .int .i64 (j : Int)] = some (.agg [.int .u8 a, .int .u64 (numT (kidT v j)), .str (textT (kidT v j)), .slice b [] ((kidsT (kidT v j)).map Tr.nod), .slice c [] d]) := fun j tk tn => by
      obtain ⟨a, b, c, d, e⟩ := nod_form (kidT v j)
      exact ⟨a, b, c, d, by rw [← e]; exact F62_nod⟩
     obtain ⟨x21, x22, x23, x24, q2⟩ := g62 2 [] []
     obtain ⟨x31, x32, x33, x34, q3⟩ := g62 3 [] []
     obtain ⟨x41, x42, x43, x44, q4⟩ := g62 4 [] []
     have c2 : ((2 : Nat) : Int) = 2 := rfl
     have c3 : ((3 : Nat) : Int) = 3 := rfl
     have c4 : ((4 : Nat) : Int) = 4 := rfl
     rw [c2] at q2
     rw [c3] at q3
     rw [c4] at q4
     have f61 : ∀ a n s b t c d t' e, F61 [.agg [.int .u8 a, .int .u64 n, .str s, .slice b t c, .slice d t' e]] = some (.int .i64 (backN n)) := fun a n s b t c d t' e => rfl
     have hfill : ∀ (p q : Int) (o : Bool), fillD [.slice true [] [], .int .i64 0, .int .i64 0, .bool false, .slice true [] []] [(2, 1, .int .i64 p), (3, 1, .bool o), (1, 1, .int .i64 q)] = some [.slice true [] [], .int .i64 q, .int .i64 p, .bool o, .slice true [] []] := fun p q o => rfl
     simp (disch := omega) only [↓go1, gB0, reduceIte, Nat.reduceEqDiff, Nat.reduceAdd, Nat.reduceSub, Nat.reduceLT, Nat.reduceLeDiff, put1_rd, put_rd, growU_rd, rd_zero, rd_succ, gB1, reduceCtorEq, res_cc, ldD_agg, List.map_cons, List.map_nil, fill_nil, Int.reduceEq, lit_ne, ne_lit, List.drop_succ_cons, List.head?_cons, f60, q2, q3, q4, f61, hfill, callK_fun s60, callK_fun s61, callK_fun s62]
     refine Need.intro (fun p hp w hw' => ?_) ?_
     ·simp only [List.mem_cons, List.mem_nil_iff, or_false] at hp
      repeat' (rcases hp with rfl | hp)
      all_goals (try subst hp)
      all_goals simp only [List.getD_cons_succ, List.getD_cons_zero, wlocs, rds] at hw' ⊢
      all_goals first
       | (cases hw'; done)
       | skip
      all_goals
       simp (disch := omega) only [↓go1, gB0, reduceIte, Nat.reduceEqDiff, Nat.reduceAdd, Nat.reduceSub, Nat.reduceLT, Nat.reduceLeDiff, put1_rd, put_rd, growU_rd, rd_zero, rd_succ, gB1, reduceCtorEq, res_cc, ldD_agg, List.map_cons, List.map_nil, fill_nil, Int.reduceEq, lit_ne, ne_lit, List.drop_succ_cons, List.head?_cons, s61, s62, funS, List.not_mem_nil] at hw' ⊢
      all_goals first
       | done
       | exact (feet_one (by first | (simp; done) | (simp; omega)) hw').1
     ·simp (disch := omega) only [↓go1, gB0, reduceIte, Nat.reduceEqDiff, Nat.reduceAdd, Nat.reduceSub, Nat.reduceLT, Nat.reduceLeDiff, put1_rd, put_rd, growU_rd, rd_zero, rd_succ, gB1, reduceCtorEq, res_cc, ldD_agg, List.map_cons, List.map_nil, fill_nil, Int.reduceEq, lit_ne, ne_lit, List.drop_succ_cons, List.head?_cons, f60, q2, q3, q4, f61, hfill, callK_fun s60, callK_fun s61, callK_fun s62]
      refine loop24a s62 (v := v) (hlen 0) (k := k) (nk := nk) (nn := nn) (ns := ns) (t0 := ⟨[], backN (numT (kidT v 4)), backN (numT (kidT v 2)), decide (numT (kidT v 3) = 1), []⟩) rfl (tc := []) (X := .str s) (fun st tb h2 h4 h6 h0 I hc => ?_) _ 0 [] _ _ (Nat.zero_add _) rfl rfl rfl rfl rfl (by simp only; omega) ?_ (.inl rfl)
      ·simp (disch := omega) only [↓go1, gB0, reduceIte, Nat.reduceEqDiff, Nat.reduceAdd, Nat.reduceSub, Nat.reduceLT, Nat.reduceLeDiff, put1_rd, put_rd, growU_rd, rd_zero, rd_succ, gB1, reduceCtorEq, res_cc, ldD_agg, List.map_cons, List.map_nil, fill_nil, Int.reduceEq, lit_ne, ne_lit, List.drop_succ_cons, List.head?_cons, h2, h4, h6, h0]
       refine loop24b s62 s61 (v := v) (hlen 1) (k := k) (nk := nk) (nn := nn) (ns := ns) (t0 := ⟨[], backN (numT (kidT v 4)), backN (numT (kidT v 2)), decide (numT (kidT v 3) = 1), (kidsT (kidT v 0)).map textT⟩) rfl (tb := tb) (X := .str s) (fun st tc h2 h4 h6 h0 I hc => ?_) _ 0 [] _ _ (Nat.zero_add _) rfl h2 h4 h6 h0 (by simp only; omega) I (.inl rfl)
       have hT : ({ (⟨[], backN (numT (kidT v 4)), backN (numT (kidT v 2)), decide (numT (kidT v 3) = 1), (kidsT (kidT v 0)).map textT⟩ : Td) with calls := (kidsT (kidT v 1)).map callX } : Td) = readT v := rfl
       rw [hT] at I
       generalize readT v = T at I ⊢
       have fb : ∀ a x b y, Fbytes [.agg [.slice a x (T.calls.map dnD), .int .i64 T.ticks, .int .i64 T.left, .bool T.shut, .slice b y (T.behind.map .str)]] = some (if checkB T = 0 then .tup [.str (bytesB T), .int .i64 0] else .tup [.str [], .int .i64 (checkB T)]) := fun a x b y => by
        simp only [Fbytes, tdOf, dnsOf_map, strsOf_map]
       by_cases hk : checkB T = 0
       ·have fb' := fb
        simp only [hk, if_true] at fb'
        by_cases hse : bytesB T = s
        ·have hse' : (bytesB T = s) = True := eq_true hse
         rw [if_pos ⟨hk, hse⟩]
         simp (disch := omega) only [↓go1, gB0, reduceIte, Nat.reduceEqDiff, Nat.reduceAdd, Nat.reduceSub, Nat.reduceLT, Nat.reduceLeDiff, put1_rd, put_rd, growU_rd, rd_zero, rd_succ, gB1, reduceCtorEq, res_cc, ldD_agg, List.map_cons, List.map_nil, fill_nil, Int.reduceEq, lit_ne, ne_lit, List.drop_succ_cons, List.head?_cons, res_ct, h2, h4, h6, h0, I.z0, I.z1, I.z2, I.z3, I.z4, I.n0, I.n1, I.n2, I.n3, I.n4, I.t0, I.t1, I.t2, I.t3, I.t4, fb', hse', callK_fun s22]
         exact ⟨rfl, rfl⟩
        ·have hse' : (bytesB T = s) = False := eq_false hse
         rw [if_neg (fun h => hse h.2)]
         simp (disch := omega) only [↓go1, gB0, reduceIte, Nat.reduceEqDiff, Nat.reduceAdd, Nat.reduceSub, Nat.reduceLT, Nat.reduceLeDiff, put1_rd, put_rd, growU_rd, rd_zero, rd_succ, gB1, reduceCtorEq, res_cc, ldD_agg, List.map_cons, List.map_nil, fill_nil, Int.reduceEq, lit_ne, ne_lit, List.drop_succ_cons, List.head?_cons, res_ct, h2, h4, h6, h0, I.z0, I.z1, I.z2, I.z3, I.z4, I.n0, I.n1, I.n2, I.n3, I.n4, I.t0, I.t1, I.t2, I.t3, I.t4, fb', hse', callK_fun s22]
         exact ⟨rfl, rfl⟩
       ·have hk' : (checkB T = 0) = False := eq_false hk
        rw [if_neg (fun h => hk h.1)]
        simp (disch := omega) only [↓go1, gB0, reduceIte, Nat.reduceEqDiff, Nat.reduceAdd, Nat.reduceSub, Nat.reduceLT, Nat.reduceLeDiff, put1_rd, put_rd, growU_rd, rd_zero, rd_succ, gB1, reduceCtorEq, res_cc, ldD_agg, List.map_cons, List.map_nil, fill_nil, Int.reduceEq, lit_ne, ne_lit, List.drop_succ_cons, List.head?_cons, res_ct, h2, h4, h6, h0, I.z0, I.z1, I.z2, I.z3, I.z4, I.n0, I.n1, I.n2, I.n3, I.n4, I.t0, I.t1, I.t2, I.t3, I.t4, fb, hk', callK_fun s22]
        exact ⟨rfl, rfl⟩
      ·exact ⟨rfl, rfl, rfl, rfl, rfl, rfl, rfl, rfl, rfl, rfl, rfl, rfl, rfl, rfl, rfl⟩
    ·have he' : (endS c = 0) = False := eq_false he
     rw [if_neg he] at f60
     rw [if_pos (by simp [he])]
     simp (disch := omega) only [↓go1, gB0, reduceIte, Nat.reduceEqDiff, Nat.reduceAdd, Nat.reduceSub, Nat.reduceLT, Nat.reduceLeDiff, put1_rd, put_rd, growU_rd, rd_zero, rd_succ, gB1, reduceCtorEq, res_cc, ldD_agg, List.map_cons, List.map_nil, fill_nil, Int.reduceEq, lit_ne, ne_lit, List.drop_succ_cons, List.head?_cons, f60, he', res_ct, Tr.nod, nodD, callK_fun s60]
     exact ⟨rfl, rfl⟩
   ·cases h
  ·cases h
end Go.Vd

namespace Go.Vd
open Go.RowKit
mutual
def D.off (i : Id) : D → Bool
 | .ptr j _ => j != i
 | .row j _ => j != i
 | .agg cs => D.offL i cs
 | .tup cs => D.offL i cs
 | .fn _ cs => D.offL i cs
 | _ => true
def D.offL (i : Id) : List D → Bool
 | [] => true
 | d :: r => D.off i d && D.offL i r
end
theorem offL_all {i : Id} : ∀ {l : List D}, D.offL i l = true ↔ ∀ d ∈ l, d.off i = true
 | [] => by simp [D.offL]
 | d :: r => by simp only [D.offL, Bool.and_eq_true, offL_all, List.mem_cons, forall_eq_or_imp]
theorem offL_of {i : Id} {w : World} {g : Gh} {ds : List D} {vs : List Value} (hl : vs.length = ds.length) (h : ∀ (j : Nat) d v, ds[j]? = some d → vs[j]? = some v → d.off i = true) : D.offL i ds = true := by
 rw [offL_all]
 intro d hd
 obtain ⟨j, hj, rfl⟩ := List.getElem_of_mem hd
 exact h j _ vs[j] (List.getElem?_eq_getElem hj) (List.getElem?_eq_getElem (by omega))
theorem Rep.off {w : World} {g : Gh} {i : Id} (hi : g.dl i = none) {d : D} {v : Value} (h : Rep w g d v) : d.off i = true := by
 induction h with
 | ptr j o b h1 =>
  simp only [D.off, bne_iff_ne, ne_eq]
  rintro rfl; rw [hi] at h1; cases h1
 | row j n b h1 =>
  simp only [D.off, bne_iff_ne, ne_eq]
  rintro rfl; rw [hi] at h1; cases h1
 | agg ds vs h1 h2 h3 ih => simp only [D.off]; exact offL_of (w := w) (g := g) h1 ih
 | tup ds vs h1 h2 ih => simp only [D.off]; exact offL_of (w := w) (g := g) h1 ih
 | fn f ds vs h1 h2 ih => simp only [D.off]; exact offL_of (w := w) (g := g) h1 ih
 | _ => rfl
theorem Rep.drop {w : World} {g g' : Gh} {i : Id} (hdl : ∀ j b, j ≠ i → g.dl j = some b → g'.dl j = some b) (hG : ∀ b, g.G b ≤ g'.G b) (htb : ∀ j x, g.tb j = some x → g'.tb j = some x) {d : D} {v : Value} (h : Rep w g d v) (ho : d.off i = true) : Rep w g' d v := by
 have calm : ∀ {d : D} {v : Value}, Rep w g d v → d.calm = true → Rep w g' d v := fun h hc => h.calm_to hc (fun _ _ => rfl) hG
 have cf : ∀ {xs : List D}, (∀ d ∈ xs, d.calm = true) → ∀ d ∈ flat xs, d.calm = true := fun h9 d hd => by
  have := calm_flat h9 d hd
  first | exact this | (cases d <;> simp_all [D.calm, D.calm1])
 induction h with
 | junk v => exact .junk v
 | bool b => exact .bool b
 | int k n => exact .int k n
 | str s => exact .str s
 | nils t => exact .nils _
 | slice t xs a n c sz vv h1 h2 h3 h4 h5 h6 h7 h8 h9 ih =>
  refine .slice t xs a n c sz vv h1 h2 h3 h4 h5 (fun j d hd => calm (h6 j d hd) (cf h9 d (List.mem_of_getElem? hd))) (fun h => Nat.le_trans (h7 h) (hG _)) (fun ht => ?_) h9
  obtain ⟨q1, q2, q3⟩ := h8 ht
  exact ⟨q1, q2, htb _ _ q3⟩
 | ptr j o b h1 => exact .ptr j o b (hdl j b (by simpa [D.off] using ho) h1)
 | row j n b h1 => exact .row j n b (hdl j b (by simpa [D.off] using ho) h1)
 | eptr ds a vv h1 h2 h3 h4 h5 => exact .eptr ds a vv h1 h2 (fun j d hd => calm (h3 j d hd) (h5 d (List.mem_of_getElem? hd))) (fun h => Nat.le_trans (h4 h) (hG _)) h5
 | nilp => exact .nilp
 | agg ds vs h1 h2 h3 ih =>
  simp only [D.off, offL_all] at ho
  exact .agg _ vs h1 h2 (fun j d v hd hv => ih j d v hd hv (ho d (List.mem_of_getElem? hd)))
 | tup ds vs h1 h2 ih =>
  simp only [D.off, offL_all] at ho
  exact .tup _ vs h1 (fun j d v hd hv => ih j d v hd hv (ho d (List.mem_of_getElem? hd)))
 | iface t d v h1 h2 ih => exact .iface t d v h1 (calm h2 h1)
 | nili => exact .nili
 | fn f ds vs h1 h2 ih =>
  simp only [D.off, offL_all] at ho
  exact .fn f _ vs h1 (fun j d v hd hv => ih j d v hd hv (ho d (List.mem_of_getElem? hd)))
 | nilf => exact .nilf
 | nilm => exact .nilm
theorem calm_off {i : Id} {d : D} (h : d.calm1 = true) : d.off i = true := by
 cases d with
 | fn f cs =>
  have : cs = [] := by simpa [D.calm1] using h
  subst this; rfl
 | _ => first | rfl | (simp [D.calm1] at h; done)
theorem upd_old : ∀ {u : Upd} {m : Mem} {i : Id} {o : Nat} {d : D}, (∀ p ∈ u, ∀ x ∈ p.2.2, x.calm1 = true) → Upd.app m u i o = some d → d.calm1 = true ∨ m i o = some d
 | [], m, i, o, d, _, h => .inr h
 | (j, k, ds) :: u, m, i, o, d, hu, h => by
  rcases upd_old (u := u) (fun p hp => hu p (List.mem_cons_of_mem _ hp)) h with h1 | h1
  ·exact .inl h1
  ·by_cases hc : i = j ∧ k ≤ o ∧ o < k + ds.length
   ·left
    have : m.put j k ds i o = ds[o - k]? := by unfold Mem.put; rw [if_pos hc]
    rw [this] at h1
    exact hu _ (List.mem_cons_self ..) d (List.mem_of_getElem? h1)
   ·right
    have : m.put j k ds i o = m i o := by unfold Mem.put; rw [if_neg hc]
    rw [← this]; exact h1
theorem upd_out : ∀ {u : Upd} {m : Mem} {i : Id} {o : Nat}, (∀ p ∈ u, p.1 ≠ i) → Upd.app m u i o = m i o
 | [], m, i, o, _ => rfl
 | (j, k, ds) :: u, m, i, o, hu => by
  have h1 := upd_out (u := u) (m := m.put j k ds) (i := i) (o := o) (fun p hp => hu p (List.mem_cons_of_mem _ hp))
  have h2 : i ≠ j := fun e => hu _ (List.mem_cons_self ..) e.symm
  exact h1.trans (Mem.put_other h2)
theorem flat_id : ∀ {xs : List D}, (∀ x ∈ xs, x.cells = [x]) → flat xs = xs
 | [], _ => rfl
 | x :: r, h => by
  rw [flat, h x (List.mem_cons_self ..), flat_id fun y hy => h y (List.mem_cons_of_mem _ hy)]; rfl
section
variable {P : Program} {B : Nat} {w0 w : World} {m : Mem} {g : Gh} {S : Summs} {f : FuncId} {N : Nat} {dc : DC} {rs : List RV}
def Gh.settle (g : Gh) (i : Id) (b n : Nat) : Gh := { g with dl := fun j => if j = i then none else g.dl j, G := fun b' => if b' = b then n else g.G b' }
theorem opn_row (hS : Summs.ok P S) (hf : Fn P f N dc rs) {q : Summ} (hloc : ∀ ds m m' fr, (∀ l ∈ q.rd ds m, m l.1 l.2 = m' l.1 l.2) → q.ex ds m fr = q.ex ds m' fr)
  (hq : ∀ ds m fr r u, q.ex ds m fr = some (r, u) → (∀ i o, fr <:+ i → m i o = none) → ds.length ≤ N ∧ (∀ p ∈ u, ¬ fr <:+ p.1 ∧ ∀ x ∈ p.2.2, x.calm1 = true) ∧ ∃ xs, r = .slice false [] xs ∧ (∀ x ∈ xs, x.calm = true ∧ x.cells = [x]) ∧
   dc.wp S fr (Ends rs fun d m' => ∃ i, d = .row i xs.length ∧ fr <:+ i ∧ (∀ (j : Nat) x, xs[j]? = some x → m' i j = some x) ∧ ∀ i o x, Upd.app m u i o = some x → m' i o = some x) ⟨entryS ds, m, 0⟩) : q.ok P f := by
 obtain ⟨fn, code, h1, h2, h3, h4, h5, h6⟩ := hf.is
 refine ⟨⟨fn, h1, by rw [h2]; rfl, h3⟩, hloc, ?_⟩
 intro B w0 w m g fr ds vs r u hi hfresh hl hrep hex
 have hfr : ∀ k i, (k :: fr) <:+ i → Fresh m g i := fun k i h => hfresh i ((List.suffix_cons k fr).trans h)
 obtain ⟨hN, hu, xs, rfl, hxs, hwp⟩ := hq ds m fr r u hex (fun i o h => (hfresh i h).1 o)
 have hcalls := calls_of (ns := fr) hS hf hN hi hfr hl hrep hwp
 refine hcalls.mono ?_
 rintro e w' ⟨v, d, m', g', rfl, hinv, hext, hkeep, hrd, i, rfl, hsuf, hcell, hle⟩
 obtain ⟨b, rfl, hb⟩ := hrd.row_inv
 obtain ⟨hBb, hGb, cur, T, hheap, hobj⟩ := hinv.obj i b hb
 have hi0 : g.dl i = none := (hfresh i hsuf).2.1
 have hGle : ∀ b', g'.G b' ≤ (g'.settle i b xs.length).G b' := by
  intro b'
  simp only [Gh.settle]
  split
  ·rename_i e; rw [e, hGb]; exact Nat.zero_le _
  ·exact Nat.le_refl _
 have hdrop : ∀ {d : D} {v : Value}, Rep w' g' d v → d.off i = true → Rep w' (g'.settle i b xs.length) d v := fun h ho =>
  h.drop (i := i) (fun j b' hj e => by simp only [Gh.settle]; rw [if_neg hj]; exact e) hGle (fun _ _ e => e) ho
 have base := hinv.less hle
 have hnone : ∀ o, Upd.app m u i o = none := fun o => by
  rw [upd_out (fun p hp e => (hu p hp).1 (e ▸ hsuf))]; exact (hfresh i hsuf).1 o
 have hoff : ∀ j o d, Upd.app m u j o = some d → d.off i = true := by
  intro j o d hd
  rcases upd_old (fun p hp => (hu p hp).2) hd with h | h
  ·exact calm_off h
  ·cases hdl : g.dl j with
   | none =>
    obtain ⟨e, rfl⟩ := hi.kind j o d h hdl
    rfl
   | some b' =>
    obtain ⟨_, _, vs', _, _, hr⟩ := hi.obj j b' hdl
    obtain ⟨v', _, _, hr'⟩ := hr o d h
    exact hr'.off hi0
 have hfin : InvM P B w0 (Upd.app m u) w' (g'.settle i b xs.length) := by
  refine ⟨hinv.below, hinv.size, fun b' hb' => ?_, fun b' hb' => ?_, fun j b' hj => ?_, fun j j' b' e1 e2 => ?_, fun j o d hm hn => ?_, fun j e hm => ?_, base.tinj⟩
  ·simp only [Gh.settle]
   have : b < w'.heap.size := (Array.getElem?_eq_some_iff.1 hheap).1
   rw [if_neg (by omega)]; exact hinv.gz b' hb'
  ·simp only [Gh.settle]; rw [if_neg (by omega)]; exact hinv.old b' hb'
  ·simp only [Gh.settle] at hj
   split at hj
   ·cases hj
   ·rename_i hne
    obtain ⟨p, q, vs', T', hh, r⟩ := base.obj j b' hj
    have hbb : b' ≠ b := fun e => hne (hinv.inj j i b (e ▸ hj) hb)
    refine ⟨p, by simp only [Gh.settle]; rw [if_neg hbb]; exact q, vs', T', hh, fun o d hm => ?_⟩
    obtain ⟨v', r1, r2, r3⟩ := r o d hm
    exact ⟨v', r1, r2, hdrop r3 (hoff j o d hm)⟩
  ·simp only [Gh.settle] at e1 e2
   split at e1
   ·cases e1
   ·split at e2
    ·cases e2
    ·exact hinv.inj j j' b' e1 e2
  ·by_cases hji : j = i
   ·subst hji; rw [hnone o] at hm; cases hm
   ·simp only [Gh.settle, if_neg hji] at hn
    exact base.kind j o d hm hn
  ·obtain ⟨b1, n, c, sz, cur', t1, t2, t3, t4, t5, t6, t7, t8, t9, t10⟩ := base.tok j e hm
   have hbb : b1 ≠ b := fun e' => t10 i (e' ▸ hb)
   refine ⟨b1, n, c, sz, cur', t1, t2, t3, t4, t5, t6, t7, t8, by simp only [Gh.settle]; rw [if_neg hbb]; exact t9, fun i' h' => ?_⟩
   simp only [Gh.settle] at h'
   split at h'
   ·cases h'
   ·exact t10 i' h'
 have hvl : ∀ (j : Nat), j < xs.length → ∃ v, cur[j]? = some v ∧ v.oneCell' = true ∧ ∃ x, xs[j]? = some x ∧ Rep w' g' x v := by
  intro j hj
  obtain ⟨v', r1, r2, r3⟩ := hobj j xs[j] (hcell j _ (List.getElem?_eq_getElem hj))
  exact ⟨v', r1, r2, _, List.getElem?_eq_getElem hj, r3⟩
 have hsz : xs.length ≤ cur.size := by
  rcases Nat.eq_zero_or_pos xs.length with h | h
  ·omega
  ·obtain ⟨v', r1, _⟩ := hvl (xs.length - 1) (by omega)
   have := (Array.getElem?_eq_some_iff.1 r1).1
   omega
 have hcalm : ∀ x ∈ xs, x.calm = true := fun x hx => (hxs x hx).1
 have hfl : flat xs = xs := flat_id fun x hx => (hxs x hx).2
 have hreps : Reps w' (g'.settle i b xs.length) (flat xs) (cur.toList.take xs.length) := by
  rw [hfl]
  refine ⟨by simp; omega, fun v hv => ?_, fun j x v hx hv => ?_⟩
  ·obtain ⟨j, hj, rfl⟩ := List.getElem_of_mem hv
   have hj' : j < xs.length := Nat.lt_of_lt_of_le hj (List.length_take_le _ _)
   obtain ⟨v', r1, r2, _⟩ := hvl j hj'
   have : (cur.toList.take xs.length)[j]? = some v' := by rw [List.getElem?_take_of_lt hj']; simpa using r1
   rw [List.getElem?_eq_getElem hj] at this
   rw [Option.some.inj this]; exact r2
  ·have hj' : j < xs.length := (List.getElem?_eq_some_iff.1 hx).1
   obtain ⟨v', r1, r2, x', hx', r3⟩ := hvl j hj'
   rw [hx] at hx'; obtain rfl := Option.some.inj hx'
   have : (cur.toList.take xs.length)[j]? = some v' := by rw [List.getElem?_take_of_lt hj']; simpa using r1
   rw [hv] at this; obtain rfl := Option.some.inj this
   exact r3.calm_to (hcalm x (List.mem_of_getElem? hx)) (fun _ _ => rfl) hGle
 refine ⟨_, g'.settle i b xs.length, rfl, hfin, ⟨hext.cell, fun b' => Nat.le_trans (hext.G b') (hGle b'), fun j b' hj => ?_, hext.G0, hext.tb⟩, ?_, fun j hf hn => ?_⟩
 ·simp only [Gh.settle]
  rw [if_neg (fun e => by rw [e, hi0] at hj; cases hj)]; exact hext.dl j b' hj
 ·refine Rep.ofRow (sz := 1) (cur := cur) (vs := cur.toList.take xs.length) hheap rfl (Nat.le_refl _) (fun d hd => by rw [(hxs d hd).2]; rfl) hreps (fun j v hv => ?_) (by simp [Gh.settle]) (fun h => absurd rfl h) hcalm
  have hj : j < xs.length := Nat.lt_of_lt_of_le (List.getElem?_eq_some_iff.1 hv).1 (List.length_take_le _ _)
  rw [List.getElem?_take_of_lt hj] at hv
  simpa using hv
 ·obtain ⟨k1, k2, k3⟩ := hkeep j hf hn
  refine ⟨fun o => ?_, ?_, k3⟩
  ·cases hx : Upd.app m u j o with
   | none => rfl
   | some x => exact absurd (k1 o) (by rw [hle j o x hx]; simp)
  ·simp only [Gh.settle]
   split
   ·rfl
   ·exact k2
end
end Go.Vd

namespace Go.Vd
open Go.RowKit
set_option maxRecDepth 10000
def opU (r : Id) (b : Bool) : Upd := [(r, 0, [.bool b])]
theorem rowU_op {S : Summs} {ns : Id} {n k : Nat} {ops l : List DOper} {s : Nat → D} {dst : Option Nat} {m : Mem} {K} {d : D} {r : Id} {b : Bool} : rowU S ns n ops l k s dst m K d (opU r b) = rowK S ns n ops l k (setS s dst d) (Upd.app m (opU r b)) K := rfl
theorem drawnU_op {S : Summs} {ns : Id} {n k : Nat} {ops l : List DOper} {s : Nat → D} {dst : Option Nat} {m : Mem} {op : DOp} {K} {d : D} {r : Id} {b : Bool} : drawnU S ns n ops l k s dst m op K d (opU r b) = drawnK S ns n ops l k (setS s dst d) (Upd.app m (opU r b)) fun k' s' m' f => K k' s' m' ((rds S s m op, wlocs (opU r b)) :: f) := rfl
theorem opU_rd {m : Mem} {r i : Id} {b : Bool} {o : Nat} : Upd.app m (opU r b) i o = if i = r ∧ o = 0 then some (.bool b) else m i o := put1_rd
def dNum : D → Option Int
 | .iface 86 (.int .u64 n) => some n
 | _ => none
def dText : D → Option Bs
 | .iface 9 (.str s) => some s
 | _ => none
def dTruth : D → Option Bool
 | .iface 4 (.bool b) => some b
 | _ => none
def dList : D → Option (List D)
 | .iface 99 (.slice false [] xs) => some xs
 | _ => none
def dPairs : D → Option (List D)
 | .iface 85 (.slice false [] xs) => some xs
 | _ => none
def isVal (d : D) : Bool := d.isNI || (dNum d).isSome || (dText d).isSome || (dTruth d).isSome || (dList d).isSome || (dPairs d).isSome
theorem isVal_inv {d : D} (h : isVal d = true) : d = .nilIface ∨ (∃ n, d = .iface 86 (.int .u64 n)) ∨ (∃ s, d = .iface 9 (.str s)) ∨ (∃ b, d = .iface 4 (.bool b)) ∨ (∃ xs, d = .iface 99 (.slice false [] xs)) ∨ ∃ xs, d = .iface 85 (.slice false [] xs) := by
 simp only [isVal, Bool.or_eq_true] at h
 rcases h with ((((h | h) | h) | h) | h) | h
 ·left; cases d <;> first | rfl | cases h
 ·unfold dNum at h; split at h
  ·exact .inr (.inl ⟨_, rfl⟩)
  ·cases h
 ·unfold dText at h; split at h
  ·exact .inr (.inr (.inl ⟨_, rfl⟩))
  ·cases h
 ·unfold dTruth at h; split at h
  ·exact .inr (.inr (.inr (.inl ⟨_, rfl⟩)))
  ·cases h
 ·unfold dList at h; split at h
  ·exact .inr (.inr (.inr (.inr (.inl ⟨_, rfl⟩))))
  ·cases h
 ·unfold dPairs at h; split at h
  ·exact .inr (.inr (.inr (.inr (.inr ⟨_, rfl⟩))))
  ·cases h
theorem dat_val (v : Tr) : isVal v.dat = true := by cases v <;> rfl
def F86 : List D → Option D
 | [d] => if isVal d = true then some (.tup [.int .u64 ((dNum d).getD 0), .bool (dNum d).isSome]) else none
 | _ => none
def F87 : List D → Option D
 | [d] => if isVal d = true then some (.tup [.str ((dText d).getD []), .bool (dText d).isSome]) else none
 | _ => none
theorem ok86 {P : Program} (hb : DeskB P) : (funS F86).ok P 86 := by
 refine fun_ok (S := fun _ => none) none_ok hb.f86 (fun ds r h => ?_) (fun ds r h => ?_)
 ·unfold F86 at h; split at h
  ·simp
  ·cases h
 ·unfold F86 at h; split at h
  ·rename_i d
   split at h
   ·rename_i hd
    simp only [Option.some.injEq] at h
    subst h
    unfold dc86
    rcases isVal_inv hd with rfl | ⟨_, rfl⟩ | ⟨_, rfl⟩ | ⟨_, rfl⟩ | ⟨_, rfl⟩ | ⟨_, rfl⟩
    all_goals
     simp only [↓go1, gB0, ↓x_tass, reduceIte, Nat.reduceEqDiff, Nat.reduceAdd, Nat.reduceSub, Nat.reduceLT, Nat.reduceLeDiff, put1_rd, rd_zero, rd_succ, gB1, reduceCtorEq, ldD_agg, gB3, rowU_op, drawnU_op, data_if, cells_if, un_if, calm_if, calm1_if, data_ni, cells_ni, un_ni, calm_ni, calm1_ni, tassV]
     first | done | exact ⟨rfl, rfl⟩ | rfl
   ·cases h
  ·cases h
theorem ok87 {P : Program} (hb : DeskB P) : (funS F87).ok P 87 := by
 refine fun_ok (S := fun _ => none) none_ok hb.f87 (fun ds r h => ?_) (fun ds r h => ?_)
 ·unfold F87 at h; split at h
  ·simp
  ·cases h
 ·unfold F87 at h; split at h
  ·rename_i d
   split at h
   ·rename_i hd
    simp only [Option.some.injEq] at h
    subst h
    unfold dc87
    rcases isVal_inv hd with rfl | ⟨_, rfl⟩ | ⟨_, rfl⟩ | ⟨_, rfl⟩ | ⟨_, rfl⟩ | ⟨_, rfl⟩
    all_goals
     simp only [↓go1, gB0, ↓x_tass, reduceIte, Nat.reduceEqDiff, Nat.reduceAdd, Nat.reduceSub, Nat.reduceLT, Nat.reduceLeDiff, put1_rd, rd_zero, rd_succ, gB1, reduceCtorEq, ldD_agg, gB3, rowU_op, drawnU_op, data_if, cells_if, un_if, calm_if, calm1_if, data_ni, cells_ni, un_ni, calm_ni, calm1_ni, tassV]
     first | done | exact ⟨rfl, rfl⟩ | rfl
   ·cases h
  ·cases h
def opQ (F : Bool → List D → Option (D × Bool)) : Summ where
 rd := fun ds _ => match ds with
  | .ptr r 0 :: _ => [(r, 0)]
  | _ => []
 ex := fun ds m _ => match ds with
  | .ptr r 0 :: rest => match m r 0 with
   | some (.bool b) => (F b rest).map fun x => (x.1, [(r, 0, [.bool x.2])])
   | _ => none
  | _ => none
theorem opQ_loc (F : Bool → List D → Option (D × Bool)) (ds : List D) (m m' : Mem) (fr : Id) (h : ∀ l ∈ (opQ F).rd ds m, m l.1 l.2 = m' l.1 l.2) : (opQ F).ex ds m fr = (opQ F).ex ds m' fr := by
 simp only [opQ] at h ⊢
 split
 ·rename_i r rest
  rw [h (r, 0) (by simp)]
 ·rfl
theorem opQ_inv {F : Bool → List D → Option (D × Bool)} {ds : List D} {m : Mem} {fr : Id} {d : D} {u : Upd} (h : (opQ F).ex ds m fr = some (d, u)) :
  ∃ r rest b b', ds = .ptr r 0 :: rest ∧ m r 0 = some (.bool b) ∧ F b rest = some (d, b') ∧ u = [(r, 0, [.bool b'])] := by
 simp only [opQ] at h
 split at h
 ·rename_i r rest
  split at h
  ·rename_i b hb
   rw [Option.map_eq_some_iff] at h
   obtain ⟨⟨d', b'⟩, hF, h⟩ := h
   simp only [Prod.mk.injEq] at h
   exact ⟨r, rest, b, b', rfl, hb, by rw [hF, ← h.1], h.2.symm⟩
  ·cases h
 ·cases h
theorem got_op {F : Bool → List D → Option (D × Bool)} {m : Mem} {fr r : Id} {rest : List D} {b b' : Bool} {d : D} {K : D × Upd → Prop} {g} (h : m r 0 = some (.bool b)) (hF : F b rest = some (d, b')) (k : K (d, opU r b')) : Got ((opQ F).ex (.ptr r 0 :: rest) m fr) K g := by
 refine Got.intro ?_ k
 simp only [opQ, h, hF]; rfl
theorem op_fin {m m' : Mem} {r : Id} {b : Bool} (h0 : m' r 0 = some (.bool b)) (h : ∀ i o, ¬ (i = r ∧ o = 0) → m i o = none ∨ m' i o = m i o) : ∀ i o x, Upd.app m [(r, 0, [.bool b])] i o = some x → m' i o = some x := by
 intro i o x hx
 have hx : (if i = r ∧ o = 0 then some (D.bool b) else m i o) = some x := by rw [← put1_rd]; exact hx
 by_cases e : i = r ∧ o = 0
 ·rw [if_pos e] at hx; rw [e.1, e.2, h0]; exact hx
 ·rw [if_neg e] at hx
  rcases h i o e with h | h
  ·rw [h] at hx; cases hx
  ·rw [h]; exact hx
def F55 (b : Bool) : List D → Option (D × Bool)
 | [d] => if isVal d = true then some (match dNum d with
  | some n => if 2199023255552 < n then (.int .i64 0, true) else (.int .i64 (IntKind.i64.wrap (IntKind.i64.wrap n - 1099511627776)), b)
  | none => (.int .i64 0, true)) else none
 | _ => none
def F56 (b : Bool) : List D → Option (D × Bool)
 | [d] => if isVal d = true then some (.bool ((dTruth d).getD false), b || !(dTruth d).isSome) else none
 | _ => none
def F57 (b : Bool) : List D → Option (D × Bool)
 | [d] => if isVal d = true then some (match dList d with
  | some xs => .slice false [] xs
  | none => .slice true [] [], b || !(dList d).isSome) else none
 | _ => none
def F58 (b : Bool) : List D → Option (D × Bool)
 | [d] => if isVal d = true then some (.str ((dText d).getD []), b || !(dText d).isSome) else none
 | _ => none
theorem ok56 {P : Program} (hb : DeskB P) : (opQ F56).ok P 56 := by
 refine opn_ok2 (S := fun _ => none) none_ok hb.f56 (opQ_loc _) (fun ds m fr d u h hfr => ?_)
 obtain ⟨r, rest, b, b', rfl, hr, hF, rfl⟩ := opQ_inv h
 unfold F56 at hF
 split at hF
 ·rename_i d
  split at hF
  ·rename_i hd
   simp only [Option.some.injEq, Prod.mk.injEq] at hF
   obtain ⟨rfl, rfl⟩ := hF
   refine ⟨by simp, ?_⟩
   clear h
   unfold dc56
   cases b
   all_goals
    rcases isVal_inv hd with rfl | ⟨_, rfl⟩ | ⟨_, rfl⟩ | ⟨_, rfl⟩ | ⟨_, rfl⟩ | ⟨_, rfl⟩
   all_goals
    simp only [↓go1, gB0, ↓x_tass, reduceIte, Nat.reduceEqDiff, Nat.reduceAdd, Nat.reduceSub, Nat.reduceLT, Nat.reduceLeDiff, put1_rd, rd_zero, rd_succ, gB1, reduceCtorEq, ldD_agg, gB3, rowU_op, drawnU_op, data_if, cells_if, un_if, calm_if, calm1_if, data_ni, cells_ni, un_ni, calm_ni, calm1_ni, tassV, hr, dTruth, dList, dText, Option.getD_some, Option.getD_none, Option.isSome_none]
    first
     | exact fun i o x h => h
     | exact op_fin (by simp [put1_rd, hr]) (fun i o hn => .inr (by simp only [put1_rd, if_neg hn]))
     | (refine ⟨rfl, ?_⟩; exact op_fin (by simp [put1_rd, hr]) (fun i o hn => .inr (by simp only [put1_rd, if_neg hn])))
  ·cases hF
 ·cases hF
theorem ok57 {P : Program} (hb : DeskB P) : (opQ F57).ok P 57 := by
 refine opn_ok2 (S := fun _ => none) none_ok hb.f57 (opQ_loc _) (fun ds m fr d u h hfr => ?_)
 obtain ⟨r, rest, b, b', rfl, hr, hF, rfl⟩ := opQ_inv h
 unfold F57 at hF
 split at hF
 ·rename_i d
  split at hF
  ·rename_i hd
   simp only [Option.some.injEq, Prod.mk.injEq] at hF
   obtain ⟨rfl, rfl⟩ := hF
   refine ⟨by simp, ?_⟩
   clear h
   unfold dc57
   cases b
   all_goals
    rcases isVal_inv hd with rfl | ⟨_, rfl⟩ | ⟨_, rfl⟩ | ⟨_, rfl⟩ | ⟨_, rfl⟩ | ⟨_, rfl⟩
   all_goals
    simp only [↓go1, gB0, ↓x_tass, reduceIte, Nat.reduceEqDiff, Nat.reduceAdd, Nat.reduceSub, Nat.reduceLT, Nat.reduceLeDiff, put1_rd, rd_zero, rd_succ, gB1, reduceCtorEq, ldD_agg, gB3, rowU_op, drawnU_op, data_if, cells_if, un_if, calm_if, calm1_if, data_ni, cells_ni, un_ni, calm_ni, calm1_ni, tassV, hr, dTruth, dList, dText, Option.getD_some, Option.getD_none, Option.isSome_none]
    first
     | exact fun i o x h => h
     | exact op_fin (by simp [put1_rd, hr]) (fun i o hn => .inr (by simp only [put1_rd, if_neg hn]))
     | (refine ⟨rfl, ?_⟩; exact op_fin (by simp [put1_rd, hr]) (fun i o hn => .inr (by simp only [put1_rd, if_neg hn])))
  ·cases hF
 ·cases hF
theorem ok58 {P : Program} (hb : DeskB P) : (opQ F58).ok P 58 := by
 have hS : Summs.ok P (tabL [(87, funS F87)]) := tabL_cons (ok87 hb) tabL_nil
 have s87 : tabL [(87, funS F87)] 87 = some (funS F87) := rfl
 generalize tabL [(87, funS F87)] = S at hS s87
 refine opn_ok2 (S := S) hS hb.f58 (opQ_loc _) (fun ds m fr d u h hfr => ?_)
 obtain ⟨r, rest, b, b', rfl, hr, hF, rfl⟩ := opQ_inv h
 unfold F58 at hF
 split at hF
 ·rename_i d
  split at hF
  ·rename_i hd
   simp only [Option.some.injEq, Prod.mk.injEq] at hF
   obtain ⟨rfl, rfl⟩ := hF
   refine ⟨by simp, ?_⟩
   clear h
   have f87 : F87 [d] = some (.tup [.str ((dText d).getD []), .bool (dText d).isSome]) := if_pos hd
   have u1 : d.un = d ∧ d.calm = true := by
    rcases isVal_inv hd with rfl | ⟨_, rfl⟩ | ⟨_, rfl⟩ | ⟨_, rfl⟩ | ⟨_, rfl⟩ | ⟨_, rfl⟩ <;> exact ⟨rfl, rfl⟩
   obtain ⟨u1, u2⟩ := u1
   unfold dc58
   cases b
   all_goals
    rcases isVal_inv hd with rfl | ⟨_, rfl⟩ | ⟨_, rfl⟩ | ⟨_, rfl⟩ | ⟨_, rfl⟩ | ⟨_, rfl⟩
   all_goals
    simp only [↓go1, gB0, ↓x_tass, reduceIte, Nat.reduceEqDiff, Nat.reduceAdd, Nat.reduceSub, Nat.reduceLT, Nat.reduceLeDiff, put1_rd, rd_zero, rd_succ, gB1, reduceCtorEq, ldD_agg, gB3, rowU_op, drawnU_op, data_if, cells_if, un_if, calm_if, calm1_if, data_ni, cells_ni, un_ni, calm_ni, calm1_ni, tassV, hr, callK_fun s87, f87, u1, u2, dTruth, dList, dText, Option.getD_some, Option.getD_none, Option.isSome_none]
    first
     | exact fun i o x h => h
     | exact op_fin (by simp [put1_rd, hr]) (fun i o hn => .inr (by simp only [put1_rd, if_neg hn]))
     | (refine ⟨rfl, ?_⟩; exact op_fin (by simp [put1_rd, hr]) (fun i o hn => .inr (by simp only [put1_rd, if_neg hn])))
  ·cases hF
 ·cases hF
theorem ok55 {P : Program} (hb : DeskB P) : (opQ F55).ok P 55 := by
 have hS : Summs.ok P (tabL [(86, funS F86)]) := tabL_cons (ok86 hb) tabL_nil
 have s86 : tabL [(86, funS F86)] 86 = some (funS F86) := rfl
 generalize tabL [(86, funS F86)] = S at hS s86
 refine opn_ok2 (S := S) hS hb.f55 (opQ_loc _) (fun ds m fr d u h hfr => ?_)
 obtain ⟨r, rest, b, b', rfl, hr, hF, rfl⟩ := opQ_inv h
 unfold F55 at hF
 split at hF
 ·rename_i d
  split at hF
  ·rename_i hd
   simp only [Option.some.injEq] at hF
   refine ⟨by simp, ?_⟩
   clear h
   have f86 : F86 [d] = some (.tup [.int .u64 ((dNum d).getD 0), .bool (dNum d).isSome]) := if_pos hd
   have u1 : d.un = d ∧ d.calm = true := by
    rcases isVal_inv hd with rfl | ⟨_, rfl⟩ | ⟨_, rfl⟩ | ⟨_, rfl⟩ | ⟨_, rfl⟩ | ⟨_, rfl⟩ <;> exact ⟨rfl, rfl⟩
   obtain ⟨u1, u2⟩ := u1
   unfold dc55
   cases hn : dNum d with
   | none =>
    rw [hn] at hF f86
    simp only [Prod.mk.injEq] at hF
    obtain ⟨rfl, rfl⟩ := hF
    simp only [Option.getD_none, Option.isSome_none] at f86
    simp only [↓go1, gB0, ↓x_tass, reduceIte, Nat.reduceEqDiff, Nat.reduceAdd, Nat.reduceSub, Nat.reduceLT, Nat.reduceLeDiff, put1_rd, rd_zero, rd_succ, gB1, reduceCtorEq, ldD_agg, gB3, rowU_op, drawnU_op, data_if, cells_if, un_if, calm_if, calm1_if, data_ni, cells_ni, un_ni, calm_ni, calm1_ni, hr, callK_fun s86, f86, u1, u2]
    exact fun i o x h => h
   | some n =>
    rw [hn] at hF f86
    simp only [Option.getD_some, Option.isSome_some] at f86
    by_cases hbig : 2199023255552 < n
    ·have hbig' : ((2199023255552 : Int) < n) = True := eq_true hbig
     simp only [if_pos hbig, Prod.mk.injEq] at hF
     obtain ⟨rfl, rfl⟩ := hF
     simp only [↓go1, gB0, ↓x_tass, reduceIte, Nat.reduceEqDiff, Nat.reduceAdd, Nat.reduceSub, Nat.reduceLT, Nat.reduceLeDiff, put1_rd, rd_zero, rd_succ, gB1, reduceCtorEq, ldD_agg, gB3, rowU_op, drawnU_op, data_if, cells_if, un_if, calm_if, calm1_if, data_ni, cells_ni, un_ni, calm_ni, calm1_ni, hr, callK_fun s86, f86, u1, u2, hbig']
     exact fun i o x h => h
    ·have hbig' : ((2199023255552 : Int) < n) = False := eq_false hbig
     simp only [if_neg hbig, Prod.mk.injEq] at hF
     obtain ⟨rfl, rfl⟩ := hF
     simp only [↓go1, gB0, ↓x_tass, reduceIte, Nat.reduceEqDiff, Nat.reduceAdd, Nat.reduceSub, Nat.reduceLT, Nat.reduceLeDiff, put1_rd, rd_zero, rd_succ, gB1, reduceCtorEq, ldD_agg, gB3, rowU_op, drawnU_op, data_if, cells_if, un_if, calm_if, calm1_if, data_ni, cells_ni, un_ni, calm_ni, calm1_ni, hr, callK_fun s86, f86, u1, u2, hbig']
     intro i o x hx
     by_cases e : i = r ∧ o = 0
     ·rw [if_pos e] at hx; rw [e.1, e.2, hr]; exact hx
     ·rw [if_neg e] at hx; exact hx
  ·cases hF
 ·cases hF
def F59 (b : Bool) : List D → Option (D × Bool)
 | [d] => if isVal d = true then (match dList d with
  | some [x0, x1, x2, x3, x4, x5, x6] => if isVal x0 && isVal x1 && isVal x2 && isVal x3 && isVal x4 && isVal x5 && isVal x6 then
    (match F55 b [x0] with
    | some (.int .i64 n0, b0) => match F55 b0 [x1] with
     | some (.int .i64 n1, b1) => match F55 b1 [x2] with
      | some (.int .i64 n2, b2) => match F55 b2 [x3] with
       | some (.int .i64 n3, b3) => match F56 b3 [x4] with
        | some (.bool t, b4) => match F58 b4 [x5] with
         | some (.str s, b5) => match F58 b5 [x6] with
          | some (.str s', b6) => some (dnD ⟨n1, s, s', n2, n0, n3, t⟩, b6)
          | _ => none
         | _ => none
        | _ => none
       | _ => none
      | _ => none
     | _ => none
    | _ => none) else none
  | some xs => if xs.length = 7 then none else some (dnD ⟨0, [], [], 0, 0, 0, false⟩, true)
  | none => some (dnD ⟨0, [], [], 0, 0, 0, false⟩, true)) else none
 | _ => none
theorem val_cells {d : D} (h : isVal d = true) : d.un = d ∧ d.calm = true ∧ d.cells = [d] ∧ d.data = true := by
 rcases isVal_inv h with rfl | ⟨_, rfl⟩ | ⟨_, rfl⟩ | ⟨_, rfl⟩ | ⟨_, rfl⟩ | ⟨_, rfl⟩ <;> exact ⟨rfl, rfl, rfl, rfl⟩
set_option maxHeartbeats 8000000 in
theorem ok59 {P : Program} (hb : DeskB P) : (opQ F59).ok P 59 := by
 have hS : Summs.ok P (tabL [(55, opQ F55), (56, opQ F56), (57, opQ F57), (58, opQ F58)]) := tabL_cons (ok55 hb) (tabL_cons (ok56 hb) (tabL_cons (ok57 hb) (tabL_cons (ok58 hb) tabL_nil)))
 have s55 : tabL [(55, opQ F55), (56, opQ F56), (57, opQ F57), (58, opQ F58)] 55 = some (opQ F55) := rfl
 have s56 : tabL [(55, opQ F55), (56, opQ F56), (57, opQ F57), (58, opQ F58)] 56 = some (opQ F56) := rfl
 have s57 : tabL [(55, opQ F55), (56, opQ F56), (57, opQ F57), (58, opQ F58)] 57 = some (opQ F57) := rfl
 have s58 : tabL [(55, opQ F55), (56, opQ F56), (57, opQ F57), (58, opQ F58)] 58 = some (opQ F58) := rfl
 generalize tabL [(55, opQ F55), (56, opQ F56), (57, opQ F57), (58, opQ F58)] = S at hS s55 s56 s57 s58
 refine opn_ok2 (S := S) hS hb.f59 (opQ_loc _) (fun ds m fr d u h hfr => ?_)
 obtain ⟨r, rest, b, b', rfl, hr, hF, rfl⟩ := opQ_inv h
 unfold F59 at hF
 split at hF
 ·rename_i v
  split at hF
  ·rename_i hv
   refine ⟨by simp, ?_⟩
   clear h
   have hne : (0 :: fr) ≠ r := fun e => by
    have := hfr (0 :: fr) 0 (List.suffix_cons 0 fr)
    rw [e, hr] at this; cases this
   have hr0 : (r = 0 :: fr) = False := eq_false (fun e => hne e.symm)
   have hr1 : (0 :: fr = r) = False := eq_false hne
   have c7 : ((7 : Nat) : Int) = 7 := rfl
   unfold dc59
   cases hl : dList v with
   | none =>
    rw [hl] at hF
    simp only [Option.some.injEq, Prod.mk.injEq] at hF
    obtain ⟨rfl, rfl⟩ := hF
    have f57 : F57 b [v] = some (.slice true [] [], true) := by simp only [F57, hl]; rw [if_pos hv]; simp
    have c0 : ((0 : Nat) : Int) = 0 := rfl
    simp only [↓go1, gB0, ↓x_tass, reduceIte, Nat.reduceEqDiff, Nat.reduceAdd, Nat.reduceSub, Nat.reduceLT, Nat.reduceLeDiff, put1_rd, rd_zero, rd_succ, gB1, reduceCtorEq, ldD_agg, gB3, rowU_op, drawnU_op, data_if, cells_if, un_if, calm_if, calm1_if, data_ni, cells_ni, un_ni, calm_ni, calm1_ni, c0, fill_nil, callK_fn s55, callK_fn s56, callK_fn s57, callK_fn s58, c7, Int.reduceEq, Int.reduceToNat, Int.reduceLE, opU_rd, hr, hr0, hr1, List.map_cons, List.map_nil, put_rd, res_cell]
    refine got_op (by simp [put_rd, hr, hr0]) f57 ?_
    simp only [↓go1, gB0, ↓x_tass, reduceIte, Nat.reduceEqDiff, Nat.reduceAdd, Nat.reduceSub, Nat.reduceLT, Nat.reduceLeDiff, put1_rd, rd_zero, rd_succ, gB1, reduceCtorEq, ldD_agg, gB3, rowU_op, drawnU_op, data_if, cells_if, un_if, calm_if, calm1_if, data_ni, cells_ni, un_ni, calm_ni, calm1_ni, c0, fill_nil, callK_fn s55, callK_fn s56, callK_fn s57, callK_fn s58, c7, Int.reduceEq, Int.reduceToNat, Int.reduceLE, opU_rd, hr, hr0, hr1, List.map_cons, List.map_nil, put_rd, res_cell]
    refine ⟨rfl, fun i o x hx => ?_⟩
    by_cases e : i = 0 :: fr
    ·have h1 : ¬ (i = r ∧ o < 1) := fun q => hne (e.symm.trans q.1)
     rw [if_neg h1, hfr i o (e ▸ List.suffix_cons 0 fr)] at hx; cases hx
    ·by_cases q2 : i = r ∧ o = 0
     ·obtain ⟨rfl, rfl⟩ := q2
      simpa [hr0] using hx
     ·have q1 : ¬ (i = r ∧ o < 1) := fun q => q2 ⟨q.1, by omega⟩
      simp only [e, q1, q2, if_false, false_and] at hx ⊢
      exact hx
   | some xs =>
    rw [hl] at hF
    have f57 : F57 b [v] = some (.slice false [] xs, b) := by simp only [F57, hl]; rw [if_pos hv]; simp
    by_cases h7 : xs.length = 7
    ·match xs, h7 with
     | [x0, x1, x2, x3, x4, x5, x6], _ =>
      simp only at hF
      split at hF
      ·rename_i hvs
       simp only [ne_eq, Bool.and_eq_true] at hvs
       obtain ⟨⟨⟨⟨⟨⟨v0, v1⟩, v2⟩, v3⟩, v4⟩, v5⟩, v6⟩ := hvs
       split at hF
       ·rename_i n0 b0 g0
        split at hF
        ·rename_i n1 b1 g1
         split at hF
         ·rename_i n2 b2 g2
          split at hF
          ·rename_i n3 b3 g3
           split at hF
           ·rename_i t b4 g4
            split at hF
            ·rename_i s b5 g5
             split at hF
             ·rename_i s' b6 g6
              simp only [Option.some.injEq, Prod.mk.injEq] at hF
              obtain ⟨rfl, rfl⟩ := hF
              have w0 := (val_cells v0).2.2.1
              have w1 := (val_cells v1).2.2.1
              have w2 := (val_cells v2).2.2.1
              have w3 := (val_cells v3).2.2.1
              have w4 := (val_cells v4).2.2.1
              have w5 := (val_cells v5).2.2.1
              have w6 := (val_cells v6).2.2.1
              have hfill : ∀ (p q r u : Int) (s s' : Bs) (o : Bool), fillD [.int .i64 0, .str [], .str [], .int .i64 0, .int .i64 0, .int .i64 0, .bool false] [(4, 1, .int .i64 p), (0, 1, .int .i64 q), (3, 1, .int .i64 r), (5, 1, .int .i64 u), (6, 1, .bool o), (1, 1, .str s), (2, 1, .str s')] = some [.int .i64 q, .str s, .str s', .int .i64 r, .int .i64 p, .int .i64 u, .bool o] := fun p q r u s s' o => rfl
              simp only [↓go1, gB0, ↓x_tass, reduceIte, Nat.reduceEqDiff, Nat.reduceAdd, Nat.reduceSub, Nat.reduceLT, Nat.reduceLeDiff, put1_rd, rd_zero, rd_succ, gB1, reduceCtorEq, ldD_agg, gB3, rowU_op, drawnU_op, data_if, cells_if, un_if, calm_if, calm1_if, data_ni, cells_ni, un_ni, calm_ni, calm1_ni, callK_fn s55, callK_fn s56, callK_fn s57, callK_fn s58, c7, Int.reduceEq, Int.reduceToNat, Int.reduceLE, opU_rd, hr, hr0, hr1, w0, w1, w2, w3, w4, w5, w6, hfill, List.map_cons, List.map_nil, put_rd, res_cell]
              refine got_op (by simp [put_rd, hr, hr0]) f57 ?_
              simp only [↓go1, gB0, ↓x_tass, reduceIte, Nat.reduceEqDiff, Nat.reduceAdd, Nat.reduceSub, Nat.reduceLT, Nat.reduceLeDiff, put1_rd, rd_zero, rd_succ, gB1, reduceCtorEq, ldD_agg, gB3, rowU_op, drawnU_op, data_if, cells_if, un_if, calm_if, calm1_if, data_ni, cells_ni, un_ni, calm_ni, calm1_ni, callK_fn s55, callK_fn s56, callK_fn s57, callK_fn s58, c7, Int.reduceEq, Int.reduceToNat, Int.reduceLE, opU_rd, hr, hr0, hr1, w0, w1, w2, w3, w4, w5, w6, hfill, List.map_cons, List.map_nil, put_rd, res_cell]
              refine got_op (by simp [opU_rd]) g0 ?_
              simp only [↓go1, gB0, ↓x_tass, reduceIte, Nat.reduceEqDiff, Nat.reduceAdd, Nat.reduceSub, Nat.reduceLT, Nat.reduceLeDiff, put1_rd, rd_zero, rd_succ, gB1, reduceCtorEq, ldD_agg, gB3, rowU_op, drawnU_op, data_if, cells_if, un_if, calm_if, calm1_if, data_ni, cells_ni, un_ni, calm_ni, calm1_ni, callK_fn s55, callK_fn s56, callK_fn s57, callK_fn s58, c7, Int.reduceEq, Int.reduceToNat, Int.reduceLE, opU_rd, hr, hr0, hr1, w0, w1, w2, w3, w4, w5, w6, hfill, List.map_cons, List.map_nil, put_rd, res_cell]
              refine got_op (by simp [opU_rd]) g1 ?_
              simp only [↓go1, gB0, ↓x_tass, reduceIte, Nat.reduceEqDiff, Nat.reduceAdd, Nat.reduceSub, Nat.reduceLT, Nat.reduceLeDiff, put1_rd, rd_zero, rd_succ, gB1, reduceCtorEq, ldD_agg, gB3, rowU_op, drawnU_op, data_if, cells_if, un_if, calm_if, calm1_if, data_ni, cells_ni, un_ni, calm_ni, calm1_ni, callK_fn s55, callK_fn s56, callK_fn s57, callK_fn s58, c7, Int.reduceEq, Int.reduceToNat, Int.reduceLE, opU_rd, hr, hr0, hr1, w0, w1, w2, w3, w4, w5, w6, hfill, List.map_cons, List.map_nil, put_rd, res_cell]
              refine got_op (by simp [opU_rd]) g2 ?_
              simp only [↓go1, gB0, ↓x_tass, reduceIte, Nat.reduceEqDiff, Nat.reduceAdd, Nat.reduceSub, Nat.reduceLT, Nat.reduceLeDiff, put1_rd, rd_zero, rd_succ, gB1, reduceCtorEq, ldD_agg, gB3, rowU_op, drawnU_op, data_if, cells_if, un_if, calm_if, calm1_if, data_ni, cells_ni, un_ni, calm_ni, calm1_ni, callK_fn s55, callK_fn s56, callK_fn s57, callK_fn s58, c7, Int.reduceEq, Int.reduceToNat, Int.reduceLE, opU_rd, hr, hr0, hr1, w0, w1, w2, w3, w4, w5, w6, hfill, List.map_cons, List.map_nil, put_rd, res_cell]
              refine got_op (by simp [opU_rd]) g3 ?_
              simp only [↓go1, gB0, ↓x_tass, reduceIte, Nat.reduceEqDiff, Nat.reduceAdd, Nat.reduceSub, Nat.reduceLT, Nat.reduceLeDiff, put1_rd, rd_zero, rd_succ, gB1, reduceCtorEq, ldD_agg, gB3, rowU_op, drawnU_op, data_if, cells_if, un_if, calm_if, calm1_if, data_ni, cells_ni, un_ni, calm_ni, calm1_ni, callK_fn s55, callK_fn s56, callK_fn s57, callK_fn s58, c7, Int.reduceEq, Int.reduceToNat, Int.reduceLE, opU_rd, hr, hr0, hr1, w0, w1, w2, w3, w4, w5, w6, hfill, List.map_cons, List.map_nil, put_rd, res_cell]
              refine got_op (by simp [opU_rd]) g4 ?_
              simp only [↓go1, gB0, ↓x_tass, reduceIte, Nat.reduceEqDiff, Nat.reduceAdd, Nat.reduceSub, Nat.reduceLT, Nat.reduceLeDiff, put1_rd, rd_zero, rd_succ, gB1, reduceCtorEq, ldD_agg, gB3, rowU_op, drawnU_op, data_if, cells_if, un_if, calm_if, calm1_if, data_ni, cells_ni, un_ni, calm_ni, calm1_ni, callK_fn s55, callK_fn s56, callK_fn s57, callK_fn s58, c7, Int.reduceEq, Int.reduceToNat, Int.reduceLE, opU_rd, hr, hr0, hr1, w0, w1, w2, w3, w4, w5, w6, hfill, List.map_cons, List.map_nil, put_rd, res_cell]
              refine got_op (by simp [opU_rd]) g5 ?_
              simp only [↓go1, gB0, ↓x_tass, reduceIte, Nat.reduceEqDiff, Nat.reduceAdd, Nat.reduceSub, Nat.reduceLT, Nat.reduceLeDiff, put1_rd, rd_zero, rd_succ, gB1, reduceCtorEq, ldD_agg, gB3, rowU_op, drawnU_op, data_if, cells_if, un_if, calm_if, calm1_if, data_ni, cells_ni, un_ni, calm_ni, calm1_ni, callK_fn s55, callK_fn s56, callK_fn s57, callK_fn s58, c7, Int.reduceEq, Int.reduceToNat, Int.reduceLE, opU_rd, hr, hr0, hr1, w0, w1, w2, w3, w4, w5, w6, hfill, List.map_cons, List.map_nil, put_rd, res_cell]
              refine got_op (by simp [opU_rd]) g6 ?_
              simp only [↓go1, gB0, ↓x_tass, reduceIte, Nat.reduceEqDiff, Nat.reduceAdd, Nat.reduceSub, Nat.reduceLT, Nat.reduceLeDiff, put1_rd, rd_zero, rd_succ, gB1, reduceCtorEq, ldD_agg, gB3, rowU_op, drawnU_op, data_if, cells_if, un_if, calm_if, calm1_if, data_ni, cells_ni, un_ni, calm_ni, calm1_ni, callK_fn s55, callK_fn s56, callK_fn s57, callK_fn s58, c7, Int.reduceEq, Int.reduceToNat, Int.reduceLE, opU_rd, hr, hr0, hr1, w0, w1, w2, w3, w4, w5, w6, hfill, List.map_cons, List.map_nil, put_rd, res_cell]
              refine Need.intro (fun p hp w hw' => ?_) ?_
              ·simp only [List.mem_cons, List.mem_nil_iff, or_false] at hp
               repeat' (rcases hp with rfl | hp)
               all_goals (try subst hp)
               all_goals simp only [List.getD_cons_succ, List.getD_cons_zero, wlocs, rds] at hw' ⊢
               all_goals
                simp only [↓go1, gB0, ↓x_tass, reduceIte, Nat.reduceEqDiff, Nat.reduceAdd, Nat.reduceSub, Nat.reduceLT, Nat.reduceLeDiff, put1_rd, rd_zero, rd_succ, gB1, reduceCtorEq, ldD_agg, gB3, rowU_op, drawnU_op, data_if, cells_if, un_if, calm_if, calm1_if, data_ni, cells_ni, un_ni, calm_ni, calm1_ni, callK_fn s55, callK_fn s56, callK_fn s57, callK_fn s58, c7, Int.reduceEq, Int.reduceToNat, Int.reduceLE, opU_rd, hr, hr0, hr1, w0, w1, w2, w3, w4, w5, w6, hfill, List.map_cons, List.map_nil, put_rd, res_cell, List.not_mem_nil]
              simp only [↓go1, gB0, ↓x_tass, reduceIte, Nat.reduceEqDiff, Nat.reduceAdd, Nat.reduceSub, Nat.reduceLT, Nat.reduceLeDiff, put1_rd, rd_zero, rd_succ, gB1, reduceCtorEq, ldD_agg, gB3, rowU_op, drawnU_op, data_if, cells_if, un_if, calm_if, calm1_if, data_ni, cells_ni, un_ni, calm_ni, calm1_ni, callK_fn s55, callK_fn s56, callK_fn s57, callK_fn s58, c7, Int.reduceEq, Int.reduceToNat, Int.reduceLE, opU_rd, hr, hr0, hr1, w0, w1, w2, w3, w4, w5, w6, hfill, List.map_cons, List.map_nil, put_rd, res_cell]
              refine ⟨rfl, fun i o x hx => ?_⟩
              by_cases e : i = 0 :: fr
              ·have h1 : ¬ (i = r ∧ o < 1) := fun q => hne (e.symm.trans q.1)
               rw [if_neg h1, hfr i o (e ▸ List.suffix_cons 0 fr)] at hx; cases hx
              ·by_cases q2 : i = r ∧ o = 0
               ·obtain ⟨rfl, rfl⟩ := q2
                simpa [hr0] using hx
               ·have q1 : ¬ (i = r ∧ o < 1) := fun q => q2 ⟨q.1, by omega⟩
                simp only [e, q1, q2, if_false, false_and] at hx ⊢
                exact hx
             ·cases hF
            ·cases hF
           ·cases hF
          ·cases hF
         ·cases hF
        ·cases hF
       ·cases hF
      ·cases hF
    ·have hF' : some (dnD ⟨0, [], [], 0, 0, 0, false⟩, true) = some (d, b') := by
      split at hF
      ·rename_i e
       simp only [Option.some.injEq] at e
       rw [e] at h7; simp at h7
      ·rename_i ys _ e
       simp only [Option.some.injEq] at e
       subst e
       rw [if_neg h7] at hF; exact hF
      ·rename_i e; cases e
     simp only [Option.some.injEq, Prod.mk.injEq] at hF'
     obtain ⟨rfl, rfl⟩ := hF'
     have h7' : ((xs.length : Int) = 7) = False := eq_false (by omega)
     simp only [↓go1, gB0, ↓x_tass, reduceIte, Nat.reduceEqDiff, Nat.reduceAdd, Nat.reduceSub, Nat.reduceLT, Nat.reduceLeDiff, put1_rd, rd_zero, rd_succ, gB1, reduceCtorEq, ldD_agg, gB3, rowU_op, drawnU_op, data_if, cells_if, un_if, calm_if, calm1_if, data_ni, cells_ni, un_ni, calm_ni, calm1_ni, h7', fill_nil, callK_fn s55, callK_fn s56, callK_fn s57, callK_fn s58, c7, Int.reduceEq, Int.reduceToNat, Int.reduceLE, opU_rd, hr, hr0, hr1, List.map_cons, List.map_nil, put_rd, res_cell]
     refine got_op (by simp [put_rd, hr, hr0]) f57 ?_
     simp only [↓go1, gB0, ↓x_tass, reduceIte, Nat.reduceEqDiff, Nat.reduceAdd, Nat.reduceSub, Nat.reduceLT, Nat.reduceLeDiff, put1_rd, rd_zero, rd_succ, gB1, reduceCtorEq, ldD_agg, gB3, rowU_op, drawnU_op, data_if, cells_if, un_if, calm_if, calm1_if, data_ni, cells_ni, un_ni, calm_ni, calm1_ni, h7', fill_nil, callK_fn s55, callK_fn s56, callK_fn s57, callK_fn s58, c7, Int.reduceEq, Int.reduceToNat, Int.reduceLE, opU_rd, hr, hr0, hr1, List.map_cons, List.map_nil, put_rd, res_cell]
     refine ⟨rfl, fun i o x hx => ?_⟩
     by_cases e : i = 0 :: fr
     ·have h1 : ¬ (i = r ∧ o < 1) := fun q => hne (e.symm.trans q.1)
      rw [if_neg h1, hfr i o (e ▸ List.suffix_cons 0 fr)] at hx; cases hx
     ·by_cases q2 : i = r ∧ o = 0
      ·obtain ⟨rfl, rfl⟩ := q2
       simpa [hr0] using hx
      ·have q1 : ¬ (i = r ∧ o < 1) := fun q => q2 ⟨q.1, by omega⟩
       simp only [e, q1, q2, if_false, false_and] at hx ⊢
       exact hx
  ·cases hF
 ·cases hF
end Go.Vd

namespace Go.Vd
open Go.RowKit
set_option maxRecDepth 10000
def pairD (p : Bs × D) : D := .agg [.str p.1, p.2]
def pdsOf : List D → Option (List (Bs × D))
 | [] => some []
 | .agg [.str k, y] :: r => if isVal y = true then (pdsOf r).map ((k, y) :: ·) else none
 | _ => none
theorem pdsOf_some : ∀ {xs : List D} {l : List (Bs × D)}, pdsOf xs = some l → xs = l.map pairD ∧ ∀ p ∈ l, isVal p.2 = true
 | [], l, h => by simp only [pdsOf, Option.some.injEq] at h; subst h; simp
 | x :: r, l, h => by
  unfold pdsOf at h
  split at h
  ·rename_i h0; cases h0
  ·rename_i k y r' h0
   simp only [List.cons.injEq] at h0
   obtain ⟨rfl, rfl⟩ := h0
   split at h
   ·rename_i hy
    rw [Option.map_eq_some_iff] at h
    obtain ⟨l', hl, rfl⟩ := h
    obtain ⟨e, hv⟩ := pdsOf_some hl
    refine ⟨by rw [e]; rfl, fun p hp => ?_⟩
    rcases List.mem_cons.1 hp with rfl | hp
    ·exact hy
    ·exact hv p hp
   ·cases h
  ·cases h
def badF (b : Bool) (l : List (Bs × D)) (names : List Bs) : Bool := (l.zip names).foldl (fun b p => b || decide (¬ p.1.1 = p.2)) b
def F54 (b : Bool) : List D → Option (D × Bool)
 | [d, .slice _ _ ns] => match strsOf ns with
  | some names => if isVal d = true ∧ names.length ≤ 1000 then (match dPairs d with
   | some ps => match pdsOf ps with
    | some l => if l.length = names.length then some (.slice false [] (l.map (·.2)), badF b l names) else some (.slice false [] (List.replicate names.length .nilIface), true)
    | none => none
   | none => some (.slice false [] (List.replicate names.length .nilIface), true)) else none
  | none => none
 | _ => none
structure OI (fr r : Id) (m0 m : Mem) (n i : Nat) (ys : List D) (b : Bool) : Prop where
 bad : m r 0 = some (.bool b)
 row : ∀ j, j < n → m (10 :: fr) j = some (if j < i then (ys[j]?).getD .nilIface else .nilIface)
 out : ∀ i o, ¬ fr <:+ i → ¬ (i = r ∧ o = 0) → m i o = m0 i o
section
variable {fr r : Id} {m0 m : Mem} {n i k o : Nat} {ys ds : List D} {b b' : Bool} {y : D}
theorem nsuf {j : Id} (h : ¬ fr <:+ j) : j ≠ k :: fr := fun e => h (e ▸ List.suffix_cons k fr)
theorem OI.put (h : OI fr r m0 m n i ys b) (hr : ¬ fr <:+ r) (hk : k ≠ 10) : OI fr r m0 (m.put (k :: fr) o ds) n i ys b :=
 ⟨by rw [Mem.put_other (nsuf hr)]; exact h.bad, fun j hj => by rw [Mem.put_other (by simp; omega)]; exact h.row j hj,
  fun i' o' h1 h2 => by rw [Mem.put_other (nsuf h1)]; exact h.out i' o' h1 h2⟩
theorem OI.set (h : OI fr r m0 m n i ys b) (hr : ¬ fr <:+ r) : OI fr r m0 (m.put r 0 [.bool b']) n i ys b' := by
 refine ⟨by simp [put1_rd], fun j hj => ?_, fun i' o' h1 h2 => ?_⟩
 ·rw [Mem.put_other (Ne.symm (nsuf hr))]; exact h.row j hj
 ·rw [put1_rd, if_neg h2]; exact h.out i' o' h1 h2
theorem OI.fill (h : OI fr r m0 m n i ys b) (hr : ¬ fr <:+ r) (hy : ys[i]? = some y) (hds : ds = [y]) : OI fr r m0 (m.put (10 :: fr) i ds) n (i + 1) ys b := by
 subst hds
 refine ⟨by rw [Mem.put_other (nsuf hr)]; exact h.bad, fun j hj => ?_, fun i' o' h1 h2 => ?_⟩
 ·rw [put1_rd]
  by_cases e : j = i
  ·rw [if_pos ⟨rfl, e⟩, if_pos (by omega), e, hy]; rfl
  ·rw [if_neg (fun q => e q.2), h.row j hj]
   by_cases hj : j < i
   ·rw [if_pos hj, if_pos (by omega)]
   ·rw [if_neg hj, if_neg (by omega)]
 ·rw [Mem.put_other (nsuf h1)]; exact h.out i' o' h1 h2
theorem OI.fin (h : OI fr r m0 m n i ys b) (hfr : ∀ i o, fr <:+ i → m0 i o = none) : ∀ i o x, Upd.app m0 [(r, 0, [.bool b])] i o = some x → m i o = some x :=
 op_fin h.bad (fun i o hn => by
  by_cases hi : fr <:+ i
  ·exact .inl (hfr i o hi)
  ·exact .inr (h.out i o hi hn))
end
set_option maxHeartbeats 8000000 in
theorem loop54 {S : Summs} {fr r : Id} {m0 : Mem} (hr : ¬ fr <:+ r) {l : List (Bs × D)} {names : List Bs} {b0 : Bool} (hlen : l.length = names.length) (h1000 : names.length ≤ 1000) (hv : ∀ p ∈ l, isVal p.2 = true) {nl nn : Bool} {tl tn : Id} {Q : Ex → St → Prop}
  (hexit : ∀ st, st.s 9 = .row (10 :: fr) names.length → OI fr r m0 st.m names.length names.length (l.map (·.2)) (badF b0 l names) → Q (.exit 0) st) :
  ∀ (k i : Nat) st g, i + k = l.length → st.s 33 = .slice nl tl (l.map pairD) → st.s 34 = .int .i64 (l.length : Int) → st.s 35 = .int .i64 (i : Int) → st.s 0 = .ptr r 0 → st.s 2 = .slice nn tn (names.map .str) → st.s 9 = .row (10 :: fr) names.length → 11 ≤ st.c →
   OI fr r m0 st.m names.length i (l.map (·.2)) (((l.zip names).take i).foldl (fun b p => b || decide (¬ p.1.1 = p.2)) b0) → loopW S fr dc54l0 Q st g := by
 intro k
 induction k with
 | zero =>
  intro i st g hik h33 h34 h35 h0 h2 h9 hc I
  refine wp_loopd dc54l0.eq_1 ?_
  have hlt : ((i : Int) < (l.length : Int)) = False := eq_false (by omega)
  simp only [↓go1, gB0, ↓x_tass, reduceIte, Nat.reduceEqDiff, Nat.reduceAdd, Nat.reduceSub, Nat.reduceLT, Nat.reduceLeDiff, put1_rd, put2_rd, rd_zero, rd_succ, gB1, reduceCtorEq, ldD_agg, gB3, rowU_op, drawnU_op, data_if, cells_if, un_if, calm_if, calm1_if, data_ni, cells_ni, un_ni, calm_ni, calm1_ni, h35, h34, hlt]
  have hz : (l.zip names).length ≤ i := by simp; omega
  rw [List.take_of_length_le hz] at I
  obtain rfl : i = names.length := by omega
  exact hexit _ h9 I
 | succ k ih =>
  intro i st g hik h33 h34 h35 h0 h2 h9 hc I
  refine wp_loopd dc54l0.eq_1 ?_
  have hlt : ((i : Int) < (l.length : Int)) = True := eq_true (by omega)
  have hi0 : ((0 : Int) ≤ (i : Int)) := by omega
  have hil : i < l.length := by omega
  have hin : i < names.length := by omega
  have hin' : ((i : Int) < (names.length : Int)) = True := eq_true (by omega)
  have hw : IntKind.i64.wrap ((i : Int) + 1) = ((i + 1 : Nat) : Int) := by rw [IntWalk.i64_in _ ⟨by omega, by omega⟩]; omega
  have hx : (l.map pairD)[i]? = some (.agg [.str l[i].1, l[i].2]) := by simp [hil, pairD]
  have hn : (names.map D.str)[i]? = some (.str names[i]) := by simp [hin]
  have hti : ((i : Int)).toNat = i := Int.toNat_natCast i
  have hzk : (l.zip names)[i]? = some (l[i], names[i]) := by
   rw [List.getElem?_zip_eq_some]; exact ⟨List.getElem?_eq_getElem hil, List.getElem?_eq_getElem hin⟩
  have htk : (l.zip names).take (i + 1) = (l.zip names).take i ++ [(l[i], names[i])] := by rw [List.take_add_one, hzk]; rfl
  have hys : (l.map (·.2))[i]? = some l[i].2 := by simp [hil]
  obtain ⟨u1, u2, u3, u4⟩ := val_cells (hv l[i] (List.getElem_mem hil))
  have hA : (st.c + 1 + 3) :: fr ≠ r := fun e => hr (e ▸ List.suffix_cons _ fr)
  have hA1 : ((st.c + 1 + 3) :: fr = r) = False := eq_false hA
  have hA2 : (r = (st.c + 1 + 3) :: fr) = False := eq_false (fun e => hA e.symm)
  have hR1 : (10 :: fr = r) = False := eq_false (fun e => hr (e ▸ List.suffix_cons _ fr))
  have hA3 : (10 = st.c + 1 + 3) = False := eq_false (by omega)
  have hA4 : (st.c + 1 + 3 = 10) = False := eq_false (by omega)
  have hrow := I.row i hin
  rw [if_neg (by omega)] at hrow
  have hbad := I.bad
  generalize hbb : ((l.zip names).take i).foldl (fun b p => b || decide (¬ p.1.1 = p.2)) b0 = bb at I hbad
  have hfold : ((l.zip names).take (i + 1)).foldl (fun b p => b || decide (¬ p.1.1 = p.2)) b0 = (bb || decide (¬ l[i].1 = names[i])) := by
   rw [htk, List.foldl_append, hbb]; rfl
  generalize l[i] = p at hx hys u1 u2 u3 u4 hfold
  obtain ⟨kx, y⟩ := p
  simp only at hx hys u1 u2 u3 u4 hfold
  cases bb
  ·simp only [↓go1, gB0, ↓x_tass, reduceIte, Nat.reduceEqDiff, Nat.reduceAdd, Nat.reduceSub, Nat.reduceLT, Nat.reduceLeDiff, put1_rd, put2_rd, rd_zero, rd_succ, gB1, reduceCtorEq, ldD_agg, gB3, rowU_op, drawnU_op, data_if, cells_if, un_if, calm_if, calm1_if, data_ni, cells_ni, un_ni, calm_ni, calm1_ni, h35, h34, h33, h0, h2, h9, hlt, hi0, hx, hn, hw, hti, hin', hA1, hA2, hA3, hA4, hR1, hrow, hbad, u1, u2, u3, u4]
   refine Need.intro (fun p hp => by cases hp) ?_
   simp only [↓go1, gB0, ↓x_tass, reduceIte, Nat.reduceEqDiff, Nat.reduceAdd, Nat.reduceSub, Nat.reduceLT, Nat.reduceLeDiff, put1_rd, put2_rd, rd_zero, rd_succ, gB1, reduceCtorEq, ldD_agg, gB3, rowU_op, drawnU_op, data_if, cells_if, un_if, calm_if, calm1_if, data_ni, cells_ni, un_ni, calm_ni, calm1_ni, h35, h34, h33, h0, h2, h9, hlt, hi0, hx, hn, hw, hti, hin', hA1, hA2, hA3, hA4, hR1, hrow, hbad, u1, u2, u3, u4]
   refine ih (i + 1) _ _ (by omega) h33 h34 rfl h0 h2 h9 (by simp only; omega) ?_
   rw [hfold, Bool.false_or]
   exact OI.fill (OI.set (OI.put (OI.put I hr (by omega)) hr (by omega)) hr) hr hys u3
  ·simp only [↓go1, gB0, ↓x_tass, reduceIte, Nat.reduceEqDiff, Nat.reduceAdd, Nat.reduceSub, Nat.reduceLT, Nat.reduceLeDiff, put1_rd, put2_rd, rd_zero, rd_succ, gB1, reduceCtorEq, ldD_agg, gB3, rowU_op, drawnU_op, data_if, cells_if, un_if, calm_if, calm1_if, data_ni, cells_ni, un_ni, calm_ni, calm1_ni, h35, h34, h33, h0, h2, h9, hlt, hi0, hx, hn, hw, hti, hin', hA1, hA2, hA3, hA4, hR1, hrow, hbad, u1, u2, u3, u4]
   refine Need.intro (fun p hp => by cases hp) ?_
   simp only [↓go1, gB0, ↓x_tass, reduceIte, Nat.reduceEqDiff, Nat.reduceAdd, Nat.reduceSub, Nat.reduceLT, Nat.reduceLeDiff, put1_rd, put2_rd, rd_zero, rd_succ, gB1, reduceCtorEq, ldD_agg, gB3, rowU_op, drawnU_op, data_if, cells_if, un_if, calm_if, calm1_if, data_ni, cells_ni, un_ni, calm_ni, calm1_ni, h35, h34, h33, h0, h2, h9, hlt, hi0, hx, hn, hw, hti, hin', hA1, hA2, hA3, hA4, hR1, hrow, hbad, u1, u2, u3, u4]
   refine ih (i + 1) _ _ (by omega) h33 h34 rfl h0 h2 h9 (by simp only; omega) ?_
   rw [hfold, Bool.true_or]
   exact OI.fill (OI.set (OI.put (OI.put I hr (by omega)) hr (by omega)) hr) hr hys u3
theorem dPairs_inv {d : D} {xs : List D} (h : dPairs d = some xs) : d = .iface 85 (.slice false [] xs) := by
 unfold dPairs at h
 split at h
 ·simp only [Option.some.injEq] at h; rw [h]
 ·cases h
theorem rep_rd {fr r : Id} {m : Mem} {n : Nat} {b : Bool} (hr : ¬ fr <:+ r) (hb : m r 0 = some (.bool b)) : OI fr r m (m.put (10 :: fr) 0 (List.replicate n .nilIface)) n 0 [] b := by
 refine ⟨by rw [Mem.put_other (nsuf hr)]; exact hb, fun j hj => ?_, fun i o h1 h2 => Mem.put_other (nsuf h1)⟩
 rw [put_rd, if_pos ⟨rfl, by omega, by simp; omega⟩, if_neg (by omega)]
 simp [hj]
theorem OI.ys {fr r : Id} {m0 m : Mem} {n : Nat} {ys ys' : List D} {b : Bool} (h : OI fr r m0 m n 0 ys b) : OI fr r m0 m n 0 ys' b :=
 ⟨h.bad, fun j hj => by rw [h.row j hj, if_neg (by omega), if_neg (by omega)], h.out⟩
set_option maxHeartbeats 8000000 in
theorem ok54 {P : Program} (hb : DeskB P) : (opQ F54).ok P 54 := by
 refine opn_row (S := fun _ => none) none_ok hb.f54 (opQ_loc _) (fun ds m fr d u h hfr => ?_)
 obtain ⟨r, rest, b, b', rfl, hbr, hF, rfl⟩ := opQ_inv h
 have hr : ¬ fr <:+ r := fun e => by rw [hfr r 0 e] at hbr; cases hbr
 unfold F54 at hF
 split at hF
 ·rename_i v nn tn ns
  split at hF
  ·rename_i names hns
   obtain rfl := strsOf_some hns
   split at hF
   ·rename_i hc
    obtain ⟨hv, h1000⟩ := hc
    have hu : ∀ p ∈ ([(r, 0, [D.bool b'])] : Upd), ¬ fr <:+ p.1 ∧ ∀ x ∈ p.2.2, x.calm1 = true := by
     intro p hp
     simp only [List.mem_singleton] at hp
     subst hp
     exact ⟨hr, fun x hx => by simp only [List.mem_singleton] at hx; rw [hx]; rfl⟩
    have hR1 : (10 :: fr = r) = False := eq_false (fun e => hr (e ▸ List.suffix_cons _ fr))
    have hR2 : (r = 10 :: fr) = False := eq_false (fun e => hr (e.symm ▸ List.suffix_cons _ fr))
    have hn0 : ((0 : Int) ≤ (names.length : Int)) := by omega
    have hnb : ((names.length : Int) * (((16 : Nat) : Int) + 1) ≤ 140737488355328) = True := eq_true (by omega)
    have hnn : ((names.length : Int) ≤ (names.length : Int)) = True := eq_true (Int.le_refl _)
    have hnt : ((names.length : Int)).toNat = names.length := by omega
    have I0 : OI fr r m (m.put (10 :: fr) 0 (List.replicate names.length .nilIface)) names.length 0 [] b := rep_rd hr hbr
    clear h
    have bare : ∀ (b'' : Bool) (m' : Mem) (xs : List D), xs.length = names.length → OI fr r m m' names.length names.length xs b'' → ∃ i, D.row (10 :: fr) names.length = .row i xs.length ∧ fr <:+ i ∧ (∀ (j : Nat) x, xs[j]? = some x → m' i j = some x) ∧ ∀ i o x, Upd.app m [(r, 0, [.bool b''])] i o = some x → m' i o = some x := by
     intro b'' m' xs hl I
     refine ⟨10 :: fr, by rw [hl], List.suffix_cons _ fr, fun j x hx => ?_, I.fin hfr⟩
     have hj : j < names.length := by rw [← hl]; exact (List.getElem?_eq_some_iff.1 hx).1
     rw [I.row j hj, if_pos hj, hx]; rfl
    have wrong : dPairs v = none ∨ (∃ l : List (Bs × D), dPairs v = some (l.map pairD) ∧ l.length ≠ names.length) → dc54.wp (fun _ => none) fr (Ends [.t 6] fun d m' => ∃ i, d = .row i (List.replicate names.length D.nilIface).length ∧ fr <:+ i ∧ (∀ (j : Nat) x, (List.replicate names.length D.nilIface)[j]? = some x → m' i j = some x) ∧ ∀ i o x, Upd.app m [(r, 0, [.bool true])] i o = some x → m' i o = some x) ⟨entryS [.ptr r 0, v, .slice nn tn (names.map .str)], m, 0⟩ := by
     intro hw
     have fin : ∀ m', OI fr r m m' names.length 0 [] true → ∃ i, D.row (10 :: fr) names.length = .row i (List.replicate names.length D.nilIface).length ∧ fr <:+ i ∧ (∀ (j : Nat) x, (List.replicate names.length D.nilIface)[j]? = some x → m' i j = some x) ∧ ∀ i o x, Upd.app m [(r, 0, [.bool true])] i o = some x → m' i o = some x := by
      intro m' I
      refine ⟨10 :: fr, by simp, List.suffix_cons _ fr, fun j x hx => ?_, I.fin hfr⟩
      have hj : j < names.length := by have := (List.getElem?_eq_some_iff.1 hx).1; simpa using this
      rw [I.row j hj, if_neg (by omega)]
      have : x = D.nilIface := List.eq_of_mem_replicate (List.mem_of_getElem? hx)
      rw [this]
     unfold dc54
     rcases hw with hw | ⟨l, hw, hne⟩
     ·rcases isVal_inv hv with rfl | ⟨_, rfl⟩ | ⟨_, rfl⟩ | ⟨_, rfl⟩ | ⟨_, rfl⟩ | ⟨_, rfl⟩
      all_goals first
       | (simp [dPairs] at hw; done)
       | skip
      all_goals
       simp only [↓go1, gB0, ↓x_tass, reduceIte, Nat.reduceEqDiff, Nat.reduceAdd, Nat.reduceSub, Nat.reduceLT, Nat.reduceLeDiff, put1_rd, put2_rd, rd_zero, rd_succ, gB1, reduceCtorEq, ldD_agg, gB3, rowU_op, drawnU_op, data_if, cells_if, un_if, calm_if, calm1_if, data_ni, cells_ni, un_ni, calm_ni, calm1_ni, tassV, hbr, hn0, hnb, hnn, hnt, hR1, hR2, Mem.put_other (nsuf hr)]
       simpa only [put1_rd, app_nil, app_cons] using fin _ (OI.set I0 hr)
     ·obtain rfl := dPairs_inv hw
      have hne' : ((l.length : Int) = (names.length : Int)) = False := eq_false (by omega)
      simp only [↓go1, gB0, ↓x_tass, reduceIte, Nat.reduceEqDiff, Nat.reduceAdd, Nat.reduceSub, Nat.reduceLT, Nat.reduceLeDiff, put1_rd, put2_rd, rd_zero, rd_succ, gB1, reduceCtorEq, ldD_agg, gB3, rowU_op, drawnU_op, data_if, cells_if, un_if, calm_if, calm1_if, data_ni, cells_ni, un_ni, calm_ni, calm1_ni, tassV, hbr, hn0, hnb, hnn, hnt, hR1, hR2, hne', Mem.put_other (nsuf hr)]
      simpa only [put1_rd, app_nil, app_cons] using fin _ (OI.set I0 hr)
    have wrongF : some (D.slice false [] (List.replicate names.length D.nilIface), true) = some (d, b') → (dPairs v = none ∨ (∃ l : List (Bs × D), dPairs v = some (l.map pairD) ∧ l.length ≠ names.length)) →
      [D.ptr r 0, v, D.slice nn tn (names.map .str)].length ≤ 63 ∧ (∀ p ∈ ([(r, 0, [D.bool b'])] : Upd), ¬ fr <:+ p.1 ∧ ∀ x ∈ p.2.2, x.calm1 = true) ∧ ∃ xs, d = .slice false [] xs ∧ (∀ x ∈ xs, x.calm = true ∧ x.cells = [x]) ∧
       dc54.wp (fun _ => none) fr (Ends [.t 6] fun d m' => ∃ i, d = .row i xs.length ∧ fr <:+ i ∧ (∀ (j : Nat) x, xs[j]? = some x → m' i j = some x) ∧ ∀ i o x, Upd.app m [(r, 0, [.bool b'])] i o = some x → m' i o = some x) ⟨entryS [.ptr r 0, v, .slice nn tn (names.map .str)], m, 0⟩ := by
     intro e hw
     simp only [Option.some.injEq, Prod.mk.injEq] at e
     obtain ⟨rfl, rfl⟩ := e
     refine ⟨by simp, hu, _, rfl, fun x hx => ?_, wrong hw⟩
     rw [List.eq_of_mem_replicate hx]; exact ⟨rfl, rfl⟩
    split at hF
    ·rename_i ps hps
     split at hF
     ·rename_i l hl
      obtain ⟨rfl, hvs⟩ := pdsOf_some hl
      split at hF
      ·rename_i hlen
       simp only [Option.some.injEq, Prod.mk.injEq] at hF
       obtain ⟨rfl, rfl⟩ := hF
       refine ⟨by simp, hu, _, rfl, fun x hx => ?_, ?_⟩
       ·obtain ⟨p, hp, rfl⟩ := List.mem_map.1 hx
        exact ⟨(val_cells (hvs p hp)).2.1, (val_cells (hvs p hp)).2.2.1⟩
       ·obtain rfl := dPairs_inv hps
        have heq : ((l.length : Int) = (names.length : Int)) = True := eq_true (by omega)
        unfold dc54
        simp only [↓go1, gB0, ↓x_tass, reduceIte, Nat.reduceEqDiff, Nat.reduceAdd, Nat.reduceSub, Nat.reduceLT, Nat.reduceLeDiff, put1_rd, put2_rd, rd_zero, rd_succ, gB1, reduceCtorEq, ldD_agg, gB3, rowU_op, drawnU_op, data_if, cells_if, un_if, calm_if, calm1_if, data_ni, cells_ni, un_ni, calm_ni, calm1_ni, tassV, hbr, hn0, hnb, hnn, hnt, hR1, hR2, heq, Mem.put_other (nsuf hr)]
        refine loop54 (m0 := m) hr (l := l) (names := names) (b0 := b) hlen h1000 hvs (fun st h9 I => ?_) l.length 0 _ _ (by omega) rfl rfl rfl rfl rfl rfl (by simp only; omega) I0.ys
        simp only [↓go1, gB0, ↓x_tass, reduceIte, Nat.reduceEqDiff, Nat.reduceAdd, Nat.reduceSub, Nat.reduceLT, Nat.reduceLeDiff, put1_rd, put2_rd, rd_zero, rd_succ, gB1, reduceCtorEq, ldD_agg, gB3, rowU_op, drawnU_op, data_if, cells_if, un_if, calm_if, calm1_if, data_ni, cells_ni, un_ni, calm_ni, calm1_ni, h9]
        have := bare _ _ (l.map (·.2)) (by simp [hlen]) I
        simpa only [put1_rd, app_nil, app_cons, List.length_map] using this
      ·rename_i hlen
       exact wrongF hF (.inr ⟨l, hps, hlen⟩)
     ·cases hF
    ·rename_i hps
     exact wrongF hF (.inl hps)
   ·cases hF
  ·cases hF
 ·cases hF
end Go.Vd

namespace Go.Vd
open Go.RowKit
theorem beN_from (l : Bs) : ∀ a : Nat, l.foldl (fun n b => 256 * n + b.toNat) a = a * 256 ^ l.length + beN l := by
 induction l with
 | nil => intro a; simp [beN]
 | cons b r ih =>
  intro a
  simp only [List.foldl_cons, beN, List.length_cons]
  rw [ih (256 * a + b.toNat), ih (256 * 0 + b.toNat)]
  simp only [Nat.pow_succ, Nat.add_mul, Nat.mul_zero, Nat.zero_add]
  rw [Nat.mul_comm 256 a, Nat.mul_assoc, Nat.mul_comm 256 (256 ^ r.length)]
  omega
theorem beN_cons (b : UInt8) (r : Bs) : beN (b :: r) = b.toNat * 256 ^ r.length + beN r := by
 have := beN_from r (256 * 0 + b.toNat)
 simp only [beN, List.foldl_cons] at this ⊢
 rw [this]; simp
theorem pow256 (k : Nat) : (2 : Int) ^ (8 * k) = ((256 ^ k : Nat) : Int) := by
 rw [Int.pow_mul]; simp
theorem byte_nat (n k : Nat) : (((n : Int).fdiv (2 ^ (8 * k))) % 256).toNat = n / 256 ^ k % 256 := by
 rw [pow256, Int.fdiv_eq_ediv_of_nonneg _ (Int.natCast_nonneg _)]
 omega
theorem beN_beB : ∀ (k n : Nat), beN (beB k (n : Int)) = n % 256 ^ k
 | 0, n => by simp [beB, beN, Nat.mod_one]
 | k + 1, n => by
  simp only [beB]
  rw [beN_cons, beB_len, beN_beB k n, byte_nat]
  have h1 : (UInt8.ofNat (n / 256 ^ k % 256)).toNat = n / 256 ^ k % 256 := by
   rw [UInt8.toNat_ofNat']; omega
  rw [h1, Nat.mod_pow_succ, Nat.mul_comm (256 ^ k)]; omega
theorem beB_beN (l : Bs) : beB l.length (beN l : Int) = l := by
 have inj : ∀ {a b : Bs}, a.length = b.length → beN a = beN b → a = b := by
  intro a
  induction a with
  | nil => intro b hl _; exact (List.eq_nil_of_length_eq_zero hl.symm).symm
  | cons x r ih =>
   intro b hl he
   cases b with
   | nil => simp at hl
   | cons y r' =>
    simp only [List.length_cons, Nat.add_right_cancel_iff] at hl
    rw [beN_cons, beN_cons, hl] at he
    have h1 := beN_lt r
    have h2 := beN_lt r'
    rw [hl] at h1
    have p : 0 < 256 ^ r'.length := Nat.pos_of_ne_zero (by simp)
    have hx : x.toNat = y.toNat := by
     have e1 : (x.toNat * 256 ^ r'.length + beN r) / 256 ^ r'.length = x.toNat := by
      rw [Nat.mul_comm, Nat.mul_add_div p, Nat.div_eq_of_lt h1]; rfl
     have e2 : (y.toNat * 256 ^ r'.length + beN r') / 256 ^ r'.length = y.toNat := by
      rw [Nat.mul_comm, Nat.mul_add_div p, Nat.div_eq_of_lt h2]; rfl
     rw [← e1, he, e2]
    have : x = y := UInt8.toNat_inj.1 hx
    subst this
    rw [ih hl (by omega)]
 refine inj (by rw [beB_len]) ?_
 rw [beN_beB, Nat.mod_eq_of_lt (beN_lt l)]
def Sc.rest (c : Sc) : Bs := c.s.drop c.at_
def Sc.adv (c : Sc) (k : Nat) : Sc := { c with at_ := c.at_ + k }
structure Sc.on (c : Sc) (w : Bs) : Prop where
 ok : c.bad = 0
 le : c.at_ ≤ c.s.length
 is : c.rest = w
theorem Sc.on.len {c : Sc} {w : Bs} (h : c.on w) : c.s.length - c.at_ = w.length := by
 have := congrArg List.length h.is
 simpa [Sc.rest] using this
theorem Sc.on.adv {c : Sc} {w r : Bs} (h : c.on (w ++ r)) : (c.adv w.length).on r := by
 have hl := h.len
 have hle := h.le
 simp only [List.length_append] at hl
 refine ⟨h.ok, by simp only [Sc.adv]; omega, ?_⟩
 have := h.is
 simp only [Sc.rest, Sc.adv] at this ⊢
 rw [← List.drop_drop, this, List.drop_left]
theorem adv_adv (c : Sc) (a b : Nat) : (c.adv a).adv b = c.adv (a + b) := by simp [Sc.adv, Nat.add_assoc]
theorem adv_zero (c : Sc) : c.adv 0 = c := rfl
theorem num_ok {c : Sc} {w r : Bs} (h : c.on (w ++ r)) : numS w.length c = (beN w, c.adv w.length) := by
 have hl := h.len
 simp only [List.length_append] at hl
 unfold numS
 rw [if_neg (by simp [h.ok]), if_neg (by omega)]
 have : c.s.drop c.at_ = w ++ r := h.is
 rw [this, List.take_left]; rfl
theorem num_ok1 {c : Sc} {b : UInt8} {r : Bs} (h : c.on (b :: r)) : numS 1 c = (b.toNat, c.adv 1) := by
 have := num_ok (w := [b]) (r := r) h
 simpa [beN] using this
theorem row_ok {c : Sc} {s r : Bs} (hs : s.length ≤ 65535) (h : c.on (rowB s ++ r)) : rowS c = (s, c.adv (rowB s).length) := by
 have h1 : c.on (beB 2 (s.length : Int) ++ (s ++ r)) := by simpa only [rowB, List.append_assoc] using h
 have n1 := num_ok h1
 have a1 := h1.adv
 rw [beB_len] at n1 a1
 have e : beN (beB 2 (s.length : Int)) = s.length := by rw [beN_beB, Nat.mod_eq_of_lt (by omega)]
 rw [e] at n1
 have hl := a1.len
 simp only [List.length_append] at hl
 unfold rowS
 rw [n1]
 simp only
 rw [if_neg (by simp [a1.ok]), if_neg (by omega)]
 have hi : (c.adv 2).s.drop (c.adv 2).at_ = s ++ r := a1.is
 rw [hi, List.take_left]
 simp [Sc.adv, rowB, beB_len, Nat.add_assoc]
mutual
def Tr.lev : Nat → Tr → Bool
 | 0, .list _ => false
 | 0, .pairs _ => false
 | n + 1, .list l => Tr.levL n l
 | n + 1, .pairs l => Tr.levP n l
 | _, _ => true
def Tr.levL : Nat → List Tr → Bool
 | _, [] => true
 | n, v :: r => Tr.lev n v && Tr.levL n r
def Tr.levP : Nat → List (Bs × Tr) → Bool
 | _, [] => true
 | n, (_, v) :: r => Tr.lev n v && Tr.levP n r
end
def Takes (n : Nat) (f : Sc → Tr × Sc) : Prop := ∀ (v : Tr) (c : Sc) (r : Bs), v.fit = true → v.good = true → v.lev n = true → c.on (v.enc ++ r) → f c = (v, c.adv v.enc.length)
theorem items_ok {n : Nat} {f : Sc → Tr × Sc} (hf : Takes n f) : ∀ (l acc : List Tr) (c : Sc) (r : Bs), Tr.fitL l = true → Tr.goodL l = true → Tr.levL n l = true → c.on (Tr.encL l ++ r) → itemsL f l.length acc c = (.list (acc ++ l), c.adv (Tr.encL l).length)
 | [], acc, c, r, _, _, _, _ => by simp [itemsL, Tr.encL, adv_zero]
 | v :: l, acc, c, r, h1, h2, h3, h => by
  simp only [Tr.fitL, Tr.goodL, Tr.levL, Bool.and_eq_true] at h1 h2 h3
  have h' : c.on (v.enc ++ (Tr.encL l ++ r)) := by simpa only [Tr.encL, List.append_assoc] using h
  have e := hf v c _ h1.1 h2.1 h3.1 h'
  simp only [List.length_cons, itemsL]
  rw [if_neg (by simp [h.ok]), e]
  simp only
  rw [items_ok hf l _ _ r h1.2 h2.2 h3.2 h'.adv, adv_adv]
  simp [Tr.encL, List.append_assoc]
theorem kidsA_ok {n : Nat} {f : Sc → Tr × Sc} (hf : Takes n f) : ∀ (l acc : List Tr) (c : Sc) (r : Bs), Tr.fitL l = true → Tr.goodL l = true → Tr.levL n l = true → c.on (Tr.encL l ++ r) → kidsA f l.length acc c = (.list (acc ++ l), c.adv (Tr.encL l).length)
 | [], acc, c, r, _, _, _, _ => by simp [kidsA, Tr.encL, adv_zero]
 | v :: l, acc, c, r, h1, h2, h3, h => by
  simp only [Tr.fitL, Tr.goodL, Tr.levL, Bool.and_eq_true] at h1 h2 h3
  have h' : c.on (v.enc ++ (Tr.encL l ++ r)) := by simpa only [Tr.encL, List.append_assoc] using h
  have e := hf v c _ h1.1 h2.1 h3.1 h'
  simp only [List.length_cons, kidsA]
  rw [if_neg (by simp [h.ok]), e]
  simp only
  rw [kidsA_ok hf l _ _ r h1.2 h2.2 h3.2 h'.adv, adv_adv]
  simp [Tr.encL, List.append_assoc]
theorem lastB_snoc (acc : List (Bs × Tr)) (k s : Bs) (v : Tr) : lastB (acc ++ [(k, v)]) s = !(Op.bytesLess k s) := by
 simp [lastB]
def goes (acc l : List (Bs × Tr)) : Prop := match l with
 | [] => True
 | (k, _) :: _ => lastB acc k = false
theorem goes_next {acc l : List (Bs × Tr)} {k : Bs} {v : Tr} (h : ascP ((k, v) :: l) = true) : goes (acc ++ [(k, v)]) l ∧ ascP l = true := by
 cases l with
 | nil => exact ⟨trivial, rfl⟩
 | cons p r =>
  obtain ⟨b, w⟩ := p
  simp only [ascP, Bool.and_eq_true] at h ⊢
  refine ⟨?_, h.2⟩
  show lastB _ b = false
  rw [lastB_snoc, h.1]; rfl
theorem named_ok {n : Nat} {f : Sc → Tr × Sc} (hf : Takes n f) : ∀ (l acc : List (Bs × Tr)) (c : Sc) (r : Bs), Tr.fitP l = true → Tr.goodP l = true → ascP l = true → goes acc l → Tr.levP n l = true → c.on (Tr.encP l ++ r) → namedL f l.length acc c = (.pairs (acc ++ l), c.adv (Tr.encP l).length)
 | [], acc, c, r, _, _, _, _, _, _ => by simp [namedL, Tr.encP, adv_zero]
 | (k, v) :: l, acc, c, r, h1, h2, ha, hg, h3, h => by
  simp only [Tr.fitP, Tr.goodP, Tr.levP, Bool.and_eq_true, decide_eq_true_eq] at h1 h2 h3
  have h' : c.on (rowB k ++ (v.enc ++ (Tr.encP l ++ r))) := by simpa only [Tr.encP, List.append_assoc] using h
  have e0 := row_ok h1.1.1 h'
  have h'' := h'.adv
  have e := hf v _ _ h1.1.2 h2.1 h3.1 h''
  have hl : lastB acc k = false := hg
  obtain ⟨g1, g2⟩ := goes_next (acc := acc) ha
  simp only [List.length_cons, namedL]
  rw [if_neg (by simp [h.ok]), e0]
  simp only [hl, Bool.false_eq_true, if_false]
  rw [if_neg (by simp [h''.ok]), e]
  simp only
  rw [named_ok hf l _ _ r h1.2 h2.2 g2 g1 h3.2 h''.adv, adv_adv, adv_adv]
  simp [Tr.encP, List.append_assoc, Nat.add_assoc]
theorem kidsB_ok {n : Nat} {f : Sc → Tr × Sc} (hf : Takes n f) : ∀ (l acc : List (Bs × Tr)) (c : Sc) (r : Bs), Tr.fitP l = true → Tr.goodP l = true → ascP l = true → goes acc l → Tr.levP n l = true → c.on (Tr.encP l ++ r) → kidsB f l.length acc c = (.pairs (acc ++ l), c.adv (Tr.encP l).length)
 | [], acc, c, r, _, _, _, _, _, _ => by simp [kidsB, Tr.encP, adv_zero]
 | (k, v) :: l, acc, c, r, h1, h2, ha, hg, h3, h => by
  simp only [Tr.fitP, Tr.goodP, Tr.levP, Bool.and_eq_true, decide_eq_true_eq] at h1 h2 h3
  have h' : c.on (rowB k ++ (v.enc ++ (Tr.encP l ++ r))) := by simpa only [Tr.encP, List.append_assoc] using h
  have e0 := row_ok h1.1.1 h'
  have h'' := h'.adv
  have e := hf v _ _ h1.1.2 h2.1 h3.1 h''
  have hl : lastB acc k = false := hg
  obtain ⟨g1, g2⟩ := goes_next (acc := acc) ha
  simp only [List.length_cons, kidsB]
  rw [if_neg (by simp [h.ok]), e0]
  simp only [hl, Bool.false_eq_true, and_false, if_false]
  rw [if_neg (by simp [h''.ok]), e]
  simp only
  rw [kidsB_ok hf l _ _ r h1.2 h2.2 g2 g1 h3.2 h''.adv, adv_adv, adv_adv]
  simp [Tr.encP, List.append_assoc, Nat.add_assoc]
theorem count_ok {n : Nat} {c : Sc} {b : UInt8} {r : Bs} (hb : b.toNat ≤ 64) (h : c.on (b :: r)) : countS (n + 1) c = (b.toNat, c.adv 1) := by
 have h1 : ¬ n + 1 = 0 := by omega
 simp only [countS, if_neg h1, num_ok1 h]
 rw [if_neg (by rw [if_neg (by omega)]; simp)]
theorem len_byte {k : Nat} (h : k ≤ 64) : (UInt8.ofNat (k % 256)).toNat = k := by
 rw [UInt8.toNat_ofNat']; omega
theorem val_ok {n : Nat} {f : Sc → Tr × Sc} (hf : n = 0 ∨ ∃ k, n = k + 1 ∧ Takes k f) : Takes n (valS n f) := by
 intro v c r h1 h2 h3 h
 cases v with
 | nil =>
  have := num_ok1 (b := 0) (r := r) h
  simp only [valS, this]
  rw [if_neg (by simp [h.ok, Sc.adv])]
  simp [Tr.enc]
 | tr b =>
  cases b with
  | false =>
   have := num_ok1 (b := 1) (r := r) h
   simp only [valS, this]
   rw [if_neg (by simp [h.ok, Sc.adv])]
   simp [Tr.enc]
  | true =>
   have := num_ok1 (b := 2) (r := r) h
   simp only [valS, this]
   rw [if_neg (by simp [h.ok, Sc.adv])]
   simp [Tr.enc]
 | num x =>
  have h' : c.on (3 :: (beB 8 x ++ r)) := h
  have e := num_ok1 h'
  have a : (c.adv 1).on (beB 8 x ++ r) := Sc.on.adv (w := [3]) h'
  have e2 := num_ok a
  rw [beB_len] at e2
  simp only [Tr.fit, Bool.and_eq_true, decide_eq_true_eq] at h1
  have hx : ((beN (beB 8 x) : Nat) : Int) = x := by
   obtain ⟨N, rfl⟩ := Int.eq_ofNat_of_zero_le h1.1
   rw [beN_beB, Nat.mod_eq_of_lt (by omega)]
  simp only [valS, e]
  rw [if_neg (by simp [h.ok, Sc.adv])]
  simp [e2, hx, Tr.enc, beB_len, adv_adv, Nat.add_comm]
 | text s =>
  have h' : c.on (4 :: (rowB s ++ r)) := h
  have e := num_ok1 h'
  have a : (c.adv 1).on (rowB s ++ r) := Sc.on.adv (w := [4]) h'
  simp only [Tr.fit, decide_eq_true_eq] at h1
  have e2 := row_ok h1 a
  simp only [valS, e]
  rw [if_neg (by simp [h.ok, Sc.adv])]
  simp [e2, Tr.enc, adv_adv, Nat.add_comm]
 | list l =>
  rcases hf with rfl | ⟨k, rfl, hf⟩
  ·simp [Tr.lev] at h3
  ·simp only [Tr.fit, Tr.good, Tr.lev, Bool.and_eq_true, decide_eq_true_eq] at h1 h2 h3
   have h' : c.on (5 :: UInt8.ofNat (l.length % 256) :: (Tr.encL l ++ r)) := h
   have e := num_ok1 h'
   have a : (c.adv 1).on (UInt8.ofNat (l.length % 256) :: (Tr.encL l ++ r)) := Sc.on.adv (w := [5]) h'
   have e2 := count_ok (n := k) (by rw [len_byte h1.1]; exact h1.1) a
   have a2 : (c.adv 2).on (Tr.encL l ++ r) := Sc.on.adv (w := [UInt8.ofNat (l.length % 256)]) a
   have e3 := items_ok hf l [] _ r h1.2 h2 h3 a2
   simp only [len_byte h1.1, adv_adv, Nat.reduceAdd] at e2 e3
   simp only [valS, e]
   rw [if_neg (by simp [h.ok, Sc.adv])]
   simp [itemsS, e2, e3, Tr.enc, adv_adv, Nat.add_comm, Nat.add_left_comm]
   exact congrArg c.adv (by omega)
 | pairs l =>
  rcases hf with rfl | ⟨k, rfl, hf⟩
  ·simp [Tr.lev] at h3
  ·simp only [Tr.fit, Tr.good, Tr.lev, Bool.and_eq_true, decide_eq_true_eq] at h1 h2 h3
   have h' : c.on (6 :: UInt8.ofNat (l.length % 256) :: (Tr.encP l ++ r)) := h
   have e := num_ok1 h'
   have a : (c.adv 1).on (UInt8.ofNat (l.length % 256) :: (Tr.encP l ++ r)) := Sc.on.adv (w := [6]) h'
   have e2 := count_ok (n := k) (by rw [len_byte h1.1]; exact h1.1) a
   have a2 : (c.adv 2).on (Tr.encP l ++ r) := Sc.on.adv (w := [UInt8.ofNat (l.length % 256)]) a
   have hg : goes [] l := by cases l <;> first | trivial | rfl
   have e3 := named_ok hf l [] _ r h1.2 h2.2 h2.1 hg h3 a2
   simp only [len_byte h1.1, adv_adv, Nat.reduceAdd] at e2 e3
   simp only [valS, e]
   rw [if_neg (by simp [h.ok, Sc.adv])]
   simp [namedS, e2, e3, Tr.enc, adv_adv, Nat.add_comm, Nat.add_left_comm]
   exact congrArg c.adv (by omega)
theorem takeV_ok : ∀ n, Takes n (takeV n)
 | 0 => val_ok (.inl rfl)
 | n + 1 => val_ok (.inr ⟨n, rfl, takeV_ok n⟩)
theorem one_ok {n : Nat} {f : Sc → Tr × Sc} (hf : n = 0 ∨ ∃ k, n = k + 1 ∧ Takes k f) : Takes n (oneS n f) := by
 intro v c r h1 h2 h3 h
 cases v with
 | nil =>
  have := num_ok1 (b := 0) (r := r) h
  simp only [oneS, this]
  rw [if_neg (by simp [h.ok, Sc.adv])]
  simp [Tr.enc]
 | tr b =>
  cases b with
  | false =>
   have := num_ok1 (b := 1) (r := r) h
   simp only [oneS, this]
   rw [if_neg (by simp [h.ok, Sc.adv])]
   simp [Tr.enc]
  | true =>
   have := num_ok1 (b := 2) (r := r) h
   simp only [oneS, this]
   rw [if_neg (by simp [h.ok, Sc.adv])]
   simp [Tr.enc]
 | num x =>
  have h' : c.on (3 :: (beB 8 x ++ r)) := h
  have e := num_ok1 h'
  have a : (c.adv 1).on (beB 8 x ++ r) := Sc.on.adv (w := [3]) h'
  have e2 := num_ok a
  rw [beB_len] at e2
  simp only [Tr.fit, Bool.and_eq_true, decide_eq_true_eq] at h1
  have hx : ((beN (beB 8 x) : Nat) : Int) = x := by
   obtain ⟨N, rfl⟩ := Int.eq_ofNat_of_zero_le h1.1
   rw [beN_beB, Nat.mod_eq_of_lt (by omega)]
  simp only [oneS, e]
  rw [if_neg (by simp [h.ok, Sc.adv])]
  simp [e2, hx, Tr.enc, beB_len, adv_adv, Nat.add_comm]
 | text s =>
  have h' : c.on (4 :: (rowB s ++ r)) := h
  have e := num_ok1 h'
  have a : (c.adv 1).on (rowB s ++ r) := Sc.on.adv (w := [4]) h'
  simp only [Tr.fit, decide_eq_true_eq] at h1
  have e2 := row_ok h1 a
  simp only [oneS, e]
  rw [if_neg (by simp [h.ok, Sc.adv])]
  simp [e2, Tr.enc, adv_adv, Nat.add_comm]
 | list l =>
  rcases hf with rfl | ⟨k, rfl, hf⟩
  ·simp [Tr.lev] at h3
  ·simp only [Tr.fit, Tr.good, Tr.lev, Bool.and_eq_true, decide_eq_true_eq] at h1 h2 h3
   have h' : c.on (5 :: UInt8.ofNat (l.length % 256) :: (Tr.encL l ++ r)) := h
   have e := num_ok1 h'
   have a : (c.adv 1).on (UInt8.ofNat (l.length % 256) :: (Tr.encL l ++ r)) := Sc.on.adv (w := [5]) h'
   have e2 := num_ok1 a
   have a2 : (c.adv 2).on (Tr.encL l ++ r) := Sc.on.adv (w := [UInt8.ofNat (l.length % 256)]) a
   have e3 := kidsA_ok hf l [] _ r h1.2 h2 h3 a2
   simp only [len_byte h1.1, adv_adv, Nat.reduceAdd] at e2 e3
   have h64 : ¬ 64 < l.length := by omega
   simp only [oneS, e]
   rw [if_neg (by simp [h.ok, Sc.adv])]
   simp [e2, e3, h64, Tr.enc, adv_adv, Nat.add_comm, Nat.add_left_comm]
   exact congrArg c.adv (by omega)
 | pairs l =>
  rcases hf with rfl | ⟨k, rfl, hf⟩
  ·simp [Tr.lev] at h3
  ·simp only [Tr.fit, Tr.good, Tr.lev, Bool.and_eq_true, decide_eq_true_eq] at h1 h2 h3
   have h' : c.on (6 :: UInt8.ofNat (l.length % 256) :: (Tr.encP l ++ r)) := h
   have e := num_ok1 h'
   have a : (c.adv 1).on (UInt8.ofNat (l.length % 256) :: (Tr.encP l ++ r)) := Sc.on.adv (w := [6]) h'
   have e2 := num_ok1 a
   have a2 : (c.adv 2).on (Tr.encP l ++ r) := Sc.on.adv (w := [UInt8.ofNat (l.length % 256)]) a
   have hg : goes [] l := by cases l <;> first | trivial | rfl
   have e3 := kidsB_ok hf l [] _ r h1.2 h2.2 h2.1 hg h3 a2
   simp only [len_byte h1.1, adv_adv, Nat.reduceAdd] at e2 e3
   have h64 : ¬ 64 < l.length := by omega
   simp only [oneS, e]
   rw [if_neg (by simp [h.ok, Sc.adv])]
   simp [e2, e3, h64, Tr.enc, adv_adv, Nat.add_comm, Nat.add_left_comm]
   exact congrArg c.adv (by omega)
theorem oneV_ok : ∀ n, Takes n (oneV n)
 | 0 => one_ok (.inl rfl)
 | n + 1 => one_ok (.inr ⟨n, rfl, oneV_ok n⟩)
end Go.Vd

namespace Go.Vd
open Go.RowKit
structure Took (c : Sc) (w : Bs) (c' : Sc) : Prop where
 on : c.on (w ++ c'.rest)
 is : c' = c.adv w.length
theorem Took.next {c c' : Sc} {w : Bs} (h : Took c w c') : c'.on c'.rest := by
 have := h.on.adv
 rw [← h.is] at this; exact this
theorem Took.nil {c : Sc} (h : c.bad = 0) (hl : c.at_ ≤ c.s.length) : Took c [] c := ⟨⟨h, hl, rfl⟩, rfl⟩
theorem Took.app {c c' c'' : Sc} {w w' : Bs} (h : Took c w c') (h' : Took c' w' c'') : Took c (w ++ w') c'' := by
 refine ⟨⟨h.on.ok, h.on.le, ?_⟩, ?_⟩
 ·rw [h.on.is, h'.on.is, List.append_assoc]
 ·rw [h'.is, h.is, adv_adv, List.length_append]
theorem num_took {k : Nat} {c : Sc} (hl : c.at_ ≤ c.s.length) (hb : (numS k c).2.bad = 0) : ∃ w, w.length = k ∧ (numS k c).1 = beN w ∧ Took c w (numS k c).2 := by
 unfold numS at hb ⊢
 split at hb
 ·rename_i h; exact absurd hb h
 ·split at hb
  ·simp at hb
  ·rename_i h1 h2
   rw [if_neg h1, if_neg h2]
   have hlen : ((c.s.drop c.at_).take k).length = k := by rw [List.length_take, List.length_drop]; omega
   refine ⟨(c.s.drop c.at_).take k, hlen, rfl, ⟨⟨by simpa using h1, hl, ?_⟩, ?_⟩⟩
   ·simp only [Sc.rest]
    rw [← List.drop_drop, List.take_append_drop]
   ·rw [hlen]; rfl
theorem num_took1 {c : Sc} (hl : c.at_ ≤ c.s.length) (hb : (numS 1 c).2.bad = 0) : ∃ b : UInt8, (numS 1 c).1 = b.toNat ∧ Took c [b] (numS 1 c).2 := by
 obtain ⟨w, h1, h2, h3⟩ := num_took hl hb
 match w, h1 with
 | [b], _ => exact ⟨b, by rw [h2]; simp [beN], h3⟩
theorem row_took {c : Sc} (hl : c.at_ ≤ c.s.length) (hb : (rowS c).2.bad = 0) : Took c (rowB (rowS c).1) (rowS c).2 := by
 unfold rowS at hb ⊢
 split at hb
 ·rename_i h; exact absurd hb h
 ·rename_i h1
  split at hb
  ·simp at hb
  ·rename_i h2
   rw [if_neg h1, if_neg h2]
   have hb2 : (numS 2 c).2.bad = 0 := by simpa using h1
   obtain ⟨w, hw, hn, ht⟩ := num_took hl hb2
   generalize numS 2 c = p at h1 h2 hb hb2 hn ht ⊢
   obtain ⟨n, c1⟩ := p
   simp only at h2 hb hb2 hn ht ⊢
   have h1' := ht.next
   have hlen : ((c1.s.drop c1.at_).take n).length = n := by rw [List.length_take, List.length_drop]; omega
   have htk : Took c1 ((c1.s.drop c1.at_).take n) { c1 with at_ := c1.at_ + n } := by
    refine ⟨⟨hb2, h1'.le, ?_⟩, ?_⟩
    ·simp only [Sc.rest]
     rw [← List.drop_drop, List.take_append_drop]
    ·rw [hlen]; rfl
   have : rowB ((c1.s.drop c1.at_).take n) = w ++ (c1.s.drop c1.at_).take n := by
    unfold rowB
    have e := beB_beN w
    rw [hw, ← hn] at e
    rw [hlen, e]
   rw [this]
   exact ht.app htk
theorem fail_bad {e : Int} {c : Sc} (he : e ≠ 0) : (failS e c).bad ≠ 0 := by
 unfold failS; split
 ·exact he
 ·assumption
def Sound (f : Sc → Tr × Sc) : Prop := ∀ c : Sc, c.at_ ≤ c.s.length → (f c).2.bad = 0 → Took c (f c).1.enc (f c).2
theorem items_took {f : Sc → Tr × Sc} (hf : Sound f) (hs : Stays f) : ∀ (k : Nat) (acc : List Tr) (c : Sc), c.at_ ≤ c.s.length → (itemsL f k acc c).2.bad = 0 → ∃ l, (itemsL f k acc c).1 = .list (acc ++ l) ∧ l.length = k ∧ Took c (Tr.encL l) (itemsL f k acc c).2
 | 0, acc, c, hl, hb => ⟨[], by simp [itemsL], rfl, Took.nil hb hl⟩
 | k + 1, acc, c, hl, hb => by
  simp only [itemsL] at hb ⊢
  split at hb
  ·rename_i h; exact absurd hb h
  ·rename_i h
   rw [if_neg h]
   obtain ⟨e1, e2⟩ := hs c hl
   obtain ⟨l, a1, a2, a3⟩ := items_took hf hs k (acc ++ [(f c).1]) (f c).2 (by rw [e1]; exact e2) hb
   have hb1 : (f c).2.bad = 0 := a3.on.ok
   exact ⟨(f c).1 :: l, by rw [a1]; simp, by simp [a2], by simp only [Tr.encL]; exact (hf c hl hb1).app a3⟩
theorem named_took {f : Sc → Tr × Sc} (hf : Sound f) (hs : Stays f) : ∀ (k : Nat) (acc : List (Bs × Tr)) (c : Sc), c.at_ ≤ c.s.length → (namedL f k acc c).2.bad = 0 → ∃ l, (namedL f k acc c).1 = .pairs (acc ++ l) ∧ l.length = k ∧ Took c (Tr.encP l) (namedL f k acc c).2
 | 0, acc, c, hl, hb => ⟨[], by simp [namedL], rfl, Took.nil hb hl⟩
 | k + 1, acc, c, hl, hb => by
  simp only [namedL] at hb ⊢
  split at hb
  ·rename_i h; exact absurd hb h
  ·rename_i h
   rw [if_neg h]
   obtain ⟨r1, r2, _, _⟩ := rowS_inv hl
   by_cases hlast : lastB acc (rowS c).1 = true
   ·simp only [hlast, if_true] at hb
    rw [if_pos (fail_bad (by decide))] at hb
    exact absurd hb (fail_bad (by decide))
   ·have hnl : lastB acc (rowS c).1 = false := by simpa using hlast
    simp only [hnl, Bool.false_eq_true, if_false] at hb ⊢
    by_cases hb0 : (rowS c).2.bad = 0
    ·rw [if_neg (by simp [hb0])] at hb ⊢
     have hl1 : (rowS c).2.at_ ≤ (rowS c).2.s.length := by rw [r1]; exact r2
     obtain ⟨e1, e2⟩ := hs (rowS c).2 hl1
     obtain ⟨l, a1, a2, a3⟩ := named_took hf hs k (acc ++ [((rowS c).1, (f (rowS c).2).1)]) (f (rowS c).2).2 (by rw [e1]; exact e2) hb
     have hb1 : (f (rowS c).2).2.bad = 0 := a3.on.ok
     exact ⟨((rowS c).1, (f (rowS c).2).1) :: l, by rw [a1]; simp, by simp [a2], by simp only [Tr.encP]; exact ((row_took hl hb0).app (hf _ hl1 hb1)).app a3⟩
    ·rw [if_pos hb0] at hb
     exact absurd hb hb0
theorem count_took {n : Nat} {c : Sc} (hl : c.at_ ≤ c.s.length) (hb : (countS n c).2.bad = 0) : ∃ b : UInt8, (countS n c).1 = b.toNat ∧ Took c [b] (countS n c).2 := by
 simp only [countS] at hb ⊢
 by_cases hn : n = 0
 ·simp only [hn, if_true] at hb
  have h0 : (failS 24 c).bad ≠ 0 := fail_bad (by decide)
  have hnum : numS 1 (failS 24 c) = (0, failS 24 c) := by unfold numS; rw [if_pos h0]
  rw [hnum] at hb
  simp only at hb
  rw [if_neg (fun h => h0 h.1)] at hb
  exact absurd hb h0
 ·simp only [hn, if_false] at hb ⊢
  generalize he : (if 64 < (numS 1 c).1 then (5 : Int) else 0) = e at hb ⊢
  by_cases hc : (numS 1 c).2.bad = 0 ∧ e ≠ 0
  ·rw [if_pos hc] at hb
   exact absurd hb (fail_bad hc.2)
  ·rw [if_neg hc] at hb ⊢
   exact num_took1 hl hb
theorem byte_is {b : UInt8} {k : Nat} (h : b.toNat = k) : b = UInt8.ofNat k := by
 rw [← h, UInt8.ofNat_toNat]
theorem count0_bad {c : Sc} : (countS 0 c).2.bad ≠ 0 := by
 have h0 : (failS 24 c).bad ≠ 0 := fail_bad (by decide)
 have hnum : numS 1 (failS 24 c) = (0, failS 24 c) := by unfold numS; rw [if_pos h0]
 simp only [countS, if_true, hnum]
 rw [if_neg (fun h => h0 h.1)]; exact h0
theorem val_sound {n : Nat} {f : Sc → Tr × Sc} (hfs : n = 0 ∨ (Sound f ∧ Stays f)) : Sound (valS n f) := by
 intro c hl hb
 simp only [valS] at hb ⊢
 split at hb
 ·rename_i h; exact absurd hb h
 ·rename_i hp
  rw [if_neg hp]
  have hp0 : (numS 1 c).2.bad = 0 := by simpa using hp
  obtain ⟨b, hx, ht⟩ := num_took1 hl hp0
  have hl1 := ht.next.le
  generalize numS 1 c = p at hp hp0 hx ht hl1 hb ⊢
  obtain ⟨x, c1⟩ := p
  simp only at hp hp0 hx ht hl1 hb ⊢
  subst hx
  by_cases h0 : b.toNat = 0
  ·rw [if_pos h0]; obtain rfl := byte_is h0; exact ht
  rw [if_neg h0] at hb ⊢
  by_cases h1 : b.toNat = 1
  ·rw [if_pos h1]; obtain rfl := byte_is h1; exact ht
  rw [if_neg h1] at hb ⊢
  by_cases h2 : b.toNat = 2
  ·rw [if_pos h2]; obtain rfl := byte_is h2; exact ht
  rw [if_neg h2] at hb ⊢
  by_cases h3 : b.toNat = 3
  ·rw [if_pos h3] at hb ⊢
   obtain rfl := byte_is h3
   obtain ⟨w, w1, w2, w3⟩ := num_took (k := 8) hl1 hb
   simp only at hb ⊢
   have e := beB_beN w
   rw [w1, ← w2] at e
   simp only [Tr.enc, e]
   exact ht.app w3
  rw [if_neg h3] at hb ⊢
  by_cases h4 : b.toNat = 4
  ·rw [if_pos h4] at hb ⊢
   obtain rfl := byte_is h4
   simp only [Tr.enc]
   exact ht.app (row_took hl1 hb)
  rw [if_neg h4] at hb ⊢
  by_cases h5 : b.toNat = 5
  ·rw [if_pos h5] at hb ⊢
   obtain rfl := byte_is h5
   unfold itemsS at hb ⊢
   rcases hfs with rfl | ⟨hf, hs⟩
   ·rw [countS_zero] at hb
    exact absurd hb count0_bad
   obtain ⟨ca, cb, _⟩ := countS_inv (n := n) hl1
   obtain ⟨l, a1, a2, a3⟩ := items_took hf hs (countS n c1).1 [] (countS n c1).2 (by rw [ca]; exact cb) hb
   obtain ⟨b', q1, q2⟩ := count_took hl1 a3.on.ok
   rw [a1]
   have hb' : UInt8.ofNat (l.length % 256) = b' := by
    rw [a2, q1, Nat.mod_eq_of_lt b'.toNat_lt, UInt8.ofNat_toNat]
   simp only [List.nil_append, Tr.enc, hb']
   exact ht.app (q2.app a3)
  rw [if_neg h5] at hb ⊢
  by_cases h6 : b.toNat = 6
  ·rw [if_pos h6] at hb ⊢
   obtain rfl := byte_is h6
   unfold namedS at hb ⊢
   rcases hfs with rfl | ⟨hf, hs⟩
   ·rw [countS_zero] at hb
    exact absurd hb count0_bad
   obtain ⟨ca, cb, _⟩ := countS_inv (n := n) hl1
   obtain ⟨l, a1, a2, a3⟩ := named_took hf hs (countS n c1).1 [] (countS n c1).2 (by rw [ca]; exact cb) hb
   obtain ⟨b', q1, q2⟩ := count_took hl1 a3.on.ok
   rw [a1]
   have hb' : UInt8.ofNat (l.length % 256) = b' := by
    rw [a2, q1, Nat.mod_eq_of_lt b'.toNat_lt, UInt8.ofNat_toNat]
   simp only [List.nil_append, Tr.enc, hb']
   exact ht.app (q2.app a3)
  rw [if_neg h6] at hb
  exact absurd hb (fail_bad (by decide))
theorem takeV_sound : ∀ n, Sound (takeV n)
 | 0 => val_sound (.inl rfl)
 | n + 1 => val_sound (.inr ⟨takeV_sound n, Stays.takeV n⟩)
end Go.Vd

namespace Go.Vd
open Go.RowKit
set_option maxRecDepth 10000
def oNum (b : Bool) : Tr → Int × Bool
 | .num n => if 2199023255552 < n then (0, true) else (IntKind.i64.wrap (IntKind.i64.wrap n - 1099511627776), b)
 | _ => (0, true)
def oTruth (b : Bool) : Tr → Bool × Bool
 | .tr x => (x, b)
 | _ => (false, true)
def oText (b : Bool) : Tr → Bs × Bool
 | .text s => (s, b)
 | _ => ([], true)
def oList (b : Bool) : Tr → List Tr × Bool
 | .list l => (l, b)
 | _ => ([], true)
def zeroDn : Dn := ⟨0, [], [], 0, 0, 0, false⟩
def oSeven (b : Bool) (x0 x1 x2 x3 x4 x5 x6 : Tr) : Dn × Bool :=
 let p0 := oNum b x0
 let p1 := oNum p0.2 x1
 let p2 := oNum p1.2 x2
 let p3 := oNum p2.2 x3
 let p4 := oTruth p3.2 x4
 let p5 := oText p4.2 x5
 let p6 := oText p5.2 x6
 (⟨p1.1, p5.1, p6.1, p2.1, p0.1, p3.1, p4.1⟩, p6.2)
def oCall (b : Bool) : Tr → Dn × Bool
 | .list [x0, x1, x2, x3, x4, x5, x6] => oSeven b x0 x1 x2 x3 x4 x5 x6
 | _ => (zeroDn, true)
theorem f55_dat (b : Bool) (v : Tr) : F55 b [v.dat] = some (.int .i64 (oNum b v).1, (oNum b v).2) := by
 cases v with
 | num n =>
  have : dNum (Tr.dat (.num n)) = some n := rfl
  simp only [F55, dat_val, this, oNum, if_true]
  split <;> rfl
 | _ => rfl
theorem f56_dat (b : Bool) (v : Tr) : F56 b [v.dat] = some (.bool (oTruth b v).1, (oTruth b v).2) := by
 cases v <;> cases b <;> rfl
theorem f58_dat (b : Bool) (v : Tr) : F58 b [v.dat] = some (.str (oText b v).1, (oText b v).2) := by
 cases v <;> cases b <;> rfl
theorem f57_dat (b : Bool) (v : Tr) : ∃ nl, F57 b [v.dat] = some (.slice nl [] (Tr.datL (oList b v).1), (oList b v).2) := by
 cases v <;> cases b <;> exact ⟨_, rfl⟩
theorem f59_dat (b : Bool) (v : Tr) : F59 b [v.dat] = some (dnD (oCall b v).1, (oCall b v).2) := by
 cases v with
 | list l =>
  have hl : dList (Tr.dat (.list l)) = some (Tr.datL l) := rfl
  have hv := dat_val (.list l)
  by_cases h7 : l.length = 7
  ·match l, h7 with
   | [x0, x1, x2, x3, x4, x5, x6], _ =>
    have hl : dList (Tr.dat (.list [x0, x1, x2, x3, x4, x5, x6])) = some [x0.dat, x1.dat, x2.dat, x3.dat, x4.dat, x5.dat, x6.dat] := rfl
    unfold F59
    simp only [dat_val, if_true, hl, Bool.and_self, f55_dat, f56_dat, f58_dat]
    rfl
  ·unfold F59
   simp only [dat_val, if_true, hl]
   have hne : (Tr.datL l).length ≠ 7 := by rw [datL_len]; exact h7
   have ho : oCall b (.list l) = (zeroDn, true) := by
    unfold oCall
    split
    ·rename_i e
     simp only [Tr.list.injEq] at e
     rw [e] at h7; simp at h7
    ·rfl
   rw [ho]
   split
   ·rename_i e
    simp only [Option.some.injEq] at e
    rw [e] at hne; simp at hne
   ·rename_i xs _ e
    simp only [Option.some.injEq] at e
    subst e
    rw [if_neg hne]; rfl
   ·rename_i e; cases e
 | _ => rfl
def oTexts (b : Bool) : List Tr → List Bs × Bool
 | [] => ([], b)
 | v :: r => ((oText b v).1 :: (oTexts (oText b v).2 r).1, (oTexts (oText b v).2 r).2)
def oCalls (b : Bool) : List Tr → List Dn × Bool
 | [] => ([], b)
 | v :: r => ((oCall b v).1 :: (oCalls (oCall b v).2 r).1, (oCalls (oCall b v).2 r).2)
theorem oTexts_snoc : ∀ (l : List Tr) (b : Bool) (v : Tr), oTexts b (l ++ [v]) = ((oTexts b l).1 ++ [(oText (oTexts b l).2 v).1], (oText (oTexts b l).2 v).2)
 | [], b, v => rfl
 | x :: r, b, v => by simp only [List.cons_append, oTexts, oTexts_snoc r]
theorem oCalls_snoc : ∀ (l : List Tr) (b : Bool) (v : Tr), oCalls b (l ++ [v]) = ((oCalls b l).1 ++ [(oCall (oCalls b l).2 v).1], (oCall (oCalls b l).2 v).2)
 | [], b, v => rfl
 | x :: r, b, v => by simp only [List.cons_append, oCalls, oCalls_snoc r]
theorem oTexts_len : ∀ (l : List Tr) (b : Bool), (oTexts b l).1.length = l.length
 | [], b => rfl
 | x :: r, b => by simp [oTexts, oTexts_len r]
theorem oCalls_len : ∀ (l : List Tr) (b : Bool), (oCalls b l).1.length = l.length
 | [], b => rfl
 | x :: r, b => by simp [oCalls, oCalls_len r]
def names5 : List Bs := [kBehind, kCalls, kLeft, kSealed, kTicks]
def oFive : Tr → (Tr × Tr × Tr × Tr × Tr) × Bool
 | .pairs [(k0, x0), (k1, x1), (k2, x2), (k3, x3), (k4, x4)] => ((x0, x1, x2, x3, x4), decide (¬ [k0, k1, k2, k3, k4] = names5))
 | _ => ((.nil, .nil, .nil, .nil, .nil), true)
def readO (v : Tr) : Td × Bool :=
 let x := (oFive v).1
 let b := (oFive v).2
 let p2 := oNum b x.2.2.1
 let p3 := oTruth p2.2 x.2.2.2.1
 let p4 := oNum p3.2 x.2.2.2.2
 let q0 := oList p4.2 x.1
 let r0 := oTexts q0.2 q0.1
 let q1 := oList r0.2 x.2.1
 let r1 := oCalls q1.2 q1.1
 (⟨r1.1, p4.1, p2.1, p3.1, r0.1⟩, r1.2)
def unbytesO (s : Bs) : Option Td :=
 if endS (takeV 4 ⟨s, 0, 0⟩).2 ≠ 0 then none
 else if (readO (takeV 4 ⟨s, 0, 0⟩).1).2 = true ∨ checkB (readO (takeV 4 ⟨s, 0, 0⟩).1).1 ≠ 0 then none else some (readO (takeV 4 ⟨s, 0, 0⟩).1).1
theorem f54_dat (v : Tr) {nn : Bool} {tn : Id} : F54 false [v.dat, .slice nn tn (names5.map .str)] = some (.slice false [] [(oFive v).1.1.dat, (oFive v).1.2.1.dat, (oFive v).1.2.2.1.dat, (oFive v).1.2.2.2.1.dat, (oFive v).1.2.2.2.2.dat], (oFive v).2) := by
 have pds : ∀ l : List (Bs × Tr), pdsOf (Tr.datP l) = some (l.map fun p => (p.1, p.2.dat)) := by
  intro l
  induction l with
  | nil => rfl
  | cons p r ih =>
   obtain ⟨k, w⟩ := p
   simp only [Tr.datP, pdsOf, dat_val, if_true, ih, Option.map_some, List.map_cons]
 cases v with
 | pairs l =>
  have hp : dPairs (Tr.dat (.pairs l)) = some (Tr.datP l) := rfl
  simp only [F54, strsOf_map, dat_val, hp, pds]
  rw [if_pos ⟨trivial, by decide⟩]
  by_cases h5 : l.length = 5
  ·match l, h5 with
   | [(k0, x0), (k1, x1), (k2, x2), (k3, x3), (k4, x4)], _ =>
    rw [if_pos (by rfl)]
    simp only [oFive, List.map_cons, List.map_nil]
    have : badF false [(k0, x0.dat), (k1, x1.dat), (k2, x2.dat), (k3, x3.dat), (k4, x4.dat)] names5 = decide (¬ [k0, k1, k2, k3, k4] = names5) := by
     simp only [badF, names5, List.zip_cons_cons, List.zip_nil_left, List.foldl_cons, List.foldl_nil, Bool.false_or, List.cons.injEq, and_true]
     by_cases c0 : k0 = kBehind <;> by_cases c1 : k1 = kCalls <;> by_cases c2 : k2 = kLeft <;> by_cases c3 : k3 = kSealed <;> by_cases c4 : k4 = kTicks <;> simp [c0, c1, c2, c3, c4]
    rw [this]
  ·rw [if_neg (by simpa [names5] using h5)]
   have ho : oFive (.pairs l) = ((.nil, .nil, .nil, .nil, .nil), true) := by
    unfold oFive
    split
    ·rename_i e
     simp only [Tr.pairs.injEq] at e
     rw [e] at h5; simp at h5
    ·rfl
   rw [ho]; rfl
 | _ => rfl
theorem oNum_false {b : Bool} {v : Tr} {n : Int} (h : oNum b v = (n, false)) : b = false ∧ ∃ x, v = .num x ∧ x ≤ 2199023255552 ∧ n = IntKind.i64.wrap (IntKind.i64.wrap x - 1099511627776) := by
 cases v with
 | num x =>
  simp only [oNum] at h
  split at h
  ·simp at h
  ·rename_i hx
   simp only [Prod.mk.injEq] at h
   exact ⟨h.2, x, rfl, by omega, h.1.symm⟩
 | _ => simp [oNum] at h
theorem oTruth_false {b x : Bool} {v : Tr} (h : oTruth b v = (x, false)) : b = false ∧ v = .tr x := by
 cases v <;> simp [oTruth] at h
 exact ⟨h.2, by rw [h.1]⟩
theorem oText_false {b : Bool} {s : Bs} {v : Tr} (h : oText b v = (s, false)) : b = false ∧ v = .text s := by
 cases v <;> simp [oText] at h
 exact ⟨h.2, by rw [h.1]⟩
theorem oList_false {b : Bool} {l : List Tr} {v : Tr} (h : oList b v = (l, false)) : b = false ∧ v = .list l := by
 cases v <;> simp [oList] at h
 exact ⟨h.2, by rw [h.1]⟩
mutual
def Tr.tame : Tr → Bool
 | .num n => decide (0 ≤ n)
 | .list l => decide (l.length ≤ 255) && Tr.tameL l
 | .pairs l => decide (l.length ≤ 255) && Tr.tameP l
 | _ => true
def Tr.tameL : List Tr → Bool
 | [] => true
 | v :: r => Tr.tame v && Tr.tameL r
def Tr.tameP : List (Bs × Tr) → Bool
 | [] => true
 | (_, v) :: r => Tr.tame v && Tr.tameP r
end
theorem tameL_all : ∀ {l : List Tr}, Tr.tameL l = true ↔ ∀ v ∈ l, v.tame = true
 | [] => by simp [Tr.tameL]
 | v :: r => by simp only [Tr.tameL, Bool.and_eq_true, tameL_all, List.mem_cons, forall_eq_or_imp]
theorem tameP_all : ∀ {l : List (Bs × Tr)}, Tr.tameP l = true ↔ ∀ p ∈ l, p.2.tame = true
 | [] => by simp [Tr.tameP]
 | (k, v) :: r => by simp only [Tr.tameP, Bool.and_eq_true, tameP_all, List.mem_cons, forall_eq_or_imp]
theorem items_tame {f : Sc → Tr × Sc} (hf : ∀ c, (f c).1.tame = true) : ∀ (k : Nat) (acc : List Tr) (c : Sc), acc.length + k ≤ 255 → (∀ v ∈ acc, v.tame = true) → (itemsL f k acc c).1.tame = true
 | 0, acc, c, h, ha => by simp only [itemsL, Tr.tame, Bool.and_eq_true, decide_eq_true_eq, tameL_all]; exact ⟨by omega, ha⟩
 | k + 1, acc, c, h, ha => by
  unfold itemsL
  split
  ·rfl
  ·refine items_tame hf k _ _ (by simp; omega) (fun v hv => ?_)
   rcases List.mem_append.1 hv with hv | hv
   ·exact ha v hv
   ·simp only [List.mem_singleton] at hv; rw [hv]; exact hf c
theorem named_tame {f : Sc → Tr × Sc} (hf : ∀ c, (f c).1.tame = true) : ∀ (k : Nat) (acc : List (Bs × Tr)) (c : Sc), acc.length + k ≤ 255 → (∀ p ∈ acc, p.2.tame = true) → (namedL f k acc c).1.tame = true
 | 0, acc, c, h, ha => by simp only [namedL, Tr.tame, Bool.and_eq_true, decide_eq_true_eq, tameP_all]; exact ⟨by omega, ha⟩
 | k + 1, acc, c, h, ha => by
  unfold namedL
  split
  ·rfl
  ·simp only
   generalize (if lastB acc (rowS c).1 = true then failS 4 (rowS c).2 else (rowS c).2) = c2
   split
   ·rfl
   ·refine named_tame hf k _ _ (by simp; omega) (fun v hv => ?_)
    rcases List.mem_append.1 hv with hv | hv
    ·exact ha v hv
    ·simp only [List.mem_singleton] at hv; rw [hv]; exact hf c2
theorem count_lt {n : Nat} {c : Sc} : (countS n c).1 < 256 := by
 simp only [countS]
 simpa using numS_lt (k := 1) (c := if n = 0 then failS 24 c else c)
theorem val_tame {n : Nat} {f : Sc → Tr × Sc} (hf : ∀ c, (f c).1.tame = true) (c : Sc) : (valS n f c).1.tame = true := by
 simp only [valS]
 generalize numS 1 c = p
 split
 ·rfl
 ·split
  ·rfl
  ·split
   ·rfl
   ·split
    ·rfl
    ·split
     ·simp [Tr.tame]
     ·split
      ·rfl
      ·split
       ·have := count_lt (n := n) (c := p.2)
        exact items_tame hf _ _ _ (by simp; omega) (by simp)
       ·split
        ·have := count_lt (n := n) (c := p.2)
         exact named_tame hf _ _ _ (by simp; omega) (by simp)
        ·rfl
theorem takeV_tame : ∀ (n : Nat) (c : Sc), (takeV n c).1.tame = true
 | 0, c => val_tame (fun _ => rfl) c
 | n + 1, c => val_tame (takeV_tame n) c
end Go.Vd

namespace Go.Vd
open Go.RowKit
set_option maxRecDepth 10000
theorem oNum_cnt {b : Bool} {v : Tr} {n : Int} (h : oNum b v = (n, false)) (ht : v.tame = true) : b = false ∧ v = cntT n := by
 obtain ⟨h1, x, rfl, hx, hn⟩ := oNum_false h
 refine ⟨h1, ?_⟩
 simp only [Tr.tame, decide_eq_true_eq] at ht
 have w1 : IntKind.i64.wrap x = x := IntWalk.i64_in _ ⟨by omega, by omega⟩
 rw [w1, IntWalk.i64_in _ ⟨by omega, by omega⟩] at hn
 simp only [cntT, Tr.num.injEq]; omega
theorem pair_eta {α β : Type} {p : α × β} {b : β} (h : p.2 = b) : p = (p.1, b) := by rw [← h]
theorem oCall_strict {b : Bool} {v : Tr} {d : Dn} (h : oCall b v = (d, false)) (ht : v.tame = true) : b = false ∧ v = callT d := by
 unfold oCall at h
 split at h
 ·rename_i x0 x1 x2 x3 x4 x5 x6
  simp only [Tr.tame, Tr.tameL, Bool.and_eq_true] at ht
  obtain ⟨_, t0, t1, t2, t3, t4, t5, t6, _⟩ := ht
  simp only [oSeven, Prod.mk.injEq] at h
  obtain ⟨hd, h6⟩ := h
  obtain ⟨h5, e6⟩ := oText_false (pair_eta h6)
  obtain ⟨h4, e5⟩ := oText_false (pair_eta h5)
  obtain ⟨h3, e4⟩ := oTruth_false (pair_eta h4)
  obtain ⟨h2, e3⟩ := oNum_cnt (pair_eta h3) t3
  obtain ⟨h1, e2⟩ := oNum_cnt (pair_eta h2) t2
  obtain ⟨h0, e1⟩ := oNum_cnt (pair_eta h1) t1
  obtain ⟨hb, e0⟩ := oNum_cnt (pair_eta h0) t0
  refine ⟨hb, ?_⟩
  rw [← hd]
  simp only [callT]
  rw [← e0, ← e1, ← e2, ← e3, ← e4, ← e5, ← e6]
 ·simp at h
theorem oTexts_strict : ∀ {l : List Tr} {b : Bool}, (oTexts b l).2 = false → b = false ∧ l = (oTexts b l).1.map .text
 | [], b, h => ⟨h, rfl⟩
 | v :: r, b, h => by
  simp only [oTexts] at h ⊢
  obtain ⟨h1, h2⟩ := oTexts_strict h
  obtain ⟨h3, h4⟩ := oText_false (pair_eta h1)
  refine ⟨h3, ?_⟩
  rw [List.map_cons, ← h2, ← h4]
theorem oCalls_strict : ∀ {l : List Tr} {b : Bool}, (oCalls b l).2 = false → Tr.tameL l = true → b = false ∧ l = (oCalls b l).1.map callT
 | [], b, h, _ => ⟨h, rfl⟩
 | v :: r, b, h, ht => by
  simp only [Tr.tameL, Bool.and_eq_true] at ht
  simp only [oCalls] at h ⊢
  obtain ⟨h1, h2⟩ := oCalls_strict h ht.2
  obtain ⟨h3, h4⟩ := oCall_strict (pair_eta h1) ht.1
  refine ⟨h3, ?_⟩
  rw [List.map_cons, ← h2, ← h4]
theorem oFive_strict {v : Tr} (h : (oFive v).2 = false) : v = .pairs [(kBehind, (oFive v).1.1), (kCalls, (oFive v).1.2.1), (kLeft, (oFive v).1.2.2.1), (kSealed, (oFive v).1.2.2.2.1), (kTicks, (oFive v).1.2.2.2.2)] := by
 unfold oFive at h ⊢
 split at h
 ·rename_i k0 x0 k1 x1 k2 x2 k3 x3 k4 x4
  simp only [decide_eq_false_iff_not, Classical.not_not, names5, List.cons.injEq, and_true] at h
  obtain ⟨rfl, rfl, rfl, rfl, rfl⟩ := h
  rfl
 ·cases h
theorem readO_strict {v : Tr} (h : (readO v).2 = false) (ht : v.tame = true) : v = tellT (readO v).1 := by
 have e1 : (oCalls (oList (oTexts (oList (oNum (oTruth (oNum (oFive v).2 (oFive v).1.2.2.1).2 (oFive v).1.2.2.2.1).2 (oFive v).1.2.2.2.2).2 (oFive v).1.1).2 (oList (oNum (oTruth (oNum (oFive v).2 (oFive v).1.2.2.1).2 (oFive v).1.2.2.2.1).2 (oFive v).1.2.2.2.2).2 (oFive v).1.1).1).2 (oFive v).1.2.1).2 (oList (oTexts (oList (oNum (oTruth (oNum (oFive v).2 (oFive v).1.2.2.1).2 (oFive v).1.2.2.2.1).2 (oFive v).1.2.2.2.2).2 (oFive v).1.1).2 (oList (oNum (oTruth (oNum (oFive v).2 (oFive v).1.2.2.1).2 (oFive v).1.2.2.2.1).2 (oFive v).1.2.2.2.2).2 (oFive v).1.1).1).2 (oFive v).1.2.1).1).2 = false := h
 have e2 : (readO v).1 = ⟨(oCalls (oList (oTexts (oList (oNum (oTruth (oNum (oFive v).2 (oFive v).1.2.2.1).2 (oFive v).1.2.2.2.1).2 (oFive v).1.2.2.2.2).2 (oFive v).1.1).2 (oList (oNum (oTruth (oNum (oFive v).2 (oFive v).1.2.2.1).2 (oFive v).1.2.2.2.1).2 (oFive v).1.2.2.2.2).2 (oFive v).1.1).1).2 (oFive v).1.2.1).2 (oList (oTexts (oList (oNum (oTruth (oNum (oFive v).2 (oFive v).1.2.2.1).2 (oFive v).1.2.2.2.1).2 (oFive v).1.2.2.2.2).2 (oFive v).1.1).2 (oList (oNum (oTruth (oNum (oFive v).2 (oFive v).1.2.2.1).2 (oFive v).1.2.2.2.1).2 (oFive v).1.2.2.2.2).2 (oFive v).1.1).1).2 (oFive v).1.2.1).1).1, (oNum (oTruth (oNum (oFive v).2 (oFive v).1.2.2.1).2 (oFive v).1.2.2.2.1).2 (oFive v).1.2.2.2.2).1, (oNum (oFive v).2 (oFive v).1.2.2.1).1, (oTruth (oNum (oFive v).2 (oFive v).1.2.2.1).2 (oFive v).1.2.2.2.1).1, (oTexts (oList (oNum (oTruth (oNum (oFive v).2 (oFive v).1.2.2.1).2 (oFive v).1.2.2.2.1).2 (oFive v).1.2.2.2.2).2 (oFive v).1.1).2 (oList (oNum (oTruth (oNum (oFive v).2 (oFive v).1.2.2.1).2 (oFive v).1.2.2.2.1).2 (oFive v).1.2.2.2.2).2 (oFive v).1.1).1).1⟩ := rfl
 rw [e2]
 have hb5 : (oFive v).2 = false → v.tame = true → (oFive v).1.1.tame = true ∧ (oFive v).1.2.1.tame = true ∧ (oFive v).1.2.2.1.tame = true ∧ (oFive v).1.2.2.2.2.tame = true := by
  intro h0 ht
  have e := oFive_strict h0
  generalize (oFive v).1 = x at e
  rw [e] at ht
  simp only [Tr.tame, Tr.tameP, Bool.and_eq_true] at ht
  exact ⟨ht.2.1, ht.2.2.1, ht.2.2.2.1, ht.2.2.2.2.2.1⟩
 have key : (oFive v).2 = false := by
  revert e1
  generalize oFive v = x
  intro e1
  by_cases hx : x.2 = false
  ·exact hx
  ·exfalso
   have hx : x.2 = true := by simpa using hx
   rw [hx] at e1
   have n1 : ∀ v, (oNum true v).2 = true := by intro v; cases v <;> simp [oNum]; split <;> rfl
   have n2 : ∀ v, (oTruth true v).2 = true := by intro v; cases v <;> rfl
   have n3 : ∀ v, (oList true v).2 = true := by intro v; cases v <;> rfl
   have n4 : ∀ l, (oTexts true l).2 = true := by
    intro l
    induction l with
    | nil => rfl
    | cons v r ih =>
     have : (oText true v).2 = true := by cases v <;> rfl
     simp only [oTexts, this, ih]
   have nS : ∀ a b c d e f g, (oSeven true a b c d e f g).2 = true := by
    intro a b c d e f g
    have t1 : ∀ v, (oText true v).2 = true := by intro v; cases v <;> rfl
    simp only [oSeven, n1, n2, t1]
   have n5 : ∀ v, (oCall true v).2 = true := by
    intro v; unfold oCall; split
    ·exact nS ..
    ·rfl
   have n6 : ∀ l, (oCalls true l).2 = true := by
    intro l
    induction l with
    | nil => rfl
    | cons v r ih => simp only [oCalls, n5, ih]
   simp [n1, n2, n3, n4, n6] at e1
 obtain ⟨T1, T2, T3, T4⟩ := hb5 key ht
 have ev := oFive_strict key
 generalize oFive v = x at e1 ev T1 T2 T3 T4 key ⊢
 have tq1 : Tr.tameL (oList (oTexts (oList (oNum (oTruth (oNum x.2 x.1.2.2.1).2 x.1.2.2.2.1).2 x.1.2.2.2.2).2 x.1.1).2 (oList (oNum (oTruth (oNum x.2 x.1.2.2.1).2 x.1.2.2.2.1).2 x.1.2.2.2.2).2 x.1.1).1).2 x.1.2.1).1 = true := by
  generalize (oTexts (oList (oNum (oTruth (oNum x.2 x.1.2.2.1).2 x.1.2.2.2.1).2 x.1.2.2.2.2).2 x.1.1).2 (oList (oNum (oTruth (oNum x.2 x.1.2.2.1).2 x.1.2.2.2.1).2 x.1.2.2.2.2).2 x.1.1).1).2 = bb
  generalize x.1.2.1 = w at T2
  cases w <;> simp only [oList, Tr.tameL]
  simp only [Tr.tame, Bool.and_eq_true] at T2
  exact T2.2
 obtain ⟨h1, c1⟩ := oCalls_strict e1 tq1
 obtain ⟨h2, c2⟩ := oList_false (pair_eta h1)
 obtain ⟨h3, c3⟩ := oTexts_strict h2
 obtain ⟨h4, c4⟩ := oList_false (pair_eta h3)
 obtain ⟨h5, c5⟩ := oNum_cnt (pair_eta h4) T4
 obtain ⟨h6, c6⟩ := oTruth_false (pair_eta h5)
 obtain ⟨h7, c7⟩ := oNum_cnt (pair_eta h6) T3
 simp only [tellT]
 rw [← c1, ← c2, ← c3, ← c4, ← c5, ← c6, ← c7]
 exact ev
theorem back_cnt {n : Int} (h : inR n = true) : backN (numT (cntT n)) = n := by
 simp only [inR, Bool.and_eq_true, decide_eq_true_eq] at h
 have hn : numT (cntT n) = 1099511627776 + n := rfl
 unfold backN
 rw [hn, if_neg (by omega), IntWalk.i64_in (1099511627776 + n) ⟨by omega, by omega⟩, IntWalk.i64_in _ ⟨by omega, by omega⟩]; omega
theorem oNum_of {b : Bool} {n : Int} (h : inR n = true) : oNum b (cntT n) = (n, b) := by
 simp only [inR, Bool.and_eq_true, decide_eq_true_eq] at h
 simp only [cntT, oNum]
 rw [if_neg (by omega), IntWalk.i64_in (1099511627776 + n) ⟨by omega, by omega⟩, IntWalk.i64_in _ ⟨by omega, by omega⟩]
 simp only [Prod.mk.injEq, and_true]; omega
theorem callX_of {d : Dn} (h : okN d = true) : callX (callT d) = d := by
 simp only [okN, Bool.and_eq_true] at h
 obtain ⟨⟨⟨h1, h2⟩, h3⟩, h4⟩ := h
 have e0 : kidT (callT d) 0 = cntT d.at_ := rfl
 have e1 : kidT (callT d) 1 = cntT d.cl := rfl
 have e2 : kidT (callT d) 2 = cntT d.fr := rfl
 have e3 : kidT (callT d) 3 = cntT d.to := rfl
 have e4 : kidT (callT d) 4 = .tr d.is := rfl
 have e5 : kidT (callT d) 5 = .text d.line := rfl
 have e6 : kidT (callT d) 6 = .text d.reply := rfl
 unfold callX
 rw [e0, e1, e2, e3, e4, e5, e6, back_cnt h1, back_cnt h2, back_cnt h3, back_cnt h4]
 cases d with
 | mk a1 a2 a3 a4 a5 a6 a7 => cases a7 <;> rfl
theorem oCall_of {b : Bool} {d : Dn} (h : okN d = true) : oCall b (callT d) = (d, b) := by
 simp only [okN, Bool.and_eq_true] at h
 obtain ⟨⟨⟨h1, h2⟩, h3⟩, h4⟩ := h
 simp only [callT, oCall, oSeven, oNum_of h1, oNum_of h2, oNum_of h3, oNum_of h4, oTruth, oText]
theorem okN_all {t : Td} (h : checkB t = 0) : ∀ d ∈ t.calls, okN d = true := fun d hd => by
 obtain ⟨d1, d2, d3, d4⟩ := (check_ok h).2.2 d hd
 simp only [okN, d1, d2, d3, d4, Bool.and_true]
theorem readT_of {t : Td} (h : checkB t = 0) : readT (tellT t) = t := by
 obtain ⟨c1, c2, _⟩ := check_ok h
 have e0 : kidT (tellT t) 0 = .list (t.behind.map .text) := rfl
 have e1 : kidT (tellT t) 1 = .list (t.calls.map callT) := rfl
 have e2 : kidT (tellT t) 2 = cntT t.left := rfl
 have e3 : kidT (tellT t) 3 = .tr t.shut := rfl
 have e4 : kidT (tellT t) 4 = cntT t.ticks := rfl
 unfold readT
 rw [e0, e1, e2, e3, e4, back_cnt c1, back_cnt c2]
 have f1 : (kidsT (.list (t.behind.map .text))).map textT = t.behind := by
  simp only [kidsT, List.map_map]
  have : ∀ s ∈ t.behind, (textT ∘ Tr.text) s = id s := fun _ _ => rfl
  rw [List.map_congr_left this, List.map_id]
 have f2 : (kidsT (.list (t.calls.map callT))).map callX = t.calls := by
  simp only [kidsT, List.map_map]
  have : ∀ d ∈ t.calls, (callX ∘ callT) d = id d := fun d hd => callX_of (okN_all h d hd)
  rw [List.map_congr_left this, List.map_id]
 rw [f1, f2]
 cases t with
 | mk a1 a2 a3 a4 a5 => cases a4 <;> rfl
theorem oTexts_of (b : Bool) : ∀ l : List Bs, oTexts b (l.map .text) = (l, b)
 | [] => rfl
 | s :: r => by simp only [List.map_cons, oTexts, oText, oTexts_of b r]
theorem oCalls_of (b : Bool) : ∀ {l : List Dn}, (∀ d ∈ l, okN d = true) → oCalls b (l.map callT) = (l, b)
 | [], _ => rfl
 | d :: r, h => by
  simp only [List.map_cons, oCalls, oCall_of (h d (List.mem_cons_self ..)), oCalls_of b fun x hx => h x (List.mem_cons_of_mem _ hx)]
theorem readO_of {t : Td} (h : checkB t = 0) : readO (tellT t) = (t, false) := by
 obtain ⟨c1, c2, _⟩ := check_ok h
 have e : oFive (tellT t) = ((.list (t.behind.map .text), .list (t.calls.map callT), cntT t.left, .tr t.shut, cntT t.ticks), false) := rfl
 unfold readO
 rw [e]
 simp only [oNum_of c1, oNum_of c2, oTruth, oList, oTexts_of, oCalls_of _ (okN_all h)]
theorem tell_lev (t : Td) : (tellT t).lev 4 = true := by
 have e1 : ∀ l : List Bs, Tr.levL 2 (l.map .text) = true := by
  intro l; induction l with
  | nil => rfl
  | cons s r ih => simp only [List.map_cons, Tr.levL, ih, Tr.lev, Bool.and_self]
 have e2 : ∀ l : List Dn, Tr.levL 2 (l.map callT) = true := by
  intro l; induction l with
  | nil => rfl
  | cons s r ih => simp only [List.map_cons, Tr.levL, ih, Bool.and_true]; rfl
 simp only [tellT, Tr.lev, Tr.levP, e1, e2, cntT, Bool.and_self]
theorem end_ok {s : Bs} {v : Tr} (h : s = v.enc) : endS ((⟨s, 0, 0⟩ : Sc).adv v.enc.length) = 0 := by
 subst h
 simp [endS, Sc.adv]
theorem laid_on {s : Bs} {v : Tr} (h : s = v.enc) : (⟨s, 0, 0⟩ : Sc).on (v.enc ++ []) := ⟨rfl, Nat.zero_le _, by simp [Sc.rest, h]⟩
theorem unbytes_eq (s : Bs) : unbytesO s = unbytesR s := by
 have main : ∀ t : Td, checkB t = 0 → bytesB t = s → unbytesO s = some t ∧ unbytesR s = some t := by
  intro t hc hs
  have hs' : s = (tellT t).enc := hs.symm
  have o1 := takeV_ok 4 (tellT t) ⟨s, 0, 0⟩ [] (tell_fit hc) (tell_good t) (tell_lev t) (laid_on hs')
  have o2 := oneV_ok 4 (tellT t) ⟨s, 0, 0⟩ [] (tell_fit hc) (tell_good t) (tell_lev t) (laid_on hs')
  constructor
  ·unfold unbytesO
   rw [o1]
   simp only
   rw [if_neg (by simp [end_ok hs']), readO_of hc, if_neg (by simp [hc])]
  ·unfold unbytesR
   rw [o2]
   simp only
   rw [if_neg (by simp [end_ok hs']), readT_of hc, if_pos ⟨hc, hs⟩]
 cases ho : unbytesO s with
 | some t =>
  have : checkB t = 0 ∧ bytesB t = s := by
   unfold unbytesO at ho
   split at ho
   ·cases ho
   ·rename_i he
    split at ho
    ·cases ho
    ·rename_i hb
     simp only [Option.some.injEq] at ho
     have he0 : endS (takeV 4 ⟨s, 0, 0⟩).2 = 0 := by simpa using he
     have hb0 : (readO (takeV 4 ⟨s, 0, 0⟩).1).2 = false ∧ checkB (readO (takeV 4 ⟨s, 0, 0⟩).1).1 = 0 := by
      simpa [not_or] using hb
     have hbad : (takeV 4 ⟨s, 0, 0⟩).2.bad = 0 := by
      unfold endS at he0
      split at he0
      ·rename_i h; exact absurd he0 h
      ·rename_i h; simpa using h
     have took := takeV_sound 4 ⟨s, 0, 0⟩ (Nat.zero_le _) hbad
     have hrest : (takeV 4 ⟨s, 0, 0⟩).2.rest = [] := by
      have hst := Stays.takeV 4 ⟨s, 0, 0⟩ (Nat.zero_le _)
      unfold endS at he0
      rw [if_neg (by simp [hbad])] at he0
      split at he0
      ·simp at he0
      ·rename_i h
       exact List.drop_of_length_le (by omega)
     have hs := took.on.is
     rw [hrest, List.append_nil] at hs
     have hs : s = (takeV 4 ⟨s, 0, 0⟩).1.enc := hs
     have hv := readO_strict hb0.1 (takeV_tame 4 _)
     rw [← ho]
     refine ⟨hb0.2, ?_⟩
     unfold bytesB
     rw [← hv]; exact hs.symm
  rw [(main t this.1 this.2).2]
 | none =>
  cases hr : unbytesR s with
  | none => rfl
  | some t =>
   have : checkB t = 0 ∧ bytesB t = s := by
    unfold unbytesR at hr
    split at hr
    ·cases hr
    ·split at hr
     ·rename_i h
      simp only [Option.some.injEq] at hr
      rw [← hr]; exact h
     ·cases hr
   rw [(main t this.1 this.2).1] at ho; cases ho
end Go.Vd

namespace Go.Vd
open Go.RowKit
set_option maxRecDepth 10000
structure VI (m : Mem) (b : Bool) (t : Td) (tc tb : Id) : Prop where
 z0 : m [0] 0 = some (.slice true [] [])
 z1 : m [0] 1 = some (.int .i64 0)
 z2 : m [0] 2 = some (.int .i64 0)
 z3 : m [0] 3 = some (.bool false)
 z4 : m [0] 4 = some (.slice true [] [])
 o : m [12] 0 = some (.bool b)
 t0 : m [35] 0 = some (.slice t.calls.isEmpty tc (t.calls.map dnD))
 t1 : m [35] 1 = some (.int .i64 t.ticks)
 t2 : m [35] 2 = some (.int .i64 t.left)
 t3 : m [35] 3 = some (.bool t.shut)
 t4 : m [35] 4 = some (.slice t.behind.isEmpty tb (t.behind.map .str))
section
variable {m m' : Mem} {b b' : Bool} {t : Td} {tc tb t' : Id} {j f n e : Nat}
theorem VI.keep (h : VI m b t tc tb) (h0 : ∀ o, m' [0] o = m [0] o) (h1 : ∀ o, m' [12] o = m [12] o) (h2 : ∀ o, m' [35] o = m [35] o) : VI m' b t tc tb :=
 ⟨by rw [h0, h.z0], by rw [h0, h.z1], by rw [h0, h.z2], by rw [h0, h.z3], by rw [h0, h.z4], by rw [h1, h.o], by rw [h2, h.t0], by rw [h2, h.t1], by rw [h2, h.t2], by rw [h2, h.t3], by rw [h2, h.t4]⟩
theorem VI.put (h : VI m b t tc tb) {o : Nat} {ds : List D} (hj : 37 ≤ j) : VI (m.put [j] o ds) b t tc tb :=
 h.keep (fun o => Mem.put_other (by simp; omega)) (fun o => Mem.put_other (by simp; omega)) (fun o => Mem.put_other (by simp; omega))
theorem VI.op (h : VI m b t tc tb) : VI (Upd.app m (opU [12] b')) b' t tc tb :=
 ⟨by rw [opU_rd, if_neg (by simp), h.z0], by rw [opU_rd, if_neg (by simp), h.z1], by rw [opU_rd, if_neg (by simp), h.z2], by rw [opU_rd, if_neg (by simp), h.z3], by rw [opU_rd, if_neg (by simp), h.z4], by simp [opU_rd], by rw [opU_rd, if_neg (by simp), h.t0], by rw [opU_rd, if_neg (by simp), h.t1], by rw [opU_rd, if_neg (by simp), h.t2], by rw [opU_rd, if_neg (by simp), h.t3], by rw [opU_rd, if_neg (by simp), h.t4]⟩
theorem VI.grow (h : VI m b t tc tb) {nl : Bool} {xs : List D} (hg : Gk m n e nl t') (hf : 37 ≤ f) : VI (Upd.app m (growU e [f] (.slice nl t' xs))) b t tc tb := by
 have key : ∀ i o, i < 37 → Upd.app m (growU e [f] (.slice nl t' xs)) [i] o = m [i] o := by
  intro i o hi
  rw [growU_rd, if_neg (by simp; omega), if_neg]
  rintro ⟨q1, q2, _⟩
  rcases hg with h' | ⟨i', rfl, a, _, _⟩
  ·rw [q1] at h'; cases h'
  ·simp at q2; omega
 exact h.keep (fun o => key 0 o (by omega)) (fun o => key 12 o (by omega)) (fun o => key 35 o (by omega))
theorem VI.setB (h : VI m b t tc tb) {s : Bs} : VI (m.put [35] 4 [.slice false t' (t.behind.map .str ++ [.str s])]) b { t with behind := t.behind ++ [s] } tc t' := by
 have nz : ([0] : Id) ≠ [35] := by simp
 have no : ([12] : Id) ≠ [35] := by simp
 exact ⟨by rw [Mem.put_other nz, h.z0], by rw [Mem.put_other nz, h.z1], by rw [Mem.put_other nz, h.z2], by rw [Mem.put_other nz, h.z3], by rw [Mem.put_other nz, h.z4], by rw [Mem.put_other no, h.o], by simp [put1_rd, h.t0], by simp [put1_rd, h.t1], by simp [put1_rd, h.t2], by simp [put1_rd, h.t3], by rw [isEmpty_snoc, List.map_append]; simp [put1_rd]⟩
theorem VI.setC (h : VI m b t tc tb) {d : Dn} : VI (m.put [35] 0 [.slice false t' (t.calls.map dnD ++ [dnD d])]) b { t with calls := t.calls ++ [d] } t' tb := by
 have nz : ([0] : Id) ≠ [35] := by simp
 have no : ([12] : Id) ≠ [35] := by simp
 exact ⟨by rw [Mem.put_other nz, h.z0], by rw [Mem.put_other nz, h.z1], by rw [Mem.put_other nz, h.z2], by rw [Mem.put_other nz, h.z3], by rw [Mem.put_other nz, h.z4], by rw [Mem.put_other no, h.o], by rw [isEmpty_snoc, List.map_append]; simp [put1_rd], by simp [put1_rd, h.t1], by simp [put1_rd, h.t2], by simp [put1_rd, h.t3], by simp [put1_rd, h.t4]⟩
theorem Gk.op {nl : Bool} (h : Gk m n e nl t') : Gk (Upd.app m (opU [12] b')) n e nl t' := Gk.low (j := 12) h (by omega)
end
theorem datL_get {l : List Tr} {i : Nat} (h : i < l.length) : (Tr.datL l)[i]? = some l[i].dat := by
 have : ∀ (l : List Tr), Tr.datL l = l.map Tr.dat := by
  intro l; induction l with
  | nil => rfl
  | cons v r ih => simp only [Tr.datL, ih, List.map_cons]
 rw [this, List.getElem?_map, List.getElem?_eq_getElem h]; rfl
set_option maxHeartbeats 8000000 in
theorem loop23a {S : Summs} (s58 : S 58 = some (opQ F58)) {l : List Tr} (hl : l.length ≤ 1000) {b0 : Bool} {t0 : Td} {tc : Id} {nl : Bool} {tl : Id} {X : D} {Q : Ex → St → Prop}
  (hexit : ∀ st tb, st.s 2 = .ptr [0] 0 → st.s 6 = .ptr [12] 0 → st.s 8 = .ptr [35] 0 → st.s 7 = X → VI st.m (oTexts b0 l).2 { t0 with behind := (oTexts b0 l).1 } tc tb → 44 ≤ st.c → Q (.exit 0) st) :
  ∀ (r i : Nat) (tb : Id) st g, i + r = l.length → st.s 49 = .int .i64 (i : Int) → st.s 48 = .int .i64 (l.length : Int) → st.s 47 = .slice nl tl (Tr.datL l) → st.s 2 = .ptr [0] 0 → st.s 6 = .ptr [12] 0 → st.s 8 = .ptr [35] 0 → st.s 7 = X → 44 ≤ st.c →
   VI st.m (oTexts b0 (l.take i)).2 { t0 with behind := (oTexts b0 (l.take i)).1 } tc tb → Gk st.m st.c 9 (oTexts b0 (l.take i)).1.isEmpty tb → loopW S [] dc23l0 Q st g := by
 intro r
 induction r with
 | zero =>
  intro i tb st g hir h49 h48 h47 h2 h6 h8 h7 hc I G
  refine wp_loopd dc23l0.eq_1 ?_
  have hlt : ((i : Int) < (l.length : Int)) = False := eq_false (by omega)
  simp (disch := omega) only [↓go1, gB0, ↓x_tass, reduceIte, Nat.reduceEqDiff, Nat.reduceAdd, Nat.reduceSub, Nat.reduceLT, Nat.reduceLeDiff, put1_rd, put_rd, growU_rd, opU_rd, lit_ne, ne_lit, Int.reduceEq, Int.reduceToNat, Int.reduceLE, List.drop_succ_cons, fill_nil, rd_zero, rd_succ, gB1, reduceCtorEq, ldD_agg, gB3, rowU_op, drawnU_op, data_if, cells_if, un_if, calm_if, calm1_if, data_ni, cells_ni, un_ni, calm_ni, calm1_ni, h49, h48, hlt]
  rw [List.take_of_length_le (by omega)] at I
  exact hexit _ tb h2 h6 h8 h7 I (by simp only; omega)
 | succ r ih =>
  intro i tb st g hir h49 h48 h47 h2 h6 h8 h7 hc I G
  refine wp_loopd dc23l0.eq_1 ?_
  have hlt : ((i : Int) < (l.length : Int)) = True := eq_true (by omega)
  have hi0 : ((0 : Int) ≤ (i : Int)) := by omega
  have hil : i < l.length := by omega
  have hw : IntKind.i64.wrap ((i : Int) + 1) = ((i + 1 : Nat) : Int) := by rw [IntWalk.i64_in _ ⟨by omega, by omega⟩]; omega
  have hx : (Tr.datL l)[((i : Int)).toNat]? = some l[i].dat := by rw [Int.toNat_natCast]; exact datL_get hil
  have htk : oTexts b0 (l.take (i + 1)) = ((oTexts b0 (l.take i)).1 ++ [(oText (oTexts b0 (l.take i)).2 l[i]).1], (oText (oTexts b0 (l.take i)).2 l[i]).2) := by rw [List.take_add_one, List.getElem?_eq_getElem hil]; exact oTexts_snoc ..
  have hlen : (oTexts b0 (l.take i)).1.length ≤ 1000 := by rw [oTexts_len]; simp; omega
  generalize oTexts b0 (l.take i) = q at I G htk hlen
  obtain ⟨bs, b⟩ := q
  simp only at I G htk hlen
  have hnil : bs.isEmpty = true → bs.map D.str = [] := fun h => by rw [List.isEmpty_iff.1 h]; rfl
  have f58 := f58_dat b l[i]
  generalize l[i] = v at hx htk f58
  obtain ⟨u1, u2, u3, u4, _, _, _⟩ := dat_cells v
  generalize oText b v = p at htk f58
  obtain ⟨s, b'⟩ := p
  simp only at htk f58
  simp (disch := omega) only [↓go1, gB0, ↓x_tass, reduceIte, Nat.reduceEqDiff, Nat.reduceAdd, Nat.reduceSub, Nat.reduceLT, Nat.reduceLeDiff, put1_rd, put_rd, growU_rd, opU_rd, lit_ne, ne_lit, Int.reduceEq, Int.reduceToNat, Int.reduceLE, List.drop_succ_cons, fill_nil, rd_zero, rd_succ, gB1, reduceCtorEq, ldD_agg, gB3, rowU_op, drawnU_op, data_if, cells_if, un_if, calm_if, calm1_if, data_ni, cells_ni, un_ni, calm_ni, calm1_ni, h49, h48, h47, h2, h6, h8, h7, I.z0, I.z1, I.z2, I.z3, I.z4, I.o, I.t0, I.t1, I.t2, I.t3, I.t4, hlt, hi0, hx, hw, u3, callK_fn s58]
  refine got_op I.o f58 ?_
  simp (disch := omega) only [↓go1, gB0, ↓x_tass, reduceIte, Nat.reduceEqDiff, Nat.reduceAdd, Nat.reduceSub, Nat.reduceLT, Nat.reduceLeDiff, put1_rd, put_rd, growU_rd, opU_rd, lit_ne, ne_lit, Int.reduceEq, Int.reduceToNat, Int.reduceLE, List.drop_succ_cons, fill_nil, rd_zero, rd_succ, gB1, reduceCtorEq, ldD_agg, gB3, rowU_op, drawnU_op, data_if, cells_if, un_if, calm_if, calm1_if, data_ni, cells_ni, un_ni, calm_ni, calm1_ni, h49, h48, h47, h2, h6, h8, h7, I.z0, I.z1, I.z2, I.z3, I.z4, I.o, I.t0, I.t1, I.t2, I.t3, I.t4, hlt, hi0, hx, hw, u3, callK_fn s58]
  have G1 : Gk ((Upd.app st.m (opU [12] b')).put [st.c + 1 + 3 + 5] 0 [.tok 10]) st.c 9 bs.isEmpty tb := Gk.put (Gk.op G) (by omega)
  refine Need.intro ⟨by omega, rfl, G1.toGrow⟩ ?_
  rw [app_fold hnil]
  have qn := G.nlow (j := 35) (by omega)
  simp (disch := omega) only [↓go1, gB0, ↓x_tass, reduceIte, Nat.reduceEqDiff, Nat.reduceAdd, Nat.reduceSub, Nat.reduceLT, Nat.reduceLeDiff, put1_rd, put_rd, growU_rd, opU_rd, lit_ne, ne_lit, Int.reduceEq, Int.reduceToNat, Int.reduceLE, List.drop_succ_cons, fill_nil, rd_zero, rd_succ, gB1, reduceCtorEq, ldD_agg, gB3, rowU_op, drawnU_op, data_if, cells_if, un_if, calm_if, calm1_if, data_ni, cells_ni, un_ni, calm_ni, calm1_ni, qn, h49, h48, h47, h2, h6, h8, h7, I.z0, I.z1, I.z2, I.z3, I.z4, I.o, I.t0, I.t1, I.t2, I.t3, I.t4, hlt, hi0, hx, hw, u3, callK_fn s58]
  refine Need.intro (fun p hp w hw' => ?_) ?_
  ·simp only [List.mem_cons, List.mem_nil_iff, or_false] at hp
   rcases hp with rfl | rfl
   all_goals simp only [List.getD_cons_succ, List.getD_cons_zero, wlocs, rds, opU] at hw' ⊢
   all_goals
    simp (disch := omega) only [↓go1, gB0, ↓x_tass, reduceIte, Nat.reduceEqDiff, Nat.reduceAdd, Nat.reduceSub, Nat.reduceLT, Nat.reduceLeDiff, put1_rd, put_rd, growU_rd, opU_rd, lit_ne, ne_lit, Int.reduceEq, Int.reduceToNat, Int.reduceLE, List.drop_succ_cons, fill_nil, rd_zero, rd_succ, gB1, reduceCtorEq, ldD_agg, gB3, rowU_op, drawnU_op, data_if, cells_if, un_if, calm_if, calm1_if, data_ni, cells_ni, un_ni, calm_ni, calm1_ni, h49, h48, h47, h2, h6, h8, h7, I.z0, I.z1, I.z2, I.z3, I.z4, I.o, I.t0, I.t1, I.t2, I.t3, I.t4, hlt, hi0, hx, hw, u3, callK_fn s58] at hw' ⊢
    exact feet_one (by first | (simp; done) | (simp; omega)) hw'
  ·simp (disch := omega) only [↓go1, gB0, ↓x_tass, reduceIte, Nat.reduceEqDiff, Nat.reduceAdd, Nat.reduceSub, Nat.reduceLT, Nat.reduceLeDiff, put1_rd, put_rd, growU_rd, opU_rd, lit_ne, ne_lit, Int.reduceEq, Int.reduceToNat, Int.reduceLE, List.drop_succ_cons, fill_nil, rd_zero, rd_succ, gB1, reduceCtorEq, ldD_agg, gB3, rowU_op, drawnU_op, data_if, cells_if, un_if, calm_if, calm1_if, data_ni, cells_ni, un_ni, calm_ni, calm1_ni, qn, h49, h48, h47, h2, h6, h8, h7, I.z0, I.z1, I.z2, I.z3, I.z4, I.o, I.t0, I.t1, I.t2, I.t3, I.t4, hlt, hi0, hx, hw, u3, callK_fn s58]
   refine ih (i + 1) [st.c + 1 + 3 + 6] _ _ (by omega) rfl h48 h47 h2 h6 h8 h7 (by simp only; omega) ?_ ?_
   ·rw [htk]
    exact VI.setB (VI.grow (VI.put (VI.op I) (by omega)) G1 (by omega))
   ·rw [htk, isEmpty_snoc]
    exact Gk.low (Gk.new (by omega) (by simp only; omega)) (by omega)
set_option maxHeartbeats 8000000 in
theorem loop23b {S : Summs} (s59 : S 59 = some (opQ F59)) {l : List Tr} (hl : l.length ≤ 1000) {b0 : Bool} {t0 : Td} {tb : Id} {nl : Bool} {tl : Id} {Q : Ex → St → Prop}
  (hexit : ∀ st tc, st.s 2 = .ptr [0] 0 → st.s 6 = .ptr [12] 0 → st.s 8 = .ptr [35] 0 → VI st.m (oCalls b0 l).2 { t0 with calls := (oCalls b0 l).1 } tc tb → 44 ≤ st.c → Q (.exit 2) st) :
  ∀ (r i : Nat) (tc : Id) st g, i + r = l.length → st.s 68 = .int .i64 (i : Int) → st.s 67 = .int .i64 (l.length : Int) → st.s 66 = .slice nl tl (Tr.datL l) → st.s 2 = .ptr [0] 0 → st.s 6 = .ptr [12] 0 → st.s 8 = .ptr [35] 0 → 44 ≤ st.c →
   VI st.m (oCalls b0 (l.take i)).2 { t0 with calls := (oCalls b0 (l.take i)).1 } tc tb → Gk st.m st.c 65 (oCalls b0 (l.take i)).1.isEmpty tc → loopW S [] dc23l1 Q st g := by
 intro r
 induction r with
 | zero =>
  intro i tc st g hir h68 h67 h66 h2 h6 h8 hc I G
  refine wp_loopd dc23l1.eq_1 ?_
  have hlt : ((i : Int) < (l.length : Int)) = False := eq_false (by omega)
  simp (disch := omega) only [↓go1, gB0, ↓x_tass, reduceIte, Nat.reduceEqDiff, Nat.reduceAdd, Nat.reduceSub, Nat.reduceLT, Nat.reduceLeDiff, put1_rd, put_rd, growU_rd, opU_rd, lit_ne, ne_lit, Int.reduceEq, Int.reduceToNat, Int.reduceLE, List.drop_succ_cons, fill_nil, rd_zero, rd_succ, gB1, reduceCtorEq, ldD_agg, gB3, rowU_op, drawnU_op, data_if, cells_if, un_if, calm_if, calm1_if, data_ni, cells_ni, un_ni, calm_ni, calm1_ni, h68, h67, hlt]
  rw [List.take_of_length_le (by omega)] at I
  exact hexit _ tc h2 h6 h8 I (by simp only; omega)
 | succ r ih =>
  intro i tc st g hir h68 h67 h66 h2 h6 h8 hc I G
  refine wp_loopd dc23l1.eq_1 ?_
  have hlt : ((i : Int) < (l.length : Int)) = True := eq_true (by omega)
  have hi0 : ((0 : Int) ≤ (i : Int)) := by omega
  have hil : i < l.length := by omega
  have hw : IntKind.i64.wrap ((i : Int) + 1) = ((i + 1 : Nat) : Int) := by rw [IntWalk.i64_in _ ⟨by omega, by omega⟩]; omega
  have hx : (Tr.datL l)[((i : Int)).toNat]? = some l[i].dat := by rw [Int.toNat_natCast]; exact datL_get hil
  have htk : oCalls b0 (l.take (i + 1)) = ((oCalls b0 (l.take i)).1 ++ [(oCall (oCalls b0 (l.take i)).2 l[i]).1], (oCall (oCalls b0 (l.take i)).2 l[i]).2) := by rw [List.take_add_one, List.getElem?_eq_getElem hil]; exact oCalls_snoc ..
  have hlen : (oCalls b0 (l.take i)).1.length ≤ 1000 := by rw [oCalls_len]; simp; omega
  generalize oCalls b0 (l.take i) = q at I G htk hlen
  obtain ⟨bs, b⟩ := q
  simp only at I G htk hlen
  have hnil : bs.isEmpty = true → bs.map dnD = [] := fun h => by rw [List.isEmpty_iff.1 h]; rfl
  have f59 := f59_dat b l[i]
  generalize l[i] = v at hx htk f59
  obtain ⟨u1, u2, u3, u4, _, _, _⟩ := dat_cells v
  generalize oCall b v = p at htk f59
  obtain ⟨d, b'⟩ := p
  simp only at htk f59
  have hd : dnD d = .agg [.int .i64 d.cl, .str d.line, .str d.reply, .int .i64 d.fr, .int .i64 d.at_, .int .i64 d.to, .bool d.is] := rfl
  simp (disch := omega) only [↓go1, gB0, ↓x_tass, reduceIte, Nat.reduceEqDiff, Nat.reduceAdd, Nat.reduceSub, Nat.reduceLT, Nat.reduceLeDiff, put1_rd, put_rd, growU_rd, opU_rd, lit_ne, ne_lit, Int.reduceEq, Int.reduceToNat, Int.reduceLE, List.drop_succ_cons, fill_nil, rd_zero, rd_succ, gB1, reduceCtorEq, ldD_agg, gB3, rowU_op, drawnU_op, data_if, cells_if, un_if, calm_if, calm1_if, data_ni, cells_ni, un_ni, calm_ni, calm1_ni, h68, h67, h66, h2, h6, h8, I.z0, I.z1, I.z2, I.z3, I.z4, I.o, I.t0, I.t1, I.t2, I.t3, I.t4, hlt, hi0, hx, hw, u3, callK_fn s59]
  refine got_op I.o f59 ?_
  simp (disch := omega) only [↓go1, gB0, ↓x_tass, reduceIte, Nat.reduceEqDiff, Nat.reduceAdd, Nat.reduceSub, Nat.reduceLT, Nat.reduceLeDiff, put1_rd, put_rd, growU_rd, opU_rd, lit_ne, ne_lit, Int.reduceEq, Int.reduceToNat, Int.reduceLE, List.drop_succ_cons, fill_nil, rd_zero, rd_succ, gB1, reduceCtorEq, ldD_agg, gB3, rowU_op, drawnU_op, data_if, cells_if, un_if, calm_if, calm1_if, data_ni, cells_ni, un_ni, calm_ni, calm1_ni, hd, h68, h67, h66, h2, h6, h8, I.z0, I.z1, I.z2, I.z3, I.z4, I.o, I.t0, I.t1, I.t2, I.t3, I.t4, hlt, hi0, hx, hw, u3, callK_fn s59]
  have G1 : Gk ((Upd.app st.m (opU [12] b')).put [st.c + 1 + 3 + 5] 0 [.tok 66]) st.c 65 bs.isEmpty tc := Gk.put (Gk.op G) (by omega)
  refine Need.intro ⟨by omega, rfl, G1.toGrow⟩ ?_
  rw [app_fold hnil]
  have qn := G.nlow (j := 35) (by omega)
  simp (disch := omega) only [↓go1, gB0, ↓x_tass, reduceIte, Nat.reduceEqDiff, Nat.reduceAdd, Nat.reduceSub, Nat.reduceLT, Nat.reduceLeDiff, put1_rd, put_rd, growU_rd, opU_rd, lit_ne, ne_lit, Int.reduceEq, Int.reduceToNat, Int.reduceLE, List.drop_succ_cons, fill_nil, rd_zero, rd_succ, gB1, reduceCtorEq, ldD_agg, gB3, rowU_op, drawnU_op, data_if, cells_if, un_if, calm_if, calm1_if, data_ni, cells_ni, un_ni, calm_ni, calm1_ni, hd, qn, h68, h67, h66, h2, h6, h8, I.z0, I.z1, I.z2, I.z3, I.z4, I.o, I.t0, I.t1, I.t2, I.t3, I.t4, hlt, hi0, hx, hw, u3, callK_fn s59]
  refine Need.intro (fun p hp w hw' => ?_) ?_
  ·simp only [List.mem_cons, List.mem_nil_iff, or_false] at hp
   rcases hp with rfl | rfl
   all_goals simp only [List.getD_cons_succ, List.getD_cons_zero, wlocs, rds, opU] at hw' ⊢
   all_goals
    simp (disch := omega) only [↓go1, gB0, ↓x_tass, reduceIte, Nat.reduceEqDiff, Nat.reduceAdd, Nat.reduceSub, Nat.reduceLT, Nat.reduceLeDiff, put1_rd, put_rd, growU_rd, opU_rd, lit_ne, ne_lit, Int.reduceEq, Int.reduceToNat, Int.reduceLE, List.drop_succ_cons, fill_nil, rd_zero, rd_succ, gB1, reduceCtorEq, ldD_agg, gB3, rowU_op, drawnU_op, data_if, cells_if, un_if, calm_if, calm1_if, data_ni, cells_ni, un_ni, calm_ni, calm1_ni, h68, h67, h66, h2, h6, h8, I.z0, I.z1, I.z2, I.z3, I.z4, I.o, I.t0, I.t1, I.t2, I.t3, I.t4, hlt, hi0, hx, hw, u3, callK_fn s59] at hw' ⊢
    exact feet_one (by first | (simp; done) | (simp; omega)) hw'
  ·simp (disch := omega) only [↓go1, gB0, ↓x_tass, reduceIte, Nat.reduceEqDiff, Nat.reduceAdd, Nat.reduceSub, Nat.reduceLT, Nat.reduceLeDiff, put1_rd, put_rd, growU_rd, opU_rd, lit_ne, ne_lit, Int.reduceEq, Int.reduceToNat, Int.reduceLE, List.drop_succ_cons, fill_nil, rd_zero, rd_succ, gB1, reduceCtorEq, ldD_agg, gB3, rowU_op, drawnU_op, data_if, cells_if, un_if, calm_if, calm1_if, data_ni, cells_ni, un_ni, calm_ni, calm1_ni, hd, qn, h68, h67, h66, h2, h6, h8, I.z0, I.z1, I.z2, I.z3, I.z4, I.o, I.t0, I.t1, I.t2, I.t3, I.t4, hlt, hi0, hx, hw, u3, callK_fn s59]
   refine ih (i + 1) [st.c + 1 + 3 + 6] _ _ (by omega) rfl h67 h66 h2 h6 h8 (by simp only; omega) ?_ ?_
   ·rw [htk]
    exact VI.setC (d := d) (VI.grow (VI.put (VI.op I) (by omega)) G1 (by omega))
   ·rw [htk, isEmpty_snoc]
    exact Gk.low (Gk.new (by omega) (by simp only; omega)) (by omega)
def F23 : List D → Option D
 | [.str s] => if s.length ≤ 1000000 then some (parsed (unbytesO s)) else none
 | _ => none
theorem tame_list {b : Bool} {v : Tr} (h : v.tame = true) : (oList b v).1.length ≤ 1000 := by
 cases v <;> simp only [oList, List.length_nil] <;> first | omega | skip
 simp only [Tr.tame, Bool.and_eq_true, decide_eq_true_eq] at h
 omega
theorem oFive_tame {v : Tr} (h : v.tame = true) : (oFive v).1.1.tame = true ∧ (oFive v).1.2.1.tame = true := by
 unfold oFive
 split
 ·simp only [Tr.tame, Tr.tameP, Bool.and_eq_true] at h
  exact ⟨h.2.1, h.2.2.1⟩
 ·exact ⟨rfl, rfl⟩
set_option maxHeartbeats 16000000 in
theorem ok23 {P : Program} (hb : DeskB P) (h15 : (funS F15).ok P 15) : (funS F23).ok P 23 := by
 have hS : Summs.ok P (tabL [(53, funS F53), (54, opQ F54), (55, opQ F55), (56, opQ F56), (57, opQ F57), (58, opQ F58), (59, opQ F59), (15, funS F15)]) := tabL_cons (ok53 hb) (tabL_cons (ok54 hb) (tabL_cons (ok55 hb) (tabL_cons (ok56 hb) (tabL_cons (ok57 hb) (tabL_cons (ok58 hb) (tabL_cons (ok59 hb) (tabL_cons h15 tabL_nil)))))))
 have s53 : tabL [(53, funS F53), (54, opQ F54), (55, opQ F55), (56, opQ F56), (57, opQ F57), (58, opQ F58), (59, opQ F59), (15, funS F15)] 53 = some (funS F53) := rfl
 have s54 : tabL [(53, funS F53), (54, opQ F54), (55, opQ F55), (56, opQ F56), (57, opQ F57), (58, opQ F58), (59, opQ F59), (15, funS F15)] 54 = some (opQ F54) := rfl
 have s55 : tabL [(53, funS F53), (54, opQ F54), (55, opQ F55), (56, opQ F56), (57, opQ F57), (58, opQ F58), (59, opQ F59), (15, funS F15)] 55 = some (opQ F55) := rfl
 have s56 : tabL [(53, funS F53), (54, opQ F54), (55, opQ F55), (56, opQ F56), (57, opQ F57), (58, opQ F58), (59, opQ F59), (15, funS F15)] 56 = some (opQ F56) := rfl
 have s57 : tabL [(53, funS F53), (54, opQ F54), (55, opQ F55), (56, opQ F56), (57, opQ F57), (58, opQ F58), (59, opQ F59), (15, funS F15)] 57 = some (opQ F57) := rfl
 have s58 : tabL [(53, funS F53), (54, opQ F54), (55, opQ F55), (56, opQ F56), (57, opQ F57), (58, opQ F58), (59, opQ F59), (15, funS F15)] 58 = some (opQ F58) := rfl
 have s59 : tabL [(53, funS F53), (54, opQ F54), (55, opQ F55), (56, opQ F56), (57, opQ F57), (58, opQ F58), (59, opQ F59), (15, funS F15)] 59 = some (opQ F59) := rfl
 have s15 : tabL [(53, funS F53), (54, opQ F54), (55, opQ F55), (56, opQ F56), (57, opQ F57), (58, opQ F58), (59, opQ F59), (15, funS F15)] 15 = some (funS F15) := rfl
 generalize tabL [(53, funS F53), (54, opQ F54), (55, opQ F55), (56, opQ F56), (57, opQ F57), (58, opQ F58), (59, opQ F59), (15, funS F15)] = S at hS s53 s54 s55 s56 s57 s58 s59 s15
 refine fun_ok (S := S) hS hb.f23 (fun ds r h => ?_) (fun ds r h => ?_)
 ·unfold F23 at h; split at h
  ·simp
  ·cases h
 ·unfold F23 at h; split at h
  ·rename_i s
   split at h
   ·rename_i hs
    simp only [Option.some.injEq] at h
    subst h
    have htame := takeV_tame 4 ⟨s, 0, 0⟩
    have f53 : F53 [.str s] = some (if endS (takeV 4 ⟨s, 0, 0⟩).2 = 0 then .tup [(takeV 4 ⟨s, 0, 0⟩).1.dat, .int .i64 0] else .tup [.nilIface, .int .i64 (endS (takeV 4 ⟨s, 0, 0⟩).2)]) := if_pos hs
    unfold unbytesO
    generalize takeV 4 ⟨s, 0, 0⟩ = q at f53 htame ⊢
    obtain ⟨v, c⟩ := q
    simp only at f53 htame ⊢
    unfold dc23
    by_cases he : endS c = 0
    ·have he' : (endS c = 0) = True := eq_true he
     rw [if_pos he] at f53
     rw [if_neg (by simp [he])]
     have f54 : ∀ nn tn, F54 false [v.dat, .slice nn tn [.str [98, 101, 104, 105, 110, 100], .str [99, 97, 108, 108, 115], .str [108, 101, 102, 116], .str [115, 101, 97, 108, 101, 100], .str [116, 105, 99, 107, 115]]] = some (.slice false [] [(oFive v).1.1.dat, (oFive v).1.2.1.dat, (oFive v).1.2.2.1.dat, (oFive v).1.2.2.2.1.dat, (oFive v).1.2.2.2.2.dat], (oFive v).2) := fun nn tn => f54_dat v
     obtain ⟨T1, T2⟩ := oFive_tame htame
     have hrd : readO v = (⟨(oCalls (oList (oTexts (oList (oNum (oTruth (oNum (oFive v).2 (oFive v).1.2.2.1).2 (oFive v).1.2.2.2.1).2 (oFive v).1.2.2.2.2).2 (oFive v).1.1).2 (oList (oNum (oTruth (oNum (oFive v).2 (oFive v).1.2.2.1).2 (oFive v).1.2.2.2.1).2 (oFive v).1.2.2.2.2).2 (oFive v).1.1).1).2 (oFive v).1.2.1).2 (oList (oTexts (oList (oNum (oTruth (oNum (oFive v).2 (oFive v).1.2.2.1).2 (oFive v).1.2.2.2.1).2 (oFive v).1.2.2.2.2).2 (oFive v).1.1).2 (oList (oNum (oTruth (oNum (oFive v).2 (oFive v).1.2.2.1).2 (oFive v).1.2.2.2.1).2 (oFive v).1.2.2.2.2).2 (oFive v).1.1).1).2 (oFive v).1.2.1).1).1, (oNum (oTruth (oNum (oFive v).2 (oFive v).1.2.2.1).2 (oFive v).1.2.2.2.1).2 (oFive v).1.2.2.2.2).1, (oNum (oFive v).2 (oFive v).1.2.2.1).1, (oTruth (oNum (oFive v).2 (oFive v).1.2.2.1).2 (oFive v).1.2.2.2.1).1, (oTexts (oList (oNum (oTruth (oNum (oFive v).2 (oFive v).1.2.2.1).2 (oFive v).1.2.2.2.1).2 (oFive v).1.2.2.2.2).2 (oFive v).1.1).2 (oList (oNum (oTruth (oNum (oFive v).2 (oFive v).1.2.2.1).2 (oFive v).1.2.2.2.1).2 (oFive v).1.2.2.2.2).2 (oFive v).1.1).1).1⟩, (oCalls (oList (oTexts (oList (oNum (oTruth (oNum (oFive v).2 (oFive v).1.2.2.1).2 (oFive v).1.2.2.2.1).2 (oFive v).1.2.2.2.2).2 (oFive v).1.1).2 (oList (oNum (oTruth (oNum (oFive v).2 (oFive v).1.2.2.1).2 (oFive v).1.2.2.2.1).2 (oFive v).1.2.2.2.2).2 (oFive v).1.1).1).2 (oFive v).1.2.1).2 (oList (oTexts (oList (oNum (oTruth (oNum (oFive v).2 (oFive v).1.2.2.1).2 (oFive v).1.2.2.2.1).2 (oFive v).1.2.2.2.2).2 (oFive v).1.1).2 (oList (oNum (oTruth (oNum (oFive v).2 (oFive v).1.2.2.1).2 (oFive v).1.2.2.2.1).2 (oFive v).1.2.2.2.2).2 (oFive v).1.1).1).2 (oFive v).1.2.1).1).2) := rfl
     rw [hrd]
     obtain ⟨v1, v2, v3, v4, _, _, _⟩ := dat_cells v
     generalize oFive v = x5 at f54 T1 T2 ⊢
     obtain ⟨⟨xa, xb, xc, xd, xe⟩, b0⟩ := x5
     simp only at f54 T1 T2 ⊢
     have g2 := f55_dat b0 xc
     generalize oNum b0 xc = p2 at g2 ⊢
     obtain ⟨n2, b2⟩ := p2
     simp only at g2 ⊢
     have g3 := f56_dat b2 xd
     generalize oTruth b2 xd = p3 at g3 ⊢
     obtain ⟨n3, b3⟩ := p3
     simp only at g3 ⊢
     have g4 := f55_dat b3 xe
     generalize oNum b3 xe = p4 at g4 ⊢
     obtain ⟨n4, b4⟩ := p4
     simp only at g4 ⊢
     obtain ⟨nl0, g0⟩ := f57_dat b4 xa
     have L0 := tame_list (b := b4) T1
     generalize oList b4 xa = q0 at g0 L0 ⊢
     obtain ⟨l0, c0⟩ := q0
     simp only at g0 L0 ⊢
     have wa := (dat_cells xa).2.2.1
     have wb := (dat_cells xb).2.2.1
     have wc := (dat_cells xc).2.2.1
     have wd := (dat_cells xd).2.2.1
     have we := (dat_cells xe).2.2.1
     have hfb : fillD [.bool false] [] = some [.bool false] := rfl
     have hfill : ∀ (p q : Int) (o : Bool), fillD [.slice true [] [], .int .i64 0, .int .i64 0, .bool false, .slice true [] []] [(2, 1, .int .i64 p), (3, 1, .bool o), (1, 1, .int .i64 q)] = some [.slice true [] [], .int .i64 q, .int .i64 p, .bool o, .slice true [] []] := fun p q o => rfl
     simp (disch := omega) only [↓go1, gB0, ↓x_tass, reduceIte, Nat.reduceEqDiff, Nat.reduceAdd, Nat.reduceSub, Nat.reduceLT, Nat.reduceLeDiff, put1_rd, put_rd, growU_rd, opU_rd, lit_ne, ne_lit, Int.reduceEq, Int.reduceToNat, Int.reduceLE, List.drop_succ_cons, fill_nil, rd_zero, rd_succ, gB1, reduceCtorEq, ldD_agg, gB3, rowU_op, drawnU_op, data_if, cells_if, un_if, calm_if, calm1_if, data_ni, cells_ni, un_ni, calm_ni, calm1_ni, f53, v1, v2, v3, v4, wa, wb, wc, wd, we, hfb, hfill, List.map_cons, List.map_nil, callK_fun s53, callK_fn s54, callK_fn s55, callK_fn s56, callK_fn s57]
     refine got_op (by simp [put_rd]) (f54 _ _) ?_
     simp (disch := omega) only [↓go1, gB0, ↓x_tass, reduceIte, Nat.reduceEqDiff, Nat.reduceAdd, Nat.reduceSub, Nat.reduceLT, Nat.reduceLeDiff, put1_rd, put_rd, growU_rd, opU_rd, lit_ne, ne_lit, Int.reduceEq, Int.reduceToNat, Int.reduceLE, List.drop_succ_cons, fill_nil, rd_zero, rd_succ, gB1, reduceCtorEq, ldD_agg, gB3, rowU_op, drawnU_op, data_if, cells_if, un_if, calm_if, calm1_if, data_ni, cells_ni, un_ni, calm_ni, calm1_ni, f53, v1, v2, v3, v4, wa, wb, wc, wd, we, hfb, hfill, List.map_cons, List.map_nil, callK_fun s53, callK_fn s54, callK_fn s55, callK_fn s56, callK_fn s57]
     refine got_op (by simp [opU_rd]) g2 ?_
     simp (disch := omega) only [↓go1, gB0, ↓x_tass, reduceIte, Nat.reduceEqDiff, Nat.reduceAdd, Nat.reduceSub, Nat.reduceLT, Nat.reduceLeDiff, put1_rd, put_rd, growU_rd, opU_rd, lit_ne, ne_lit, Int.reduceEq, Int.reduceToNat, Int.reduceLE, List.drop_succ_cons, fill_nil, rd_zero, rd_succ, gB1, reduceCtorEq, ldD_agg, gB3, rowU_op, drawnU_op, data_if, cells_if, un_if, calm_if, calm1_if, data_ni, cells_ni, un_ni, calm_ni, calm1_ni, f53, v1, v2, v3, v4, wa, wb, wc, wd, we, hfb, hfill, List.map_cons, List.map_nil, callK_fun s53, callK_fn s54, callK_fn s55, callK_fn s56, callK_fn s57]
     refine got_op (by simp [opU_rd]) g3 ?_
     simp (disch := omega) only [↓go1, gB0, ↓x_tass, reduceIte, Nat.reduceEqDiff, Nat.reduceAdd, Nat.reduceSub, Nat.reduceLT, Nat.reduceLeDiff, put1_rd, put_rd, growU_rd, opU_rd, lit_ne, ne_lit, Int.reduceEq, Int.reduceToNat, Int.reduceLE, List.drop_succ_cons, fill_nil, rd_zero, rd_succ, gB1, reduceCtorEq, ldD_agg, gB3, rowU_op, drawnU_op, data_if, cells_if, un_if, calm_if, calm1_if, data_ni, cells_ni, un_ni, calm_ni, calm1_ni, f53, v1, v2, v3, v4, wa, wb, wc, wd, we, hfb, hfill, List.map_cons, List.map_nil, callK_fun s53, callK_fn s54, callK_fn s55, callK_fn s56, callK_fn s57]
     refine got_op (by simp [opU_rd]) g4 ?_
     simp (disch := omega) only [↓go1, gB0, ↓x_tass, reduceIte, Nat.reduceEqDiff, Nat.reduceAdd, Nat.reduceSub, Nat.reduceLT, Nat.reduceLeDiff, put1_rd, put_rd, growU_rd, opU_rd, lit_ne, ne_lit, Int.reduceEq, Int.reduceToNat, Int.reduceLE, List.drop_succ_cons, fill_nil, rd_zero, rd_succ, gB1, reduceCtorEq, ldD_agg, gB3, rowU_op, drawnU_op, data_if, cells_if, un_if, calm_if, calm1_if, data_ni, cells_ni, un_ni, calm_ni, calm1_ni, f53, v1, v2, v3, v4, wa, wb, wc, wd, we, hfb, hfill, List.map_cons, List.map_nil, callK_fun s53, callK_fn s54, callK_fn s55, callK_fn s56, callK_fn s57]
     refine Need.intro (fun p hp w hw' => ?_) ?_
     ·simp only [List.mem_cons, List.mem_nil_iff, or_false] at hp
      repeat' (rcases hp with rfl | hp)
      all_goals (try subst hp)
      all_goals simp only [List.getD_cons_succ, List.getD_cons_zero, wlocs, rds, opU] at hw' ⊢
      all_goals
       simp (disch := omega) only [↓go1, gB0, ↓x_tass, reduceIte, Nat.reduceEqDiff, Nat.reduceAdd, Nat.reduceSub, Nat.reduceLT, Nat.reduceLeDiff, put1_rd, put_rd, growU_rd, opU_rd, lit_ne, ne_lit, Int.reduceEq, Int.reduceToNat, Int.reduceLE, List.drop_succ_cons, fill_nil, rd_zero, rd_succ, gB1, reduceCtorEq, ldD_agg, gB3, rowU_op, drawnU_op, data_if, cells_if, un_if, calm_if, calm1_if, data_ni, cells_ni, un_ni, calm_ni, calm1_ni, f53, v1, v2, v3, v4, wa, wb, wc, wd, we, hfb, hfill, List.map_cons, List.map_nil, callK_fun s53, callK_fn s54, callK_fn s55, callK_fn s56, callK_fn s57, s55, s56, opQ, List.not_mem_nil] at hw' ⊢
      all_goals
       simp only [List.flatMap_cons, List.flatMap_nil, List.append_nil, cellLocs, List.mem_map, List.mem_range] at hw'
       obtain ⟨k, hk, rfl⟩ := hw'
       simp [cellLocs]
     simp (disch := omega) only [↓go1, gB0, ↓x_tass, reduceIte, Nat.reduceEqDiff, Nat.reduceAdd, Nat.reduceSub, Nat.reduceLT, Nat.reduceLeDiff, put1_rd, put_rd, growU_rd, opU_rd, lit_ne, ne_lit, Int.reduceEq, Int.reduceToNat, Int.reduceLE, List.drop_succ_cons, fill_nil, rd_zero, rd_succ, gB1, reduceCtorEq, ldD_agg, gB3, rowU_op, drawnU_op, data_if, cells_if, un_if, calm_if, calm1_if, data_ni, cells_ni, un_ni, calm_ni, calm1_ni, f53, v1, v2, v3, v4, wa, wb, wc, wd, we, hfb, hfill, List.map_cons, List.map_nil, callK_fun s53, callK_fn s54, callK_fn s55, callK_fn s56, callK_fn s57]
     refine got_op (by simp [opU_rd, put_rd]) g0 ?_
     simp (disch := omega) only [↓go1, gB0, ↓x_tass, reduceIte, Nat.reduceEqDiff, Nat.reduceAdd, Nat.reduceSub, Nat.reduceLT, Nat.reduceLeDiff, put1_rd, put_rd, growU_rd, opU_rd, lit_ne, ne_lit, Int.reduceEq, Int.reduceToNat, Int.reduceLE, List.drop_succ_cons, fill_nil, rd_zero, rd_succ, gB1, reduceCtorEq, ldD_agg, gB3, rowU_op, drawnU_op, data_if, cells_if, un_if, calm_if, calm1_if, data_ni, cells_ni, un_ni, calm_ni, calm1_ni, f53, v1, v2, v3, v4, wa, wb, wc, wd, we, hfb, hfill, List.map_cons, List.map_nil, callK_fun s53, callK_fn s54, callK_fn s55, callK_fn s56, callK_fn s57]
     refine loop23a s58 (l := l0) L0 (b0 := c0) (t0 := ⟨[], n4, n2, n3, []⟩) (tc := []) (X := .slice false [] [xa.dat, xb.dat, xc.dat, xd.dat, xe.dat]) (fun st tb h2 h6 h8 h7 I hc => ?_) _ 0 [] _ _ (Nat.zero_add _) rfl ?_ rfl rfl rfl rfl rfl (by simp only; omega) ?_ (.inl rfl)
     ·generalize hr0 : oTexts c0 l0 = r0 at I ⊢
      obtain ⟨bs, d0⟩ := r0
      simp only at I ⊢
      obtain ⟨nl1, g1⟩ := f57_dat d0 xb
      have L1 := tame_list (b := d0) T2
      generalize oList d0 xb = q1 at g1 L1 ⊢
      obtain ⟨l1, c1⟩ := q1
      simp only at g1 L1 ⊢
      simp (disch := omega) only [↓go1, gB0, ↓x_tass, reduceIte, Nat.reduceEqDiff, Nat.reduceAdd, Nat.reduceSub, Nat.reduceLT, Nat.reduceLeDiff, put1_rd, put_rd, growU_rd, opU_rd, lit_ne, ne_lit, Int.reduceEq, Int.reduceToNat, Int.reduceLE, List.drop_succ_cons, fill_nil, rd_zero, rd_succ, gB1, reduceCtorEq, ldD_agg, gB3, rowU_op, drawnU_op, data_if, cells_if, un_if, calm_if, calm1_if, data_ni, cells_ni, un_ni, calm_ni, calm1_ni, f53, v1, v2, v3, v4, wa, wb, wc, wd, we, hfb, hfill, List.map_cons, List.map_nil, callK_fun s53, callK_fn s54, callK_fn s55, callK_fn s56, callK_fn s57, h2, h6, h8, h7]
      refine got_op I.o g1 ?_
      simp (disch := omega) only [↓go1, gB0, ↓x_tass, reduceIte, Nat.reduceEqDiff, Nat.reduceAdd, Nat.reduceSub, Nat.reduceLT, Nat.reduceLeDiff, put1_rd, put_rd, growU_rd, opU_rd, lit_ne, ne_lit, Int.reduceEq, Int.reduceToNat, Int.reduceLE, List.drop_succ_cons, fill_nil, rd_zero, rd_succ, gB1, reduceCtorEq, ldD_agg, gB3, rowU_op, drawnU_op, data_if, cells_if, un_if, calm_if, calm1_if, data_ni, cells_ni, un_ni, calm_ni, calm1_ni, f53, v1, v2, v3, v4, wa, wb, wc, wd, we, hfb, hfill, List.map_cons, List.map_nil, callK_fun s53, callK_fn s54, callK_fn s55, callK_fn s56, callK_fn s57, h2, h6, h8, h7]
      refine loop23b s59 (l := l1) L1 (b0 := c1) (t0 := ⟨[], n4, n2, n3, bs⟩) (tb := tb) (fun st tc h2 h6 h8 I hc => ?_) _ 0 [] _ _ (Nat.zero_add _) rfl ?_ rfl h2 h6 h8 (by simp only; omega) (VI.op I) (.inl rfl)
      ·generalize hr1 : oCalls c1 l1 = r1 at I ⊢
       obtain ⟨cs, e1⟩ := r1
       simp only at I ⊢
       have f15 : ∀ a x b y, F15 [.agg [.slice a x (cs.map dnD), .int .i64 n4, .int .i64 n2, .bool n3, .slice b y (bs.map .str)]] = some (.int .i64 (checkB ⟨cs, n4, n2, n3, bs⟩)) := fun a x b y => by
        simp only [F15, tdOf, dnsOf_map, strsOf_map]
       cases e1 with
       | true =>
        rw [if_pos (.inl rfl)]
        simp (disch := omega) only [↓go1, gB0, ↓x_tass, reduceIte, Nat.reduceEqDiff, Nat.reduceAdd, Nat.reduceSub, Nat.reduceLT, Nat.reduceLeDiff, put1_rd, put_rd, growU_rd, opU_rd, lit_ne, ne_lit, Int.reduceEq, Int.reduceToNat, Int.reduceLE, List.drop_succ_cons, fill_nil, rd_zero, rd_succ, gB1, reduceCtorEq, ldD_agg, gB3, rowU_op, drawnU_op, data_if, cells_if, un_if, calm_if, calm1_if, data_ni, cells_ni, un_ni, calm_ni, calm1_ni, f53, v1, v2, v3, v4, wa, wb, wc, wd, we, hfb, hfill, List.map_cons, List.map_nil, callK_fun s53, callK_fn s54, callK_fn s55, callK_fn s56, callK_fn s57, h2, h6, h8, I.z0, I.z1, I.z2, I.z3, I.z4, I.o, I.t0, I.t1, I.t2, I.t3, I.t4, res_ct]
        exact ⟨rfl, rfl⟩
       | false =>
        by_cases hk : checkB ⟨cs, n4, n2, n3, bs⟩ = 0
        ·have hk' : (checkB ⟨cs, n4, n2, n3, bs⟩ = 0) = True := eq_true hk
         rw [if_neg (by simp [hk])]
         simp (disch := omega) only [↓go1, gB0, ↓x_tass, reduceIte, Nat.reduceEqDiff, Nat.reduceAdd, Nat.reduceSub, Nat.reduceLT, Nat.reduceLeDiff, put1_rd, put_rd, growU_rd, opU_rd, lit_ne, ne_lit, Int.reduceEq, Int.reduceToNat, Int.reduceLE, List.drop_succ_cons, fill_nil, rd_zero, rd_succ, gB1, reduceCtorEq, ldD_agg, gB3, rowU_op, drawnU_op, data_if, cells_if, un_if, calm_if, calm1_if, data_ni, cells_ni, un_ni, calm_ni, calm1_ni, f53, v1, v2, v3, v4, wa, wb, wc, wd, we, hfb, hfill, List.map_cons, List.map_nil, callK_fun s53, callK_fn s54, callK_fn s55, callK_fn s56, callK_fn s57, h2, h6, h8, I.z0, I.z1, I.z2, I.z3, I.z4, I.o, I.t0, I.t1, I.t2, I.t3, I.t4, res_ct, f15, hk', callK_fun s15]
         first | rfl | exact ⟨rfl, rfl⟩
        ·have hk' : (checkB ⟨cs, n4, n2, n3, bs⟩ = 0) = False := eq_false hk
         rw [if_pos (.inr hk)]
         simp (disch := omega) only [↓go1, gB0, ↓x_tass, reduceIte, Nat.reduceEqDiff, Nat.reduceAdd, Nat.reduceSub, Nat.reduceLT, Nat.reduceLeDiff, put1_rd, put_rd, growU_rd, opU_rd, lit_ne, ne_lit, Int.reduceEq, Int.reduceToNat, Int.reduceLE, List.drop_succ_cons, fill_nil, rd_zero, rd_succ, gB1, reduceCtorEq, ldD_agg, gB3, rowU_op, drawnU_op, data_if, cells_if, un_if, calm_if, calm1_if, data_ni, cells_ni, un_ni, calm_ni, calm1_ni, f53, v1, v2, v3, v4, wa, wb, wc, wd, we, hfb, hfill, List.map_cons, List.map_nil, callK_fun s53, callK_fn s54, callK_fn s55, callK_fn s56, callK_fn s57, h2, h6, h8, I.z0, I.z1, I.z2, I.z3, I.z4, I.o, I.t0, I.t1, I.t2, I.t3, I.t4, res_ct, f15, hk', callK_fun s15]
         exact ⟨rfl, rfl⟩
      ·simp only [↓go1, gB0, ↓x_tass, reduceIte, Nat.reduceEqDiff, Nat.reduceAdd, Nat.reduceSub, Nat.reduceLT, Nat.reduceLeDiff, put1_rd, put_rd, growU_rd, opU_rd, lit_ne, ne_lit, Int.reduceEq, Int.reduceToNat, Int.reduceLE, List.drop_succ_cons, fill_nil, rd_zero, rd_succ, gB1, reduceCtorEq, ldD_agg, gB3, rowU_op, drawnU_op, data_if, cells_if, un_if, calm_if, calm1_if, data_ni, cells_ni, un_ni, calm_ni, calm1_ni, datL_len]
     ·simp only [↓go1, gB0, ↓x_tass, reduceIte, Nat.reduceEqDiff, Nat.reduceAdd, Nat.reduceSub, Nat.reduceLT, Nat.reduceLeDiff, put1_rd, put_rd, growU_rd, opU_rd, lit_ne, ne_lit, Int.reduceEq, Int.reduceToNat, Int.reduceLE, List.drop_succ_cons, fill_nil, rd_zero, rd_succ, gB1, reduceCtorEq, ldD_agg, gB3, rowU_op, drawnU_op, data_if, cells_if, un_if, calm_if, calm1_if, data_ni, cells_ni, un_ni, calm_ni, calm1_ni, datL_len]
     ·exact ⟨rfl, rfl, rfl, rfl, rfl, rfl, rfl, rfl, rfl, rfl, rfl⟩
    ·have he' : (endS c = 0) = False := eq_false he
     rw [if_neg he] at f53
     rw [if_pos (by simp [he])]
     simp (disch := omega) only [↓go1, gB0, ↓x_tass, reduceIte, Nat.reduceEqDiff, Nat.reduceAdd, Nat.reduceSub, Nat.reduceLT, Nat.reduceLeDiff, put1_rd, put_rd, growU_rd, opU_rd, lit_ne, ne_lit, Int.reduceEq, Int.reduceToNat, Int.reduceLE, List.drop_succ_cons, fill_nil, rd_zero, rd_succ, gB1, reduceCtorEq, ldD_agg, gB3, rowU_op, drawnU_op, data_if, cells_if, un_if, calm_if, calm1_if, data_ni, cells_ni, un_ni, calm_ni, calm1_ni, f53, he', res_ct, callK_fun s53]
     exact ⟨rfl, rfl⟩
   ·cases h
  ·cases h
end Go.Vd

namespace Go.Vd
open Go.RowKit
set_option maxRecDepth 10000
def F4 : List D → Option D
 | [a, .str s] => match tdOf a with
  | some _ => some (.bool true)
  | _ => none
 | _ => none
theorem F16_eq : F16 = F15 := by
 funext ds; unfold F16 F15; rfl
theorem unbytesR_some {s : Bs} {t : Td} (h : unbytesR s = some t) : checkB t = 0 ∧ bytesB t = s := by
 unfold unbytesR at h; split at h
 ·cases h
 ·split at h
  ·rename_i hc; simp only [Option.some.injEq] at h; subst h; exact hc
  ·cases h
set_option maxHeartbeats 8000000 in
theorem ok4 {P : Program} (hd : Desk P) (hb : DeskB P) (h9 : (funS trueF).ok P 9) (h21 : (funS Fbytes).ok P 21) (h22 : (funS Fbytes).ok P 22) (h23 : (funS F23).ok P 23) (h24 : (funS F24).ok P 24) : (funS F4).ok P 4 := by
 have hS : Summs.ok P (tabL [(7, funS F7), (9, funS trueF), (11, funS F11), (18, funS Fsame), (19, funS F11), (21, funS Fbytes), (22, funS Fbytes), (23, funS F23), (24, funS F24)]) := tabL_cons (ok7 hd) (tabL_cons h9 (tabL_cons (ok11 hd) (tabL_cons (ok18 hd) (tabL_cons (ok19 hd) (tabL_cons h21 (tabL_cons h22 (tabL_cons h23 (tabL_cons h24 tabL_nil))))))))
 have s7 : tabL [(7, funS F7), (9, funS trueF), (11, funS F11), (18, funS Fsame), (19, funS F11), (21, funS Fbytes), (22, funS Fbytes), (23, funS F23), (24, funS F24)] 7 = some (funS F7) := rfl
 have s9 : tabL [(7, funS F7), (9, funS trueF), (11, funS F11), (18, funS Fsame), (19, funS F11), (21, funS Fbytes), (22, funS Fbytes), (23, funS F23), (24, funS F24)] 9 = some (funS trueF) := rfl
 have s11 : tabL [(7, funS F7), (9, funS trueF), (11, funS F11), (18, funS Fsame), (19, funS F11), (21, funS Fbytes), (22, funS Fbytes), (23, funS F23), (24, funS F24)] 11 = some (funS F11) := rfl
 have s18 : tabL [(7, funS F7), (9, funS trueF), (11, funS F11), (18, funS Fsame), (19, funS F11), (21, funS Fbytes), (22, funS Fbytes), (23, funS F23), (24, funS F24)] 18 = some (funS Fsame) := rfl
 have s19 : tabL [(7, funS F7), (9, funS trueF), (11, funS F11), (18, funS Fsame), (19, funS F11), (21, funS Fbytes), (22, funS Fbytes), (23, funS F23), (24, funS F24)] 19 = some (funS F11) := rfl
 have s21 : tabL [(7, funS F7), (9, funS trueF), (11, funS F11), (18, funS Fsame), (19, funS F11), (21, funS Fbytes), (22, funS Fbytes), (23, funS F23), (24, funS F24)] 21 = some (funS Fbytes) := rfl
 have s22 : tabL [(7, funS F7), (9, funS trueF), (11, funS F11), (18, funS Fsame), (19, funS F11), (21, funS Fbytes), (22, funS Fbytes), (23, funS F23), (24, funS F24)] 22 = some (funS Fbytes) := rfl
 have s23 : tabL [(7, funS F7), (9, funS trueF), (11, funS F11), (18, funS Fsame), (19, funS F11), (21, funS Fbytes), (22, funS Fbytes), (23, funS F23), (24, funS F24)] 23 = some (funS F23) := rfl
 have s24 : tabL [(7, funS F7), (9, funS trueF), (11, funS F11), (18, funS Fsame), (19, funS F11), (21, funS Fbytes), (22, funS Fbytes), (23, funS F23), (24, funS F24)] 24 = some (funS F24) := rfl
 generalize tabL [(7, funS F7), (9, funS trueF), (11, funS F11), (18, funS Fsame), (19, funS F11), (21, funS Fbytes), (22, funS Fbytes), (23, funS F23), (24, funS F24)] = S at hS s7 s9 s11 s18 s19 s21 s22 s23 s24
 refine fun_ok (S := S) hS hb.f4 (fun ds r h => ?_) (fun ds r h => ?_)
 ·unfold F4 at h; split at h
  ·simp
  ·cases h
 ·unfold F4 at h; split at h
  ·rename_i d s
   split at h
   ·rename_i p ht
    obtain ⟨nc, nb, t⟩ := p
    obtain ⟨x, y, rfl⟩ := tdOf_some ht
    simp only [Option.some.injEq] at h
    subst h
    have f7t : ∀ x y, F7 [.agg [.slice nc x (t.calls.map dnD), .int .i64 t.ticks, .int .i64 t.left, .bool t.shut, .slice nb y (t.behind.map .str)]] = some (.bool (overB t)) := fun x y => by simp only [F7, tdOf_mk]
    have f9 : trueF [] = some (.bool true) := rfl
    have x10 : (([1] : Id) = [0]) = False := by simp
    unfold dc4
    cases o1 : overB t with
    | true =>
     simp only [o1] at f7t
     simp only [↓go1, gB0, reduceIte, Nat.reduceEqDiff, Nat.reduceAdd, Nat.reduceSub, Nat.reduceLT, Nat.reduceLeDiff, rd_succ, rd_zero, put_rd, fill_nil, tdCells, callK_fun s7, callK_fun s9, callK_fun s11, callK_fun s18, callK_fun s19, callK_fun s21, callK_fun s22, callK_fun s23, callK_fun s24, f7t, f9, x10]
    | false =>
     simp only [o1] at f7t
     obtain ⟨t1, t2⟩ := over_le o1
     by_cases hl : 2000 < s.length
     ·have l1 : (decide ((2000 : Int) < (s.length : Int))) = true := by simp; omega
      simp only [↓go1, gB0, reduceIte, Nat.reduceEqDiff, Nat.reduceAdd, Nat.reduceSub, Nat.reduceLT, Nat.reduceLeDiff, rd_succ, rd_zero, put_rd, fill_nil, tdCells, callK_fun s7, callK_fun s9, callK_fun s11, callK_fun s18, callK_fun s19, callK_fun s21, callK_fun s22, callK_fun s23, callK_fun s24, f7t, f9, x10, l1]
     ·have l1 : (decide ((2000 : Int) < (s.length : Int))) = false := by simp; omega
      have f11t : ∀ n x n' y, F11 [.agg [.slice n x (t.calls.map dnD), .int .i64 t.ticks, .int .i64 t.left, .bool t.shut, .slice n' y (t.behind.map .str)]] = some (tdD t.calls.isEmpty n' t) := fun n x n' y => by
       simp only [F11, tdOf_mk]; exact if_pos (by omega)
      have fbt : ∀ n x n' y, Fbytes [.agg [.slice n x (t.calls.map dnD), .int .i64 t.ticks, .int .i64 t.left, .bool t.shut, .slice n' y (t.behind.map .str)]] = some (.tup [.str (if checkB t = 0 then bytesB t else []), .int .i64 (checkB t)]) := fun n x n' y => by
       simp only [Fbytes, tdOf_mk]; split <;> simp only [*]
      have f23 : F23 [.str s] = some (parsed (unbytesR s)) := by
       simp only [F23, unbytes_eq]; exact if_pos (by omega)
      have f24 : F24 [.str s] = some (parsed (unbytesR s)) := by
       simp only [F24]; exact if_pos (by omega)
      obtain ⟨p, np, ep, hpl1, hpl2⟩ : ∃ (p : Td) (np : Int) , parsed (unbytesR s) = .tup [tdD p.calls.isEmpty p.behind.isEmpty p, .int .i64 np] ∧ p.calls.length ≤ 1000 ∧ p.behind.length ≤ 1000 := by
       cases hp : unbytesR s with
       | none => exact ⟨zeroT, 4, rfl, by simp [zeroT], by simp [zeroT]⟩
       | some p =>
        obtain ⟨hc, _⟩ := unbytesR_some hp
        obtain ⟨b1, b2, _, _⟩ := lines_ok hc
        exact ⟨p, 0, rfl, by omega, by omega⟩
      rw [ep] at f23 f24
      have f11p : ∀ n x n' y, F11 [.agg [.slice n x (p.calls.map dnD), .int .i64 p.ticks, .int .i64 p.left, .bool p.shut, .slice n' y (p.behind.map .str)]] = some (tdD p.calls.isEmpty n' p) := fun n x n' y => by
       simp only [F11, tdOf_mk]; exact if_pos (by omega)
      have fsp : ∀ n x n' y m z m' w, Fsame [.agg [.slice n x (p.calls.map dnD), .int .i64 p.ticks, .int .i64 p.left, .bool p.shut, .slice n' y (p.behind.map .str)], .agg [.slice m z (p.calls.map dnD), .int .i64 p.ticks, .int .i64 p.left, .bool p.shut, .slice m' w (p.behind.map .str)]] = some (.bool true) := fun n x n' y m z m' w => by
       simp only [Fsame, tdOf_mk]; exact (if_pos ⟨by omega, by omega⟩).trans (by simp)
      simp only [↓go1, gB0, reduceIte, Nat.reduceEqDiff, Nat.reduceAdd, Nat.reduceSub, Nat.reduceLT, Nat.reduceLeDiff, rd_succ, rd_zero, put_rd, fill_nil, tdCells, callK_fun s7, callK_fun s9, callK_fun s11, callK_fun s18, callK_fun s19, callK_fun s21, callK_fun s22, callK_fun s23, callK_fun s24, f7t, f9, x10, l1, f11t, fbt, f23, f24, f11p, fsp]
      refine Need.intro (feetB_ok rfl) ?_
      simp only [↓go1, gB0, reduceIte, Nat.reduceEqDiff, Nat.reduceAdd, Nat.reduceSub, Nat.reduceLT, Nat.reduceLeDiff, rd_succ, rd_zero, put_rd, fill_nil, tdCells, callK_fun s7, callK_fun s9, callK_fun s11, callK_fun s18, callK_fun s19, callK_fun s21, callK_fun s22, callK_fun s23, callK_fun s24, f7t, f9, x10, l1, f11t, fbt, f23, f24, f11p, fsp]
   ·cases h
  ·cases h
end Go.Vd

namespace Go.Vd
open Go.Proofs Go.RowKit Go.ChangeShapes Go.WideShapes Go.Deep Go.Joins
section
variable {H : Type} {enc : TypeId × Value → H} {P : Program} {w : World} {base : Nat} {spare : Nat → Bool} {held : Bool}
theorem open_slice_fields {t e : TypeId} {fs : Array Field} {fuel : Nat} {cs : List Value} {x : DataW H × List MemPlace} (ht : P.underlying t = some (.slice e)) (he : P.underlying e = some (.struct fs))
  (hone : oneCellFields P fs = true) (hC : P.cellsOf e = fs.size) (h : DataW.trod enc P w base spare held fuel t cs = some x) :
  (cs = [.slice none 0 0] ∧ x = (.nil, [])) ∨
  ∃ (a : Addr) (len cap m : Nat) (D : Nat → DataW H) (Pl : Nat → List MemPlace), cs = [.slice (some a) len cap] ∧ base ≤ a.block ∧ len ≤ cap ∧ cap ≤ maxLen ∧ m = (if spare a.block then cap else len) ∧
   x = (.slice ((List.range len).map D) ((List.range (m - len)).map fun j => D (len + j)), MemPlace.row a (m * fs.size) ++ (List.range m).flatMap Pl) ∧
   ∀ i, i < m → ∃ (ys : List (DataW H × List MemPlace)) (n : Nat), D i = .agg (ys.map (·.1)) ∧ Pl i = ys.flatMap (·.2) ∧ ys.length = fs.size ∧
    ∀ (j : Nat) (f : Field), fs[j]? = some f → ∃ (v : Value) (y : DataW H × List MemPlace), w.cell? (a.add (i * fs.size + j)) = some v ∧ ys[j]? = some y ∧ DataW.trod enc P w base spare held n f.type [v] = some y := by
 rcases open_slice ht h with h0 | ⟨a, len, cap, m, n, D, Pl, hcs, hb, hl, hm, hmm, hx, hi⟩
 ·exact .inl h0
 ·refine .inr ⟨a, len, cap, m, D, Pl, hcs, hb, hl, hm, hmm, by rw [hC] at hx; exact hx, fun i him => ?_⟩
  obtain ⟨cs', hc, ht'⟩ := hi i him
  rw [hC] at hc
  obtain ⟨ys, n', hn', hy, hlen, hyl, hf⟩ := DataW.trod_struct he ht'
  obtain ⟨_, hcl, hat⟩ := World.cells?_some hc
  simp only [Prod.mk.injEq] at hy
  refine ⟨ys, n', hy.1, hy.2, hyl, fun j f hj => ?_⟩
  obtain ⟨ho, hk⟩ := hone_of hone j f hj
  have hjl : j < fs.size := (Array.getElem?_eq_some_iff.1 hj).1
  have hcell := hat j hjl
  have hv : cs'[j]? = some (cs'[j]'(by omega)) := List.getElem?_eq_getElem (by omega)
  have h1 := hf j f hj
  rw [ho, hk] at h1
  have hone' : (cs'.drop j).take 1 = [cs'[j]'(by omega)] := by
   rw [List.drop_eq_getElem_cons (by omega)]
   rfl
  rw [hone'] at h1
  have hys : ys[j]? = some (ys[j]'(by omega)) := List.getElem?_eq_getElem (by omega)
  refine ⟨_, _, ?_, hys, h1.trans hys⟩
  rw [← Go.Deep.add_add, hcell, hv]
end
def allG (w : World) (b : Nat) : Nat := match w.heap[b]? with
 | some (.cells c _ _) => c.size
 | _ => 0
theorem allG_out (w : World) (b : Nat) (h : w.heap.size ≤ b) : allG w b = 0 := by
 simp [allG, Array.getElem?_eq_none h]
theorem cell_in {w : World} {p : Addr} {v : Value} (h : w.cell? p = some v) : p.off < allG w p.block := by
 unfold World.cell? at h
 unfold allG
 split at h
 ·rename_i c e fz hh
  split at h
  ·cases h
  ·rw [hh]; exact (Array.getElem?_eq_some_iff.1 h).1
 ·cases h
theorem exists_list {α : Type} {p : Nat → α → Prop} : ∀ n, (∀ i, i < n → ∃ x, p i x) → ∃ l : List α, l.length = n ∧ ∀ i x, l[i]? = some x → p i x
 | 0, _ => ⟨[], rfl, by simp⟩
 | n + 1, h => by
  obtain ⟨l, h1, h2⟩ := exists_list n (fun i hi => h i (by omega))
  obtain ⟨x, hx⟩ := h n (by omega)
  refine ⟨l ++ [x], by simp [h1], fun i y hy => ?_⟩
  by_cases hi : i < l.length
  ·rw [List.getElem?_append_left hi] at hy; exact h2 i y hy
  ·rw [List.getElem?_append_right (by omega)] at hy
   have hi0 : i - l.length = 0 := by
    rcases Nat.eq_zero_or_pos (i - l.length) with e | e
    ·exact e
    ·rw [List.getElem?_eq_none (by simp; omega)] at hy; cases hy
   rw [hi0] at hy
   simp only [List.getElem?_cons_zero, Option.some.injEq] at hy
   subst hy
   have : i = n := by omega
   subst this; exact hx
section
variable {H : Type} {enc : TypeId × Value → H} {P : Program} {w : World} {base : Nat} {spare : Nat → Bool} {held : Bool}
theorem open_agg5 {r : Reach} {b0 : Nat} {t : TypeId} {f0 f1 f2 f3 f4 : Field} {v : Value} {d : DataW H} {p : List MemPlace} (hs : P.underlying t = some (.struct #[f0, f1, f2, f3, f4])) (hone : oneCellFields P #[f0, f1, f2, f3, f4] = true) (hC : P.cellsOf t = 5)
  (hv : Value.okWide P w r b0 t v) (h : DataW.Trod enc P w base spare held t v d p) :
  ∃ (v0 v1 v2 v3 v4 : Value) (y0 y1 y2 y3 y4 : DataW H × List MemPlace) (n : Nat), v = .agg #[v0, v1, v2, v3, v4] ∧ d = .agg [y0.1, y1.1, y2.1, y3.1, y4.1] ∧ p = y0.2 ++ (y1.2 ++ (y2.2 ++ (y3.2 ++ y4.2))) ∧
   DataW.trod enc P w base spare held n f0.type [v0] = some y0 ∧ DataW.trod enc P w base spare held n f1.type [v1] = some y1 ∧ DataW.trod enc P w base spare held n f2.type [v2] = some y2 ∧ DataW.trod enc P w base spare held n f3.type [v3] = some y3 ∧ DataW.trod enc P w base spare held n f4.type [v4] = some y4 := by
 obtain ⟨cs, rfl, hsz⟩ := okWide_struct hs hv
 obtain ⟨l⟩ := cs
 match l, hsz.trans hC with
 | [c0, c1, c2, c3, c4], _ =>
  obtain ⟨fuel, hf⟩ := h
  obtain ⟨xs, n, _, hx, _, hlen, hg⟩ := DataW.trod_struct hs hf
  obtain ⟨o0, k0⟩ := hone_of hone 0 f0 rfl
  obtain ⟨o1, k1⟩ := hone_of hone 1 f1 rfl
  obtain ⟨o2, k2⟩ := hone_of hone 2 f2 rfl
  obtain ⟨o3, k3⟩ := hone_of hone 3 f3 rfl
  obtain ⟨o4, k4⟩ := hone_of hone 4 f4 rfl
  match xs, hlen with
  | [y0, y1, y2, y3, y4], _ =>
   simp only [Prod.mk.injEq] at hx
   exact ⟨c0, c1, c2, c3, c4, y0, y1, y2, y3, y4, n, rfl, by simpa using hx.1, by simpa using hx.2, by simpa [Value.cells, o0, k0] using hg 0 f0 rfl, by simpa [Value.cells, o1, k1] using hg 1 f1 rfl, by simpa [Value.cells, o2, k2] using hg 2 f2 rfl, by simpa [Value.cells, o3, k3] using hg 3 f3 rfl, by simpa [Value.cells, o4, k4] using hg 4 f4 rfl⟩
end
theorem flat_rows {α : Type} {sz : Nat} {mk : α → D} (hsz : ∀ x, (mk x).cells.length = sz) : ∀ (l : List α) (j : Nat) (d : D), (flat (l.map mk))[j]? = some d → ∃ x, l[j / sz]? = some x ∧ (mk x).cells[j % sz]? = some d
 | [], j, d, h => by simp [flat] at h
 | x :: r, j, d, h => by
  have e : flat ((x :: r).map mk) = (mk x).cells ++ flat (r.map mk) := rfl
  rw [e] at h
  by_cases hj : j < sz
  ·rw [List.getElem?_append_left (by rw [hsz]; exact hj)] at h
   exact ⟨x, by rw [Nat.div_eq_of_lt hj]; rfl, by rw [Nat.mod_eq_of_lt hj]; exact h⟩
  ·rw [List.getElem?_append_right (by rw [hsz]; omega), hsz] at h
   obtain ⟨y, h1, h2⟩ := flat_rows hsz r (j - sz) d h
   rcases Nat.eq_zero_or_pos sz with h0 | h0
   ·exfalso
    subst h0
    have := (List.getElem?_eq_some_iff.1 h2).1
    rw [hsz] at this; omega
   ·refine ⟨y, ?_, ?_⟩
    ·rw [Nat.div_eq_sub_div h0 (by omega)]; exact h1
    ·rw [Nat.mod_eq_sub_mod (by omega)]; exact h2
theorem rows_rep {α : Type} {sz : Nat} {mk : α → D} {vs : α → List Value} (h0 : 0 < sz) (hsz : ∀ x, (mk x).cells.length = sz) (hvl : ∀ x, (vs x).length = sz) (hone : ∀ x, ∀ v ∈ vs x, v.oneCell' = true)
  (hrep : ∀ x (w : World) (g : Gh) (j : Nat) d v, (mk x).cells[j]? = some d → (vs x)[j]? = some v → Rep w g d v) (hcalm : ∀ x, (mk x).calm = true)
  {w : World} {a : Addr} {len cap : Nat} (hc : len ≤ cap) (h : ∀ i, i < len → ∃ x : α, ∀ (j : Nat) v, (vs x)[j]? = some v → w.cell? (a.add (i * sz + j)) = some v) :
  ∃ l : List α, Rep w (startG (allG w)) (.slice false [] (l.map mk)) (.slice (some a) len cap) := by
 obtain ⟨l, hl, hp⟩ := exists_list len h
 have key : ∀ j, j < len * sz → ∃ x v, l[j / sz]? = some x ∧ (vs x)[j % sz]? = some v ∧ w.cell? (a.add j) = some v ∧ v.oneCell' = true := by
  intro j hj
  have hi : j / sz < l.length := by rw [hl]; exact (Nat.div_lt_iff_lt_mul h0).2 hj
  have hm : j % sz < sz := Nat.mod_lt _ h0
  have hx := List.getElem?_eq_getElem hi
  have hv : (vs l[j / sz])[j % sz]? = some _ := List.getElem?_eq_getElem (by rw [hvl]; exact hm)
  have hq := hp (j / sz) _ hx (j % sz) _ hv
  rw [Nat.mul_comm (j / sz) sz, Nat.div_add_mod] at hq
  exact ⟨_, _, hx, hv, hq, hone _ _ (List.mem_of_getElem? hv)⟩
 refine ⟨l, .slice [] _ a len cap sz (fun j => (w.cell? (a.add j)).getD undef) (by simp [hl]) hc (fun d hd => ?_) (fun j hj => ?_) (fun j hj => ?_) (fun j d hd => ?_) (fun h1 => ?_) (fun h => absurd rfl h) (fun d hd => ?_)⟩
 ·obtain ⟨it, _, rfl⟩ := List.mem_map.1 hd; exact hsz it
 ·obtain ⟨x, v, _, _, hv, _⟩ := key j hj
  simp only [hv, Option.getD_some]
 ·obtain ⟨x, v, _, _, hv, ho⟩ := key j hj
  simp only [hv, Option.getD_some, ho]
 ·obtain ⟨x, h1, h2⟩ := flat_rows hsz l j d hd
  have hi : j / sz < l.length := (List.getElem?_eq_some_iff.1 h1).1
  have hj : j < len * sz := (Nat.div_lt_iff_lt_mul h0).1 (by rw [← hl]; exact hi)
  obtain ⟨x', v, h1', hv, hcl, _⟩ := key j hj
  rw [h1] at h1'
  simp only [Option.some.injEq] at h1'; subst h1'
  simp only [hcl, Option.getD_some]
  exact hrep x w _ _ d v h2 hv
 ·obtain ⟨x, v, _, _, hv, _⟩ := key (len * sz - 1) (by omega)
  have := cell_in hv
  rw [add_off, add_block] at this
  show a.off + len * sz ≤ allG w a.block
  omega
 ·obtain ⟨it, _, rfl⟩ := List.mem_map.1 hd; exact hcalm it
def dnV (d : Dn) : List Value := [.int .i64 d.cl, .string ⟨d.line.toArray⟩, .string ⟨d.reply.toArray⟩, .int .i64 d.fr, .int .i64 d.at_, .int .i64 d.to, .bool d.is]
theorem dns_rep {w : World} {a : Addr} {len cap : Nat} (hc : len ≤ cap) (h : ∀ i, i < len → ∃ x : Dn, ∀ (j : Nat) v, (dnV x)[j]? = some v → w.cell? (a.add (i * 7 + j)) = some v) :
  ∃ l : List Dn, Rep w (startG (allG w)) (.slice false [] (l.map dnD)) (.slice (some a) len cap) := by
 refine rows_rep (sz := 7) (mk := dnD) (vs := dnV) (by decide) (fun _ => rfl) (fun _ => rfl) (fun x v hv => ?_) (fun x w g j d v hd hv => ?_) (fun _ => rfl) hc h
 ·simp only [dnV, List.mem_cons, List.mem_nil_iff, or_false] at hv
  rcases hv with rfl | rfl | rfl | rfl | rfl | rfl | rfl <;> rfl
 ·have hd' : ([.int .i64 x.cl, .str x.line, .str x.reply, .int .i64 x.fr, .int .i64 x.at_, .int .i64 x.to, .bool x.is] : List D)[j]? = some d := hd
  match j with
  | 0 => simp [dnV] at hd' hv; subst hd' hv; exact .int _ _
  | 1 => simp [dnV] at hd' hv; subst hd' hv; exact .str _
  | 2 => simp [dnV] at hd' hv; subst hd' hv; exact .str _
  | 3 => simp [dnV] at hd' hv; subst hd' hv; exact .int _ _
  | 4 => simp [dnV] at hd' hv; subst hd' hv; exact .int _ _
  | 5 => simp [dnV] at hd' hv; subst hd' hv; exact .int _ _
  | 6 => simp [dnV] at hd' hv; subst hd' hv; exact .bool _
  | j + 7 => simp at hd'
theorem strs_rep {w : World} {a : Addr} {len cap : Nat} (hc : len ≤ cap) (h : ∀ i, i < len → ∃ x : Bs, w.cell? (a.add i) = some (.string ⟨x.toArray⟩)) :
  ∃ l : List Bs, Rep w (startG (allG w)) (.slice false [] (l.map .str)) (.slice (some a) len cap) := by
 refine rows_rep (sz := 1) (mk := D.str) (vs := fun x => [Value.string ⟨x.toArray⟩]) (by decide) (fun _ => rfl) (fun _ => rfl) (fun x v hv => ?_) (fun x w g j d v hd hv => ?_) (fun _ => rfl) hc (fun i hi => ?_)
 ·simp only [List.mem_singleton] at hv; subst hv; rfl
 ·match j with
  | 0 => simp [D.cells] at hd hv; subst hd hv; exact .str _
  | j + 1 => simp at hv
 ·obtain ⟨x, hx⟩ := h i hi
  refine ⟨x, fun j v hv => ?_⟩
  match j with
  | 0 => simp only [List.getElem?_cons_zero, Option.some.injEq] at hv; subst hv; simpa using hx
  | j + 1 => simp at hv
end Go.Vd

namespace Go.Vd
open Go.Proofs Go.RowKit Go.ChangeShapes Go.WideShapes Go.Deep Go.Joins
set_option maxRecDepth 100000
section
variable {H : Type} {enc : TypeId × Value → H} {w : World} {base : Nat} {spare : Nat → Bool} {held : Bool}
theorem done_rep {n : Nat} {v : Value} {y : DataW H × List MemPlace} (h : DataW.trod enc Tryz.prog w base spare held n 22 [v] = some y) :
  ∃ (nl : Bool) (l : List Dn), Rep w (startG (allG w)) (.slice nl [] (l.map dnD)) v ∧ v.oneCell' = true := by
 rcases open_slice_fields Tryz.underlying22 Tryz.underlying62 (by kernel_rfl) (by kernel_rfl) h with ⟨hcs, _⟩ | ⟨a, len, cap, m, D, Pl, hcs, _, hl, _, hm, _, hi⟩
 ·simp only [List.cons.injEq, and_true] at hcs
  subst hcs
  exact ⟨true, [], .nils [], rfl⟩
 ·simp only [List.cons.injEq, and_true] at hcs
  subst hcs
  have hlm : len ≤ m := by rw [hm]; split <;> omega
  obtain ⟨l, hr⟩ := dns_rep hl fun i hi' => by
   obtain ⟨ys, n, _, _, _, hff⟩ := hi i (by omega)
   obtain ⟨u0, y0, c0, _, t0⟩ := hff 0 _ rfl
   obtain ⟨u1, y1, c1, _, t1⟩ := hff 1 _ rfl
   obtain ⟨u2, y2, c2, _, t2⟩ := hff 2 _ rfl
   obtain ⟨u3, y3, c3, _, t3⟩ := hff 3 _ rfl
   obtain ⟨u4, y4, c4, _, t4⟩ := hff 4 _ rfl
   obtain ⟨u5, y5, c5, _, t5⟩ := hff 5 _ rfl
   obtain ⟨u6, y6, c6, _, t6⟩ := hff 6 _ rfl
   obtain ⟨n0, e0, _⟩ := DataW.trod_int Tryz.underlying3 t0
   obtain ⟨s1, e1, _, _⟩ := DataW.trod_string Tryz.underlying9 t1
   obtain ⟨s2, e2, _, _⟩ := DataW.trod_string Tryz.underlying9 t2
   obtain ⟨n3, e3, _⟩ := DataW.trod_int Tryz.underlying3 t3
   obtain ⟨n4, e4, _⟩ := DataW.trod_int Tryz.underlying3 t4
   obtain ⟨n5, e5, _⟩ := DataW.trod_int Tryz.underlying3 t5
   obtain ⟨b6, e6, _⟩ := DataW.trod_bool Tryz.underlying4 t6
   simp only [List.cons.injEq, and_true] at e0 e1 e2 e3 e4 e5 e6
   subst e0 e1 e2 e3 e4 e5 e6
   refine ⟨⟨n0, s1.data.toList, s2.data.toList, n3, n4, n5, b6⟩, fun j v hv => ?_⟩
   match j with
   | 0 => simp [dnV] at hv; subst hv; exact c0
   | 1 => simp [dnV] at hv; subst hv; exact c1
   | 2 => simp [dnV] at hv; subst hv; exact c2
   | 3 => simp [dnV] at hv; subst hv; exact c3
   | 4 => simp [dnV] at hv; subst hv; exact c4
   | 5 => simp [dnV] at hv; subst hv; exact c5
   | 6 => simp [dnV] at hv; subst hv; exact c6
   | j + 7 => simp [dnV] at hv
  exact ⟨false, l, hr, rfl⟩
theorem text_rep {n : Nat} {v : Value} {y : DataW H × List MemPlace} (h : DataW.trod enc Tryz.prog w base spare held n 23 [v] = some y) :
  ∃ (nl : Bool) (l : List Bs), Rep w (startG (allG w)) (.slice nl [] (l.map .str)) v ∧ v.oneCell' = true := by
 have hC : Tryz.prog.cellsOf 9 = 1 := by kernel_rfl
 rcases open_slice Tryz.underlying23 h with ⟨hcs, _⟩ | ⟨a, len, cap, m, n, D, Pl, hcs, _, hl, _, hm, _, hi⟩
 ·simp only [List.cons.injEq, and_true] at hcs
  subst hcs
  exact ⟨true, [], .nils [], rfl⟩
 ·simp only [List.cons.injEq, and_true] at hcs
  subst hcs
  rw [hC] at hi
  have hlm : len ≤ m := by rw [hm]; split <;> omega
  obtain ⟨l, hr⟩ := strs_rep hl fun i hi' => by
   obtain ⟨cs', hc, ht⟩ := hi i (by omega)
   obtain ⟨_, hcl, hat⟩ := World.cells?_some hc
   obtain ⟨s, e, _, _⟩ := DataW.trod_string Tryz.underlying9 ht
   have h0 := hat 0 (by omega)
   rw [e] at h0
   refine ⟨s.data.toList, ?_⟩
   have ha : (a.add (i * 1)).add 0 = a.add i := by rw [Go.Vd.add_add]; simp
   rw [ha] at h0
   simpa using h0
  exact ⟨false, l, hr, rfl⟩
theorem told_rep {b0 : Nat} {v : Value} {d : DataW H} {p : List MemPlace} (hv : Value.okWide Tryz.prog w .any b0 25 v) (h : DataW.Trod enc Tryz.prog w base spare held 25 v d p) :
  ∃ (nc nb : Bool) (t : Td), Rep w (startG (allG w)) (tdD nc nb t) v := by
 obtain ⟨c0, c1, c2, c3, c4, y0, y1, y2, y3, y4, n, rfl, _, _, t0, t1, t2, t3, t4⟩ := open_agg5 Tryz.underlying25 (by kernel_rfl) (by kernel_rfl) hv h
 obtain ⟨nc, cs, r0, o0⟩ := done_rep t0
 obtain ⟨n1, e1, _⟩ := DataW.trod_int Tryz.underlying3 t1
 obtain ⟨n2, e2, _⟩ := DataW.trod_int Tryz.underlying3 t2
 obtain ⟨b3, e3, _⟩ := DataW.trod_bool Tryz.underlying4 t3
 obtain ⟨nb, bs, r4, o4⟩ := text_rep t4
 simp only [List.cons.injEq, and_true] at e1 e2 e3
 subst e1 e2 e3
 refine ⟨nc, nb, ⟨cs, n1, n2, b3, bs⟩, .agg _ [c0, .int .i64 n1, .int .i64 n2, .bool b3, c4] rfl (fun v hv => ?_) (fun j d v hd hv => ?_)⟩
 ·simp only [List.mem_cons, List.mem_nil_iff, or_false] at hv
  rcases hv with rfl | rfl | rfl | rfl | rfl
  ·exact o0
  ·rfl
  ·rfl
  ·rfl
  ·exact o4
 ·match j with
  | 0 => simp only [tdCells, List.getElem?_cons_zero, Option.some.injEq] at hd hv; subst hd hv; exact r0
  | 1 => simp only [tdCells, List.getElem?_cons_succ, List.getElem?_cons_zero, Option.some.injEq] at hd hv; subst hd hv; exact .int _ _
  | 2 => simp only [tdCells, List.getElem?_cons_succ, List.getElem?_cons_zero, Option.some.injEq] at hd hv; subst hd hv; exact .int _ _
  | 3 => simp only [tdCells, List.getElem?_cons_succ, List.getElem?_cons_zero, Option.some.injEq] at hd hv; subst hd hv; exact .bool _
  | 4 => simp only [tdCells, List.getElem?_cons_succ, List.getElem?_cons_zero, Option.some.injEq] at hd hv; subst hd hv; exact r4
  | j + 5 => simp [tdCells] at hd
end
end Go.Vd

namespace Go.Vd
open Go.RowKit
set_option maxRecDepth 10000
def dc9 : DC := (.seq (.row [⟨some 0, .mv (.c (.bool false)), [], none⟩]) (.seq (.row [⟨some 16, .build [(.slice true [] []), (.int .i64 0), (.int .i64 0), (.bool false), (.slice true [] [])] [], [], none⟩, ⟨some 17, .call (.c (.fn 10 [])) [(.t 16)], [], none⟩, ⟨some 15, .mv (.t 17), [], none⟩, ⟨some 18, .ext 0 (.t 15), [], none⟩, ⟨some 19, .ext 1 (.t 15), [], none⟩, ⟨some 1, .mv (.t 18), [], none⟩, ⟨some 2, .mv (.t 19), [], none⟩]) (.seq (.row [⟨some 21, .bslice 9 1 [(.c (.str [116, 111, 108, 100, 32, 51, 32, 49, 32, 49])), (.c (.str [115, 97, 105, 100, 32, 54, 49, 54, 50]))], [], none⟩, ⟨some 22, .call (.c (.fn 13 [])) [(.t 21)], [], none⟩, ⟨some 20, .mv (.t 22), [], none⟩, ⟨some 23, .ext 0 (.t 20), [], none⟩, ⟨some 24, .ext 1 (.t 20), [], none⟩, ⟨some 3, .alloc [(.slice true [] []), (.int .i64 0), (.int .i64 0), (.bool false), (.slice true [] [])], [], none⟩, ⟨none, .store 5 (.t 3) (.t 23), [], none⟩, ⟨some 4, .mv (.t 24), [], none⟩]) (.seq (.row [⟨some 26, .load (some 5) (.t 3), [], none⟩, ⟨some 27, .call (.c (.fn 21 [])) [(.t 26)], [], none⟩, ⟨some 25, .mv (.t 27), [], none⟩, ⟨some 28, .ext 0 (.t 25), [], none⟩, ⟨some 29, .ext 1 (.t 25), [], none⟩, ⟨some 5, .mv (.t 28), [], none⟩, ⟨some 6, .mv (.t 29), [], none⟩]) (.seq (.row [⟨some 31, .mv (.t 5), [], none⟩, ⟨some 32, .call (.c (.fn 23 [])) [(.t 31)], [], none⟩, ⟨some 30, .mv (.t 32), [], none⟩, ⟨some 33, .ext 0 (.t 30), [], none⟩, ⟨some 34, .ext 1 (.t 30), [], none⟩, ⟨some 7, .alloc [(.slice true [] []), (.int .i64 0), (.int .i64 0), (.bool false), (.slice true [] [])], [], none⟩, ⟨none, .store 5 (.t 7) (.t 33), [], none⟩, ⟨some 8, .mv (.t 34), [], none⟩]) (.seq (.row [⟨some 36, .bslice 9 1 [(.c (.str [116, 111, 108, 100, 32, 51, 32, 49, 32, 50]))], [], none⟩, ⟨some 37, .call (.c (.fn 13 [])) [(.t 36)], [], none⟩, ⟨some 35, .mv (.t 37), [], none⟩, ⟨some 38, .ext 0 (.t 35), [], none⟩, ⟨some 39, .ext 1 (.t 35), [], none⟩, ⟨some 9, .alloc [(.slice true [] []), (.int .i64 0), (.int .i64 0), (.bool false), (.slice true [] [])], [], none⟩, ⟨none, .store 5 (.t 9) (.t 38), [], none⟩, ⟨some 10, .mv (.t 39), [], none⟩]) (.seq (.row [⟨some 41, .call (.c (.fn 23 [])) [(.c (.str [120]))], [], none⟩, ⟨some 40, .mv (.t 41), [], none⟩, ⟨some 42, .ext 0 (.t 40), [], none⟩, ⟨some 43, .ext 1 (.t 40), [], none⟩, ⟨some 11, .alloc [(.slice true [] []), (.int .i64 0), (.int .i64 0), (.bool false), (.slice true [] [])], [], none⟩, ⟨none, .store 5 (.t 11) (.t 42), [], none⟩, ⟨some 12, .mv (.t 43), [], none⟩]) (.seq (.row [⟨some 45, .call (.c (.fn 25 [])) [(.c (.str [45, 49, 50]))], [], none⟩, ⟨some 44, .mv (.t 45), [], none⟩, ⟨some 46, .ext 0 (.t 44), [], none⟩, ⟨some 47, .ext 1 (.t 44), [], none⟩, ⟨some 13, .mv (.t 46), [], none⟩, ⟨some 14, .mv (.t 47), [], none⟩]) (.seq (.row [⟨some 48, .mv (.t 2), [], none⟩, ⟨some 49, .bin .eql (.t 48) (.c (.int .i64 0)), [], none⟩, ⟨some 50, .mv (.t 49), [], none⟩, ⟨some 51, .mv (.t 1), [], some (2, true)⟩, ⟨some 52, .len false (.t 51), [], some (2, true)⟩, ⟨some 53, .bin .eql (.t 52) (.c (.int .i64 1)), [], some (2, true)⟩, ⟨some 54, .pick (.t 50) (.t 53) (.c (.bool false)), [], none⟩, ⟨some 55, .mv (.t 54), [], none⟩, ⟨some 56, .mv (.t 1), [], some (7, true)⟩, ⟨some 57, .iaddr 1 (.t 56) (.c (.int .i64 0)), [], some (7, true)⟩, ⟨some 58, .load none (.t 57), [], some (7, true)⟩, ⟨some 59, .bin .eql (.t 58) (.c (.str [116, 111, 108, 100, 32, 48, 32, 48, 32, 48])), [], some (7, true)⟩, ⟨some 60, .pick (.t 55) (.t 59) (.c (.bool false)), [], none⟩, ⟨some 61, .mv (.t 60), [], none⟩, ⟨some 62, .mv (.t 4), [], some (13, true)⟩, ⟨some 63, .bin .eql (.t 62) (.c (.int .i64 0)), [], some (13, true)⟩, ⟨some 64, .pick (.t 61) (.t 63) (.c (.bool false)), [], none⟩, ⟨some 65, .mv (.t 64), [], none⟩, ⟨some 66, .faddr 1 (.t 3), [], some (17, true)⟩, ⟨some 67, .load none (.t 66), [], some (17, true)⟩, ⟨some 68, .bin .eql (.t 67) (.c (.int .i64 3)), [], some (17, true)⟩, ⟨some 69, .pick (.t 65) (.t 68) (.c (.bool false)), [], none⟩, ⟨some 70, .mv (.t 69), [], none⟩, ⟨some 71, .faddr 3 (.t 3), [], some (22, true)⟩, ⟨some 72, .load none (.t 71), [], some (22, true)⟩, ⟨some 73, .pick (.t 70) (.t 72) (.c (.bool false)), [], none⟩, ⟨some 74, .mv (.t 73), [], none⟩, ⟨some 75, .faddr 4 (.t 3), [], some (26, true)⟩, ⟨some 76, .load none (.t 75), [], some (26, true)⟩, ⟨some 77, .len false (.t 76), [], some (26, true)⟩, ⟨some 78, .bin .eql (.t 77) (.c (.int .i64 1)), [], some (26, true)⟩, ⟨some 79, .pick (.t 74) (.t 78) (.c (.bool false)), [], none⟩, ⟨some 80, .mv (.t 79), [], none⟩, ⟨some 81, .faddr 4 (.t 3), [], some (32, true)⟩, ⟨some 82, .load none (.t 81), [], some (32, true)⟩, ⟨some 83, .iaddr 1 (.t 82) (.c (.int .i64 0)), [], some (32, true)⟩, ⟨some 84, .load none (.t 83), [], some (32, true)⟩, ⟨some 85, .bin .eql (.t 84) (.c (.str [97, 98])), [], some (32, true)⟩, ⟨some 86, .pick (.t 80) (.t 85) (.c (.bool false)), [], none⟩, ⟨some 87, .mv (.t 86), [], none⟩, ⟨some 88, .mv (.t 6), [], some (39, true)⟩, ⟨some 89, .bin .eql (.t 88) (.c (.int .i64 0)), [], some (39, true)⟩, ⟨some 90, .pick (.t 87) (.t 89) (.c (.bool false)), [], none⟩, ⟨some 91, .mv (.t 90), [], none⟩, ⟨some 92, .mv (.t 8), [], some (43, true)⟩, ⟨some 93, .bin .eql (.t 92) (.c (.int .i64 0)), [], some (43, true)⟩, ⟨some 94, .pick (.t 91) (.t 93) (.c (.bool false)), [], none⟩, ⟨some 95, .mv (.t 94), [], none⟩, ⟨some 96, .load (some 5) (.t 3), [], some (47, true)⟩, ⟨some 97, .load (some 5) (.t 7), [], some (47, true)⟩, ⟨some 98, .call (.c (.fn 20 [])) [(.t 96), (.t 97)], [], some (47, true)⟩, ⟨some 99, .pick (.t 95) (.t 98) (.c (.bool false)), [], none⟩, ⟨some 100, .mv (.t 99), [], none⟩, ⟨some 101, .load (some 5) (.t 3), [], some (52, true)⟩, ⟨some 102, .build [(.slice true [] []), (.int .i64 0), (.int .i64 0), (.bool false), (.slice true [] [])] [], [], some (52, true)⟩, ⟨some 103, .call (.c (.fn 20 [])) [(.t 101), (.t 102)], [], some (52, true)⟩, ⟨some 104, .un .not (.t 103), [], some (52, true)⟩, ⟨some 105, .pick (.t 100) (.t 104) (.c (.bool false)), [], none⟩, ⟨some 106, .mv (.t 105), [], none⟩, ⟨some 107, .mv (.t 10), [], some (58, true)⟩, ⟨some 108, .bin .eql (.t 107) (.c (.int .i64 4)), [], some (58, true)⟩, ⟨some 109, .pick (.t 106) (.t 108) (.c (.bool false)), [], none⟩, ⟨some 110, .mv (.t 109), [], none⟩, ⟨some 111, .mv (.t 12), [], some (62, true)⟩, ⟨some 112, .bin .eql (.t 111) (.c (.int .i64 4)), [], some (62, true)⟩, ⟨some 113, .pick (.t 110) (.t 112) (.c (.bool false)), [], none⟩, ⟨some 114, .mv (.t 113), [], none⟩, ⟨some 115, .mv (.t 13), [], some (66, true)⟩, ⟨some 116, .bin .eql (.t 115) (.c (.int .i64 (-12))), [], some (66, true)⟩, ⟨some 117, .pick (.t 114) (.t 116) (.c (.bool false)), [], none⟩, ⟨some 118, .mv (.t 117), [], none⟩, ⟨some 119, .mv (.t 14), [], some (70, true)⟩, ⟨some 120, .pick (.t 118) (.t 119) (.c (.bool false)), [], none⟩, ⟨some 121, .mv (.t 120), [], none⟩, ⟨some 122, .call (.c (.fn 27 [])) [(.c (.int .i64 (-7)))], [], some (73, true)⟩, ⟨some 123, .bin .eql (.t 122) (.c (.str [45, 55])), [], some (73, true)⟩, ⟨some 124, .pick (.t 121) (.t 123) (.c (.bool false)), [], none⟩, ⟨some 125, .mv (.t 124), [], none⟩, ⟨some 126, .call (.c (.fn 27 [])) [(.c (.int .i64 1099511627777))], [], some (77, true)⟩, ⟨some 127, .bin .eql (.t 126) (.c (.str [])), [], some (77, true)⟩, ⟨some 128, .pick (.t 125) (.t 127) (.c (.bool false)), [], none⟩, ⟨some 129, .mv (.t 128), [], none⟩, ⟨some 130, .build [(.slice true [] []), (.int .i64 0), (.int .i64 0), (.bool false), (.slice true [] [])] [(2, 1, (.c (.int .i64 1099511627777)))], [], some (81, true)⟩, ⟨some 131, .call (.c (.fn 15 [])) [(.t 130)], [], some (81, true)⟩, ⟨some 132, .bin .eql (.t 131) (.c (.int .i64 8)), [], some (81, true)⟩, ⟨some 133, .pick (.t 129) (.t 132) (.c (.bool false)), [], none⟩, ⟨some 134, .mv (.t 133), [], none⟩, ⟨some 135, .pick (.t 134) (.c (.bool true)) (.c (.bool false)), [], none⟩, ⟨some 136, .mv (.t 135), [], none⟩, ⟨some 137, .pick (.t 136) (.c (.bool true)) (.c (.bool false)), [], none⟩, ⟨some 0, .mv (.t 137), [], none⟩]) .ret)))))))))
def wokT : Td := ⟨[], 3, 1, true, [[97, 98]]⟩
theorem tdT : tdD true false wokT = .agg [.slice true [] [], .int .i64 3, .int .i64 1, .bool true, .slice false [] [.str [97, 98]]] := rfl
theorem tdZ : tdD true true zeroT = .agg [.slice true [] [], .int .i64 0, .int .i64 0, .bool false, .slice true [] []] := rfl
theorem c10 : Flines [.agg [.slice true [] [], .int .i64 0, .int .i64 0, .bool false, .slice true [] []]] = some (.tup [.slice false [] [.str [116, 111, 108, 100, 32, 48, 32, 48, 32, 48]], .int .i64 0]) := by kernel_rfl
theorem c13 (n : Bool) (i : Id) : F13 [.slice n i [.str [116, 111, 108, 100, 32, 51, 32, 49, 32, 49], .str [115, 97, 105, 100, 32, 54, 49, 54, 50]]] = some (.tup [.agg [.slice true [] [], .int .i64 3, .int .i64 1, .bool true, .slice false [] [.str [97, 98]]], .int .i64 0]) := by kernel_rfl
theorem c13b (n : Bool) (i : Id) : F13 [.slice n i [.str [116, 111, 108, 100, 32, 51, 32, 49, 32, 50]]] = some (.tup [.agg [.slice true [] [], .int .i64 0, .int .i64 0, .bool false, .slice true [] []], .int .i64 4]) := by kernel_rfl
theorem c21 : Fbytes [.agg [.slice true [] [], .int .i64 3, .int .i64 1, .bool true, .slice false [] [.str [97, 98]]]] = some (.tup [.str (bytesB wokT), .int .i64 0]) := by kernel_rfl
theorem c23 : F23 [.str (bytesB wokT)] = some (.tup [.agg [.slice true [] [], .int .i64 3, .int .i64 1, .bool true, .slice false [] [.str [97, 98]]], .int .i64 0]) := by kernel_rfl
theorem c23b : F23 [.str [120]] = some (.tup [.agg [.slice true [] [], .int .i64 0, .int .i64 0, .bool false, .slice true [] []], .int .i64 4]) := by kernel_rfl
theorem c25 : F25 [.str [45, 49, 50]] = some (.tup [.int .i64 (-12), .bool true]) := by kernel_rfl
theorem c20 : Fsame [.agg [.slice true [] [], .int .i64 3, .int .i64 1, .bool true, .slice false [] [.str [97, 98]]], .agg [.slice true [] [], .int .i64 3, .int .i64 1, .bool true, .slice false [] [.str [97, 98]]]] = some (.bool true) := by kernel_rfl
theorem c20b : Fsame [.agg [.slice true [] [], .int .i64 3, .int .i64 1, .bool true, .slice false [] [.str [97, 98]]], .agg [.slice true [] [], .int .i64 0, .int .i64 0, .bool false, .slice true [] []]] = some (.bool false) := by kernel_rfl
theorem c27 : F27 [.int .i64 (-7)] = some (.str [45, 55]) := by kernel_rfl
theorem c27b : F27 [.int .i64 1099511627777] = some (.str []) := by kernel_rfl
theorem c15 : F15 [.agg [.slice true [] [], .int .i64 0, .int .i64 1099511627777, .bool false, .slice true [] []]] = some (.int .i64 8) := by kernel_rfl
theorem cFill : fillD [.slice true [] [], .int .i64 0, .int .i64 0, .bool false, .slice true [] []] [(2, 1, .int .i64 1099511627777)] = some [.slice true [] [], .int .i64 0, .int .i64 1099511627777, .bool false, .slice true [] []] := rfl
set_option maxHeartbeats 8000000 in
theorem ok9 {P : Program} (hf : Fn P 9 138 dc9 [.t 0]) (h10 : (funS Flines).ok P 10) (h13 : (funS F13).ok P 13) (h15 : (funS F15).ok P 15) (h20 : (funS Fsame).ok P 20) (h21 : (funS Fbytes).ok P 21) (h23 : (funS F23).ok P 23) (h25 : (funS F25).ok P 25) (h27 : (funS F27).ok P 27) : (funS trueF).ok P 9 := by
 obtain ⟨S, hS, s10, s13, s15, s20, s21, s23, s25, s27⟩ : ∃ S : Summs, Summs.ok P S ∧ S 10 = some (funS Flines) ∧ S 13 = some (funS F13) ∧ S 15 = some (funS F15) ∧ S 20 = some (funS Fsame) ∧ S 21 = some (funS Fbytes) ∧ S 23 = some (funS F23) ∧ S 25 = some (funS F25) ∧ S 27 = some (funS F27) :=
  ⟨tabL [(10, _), (13, _), (15, _), (20, _), (21, _), (23, _), (25, _), (27, _)], tabL_cons h10 (tabL_cons h13 (tabL_cons h15 (tabL_cons h20 (tabL_cons h21 (tabL_cons h23 (tabL_cons h25 (tabL_cons h27 tabL_nil))))))), rfl, rfl, rfl, rfl, rfl, rfl, rfl, rfl⟩
 refine fun_ok (S := S) hS hf (fun ds r h => ?_) (fun ds r h => ?_)
 ·unfold trueF at h; split at h
  ·simp
  ·cases h
 ·unfold trueF at h; split at h
  ·simp only [Option.some.injEq] at h
   subst h
   have x1 : ((((1 : Nat) : Int) = 1)) = True := by simp
   unfold dc9
   simp only [↓go1, gB0, reduceIte, Nat.reduceEqDiff, Nat.reduceAdd, Nat.reduceSub, Nat.reduceLT, Nat.reduceLeDiff, rd_succ, rd_zero, put_rd, fill_nil, tdCells, callK_fun s10, callK_fun s13, callK_fun s15, callK_fun s20, callK_fun s21, callK_fun s23, callK_fun s25, callK_fun s27, c10, c13, c13b, c21, c23, c23b, c25, c20, c20b, c27, c27b, c15, tdT, tdZ, x1, Int.reduceEq, Int.reduceNeg, Int.reduceLE, Int.reduceToNat, D.cells, cFill]
  ·cases h
end Go.Vd

namespace Go.Vd
open Go.Proofs Go.RowKit
set_option maxRecDepth 100000
theorem dfn3 : Fn Tryz.prog 3 88 dc3 [.t 6] := ⟨Tryz.f3, _, Tryz.func3, rfl, by kernel_rfl, rfl, by kernel_rfl, by kernel_rfl⟩
theorem dfn7 : Fn Tryz.prog 7 54 dc7 [.t 2] := ⟨Tryz.f7, _, Tryz.func7, rfl, by kernel_rfl, rfl, by kernel_rfl, by kernel_rfl⟩
theorem dfn10 : Fn Tryz.prog 10 77 dc10 [.t 2, .t 3] := ⟨Tryz.f10, _, Tryz.func10, rfl, by kernel_rfl, rfl, by kernel_rfl, by kernel_rfl⟩
theorem dfn11 : Fn Tryz.prog 11 15 dc11 [.cell (some 5) 2] := ⟨Tryz.f11, _, Tryz.func11, rfl, by kernel_rfl, rfl, by kernel_rfl, by kernel_rfl⟩
theorem dfn13 : Fn Tryz.prog 13 30 dc13 [.cell (some 5) 2, .t 3] := ⟨Tryz.f13, _, Tryz.func13, rfl, by kernel_rfl, rfl, by kernel_rfl, by kernel_rfl⟩
theorem dfn15 : Fn Tryz.prog 15 62 dc15 [.t 2] := ⟨Tryz.f15, _, Tryz.func15, rfl, by kernel_rfl, rfl, by kernel_rfl, by kernel_rfl⟩
theorem dfn16 : Fn Tryz.prog 16 92 dc16 [.t 2] := ⟨Tryz.f16, _, Tryz.func16, rfl, by kernel_rfl, rfl, by kernel_rfl, by kernel_rfl⟩
theorem dfn17 : Fn Tryz.prog 17 26 dc17 [.t 4] := ⟨Tryz.f17, _, Tryz.func17, rfl, by kernel_rfl, rfl, by kernel_rfl, by kernel_rfl⟩
theorem dfn18 : Fn Tryz.prog 18 60 dc18 [.t 4] := ⟨Tryz.f18, _, Tryz.func18, rfl, by kernel_rfl, rfl, by kernel_rfl, by kernel_rfl⟩
theorem dfn19 : Fn Tryz.prog 19 15 dc19 [.cell (some 5) 2] := ⟨Tryz.f19, _, Tryz.func19, rfl, by kernel_rfl, rfl, by kernel_rfl, by kernel_rfl⟩
theorem dfn20 : Fn Tryz.prog 20 38 dc20 [.t 4] := ⟨Tryz.f20, _, Tryz.func20, rfl, by kernel_rfl, rfl, by kernel_rfl, by kernel_rfl⟩
theorem dfn29 : Fn Tryz.prog 29 5 dc29 [.t 2] := ⟨Tryz.f29, _, Tryz.func29, rfl, by kernel_rfl, rfl, by kernel_rfl, by kernel_rfl⟩
theorem dfn30 : Fn Tryz.prog 30 4 dc30 [.t 2] := ⟨Tryz.f30, _, Tryz.func30, rfl, by kernel_rfl, rfl, by kernel_rfl, by kernel_rfl⟩
theorem dfn31 : Fn Tryz.prog 31 7 dc31 [.t 2] := ⟨Tryz.f31, _, Tryz.func31, rfl, by kernel_rfl, rfl, by kernel_rfl, by kernel_rfl⟩
theorem dfn32 : Fn Tryz.prog 32 19 dc32 [.t 2] := ⟨Tryz.f32, _, Tryz.func32, rfl, by kernel_rfl, rfl, by kernel_rfl, by kernel_rfl⟩
theorem dfn35 : Fn Tryz.prog 35 79 dc35 [.t 6] := ⟨Tryz.f35, _, Tryz.func35, rfl, by kernel_rfl, rfl, by kernel_rfl, by kernel_rfl⟩
theorem dfn40 : Fn Tryz.prog 40 6 dc40 [.t 2] := ⟨Tryz.f40, _, Tryz.func40, rfl, by kernel_rfl, rfl, by kernel_rfl, by kernel_rfl⟩
theorem dfn42 : Fn Tryz.prog 42 19 dc42 [.t 2] := ⟨Tryz.f42, _, Tryz.func42, rfl, by kernel_rfl, rfl, by kernel_rfl, by kernel_rfl⟩
theorem dfn43 : Fn Tryz.prog 43 26 dc43 [.t 4] := ⟨Tryz.f43, _, Tryz.func43, rfl, by kernel_rfl, rfl, by kernel_rfl, by kernel_rfl⟩
theorem dfn44 : Fn Tryz.prog 44 26 dc44 [.t 4] := ⟨Tryz.f44, _, Tryz.func44, rfl, by kernel_rfl, rfl, by kernel_rfl, by kernel_rfl⟩
theorem dfn65 : Fn Tryz.prog 65 29 dc65 [.t 2] := ⟨Tryz.f65, _, Tryz.func65, rfl, by kernel_rfl, rfl, by kernel_rfl, by kernel_rfl⟩
theorem dfn68 : Fn Tryz.prog 68 28 dc68 [.t 2] := ⟨Tryz.f68, _, Tryz.func68, rfl, by kernel_rfl, rfl, by kernel_rfl, by kernel_rfl⟩
theorem dfn69 : Fn Tryz.prog 69 23 dc69 [.t 2] := ⟨Tryz.f69, _, Tryz.func69, rfl, by kernel_rfl, rfl, by kernel_rfl, by kernel_rfl⟩
theorem dfn70 : Fn Tryz.prog 70 23 dc70 [.t 2] := ⟨Tryz.f70, _, Tryz.func70, rfl, by kernel_rfl, rfl, by kernel_rfl, by kernel_rfl⟩
theorem dfn71 : Fn Tryz.prog 71 16 dc71 [.t 2] := ⟨Tryz.f71, _, Tryz.func71, rfl, by kernel_rfl, rfl, by kernel_rfl, by kernel_rfl⟩
theorem dfn72 : Fn Tryz.prog 72 23 dc72 [.cell (some 7) 2] := ⟨Tryz.f72, _, Tryz.func72, rfl, by kernel_rfl, rfl, by kernel_rfl, by kernel_rfl⟩
theorem dfn73 : Fn Tryz.prog 73 31 dc73 [.t 2] := ⟨Tryz.f73, _, Tryz.func73, rfl, by kernel_rfl, rfl, by kernel_rfl, by kernel_rfl⟩
theorem dfn77 : Fn Tryz.prog 77 9 dc77 [.t 4] := ⟨Tryz.f77, _, Tryz.func77, rfl, by kernel_rfl, rfl, by kernel_rfl, by kernel_rfl⟩
theorem dfn78 : Fn Tryz.prog 78 6 dc78 [.t 2] := ⟨Tryz.f78, _, Tryz.func78, rfl, by kernel_rfl, rfl, by kernel_rfl, by kernel_rfl⟩
theorem dfn95 : Fn Tryz.prog 95 47 dc95 [.t 2, .t 3] := ⟨Tryz.f95, _, Tryz.func95, rfl, by kernel_rfl, rfl, by kernel_rfl, by kernel_rfl⟩
theorem dfn97 : Fn Tryz.prog 97 19 dc97 [.t 4] := ⟨Tryz.f97, _, Tryz.func97, rfl, by kernel_rfl, rfl, by kernel_rfl, by kernel_rfl⟩
theorem dfn117 : Fn Tryz.prog 117 24 dc117 [.t 2] := ⟨Tryz.f117, _, Tryz.func117, rfl, by kernel_rfl, rfl, by kernel_rfl, by kernel_rfl⟩
theorem desk : Desk Tryz.prog where
 f3 := dfn3
 f7 := dfn7
 f10 := dfn10
 f11 := dfn11
 f13 := dfn13
 f15 := dfn15
 f16 := dfn16
 f17 := dfn17
 f18 := dfn18
 f19 := dfn19
 f20 := dfn20
 f29 := dfn29
 f30 := dfn30
 f31 := dfn31
 f32 := dfn32
 f35 := dfn35
 f40 := dfn40
 f42 := dfn42
 f43 := dfn43
 f44 := dfn44
 f65 := dfn65
 f68 := dfn68
 f69 := dfn69
 f70 := dfn70
 f71 := dfn71
 f72 := dfn72
 f73 := dfn73
 f77 := dfn77
 f78 := dfn78
 f95 := dfn95
 f97 := dfn97
 f117 := dfn117
end Go.Vd

namespace Go.Vd
open Go.Proofs Go.RowKit
set_option maxRecDepth 100000
theorem bfn4 : Fn Tryz.prog 4 64 dc4 [.t 4] := ⟨Tryz.f4, _, Tryz.func4, rfl, by kernel_rfl, rfl, by kernel_rfl, by kernel_rfl⟩
theorem bfn21 : Fn Tryz.prog 21 41 dc21 [.t 2, .t 3] := ⟨Tryz.f21, _, Tryz.func21, rfl, by kernel_rfl, rfl, by kernel_rfl, by kernel_rfl⟩
theorem bfn22 : Fn Tryz.prog 22 90 dc22 [.t 2, .t 3] := ⟨Tryz.f22, _, Tryz.func22, rfl, by kernel_rfl, rfl, by kernel_rfl, by kernel_rfl⟩
theorem bfn23 : Fn Tryz.prog 23 92 dc23 [.cell (some 5) 2, .t 3] := ⟨Tryz.f23, _, Tryz.func23, rfl, by kernel_rfl, rfl, by kernel_rfl, by kernel_rfl⟩
theorem bfn24 : Fn Tryz.prog 24 107 dc24 [.cell (some 5) 2, .t 3] := ⟨Tryz.f24, _, Tryz.func24, rfl, by kernel_rfl, rfl, by kernel_rfl, by kernel_rfl⟩
theorem bfn45 : Fn Tryz.prog 45 12 dc45 [.t 2, .t 3] := ⟨Tryz.f45, _, Tryz.func45, rfl, by kernel_rfl, rfl, by kernel_rfl, by kernel_rfl⟩
theorem bfn46 : Fn Tryz.prog 46 21 dc46 [.t 2] := ⟨Tryz.f46, _, Tryz.func46, rfl, by kernel_rfl, rfl, by kernel_rfl, by kernel_rfl⟩
theorem bfn47 : Fn Tryz.prog 47 42 dc47 [.t 2] := ⟨Tryz.f47, _, Tryz.func47, rfl, by kernel_rfl, rfl, by kernel_rfl, by kernel_rfl⟩
theorem bfn48 : Fn Tryz.prog 48 7 dc48 [.t 2] := ⟨Tryz.f48, _, Tryz.func48, rfl, by kernel_rfl, rfl, by kernel_rfl, by kernel_rfl⟩
theorem bfn49 : Fn Tryz.prog 49 5 dc49 [.cell (some 5) 2] := ⟨Tryz.f49, _, Tryz.func49, rfl, by kernel_rfl, rfl, by kernel_rfl, by kernel_rfl⟩
theorem bfn50 : Fn Tryz.prog 50 7 dc50 [.cell (some 5) 2] := ⟨Tryz.f50, _, Tryz.func50, rfl, by kernel_rfl, rfl, by kernel_rfl, by kernel_rfl⟩
theorem bfn51 : Fn Tryz.prog 51 6 dc51 [.cell (some 5) 2] := ⟨Tryz.f51, _, Tryz.func51, rfl, by kernel_rfl, rfl, by kernel_rfl, by kernel_rfl⟩
theorem bfn52 : Fn Tryz.prog 52 77 dc52 [.t 2] := ⟨Tryz.f52, _, Tryz.func52, rfl, by kernel_rfl, rfl, by kernel_rfl, by kernel_rfl⟩
theorem bfn53 : Fn Tryz.prog 53 22 dc53 [.t 2, .t 3] := ⟨Tryz.f53, _, Tryz.func53, rfl, by kernel_rfl, rfl, by kernel_rfl, by kernel_rfl⟩
theorem bfn54 : Fn Tryz.prog 54 63 dc54 [.t 6] := ⟨Tryz.f54, _, Tryz.func54, rfl, by kernel_rfl, rfl, by kernel_rfl, by kernel_rfl⟩
theorem bfn55 : Fn Tryz.prog 55 24 dc55 [.t 4] := ⟨Tryz.f55, _, Tryz.func55, rfl, by kernel_rfl, rfl, by kernel_rfl, by kernel_rfl⟩
theorem bfn56 : Fn Tryz.prog 56 24 dc56 [.t 4] := ⟨Tryz.f56, _, Tryz.func56, rfl, by kernel_rfl, rfl, by kernel_rfl, by kernel_rfl⟩
theorem bfn57 : Fn Tryz.prog 57 24 dc57 [.t 4] := ⟨Tryz.f57, _, Tryz.func57, rfl, by kernel_rfl, rfl, by kernel_rfl, by kernel_rfl⟩
theorem bfn58 : Fn Tryz.prog 58 24 dc58 [.t 4] := ⟨Tryz.f58, _, Tryz.func58, rfl, by kernel_rfl, rfl, by kernel_rfl, by kernel_rfl⟩
theorem bfn59 : Fn Tryz.prog 59 52 dc59 [.cell (some 7) 4] := ⟨Tryz.f59, _, Tryz.func59, rfl, by kernel_rfl, rfl, by kernel_rfl, by kernel_rfl⟩
theorem bfn60 : Fn Tryz.prog 60 20 dc60 [.cell (some 5) 2, .t 3] := ⟨Tryz.f60, _, Tryz.func60, rfl, by kernel_rfl, rfl, by kernel_rfl, by kernel_rfl⟩
theorem bfn61 : Fn Tryz.prog 61 10 dc61 [.t 2] := ⟨Tryz.f61, _, Tryz.func61, rfl, by kernel_rfl, rfl, by kernel_rfl, by kernel_rfl⟩
theorem bfn62 : Fn Tryz.prog 62 16 dc62 [.cell (some 5) 4] := ⟨Tryz.f62, _, Tryz.func62, rfl, by kernel_rfl, rfl, by kernel_rfl, by kernel_rfl⟩
theorem bfn79 : Fn Tryz.prog 79 5 dc79 [.t 2] := ⟨Tryz.f79, _, Tryz.func79, rfl, by kernel_rfl, rfl, by kernel_rfl, by kernel_rfl⟩
theorem bfn80 : Fn Tryz.prog 80 88 dc80 [.t 4] := ⟨Tryz.f80, _, Tryz.func80, rfl, by kernel_rfl, rfl, by kernel_rfl, by kernel_rfl⟩
theorem bfn81 : Fn Tryz.prog 81 42 dc81 [.t 6] := ⟨Tryz.f81, _, Tryz.func81, rfl, by kernel_rfl, rfl, by kernel_rfl, by kernel_rfl⟩
theorem bfn82 : Fn Tryz.prog 82 16 dc82 [.t 4, .t 5] := ⟨Tryz.f82, _, Tryz.func82, rfl, by kernel_rfl, rfl, by kernel_rfl, by kernel_rfl⟩
theorem bfn83 : Fn Tryz.prog 83 15 dc83 [.t 4] := ⟨Tryz.f83, _, Tryz.func83, rfl, by kernel_rfl, rfl, by kernel_rfl, by kernel_rfl⟩
theorem bfn84 : Fn Tryz.prog 84 45 dc84 [.t 4] := ⟨Tryz.f84, _, Tryz.func84, rfl, by kernel_rfl, rfl, by kernel_rfl, by kernel_rfl⟩
theorem bfn85 : Fn Tryz.prog 85 17 dc85 [.t 2] := ⟨Tryz.f85, _, Tryz.func85, rfl, by kernel_rfl, rfl, by kernel_rfl, by kernel_rfl⟩
theorem bfn86 : Fn Tryz.prog 86 13 dc86 [.t 2, .t 3] := ⟨Tryz.f86, _, Tryz.func86, rfl, by kernel_rfl, rfl, by kernel_rfl, by kernel_rfl⟩
theorem bfn87 : Fn Tryz.prog 87 13 dc87 [.t 2, .t 3] := ⟨Tryz.f87, _, Tryz.func87, rfl, by kernel_rfl, rfl, by kernel_rfl, by kernel_rfl⟩
theorem bfn88 : Fn Tryz.prog 88 149 dc88 [.cell (some 5) 4, .cell (some 3) 5] := ⟨Tryz.f88, _, Tryz.func88, rfl, by kernel_rfl, rfl, by kernel_rfl, by kernel_rfl⟩
theorem bfn89 : Fn Tryz.prog 89 17 dc89 [.t 2] := ⟨Tryz.f89, _, Tryz.func89, rfl, by kernel_rfl, rfl, by kernel_rfl, by kernel_rfl⟩
theorem bfn98 : Fn Tryz.prog 98 37 dc98 [.t 4] := ⟨Tryz.f98, _, Tryz.func98, rfl, by kernel_rfl, rfl, by kernel_rfl, by kernel_rfl⟩
theorem bfn99 : Fn Tryz.prog 99 18 dc99 [.t 6] := ⟨Tryz.f99, _, Tryz.func99, rfl, by kernel_rfl, rfl, by kernel_rfl, by kernel_rfl⟩
theorem bfn100 : Fn Tryz.prog 100 14 dc100 [.t 4] := ⟨Tryz.f100, _, Tryz.func100, rfl, by kernel_rfl, rfl, by kernel_rfl, by kernel_rfl⟩
theorem bfn101 : Fn Tryz.prog 101 19 dc101 [.t 4] := ⟨Tryz.f101, _, Tryz.func101, rfl, by kernel_rfl, rfl, by kernel_rfl, by kernel_rfl⟩
theorem bfn102 : Fn Tryz.prog 102 16 dc102 [.t 2] := ⟨Tryz.f102, _, Tryz.func102, rfl, by kernel_rfl, rfl, by kernel_rfl, by kernel_rfl⟩
theorem bfn103 : Fn Tryz.prog 103 30 dc103 [.t 4] := ⟨Tryz.f103, _, Tryz.func103, rfl, by kernel_rfl, rfl, by kernel_rfl, by kernel_rfl⟩
theorem bfn104 : Fn Tryz.prog 104 59 dc104 [.t 4] := ⟨Tryz.f104, _, Tryz.func104, rfl, by kernel_rfl, rfl, by kernel_rfl, by kernel_rfl⟩
theorem bfn105 : Fn Tryz.prog 105 15 dc105 [] := ⟨Tryz.f105, _, Tryz.func105, rfl, by kernel_rfl, rfl, by kernel_rfl, by kernel_rfl⟩
theorem bfn106 : Fn Tryz.prog 106 14 dc106 [.t 2] := ⟨Tryz.f106, _, Tryz.func106, rfl, by kernel_rfl, rfl, by kernel_rfl, by kernel_rfl⟩
theorem bfn107 : Fn Tryz.prog 107 9 dc107 [.t 2] := ⟨Tryz.f107, _, Tryz.func107, rfl, by kernel_rfl, rfl, by kernel_rfl, by kernel_rfl⟩
theorem bfn108 : Fn Tryz.prog 108 59 dc108 [.t 4, .cell (some 3) 5] := ⟨Tryz.f108, _, Tryz.func108, rfl, by kernel_rfl, rfl, by kernel_rfl, by kernel_rfl⟩
theorem bfn109 : Fn Tryz.prog 109 44 dc109 [.t 2, .cell (some 3) 3] := ⟨Tryz.f109, _, Tryz.func109, rfl, by kernel_rfl, rfl, by kernel_rfl, by kernel_rfl⟩
theorem bfn110 : Fn Tryz.prog 110 14 dc110 [.t 2] := ⟨Tryz.f110, _, Tryz.func110, rfl, by kernel_rfl, rfl, by kernel_rfl, by kernel_rfl⟩
theorem bfn118 : Fn Tryz.prog 118 30 dc118 [.t 4] := ⟨Tryz.f118, _, Tryz.func118, rfl, by kernel_rfl, rfl, by kernel_rfl, by kernel_rfl⟩
theorem bfn119 : Fn Tryz.prog 119 49 dc119 [.t 4] := ⟨Tryz.f119, _, Tryz.func119, rfl, by kernel_rfl, rfl, by kernel_rfl, by kernel_rfl⟩
theorem bfn120 : Fn Tryz.prog 120 9 dc120 [.t 2] := ⟨Tryz.f120, _, Tryz.func120, rfl, by kernel_rfl, rfl, by kernel_rfl, by kernel_rfl⟩
theorem bfn121 : Fn Tryz.prog 121 17 dc121 [.t 4] := ⟨Tryz.f121, _, Tryz.func121, rfl, by kernel_rfl, rfl, by kernel_rfl, by kernel_rfl⟩
theorem bfn122 : Fn Tryz.prog 122 23 dc122 [.t 6] := ⟨Tryz.f122, _, Tryz.func122, rfl, by kernel_rfl, rfl, by kernel_rfl, by kernel_rfl⟩
theorem bfn123 : Fn Tryz.prog 123 22 dc123 [.t 4, .t 5] := ⟨Tryz.f123, _, Tryz.func123, rfl, by kernel_rfl, rfl, by kernel_rfl, by kernel_rfl⟩
theorem bfn124 : Fn Tryz.prog 124 60 dc124 [.t 4, .cell (some 3) 5] := ⟨Tryz.f124, _, Tryz.func124, rfl, by kernel_rfl, rfl, by kernel_rfl, by kernel_rfl⟩
theorem bfn125 : Fn Tryz.prog 125 38 dc125 [.t 2, .cell (some 3) 3] := ⟨Tryz.f125, _, Tryz.func125, rfl, by kernel_rfl, rfl, by kernel_rfl, by kernel_rfl⟩
theorem bfn126 : Fn Tryz.prog 126 31 dc126 [.t 4] := ⟨Tryz.f126, _, Tryz.func126, rfl, by kernel_rfl, rfl, by kernel_rfl, by kernel_rfl⟩
theorem bfn127 : Fn Tryz.prog 127 11 dc127 [.cell (some 3) 4] := ⟨Tryz.f127, _, Tryz.func127, rfl, by kernel_rfl, rfl, by kernel_rfl, by kernel_rfl⟩
theorem bfn134 : Fn Tryz.prog 134 9 dc134 [.t 4] := ⟨Tryz.f134, _, Tryz.func134, rfl, by kernel_rfl, rfl, by kernel_rfl, by kernel_rfl⟩
theorem bfn135 : Fn Tryz.prog 135 8 dc135 [.cell (some 3) 4] := ⟨Tryz.f135, _, Tryz.func135, rfl, by kernel_rfl, rfl, by kernel_rfl, by kernel_rfl⟩
theorem deskB : DeskB Tryz.prog where
 f4 := bfn4
 f21 := bfn21
 f22 := bfn22
 f23 := bfn23
 f24 := bfn24
 f45 := bfn45
 f46 := bfn46
 f47 := bfn47
 f48 := bfn48
 f49 := bfn49
 f50 := bfn50
 f51 := bfn51
 f52 := bfn52
 f53 := bfn53
 f54 := bfn54
 f55 := bfn55
 f56 := bfn56
 f57 := bfn57
 f58 := bfn58
 f59 := bfn59
 f60 := bfn60
 f61 := bfn61
 f62 := bfn62
 f79 := bfn79
 f80 := bfn80
 f81 := bfn81
 f82 := bfn82
 f83 := bfn83
 f84 := bfn84
 f85 := bfn85
 f86 := bfn86
 f87 := bfn87
 f88 := bfn88
 f89 := bfn89
 f98 := bfn98
 f99 := bfn99
 f100 := bfn100
 f101 := bfn101
 f102 := bfn102
 f103 := bfn103
 f104 := bfn104
 f105 := bfn105
 f106 := bfn106
 f107 := bfn107
 f108 := bfn108
 f109 := bfn109
 f110 := bfn110
 f118 := bfn118
 f119 := bfn119
 f120 := bfn120
 f121 := bfn121
 f122 := bfn122
 f123 := bfn123
 f124 := bfn124
 f125 := bfn125
 f126 := bfn126
 f127 := bfn127
 f134 := bfn134
 f135 := bfn135
end Go.Vd

namespace Go.Proofs
open Go.Shelf
def Tryz.lays156_ren : Go.Shelf.Ren := ⟨fun | 156 => 64 | 165 => 91 | 166 => 92 | 169 => 93 | 240 => 112 | 241 => 113 | 276 => 128 | 277 => 129 | n => n, fun | 31 => 23 | 9 => 9 | 3 => 3 | 4 => 4 | 0 => 0 | 20 => 20 | 72 => 150 | 76 => 154 | 70 => 148 | 37 => 77 | 75 => 153 | 127 => 170 | 164 => 184 | 5 => 5 | 80 => 117 | n => n, fun | n => n⟩
theorem Tryz.lays156 : Go.Proofs.Lays.n156 Tryz.prog Tryz.lays156_ren := {
 mixed := by kernel_rfl
 f156 := Tryz.func64.trans (congrArg some (by kernel_rfl))
 f165 := Tryz.func91.trans (congrArg some (by kernel_rfl))
 f166 := Tryz.func92.trans (congrArg some (by kernel_rfl))
 f169 := Tryz.func93.trans (congrArg some (by kernel_rfl))
 f240 := Tryz.func112.trans (congrArg some (by kernel_rfl))
 f241 := Tryz.func113.trans (congrArg some (by kernel_rfl))
 f276 := Tryz.func128.trans (congrArg some (by kernel_rfl))
 f277 := Tryz.func129.trans (congrArg some (by kernel_rfl))
 t0 := Tryz.underlying0
 a0 := Tryz.isAgg0
 z0 := Tryz.sizeOf0
 v0 := Tryz.zeroValue0
 t3 := Tryz.underlying3
 a3 := Tryz.isAgg3
 z3 := Tryz.sizeOf3
 v3 := Tryz.zeroValue3
 t4 := Tryz.underlying4
 a4 := Tryz.isAgg4
 z4 := Tryz.sizeOf4
 v4 := Tryz.zeroValue4
 t9 := Tryz.underlying9
 a9 := Tryz.isAgg9
 z9 := Tryz.sizeOf9
 v9 := Tryz.zeroValue9
 t20 := Tryz.underlying20
 a20 := Tryz.isAgg20
 z20 := Tryz.sizeOf20
 v20 := Tryz.zeroValue20
 t31 := Tryz.underlying23
 a31 := Tryz.isAgg23
 z31 := Tryz.sizeOf23
 v31 := Tryz.zeroValue23
 t37 := Tryz.underlying77
 a37 := Tryz.isAgg77
 z37 := Tryz.sizeOf77
 v37 := Tryz.zeroValue77
 t70 := Tryz.underlying148
 a70 := Tryz.isAgg148
 z70 := Tryz.sizeOf148
 v70 := Tryz.zeroValue148
 t72 := Tryz.underlying150
 a72 := Tryz.isAgg150
 z72 := Tryz.sizeOf150
 v72 := Tryz.zeroValue150
 t75 := Tryz.underlying153
 a75 := Tryz.isAgg153
 z75 := Tryz.sizeOf153
 v75 := Tryz.zeroValue153
 t76 := Tryz.underlying154
 a76 := Tryz.isAgg154
 z76 := Tryz.sizeOf154
 v76 := Tryz.zeroValue154
 t127 := Tryz.underlying170
 a127 := Tryz.isAgg170
 z127 := Tryz.sizeOf170
 v127 := Tryz.zeroValue170
 t164 := Tryz.underlying184
 a164 := Tryz.isAgg184
 z164 := Tryz.sizeOf184
 v164 := Tryz.zeroValue184 }
theorem Tryz.Builder_Extra_156 : Builder.Extra Tryz.prog Tryz.lays156_ren := {
 sizeBuilder := by kernel_rfl
 liesBuilder := by kernel_rfl
 t5 := Tryz.underlying5
 a5 := Tryz.isAgg5
 z5 := Tryz.sizeOf5
 v5 := Tryz.zeroValue5
 infoByte := by kernel_rfl
 cellsByte := by kernel_rfl
 sizeByte := by kernel_rfl
 neB5 := by decide }
end Go.Proofs

namespace Go.Proofs
open Go.Shelf
def Tryz.lays146_ren : Go.Shelf.Ren := ⟨fun | 146 => 67 | 221 => 94 | 268 => 114 | 138 => 115 | 143 => 116 | 195 => 130 | 197 => 131 | 218 => 132 | 219 => 133 | 260 => 136 | 217 => 137 | 225 => 138 | 224 => 139 | 267 => 140 | 266 => 141 | 314 => 142 | n => n, fun | 9 => 9 | 31 => 23 | 3 => 3 | 4 => 4 | 0 => 0 | 105 => 187 | 21 => 21 | 5 => 5 | 46 => 156 | 119 => 192 | 139 => 195 | 138 => 194 | 146 => 197 | 51 => 196 | n => n, fun | 1 => 0 | 3 => 1 | 4 => 2 | n => n⟩
theorem Tryz.lays146 : Go.Proofs.Lays.n146 Tryz.prog Tryz.lays146_ren := {
 mixed := by kernel_rfl
 f138 := Tryz.func115.trans (congrArg some (by kernel_rfl))
 f143 := Tryz.func116.trans (congrArg some (by kernel_rfl))
 f146 := Tryz.func67.trans (congrArg some (by kernel_rfl))
 f195 := Tryz.func130.trans (congrArg some (by kernel_rfl))
 f197 := Tryz.func131.trans (congrArg some (by kernel_rfl))
 f217 := Tryz.func137.trans (congrArg some (by kernel_rfl))
 f218 := Tryz.func132.trans (congrArg some (by kernel_rfl))
 f219 := Tryz.func133.trans (congrArg some (by kernel_rfl))
 f221 := Tryz.func94.trans (congrArg some (by kernel_rfl))
 f224 := Tryz.func139.trans (congrArg some (by kernel_rfl))
 f225 := Tryz.func138.trans (congrArg some (by kernel_rfl))
 f260 := Tryz.func136.trans (congrArg some (by kernel_rfl))
 f266 := Tryz.func141.trans (congrArg some (by kernel_rfl))
 f267 := Tryz.func140.trans (congrArg some (by kernel_rfl))
 f268 := Tryz.func114.trans (congrArg some (by kernel_rfl))
 f314 := Tryz.func142.trans (congrArg some (by kernel_rfl))
 t0 := Tryz.underlying0
 a0 := Tryz.isAgg0
 z0 := Tryz.sizeOf0
 v0 := Tryz.zeroValue0
 t3 := Tryz.underlying3
 a3 := Tryz.isAgg3
 z3 := Tryz.sizeOf3
 v3 := Tryz.zeroValue3
 t4 := Tryz.underlying4
 a4 := Tryz.isAgg4
 z4 := Tryz.sizeOf4
 v4 := Tryz.zeroValue4
 t5 := Tryz.underlying5
 a5 := Tryz.isAgg5
 z5 := Tryz.sizeOf5
 v5 := Tryz.zeroValue5
 t9 := Tryz.underlying9
 a9 := Tryz.isAgg9
 z9 := Tryz.sizeOf9
 v9 := Tryz.zeroValue9
 t21 := Tryz.underlying21
 a21 := Tryz.isAgg21
 z21 := Tryz.sizeOf21
 v21 := Tryz.zeroValue21
 t31 := Tryz.underlying23
 a31 := Tryz.isAgg23
 z31 := Tryz.sizeOf23
 v31 := Tryz.zeroValue23
 t46 := Tryz.underlying156
 a46 := Tryz.isAgg156
 z46 := Tryz.sizeOf156
 v46 := Tryz.zeroValue156
 t51 := Tryz.underlying196
 a51 := Tryz.isAgg196
 z51 := Tryz.sizeOf196
 v51 := Tryz.zeroValue196
 t105 := Tryz.underlying187
 a105 := Tryz.isAgg187
 z105 := Tryz.sizeOf187
 v105 := Tryz.zeroValue187
 t119 := Tryz.underlying192
 a119 := Tryz.isAgg192
 z119 := Tryz.sizeOf192
 t138 := Tryz.underlying194
 a138 := Tryz.isAgg194
 z138 := Tryz.sizeOf194
 v138 := Tryz.zeroValue194
 t139 := Tryz.underlying195
 a139 := Tryz.isAgg195
 z139 := Tryz.sizeOf195
 v139 := Tryz.zeroValue195
 t146 := Tryz.underlying197
 a146 := Tryz.isAgg197
 z146 := Tryz.sizeOf197
 v146 := Tryz.zeroValue197
 g1 := by kernel_rfl
 g3 := by kernel_rfl
 g4 := by kernel_rfl }
end Go.Proofs

namespace Go.Vd
open Go.Proofs Go.RowKit
set_option maxRecDepth 100000
theorem hi146 : (Tryz.prog.info? (Tryz.lays146_ren.t 9)).map (fun i => (i.zero, i.size, i.bytes)) = some (some (.string ByteArray.empty), 1, 16) := by kernel_rfl
theorem okSplit : (funS Fsplit).ok Tryz.prog 67 := split_ok Tryz.lays146 hi146 ⟨_, Tryz.func67, by kernel_rfl, by kernel_rfl⟩
theorem okJoin : (funS Fjoin).ok Tryz.prog 64 := join_ok Tryz.lays156 Tryz.Builder_Extra_156 ⟨_, Tryz.func64, by kernel_rfl, by kernel_rfl⟩
theorem okCheck : (funS F15).ok Tryz.prog 15 := ok15 desk ok39
theorem okLines : (funS Flines).ok Tryz.prog 10 := ok10 desk ok27 okCheck (ok29 desk okJoin)
theorem okParse : (funS F13).ok Tryz.prog 13 := ok13 desk ok25 okSplit okCheck
theorem okBytes : (funS Fbytes).ok Tryz.prog 21 := ok21 deskB okCheck ok121
theorem okUnb : (funS F23).ok Tryz.prog 23 := ok23 deskB okCheck
theorem afn9 : Fn Tryz.prog 9 138 dc9 [.t 0] := ⟨Tryz.f9, _, Tryz.func9, rfl, by kernel_rfl, rfl, by kernel_rfl, by kernel_rfl⟩
theorem okAwake : (funS trueF).ok Tryz.prog 9 := ok9 afn9 okLines okParse okCheck (ok20 desk) okBytes okUnb ok25 ok27
end Go.Vd

namespace Go.Vd
open Go.Proofs Go.RowKit Go.ChangeShapes Go.WideShapes Go.Deep Go.Joins
set_option maxRecDepth 100000
theorem okBytesR : (funS Fbytes).ok Tryz.prog 22 := ok22 deskB (F16_eq ▸ ok16 desk ok41)
theorem okLaw4 : (funS F4).ok Tryz.prog 4 :=
 ok4 desk deskB okAwake okBytes okBytesR okUnb (ok24 deskB okBytesR)
theorem bytes_law {w : World} {v0 v1 : Value} (h0 : ∃ (nc nb : Bool) (t : Td), Rep w (startG (allG w)) (tdD nc nb t) v0) (h1 : ∃ s : Bs, Rep w (startG (allG w)) (.str s) v1) :
  Calls Tryz.prog 4 #[v0, v1] w fun e w' => e = .returned (.bool true) ∧ Below w.heap.size w w' := by
 obtain ⟨nc, nb, t, r0⟩ := h0
 obtain ⟨s, r1⟩ := h1
 refine row_true okLaw4 (G := allG w) (fun b hb => allG_out w b hb) (ds := [tdD nc nb t, .str s]) (vs := [v0, v1]) rfl (fun j d v hd hv => ?_) rfl rfl ?_
 ·match j with
  | 0 => simp only [List.getElem?_cons_zero, Option.some.injEq] at hd hv; subst hd hv; exact r0
  | 1 => simp only [List.getElem?_cons_succ, List.getElem?_cons_zero, Option.some.injEq] at hd hv; subst hd hv; exact r1
  | j + 2 => simp at hd
 ·simp only [F4, tdD, tdCells, tdOf_mk]
end Go.Vd
