/-
  A part of the proof: the layers over the model. Nothing in it is assumed.
-/
import Derived.Test.YtcjfmpodkafceaaGreatDoorBackP4
import Derived.Deep.Slices
import Derived.Deep.Fields
import Derived.ChangeSame
import Derived.ChangeArms
import Derived.Lib.SmallJoins
import Derived.Test.YtcjfmpodkafceaaGreatDoorProg

set_option linter.unusedSimpArgs false
set_option linter.unusedVariables false

namespace Go.Vd
open Go.RowKit
set_option maxRecDepth 10000
mutual
def Tr.dat : Tr → D
 | .nil => .nilIface
 | .tr b => .iface 4 (.bool b)
 | .num n => .iface 86 (.int .u64 n)
 | .text s => .iface 9 (.str s)
 | .list l => .iface 99 (.slice false [] (Tr.datL l))
 | .pairs l => .iface 85 (.slice false [] (Tr.datP l))
def Tr.datL : List Tr → List D
 | [] => []
 | v :: r => Tr.dat v :: Tr.datL r
def Tr.datP : List (Bs × Tr) → List D
 | [] => []
 | (k, v) :: r => .agg [.str k, Tr.dat v] :: Tr.datP r
end
theorem datL_app : ∀ a b : List Tr, Tr.datL (a ++ b) = Tr.datL a ++ Tr.datL b
 | [], b => by simp [Tr.datL]
 | v :: r, b => by simp [Tr.datL, datL_app r b]
theorem datP_app : ∀ a b : List (Bs × Tr), Tr.datP (a ++ b) = Tr.datP a ++ Tr.datP b
 | [], b => by simp [Tr.datP]
 | (k, v) :: r, b => by simp [Tr.datP, datP_app r b]
theorem datL_len : ∀ a : List Tr, (Tr.datL a).length = a.length
 | [] => rfl
 | v :: r => by simp [Tr.datL, datL_len r]
theorem datP_len : ∀ a : List (Bs × Tr), (Tr.datP a).length = a.length
 | [] => rfl
 | (k, v) :: r => by simp [Tr.datP, datP_len r]
theorem datP_get : ∀ {a : List (Bs × Tr)} {k : Nat} (h : k < a.length), (Tr.datP a)[k]? = some (.agg [.str a[k].1, a[k].2.dat])
 | (x, v) :: r, 0, _ => rfl
 | (x, v) :: r, k + 1, h => by simpa [Tr.datP] using datP_get (a := r) (k := k) (by simpa using h)
theorem dat_cells : ∀ v : Tr, v.dat.un = v.dat ∧ v.dat.calm = true ∧ v.dat.cells = [v.dat] ∧ v.dat.data = true ∧ v.dat.calm1 = true ∧ v.dat.un1 = v.dat ∧ v.dat.leaf = true
 | .nil => ⟨rfl, rfl, rfl, rfl, rfl, rfl, rfl⟩
 | .tr _ => ⟨rfl, rfl, rfl, rfl, rfl, rfl, rfl⟩
 | .num _ => ⟨rfl, rfl, rfl, rfl, rfl, rfl, rfl⟩
 | .text _ => ⟨rfl, rfl, rfl, rfl, rfl, rfl, rfl⟩
 | .list _ => ⟨rfl, rfl, rfl, rfl, rfl, rfl, rfl⟩
 | .pairs _ => ⟨rfl, rfl, rfl, rfl, rfl, rfl, rfl⟩
def Stays (f : Sc → Tr × Sc) : Prop := ∀ c : Sc, c.at_ ≤ c.s.length → (f c).2.s = c.s ∧ (f c).2.at_ ≤ c.s.length
theorem countS_inv {n : Nat} {c : Sc} (h : c.at_ ≤ c.s.length) : (countS n c).2.s = c.s ∧ (countS n c).2.at_ ≤ c.s.length ∧ (countS n c).1 < 256 := by
 have h0 : (if n = 0 then failS 24 c else c).s = c.s ∧ (if n = 0 then failS 24 c else c).at_ = c.at_ := by
  split
  ·exact failS_inv
  ·exact ⟨rfl, rfl⟩
 have h1 : (if n = 0 then failS 24 c else c).at_ ≤ (if n = 0 then failS 24 c else c).s.length := by rw [h0.1, h0.2]; exact h
 obtain ⟨i1, i2, i3, _⟩ := numS_inv (k := 1) h1
 rw [h0.1] at i1 i2
 simp only [countS]
 generalize numS 1 (if n = 0 then failS 24 c else c) = p at i1 i2 i3 ⊢
 generalize (if n = 0 then (24 : Int) else if 64 < p.1 then 5 else 0) = e
 refine ⟨?_, ?_, by simpa using i3⟩
 ·split
  ·rw [failS_inv.1]; exact i1
  ·exact i1
 ·split
  ·rw [failS_inv.2]; exact i2
  ·exact i2
theorem countS_zero {c : Sc} : (countS 0 c).1 = 0 := by
 have hbad : (failS 24 c).bad ≠ 0 := by unfold failS; split <;> simp_all
 simp only [countS, if_true]
 unfold numS; rw [if_pos hbad]
theorem Stays.itemsL {f : Sc → Tr × Sc} (hf : Stays f) : ∀ (k : Nat) (acc : List Tr), Stays (itemsL f k acc)
 | 0, acc => fun c h => ⟨rfl, h⟩
 | k + 1, acc => fun c h => by
  unfold Go.Vd.itemsL
  split
  ·exact ⟨rfl, h⟩
  ·obtain ⟨e1, e2⟩ := hf c h
   obtain ⟨e3, e4⟩ := Stays.itemsL hf k (acc ++ [(f c).1]) (f c).2 (by rw [e1]; exact e2)
   exact ⟨e3.trans e1, by rw [e1] at e4; exact e4⟩
theorem Stays.namedL {f : Sc → Tr × Sc} (hf : Stays f) : ∀ (k : Nat) (acc : List (Bs × Tr)), Stays (namedL f k acc)
 | 0, acc => fun c h => ⟨rfl, h⟩
 | k + 1, acc => fun c h => by
  obtain ⟨r1, r2, _, _⟩ := rowS_inv h
  have h2 : (if lastB acc (rowS c).1 = true then failS 4 (rowS c).2 else (rowS c).2).s = c.s ∧ (if lastB acc (rowS c).1 = true then failS 4 (rowS c).2 else (rowS c).2).at_ ≤ c.s.length := by
   split
   ·rw [failS_inv.1, failS_inv.2]; exact ⟨r1, r2⟩
   ·exact ⟨r1, r2⟩
  unfold Go.Vd.namedL
  split
  ·exact ⟨rfl, h⟩
  ·simp only
   generalize (if lastB acc (rowS c).1 = true then failS 4 (rowS c).2 else (rowS c).2) = c2 at h2 ⊢
   split
   ·exact h2
   ·obtain ⟨e1, e2⟩ := hf c2 (by rw [h2.1]; exact h2.2)
    rw [h2.1] at e1 e2
    obtain ⟨e3, e4⟩ := Stays.namedL hf k (acc ++ [((rowS c).1, (f c2).1)]) (f c2).2 (by rw [e1]; exact e2)
    exact ⟨e3.trans e1, by rw [e1] at e4; exact e4⟩
theorem Stays.valS {f : Sc → Tr × Sc} (hf : Stays f) (n : Nat) : Stays (valS n f) := by
 intro c h
 obtain ⟨i1, i2, i3, _⟩ := numS_inv (k := 1) h
 have h1 : (numS 1 c).2.at_ ≤ (numS 1 c).2.s.length := by rw [i1]; exact i2
 simp only [Go.Vd.valS]
 generalize (numS 1 c) = p at i1 i2 i3 h1 ⊢
 obtain ⟨n8a, n8b, _, _⟩ := numS_inv (k := 8) h1
 obtain ⟨ra, rb, _, _⟩ := rowS_inv h1
 obtain ⟨ca, cb, _⟩ := countS_inv (n := n) h1
 have hc : (countS n p.2).2.at_ ≤ (countS n p.2).2.s.length := by rw [ca]; exact cb
 rw [i1] at n8a n8b ra rb ca cb
 split
 ·exact ⟨i1, i2⟩
 ·split
  ·exact ⟨i1, i2⟩
  ·split
   ·exact ⟨i1, i2⟩
   ·split
    ·exact ⟨i1, i2⟩
    ·split
     ·exact ⟨n8a, n8b⟩
     ·split
      ·exact ⟨ra, rb⟩
      ·split
       ·have := hf.itemsL (countS n p.2).1 [] _ hc
        rw [ca] at this; exact this
       ·split
        ·have := hf.namedL (countS n p.2).1 [] _ hc
         rw [ca] at this; exact this
        ·rw [failS_inv.1, failS_inv.2]; exact ⟨i1, i2⟩
def prevV : Nat → Sc → Tr × Sc
 | 0 => fun c => (.nil, c)
 | n + 1 => takeV n
theorem takeV_eq (n : Nat) : takeV n = valS n (prevV n) := by cases n <;> rfl
theorem Stays.takeV : ∀ n, Stays (takeV n)
 | 0 => Stays.valS (fun c h => ⟨rfl, h⟩) 0
 | n + 1 => Stays.valS (Stays.takeV n) (n + 1)
def Gf (fr : Id) (m : Mem) (c e : Nat) (t : Id) : Prop := ∃ j, t = j :: fr ∧ j < c ∧ m t 0 = some (.tok (e + 1))
section
variable {fr r : Id} {m m' : Mem} {c c' e j o : Nat} {t : Id} {ds xs : List D}
theorem Gf.grow (h : Gf fr m c e t) : Grow m e (.slice false t xs) := by
 obtain ⟨j, rfl, _, h⟩ := h
 exact .inr ⟨h, by simp⟩
theorem Gf.put (h : Gf fr m c e t) (hj : c ≤ j) : Gf fr (m.put (j :: fr) o ds) c e t := by
 obtain ⟨k, rfl, hk, h⟩ := h
 exact ⟨k, rfl, hk, by rw [Mem.put_other (by simp; omega)]; exact h⟩
theorem Gf.more (h : Gf fr m c e t) (hc : c ≤ c') : Gf fr m c' e t := by
 obtain ⟨k, a, b, d⟩ := h
 exact ⟨k, a, by omega, d⟩
theorem Gf.sc (h : Gf fr m c e t) (hr : ¬ fr <:+ r) {x : Sc} : Gf fr (Upd.app m (scU r x)) c e t := by
 obtain ⟨k, rfl, hk, h⟩ := h
 refine ⟨k, rfl, hk, ?_⟩
 have : k :: fr ≠ r := fun e => hr (e ▸ List.suffix_cons k fr)
 simp only [scU, Upd.app, put3_rd, this, false_and, if_false]; exact h
theorem Gf.new {e : Nat} {nl : Bool} (hc : j < c) : Gf fr (Upd.app m (growU e (j :: fr) (.slice nl t xs))) c e (j :: fr) :=
 ⟨j, rfl, hc, by rw [growU_rd, if_pos ⟨rfl, rfl⟩]⟩
theorem Tk.putF {x : Sc} {m0 : Mem} (h : Tk fr r m0 m x) (hr : ¬ fr <:+ r) : Tk fr r m0 (m.put (j :: fr) o ds) x :=
 h.mem hr (fun i o' hi => Mem.put_other (fun e => hi (e ▸ List.suffix_cons j fr)))
theorem Tk.growF {x : Sc} {m0 : Mem} {nl : Bool} (h : Tk fr r m0 m x) (hr : ¬ fr <:+ r) (ht : Gf fr m c e t) : Tk fr r m0 (Upd.app m (growU e (j :: fr) (.slice nl t xs))) x := by
 refine h.mem hr (fun i o' hi => ?_)
 obtain ⟨k, rfl, _, _⟩ := ht
 have n1 : i ≠ j :: fr := fun q => hi (q ▸ List.suffix_cons j fr)
 have n2 : i ≠ k :: fr := fun q => hi (q ▸ List.suffix_cons k fr)
 rw [growU_rd, if_neg (fun q => n1 q.1), if_neg (fun q => n2 q.2.1)]
end
set_option maxHeartbeats 2000000 in
theorem loop103 {S : Summs} {fr r : Id} {m0 : Mem} (hr : ¬ fr <:+ r) {f : Sc → Tr × Sc} (hf : Stays f) {N : Nat} (hN : N ≤ 255) {d : Int} (hd : 0 ≤ d ∧ d ≤ 4) (s84 : 0 < N → ∃ G, S 84 = some (tkQ G) ∧ ∀ c, G c [.int .i64 (d + 1)] = some ((f c).1.dat, (f c).2)) {c0 : Sc} {Q : Ex → St → Prop}
  (hret : ∀ st c', itemsL f N [] c0 = (.nil, c') → st.s 4 = .nilIface → Tk fr r m0 st.m c' → Q .ret st)
  (hexit : ∀ st c' acc t, itemsL f N [] c0 = (.list acc, c') → st.s 6 = .slice false t (Tr.datL acc) → Tk fr r m0 st.m c' → Q (.exit 0) st) :
  ∀ (k i : Nat) (acc : List Tr) (c : Sc) (t : Id) st g, i + k = N → acc.length = i → itemsL f N [] c0 = itemsL f k acc c → st.s 12 = .int .i64 (i : Int) → st.s 11 = .int .i64 (N : Int) → st.s 0 = .ptr r 0 → st.s 1 = .int .i64 d → st.s 6 = .slice false t (Tr.datL acc) → Tk fr r m0 st.m c → Gf fr st.m st.c 20 t →
   loopW S fr dc103l0 Q st g := by
 intro k
 induction k with
 | zero =>
  intro i acc c t st g hik hacc he h12 h11 h0 h1 h6 T G
  refine wp_loopd dc103l0.eq_1 ?_
  have hlt : ((i : Int) < (N : Int)) = False := eq_false (by omega)
  simp only [↓go1, gB0, reduceIte, Nat.reduceEqDiff, Nat.reduceAdd, Nat.reduceSub, Nat.reduceLT, Nat.reduceLeDiff, rd_zero, rd_succ, gB1, reduceCtorEq, ldD_agg, List.append_nil, rowU_sc, drawnU_sc, data_if, cells_if, un_if, calm_if, calm1_if, data_ni, cells_ni, un_ni, calm_ni, calm1_ni, h12, h11, hlt]
  exact hexit _ c acc t he h6 T
 | succ k ih =>
  intro i acc c t st g hik hacc he h12 h11 h0 h1 h6 T G
  refine wp_loopd dc103l0.eq_1 ?_
  have hlt : ((i : Int) < (N : Int)) = True := eq_true (by omega)
  have hw : IntKind.i64.wrap ((i : Int) + 1) = ((i + 1 : Nat) : Int) := by rw [IntWalk.i64_in _ ⟨by omega, by omega⟩]; omega
  have hwd : IntKind.i64.wrap (d + 1) = d + 1 := IntWalk.i64_in _ ⟨by omega, by omega⟩
  obtain ⟨G84, s84, g84⟩ := s84 (by omega)
  by_cases hb0 : c.bad = 0
  ·have hb0' : (c.bad = 0) = True := eq_true hb0
   have he2 : itemsL f N [] c0 = itemsL f k (acc ++ [(f c).1]) (f c).2 := by
    rw [he]; simp only [itemsL]; rw [if_neg (by simp [hb0])]
   obtain ⟨e1, e2⟩ := hf c T.at_.le
   have T1 := T.upd (c' := (f c).2) (by rw [e1]; exact e2) (by rw [e1]; exact T.at_.len)
   have G1 := G.sc (r := r) (x := (f c).2) hr
   simp only [↓go1, gB0, reduceIte, Nat.reduceEqDiff, Nat.reduceAdd, Nat.reduceSub, Nat.reduceLT, Nat.reduceLeDiff, rd_zero, rd_succ, gB1, reduceCtorEq, ldD_agg, List.append_nil, rowU_sc, drawnU_sc, data_if, cells_if, un_if, calm_if, calm1_if, data_ni, cells_ni, un_ni, calm_ni, calm1_ni, h12, h11, h0, h1, h6, hlt, hw, hwd, T.at_.c2, hb0', callK_fn s84]
   refine got_tk T.at_ (g84 c) ?_
   obtain ⟨u1, u2, u3, u4, _, _, _⟩ := dat_cells (f c).1
   simp only [↓go1, gB0, reduceIte, Nat.reduceEqDiff, Nat.reduceAdd, Nat.reduceSub, Nat.reduceLT, Nat.reduceLeDiff, rd_zero, rd_succ, gB1, reduceCtorEq, ldD_agg, List.append_nil, rowU_sc, drawnU_sc, data_if, cells_if, un_if, calm_if, calm1_if, data_ni, cells_ni, un_ni, calm_ni, calm1_ni, h12, h11, h0, h1, h6, hlt, hw, hwd, T.at_.c2, hb0', u1, u2, u3, u4, callK_fn s84]
   have G2 : Gf fr ((Upd.app st.m (scU r (f c).2)).put ((st.c + 1 + 6 + 5) :: fr) 0 [.tok 21]) st.c 20 t := G1.put (by omega)
   refine Need.intro ⟨by rw [datL_len]; omega, by simp [D.headSz, u3], G2.grow⟩ ?_
   simp only [↓go1, gB0, reduceIte, Nat.reduceEqDiff, Nat.reduceAdd, Nat.reduceSub, Nat.reduceLT, Nat.reduceLeDiff, rd_zero, rd_succ, gB1, reduceCtorEq, ldD_agg, List.append_nil, rowU_sc, drawnU_sc, data_if, cells_if, un_if, calm_if, calm1_if, data_ni, cells_ni, un_ni, calm_ni, calm1_ni, h12, h11, h0, h1, h6, hlt, hw, hwd, T.at_.c2, hb0', u1, u2, u3, u4, callK_fn s84]
   refine ih (i + 1) (acc ++ [(f c).1]) (f c).2 ((st.c + 1 + 6 + 6) :: fr) _ _ (by omega) (by simp; omega) he2 rfl h11 h0 h1 ?_ ?_ (Gf.new (by simp only; omega))
   ·rw [datL_app]; rfl
   ·exact Tk.growF (Tk.putF T1 hr) hr G2
  ·have hb0' : (c.bad = 0) = False := eq_false hb0
   have he2 : itemsL f N [] c0 = (.nil, c) := by
    rw [he]; simp only [itemsL]; rw [if_pos hb0]
   simp only [↓go1, gB0, reduceIte, Nat.reduceEqDiff, Nat.reduceAdd, Nat.reduceSub, Nat.reduceLT, Nat.reduceLeDiff, rd_zero, rd_succ, gB1, reduceCtorEq, ldD_agg, List.append_nil, rowU_sc, drawnU_sc, data_if, cells_if, un_if, calm_if, calm1_if, data_ni, cells_ni, un_ni, calm_ni, calm1_ni, h12, h11, h0, h1, h6, hlt, hw, hwd, T.at_.c2, hb0']
   exact hret _ c he2 rfl T
def F103 (n : Nat) (c : Sc) : List D → Option (D × Sc)
 | [.int .i64 d] => if d = 4 - (n : Int) ∧ n ≤ 4 then some ((itemsS n (prevV n) c).1.dat, (itemsS n (prevV n) c).2) else none
 | _ => none
def Fval (n : Nat) (c : Sc) : List D → Option (D × Sc)
 | [.int .i64 d] => if d = 4 - (n : Int) ∧ n ≤ 4 then some ((takeV n c).1.dat, (takeV n c).2) else none
 | _ => none
set_option maxHeartbeats 1000000 in
theorem ok103 {P : Program} (hb : DeskB P) (n : Nat) (h84 : n = 0 ∨ ∃ k, n = k + 1 ∧ (tkQ (Fval k)).ok P 84) : (tkQ (F103 n)).ok P 103 := by
 have hS : ∃ S : Summs, Summs.ok P S ∧ S 126 = some (tkQ (F126 n)) ∧ ∀ k, n = k + 1 → S 84 = some (tkQ (Fval k)) := by
  rcases h84 with rfl | ⟨k, rfl, h⟩
  ·exact ⟨tabL [(126, tkQ (F126 0))], tabL_cons (ok126 hb 0) tabL_nil, rfl, fun k e => by cases e⟩
  ·exact ⟨tabL [(126, tkQ (F126 (k + 1))), (84, tkQ (Fval k))], tabL_cons (ok126 hb (k + 1)) (tabL_cons h tabL_nil), rfl, fun k' e => by cases e; rfl⟩
 obtain ⟨S, hS, s126, s84⟩ := hS
 refine opn_ok2 (S := S) hS hb.f103 (tkQ_loc _) (fun ds m fr d u h hfr => ?_)
 obtain ⟨r, rest, c, c', rfl, T, hF, rfl⟩ := tkQ_inv h
 unfold F103 at hF
 split at hF
 ·rename_i d
  split at hF
  ·rename_i hk
   simp only [Option.some.injEq, Prod.mk.injEq] at hF
   obtain ⟨rfl, rfl⟩ := hF
   refine ⟨by simp, ?_⟩
   clear h
   have hr := T.nfr hfr
   have T0 := Tk.start (fr := fr) T
   have f126 : F126 n c [.int .i64 d] = some (.int .i64 ((countS n c).1 : Int), (countS n c).2) := if_pos hk
   obtain ⟨i1, i2, i3⟩ := countS_inv (n := n) T.le
   have T1 := T0.upd (c' := (countS n c).2) (by rw [i1]; exact i2) (by rw [i1]; exact T.len)
   have hz : n = 0 → (countS n c).1 = 0 := fun e => by rw [e]; exact countS_zero
   have hf : Stays (prevV n) := by
    cases n with
    | zero => exact fun c h => ⟨rfl, h⟩
    | succ n => exact Stays.takeV n
   unfold itemsS
   unfold dc103
   simp only [↓go1, gB0, reduceIte, Nat.reduceEqDiff, Nat.reduceAdd, Nat.reduceSub, Nat.reduceLT, Nat.reduceLeDiff, rd_zero, rd_succ, gB1, reduceCtorEq, ldD_agg, List.append_nil, rowU_sc, drawnU_sc, data_if, cells_if, un_if, calm_if, calm1_if, data_ni, cells_ni, un_ni, calm_ni, calm1_ni, callK_fn s126]
   refine got_tk T f126 ?_
   simp only [↓go1, gB0, reduceIte, Nat.reduceEqDiff, Nat.reduceAdd, Nat.reduceSub, Nat.reduceLT, Nat.reduceLeDiff, rd_zero, rd_succ, gB1, reduceCtorEq, ldD_agg, List.append_nil, rowU_sc, drawnU_sc, data_if, cells_if, un_if, calm_if, calm1_if, data_ni, cells_ni, un_ni, calm_ni, calm1_ni, callK_fn s126]
   generalize (countS n c) = q at i1 i2 i3 T1 hz ⊢
   refine loop103 (m0 := m) (c0 := q.2) (N := q.1) hr hf (by omega) (d := d) (by omega) (fun hp => ?_) (fun st c' e h4 T' => ?_) (fun st c' acc t e h6 T' => ?_) q.1 0 [] q.2 (5 :: fr) _ _ (by omega) rfl rfl rfl rfl rfl rfl rfl ?_ ?_
   ·cases n with
    | zero => have := hz rfl; omega
    | succ k => exact ⟨Fval k, s84 k rfl, fun c => if_pos ⟨by omega, by omega⟩⟩
   ·rw [e]
    simp only [↓go1, gB0, reduceIte, Nat.reduceEqDiff, Nat.reduceAdd, Nat.reduceSub, Nat.reduceLT, Nat.reduceLeDiff, rd_zero, rd_succ, gB1, reduceCtorEq, ldD_agg, List.append_nil, rowU_sc, drawnU_sc, data_if, cells_if, un_if, calm_if, calm1_if, data_ni, cells_ni, un_ni, calm_ni, calm1_ni, h4, Tr.dat]
    exact T'.fin hfr
   ·rw [e]
    simp only [↓go1, gB0, reduceIte, Nat.reduceEqDiff, Nat.reduceAdd, Nat.reduceSub, Nat.reduceLT, Nat.reduceLeDiff, rd_zero, rd_succ, gB1, reduceCtorEq, ldD_agg, List.append_nil, rowU_sc, drawnU_sc, data_if, cells_if, un_if, calm_if, calm1_if, data_ni, cells_ni, un_ni, calm_ni, calm1_ni, h6, Tr.dat]
    exact T'.fin hfr
   ·exact Tk.putF T1 hr
   ·exact ⟨5, rfl, by simp only; omega, by simp [put_tok]⟩
  ·cases hF
 ·cases hF
end Go.Vd

namespace Go.Vd
open Go.RowKit
set_option maxRecDepth 10000
theorem sc_rd {m : Mem} {r i : Id} {c : Sc} {o : Nat} (h : i ≠ r) : Upd.app m (scU r c) i o = m i o := by
 simp only [scU, Upd.app, put3_rd, h, false_and, if_false]
theorem lastB_get {acc : List (Bs × Tr)} {s : Bs} {i : Nat} (h : acc.length = i + 1) : lastB acc s = !(Op.bytesLess (acc[i]'(by omega)).1 s) := by
 unfold lastB
 have e : acc.length - 1 = i := by omega
 rw [List.getLast?_eq_getElem?, e, List.getElem?_eq_getElem (by omega)]
set_option maxHeartbeats 4000000 in
theorem loop104 {S : Summs} {fr r : Id} {m0 : Mem} (hr : ¬ fr <:+ r) {f : Sc → Tr × Sc} (hf : Stays f) {N : Nat} (hN : N ≤ 255) {d : Int} (hd : 0 ≤ d ∧ d ≤ 4) (s102 : S 102 = some (tkQ F102)) (s105 : S 105 = some (tkQ F105)) (s84 : 0 < N → ∃ G, S 84 = some (tkQ G) ∧ ∀ c, G c [.int .i64 (d + 1)] = some ((f c).1.dat, (f c).2)) {c0 : Sc} {Q : Ex → St → Prop}
  (hret : ∀ st c', namedL f N [] c0 = (.nil, c') → st.s 4 = .nilIface → Tk fr r m0 st.m c' → Q .ret st)
  (hexit : ∀ st c' acc t, namedL f N [] c0 = (.pairs acc, c') → st.s 6 = .slice false t (Tr.datP acc) → Tk fr r m0 st.m c' → Q (.exit 0) st) :
  ∀ (k i : Nat) (acc : List (Bs × Tr)) (c : Sc) (t : Id) st g, i + k = N → acc.length = i → namedL f N [] c0 = namedL f k acc c → st.s 14 = .int .i64 (i : Int) → st.s 13 = .int .i64 (N : Int) → st.s 0 = .ptr r 0 → st.s 1 = .int .i64 d → st.s 6 = .slice false t (Tr.datP acc) → Tk fr r m0 st.m c → Gf fr st.m st.c 82 t →
   loopW S fr dc104l0 Q st g := by
 intro k
 induction k with
 | zero =>
  intro i acc c t st g hik hacc he h14 h13 h0 h1 h6 T G
  refine wp_loopd dc104l0.eq_1 ?_
  have hlt : ((i : Int) < (N : Int)) = False := eq_false (by omega)
  simp only [↓go1, gB0, reduceIte, Nat.reduceEqDiff, Nat.reduceAdd, Nat.reduceSub, Nat.reduceLT, Nat.reduceLeDiff, rd_zero, rd_succ, gB1, reduceCtorEq, ldD_agg, List.append_nil, rowU_sc, drawnU_sc, data_if, cells_if, un_if, calm_if, calm1_if, data_ni, cells_ni, un_ni, calm_ni, calm1_ni, h14, h13, hlt]
  exact hexit _ c acc t he h6 T
 | succ k ih =>
  intro i acc c t st g hik hacc he h14 h13 h0 h1 h6 T G
  refine wp_loopd dc104l0.eq_1 ?_
  have hlt : ((i : Int) < (N : Int)) = True := eq_true (by omega)
  have hw : IntKind.i64.wrap ((i : Int) + 1) = ((i + 1 : Nat) : Int) := by rw [IntWalk.i64_in _ ⟨by omega, by omega⟩]; omega
  have hwd : IntKind.i64.wrap (d + 1) = d + 1 := IntWalk.i64_in _ ⟨by omega, by omega⟩
  obtain ⟨G84, s84, g84⟩ := s84 (by omega)
  by_cases hb0 : c.bad = 0
  ·have hb0' : (c.bad = 0) = True := eq_true hb0
   have f102 : F102 c [] = some (.str (rowS c).1, (rowS c).2) := rfl
   obtain ⟨r1, r2, r3, r4⟩ := rowS_inv T.at_.le
   have hfill : ∀ s, fillD [.str [], .nilIface] [(0, 1, .str s)] = some [.str s, .nilIface] := fun s => rfl
   have he2 : namedL f N [] c0 = (if (if lastB acc (rowS c).1 = true then failS 4 (rowS c).2 else (rowS c).2).bad ≠ 0 then (.nil, if lastB acc (rowS c).1 = true then failS 4 (rowS c).2 else (rowS c).2) else namedL f k (acc ++ [((rowS c).1, (f (if lastB acc (rowS c).1 = true then failS 4 (rowS c).2 else (rowS c).2)).1)]) (f (if lastB acc (rowS c).1 = true then failS 4 (rowS c).2 else (rowS c).2)).2) := by
    rw [he]; simp only [namedL]; rw [if_neg (by simp [hb0])]
   have T1 := T.upd (c' := (rowS c).2) (by rw [r1]; exact r2) (by rw [r1]; exact T.at_.len)
   simp only [↓go1, gB0, reduceIte, Nat.reduceEqDiff, Nat.reduceAdd, Nat.reduceSub, Nat.reduceLT, Nat.reduceLeDiff, rd_zero, rd_succ, gB1, reduceCtorEq, ldD_agg, List.append_nil, rowU_sc, drawnU_sc, data_if, cells_if, un_if, calm_if, calm1_if, data_ni, cells_ni, un_ni, calm_ni, calm1_ni, h14, h13, h0, h1, h6, hlt, hw, hwd, T.at_.c2, hb0', callK_fn s102, callK_fn s105, callK_fn s84]
   refine got_tk T.at_ f102 ?_
   have hl2 : (rowS c).2.at_ ≤ (rowS c).2.s.length := by rw [r1]; exact r2
   have hl3 : (rowS c).2.s.length ≤ 1000000 := by rw [r1]; exact T.at_.len
   generalize rowS c = q at r1 r2 r3 r4 he2 T1 hl2 hl3 ⊢
   obtain ⟨s, c1⟩ := q
   simp only at r1 r2 r3 r4 he2 T1 hl2 hl3 ⊢
   have hA : (st.c + 1 + 2 + 6 + 3) :: fr ≠ r := fun e => hr (e ▸ List.suffix_cons _ fr)
   have hAr : ∀ m x o, Upd.app m (scU r x) ((st.c + 1 + 2 + 6 + 3) :: fr) o = m ((st.c + 1 + 2 + 6 + 3) :: fr) o := fun m x o => sc_rd hA
   have hr2 : (r = (st.c + 1 + 2 + 6 + 3) :: fr) = False := eq_false (fun e => hA e.symm)
   have G1 := G.sc (r := r) (x := c1) hr
   have T2 : Tk fr r m0 (((Upd.app st.m (scU r c1)).put ((st.c + 1 + 2 + 6 + 3) :: fr) 0 [.str [], .nilIface]).put ((st.c + 1 + 2 + 6 + 3) :: fr) 0 [.str s, .nilIface]) c1 := Tk.putF (Tk.putF T1 hr) hr
   have G2 : Gf fr (((Upd.app st.m (scU r c1)).put ((st.c + 1 + 2 + 6 + 3) :: fr) 0 [.str [], .nilIface]).put ((st.c + 1 + 2 + 6 + 3) :: fr) 0 [.str s, .nilIface]) st.c 82 t := (G1.put (by omega)).put (by omega)
   by_cases hlast : lastB acc s = true
   ·obtain ⟨i', rfl⟩ : ∃ i', i = i' + 1 := by
     cases i with
     | zero => rw [List.eq_nil_of_length_eq_zero hacc] at hlast; simp [lastB] at hlast
     | succ i => exact ⟨i, rfl⟩
    have hcmp := lastB_get (s := s) hacc
    rw [hlast] at hcmp
    simp only [hlast, if_true] at he2
    have hgt : ((0 : Int) < ((i' + 1 : Nat) : Int)) = True := eq_true (by omega)
    have hwm : IntKind.i64.wrap (((i' + 1 : Nat) : Int) - 1) = (i' : Int) := by rw [IntWalk.i64_in _ ⟨by omega, by omega⟩]; omega
    have hi0 : ((0 : Int) ≤ (i' : Int)) := by omega
    have hx : (Tr.datP acc)[((i' : Int)).toNat]? = some (.agg [.str (acc[i']'(by omega)).1, (acc[i']'(by omega)).2.dat]) := by
     rw [Int.toNat_natCast]; exact datP_get (by omega)
    simp only [↓go1, gB0, reduceIte, Nat.reduceEqDiff, Nat.reduceAdd, Nat.reduceSub, Nat.reduceLT, Nat.reduceLeDiff, rd_zero, rd_succ, gB1, reduceCtorEq, ldD_agg, List.append_nil, rowU_sc, drawnU_sc, data_if, cells_if, un_if, calm_if, calm1_if, data_ni, cells_ni, un_ni, calm_ni, calm1_ni, h14, h13, h0, h1, h6, hlt, hw, hwd, hfill, hr2, put2_rd, T1.at_.c2, hgt, hwm, hi0, hx, v_sgeq, ← hcmp, List.map_cons, List.map_nil, callK_fn s102, callK_fn s105, callK_fn s84]
    refine Need.intro (fun p hp => by cases hp) ?_
    simp only [↓go1, gB0, reduceIte, Nat.reduceEqDiff, Nat.reduceAdd, Nat.reduceSub, Nat.reduceLT, Nat.reduceLeDiff, rd_zero, rd_succ, gB1, reduceCtorEq, ldD_agg, List.append_nil, rowU_sc, drawnU_sc, data_if, cells_if, un_if, calm_if, calm1_if, data_ni, cells_ni, un_ni, calm_ni, calm1_ni, h14, h13, h0, h1, h6, hlt, hw, hwd, hfill, hr2, put2_rd, put1_rd, T1.at_.c2, hAr, v_sgeq, List.map_cons, List.map_nil, callK_fn s102, callK_fn s105, callK_fn s84, hgt, hwm, hi0, hx, ← hcmp]
    have f105 : F105 c1 [.int .i64 4] = some (.tup [], failS 4 c1) := rfl
    have hfb : (failS 4 c1).bad ≠ 0 := by unfold failS; split <;> simp_all
    have hfb' : ((failS 4 c1).bad = 0) = False := eq_false hfb
    have T3 := T2.upd (c' := failS 4 c1) (by rw [failS_inv.1, failS_inv.2]; exact hl2) (by rw [failS_inv.1]; exact hl3)
    refine got_tk T2.at_ f105 ?_
    simp only [↓go1, gB0, reduceIte, Nat.reduceEqDiff, Nat.reduceAdd, Nat.reduceSub, Nat.reduceLT, Nat.reduceLeDiff, rd_zero, rd_succ, gB1, reduceCtorEq, ldD_agg, List.append_nil, rowU_sc, drawnU_sc, data_if, cells_if, un_if, calm_if, calm1_if, data_ni, cells_ni, un_ni, calm_ni, calm1_ni, h14, h13, h0, h1, h6, hlt, hw, hwd, hfill, hr2, put2_rd, put1_rd, T1.at_.c2, hAr, v_sgeq, List.map_cons, List.map_nil, callK_fn s102, callK_fn s105, callK_fn s84, T3.at_.c2, hgt, hwm, hi0, hx, ← hcmp, hfb']
    have he3 : namedL f N [] c0 = (.nil, failS 4 c1) := by rw [he2, if_pos hfb]
    exact hret _ _ he3 rfl T3
   ·have hnl : lastB acc s = false := by simpa using hlast
    simp only [hnl, Bool.false_eq_true, if_false] at he2
    by_cases hi : i = 0
    ·have hgt : ((0 : Int) < (i : Int)) = False := eq_false (by omega)
     simp only [↓go1, gB0, reduceIte, Nat.reduceEqDiff, Nat.reduceAdd, Nat.reduceSub, Nat.reduceLT, Nat.reduceLeDiff, rd_zero, rd_succ, gB1, reduceCtorEq, ldD_agg, List.append_nil, rowU_sc, drawnU_sc, data_if, cells_if, un_if, calm_if, calm1_if, data_ni, cells_ni, un_ni, calm_ni, calm1_ni, h14, h13, h0, h1, h6, hlt, hw, hwd, hfill, hr2, put2_rd, put1_rd, T1.at_.c2, hAr, v_sgeq, List.map_cons, List.map_nil, callK_fn s102, callK_fn s105, callK_fn s84, hgt]
     refine Need.intro (fun p hp => by cases hp) ?_
     simp only [↓go1, gB0, reduceIte, Nat.reduceEqDiff, Nat.reduceAdd, Nat.reduceSub, Nat.reduceLT, Nat.reduceLeDiff, rd_zero, rd_succ, gB1, reduceCtorEq, ldD_agg, List.append_nil, rowU_sc, drawnU_sc, data_if, cells_if, un_if, calm_if, calm1_if, data_ni, cells_ni, un_ni, calm_ni, calm1_ni, h14, h13, h0, h1, h6, hlt, hw, hwd, hfill, hr2, put2_rd, put1_rd, T1.at_.c2, hAr, v_sgeq, List.map_cons, List.map_nil, callK_fn s102, callK_fn s105, callK_fn s84, hgt]
     by_cases hb1 : c1.bad = 0
     ·have hb1' : (c1.bad = 0) = True := eq_true hb1
      have he3 : namedL f N [] c0 = namedL f k (acc ++ [(s, (f c1).1)]) (f c1).2 := by rw [he2, if_neg (by simp [hb1])]
      obtain ⟨e1, e2⟩ := hf c1 hl2
      have hl4 : (f c1).2.at_ ≤ (f c1).2.s.length := by rw [e1]; exact e2
      have hl5 : (f c1).2.s.length ≤ 1000000 := by rw [e1]; exact hl3
      have T3 := T2.upd hl4 hl5
      have G3 := G2.sc (r := r) (x := (f c1).2) hr
      simp only [↓go1, gB0, reduceIte, Nat.reduceEqDiff, Nat.reduceAdd, Nat.reduceSub, Nat.reduceLT, Nat.reduceLeDiff, rd_zero, rd_succ, gB1, reduceCtorEq, ldD_agg, List.append_nil, rowU_sc, drawnU_sc, data_if, cells_if, un_if, calm_if, calm1_if, data_ni, cells_ni, un_ni, calm_ni, calm1_ni, h14, h13, h0, h1, h6, hlt, hw, hwd, hfill, hr2, put2_rd, put1_rd, T1.at_.c2, hAr, v_sgeq, List.map_cons, List.map_nil, callK_fn s102, callK_fn s105, callK_fn s84, hgt, hb1']
      refine got_tk T2.at_ (g84 c1) ?_
      obtain ⟨u1, u2, u3, u4, u5, u6, _⟩ := dat_cells (f c1).1
      simp only [↓go1, gB0, reduceIte, Nat.reduceEqDiff, Nat.reduceAdd, Nat.reduceSub, Nat.reduceLT, Nat.reduceLeDiff, rd_zero, rd_succ, gB1, reduceCtorEq, ldD_agg, List.append_nil, rowU_sc, drawnU_sc, data_if, cells_if, un_if, calm_if, calm1_if, data_ni, cells_ni, un_ni, calm_ni, calm1_ni, h14, h13, h0, h1, h6, hlt, hw, hwd, hfill, hr2, put2_rd, put1_rd, T1.at_.c2, hAr, v_sgeq, List.map_cons, List.map_nil, callK_fn s102, callK_fn s105, callK_fn s84, hgt, hb1', u1, u2, u3, u4, u5, u6]
      have G4 : Gf fr (((Upd.app (((Upd.app st.m (scU r c1)).put ((st.c + 1 + 2 + 6 + 3) :: fr) 0 [.str [], .nilIface]).put ((st.c + 1 + 2 + 6 + 3) :: fr) 0 [.str s, .nilIface]) (scU r (f c1).2)).put ((st.c + 1 + 2 + 6 + 3) :: fr) 1 [(f c1).1.dat]).put ((st.c + 1 + 2 + 6 + 5 + 13 + 6 + 6 + 2) :: fr) 0 [.tok 83]) st.c 82 t := (G3.put (by omega)).put (by omega)
      refine Need.intro ⟨by rw [datP_len]; omega, rfl, G4.grow⟩ ?_
      simp only [↓go1, gB0, reduceIte, Nat.reduceEqDiff, Nat.reduceAdd, Nat.reduceSub, Nat.reduceLT, Nat.reduceLeDiff, rd_zero, rd_succ, gB1, reduceCtorEq, ldD_agg, List.append_nil, rowU_sc, drawnU_sc, data_if, cells_if, un_if, calm_if, calm1_if, data_ni, cells_ni, un_ni, calm_ni, calm1_ni, h14, h13, h0, h1, h6, hlt, hw, hwd, hfill, hr2, put2_rd, put1_rd, T1.at_.c2, hAr, v_sgeq, List.map_cons, List.map_nil, callK_fn s102, callK_fn s105, callK_fn s84, hgt, hb1', u1, u2, u3, u4, u5, u6]
      refine ih (i + 1) (acc ++ [(s, (f c1).1)]) (f c1).2 ((st.c + 1 + 2 + 6 + 5 + 13 + 6 + 6 + 3) :: fr) _ _ (by omega) (by simp; omega) he3 rfl h13 h0 h1 ?_ ?_ (Gf.new (by simp only; omega))
      ·rw [datP_app]; rfl
      ·exact Tk.growF (c := st.c) (Tk.putF (Tk.putF T3 hr) hr) hr (by rw [u3]; exact G4)
     ·have hb1' : (c1.bad = 0) = False := eq_false hb1
      have he3 : namedL f N [] c0 = (.nil, c1) := by rw [he2, if_pos hb1]
      simp only [↓go1, gB0, reduceIte, Nat.reduceEqDiff, Nat.reduceAdd, Nat.reduceSub, Nat.reduceLT, Nat.reduceLeDiff, rd_zero, rd_succ, gB1, reduceCtorEq, ldD_agg, List.append_nil, rowU_sc, drawnU_sc, data_if, cells_if, un_if, calm_if, calm1_if, data_ni, cells_ni, un_ni, calm_ni, calm1_ni, h14, h13, h0, h1, h6, hlt, hw, hwd, hfill, hr2, put2_rd, put1_rd, T1.at_.c2, hAr, v_sgeq, List.map_cons, List.map_nil, callK_fn s102, callK_fn s105, callK_fn s84, hgt, hb1']
      exact hret _ _ he3 rfl T2
    ·obtain ⟨i', rfl⟩ : ∃ i', i = i' + 1 := ⟨i - 1, by omega⟩
     have hcmp := lastB_get (s := s) hacc
     rw [hnl] at hcmp
     have hgt : ((0 : Int) < ((i' + 1 : Nat) : Int)) = True := eq_true (by omega)
     have hwm : IntKind.i64.wrap (((i' + 1 : Nat) : Int) - 1) = (i' : Int) := by rw [IntWalk.i64_in _ ⟨by omega, by omega⟩]; omega
     have hi0 : ((0 : Int) ≤ (i' : Int)) := by omega
     have hx : (Tr.datP acc)[((i' : Int)).toNat]? = some (.agg [.str (acc[i']'(by omega)).1, (acc[i']'(by omega)).2.dat]) := by
      rw [Int.toNat_natCast]; exact datP_get (by omega)
     simp only [↓go1, gB0, reduceIte, Nat.reduceEqDiff, Nat.reduceAdd, Nat.reduceSub, Nat.reduceLT, Nat.reduceLeDiff, rd_zero, rd_succ, gB1, reduceCtorEq, ldD_agg, List.append_nil, rowU_sc, drawnU_sc, data_if, cells_if, un_if, calm_if, calm1_if, data_ni, cells_ni, un_ni, calm_ni, calm1_ni, h14, h13, h0, h1, h6, hlt, hw, hwd, hfill, hr2, put2_rd, put1_rd, T1.at_.c2, hAr, v_sgeq, List.map_cons, List.map_nil, callK_fn s102, callK_fn s105, callK_fn s84, hgt, hwm, hi0, hx, ← hcmp]
     refine Need.intro (fun p hp => by cases hp) ?_
     simp only [↓go1, gB0, reduceIte, Nat.reduceEqDiff, Nat.reduceAdd, Nat.reduceSub, Nat.reduceLT, Nat.reduceLeDiff, rd_zero, rd_succ, gB1, reduceCtorEq, ldD_agg, List.append_nil, rowU_sc, drawnU_sc, data_if, cells_if, un_if, calm_if, calm1_if, data_ni, cells_ni, un_ni, calm_ni, calm1_ni, h14, h13, h0, h1, h6, hlt, hw, hwd, hfill, hr2, put2_rd, put1_rd, T1.at_.c2, hAr, v_sgeq, List.map_cons, List.map_nil, callK_fn s102, callK_fn s105, callK_fn s84, hgt, hwm, hi0, hx, ← hcmp]
     by_cases hb1 : c1.bad = 0
     ·have hb1' : (c1.bad = 0) = True := eq_true hb1
      have he3 : namedL f N [] c0 = namedL f k (acc ++ [(s, (f c1).1)]) (f c1).2 := by rw [he2, if_neg (by simp [hb1])]
      obtain ⟨e1, e2⟩ := hf c1 hl2
      have hl4 : (f c1).2.at_ ≤ (f c1).2.s.length := by rw [e1]; exact e2
      have hl5 : (f c1).2.s.length ≤ 1000000 := by rw [e1]; exact hl3
      have T3 := T2.upd hl4 hl5
      have G3 := G2.sc (r := r) (x := (f c1).2) hr
      simp only [↓go1, gB0, reduceIte, Nat.reduceEqDiff, Nat.reduceAdd, Nat.reduceSub, Nat.reduceLT, Nat.reduceLeDiff, rd_zero, rd_succ, gB1, reduceCtorEq, ldD_agg, List.append_nil, rowU_sc, drawnU_sc, data_if, cells_if, un_if, calm_if, calm1_if, data_ni, cells_ni, un_ni, calm_ni, calm1_ni, h14, h13, h0, h1, h6, hlt, hw, hwd, hfill, hr2, put2_rd, put1_rd, T1.at_.c2, hAr, v_sgeq, List.map_cons, List.map_nil, callK_fn s102, callK_fn s105, callK_fn s84, hgt, hwm, hi0, hx, ← hcmp, hb1']
      refine got_tk T2.at_ (g84 c1) ?_
      obtain ⟨u1, u2, u3, u4, u5, u6, _⟩ := dat_cells (f c1).1
      simp only [↓go1, gB0, reduceIte, Nat.reduceEqDiff, Nat.reduceAdd, Nat.reduceSub, Nat.reduceLT, Nat.reduceLeDiff, rd_zero, rd_succ, gB1, reduceCtorEq, ldD_agg, List.append_nil, rowU_sc, drawnU_sc, data_if, cells_if, un_if, calm_if, calm1_if, data_ni, cells_ni, un_ni, calm_ni, calm1_ni, h14, h13, h0, h1, h6, hlt, hw, hwd, hfill, hr2, put2_rd, put1_rd, T1.at_.c2, hAr, v_sgeq, List.map_cons, List.map_nil, callK_fn s102, callK_fn s105, callK_fn s84, hgt, hwm, hi0, hx, ← hcmp, hb1', u1, u2, u3, u4, u5, u6]
      have G4 : Gf fr (((Upd.app (((Upd.app st.m (scU r c1)).put ((st.c + 1 + 2 + 6 + 3) :: fr) 0 [.str [], .nilIface]).put ((st.c + 1 + 2 + 6 + 3) :: fr) 0 [.str s, .nilIface]) (scU r (f c1).2)).put ((st.c + 1 + 2 + 6 + 3) :: fr) 1 [(f c1).1.dat]).put ((st.c + 1 + 2 + 6 + 5 + 13 + 6 + 6 + 2) :: fr) 0 [.tok 83]) st.c 82 t := (G3.put (by omega)).put (by omega)
      refine Need.intro ⟨by rw [datP_len]; omega, rfl, G4.grow⟩ ?_
      simp only [↓go1, gB0, reduceIte, Nat.reduceEqDiff, Nat.reduceAdd, Nat.reduceSub, Nat.reduceLT, Nat.reduceLeDiff, rd_zero, rd_succ, gB1, reduceCtorEq, ldD_agg, List.append_nil, rowU_sc, drawnU_sc, data_if, cells_if, un_if, calm_if, calm1_if, data_ni, cells_ni, un_ni, calm_ni, calm1_ni, h14, h13, h0, h1, h6, hlt, hw, hwd, hfill, hr2, put2_rd, put1_rd, T1.at_.c2, hAr, v_sgeq, List.map_cons, List.map_nil, callK_fn s102, callK_fn s105, callK_fn s84, hgt, hwm, hi0, hx, ← hcmp, hb1', u1, u2, u3, u4, u5, u6]
      refine ih (i' + 1 + 1) (acc ++ [(s, (f c1).1)]) (f c1).2 ((st.c + 1 + 2 + 6 + 5 + 13 + 6 + 6 + 3) :: fr) _ _ (by omega) (by simp; omega) he3 rfl h13 h0 h1 ?_ ?_ (Gf.new (by simp only; omega))
      ·rw [datP_app]; rfl
      ·exact Tk.growF (c := st.c) (Tk.putF (Tk.putF T3 hr) hr) hr (by rw [u3]; exact G4)
     ·have hb1' : (c1.bad = 0) = False := eq_false hb1
      have he3 : namedL f N [] c0 = (.nil, c1) := by rw [he2, if_pos hb1]
      simp only [↓go1, gB0, reduceIte, Nat.reduceEqDiff, Nat.reduceAdd, Nat.reduceSub, Nat.reduceLT, Nat.reduceLeDiff, rd_zero, rd_succ, gB1, reduceCtorEq, ldD_agg, List.append_nil, rowU_sc, drawnU_sc, data_if, cells_if, un_if, calm_if, calm1_if, data_ni, cells_ni, un_ni, calm_ni, calm1_ni, h14, h13, h0, h1, h6, hlt, hw, hwd, hfill, hr2, put2_rd, put1_rd, T1.at_.c2, hAr, v_sgeq, List.map_cons, List.map_nil, callK_fn s102, callK_fn s105, callK_fn s84, hgt, hwm, hi0, hx, ← hcmp, hb1']
      exact hret _ _ he3 rfl T2
  ·have hb0' : (c.bad = 0) = False := eq_false hb0
   have he2 : namedL f N [] c0 = (.nil, c) := by
    rw [he]; simp only [namedL]; rw [if_pos hb0]
   simp only [↓go1, gB0, reduceIte, Nat.reduceEqDiff, Nat.reduceAdd, Nat.reduceSub, Nat.reduceLT, Nat.reduceLeDiff, rd_zero, rd_succ, gB1, reduceCtorEq, ldD_agg, List.append_nil, rowU_sc, drawnU_sc, data_if, cells_if, un_if, calm_if, calm1_if, data_ni, cells_ni, un_ni, calm_ni, calm1_ni, h14, h13, h0, h1, h6, hlt, hw, hwd, T.at_.c2, hb0']
   exact hret _ c he2 rfl T
def F104 (n : Nat) (c : Sc) : List D → Option (D × Sc)
 | [.int .i64 d] => if d = 4 - (n : Int) ∧ n ≤ 4 then some ((namedS n (prevV n) c).1.dat, (namedS n (prevV n) c).2) else none
 | _ => none
set_option maxHeartbeats 1000000 in
theorem ok104 {P : Program} (hb : DeskB P) (n : Nat) (h84 : n = 0 ∨ ∃ k, n = k + 1 ∧ (tkQ (Fval k)).ok P 84) : (tkQ (F104 n)).ok P 104 := by
 have hS : ∃ S : Summs, Summs.ok P S ∧ S 126 = some (tkQ (F126 n)) ∧ S 102 = some (tkQ F102) ∧ S 105 = some (tkQ F105) ∧ ∀ k, n = k + 1 → S 84 = some (tkQ (Fval k)) := by
  rcases h84 with rfl | ⟨k, rfl, h⟩
  ·exact ⟨tabL [(126, tkQ (F126 0)), (102, tkQ F102), (105, tkQ F105)], tabL_cons (ok126 hb 0) (tabL_cons (ok102 hb) (tabL_cons (ok105 hb) tabL_nil)), rfl, rfl, rfl, fun k e => by cases e⟩
  ·exact ⟨tabL [(126, tkQ (F126 (k + 1))), (102, tkQ F102), (105, tkQ F105), (84, tkQ (Fval k))], tabL_cons (ok126 hb (k + 1)) (tabL_cons (ok102 hb) (tabL_cons (ok105 hb) (tabL_cons h tabL_nil))), rfl, rfl, rfl, fun k' e => by cases e; rfl⟩
 obtain ⟨S, hS, s126, s102, s105, s84⟩ := hS
 refine opn_ok2 (S := S) hS hb.f104 (tkQ_loc _) (fun ds m fr d u h hfr => ?_)
 obtain ⟨r, rest, c, c', rfl, T, hF, rfl⟩ := tkQ_inv h
 unfold F104 at hF
 split at hF
 ·rename_i d
  split at hF
  ·rename_i hk
   simp only [Option.some.injEq, Prod.mk.injEq] at hF
   obtain ⟨rfl, rfl⟩ := hF
   refine ⟨by simp, ?_⟩
   clear h
   have hr := T.nfr hfr
   have T0 := Tk.start (fr := fr) T
   have f126 : F126 n c [.int .i64 d] = some (.int .i64 ((countS n c).1 : Int), (countS n c).2) := if_pos hk
   obtain ⟨i1, i2, i3⟩ := countS_inv (n := n) T.le
   have T1 := T0.upd (c' := (countS n c).2) (by rw [i1]; exact i2) (by rw [i1]; exact T.len)
   have hz : n = 0 → (countS n c).1 = 0 := fun e => by rw [e]; exact countS_zero
   have hf : Stays (prevV n) := by
    cases n with
    | zero => exact fun c h => ⟨rfl, h⟩
    | succ n => exact Stays.takeV n
   unfold namedS
   unfold dc104
   simp only [↓go1, gB0, reduceIte, Nat.reduceEqDiff, Nat.reduceAdd, Nat.reduceSub, Nat.reduceLT, Nat.reduceLeDiff, rd_zero, rd_succ, gB1, reduceCtorEq, ldD_agg, List.append_nil, rowU_sc, drawnU_sc, data_if, cells_if, un_if, calm_if, calm1_if, data_ni, cells_ni, un_ni, calm_ni, calm1_ni, callK_fn s126]
   refine got_tk T f126 ?_
   simp only [↓go1, gB0, reduceIte, Nat.reduceEqDiff, Nat.reduceAdd, Nat.reduceSub, Nat.reduceLT, Nat.reduceLeDiff, rd_zero, rd_succ, gB1, reduceCtorEq, ldD_agg, List.append_nil, rowU_sc, drawnU_sc, data_if, cells_if, un_if, calm_if, calm1_if, data_ni, cells_ni, un_ni, calm_ni, calm1_ni, callK_fn s126]
   generalize (countS n c) = q at i1 i2 i3 T1 hz ⊢
   refine loop104 (m0 := m) (c0 := q.2) (N := q.1) hr hf (by omega) (d := d) (by omega) s102 s105 (fun hp => ?_) (fun st c' e h4 T' => ?_) (fun st c' acc t e h6 T' => ?_) q.1 0 [] q.2 (5 :: fr) _ _ (by omega) rfl rfl rfl rfl rfl rfl rfl ?_ ?_
   ·cases n with
    | zero => have := hz rfl; omega
    | succ k => exact ⟨Fval k, s84 k rfl, fun c => if_pos ⟨by omega, by omega⟩⟩
   ·rw [e]
    simp only [↓go1, gB0, reduceIte, Nat.reduceEqDiff, Nat.reduceAdd, Nat.reduceSub, Nat.reduceLT, Nat.reduceLeDiff, rd_zero, rd_succ, gB1, reduceCtorEq, ldD_agg, List.append_nil, rowU_sc, drawnU_sc, data_if, cells_if, un_if, calm_if, calm1_if, data_ni, cells_ni, un_ni, calm_ni, calm1_ni, h4, Tr.dat]
    exact T'.fin hfr
   ·rw [e]
    simp only [↓go1, gB0, reduceIte, Nat.reduceEqDiff, Nat.reduceAdd, Nat.reduceSub, Nat.reduceLT, Nat.reduceLeDiff, rd_zero, rd_succ, gB1, reduceCtorEq, ldD_agg, List.append_nil, rowU_sc, drawnU_sc, data_if, cells_if, un_if, calm_if, calm1_if, data_ni, cells_ni, un_ni, calm_ni, calm1_ni, h6, Tr.dat]
    exact T'.fin hfr
   ·exact Tk.putF T1 hr
   ·exact ⟨5, rfl, by simp only; omega, by simp [put_tok]⟩
  ·cases hF
 ·cases hF
set_option maxHeartbeats 2000000 in
theorem ok84s {P : Program} (hb : DeskB P) (n : Nat) (h103 : (tkQ (F103 n)).ok P 103) (h104 : (tkQ (F104 n)).ok P 104) : (tkQ (Fval n)).ok P 84 := by
 have hS : Summs.ok P (tabL [(101, tkQ F101), (102, tkQ F102), (103, tkQ (F103 n)), (104, tkQ (F104 n)), (105, tkQ F105)]) := tabL_cons (ok101 hb) (tabL_cons (ok102 hb) (tabL_cons h103 (tabL_cons h104 (tabL_cons (ok105 hb) tabL_nil))))
 have s101 : tabL [(101, tkQ F101), (102, tkQ F102), (103, tkQ (F103 n)), (104, tkQ (F104 n)), (105, tkQ F105)] 101 = some (tkQ F101) := rfl
 have s102 : tabL [(101, tkQ F101), (102, tkQ F102), (103, tkQ (F103 n)), (104, tkQ (F104 n)), (105, tkQ F105)] 102 = some (tkQ F102) := rfl
 have s103 : tabL [(101, tkQ F101), (102, tkQ F102), (103, tkQ (F103 n)), (104, tkQ (F104 n)), (105, tkQ F105)] 103 = some (tkQ (F103 n)) := rfl
 have s104 : tabL [(101, tkQ F101), (102, tkQ F102), (103, tkQ (F103 n)), (104, tkQ (F104 n)), (105, tkQ F105)] 104 = some (tkQ (F104 n)) := rfl
 have s105 : tabL [(101, tkQ F101), (102, tkQ F102), (103, tkQ (F103 n)), (104, tkQ (F104 n)), (105, tkQ F105)] 105 = some (tkQ F105) := rfl
 generalize tabL [(101, tkQ F101), (102, tkQ F102), (103, tkQ (F103 n)), (104, tkQ (F104 n)), (105, tkQ F105)] = S at hS s101 s102 s103 s104 s105
 refine opn_ok2 (S := S) hS hb.f84 (tkQ_loc _) (fun ds m fr d u h hfr => ?_)
 obtain ⟨r, rest, c, c', rfl, T, hF, rfl⟩ := tkQ_inv h
 unfold Fval at hF
 split at hF
 ·rename_i d
  split at hF
  ·rename_i hk
   simp only [Option.some.injEq, Prod.mk.injEq] at hF
   obtain ⟨rfl, rfl⟩ := hF
   refine ⟨by simp, ?_⟩
   clear h
   have hr := T.nfr hfr
   have T0 := Tk.start (fr := fr) T
   have hf : Stays (prevV n) := by
    cases n with
    | zero => exact fun c h => ⟨rfl, h⟩
    | succ n => exact Stays.takeV n
   obtain ⟨i1, i2, i3, _⟩ := numS_inv (k := 1) T.le
   have f101 : F101 c [.int .i64 1] = some (.int .u64 ((numS 1 c).1 : Int), (numS 1 c).2) := by
    simp only [F101]; rw [if_pos ⟨by omega, by omega⟩]; rfl
   have T1 := T0.upd (c' := (numS 1 c).2) (by rw [i1]; exact i2) (by rw [i1]; exact T.len)
   rw [takeV_eq]
   simp only [valS]
   unfold dc84
   simp only [↓go1, gB0, reduceIte, Nat.reduceEqDiff, Nat.reduceAdd, Nat.reduceSub, Nat.reduceLT, Nat.reduceLeDiff, rd_zero, rd_succ, gB1, reduceCtorEq, ldD_agg, List.append_nil, rowU_sc, drawnU_sc, data_if, cells_if, un_if, calm_if, calm1_if, data_ni, cells_ni, un_ni, calm_ni, calm1_ni, callK_fn s101]
   refine got_tk T f101 ?_
   have hl2 : (numS 1 c).2.at_ ≤ (numS 1 c).2.s.length := by rw [i1]; exact i2
   have hl3 : (numS 1 c).2.s.length ≤ 1000000 := by rw [i1]; exact T.len
   generalize numS 1 c = p at i1 i2 i3 T1 hl2 hl3 ⊢
   obtain ⟨x, c1⟩ := p
   simp only at i1 i2 i3 T1 hl2 hl3 ⊢
   by_cases hb0 : c1.bad = 0
   ·have hb0' : (c1.bad = 0) = True := eq_true hb0
    rw [if_neg (by simp [hb0])]
    have e0 : ((0 : Nat) : Int) = 0 := rfl
    have e1 : ((1 : Nat) : Int) = 1 := rfl
    have e2 : ((2 : Nat) : Int) = 2 := rfl
    have e3 : ((3 : Nat) : Int) = 3 := rfl
    have e4 : ((4 : Nat) : Int) = 4 := rfl
    have e5 : ((5 : Nat) : Int) = 5 := rfl
    have e6 : ((6 : Nat) : Int) = 6 := rfl
    have hxc : x = 0 ∨ x = 1 ∨ x = 2 ∨ x = 3 ∨ x = 4 ∨ x = 5 ∨ x = 6 ∨ 7 ≤ x := by omega
    rcases hxc with rfl | rfl | rfl | rfl | rfl | rfl | rfl | hx7
    ·simp only [↓go1, gB0, reduceIte, Nat.reduceEqDiff, Nat.reduceAdd, Nat.reduceSub, Nat.reduceLT, Nat.reduceLeDiff, rd_zero, rd_succ, gB1, reduceCtorEq, ldD_agg, List.append_nil, rowU_sc, drawnU_sc, data_if, cells_if, un_if, calm_if, calm1_if, data_ni, cells_ni, un_ni, calm_ni, calm1_ni, Int.reduceEq, T1.at_.c2, hb0', Tr.dat, callK_fn s101, callK_fn s102, callK_fn s103, callK_fn s104, callK_fn s105, e0]
     exact T1.fin hfr
    ·simp only [↓go1, gB0, reduceIte, Nat.reduceEqDiff, Nat.reduceAdd, Nat.reduceSub, Nat.reduceLT, Nat.reduceLeDiff, rd_zero, rd_succ, gB1, reduceCtorEq, ldD_agg, List.append_nil, rowU_sc, drawnU_sc, data_if, cells_if, un_if, calm_if, calm1_if, data_ni, cells_ni, un_ni, calm_ni, calm1_ni, Int.reduceEq, T1.at_.c2, hb0', Tr.dat, callK_fn s101, callK_fn s102, callK_fn s103, callK_fn s104, callK_fn s105, e1]
     exact T1.fin hfr
    ·simp only [↓go1, gB0, reduceIte, Nat.reduceEqDiff, Nat.reduceAdd, Nat.reduceSub, Nat.reduceLT, Nat.reduceLeDiff, rd_zero, rd_succ, gB1, reduceCtorEq, ldD_agg, List.append_nil, rowU_sc, drawnU_sc, data_if, cells_if, un_if, calm_if, calm1_if, data_ni, cells_ni, un_ni, calm_ni, calm1_ni, Int.reduceEq, T1.at_.c2, hb0', Tr.dat, callK_fn s101, callK_fn s102, callK_fn s103, callK_fn s104, callK_fn s105, e2]
     exact T1.fin hfr
    ·obtain ⟨j1, j2, j3, _⟩ := numS_inv (k := 8) hl2
     have f101' : F101 c1 [.int .i64 8] = some (.int .u64 ((numS 8 c1).1 : Int), (numS 8 c1).2) := by
      simp only [F101]; rw [if_pos ⟨by omega, by omega⟩]; rfl
     have T2 := T1.upd (c' := (numS 8 c1).2) (by rw [j1]; exact j2) (by rw [j1]; exact hl3)
     simp only [↓go1, gB0, reduceIte, Nat.reduceEqDiff, Nat.reduceAdd, Nat.reduceSub, Nat.reduceLT, Nat.reduceLeDiff, rd_zero, rd_succ, gB1, reduceCtorEq, ldD_agg, List.append_nil, rowU_sc, drawnU_sc, data_if, cells_if, un_if, calm_if, calm1_if, data_ni, cells_ni, un_ni, calm_ni, calm1_ni, Int.reduceEq, T1.at_.c2, hb0', Tr.dat, callK_fn s101, callK_fn s102, callK_fn s103, callK_fn s104, callK_fn s105, e3]
     refine got_tk T1.at_ f101' ?_
     simp only [↓go1, gB0, reduceIte, Nat.reduceEqDiff, Nat.reduceAdd, Nat.reduceSub, Nat.reduceLT, Nat.reduceLeDiff, rd_zero, rd_succ, gB1, reduceCtorEq, ldD_agg, List.append_nil, rowU_sc, drawnU_sc, data_if, cells_if, un_if, calm_if, calm1_if, data_ni, cells_ni, un_ni, calm_ni, calm1_ni, Int.reduceEq, T1.at_.c2, hb0', Tr.dat, callK_fn s101, callK_fn s102, callK_fn s103, callK_fn s104, callK_fn s105, e3]
     exact T2.fin hfr
    ·obtain ⟨j1, j2, j3, _⟩ := rowS_inv hl2
     have f102 : F102 c1 [] = some (.str (rowS c1).1, (rowS c1).2) := rfl
     have T2 := T1.upd (c' := (rowS c1).2) (by rw [j1]; exact j2) (by rw [j1]; exact hl3)
     simp only [↓go1, gB0, reduceIte, Nat.reduceEqDiff, Nat.reduceAdd, Nat.reduceSub, Nat.reduceLT, Nat.reduceLeDiff, rd_zero, rd_succ, gB1, reduceCtorEq, ldD_agg, List.append_nil, rowU_sc, drawnU_sc, data_if, cells_if, un_if, calm_if, calm1_if, data_ni, cells_ni, un_ni, calm_ni, calm1_ni, Int.reduceEq, T1.at_.c2, hb0', Tr.dat, callK_fn s101, callK_fn s102, callK_fn s103, callK_fn s104, callK_fn s105, e4]
     refine got_tk T1.at_ f102 ?_
     simp only [↓go1, gB0, reduceIte, Nat.reduceEqDiff, Nat.reduceAdd, Nat.reduceSub, Nat.reduceLT, Nat.reduceLeDiff, rd_zero, rd_succ, gB1, reduceCtorEq, ldD_agg, List.append_nil, rowU_sc, drawnU_sc, data_if, cells_if, un_if, calm_if, calm1_if, data_ni, cells_ni, un_ni, calm_ni, calm1_ni, Int.reduceEq, T1.at_.c2, hb0', Tr.dat, callK_fn s101, callK_fn s102, callK_fn s103, callK_fn s104, callK_fn s105, e4]
     exact T2.fin hfr
    ·obtain ⟨ca, cb, _⟩ := countS_inv (n := n) hl2
     have hi : (itemsS n (prevV n) c1).2.s = c1.s ∧ (itemsS n (prevV n) c1).2.at_ ≤ c1.s.length := by
      have := hf.itemsL (countS n c1).1 [] (countS n c1).2 (by rw [ca]; exact cb)
      rw [ca] at this; exact this
     have f103 : F103 n c1 [.int .i64 d] = some ((itemsS n (prevV n) c1).1.dat, (itemsS n (prevV n) c1).2) := if_pos hk
     have T2 := T1.upd (c' := (itemsS n (prevV n) c1).2) (by rw [hi.1]; exact hi.2) (by rw [hi.1]; exact hl3)
     simp only [↓go1, gB0, reduceIte, Nat.reduceEqDiff, Nat.reduceAdd, Nat.reduceSub, Nat.reduceLT, Nat.reduceLeDiff, rd_zero, rd_succ, gB1, reduceCtorEq, ldD_agg, List.append_nil, rowU_sc, drawnU_sc, data_if, cells_if, un_if, calm_if, calm1_if, data_ni, cells_ni, un_ni, calm_ni, calm1_ni, Int.reduceEq, T1.at_.c2, hb0', Tr.dat, callK_fn s101, callK_fn s102, callK_fn s103, callK_fn s104, callK_fn s105, e5]
     refine got_tk T1.at_ f103 ?_
     simp only [↓go1, gB0, reduceIte, Nat.reduceEqDiff, Nat.reduceAdd, Nat.reduceSub, Nat.reduceLT, Nat.reduceLeDiff, rd_zero, rd_succ, gB1, reduceCtorEq, ldD_agg, List.append_nil, rowU_sc, drawnU_sc, data_if, cells_if, un_if, calm_if, calm1_if, data_ni, cells_ni, un_ni, calm_ni, calm1_ni, Int.reduceEq, T1.at_.c2, hb0', Tr.dat, callK_fn s101, callK_fn s102, callK_fn s103, callK_fn s104, callK_fn s105, e5]
     exact T2.fin hfr
    ·obtain ⟨ca, cb, _⟩ := countS_inv (n := n) hl2
     have hi : (namedS n (prevV n) c1).2.s = c1.s ∧ (namedS n (prevV n) c1).2.at_ ≤ c1.s.length := by
      have := hf.namedL (countS n c1).1 [] (countS n c1).2 (by rw [ca]; exact cb)
      rw [ca] at this; exact this
     have f104 : F104 n c1 [.int .i64 d] = some ((namedS n (prevV n) c1).1.dat, (namedS n (prevV n) c1).2) := if_pos hk
     have T2 := T1.upd (c' := (namedS n (prevV n) c1).2) (by rw [hi.1]; exact hi.2) (by rw [hi.1]; exact hl3)
     simp only [↓go1, gB0, reduceIte, Nat.reduceEqDiff, Nat.reduceAdd, Nat.reduceSub, Nat.reduceLT, Nat.reduceLeDiff, rd_zero, rd_succ, gB1, reduceCtorEq, ldD_agg, List.append_nil, rowU_sc, drawnU_sc, data_if, cells_if, un_if, calm_if, calm1_if, data_ni, cells_ni, un_ni, calm_ni, calm1_ni, Int.reduceEq, T1.at_.c2, hb0', Tr.dat, callK_fn s101, callK_fn s102, callK_fn s103, callK_fn s104, callK_fn s105, e6]
     refine got_tk T1.at_ f104 ?_
     simp only [↓go1, gB0, reduceIte, Nat.reduceEqDiff, Nat.reduceAdd, Nat.reduceSub, Nat.reduceLT, Nat.reduceLeDiff, rd_zero, rd_succ, gB1, reduceCtorEq, ldD_agg, List.append_nil, rowU_sc, drawnU_sc, data_if, cells_if, un_if, calm_if, calm1_if, data_ni, cells_ni, un_ni, calm_ni, calm1_ni, Int.reduceEq, T1.at_.c2, hb0', Tr.dat, callK_fn s101, callK_fn s102, callK_fn s103, callK_fn s104, callK_fn s105, e6]
     exact T2.fin hfr
    ·have g0 : ((x : Int) = 0) = False := eq_false (by omega)
     have g1 : ((x : Int) = 1) = False := eq_false (by omega)
     have g2 : ((x : Int) = 2) = False := eq_false (by omega)
     have g3 : ((x : Int) = 3) = False := eq_false (by omega)
     have g4 : ((x : Int) = 4) = False := eq_false (by omega)
     have g5 : ((x : Int) = 5) = False := eq_false (by omega)
     have g6 : ((x : Int) = 6) = False := eq_false (by omega)
     have f105 : F105 c1 [.int .i64 22] = some (.tup [], failS 22 c1) := rfl
     have T2 := T1.upd (c' := failS 22 c1) (by rw [failS_inv.1, failS_inv.2]; exact hl2) (by rw [failS_inv.1]; exact hl3)
     rw [if_neg (by omega), if_neg (by omega), if_neg (by omega), if_neg (by omega), if_neg (by omega), if_neg (by omega), if_neg (by omega)]
     simp only [↓go1, gB0, reduceIte, Nat.reduceEqDiff, Nat.reduceAdd, Nat.reduceSub, Nat.reduceLT, Nat.reduceLeDiff, rd_zero, rd_succ, gB1, reduceCtorEq, ldD_agg, List.append_nil, rowU_sc, drawnU_sc, data_if, cells_if, un_if, calm_if, calm1_if, data_ni, cells_ni, un_ni, calm_ni, calm1_ni, Int.reduceEq, T1.at_.c2, hb0', Tr.dat, callK_fn s101, callK_fn s102, callK_fn s103, callK_fn s104, callK_fn s105, g0, g1, g2, g3, g4, g5, g6]
     refine got_tk T1.at_ f105 ?_
     simp only [↓go1, gB0, reduceIte, Nat.reduceEqDiff, Nat.reduceAdd, Nat.reduceSub, Nat.reduceLT, Nat.reduceLeDiff, rd_zero, rd_succ, gB1, reduceCtorEq, ldD_agg, List.append_nil, rowU_sc, drawnU_sc, data_if, cells_if, un_if, calm_if, calm1_if, data_ni, cells_ni, un_ni, calm_ni, calm1_ni, Int.reduceEq, T1.at_.c2, hb0', Tr.dat, callK_fn s101, callK_fn s102, callK_fn s103, callK_fn s104, callK_fn s105, g0, g1, g2, g3, g4, g5, g6]
     exact T2.fin hfr
   ·have hb0' : (c1.bad = 0) = False := eq_false hb0
    rw [if_pos hb0]
    simp only [↓go1, gB0, reduceIte, Nat.reduceEqDiff, Nat.reduceAdd, Nat.reduceSub, Nat.reduceLT, Nat.reduceLeDiff, rd_zero, rd_succ, gB1, reduceCtorEq, ldD_agg, List.append_nil, rowU_sc, drawnU_sc, data_if, cells_if, un_if, calm_if, calm1_if, data_ni, cells_ni, un_ni, calm_ni, calm1_ni, T1.at_.c2, hb0', Tr.dat]
    exact T1.fin hfr
  ·cases hF
 ·cases hF
theorem ok84 {P : Program} (hb : DeskB P) : ∀ n, (tkQ (Fval n)).ok P 84
 | 0 => ok84s hb 0 (ok103 hb 0 (.inl rfl)) (ok104 hb 0 (.inl rfl))
 | n + 1 => ok84s hb (n + 1) (ok103 hb (n + 1) (.inr ⟨n, rfl, ok84 hb n⟩)) (ok104 hb (n + 1) (.inr ⟨n, rfl, ok84 hb n⟩))
def F53 : List D → Option D
 | [.str s] => if s.length ≤ 1000000 then some (if endS (takeV 4 ⟨s, 0, 0⟩).2 = 0 then .tup [(takeV 4 ⟨s, 0, 0⟩).1.dat, .int .i64 0] else .tup [.nilIface, .int .i64 (endS (takeV 4 ⟨s, 0, 0⟩).2)]) else none
 | _ => none
set_option maxHeartbeats 1000000 in
theorem ok53 {P : Program} (hb : DeskB P) : (funS F53).ok P 53 := by
 have hS : Summs.ok P (tabL [(84, tkQ (Fval 4)), (85, funS F85)]) := tabL_cons (ok84 hb 4) (tabL_cons (ok85 hb) tabL_nil)
 have s84 : tabL [(84, tkQ (Fval 4)), (85, funS F85)] 84 = some (tkQ (Fval 4)) := rfl
 have s85 : tabL [(84, tkQ (Fval 4)), (85, funS F85)] 85 = some (funS F85) := rfl
 generalize tabL [(84, tkQ (Fval 4)), (85, funS F85)] = S at hS s84 s85
 refine fun_ok (S := S) hS hb.f53 (fun ds r h => ?_) (fun ds r h => ?_)
 ·unfold F53 at h; split at h
  ·simp
  ·cases h
 ·unfold F53 at h; split at h
  ·rename_i s
   split at h
   ·rename_i hs
    simp only [Option.some.injEq] at h
    subst h
    have hf := Stays.takeV 4 ⟨s, 0, 0⟩ (Nat.zero_le _)
    have f84 : Fval 4 ⟨s, 0, 0⟩ [.int .i64 0] = some ((takeV 4 ⟨s, 0, 0⟩).1.dat, (takeV 4 ⟨s, 0, 0⟩).2) := by
     simp only [Fval]; rw [if_pos ⟨by omega, by omega⟩]
    have hfill1 : fillD [.str [], .int .i64 0, .int .i64 0] [(0, 1, .str s)] = some [.str s, .int .i64 0, .int .i64 0] := rfl
    have hfill2 : fillD [.str [], .int .i64 0, .int .i64 0] [(0, 3, .agg [.str s, .int .i64 0, .int .i64 0])] = some [.str s, .int .i64 0, .int .i64 0] := rfl
    generalize takeV 4 ⟨s, 0, 0⟩ = q at hf f84 ⊢
    obtain ⟨v, c⟩ := q
    simp only at hf f84 ⊢
    have f85 : F85 [.agg [.str c.s, .int .i64 (c.at_ : Int), .int .i64 c.bad]] = some (.int .i64 (endS c)) := by
     simp only [F85, scOf_of (c := c) (by rw [hf.1]; exact hf.2) (by rw [hf.1]; exact hs), Option.map_some]
    obtain ⟨u1, u2, u3, u4, u5, u6, _⟩ := dat_cells v
    unfold dc53
    simp only [↓go1, gB0, reduceIte, Nat.reduceEqDiff, Nat.reduceAdd, Nat.reduceSub, Nat.reduceLT, Nat.reduceLeDiff, rd_zero, rd_succ, gB1, reduceCtorEq, ldD_agg, List.append_nil, rowU_sc, drawnU_sc, data_if, cells_if, un_if, calm_if, calm1_if, data_ni, cells_ni, un_ni, calm_ni, calm1_ni, hfill1, hfill2, List.map_cons, List.map_nil, callK_fn s84, callK_fun s85]
    refine got_tk (c := ⟨s, 0, 0⟩) ⟨rfl, rfl, rfl, Nat.zero_le _, hs⟩ f84 ?_
    have T := ScAt.upd (m := Mem.put (fun _ _ => none) [5] 0 [.str s, .int .i64 0, .int .i64 0]) (r := [5]) (c := c) (by rw [hf.1]; exact hf.2) (by rw [hf.1]; exact hs)
    by_cases he : endS c = 0
    ·have he' : (endS c = 0) = True := eq_true he
     simp only [↓go1, gB0, reduceIte, Nat.reduceEqDiff, Nat.reduceAdd, Nat.reduceSub, Nat.reduceLT, Nat.reduceLeDiff, rd_zero, rd_succ, gB1, reduceCtorEq, ldD_agg, List.append_nil, rowU_sc, drawnU_sc, data_if, cells_if, un_if, calm_if, calm1_if, data_ni, cells_ni, un_ni, calm_ni, calm1_ni, callK_fn s84, callK_fun s85, f85, T.c0, T.c1, T.c2, u1, u2, u3, u4, u5, u6, he']
    ·have he' : (endS c = 0) = False := eq_false he
     simp only [↓go1, gB0, reduceIte, Nat.reduceEqDiff, Nat.reduceAdd, Nat.reduceSub, Nat.reduceLT, Nat.reduceLeDiff, rd_zero, rd_succ, gB1, reduceCtorEq, ldD_agg, List.append_nil, rowU_sc, drawnU_sc, data_if, cells_if, un_if, calm_if, calm1_if, data_ni, cells_ni, un_ni, calm_ni, calm1_ni, callK_fn s84, callK_fun s85, f85, T.c0, T.c1, T.c2, u1, u2, u3, u4, u5, u6, he']
   ·cases h
  ·cases h
end Go.Vd

namespace Go.Vd
open Go.RowKit
set_option maxRecDepth 10000
mutual
def Tr.nod : Tr → D
 | .nil => nodD 0 0 [] true [] true []
 | .tr b => truthD b
 | .num n => nodD 2 n [] true [] true []
 | .text s => sayD s
 | .list l => nodD 4 0 [] l.isEmpty (Tr.nodL l) true []
 | .pairs l => nodD 5 0 [] l.isEmpty (Tr.nodP l) l.isEmpty (Tr.nodK l)
def Tr.nodL : List Tr → List D
 | [] => []
 | v :: r => Tr.nod v :: Tr.nodL r
def Tr.nodP : List (Bs × Tr) → List D
 | [] => []
 | (_, v) :: r => Tr.nod v :: Tr.nodP r
def Tr.nodK : List (Bs × Tr) → List D
 | [] => []
 | (k, _) :: r => .str k :: Tr.nodK r
end
theorem Stays.kidsA {f : Sc → Tr × Sc} (hf : Stays f) : ∀ (k : Nat) (acc : List Tr), Stays (kidsA f k acc)
 | 0, acc => fun c h => ⟨rfl, h⟩
 | k + 1, acc => fun c h => by
  unfold Go.Vd.kidsA
  split
  ·exact ⟨rfl, h⟩
  ·obtain ⟨e1, e2⟩ := hf c h
   obtain ⟨e3, e4⟩ := Stays.kidsA hf k (acc ++ [(f c).1]) (f c).2 (by rw [e1]; exact e2)
   exact ⟨e3.trans e1, by rw [e1] at e4; exact e4⟩
theorem Stays.kidsB {f : Sc → Tr × Sc} (hf : Stays f) : ∀ (k : Nat) (acc : List (Bs × Tr)), Stays (kidsB f k acc)
 | 0, acc => fun c h => ⟨rfl, h⟩
 | k + 1, acc => fun c h => by
  obtain ⟨r1, r2, _, _⟩ := rowS_inv h
  have h2 : (if (rowS c).2.bad = 0 ∧ lastB acc (rowS c).1 = true then { (rowS c).2 with bad := 4 } else (rowS c).2).s = c.s ∧ (if (rowS c).2.bad = 0 ∧ lastB acc (rowS c).1 = true then { (rowS c).2 with bad := 4 } else (rowS c).2).at_ ≤ c.s.length := by
   split <;> exact ⟨r1, r2⟩
  unfold Go.Vd.kidsB
  split
  ·exact ⟨rfl, h⟩
  ·simp only
   generalize (if (rowS c).2.bad = 0 ∧ lastB acc (rowS c).1 = true then { (rowS c).2 with bad := 4 } else (rowS c).2) = c2 at h2 ⊢
   split
   ·exact h2
   ·obtain ⟨e1, e2⟩ := hf c2 (by rw [h2.1]; exact h2.2)
    rw [h2.1] at e1 e2
    obtain ⟨e3, e4⟩ := Stays.kidsB hf k (acc ++ [((rowS c).1, (f c2).1)]) (f c2).2 (by rw [e1]; exact e2)
    exact ⟨e3.trans e1, by rw [e1] at e4; exact e4⟩
theorem Stays.oneS {f : Sc → Tr × Sc} (hf : Stays f) (n : Nat) : Stays (oneS n f) := by
 intro c h
 obtain ⟨i1, i2, i3, _⟩ := numS_inv (k := 1) h
 have h1 : (numS 1 c).2.at_ ≤ (numS 1 c).2.s.length := by rw [i1]; exact i2
 simp only [Go.Vd.oneS]
 generalize (numS 1 c) = p at i1 i2 i3 h1 ⊢
 obtain ⟨n8a, n8b, _, _⟩ := numS_inv (k := 8) h1
 obtain ⟨n1a, n1b, _, _⟩ := numS_inv (k := 1) h1
 obtain ⟨ra, rb, _, _⟩ := rowS_inv h1
 rw [i1] at n8a n8b ra rb n1a n1b
 have hc : (if (numS 1 p.2).2.bad = 0 ∧ 64 < (numS 1 p.2).1 then { (numS 1 p.2).2 with bad := 5 } else (numS 1 p.2).2).s = c.s ∧ (if (numS 1 p.2).2.bad = 0 ∧ 64 < (numS 1 p.2).1 then { (numS 1 p.2).2 with bad := 5 } else (numS 1 p.2).2).at_ ≤ c.s.length := by
  split <;> exact ⟨n1a, n1b⟩
 generalize (if (numS 1 p.2).2.bad = 0 ∧ 64 < (numS 1 p.2).1 then { (numS 1 p.2).2 with bad := 5 } else (numS 1 p.2).2) = c2 at hc ⊢
 have hc' : c2.at_ ≤ c2.s.length := by rw [hc.1]; exact hc.2
 split
 ·exact ⟨i1, i2⟩
 ·split
  ·exact ⟨i1, i2⟩
  ·split
   ·exact ⟨i1, i2⟩
   ·split
    ·exact ⟨i1, i2⟩
    ·split
     ·exact ⟨n8a, n8b⟩
     ·split
      ·exact ⟨ra, rb⟩
      ·split
       ·exact ⟨i1, i2⟩
       ·split
        ·have := hf.kidsA (numS 1 p.2).1 [] c2 hc'
         rw [hc.1] at this; exact this
        ·have := hf.kidsB (numS 1 p.2).1 [] c2 hc'
         rw [hc.1] at this; exact this
theorem Stays.oneV : ∀ n, Stays (oneV n)
 | 0 => Stays.oneS (fun c h => ⟨rfl, h⟩) 0
 | n + 1 => Stays.oneS (Stays.oneV n) (n + 1)
end Go.Vd

namespace Go.Vd
open Go.RowKit
set_option maxRecDepth 10000
structure NO (m : Mem) (c : Sc) (k : Int) (ks : List D) (tk : Id) (ns : List D) (tn : Id) : Prop where
 s0 : m [0] 0 = some (.str c.s)
 s1 : m [0] 1 = some (.int .i64 (c.at_ : Int))
 s2 : m [0] 2 = some (.int .i64 c.bad)
 le : c.at_ ≤ c.s.length
 len : c.s.length ≤ 1000000
 z0 : m [1] 0 = some (.int .u8 0)
 z1 : m [1] 1 = some (.int .u64 0)
 z2 : m [1] 2 = some (.str [])
 z3 : m [1] 3 = some (.slice true [] [])
 z4 : m [1] 4 = some (.slice true [] [])
 y0 : m [2] 0 = some (.str [])
 y1 : m [2] 1 = some (.int .i64 0)
 y2 : m [2] 2 = some (.int .i64 0)
 a0 : m [36] 0 = some (.int .u8 k)
 a1 : m [36] 1 = some (.int .u64 0)
 a2 : m [36] 2 = some (.str [])
 a3 : m [36] 3 = some (.slice ks.isEmpty tk ks)
 a4 : m [36] 4 = some (.slice ns.isEmpty tn ns)
def Gk (m : Mem) (c e : Nat) (nl : Bool) (t : Id) : Prop := nl = true ∨ ∃ j, t = [j] ∧ 37 ≤ j ∧ j < c ∧ m t 0 = some (.tok (e + 1))
section
variable {m m' : Mem} {c c' : Sc} {k : Int} {ks ns : List D} {tk tn t : Id} {n n' e j f : Nat} {x : D} {nl : Bool}
theorem NO.keep (h : NO m c k ks tk ns tn) (h0 : ∀ o, m' [0] o = m [0] o) (h1 : ∀ o, m' [1] o = m [1] o) (h2 : ∀ o, m' [2] o = m [2] o) (h3 : ∀ o, m' [36] o = m [36] o) : NO m' c k ks tk ns tn :=
 ⟨by rw [h0, h.s0], by rw [h0, h.s1], by rw [h0, h.s2], h.le, h.len, by rw [h1, h.z0], by rw [h1, h.z1], by rw [h1, h.z2], by rw [h1, h.z3], by rw [h1, h.z4], by rw [h2, h.y0], by rw [h2, h.y1], by rw [h2, h.y2],
  by rw [h3, h.a0], by rw [h3, h.a1], by rw [h3, h.a2], by rw [h3, h.a3], by rw [h3, h.a4]⟩
theorem NO.put (h : NO m c k ks tk ns tn) {o : Nat} {ds : List D} (hj : 37 ≤ j) : NO (m.put [j] o ds) c k ks tk ns tn :=
 h.keep (fun o => Mem.put_other (by simp; omega)) (fun o => Mem.put_other (by simp; omega)) (fun o => Mem.put_other (by simp; omega)) (fun o => Mem.put_other (by simp; omega))
theorem NO.sc (h : NO m c k ks tk ns tn) (h1 : c'.at_ ≤ c'.s.length) (h2 : c'.s.length ≤ 1000000) : NO (m.put [0] 0 [.str c'.s, .int .i64 (c'.at_ : Int), .int .i64 c'.bad]) c' k ks tk ns tn := by
 have n1 : ([1] : Id) ≠ [0] := by simp
 have n2 : ([2] : Id) ≠ [0] := by simp
 have n3 : ([36] : Id) ≠ [0] := by simp
 exact ⟨by simp [put3_rd], by simp [put3_rd], by simp [put3_rd], h1, h2, by rw [Mem.put_other n1, h.z0], by rw [Mem.put_other n1, h.z1], by rw [Mem.put_other n1, h.z2], by rw [Mem.put_other n1, h.z3], by rw [Mem.put_other n1, h.z4],
  by rw [Mem.put_other n2, h.y0], by rw [Mem.put_other n2, h.y1], by rw [Mem.put_other n2, h.y2], by rw [Mem.put_other n3, h.a0], by rw [Mem.put_other n3, h.a1], by rw [Mem.put_other n3, h.a2], by rw [Mem.put_other n3, h.a3], by rw [Mem.put_other n3, h.a4]⟩
theorem NO.bad (h : NO m c k ks tk ns tn) {b : Int} : NO (m.put [0] 2 [.int .i64 b]) { c with bad := b } k ks tk ns tn := by
 have n1 : ([1] : Id) ≠ [0] := by simp
 have n2 : ([2] : Id) ≠ [0] := by simp
 have n3 : ([36] : Id) ≠ [0] := by simp
 exact ⟨by simp [put1_rd, h.s0], by simp [put1_rd, h.s1], by simp [put1_rd], h.le, h.len, by rw [Mem.put_other n1, h.z0], by rw [Mem.put_other n1, h.z1], by rw [Mem.put_other n1, h.z2], by rw [Mem.put_other n1, h.z3], by rw [Mem.put_other n1, h.z4],
  by rw [Mem.put_other n2, h.y0], by rw [Mem.put_other n2, h.y1], by rw [Mem.put_other n2, h.y2], by rw [Mem.put_other n3, h.a0], by rw [Mem.put_other n3, h.a1], by rw [Mem.put_other n3, h.a2], by rw [Mem.put_other n3, h.a3], by rw [Mem.put_other n3, h.a4]⟩
theorem Gk.toGrow {xs : List D} (h : Gk m n e nl t) : Grow m e (.slice nl t xs) := by
 rcases h with h | ⟨j, rfl, _, _, h⟩
 ·exact .inl h
 ·exact .inr ⟨h, by simp⟩
theorem Gk.more (h : Gk m n e nl t) (hc : n ≤ n') : Gk m n' e nl t := by
 rcases h with h | ⟨j, a, b, d, h⟩
 ·exact .inl h
 ·exact .inr ⟨j, a, b, by omega, h⟩
theorem Gk.put (h : Gk m n e nl t) {o : Nat} {ds : List D} (hj : n ≤ j) : Gk (m.put [j] o ds) n e nl t := by
 rcases h with h | ⟨i, rfl, a, b, h⟩
 ·exact .inl h
 ·exact .inr ⟨i, rfl, a, b, by rw [Mem.put_other (by simp; omega)]; exact h⟩
theorem Gk.low (h : Gk m n e nl t) {o : Nat} {ds : List D} (hj : j < 37) : Gk (m.put [j] o ds) n e nl t := by
 rcases h with h | ⟨i, rfl, a, b, h⟩
 ·exact .inl h
 ·exact .inr ⟨i, rfl, a, b, by rw [Mem.put_other (by simp; omega)]; exact h⟩
theorem Gk.keep {e' : Nat} {nl' : Bool} {t' : Id} {xs : List D} (h : Gk m n e nl t) (h' : Gk m n e' nl' t') (he : e ≠ e') (hf : n ≤ f) : Gk (Upd.app m (growU e' [f] (.slice nl' t' xs))) n e nl t := by
 rcases h with h | ⟨i, rfl, a, b, h⟩
 ·exact .inl h
 ·refine .inr ⟨i, rfl, a, b, ?_⟩
  rw [growU_rd, if_neg (by simp; omega), if_neg]
  ·exact h
  ·rintro ⟨q1, q2, _⟩
   rcases h' with h' | ⟨i', rfl, _, _, h'⟩
   ·rw [q1] at h'; cases h'
   ·rw [← q2, h] at h'
    simp at h'; omega
theorem Gk.new {t : Id} {xs : List D} (hf : 37 ≤ f) (hc : f < n) : Gk (Upd.app m (growU e [f] (.slice nl t xs))) n e false [f] :=
 .inr ⟨f, rfl, hf, hc, by rw [growU_rd, if_pos ⟨rfl, rfl⟩]⟩
theorem NO.grow (h : NO m c k ks tk ns tn) {xs : List D} (hg : Gk m n e nl t) (hf : 37 ≤ f) : NO (Upd.app m (growU e [f] (.slice nl t xs))) c k ks tk ns tn := by
 have key : ∀ i o, i < 37 → Upd.app m (growU e [f] (.slice nl t xs)) [i] o = m [i] o := by
  intro i o hi
  rw [growU_rd, if_neg (by simp; omega), if_neg]
  rintro ⟨q1, q2, _⟩
  rcases hg with h' | ⟨i', rfl, a, _, _⟩
  ·rw [q1] at h'; cases h'
  ·simp at q2; omega
 exact h.keep (fun o => key 0 o (by omega)) (fun o => key 1 o (by omega)) (fun o => key 2 o (by omega)) (fun o => key 36 o (by omega))
end
theorem ne_lit {a b k : Nat} (h : a < b + k) : (b + k = a) = False := eq_false (by omega)
end Go.Vd

namespace Go.Vd
open Go.RowKit
set_option maxRecDepth 10000
theorem Gk.nlow {m : Mem} {n e j : Nat} {nl : Bool} {t : Id} (h : Gk m n e nl t) (hj : j < 37) : (nl = false ∧ [j] = t) = False := by
 refine eq_false (fun ⟨a, b⟩ => ?_)
 rcases h with h | ⟨i, rfl, q, _⟩
 ·rw [a] at h; cases h
 ·simp at b; omega
end Go.Vd

namespace Go.Vd
open Go.RowKit
set_option maxRecDepth 10000
def kidsT : Tr → List Tr
 | .list l => l
 | .pairs l => l.map (·.2)
 | _ => []
def kidT (v : Tr) (i : Nat) : Tr := ((kidsT v)[i]?).getD .nil
def numT : Tr → Int
 | .tr b => if b = true then 1 else 0
 | .num n => n
 | _ => 0
def textT : Tr → Bs
 | .text s => s
 | _ => []
def backN (n : Int) : Int := if 2199023255552 < n then 2199023255552 else IntKind.i64.wrap (IntKind.i64.wrap n - 1099511627776)
end Go.Vd

namespace Go.Vd
open Go.RowKit
set_option maxRecDepth 10000
structure UI (m : Mem) (v : Tr) (k : Int) (nk nn : Bool) (ns : List D) (t : Td) (tc tb : Id) : Prop where
 z0 : m [0] 0 = some (.slice true [] [])
 z1 : m [0] 1 = some (.int .i64 0)
 z2 : m [0] 2 = some (.int .i64 0)
 z3 : m [0] 3 = some (.bool false)
 z4 : m [0] 4 = some (.slice true [] [])
 n0 : m [7] 0 = some (.int .u8 k)
 n1 : m [7] 1 = some (.int .u64 (numT v))
 n2 : m [7] 2 = some (.str (textT v))
 n3 : m [7] 3 = some (.slice nk [] ((kidsT v).map Tr.nod))
 n4 : m [7] 4 = some (.slice nn [] ns)
 t0 : m [23] 0 = some (.slice t.calls.isEmpty tc (t.calls.map dnD))
 t1 : m [23] 1 = some (.int .i64 t.ticks)
 t2 : m [23] 2 = some (.int .i64 t.left)
 t3 : m [23] 3 = some (.bool t.shut)
 t4 : m [23] 4 = some (.slice t.behind.isEmpty tb (t.behind.map .str))
section
variable {m m' : Mem} {v : Tr} {k : Int} {nk nn : Bool} {ns : List D} {t : Td} {tc tb t' : Id} {j f n e : Nat}
theorem UI.keep (h : UI m v k nk nn ns t tc tb) (h0 : ∀ o, m' [0] o = m [0] o) (h1 : ∀ o, m' [7] o = m [7] o) (h2 : ∀ o, m' [23] o = m [23] o) : UI m' v k nk nn ns t tc tb :=
 ⟨by rw [h0, h.z0], by rw [h0, h.z1], by rw [h0, h.z2], by rw [h0, h.z3], by rw [h0, h.z4], by rw [h1, h.n0], by rw [h1, h.n1], by rw [h1, h.n2], by rw [h1, h.n3], by rw [h1, h.n4], by rw [h2, h.t0], by rw [h2, h.t1], by rw [h2, h.t2], by rw [h2, h.t3], by rw [h2, h.t4]⟩
theorem UI.put (h : UI m v k nk nn ns t tc tb) {o : Nat} {ds : List D} (hj : 24 ≤ j) : UI (m.put [j] o ds) v k nk nn ns t tc tb :=
 h.keep (fun o => Mem.put_other (by simp; omega)) (fun o => Mem.put_other (by simp; omega)) (fun o => Mem.put_other (by simp; omega))
theorem UI.grow (h : UI m v k nk nn ns t tc tb) {nl : Bool} {xs : List D} (hg : Gk m n e nl t') (hf : 37 ≤ f) : UI (Upd.app m (growU e [f] (.slice nl t' xs))) v k nk nn ns t tc tb := by
 have key : ∀ i o, i < 37 → Upd.app m (growU e [f] (.slice nl t' xs)) [i] o = m [i] o := by
  intro i o hi
  rw [growU_rd, if_neg (by simp; omega), if_neg]
  rintro ⟨q1, q2, _⟩
  rcases hg with h' | ⟨i', rfl, a, _, _⟩
  ·rw [q1] at h'; cases h'
  ·simp at q2; omega
 exact h.keep (fun o => key 0 o (by omega)) (fun o => key 7 o (by omega)) (fun o => key 23 o (by omega))
theorem UI.setB (h : UI m v k nk nn ns t tc tb) {s : Bs} : UI (m.put [23] 4 [.slice false t' (t.behind.map .str ++ [.str s])]) v k nk nn ns { t with behind := t.behind ++ [s] } tc t' := by
 have nz : ([0] : Id) ≠ [23] := by simp
 have nn' : ([7] : Id) ≠ [23] := by simp
 exact ⟨by rw [Mem.put_other nz, h.z0], by rw [Mem.put_other nz, h.z1], by rw [Mem.put_other nz, h.z2], by rw [Mem.put_other nz, h.z3], by rw [Mem.put_other nz, h.z4], by rw [Mem.put_other nn', h.n0], by rw [Mem.put_other nn', h.n1], by rw [Mem.put_other nn', h.n2], by rw [Mem.put_other nn', h.n3], by rw [Mem.put_other nn', h.n4], by simp [put1_rd, h.t0], by simp [put1_rd, h.t1], by simp [put1_rd, h.t2], by simp [put1_rd, h.t3], by rw [isEmpty_snoc, List.map_append]; simp [put1_rd]⟩
theorem UI.setC (h : UI m v k nk nn ns t tc tb) {d : Dn} : UI (m.put [23] 0 [.slice false t' (t.calls.map dnD ++ [dnD d])]) v k nk nn ns { t with calls := t.calls ++ [d] } t' tb := by
 have nz : ([0] : Id) ≠ [23] := by simp
 have nn' : ([7] : Id) ≠ [23] := by simp
 exact ⟨by rw [Mem.put_other nz, h.z0], by rw [Mem.put_other nz, h.z1], by rw [Mem.put_other nz, h.z2], by rw [Mem.put_other nz, h.z3], by rw [Mem.put_other nz, h.z4], by rw [Mem.put_other nn', h.n0], by rw [Mem.put_other nn', h.n1], by rw [Mem.put_other nn', h.n2], by rw [Mem.put_other nn', h.n3], by rw [Mem.put_other nn', h.n4], by rw [isEmpty_snoc, List.map_append]; simp [put1_rd], by simp [put1_rd, h.t1], by simp [put1_rd, h.t2], by simp [put1_rd, h.t3], by simp [put1_rd, h.t4]⟩
end
def callX (x : Tr) : Dn := ⟨backN (numT (kidT x 1)), textT (kidT x 5), textT (kidT x 6), backN (numT (kidT x 2)), backN (numT (kidT x 0)), backN (numT (kidT x 3)), decide (numT (kidT x 4) = 1)⟩
def readT (v : Tr) : Td := ⟨(kidsT (kidT v 1)).map callX, backN (numT (kidT v 4)), backN (numT (kidT v 2)), decide (numT (kidT v 3) = 1), (kidsT (kidT v 0)).map textT⟩
def unbytesR (s : Bs) : Option Td :=
 if endS (oneV 4 ⟨s, 0, 0⟩).2 ≠ 0 then none
 else if checkB (readT (oneV 4 ⟨s, 0, 0⟩).1) = 0 ∧ bytesB (readT (oneV 4 ⟨s, 0, 0⟩).1) = s then some (readT (oneV 4 ⟨s, 0, 0⟩).1) else none
theorem numS_lt {k : Nat} {c : Sc} : (numS k c).1 < 256 ^ k := by
 unfold numS
 split
 ·exact Nat.pos_of_ne_zero (by simp)
 ·split
  ·exact Nat.pos_of_ne_zero (by simp)
  ·refine Nat.lt_of_lt_of_le (beN_lt _) (pow_le ?_)
   simp; omega
end Go.Vd

namespace Go.Vd
open Go.RowKit
mutual
def D.off (i : Id) : D → Bool
 | .ptr j _ => j != i
 | .row j _ => j != i
 | .agg cs => D.offL i cs
 | .tup cs => D.offL i cs
 | .fn _ cs => D.offL i cs
 | _ => true
def D.offL (i : Id) : List D → Bool
 | [] => true
 | d :: r => D.off i d && D.offL i r
end
theorem offL_all {i : Id} : ∀ {l : List D}, D.offL i l = true ↔ ∀ d ∈ l, d.off i = true
 | [] => by simp [D.offL]
 | d :: r => by simp only [D.offL, Bool.and_eq_true, offL_all, List.mem_cons, forall_eq_or_imp]
theorem offL_of {i : Id} {w : World} {g : Gh} {ds : List D} {vs : List Value} (hl : vs.length = ds.length) (h : ∀ (j : Nat) d v, ds[j]? = some d → vs[j]? = some v → d.off i = true) : D.offL i ds = true := by
 rw [offL_all]
 intro d hd
 obtain ⟨j, hj, rfl⟩ := List.getElem_of_mem hd
 exact h j _ vs[j] (List.getElem?_eq_getElem hj) (List.getElem?_eq_getElem (by omega))
theorem Rep.off {w : World} {g : Gh} {i : Id} (hi : g.dl i = none) {d : D} {v : Value} (h : Rep w g d v) : d.off i = true := by
 induction h with
 | ptr j o b h1 =>
  simp only [D.off, bne_iff_ne, ne_eq]
  rintro rfl; rw [hi] at h1; cases h1
 | row j n b h1 =>
  simp only [D.off, bne_iff_ne, ne_eq]
  rintro rfl; rw [hi] at h1; cases h1
 | agg ds vs h1 h2 h3 ih => simp only [D.off]; exact offL_of (w := w) (g := g) h1 ih
 | tup ds vs h1 h2 ih => simp only [D.off]; exact offL_of (w := w) (g := g) h1 ih
 | fn f ds vs h1 h2 ih => simp only [D.off]; exact offL_of (w := w) (g := g) h1 ih
 | _ => rfl
theorem Rep.drop {w : World} {g g' : Gh} {i : Id} (hdl : ∀ j b, j ≠ i → g.dl j = some b → g'.dl j = some b) (hG : ∀ b, g.G b ≤ g'.G b) (htb : ∀ j x, g.tb j = some x → g'.tb j = some x) {d : D} {v : Value} (h : Rep w g d v) (ho : d.off i = true) : Rep w g' d v := by
 have calm : ∀ {d : D} {v : Value}, Rep w g d v → d.calm = true → Rep w g' d v := fun h hc => h.calm_to hc (fun _ _ => rfl) hG
 have cf : ∀ {xs : List D}, (∀ d ∈ xs, d.calm = true) → ∀ d ∈ flat xs, d.calm = true := fun h9 d hd => by
  have := calm_flat h9 d hd
  first | exact this | (cases d <;> simp_all [D.calm, D.calm1])
 induction h with
 | junk v => exact .junk v
 | bool b => exact .bool b
 | int k n => exact .int k n
 | str s => exact .str s
 | nils t => exact .nils _
 | slice t xs a n c sz vv h1 h2 h3 h4 h5 h6 h7 h8 h9 ih =>
  refine .slice t xs a n c sz vv h1 h2 h3 h4 h5 (fun j d hd => calm (h6 j d hd) (cf h9 d (List.mem_of_getElem? hd))) (fun h => Nat.le_trans (h7 h) (hG _)) (fun ht => ?_) h9
  obtain ⟨q1, q2, q3⟩ := h8 ht
  exact ⟨q1, q2, htb _ _ q3⟩
 | ptr j o b h1 => exact .ptr j o b (hdl j b (by simpa [D.off] using ho) h1)
 | row j n b h1 => exact .row j n b (hdl j b (by simpa [D.off] using ho) h1)
 | eptr ds a vv h1 h2 h3 h4 h5 => exact .eptr ds a vv h1 h2 (fun j d hd => calm (h3 j d hd) (h5 d (List.mem_of_getElem? hd))) (fun h => Nat.le_trans (h4 h) (hG _)) h5
 | nilp => exact .nilp
 | agg ds vs h1 h2 h3 ih =>
  simp only [D.off, offL_all] at ho
  exact .agg _ vs h1 h2 (fun j d v hd hv => ih j d v hd hv (ho d (List.mem_of_getElem? hd)))
 | tup ds vs h1 h2 ih =>
  simp only [D.off, offL_all] at ho
  exact .tup _ vs h1 (fun j d v hd hv => ih j d v hd hv (ho d (List.mem_of_getElem? hd)))
 | iface t d v h1 h2 ih => exact .iface t d v h1 (calm h2 h1)
 | nili => exact .nili
 | fn f ds vs h1 h2 ih =>
  simp only [D.off, offL_all] at ho
  exact .fn f _ vs h1 (fun j d v hd hv => ih j d v hd hv (ho d (List.mem_of_getElem? hd)))
 | nilf => exact .nilf
 | nilm => exact .nilm
theorem calm_off {i : Id} {d : D} (h : d.calm1 = true) : d.off i = true := by
 cases d with
 | fn f cs =>
  have : cs = [] := by simpa [D.calm1] using h
  subst this; rfl
 | _ => first | rfl | (simp [D.calm1] at h; done)
theorem upd_old : ∀ {u : Upd} {m : Mem} {i : Id} {o : Nat} {d : D}, (∀ p ∈ u, ∀ x ∈ p.2.2, x.calm1 = true) → Upd.app m u i o = some d → d.calm1 = true ∨ m i o = some d
 | [], m, i, o, d, _, h => .inr h
 | (j, k, ds) :: u, m, i, o, d, hu, h => by
  rcases upd_old (u := u) (fun p hp => hu p (List.mem_cons_of_mem _ hp)) h with h1 | h1
  ·exact .inl h1
  ·by_cases hc : i = j ∧ k ≤ o ∧ o < k + ds.length
   ·left
    have : m.put j k ds i o = ds[o - k]? := by unfold Mem.put; rw [if_pos hc]
    rw [this] at h1
    exact hu _ (List.mem_cons_self ..) d (List.mem_of_getElem? h1)
   ·right
    have : m.put j k ds i o = m i o := by unfold Mem.put; rw [if_neg hc]
    rw [← this]; exact h1
theorem upd_out : ∀ {u : Upd} {m : Mem} {i : Id} {o : Nat}, (∀ p ∈ u, p.1 ≠ i) → Upd.app m u i o = m i o
 | [], m, i, o, _ => rfl
 | (j, k, ds) :: u, m, i, o, hu => by
  have h1 := upd_out (u := u) (m := m.put j k ds) (i := i) (o := o) (fun p hp => hu p (List.mem_cons_of_mem _ hp))
  have h2 : i ≠ j := fun e => hu _ (List.mem_cons_self ..) e.symm
  exact h1.trans (Mem.put_other h2)
theorem flat_id : ∀ {xs : List D}, (∀ x ∈ xs, x.cells = [x]) → flat xs = xs
 | [], _ => rfl
 | x :: r, h => by
  rw [flat, h x (List.mem_cons_self ..), flat_id fun y hy => h y (List.mem_cons_of_mem _ hy)]; rfl
section
variable {P : Program} {B : Nat} {w0 w : World} {m : Mem} {g : Gh} {S : Summs} {f : FuncId} {N : Nat} {dc : DC} {rs : List RV}
def Gh.settle (g : Gh) (i : Id) (b n : Nat) : Gh := { g with dl := fun j => if j = i then none else g.dl j, G := fun b' => if b' = b then n else g.G b' }
theorem opn_row (hS : Summs.ok P S) (hf : Fn P f N dc rs) {q : Summ} (hloc : ∀ ds m m' fr, (∀ l ∈ q.rd ds m, m l.1 l.2 = m' l.1 l.2) → q.ex ds m fr = q.ex ds m' fr)
  (hq : ∀ ds m fr r u, q.ex ds m fr = some (r, u) → (∀ i o, fr <:+ i → m i o = none) → ds.length ≤ N ∧ (∀ p ∈ u, ¬ fr <:+ p.1 ∧ ∀ x ∈ p.2.2, x.calm1 = true) ∧ ∃ xs, r = .slice false [] xs ∧ (∀ x ∈ xs, x.calm = true ∧ x.cells = [x]) ∧
   dc.wp S fr (Ends rs fun d m' => ∃ i, d = .row i xs.length ∧ fr <:+ i ∧ (∀ (j : Nat) x, xs[j]? = some x → m' i j = some x) ∧ ∀ i o x, Upd.app m u i o = some x → m' i o = some x) ⟨entryS ds, m, 0⟩) : q.ok P f := by
 obtain ⟨fn, code, h1, h2, h3, h4, h5, h6⟩ := hf.is
 refine ⟨⟨fn, h1, by rw [h2]; rfl, h3⟩, hloc, ?_⟩
 intro B w0 w m g fr ds vs r u hi hfresh hl hrep hex
 have hfr : ∀ k i, (k :: fr) <:+ i → Fresh m g i := fun k i h => hfresh i ((List.suffix_cons k fr).trans h)
 obtain ⟨hN, hu, xs, rfl, hxs, hwp⟩ := hq ds m fr r u hex (fun i o h => (hfresh i h).1 o)
 have hcalls := calls_of (ns := fr) hS hf hN hi hfr hl hrep hwp
 refine hcalls.mono ?_
 rintro e w' ⟨v, d, m', g', rfl, hinv, hext, hkeep, hrd, i, rfl, hsuf, hcell, hle⟩
 obtain ⟨b, rfl, hb⟩ := hrd.row_inv
 obtain ⟨hBb, hGb, cur, T, hheap, hobj⟩ := hinv.obj i b hb
 have hi0 : g.dl i = none := (hfresh i hsuf).2.1
 have hGle : ∀ b', g'.G b' ≤ (g'.settle i b xs.length).G b' := by
  intro b'
  simp only [Gh.settle]
  split
  ·rename_i e; rw [e, hGb]; exact Nat.zero_le _
  ·exact Nat.le_refl _
 have hdrop : ∀ {d : D} {v : Value}, Rep w' g' d v → d.off i = true → Rep w' (g'.settle i b xs.length) d v := fun h ho =>
  h.drop (i := i) (fun j b' hj e => by simp only [Gh.settle]; rw [if_neg hj]; exact e) hGle (fun _ _ e => e) ho
 have base := hinv.less hle
 have hnone : ∀ o, Upd.app m u i o = none := fun o => by
  rw [upd_out (fun p hp e => (hu p hp).1 (e ▸ hsuf))]; exact (hfresh i hsuf).1 o
 have hoff : ∀ j o d, Upd.app m u j o = some d → d.off i = true := by
  intro j o d hd
  rcases upd_old (fun p hp => (hu p hp).2) hd with h | h
  ·exact calm_off h
  ·cases hdl : g.dl j with
   | none =>
    obtain ⟨e, rfl⟩ := hi.kind j o d h hdl
    rfl
   | some b' =>
    obtain ⟨_, _, vs', _, _, hr⟩ := hi.obj j b' hdl
    obtain ⟨v', _, _, hr'⟩ := hr o d h
    exact hr'.off hi0
 have hfin : InvM P B w0 (Upd.app m u) w' (g'.settle i b xs.length) := by
  refine ⟨hinv.below, hinv.size, fun b' hb' => ?_, fun b' hb' => ?_, fun j b' hj => ?_, fun j j' b' e1 e2 => ?_, fun j o d hm hn => ?_, fun j e hm => ?_, base.tinj⟩
  ·simp only [Gh.settle]
   have : b < w'.heap.size := (Array.getElem?_eq_some_iff.1 hheap).1
   rw [if_neg (by omega)]; exact hinv.gz b' hb'
  ·simp only [Gh.settle]; rw [if_neg (by omega)]; exact hinv.old b' hb'
  ·simp only [Gh.settle] at hj
   split at hj
   ·cases hj
   ·rename_i hne
    obtain ⟨p, q, vs', T', hh, r⟩ := base.obj j b' hj
    have hbb : b' ≠ b := fun e => hne (hinv.inj j i b (e ▸ hj) hb)
    refine ⟨p, by simp only [Gh.settle]; rw [if_neg hbb]; exact q, vs', T', hh, fun o d hm => ?_⟩
    obtain ⟨v', r1, r2, r3⟩ := r o d hm
    exact ⟨v', r1, r2, hdrop r3 (hoff j o d hm)⟩
  ·simp only [Gh.settle] at e1 e2
   split at e1
   ·cases e1
   ·split at e2
    ·cases e2
    ·exact hinv.inj j j' b' e1 e2
  ·by_cases hji : j = i
   ·subst hji; rw [hnone o] at hm; cases hm
   ·simp only [Gh.settle, if_neg hji] at hn
    exact base.kind j o d hm hn
  ·obtain ⟨b1, n, c, sz, cur', t1, t2, t3, t4, t5, t6, t7, t8, t9, t10⟩ := base.tok j e hm
   have hbb : b1 ≠ b := fun e' => t10 i (e' ▸ hb)
   refine ⟨b1, n, c, sz, cur', t1, t2, t3, t4, t5, t6, t7, t8, by simp only [Gh.settle]; rw [if_neg hbb]; exact t9, fun i' h' => ?_⟩
   simp only [Gh.settle] at h'
   split at h'
   ·cases h'
   ·exact t10 i' h'
 have hvl : ∀ (j : Nat), j < xs.length → ∃ v, cur[j]? = some v ∧ v.oneCell' = true ∧ ∃ x, xs[j]? = some x ∧ Rep w' g' x v := by
  intro j hj
  obtain ⟨v', r1, r2, r3⟩ := hobj j xs[j] (hcell j _ (List.getElem?_eq_getElem hj))
  exact ⟨v', r1, r2, _, List.getElem?_eq_getElem hj, r3⟩
 have hsz : xs.length ≤ cur.size := by
  rcases Nat.eq_zero_or_pos xs.length with h | h
  ·omega
  ·obtain ⟨v', r1, _⟩ := hvl (xs.length - 1) (by omega)
   have := (Array.getElem?_eq_some_iff.1 r1).1
   omega
 have hcalm : ∀ x ∈ xs, x.calm = true := fun x hx => (hxs x hx).1
 have hfl : flat xs = xs := flat_id fun x hx => (hxs x hx).2
 have hreps : Reps w' (g'.settle i b xs.length) (flat xs) (cur.toList.take xs.length) := by
  rw [hfl]
  refine ⟨by simp; omega, fun v hv => ?_, fun j x v hx hv => ?_⟩
  ·obtain ⟨j, hj, rfl⟩ := List.getElem_of_mem hv
   have hj' : j < xs.length := Nat.lt_of_lt_of_le hj (List.length_take_le _ _)
   obtain ⟨v', r1, r2, _⟩ := hvl j hj'
   have : (cur.toList.take xs.length)[j]? = some v' := by rw [List.getElem?_take_of_lt hj']; simpa using r1
   rw [List.getElem?_eq_getElem hj] at this
   rw [Option.some.inj this]; exact r2
  ·have hj' : j < xs.length := (List.getElem?_eq_some_iff.1 hx).1
   obtain ⟨v', r1, r2, x', hx', r3⟩ := hvl j hj'
   rw [hx] at hx'; obtain rfl := Option.some.inj hx'
   have : (cur.toList.take xs.length)[j]? = some v' := by rw [List.getElem?_take_of_lt hj']; simpa using r1
   rw [hv] at this; obtain rfl := Option.some.inj this
   exact r3.calm_to (hcalm x (List.mem_of_getElem? hx)) (fun _ _ => rfl) hGle
 refine ⟨_, g'.settle i b xs.length, rfl, hfin, ⟨hext.cell, fun b' => Nat.le_trans (hext.G b') (hGle b'), fun j b' hj => ?_, hext.G0, hext.tb⟩, ?_, fun j hf hn => ?_⟩
 ·simp only [Gh.settle]
  rw [if_neg (fun e => by rw [e, hi0] at hj; cases hj)]; exact hext.dl j b' hj
 ·refine Rep.ofRow (sz := 1) (cur := cur) (vs := cur.toList.take xs.length) hheap rfl (Nat.le_refl _) (fun d hd => by rw [(hxs d hd).2]; rfl) hreps (fun j v hv => ?_) (by simp [Gh.settle]) (fun h => absurd rfl h) hcalm
  have hj : j < xs.length := Nat.lt_of_lt_of_le (List.getElem?_eq_some_iff.1 hv).1 (List.length_take_le _ _)
  rw [List.getElem?_take_of_lt hj] at hv
  simpa using hv
 ·obtain ⟨k1, k2, k3⟩ := hkeep j hf hn
  refine ⟨fun o => ?_, ?_, k3⟩
  ·cases hx : Upd.app m u j o with
   | none => rfl
   | some x => exact absurd (k1 o) (by rw [hle j o x hx]; simp)
  ·simp only [Gh.settle]
   split
   ·rfl
   ·exact k2
end
end Go.Vd

namespace Go.Vd
open Go.RowKit
set_option maxRecDepth 10000
def opU (r : Id) (b : Bool) : Upd := [(r, 0, [.bool b])]
theorem rowU_op {S : Summs} {ns : Id} {n k : Nat} {ops l : List DOper} {s : Nat → D} {dst : Option Nat} {m : Mem} {K} {d : D} {r : Id} {b : Bool} : rowU S ns n ops l k s dst m K d (opU r b) = rowK S ns n ops l k (setS s dst d) (Upd.app m (opU r b)) K := rfl
theorem drawnU_op {S : Summs} {ns : Id} {n k : Nat} {ops l : List DOper} {s : Nat → D} {dst : Option Nat} {m : Mem} {op : DOp} {K} {d : D} {r : Id} {b : Bool} : drawnU S ns n ops l k s dst m op K d (opU r b) = drawnK S ns n ops l k (setS s dst d) (Upd.app m (opU r b)) fun k' s' m' f => K k' s' m' ((rds S s m op, wlocs (opU r b)) :: f) := rfl
theorem opU_rd {m : Mem} {r i : Id} {b : Bool} {o : Nat} : Upd.app m (opU r b) i o = if i = r ∧ o = 0 then some (.bool b) else m i o := put1_rd
def dNum : D → Option Int
 | .iface 86 (.int .u64 n) => some n
 | _ => none
def dText : D → Option Bs
 | .iface 9 (.str s) => some s
 | _ => none
def dTruth : D → Option Bool
 | .iface 4 (.bool b) => some b
 | _ => none
def dList : D → Option (List D)
 | .iface 99 (.slice false [] xs) => some xs
 | _ => none
def dPairs : D → Option (List D)
 | .iface 85 (.slice false [] xs) => some xs
 | _ => none
def isVal (d : D) : Bool := d.isNI || (dNum d).isSome || (dText d).isSome || (dTruth d).isSome || (dList d).isSome || (dPairs d).isSome
theorem isVal_inv {d : D} (h : isVal d = true) : d = .nilIface ∨ (∃ n, d = .iface 86 (.int .u64 n)) ∨ (∃ s, d = .iface 9 (.str s)) ∨ (∃ b, d = .iface 4 (.bool b)) ∨ (∃ xs, d = .iface 99 (.slice false [] xs)) ∨ ∃ xs, d = .iface 85 (.slice false [] xs) := by
 simp only [isVal, Bool.or_eq_true] at h
 rcases h with ((((h | h) | h) | h) | h) | h
 ·left; cases d <;> first | rfl | cases h
 ·unfold dNum at h; split at h
  ·exact .inr (.inl ⟨_, rfl⟩)
  ·cases h
 ·unfold dText at h; split at h
  ·exact .inr (.inr (.inl ⟨_, rfl⟩))
  ·cases h
 ·unfold dTruth at h; split at h
  ·exact .inr (.inr (.inr (.inl ⟨_, rfl⟩)))
  ·cases h
 ·unfold dList at h; split at h
  ·exact .inr (.inr (.inr (.inr (.inl ⟨_, rfl⟩))))
  ·cases h
 ·unfold dPairs at h; split at h
  ·exact .inr (.inr (.inr (.inr (.inr ⟨_, rfl⟩))))
  ·cases h
theorem dat_val (v : Tr) : isVal v.dat = true := by cases v <;> rfl
def F86 : List D → Option D
 | [d] => if isVal d = true then some (.tup [.int .u64 ((dNum d).getD 0), .bool (dNum d).isSome]) else none
 | _ => none
def F87 : List D → Option D
 | [d] => if isVal d = true then some (.tup [.str ((dText d).getD []), .bool (dText d).isSome]) else none
 | _ => none
theorem ok86 {P : Program} (hb : DeskB P) : (funS F86).ok P 86 := by
 refine fun_ok (S := fun _ => none) none_ok hb.f86 (fun ds r h => ?_) (fun ds r h => ?_)
 ·unfold F86 at h; split at h
  ·simp
  ·cases h
 ·unfold F86 at h; split at h
  ·rename_i d
   split at h
   ·rename_i hd
    simp only [Option.some.injEq] at h
    subst h
    unfold dc86
    rcases isVal_inv hd with rfl | ⟨_, rfl⟩ | ⟨_, rfl⟩ | ⟨_, rfl⟩ | ⟨_, rfl⟩ | ⟨_, rfl⟩
    all_goals
     simp only [↓go1, gB0, ↓x_tass, reduceIte, Nat.reduceEqDiff, Nat.reduceAdd, Nat.reduceSub, Nat.reduceLT, Nat.reduceLeDiff, put1_rd, rd_zero, rd_succ, gB1, reduceCtorEq, ldD_agg, gB3, rowU_op, drawnU_op, data_if, cells_if, un_if, calm_if, calm1_if, data_ni, cells_ni, un_ni, calm_ni, calm1_ni, tassV]
     first | done | exact ⟨rfl, rfl⟩ | rfl
   ·cases h
  ·cases h
theorem ok87 {P : Program} (hb : DeskB P) : (funS F87).ok P 87 := by
 refine fun_ok (S := fun _ => none) none_ok hb.f87 (fun ds r h => ?_) (fun ds r h => ?_)
 ·unfold F87 at h; split at h
  ·simp
  ·cases h
 ·unfold F87 at h; split at h
  ·rename_i d
   split at h
   ·rename_i hd
    simp only [Option.some.injEq] at h
    subst h
    unfold dc87
    rcases isVal_inv hd with rfl | ⟨_, rfl⟩ | ⟨_, rfl⟩ | ⟨_, rfl⟩ | ⟨_, rfl⟩ | ⟨_, rfl⟩
    all_goals
     simp only [↓go1, gB0, ↓x_tass, reduceIte, Nat.reduceEqDiff, Nat.reduceAdd, Nat.reduceSub, Nat.reduceLT, Nat.reduceLeDiff, put1_rd, rd_zero, rd_succ, gB1, reduceCtorEq, ldD_agg, gB3, rowU_op, drawnU_op, data_if, cells_if, un_if, calm_if, calm1_if, data_ni, cells_ni, un_ni, calm_ni, calm1_ni, tassV]
     first | done | exact ⟨rfl, rfl⟩ | rfl
   ·cases h
  ·cases h
def opQ (F : Bool → List D → Option (D × Bool)) : Summ where
 rd := fun ds _ => match ds with
  | .ptr r 0 :: _ => [(r, 0)]
  | _ => []
 ex := fun ds m _ => match ds with
  | .ptr r 0 :: rest => match m r 0 with
   | some (.bool b) => (F b rest).map fun x => (x.1, [(r, 0, [.bool x.2])])
   | _ => none
  | _ => none
theorem opQ_loc (F : Bool → List D → Option (D × Bool)) (ds : List D) (m m' : Mem) (fr : Id) (h : ∀ l ∈ (opQ F).rd ds m, m l.1 l.2 = m' l.1 l.2) : (opQ F).ex ds m fr = (opQ F).ex ds m' fr := by
 simp only [opQ] at h ⊢
 split
 ·rename_i r rest
  rw [h (r, 0) (by simp)]
 ·rfl
theorem opQ_inv {F : Bool → List D → Option (D × Bool)} {ds : List D} {m : Mem} {fr : Id} {d : D} {u : Upd} (h : (opQ F).ex ds m fr = some (d, u)) :
  ∃ r rest b b', ds = .ptr r 0 :: rest ∧ m r 0 = some (.bool b) ∧ F b rest = some (d, b') ∧ u = [(r, 0, [.bool b'])] := by
 simp only [opQ] at h
 split at h
 ·rename_i r rest
  split at h
  ·rename_i b hb
   rw [Option.map_eq_some_iff] at h
   obtain ⟨⟨d', b'⟩, hF, h⟩ := h
   simp only [Prod.mk.injEq] at h
   exact ⟨r, rest, b, b', rfl, hb, by rw [hF, ← h.1], h.2.symm⟩
  ·cases h
 ·cases h
theorem got_op {F : Bool → List D → Option (D × Bool)} {m : Mem} {fr r : Id} {rest : List D} {b b' : Bool} {d : D} {K : D × Upd → Prop} {g} (h : m r 0 = some (.bool b)) (hF : F b rest = some (d, b')) (k : K (d, opU r b')) : Got ((opQ F).ex (.ptr r 0 :: rest) m fr) K g := by
 refine Got.intro ?_ k
 simp only [opQ, h, hF]; rfl
theorem op_fin {m m' : Mem} {r : Id} {b : Bool} (h0 : m' r 0 = some (.bool b)) (h : ∀ i o, ¬ (i = r ∧ o = 0) → m i o = none ∨ m' i o = m i o) : ∀ i o x, Upd.app m [(r, 0, [.bool b])] i o = some x → m' i o = some x := by
 intro i o x hx
 have hx : (if i = r ∧ o = 0 then some (D.bool b) else m i o) = some x := by rw [← put1_rd]; exact hx
 by_cases e : i = r ∧ o = 0
 ·rw [if_pos e] at hx; rw [e.1, e.2, h0]; exact hx
 ·rw [if_neg e] at hx
  rcases h i o e with h | h
  ·rw [h] at hx; cases hx
  ·rw [h]; exact hx
def F55 (b : Bool) : List D → Option (D × Bool)
 | [d] => if isVal d = true then some (match dNum d with
  | some n => if 2199023255552 < n then (.int .i64 0, true) else (.int .i64 (IntKind.i64.wrap (IntKind.i64.wrap n - 1099511627776)), b)
  | none => (.int .i64 0, true)) else none
 | _ => none
def F56 (b : Bool) : List D → Option (D × Bool)
 | [d] => if isVal d = true then some (.bool ((dTruth d).getD false), b || !(dTruth d).isSome) else none
 | _ => none
def F57 (b : Bool) : List D → Option (D × Bool)
 | [d] => if isVal d = true then some (match dList d with
  | some xs => .slice false [] xs
  | none => .slice true [] [], b || !(dList d).isSome) else none
 | _ => none
def F58 (b : Bool) : List D → Option (D × Bool)
 | [d] => if isVal d = true then some (.str ((dText d).getD []), b || !(dText d).isSome) else none
 | _ => none
theorem ok56 {P : Program} (hb : DeskB P) : (opQ F56).ok P 56 := by
 refine opn_ok2 (S := fun _ => none) none_ok hb.f56 (opQ_loc _) (fun ds m fr d u h hfr => ?_)
 obtain ⟨r, rest, b, b', rfl, hr, hF, rfl⟩ := opQ_inv h
 unfold F56 at hF
 split at hF
 ·rename_i d
  split at hF
  ·rename_i hd
   simp only [Option.some.injEq, Prod.mk.injEq] at hF
   obtain ⟨rfl, rfl⟩ := hF
   refine ⟨by simp, ?_⟩
   clear h
   unfold dc56
   cases b
   all_goals
    rcases isVal_inv hd with rfl | ⟨_, rfl⟩ | ⟨_, rfl⟩ | ⟨_, rfl⟩ | ⟨_, rfl⟩ | ⟨_, rfl⟩
   all_goals
    simp only [↓go1, gB0, ↓x_tass, reduceIte, Nat.reduceEqDiff, Nat.reduceAdd, Nat.reduceSub, Nat.reduceLT, Nat.reduceLeDiff, put1_rd, rd_zero, rd_succ, gB1, reduceCtorEq, ldD_agg, gB3, rowU_op, drawnU_op, data_if, cells_if, un_if, calm_if, calm1_if, data_ni, cells_ni, un_ni, calm_ni, calm1_ni, tassV, hr, dTruth, dList, dText, Option.getD_some, Option.getD_none, Option.isSome_none]
    first
     | exact fun i o x h => h
     | exact op_fin (by simp [put1_rd, hr]) (fun i o hn => .inr (by simp only [put1_rd, if_neg hn]))
     | (refine ⟨rfl, ?_⟩; exact op_fin (by simp [put1_rd, hr]) (fun i o hn => .inr (by simp only [put1_rd, if_neg hn])))
  ·cases hF
 ·cases hF
theorem ok57 {P : Program} (hb : DeskB P) : (opQ F57).ok P 57 := by
 refine opn_ok2 (S := fun _ => none) none_ok hb.f57 (opQ_loc _) (fun ds m fr d u h hfr => ?_)
 obtain ⟨r, rest, b, b', rfl, hr, hF, rfl⟩ := opQ_inv h
 unfold F57 at hF
 split at hF
 ·rename_i d
  split at hF
  ·rename_i hd
   simp only [Option.some.injEq, Prod.mk.injEq] at hF
   obtain ⟨rfl, rfl⟩ := hF
   refine ⟨by simp, ?_⟩
   clear h
   unfold dc57
   cases b
   all_goals
    rcases isVal_inv hd with rfl | ⟨_, rfl⟩ | ⟨_, rfl⟩ | ⟨_, rfl⟩ | ⟨_, rfl⟩ | ⟨_, rfl⟩
   all_goals
    simp only [↓go1, gB0, ↓x_tass, reduceIte, Nat.reduceEqDiff, Nat.reduceAdd, Nat.reduceSub, Nat.reduceLT, Nat.reduceLeDiff, put1_rd, rd_zero, rd_succ, gB1, reduceCtorEq, ldD_agg, gB3, rowU_op, drawnU_op, data_if, cells_if, un_if, calm_if, calm1_if, data_ni, cells_ni, un_ni, calm_ni, calm1_ni, tassV, hr, dTruth, dList, dText, Option.getD_some, Option.getD_none, Option.isSome_none]
    first
     | exact fun i o x h => h
     | exact op_fin (by simp [put1_rd, hr]) (fun i o hn => .inr (by simp only [put1_rd, if_neg hn]))
     | (refine ⟨rfl, ?_⟩; exact op_fin (by simp [put1_rd, hr]) (fun i o hn => .inr (by simp only [put1_rd, if_neg hn])))
  ·cases hF
 ·cases hF
theorem ok58 {P : Program} (hb : DeskB P) : (opQ F58).ok P 58 := by
 have hS : Summs.ok P (tabL [(87, funS F87)]) := tabL_cons (ok87 hb) tabL_nil
 have s87 : tabL [(87, funS F87)] 87 = some (funS F87) := rfl
 generalize tabL [(87, funS F87)] = S at hS s87
 refine opn_ok2 (S := S) hS hb.f58 (opQ_loc _) (fun ds m fr d u h hfr => ?_)
 obtain ⟨r, rest, b, b', rfl, hr, hF, rfl⟩ := opQ_inv h
 unfold F58 at hF
 split at hF
 ·rename_i d
  split at hF
  ·rename_i hd
   simp only [Option.some.injEq, Prod.mk.injEq] at hF
   obtain ⟨rfl, rfl⟩ := hF
   refine ⟨by simp, ?_⟩
   clear h
   have f87 : F87 [d] = some (.tup [.str ((dText d).getD []), .bool (dText d).isSome]) := if_pos hd
   have u1 : d.un = d ∧ d.calm = true := by
    rcases isVal_inv hd with rfl | ⟨_, rfl⟩ | ⟨_, rfl⟩ | ⟨_, rfl⟩ | ⟨_, rfl⟩ | ⟨_, rfl⟩ <;> exact ⟨rfl, rfl⟩
   obtain ⟨u1, u2⟩ := u1
   unfold dc58
   cases b
   all_goals
    rcases isVal_inv hd with rfl | ⟨_, rfl⟩ | ⟨_, rfl⟩ | ⟨_, rfl⟩ | ⟨_, rfl⟩ | ⟨_, rfl⟩
   all_goals
    simp only [↓go1, gB0, ↓x_tass, reduceIte, Nat.reduceEqDiff, Nat.reduceAdd, Nat.reduceSub, Nat.reduceLT, Nat.reduceLeDiff, put1_rd, rd_zero, rd_succ, gB1, reduceCtorEq, ldD_agg, gB3, rowU_op, drawnU_op, data_if, cells_if, un_if, calm_if, calm1_if, data_ni, cells_ni, un_ni, calm_ni, calm1_ni, tassV, hr, callK_fun s87, f87, u1, u2, dTruth, dList, dText, Option.getD_some, Option.getD_none, Option.isSome_none]
    first
     | exact fun i o x h => h
     | exact op_fin (by simp [put1_rd, hr]) (fun i o hn => .inr (by simp only [put1_rd, if_neg hn]))
     | (refine ⟨rfl, ?_⟩; exact op_fin (by simp [put1_rd, hr]) (fun i o hn => .inr (by simp only [put1_rd, if_neg hn])))
  ·cases hF
 ·cases hF
theorem ok55 {P : Program} (hb : DeskB P) : (opQ F55).ok P 55 := by
 have hS : Summs.ok P (tabL [(86, funS F86)]) := tabL_cons (ok86 hb) tabL_nil
 have s86 : tabL [(86, funS F86)] 86 = some (funS F86) := rfl
 generalize tabL [(86, funS F86)] = S at hS s86
 refine opn_ok2 (S := S) hS hb.f55 (opQ_loc _) (fun ds m fr d u h hfr => ?_)
 obtain ⟨r, rest, b, b', rfl, hr, hF, rfl⟩ := opQ_inv h
 unfold F55 at hF
 split at hF
 ·rename_i d
  split at hF
  ·rename_i hd
   simp only [Option.some.injEq] at hF
   refine ⟨by simp, ?_⟩
   clear h
   have f86 : F86 [d] = some (.tup [.int .u64 ((dNum d).getD 0), .bool (dNum d).isSome]) := if_pos hd
   have u1 : d.un = d ∧ d.calm = true := by
    rcases isVal_inv hd with rfl | ⟨_, rfl⟩ | ⟨_, rfl⟩ | ⟨_, rfl⟩ | ⟨_, rfl⟩ | ⟨_, rfl⟩ <;> exact ⟨rfl, rfl⟩
   obtain ⟨u1, u2⟩ := u1
   unfold dc55
   cases hn : dNum d with
   | none =>
    rw [hn] at hF f86
    simp only [Prod.mk.injEq] at hF
    obtain ⟨rfl, rfl⟩ := hF
    simp only [Option.getD_none, Option.isSome_none] at f86
    simp only [↓go1, gB0, ↓x_tass, reduceIte, Nat.reduceEqDiff, Nat.reduceAdd, Nat.reduceSub, Nat.reduceLT, Nat.reduceLeDiff, put1_rd, rd_zero, rd_succ, gB1, reduceCtorEq, ldD_agg, gB3, rowU_op, drawnU_op, data_if, cells_if, un_if, calm_if, calm1_if, data_ni, cells_ni, un_ni, calm_ni, calm1_ni, hr, callK_fun s86, f86, u1, u2]
    exact fun i o x h => h
   | some n =>
    rw [hn] at hF f86
    simp only [Option.getD_some, Option.isSome_some] at f86
    by_cases hbig : 2199023255552 < n
    ·have hbig' : ((2199023255552 : Int) < n) = True := eq_true hbig
     simp only [if_pos hbig, Prod.mk.injEq] at hF
     obtain ⟨rfl, rfl⟩ := hF
     simp only [↓go1, gB0, ↓x_tass, reduceIte, Nat.reduceEqDiff, Nat.reduceAdd, Nat.reduceSub, Nat.reduceLT, Nat.reduceLeDiff, put1_rd, rd_zero, rd_succ, gB1, reduceCtorEq, ldD_agg, gB3, rowU_op, drawnU_op, data_if, cells_if, un_if, calm_if, calm1_if, data_ni, cells_ni, un_ni, calm_ni, calm1_ni, hr, callK_fun s86, f86, u1, u2, hbig']
     exact fun i o x h => h
    ·have hbig' : ((2199023255552 : Int) < n) = False := eq_false hbig
     simp only [if_neg hbig, Prod.mk.injEq] at hF
     obtain ⟨rfl, rfl⟩ := hF
     simp only [↓go1, gB0, ↓x_tass, reduceIte, Nat.reduceEqDiff, Nat.reduceAdd, Nat.reduceSub, Nat.reduceLT, Nat.reduceLeDiff, put1_rd, rd_zero, rd_succ, gB1, reduceCtorEq, ldD_agg, gB3, rowU_op, drawnU_op, data_if, cells_if, un_if, calm_if, calm1_if, data_ni, cells_ni, un_ni, calm_ni, calm1_ni, hr, callK_fun s86, f86, u1, u2, hbig']
     intro i o x hx
     by_cases e : i = r ∧ o = 0
     ·rw [if_pos e] at hx; rw [e.1, e.2, hr]; exact hx
     ·rw [if_neg e] at hx; exact hx
  ·cases hF
 ·cases hF
def F59 (b : Bool) : List D → Option (D × Bool)
 | [d] => if isVal d = true then (match dList d with
  | some [x0, x1, x2, x3, x4, x5, x6] => if isVal x0 && isVal x1 && isVal x2 && isVal x3 && isVal x4 && isVal x5 && isVal x6 then
    (match F55 b [x0] with
    | some (.int .i64 n0, b0) => match F55 b0 [x1] with
     | some (.int .i64 n1, b1) => match F55 b1 [x2] with
      | some (.int .i64 n2, b2) => match F55 b2 [x3] with
       | some (.int .i64 n3, b3) => match F56 b3 [x4] with
        | some (.bool t, b4) => match F58 b4 [x5] with
         | some (.str s, b5) => match F58 b5 [x6] with
          | some (.str s', b6) => some (dnD ⟨n1, s, s', n2, n0, n3, t⟩, b6)
          | _ => none
         | _ => none
        | _ => none
       | _ => none
      | _ => none
     | _ => none
    | _ => none) else none
  | some xs => if xs.length = 7 then none else some (dnD ⟨0, [], [], 0, 0, 0, false⟩, true)
  | none => some (dnD ⟨0, [], [], 0, 0, 0, false⟩, true)) else none
 | _ => none
theorem val_cells {d : D} (h : isVal d = true) : d.un = d ∧ d.calm = true ∧ d.cells = [d] ∧ d.data = true := by
 rcases isVal_inv h with rfl | ⟨_, rfl⟩ | ⟨_, rfl⟩ | ⟨_, rfl⟩ | ⟨_, rfl⟩ | ⟨_, rfl⟩ <;> exact ⟨rfl, rfl, rfl, rfl⟩
set_option maxHeartbeats 8000000 in
theorem ok59 {P : Program} (hb : DeskB P) : (opQ F59).ok P 59 := by
 have hS : Summs.ok P (tabL [(55, opQ F55), (56, opQ F56), (57, opQ F57), (58, opQ F58)]) := tabL_cons (ok55 hb) (tabL_cons (ok56 hb) (tabL_cons (ok57 hb) (tabL_cons (ok58 hb) tabL_nil)))
 have s55 : tabL [(55, opQ F55), (56, opQ F56), (57, opQ F57), (58, opQ F58)] 55 = some (opQ F55) := rfl
 have s56 : tabL [(55, opQ F55), (56, opQ F56), (57, opQ F57), (58, opQ F58)] 56 = some (opQ F56) := rfl
 have s57 : tabL [(55, opQ F55), (56, opQ F56), (57, opQ F57), (58, opQ F58)] 57 = some (opQ F57) := rfl
 have s58 : tabL [(55, opQ F55), (56, opQ F56), (57, opQ F57), (58, opQ F58)] 58 = some (opQ F58) := rfl
 generalize tabL [(55, opQ F55), (56, opQ F56), (57, opQ F57), (58, opQ F58)] = S at hS s55 s56 s57 s58
 refine opn_ok2 (S := S) hS hb.f59 (opQ_loc _) (fun ds m fr d u h hfr => ?_)
 obtain ⟨r, rest, b, b', rfl, hr, hF, rfl⟩ := opQ_inv h
 unfold F59 at hF
 split at hF
 ·rename_i v
  split at hF
  ·rename_i hv
   refine ⟨by simp, ?_⟩
   clear h
   have hne : (0 :: fr) ≠ r := fun e => by
    have := hfr (0 :: fr) 0 (List.suffix_cons 0 fr)
    rw [e, hr] at this; cases this
   have hr0 : (r = 0 :: fr) = False := eq_false (fun e => hne e.symm)
   have hr1 : (0 :: fr = r) = False := eq_false hne
   have c7 : ((7 : Nat) : Int) = 7 := rfl
   unfold dc59
   cases hl : dList v with
   | none =>
    rw [hl] at hF
    simp only [Option.some.injEq, Prod.mk.injEq] at hF
    obtain ⟨rfl, rfl⟩ := hF
    have f57 : F57 b [v] = some (.slice true [] [], true) := by simp only [F57, hl]; rw [if_pos hv]; simp
    have c0 : ((0 : Nat) : Int) = 0 := rfl
    simp only [↓go1, gB0, ↓x_tass, reduceIte, Nat.reduceEqDiff, Nat.reduceAdd, Nat.reduceSub, Nat.reduceLT, Nat.reduceLeDiff, put1_rd, rd_zero, rd_succ, gB1, reduceCtorEq, ldD_agg, gB3, rowU_op, drawnU_op, data_if, cells_if, un_if, calm_if, calm1_if, data_ni, cells_ni, un_ni, calm_ni, calm1_ni, c0, fill_nil, callK_fn s55, callK_fn s56, callK_fn s57, callK_fn s58, c7, Int.reduceEq, Int.reduceToNat, Int.reduceLE, opU_rd, hr, hr0, hr1, List.map_cons, List.map_nil, put_rd, res_cell]
    refine got_op (by simp [put_rd, hr, hr0]) f57 ?_
    simp only [↓go1, gB0, ↓x_tass, reduceIte, Nat.reduceEqDiff, Nat.reduceAdd, Nat.reduceSub, Nat.reduceLT, Nat.reduceLeDiff, put1_rd, rd_zero, rd_succ, gB1, reduceCtorEq, ldD_agg, gB3, rowU_op, drawnU_op, data_if, cells_if, un_if, calm_if, calm1_if, data_ni, cells_ni, un_ni, calm_ni, calm1_ni, c0, fill_nil, callK_fn s55, callK_fn s56, callK_fn s57, callK_fn s58, c7, Int.reduceEq, Int.reduceToNat, Int.reduceLE, opU_rd, hr, hr0, hr1, List.map_cons, List.map_nil, put_rd, res_cell]
    refine ⟨rfl, fun i o x hx => ?_⟩
    by_cases e : i = 0 :: fr
    ·have h1 : ¬ (i = r ∧ o < 1) := fun q => hne (e.symm.trans q.1)
     rw [if_neg h1, hfr i o (e ▸ List.suffix_cons 0 fr)] at hx; cases hx
    ·by_cases q2 : i = r ∧ o = 0
     ·obtain ⟨rfl, rfl⟩ := q2
      simpa [hr0] using hx
     ·have q1 : ¬ (i = r ∧ o < 1) := fun q => q2 ⟨q.1, by omega⟩
      simp only [e, q1, q2, if_false, false_and] at hx ⊢
      exact hx
   | some xs =>
    rw [hl] at hF
    have f57 : F57 b [v] = some (.slice false [] xs, b) := by simp only [F57, hl]; rw [if_pos hv]; simp
    by_cases h7 : xs.length = 7
    ·match xs, h7 with
     | [x0, x1, x2, x3, x4, x5, x6], _ =>
      simp only at hF
      split at hF
      ·rename_i hvs
       simp only [ne_eq, Bool.and_eq_true] at hvs
       obtain ⟨⟨⟨⟨⟨⟨v0, v1⟩, v2⟩, v3⟩, v4⟩, v5⟩, v6⟩ := hvs
       split at hF
       ·rename_i n0 b0 g0
        split at hF
        ·rename_i n1 b1 g1
         split at hF
         ·rename_i n2 b2 g2
          split at hF
          ·rename_i n3 b3 g3
           split at hF
           ·rename_i t b4 g4
            split at hF
            ·rename_i s b5 g5
             split at hF
             ·rename_i s' b6 g6
              simp only [Option.some.injEq, Prod.mk.injEq] at hF
              obtain ⟨rfl, rfl⟩ := hF
              have w0 := (val_cells v0).2.2.1
              have w1 := (val_cells v1).2.2.1
              have w2 := (val_cells v2).2.2.1
              have w3 := (val_cells v3).2.2.1
              have w4 := (val_cells v4).2.2.1
              have w5 := (val_cells v5).2.2.1
              have w6 := (val_cells v6).2.2.1
              have hfill : ∀ (p q r u : Int) (s s' : Bs) (o : Bool), fillD [.int .i64 0, .str [], .str [], .int .i64 0, .int .i64 0, .int .i64 0, .bool false] [(4, 1, .int .i64 p), (0, 1, .int .i64 q), (3, 1, .int .i64 r), (5, 1, .int .i64 u), (6, 1, .bool o), (1, 1, .str s), (2, 1, .str s')] = some [.int .i64 q, .str s, .str s', .int .i64 r, .int .i64 p, .int .i64 u, .bool o] := fun p q r u s s' o => rfl
              simp only [↓go1, gB0, ↓x_tass, reduceIte, Nat.reduceEqDiff, Nat.reduceAdd, Nat.reduceSub, Nat.reduceLT, Nat.reduceLeDiff, put1_rd, rd_zero, rd_succ, gB1, reduceCtorEq, ldD_agg, gB3, rowU_op, drawnU_op, data_if, cells_if, un_if, calm_if, calm1_if, data_ni, cells_ni, un_ni, calm_ni, calm1_ni, callK_fn s55, callK_fn s56, callK_fn s57, callK_fn s58, c7, Int.reduceEq, Int.reduceToNat, Int.reduceLE, opU_rd, hr, hr0, hr1, w0, w1, w2, w3, w4, w5, w6, hfill, List.map_cons, List.map_nil, put_rd, res_cell]
              refine got_op (by simp [put_rd, hr, hr0]) f57 ?_
              simp only [↓go1, gB0, ↓x_tass, reduceIte, Nat.reduceEqDiff, Nat.reduceAdd, Nat.reduceSub, Nat.reduceLT, Nat.reduceLeDiff, put1_rd, rd_zero, rd_succ, gB1, reduceCtorEq, ldD_agg, gB3, rowU_op, drawnU_op, data_if, cells_if, un_if, calm_if, calm1_if, data_ni, cells_ni, un_ni, calm_ni, calm1_ni, callK_fn s55, callK_fn s56, callK_fn s57, callK_fn s58, c7, Int.reduceEq, Int.reduceToNat, Int.reduceLE, opU_rd, hr, hr0, hr1, w0, w1, w2, w3, w4, w5, w6, hfill, List.map_cons, List.map_nil, put_rd, res_cell]
              refine got_op (by simp [opU_rd]) g0 ?_
              simp only [↓go1, gB0, ↓x_tass, reduceIte, Nat.reduceEqDiff, Nat.reduceAdd, Nat.reduceSub, Nat.reduceLT, Nat.reduceLeDiff, put1_rd, rd_zero, rd_succ, gB1, reduceCtorEq, ldD_agg, gB3, rowU_op, drawnU_op, data_if, cells_if, un_if, calm_if, calm1_if, data_ni, cells_ni, un_ni, calm_ni, calm1_ni, callK_fn s55, callK_fn s56, callK_fn s57, callK_fn s58, c7, Int.reduceEq, Int.reduceToNat, Int.reduceLE, opU_rd, hr, hr0, hr1, w0, w1, w2, w3, w4, w5, w6, hfill, List.map_cons, List.map_nil, put_rd, res_cell]
              refine got_op (by simp [opU_rd]) g1 ?_
              simp only [↓go1, gB0, ↓x_tass, reduceIte, Nat.reduceEqDiff, Nat.reduceAdd, Nat.reduceSub, Nat.reduceLT, Nat.reduceLeDiff, put1_rd, rd_zero, rd_succ, gB1, reduceCtorEq, ldD_agg, gB3, rowU_op, drawnU_op, data_if, cells_if, un_if, calm_if, calm1_if, data_ni, cells_ni, un_ni, calm_ni, calm1_ni, callK_fn s55, callK_fn s56, callK_fn s57, callK_fn s58, c7, Int.reduceEq, Int.reduceToNat, Int.reduceLE, opU_rd, hr, hr0, hr1, w0, w1, w2, w3, w4, w5, w6, hfill, List.map_cons, List.map_nil, put_rd, res_cell]
              refine got_op (by simp [opU_rd]) g2 ?_
              simp only [↓go1, gB0, ↓x_tass, reduceIte, Nat.reduceEqDiff, Nat.reduceAdd, Nat.reduceSub, Nat.reduceLT, Nat.reduceLeDiff, put1_rd, rd_zero, rd_succ, gB1, reduceCtorEq, ldD_agg, gB3, rowU_op, drawnU_op, data_if, cells_if, un_if, calm_if, calm1_if, data_ni, cells_ni, un_ni, calm_ni, calm1_ni, callK_fn s55, callK_fn s56, callK_fn s57, callK_fn s58, c7, Int.reduceEq, Int.reduceToNat, Int.reduceLE, opU_rd, hr, hr0, hr1, w0, w1, w2, w3, w4, w5, w6, hfill, List.map_cons, List.map_nil, put_rd, res_cell]
              refine got_op (by simp [opU_rd]) g3 ?_
              simp only [↓go1, gB0, ↓x_tass, reduceIte, Nat.reduceEqDiff, Nat.reduceAdd, Nat.reduceSub, Nat.reduceLT, Nat.reduceLeDiff, put1_rd, rd_zero, rd_succ, gB1, reduceCtorEq, ldD_agg, gB3, rowU_op, drawnU_op, data_if, cells_if, un_if, calm_if, calm1_if, data_ni, cells_ni, un_ni, calm_ni, calm1_ni, callK_fn s55, callK_fn s56, callK_fn s57, callK_fn s58, c7, Int.reduceEq, Int.reduceToNat, Int.reduceLE, opU_rd, hr, hr0, hr1, w0, w1, w2, w3, w4, w5, w6, hfill, List.map_cons, List.map_nil, put_rd, res_cell]
              refine got_op (by simp [opU_rd]) g4 ?_
              simp only [↓go1, gB0, ↓x_tass, reduceIte, Nat.reduceEqDiff, Nat.reduceAdd, Nat.reduceSub, Nat.reduceLT, Nat.reduceLeDiff, put1_rd, rd_zero, rd_succ, gB1, reduceCtorEq, ldD_agg, gB3, rowU_op, drawnU_op, data_if, cells_if, un_if, calm_if, calm1_if, data_ni, cells_ni, un_ni, calm_ni, calm1_ni, callK_fn s55, callK_fn s56, callK_fn s57, callK_fn s58, c7, Int.reduceEq, Int.reduceToNat, Int.reduceLE, opU_rd, hr, hr0, hr1, w0, w1, w2, w3, w4, w5, w6, hfill, List.map_cons, List.map_nil, put_rd, res_cell]
              refine got_op (by simp [opU_rd]) g5 ?_
              simp only [↓go1, gB0, ↓x_tass, reduceIte, Nat.reduceEqDiff, Nat.reduceAdd, Nat.reduceSub, Nat.reduceLT, Nat.reduceLeDiff, put1_rd, rd_zero, rd_succ, gB1, reduceCtorEq, ldD_agg, gB3, rowU_op, drawnU_op, data_if, cells_if, un_if, calm_if, calm1_if, data_ni, cells_ni, un_ni, calm_ni, calm1_ni, callK_fn s55, callK_fn s56, callK_fn s57, callK_fn s58, c7, Int.reduceEq, Int.reduceToNat, Int.reduceLE, opU_rd, hr, hr0, hr1, w0, w1, w2, w3, w4, w5, w6, hfill, List.map_cons, List.map_nil, put_rd, res_cell]
              refine got_op (by simp [opU_rd]) g6 ?_
              simp only [↓go1, gB0, ↓x_tass, reduceIte, Nat.reduceEqDiff, Nat.reduceAdd, Nat.reduceSub, Nat.reduceLT, Nat.reduceLeDiff, put1_rd, rd_zero, rd_succ, gB1, reduceCtorEq, ldD_agg, gB3, rowU_op, drawnU_op, data_if, cells_if, un_if, calm_if, calm1_if, data_ni, cells_ni, un_ni, calm_ni, calm1_ni, callK_fn s55, callK_fn s56, callK_fn s57, callK_fn s58, c7, Int.reduceEq, Int.reduceToNat, Int.reduceLE, opU_rd, hr, hr0, hr1, w0, w1, w2, w3, w4, w5, w6, hfill, List.map_cons, List.map_nil, put_rd, res_cell]
              refine Need.intro (fun p hp w hw' => ?_) ?_
              ·simp only [List.mem_cons, List.mem_nil_iff, or_false] at hp
               repeat' (rcases hp with rfl | hp)
               all_goals (try subst hp)
               all_goals simp only [List.getD_cons_succ, List.getD_cons_zero, wlocs, rds] at hw' ⊢
               all_goals
                simp only [↓go1, gB0, ↓x_tass, reduceIte, Nat.reduceEqDiff, Nat.reduceAdd, Nat.reduceSub, Nat.reduceLT, Nat.reduceLeDiff, put1_rd, rd_zero, rd_succ, gB1, reduceCtorEq, ldD_agg, gB3, rowU_op, drawnU_op, data_if, cells_if, un_if, calm_if, calm1_if, data_ni, cells_ni, un_ni, calm_ni, calm1_ni, callK_fn s55, callK_fn s56, callK_fn s57, callK_fn s58, c7, Int.reduceEq, Int.reduceToNat, Int.reduceLE, opU_rd, hr, hr0, hr1, w0, w1, w2, w3, w4, w5, w6, hfill, List.map_cons, List.map_nil, put_rd, res_cell, List.not_mem_nil]
              simp only [↓go1, gB0, ↓x_tass, reduceIte, Nat.reduceEqDiff, Nat.reduceAdd, Nat.reduceSub, Nat.reduceLT, Nat.reduceLeDiff, put1_rd, rd_zero, rd_succ, gB1, reduceCtorEq, ldD_agg, gB3, rowU_op, drawnU_op, data_if, cells_if, un_if, calm_if, calm1_if, data_ni, cells_ni, un_ni, calm_ni, calm1_ni, callK_fn s55, callK_fn s56, callK_fn s57, callK_fn s58, c7, Int.reduceEq, Int.reduceToNat, Int.reduceLE, opU_rd, hr, hr0, hr1, w0, w1, w2, w3, w4, w5, w6, hfill, List.map_cons, List.map_nil, put_rd, res_cell]
              refine ⟨rfl, fun i o x hx => ?_⟩
              by_cases e : i = 0 :: fr
              ·have h1 : ¬ (i = r ∧ o < 1) := fun q => hne (e.symm.trans q.1)
               rw [if_neg h1, hfr i o (e ▸ List.suffix_cons 0 fr)] at hx; cases hx
              ·by_cases q2 : i = r ∧ o = 0
               ·obtain ⟨rfl, rfl⟩ := q2
                simpa [hr0] using hx
               ·have q1 : ¬ (i = r ∧ o < 1) := fun q => q2 ⟨q.1, by omega⟩
                simp only [e, q1, q2, if_false, false_and] at hx ⊢
                exact hx
             ·cases hF
            ·cases hF
           ·cases hF
          ·cases hF
         ·cases hF
        ·cases hF
       ·cases hF
      ·cases hF
    ·have hF' : some (dnD ⟨0, [], [], 0, 0, 0, false⟩, true) = some (d, b') := by
      split at hF
      ·rename_i e
       simp only [Option.some.injEq] at e
       rw [e] at h7; simp at h7
      ·rename_i ys _ e
       simp only [Option.some.injEq] at e
       subst e
       rw [if_neg h7] at hF; exact hF
      ·rename_i e; cases e
     simp only [Option.some.injEq, Prod.mk.injEq] at hF'
     obtain ⟨rfl, rfl⟩ := hF'
     have h7' : ((xs.length : Int) = 7) = False := eq_false (by omega)
     simp only [↓go1, gB0, ↓x_tass, reduceIte, Nat.reduceEqDiff, Nat.reduceAdd, Nat.reduceSub, Nat.reduceLT, Nat.reduceLeDiff, put1_rd, rd_zero, rd_succ, gB1, reduceCtorEq, ldD_agg, gB3, rowU_op, drawnU_op, data_if, cells_if, un_if, calm_if, calm1_if, data_ni, cells_ni, un_ni, calm_ni, calm1_ni, h7', fill_nil, callK_fn s55, callK_fn s56, callK_fn s57, callK_fn s58, c7, Int.reduceEq, Int.reduceToNat, Int.reduceLE, opU_rd, hr, hr0, hr1, List.map_cons, List.map_nil, put_rd, res_cell]
     refine got_op (by simp [put_rd, hr, hr0]) f57 ?_
     simp only [↓go1, gB0, ↓x_tass, reduceIte, Nat.reduceEqDiff, Nat.reduceAdd, Nat.reduceSub, Nat.reduceLT, Nat.reduceLeDiff, put1_rd, rd_zero, rd_succ, gB1, reduceCtorEq, ldD_agg, gB3, rowU_op, drawnU_op, data_if, cells_if, un_if, calm_if, calm1_if, data_ni, cells_ni, un_ni, calm_ni, calm1_ni, h7', fill_nil, callK_fn s55, callK_fn s56, callK_fn s57, callK_fn s58, c7, Int.reduceEq, Int.reduceToNat, Int.reduceLE, opU_rd, hr, hr0, hr1, List.map_cons, List.map_nil, put_rd, res_cell]
     refine ⟨rfl, fun i o x hx => ?_⟩
     by_cases e : i = 0 :: fr
     ·have h1 : ¬ (i = r ∧ o < 1) := fun q => hne (e.symm.trans q.1)
      rw [if_neg h1, hfr i o (e ▸ List.suffix_cons 0 fr)] at hx; cases hx
     ·by_cases q2 : i = r ∧ o = 0
      ·obtain ⟨rfl, rfl⟩ := q2
       simpa [hr0] using hx
      ·have q1 : ¬ (i = r ∧ o < 1) := fun q => q2 ⟨q.1, by omega⟩
       simp only [e, q1, q2, if_false, false_and] at hx ⊢
       exact hx
  ·cases hF
 ·cases hF
end Go.Vd

namespace Go.Vd
open Go.RowKit
set_option maxRecDepth 10000
def pairD (p : Bs × D) : D := .agg [.str p.1, p.2]
def pdsOf : List D → Option (List (Bs × D))
 | [] => some []
 | .agg [.str k, y] :: r => if isVal y = true then (pdsOf r).map ((k, y) :: ·) else none
 | _ => none
theorem pdsOf_some : ∀ {xs : List D} {l : List (Bs × D)}, pdsOf xs = some l → xs = l.map pairD ∧ ∀ p ∈ l, isVal p.2 = true
 | [], l, h => by simp only [pdsOf, Option.some.injEq] at h; subst h; simp
 | x :: r, l, h => by
  unfold pdsOf at h
  split at h
  ·rename_i h0; cases h0
  ·rename_i k y r' h0
   simp only [List.cons.injEq] at h0
   obtain ⟨rfl, rfl⟩ := h0
   split at h
   ·rename_i hy
    rw [Option.map_eq_some_iff] at h
    obtain ⟨l', hl, rfl⟩ := h
    obtain ⟨e, hv⟩ := pdsOf_some hl
    refine ⟨by rw [e]; rfl, fun p hp => ?_⟩
    rcases List.mem_cons.1 hp with rfl | hp
    ·exact hy
    ·exact hv p hp
   ·cases h
  ·cases h
def badF (b : Bool) (l : List (Bs × D)) (names : List Bs) : Bool := (l.zip names).foldl (fun b p => b || decide (¬ p.1.1 = p.2)) b
def F54 (b : Bool) : List D → Option (D × Bool)
 | [d, .slice _ _ ns] => match strsOf ns with
  | some names => if isVal d = true ∧ names.length ≤ 1000 then (match dPairs d with
   | some ps => match pdsOf ps with
    | some l => if l.length = names.length then some (.slice false [] (l.map (·.2)), badF b l names) else some (.slice false [] (List.replicate names.length .nilIface), true)
    | none => none
   | none => some (.slice false [] (List.replicate names.length .nilIface), true)) else none
  | none => none
 | _ => none
structure OI (fr r : Id) (m0 m : Mem) (n i : Nat) (ys : List D) (b : Bool) : Prop where
 bad : m r 0 = some (.bool b)
 row : ∀ j, j < n → m (10 :: fr) j = some (if j < i then (ys[j]?).getD .nilIface else .nilIface)
 out : ∀ i o, ¬ fr <:+ i → ¬ (i = r ∧ o = 0) → m i o = m0 i o
section
variable {fr r : Id} {m0 m : Mem} {n i k o : Nat} {ys ds : List D} {b b' : Bool} {y : D}
theorem nsuf {j : Id} (h : ¬ fr <:+ j) : j ≠ k :: fr := fun e => h (e ▸ List.suffix_cons k fr)
theorem OI.put (h : OI fr r m0 m n i ys b) (hr : ¬ fr <:+ r) (hk : k ≠ 10) : OI fr r m0 (m.put (k :: fr) o ds) n i ys b :=
 ⟨by rw [Mem.put_other (nsuf hr)]; exact h.bad, fun j hj => by rw [Mem.put_other (by simp; omega)]; exact h.row j hj,
  fun i' o' h1 h2 => by rw [Mem.put_other (nsuf h1)]; exact h.out i' o' h1 h2⟩
theorem OI.set (h : OI fr r m0 m n i ys b) (hr : ¬ fr <:+ r) : OI fr r m0 (m.put r 0 [.bool b']) n i ys b' := by
 refine ⟨by simp [put1_rd], fun j hj => ?_, fun i' o' h1 h2 => ?_⟩
 ·rw [Mem.put_other (Ne.symm (nsuf hr))]; exact h.row j hj
 ·rw [put1_rd, if_neg h2]; exact h.out i' o' h1 h2
theorem OI.fill (h : OI fr r m0 m n i ys b) (hr : ¬ fr <:+ r) (hy : ys[i]? = some y) (hds : ds = [y]) : OI fr r m0 (m.put (10 :: fr) i ds) n (i + 1) ys b := by
 subst hds
 refine ⟨by rw [Mem.put_other (nsuf hr)]; exact h.bad, fun j hj => ?_, fun i' o' h1 h2 => ?_⟩
 ·rw [put1_rd]
  by_cases e : j = i
  ·rw [if_pos ⟨rfl, e⟩, if_pos (by omega), e, hy]; rfl
  ·rw [if_neg (fun q => e q.2), h.row j hj]
   by_cases hj : j < i
   ·rw [if_pos hj, if_pos (by omega)]
   ·rw [if_neg hj, if_neg (by omega)]
 ·rw [Mem.put_other (nsuf h1)]; exact h.out i' o' h1 h2
theorem OI.fin (h : OI fr r m0 m n i ys b) (hfr : ∀ i o, fr <:+ i → m0 i o = none) : ∀ i o x, Upd.app m0 [(r, 0, [.bool b])] i o = some x → m i o = some x :=
 op_fin h.bad (fun i o hn => by
  by_cases hi : fr <:+ i
  ·exact .inl (hfr i o hi)
  ·exact .inr (h.out i o hi hn))
end
set_option maxHeartbeats 8000000 in
theorem loop54 {S : Summs} {fr r : Id} {m0 : Mem} (hr : ¬ fr <:+ r) {l : List (Bs × D)} {names : List Bs} {b0 : Bool} (hlen : l.length = names.length) (h1000 : names.length ≤ 1000) (hv : ∀ p ∈ l, isVal p.2 = true) {nl nn : Bool} {tl tn : Id} {Q : Ex → St → Prop}
  (hexit : ∀ st, st.s 9 = .row (10 :: fr) names.length → OI fr r m0 st.m names.length names.length (l.map (·.2)) (badF b0 l names) → Q (.exit 0) st) :
  ∀ (k i : Nat) st g, i + k = l.length → st.s 33 = .slice nl tl (l.map pairD) → st.s 34 = .int .i64 (l.length : Int) → st.s 35 = .int .i64 (i : Int) → st.s 0 = .ptr r 0 → st.s 2 = .slice nn tn (names.map .str) → st.s 9 = .row (10 :: fr) names.length → 11 ≤ st.c →
   OI fr r m0 st.m names.length i (l.map (·.2)) (((l.zip names).take i).foldl (fun b p => b || decide (¬ p.1.1 = p.2)) b0) → loopW S fr dc54l0 Q st g := by
 intro k
 induction k with
 | zero =>
  intro i st g hik h33 h34 h35 h0 h2 h9 hc I
  refine wp_loopd dc54l0.eq_1 ?_
  have hlt : ((i : Int) < (l.length : Int)) = False := eq_false (by omega)
  simp only [↓go1, gB0, ↓x_tass, reduceIte, Nat.reduceEqDiff, Nat.reduceAdd, Nat.reduceSub, Nat.reduceLT, Nat.reduceLeDiff, put1_rd, put2_rd, rd_zero, rd_succ, gB1, reduceCtorEq, ldD_agg, gB3, rowU_op, drawnU_op, data_if, cells_if, un_if, calm_if, calm1_if, data_ni, cells_ni, un_ni, calm_ni, calm1_ni, h35, h34, hlt]
  have hz : (l.zip names).length ≤ i := by simp; omega
  rw [List.take_of_length_le hz] at I
  obtain rfl : i = names.length := by omega
  exact hexit _ h9 I
 | succ k ih =>
  intro i st g hik h33 h34 h35 h0 h2 h9 hc I
  refine wp_loopd dc54l0.eq_1 ?_
  have hlt : ((i : Int) < (l.length : Int)) = True := eq_true (by omega)
  have hi0 : ((0 : Int) ≤ (i : Int)) := by omega
  have hil : i < l.length := by omega
  have hin : i < names.length := by omega
  have hin' : ((i : Int) < (names.length : Int)) = True := eq_true (by omega)
  have hw : IntKind.i64.wrap ((i : Int) + 1) = ((i + 1 : Nat) : Int) := by rw [IntWalk.i64_in _ ⟨by omega, by omega⟩]; omega
  have hx : (l.map pairD)[i]? = some (.agg [.str l[i].1, l[i].2]) := by simp [hil, pairD]
  have hn : (names.map D.str)[i]? = some (.str names[i]) := by simp [hin]
  have hti : ((i : Int)).toNat = i := Int.toNat_natCast i
  have hzk : (l.zip names)[i]? = some (l[i], names[i]) := by
   rw [List.getElem?_zip_eq_some]; exact ⟨List.getElem?_eq_getElem hil, List.getElem?_eq_getElem hin⟩
  have htk : (l.zip names).take (i + 1) = (l.zip names).take i ++ [(l[i], names[i])] := by rw [List.take_add_one, hzk]; rfl
  have hys : (l.map (·.2))[i]? = some l[i].2 := by simp [hil]
  obtain ⟨u1, u2, u3, u4⟩ := val_cells (hv l[i] (List.getElem_mem hil))
  have hA : (st.c + 1 + 3) :: fr ≠ r := fun e => hr (e ▸ List.suffix_cons _ fr)
  have hA1 : ((st.c + 1 + 3) :: fr = r) = False := eq_false hA
  have hA2 : (r = (st.c + 1 + 3) :: fr) = False := eq_false (fun e => hA e.symm)
  have hR1 : (10 :: fr = r) = False := eq_false (fun e => hr (e ▸ List.suffix_cons _ fr))
  have hA3 : (10 = st.c + 1 + 3) = False := eq_false (by omega)
  have hA4 : (st.c + 1 + 3 = 10) = False := eq_false (by omega)
  have hrow := I.row i hin
  rw [if_neg (by omega)] at hrow
  have hbad := I.bad
  generalize hbb : ((l.zip names).take i).foldl (fun b p => b || decide (¬ p.1.1 = p.2)) b0 = bb at I hbad
  have hfold : ((l.zip names).take (i + 1)).foldl (fun b p => b || decide (¬ p.1.1 = p.2)) b0 = (bb || decide (¬ l[i].1 = names[i])) := by
   rw [htk, List.foldl_append, hbb]; rfl
  generalize l[i] = p at hx hys u1 u2 u3 u4 hfold
  obtain ⟨kx, y⟩ := p
  simp only at hx hys u1 u2 u3 u4 hfold
  cases bb
  ·simp only [↓go1, gB0, ↓x_tass, reduceIte, Nat.reduceEqDiff, Nat.reduceAdd, Nat.reduceSub, Nat.reduceLT, Nat.reduceLeDiff, put1_rd, put2_rd, rd_zero, rd_succ, gB1, reduceCtorEq, ldD_agg, gB3, rowU_op, drawnU_op, data_if, cells_if, un_if, calm_if, calm1_if, data_ni, cells_ni, un_ni, calm_ni, calm1_ni, h35, h34, h33, h0, h2, h9, hlt, hi0, hx, hn, hw, hti, hin', hA1, hA2, hA3, hA4, hR1, hrow, hbad, u1, u2, u3, u4]
   refine Need.intro (fun p hp => by cases hp) ?_
   simp only [↓go1, gB0, ↓x_tass, reduceIte, Nat.reduceEqDiff, Nat.reduceAdd, Nat.reduceSub, Nat.reduceLT, Nat.reduceLeDiff, put1_rd, put2_rd, rd_zero, rd_succ, gB1, reduceCtorEq, ldD_agg, gB3, rowU_op, drawnU_op, data_if, cells_if, un_if, calm_if, calm1_if, data_ni, cells_ni, un_ni, calm_ni, calm1_ni, h35, h34, h33, h0, h2, h9, hlt, hi0, hx, hn, hw, hti, hin', hA1, hA2, hA3, hA4, hR1, hrow, hbad, u1, u2, u3, u4]
   refine ih (i + 1) _ _ (by omega) h33 h34 rfl h0 h2 h9 (by simp only; omega) ?_
   rw [hfold, Bool.false_or]
   exact OI.fill (OI.set (OI.put (OI.put I hr (by omega)) hr (by omega)) hr) hr hys u3
  ·simp only [↓go1, gB0, ↓x_tass, reduceIte, Nat.reduceEqDiff, Nat.reduceAdd, Nat.reduceSub, Nat.reduceLT, Nat.reduceLeDiff, put1_rd, put2_rd, rd_zero, rd_succ, gB1, reduceCtorEq, ldD_agg, gB3, rowU_op, drawnU_op, data_if, cells_if, un_if, calm_if, calm1_if, data_ni, cells_ni, un_ni, calm_ni, calm1_ni, h35, h34, h33, h0, h2, h9, hlt, hi0, hx, hn, hw, hti, hin', hA1, hA2, hA3, hA4, hR1, hrow, hbad, u1, u2, u3, u4]
   refine Need.intro (fun p hp => by cases hp) ?_
   simp only [↓go1, gB0, ↓x_tass, reduceIte, Nat.reduceEqDiff, Nat.reduceAdd, Nat.reduceSub, Nat.reduceLT, Nat.reduceLeDiff, put1_rd, put2_rd, rd_zero, rd_succ, gB1, reduceCtorEq, ldD_agg, gB3, rowU_op, drawnU_op, data_if, cells_if, un_if, calm_if, calm1_if, data_ni, cells_ni, un_ni, calm_ni, calm1_ni, h35, h34, h33, h0, h2, h9, hlt, hi0, hx, hn, hw, hti, hin', hA1, hA2, hA3, hA4, hR1, hrow, hbad, u1, u2, u3, u4]
   refine ih (i + 1) _ _ (by omega) h33 h34 rfl h0 h2 h9 (by simp only; omega) ?_
   rw [hfold, Bool.true_or]
   exact OI.fill (OI.set (OI.put (OI.put I hr (by omega)) hr (by omega)) hr) hr hys u3
theorem dPairs_inv {d : D} {xs : List D} (h : dPairs d = some xs) : d = .iface 85 (.slice false [] xs) := by
 unfold dPairs at h
 split at h
 ·simp only [Option.some.injEq] at h; rw [h]
 ·cases h
theorem rep_rd {fr r : Id} {m : Mem} {n : Nat} {b : Bool} (hr : ¬ fr <:+ r) (hb : m r 0 = some (.bool b)) : OI fr r m (m.put (10 :: fr) 0 (List.replicate n .nilIface)) n 0 [] b := by
 refine ⟨by rw [Mem.put_other (nsuf hr)]; exact hb, fun j hj => ?_, fun i o h1 h2 => Mem.put_other (nsuf h1)⟩
 rw [put_rd, if_pos ⟨rfl, by omega, by simp; omega⟩, if_neg (by omega)]
 simp [hj]
theorem OI.ys {fr r : Id} {m0 m : Mem} {n : Nat} {ys ys' : List D} {b : Bool} (h : OI fr r m0 m n 0 ys b) : OI fr r m0 m n 0 ys' b :=
 ⟨h.bad, fun j hj => by rw [h.row j hj, if_neg (by omega), if_neg (by omega)], h.out⟩
set_option maxHeartbeats 8000000 in
theorem ok54 {P : Program} (hb : DeskB P) : (opQ F54).ok P 54 := by
 refine opn_row (S := fun _ => none) none_ok hb.f54 (opQ_loc _) (fun ds m fr d u h hfr => ?_)
 obtain ⟨r, rest, b, b', rfl, hbr, hF, rfl⟩ := opQ_inv h
 have hr : ¬ fr <:+ r := fun e => by rw [hfr r 0 e] at hbr; cases hbr
 unfold F54 at hF
 split at hF
 ·rename_i v nn tn ns
  split at hF
  ·rename_i names hns
   obtain rfl := strsOf_some hns
   split at hF
   ·rename_i hc
    obtain ⟨hv, h1000⟩ := hc
    have hu : ∀ p ∈ ([(r, 0, [D.bool b'])] : Upd), ¬ fr <:+ p.1 ∧ ∀ x ∈ p.2.2, x.calm1 = true := by
     intro p hp
     simp only [List.mem_singleton] at hp
     subst hp
     exact ⟨hr, fun x hx => by simp only [List.mem_singleton] at hx; rw [hx]; rfl⟩
    have hR1 : (10 :: fr = r) = False := eq_false (fun e => hr (e ▸ List.suffix_cons _ fr))
    have hR2 : (r = 10 :: fr) = False := eq_false (fun e => hr (e.symm ▸ List.suffix_cons _ fr))
    have hn0 : ((0 : Int) ≤ (names.length : Int)) := by omega
    have hnb : ((names.length : Int) * (((16 : Nat) : Int) + 1) ≤ 140737488355328) = True := eq_true (by omega)
    have hnn : ((names.length : Int) ≤ (names.length : Int)) = True := eq_true (Int.le_refl _)
    have hnt : ((names.length : Int)).toNat = names.length := by omega
    have I0 : OI fr r m (m.put (10 :: fr) 0 (List.replicate names.length .nilIface)) names.length 0 [] b := rep_rd hr hbr
    clear h
    have bare : ∀ (b'' : Bool) (m' : Mem) (xs : List D), xs.length = names.length → OI fr r m m' names.length names.length xs b'' → ∃ i, D.row (10 :: fr) names.length = .row i xs.length ∧ fr <:+ i ∧ (∀ (j : Nat) x, xs[j]? = some x → m' i j = some x) ∧ ∀ i o x, Upd.app m [(r, 0, [.bool b''])] i o = some x → m' i o = some x := by
     intro b'' m' xs hl I
     refine ⟨10 :: fr, by rw [hl], List.suffix_cons _ fr, fun j x hx => ?_, I.fin hfr⟩
     have hj : j < names.length := by rw [← hl]; exact (List.getElem?_eq_some_iff.1 hx).1
     rw [I.row j hj, if_pos hj, hx]; rfl
    have wrong : dPairs v = none ∨ (∃ l : List (Bs × D), dPairs v = some (l.map pairD) ∧ l.length ≠ names.length) → dc54.wp (fun _ => none) fr (Ends [.t 6] fun d m' => ∃ i, d = .row i (List.replicate names.length D.nilIface).length ∧ fr <:+ i ∧ (∀ (j : Nat) x, (List.replicate names.length D.nilIface)[j]? = some x → m' i j = some x) ∧ ∀ i o x, Upd.app m [(r, 0, [.bool true])] i o = some x → m' i o = some x) ⟨entryS [.ptr r 0, v, .slice nn tn (names.map .str)], m, 0⟩ := by
     intro hw
     have fin : ∀ m', OI fr r m m' names.length 0 [] true → ∃ i, D.row (10 :: fr) names.length = .row i (List.replicate names.length D.nilIface).length ∧ fr <:+ i ∧ (∀ (j : Nat) x, (List.replicate names.length D.nilIface)[j]? = some x → m' i j = some x) ∧ ∀ i o x, Upd.app m [(r, 0, [.bool true])] i o = some x → m' i o = some x := by
      intro m' I
      refine ⟨10 :: fr, by simp, List.suffix_cons _ fr, fun j x hx => ?_, I.fin hfr⟩
      have hj : j < names.length := by have := (List.getElem?_eq_some_iff.1 hx).1; simpa using this
      rw [I.row j hj, if_neg (by omega)]
      have : x = D.nilIface := List.eq_of_mem_replicate (List.mem_of_getElem? hx)
      rw [this]
     unfold dc54
     rcases hw with hw | ⟨l, hw, hne⟩
     ·rcases isVal_inv hv with rfl | ⟨_, rfl⟩ | ⟨_, rfl⟩ | ⟨_, rfl⟩ | ⟨_, rfl⟩ | ⟨_, rfl⟩
      all_goals first
       | (simp [dPairs] at hw; done)
       | skip
      all_goals
       simp only [↓go1, gB0, ↓x_tass, reduceIte, Nat.reduceEqDiff, Nat.reduceAdd, Nat.reduceSub, Nat.reduceLT, Nat.reduceLeDiff, put1_rd, put2_rd, rd_zero, rd_succ, gB1, reduceCtorEq, ldD_agg, gB3, rowU_op, drawnU_op, data_if, cells_if, un_if, calm_if, calm1_if, data_ni, cells_ni, un_ni, calm_ni, calm1_ni, tassV, hbr, hn0, hnb, hnn, hnt, hR1, hR2, Mem.put_other (nsuf hr)]
       simpa only [put1_rd, app_nil, app_cons] using fin _ (OI.set I0 hr)
     ·obtain rfl := dPairs_inv hw
      have hne' : ((l.length : Int) = (names.length : Int)) = False := eq_false (by omega)
      simp only [↓go1, gB0, ↓x_tass, reduceIte, Nat.reduceEqDiff, Nat.reduceAdd, Nat.reduceSub, Nat.reduceLT, Nat.reduceLeDiff, put1_rd, put2_rd, rd_zero, rd_succ, gB1, reduceCtorEq, ldD_agg, gB3, rowU_op, drawnU_op, data_if, cells_if, un_if, calm_if, calm1_if, data_ni, cells_ni, un_ni, calm_ni, calm1_ni, tassV, hbr, hn0, hnb, hnn, hnt, hR1, hR2, hne', Mem.put_other (nsuf hr)]
      simpa only [put1_rd, app_nil, app_cons] using fin _ (OI.set I0 hr)
    have wrongF : some (D.slice false [] (List.replicate names.length D.nilIface), true) = some (d, b') → (dPairs v = none ∨ (∃ l : List (Bs × D), dPairs v = some (l.map pairD) ∧ l.length ≠ names.length)) →
      [D.ptr r 0, v, D.slice nn tn (names.map .str)].length ≤ 63 ∧ (∀ p ∈ ([(r, 0, [D.bool b'])] : Upd), ¬ fr <:+ p.1 ∧ ∀ x ∈ p.2.2, x.calm1 = true) ∧ ∃ xs, d = .slice false [] xs ∧ (∀ x ∈ xs, x.calm = true ∧ x.cells = [x]) ∧
       dc54.wp (fun _ => none) fr (Ends [.t 6] fun d m' => ∃ i, d = .row i xs.length ∧ fr <:+ i ∧ (∀ (j : Nat) x, xs[j]? = some x → m' i j = some x) ∧ ∀ i o x, Upd.app m [(r, 0, [.bool b'])] i o = some x → m' i o = some x) ⟨entryS [.ptr r 0, v, .slice nn tn (names.map .str)], m, 0⟩ := by
     intro e hw
     simp only [Option.some.injEq, Prod.mk.injEq] at e
     obtain ⟨rfl, rfl⟩ := e
     refine ⟨by simp, hu, _, rfl, fun x hx => ?_, wrong hw⟩
     rw [List.eq_of_mem_replicate hx]; exact ⟨rfl, rfl⟩
    split at hF
    ·rename_i ps hps
     split at hF
     ·rename_i l hl
      obtain ⟨rfl, hvs⟩ := pdsOf_some hl
      split at hF
      ·rename_i hlen
       simp only [Option.some.injEq, Prod.mk.injEq] at hF
       obtain ⟨rfl, rfl⟩ := hF
       refine ⟨by simp, hu, _, rfl, fun x hx => ?_, ?_⟩
       ·obtain ⟨p, hp, rfl⟩ := List.mem_map.1 hx
        exact ⟨(val_cells (hvs p hp)).2.1, (val_cells (hvs p hp)).2.2.1⟩
       ·obtain rfl := dPairs_inv hps
        have heq : ((l.length : Int) = (names.length : Int)) = True := eq_true (by omega)
        unfold dc54
        simp only [↓go1, gB0, ↓x_tass, reduceIte, Nat.reduceEqDiff, Nat.reduceAdd, Nat.reduceSub, Nat.reduceLT, Nat.reduceLeDiff, put1_rd, put2_rd, rd_zero, rd_succ, gB1, reduceCtorEq, ldD_agg, gB3, rowU_op, drawnU_op, data_if, cells_if, un_if, calm_if, calm1_if, data_ni, cells_ni, un_ni, calm_ni, calm1_ni, tassV, hbr, hn0, hnb, hnn, hnt, hR1, hR2, heq, Mem.put_other (nsuf hr)]
        refine loop54 (m0 := m) hr (l := l) (names := names) (b0 := b) hlen h1000 hvs (fun st h9 I => ?_) l.length 0 _ _ (by omega) rfl rfl rfl rfl rfl rfl (by simp only; omega) I0.ys
        simp only [↓go1, gB0, ↓x_tass, reduceIte, Nat.reduceEqDiff, Nat.reduceAdd, Nat.reduceSub, Nat.reduceLT, Nat.reduceLeDiff, put1_rd, put2_rd, rd_zero, rd_succ, gB1, reduceCtorEq, ldD_agg, gB3, rowU_op, drawnU_op, data_if, cells_if, un_if, calm_if, calm1_if, data_ni, cells_ni, un_ni, calm_ni, calm1_ni, h9]
        have := bare _ _ (l.map (·.2)) (by simp [hlen]) I
        simpa only [put1_rd, app_nil, app_cons, List.length_map] using this
      ·rename_i hlen
       exact wrongF hF (.inr ⟨l, hps, hlen⟩)
     ·cases hF
    ·rename_i hps
     exact wrongF hF (.inl hps)
   ·cases hF
  ·cases hF
 ·cases hF
end Go.Vd

namespace Go.Vd
open Go.RowKit
theorem beN_from (l : Bs) : ∀ a : Nat, l.foldl (fun n b => 256 * n + b.toNat) a = a * 256 ^ l.length + beN l := by
 induction l with
 | nil => intro a; simp [beN]
 | cons b r ih =>
  intro a
  simp only [List.foldl_cons, beN, List.length_cons]
  rw [ih (256 * a + b.toNat), ih (256 * 0 + b.toNat)]
  simp only [Nat.pow_succ, Nat.add_mul, Nat.mul_zero, Nat.zero_add]
  rw [Nat.mul_comm 256 a, Nat.mul_assoc, Nat.mul_comm 256 (256 ^ r.length)]
  omega
theorem beN_cons (b : UInt8) (r : Bs) : beN (b :: r) = b.toNat * 256 ^ r.length + beN r := by
 have := beN_from r (256 * 0 + b.toNat)
 simp only [beN, List.foldl_cons] at this ⊢
 rw [this]; simp
theorem pow256 (k : Nat) : (2 : Int) ^ (8 * k) = ((256 ^ k : Nat) : Int) := by
 rw [Int.pow_mul]; simp
theorem byte_nat (n k : Nat) : (((n : Int).fdiv (2 ^ (8 * k))) % 256).toNat = n / 256 ^ k % 256 := by
 rw [pow256, Int.fdiv_eq_ediv_of_nonneg _ (Int.natCast_nonneg _)]
 omega
theorem beN_beB : ∀ (k n : Nat), beN (beB k (n : Int)) = n % 256 ^ k
 | 0, n => by simp [beB, beN, Nat.mod_one]
 | k + 1, n => by
  simp only [beB]
  rw [beN_cons, beB_len, beN_beB k n, byte_nat]
  have h1 : (UInt8.ofNat (n / 256 ^ k % 256)).toNat = n / 256 ^ k % 256 := by
   rw [UInt8.toNat_ofNat']; omega
  rw [h1, Nat.mod_pow_succ, Nat.mul_comm (256 ^ k)]; omega
theorem beB_beN (l : Bs) : beB l.length (beN l : Int) = l := by
 have inj : ∀ {a b : Bs}, a.length = b.length → beN a = beN b → a = b := by
  intro a
  induction a with
  | nil => intro b hl _; exact (List.eq_nil_of_length_eq_zero hl.symm).symm
  | cons x r ih =>
   intro b hl he
   cases b with
   | nil => simp at hl
   | cons y r' =>
    simp only [List.length_cons, Nat.add_right_cancel_iff] at hl
    rw [beN_cons, beN_cons, hl] at he
    have h1 := beN_lt r
    have h2 := beN_lt r'
    rw [hl] at h1
    have p : 0 < 256 ^ r'.length := Nat.pos_of_ne_zero (by simp)
    have hx : x.toNat = y.toNat := by
     have e1 : (x.toNat * 256 ^ r'.length + beN r) / 256 ^ r'.length = x.toNat := by
      rw [Nat.mul_comm, Nat.mul_add_div p, Nat.div_eq_of_lt h1]; rfl
     have e2 : (y.toNat * 256 ^ r'.length + beN r') / 256 ^ r'.length = y.toNat := by
      rw [Nat.mul_comm, Nat.mul_add_div p, Nat.div_eq_of_lt h2]; rfl
     rw [← e1, he, e2]
    have : x = y := UInt8.toNat_inj.1 hx
    subst this
    rw [ih hl (by omega)]
 refine inj (by rw [beB_len]) ?_
 rw [beN_beB, Nat.mod_eq_of_lt (beN_lt l)]
def Sc.rest (c : Sc) : Bs := c.s.drop c.at_
def Sc.adv (c : Sc) (k : Nat) : Sc := { c with at_ := c.at_ + k }
structure Sc.on (c : Sc) (w : Bs) : Prop where
 ok : c.bad = 0
 le : c.at_ ≤ c.s.length
 is : c.rest = w
theorem Sc.on.len {c : Sc} {w : Bs} (h : c.on w) : c.s.length - c.at_ = w.length := by
 have := congrArg List.length h.is
 simpa [Sc.rest] using this
theorem Sc.on.adv {c : Sc} {w r : Bs} (h : c.on (w ++ r)) : (c.adv w.length).on r := by
 have hl := h.len
 have hle := h.le
 simp only [List.length_append] at hl
 refine ⟨h.ok, by simp only [Sc.adv]; omega, ?_⟩
 have := h.is
 simp only [Sc.rest, Sc.adv] at this ⊢
 rw [← List.drop_drop, this, List.drop_left]
theorem adv_adv (c : Sc) (a b : Nat) : (c.adv a).adv b = c.adv (a + b) := by simp [Sc.adv, Nat.add_assoc]
theorem adv_zero (c : Sc) : c.adv 0 = c := rfl
theorem num_ok {c : Sc} {w r : Bs} (h : c.on (w ++ r)) : numS w.length c = (beN w, c.adv w.length) := by
 have hl := h.len
 simp only [List.length_append] at hl
 unfold numS
 rw [if_neg (by simp [h.ok]), if_neg (by omega)]
 have : c.s.drop c.at_ = w ++ r := h.is
 rw [this, List.take_left]; rfl
theorem num_ok1 {c : Sc} {b : UInt8} {r : Bs} (h : c.on (b :: r)) : numS 1 c = (b.toNat, c.adv 1) := by
 have := num_ok (w := [b]) (r := r) h
 simpa [beN] using this
theorem row_ok {c : Sc} {s r : Bs} (hs : s.length ≤ 65535) (h : c.on (rowB s ++ r)) : rowS c = (s, c.adv (rowB s).length) := by
 have h1 : c.on (beB 2 (s.length : Int) ++ (s ++ r)) := by simpa only [rowB, List.append_assoc] using h
 have n1 := num_ok h1
 have a1 := h1.adv
 rw [beB_len] at n1 a1
 have e : beN (beB 2 (s.length : Int)) = s.length := by rw [beN_beB, Nat.mod_eq_of_lt (by omega)]
 rw [e] at n1
 have hl := a1.len
 simp only [List.length_append] at hl
 unfold rowS
 rw [n1]
 simp only
 rw [if_neg (by simp [a1.ok]), if_neg (by omega)]
 have hi : (c.adv 2).s.drop (c.adv 2).at_ = s ++ r := a1.is
 rw [hi, List.take_left]
 simp [Sc.adv, rowB, beB_len, Nat.add_assoc]
mutual
def Tr.lev : Nat → Tr → Bool
 | 0, .list _ => false
 | 0, .pairs _ => false
 | n + 1, .list l => Tr.levL n l
 | n + 1, .pairs l => Tr.levP n l
 | _, _ => true
def Tr.levL : Nat → List Tr → Bool
 | _, [] => true
 | n, v :: r => Tr.lev n v && Tr.levL n r
def Tr.levP : Nat → List (Bs × Tr) → Bool
 | _, [] => true
 | n, (_, v) :: r => Tr.lev n v && Tr.levP n r
end
def Takes (n : Nat) (f : Sc → Tr × Sc) : Prop := ∀ (v : Tr) (c : Sc) (r : Bs), v.fit = true → v.good = true → v.lev n = true → c.on (v.enc ++ r) → f c = (v, c.adv v.enc.length)
theorem items_ok {n : Nat} {f : Sc → Tr × Sc} (hf : Takes n f) : ∀ (l acc : List Tr) (c : Sc) (r : Bs), Tr.fitL l = true → Tr.goodL l = true → Tr.levL n l = true → c.on (Tr.encL l ++ r) → itemsL f l.length acc c = (.list (acc ++ l), c.adv (Tr.encL l).length)
 | [], acc, c, r, _, _, _, _ => by simp [itemsL, Tr.encL, adv_zero]
 | v :: l, acc, c, r, h1, h2, h3, h => by
  simp only [Tr.fitL, Tr.goodL, Tr.levL, Bool.and_eq_true] at h1 h2 h3
  have h' : c.on (v.enc ++ (Tr.encL l ++ r)) := by simpa only [Tr.encL, List.append_assoc] using h
  have e := hf v c _ h1.1 h2.1 h3.1 h'
  simp only [List.length_cons, itemsL]
  rw [if_neg (by simp [h.ok]), e]
  simp only
  rw [items_ok hf l _ _ r h1.2 h2.2 h3.2 h'.adv, adv_adv]
  simp [Tr.encL, List.append_assoc]
theorem kidsA_ok {n : Nat} {f : Sc → Tr × Sc} (hf : Takes n f) : ∀ (l acc : List Tr) (c : Sc) (r : Bs), Tr.fitL l = true → Tr.goodL l = true → Tr.levL n l = true → c.on (Tr.encL l ++ r) → kidsA f l.length acc c = (.list (acc ++ l), c.adv (Tr.encL l).length)
 | [], acc, c, r, _, _, _, _ => by simp [kidsA, Tr.encL, adv_zero]
 | v :: l, acc, c, r, h1, h2, h3, h => by
  simp only [Tr.fitL, Tr.goodL, Tr.levL, Bool.and_eq_true] at h1 h2 h3
  have h' : c.on (v.enc ++ (Tr.encL l ++ r)) := by simpa only [Tr.encL, List.append_assoc] using h
  have e := hf v c _ h1.1 h2.1 h3.1 h'
  simp only [List.length_cons, kidsA]
  rw [if_neg (by simp [h.ok]), e]
  simp only
  rw [kidsA_ok hf l _ _ r h1.2 h2.2 h3.2 h'.adv, adv_adv]
  simp [Tr.encL, List.append_assoc]
theorem lastB_snoc (acc : List (Bs × Tr)) (k s : Bs) (v : Tr) : lastB (acc ++ [(k, v)]) s = !(Op.bytesLess k s) := by
 simp [lastB]
def goes (acc l : List (Bs × Tr)) : Prop := match l with
 | [] => True
 | (k, _) :: _ => lastB acc k = false
theorem goes_next {acc l : List (Bs × Tr)} {k : Bs} {v : Tr} (h : ascP ((k, v) :: l) = true) : goes (acc ++ [(k, v)]) l ∧ ascP l = true := by
 cases l with
 | nil => exact ⟨trivial, rfl⟩
 | cons p r =>
  obtain ⟨b, w⟩ := p
  simp only [ascP, Bool.and_eq_true] at h ⊢
  refine ⟨?_, h.2⟩
  show lastB _ b = false
  rw [lastB_snoc, h.1]; rfl
theorem named_ok {n : Nat} {f : Sc → Tr × Sc} (hf : Takes n f) : ∀ (l acc : List (Bs × Tr)) (c : Sc) (r : Bs), Tr.fitP l = true → Tr.goodP l = true → ascP l = true → goes acc l → Tr.levP n l = true → c.on (Tr.encP l ++ r) → namedL f l.length acc c = (.pairs (acc ++ l), c.adv (Tr.encP l).length)
 | [], acc, c, r, _, _, _, _, _, _ => by simp [namedL, Tr.encP, adv_zero]
 | (k, v) :: l, acc, c, r, h1, h2, ha, hg, h3, h => by
  simp only [Tr.fitP, Tr.goodP, Tr.levP, Bool.and_eq_true, decide_eq_true_eq] at h1 h2 h3
  have h' : c.on (rowB k ++ (v.enc ++ (Tr.encP l ++ r))) := by simpa only [Tr.encP, List.append_assoc] using h
  have e0 := row_ok h1.1.1 h'
  have h'' := h'.adv
  have e := hf v _ _ h1.1.2 h2.1 h3.1 h''
  have hl : lastB acc k = false := hg
  obtain ⟨g1, g2⟩ := goes_next (acc := acc) ha
  simp only [List.length_cons, namedL]
  rw [if_neg (by simp [h.ok]), e0]
  simp only [hl, Bool.false_eq_true, if_false]
  rw [if_neg (by simp [h''.ok]), e]
  simp only
  rw [named_ok hf l _ _ r h1.2 h2.2 g2 g1 h3.2 h''.adv, adv_adv, adv_adv]
  simp [Tr.encP, List.append_assoc, Nat.add_assoc]
theorem kidsB_ok {n : Nat} {f : Sc → Tr × Sc} (hf : Takes n f) : ∀ (l acc : List (Bs × Tr)) (c : Sc) (r : Bs), Tr.fitP l = true → Tr.goodP l = true → ascP l = true → goes acc l → Tr.levP n l = true → c.on (Tr.encP l ++ r) → kidsB f l.length acc c = (.pairs (acc ++ l), c.adv (Tr.encP l).length)
 | [], acc, c, r, _, _, _, _, _, _ => by simp [kidsB, Tr.encP, adv_zero]
 | (k, v) :: l, acc, c, r, h1, h2, ha, hg, h3, h => by
  simp only [Tr.fitP, Tr.goodP, Tr.levP, Bool.and_eq_true, decide_eq_true_eq] at h1 h2 h3
  have h' : c.on (rowB k ++ (v.enc ++ (Tr.encP l ++ r))) := by simpa only [Tr.encP, List.append_assoc] using h
  have e0 := row_ok h1.1.1 h'
  have h'' := h'.adv
  have e := hf v _ _ h1.1.2 h2.1 h3.1 h''
  have hl : lastB acc k = false := hg
  obtain ⟨g1, g2⟩ := goes_next (acc := acc) ha
  simp only [List.length_cons, kidsB]
  rw [if_neg (by simp [h.ok]), e0]
  simp only [hl, Bool.false_eq_true, and_false, if_false]
  rw [if_neg (by simp [h''.ok]), e]
  simp only
  rw [kidsB_ok hf l _ _ r h1.2 h2.2 g2 g1 h3.2 h''.adv, adv_adv, adv_adv]
  simp [Tr.encP, List.append_assoc, Nat.add_assoc]
theorem count_ok {n : Nat} {c : Sc} {b : UInt8} {r : Bs} (hb : b.toNat ≤ 64) (h : c.on (b :: r)) : countS (n + 1) c = (b.toNat, c.adv 1) := by
 have h1 : ¬ n + 1 = 0 := by omega
 simp only [countS, if_neg h1, num_ok1 h]
 rw [if_neg (by rw [if_neg (by omega)]; simp)]
theorem len_byte {k : Nat} (h : k ≤ 64) : (UInt8.ofNat (k % 256)).toNat = k := by
 rw [UInt8.toNat_ofNat']; omega
theorem val_ok {n : Nat} {f : Sc → Tr × Sc} (hf : n = 0 ∨ ∃ k, n = k + 1 ∧ Takes k f) : Takes n (valS n f) := by
 intro v c r h1 h2 h3 h
 cases v with
 | nil =>
  have := num_ok1 (b := 0) (r := r) h
  simp only [valS, this]
  rw [if_neg (by simp [h.ok, Sc.adv])]
  simp [Tr.enc]
 | tr b =>
  cases b with
  | false =>
   have := num_ok1 (b := 1) (r := r) h
   simp only [valS, this]
   rw [if_neg (by simp [h.ok, Sc.adv])]
   simp [Tr.enc]
  | true =>
   have := num_ok1 (b := 2) (r := r) h
   simp only [valS, this]
   rw [if_neg (by simp [h.ok, Sc.adv])]
   simp [Tr.enc]
 | num x =>
  have h' : c.on (3 :: (beB 8 x ++ r)) := h
  have e := num_ok1 h'
  have a : (c.adv 1).on (beB 8 x ++ r) := Sc.on.adv (w := [3]) h'
  have e2 := num_ok a
  rw [beB_len] at e2
  simp only [Tr.fit, Bool.and_eq_true, decide_eq_true_eq] at h1
  have hx : ((beN (beB 8 x) : Nat) : Int) = x := by
   obtain ⟨N, rfl⟩ := Int.eq_ofNat_of_zero_le h1.1
   rw [beN_beB, Nat.mod_eq_of_lt (by omega)]
  simp only [valS, e]
  rw [if_neg (by simp [h.ok, Sc.adv])]
  simp [e2, hx, Tr.enc, beB_len, adv_adv, Nat.add_comm]
 | text s =>
  have h' : c.on (4 :: (rowB s ++ r)) := h
  have e := num_ok1 h'
  have a : (c.adv 1).on (rowB s ++ r) := Sc.on.adv (w := [4]) h'
  simp only [Tr.fit, decide_eq_true_eq] at h1
  have e2 := row_ok h1 a
  simp only [valS, e]
  rw [if_neg (by simp [h.ok, Sc.adv])]
  simp [e2, Tr.enc, adv_adv, Nat.add_comm]
 | list l =>
  rcases hf with rfl | ⟨k, rfl, hf⟩
  ·simp [Tr.lev] at h3
  ·simp only [Tr.fit, Tr.good, Tr.lev, Bool.and_eq_true, decide_eq_true_eq] at h1 h2 h3
   have h' : c.on (5 :: UInt8.ofNat (l.length % 256) :: (Tr.encL l ++ r)) := h
   have e := num_ok1 h'
   have a : (c.adv 1).on (UInt8.ofNat (l.length % 256) :: (Tr.encL l ++ r)) := Sc.on.adv (w := [5]) h'
   have e2 := count_ok (n := k) (by rw [len_byte h1.1]; exact h1.1) a
   have a2 : (c.adv 2).on (Tr.encL l ++ r) := Sc.on.adv (w := [UInt8.ofNat (l.length % 256)]) a
   have e3 := items_ok hf l [] _ r h1.2 h2 h3 a2
   simp only [len_byte h1.1, adv_adv, Nat.reduceAdd] at e2 e3
   simp only [valS, e]
   rw [if_neg (by simp [h.ok, Sc.adv])]
   simp [itemsS, e2, e3, Tr.enc, adv_adv, Nat.add_comm, Nat.add_left_comm]
   exact congrArg c.adv (by omega)
 | pairs l =>
  rcases hf with rfl | ⟨k, rfl, hf⟩
  ·simp [Tr.lev] at h3
  ·simp only [Tr.fit, Tr.good, Tr.lev, Bool.and_eq_true, decide_eq_true_eq] at h1 h2 h3
   have h' : c.on (6 :: UInt8.ofNat (l.length % 256) :: (Tr.encP l ++ r)) := h
   have e := num_ok1 h'
   have a : (c.adv 1).on (UInt8.ofNat (l.length % 256) :: (Tr.encP l ++ r)) := Sc.on.adv (w := [6]) h'
   have e2 := count_ok (n := k) (by rw [len_byte h1.1]; exact h1.1) a
   have a2 : (c.adv 2).on (Tr.encP l ++ r) := Sc.on.adv (w := [UInt8.ofNat (l.length % 256)]) a
   have hg : goes [] l := by cases l <;> first | trivial | rfl
   have e3 := named_ok hf l [] _ r h1.2 h2.2 h2.1 hg h3 a2
   simp only [len_byte h1.1, adv_adv, Nat.reduceAdd] at e2 e3
   simp only [valS, e]
   rw [if_neg (by simp [h.ok, Sc.adv])]
   simp [namedS, e2, e3, Tr.enc, adv_adv, Nat.add_comm, Nat.add_left_comm]
   exact congrArg c.adv (by omega)
theorem takeV_ok : ∀ n, Takes n (takeV n)
 | 0 => val_ok (.inl rfl)
 | n + 1 => val_ok (.inr ⟨n, rfl, takeV_ok n⟩)
theorem one_ok {n : Nat} {f : Sc → Tr × Sc} (hf : n = 0 ∨ ∃ k, n = k + 1 ∧ Takes k f) : Takes n (oneS n f) := by
 intro v c r h1 h2 h3 h
 cases v with
 | nil =>
  have := num_ok1 (b := 0) (r := r) h
  simp only [oneS, this]
  rw [if_neg (by simp [h.ok, Sc.adv])]
  simp [Tr.enc]
 | tr b =>
  cases b with
  | false =>
   have := num_ok1 (b := 1) (r := r) h
   simp only [oneS, this]
   rw [if_neg (by simp [h.ok, Sc.adv])]
   simp [Tr.enc]
  | true =>
   have := num_ok1 (b := 2) (r := r) h
   simp only [oneS, this]
   rw [if_neg (by simp [h.ok, Sc.adv])]
   simp [Tr.enc]
 | num x =>
  have h' : c.on (3 :: (beB 8 x ++ r)) := h
  have e := num_ok1 h'
  have a : (c.adv 1).on (beB 8 x ++ r) := Sc.on.adv (w := [3]) h'
  have e2 := num_ok a
  rw [beB_len] at e2
  simp only [Tr.fit, Bool.and_eq_true, decide_eq_true_eq] at h1
  have hx : ((beN (beB 8 x) : Nat) : Int) = x := by
   obtain ⟨N, rfl⟩ := Int.eq_ofNat_of_zero_le h1.1
   rw [beN_beB, Nat.mod_eq_of_lt (by omega)]
  simp only [oneS, e]
  rw [if_neg (by simp [h.ok, Sc.adv])]
  simp [e2, hx, Tr.enc, beB_len, adv_adv, Nat.add_comm]
 | text s =>
  have h' : c.on (4 :: (rowB s ++ r)) := h
  have e := num_ok1 h'
  have a : (c.adv 1).on (rowB s ++ r) := Sc.on.adv (w := [4]) h'
  simp only [Tr.fit, decide_eq_true_eq] at h1
  have e2 := row_ok h1 a
  simp only [oneS, e]
  rw [if_neg (by simp [h.ok, Sc.adv])]
  simp [e2, Tr.enc, adv_adv, Nat.add_comm]
 | list l =>
  rcases hf with rfl | ⟨k, rfl, hf⟩
  ·simp [Tr.lev] at h3
  ·simp only [Tr.fit, Tr.good, Tr.lev, Bool.and_eq_true, decide_eq_true_eq] at h1 h2 h3
   have h' : c.on (5 :: UInt8.ofNat (l.length % 256) :: (Tr.encL l ++ r)) := h
   have e := num_ok1 h'
   have a : (c.adv 1).on (UInt8.ofNat (l.length % 256) :: (Tr.encL l ++ r)) := Sc.on.adv (w := [5]) h'
   have e2 := num_ok1 a
   have a2 : (c.adv 2).on (Tr.encL l ++ r) := Sc.on.adv (w := [UInt8.ofNat (l.length % 256)]) a
   have e3 := kidsA_ok hf l [] _ r h1.2 h2 h3 a2
   simp only [len_byte h1.1, adv_adv, Nat.reduceAdd] at e2 e3
   have h64 : ¬ 64 < l.length := by omega
   simp only [oneS, e]
   rw [if_neg (by simp [h.ok, Sc.adv])]
   simp [e2, e3, h64, Tr.enc, adv_adv, Nat.add_comm, Nat.add_left_comm]
   exact congrArg c.adv (by omega)
 | pairs l =>
  rcases hf with rfl | ⟨k, rfl, hf⟩
  ·simp [Tr.lev] at h3
  ·simp only [Tr.fit, Tr.good, Tr.lev, Bool.and_eq_true, decide_eq_true_eq] at h1 h2 h3
   have h' : c.on (6 :: UInt8.ofNat (l.length % 256) :: (Tr.encP l ++ r)) := h
   have e := num_ok1 h'
   have a : (c.adv 1).on (UInt8.ofNat (l.length % 256) :: (Tr.encP l ++ r)) := Sc.on.adv (w := [6]) h'
   have e2 := num_ok1 a
   have a2 : (c.adv 2).on (Tr.encP l ++ r) := Sc.on.adv (w := [UInt8.ofNat (l.length % 256)]) a
   have hg : goes [] l := by cases l <;> first | trivial | rfl
   have e3 := kidsB_ok hf l [] _ r h1.2 h2.2 h2.1 hg h3 a2
   simp only [len_byte h1.1, adv_adv, Nat.reduceAdd] at e2 e3
   have h64 : ¬ 64 < l.length := by omega
   simp only [oneS, e]
   rw [if_neg (by simp [h.ok, Sc.adv])]
   simp [e2, e3, h64, Tr.enc, adv_adv, Nat.add_comm, Nat.add_left_comm]
   exact congrArg c.adv (by omega)
theorem oneV_ok : ∀ n, Takes n (oneV n)
 | 0 => one_ok (.inl rfl)
 | n + 1 => one_ok (.inr ⟨n, rfl, oneV_ok n⟩)
end Go.Vd

namespace Go.Vd
open Go.RowKit
structure Took (c : Sc) (w : Bs) (c' : Sc) : Prop where
 on : c.on (w ++ c'.rest)
 is : c' = c.adv w.length
theorem Took.next {c c' : Sc} {w : Bs} (h : Took c w c') : c'.on c'.rest := by
 have := h.on.adv
 rw [← h.is] at this; exact this
theorem Took.nil {c : Sc} (h : c.bad = 0) (hl : c.at_ ≤ c.s.length) : Took c [] c := ⟨⟨h, hl, rfl⟩, rfl⟩
theorem Took.app {c c' c'' : Sc} {w w' : Bs} (h : Took c w c') (h' : Took c' w' c'') : Took c (w ++ w') c'' := by
 refine ⟨⟨h.on.ok, h.on.le, ?_⟩, ?_⟩
 ·rw [h.on.is, h'.on.is, List.append_assoc]
 ·rw [h'.is, h.is, adv_adv, List.length_append]
theorem num_took {k : Nat} {c : Sc} (hl : c.at_ ≤ c.s.length) (hb : (numS k c).2.bad = 0) : ∃ w, w.length = k ∧ (numS k c).1 = beN w ∧ Took c w (numS k c).2 := by
 unfold numS at hb ⊢
 split at hb
 ·rename_i h; exact absurd hb h
 ·split at hb
  ·simp at hb
  ·rename_i h1 h2
   rw [if_neg h1, if_neg h2]
   have hlen : ((c.s.drop c.at_).take k).length = k := by rw [List.length_take, List.length_drop]; omega
   refine ⟨(c.s.drop c.at_).take k, hlen, rfl, ⟨⟨by simpa using h1, hl, ?_⟩, ?_⟩⟩
   ·simp only [Sc.rest]
    rw [← List.drop_drop, List.take_append_drop]
   ·rw [hlen]; rfl
theorem num_took1 {c : Sc} (hl : c.at_ ≤ c.s.length) (hb : (numS 1 c).2.bad = 0) : ∃ b : UInt8, (numS 1 c).1 = b.toNat ∧ Took c [b] (numS 1 c).2 := by
 obtain ⟨w, h1, h2, h3⟩ := num_took hl hb
 match w, h1 with
 | [b], _ => exact ⟨b, by rw [h2]; simp [beN], h3⟩
theorem row_took {c : Sc} (hl : c.at_ ≤ c.s.length) (hb : (rowS c).2.bad = 0) : Took c (rowB (rowS c).1) (rowS c).2 := by
 unfold rowS at hb ⊢
 split at hb
 ·rename_i h; exact absurd hb h
 ·rename_i h1
  split at hb
  ·simp at hb
  ·rename_i h2
   rw [if_neg h1, if_neg h2]
   have hb2 : (numS 2 c).2.bad = 0 := by simpa using h1
   obtain ⟨w, hw, hn, ht⟩ := num_took hl hb2
   generalize numS 2 c = p at h1 h2 hb hb2 hn ht ⊢
   obtain ⟨n, c1⟩ := p
   simp only at h2 hb hb2 hn ht ⊢
   have h1' := ht.next
   have hlen : ((c1.s.drop c1.at_).take n).length = n := by rw [List.length_take, List.length_drop]; omega
   have htk : Took c1 ((c1.s.drop c1.at_).take n) { c1 with at_ := c1.at_ + n } := by
    refine ⟨⟨hb2, h1'.le, ?_⟩, ?_⟩
    ·simp only [Sc.rest]
     rw [← List.drop_drop, List.take_append_drop]
    ·rw [hlen]; rfl
   have : rowB ((c1.s.drop c1.at_).take n) = w ++ (c1.s.drop c1.at_).take n := by
    unfold rowB
    have e := beB_beN w
    rw [hw, ← hn] at e
    rw [hlen, e]
   rw [this]
   exact ht.app htk
theorem fail_bad {e : Int} {c : Sc} (he : e ≠ 0) : (failS e c).bad ≠ 0 := by
 unfold failS; split
 ·exact he
 ·assumption
def Sound (f : Sc → Tr × Sc) : Prop := ∀ c : Sc, c.at_ ≤ c.s.length → (f c).2.bad = 0 → Took c (f c).1.enc (f c).2
theorem items_took {f : Sc → Tr × Sc} (hf : Sound f) (hs : Stays f) : ∀ (k : Nat) (acc : List Tr) (c : Sc), c.at_ ≤ c.s.length → (itemsL f k acc c).2.bad = 0 → ∃ l, (itemsL f k acc c).1 = .list (acc ++ l) ∧ l.length = k ∧ Took c (Tr.encL l) (itemsL f k acc c).2
 | 0, acc, c, hl, hb => ⟨[], by simp [itemsL], rfl, Took.nil hb hl⟩
 | k + 1, acc, c, hl, hb => by
  simp only [itemsL] at hb ⊢
  split at hb
  ·rename_i h; exact absurd hb h
  ·rename_i h
   rw [if_neg h]
   obtain ⟨e1, e2⟩ := hs c hl
   obtain ⟨l, a1, a2, a3⟩ := items_took hf hs k (acc ++ [(f c).1]) (f c).2 (by rw [e1]; exact e2) hb
   have hb1 : (f c).2.bad = 0 := a3.on.ok
   exact ⟨(f c).1 :: l, by rw [a1]; simp, by simp [a2], by simp only [Tr.encL]; exact (hf c hl hb1).app a3⟩
theorem named_took {f : Sc → Tr × Sc} (hf : Sound f) (hs : Stays f) : ∀ (k : Nat) (acc : List (Bs × Tr)) (c : Sc), c.at_ ≤ c.s.length → (namedL f k acc c).2.bad = 0 → ∃ l, (namedL f k acc c).1 = .pairs (acc ++ l) ∧ l.length = k ∧ Took c (Tr.encP l) (namedL f k acc c).2
 | 0, acc, c, hl, hb => ⟨[], by simp [namedL], rfl, Took.nil hb hl⟩
 | k + 1, acc, c, hl, hb => by
  simp only [namedL] at hb ⊢
  split at hb
  ·rename_i h; exact absurd hb h
  ·rename_i h
   rw [if_neg h]
   obtain ⟨r1, r2, _, _⟩ := rowS_inv hl
   by_cases hlast : lastB acc (rowS c).1 = true
   ·simp only [hlast, if_true] at hb
    rw [if_pos (fail_bad (by decide))] at hb
    exact absurd hb (fail_bad (by decide))
   ·have hnl : lastB acc (rowS c).1 = false := by simpa using hlast
    simp only [hnl, Bool.false_eq_true, if_false] at hb ⊢
    by_cases hb0 : (rowS c).2.bad = 0
    ·rw [if_neg (by simp [hb0])] at hb ⊢
     have hl1 : (rowS c).2.at_ ≤ (rowS c).2.s.length := by rw [r1]; exact r2
     obtain ⟨e1, e2⟩ := hs (rowS c).2 hl1
     obtain ⟨l, a1, a2, a3⟩ := named_took hf hs k (acc ++ [((rowS c).1, (f (rowS c).2).1)]) (f (rowS c).2).2 (by rw [e1]; exact e2) hb
     have hb1 : (f (rowS c).2).2.bad = 0 := a3.on.ok
     exact ⟨((rowS c).1, (f (rowS c).2).1) :: l, by rw [a1]; simp, by simp [a2], by simp only [Tr.encP]; exact ((row_took hl hb0).app (hf _ hl1 hb1)).app a3⟩
    ·rw [if_pos hb0] at hb
     exact absurd hb hb0
theorem count_took {n : Nat} {c : Sc} (hl : c.at_ ≤ c.s.length) (hb : (countS n c).2.bad = 0) : ∃ b : UInt8, (countS n c).1 = b.toNat ∧ Took c [b] (countS n c).2 := by
 simp only [countS] at hb ⊢
 by_cases hn : n = 0
 ·simp only [hn, if_true] at hb
  have h0 : (failS 24 c).bad ≠ 0 := fail_bad (by decide)
  have hnum : numS 1 (failS 24 c) = (0, failS 24 c) := by unfold numS; rw [if_pos h0]
  rw [hnum] at hb
  simp only at hb
  rw [if_neg (fun h => h0 h.1)] at hb
  exact absurd hb h0
 ·simp only [hn, if_false] at hb ⊢
  generalize he : (if 64 < (numS 1 c).1 then (5 : Int) else 0) = e at hb ⊢
  by_cases hc : (numS 1 c).2.bad = 0 ∧ e ≠ 0
  ·rw [if_pos hc] at hb
   exact absurd hb (fail_bad hc.2)
  ·rw [if_neg hc] at hb ⊢
   exact num_took1 hl hb
theorem byte_is {b : UInt8} {k : Nat} (h : b.toNat = k) : b = UInt8.ofNat k := by
 rw [← h, UInt8.ofNat_toNat]
theorem count0_bad {c : Sc} : (countS 0 c).2.bad ≠ 0 := by
 have h0 : (failS 24 c).bad ≠ 0 := fail_bad (by decide)
 have hnum : numS 1 (failS 24 c) = (0, failS 24 c) := by unfold numS; rw [if_pos h0]
 simp only [countS, if_true, hnum]
 rw [if_neg (fun h => h0 h.1)]; exact h0
theorem val_sound {n : Nat} {f : Sc → Tr × Sc} (hfs : n = 0 ∨ (Sound f ∧ Stays f)) : Sound (valS n f) := by
 intro c hl hb
 simp only [valS] at hb ⊢
 split at hb
 ·rename_i h; exact absurd hb h
 ·rename_i hp
  rw [if_neg hp]
  have hp0 : (numS 1 c).2.bad = 0 := by simpa using hp
  obtain ⟨b, hx, ht⟩ := num_took1 hl hp0
  have hl1 := ht.next.le
  generalize numS 1 c = p at hp hp0 hx ht hl1 hb ⊢
  obtain ⟨x, c1⟩ := p
  simp only at hp hp0 hx ht hl1 hb ⊢
  subst hx
  by_cases h0 : b.toNat = 0
  ·rw [if_pos h0]; obtain rfl := byte_is h0; exact ht
  rw [if_neg h0] at hb ⊢
  by_cases h1 : b.toNat = 1
  ·rw [if_pos h1]; obtain rfl := byte_is h1; exact ht
  rw [if_neg h1] at hb ⊢
  by_cases h2 : b.toNat = 2
  ·rw [if_pos h2]; obtain rfl := byte_is h2; exact ht
  rw [if_neg h2] at hb ⊢
  by_cases h3 : b.toNat = 3
  ·rw [if_pos h3] at hb ⊢
   obtain rfl := byte_is h3
   obtain ⟨w, w1, w2, w3⟩ := num_took (k := 8) hl1 hb
   simp only at hb ⊢
   have e := beB_beN w
   rw [w1, ← w2] at e
   simp only [Tr.enc, e]
   exact ht.app w3
  rw [if_neg h3] at hb ⊢
  by_cases h4 : b.toNat = 4
  ·rw [if_pos h4] at hb ⊢
   obtain rfl := byte_is h4
   simp only [Tr.enc]
   exact ht.app (row_took hl1 hb)
  rw [if_neg h4] at hb ⊢
  by_cases h5 : b.toNat = 5
  ·rw [if_pos h5] at hb ⊢
   obtain rfl := byte_is h5
   unfold itemsS at hb ⊢
   rcases hfs with rfl | ⟨hf, hs⟩
   ·rw [countS_zero] at hb
    exact absurd hb count0_bad
   obtain ⟨ca, cb, _⟩ := countS_inv (n := n) hl1
   obtain ⟨l, a1, a2, a3⟩ := items_took hf hs (countS n c1).1 [] (countS n c1).2 (by rw [ca]; exact cb) hb
   obtain ⟨b', q1, q2⟩ := count_took hl1 a3.on.ok
   rw [a1]
   have hb' : UInt8.ofNat (l.length % 256) = b' := by
    rw [a2, q1, Nat.mod_eq_of_lt b'.toNat_lt, UInt8.ofNat_toNat]
   simp only [List.nil_append, Tr.enc, hb']
   exact ht.app (q2.app a3)
  rw [if_neg h5] at hb ⊢
  by_cases h6 : b.toNat = 6
  ·rw [if_pos h6] at hb ⊢
   obtain rfl := byte_is h6
   unfold namedS at hb ⊢
   rcases hfs with rfl | ⟨hf, hs⟩
   ·rw [countS_zero] at hb
    exact absurd hb count0_bad
   obtain ⟨ca, cb, _⟩ := countS_inv (n := n) hl1
   obtain ⟨l, a1, a2, a3⟩ := named_took hf hs (countS n c1).1 [] (countS n c1).2 (by rw [ca]; exact cb) hb
   obtain ⟨b', q1, q2⟩ := count_took hl1 a3.on.ok
   rw [a1]
   have hb' : UInt8.ofNat (l.length % 256) = b' := by
    rw [a2, q1, Nat.mod_eq_of_lt b'.toNat_lt, UInt8.ofNat_toNat]
   simp only [List.nil_append, Tr.enc, hb']
   exact ht.app (q2.app a3)
  rw [if_neg h6] at hb
  exact absurd hb (fail_bad (by decide))
theorem takeV_sound : ∀ n, Sound (takeV n)
 | 0 => val_sound (.inl rfl)
 | n + 1 => val_sound (.inr ⟨takeV_sound n, Stays.takeV n⟩)
end Go.Vd

namespace Go.Vd
open Go.RowKit
set_option maxRecDepth 10000
def oNum (b : Bool) : Tr → Int × Bool
 | .num n => if 2199023255552 < n then (0, true) else (IntKind.i64.wrap (IntKind.i64.wrap n - 1099511627776), b)
 | _ => (0, true)
def oTruth (b : Bool) : Tr → Bool × Bool
 | .tr x => (x, b)
 | _ => (false, true)
def oText (b : Bool) : Tr → Bs × Bool
 | .text s => (s, b)
 | _ => ([], true)
def oList (b : Bool) : Tr → List Tr × Bool
 | .list l => (l, b)
 | _ => ([], true)
def zeroDn : Dn := ⟨0, [], [], 0, 0, 0, false⟩
def oSeven (b : Bool) (x0 x1 x2 x3 x4 x5 x6 : Tr) : Dn × Bool :=
 let p0 := oNum b x0
 let p1 := oNum p0.2 x1
 let p2 := oNum p1.2 x2
 let p3 := oNum p2.2 x3
 let p4 := oTruth p3.2 x4
 let p5 := oText p4.2 x5
 let p6 := oText p5.2 x6
 (⟨p1.1, p5.1, p6.1, p2.1, p0.1, p3.1, p4.1⟩, p6.2)
def oCall (b : Bool) : Tr → Dn × Bool
 | .list [x0, x1, x2, x3, x4, x5, x6] => oSeven b x0 x1 x2 x3 x4 x5 x6
 | _ => (zeroDn, true)
theorem f55_dat (b : Bool) (v : Tr) : F55 b [v.dat] = some (.int .i64 (oNum b v).1, (oNum b v).2) := by
 cases v with
 | num n =>
  have : dNum (Tr.dat (.num n)) = some n := rfl
  simp only [F55, dat_val, this, oNum, if_true]
  split <;> rfl
 | _ => rfl
theorem f56_dat (b : Bool) (v : Tr) : F56 b [v.dat] = some (.bool (oTruth b v).1, (oTruth b v).2) := by
 cases v <;> cases b <;> rfl
theorem f58_dat (b : Bool) (v : Tr) : F58 b [v.dat] = some (.str (oText b v).1, (oText b v).2) := by
 cases v <;> cases b <;> rfl
theorem f57_dat (b : Bool) (v : Tr) : ∃ nl, F57 b [v.dat] = some (.slice nl [] (Tr.datL (oList b v).1), (oList b v).2) := by
 cases v <;> cases b <;> exact ⟨_, rfl⟩
theorem f59_dat (b : Bool) (v : Tr) : F59 b [v.dat] = some (dnD (oCall b v).1, (oCall b v).2) := by
 cases v with
 | list l =>
  have hl : dList (Tr.dat (.list l)) = some (Tr.datL l) := rfl
  have hv := dat_val (.list l)
  by_cases h7 : l.length = 7
  ·match l, h7 with
   | [x0, x1, x2, x3, x4, x5, x6], _ =>
    have hl : dList (Tr.dat (.list [x0, x1, x2, x3, x4, x5, x6])) = some [x0.dat, x1.dat, x2.dat, x3.dat, x4.dat, x5.dat, x6.dat] := rfl
    unfold F59
    simp only [dat_val, if_true, hl, Bool.and_self, f55_dat, f56_dat, f58_dat]
    rfl
  ·unfold F59
   simp only [dat_val, if_true, hl]
   have hne : (Tr.datL l).length ≠ 7 := by rw [datL_len]; exact h7
   have ho : oCall b (.list l) = (zeroDn, true) := by
    unfold oCall
    split
    ·rename_i e
     simp only [Tr.list.injEq] at e
     rw [e] at h7; simp at h7
    ·rfl
   rw [ho]
   split
   ·rename_i e
    simp only [Option.some.injEq] at e
    rw [e] at hne; simp at hne
   ·rename_i xs _ e
    simp only [Option.some.injEq] at e
    subst e
    rw [if_neg hne]; rfl
   ·rename_i e; cases e
 | _ => rfl
def oTexts (b : Bool) : List Tr → List Bs × Bool
 | [] => ([], b)
 | v :: r => ((oText b v).1 :: (oTexts (oText b v).2 r).1, (oTexts (oText b v).2 r).2)
def oCalls (b : Bool) : List Tr → List Dn × Bool
 | [] => ([], b)
 | v :: r => ((oCall b v).1 :: (oCalls (oCall b v).2 r).1, (oCalls (oCall b v).2 r).2)
theorem oTexts_snoc : ∀ (l : List Tr) (b : Bool) (v : Tr), oTexts b (l ++ [v]) = ((oTexts b l).1 ++ [(oText (oTexts b l).2 v).1], (oText (oTexts b l).2 v).2)
 | [], b, v => rfl
 | x :: r, b, v => by simp only [List.cons_append, oTexts, oTexts_snoc r]
theorem oCalls_snoc : ∀ (l : List Tr) (b : Bool) (v : Tr), oCalls b (l ++ [v]) = ((oCalls b l).1 ++ [(oCall (oCalls b l).2 v).1], (oCall (oCalls b l).2 v).2)
 | [], b, v => rfl
 | x :: r, b, v => by simp only [List.cons_append, oCalls, oCalls_snoc r]
theorem oTexts_len : ∀ (l : List Tr) (b : Bool), (oTexts b l).1.length = l.length
 | [], b => rfl
 | x :: r, b => by simp [oTexts, oTexts_len r]
theorem oCalls_len : ∀ (l : List Tr) (b : Bool), (oCalls b l).1.length = l.length
 | [], b => rfl
 | x :: r, b => by simp [oCalls, oCalls_len r]
def names5 : List Bs := [kBehind, kCalls, kLeft, kSealed, kTicks]
def oFive : Tr → (Tr × Tr × Tr × Tr × Tr) × Bool
 | .pairs [(k0, x0), (k1, x1), (k2, x2), (k3, x3), (k4, x4)] => ((x0, x1, x2, x3, x4), decide (¬ [k0, k1, k2, k3, k4] = names5))
 | _ => ((.nil, .nil, .nil, .nil, .nil), true)
def readO (v : Tr) : Td × Bool :=
 let x := (oFive v).1
 let b := (oFive v).2
 let p2 := oNum b x.2.2.1
 let p3 := oTruth p2.2 x.2.2.2.1
 let p4 := oNum p3.2 x.2.2.2.2
 let q0 := oList p4.2 x.1
 let r0 := oTexts q0.2 q0.1
 let q1 := oList r0.2 x.2.1
 let r1 := oCalls q1.2 q1.1
 (⟨r1.1, p4.1, p2.1, p3.1, r0.1⟩, r1.2)
def unbytesO (s : Bs) : Option Td :=
 if endS (takeV 4 ⟨s, 0, 0⟩).2 ≠ 0 then none
 else if (readO (takeV 4 ⟨s, 0, 0⟩).1).2 = true ∨ checkB (readO (takeV 4 ⟨s, 0, 0⟩).1).1 ≠ 0 then none else some (readO (takeV 4 ⟨s, 0, 0⟩).1).1
theorem f54_dat (v : Tr) {nn : Bool} {tn : Id} : F54 false [v.dat, .slice nn tn (names5.map .str)] = some (.slice false [] [(oFive v).1.1.dat, (oFive v).1.2.1.dat, (oFive v).1.2.2.1.dat, (oFive v).1.2.2.2.1.dat, (oFive v).1.2.2.2.2.dat], (oFive v).2) := by
 have pds : ∀ l : List (Bs × Tr), pdsOf (Tr.datP l) = some (l.map fun p => (p.1, p.2.dat)) := by
  intro l
  induction l with
  | nil => rfl
  | cons p r ih =>
   obtain ⟨k, w⟩ := p
   simp only [Tr.datP, pdsOf, dat_val, if_true, ih, Option.map_some, List.map_cons]
 cases v with
 | pairs l =>
  have hp : dPairs (Tr.dat (.pairs l)) = some (Tr.datP l) := rfl
  simp only [F54, strsOf_map, dat_val, hp, pds]
  rw [if_pos ⟨trivial, by decide⟩]
  by_cases h5 : l.length = 5
  ·match l, h5 with
   | [(k0, x0), (k1, x1), (k2, x2), (k3, x3), (k4, x4)], _ =>
    rw [if_pos (by rfl)]
    simp only [oFive, List.map_cons, List.map_nil]
    have : badF false [(k0, x0.dat), (k1, x1.dat), (k2, x2.dat), (k3, x3.dat), (k4, x4.dat)] names5 = decide (¬ [k0, k1, k2, k3, k4] = names5) := by
     simp only [badF, names5, List.zip_cons_cons, List.zip_nil_left, List.foldl_cons, List.foldl_nil, Bool.false_or, List.cons.injEq, and_true]
     by_cases c0 : k0 = kBehind <;> by_cases c1 : k1 = kCalls <;> by_cases c2 : k2 = kLeft <;> by_cases c3 : k3 = kSealed <;> by_cases c4 : k4 = kTicks <;> simp [c0, c1, c2, c3, c4]
    rw [this]
  ·rw [if_neg (by simpa [names5] using h5)]
   have ho : oFive (.pairs l) = ((.nil, .nil, .nil, .nil, .nil), true) := by
    unfold oFive
    split
    ·rename_i e
     simp only [Tr.pairs.injEq] at e
     rw [e] at h5; simp at h5
    ·rfl
   rw [ho]; rfl
 | _ => rfl
theorem oNum_false {b : Bool} {v : Tr} {n : Int} (h : oNum b v = (n, false)) : b = false ∧ ∃ x, v = .num x ∧ x ≤ 2199023255552 ∧ n = IntKind.i64.wrap (IntKind.i64.wrap x - 1099511627776) := by
 cases v with
 | num x =>
  simp only [oNum] at h
  split at h
  ·simp at h
  ·rename_i hx
   simp only [Prod.mk.injEq] at h
   exact ⟨h.2, x, rfl, by omega, h.1.symm⟩
 | _ => simp [oNum] at h
theorem oTruth_false {b x : Bool} {v : Tr} (h : oTruth b v = (x, false)) : b = false ∧ v = .tr x := by
 cases v <;> simp [oTruth] at h
 exact ⟨h.2, by rw [h.1]⟩
theorem oText_false {b : Bool} {s : Bs} {v : Tr} (h : oText b v = (s, false)) : b = false ∧ v = .text s := by
 cases v <;> simp [oText] at h
 exact ⟨h.2, by rw [h.1]⟩
theorem oList_false {b : Bool} {l : List Tr} {v : Tr} (h : oList b v = (l, false)) : b = false ∧ v = .list l := by
 cases v <;> simp [oList] at h
 exact ⟨h.2, by rw [h.1]⟩
mutual
def Tr.tame : Tr → Bool
 | .num n => decide (0 ≤ n)
 | .list l => decide (l.length ≤ 255) && Tr.tameL l
 | .pairs l => decide (l.length ≤ 255) && Tr.tameP l
 | _ => true
def Tr.tameL : List Tr → Bool
 | [] => true
 | v :: r => Tr.tame v && Tr.tameL r
def Tr.tameP : List (Bs × Tr) → Bool
 | [] => true
 | (_, v) :: r => Tr.tame v && Tr.tameP r
end
theorem tameL_all : ∀ {l : List Tr}, Tr.tameL l = true ↔ ∀ v ∈ l, v.tame = true
 | [] => by simp [Tr.tameL]
 | v :: r => by simp only [Tr.tameL, Bool.and_eq_true, tameL_all, List.mem_cons, forall_eq_or_imp]
theorem tameP_all : ∀ {l : List (Bs × Tr)}, Tr.tameP l = true ↔ ∀ p ∈ l, p.2.tame = true
 | [] => by simp [Tr.tameP]
 | (k, v) :: r => by simp only [Tr.tameP, Bool.and_eq_true, tameP_all, List.mem_cons, forall_eq_or_imp]
theorem items_tame {f : Sc → Tr × Sc} (hf : ∀ c, (f c).1.tame = true) : ∀ (k : Nat) (acc : List Tr) (c : Sc), acc.length + k ≤ 255 → (∀ v ∈ acc, v.tame = true) → (itemsL f k acc c).1.tame = true
 | 0, acc, c, h, ha => by simp only [itemsL, Tr.tame, Bool.and_eq_true, decide_eq_true_eq, tameL_all]; exact ⟨by omega, ha⟩
 | k + 1, acc, c, h, ha => by
  unfold itemsL
  split
  ·rfl
  ·refine items_tame hf k _ _ (by simp; omega) (fun v hv => ?_)
   rcases List.mem_append.1 hv with hv | hv
   ·exact ha v hv
   ·simp only [List.mem_singleton] at hv; rw [hv]; exact hf c
theorem named_tame {f : Sc → Tr × Sc} (hf : ∀ c, (f c).1.tame = true) : ∀ (k : Nat) (acc : List (Bs × Tr)) (c : Sc), acc.length + k ≤ 255 → (∀ p ∈ acc, p.2.tame = true) → (namedL f k acc c).1.tame = true
 | 0, acc, c, h, ha => by simp only [namedL, Tr.tame, Bool.and_eq_true, decide_eq_true_eq, tameP_all]; exact ⟨by omega, ha⟩
 | k + 1, acc, c, h, ha => by
  unfold namedL
  split
  ·rfl
  ·simp only
   generalize (if lastB acc (rowS c).1 = true then failS 4 (rowS c).2 else (rowS c).2) = c2
   split
   ·rfl
   ·refine named_tame hf k _ _ (by simp; omega) (fun v hv => ?_)
    rcases List.mem_append.1 hv with hv | hv
    ·exact ha v hv
    ·simp only [List.mem_singleton] at hv; rw [hv]; exact hf c2
theorem count_lt {n : Nat} {c : Sc} : (countS n c).1 < 256 := by
 simp only [countS]
 simpa using numS_lt (k := 1) (c := if n = 0 then failS 24 c else c)
theorem val_tame {n : Nat} {f : Sc → Tr × Sc} (hf : ∀ c, (f c).1.tame = true) (c : Sc) : (valS n f c).1.tame = true := by
 simp only [valS]
 generalize numS 1 c = p
 split
 ·rfl
 ·split
  ·rfl
  ·split
   ·rfl
   ·split
    ·rfl
    ·split
     ·simp [Tr.tame]
     ·split
      ·rfl
      ·split
       ·have := count_lt (n := n) (c := p.2)
        exact items_tame hf _ _ _ (by simp; omega) (by simp)
       ·split
        ·have := count_lt (n := n) (c := p.2)
         exact named_tame hf _ _ _ (by simp; omega) (by simp)
        ·rfl
theorem takeV_tame : ∀ (n : Nat) (c : Sc), (takeV n c).1.tame = true
 | 0, c => val_tame (fun _ => rfl) c
 | n + 1, c => val_tame (takeV_tame n) c
end Go.Vd

namespace Go.Vd
open Go.RowKit
set_option maxRecDepth 10000
theorem oNum_cnt {b : Bool} {v : Tr} {n : Int} (h : oNum b v = (n, false)) (ht : v.tame = true) : b = false ∧ v = cntT n := by
 obtain ⟨h1, x, rfl, hx, hn⟩ := oNum_false h
 refine ⟨h1, ?_⟩
 simp only [Tr.tame, decide_eq_true_eq] at ht
 have w1 : IntKind.i64.wrap x = x := IntWalk.i64_in _ ⟨by omega, by omega⟩
 rw [w1, IntWalk.i64_in _ ⟨by omega, by omega⟩] at hn
 simp only [cntT, Tr.num.injEq]; omega
theorem pair_eta {α β : Type} {p : α × β} {b : β} (h : p.2 = b) : p = (p.1, b) := by rw [← h]
theorem oCall_strict {b : Bool} {v : Tr} {d : Dn} (h : oCall b v = (d, false)) (ht : v.tame = true) : b = false ∧ v = callT d := by
 unfold oCall at h
 split at h
 ·rename_i x0 x1 x2 x3 x4 x5 x6
  simp only [Tr.tame, Tr.tameL, Bool.and_eq_true] at ht
  obtain ⟨_, t0, t1, t2, t3, t4, t5, t6, _⟩ := ht
  simp only [oSeven, Prod.mk.injEq] at h
  obtain ⟨hd, h6⟩ := h
  obtain ⟨h5, e6⟩ := oText_false (pair_eta h6)
  obtain ⟨h4, e5⟩ := oText_false (pair_eta h5)
  obtain ⟨h3, e4⟩ := oTruth_false (pair_eta h4)
  obtain ⟨h2, e3⟩ := oNum_cnt (pair_eta h3) t3
  obtain ⟨h1, e2⟩ := oNum_cnt (pair_eta h2) t2
  obtain ⟨h0, e1⟩ := oNum_cnt (pair_eta h1) t1
  obtain ⟨hb, e0⟩ := oNum_cnt (pair_eta h0) t0
  refine ⟨hb, ?_⟩
  rw [← hd]
  simp only [callT]
  rw [← e0, ← e1, ← e2, ← e3, ← e4, ← e5, ← e6]
 ·simp at h
theorem oTexts_strict : ∀ {l : List Tr} {b : Bool}, (oTexts b l).2 = false → b = false ∧ l = (oTexts b l).1.map .text
 | [], b, h => ⟨h, rfl⟩
 | v :: r, b, h => by
  simp only [oTexts] at h ⊢
  obtain ⟨h1, h2⟩ := oTexts_strict h
  obtain ⟨h3, h4⟩ := oText_false (pair_eta h1)
  refine ⟨h3, ?_⟩
  rw [List.map_cons, ← h2, ← h4]
theorem oCalls_strict : ∀ {l : List Tr} {b : Bool}, (oCalls b l).2 = false → Tr.tameL l = true → b = false ∧ l = (oCalls b l).1.map callT
 | [], b, h, _ => ⟨h, rfl⟩
 | v :: r, b, h, ht => by
  simp only [Tr.tameL, Bool.and_eq_true] at ht
  simp only [oCalls] at h ⊢
  obtain ⟨h1, h2⟩ := oCalls_strict h ht.2
  obtain ⟨h3, h4⟩ := oCall_strict (pair_eta h1) ht.1
  refine ⟨h3, ?_⟩
  rw [List.map_cons, ← h2, ← h4]
theorem oFive_strict {v : Tr} (h : (oFive v).2 = false) : v = .pairs [(kBehind, (oFive v).1.1), (kCalls, (oFive v).1.2.1), (kLeft, (oFive v).1.2.2.1), (kSealed, (oFive v).1.2.2.2.1), (kTicks, (oFive v).1.2.2.2.2)] := by
 unfold oFive at h ⊢
 split at h
 ·rename_i k0 x0 k1 x1 k2 x2 k3 x3 k4 x4
  simp only [decide_eq_false_iff_not, Classical.not_not, names5, List.cons.injEq, and_true] at h
  obtain ⟨rfl, rfl, rfl, rfl, rfl⟩ := h
  rfl
 ·cases h
theorem readO_strict {v : Tr} (h : (readO v).2 = false) (ht : v.tame = true) : v = tellT (readO v).1 := by
 have e1 : (oCalls (oList (oTexts (oList (oNum (oTruth (oNum (oFive v).2 (oFive v).1.2.2.1).2 (oFive v).1.2.2.2.1).2 (oFive v).1.2.2.2.2).2 (oFive v).1.1).2 (oList (oNum (oTruth (oNum (oFive v).2 (oFive v).1.2.2.1).2 (oFive v).1.2.2.2.1).2 (oFive v).1.2.2.2.2).2 (oFive v).1.1).1).2 (oFive v).1.2.1).2 (oList (oTexts (oList (oNum (oTruth (oNum (oFive v).2 (oFive v).1.2.2.1).2 (oFive v).1.2.2.2.1).2 (oFive v).1.2.2.2.2).2 (oFive v).1.1).2 (oList (oNum (oTruth (oNum (oFive v).2 (oFive v).1.2.2.1).2 (oFive v).1.2.2.2.1).2 (oFive v).1.2.2.2.2).2 (oFive v).1.1).1).2 (oFive v).1.2.1).1).2 = false := h
 have e2 : (readO v).1 = ⟨(oCalls (oList (oTexts (oList (oNum (oTruth (oNum (oFive v).2 (oFive v).1.2.2.1).2 (oFive v).1.2.2.2.1).2 (oFive v).1.2.2.2.2).2 (oFive v).1.1).2 (oList (oNum (oTruth (oNum (oFive v).2 (oFive v).1.2.2.1).2 (oFive v).1.2.2.2.1).2 (oFive v).1.2.2.2.2).2 (oFive v).1.1).1).2 (oFive v).1.2.1).2 (oList (oTexts (oList (oNum (oTruth (oNum (oFive v).2 (oFive v).1.2.2.1).2 (oFive v).1.2.2.2.1).2 (oFive v).1.2.2.2.2).2 (oFive v).1.1).2 (oList (oNum (oTruth (oNum (oFive v).2 (oFive v).1.2.2.1).2 (oFive v).1.2.2.2.1).2 (oFive v).1.2.2.2.2).2 (oFive v).1.1).1).2 (oFive v).1.2.1).1).1, (oNum (oTruth (oNum (oFive v).2 (oFive v).1.2.2.1).2 (oFive v).1.2.2.2.1).2 (oFive v).1.2.2.2.2).1, (oNum (oFive v).2 (oFive v).1.2.2.1).1, (oTruth (oNum (oFive v).2 (oFive v).1.2.2.1).2 (oFive v).1.2.2.2.1).1, (oTexts (oList (oNum (oTruth (oNum (oFive v).2 (oFive v).1.2.2.1).2 (oFive v).1.2.2.2.1).2 (oFive v).1.2.2.2.2).2 (oFive v).1.1).2 (oList (oNum (oTruth (oNum (oFive v).2 (oFive v).1.2.2.1).2 (oFive v).1.2.2.2.1).2 (oFive v).1.2.2.2.2).2 (oFive v).1.1).1).1⟩ := rfl
 rw [e2]
 have hb5 : (oFive v).2 = false → v.tame = true → (oFive v).1.1.tame = true ∧ (oFive v).1.2.1.tame = true ∧ (oFive v).1.2.2.1.tame = true ∧ (oFive v).1.2.2.2.2.tame = true := by
  intro h0 ht
  have e := oFive_strict h0
  generalize (oFive v).1 = x at e
  rw [e] at ht
  simp only [Tr.tame, Tr.tameP, Bool.and_eq_true] at ht
  exact ⟨ht.2.1, ht.2.2.1, ht.2.2.2.1, ht.2.2.2.2.2.1⟩
 have key : (oFive v).2 = false := by
  revert e1
  generalize oFive v = x
  intro e1
  by_cases hx : x.2 = false
  ·exact hx
  ·exfalso
   have hx : x.2 = true := by simpa using hx
   rw [hx] at e1
   have n1 : ∀ v, (oNum true v).2 = true := by intro v; cases v <;> simp [oNum]; split <;> rfl
   have n2 : ∀ v, (oTruth true v).2 = true := by intro v; cases v <;> rfl
   have n3 : ∀ v, (oList true v).2 = true := by intro v; cases v <;> rfl
   have n4 : ∀ l, (oTexts true l).2 = true := by
    intro l
    induction l with
    | nil => rfl
    | cons v r ih =>
     have : (oText true v).2 = true := by cases v <;> rfl
     simp only [oTexts, this, ih]
   have nS : ∀ a b c d e f g, (oSeven true a b c d e f g).2 = true := by
    intro a b c d e f g
    have t1 : ∀ v, (oText true v).2 = true := by intro v; cases v <;> rfl
    simp only [oSeven, n1, n2, t1]
   have n5 : ∀ v, (oCall true v).2 = true := by
    intro v; unfold oCall; split
    ·exact nS ..
    ·rfl
   have n6 : ∀ l, (oCalls true l).2 = true := by
    intro l
    induction l with
    | nil => rfl
    | cons v r ih => simp only [oCalls, n5, ih]
   simp [n1, n2, n3, n4, n6] at e1
 obtain ⟨T1, T2, T3, T4⟩ := hb5 key ht
 have ev := oFive_strict key
 generalize oFive v = x at e1 ev T1 T2 T3 T4 key ⊢
 have tq1 : Tr.tameL (oList (oTexts (oList (oNum (oTruth (oNum x.2 x.1.2.2.1).2 x.1.2.2.2.1).2 x.1.2.2.2.2).2 x.1.1).2 (oList (oNum (oTruth (oNum x.2 x.1.2.2.1).2 x.1.2.2.2.1).2 x.1.2.2.2.2).2 x.1.1).1).2 x.1.2.1).1 = true := by
  generalize (oTexts (oList (oNum (oTruth (oNum x.2 x.1.2.2.1).2 x.1.2.2.2.1).2 x.1.2.2.2.2).2 x.1.1).2 (oList (oNum (oTruth (oNum x.2 x.1.2.2.1).2 x.1.2.2.2.1).2 x.1.2.2.2.2).2 x.1.1).1).2 = bb
  generalize x.1.2.1 = w at T2
  cases w <;> simp only [oList, Tr.tameL]
  simp only [Tr.tame, Bool.and_eq_true] at T2
  exact T2.2
 obtain ⟨h1, c1⟩ := oCalls_strict e1 tq1
 obtain ⟨h2, c2⟩ := oList_false (pair_eta h1)
 obtain ⟨h3, c3⟩ := oTexts_strict h2
 obtain ⟨h4, c4⟩ := oList_false (pair_eta h3)
 obtain ⟨h5, c5⟩ := oNum_cnt (pair_eta h4) T4
 obtain ⟨h6, c6⟩ := oTruth_false (pair_eta h5)
 obtain ⟨h7, c7⟩ := oNum_cnt (pair_eta h6) T3
 simp only [tellT]
 rw [← c1, ← c2, ← c3, ← c4, ← c5, ← c6, ← c7]
 exact ev
theorem back_cnt {n : Int} (h : inR n = true) : backN (numT (cntT n)) = n := by
 simp only [inR, Bool.and_eq_true, decide_eq_true_eq] at h
 have hn : numT (cntT n) = 1099511627776 + n := rfl
 unfold backN
 rw [hn, if_neg (by omega), IntWalk.i64_in (1099511627776 + n) ⟨by omega, by omega⟩, IntWalk.i64_in _ ⟨by omega, by omega⟩]; omega
theorem oNum_of {b : Bool} {n : Int} (h : inR n = true) : oNum b (cntT n) = (n, b) := by
 simp only [inR, Bool.and_eq_true, decide_eq_true_eq] at h
 simp only [cntT, oNum]
 rw [if_neg (by omega), IntWalk.i64_in (1099511627776 + n) ⟨by omega, by omega⟩, IntWalk.i64_in _ ⟨by omega, by omega⟩]
 simp only [Prod.mk.injEq, and_true]; omega
theorem callX_of {d : Dn} (h : okN d = true) : callX (callT d) = d := by
 simp only [okN, Bool.and_eq_true] at h
 obtain ⟨⟨⟨h1, h2⟩, h3⟩, h4⟩ := h
 have e0 : kidT (callT d) 0 = cntT d.at_ := rfl
 have e1 : kidT (callT d) 1 = cntT d.cl := rfl
 have e2 : kidT (callT d) 2 = cntT d.fr := rfl
 have e3 : kidT (callT d) 3 = cntT d.to := rfl
 have e4 : kidT (callT d) 4 = .tr d.is := rfl
 have e5 : kidT (callT d) 5 = .text d.line := rfl
 have e6 : kidT (callT d) 6 = .text d.reply := rfl
 unfold callX
 rw [e0, e1, e2, e3, e4, e5, e6, back_cnt h1, back_cnt h2, back_cnt h3, back_cnt h4]
 cases d with
 | mk a1 a2 a3 a4 a5 a6 a7 => cases a7 <;> rfl
theorem oCall_of {b : Bool} {d : Dn} (h : okN d = true) : oCall b (callT d) = (d, b) := by
 simp only [okN, Bool.and_eq_true] at h
 obtain ⟨⟨⟨h1, h2⟩, h3⟩, h4⟩ := h
 simp only [callT, oCall, oSeven, oNum_of h1, oNum_of h2, oNum_of h3, oNum_of h4, oTruth, oText]
theorem okN_all {t : Td} (h : checkB t = 0) : ∀ d ∈ t.calls, okN d = true := fun d hd => by
 obtain ⟨d1, d2, d3, d4⟩ := (check_ok h).2.2 d hd
 simp only [okN, d1, d2, d3, d4, Bool.and_true]
theorem readT_of {t : Td} (h : checkB t = 0) : readT (tellT t) = t := by
 obtain ⟨c1, c2, _⟩ := check_ok h
 have e0 : kidT (tellT t) 0 = .list (t.behind.map .text) := rfl
 have e1 : kidT (tellT t) 1 = .list (t.calls.map callT) := rfl
 have e2 : kidT (tellT t) 2 = cntT t.left := rfl
 have e3 : kidT (tellT t) 3 = .tr t.shut := rfl
 have e4 : kidT (tellT t) 4 = cntT t.ticks := rfl
 unfold readT
 rw [e0, e1, e2, e3, e4, back_cnt c1, back_cnt c2]
 have f1 : (kidsT (.list (t.behind.map .text))).map textT = t.behind := by
  simp only [kidsT, List.map_map]
  have : ∀ s ∈ t.behind, (textT ∘ Tr.text) s = id s := fun _ _ => rfl
  rw [List.map_congr_left this, List.map_id]
 have f2 : (kidsT (.list (t.calls.map callT))).map callX = t.calls := by
  simp only [kidsT, List.map_map]
  have : ∀ d ∈ t.calls, (callX ∘ callT) d = id d := fun d hd => callX_of (okN_all h d hd)
  rw [List.map_congr_left this, List.map_id]
 rw [f1, f2]
 cases t with
 | mk a1 a2 a3 a4 a5 => cases a4 <;> rfl
theorem oTexts_of (b : Bool) : ∀ l : List Bs, oTexts b (l.map .text) = (l, b)
 | [] => rfl
 | s :: r => by simp only [List.map_cons, oTexts, oText, oTexts_of b r]
theorem oCalls_of (b : Bool) : ∀ {l : List Dn}, (∀ d ∈ l, okN d = true) → oCalls b (l.map callT) = (l, b)
 | [], _ => rfl
 | d :: r, h => by
  simp only [List.map_cons, oCalls, oCall_of (h d (List.mem_cons_self ..)), oCalls_of b fun x hx => h x (List.mem_cons_of_mem _ hx)]
theorem readO_of {t : Td} (h : checkB t = 0) : readO (tellT t) = (t, false) := by
 obtain ⟨c1, c2, _⟩ := check_ok h
 have e : oFive (tellT t) = ((.list (t.behind.map .text), .list (t.calls.map callT), cntT t.left, .tr t.shut, cntT t.ticks), false) := rfl
 unfold readO
 rw [e]
 simp only [oNum_of c1, oNum_of c2, oTruth, oList, oTexts_of, oCalls_of _ (okN_all h)]
theorem tell_lev (t : Td) : (tellT t).lev 4 = true := by
 have e1 : ∀ l : List Bs, Tr.levL 2 (l.map .text) = true := by
  intro l; induction l with
  | nil => rfl
  | cons s r ih => simp only [List.map_cons, Tr.levL, ih, Tr.lev, Bool.and_self]
 have e2 : ∀ l : List Dn, Tr.levL 2 (l.map callT) = true := by
  intro l; induction l with
  | nil => rfl
  | cons s r ih => simp only [List.map_cons, Tr.levL, ih, Bool.and_true]; rfl
 simp only [tellT, Tr.lev, Tr.levP, e1, e2, cntT, Bool.and_self]
theorem end_ok {s : Bs} {v : Tr} (h : s = v.enc) : endS ((⟨s, 0, 0⟩ : Sc).adv v.enc.length) = 0 := by
 subst h
 simp [endS, Sc.adv]
theorem laid_on {s : Bs} {v : Tr} (h : s = v.enc) : (⟨s, 0, 0⟩ : Sc).on (v.enc ++ []) := ⟨rfl, Nat.zero_le _, by simp [Sc.rest, h]⟩
theorem unbytes_eq (s : Bs) : unbytesO s = unbytesR s := by
 have main : ∀ t : Td, checkB t = 0 → bytesB t = s → unbytesO s = some t ∧ unbytesR s = some t := by
  intro t hc hs
  have hs' : s = (tellT t).enc := hs.symm
  have o1 := takeV_ok 4 (tellT t) ⟨s, 0, 0⟩ [] (tell_fit hc) (tell_good t) (tell_lev t) (laid_on hs')
  have o2 := oneV_ok 4 (tellT t) ⟨s, 0, 0⟩ [] (tell_fit hc) (tell_good t) (tell_lev t) (laid_on hs')
  constructor
  ·unfold unbytesO
   rw [o1]
   simp only
   rw [if_neg (by simp [end_ok hs']), readO_of hc, if_neg (by simp [hc])]
  ·unfold unbytesR
   rw [o2]
   simp only
   rw [if_neg (by simp [end_ok hs']), readT_of hc, if_pos ⟨hc, hs⟩]
 cases ho : unbytesO s with
 | some t =>
  have : checkB t = 0 ∧ bytesB t = s := by
   unfold unbytesO at ho
   split at ho
   ·cases ho
   ·rename_i he
    split at ho
    ·cases ho
    ·rename_i hb
     simp only [Option.some.injEq] at ho
     have he0 : endS (takeV 4 ⟨s, 0, 0⟩).2 = 0 := by simpa using he
     have hb0 : (readO (takeV 4 ⟨s, 0, 0⟩).1).2 = false ∧ checkB (readO (takeV 4 ⟨s, 0, 0⟩).1).1 = 0 := by
      simpa [not_or] using hb
     have hbad : (takeV 4 ⟨s, 0, 0⟩).2.bad = 0 := by
      unfold endS at he0
      split at he0
      ·rename_i h; exact absurd he0 h
      ·rename_i h; simpa using h
     have took := takeV_sound 4 ⟨s, 0, 0⟩ (Nat.zero_le _) hbad
     have hrest : (takeV 4 ⟨s, 0, 0⟩).2.rest = [] := by
      have hst := Stays.takeV 4 ⟨s, 0, 0⟩ (Nat.zero_le _)
      unfold endS at he0
      rw [if_neg (by simp [hbad])] at he0
      split at he0
      ·simp at he0
      ·rename_i h
       exact List.drop_of_length_le (by omega)
     have hs := took.on.is
     rw [hrest, List.append_nil] at hs
     have hs : s = (takeV 4 ⟨s, 0, 0⟩).1.enc := hs
     have hv := readO_strict hb0.1 (takeV_tame 4 _)
     rw [← ho]
     refine ⟨hb0.2, ?_⟩
     unfold bytesB
     rw [← hv]; exact hs.symm
  rw [(main t this.1 this.2).2]
 | none =>
  cases hr : unbytesR s with
  | none => rfl
  | some t =>
   have : checkB t = 0 ∧ bytesB t = s := by
    unfold unbytesR at hr
    split at hr
    ·cases hr
    ·split at hr
     ·rename_i h
      simp only [Option.some.injEq] at hr
      rw [← hr]; exact h
     ·cases hr
   rw [(main t this.1 this.2).1] at ho; cases ho
end Go.Vd

namespace Go.Vd
open Go.RowKit
set_option maxRecDepth 10000
structure VI (m : Mem) (b : Bool) (t : Td) (tc tb : Id) : Prop where
 z0 : m [0] 0 = some (.slice true [] [])
 z1 : m [0] 1 = some (.int .i64 0)
 z2 : m [0] 2 = some (.int .i64 0)
 z3 : m [0] 3 = some (.bool false)
 z4 : m [0] 4 = some (.slice true [] [])
 o : m [12] 0 = some (.bool b)
 t0 : m [35] 0 = some (.slice t.calls.isEmpty tc (t.calls.map dnD))
 t1 : m [35] 1 = some (.int .i64 t.ticks)
 t2 : m [35] 2 = some (.int .i64 t.left)
 t3 : m [35] 3 = some (.bool t.shut)
 t4 : m [35] 4 = some (.slice t.behind.isEmpty tb (t.behind.map .str))
section
variable {m m' : Mem} {b b' : Bool} {t : Td} {tc tb t' : Id} {j f n e : Nat}
theorem VI.keep (h : VI m b t tc tb) (h0 : ∀ o, m' [0] o = m [0] o) (h1 : ∀ o, m' [12] o = m [12] o) (h2 : ∀ o, m' [35] o = m [35] o) : VI m' b t tc tb :=
 ⟨by rw [h0, h.z0], by rw [h0, h.z1], by rw [h0, h.z2], by rw [h0, h.z3], by rw [h0, h.z4], by rw [h1, h.o], by rw [h2, h.t0], by rw [h2, h.t1], by rw [h2, h.t2], by rw [h2, h.t3], by rw [h2, h.t4]⟩
theorem VI.put (h : VI m b t tc tb) {o : Nat} {ds : List D} (hj : 37 ≤ j) : VI (m.put [j] o ds) b t tc tb :=
 h.keep (fun o => Mem.put_other (by simp; omega)) (fun o => Mem.put_other (by simp; omega)) (fun o => Mem.put_other (by simp; omega))
theorem VI.op (h : VI m b t tc tb) : VI (Upd.app m (opU [12] b')) b' t tc tb :=
 ⟨by rw [opU_rd, if_neg (by simp), h.z0], by rw [opU_rd, if_neg (by simp), h.z1], by rw [opU_rd, if_neg (by simp), h.z2], by rw [opU_rd, if_neg (by simp), h.z3], by rw [opU_rd, if_neg (by simp), h.z4], by simp [opU_rd], by rw [opU_rd, if_neg (by simp), h.t0], by rw [opU_rd, if_neg (by simp), h.t1], by rw [opU_rd, if_neg (by simp), h.t2], by rw [opU_rd, if_neg (by simp), h.t3], by rw [opU_rd, if_neg (by simp), h.t4]⟩
theorem VI.grow (h : VI m b t tc tb) {nl : Bool} {xs : List D} (hg : Gk m n e nl t') (hf : 37 ≤ f) : VI (Upd.app m (growU e [f] (.slice nl t' xs))) b t tc tb := by
 have key : ∀ i o, i < 37 → Upd.app m (growU e [f] (.slice nl t' xs)) [i] o = m [i] o := by
  intro i o hi
  rw [growU_rd, if_neg (by simp; omega), if_neg]
  rintro ⟨q1, q2, _⟩
  rcases hg with h' | ⟨i', rfl, a, _, _⟩
  ·rw [q1] at h'; cases h'
  ·simp at q2; omega
 exact h.keep (fun o => key 0 o (by omega)) (fun o => key 12 o (by omega)) (fun o => key 35 o (by omega))
theorem VI.setB (h : VI m b t tc tb) {s : Bs} : VI (m.put [35] 4 [.slice false t' (t.behind.map .str ++ [.str s])]) b { t with behind := t.behind ++ [s] } tc t' := by
 have nz : ([0] : Id) ≠ [35] := by simp
 have no : ([12] : Id) ≠ [35] := by simp
 exact ⟨by rw [Mem.put_other nz, h.z0], by rw [Mem.put_other nz, h.z1], by rw [Mem.put_other nz, h.z2], by rw [Mem.put_other nz, h.z3], by rw [Mem.put_other nz, h.z4], by rw [Mem.put_other no, h.o], by simp [put1_rd, h.t0], by simp [put1_rd, h.t1], by simp [put1_rd, h.t2], by simp [put1_rd, h.t3], by rw [isEmpty_snoc, List.map_append]; simp [put1_rd]⟩
theorem VI.setC (h : VI m b t tc tb) {d : Dn} : VI (m.put [35] 0 [.slice false t' (t.calls.map dnD ++ [dnD d])]) b { t with calls := t.calls ++ [d] } t' tb := by
 have nz : ([0] : Id) ≠ [35] := by simp
 have no : ([12] : Id) ≠ [35] := by simp
 exact ⟨by rw [Mem.put_other nz, h.z0], by rw [Mem.put_other nz, h.z1], by rw [Mem.put_other nz, h.z2], by rw [Mem.put_other nz, h.z3], by rw [Mem.put_other nz, h.z4], by rw [Mem.put_other no, h.o], by rw [isEmpty_snoc, List.map_append]; simp [put1_rd], by simp [put1_rd, h.t1], by simp [put1_rd, h.t2], by simp [put1_rd, h.t3], by simp [put1_rd, h.t4]⟩
theorem Gk.op {nl : Bool} (h : Gk m n e nl t') : Gk (Upd.app m (opU [12] b')) n e nl t' := Gk.low (j := 12) h (by omega)
end
theorem datL_get {l : List Tr} {i : Nat} (h : i < l.length) : (Tr.datL l)[i]? = some l[i].dat := by
 have : ∀ (l : List Tr), Tr.datL l = l.map Tr.dat := by
  intro l; induction l with
  | nil => rfl
  | cons v r ih => simp only [Tr.datL, ih, List.map_cons]
 rw [this, List.getElem?_map, List.getElem?_eq_getElem h]; rfl
set_option maxHeartbeats 8000000 in
theorem loop23a {S : Summs} (s58 : S 58 = some (opQ F58)) {l : List Tr} (hl : l.length ≤ 1000) {b0 : Bool} {t0 : Td} {tc : Id} {nl : Bool} {tl : Id} {X : D} {Q : Ex → St → Prop}
  (hexit : ∀ st tb, st.s 2 = .ptr [0] 0 → st.s 6 = .ptr [12] 0 → st.s 8 = .ptr [35] 0 → st.s 7 = X → VI st.m (oTexts b0 l).2 { t0 with behind := (oTexts b0 l).1 } tc tb → 44 ≤ st.c → Q (.exit 0) st) :
  ∀ (r i : Nat) (tb : Id) st g, i + r = l.length → st.s 49 = .int .i64 (i : Int) → st.s 48 = .int .i64 (l.length : Int) → st.s 47 = .slice nl tl (Tr.datL l) → st.s 2 = .ptr [0] 0 → st.s 6 = .ptr [12] 0 → st.s 8 = .ptr [35] 0 → st.s 7 = X → 44 ≤ st.c →
   VI st.m (oTexts b0 (l.take i)).2 { t0 with behind := (oTexts b0 (l.take i)).1 } tc tb → Gk st.m st.c 9 (oTexts b0 (l.take i)).1.isEmpty tb → loopW S [] dc23l0 Q st g := by
 intro r
 induction r with
 | zero =>
  intro i tb st g hir h49 h48 h47 h2 h6 h8 h7 hc I G
  refine wp_loopd dc23l0.eq_1 ?_
  have hlt : ((i : Int) < (l.length : Int)) = False := eq_false (by omega)
  simp (disch := omega) only [↓go1, gB0, ↓x_tass, reduceIte, Nat.reduceEqDiff, Nat.reduceAdd, Nat.reduceSub, Nat.reduceLT, Nat.reduceLeDiff, put1_rd, put_rd, growU_rd, opU_rd, lit_ne, ne_lit, Int.reduceEq, Int.reduceToNat, Int.reduceLE, List.drop_succ_cons, fill_nil, rd_zero, rd_succ, gB1, reduceCtorEq, ldD_agg, gB3, rowU_op, drawnU_op, data_if, cells_if, un_if, calm_if, calm1_if, data_ni, cells_ni, un_ni, calm_ni, calm1_ni, h49, h48, hlt]
  rw [List.take_of_length_le (by omega)] at I
  exact hexit _ tb h2 h6 h8 h7 I (by simp only; omega)
 | succ r ih =>
  intro i tb st g hir h49 h48 h47 h2 h6 h8 h7 hc I G
  refine wp_loopd dc23l0.eq_1 ?_
  have hlt : ((i : Int) < (l.length : Int)) = True := eq_true (by omega)
  have hi0 : ((0 : Int) ≤ (i : Int)) := by omega
  have hil : i < l.length := by omega
  have hw : IntKind.i64.wrap ((i : Int) + 1) = ((i + 1 : Nat) : Int) := by rw [IntWalk.i64_in _ ⟨by omega, by omega⟩]; omega
  have hx : (Tr.datL l)[((i : Int)).toNat]? = some l[i].dat := by rw [Int.toNat_natCast]; exact datL_get hil
  have htk : oTexts b0 (l.take (i + 1)) = ((oTexts b0 (l.take i)).1 ++ [(oText (oTexts b0 (l.take i)).2 l[i]).1], (oText (oTexts b0 (l.take i)).2 l[i]).2) := by rw [List.take_add_one, List.getElem?_eq_getElem hil]; exact oTexts_snoc ..
  have hlen : (oTexts b0 (l.take i)).1.length ≤ 1000 := by rw [oTexts_len]; simp; omega
  generalize oTexts b0 (l.take i) = q at I G htk hlen
  obtain ⟨bs, b⟩ := q
  simp only at I G htk hlen
  have hnil : bs.isEmpty = true → bs.map D.str = [] := fun h => by rw [List.isEmpty_iff.1 h]; rfl
  have f58 := f58_dat b l[i]
  generalize l[i] = v at hx htk f58
  obtain ⟨u1, u2, u3, u4, _, _, _⟩ := dat_cells v
  generalize oText b v = p at htk f58
  obtain ⟨s, b'⟩ := p
  simp only at htk f58
  simp (disch := omega) only [↓go1, gB0, ↓x_tass, reduceIte, Nat.reduceEqDiff, Nat.reduceAdd, Nat.reduceSub, Nat.reduceLT, Nat.reduceLeDiff, put1_rd, put_rd, growU_rd, opU_rd, lit_ne, ne_lit, Int.reduceEq, Int.reduceToNat, Int.reduceLE, List.drop_succ_cons, fill_nil, rd_zero, rd_succ, gB1, reduceCtorEq, ldD_agg, gB3, rowU_op, drawnU_op, data_if, cells_if, un_if, calm_if, calm1_if, data_ni, cells_ni, un_ni, calm_ni, calm1_ni, h49, h48, h47, h2, h6, h8, h7, I.z0, I.z1, I.z2, I.z3, I.z4, I.o, I.t0, I.t1, I.t2, I.t3, I.t4, hlt, hi0, hx, hw, u3, callK_fn s58]
  refine got_op I.o f58 ?_
  simp (disch := omega) only [↓go1, gB0, ↓x_tass, reduceIte, Nat.reduceEqDiff, Nat.reduceAdd, Nat.reduceSub, Nat.reduceLT, Nat.reduceLeDiff, put1_rd, put_rd, growU_rd, opU_rd, lit_ne, ne_lit, Int.reduceEq, Int.reduceToNat, Int.reduceLE, List.drop_succ_cons, fill_nil, rd_zero, rd_succ, gB1, reduceCtorEq, ldD_agg, gB3, rowU_op, drawnU_op, data_if, cells_if, un_if, calm_if, calm1_if, data_ni, cells_ni, un_ni, calm_ni, calm1_ni, h49, h48, h47, h2, h6, h8, h7, I.z0, I.z1, I.z2, I.z3, I.z4, I.o, I.t0, I.t1, I.t2, I.t3, I.t4, hlt, hi0, hx, hw, u3, callK_fn s58]
  have G1 : Gk ((Upd.app st.m (opU [12] b')).put [st.c + 1 + 3 + 5] 0 [.tok 10]) st.c 9 bs.isEmpty tb := Gk.put (Gk.op G) (by omega)
  refine Need.intro ⟨by omega, rfl, G1.toGrow⟩ ?_
  rw [app_fold hnil]
  have qn := G.nlow (j := 35) (by omega)
  simp (disch := omega) only [↓go1, gB0, ↓x_tass, reduceIte, Nat.reduceEqDiff, Nat.reduceAdd, Nat.reduceSub, Nat.reduceLT, Nat.reduceLeDiff, put1_rd, put_rd, growU_rd, opU_rd, lit_ne, ne_lit, Int.reduceEq, Int.reduceToNat, Int.reduceLE, List.drop_succ_cons, fill_nil, rd_zero, rd_succ, gB1, reduceCtorEq, ldD_agg, gB3, rowU_op, drawnU_op, data_if, cells_if, un_if, calm_if, calm1_if, data_ni, cells_ni, un_ni, calm_ni, calm1_ni, qn, h49, h48, h47, h2, h6, h8, h7, I.z0, I.z1, I.z2, I.z3, I.z4, I.o, I.t0, I.t1, I.t2, I.t3, I.t4, hlt, hi0, hx, hw, u3, callK_fn s58]
  refine Need.intro (fun p hp w hw' => ?_) ?_
  ·simp only [List.mem_cons, List.mem_nil_iff, or_false] at hp
   rcases hp with rfl | rfl
   all_goals simp only [List.getD_cons_succ, List.getD_cons_zero, wlocs, rds, opU] at hw' ⊢
   all_goals
    simp (disch := omega) only [↓go1, gB0, ↓x_tass, reduceIte, Nat.reduceEqDiff, Nat.reduceAdd, Nat.reduceSub, Nat.reduceLT, Nat.reduceLeDiff, put1_rd, put_rd, growU_rd, opU_rd, lit_ne, ne_lit, Int.reduceEq, Int.reduceToNat, Int.reduceLE, List.drop_succ_cons, fill_nil, rd_zero, rd_succ, gB1, reduceCtorEq, ldD_agg, gB3, rowU_op, drawnU_op, data_if, cells_if, un_if, calm_if, calm1_if, data_ni, cells_ni, un_ni, calm_ni, calm1_ni, h49, h48, h47, h2, h6, h8, h7, I.z0, I.z1, I.z2, I.z3, I.z4, I.o, I.t0, I.t1, I.t2, I.t3, I.t4, hlt, hi0, hx, hw, u3, callK_fn s58] at hw' ⊢
    exact feet_one (by first | (simp; done) | (simp; omega)) hw'
  ·simp (disch := omega) only [↓go1, gB0, ↓x_tass, reduceIte, Nat.reduceEqDiff, Nat.reduceAdd, Nat.reduceSub, Nat.reduceLT, Nat.reduceLeDiff, put1_rd, put_rd, growU_rd, opU_rd, lit_ne, ne_lit, Int.reduceEq, Int.reduceToNat, Int.reduceLE, List.drop_succ_cons, fill_nil, rd_zero, rd_succ, gB1, reduceCtorEq, ldD_agg, gB3, rowU_op, drawnU_op, data_if, cells_if, un_if, calm_if, calm1_if, data_ni, cells_ni, un_ni, calm_ni, calm1_ni, qn, h49, h48, h47, h2, h6, h8, h7, I.z0, I.z1, I.z2, I.z3, I.z4, I.o, I.t0, I.t1, I.t2, I.t3, I.t4, hlt, hi0, hx, hw, u3, callK_fn s58]
   refine ih (i + 1) [st.c + 1 + 3 + 6] _ _ (by omega) rfl h48 h47 h2 h6 h8 h7 (by simp only; omega) ?_ ?_
   ·rw [htk]
    exact VI.setB (VI.grow (VI.put (VI.op I) (by omega)) G1 (by omega))
   ·rw [htk, isEmpty_snoc]
    exact Gk.low (Gk.new (by omega) (by simp only; omega)) (by omega)
set_option maxHeartbeats 8000000 in
theorem loop23b {S : Summs} (s59 : S 59 = some (opQ F59)) {l : List Tr} (hl : l.length ≤ 1000) {b0 : Bool} {t0 : Td} {tb : Id} {nl : Bool} {tl : Id} {Q : Ex → St → Prop}
  (hexit : ∀ st tc, st.s 2 = .ptr [0] 0 → st.s 6 = .ptr [12] 0 → st.s 8 = .ptr [35] 0 → VI st.m (oCalls b0 l).2 { t0 with calls := (oCalls b0 l).1 } tc tb → 44 ≤ st.c → Q (.exit 2) st) :
  ∀ (r i : Nat) (tc : Id) st g, i + r = l.length → st.s 68 = .int .i64 (i : Int) → st.s 67 = .int .i64 (l.length : Int) → st.s 66 = .slice nl tl (Tr.datL l) → st.s 2 = .ptr [0] 0 → st.s 6 = .ptr [12] 0 → st.s 8 = .ptr [35] 0 → 44 ≤ st.c →
   VI st.m (oCalls b0 (l.take i)).2 { t0 with calls := (oCalls b0 (l.take i)).1 } tc tb → Gk st.m st.c 65 (oCalls b0 (l.take i)).1.isEmpty tc → loopW S [] dc23l1 Q st g := by
 intro r
 induction r with
 | zero =>
  intro i tc st g hir h68 h67 h66 h2 h6 h8 hc I G
  refine wp_loopd dc23l1.eq_1 ?_
  have hlt : ((i : Int) < (l.length : Int)) = False := eq_false (by omega)
  simp (disch := omega) only [↓go1, gB0, ↓x_tass, reduceIte, Nat.reduceEqDiff, Nat.reduceAdd, Nat.reduceSub, Nat.reduceLT, Nat.reduceLeDiff, put1_rd, put_rd, growU_rd, opU_rd, lit_ne, ne_lit, Int.reduceEq, Int.reduceToNat, Int.reduceLE, List.drop_succ_cons, fill_nil, rd_zero, rd_succ, gB1, reduceCtorEq, ldD_agg, gB3, rowU_op, drawnU_op, data_if, cells_if, un_if, calm_if, calm1_if, data_ni, cells_ni, un_ni, calm_ni, calm1_ni, h68, h67, hlt]
  rw [List.take_of_length_le (by omega)] at I
  exact hexit _ tc h2 h6 h8 I (by simp only; omega)
 | succ r ih =>
  intro i tc st g hir h68 h67 h66 h2 h6 h8 hc I G
  refine wp_loopd dc23l1.eq_1 ?_
  have hlt : ((i : Int) < (l.length : Int)) = True := eq_true (by omega)
  have hi0 : ((0 : Int) ≤ (i : Int)) := by omega
  have hil : i < l.length := by omega
  have hw : IntKind.i64.wrap ((i : Int) + 1) = ((i + 1 : Nat) : Int) := by rw [IntWalk.i64_in _ ⟨by omega, by omega⟩]; omega
  have hx : (Tr.datL l)[((i : Int)).toNat]? = some l[i].dat := by rw [Int.toNat_natCast]; exact datL_get hil
  have htk : oCalls b0 (l.take (i + 1)) = ((oCalls b0 (l.take i)).1 ++ [(oCall (oCalls b0 (l.take i)).2 l[i]).1], (oCall (oCalls b0 (l.take i)).2 l[i]).2) := by rw [List.take_add_one, List.getElem?_eq_getElem hil]; exact oCalls_snoc ..
  have hlen : (oCalls b0 (l.take i)).1.length ≤ 1000 := by rw [oCalls_len]; simp; omega
  generalize oCalls b0 (l.take i) = q at I G htk hlen
  obtain ⟨bs, b⟩ := q
  simp only at I G htk hlen
  have hnil : bs.isEmpty = true → bs.map dnD = [] := fun h => by rw [List.isEmpty_iff.1 h]; rfl
  have f59 := f59_dat b l[i]
  generalize l[i] = v at hx htk f59
  obtain ⟨u1, u2, u3, u4, _, _, _⟩ := dat_cells v
  generalize oCall b v = p at htk f59
  obtain ⟨d, b'⟩ := p
  simp only at htk f59
  have hd : dnD d = .agg [.int .i64 d.cl, .str d.line, .str d.reply, .int .i64 d.fr, .int .i64 d.at_, .int .i64 d.to, .bool d.is] := rfl
  simp (disch := omega) only [↓go1, gB0, ↓x_tass, reduceIte, Nat.reduceEqDiff, Nat.reduceAdd, Nat.reduceSub, Nat.reduceLT, Nat.reduceLeDiff, put1_rd, put_rd, growU_rd, opU_rd, lit_ne, ne_lit, Int.reduceEq, Int.reduceToNat, Int.reduceLE, List.drop_succ_cons, fill_nil, rd_zero, rd_succ, gB1, reduceCtorEq, ldD_agg, gB3, rowU_op, drawnU_op, data_if, cells_if, un_if, calm_if, calm1_if, data_ni, cells_ni, un_ni, calm_ni, calm1_ni, h68, h67, h66, h2, h6, h8, I.z0, I.z1, I.z2, I.z3, I.z4, I.o, I.t0, I.t1, I.t2, I.t3, I.t4, hlt, hi0, hx, hw, u3, callK_fn s59]
  refine got_op I.o f59 ?_
  simp (disch := omega) only [↓go1, gB0, ↓x_tass, reduceIte, Nat.reduceEqDiff, Nat.reduceAdd, Nat.reduceSub, Nat.reduceLT, Nat.reduceLeDiff, put1_rd, put_rd, growU_rd, opU_rd, lit_ne, ne_lit, Int.reduceEq, Int.reduceToNat, Int.reduceLE, List.drop_succ_cons, fill_nil, rd_zero, rd_succ, gB1, reduceCtorEq, ldD_agg, gB3, rowU_op, drawnU_op, data_if, cells_if, un_if, calm_if, calm1_if, data_ni, cells_ni, un_ni, calm_ni, calm1_ni, hd, h68, h67, h66, h2, h6, h8, I.z0, I.z1, I.z2, I.z3, I.z4, I.o, I.t0, I.t1, I.t2, I.t3, I.t4, hlt, hi0, hx, hw, u3, callK_fn s59]
  have G1 : Gk ((Upd.app st.m (opU [12] b')).put [st.c + 1 + 3 + 5] 0 [.tok 66]) st.c 65 bs.isEmpty tc := Gk.put (Gk.op G) (by omega)
  refine Need.intro ⟨by omega, rfl, G1.toGrow⟩ ?_
  rw [app_fold hnil]
  have qn := G.nlow (j := 35) (by omega)
  simp (disch := omega) only [↓go1, gB0, ↓x_tass, reduceIte, Nat.reduceEqDiff, Nat.reduceAdd, Nat.reduceSub, Nat.reduceLT, Nat.reduceLeDiff, put1_rd, put_rd, growU_rd, opU_rd, lit_ne, ne_lit, Int.reduceEq, Int.reduceToNat, Int.reduceLE, List.drop_succ_cons, fill_nil, rd_zero, rd_succ, gB1, reduceCtorEq, ldD_agg, gB3, rowU_op, drawnU_op, data_if, cells_if, un_if, calm_if, calm1_if, data_ni, cells_ni, un_ni, calm_ni, calm1_ni, hd, qn, h68, h67, h66, h2, h6, h8, I.z0, I.z1, I.z2, I.z3, I.z4, I.o, I.t0, I.t1, I.t2, I.t3, I.t4, hlt, hi0, hx, hw, u3, callK_fn s59]
  refine Need.intro (fun p hp w hw' => ?_) ?_
  ·simp only [List.mem_cons, List.mem_nil_iff, or_false] at hp
   rcases hp with rfl | rfl
   all_goals simp only [List.getD_cons_succ, List.getD_cons_zero, wlocs, rds, opU] at hw' ⊢
   all_goals
    simp (disch := omega) only [↓go1, gB0, ↓x_tass, reduceIte, Nat.reduceEqDiff, Nat.reduceAdd, Nat.reduceSub, Nat.reduceLT, Nat.reduceLeDiff, put1_rd, put_rd, growU_rd, opU_rd, lit_ne, ne_lit, Int.reduceEq, Int.reduceToNat, Int.reduceLE, List.drop_succ_cons, fill_nil, rd_zero, rd_succ, gB1, reduceCtorEq, ldD_agg, gB3, rowU_op, drawnU_op, data_if, cells_if, un_if, calm_if, calm1_if, data_ni, cells_ni, un_ni, calm_ni, calm1_ni, h68, h67, h66, h2, h6, h8, I.z0, I.z1, I.z2, I.z3, I.z4, I.o, I.t0, I.t1, I.t2, I.t3, I.t4, hlt, hi0, hx, hw, u3, callK_fn s59] at hw' ⊢
    exact feet_one (by first | (simp; done) | (simp; omega)) hw'
  ·simp (disch := omega) only [↓go1, gB0, ↓x_tass, reduceIte, Nat.reduceEqDiff, Nat.reduceAdd, Nat.reduceSub, Nat.reduceLT, Nat.reduceLeDiff, put1_rd, put_rd, growU_rd, opU_rd, lit_ne, ne_lit, Int.reduceEq, Int.reduceToNat, Int.reduceLE, List.drop_succ_cons, fill_nil, rd_zero, rd_succ, gB1, reduceCtorEq, ldD_agg, gB3, rowU_op, drawnU_op, data_if, cells_if, un_if, calm_if, calm1_if, data_ni, cells_ni, un_ni, calm_ni, calm1_ni, hd, qn, h68, h67, h66, h2, h6, h8, I.z0, I.z1, I.z2, I.z3, I.z4, I.o, I.t0, I.t1, I.t2, I.t3, I.t4, hlt, hi0, hx, hw, u3, callK_fn s59]
   refine ih (i + 1) [st.c + 1 + 3 + 6] _ _ (by omega) rfl h67 h66 h2 h6 h8 (by simp only; omega) ?_ ?_
   ·rw [htk]
    exact VI.setC (d := d) (VI.grow (VI.put (VI.op I) (by omega)) G1 (by omega))
   ·rw [htk, isEmpty_snoc]
    exact Gk.low (Gk.new (by omega) (by simp only; omega)) (by omega)
def F23 : List D → Option D
 | [.str s] => if s.length ≤ 1000000 then some (parsed (unbytesO s)) else none
 | _ => none
theorem tame_list {b : Bool} {v : Tr} (h : v.tame = true) : (oList b v).1.length ≤ 1000 := by
 cases v <;> simp only [oList, List.length_nil] <;> first | omega | skip
 simp only [Tr.tame, Bool.and_eq_true, decide_eq_true_eq] at h
 omega
theorem oFive_tame {v : Tr} (h : v.tame = true) : (oFive v).1.1.tame = true ∧ (oFive v).1.2.1.tame = true := by
 unfold oFive
 split
 ·simp only [Tr.tame, Tr.tameP, Bool.and_eq_true] at h
  exact ⟨h.2.1, h.2.2.1⟩
 ·exact ⟨rfl, rfl⟩
set_option maxHeartbeats 16000000 in
theorem ok23 {P : Program} (hb : DeskB P) (h15 : (funS F15).ok P 15) : (funS F23).ok P 23 := by
 have hS : Summs.ok P (tabL [(53, funS F53), (54, opQ F54), (55, opQ F55), (56, opQ F56), (57, opQ F57), (58, opQ F58), (59, opQ F59), (15, funS F15)]) := tabL_cons (ok53 hb) (tabL_cons (ok54 hb) (tabL_cons (ok55 hb) (tabL_cons (ok56 hb) (tabL_cons (ok57 hb) (tabL_cons (ok58 hb) (tabL_cons (ok59 hb) (tabL_cons h15 tabL_nil)))))))
 have s53 : tabL [(53, funS F53), (54, opQ F54), (55, opQ F55), (56, opQ F56), (57, opQ F57), (58, opQ F58), (59, opQ F59), (15, funS F15)] 53 = some (funS F53) := rfl
 have s54 : tabL [(53, funS F53), (54, opQ F54), (55, opQ F55), (56, opQ F56), (57, opQ F57), (58, opQ F58), (59, opQ F59), (15, funS F15)] 54 = some (opQ F54) := rfl
 have s55 : tabL [(53, funS F53), (54, opQ F54), (55, opQ F55), (56, opQ F56), (57, opQ F57), (58, opQ F58), (59, opQ F59), (15, funS F15)] 55 = some (opQ F55) := rfl
 have s56 : tabL [(53, funS F53), (54, opQ F54), (55, opQ F55), (56, opQ F56), (57, opQ F57), (58, opQ F58), (59, opQ F59), (15, funS F15)] 56 = some (opQ F56) := rfl
 have s57 : tabL [(53, funS F53), (54, opQ F54), (55, opQ F55), (56, opQ F56), (57, opQ F57), (58, opQ F58), (59, opQ F59), (15, funS F15)] 57 = some (opQ F57) := rfl
 have s58 : tabL [(53, funS F53), (54, opQ F54), (55, opQ F55), (56, opQ F56), (57, opQ F57), (58, opQ F58), (59, opQ F59), (15, funS F15)] 58 = some (opQ F58) := rfl
 have s59 : tabL [(53, funS F53), (54, opQ F54), (55, opQ F55), (56, opQ F56), (57, opQ F57), (58, opQ F58), (59, opQ F59), (15, funS F15)] 59 = some (opQ F59) := rfl
 have s15 : tabL [(53, funS F53), (54, opQ F54), (55, opQ F55), (56, opQ F56), (57, opQ F57), (58, opQ F58), (59, opQ F59), (15, funS F15)] 15 = some (funS F15) := rfl
 generalize tabL [(53, funS F53), (54, opQ F54), (55, opQ F55), (56, opQ F56), (57, opQ F57), (58, opQ F58), (59, opQ F59), (15, funS F15)] = S at hS s53 s54 s55 s56 s57 s58 s59 s15
 refine fun_ok (S := S) hS hb.f23 (fun ds r h => ?_) (fun ds r h => ?_)
 ·unfold F23 at h; split at h
  ·simp
  ·cases h
 ·unfold F23 at h; split at h
  ·rename_i s
   split at h
   ·rename_i hs
    simp only [Option.some.injEq] at h
    subst h
    have htame := takeV_tame 4 ⟨s, 0, 0⟩
    have f53 : F53 [.str s] = some (if endS (takeV 4 ⟨s, 0, 0⟩).2 = 0 then .tup [(takeV 4 ⟨s, 0, 0⟩).1.dat, .int .i64 0] else .tup [.nilIface, .int .i64 (endS (takeV 4 ⟨s, 0, 0⟩).2)]) := if_pos hs
    unfold unbytesO
    generalize takeV 4 ⟨s, 0, 0⟩ = q at f53 htame ⊢
    obtain ⟨v, c⟩ := q
    simp only at f53 htame ⊢
    unfold dc23
    by_cases he : endS c = 0
    ·have he' : (endS c = 0) = True := eq_true he
     rw [if_pos he] at f53
     rw [if_neg (by simp [he])]
     have f54 : ∀ nn tn, F54 false [v.dat, .slice nn tn [.str [98, 101, 104, 105, 110, 100], .str [99, 97, 108, 108, 115], .str [108, 101, 102, 116], .str [115, 101, 97, 108, 101, 100], .str [116, 105, 99, 107, 115]]] = some (.slice false [] [(oFive v).1.1.dat, (oFive v).1.2.1.dat, (oFive v).1.2.2.1.dat, (oFive v).1.2.2.2.1.dat, (oFive v).1.2.2.2.2.dat], (oFive v).2) := fun nn tn => f54_dat v
     obtain ⟨T1, T2⟩ := oFive_tame htame
     have hrd : readO v = (⟨(oCalls (oList (oTexts (oList (oNum (oTruth (oNum (oFive v).2 (oFive v).1.2.2.1).2 (oFive v).1.2.2.2.1).2 (oFive v).1.2.2.2.2).2 (oFive v).1.1).2 (oList (oNum (oTruth (oNum (oFive v).2 (oFive v).1.2.2.1).2 (oFive v).1.2.2.2.1).2 (oFive v).1.2.2.2.2).2 (oFive v).1.1).1).2 (oFive v).1.2.1).2 (oList (oTexts (oList (oNum (oTruth (oNum (oFive v).2 (oFive v).1.2.2.1).2 (oFive v).1.2.2.2.1).2 (oFive v).1.2.2.2.2).2 (oFive v).1.1).2 (oList (oNum (oTruth (oNum (oFive v).2 (oFive v).1.2.2.1).2 (oFive v).1.2.2.2.1).2 (oFive v).1.2.2.2.2).2 (oFive v).1.1).1).2 (oFive v).1.2.1).1).1, (oNum (oTruth (oNum (oFive v).2 (oFive v).1.2.2.1).2 (oFive v).1.2.2.2.1).2 (oFive v).1.2.2.2.2).1, (oNum (oFive v).2 (oFive v).1.2.2.1).1, (oTruth (oNum (oFive v).2 (oFive v).1.2.2.1).2 (oFive v).1.2.2.2.1).1, (oTexts (oList (oNum (oTruth (oNum (oFive v).2 (oFive v).1.2.2.1).2 (oFive v).1.2.2.2.1).2 (oFive v).1.2.2.2.2).2 (oFive v).1.1).2 (oList (oNum (oTruth (oNum (oFive v).2 (oFive v).1.2.2.1).2 (oFive v).1.2.2.2.1).2 (oFive v).1.2.2.2.2).2 (oFive v).1.1).1).1⟩, (oCalls (oList (oTexts (oList (oNum (oTruth (oNum (oFive v).2 (oFive v).1.2.2.1).2 (oFive v).1.2.2.2.1).2 (oFive v).1.2.2.2.2).2 (oFive v).1.1).2 (oList (oNum (oTruth (oNum (oFive v).2 (oFive v).1.2.2.1).2 (oFive v).1.2.2.2.1).2 (oFive v).1.2.2.2.2).2 (oFive v).1.1).1).2 (oFive v).1.2.1).2 (oList (oTexts (oList (oNum (oTruth (oNum (oFive v).2 (oFive v).1.2.2.1).2 (oFive v).1.2.2.2.1).2 (oFive v).1.2.2.2.2).2 (oFive v).1.1).2 (oList (oNum (oTruth (oNum (oFive v).2 (oFive v).1.2.2.1).2 (oFive v).1.2.2.2.1).2 (oFive v).1.2.2.2.2).2 (oFive v).1.1).1).2 (oFive v).1.2.1).1).2) := rfl
     rw [hrd]
     obtain ⟨v1, v2, v3, v4, _, _, _⟩ := dat_cells v
     generalize oFive v = x5 at f54 T1 T2 ⊢
     obtain ⟨⟨xa, xb, xc, xd, xe⟩, b0⟩ := x5
     simp only at f54 T1 T2 ⊢
     have g2 := f55_dat b0 xc
     generalize oNum b0 xc = p2 at g2 ⊢
     obtain ⟨n2, b2⟩ := p2
     simp only at g2 ⊢
     have g3 := f56_dat b2 xd
     generalize oTruth b2 xd = p3 at g3 ⊢
     obtain ⟨n3, b3⟩ := p3
     simp only at g3 ⊢
     have g4 := f55_dat b3 xe
     generalize oNum b3 xe = p4 at g4 ⊢
     obtain ⟨n4, b4⟩ := p4
     simp only at g4 ⊢
     obtain ⟨nl0, g0⟩ := f57_dat b4 xa
     have L0 := tame_list (b := b4) T1
     generalize oList b4 xa = q0 at g0 L0 ⊢
     obtain ⟨l0, c0⟩ := q0
     simp only at g0 L0 ⊢
     have wa := (dat_cells xa).2.2.1
     have wb := (dat_cells xb).2.2.1
     have wc := (dat_cells xc).2.2.1
     have wd := (dat_cells xd).2.2.1
     have we := (dat_cells xe).2.2.1
     have hfb : fillD [.bool false] [] = some [.bool false] := rfl
     have hfill : ∀ (p q : Int) (o : Bool), fillD [.slice true [] [], .int .i64 0, .int .i64 0, .bool false, .slice true [] []] [(2, 1, .int .i64 p), (3, 1, .bool o), (1, 1, .int .i64 q)] = some [.slice true [] [], .int .i64 q, .int .i64 p, .bool o, .slice true [] []] := fun p q o => rfl
     simp (disch := omega) only [↓go1, gB0, ↓x_tass, reduceIte, Nat.reduceEqDiff, Nat.reduceAdd, Nat.reduceSub, Nat.reduceLT, Nat.reduceLeDiff, put1_rd, put_rd, growU_rd, opU_rd, lit_ne, ne_lit, Int.reduceEq, Int.reduceToNat, Int.reduceLE, List.drop_succ_cons, fill_nil, rd_zero, rd_succ, gB1, reduceCtorEq, ldD_agg, gB3, rowU_op, drawnU_op, data_if, cells_if, un_if, calm_if, calm1_if, data_ni, cells_ni, un_ni, calm_ni, calm1_ni, f53, v1, v2, v3, v4, wa, wb, wc, wd, we, hfb, hfill, List.map_cons, List.map_nil, callK_fun s53, callK_fn s54, callK_fn s55, callK_fn s56, callK_fn s57]
     refine got_op (by simp [put_rd]) (f54 _ _) ?_
     simp (disch := omega) only [↓go1, gB0, ↓x_tass, reduceIte, Nat.reduceEqDiff, Nat.reduceAdd, Nat.reduceSub, Nat.reduceLT, Nat.reduceLeDiff, put1_rd, put_rd, growU_rd, opU_rd, lit_ne, ne_lit, Int.reduceEq, Int.reduceToNat, Int.reduceLE, List.drop_succ_cons, fill_nil, rd_zero, rd_succ, gB1, reduceCtorEq, ldD_agg, gB3, rowU_op, drawnU_op, data_if, cells_if, un_if, calm_if, calm1_if, data_ni, cells_ni, un_ni, calm_ni, calm1_ni, f53, v1, v2, v3, v4, wa, wb, wc, wd, we, hfb, hfill, List.map_cons, List.map_nil, callK_fun s53, callK_fn s54, callK_fn s55, callK_fn s56, callK_fn s57]
     refine got_op (by simp [opU_rd]) g2 ?_
     simp (disch := omega) only [↓go1, gB0, ↓x_tass, reduceIte, Nat.reduceEqDiff, Nat.reduceAdd, Nat.reduceSub, Nat.reduceLT, Nat.reduceLeDiff, put1_rd, put_rd, growU_rd, opU_rd, lit_ne, ne_lit, Int.reduceEq, Int.reduceToNat, Int.reduceLE, List.drop_succ_cons, fill_nil, rd_zero, rd_succ, gB1, reduceCtorEq, ldD_agg, gB3, rowU_op, drawnU_op, data_if, cells_if, un_if, calm_if, calm1_if, data_ni, cells_ni, un_ni, calm_ni, calm1_ni, f53, v1, v2, v3, v4, wa, wb, wc, wd, we, hfb, hfill, List.map_cons, List.map_nil, callK_fun s53, callK_fn s54, callK_fn s55, callK_fn s56, callK_fn s57]
     refine got_op (by simp [opU_rd]) g3 ?_
     simp (disch := omega) only [↓go1, gB0, ↓x_tass, reduceIte, Nat.reduceEqDiff, Nat.reduceAdd, Nat.reduceSub, Nat.reduceLT, Nat.reduceLeDiff, put1_rd, put_rd, growU_rd, opU_rd, lit_ne, ne_lit, Int.reduceEq, Int.reduceToNat, Int.reduceLE, List.drop_succ_cons, fill_nil, rd_zero, rd_succ, gB1, reduceCtorEq, ldD_agg, gB3, rowU_op, drawnU_op, data_if, cells_if, un_if, calm_if, calm1_if, data_ni, cells_ni, un_ni, calm_ni, calm1_ni, f53, v1, v2, v3, v4, wa, wb, wc, wd, we, hfb, hfill, List.map_cons, List.map_nil, callK_fun s53, callK_fn s54, callK_fn s55, callK_fn s56, callK_fn s57]
     refine got_op (by simp [opU_rd]) g4 ?_
     simp (disch := omega) only [↓go1, gB0, ↓x_tass, reduceIte, Nat.reduceEqDiff, Nat.reduceAdd, Nat.reduceSub, Nat.reduceLT, Nat.reduceLeDiff, put1_rd, put_rd, growU_rd, opU_rd, lit_ne, ne_lit, Int.reduceEq, Int.reduceToNat, Int.reduceLE, List.drop_succ_cons, fill_nil, rd_zero, rd_succ, gB1, reduceCtorEq, ldD_agg, gB3, rowU_op, drawnU_op, data_if, cells_if, un_if, calm_if, calm1_if, data_ni, cells_ni, un_ni, calm_ni, calm1_ni, f53, v1, v2, v3, v4, wa, wb, wc, wd, we, hfb, hfill, List.map_cons, List.map_nil, callK_fun s53, callK_fn s54, callK_fn s55, callK_fn s56, callK_fn s57]
     refine Need.intro (fun p hp w hw' => ?_) ?_
     ·simp only [List.mem_cons, List.mem_nil_iff, or_false] at hp
      repeat' (rcases hp with rfl | hp)
      all_goals (try subst hp)
      all_goals simp only [List.getD_cons_succ, List.getD_cons_zero, wlocs, rds, opU] at hw' ⊢
      all_goals
       simp (disch := omega) only [↓go1, gB0, ↓x_tass, reduceIte, Nat.reduceEqDiff, Nat.reduceAdd, Nat.reduceSub, Nat.reduceLT, Nat.reduceLeDiff, put1_rd, put_rd, growU_rd, opU_rd, lit_ne, ne_lit, Int.reduceEq, Int.reduceToNat, Int.reduceLE, List.drop_succ_cons, fill_nil, rd_zero, rd_succ, gB1, reduceCtorEq, ldD_agg, gB3, rowU_op, drawnU_op, data_if, cells_if, un_if, calm_if, calm1_if, data_ni, cells_ni, un_ni, calm_ni, calm1_ni, f53, v1, v2, v3, v4, wa, wb, wc, wd, we, hfb, hfill, List.map_cons, List.map_nil, callK_fun s53, callK_fn s54, callK_fn s55, callK_fn s56, callK_fn s57, s55, s56, opQ, List.not_mem_nil] at hw' ⊢
      all_goals
       simp only [List.flatMap_cons, List.flatMap_nil, List.append_nil, cellLocs, List.mem_map, List.mem_range] at hw'
       obtain ⟨k, hk, rfl⟩ := hw'
       simp [cellLocs]
     simp (disch := omega) only [↓go1, gB0, ↓x_tass, reduceIte, Nat.reduceEqDiff, Nat.reduceAdd, Nat.reduceSub, Nat.reduceLT, Nat.reduceLeDiff, put1_rd, put_rd, growU_rd, opU_rd, lit_ne, ne_lit, Int.reduceEq, Int.reduceToNat, Int.reduceLE, List.drop_succ_cons, fill_nil, rd_zero, rd_succ, gB1, reduceCtorEq, ldD_agg, gB3, rowU_op, drawnU_op, data_if, cells_if, un_if, calm_if, calm1_if, data_ni, cells_ni, un_ni, calm_ni, calm1_ni, f53, v1, v2, v3, v4, wa, wb, wc, wd, we, hfb, hfill, List.map_cons, List.map_nil, callK_fun s53, callK_fn s54, callK_fn s55, callK_fn s56, callK_fn s57]
     refine got_op (by simp [opU_rd, put_rd]) g0 ?_
     simp (disch := omega) only [↓go1, gB0, ↓x_tass, reduceIte, Nat.reduceEqDiff, Nat.reduceAdd, Nat.reduceSub, Nat.reduceLT, Nat.reduceLeDiff, put1_rd, put_rd, growU_rd, opU_rd, lit_ne, ne_lit, Int.reduceEq, Int.reduceToNat, Int.reduceLE, List.drop_succ_cons, fill_nil, rd_zero, rd_succ, gB1, reduceCtorEq, ldD_agg, gB3, rowU_op, drawnU_op, data_if, cells_if, un_if, calm_if, calm1_if, data_ni, cells_ni, un_ni, calm_ni, calm1_ni, f53, v1, v2, v3, v4, wa, wb, wc, wd, we, hfb, hfill, List.map_cons, List.map_nil, callK_fun s53, callK_fn s54, callK_fn s55, callK_fn s56, callK_fn s57]
     refine loop23a s58 (l := l0) L0 (b0 := c0) (t0 := ⟨[], n4, n2, n3, []⟩) (tc := []) (X := .slice false [] [xa.dat, xb.dat, xc.dat, xd.dat, xe.dat]) (fun st tb h2 h6 h8 h7 I hc => ?_) _ 0 [] _ _ (Nat.zero_add _) rfl ?_ rfl rfl rfl rfl rfl (by simp only; omega) ?_ (.inl rfl)
     ·generalize hr0 : oTexts c0 l0 = r0 at I ⊢
      obtain ⟨bs, d0⟩ := r0
      simp only at I ⊢
      obtain ⟨nl1, g1⟩ := f57_dat d0 xb
      have L1 := tame_list (b := d0) T2
      generalize oList d0 xb = q1 at g1 L1 ⊢
      obtain ⟨l1, c1⟩ := q1
      simp only at g1 L1 ⊢
      simp (disch := omega) only [↓go1, gB0, ↓x_tass, reduceIte, Nat.reduceEqDiff, Nat.reduceAdd, Nat.reduceSub, Nat.reduceLT, Nat.reduceLeDiff, put1_rd, put_rd, growU_rd, opU_rd, lit_ne, ne_lit, Int.reduceEq, Int.reduceToNat, Int.reduceLE, List.drop_succ_cons, fill_nil, rd_zero, rd_succ, gB1, reduceCtorEq, ldD_agg, gB3, rowU_op, drawnU_op, data_if, cells_if, un_if, calm_if, calm1_if, data_ni, cells_ni, un_ni, calm_ni, calm1_ni, f53, v1, v2, v3, v4, wa, wb, wc, wd, we, hfb, hfill, List.map_cons, List.map_nil, callK_fun s53, callK_fn s54, callK_fn s55, callK_fn s56, callK_fn s57, h2, h6, h8, h7]
      refine got_op I.o g1 ?_
      simp (disch := omega) only [↓go1, gB0, ↓x_tass, reduceIte, Nat.reduceEqDiff, Nat.reduceAdd, Nat.reduceSub, Nat.reduceLT, Nat.reduceLeDiff, put1_rd, put_rd, growU_rd, opU_rd, lit_ne, ne_lit, Int.reduceEq, Int.reduceToNat, Int.reduceLE, List.drop_succ_cons, fill_nil, rd_zero, rd_succ, gB1, reduceCtorEq, ldD_agg, gB3, rowU_op, drawnU_op, data_if, cells_if, un_if, calm_if, calm1_if, data_ni, cells_ni, un_ni, calm_ni, calm1_ni, f53, v1, v2, v3, v4, wa, wb, wc, wd, we, hfb, hfill, List.map_cons, List.map_nil, callK_fun s53, callK_fn s54, callK_fn s55, callK_fn s56, callK_fn s57, h2, h6, h8, h7]
      refine loop23b s59 (l := l1) L1 (b0 := c1) (t0 := ⟨[], n4, n2, n3, bs⟩) (tb := tb) (fun st tc h2 h6 h8 I hc => ?_) _ 0 [] _ _ (Nat.zero_add _) rfl ?_ rfl h2 h6 h8 (by simp only; omega) (VI.op I) (.inl rfl)
      ·generalize hr1 : oCalls c1 l1 = r1 at I ⊢
       obtain ⟨cs, e1⟩ := r1
       simp only at I ⊢
       have f15 : ∀ a x b y, F15 [.agg [.slice a x (cs.map dnD), .int .i64 n4, .int .i64 n2, .bool n3, .slice b y (bs.map .str)]] = some (.int .i64 (checkB ⟨cs, n4, n2, n3, bs⟩)) := fun a x b y => by
        simp only [F15, tdOf, dnsOf_map, strsOf_map]
       cases e1 with
       | true =>
        rw [if_pos (.inl rfl)]
        simp (disch := omega) only [↓go1, gB0, ↓x_tass, reduceIte, Nat.reduceEqDiff, Nat.reduceAdd, Nat.reduceSub, Nat.reduceLT, Nat.reduceLeDiff, put1_rd, put_rd, growU_rd, opU_rd, lit_ne, ne_lit, Int.reduceEq, Int.reduceToNat, Int.reduceLE, List.drop_succ_cons, fill_nil, rd_zero, rd_succ, gB1, reduceCtorEq, ldD_agg, gB3, rowU_op, drawnU_op, data_if, cells_if, un_if, calm_if, calm1_if, data_ni, cells_ni, un_ni, calm_ni, calm1_ni, f53, v1, v2, v3, v4, wa, wb, wc, wd, we, hfb, hfill, List.map_cons, List.map_nil, callK_fun s53, callK_fn s54, callK_fn s55, callK_fn s56, callK_fn s57, h2, h6, h8, I.z0, I.z1, I.z2, I.z3, I.z4, I.o, I.t0, I.t1, I.t2, I.t3, I.t4, res_ct]
        exact ⟨rfl, rfl⟩
       | false =>
        by_cases hk : checkB ⟨cs, n4, n2, n3, bs⟩ = 0
        ·have hk' : (checkB ⟨cs, n4, n2, n3, bs⟩ = 0) = True := eq_true hk
         rw [if_neg (by simp [hk])]
         simp (disch := omega) only [↓go1, gB0, ↓x_tass, reduceIte, Nat.reduceEqDiff, Nat.reduceAdd, Nat.reduceSub, Nat.reduceLT, Nat.reduceLeDiff, put1_rd, put_rd, growU_rd, opU_rd, lit_ne, ne_lit, Int.reduceEq, Int.reduceToNat, Int.reduceLE, List.drop_succ_cons, fill_nil, rd_zero, rd_succ, gB1, reduceCtorEq, ldD_agg, gB3, rowU_op, drawnU_op, data_if, cells_if, un_if, calm_if, calm1_if, data_ni, cells_ni, un_ni, calm_ni, calm1_ni, f53, v1, v2, v3, v4, wa, wb, wc, wd, we, hfb, hfill, List.map_cons, List.map_nil, callK_fun s53, callK_fn s54, callK_fn s55, callK_fn s56, callK_fn s57, h2, h6, h8, I.z0, I.z1, I.z2, I.z3, I.z4, I.o, I.t0, I.t1, I.t2, I.t3, I.t4, res_ct, f15, hk', callK_fun s15]
         first | rfl | exact ⟨rfl, rfl⟩
        ·have hk' : (checkB ⟨cs, n4, n2, n3, bs⟩ = 0) = False := eq_false hk
         rw [if_pos (.inr hk)]
         simp (disch := omega) only [↓go1, gB0, ↓x_tass, reduceIte, Nat.reduceEqDiff, Nat.reduceAdd, Nat.reduceSub, Nat.reduceLT, Nat.reduceLeDiff, put1_rd, put_rd, growU_rd, opU_rd, lit_ne, ne_lit, Int.reduceEq, Int.reduceToNat, Int.reduceLE, List.drop_succ_cons, fill_nil, rd_zero, rd_succ, gB1, reduceCtorEq, ldD_agg, gB3, rowU_op, drawnU_op, data_if, cells_if, un_if, calm_if, calm1_if, data_ni, cells_ni, un_ni, calm_ni, calm1_ni, f53, v1, v2, v3, v4, wa, wb, wc, wd, we, hfb, hfill, List.map_cons, List.map_nil, callK_fun s53, callK_fn s54, callK_fn s55, callK_fn s56, callK_fn s57, h2, h6, h8, I.z0, I.z1, I.z2, I.z3, I.z4, I.o, I.t0, I.t1, I.t2, I.t3, I.t4, res_ct, f15, hk', callK_fun s15]
         exact ⟨rfl, rfl⟩
      ·simp only [↓go1, gB0, ↓x_tass, reduceIte, Nat.reduceEqDiff, Nat.reduceAdd, Nat.reduceSub, Nat.reduceLT, Nat.reduceLeDiff, put1_rd, put_rd, growU_rd, opU_rd, lit_ne, ne_lit, Int.reduceEq, Int.reduceToNat, Int.reduceLE, List.drop_succ_cons, fill_nil, rd_zero, rd_succ, gB1, reduceCtorEq, ldD_agg, gB3, rowU_op, drawnU_op, data_if, cells_if, un_if, calm_if, calm1_if, data_ni, cells_ni, un_ni, calm_ni, calm1_ni, datL_len]
     ·simp only [↓go1, gB0, ↓x_tass, reduceIte, Nat.reduceEqDiff, Nat.reduceAdd, Nat.reduceSub, Nat.reduceLT, Nat.reduceLeDiff, put1_rd, put_rd, growU_rd, opU_rd, lit_ne, ne_lit, Int.reduceEq, Int.reduceToNat, Int.reduceLE, List.drop_succ_cons, fill_nil, rd_zero, rd_succ, gB1, reduceCtorEq, ldD_agg, gB3, rowU_op, drawnU_op, data_if, cells_if, un_if, calm_if, calm1_if, data_ni, cells_ni, un_ni, calm_ni, calm1_ni, datL_len]
     ·exact ⟨rfl, rfl, rfl, rfl, rfl, rfl, rfl, rfl, rfl, rfl, rfl⟩
    ·have he' : (endS c = 0) = False := eq_false he
     rw [if_neg he] at f53
     rw [if_pos (by simp [he])]
     simp (disch := omega) only [↓go1, gB0, ↓x_tass, reduceIte, Nat.reduceEqDiff, Nat.reduceAdd, Nat.reduceSub, Nat.reduceLT, Nat.reduceLeDiff, put1_rd, put_rd, growU_rd, opU_rd, lit_ne, ne_lit, Int.reduceEq, Int.reduceToNat, Int.reduceLE, List.drop_succ_cons, fill_nil, rd_zero, rd_succ, gB1, reduceCtorEq, ldD_agg, gB3, rowU_op, drawnU_op, data_if, cells_if, un_if, calm_if, calm1_if, data_ni, cells_ni, un_ni, calm_ni, calm1_ni, f53, he', res_ct, callK_fun s53]
     exact ⟨rfl, rfl⟩
   ·cases h
  ·cases h
end Go.Vd

namespace Go.Vd
open Go.RowKit
set_option maxRecDepth 10000
theorem unbytesR_some {s : Bs} {t : Td} (h : unbytesR s = some t) : checkB t = 0 ∧ bytesB t = s := by
 unfold unbytesR at h; split at h
 ·cases h
 ·split at h
  ·rename_i hc; simp only [Option.some.injEq] at h; subst h; exact hc
  ·cases h
end Go.Vd

namespace Go.Vd
open Go.RowKit
set_option maxRecDepth 10000
def F6 : List D → Option D
 | [a, .slice _ _ xs, .str _] => match tdOf a, strsOf xs with
  | some _, some _ => some (.bool true)
  | _, _ => none
 | _ => none
theorem lines_len {t : Td} (h : checkB t = 0) : (linesB t).length ≤ 1000 ∧ ∀ s ∈ linesB t, s.length ≤ 1000000 := by
 obtain ⟨b1, b2, b3, b4⟩ := lines_ok h
 refine ⟨by simp only [linesB, List.length_append, List.length_cons, List.length_map]; omega, fun s hs => ?_⟩
 simp only [linesB, List.cons_append, List.mem_cons, List.mem_append, List.mem_map] at hs
 rcases hs with rfl | ⟨d, hd, rfl⟩ | ⟨b, hb, rfl⟩
 ·have h0 := joinB_len (toldW t)
  have h1 := digits_len t.ticks
  have h2 := digits_len t.left
  have h5 := flag_len t.shut
  simp only [toldW, kTold, sumL, List.length_cons, List.length_nil] at h0 ⊢
  omega
 ·have h0 := joinB_len (callW d)
  have h1 := digits_len d.cl
  have h2 := digits_len d.fr
  have h3 := digits_len d.at_
  have h4 := digits_len d.to
  have h5 := flag_len d.is
  have h6 := word_len d.line
  have h7 := word_len d.reply
  have h8 := b3 d hd
  simp only [callW, kCall, sumL, List.length_cons, List.length_nil] at h0 ⊢
  omega
 ·have h0 := joinB_len (saidW b)
  have h6 := word_len b
  have h8 := b4 b hb
  simp only [saidW, kSaid, sumL, List.length_cons, List.length_nil] at h0 ⊢
  omega
theorem unbytesO_back {t : Td} (h : checkB t = 0) : unbytesO (bytesB t) = some t := by
 have o1 := takeV_ok 4 (tellT t) ⟨bytesB t, 0, 0⟩ [] (tell_fit h) (tell_good t) (tell_lev t) (laid_on rfl)
 unfold unbytesO
 rw [o1]
 simp only
 rw [if_neg (by simp [end_ok (s := bytesB t) (v := tellT t) rfl]), readO_of h, if_neg (by simp [h])]
set_option maxHeartbeats 16000000 in
theorem ok6 {P : Program} (hd : Desk P) (hb : DeskB P) (h9 : (funS trueF).ok P 9) (h10 : (funS Flines).ok P 10) (h13 : (funS F13).ok P 13) (h15 : (funS F15).ok P 15) (h21 : (funS Fbytes).ok P 21) (h23 : (funS F23).ok P 23) : (funS F6).ok P 6 := by
 obtain ⟨S, hS, s7, s8, s9, s10, s11, s13, s15, s17, s20, s21, s23⟩ : ∃ S : Summs, Summs.ok P S ∧ S 7 = some (funS F7) ∧ S 8 = some (funS F8) ∧ S 9 = some (funS trueF) ∧ S 10 = some (funS Flines) ∧ S 11 = some (funS F11) ∧ S 13 = some (funS F13) ∧ S 15 = some (funS F15) ∧ S 17 = some (funS Fst) ∧ S 20 = some (funS Fsame) ∧ S 21 = some (funS Fbytes) ∧ S 23 = some (funS F23) :=
  ⟨tabL [(7, _), (8, _), (9, _), (10, _), (11, _), (13, _), (15, _), (17, _), (20, _), (21, _), (23, _)], (tabL_cons (ok7 hd) (tabL_cons (ok8 hd) (tabL_cons h9 (tabL_cons h10 (tabL_cons (ok11 hd) (tabL_cons h13 (tabL_cons h15 (tabL_cons (ok17 hd) (tabL_cons (ok20 hd) (tabL_cons h21 (tabL_cons h23 tabL_nil))))))))))), rfl, rfl, rfl, rfl, rfl, rfl, rfl, rfl, rfl, rfl, rfl⟩
 refine fun_ok (S := S) hS hb.f6 (fun ds r h => ?_) (fun ds r h => ?_)
 ·unfold F6 at h; split at h
  ·simp
  ·cases h
 ·unfold F6 at h; split at h
  ·rename_i d nl z xs s
   split at h
   ·rename_i p l ht hl
    obtain ⟨nc, nb, t⟩ := p
    obtain ⟨x, y, rfl⟩ := tdOf_some ht
    obtain rfl := strsOf_some hl
    simp only [Option.some.injEq] at h
    subst h
    have f7t : ∀ x y, F7 [.agg [.slice nc x (t.calls.map dnD), .int .i64 t.ticks, .int .i64 t.left, .bool t.shut, .slice nb y (t.behind.map .str)]] = some (.bool (overB t)) := fun x y => by simp only [F7, tdOf_mk]
    have f8 : ∀ n i, F8 [.slice n i (l.map .str)] = some (.bool (manyB l)) := fun n i => by simp only [F8, strsOf_map]
    have f9 : trueF [] = some (.bool true) := rfl
    have x10 : (([1] : Id) = [0]) = False := by simp
    unfold dc6
    cases o1 : overB t with
    | true =>
     simp only [o1] at f7t
     simp only [↓go1, gB0, reduceIte, Nat.reduceEqDiff, Nat.reduceAdd, Nat.reduceSub, Nat.reduceLT, Nat.reduceLeDiff, rd_succ, rd_zero, put_rd, fill_nil, tdCells, callK_fun s7, callK_fun s8, callK_fun s9, callK_fun s10, callK_fun s11, callK_fun s13, callK_fun s15, callK_fun s17, callK_fun s20, callK_fun s21, callK_fun s23, f7t, f8, f9, Int.reduceEq, x10]
    | false =>
     simp only [o1] at f7t
     obtain ⟨t1, t2⟩ := over_le o1
     cases o2 : manyB l with
     | true =>
      simp only [o2] at f8
      simp only [↓go1, gB0, reduceIte, Nat.reduceEqDiff, Nat.reduceAdd, Nat.reduceSub, Nat.reduceLT, Nat.reduceLeDiff, rd_succ, rd_zero, put_rd, fill_nil, tdCells, callK_fun s7, callK_fun s8, callK_fun s9, callK_fun s10, callK_fun s11, callK_fun s13, callK_fun s15, callK_fun s17, callK_fun s20, callK_fun s21, callK_fun s23, f7t, f8, f9, Int.reduceEq, x10]
     | false =>
      simp only [o2] at f8
      have hm := many_le o2
      by_cases hl : 2000 < s.length
      ·have l1 : (decide ((2000 : Int) < (s.length : Int))) = true := by simp; omega
       simp only [↓go1, gB0, reduceIte, Nat.reduceEqDiff, Nat.reduceAdd, Nat.reduceSub, Nat.reduceLT, Nat.reduceLeDiff, rd_succ, rd_zero, put_rd, fill_nil, tdCells, callK_fun s7, callK_fun s8, callK_fun s9, callK_fun s10, callK_fun s11, callK_fun s13, callK_fun s15, callK_fun s17, callK_fun s20, callK_fun s21, callK_fun s23, f7t, f8, f9, Int.reduceEq, x10, l1]
      ·have l1 : (decide ((2000 : Int) < (s.length : Int))) = false := by simp; omega
       have f11t : ∀ n x m y, F11 [.agg [.slice n x (t.calls.map dnD), .int .i64 t.ticks, .int .i64 t.left, .bool t.shut, .slice m y (t.behind.map .str)]] = some (tdD t.calls.isEmpty m t) := fun n x m y => by
        simp only [F11, tdOf_mk]; exact if_pos (by omega)
       have fsame : ∀ (u : Td), u.calls.length ≤ 1000 → u.behind.length ≤ 1000 → ∀ n x m y n' x' m' y', Fsame [.agg [.slice n x (u.calls.map dnD), .int .i64 u.ticks, .int .i64 u.left, .bool u.shut, .slice m y (u.behind.map .str)], .agg [.slice n' x' (u.calls.map dnD), .int .i64 u.ticks, .int .i64 u.left, .bool u.shut, .slice m' y' (u.behind.map .str)]] = some (.bool true) := fun u e1 e2 n x m y n' x' m' y' => by
        simp only [Fsame, tdOf_mk]; exact (if_pos ⟨by omega, by omega⟩).trans (by simp)
       have fst' := fsame t (by omega) (by omega)
       clear fsame
       have flt : ∀ n x m y, Flines [.agg [.slice n x (t.calls.map dnD), .int .i64 t.ticks, .int .i64 t.left, .bool t.shut, .slice m y (t.behind.map .str)]] = some (.tup [if checkB t = 0 then .slice false [] ((linesB t).map .str) else .slice true [] [], .int .i64 (checkB t)]) := fun n x m y => by
        simp only [Flines, tdOf_mk]
       have hlen : (((1 : Int) + (t.calls.length : Int)) + (t.behind.length : Int)) = (((linesB t).length : Nat) : Int) := by
        simp only [linesB, List.cons_append, List.length_cons, List.length_append, List.length_map]; omega
       have hw1 : IntKind.i64.wrap ((1 : Int) + (t.calls.length : Int)) = 1 + (t.calls.length : Int) := IntWalk.i64_in _ ⟨by omega, by omega⟩
       have hw2 : IntKind.i64.wrap (((1 : Int) + (t.calls.length : Int)) + (t.behind.length : Int)) = (((linesB t).length : Nat) : Int) := (IntWalk.i64_in _ ⟨by omega, by omega⟩).trans hlen
       have f13 : ∀ n i, F13 [.slice n i (l.map .str)] = some (parsed (parseB l)) := fun n i => by simp only [F13, strsOf_map]; exact if_pos hm
       have f23 : F23 [.str s] = some (parsed (unbytesO s)) := by simp only [F23]; exact if_pos (by omega)
       by_cases hc : checkB t = 0
       ·have g4 : (checkB t = 0) = True := eq_true hc
        simp only [g4, if_true, hc] at flt
        obtain ⟨ll1, ll2⟩ := lines_len hc
        have fbt : ∀ n x m y, Fbytes [.agg [.slice n x (t.calls.map dnD), .int .i64 t.ticks, .int .i64 t.left, .bool t.shut, .slice m y (t.behind.map .str)]] = some (.tup [.str (bytesB t), .int .i64 0]) := fun n x m y => by
         simp only [Fbytes, tdOf_mk, hc, reduceIte]
        have f13t : ∀ n i, F13 [.slice n i ((linesB t).map .str)] = some (.tup [tdD t.calls.isEmpty t.behind.isEmpty t, .int .i64 0]) := fun n i => by
         simp only [F13, strsOf_map, parse_lines hc]; exact if_pos ⟨ll1, ll2⟩
        have f23t : F23 [.str (bytesB t)] = some (.tup [tdD t.calls.isEmpty t.behind.isEmpty t, .int .i64 0]) := by
         simp only [F23, unbytesO_back hc]; exact if_pos (by have := tell_len hc; unfold bytesB; omega)
        cases hp : parseB l with
        | none =>
         rw [hp] at f13
         simp only [parsed] at f13
         cases hu : unbytesO s with
         | none =>
          rw [hu] at f23
          simp only [parsed] at f23
          simp only [↓go1, gB0, reduceIte, Nat.reduceEqDiff, Nat.reduceAdd, Nat.reduceSub, Nat.reduceLT, Nat.reduceLeDiff, rd_succ, rd_zero, put_rd, fill_nil, tdCells, callK_fun s7, callK_fun s8, callK_fun s9, callK_fun s10, callK_fun s11, callK_fun s13, callK_fun s15, callK_fun s17, callK_fun s20, callK_fun s21, callK_fun s23, f7t, f8, f9, Int.reduceEq, x10, l1, f11t, fst', flt, hw1, hw2, f13, f23, fbt, f13t, f23t, tdD, zeroT, List.map_nil]
         | some u =>
          rw [hu] at f23
          simp only [parsed] at f23
          obtain ⟨huc, hub⟩ := unbytesR_some ((unbytes_eq s).symm.trans hu)
          have fbu : ∀ n x m y, Fbytes [.agg [.slice n x (u.calls.map dnD), .int .i64 u.ticks, .int .i64 u.left, .bool u.shut, .slice m y (u.behind.map .str)]] = some (.tup [.str s, .int .i64 0]) := fun n x m y => by
           simp only [Fbytes, tdOf_mk, huc, hub, reduceIte]
          have f15u : ∀ n x m y, F15 [.agg [.slice n x (u.calls.map dnD), .int .i64 u.ticks, .int .i64 u.left, .bool u.shut, .slice m y (u.behind.map .str)]] = some (.int .i64 0) := fun n x m y => by simp only [F15, tdOf_mk, huc]
          simp only [↓go1, gB0, reduceIte, Nat.reduceEqDiff, Nat.reduceAdd, Nat.reduceSub, Nat.reduceLT, Nat.reduceLeDiff, rd_succ, rd_zero, put_rd, fill_nil, tdCells, callK_fun s7, callK_fun s8, callK_fun s9, callK_fun s10, callK_fun s11, callK_fun s13, callK_fun s15, callK_fun s17, callK_fun s20, callK_fun s21, callK_fun s23, f7t, f8, f9, Int.reduceEq, x10, l1, f11t, fst', flt, hw1, hw2, f13, f23, fbt, f13t, f23t, tdD, zeroT, List.map_nil, fbu, f15u]
        | some p =>
         rw [hp] at f13
         simp only [parsed] at f13
         obtain ⟨_, hpl, hpc⟩ := parse_some hp
         have flp : ∀ n x m y, Flines [.agg [.slice n x (p.calls.map dnD), .int .i64 p.ticks, .int .i64 p.left, .bool p.shut, .slice m y (p.behind.map .str)]] = some (.tup [.slice false [] (l.map .str), .int .i64 0]) := fun n x m y => by
          simp only [Flines, tdOf_mk, hpc, hpl, if_true]
         have f15p : ∀ n x m y, F15 [.agg [.slice n x (p.calls.map dnD), .int .i64 p.ticks, .int .i64 p.left, .bool p.shut, .slice m y (p.behind.map .str)]] = some (.int .i64 0) := fun n x m y => by simp only [F15, tdOf_mk, hpc]
         have f17 : ∀ n1 i1 n2 i2, Fst [.slice n1 i1 (l.map .str), .slice n2 i2 (l.map .str)] = some (.bool true) := fun _ _ _ _ => by
          simp only [Fst, strsOf_map]; exact (if_pos (by have := hm.1; omega)).trans (by simp)
         cases hu : unbytesO s with
         | none =>
          rw [hu] at f23
          simp only [parsed] at f23
          simp only [↓go1, gB0, reduceIte, Nat.reduceEqDiff, Nat.reduceAdd, Nat.reduceSub, Nat.reduceLT, Nat.reduceLeDiff, rd_succ, rd_zero, put_rd, fill_nil, tdCells, callK_fun s7, callK_fun s8, callK_fun s9, callK_fun s10, callK_fun s11, callK_fun s13, callK_fun s15, callK_fun s17, callK_fun s20, callK_fun s21, callK_fun s23, f7t, f8, f9, Int.reduceEq, x10, l1, f11t, fst', flt, hw1, hw2, f13, f23, fbt, f13t, f23t, tdD, zeroT, List.map_nil, flp, f15p, f17]
         | some u =>
          rw [hu] at f23
          simp only [parsed] at f23
          obtain ⟨huc, hub⟩ := unbytesR_some ((unbytes_eq s).symm.trans hu)
          have fbu : ∀ n x m y, Fbytes [.agg [.slice n x (u.calls.map dnD), .int .i64 u.ticks, .int .i64 u.left, .bool u.shut, .slice m y (u.behind.map .str)]] = some (.tup [.str s, .int .i64 0]) := fun n x m y => by
           simp only [Fbytes, tdOf_mk, huc, hub, reduceIte]
          have f15u : ∀ n x m y, F15 [.agg [.slice n x (u.calls.map dnD), .int .i64 u.ticks, .int .i64 u.left, .bool u.shut, .slice m y (u.behind.map .str)]] = some (.int .i64 0) := fun n x m y => by simp only [F15, tdOf_mk, huc]
          simp only [↓go1, gB0, reduceIte, Nat.reduceEqDiff, Nat.reduceAdd, Nat.reduceSub, Nat.reduceLT, Nat.reduceLeDiff, rd_succ, rd_zero, put_rd, fill_nil, tdCells, callK_fun s7, callK_fun s8, callK_fun s9, callK_fun s10, callK_fun s11, callK_fun s13, callK_fun s15, callK_fun s17, callK_fun s20, callK_fun s21, callK_fun s23, f7t, f8, f9, Int.reduceEq, x10, l1, f11t, fst', flt, hw1, hw2, f13, f23, fbt, f13t, f23t, tdD, zeroT, List.map_nil, fbu, f15u, flp, f15p, f17]
       ·have g4 : (checkB t = 0) = False := eq_false hc
        simp only [g4, if_false] at flt
        cases hp : parseB l with
        | none =>
         rw [hp] at f13
         simp only [parsed] at f13
         cases hu : unbytesO s with
         | none =>
          rw [hu] at f23
          simp only [parsed] at f23
          simp only [↓go1, gB0, reduceIte, Nat.reduceEqDiff, Nat.reduceAdd, Nat.reduceSub, Nat.reduceLT, Nat.reduceLeDiff, rd_succ, rd_zero, put_rd, fill_nil, tdCells, callK_fun s7, callK_fun s8, callK_fun s9, callK_fun s10, callK_fun s11, callK_fun s13, callK_fun s15, callK_fun s17, callK_fun s20, callK_fun s21, callK_fun s23, f7t, f8, f9, Int.reduceEq, x10, l1, f11t, fst', flt, g4, f13, f23, tdD, zeroT, List.map_nil]
         | some u =>
          rw [hu] at f23
          simp only [parsed] at f23
          obtain ⟨huc, hub⟩ := unbytesR_some ((unbytes_eq s).symm.trans hu)
          have fbu : ∀ n x m y, Fbytes [.agg [.slice n x (u.calls.map dnD), .int .i64 u.ticks, .int .i64 u.left, .bool u.shut, .slice m y (u.behind.map .str)]] = some (.tup [.str s, .int .i64 0]) := fun n x m y => by
           simp only [Fbytes, tdOf_mk, huc, hub, reduceIte]
          have f15u : ∀ n x m y, F15 [.agg [.slice n x (u.calls.map dnD), .int .i64 u.ticks, .int .i64 u.left, .bool u.shut, .slice m y (u.behind.map .str)]] = some (.int .i64 0) := fun n x m y => by simp only [F15, tdOf_mk, huc]
          simp only [↓go1, gB0, reduceIte, Nat.reduceEqDiff, Nat.reduceAdd, Nat.reduceSub, Nat.reduceLT, Nat.reduceLeDiff, rd_succ, rd_zero, put_rd, fill_nil, tdCells, callK_fun s7, callK_fun s8, callK_fun s9, callK_fun s10, callK_fun s11, callK_fun s13, callK_fun s15, callK_fun s17, callK_fun s20, callK_fun s21, callK_fun s23, f7t, f8, f9, Int.reduceEq, x10, l1, f11t, fst', flt, g4, f13, f23, tdD, zeroT, List.map_nil, fbu, f15u]
        | some p =>
         rw [hp] at f13
         simp only [parsed] at f13
         obtain ⟨_, hpl, hpc⟩ := parse_some hp
         have flp : ∀ n x m y, Flines [.agg [.slice n x (p.calls.map dnD), .int .i64 p.ticks, .int .i64 p.left, .bool p.shut, .slice m y (p.behind.map .str)]] = some (.tup [.slice false [] (l.map .str), .int .i64 0]) := fun n x m y => by
          simp only [Flines, tdOf_mk, hpc, hpl, if_true]
         have f15p : ∀ n x m y, F15 [.agg [.slice n x (p.calls.map dnD), .int .i64 p.ticks, .int .i64 p.left, .bool p.shut, .slice m y (p.behind.map .str)]] = some (.int .i64 0) := fun n x m y => by simp only [F15, tdOf_mk, hpc]
         have f17 : ∀ n1 i1 n2 i2, Fst [.slice n1 i1 (l.map .str), .slice n2 i2 (l.map .str)] = some (.bool true) := fun _ _ _ _ => by
          simp only [Fst, strsOf_map]; exact (if_pos (by have := hm.1; omega)).trans (by simp)
         cases hu : unbytesO s with
         | none =>
          rw [hu] at f23
          simp only [parsed] at f23
          simp only [↓go1, gB0, reduceIte, Nat.reduceEqDiff, Nat.reduceAdd, Nat.reduceSub, Nat.reduceLT, Nat.reduceLeDiff, rd_succ, rd_zero, put_rd, fill_nil, tdCells, callK_fun s7, callK_fun s8, callK_fun s9, callK_fun s10, callK_fun s11, callK_fun s13, callK_fun s15, callK_fun s17, callK_fun s20, callK_fun s21, callK_fun s23, f7t, f8, f9, Int.reduceEq, x10, l1, f11t, fst', flt, g4, f13, f23, tdD, zeroT, List.map_nil, flp, f15p, f17]
         | some u =>
          rw [hu] at f23
          simp only [parsed] at f23
          obtain ⟨huc, hub⟩ := unbytesR_some ((unbytes_eq s).symm.trans hu)
          have fbu : ∀ n x m y, Fbytes [.agg [.slice n x (u.calls.map dnD), .int .i64 u.ticks, .int .i64 u.left, .bool u.shut, .slice m y (u.behind.map .str)]] = some (.tup [.str s, .int .i64 0]) := fun n x m y => by
           simp only [Fbytes, tdOf_mk, huc, hub, reduceIte]
          have f15u : ∀ n x m y, F15 [.agg [.slice n x (u.calls.map dnD), .int .i64 u.ticks, .int .i64 u.left, .bool u.shut, .slice m y (u.behind.map .str)]] = some (.int .i64 0) := fun n x m y => by simp only [F15, tdOf_mk, huc]
          simp only [↓go1, gB0, reduceIte, Nat.reduceEqDiff, Nat.reduceAdd, Nat.reduceSub, Nat.reduceLT, Nat.reduceLeDiff, rd_succ, rd_zero, put_rd, fill_nil, tdCells, callK_fun s7, callK_fun s8, callK_fun s9, callK_fun s10, callK_fun s11, callK_fun s13, callK_fun s15, callK_fun s17, callK_fun s20, callK_fun s21, callK_fun s23, f7t, f8, f9, Int.reduceEq, x10, l1, f11t, fst', flt, g4, f13, f23, tdD, zeroT, List.map_nil, fbu, f15u, flp, f15p, f17]
   ·cases h
  ·cases h
end Go.Vd

namespace Go.Vd
open Go.Proofs Go.RowKit Go.ChangeShapes Go.WideShapes Go.Deep Go.Joins
section
variable {H : Type} {enc : TypeId × Value → H} {P : Program} {w : World} {base : Nat} {spare : Nat → Bool} {held : Bool}
theorem open_slice_fields {t e : TypeId} {fs : Array Field} {fuel : Nat} {cs : List Value} {x : DataW H × List MemPlace} (ht : P.underlying t = some (.slice e)) (he : P.underlying e = some (.struct fs))
  (hone : oneCellFields P fs = true) (hC : P.cellsOf e = fs.size) (h : DataW.trod enc P w base spare held fuel t cs = some x) :
  (cs = [.slice none 0 0] ∧ x = (.nil, [])) ∨
  ∃ (a : Addr) (len cap m : Nat) (D : Nat → DataW H) (Pl : Nat → List MemPlace), cs = [.slice (some a) len cap] ∧ base ≤ a.block ∧ len ≤ cap ∧ cap ≤ maxLen ∧ m = (if spare a.block then cap else len) ∧
   x = (.slice ((List.range len).map D) ((List.range (m - len)).map fun j => D (len + j)), MemPlace.row a (m * fs.size) ++ (List.range m).flatMap Pl) ∧
   ∀ i, i < m → ∃ (ys : List (DataW H × List MemPlace)) (n : Nat), D i = .agg (ys.map (·.1)) ∧ Pl i = ys.flatMap (·.2) ∧ ys.length = fs.size ∧
    ∀ (j : Nat) (f : Field), fs[j]? = some f → ∃ (v : Value) (y : DataW H × List MemPlace), w.cell? (a.add (i * fs.size + j)) = some v ∧ ys[j]? = some y ∧ DataW.trod enc P w base spare held n f.type [v] = some y := by
 rcases open_slice ht h with h0 | ⟨a, len, cap, m, n, D, Pl, hcs, hb, hl, hm, hmm, hx, hi⟩
 ·exact .inl h0
 ·refine .inr ⟨a, len, cap, m, D, Pl, hcs, hb, hl, hm, hmm, by rw [hC] at hx; exact hx, fun i him => ?_⟩
  obtain ⟨cs', hc, ht'⟩ := hi i him
  rw [hC] at hc
  obtain ⟨ys, n', hn', hy, hlen, hyl, hf⟩ := DataW.trod_struct he ht'
  obtain ⟨_, hcl, hat⟩ := World.cells?_some hc
  simp only [Prod.mk.injEq] at hy
  refine ⟨ys, n', hy.1, hy.2, hyl, fun j f hj => ?_⟩
  obtain ⟨ho, hk⟩ := hone_of hone j f hj
  have hjl : j < fs.size := (Array.getElem?_eq_some_iff.1 hj).1
  have hcell := hat j hjl
  have hv : cs'[j]? = some (cs'[j]'(by omega)) := List.getElem?_eq_getElem (by omega)
  have h1 := hf j f hj
  rw [ho, hk] at h1
  have hone' : (cs'.drop j).take 1 = [cs'[j]'(by omega)] := by
   rw [List.drop_eq_getElem_cons (by omega)]
   rfl
  rw [hone'] at h1
  have hys : ys[j]? = some (ys[j]'(by omega)) := List.getElem?_eq_getElem (by omega)
  refine ⟨_, _, ?_, hys, h1.trans hys⟩
  rw [← Go.Deep.add_add, hcell, hv]
end
def allG (w : World) (b : Nat) : Nat := match w.heap[b]? with
 | some (.cells c _ _) => c.size
 | _ => 0
theorem allG_out (w : World) (b : Nat) (h : w.heap.size ≤ b) : allG w b = 0 := by
 simp [allG, Array.getElem?_eq_none h]
theorem cell_in {w : World} {p : Addr} {v : Value} (h : w.cell? p = some v) : p.off < allG w p.block := by
 unfold World.cell? at h
 unfold allG
 split at h
 ·rename_i c e fz hh
  split at h
  ·cases h
  ·rw [hh]; exact (Array.getElem?_eq_some_iff.1 h).1
 ·cases h
theorem exists_list {α : Type} {p : Nat → α → Prop} : ∀ n, (∀ i, i < n → ∃ x, p i x) → ∃ l : List α, l.length = n ∧ ∀ i x, l[i]? = some x → p i x
 | 0, _ => ⟨[], rfl, by simp⟩
 | n + 1, h => by
  obtain ⟨l, h1, h2⟩ := exists_list n (fun i hi => h i (by omega))
  obtain ⟨x, hx⟩ := h n (by omega)
  refine ⟨l ++ [x], by simp [h1], fun i y hy => ?_⟩
  by_cases hi : i < l.length
  ·rw [List.getElem?_append_left hi] at hy; exact h2 i y hy
  ·rw [List.getElem?_append_right (by omega)] at hy
   have hi0 : i - l.length = 0 := by
    rcases Nat.eq_zero_or_pos (i - l.length) with e | e
    ·exact e
    ·rw [List.getElem?_eq_none (by simp; omega)] at hy; cases hy
   rw [hi0] at hy
   simp only [List.getElem?_cons_zero, Option.some.injEq] at hy
   subst hy
   have : i = n := by omega
   subst this; exact hx
section
variable {H : Type} {enc : TypeId × Value → H} {P : Program} {w : World} {base : Nat} {spare : Nat → Bool} {held : Bool}
theorem open_agg5 {r : Reach} {b0 : Nat} {t : TypeId} {f0 f1 f2 f3 f4 : Field} {v : Value} {d : DataW H} {p : List MemPlace} (hs : P.underlying t = some (.struct #[f0, f1, f2, f3, f4])) (hone : oneCellFields P #[f0, f1, f2, f3, f4] = true) (hC : P.cellsOf t = 5)
  (hv : Value.okWide P w r b0 t v) (h : DataW.Trod enc P w base spare held t v d p) :
  ∃ (v0 v1 v2 v3 v4 : Value) (y0 y1 y2 y3 y4 : DataW H × List MemPlace) (n : Nat), v = .agg #[v0, v1, v2, v3, v4] ∧ d = .agg [y0.1, y1.1, y2.1, y3.1, y4.1] ∧ p = y0.2 ++ (y1.2 ++ (y2.2 ++ (y3.2 ++ y4.2))) ∧
   DataW.trod enc P w base spare held n f0.type [v0] = some y0 ∧ DataW.trod enc P w base spare held n f1.type [v1] = some y1 ∧ DataW.trod enc P w base spare held n f2.type [v2] = some y2 ∧ DataW.trod enc P w base spare held n f3.type [v3] = some y3 ∧ DataW.trod enc P w base spare held n f4.type [v4] = some y4 := by
 obtain ⟨cs, rfl, hsz⟩ := okWide_struct hs hv
 obtain ⟨l⟩ := cs
 match l, hsz.trans hC with
 | [c0, c1, c2, c3, c4], _ =>
  obtain ⟨fuel, hf⟩ := h
  obtain ⟨xs, n, _, hx, _, hlen, hg⟩ := DataW.trod_struct hs hf
  obtain ⟨o0, k0⟩ := hone_of hone 0 f0 rfl
  obtain ⟨o1, k1⟩ := hone_of hone 1 f1 rfl
  obtain ⟨o2, k2⟩ := hone_of hone 2 f2 rfl
  obtain ⟨o3, k3⟩ := hone_of hone 3 f3 rfl
  obtain ⟨o4, k4⟩ := hone_of hone 4 f4 rfl
  match xs, hlen with
  | [y0, y1, y2, y3, y4], _ =>
   simp only [Prod.mk.injEq] at hx
   exact ⟨c0, c1, c2, c3, c4, y0, y1, y2, y3, y4, n, rfl, by simpa using hx.1, by simpa using hx.2, by simpa [Value.cells, o0, k0] using hg 0 f0 rfl, by simpa [Value.cells, o1, k1] using hg 1 f1 rfl, by simpa [Value.cells, o2, k2] using hg 2 f2 rfl, by simpa [Value.cells, o3, k3] using hg 3 f3 rfl, by simpa [Value.cells, o4, k4] using hg 4 f4 rfl⟩
end
theorem flat_rows {α : Type} {sz : Nat} {mk : α → D} (hsz : ∀ x, (mk x).cells.length = sz) : ∀ (l : List α) (j : Nat) (d : D), (flat (l.map mk))[j]? = some d → ∃ x, l[j / sz]? = some x ∧ (mk x).cells[j % sz]? = some d
 | [], j, d, h => by simp [flat] at h
 | x :: r, j, d, h => by
  have e : flat ((x :: r).map mk) = (mk x).cells ++ flat (r.map mk) := rfl
  rw [e] at h
  by_cases hj : j < sz
  ·rw [List.getElem?_append_left (by rw [hsz]; exact hj)] at h
   exact ⟨x, by rw [Nat.div_eq_of_lt hj]; rfl, by rw [Nat.mod_eq_of_lt hj]; exact h⟩
  ·rw [List.getElem?_append_right (by rw [hsz]; omega), hsz] at h
   obtain ⟨y, h1, h2⟩ := flat_rows hsz r (j - sz) d h
   rcases Nat.eq_zero_or_pos sz with h0 | h0
   ·exfalso
    subst h0
    have := (List.getElem?_eq_some_iff.1 h2).1
    rw [hsz] at this; omega
   ·refine ⟨y, ?_, ?_⟩
    ·rw [Nat.div_eq_sub_div h0 (by omega)]; exact h1
    ·rw [Nat.mod_eq_sub_mod (by omega)]; exact h2
theorem rows_rep {α : Type} {sz : Nat} {mk : α → D} {vs : α → List Value} (h0 : 0 < sz) (hsz : ∀ x, (mk x).cells.length = sz) (hvl : ∀ x, (vs x).length = sz) (hone : ∀ x, ∀ v ∈ vs x, v.oneCell' = true)
  (hrep : ∀ x (w : World) (g : Gh) (j : Nat) d v, (mk x).cells[j]? = some d → (vs x)[j]? = some v → Rep w g d v) (hcalm : ∀ x, (mk x).calm = true)
  {w : World} {a : Addr} {len cap : Nat} (hc : len ≤ cap) (h : ∀ i, i < len → ∃ x : α, ∀ (j : Nat) v, (vs x)[j]? = some v → w.cell? (a.add (i * sz + j)) = some v) :
  ∃ l : List α, Rep w (startG (allG w)) (.slice false [] (l.map mk)) (.slice (some a) len cap) := by
 obtain ⟨l, hl, hp⟩ := exists_list len h
 have key : ∀ j, j < len * sz → ∃ x v, l[j / sz]? = some x ∧ (vs x)[j % sz]? = some v ∧ w.cell? (a.add j) = some v ∧ v.oneCell' = true := by
  intro j hj
  have hi : j / sz < l.length := by rw [hl]; exact (Nat.div_lt_iff_lt_mul h0).2 hj
  have hm : j % sz < sz := Nat.mod_lt _ h0
  have hx := List.getElem?_eq_getElem hi
  have hv : (vs l[j / sz])[j % sz]? = some _ := List.getElem?_eq_getElem (by rw [hvl]; exact hm)
  have hq := hp (j / sz) _ hx (j % sz) _ hv
  rw [Nat.mul_comm (j / sz) sz, Nat.div_add_mod] at hq
  exact ⟨_, _, hx, hv, hq, hone _ _ (List.mem_of_getElem? hv)⟩
 refine ⟨l, .slice [] _ a len cap sz (fun j => (w.cell? (a.add j)).getD undef) (by simp [hl]) hc (fun d hd => ?_) (fun j hj => ?_) (fun j hj => ?_) (fun j d hd => ?_) (fun h1 => ?_) (fun h => absurd rfl h) (fun d hd => ?_)⟩
 ·obtain ⟨it, _, rfl⟩ := List.mem_map.1 hd; exact hsz it
 ·obtain ⟨x, v, _, _, hv, _⟩ := key j hj
  simp only [hv, Option.getD_some]
 ·obtain ⟨x, v, _, _, hv, ho⟩ := key j hj
  simp only [hv, Option.getD_some, ho]
 ·obtain ⟨x, h1, h2⟩ := flat_rows hsz l j d hd
  have hi : j / sz < l.length := (List.getElem?_eq_some_iff.1 h1).1
  have hj : j < len * sz := (Nat.div_lt_iff_lt_mul h0).1 (by rw [← hl]; exact hi)
  obtain ⟨x', v, h1', hv, hcl, _⟩ := key j hj
  rw [h1] at h1'
  simp only [Option.some.injEq] at h1'; subst h1'
  simp only [hcl, Option.getD_some]
  exact hrep x w _ _ d v h2 hv
 ·obtain ⟨x, v, _, _, hv, _⟩ := key (len * sz - 1) (by omega)
  have := cell_in hv
  rw [add_off, add_block] at this
  show a.off + len * sz ≤ allG w a.block
  omega
 ·obtain ⟨it, _, rfl⟩ := List.mem_map.1 hd; exact hcalm it
def dnV (d : Dn) : List Value := [.int .i64 d.cl, .string ⟨d.line.toArray⟩, .string ⟨d.reply.toArray⟩, .int .i64 d.fr, .int .i64 d.at_, .int .i64 d.to, .bool d.is]
theorem dns_rep {w : World} {a : Addr} {len cap : Nat} (hc : len ≤ cap) (h : ∀ i, i < len → ∃ x : Dn, ∀ (j : Nat) v, (dnV x)[j]? = some v → w.cell? (a.add (i * 7 + j)) = some v) :
  ∃ l : List Dn, Rep w (startG (allG w)) (.slice false [] (l.map dnD)) (.slice (some a) len cap) := by
 refine rows_rep (sz := 7) (mk := dnD) (vs := dnV) (by decide) (fun _ => rfl) (fun _ => rfl) (fun x v hv => ?_) (fun x w g j d v hd hv => ?_) (fun _ => rfl) hc h
 ·simp only [dnV, List.mem_cons, List.mem_nil_iff, or_false] at hv
  rcases hv with rfl | rfl | rfl | rfl | rfl | rfl | rfl <;> rfl
 ·have hd' : ([.int .i64 x.cl, .str x.line, .str x.reply, .int .i64 x.fr, .int .i64 x.at_, .int .i64 x.to, .bool x.is] : List D)[j]? = some d := hd
  match j with
  | 0 => simp [dnV] at hd' hv; subst hd' hv; exact .int _ _
  | 1 => simp [dnV] at hd' hv; subst hd' hv; exact .str _
  | 2 => simp [dnV] at hd' hv; subst hd' hv; exact .str _
  | 3 => simp [dnV] at hd' hv; subst hd' hv; exact .int _ _
  | 4 => simp [dnV] at hd' hv; subst hd' hv; exact .int _ _
  | 5 => simp [dnV] at hd' hv; subst hd' hv; exact .int _ _
  | 6 => simp [dnV] at hd' hv; subst hd' hv; exact .bool _
  | j + 7 => simp at hd'
theorem strs_rep {w : World} {a : Addr} {len cap : Nat} (hc : len ≤ cap) (h : ∀ i, i < len → ∃ x : Bs, w.cell? (a.add i) = some (.string ⟨x.toArray⟩)) :
  ∃ l : List Bs, Rep w (startG (allG w)) (.slice false [] (l.map .str)) (.slice (some a) len cap) := by
 refine rows_rep (sz := 1) (mk := D.str) (vs := fun x => [Value.string ⟨x.toArray⟩]) (by decide) (fun _ => rfl) (fun _ => rfl) (fun x v hv => ?_) (fun x w g j d v hd hv => ?_) (fun _ => rfl) hc (fun i hi => ?_)
 ·simp only [List.mem_singleton] at hv; subst hv; rfl
 ·match j with
  | 0 => simp [D.cells] at hd hv; subst hd hv; exact .str _
  | j + 1 => simp at hv
 ·obtain ⟨x, hx⟩ := h i hi
  refine ⟨x, fun j v hv => ?_⟩
  match j with
  | 0 => simp only [List.getElem?_cons_zero, Option.some.injEq] at hv; subst hv; simpa using hx
  | j + 1 => simp at hv
end Go.Vd

namespace Go.Vd
open Go.Proofs Go.RowKit Go.ChangeShapes Go.WideShapes Go.Deep Go.Joins
set_option maxRecDepth 100000
section
variable {H : Type} {enc : TypeId × Value → H} {w : World} {base : Nat} {spare : Nat → Bool} {held : Bool}
theorem done_rep {n : Nat} {v : Value} {y : DataW H × List MemPlace} (h : DataW.trod enc Tryz.prog w base spare held n 22 [v] = some y) :
  ∃ (nl : Bool) (l : List Dn), Rep w (startG (allG w)) (.slice nl [] (l.map dnD)) v ∧ v.oneCell' = true := by
 rcases open_slice_fields Tryz.underlying22 Tryz.underlying62 (by kernel_rfl) (by kernel_rfl) h with ⟨hcs, _⟩ | ⟨a, len, cap, m, D, Pl, hcs, _, hl, _, hm, _, hi⟩
 ·simp only [List.cons.injEq, and_true] at hcs
  subst hcs
  exact ⟨true, [], .nils [], rfl⟩
 ·simp only [List.cons.injEq, and_true] at hcs
  subst hcs
  have hlm : len ≤ m := by rw [hm]; split <;> omega
  obtain ⟨l, hr⟩ := dns_rep hl fun i hi' => by
   obtain ⟨ys, n, _, _, _, hff⟩ := hi i (by omega)
   obtain ⟨u0, y0, c0, _, t0⟩ := hff 0 _ rfl
   obtain ⟨u1, y1, c1, _, t1⟩ := hff 1 _ rfl
   obtain ⟨u2, y2, c2, _, t2⟩ := hff 2 _ rfl
   obtain ⟨u3, y3, c3, _, t3⟩ := hff 3 _ rfl
   obtain ⟨u4, y4, c4, _, t4⟩ := hff 4 _ rfl
   obtain ⟨u5, y5, c5, _, t5⟩ := hff 5 _ rfl
   obtain ⟨u6, y6, c6, _, t6⟩ := hff 6 _ rfl
   obtain ⟨n0, e0, _⟩ := DataW.trod_int Tryz.underlying3 t0
   obtain ⟨s1, e1, _, _⟩ := DataW.trod_string Tryz.underlying9 t1
   obtain ⟨s2, e2, _, _⟩ := DataW.trod_string Tryz.underlying9 t2
   obtain ⟨n3, e3, _⟩ := DataW.trod_int Tryz.underlying3 t3
   obtain ⟨n4, e4, _⟩ := DataW.trod_int Tryz.underlying3 t4
   obtain ⟨n5, e5, _⟩ := DataW.trod_int Tryz.underlying3 t5
   obtain ⟨b6, e6, _⟩ := DataW.trod_bool Tryz.underlying4 t6
   simp only [List.cons.injEq, and_true] at e0 e1 e2 e3 e4 e5 e6
   subst e0 e1 e2 e3 e4 e5 e6
   refine ⟨⟨n0, s1.data.toList, s2.data.toList, n3, n4, n5, b6⟩, fun j v hv => ?_⟩
   match j with
   | 0 => simp [dnV] at hv; subst hv; exact c0
   | 1 => simp [dnV] at hv; subst hv; exact c1
   | 2 => simp [dnV] at hv; subst hv; exact c2
   | 3 => simp [dnV] at hv; subst hv; exact c3
   | 4 => simp [dnV] at hv; subst hv; exact c4
   | 5 => simp [dnV] at hv; subst hv; exact c5
   | 6 => simp [dnV] at hv; subst hv; exact c6
   | j + 7 => simp [dnV] at hv
  exact ⟨false, l, hr, rfl⟩
theorem text_rep {n : Nat} {v : Value} {y : DataW H × List MemPlace} (h : DataW.trod enc Tryz.prog w base spare held n 23 [v] = some y) :
  ∃ (nl : Bool) (l : List Bs), Rep w (startG (allG w)) (.slice nl [] (l.map .str)) v ∧ v.oneCell' = true := by
 have hC : Tryz.prog.cellsOf 9 = 1 := by kernel_rfl
 rcases open_slice Tryz.underlying23 h with ⟨hcs, _⟩ | ⟨a, len, cap, m, n, D, Pl, hcs, _, hl, _, hm, _, hi⟩
 ·simp only [List.cons.injEq, and_true] at hcs
  subst hcs
  exact ⟨true, [], .nils [], rfl⟩
 ·simp only [List.cons.injEq, and_true] at hcs
  subst hcs
  rw [hC] at hi
  have hlm : len ≤ m := by rw [hm]; split <;> omega
  obtain ⟨l, hr⟩ := strs_rep hl fun i hi' => by
   obtain ⟨cs', hc, ht⟩ := hi i (by omega)
   obtain ⟨_, hcl, hat⟩ := World.cells?_some hc
   obtain ⟨s, e, _, _⟩ := DataW.trod_string Tryz.underlying9 ht
   have h0 := hat 0 (by omega)
   rw [e] at h0
   refine ⟨s.data.toList, ?_⟩
   have ha : (a.add (i * 1)).add 0 = a.add i := by rw [Go.Vd.add_add]; simp
   rw [ha] at h0
   simpa using h0
  exact ⟨false, l, hr, rfl⟩
theorem told_rep {b0 : Nat} {v : Value} {d : DataW H} {p : List MemPlace} (hv : Value.okWide Tryz.prog w .any b0 25 v) (h : DataW.Trod enc Tryz.prog w base spare held 25 v d p) :
  ∃ (nc nb : Bool) (t : Td), Rep w (startG (allG w)) (tdD nc nb t) v := by
 obtain ⟨c0, c1, c2, c3, c4, y0, y1, y2, y3, y4, n, rfl, _, _, t0, t1, t2, t3, t4⟩ := open_agg5 Tryz.underlying25 (by kernel_rfl) (by kernel_rfl) hv h
 obtain ⟨nc, cs, r0, o0⟩ := done_rep t0
 obtain ⟨n1, e1, _⟩ := DataW.trod_int Tryz.underlying3 t1
 obtain ⟨n2, e2, _⟩ := DataW.trod_int Tryz.underlying3 t2
 obtain ⟨b3, e3, _⟩ := DataW.trod_bool Tryz.underlying4 t3
 obtain ⟨nb, bs, r4, o4⟩ := text_rep t4
 simp only [List.cons.injEq, and_true] at e1 e2 e3
 subst e1 e2 e3
 refine ⟨nc, nb, ⟨cs, n1, n2, b3, bs⟩, .agg _ [c0, .int .i64 n1, .int .i64 n2, .bool b3, c4] rfl (fun v hv => ?_) (fun j d v hd hv => ?_)⟩
 ·simp only [List.mem_cons, List.mem_nil_iff, or_false] at hv
  rcases hv with rfl | rfl | rfl | rfl | rfl
  ·exact o0
  ·rfl
  ·rfl
  ·rfl
  ·exact o4
 ·match j with
  | 0 => simp only [tdCells, List.getElem?_cons_zero, Option.some.injEq] at hd hv; subst hd hv; exact r0
  | 1 => simp only [tdCells, List.getElem?_cons_succ, List.getElem?_cons_zero, Option.some.injEq] at hd hv; subst hd hv; exact .int _ _
  | 2 => simp only [tdCells, List.getElem?_cons_succ, List.getElem?_cons_zero, Option.some.injEq] at hd hv; subst hd hv; exact .int _ _
  | 3 => simp only [tdCells, List.getElem?_cons_succ, List.getElem?_cons_zero, Option.some.injEq] at hd hv; subst hd hv; exact .bool _
  | 4 => simp only [tdCells, List.getElem?_cons_succ, List.getElem?_cons_zero, Option.some.injEq] at hd hv; subst hd hv; exact r4
  | j + 5 => simp [tdCells] at hd
end
end Go.Vd
