/-
  A part of the proof: the layers over the model. Nothing in it is assumed.
-/
import Derived.Test.YtcjfmpodkafceaaGreatDoorLinesP4
import Derived.Lib.ConvBytes
import Derived.Laws.Runes
import Derived.Lib.AppendZeros
import Derived.Lib.Builder
import Derived.Lib.UnsafeStr
import Derived.MapKept
import Derived.WideMake

set_option linter.unusedSimpArgs false
set_option linter.unusedVariables false

namespace Go.Ve
set_option linter.unusedVariables false
inductive Arg where
 | t (n : Nat)
 | c (d : D)
def Arg.ev (s : Nat → D) : Arg → D
 | .t n => s n
 | .c d => d
inductive DOp where
 | mv (x : Arg)
 | pick (c a b : Arg)
 | alloc (t : TypeId) (zs : List D)
 | box (t : TypeId) (x : Arg)
 | build (zs : List D) (parts : List (Nat × Nat × Arg))
 | bslice (e sz : Nat) (parts : List Arg)
 | load (k : Option Nat) (x : Arg)
 | store (n : Nat) (x v : Arg)
 | nilchk (x : Arg)
 | bin (op : BinOp) (x y : Arg)
 | beq (ne : Bool) (x y : Arg)
 | seq (ne : Bool) (offs : List (Nat × Nat)) (x y : Arg)
 | nileq (ne : Bool) (k : Nat) (x y : Arg)
 | ptreq (ne : Bool) (x y : Arg)
 | un (op : UnOp) (x : Arg)
 | conv (k : IntKind) (x : Arg)
 | s2s (x : Arg)
 | s2b (e : Nat) (x : Arg)
 | b2s (x : Arg)
 | faddr (off : Nat) (x : Arg)
 | field (k : Option Nat) (off : Nat) (x : Arg)
 | iaddr (sz : Nat) (x i : Arg)
 | iaddra (len sz : Nat) (x i : Arg)
 | idxs (x i : Arg)
 | idxa (len sz : Nat) (k : Option Nat) (x i : Arg)
 | cuts (x : Arg) (lo hi : Option Arg)
 | cutl (sz : Nat) (x : Arg) (lo hi : Option Arg)
 | cutm (sz : Nat) (x : Arg) (lo hi mx : Option Arg)
 | cuta (len sz : Nat) (x : Arg) (lo hi : Option Arg)
 | s2a (len : Nat) (x : Arg)
 | mkif (t : TypeId) (x : Arg)
 | tass (t : TypeId) (ok : Bool) (z : D) (x : Arg)
 | ext (i : Nat) (x : Arg)
 | mkfn (f : FuncId) (caps : List Arg)
 | mkfnb (f : FuncId) (first : List Arg)
 | len (isStr : Bool) (x : Arg)
 | cap (x : Arg)
 | app (e sz bytes : Nat) (x y : Arg)
 | appz (e sz bytes : Nat) (z : D) (x y : Arg)
 | copy (sz : Nat) (x y : Arg)
 | clear (sz : Nat) (z : D) (x : Arg)
 | mksl (e sz bytes : Nat) (z : D) (n c : Arg)
 | mm (max : Bool) (x : Arg) (ys : List Arg)
 | toU (x : Arg)
 | fromU (t : TypeId) (sz : Nat) (x : Arg)
 | sld (x : Arg)
 | ustr (e : TypeId) (x k : Arg)
 | mkmap
 | lookup (ok : Bool) (z : D) (x k : Arg)
 | mapset (x k v : Arg)
 | mapdel (x k : Arg)
 | lenm (x : Arg)
 | range (x : Arg)
 | next (x : Arg)
 | call (f : Arg) (xs : List Arg)
 | stop
def D.data : D → Bool
 | .junk | .tup _ => false
 | _ => true
def putAt (cs : List D) (off : Nat) (ds : List D) : List D := cs.take off ++ ds ++ cs.drop (off + ds.length)
def fillD : List D → List (Nat × Nat × D) → Option (List D)
 | cs, [] => some cs
 | cs, (off, sz, d) :: r => if d.data = true ∧ d.cells.length = sz ∧ off + sz ≤ cs.length then fillD (putAt cs off d.cells) r else none
def evBin (op : BinOp) (x y : D) : Option D :=
 match x, y with
 | .int k a, .int k' b =>
  match op with
  | .shl => if 0 ≤ b then some (.int k (k.wrap (a * 2 ^ min b.toNat k.bits))) else none
  | .shr => if 0 ≤ b then some (.int k (a.fdiv (2 ^ min b.toNat k.bits))) else none
  | op => if k ≠ k' then none else match op with
   | .add => some (.int k (k.wrap (a + b)))
   | .sub => some (.int k (k.wrap (a - b)))
   | .mul => some (.int k (k.wrap (a * b)))
   | .quo => if b = 0 then none else some (.int k (k.wrap (a.tdiv b)))
   | .rem => if b = 0 then none else some (.int k (a.tmod b))
   | .and => some (.int k (bits .and k a b))
   | .or => some (.int k (bits .or k a b))
   | .xor => some (.int k (bits .xor k a b))
   | .andNot => some (.int k (bits .andNot k a b))
   | .eql => some (.bool (a == b))
   | .neq => some (.bool (a != b))
   | .lss => some (.bool (a < b))
   | .leq => some (.bool (a ≤ b))
   | .gtr => some (.bool (a > b))
   | .geq => some (.bool (a ≥ b))
   | _ => none
 | .str a, .str b =>
  match op with
  | .add => if a.length + b.length ≤ 9223372036854775807 then some (.str (a ++ b)) else none
  | .eql => some (.bool (a == b))
  | .neq => some (.bool (!(a == b)))
  | .lss => some (.bool (Op.bytesLess a b))
  | .leq => some (.bool (Op.bytesLess a b || a == b))
  | .gtr => some (.bool (!(Op.bytesLess a b || a == b)))
  | .geq => some (.bool (!(Op.bytesLess a b)))
  | _ => none
 | _, _ => none
def evUn (op : UnOp) (x : D) : Option D :=
 match op, x with
 | .neg, .int k n => some (.int k (k.wrap (0 - n)))
 | .not, .bool b => some (.bool (!b))
 | .xor, .int k n => some (.int k (bits .xor k (if k.signed then -1 else k.max) n))
 | _, _ => none
def leafEq : Nat → D → D → Option Bool
 | 0, .int k a, .int k' b => if k = k' then some (a == b) else none
 | 1, .bool a, .bool b => some (a == b)
 | 2, .str a, .str b => some (a == b)
 | _, _, _ => none
def leavesEq (xs ys : List D) : List (Nat × Nat) → Option Bool
 | [] => some true
 | (k, o) :: r => match xs[o]?, ys[o]? with
  | some x, some y => match leafEq k x y with
   | some true => leavesEq xs ys r
   | some false => some false
   | none => none
  | _, _ => none
def D.slNil : D → Option Bool
 | .nilsl => some true
 | .rsl _ _ _ | .esl | .esl0 => some false
 | _ => none
def nilEq : Nat → D → D → Option Bool
 | 0, x, .nilsl => x.slNil
 | 0, .nilsl, y => y.slNil
 | 1, .nilptr, .nilptr => some true
 | 1, .nilptr, .ptr _ _ => some false
 | 1, .ptr _ _, .nilptr => some false
 | 2, .nilIface, .nilIface => some true
 | 2, .nilIface, .iface _ _ => some false
 | 2, .iface _ _, .nilIface => some false
 | 3, .nilFunc, .nilFunc => some true
 | 3, .nilFunc, .fn _ _ => some false
 | 3, .fn _ _, .nilFunc => some false
 | 3, .nilFunc, .fnb _ _ => some false
 | 3, .fnb _ _, .nilFunc => some false
 | 4, .nilMap, .nilMap => some true
 | 4, .nilMap, .map _ => some false
 | 4, .map _, .nilMap => some false
 | _, _, _ => none
def bytesD (s : List UInt8) : List D := s.map fun b => .int .u8 b.toNat
def unbytesD : List D → Option (List UInt8)
 | [] => some []
 | .int .u8 n :: r => (unbytesD r).map (UInt8.ofNat n.toNat :: ·)
 | _ => none
def lenD : Bool → D → Option Nat
 | true, .str s => some s.length
 | false, .rsl _ _ n => some n
 | false, .esl => some 0
 | false, .esl0 => some 0
 | false, .nilsl => some 0
 | _, _ => none
def bound (s : Nat → D) (x : Option Arg) (dflt : Nat) (most : Nat) : Option Nat :=
 match x with
 | none => some dflt
 | some a => match a.ev s with
  | .int _ n => if 0 ≤ n ∧ n ≤ most then some n.toNat else none
  | _ => none
def bounds (s : Nat → D) (lo hi : Option Arg) (n : Nat) : Option (Nat × Nat) :=
 match bound s hi n n with
 | some h => match bound s lo 0 h with
  | some l => some (l, h)
  | none => none
 | none => none
def slCells (m : Mem) (sz : Nat) : D → Option (Nat × List D)
 | .rsl i o n => match m i with
  | some (.cells cs _) => if o + n * sz ≤ cs.length then some (n, (cs.drop o).take (n * sz)) else none
  | _ => none
 | .esl | .esl0 | .nilsl => some (0, [])
 | _ => none
def appSrc (m : Mem) (sz : Nat) : D → Option (Nat × List D)
 | .str b => if sz = 1 then some (b.length, bytesD b) else none
 | d => slCells m sz d
def ints : List D → Option (List (IntKind × Int))
 | [] => some []
 | .int k n :: r => (ints r).map ((k, n) :: ·)
 | _ => none
def mm2 (max : Bool) (x y : Int) : Int := if max then (if y > x then y else x) else (if y < x then y else x)
def unbytesS : List D → Option (List UInt8)
 | [] => some []
 | .int .u8 n :: r => if 0 ≤ n ∧ n < 256 then (unbytesS r).map (UInt8.ofNat n.toNat :: ·) else none
 | _ => none
def lookD (key : List UInt8) : List D → List D → Option (Option D)
 | .str k :: ks, v :: vs => if key = k then some (some v) else lookD key ks vs
 | [], [] => some none
 | _, _ => none
def putK (key : List UInt8) (d : D) : List D → List D → Option (List D × List D)
 | .str k :: ks, v :: vs => if key = k then some (.str k :: ks, d :: vs) else (putK key d ks vs).map fun r => (.str k :: r.1, v :: r.2)
 | [], [] => some ([.str key], [d])
 | _, _ => none
def delK (key : List UInt8) : List D → List D → Option (List D × List D)
 | .str k :: ks, v :: vs => if key = k then some (ks, vs) else (delK key ks vs).map fun r => (.str k :: r.1, v :: r.2)
 | [], [] => some ([], [])
 | _, _ => none
def exec (s : Nat → D) (m : Mem) (n : Nat) : DOp → Option (D × Upd × Nat)
 | .mv x => some (x.ev s, [], n)
 | .pick c a b => match c.ev s with
  | .bool t => some (if t then a.ev s else b.ev s, [], n)
  | _ => none
 | .alloc t zs => some (.ptr n 0, [(n, some (.cells zs (.var t)))], n + 1)
 | .box t x => if (x.ev s).data then some (.ptr n 0, [(n, some (.cells (x.ev s).cells (.var t)))], n + 1) else none
 | .build zs parts => (fillD zs (parts.map fun p => (p.1, p.2.1, p.2.2.ev s))).map fun cs => (.agg cs, [], n)
 | .bslice e sz parts =>
  if (parts.all fun p => (p.ev s).data && (p.ev s).cells.length == sz) then some (.rsl n 0 parts.length, [(n, some (.cells (parts.flatMap fun p => (p.ev s).cells) (.row e)))], n + 1) else none
 | .load k x => match x.ev s with
  | .ptr i o => match m i with
   | some (.cells cs _) => match k with
    | none => cs[o]?.map fun d => (d, [], n)
    | some k => if o + k ≤ cs.length then some (.agg ((cs.drop o).take k), [], n) else none
   | _ => none
  | _ => none
 | .store k x v => match x.ev s with
  | .ptr i o => match m i with
   | some (.cells cs e) => if (v.ev s).data = true ∧ (v.ev s).cells.length = k ∧ o + k ≤ cs.length then some (.junk, [(i, some (.cells (putAt cs o (v.ev s).cells) e))], n) else none
   | _ => none
  | _ => none
 | .nilchk x => match x.ev s with
  | .ptr i o => some (.ptr i o, [], n)
  | .fn f cs => some (.fn f cs, [], n)
  | .fnb f cs => some (.fnb f cs, [], n)
  | _ => none
 | .bin op x y => (evBin op (x.ev s) (y.ev s)).map fun d => (d, [], n)
 | .beq ne x y => match x.ev s, y.ev s with
  | .bool a, .bool b => some (.bool ((a == b) != ne), [], n)
  | _, _ => none
 | .seq ne offs x y => match x.ev s, y.ev s with
  | .agg xs, .agg ys => (leavesEq xs ys offs).map fun b => (.bool (b != ne), [], n)
  | _, _ => none
 | .nileq ne k x y => (nilEq k (x.ev s) (y.ev s)).map fun b => (.bool (b != ne), [], n)
 | .ptreq ne x y => match x.ev s, y.ev s with
  | .ptr i o, .ptr j q => if i = j then some (.bool ((o == q) != ne), [], n) else none
  | _, _ => none
 | .un op x => (evUn op (x.ev s)).map fun d => (d, [], n)
 | .conv k x => match x.ev s with
  | .int _ v => some (.int k (k.wrap v), [], n)
  | _ => none
 | .s2s x => match x.ev s with
  | .str b => some (.str b, [], n)
  | _ => none
 | .s2b e x => match x.ev s with
  | .str b => if b.length ≤ 140737488355328 then some (.rsl n 0 b.length, [(n, some (.cells (bytesD b) (.row e)))], n + 1) else none
  | _ => none
 | .b2s x => match slCells m 1 (x.ev s) with
  | some (_, cs) => (unbytesD cs).map fun b => (.str b, [], n)
  | none => none
 | .faddr off x => match x.ev s with
  | .ptr i o => some (.ptr i (o + off), [], n)
  | _ => none
 | .field k off x => match x.ev s, k with
  | .agg cs, none => cs[off]?.map fun d => (d, [], n)
  | .agg cs, some k => if off + k ≤ cs.length then some (.agg ((cs.drop off).take k), [], n) else none
  | _, _ => none
 | .iaddr sz x i => match x.ev s, i.ev s with
  | .rsl j o c, .int _ v => if 0 ≤ v ∧ v < c then some (.ptr j (o + v.toNat * sz), [], n) else none
  | _, _ => none
 | .iaddra len sz x i => match x.ev s, i.ev s with
  | .ptr j o, .int _ v => if 0 ≤ v ∧ v < len then some (.ptr j (o + v.toNat * sz), [], n) else none
  | _, _ => none
 | .idxs x i => match x.ev s, i.ev s with
  | .str b, .int _ v => if 0 ≤ v then (b[v.toNat]?).map fun c => (.int .u8 c.toNat, [], n) else none
  | _, _ => none
 | .idxa len sz k x i => match x.ev s, i.ev s with
  | .agg cs, .int _ v => if 0 ≤ v ∧ v < len then match k with
    | none => cs[v.toNat * sz]?.map fun d => (d, [], n)
    | some k => if v.toNat * sz + k ≤ cs.length then some (.agg ((cs.drop (v.toNat * sz)).take k), [], n) else none
   else none
  | _, _ => none
 | .cuts x lo hi => match x.ev s with
  | .str b => match bounds s lo hi b.length with
   | some (l, h) => some (.str ((b.drop l).take (h - l)), [], n)
   | none => none
  | _ => none
 | .cutl sz x lo hi => match x.ev s with
  | .rsl i o c => match bounds s lo hi c with
   | some (l, h) => if l = 0 then some (.rsl i o h, [], n) else if l < h then (if 0 < sz then some (.rsl i (o + l * sz) (h - l), [], n) else none) else some (.esl, [], n)
   | none => none
  | .nilsl => match bounds s lo hi 0 with
   | some _ => some (.nilsl, [], n)
   | none => none
  | .esl => match bounds s lo hi 0 with
   | some _ => some (.esl, [], n)
   | none => none
  | .esl0 => match bounds s lo hi 0 with
   | some _ => some (.esl0, [], n)
   | none => none
  | _ => none
 | .cutm sz x lo hi mx => match x.ev s with
  | .rsl _ _ c => match bound s mx c c with
   | some h => match bounds s lo hi h with
    | some (l, _) => if l = h then some (.esl0, [], n) else none
    | none => none
   | none => none
  | .nilsl => match bound s mx 0 0 with
   | some _ => match bounds s lo hi 0 with
    | some _ => some (.nilsl, [], n)
    | none => none
   | none => none
  | .esl | .esl0 => match bound s mx 0 0 with
   | some _ => match bounds s lo hi 0 with
    | some _ => some (.esl0, [], n)
    | none => none
   | none => none
  | _ => none
 | .cuta len sz x lo hi => match x.ev s with
  | .ptr i o => match m i with
   | some (.cells _ (.var _)) => match bounds s lo hi len with
    | some (l, h) => if l = len then some (.esl0, [], n) else some (.rsl i (o + l * sz) (h - l), [], n)
    | none => none
   | _ => none
  | _ => none
 | .s2a len x => match x.ev s with
  | .rsl i o c => if len ≤ c then some (.ptr i o, [], n) else none
  | _ => none
 | .mkif t x => if (x.ev s).data = true then some (.iface t (x.ev s), [], n) else none
 | .tass t ok z x => match x.ev s with
  | .iface t' d => if t' = t then some (if ok then .tup [d, .bool true] else d, [], n) else if ok then some (.tup [z, .bool false], [], n) else none
  | .nilIface => if ok then some (.tup [z, .bool false], [], n) else none
  | _ => none
 | .ext i x => match x.ev s with
  | .tup vs => vs[i]?.map fun d => (d, [], n)
  | _ => none
 | .mkfn f caps => some (.fn f (caps.map (·.ev s)), [], n)
 | .mkfnb f first => some (.fnb f (first.map (·.ev s)), [], n)
 | .len k x => (lenD k (x.ev s)).map fun (v : Nat) => (.int .i64 (v : Int), [], n)
 | .cap x => match x.ev s with
  | .nilsl | .esl0 => some (.int .i64 0, [], n)
  | _ => none
 | .app e sz bytes x y => match appSrc m sz (y.ev s) with
  | some (k, ws) =>
   if k = 0 then (match x.ev s with
    | .nilsl | .esl | .esl0 | .rsl _ _ _ => some (x.ev s, [], n)
    | _ => none)
   else match x.ev s with
    | .nilsl | .esl0 => if k * (bytes + 1) ≤ 140737488355328 then some (.rsl n 0 k, [(n, some (.cells ws (.row e)))], n + 1) else none
    | .rsl i 0 c => match m i with
     | some (.cells cs (.row e')) => if e' = e ∧ (c + k) * (bytes + 1) ≤ 140737488355328 ∧ c * sz ≤ cs.length then
       some (.rsl n 0 (c + k), [(i, none), (n, some (.cells (cs.take (c * sz) ++ ws) (.row e)))], n + 1) else none
     | _ => none
    | _ => none
  | none => none
 | .appz e sz bytes z x y => match x.ev s, y.ev s with
  | .nilsl, .int _ k => if k = 0 then some (.nilsl, [], n) else if 0 < k ∧ k * (bytes + 1) ≤ 140737488355328 ∧ z.cells.length = sz then
    some (.rsl n 0 k.toNat, [(n, some (.cells (List.replicate k.toNat z.cells).flatten (.row e)))], n + 1) else none
  | _, _ => none
 | .copy sz x y => match appSrc m sz (y.ev s) with
  | some (k, ws) => match x.ev s with
   | .rsl i o c => match m i with
    | some (.cells cs e) => if o + min k c * sz ≤ cs.length then some (.int .i64 (min k c : Nat), [(i, some (.cells (putAt cs o (ws.take (min k c * sz))) e))], n) else none
    | _ => none
   | .nilsl | .esl | .esl0 => some (.int .i64 0, [], n)
   | _ => none
  | none => none
 | .clear _ _ x => match x.ev s with
  | .nilsl | .esl | .esl0 | .rsl _ _ 0 => some (.tup [], [], n)
  | _ => none
 | .mksl e sz bytes z c d => match c.ev s, d.ev s with
  | .int _ c, .int _ d => if 0 ≤ c ∧ c ≤ d ∧ d * (bytes + 1) ≤ 140737488355328 ∧ z.cells.length = sz then some (.rsl n 0 c.toNat, [(n, some (.cells (List.replicate c.toNat z.cells).flatten (.row e)))], n + 1) else none
  | _, _ => none
 | .mm mx x ys => match x.ev s, ints (ys.map (·.ev s)) with
  | .int k a, some l => some (.int k (l.foldl (fun a b => mm2 mx a b.2) a), [], n)
  | _, _ => none
 | .toU x => match x.ev s with
  | .nilptr => some (.nilptr, [], n)
  | .ptr i 0 => match m i with
   | some (.cells (_ :: _) _) => some (.ptr i 0, [], n)
   | _ => none
  | _ => none
 | .fromU t sz x => match x.ev s with
  | .nilptr => some (.nilptr, [], n)
  | .ptr i 0 => match m i with
   | some (.cells cs (.var t')) => if t' = t ∧ cs.length = sz then some (.ptr i 0, [], n) else none
   | _ => none
  | _ => none
 | .sld x => match x.ev s with
  | .nilsl => some (.nilptr, [], n)
  | .rsl i o c => if 0 < c then some (.ptr i o, [], n) else none
  | _ => none
 | .ustr e x k => match x.ev s, k.ev s with
  | .nilptr, .int .i64 0 => some (.str [], [], n)
  | .ptr i 0, .int .i64 k => match m i with
   | some (.cells cs (.row e')) => if e' = e ∧ 0 < k ∧ k ≤ cs.length ∧ k ≤ 9223372036854775807 then match unbytesS (cs.take k.toNat) with
     | some b => some (.str b, [(i, none)], n)
     | none => none
    else none
   | _ => none
  | _, _ => none
 | .mkmap => some (.map n, [(n, some (.map [] []))], n + 1)
 | .lookup ok z x k => match k.ev s with
  | .str key => match x.ev s with
   | .nilMap => some (if ok then .tup [z, .bool false] else z, [], n)
   | .map i => match m i with
    | some (.map ks vs) => match lookD key ks vs with
     | some (some d) => some (if ok then .tup [d, .bool true] else d, [], n)
     | some none => some (if ok then .tup [z, .bool false] else z, [], n)
     | none => none
    | _ => none
   | _ => none
  | _ => none
 | .mapset x k v => match k.ev s with
  | .str key => match x.ev s with
   | .map i => match m i with
    | some (.map ks vs) => (putK key (v.ev s) ks vs).map fun r => (.junk, [(i, some (.map r.1 r.2))], n)
    | _ => none
   | _ => none
  | _ => none
 | .mapdel x k => match k.ev s with
  | .str key => match x.ev s with
   | .nilMap => some (.tup [], [], n)
   | .map i => match m i with
    | some (.map ks vs) => (delK key ks vs).map fun r => (.tup [], [(i, some (.map r.1 r.2))], n)
    | _ => none
   | _ => none
  | _ => none
 | .lenm x => match x.ev s with
  | .nilMap => some (.int .i64 0, [], n)
  | .map i => match m i with
   | some (.map ks _) => some (.int .i64 (ks.length : Nat), [], n)
   | _ => none
  | _ => none
 | .range x => match x.ev s with
  | .str b => some (.ptr n 0, [(n, some (.it b 0))], n + 1)
  | _ => none
 | .next x => match x.ev s with
  | .ptr i 0 => match m i with
   | some (.it b pos) => if pos < b.length then
     some (.tup [.bool true, .int .i64 (pos : Nat), .int .i32 (Utf8.decode ⟨b.toArray⟩ pos).1], [(i, some (.it b (pos + (Utf8.decode ⟨b.toArray⟩ pos).2)))], n)
    else some (.tup [.bool false], [], n)
   | _ => none
  | _ => none
 | .call _ _ => none
 | .stop => none
def ofLeaf : Value → Option D
 | .bool b => some (.bool b)
 | .int k n => some (.int k n)
 | .string s => some (.str s.data.toList)
 | .slice none 0 0 => some .nilsl
 | .pointer none => some .nilptr
 | .nilIface => some .nilIface
 | .nilFunc => some .nilFunc
 | .map none => some .nilMap
 | _ => none
def ofLeaves : List Value → Option (List D)
 | [] => some []
 | v :: r => match ofLeaf v, ofLeaves r with
  | some d, some ds => some (d :: ds)
  | _, _ => none
def ofVal : Value → Option D
 | .agg cs => (ofLeaves cs.toList).map .agg
 | v => ofLeaf v
def trArg : Operand → Option Arg
 | .tmp t => some (.t t)
 | .const v => (ofVal v).map .c
 | .func f => some (.c (.fn f []))
 | .global _ => none
def trArgs : List Operand → Option (List Arg)
 | [] => some []
 | x :: r => match trArg x, trArgs r with
  | some a, some l => some (a :: l)
  | _, _ => none
def trOpt : Option Operand → Option (Option Arg)
 | none => some none
 | some x => (trArg x).map some
def zeroOf (P : Program) (t : TypeId) : Option D :=
 match P.info? t with
 | some i => match i.zero with
  | some z => ofVal z
  | none => none
 | none => none
def partsStruct (P : Program) (fields : Array Field) : List (Nat × Operand) → Option (List (Nat × Nat × Arg))
 | [] => some []
 | (i, x) :: r => match fields[i]?, trArg x, partsStruct P fields r with
  | some f, some y, some l => match Vd.szOf P f.type with
   | some n => some ((f.offset, n, y) :: l)
   | none => none
  | _, _, _ => none
def partsArray (sz : Nat) : List (Nat × Operand) → Option (List (Nat × Nat × Arg))
 | [] => some []
 | (i, x) :: r => match trArg x, partsArray sz r with
  | some y, some l => some ((i * sz, sz, y) :: l)
  | _, _ => none
def isSlice (P : Program) (u : TypeId) : Bool := match P.underlying u with
 | some (.slice _) => true
 | _ => false
def trEq (P : Program) (ne : Bool) (t : TypeId) (x y : Operand) (a b : Arg) : Option DOp :=
 match P.underlying t with
 | some .bool => some (.beq ne a b)
 | some (.int _) | some .string => some (.bin (if ne then .neq else .eql) a b)
 | some (.struct fs) => if P.stoodInHeld t = false ∧ P.eqGuardType P.depth t = false then (Vd.eqOffs P fs.toList).map fun l => .seq ne l a b else none
 | some (.slice _) => some (.nileq ne 0 a b)
 | some (.pointer e) => if Vd.isConst x || Vd.isConst y then some (.nileq ne 1 a b) else match Vd.szOf P e with
  | some (_ + 1) => some (.ptreq ne a b)
  | _ => none
 | some (.func ..) => some (.nileq ne 3 a b)
 | some (.map _ _) => some (.nileq ne 4 a b)
 | some (.interface _) => if Vd.isConst x || Vd.isConst y then some (.nileq ne 2 a b) else none
 | _ => none
def trCall (P : Program) (c : Call) : Option DOp :=
 match c.callee with
 | .value f => match trArg f, trArgs c.args.toList with
  | some g, some xs => some (.call g xs)
  | _, _ => none
 | .builtin .len => match c.args.toList, c.argTypes.toList with
  | [x], [t] => match P.underlying t with
   | some .string => (trArg x).map (.len true)
   | some (.slice _) => (trArg x).map (.len false)
   | some (.map _ _) => (trArg x).map .lenm
   | _ => none
  | _, _ => none
 | .builtin .cap => match c.args.toList, c.argTypes.toList with
  | [x], [t] => match P.underlying t with
   | some (.slice _) => (trArg x).map .cap
   | _ => none
  | _, _ => none
 | .builtin .append => match c.args.toList, c.argTypes.toList with
  | [x, y], [t, u] => if isSlice P u = true ∨ Vd.isStr P u = true then match P.underlying t with
   | some (.slice e) => match Vd.elemOf P e, trArg x, trArg y with
    | some (sz, bytes), some a, some b => some (.app e sz bytes a b)
    | _, _, _ => none
   | _ => none
   else match P.underlying u, P.underlying t with
    | some (.int _), some (.slice e) => match Vd.elemOf P e, zeroOf P e, trArg x, trArg y with
     | some (sz, bytes), some z, some a, some b => some (.appz e sz bytes z a b)
     | _, _, _, _ => none
    | _, _ => none
  | _, _ => none
 | .builtin .copy => match c.args.toList, c.argTypes.toList with
  | [x, y], [t, u] => match P.underlying t with
   | some (.slice e) => match Vd.szOf P e, trArg x, trArg y with
    | some sz, some a, some b => some (.copy sz a b)
    | _, _, _ => none
   | _ => none
  | _, _ => none
 | .builtin .unsafeSliceData => match c.args.toList, c.argTypes.toList with
  | [x], [t] => match P.underlying t with
   | some (.slice _) => (trArg x).map .sld
   | _ => none
  | _, _ => none
 | .builtin .unsafeString => match c.args.toList, c.argTypes.toList with
  | [x, y], [t, _] => match P.underlying t, trArg x, trArg y with
   | some (.pointer e), some a, some b => if P.cellsOf e = 1 then some (.ustr e a b) else none
   | _, _, _ => none
  | _, _ => none
 | .builtin .delete => match c.args.toList, c.argTypes.toList with
  | [x, y], [t, _] => match P.underlying t with
   | some (.map k _) => match P.underlying k, trArg x, trArg y with
    | some .string, some a, some b => some (.mapdel a b)
    | _, _, _ => none
   | _ => none
  | _, _ => none
 | .builtin .max => match trArgs c.args.toList with
  | some (x :: ys) => some (.mm true x ys)
  | _ => none
 | .builtin .min => match trArgs c.args.toList with
  | some (x :: ys) => some (.mm false x ys)
  | _ => none
 | .builtin .clear => match c.args.toList, c.argTypes.toList with
  | [x], [t] => match P.underlying t with
   | some (.slice e) => match Vd.szOf P e, zeroOf P e, trArg x with
    | some sz, some z, some a => some (.clear sz z a)
    | _, _, _ => none
   | _ => none
  | _, _ => none
 | _ => none
def tr (P : Program) (op : Op) : Option DOp :=
 match op with
 | .move x | .assign x => (trArg x).map .mv
 | .pick c a b => match trArg c, trArg a, trArg b with
  | some c, some a, some b => some (.pick c a b)
  | _, _, _ => none
 | .alloc t => (zeroOf P t).map fun d => .alloc t d.cells
 | .box t x => (trArg x).map (.box t)
 | .build t parts => match P.underlying t, zeroOf P t with
  | some (.struct fields), some (.agg zs) => if Vd.fieldsOk P fields.toList = true then (partsStruct P fields parts.toList).map fun l => .build zs l else none
  | some (.array _ e), some (.agg zs) => match Vd.szOf P e with
   | some sz => (partsArray sz parts.toList).map fun l => .build zs l
   | none => none
  | _, _ => none
 | .buildSlice t len parts => match P.underlying t with
  | some (.slice e) => match Vd.elemOf P e, trArgs (parts.toList.map (·.2)) with
   | some (sz, _), some l => if parts.toList.map (·.1) = List.range len ∧ len * sz ≤ 2 ^ 24 then some (.bslice e sz l) else none
   | _, _ => none
  | _ => none
 | .load t x => match Vd.kOf P t, trArg x with
  | some k, some x => some (.load k x)
  | _, _ => none
 | .store t x v => match Vd.szOf P t, trArg x, trArg v with
  | some (n + 1), some x, some v => some (.store (n + 1) x v)
  | _, _, _ => none
 | .nilCheck x => (trArg x).map .nilchk
 | .binOp .eql t x y _ => match trArg x, trArg y with
  | some a, some b => trEq P false t x y a b
  | _, _ => none
 | .binOp .neq t x y _ => match trArg x, trArg y with
  | some a, some b => trEq P true t x y a b
  | _, _ => none
 | .binOp op _ x y _ => match trArg x, trArg y with
  | some a, some b => some (.bin op a b)
  | _, _ => none
 | .unOp op _ x => (trArg x).map (.un op)
 | .convert src dst x => match P.underlying src, P.underlying dst, trArg x with
  | some (.int _), some (.int k), some x => some (.conv k x)
  | some .string, some .string, some x => some (.s2s x)
  | some .string, some (.slice e), some x => match P.underlying e, Vd.elemOf P e with
   | some (.int .u8), some (1, _) => some (.s2b e x)
   | _, _ => none
  | some (.slice e), some .string, some x => match P.underlying e with
   | some (.int .u8) => some (.b2s x)
   | _ => none
  | some (.pointer e), some .unsafePointer, some x => match Vd.szOf P e with
   | some (_ + 1) => some (.toU x)
   | _ => none
  | some .unsafePointer, some (.pointer e), some x => match Vd.szOf P e with
   | some sz => if liesAt P P.depth e (sz / P.cellsOf e) 0 e 1 = true then some (.fromU e sz x) else none
   | none => none
  | _, _, _ => none
 | .fieldAddr t x f => match P.underlying t, trArg x with
  | some (.struct fields), some x => match fields[f]? with
   | some fd => match Vd.szOf P fd.type with
    | some (_ + 1) => some (.faddr fd.offset x)
    | _ => none
   | none => none
  | _, _ => none
 | .field t x f => match P.underlying t, trArg x with
  | some (.struct fields), some x => match fields[f]? with
   | some fd => (Vd.kOf P fd.type).map fun k => .field k fd.offset x
   | none => none
  | _, _ => none
 | .indexAddr t x i => match P.underlying t, trArg x, trArg i with
  | some (.slice e), some x, some i => (Vd.szOf P e).map fun n => .iaddr n x i
  | some (.array len e), some x, some i => (Vd.szOf P e).map fun n => .iaddra len n x i
  | _, _, _ => none
 | .index t x i => match P.underlying t, trArg x, trArg i with
  | some .string, some x, some i => some (.idxs x i)
  | some (.array len e), some x, some i => match Vd.szOf P e, Vd.kOf P e with
   | some sz, some k => some (.idxa len sz k x i)
   | _, _ => none
  | _, _, _ => none
 | .slice t x lo hi none => match P.underlying t, trArg x, trOpt lo, trOpt hi with
  | some .string, some x, some l, some h => some (.cuts x l h)
  | some (.slice e), some x, some l, some h => (Vd.szOf P e).map fun n => .cutl n x l h
  | some (.array len e), some x, some l, some h => (Vd.szOf P e).map fun n => .cuta len n x l h
  | _, _, _, _ => none
 | .slice t x lo hi (some mx) => match P.underlying t, trArg x, trOpt lo, trOpt (some mx) with
  | some (.slice e), some x, some l, some m => match Vd.szOf P e, hi with
   | some n, some hi => match trOpt (some hi) with
    | some h => some (.cutm n x l h m)
    | none => none
   | _, _ => none
  | _, _, _, _ => none
 | .sliceToArrayPointer t x => match P.underlying t, trArg x with
  | some (.array len _), some x => some (.s2a len x)
  | _, _ => none
 | .makeInterface t x => match P.underlying t, trArg x with
  | some (.interface _), _ => none
  | some _, some x => some (.mkif t x)
  | _, _ => none
 | .typeAssert x _ t ok => match P.underlying t, zeroOf P t, trArg x with
  | some (.interface _), _, _ => none
  | some _, some z, some x => some (.tass t ok z x)
  | _, _, _ => none
 | .extract x i => (trArg x).map (.ext i)
 | .makeFunc (.func f) first caps => match first.toList, trArgs caps.toList with
  | [], some l => some (.mkfn f l)
  | x :: r, some [] => (trArgs (x :: r)).map (.mkfnb f)
  | _, _ => none
 | .makeSlice t n c => match P.underlying t with
  | some (.slice e) => match Vd.elemOf P e, zeroOf P e, trArg n, trArg c with
   | some (sz, bytes), some z, some n, some c => some (.mksl e sz bytes z n c)
   | _, _, _, _ => none
  | _ => none
 | .makeMap _ none => some .mkmap
 | .lookup t x k ok => match P.underlying t with
  | some (.map kt et) => match P.underlying kt, zeroOf P et, trArg x, trArg k with
   | some .string, some z, some a, some b => some (.lookup ok z a b)
   | _, _, _, _ => none
  | _ => none
 | .mapUpdate t x k v => match P.underlying t with
  | some (.map kt _) => match P.underlying kt, trArg x, trArg k, trArg v with
   | some .string, some a, some b, some c => some (.mapset a b c)
   | _, _, _, _ => none
  | _ => none
 | .range t x => match P.underlying t, trArg x with
  | some .string, some x => some (.range x)
  | _, _ => none
 | .next x true => (trArg x).map .next
 | .call c => trCall P c
 | _ => none
end Go.Ve

namespace Go.Ve
open Go.RowKit
set_option linter.unusedSimpArgs false
set_option linter.unusedVariables false
theorem Rep.ofLeaf {g : Gm} {v : Value} {d : D} (h : ofLeaf v = some d) : Rep g d v ∧ v.oneCell' = true ∧ d.data = true := by
 unfold Ve.ofLeaf at h
 split at h <;> first | (simp only [Option.some.injEq] at h; subst h) | cases h
 ·exact ⟨.bool _, rfl, rfl⟩
 ·exact ⟨.int _ _, rfl, rfl⟩
 ·rename_i s; exact ⟨.str s.data.toList, rfl, rfl⟩
 ·exact ⟨.nils, rfl, rfl⟩
 ·exact ⟨.nilp, rfl, rfl⟩
 ·exact ⟨.nili, rfl, rfl⟩
 ·exact ⟨.nilf, rfl, rfl⟩
 ·exact ⟨.nilm, rfl, rfl⟩
theorem Reps.ofLeaves {g : Gm} : ∀ {vs : List Value} {ds : List D}, ofLeaves vs = some ds → Reps g ds vs
 | [], ds, h => by simp only [Ve.ofLeaves, Option.some.injEq] at h; subst h; exact Reps.nil g
 | v :: r, ds, h => by
  unfold Ve.ofLeaves at h
  split at h
  ·rename_i d ds' h1 h2
   simp only [Option.some.injEq] at h
   subst h
   obtain ⟨p, q, _⟩ := Rep.ofLeaf (g := g) h1
   exact Reps.append (Reps.one p q) (Reps.ofLeaves h2)
  ·cases h
theorem Rep.aggOf {g : Gm} {ds : List D} {vs : List Value} (h : Reps g ds vs) : Rep g (.agg ds) (.agg vs.toArray) := .agg ds vs h.1 h.2.1 h.2.2
theorem Reps.ofAgg {g : Gm} {ds : List D} {v : Value} (h : Rep g (.agg ds) v) : ∃ vs : List Value, v = .agg vs.toArray ∧ Reps g ds vs := by
 cases h with
 | agg _ vs h1 h2 h3 => exact ⟨vs, rfl, h1, h2, h3⟩
theorem Rep.ofVal {g : Gm} {v : Value} {d : D} (h : ofVal v = some d) : Rep g d v ∧ d.data = true := by
 cases v with
 | agg cs =>
  simp only [Ve.ofVal, Option.map_eq_some_iff] at h
  obtain ⟨ds, h1, rfl⟩ := h
  exact ⟨Rep.aggOf (Reps.ofLeaves h1), rfl⟩
 | _ => simp only [Ve.ofVal] at h; exact ⟨(Rep.ofLeaf h).1, (Rep.ofLeaf (g := g) h).2.2⟩
theorem zeroOf_some {P : Program} {t : TypeId} {z : D} (h : zeroOf P t = some z) (g : Gm) : ∃ i v, P.info? t = some i ∧ i.zero = some v ∧ Rep g z v ∧ z.data = true := by
 unfold zeroOf at h
 split at h
 ·rename_i i hi
  split at h
  ·rename_i v hv
   obtain ⟨p, q⟩ := Rep.ofVal (g := g) h
   exact ⟨i, v, hi, hv, p, q⟩
  ·cases h
 ·cases h
def Slots (g : Gm) (s : Nat → D) (a : Act) : Prop := ∀ t, Rep g (s t) (a.tmps.getD t undef)
theorem Slots.ext {g g' : Gm} {s : Nat → D} {a : Act} (h : Slots g s a) (x : g.le g') : Slots g' s a := fun t => (h t).ext x
section
variable {P : Program} {g : Gm} {s : Nat → D} {a : Act}
theorem Slots.arg (h : Slots g s a) {x : Operand} {y : Arg} (hx : trArg x = some y) : Rep g (y.ev s) (a.eval x) := by
 cases x with
 | tmp t => simp only [trArg, Option.some.injEq] at hx; subst hx; exact h t
 | const v =>
  simp only [trArg, Option.map_eq_some_iff] at hx
  obtain ⟨d, h1, rfl⟩ := hx
  exact (Rep.ofVal h1).1
 | func f =>
  simp only [trArg, Option.some.injEq] at hx
  subst hx
  exact .fn f [] [] rfl (by simp)
 | global _ => cases hx
theorem trArgs_get : ∀ {xs : List Operand} {ys : List Arg}, trArgs xs = some ys → xs.length = ys.length ∧ ∀ (j : Nat) x y, xs[j]? = some x → ys[j]? = some y → trArg x = some y
 | [], ys, h => by simp only [trArgs, Option.some.injEq] at h; subst h; simp
 | x :: r, ys, h => by
  unfold trArgs at h
  split at h
  ·rename_i y l h1 h2
   simp only [Option.some.injEq] at h; subst h
   obtain ⟨p, q⟩ := trArgs_get h2
   refine ⟨by simp [p], fun j x' y' hx hy => ?_⟩
   cases j with
   | zero => simp only [List.getElem?_cons_zero, Option.some.injEq] at hx hy; subst hx hy; exact h1
   | succ j => exact q j x' y' (by simpa using hx) (by simpa using hy)
  ·cases h
theorem Slots.args (h : Slots g s a) {xs : List Operand} {ys : List Arg} (hx : trArgs xs = some ys) :
  (xs.map a.eval).length = (ys.map (·.ev s)).length ∧ ∀ (j : Nat) d v, (ys.map (·.ev s))[j]? = some d → (xs.map a.eval)[j]? = some v → Rep g d v := by
 obtain ⟨p, q⟩ := trArgs_get hx
 refine ⟨by simp [p], fun j d v hd hv => ?_⟩
 rw [List.getElem?_map, Option.map_eq_some_iff] at hd hv
 obtain ⟨y, hy, rfl⟩ := hd
 obtain ⟨x, hx', rfl⟩ := hv
 exact h.arg (q j x y hx' hy)
theorem Rep.bool_inv {b : Bool} {v : Value} (h : Rep g (.bool b) v) : v = .bool b := by cases h; rfl
theorem Rep.int_inv {k : IntKind} {n : Int} {v : Value} (h : Rep g (.int k n) v) : v = .int k n := by cases h; rfl
theorem Rep.str_inv {b : List UInt8} {v : Value} (h : Rep g (.str b) v) : v = .string ⟨b.toArray⟩ := by cases h; rfl
theorem Rep.ptr_inv {i o : Nat} {v : Value} (h : Rep g (.ptr i o) v) : ∃ b C, v = .pointer (some ⟨b, o, none⟩) ∧ g i = some (b, C) := by
 cases h with
 | ptr _ _ b C hb => exact ⟨b, C, rfl, hb⟩
theorem Rep.rsl_inv {i o n : Nat} {v : Value} (h : Rep g (.rsl i o n) v) : ∃ b c C, v = .slice (some ⟨b, o, none⟩) n c ∧ g i = some (b, C) ∧ n ≤ c ∧ (∀ k, C = some k → o = 0 → c = k) := by
 cases h with
 | rsl _ _ _ b c C h1 h2 h3 => exact ⟨b, c, C, rfl, h1, h2, h3⟩
theorem Rep.esl_inv {v : Value} (h : Rep g .esl v) : ∃ a c, v = .slice (some a) 0 c := by cases h with | esl a c => exact ⟨a, c, rfl⟩
theorem Rep.esl0_inv {v : Value} (h : Rep g .esl0 v) : ∃ a, v = .slice (some a) 0 0 := by cases h with | esl0 a => exact ⟨a, rfl⟩
theorem Rep.nils_inv {v : Value} (h : Rep g .nilsl v) : v = .slice none 0 0 := by cases h; rfl
theorem Rep.tup_inv {ds : List D} {v : Value} (h : Rep g (.tup ds) v) : ∃ vs : List Value, v = .tuple vs.toArray ∧ vs.length = ds.length ∧ ∀ (j : Nat) d v, ds[j]? = some d → vs[j]? = some v → Rep g d v := by
 cases h with
 | tup _ vs h1 h2 => exact ⟨vs, rfl, h1, h2⟩
theorem Rep.iface_inv {t : TypeId} {d : D} {v : Value} (h : Rep g (.iface t d) v) : ∃ u, v = .iface t u ∧ Rep g d u := by
 cases h with
 | iface _ _ u h1 => exact ⟨u, rfl, h1⟩
theorem Rep.fn_inv {f : FuncId} {ds : List D} {v : Value} (h : Rep g (.fn f ds) v) : ∃ vs : List Value, v = .func (.func f) #[] vs.toArray ∧ vs.length = ds.length ∧ ∀ (j : Nat) d v, ds[j]? = some d → vs[j]? = some v → Rep g d v := by
 cases h with
 | fn _ _ vs h1 h2 => exact ⟨vs, rfl, h1, h2⟩
theorem Rep.fnb_inv {f : FuncId} {ds : List D} {v : Value} (h : Rep g (.fnb f ds) v) : ∃ vs : List Value, v = .func (.func f) vs.toArray #[] ∧ vs.length = ds.length ∧ ∀ (j : Nat) d v, ds[j]? = some d → vs[j]? = some v → Rep g d v := by
 cases h with | fnb f ds vs h1 h2 => exact ⟨vs, rfl, h1, h2⟩
theorem Rep.map_inv {i : Nat} {v : Value} (h : Rep g (.map i) v) : ∃ b C, v = .map (some b) ∧ g i = some (b, C) := by
 cases h with | map i b C h1 => exact ⟨b, C, rfl, h1⟩
theorem Rep.nilm_inv {v : Value} (h : Rep g .nilMap v) : v = .map none := by cases h; rfl
theorem Rep.nilp_inv {v : Value} (h : Rep g .nilptr v) : v = .pointer none := by cases h; rfl
theorem Rep.nili_inv {v : Value} (h : Rep g .nilIface v) : v = .nilIface := by cases h; rfl
theorem Rep.nilf_inv {v : Value} (h : Rep g .nilFunc v) : v = .nilFunc := by cases h; rfl
theorem Rep.cells {d : D} {v : Value} (h : Rep g d v) (hd : d.data = true) : Reps g d.cells v.cells.toList := by
 cases h with
 | agg ds vs h1 h2 h3 => exact (⟨h1, h2, h3⟩ : Reps g ds vs)
 | junk => cases hd
 | tup => cases hd
 | bool b => exact Reps.one (.bool b) rfl
 | int k n => exact Reps.one (.int k n) rfl
 | str b => exact Reps.one (.str b) rfl
 | nils => exact Reps.one .nils rfl
 | ptr i o b C h1 => exact Reps.one (.ptr i o b C h1) rfl
 | rsl i o n b c C h1 h2 h3 => exact Reps.one (.rsl i o n b c C h1 h2 h3) rfl
 | esl a c => exact Reps.one (.esl a c) rfl
 | esl0 a => exact Reps.one (.esl0 a) rfl
 | nilp => exact Reps.one .nilp rfl
 | iface t d v h1 => exact Reps.one (.iface t d v h1) rfl
 | nili => exact Reps.one .nili rfl
 | fn f ds vs h1 h2 => exact Reps.one (.fn f ds vs h1 h2) rfl
 | fnb f ds vs h1 h2 => exact Reps.one (.fnb f ds vs h1 h2) rfl
 | nilf => exact Reps.one .nilf rfl
 | map i b C h1 => exact Reps.one (.map i b C h1) rfl
 | nilm => exact Reps.one .nilm rfl
theorem Rep.tup2 {d e : D} {v u : Value} (h : Rep g d v) (k : Rep g e u) : Rep g (.tup [d, e]) (.tuple #[v, u]) := by
 refine .tup [d, e] [v, u] rfl (fun j d' v' hd hv => ?_)
 match j with
 | 0 => simp at hd hv; subst hd hv; exact h
 | 1 => simp at hd hv; subst hd hv; exact k
 | j + 2 => simp at hd
end
structure Step (P : Program) (B : Nat) (w0 : World) (g : Gm) (n : Nat) (m' : Mem) (d : D) (n' : Nat) (v' : Value) (w' : World) (g' : Gm) : Prop where
 inv : Inv P B w0 m' w' g'
 le : g.le g'
 out : ∀ i, ¬ (n ≤ i ∧ i < n') → g' i = g i
 rep : Rep g' d v'
def Does (P : Program) (B : Nat) (w0 : World) (g : Gm) (n : Nat) (w : World) (m' : Mem) (d : D) (n' : Nat) (x : Sem Next) : Prop :=
 ∃ v' w' g' r, x.run P w = .ok r w' ∧ (r = .value v' ∨ (r = .skip ∧ v' = undef)) ∧ Step P B w0 g n m' d n' v' w' g'
structure At (P : Program) (B : Nat) (w0 w : World) (m : Mem) (g : Gm) (n n' : Nat) (s : Nat → D) (a : Act) : Prop where
 inv : Inv P B w0 m w g
 slots : Slots g s a
 fresh : ∀ i, n ≤ i → i < n' → m i = none ∧ g i = none
section
variable {P : Program} {B : Nat} {w0 w : World} {m : Mem} {g : Gm} {n n' : Nat} {s : Nat → D} {a : Act} {d : D} {u : Upd}
theorem Does.pure {x : Sem Next} {v : Value} (hi : Inv P B w0 m w g) (hr : x.run P w = .ok (.value v) w) (hd : Rep g d v) : Does P B w0 g n w m d n x :=
 ⟨v, w, g, _, hr, .inl rfl, hi, Gm.le.refl g, fun _ _ => rfl, hd⟩
theorem Does.pureE {x : Sem Next} {v : Value} {d0 : D} (hi : Inv P B w0 m w g) (hr : x.run P w = .ok (.value v) w) (hd : Rep g d0 v) (e : (some (d0, ([] : Upd), n) : Option (D × Upd × Nat)) = some (d, u, n')) : Does P B w0 g n w (Upd.app m u) d n' x := by
 simp only [Option.some.injEq, Prod.mk.injEq] at e
 obtain ⟨rfl, rfl, rfl⟩ := e
 exact .pure hi hr hd
theorem Does.pureM {x : Sem Next} {α : Type} {q : Option α} {f : α → D} (hi : Inv P B w0 m w g) (e : (q.map fun y => (f y, ([] : Upd), n)) = some (d, u, n')) (h : ∀ y, q = some y → ∃ v, x.run P w = .ok (.value v) w ∧ Rep g (f y) v) : Does P B w0 g n w (Upd.app m u) d n' x := by
 rw [Option.map_eq_some_iff] at e
 obtain ⟨y, h1, e⟩ := e
 simp only [Prod.mk.injEq] at e
 obtain ⟨rfl, rfl, rfl⟩ := e
 obtain ⟨v, h2, h3⟩ := h y h1
 exact .pure hi h2 h3
theorem bin_sound {op : BinOp} {t : TypeId} {x y : D} {d : D} {va vb : Value} (hx : Rep g x va) (hy : Rep g y vb) (h : evBin op x y = some d) :
    ∃ v, (binOp op t va vb).run P w = .ok v w ∧ Rep g d v ∧ (∀ cs, va ≠ .agg cs) ∧ va ≠ .nilIface := by
  unfold evBin at h
  split at h
  · rename_i k n k' n'
    rw [hx.int_inv, hy.int_inv]
    split at h
    · split at h
      · rename_i hb
        simp only [Option.some.injEq] at h; subst h
        refine ⟨_, ?_, .int _ _, by simp, by simp⟩
        have : ¬ n' < 0 := by omega
        simp [binOp, Op.shift, this]
      · cases h
    · split at h
      · rename_i hb
        simp only [Option.some.injEq] at h; subst h
        refine ⟨_, ?_, .int _ _, by simp, by simp⟩
        have : ¬ n' < 0 := by omega
        simp [binOp, Op.shift, this]
      · cases h
    · rename_i h1 h2
      by_cases hk : k ≠ k'
      · rw [if_pos hk] at h; cases h
      rw [if_neg hk] at h
      have hk : k = k' := Classical.not_not.1 hk
      subst hk
      cases op <;> simp only [reduceCtorEq, Option.some.injEq] at h <;>
        first
        | (subst h; first
            | exact ⟨_, by simp [binOp, Op.intArith, intBits_and, intBits_or, intBits_xor, intBits_andNot, Op.intCmp], .int _ _, by simp, by simp⟩
            | exact ⟨_, by simp [binOp, Op.intArith, intBits_and, intBits_or, intBits_xor, intBits_andNot, Op.intCmp], .bool _, by simp, by simp⟩)
        | (exact absurd rfl h1)
        | (exact absurd rfl h2)
        | (split at h
           · cases h
           · rename_i h0
             simp only [Option.some.injEq] at h; subst h
             exact ⟨_, by simp [binOp, Op.intDiv, h0], .int _ _, by simp, by simp⟩)
  · rename_i b c
    rw [hx.str_inv, hy.str_inv]
    split at h
    · split at h
      · rename_i hl
        simp only [Option.some.injEq] at h; subst h
        refine ⟨.string ⟨(b ++ c).toArray⟩, ?_, .str _, by simp, by simp⟩
        have := run_string_add_sum (P := P) (w := w) ⟨b.toArray⟩ ⟨c.toArray⟩ (by simpa [ByteArray.size] using hl)
        simp only [binOp, this]
        congr 2
      · cases h
    all_goals first | (cases h; done) | skip
    all_goals
      simp only [Option.some.injEq] at h; subst h
      exact ⟨_, by simp [binOp, Op.stringOp, ByteArray.toList_mk], .bool _, by simp, by simp⟩
  · cases h
theorem un_sound {op : UnOp} {x d : D} {va : Value} (hx : Rep g x va) (h : evUn op x = some d) : ∃ v, (Op.unary op va).run P w = .ok v w ∧ Rep g d v := by
 unfold evUn at h
 split at h
 ·simp only [Option.some.injEq] at h; subst h; rw [hx.int_inv]; exact ⟨_, by simp [Op.unary, Op.intArith], .int _ _⟩
 ·simp only [Option.some.injEq] at h; subst h; rw [hx.bool_inv]; exact ⟨_, by simp [Op.unary], .bool _⟩
 ·simp only [Option.some.injEq] at h; subst h; rw [hx.int_inv]; exact ⟨_, by simp only [Op.unary, intBits_xor]; rfl, .int _ _⟩
 ·cases h
theorem leafEq_sound {k : Nat} {x y : D} {va vb : Value} {b : Bool} {t : TypeId} {td : TypeDesc} (hx : Rep g x va) (hy : Rep g y vb) (h : leafEq k x y = some b) (hu : P.underlying t = some td)
  (htd : (k = 0 ∧ ∃ k, td = .int k) ∨ (k = 1 ∧ td = .bool) ∨ (k = 2 ∧ td = .string)) (n : Nat) : (Op.equalIn (n + 1) t va vb).run P w = .ok b w := by
 unfold leafEq at h
 split at h
 ·rename_i k1 a k2 b'
  split at h
  ·rename_i hk; subst hk
   simp only [Option.some.injEq] at h; subst h
   rw [hx.int_inv, hy.int_inv]
   rcases htd with ⟨_, k', rfl⟩ | ⟨h1, _⟩ | ⟨h1, _⟩
   ·exact run_equalIn_int w n t _ _ _ _ hu
   ·cases h1
   ·cases h1
  ·cases h
 ·simp only [Option.some.injEq] at h; subst h
  rw [hx.bool_inv, hy.bool_inv]
  rcases htd with ⟨h1, _⟩ | ⟨_, rfl⟩ | ⟨h1, _⟩
  ·cases h1
  ·exact run_equalIn_bool' w n t _ _ hu
  ·cases h1
 ·simp only [Option.some.injEq] at h; subst h
  rw [hx.str_inv, hy.str_inv]
  rcases htd with ⟨h1, _⟩ | ⟨h1, _⟩ | ⟨_, rfl⟩
  ·cases h1
  ·cases h1
  ·rw [run_equalIn_string w n t _ _ hu]; simp [ByteArray.toList_mk]
 ·cases h
theorem leaves_sound {xs ys : List D} {vx vy : List Value} (hx : Reps g xs vx) (hy : Reps g ys vy) (n : Nat) : ∀ {fs : List Field} {l : List (Nat × Nat)} {b : Bool},
  Vd.eqOffs P fs = some l → leavesEq xs ys l = some b → (Op.eqFields (n + 1) vx.toArray vy.toArray fs).run P w = .ok b w
 | [], l, b, h1, h2 => by
  simp only [Vd.eqOffs, Option.some.injEq] at h1; subst h1
  simp only [leavesEq, Option.some.injEq] at h2; subst h2
  rfl
 | f :: r, l, b, h1, h2 => by
  unfold Vd.eqOffs at h1
  split at h1
  ·cases h1
  rename_i hname
  have key : ∃ k l' td, P.underlying f.type = some td ∧ Vd.eqOffs P r = some l' ∧ l = (k, f.offset) :: l' ∧ ((k = 0 ∧ ∃ k, td = .int k) ∨ (k = 1 ∧ td = .bool) ∨ (k = 2 ∧ td = .string)) := by
   split at h1 <;> first | (simp only [Option.some.injEq] at h1; subst h1; rename_i e1 e2; first | exact ⟨0, _, _, e1, e2, rfl, .inl ⟨rfl, _, rfl⟩⟩ | exact ⟨1, _, _, e1, e2, rfl, .inr (.inl ⟨rfl, rfl⟩)⟩ | exact ⟨2, _, _, e1, e2, rfl, .inr (.inr ⟨rfl, rfl⟩)⟩) | (exfalso; simp at h1)
  obtain ⟨k, l', td, hu, hl, rfl, htd⟩ := key
  unfold leavesEq at h2
  split at h2
  ·rename_i x y ex ey
   have hvx : f.offset < vx.length := by rw [hx.1]; exact (List.getElem?_eq_some_iff.1 ex).1
   have hvy : f.offset < vy.length := by rw [hy.1]; exact (List.getElem?_eq_some_iff.1 ey).1
   have rx := hx.2.2 _ x vx[f.offset] ex (List.getElem?_eq_getElem hvx)
   have ry := hy.2.2 _ y vy[f.offset] ey (List.getElem?_eq_getElem hvy)
   have hd : Vd.aggDesc td = false := by rcases htd with ⟨_, k', rfl⟩ | ⟨_, rfl⟩ | ⟨_, rfl⟩ <;> rfl
   have px := Vd.run_part_leaf (w := w) hu hd (cs := vx.toArray) (o := f.offset) (v := vx[f.offset]) (by simp [hvx])
   have py := Vd.run_part_leaf (w := w) hu hd (cs := vy.toArray) (o := f.offset) (v := vy[f.offset]) (by simp [hvy])
   have ih := fun b' (hb : leavesEq xs ys l' = some b') => leaves_sound hx hy n hl hb
   split at h2
   ·rename_i he
    have e := leafEq_sound (P := P) (w := w) rx ry he hu htd n
    simp only [Op.eqFields, ne_eq, hname, not_false_eq_true, if_true, Sem.run_bind, px, Result.andThen_ok, py, e, Bool.not_true, Bool.false_eq_true, if_false]
    exact ih b h2
   ·rename_i he
    have e := leafEq_sound (P := P) (w := w) rx ry he hu htd n
    simp only [Option.some.injEq] at h2; subst h2
    simp only [Op.eqFields, ne_eq, hname, not_false_eq_true, if_true, Sem.run_bind, px, Result.andThen_ok, py, e, Bool.not_false, if_true, Sem.run_pure]
   ·cases h2
  ·cases h2
theorem struct_sound {xs ys : List D} {va vb : Value} {b : Bool} {t : TypeId} {fs : Array Field} {l : List (Nat × Nat)} (hx : Rep g (.agg xs) va) (hy : Rep g (.agg ys) vb)
  (hu : P.underlying t = some (.struct fs)) (hp : P.stoodInHeld t = false) (hg : P.eqGuardType P.depth t = false) (hl : Vd.eqOffs P fs.toList = some l) (h : leavesEq xs ys l = some b) (x y : Operand) (op : BinOp) :
  (Op.equal t va vb).run P w = .ok b w ∧ (eqGuard op t x y va vb).run P w = .ok () w := by
 obtain ⟨vx, rfl, rx⟩ := Reps.ofAgg hx
 obtain ⟨vy, rfl, ry⟩ := Reps.ofAgg hy
 constructor
 ·have hf : P.fieldsOf t = fs := by simp [Program.fieldsOf, hu]
  unfold Op.equal Op.maxDepth
  rw [run_equalIn_struct w 9999 t _ _ (by rw [hf]; exact hu) hp, hf]
  exact leaves_sound rx ry 9998 hl h
 ·cases op <;> first | rfl | (simp [eqGuard, hg])
theorem slNil_sound {x : D} {va : Value} {b : Bool} (hx : Rep g x va) (h : x.slNil = some b) : ∃ ad n c, va = .slice ad n c ∧ b = ad.isNone := by
 unfold D.slNil at h
 split at h <;> first | (simp only [Option.some.injEq] at h; subst h) | cases h
 ·exact ⟨none, 0, 0, hx.nils_inv, rfl⟩
 ·obtain ⟨b, c, C, rfl, _⟩ := hx.rsl_inv; exact ⟨_, _, _, rfl, rfl⟩
 ·obtain ⟨a, c, rfl⟩ := hx.esl_inv; exact ⟨_, _, _, rfl, rfl⟩
 ·obtain ⟨a, rfl⟩ := hx.esl0_inv; exact ⟨_, _, _, rfl, rfl⟩
def descE : Nat → TypeDesc → Prop
 | 4, td => ∃ k e, td = .map k e
 | k, td => Vd.descOf k td
theorem nilEq_sound {k : Nat} {x y : D} {va vb : Value} {b : Bool} {t : TypeId} {td : TypeDesc} (hx : Rep g x va) (hy : Rep g y vb) (h : nilEq k x y = some b) (hu : P.underlying t = some td)
  (htd : descE k td) (n : Nat) : (Op.equalIn (n + 1) t va vb).run P w = .ok b w ∧ Vd.eqByType va = true ∧ (∀ cs, va ≠ .agg cs) ∧ (va = .nilIface → k = 2) := by
 unfold nilEq at h
 split at h <;> first | (exfalso; simp at h; done) | (simp only [Option.some.injEq] at h; subst h) | skip
 ·obtain ⟨e, rfl⟩ := htd
  obtain ⟨ad, n, c, rfl, rfl⟩ := slNil_sound hx h
  rw [hy.nils_inv]
  refine ⟨?_, rfl, by simp, by simp⟩
  cases ad <;> simp [Op.equalIn, run_underlying hu]
 ·obtain ⟨e, rfl⟩ := htd
  obtain ⟨ad, n, c, rfl, rfl⟩ := slNil_sound hy h
  rw [hx.nils_inv]
  refine ⟨?_, rfl, by simp, by simp⟩
  simp [Op.equalIn, run_underlying hu]
 ·obtain ⟨e, rfl⟩ := htd
  rw [hx.nilp_inv, hy.nilp_inv]
  exact ⟨by simp [Op.equalIn, run_underlying hu], rfl, by simp, by simp⟩
 ·obtain ⟨e, rfl⟩ := htd
  obtain ⟨b, C, rfl, _⟩ := hy.ptr_inv
  rw [hx.nilp_inv]
  exact ⟨by simp [Op.equalIn, run_underlying hu], rfl, by simp, by simp⟩
 ·obtain ⟨e, rfl⟩ := htd
  obtain ⟨b, C, rfl, _⟩ := hx.ptr_inv
  rw [hy.nilp_inv]
  exact ⟨by simp [Op.equalIn, run_underlying hu], rfl, by simp, by simp⟩
 ·obtain ⟨e, rfl⟩ := htd
  rw [hx.nili_inv, hy.nili_inv]
  exact ⟨by simp [Op.equalIn, run_underlying hu], rfl, by simp, fun _ => rfl⟩
 ·obtain ⟨e, rfl⟩ := htd
  obtain ⟨u, rfl, _⟩ := hy.iface_inv
  rw [hx.nili_inv]
  exact ⟨by simp [Op.equalIn, run_underlying hu], rfl, by simp, fun _ => rfl⟩
 ·obtain ⟨e, rfl⟩ := htd
  obtain ⟨u, rfl, _⟩ := hx.iface_inv
  rw [hy.nili_inv]
  exact ⟨by simp [Op.equalIn, run_underlying hu], rfl, by simp, by simp⟩
 ·obtain ⟨p, r, v, rfl⟩ := htd
  rw [hx.nilf_inv, hy.nilf_inv]
  exact ⟨by simp [Op.equalIn, run_underlying hu], rfl, by simp, by simp⟩
 ·obtain ⟨p, r, v, rfl⟩ := htd
  obtain ⟨vs, rfl, _⟩ := hy.fn_inv
  rw [hx.nilf_inv]
  exact ⟨by simp [Op.equalIn, run_underlying hu], rfl, by simp, by simp⟩
 ·obtain ⟨p, r, v, rfl⟩ := htd
  obtain ⟨vs, rfl, _⟩ := hx.fn_inv
  rw [hy.nilf_inv]
  exact ⟨by simp [Op.equalIn, run_underlying hu], rfl, by simp, by simp⟩
 ·obtain ⟨p, r, v, rfl⟩ := htd
  obtain ⟨vs, rfl, _⟩ := hy.fnb_inv
  rw [hx.nilf_inv]
  exact ⟨by simp [Op.equalIn, run_underlying hu], rfl, by simp, by simp⟩
 ·obtain ⟨p, r, v, rfl⟩ := htd
  obtain ⟨vs, rfl, _⟩ := hx.fnb_inv
  rw [hy.nilf_inv]
  exact ⟨by simp [Op.equalIn, run_underlying hu], rfl, by simp, by simp⟩
 ·obtain ⟨p, r, rfl⟩ := htd
  rw [hx.nilm_inv, hy.nilm_inv]
  exact ⟨by simp [Op.equalIn, run_underlying hu], rfl, by simp, by simp⟩
 ·obtain ⟨p, r, rfl⟩ := htd
  obtain ⟨b, C, rfl, _⟩ := hy.map_inv
  rw [hx.nilm_inv]
  exact ⟨by simp [Op.equalIn, run_underlying hu], rfl, by simp, by simp⟩
 ·obtain ⟨p, r, rfl⟩ := htd
  obtain ⟨b, C, rfl, _⟩ := hx.map_inv
  rw [hy.nilm_inv]
  exact ⟨by simp [Op.equalIn, run_underlying hu], rfl, by simp, by simp⟩
theorem does_eq {ne : Bool} {t : TypeId} {x y : Operand} {yt : TypeId} {o : Oper} {p q : Arg} {dop : DOp} (h : At P B w0 w m g n n' s a) (hx : trArg x = some p) (hy : trArg y = some q)
  (htr : trEq P ne t x y p q = some dop) (ho : o.op = .binOp (if ne then .neq else .eql) t x y yt) (hex : exec s m n dop = some (d, u, n')) : Does P B w0 g n w (Upd.app m u) d n' (execOp a.eval o) := by
 have hrx := h.slots.arg hx
 have hry := h.slots.arg hy
 have hrun : ∀ v, (eqGuard (if ne then .neq else .eql) t x y (a.eval x) (a.eval y)).run P w = .ok () w → (binOp (if ne then .neq else .eql) t (a.eval x) (a.eval y)).run P w = .ok v w → (execOp a.eval o).run P w = .ok (.value v) w := by
  intro v e1 e2
  simp only [execOp, ho, Sem.run_bind, e1, e2, Result.andThen_ok, Sem.run_pure]
 have binCase : dop = .bin (if ne then .neq else .eql) p q → Does P B w0 g n w (Upd.app m u) d n' (execOp a.eval o) := by
  rintro rfl
  simp only [exec] at hex
  refine .pureM h.inv hex (fun d' h1 => ?_)
  obtain ⟨v, e1, e2, e3, e4⟩ := bin_sound (P := P) (t := t) hrx hry h1
  exact ⟨v, hrun v (Vd.guard_plain _ t x y _ _ e3 e4 w) e1, e2⟩
 have nilCase : ∀ k td, P.underlying t = some td → descE k td → (k = 2 → (Vd.isConst x || Vd.isConst y) = true) → dop = .nileq ne k p q → Does P B w0 g n w (Upd.app m u) d n' (execOp a.eval o) := by
  rintro k td hu hd hc rfl
  simp only [exec] at hex
  refine .pureM h.inv hex (fun b h1 => ?_)
  obtain ⟨e1, e2, e3, e4⟩ := nilEq_sound (P := P) (w := w) hrx hry h1 hu hd 9999
  exact ⟨_, hrun _ (Vd.guard_const _ t x y _ _ e3 (fun e => hc (e4 e)) w) (Vd.run_eql e2 ne e1), .bool _⟩
 unfold trEq at htr
 split at htr
 ·rename_i hu
  simp only [Option.some.injEq] at htr; subst htr
  simp only [exec] at hex
  split at hex
  ·rename_i b c ex ey
   rw [ex] at hrx; rw [ey] at hry
   refine .pureE h.inv (hrun _ (Vd.guard_plain _ t x y _ _ (by rw [hrx.bool_inv]; simp) (by rw [hrx.bool_inv]; simp) w) (Vd.run_eql (by rw [hrx.bool_inv]; rfl) ne (b := b == c) ?_)) (.bool _) hex
   rw [hrx.bool_inv, hry.bool_inv]
   exact run_equalIn_bool' w 9999 t _ _ hu
  ·cases hex
 ·simp only [Option.some.injEq] at htr; exact binCase htr.symm
 ·simp only [Option.some.injEq] at htr; exact binCase htr.symm
 ·rename_i fs hu
  split at htr
  ·rename_i hc
   rw [Option.map_eq_some_iff] at htr
   obtain ⟨l, hl, rfl⟩ := htr
   simp only [exec] at hex
   split at hex
   ·rename_i xs ys ex ey
    rw [ex] at hrx; rw [ey] at hry
    refine .pureM h.inv hex (fun b h1 => ?_)
    obtain ⟨e1, e2⟩ := struct_sound (P := P) (w := w) hrx hry hu hc.1 hc.2 hl h1 x y (if ne then .neq else .eql)
    refine ⟨_, hrun _ e2 (Vd.run_eql ?_ ne e1), .bool _⟩
    obtain ⟨vs, e3, _⟩ := Reps.ofAgg hrx
    rw [e3]; rfl
   ·cases hex
  ·cases htr
 ·rename_i e hu
  simp only [Option.some.injEq] at htr
  exact nilCase 0 _ hu ⟨e, rfl⟩ (by simp) htr.symm
 ·rename_i e hu
  split at htr
  ·simp only [Option.some.injEq] at htr
   exact nilCase 1 _ hu ⟨e, rfl⟩ (by simp) htr.symm
  ·split at htr
   ·rename_i k hk
    simp only [Option.some.injEq] at htr; subst htr
    simp only [exec] at hex
    split at hex
    ·rename_i i o1 j o2 ex ey
     rw [ex] at hrx; rw [ey] at hry
     obtain ⟨b, C, e1, hb⟩ := hrx.ptr_inv
     obtain ⟨b', C', e2, hb'⟩ := hry.ptr_inv
     split at hex
     ·rename_i hij
      subst hij
      rw [hb] at hb'
      simp only [Option.some.injEq, Prod.mk.injEq] at hb'
      obtain ⟨rfl, rfl⟩ := hb'
      have heq0 : ∀ N, (Op.equalIn (N + 1) t (a.eval x) (a.eval y)).run P w = .ok (o1 == o2) w := by
       intro N
       rw [e1, e2]
       simp [Op.equalIn, run_underlying hu, Vd.run_sizeOf' hk, sameAddr]
       rw [Bool.eq_iff_iff]; simp
      have heq : (Op.equal t (a.eval x) (a.eval y)).run P w = .ok (o1 == o2) w := heq0 9999
      refine .pureE h.inv (hrun _ (Vd.guard_plain _ t x y _ _ (by rw [e1]; simp) (by rw [e1]; simp) w) (Vd.run_eql (by rw [e1]; rfl) ne heq)) (.bool _) hex
     ·cases hex
    ·cases hex
   ·cases htr
 ·rename_i p' r' v' hu
  simp only [Option.some.injEq] at htr
  exact nilCase 3 _ hu ⟨p', r', v', rfl⟩ (by simp) htr.symm
 ·rename_i k' e' hu
  simp only [Option.some.injEq] at htr
  exact nilCase 4 _ hu ⟨k', e', rfl⟩ (by simp) htr.symm
 ·rename_i ms hu
  split at htr
  ·rename_i hc
   simp only [Option.some.injEq] at htr
   exact nilCase 2 _ hu ⟨ms, rfl⟩ (fun _ => hc) htr.symm
  ·cases htr
 ·cases htr
theorem does_bin {op : BinOp} {t : TypeId} {x y : Operand} {yt : TypeId} {o : Oper} {p q : Arg} (h : At P B w0 w m g n n' s a) (hx : trArg x = some p) (hy : trArg y = some q)
  (ho : o.op = .binOp op t x y yt) (hex : exec s m n (.bin op p q) = some (d, u, n')) : Does P B w0 g n w (Upd.app m u) d n' (execOp a.eval o) := by
 simp only [exec] at hex
 refine .pureM h.inv hex (fun d' h1 => ?_)
 obtain ⟨v, e1, e2, e3, e4⟩ := bin_sound (P := P) (w := w) (t := t) (h.slots.arg hx) (h.slots.arg hy) h1
 refine ⟨v, ?_, e2⟩
 simp only [execOp, ho, Sem.run_bind, Vd.guard_plain op t x y _ _ e3 e4 w, e1, Result.andThen_ok, Sem.run_pure]
end
end Go.Ve

namespace Go.Ve
open Go.RowKit
set_option linter.unusedSimpArgs false
set_option linter.unusedVariables false
section
variable {P : Program} {B : Nat} {w0 w : World} {m : Mem} {g : Gm} {n n' : Nat} {s : Nat → D} {a : Act} {d : D} {u : Upd}
theorem Inv.cells (h : Inv P B w0 m w g) {i b : Nat} {C : Option Nat} {cs : List D} {e : Kd} (hm : m i = some (.cells cs e)) (hb : g i = some (b, C)) :
  B ≤ b ∧ ∃ vs T fz, w.heap[b]? = some (.cells vs T fz) ∧ Soft fz vs.size ∧ cs.length ≤ vs.size ∧ Reps g cs (vs.toList.take cs.length) ∧ (∀ t, e = .row t → T = t ∧ Grows P t C vs.size) ∧ (∀ t, e = .var t → T = t ∧ C = none ∧ vs.size = cs.length) := by
 obtain ⟨b', C', h1, h2, h3⟩ := h.obj i _ hm
 rw [hb] at h1
 simp only [Option.some.injEq, Prod.mk.injEq] at h1
 obtain ⟨rfl, rfl⟩ := h1
 exact ⟨h2, h3⟩
theorem cell_row {b : Nat} {vs : Array Value} {T : TypeId} {fz : Nat × Nat} (h : w.heap[b]? = some (.cells vs T fz)) (o : Nat) : w.cell? ⟨b, o, none⟩ = vs[o]? := by
 simp [World.cell?, h]
theorem cells_at {b : Nat} {vs : Array Value} {T : TypeId} {fz : Nat × Nat} {cs : List D} (hh : w.heap[b]? = some (.cells vs T fz)) (hl : cs.length ≤ vs.size) (hr : Reps g cs (vs.toList.take cs.length)) {o k : Nat} (hk : o + k ≤ cs.length) :
  Reps g ((cs.drop o).take k) ((vs.toList.drop o).take k) ∧ ((vs.toList.drop o).take k).length = k ∧ ∀ j v, ((vs.toList.drop o).take k)[j]? = some v → w.cell? ⟨b, o + j, none⟩ = some v := by
 have e : (vs.toList.drop o).take k = ((vs.toList.take cs.length).drop o).take k := by
  rw [List.drop_take, List.take_take]
  congr 1; omega
 refine ⟨by rw [e]; exact (hr.drop o).take k, by simp; omega, fun j v hv => ?_⟩
 have hj : j < k := by
  rcases Nat.lt_or_ge j k with h1 | h1
  ·exact h1
  ·rw [List.getElem?_eq_none (by simp; omega)] at hv; cases hv
 rw [List.getElem?_take_of_lt hj, List.getElem?_drop] at hv
 rw [cell_row hh]
 simpa using hv
theorem rep_at {b : Nat} {vs : Array Value} {cs : List D} (hl : cs.length ≤ vs.size) (hr : Reps g cs (vs.toList.take cs.length)) {o : Nat} {d : D} (hd : cs[o]? = some d) : ∃ v, vs[o]? = some v ∧ v.oneCell' = true ∧ Rep g d v := by
 have ho : o < cs.length := (List.getElem?_eq_some_iff.1 hd).1
 have hv : vs[o]? = some (vs[o]'(by omega)) := Array.getElem?_eq_getElem (by omega)
 have hv' : (vs.toList.take cs.length)[o]? = some (vs[o]'(by omega)) := by
  rw [List.getElem?_take_of_lt ho]; simp [hv]
 exact ⟨_, hv, hr.2.1 _ (List.mem_of_getElem? hv'), hr.2.2 _ _ _ hd hv'⟩
theorem does_load {t : TypeId} {o : Oper} {x : Operand} {y : Arg} {k : Option Nat} (h : At P B w0 w m g n n' s a) (hk : Vd.kOf P t = some k) (hx : trArg x = some y) (ho : o.op = .load t x)
  (he : exec s m n (.load k y) = some (d, u, n')) : Does P B w0 g n w (Upd.app m u) d n' (execOp a.eval o) := by
 have hr := h.slots.arg hx
 have hrun : ∀ ad v, a.eval x = .pointer (some ad) → (loadVar t ad).run P w = .ok v w → (execOp a.eval o).run P w = .ok (.value v) w := by
  intro ad v e1 e2
  simp only [execOp, ho, Instr.loadAt, e1, Instr.sureAddr, Sem.run_bind, Result.andThen_ok, Sem.run_pure, e2]
 simp only [exec] at he
 split at he
 ·rename_i i o' e
  rw [e] at hr
  obtain ⟨b, C, e1, hb⟩ := hr.ptr_inv
  split at he
  ·rename_i cs ee hm
   obtain ⟨_, vs, T, fz, hh, hsf, hl, hrp, _⟩ := h.inv.cells hm hb
   split at he
   ·refine .pureM h.inv he (fun d' hd' => ?_)
    obtain ⟨v, q1, q2, q3⟩ := rep_at (b := b) hl hrp hd'
    exact ⟨v, hrun _ _ e1 (Vd.run_loadVar_leaf hk (by rw [cell_row hh]; exact q1)), q3⟩
   ·rename_i k
    split at he
    ·rename_i hkl
     obtain ⟨r1, r2, r3⟩ := cells_at hh hl hrp hkl
     refine .pureE h.inv (hrun _ _ e1 (Vd.run_loadVar_agg hk r2 (fun j v hv => by rw [Vd.mk_add]; exact r3 j v hv))) (Rep.aggOf r1) he
    ·cases he
  ·cases he
 ·cases he
theorem does_faddr {t : TypeId} {f : Nat} {o : Oper} {x : Operand} {y : Arg} {fields : Array Field} {fd : Field} {k : Nat} (h : At P B w0 w m g n n' s a) (hu : P.underlying t = some (.struct fields)) (hf : fields[f]? = some fd)
  (hn : Vd.szOf P fd.type = some (k + 1)) (hx : trArg x = some y) (ho : o.op = .fieldAddr t x f) (he : exec s m n (.faddr fd.offset y) = some (d, u, n')) : Does P B w0 g n w (Upd.app m u) d n' (execOp a.eval o) := by
 have hr := h.slots.arg hx
 have hrun : ∀ ad, a.eval x = .pointer (some ad) → (execOp a.eval o).run P w = .ok (.value (.pointer (some (ad.add fd.offset)))) w := by
  intro ad e
  simp [execOp, ho, Instr.fieldAt, run_underlying hu, hf, e, Instr.sureAddr, fieldPlace, Vd.run_sizeOf' hn]
 simp only [exec] at he
 split at he
 ·rename_i i o' e
  rw [e] at hr
  obtain ⟨b, C, e1, hb⟩ := hr.ptr_inv
  refine .pureE h.inv (hrun _ e1) ?_ he
  rw [Vd.mk_add]
  exact .ptr i _ b C hb
 ·cases he
theorem part_leaf {t : TypeId} (hk : Vd.kOf P t = some none) {cs : List D} {vs : List Value} (hr : Reps g cs vs) {o : Nat} {d : D} (hd : cs[o]? = some d) :
  ∃ v, (part t vs.toArray o).run P w = .ok v w ∧ Rep g d v := by
 obtain ⟨td, hu', hagg⟩ := Vd.kOf_none hk
 have hv : o < vs.length := by rw [hr.1]; exact (List.getElem?_eq_some_iff.1 hd).1
 exact ⟨vs[o], Vd.run_part_leaf (w := w) hu' hagg (cs := vs.toArray) (o := o) (v := vs[o]) (by simp [hv]), hr.2.2 _ _ _ hd (List.getElem?_eq_getElem hv)⟩
theorem part_agg {t k : Nat} (hk : Vd.kOf P t = some (some k)) {cs : List D} {vs : List Value} (hr : Reps g cs vs) {o : Nat} (hl : o + k ≤ cs.length) :
  ∃ v, (part t vs.toArray o).run P w = .ok v w ∧ Rep g (.agg ((cs.drop o).take k)) v := by
 obtain ⟨td, hu', hagg, hs⟩ := Vd.kOf_some hk
 refine ⟨.agg ((vs.drop o).take k).toArray, ?_, Rep.aggOf ((hr.drop o).take k)⟩
 simp only [part, Sem.run_bind, Vd.run_isAgg' hu', hagg, Result.andThen_ok, Vd.run_sizeOf' hs, Sem.run_pure, if_true]
 congr 2
 simp [List.extract_toArray, List.extract_eq_take_drop]
theorem does_field {t : TypeId} {f : Nat} {o : Oper} {x : Operand} {y : Arg} {fields : Array Field} {fd : Field} {k : Option Nat} (h : At P B w0 w m g n n' s a) (hu : P.underlying t = some (.struct fields)) (hf : fields[f]? = some fd)
  (hk : Vd.kOf P fd.type = some k) (hx : trArg x = some y) (ho : o.op = .field t x f) (he : exec s m n (.field k fd.offset y) = some (d, u, n')) : Does P B w0 g n w (Upd.app m u) d n' (execOp a.eval o) := by
 have hr := h.slots.arg hx
 simp only [exec] at he
 split at he
 ·rename_i cs e
  rw [e] at hr
  obtain ⟨vs, e1, r1⟩ := Reps.ofAgg hr
  refine .pureM h.inv he (fun d' hd => ?_)
  obtain ⟨v, p1, p2⟩ := part_leaf (P := P) (w := w) hk r1 hd
  exact ⟨v, by simp [execOp, ho, Instr.field, run_underlying hu, hf, e1, asAgg, p1], p2⟩
 ·rename_i cs k e
  rw [e] at hr
  obtain ⟨vs, e1, r1⟩ := Reps.ofAgg hr
  split at he
  ·rename_i hl
   obtain ⟨v, p1, p2⟩ := part_agg (P := P) (w := w) hk r1 hl
   exact .pureE h.inv (by simp [execOp, ho, Instr.field, run_underlying hu, hf, e1, asAgg, p1]) p2 he
  ·cases he
 ·cases he
theorem does_iaddr {t e : TypeId} {o : Oper} {x i : Operand} {y z : Arg} {sz : Nat} (h : At P B w0 w m g n n' s a) (hu : P.underlying t = some (.slice e)) (hs : Vd.szOf P e = some sz)
  (hx : trArg x = some y) (hi : trArg i = some z) (ho : o.op = .indexAddr t x i) (he : exec s m n (.iaddr sz y z) = some (d, u, n')) : Does P B w0 g n w (Upd.app m u) d n' (execOp a.eval o) := by
 have hr := h.slots.arg hx
 have hri := h.slots.arg hi
 simp only [exec] at he
 split at he
 ·rename_i j o' c k v ex ei
  rw [ex] at hr; rw [ei] at hri
  obtain ⟨b, cc, C, e1, hb, _⟩ := hr.rsl_inv
  split at he
  ·rename_i hc
   refine .pureE h.inv (v := .pointer (some ⟨b, o' + v.toNat * sz, none⟩)) ?_ (.ptr j _ b C hb) he
   simp [execOp, ho, Instr.indexAt, asIntOf, hri.int_inv, e1, run_underlying hu, hc, Vd.run_sizeOf' hs, Vd.mk_add]
  ·cases he
 ·cases he
theorem does_iaddra {t e : TypeId} {len : Nat} {o : Oper} {x i : Operand} {y z : Arg} {sz : Nat} (h : At P B w0 w m g n n' s a) (hu : P.underlying t = some (.array len e)) (hs : Vd.szOf P e = some sz)
  (hx : trArg x = some y) (hi : trArg i = some z) (ho : o.op = .indexAddr t x i) (he : exec s m n (.iaddra len sz y z) = some (d, u, n')) : Does P B w0 g n w (Upd.app m u) d n' (execOp a.eval o) := by
 have hr := h.slots.arg hx
 have hri := h.slots.arg hi
 simp only [exec] at he
 split at he
 ·rename_i j o' k v ex ei
  rw [ex] at hr; rw [ei] at hri
  obtain ⟨b, C, e1, hb⟩ := hr.ptr_inv
  split at he
  ·rename_i hc
   refine .pureE h.inv (v := .pointer (some ⟨b, o' + v.toNat * sz, none⟩)) ?_ (.ptr j _ b C hb) he
   simp [execOp, ho, Instr.indexAt, asIntOf, hri.int_inv, e1, run_underlying hu, Instr.sureAddr, hc, Vd.run_sizeOf' hs, Vd.mk_add]
  ·cases he
 ·cases he
theorem does_idxs {t : TypeId} {o : Oper} {x i : Operand} {y z : Arg} (h : At P B w0 w m g n n' s a) (hu : P.underlying t = some .string)
  (hx : trArg x = some y) (hi : trArg i = some z) (ho : o.op = .index t x i) (he : exec s m n (.idxs y z) = some (d, u, n')) : Does P B w0 g n w (Upd.app m u) d n' (execOp a.eval o) := by
 have hr := h.slots.arg hx
 have hri := h.slots.arg hi
 simp only [exec] at he
 split at he
 ·rename_i b k v ex ei
  rw [ex] at hr; rw [ei] at hri
  split at he
  ·rename_i h0
   refine .pureM h.inv he (fun c hc => ⟨.int .u8 c.toNat, ?_, .int _ _⟩)
   simp [execOp, ho, Instr.index, asIntOf, hri.int_inv, hr.str_inv, run_underlying hu, h0, Vd.bytes_get, hc]
  ·cases he
 ·cases he
theorem does_idxa {t e : TypeId} {len sz : Nat} {k : Option Nat} {o : Oper} {x i : Operand} {y z : Arg} (h : At P B w0 w m g n n' s a) (hu : P.underlying t = some (.array len e)) (hs : Vd.szOf P e = some sz) (hk : Vd.kOf P e = some k)
  (hx : trArg x = some y) (hi : trArg i = some z) (ho : o.op = .index t x i) (he : exec s m n (.idxa len sz k y z) = some (d, u, n')) : Does P B w0 g n w (Upd.app m u) d n' (execOp a.eval o) := by
 have hr := h.slots.arg hx
 have hri := h.slots.arg hi
 simp only [exec] at he
 split at he
 ·rename_i cs kk v ex ei
  rw [ex] at hr; rw [ei] at hri
  obtain ⟨vs, e1, r1⟩ := Reps.ofAgg hr
  split at he
  ·rename_i hc
   have hrun : ∀ u, (part e vs.toArray (v.toNat * sz)).run P w = .ok u w → (execOp a.eval o).run P w = .ok (.value u) w := by
    intro u hu'
    simp [execOp, ho, Instr.index, asIntOf, hri.int_inv, e1, run_underlying hu, hc, Vd.run_sizeOf' hs, hu']
   split at he
   ·refine .pureM h.inv he (fun d' hd => ?_)
    obtain ⟨u, p1, p2⟩ := part_leaf (P := P) (w := w) hk r1 hd
    exact ⟨u, hrun u p1, p2⟩
   ·split at he
    ·rename_i hl
     obtain ⟨u, p1, p2⟩ := part_agg (P := P) (w := w) hk r1 hl
     exact .pureE h.inv (hrun u p1) p2 he
    ·cases he
  ·cases he
 ·cases he
theorem bound_sound (h : Slots g s a) {x : Option Operand} {y : Option Arg} (hx : trOpt x = some y) {dflt most v : Nat} (hb : bound s y dflt most = some v) :
  (x = none ∧ v = dflt ∧ y = none) ∨ (∃ o k, x = some o ∧ a.eval o = .int k (v : Int) ∧ v ≤ most) := by
 cases x with
 | none =>
  simp only [trOpt, Option.some.injEq] at hx; subst hx
  simp only [bound, Option.some.injEq] at hb
  exact .inl ⟨rfl, hb.symm, rfl⟩
 | some o =>
  simp only [trOpt, Option.map_eq_some_iff] at hx
  obtain ⟨z, hz, rfl⟩ := hx
  have hr := h.arg hz
  simp only [bound] at hb
  split at hb
  ·rename_i k q he
   rw [he] at hr
   split at hb
   ·rename_i hc
    simp only [Option.some.injEq] at hb
    refine .inr ⟨o, k, rfl, ?_, by omega⟩
    rw [hr.int_inv]
    congr 1
    omega
   ·cases hb
  ·cases hb
theorem run_sliceBounds (h : Slots g s a) {lo hi : Option Operand} {l' h' : Option Arg} (hlo : trOpt lo = some l') (hhi : trOpt hi = some h') (isS : Bool) {len cap l hh : Nat} (hc : len ≤ cap)
  (eb : bounds s l' h' len = some (l, hh)) :
  (Instr.sliceBounds isS len cap (lo.map a.eval) (hi.map a.eval) none).run P w = .ok (l, hh, cap) w ∧ l ≤ hh ∧ hh ≤ len := by
 unfold bounds at eb
 split at eb
 ·rename_i h1 eh
  split at eb
  ·rename_i l1 el
   simp only [Option.some.injEq, Prod.mk.injEq] at eb
   obtain ⟨rfl, rfl⟩ := eb
   have hle : h1 ≤ len := by
    rcases bound_sound h hhi eh with ⟨_, rfl, _⟩ | ⟨_, _, _, _, h1⟩ <;> omega
   have hle2 : l1 ≤ h1 := by
    rcases bound_sound h hlo el with ⟨_, rfl, _⟩ | ⟨_, _, _, _, h1⟩ <;> omega
   refine ⟨?_, hle2, hle⟩
   unfold Instr.sliceBounds
   rcases bound_sound h hhi eh with ⟨rfl, rfl, _⟩ | ⟨o, k, rfl, eo, h1⟩ <;> rcases bound_sound h hlo el with ⟨rfl, rfl, _⟩ | ⟨o', k', rfl, eo', h1'⟩
   ·simp
   ·simp [Instr.sliceBound, asIntOf, eo']
    intro; omega
   ·simp [Instr.sliceBound, asIntOf, eo]
    intro; omega
   ·simp [Instr.sliceBound, asIntOf, eo, eo']
    rw [if_pos (by omega)]
    simp
    intro; omega
  ·cases eb
 ·cases eb
theorem does_cuts {t : TypeId} {o : Oper} {x : Operand} {lo hi : Option Operand} {y : Arg} {l' h' : Option Arg} (h : At P B w0 w m g n n' s a) (hu : P.underlying t = some .string)
  (hx : trArg x = some y) (hlo : trOpt lo = some l') (hhi : trOpt hi = some h') (ho : o.op = .slice t x lo hi none) (he : exec s m n (.cuts y l' h') = some (d, u, n')) :
  Does P B w0 g n w (Upd.app m u) d n' (execOp a.eval o) := by
 have hr := h.slots.arg hx
 simp only [exec] at he
 split at he
 ·rename_i b e
  rw [e] at hr
  split at he
  ·rename_i l hh eb
   obtain ⟨hb, _, _⟩ := run_sliceBounds (P := P) (w := w) h.slots hlo hhi false (len := b.length) (cap := b.length) (Nat.le_refl _) eb
   refine .pureE h.inv (v := .string ⟨((b.drop l).take (hh - l)).toArray⟩) ?_ (.str _) he
   have hsz : (ByteArray.mk b.toArray).size = b.length := by simp [ByteArray.size]
   simp only [execOp, ho, Instr.sliceAt, Sem.run_bind, run_underlying hu, Result.andThen_ok, Instr.slice, hr.str_inv, Option.map_none, Option.isSome_none, Bool.false_eq_true, if_false, hsz, hb, Sem.run_pure, Vd.bytes_extract]
  ·cases he
 ·cases he
theorem does_cutl {t e : TypeId} {o : Oper} {x : Operand} {lo hi : Option Operand} {y : Arg} {l' h' : Option Arg} {sz : Nat} (h : At P B w0 w m g n n' s a) (hu : P.underlying t = some (.slice e)) (hs : Vd.szOf P e = some sz)
  (hx : trArg x = some y) (hlo : trOpt lo = some l') (hhi : trOpt hi = some h') (ho : o.op = .slice t x lo hi none) (he : exec s m n (.cutl sz y l' h') = some (d, u, n')) :
  Does P B w0 g n w (Upd.app m u) d n' (execOp a.eval o) := by
 have hr := h.slots.arg hx
 have hrun : ∀ ad n c l hh m', a.eval x = .slice ad n c → (Instr.sliceBounds true n c (lo.map a.eval) (hi.map a.eval) none).run P w = .ok (l, hh, m') w →
   (execOp a.eval o).run P w = .ok (.value (.slice (if m' = l then ad else ad.map (·.add (l * sz))) (hh - l) (m' - l))) w := by
  intro ad n c l hh m' e1 e2
  simp only [execOp, ho, Instr.sliceAt, Sem.run_bind, run_underlying hu, Result.andThen_ok, Instr.slice, e1, Option.map_none, e2, Vd.run_sizeOf' hs, Sem.run_pure]
 simp only [exec] at he
 split at he
 ·rename_i i o' c e'
  rw [e'] at hr
  obtain ⟨b, cc, C, e1, hb, hle, hC⟩ := hr.rsl_inv
  split at he
  ·rename_i l hh eb
   obtain ⟨hb', q1, q2⟩ := run_sliceBounds (P := P) (w := w) h.slots hlo hhi true (len := c) (cap := cc) hle eb
   have hr1 := hrun _ _ _ _ _ _ e1 hb'
   split at he
   ·rename_i h0
    subst h0
    refine .pureE h.inv hr1 ?_ he
    have : (if cc = 0 then some (⟨b, o', none⟩ : Addr) else Option.map (fun (x : Addr) => x.add (0 * sz)) (some (⟨b, o', none⟩ : Addr))) = some ⟨b, o', none⟩ := by
     split <;> simp [Addr.add]
    rw [this]
    exact .rsl i o' hh b _ C hb (by omega) (fun k hk h0 => by rw [← hC k hk h0]; omega)
   ·rename_i h0
    split at he
    ·rename_i hlt
     split at he
     ·rename_i hsz
      refine .pureE h.inv hr1 ?_ he
      rw [if_neg (by omega), Option.map_some, Vd.mk_add]
      have : 0 < l * sz := Nat.mul_pos (by omega) hsz
      exact .rsl i _ _ b _ C hb (by omega) (fun k hk h1 => by omega)
     ·cases he
    ·refine .pureE h.inv hr1 ?_ he
     have : hh - l = 0 := by omega
     rw [this]
     split
     ·exact .esl _ _
     ·exact .esl _ _
  ·cases he
 ·rename_i e'
  rw [e'] at hr
  split at he
  ·rename_i x1 eb
   obtain ⟨l, hh⟩ := x1
   obtain ⟨hb', q1, q2⟩ := run_sliceBounds (P := P) (w := w) h.slots hlo hhi true (len := 0) (cap := 0) (Nat.le_refl _) eb
   obtain rfl : hh = 0 := by omega
   obtain rfl : l = 0 := by omega
   exact .pureE h.inv (hrun _ _ _ _ _ _ hr.nils_inv hb') (by simpa using Rep.nils) he
  ·cases he
 ·rename_i e'
  rw [e'] at hr
  obtain ⟨ad, cc, e1⟩ := hr.esl_inv
  split at he
  ·rename_i x1 eb
   obtain ⟨l, hh⟩ := x1
   obtain ⟨hb', q1, q2⟩ := run_sliceBounds (P := P) (w := w) h.slots hlo hhi true (len := 0) (cap := cc) (Nat.zero_le _) eb
   obtain rfl : hh = 0 := by omega
   obtain rfl : l = 0 := by omega
   refine .pureE h.inv (hrun _ _ _ _ _ _ e1 hb') ?_ he
   split
   ·exact .esl _ _
   ·exact .esl _ _
  ·cases he
 ·rename_i e'
  rw [e'] at hr
  obtain ⟨ad, e1⟩ := hr.esl0_inv
  split at he
  ·rename_i x1 eb
   obtain ⟨l, hh⟩ := x1
   obtain ⟨hb', q1, q2⟩ := run_sliceBounds (P := P) (w := w) h.slots hlo hhi true (len := 0) (cap := 0) (Nat.zero_le _) eb
   obtain rfl : hh = 0 := by omega
   obtain rfl : l = 0 := by omega
   refine .pureE h.inv (hrun _ _ _ _ _ _ e1 hb') ?_ he
   exact .esl0 _
  ·cases he
 ·cases he
theorem does_cuta {t e : TypeId} {len : Nat} {o : Oper} {x : Operand} {lo hi : Option Operand} {y : Arg} {l' h' : Option Arg} {sz : Nat} (h : At P B w0 w m g n n' s a) (hu : P.underlying t = some (.array len e)) (hs : Vd.szOf P e = some sz)
  (hx : trArg x = some y) (hlo : trOpt lo = some l') (hhi : trOpt hi = some h') (ho : o.op = .slice t x lo hi none) (he : exec s m n (.cuta len sz y l' h') = some (d, u, n')) :
  Does P B w0 g n w (Upd.app m u) d n' (execOp a.eval o) := by
 have hr := h.slots.arg hx
 simp only [exec] at he
 split at he
 ·rename_i i o' e'
  rw [e'] at hr
  obtain ⟨b, C, e1, hb⟩ := hr.ptr_inv
  split at he
  ·rename_i cs tv hm
   obtain ⟨_, vs, T, fz, hh0, _, _, _, _, hC⟩ := h.inv.cells hm hb
   have hC := (hC _ rfl).2.1
   subst hC
   split at he
   ·rename_i l hh eb
    obtain ⟨hb', q1, q2⟩ := run_sliceBounds (P := P) (w := w) h.slots hlo hhi false (len := len) (cap := len) (Nat.le_refl _) eb
    have hrun : (execOp a.eval o).run P w = .ok (.value (.slice (some (if len = l then ⟨b, o', none⟩ else (⟨b, o', none⟩ : Addr).add (l * sz))) (hh - l) (len - l))) w := by
     simp only [execOp, ho, Instr.sliceAt, Sem.run_bind, run_underlying hu, Result.andThen_ok, Instr.sureAddr, e1, Option.map_none, hb', Vd.run_sizeOf' hs, Sem.run_pure]
    split at he
    ·rename_i hl
     subst hl
     refine .pureE h.inv hrun ?_ he
     have h1 : hh - l = 0 := by omega
     rw [h1, Nat.sub_self]
     exact .esl0 _
    ·rename_i hl
     refine .pureE h.inv hrun ?_ he
     rw [if_neg (fun e => hl e.symm), Vd.mk_add]
     exact .rsl i _ _ b _ none hb (by omega) (fun k hk => by cases hk)
   ·cases he
  ·cases he
 ·cases he
theorem does_s2a {t e : TypeId} {len : Nat} {o : Oper} {x : Operand} {y : Arg} (h : At P B w0 w m g n n' s a) (hu : P.underlying t = some (.array len e))
  (hx : trArg x = some y) (ho : o.op = .sliceToArrayPointer t x) (he : exec s m n (.s2a len y) = some (d, u, n')) : Does P B w0 g n w (Upd.app m u) d n' (execOp a.eval o) := by
 have hr := h.slots.arg hx
 simp only [exec] at he
 split at he
 ·rename_i i o' c e'
  rw [e'] at hr
  obtain ⟨b, cc, C, e1, hb, hle, hC⟩ := hr.rsl_inv
  split at he
  ·rename_i hl
   refine .pureE h.inv (v := .pointer (some ⟨b, o', none⟩)) ?_ (.ptr i o' b C hb) he
   have : ¬ c < len := by omega
   simp [execOp, ho, Instr.arrayAt, run_underlying hu, e1, this]
  ·cases he
 ·cases he
end
end Go.Ve

namespace Go.Ve
open Go.RowKit
set_option linter.unusedSimpArgs false
set_option linter.unusedVariables false
section
variable {P : Program} {B : Nat} {w0 w : World} {m : Mem} {g : Gm} {n n' : Nat} {s : Nat → D} {a : Act} {d : D} {u : Upd}
theorem Soft.zero (size : Nat) : Soft (0, 0) size := .inl (Nat.le_refl _)
theorem step_new (hi : Inv P B w0 m w g) (hf : m n = none ∧ g n = none) (C : Option Nat) {ob : Ob} {o : Obj} (ho : ObOk P g C ob (some o)) {d : D} {v : Value} (hr : Rep (g.add n w.heap.size C) d v) :
  Step P B w0 g n (m.put n (some ob)) d (n + 1) v (w.alloc o) (g.add n w.heap.size C) :=
 ⟨hi.new hf.1 hf.2 C ho, Gm.add_le hf.2, fun i h => Gm.add_other (by omega), hr⟩
theorem ObOk.plain {cs : List D} {vs : Array Value} {T : TypeId} (h : Reps g cs vs.toList) : ObOk P g none (.cells cs (.var T)) (some (.cells vs T)) := by
 refine ⟨vs, T, (0, 0), rfl, Soft.zero _, ?_, ?_, fun t ht => (nomatch ht), fun t ht => ⟨by cases ht; rfl, rfl, by have := h.1; simp at this; omega⟩⟩
 ·have := h.1; simp at this; omega
 ·rw [List.take_of_length_le (by have := h.1; omega)]; exact h
theorem does_alloc {t : TypeId} {o : Oper} {z : D} (h : At P B w0 w m g n n' s a) (hz : zeroOf P t = some z) (ho : o.op = .alloc t) (he : exec s m n (.alloc t z.cells) = some (d, u, n')) :
  Does P B w0 g n w (Upd.app m u) d n' (execOp a.eval o) := by
 simp only [exec, Option.some.injEq, Prod.mk.injEq] at he
 obtain ⟨rfl, rfl, rfl⟩ := he
 obtain ⟨i, v, hi, hv, hr, hd⟩ := zeroOf_some hz g
 have hc := hr.cells hd
 refine ⟨.pointer (some ⟨w.heap.size, 0, none⟩), w.alloc (.cells v.cells t), g.add n w.heap.size none, .value (.pointer (some ⟨w.heap.size, 0, none⟩)), ?_, .inl rfl, ?_⟩
 ·simp only [execOp, ho, Instr.alloc, zeroValue, Sem.run_bind, typeInfo, run_program, Result.andThen_ok, hi, hv, Sem.run_pure, newVar, Vd.run_newRow]
 ·exact step_new h.inv (h.fresh n (Nat.le_refl _) (by omega)) none (ObOk.plain hc) (.ptr n 0 _ none Gm.add_same)
theorem does_box {t : TypeId} {o : Oper} {x : Operand} {y : Arg} (h : At P B w0 w m g n n' s a) (hx : trArg x = some y) (ho : o.op = .box t x) (he : exec s m n (.box t y) = some (d, u, n')) :
  Does P B w0 g n w (Upd.app m u) d n' (execOp a.eval o) := by
 simp only [exec] at he
 split at he
 ·rename_i hd
  simp only [Option.some.injEq, Prod.mk.injEq] at he
  obtain ⟨rfl, rfl, rfl⟩ := he
  have hr := h.slots.arg hx
  have hc := hr.cells hd
  refine ⟨.pointer (some ⟨w.heap.size, 0, none⟩), w.alloc (.cells (a.eval x).cells t), g.add n w.heap.size none, .value (.pointer (some ⟨w.heap.size, 0, none⟩)), ?_, .inl rfl, ?_⟩
  ·simp only [execOp, ho, Instr.box, Sem.run_bind, Result.andThen_ok, Sem.run_pure, newVar, Vd.run_newRow]
  ·exact step_new h.inv (h.fresh n (Nat.le_refl _) (by omega)) none (ObOk.plain hc) (.ptr n 0 _ none Gm.add_same)
 ·cases he
theorem reps_put {zs ds : List D} {zv dv : List Value} (hz : Reps g zs zv) (hd : Reps g ds dv) (off : Nat) : Reps g (putAt zs off ds) (zv.take off ++ dv ++ zv.drop (off + dv.length)) := by
 unfold putAt
 rw [hd.1]
 exact Reps.append (Reps.append (hz.take off) hd) (hz.drop _)
theorem fill_sound : ∀ {l : List (Nat × Nat × D)} {ps : List (Nat × Value)} {zs cs : List D} {zv : Array Value} {place : Nat → Option (Nat × Nat)},
  Reps g zs zv.toList → l.length = ps.length → (∀ (j : Nat) x p, l[j]? = some x → ps[j]? = some p → place p.1 = some (x.1, x.2.1) ∧ Rep g x.2.2 p.2) →
  fillD zs l = some cs → ∃ cv : Array Value, Instr.fill place zv ps = some cv ∧ Reps g cs cv.toList
 | [], [], zs, cs, zv, place, hz, _, _, h => by
  simp only [fillD, Option.some.injEq] at h; subst h
  exact ⟨zv, rfl, hz⟩
 | (off, sz, d) :: l, [], zs, cs, zv, place, hz, hl, _, h => by cases hl
 | [], p :: ps, zs, cs, zv, place, hz, hl, _, h => by cases hl
 | (off, sz, d) :: l, (i, v) :: ps, zs, cs, zv, place, hz, hl, hp, h => by
  unfold fillD at h
  split at h
  ·rename_i hc
   obtain ⟨c1, c2, c3⟩ := hc
   obtain ⟨e1, e2⟩ := hp 0 _ _ rfl rfl
   simp only at e1 e2
   have hcells := e2.cells c1
   have hvs : v.cells.size = sz := by have := hcells.1; simp at this; omega
   have hzl := hz.1
   simp only [Array.length_toList] at hzl
   have hfit : off + v.cells.size ≤ zv.size := by omega
   have hset := Vd.foldl_array_zipIdx v.cells off zv hfit
   have hreps : Reps g (putAt zs off d.cells) ((v.cells.zipIdx.foldl (fun cs (x : Value × Nat) => cs.setIfInBounds (off + x.2) x.1) zv)).toList := by
    rw [hset]; exact reps_put hz hcells off
   obtain ⟨cv, f1, f2⟩ := fill_sound (ps := ps) (place := place) hreps (by simpa using hl) (fun j x p hx hp' => hp (j + 1) x p (by simpa using hx) (by simpa using hp')) h
   refine ⟨cv, ?_, f2⟩
   unfold Instr.fill
   rw [e1]
   simp only
   rw [if_neg (by simp [hvs]; omega)]
   exact f1
  ·cases h
theorem partsStruct_some {fields : Array Field} : ∀ {ps : List (Nat × Operand)} {l : List (Nat × Nat × Arg)}, partsStruct P fields ps = some l →
  l.length = ps.length ∧ ∀ (j : Nat) x p, l[j]? = some x → ps[j]? = some p → ∃ f : Field, fields[p.1]? = some f ∧ Vd.szOf P f.type = some x.2.1 ∧ x.1 = f.offset ∧ trArg p.2 = some x.2.2
 | [], l, h => by simp only [partsStruct, Option.some.injEq] at h; subst h; simp
 | (i, x) :: r, l, h => by
  unfold partsStruct at h
  split at h
  ·rename_i f y l' e1 e2 e3
   split at h
   ·rename_i n e4
    simp only [Option.some.injEq] at h; subst h
    obtain ⟨q1, q2⟩ := partsStruct_some e3
    refine ⟨by simp [q1], fun j x' p hx hp => ?_⟩
    cases j with
    | zero =>
     simp only [List.getElem?_cons_zero, Option.some.injEq] at hx hp; subst hx hp
     exact ⟨f, e1, e4, rfl, e2⟩
    | succ j => exact q2 j x' p (by simpa using hx) (by simpa using hp)
   ·cases h
  ·cases h
theorem partsArray_some {sz : Nat} : ∀ {ps : List (Nat × Operand)} {l : List (Nat × Nat × Arg)}, partsArray sz ps = some l →
  l.length = ps.length ∧ ∀ (j : Nat) x p, l[j]? = some x → ps[j]? = some p → x.1 = p.1 * sz ∧ x.2.1 = sz ∧ trArg p.2 = some x.2.2
 | [], l, h => by simp only [partsArray, Option.some.injEq] at h; subst h; simp
 | (i, x) :: r, l, h => by
  unfold partsArray at h
  split at h
  ·rename_i y l' e2 e3
   simp only [Option.some.injEq] at h; subst h
   obtain ⟨q1, q2⟩ := partsArray_some e3
   refine ⟨by simp [q1], fun j x' p hx hp => ?_⟩
   cases j with
   | zero =>
    simp only [List.getElem?_cons_zero, Option.some.injEq] at hx hp; subst hx hp
    exact ⟨rfl, rfl, e2⟩
   | succ j => exact q2 j x' p (by simpa using hx) (by simpa using hp)
  ·cases h
theorem does_build {t : TypeId} {parts : Array (Nat × Operand)} {o : Oper} {fields : Array Field} {zs : List D} {l : List (Nat × Nat × Arg)} (h : At P B w0 w m g n n' s a) (hu : P.underlying t = some (.struct fields))
  (hok : Vd.fieldsOk P fields.toList = true) (hz : zeroOf P t = some (.agg zs)) (hl : partsStruct P fields parts.toList = some l) (ho : o.op = .build t parts) (he : exec s m n (.build zs l) = some (d, u, n')) :
  Does P B w0 g n w (Upd.app m u) d n' (execOp a.eval o) := by
 simp only [exec] at he
 refine .pureM h.inv he (fun cs hcs => ?_)
 obtain ⟨inf, zv, hinf, hzv, hr, _⟩ := zeroOf_some hz g
 obtain ⟨vs, rfl, rz⟩ := Reps.ofAgg hr
 have hfo : ∀ f ∈ fields.toList, ∃ n, Vd.szOf P f.type = some n := by
  intro f hf
  have := List.all_eq_true.1 hok f hf
  rw [Option.isSome_iff_exists] at this
  exact this
 obtain ⟨pl, p1, p2, p3⟩ := Vd.run_mapM_places (P := P) w hfo
 obtain ⟨q1, q2⟩ := partsStruct_some hl
 have hfill := fill_sound (g := g) (l := l.map fun p => (p.1, p.2.1, p.2.2.ev s)) (ps := (parts.map fun (i, x) => (i, a.eval x)).toList) (zs := zs) (cs := cs) (zv := vs.toArray) (place := fun i => pl.toArray[i]?)
  (by simpa using rz) (by simp [q1]) (fun j x p hx hp => ?_) hcs
 ·obtain ⟨cv, f1, f2⟩ := hfill
  refine ⟨.agg cv, ?_, ?_⟩
  ·have hm : (fields.mapM (m := Sem) fun (f : Field) => do pure (f.offset, ← sizeOf f.type)).run P w = .ok pl.toArray w := by
    rw [Array.mapM_eq_mapM_toList, Sem.run_map, p1]
    rfl
   simp only [execOp, ho, Instr.build, zeroValue, typeInfo, Sem.run_bind, run_program, Result.andThen_ok, hinf, hzv, Sem.run_pure, run_underlying hu, hm, Value.cells, f1]
  ·have := Rep.aggOf f2
   rwa [Array.toArray_toList] at this
 ·rw [List.getElem?_map, Option.map_eq_some_iff] at hx
  obtain ⟨x', hx', rfl⟩ := hx
  rw [Array.toList_map, List.getElem?_map, Option.map_eq_some_iff] at hp
  obtain ⟨p', hp', rfl⟩ := hp
  obtain ⟨f, r1, r2, r3, r4⟩ := q2 j x' p' hx' hp'
  refine ⟨?_, h.slots.arg r4⟩
  have := p3 p'.1 f x'.2.1 (by simpa using r1) r2
  simp only [List.getElem?_toArray]
  rw [this, r3]
theorem does_buildA {t e : TypeId} {len sz : Nat} {parts : Array (Nat × Operand)} {o : Oper} {zs : List D} {l : List (Nat × Nat × Arg)} (h : At P B w0 w m g n n' s a) (hu : P.underlying t = some (.array len e))
  (hs : Vd.szOf P e = some sz) (hz : zeroOf P t = some (.agg zs)) (hl : partsArray sz parts.toList = some l) (ho : o.op = .build t parts) (he : exec s m n (.build zs l) = some (d, u, n')) :
  Does P B w0 g n w (Upd.app m u) d n' (execOp a.eval o) := by
 simp only [exec] at he
 refine .pureM h.inv he (fun cs hcs => ?_)
 obtain ⟨inf, zv, hinf, hzv, hr, _⟩ := zeroOf_some hz g
 obtain ⟨vs, rfl, rz⟩ := Reps.ofAgg hr
 obtain ⟨q1, q2⟩ := partsArray_some hl
 have hfill := fill_sound (g := g) (l := l.map fun p => (p.1, p.2.1, p.2.2.ev s)) (ps := (parts.map fun (i, x) => (i, a.eval x)).toList) (zs := zs) (cs := cs) (zv := vs.toArray) (place := fun i => some (i * sz, sz))
  (by simpa using rz) (by simp [q1]) (fun j x p hx hp => ?_) hcs
 ·obtain ⟨cv, f1, f2⟩ := hfill
  refine ⟨.agg cv, ?_, ?_⟩
  ·simp only [execOp, ho, Instr.build, zeroValue, typeInfo, Sem.run_bind, run_program, Result.andThen_ok, hinf, hzv, Sem.run_pure, run_underlying hu, Vd.run_sizeOf' hs, Value.cells, f1]
  ·have := Rep.aggOf f2
   rwa [Array.toArray_toList] at this
 ·rw [List.getElem?_map, Option.map_eq_some_iff] at hx
  obtain ⟨x', hx', rfl⟩ := hx
  rw [Array.toList_map, List.getElem?_map, Option.map_eq_some_iff] at hp
  obtain ⟨p', hp', rfl⟩ := hp
  obtain ⟨r1, r2, r4⟩ := q2 j x' p' hx' hp'
  exact ⟨by simp [r1, r2], h.slots.arg r4⟩
theorem Reps.flat {sz : Nat} : ∀ {xs : List D} {vs : List Value}, (∀ d ∈ xs, d.data = true ∧ d.cells.length = sz) → vs.length = xs.length → (∀ (j : Nat) d v, xs[j]? = some d → vs[j]? = some v → Rep g d v) →
  Reps g (xs.flatMap D.cells) (vs.flatMap fun v => v.cells.toList) ∧ (xs.flatMap D.cells).length = xs.length * sz
 | [], vs, _, hl, _ => by
  have : vs = [] := List.eq_nil_of_length_eq_zero (by simpa using hl)
  subst this
  exact ⟨Reps.nil g, by simp⟩
 | x :: r, [], _, hl, _ => by cases hl
 | x :: r, v :: vs, h, hl, hr => by
  have h0 := hr 0 x v rfl rfl
  obtain ⟨i1, i2⟩ := Reps.flat (fun d hd => h d (List.mem_cons_of_mem _ hd)) (by simpa using hl) (fun j d u hd hu => hr (j + 1) d u (by simpa using hd) (by simpa using hu))
  simp only [List.flatMap_cons]
  refine ⟨Reps.append (h0.cells (h x (List.mem_cons_self ..)).1) i1, ?_⟩
  rw [List.length_append, i2, (h x (List.mem_cons_self ..)).2, List.length_cons, Nat.succ_mul, Nat.add_comm]
theorem ObOk.row {e sz bytes c : Nat} {cs : List D} {cur : Array Value} {fz : Nat × Nat} (he : Vd.elemOf P e = some (sz, bytes)) (hc : c ≤ maxLen) (hcur : cur.size = c * sz) (hf : Soft fz cur.size) (hl : cs.length ≤ cur.size) (hr : Reps g cs (cur.toList.take cs.length)) :
  ObOk P g (some c) (.cells cs (.row e)) (some (.cells cur e fz)) := by
 obtain ⟨hpos, ti, z, hi, hsize, hz, hzs, hby⟩ := Vd.elemOf_some he
 refine ⟨cur, e, fz, rfl, hf, hl, hr, fun t ht => ?_, fun _ h => (nomatch h)⟩
 cases ht
 exact ⟨rfl, ti, z, c, hi, by omega, hz, by omega, rfl, hc, by rw [hcur, hsize]⟩
theorem does_bslice {t e : TypeId} {parts : Array (Nat × Operand)} {len : Nat} {o : Oper} {sz bytes : Nat} {l : List Arg} (h : At P B w0 w m g n n' s a) (hu : P.underlying t = some (.slice e)) (he : Vd.elemOf P e = some (sz, bytes))
  (hl : trArgs (parts.toList.map (·.2)) = some l) (hrange : parts.toList.map (·.1) = List.range len) (hbig : len * sz ≤ 2 ^ 24) (ho : o.op = .buildSlice t len parts)
  (hx : exec s m n (.bslice e sz l) = some (d, u, n')) : Does P B w0 g n w (Upd.app m u) d n' (execOp a.eval o) := by
 obtain ⟨hpos, ti, z, hi, hsize, hz, hzs, hby⟩ := Vd.elemOf_some he
 simp only [exec] at hx
 split at hx
 ·rename_i hall
  simp only [Option.some.injEq, Prod.mk.injEq] at hx
  obtain ⟨rfl, rfl, rfl⟩ := hx
  have hall' : ∀ p ∈ l, (p.ev s).data = true ∧ (p.ev s).cells.length = sz := by
   intro p hp
   have := List.all_eq_true.1 hall p hp
   simp only [Bool.and_eq_true, beq_iff_eq] at this
   exact this
  obtain ⟨hlen, hget⟩ := trArgs_get hl
  have hlen' : parts.toList.length = len := by have := congrArg List.length hrange; simpa using this
  simp only [List.length_map] at hlen
  have hll : l.length = len := by omega
  have hrep : ∀ (j : Nat) d v, (l.map fun p => p.ev s)[j]? = some d → (parts.toList.map fun p => a.eval p.2)[j]? = some v → Rep g d v := by
   intro j d v hd hv
   rw [List.getElem?_map, Option.map_eq_some_iff] at hd hv
   obtain ⟨y, hy, rfl⟩ := hd
   obtain ⟨p, hp, rfl⟩ := hv
   exact h.slots.arg (hget j p.2 y (by rw [List.getElem?_map, hp]; rfl) hy)
  obtain ⟨hreps, hfl⟩ := Reps.flat (g := g) (sz := sz) (xs := l.map fun p => p.ev s) (vs := parts.toList.map fun p => a.eval p.2) (fun d hd => by
   rw [List.mem_map] at hd
   obtain ⟨y, hy, rfl⟩ := hd
   exact hall' y hy) (by simp; omega) hrep
  have hcsz : ∀ p ∈ (parts.map fun (i, x) => (i, a.eval x)).toList, p.2.cells.size = sz := by
   intro p hp
   rw [Array.toList_map, List.mem_map] at hp
   obtain ⟨q, hq, rfl⟩ := hp
   obtain ⟨j, hj, hjq⟩ := List.getElem_of_mem hq
   have hy : l[j]? = some (l[j]'(by omega)) := List.getElem?_eq_getElem _
   have hr := h.slots.arg (hget j q.2 _ (by rw [List.getElem?_map, List.getElem?_eq_getElem hj, hjq]; rfl) hy)
   have hd := hall' _ (List.getElem_mem (by omega : j < l.length))
   have := (hr.cells hd.1).1
   simp at this ⊢
   omega
  let row : Array Value := (Array.range (len * sz)).map (z.cells[· % z.cells.size]!)
  have hrow : row.size = (0 + (parts.map fun (i, x) => (i, a.eval x)).toList.length) * sz := by
   have : parts.size = len := by simpa using hlen'
   simp [row, this]
  obtain ⟨cv, f1, f2⟩ := Vd.fill_row hpos (ps := (parts.map fun (i, x) => (i, a.eval x)).toList) (k := 0) (cs := row) (by
   rw [← List.range_eq_range']
   simp only [Array.toList_map, List.map_map, List.length_map, hlen']
   rw [← hrange]
   apply List.map_congr_left
   intro p _; rfl) hcsz hrow
  have hcv : cv.toList = (parts.toList.map fun p => a.eval p.2).flatMap fun v => v.cells.toList := by
   rw [f2]
   simp [List.flatMap_map]
  have hfm : (l.flatMap fun p => (p.ev s).cells) = (l.map fun p => p.ev s).flatMap D.cells := by rw [List.flatMap_map]
  have hcvs : cv.size = len * sz := by
   have := hreps.1
   rw [← hcv, hfl] at this
   simp only [Array.length_toList, List.length_map] at this
   rw [this, hll]
  have hml : len ≤ maxLen := by
   have : len * 1 ≤ len * sz := Nat.mul_le_mul_left _ hpos
   unfold maxLen; omega
  refine ⟨.slice (some ⟨w.heap.size, 0, none⟩) len len, w.alloc (.cells cv e), g.add n w.heap.size (some len), .value (.slice (some ⟨w.heap.size, 0, none⟩) len len), ?_, .inl rfl, ?_⟩
  ·have hnb : ¬ (len * sz > 2 ^ 24) := by omega
   have hs' : Vd.szOf P e = some sz := by simp [Vd.szOf, hi, hsize]
   by_cases h0 : len * sz = 0
   ·have hr0 : (Array.range 0).map ((#[] : Array Value)[· % (#[] : Array Value).size]!) = row := by simp [row, h0]
    simp only [execOp, ho, Instr.buildSlice, Sem.run_bind, run_underlying hu, Result.andThen_ok, Vd.run_sizeOf' hs', show ¬ ((0 : Nat) > 2 ^ 24) from by omega, if_false, h0, if_true, Sem.run_pure, hr0, f1, Vd.run_newRow]
   ·simp only [execOp, ho, Instr.buildSlice, Sem.run_bind, run_underlying hu, Result.andThen_ok, Vd.run_sizeOf' hs', hnb, if_false, h0, Sem.run_pure, zeroValue, typeInfo, run_program, hi, hz]
    change (Sem.run P (match Instr.fill (fun i => some (i * sz, sz)) row (parts.map fun (i, x) => (i, a.eval x)).toList with | some cells => _ | _ => _) w).andThen _ = _
    rw [f1]
    simp only [Sem.run_bind, Vd.run_newRow, Result.andThen_ok, Sem.run_pure]
  ·refine step_new h.inv (h.fresh n (Nat.le_refl _) (by omega)) (some len) ?_ (by rw [hll]; exact .rsl n 0 len _ len _ Gm.add_same (Nat.le_refl _) (fun k hk _ => by simpa using hk))
   rw [hfm]
   refine ObOk.row he hml hcvs (Soft.zero _) (by rw [hfl, hcvs, List.length_map, hll]; omega) ?_
   rw [hcv, List.take_of_length_le (by rw [hreps.1]; omega)]
   exact hreps
 ·cases hx
theorem Below.setRow {B b : Nat} {w : World} {cs : Array Value} (h : B ≤ b) : Below B w (w.setRow b cs) :=
 ⟨rfl, rfl, rfl, by simp, fun k hk => setRow_other w b k cs (by omega)⟩
theorem run_storeCells_soft (P : Program) (g o : Nat) (t : TypeId) (fz : Nat × Nat) : ∀ (vs : List Value) (i : Nat) (cur : Array Value) (w : World), w.heap[g]? = some (.cells cur t fz) → Soft fz cur.size → o + i + vs.length ≤ cur.size → (∀ v ∈ vs, v.oneCell' = true) →
  (storeCells ⟨g, o, none⟩ vs i).run P w = .ok () (w.setRow g (cur.toList.take (o + i) ++ vs ++ cur.toList.drop (o + i + vs.length)).toArray)
 | [], i, cur, w, hg, _, _, _ => by
  simp only [storeCells, List.append_nil, List.length_nil, Nat.add_zero, List.take_append_drop, Array.toArray_toList]
  rw [setRow_self w g cur t fz hg]
  rfl
 | v :: rest, i, cur, w, hg, hfz, hl, h1 => by
  have hi : o + i < cur.size := by simp at hl; omega
  have hadd : (⟨g, o, none⟩ : Addr).add i = ⟨g, o + i, none⟩ := by unfold Addr.add; split <;> simp_all
  have hcell : w.cell? ⟨g, o + i, none⟩ = some cur[o + i] := by simp [World.cell?, hg, hi]
  have hfro : w.frozen? ⟨g, o + i, none⟩ = false := by
   obtain ⟨lo, hi'⟩ := fz
   simp only [World.frozen?, hg, Bool.and_eq_false_iff, decide_eq_false_iff_not]
   unfold Soft at hfz
   simp only at hfz
   omega
  have hst : (store ((⟨g, o, none⟩ : Addr).add i) v).run P w = .ok () (w.setRow g (cur.setIfInBounds (o + i) v)) := by
   rw [hadd, run_store P w _ v _ (h1 v (by simp)), hcell]
   simp [hfro, setCell_eq_setRow w g (o + i) cur t fz v hg]
  have ih := run_storeCells_soft P g o t fz rest (i + 1) (cur.setIfInBounds (o + i) v) (w.setRow g (cur.setIfInBounds (o + i) v)) (setRow_heap w g cur _ t _ hg) (by simpa using hfz) (by simp at hl ⊢; omega) (fun x hx => h1 x (by simp [hx]))
  simp only [storeCells, Sem.run_bind, hst, Result.andThen_ok, ih, setRow_setRow]
  congr 3
  have e := list_seg_step cur.toList (o + i) v rest (by simp at hl ⊢; omega)
  simpa [Array.toList_setIfInBounds, Nat.add_assoc] using e
theorem step_store (hi : Inv P B w0 m w g) {i b o : Nat} {C : Option Nat} {cs ds : List D} {e : Kd} (hm : m i = some (.cells cs e)) (hb : g i = some (b, C)) {us : List Value} (hr : Reps g ds us) (ho : o + ds.length ≤ cs.length)
  {vs : Array Value} {T : TypeId} {fz : Nat × Nat} (hh : w.heap[b]? = some (.cells vs T fz)) {d : D} {v : Value} (hd : Rep g d v) :
  Step P B w0 g n (m.put i (some (.cells (putAt cs o ds) e))) d n v (w.setRow b (vs.toList.take o ++ us ++ vs.toList.drop (o + us.length)).toArray) g := by
 obtain ⟨hB, vs', T', fz', hh', hsf, hl, hrp, hg, hC⟩ := hi.cells hm hb
 rw [hh] at hh'
 simp only [Option.some.injEq, Obj.cells.injEq] at hh'
 obtain ⟨rfl, rfl, rfl⟩ := hh'
 have hlen : us.length = ds.length := hr.1
 have hsz : (vs.toList.take o ++ us ++ vs.toList.drop (o + us.length)).toArray.size = vs.size := by simp; omega
 refine ⟨hi.upd (b := b) (C := C) (by rw [hm]; simp) hb (Below.setRow hB) (by simp) (fun k hk => setRow_other w b k _ hk) ?_, Gm.le.refl g, fun _ _ => rfl, hd⟩
 rw [setRow_heap w b vs _ T fz hh]
 have hpl : (putAt cs o ds).length = cs.length := by unfold putAt; simp; omega
 refine ⟨_, T, fz, rfl, by rw [hsz]; exact hsf, by rw [hpl, hsz]; exact hl, ?_, fun t ht => ?_, fun t ht => by obtain ⟨q1, q2, q3⟩ := hC t ht; exact ⟨q1, q2, by rw [hsz, hpl]; exact q3⟩⟩
 ·have key : Reps g (putAt cs o ds) ((vs.toList.take cs.length).take o ++ us ++ (vs.toList.take cs.length).drop (o + us.length)) := reps_put hrp hr o
  have e1 : (vs.toList.take cs.length).take o = vs.toList.take o := by rw [List.take_take]; congr 1; omega
  have e2 : (vs.toList.take cs.length).drop (o + us.length) = (vs.toList.drop (o + us.length)).take (cs.length - (o + us.length)) := by rw [List.drop_take]
  rw [e1, e2] at key
  rw [hpl]
  have e3 : (vs.toList.take o ++ us ++ vs.toList.drop (o + us.length)).take cs.length = vs.toList.take o ++ us ++ (vs.toList.drop (o + us.length)).take (cs.length - (o + us.length)) := by
   rw [List.take_append]
   have : (vs.toList.take o ++ us).length = o + us.length := by simp; omega
   rw [this, List.take_of_length_le (by omega)]
  simp only [List.toList_toArray] at *
  rw [e3]; exact key
 ·rw [hsz]; exact hg t ht
theorem does_store {t : TypeId} {o : Oper} {x v : Operand} {y z : Arg} {k : Nat} (h : At P B w0 w m g n n' s a) (hn : Vd.szOf P t = some k) (hx : trArg x = some y) (hv : trArg v = some z) (ho : o.op = .store t x v)
  (he : exec s m n (.store k y z) = some (d, u, n')) : Does P B w0 g n w (Upd.app m u) d n' (execOp a.eval o) := by
 have hr := h.slots.arg hx
 have hrv := h.slots.arg hv
 simp only [exec] at he
 split at he
 ·rename_i i o' e
  rw [e] at hr
  obtain ⟨b, C, e1, hb⟩ := hr.ptr_inv
  split at he
  ·rename_i cs ee hm
   split at he
   ·rename_i hc
    obtain ⟨c1, c2, c3⟩ := hc
    simp only [Option.some.injEq, Prod.mk.injEq] at he
    obtain ⟨rfl, rfl, rfl⟩ := he
    obtain ⟨hB, vs, T, fz, hh, hsf, hl, hrp, _⟩ := h.inv.cells hm hb
    have hcells := hrv.cells c1
    have hsz : (a.eval v).cells.size = k := by have := hcells.1; simp at this; omega
    refine ⟨undef, _, g, .skip, ?_, .inr ⟨rfl, rfl⟩, step_store h.inv hm hb hcells (by omega) hh (.junk _)⟩
    have := run_storeCells_soft P b o' T fz (a.eval v).cells.toList 0 vs w hh hsf (by simp [hsz]; omega) hcells.2.1
    simp only [Nat.add_zero] at this
    have hst : (storeVar t ⟨b, o', none⟩ (a.eval v)).run P w = .ok () (w.setRow b (vs.toList.take o' ++ (a.eval v).cells.toList ++ vs.toList.drop (o' + (a.eval v).cells.toList.length)).toArray) := by
     unfold storeVar
     simp only [Sem.run_bind, Vd.run_sizeOf' hn, Result.andThen_ok]
     rw [if_neg (by simp [hsz])]
     exact this
    simp only [execOp, ho, Instr.storeAt, e1, Instr.sureAddr, Sem.run_bind, Result.andThen_ok, Sem.run_pure, hst]
   ·cases he
  ·cases he
 ·cases he
end
end Go.Ve

namespace Go.Ve
open Go.RowKit
set_option linter.unusedSimpArgs false
set_option linter.unusedVariables false
section
variable {P : Program} {B : Nat} {w0 w : World} {m : Mem} {g : Gm} {n n' : Nat} {s : Nat → D} {a : Act} {d : D} {u : Upd}
theorem slCells_sound (hi : Inv P B w0 m w g) {y : D} {v : Value} {sz k : Nat} {ws : List D} (hr : Rep g y v) (h : slCells m sz y = some (k, ws)) :
  ∃ us, Vd.Src P w sz v k us ∧ Reps g ws us := by
 unfold slCells at h
 split at h
 ·rename_i i o c
  obtain ⟨b, cc, C, rfl, hb, hle, _⟩ := hr.rsl_inv
  split at h
  ·rename_i cs e hm
   split at h
   ·rename_i hk
    simp only [Option.some.injEq, Prod.mk.injEq] at h
    obtain ⟨rfl, rfl⟩ := h
    obtain ⟨_, vs, T, fz, hh, _, hl, hrp, _⟩ := hi.cells hm hb
    obtain ⟨r1, r2, r3⟩ := cells_at hh hl hrp hk
    exact ⟨_, Vd.Src.slice r2 (fun j u hu => by rw [Vd.mk_add]; exact r3 j u hu), r1⟩
   ·cases h
  ·cases h
 ·simp only [Option.some.injEq, Prod.mk.injEq] at h
  obtain ⟨rfl, rfl⟩ := h
  obtain ⟨ad, c, rfl⟩ := hr.esl_inv
  exact ⟨[], Vd.Src.slice (by simp) (by simp), Reps.nil g⟩
 ·simp only [Option.some.injEq, Prod.mk.injEq] at h
  obtain ⟨rfl, rfl⟩ := h
  obtain ⟨ad, rfl⟩ := hr.esl0_inv
  exact ⟨[], Vd.Src.slice (by simp) (by simp), Reps.nil g⟩
 ·simp only [Option.some.injEq, Prod.mk.injEq] at h
  obtain ⟨rfl, rfl⟩ := h
  rw [hr.nils_inv]
  exact ⟨[], Vd.Src.nil, Reps.nil g⟩
 ·cases h
theorem reps_bytes (b : List UInt8) : Reps g (bytesD b) (b.map fun c => Value.int .u8 c.toNat) := by
 refine ⟨by simp [bytesD], fun v hv => ?_, fun j d v hd hv => ?_⟩
 ·simp only [List.mem_map] at hv
  obtain ⟨c, _, rfl⟩ := hv; rfl
 ·simp only [bytesD, List.getElem?_map, Option.map_eq_some_iff] at hd hv
  obtain ⟨c, hc, rfl⟩ := hd
  obtain ⟨c', hc', rfl⟩ := hv
  rw [hc] at hc'; simp only [Option.some.injEq] at hc'; subst hc'
  exact .int _ _
theorem appSrc_sound (hi : Inv P B w0 m w g) {y : D} {v : Value} {sz k : Nat} {ws : List D} (hr : Rep g y v) (h : appSrc m sz y = some (k, ws)) :
  ∃ us, Vd.Src P w sz v k us ∧ Reps g ws us := by
 unfold appSrc at h
 split at h
 ·rename_i b
  split at h
  ·rename_i h1; subst h1
   simp only [Option.some.injEq, Prod.mk.injEq] at h
   obtain ⟨rfl, rfl⟩ := h
   rw [hr.str_inv]
   have hsz : (ByteArray.mk b.toArray).size = b.length := by simp [ByteArray.size]
   refine ⟨Lib.strCells ⟨b.toArray⟩, hsz ▸ Vd.Src.string _, ?_⟩
   exact reps_bytes b
  ·cases h
 ·exact slCells_sound hi hr h
theorem run_app_room {t ty e : TypeId} {i : TypeInfo} (ht : P.underlying t = some (.slice e)) (hi : P.info? e = some i)
  {b sLen sCap : Nat} {cur : Array Value} {fz : Nat × Nat} (hg : w.heap[b]? = some (.cells cur e fz)) (hsf : Soft fz cur.size) {y : Value} {k : Nat} {ws : List Value} (hs : Vd.Src P w i.size y k ws) (h1 : ∀ u ∈ ws, u.oneCell' = true)
  (hroom : sLen + k ≤ sCap) (hfit : sLen * i.size + ws.length ≤ cur.size) :
  (Builtin.append_ #[t, t] ty #[.slice (some ⟨b, 0, none⟩) sLen sCap, y]).run P w =
   .ok (.slice (some ⟨b, 0, none⟩) (sLen + k) sCap) (w.setRow b (cur.toList.take (sLen * i.size) ++ ws ++ cur.toList.drop (sLen * i.size + ws.length)).toArray) := by
 have hf := hs.cells
 have hl := hs.len
 have hst := run_storeCells_soft P b (sLen * i.size) e fz ws 0 cur w hg hsf (by simpa using hfit) h1
 simp only [Nat.add_zero] at hst
 simp [Builtin.append_, run_underlying ht, sizeOf, typeInfo, hi, hl, hroom, hf, Addr.add_lit, hst]
theorem run_app_empty {t ty e : TypeId} {i : TypeInfo} (ht : P.underlying t = some (.slice e)) (hi : P.info? e = some i) {ad : Option Addr} {sLen sCap : Nat} (hc : sLen ≤ sCap) {y : Value} {ws : List Value} (hs : Vd.Src P w i.size y 0 ws) :
  (Builtin.append_ #[t, t] ty #[.slice ad sLen sCap, y]).run P w = .ok (.slice ad sLen sCap) w := by
 have hf := hs.cells
 have hl := hs.len
 have hw : ws = [] := List.eq_nil_of_length_eq_zero (by rw [hs.wl]; simp)
 subst hw
 cases ad <;> simp [Builtin.append_, run_underlying ht, sizeOf, typeInfo, hi, hl, hf, hc, storeCells]
theorem run_app_new {t ty e : TypeId} {i : TypeInfo} {z : Value} (ht : P.underlying t = some (.slice e)) (hi : P.info? e = some i) (hz : i.zero = some z) {ad : Option Addr}
  {y : Value} {k : Nat} {ws : List Value} (hs : Vd.Src P w i.size y k ws) (h0 : 0 < k) (h63 : (k : Int) ≤ 9223372036854775807) (h48 : k * i.bytes ≤ 281474976710656) :
  (Builtin.append_ #[t, t] ty #[.slice ad 0 0, y]).run P w =
   .ok (.slice (some ⟨w.heap.size, 0, none⟩) k (grownCap w k 0 e)) (w.drew.alloc (.cells (ws.toArray ++ Builtin.zeroCells z.cells (grownCap w k 0 e - k)) e)) := by
 have hn : k ≠ 0 := by omega
 have h63' : ¬ (9223372036854775807 < (k : Int)) := by omega
 have h48' : ¬ (281474976710656 < Builtin.nextslicecap k 0 * i.bytes) := by rw [nextslicecap_zero h0]; omega
 have hf := hs.drew
 have hl := hs.len
 cases ad with
 | none => simp [Builtin.append_, run_underlying ht, sizeOf, typeInfo, zeroValue, hi, hz, hl, hn, h63', h48', Question.forced, run_firstCells_none, hf, newRow, grownCap]
 | some ad =>
  have hfo := run_firstCells_some (P := P) w.drew i.size 0 ad 0 0 [] (by simp) (by simp)
  simp [Builtin.append_, run_underlying ht, sizeOf, typeInfo, zeroValue, hi, hz, hl, hn, h63', h48', Question.forced, hfo, hf, newRow, grownCap]
theorem does_app {t t2 e : TypeId} {o : Oper} {x y : Operand} {p q : Arg} {sz bytes : Nat} (h : At P B w0 w m g n n' s a) (hu : P.underlying t = some (.slice e)) (he : Vd.elemOf P e = some (sz, bytes))
  (hx : trArg x = some p) (hy : trArg y = some q) (ho : o.op = .call { callee := .builtin .append, args := #[x, y], argTypes := #[t, t2] }) (ht2 : (∃ e2, P.underlying t2 = some (.slice e2)) ∨ P.underlying t2 = some .string)
  (hex : exec s m n (.app e sz bytes p q) = some (d, u, n')) : Does P B w0 g n w (Upd.app m u) d n' (execOp a.eval o) := by
 obtain ⟨hpos, ti, z, hi, hsize, hz, hzs, hby⟩ := Vd.elemOf_some he
 have hrx := h.slots.arg hx
 have hry := h.slots.arg hy
 have htype : ∀ x y, (Builtin.append_ #[t, t2] o.type #[x, y]).run P w = (Builtin.append_ #[t, t] o.type #[x, y]).run P w := by
  intro x y
  rcases ht2 with ⟨e2, ht2⟩ | ht2
  ·cases x <;> simp [Builtin.append_, run_underlying hu, run_underlying ht2, sizeOf]
  ·exact Vd.run_app_type hu ht2 x y
 have hrun : ∀ v' w', (Builtin.append_ #[t, t] o.type #[a.eval x, a.eval y]).run P w = .ok v' w' → (execOp a.eval o).run P w = .ok (.value v') w' := by
  intro v' w' e1
  rw [← htype] at e1
  simp only [execOp, ho, resolve, invoke, builtin, Sem.run_bind, Sem.run_pure, Result.andThen_ok, List.map_toArray, List.map_cons, List.map_nil, e1]
 simp only [exec] at hex
 split at hex
 ·rename_i k ws ey
  obtain ⟨us, hsrc, hrep⟩ := appSrc_sound h.inv hry ey
  have hsrc' : Vd.Src P w ti.size (a.eval y) k us := by rw [hsize]; exact hsrc
  have hul : us.length = k * sz := hsrc.wl
  split at hex
  ·rename_i hk0
   subst hk0
   have go : ∀ ad c cc, a.eval x = .slice ad c cc → c ≤ cc → some (p.ev s, ([] : Upd), n) = some (d, u, n') → Does P B w0 g n w (Upd.app m u) d n' (execOp a.eval o) := by
    intro ad c cc e1 hc e2
    refine .pureE h.inv (hrun _ _ ?_) hrx e2
    rw [e1]; exact run_app_empty hu hi hc hsrc'
   split at hex
   ·rename_i ex; have hr := hrx; rw [ex] at hr; exact go _ _ _ hr.nils_inv (Nat.le_refl _) hex
   ·rename_i ex; have hr := hrx; rw [ex] at hr; obtain ⟨ad, c, e1⟩ := hr.esl_inv; exact go _ _ _ e1 (Nat.zero_le _) hex
   ·rename_i ex; have hr := hrx; rw [ex] at hr; obtain ⟨ad, e1⟩ := hr.esl0_inv; exact go _ _ _ e1 (Nat.le_refl _) hex
   ·rename_i i o' c ex; have hr := hrx; rw [ex] at hr; obtain ⟨b, cc, C, e1, _, hc, _⟩ := hr.rsl_inv; exact go _ _ _ e1 hc hex
   ·cases hex
  ·rename_i hk0
   have onto : ∀ ad, a.eval x = .slice ad 0 0 → (if k * (bytes + 1) ≤ 140737488355328 then some (D.rsl n 0 k, [(n, some (Ob.cells ws (.row e)))], n + 1) else none) = some (d, u, n') → Does P B w0 g n w (Upd.app m u) d n' (execOp a.eval o) := by
    intro ad e1 hex
    split at hex
    ·rename_i hbd
     simp only [Option.some.injEq, Prod.mk.injEq] at hex
     obtain ⟨rfl, rfl, rfl⟩ := hex
     have hbd' : k ≤ 140737488355328 := by
      have : k * 1 ≤ k * (bytes + 1) := Nat.mul_le_mul_left _ (by omega)
      omega
     have hbb : k * bytes ≤ 140737488355328 := by
      have : k * bytes ≤ k * (bytes + 1) := Nat.mul_le_mul_left _ (by omega)
      omega
     have hr := run_app_new (P := P) (ty := o.type) hu hi hz (ad := ad) hsrc' (by omega) (by omega) (by rw [hby]; omega)
     have hge := grownCap_ge w k 0 e
     have hcm : grownCap w k 0 e ≤ maxLen := grownCap_le_maxLen w k 0 e (by unfold maxLen; omega)
     have hsz2 : (us.toArray ++ Builtin.zeroCells z.cells (grownCap w k 0 e - k)).size = grownCap w k 0 e * sz := by
      simp only [Array.size_append, List.size_toArray, size_zeroCells, hzs, hul, ← Nat.add_mul]
      congr 1; omega
     have hwl : ws.length = us.length := hrep.1.symm
     refine ⟨_, _, g.add n w.heap.size (some (grownCap w k 0 e)), _, hrun _ _ (by rw [e1]; exact hr), .inl rfl, ?_⟩
     refine step_new (w := w.drew) h.inv.drew (h.fresh n (Nat.le_refl _) (by omega)) _ (ObOk.row he hcm hsz2 (Soft.zero _) (by rw [hwl]; simp) ?_) (.rsl n 0 k _ _ _ Gm.add_same hge (fun c hc _ => by simpa using hc))
     have : (us.toArray ++ Builtin.zeroCells z.cells (grownCap w k 0 e - k)).toList.take ws.length = us := by
      rw [Array.toList_append, List.take_append_of_le_length (by simp; omega), List.take_of_length_le (by simp; omega)]
     rw [this]; exact hrep
    ·cases hex
   split at hex
   ·rename_i ex; have hr := hrx; rw [ex] at hr; exact onto _ hr.nils_inv hex
   ·rename_i ex; have hr := hrx; rw [ex] at hr; obtain ⟨ad, e1⟩ := hr.esl0_inv; exact onto _ e1 hex
   ·rename_i i c ex
    rw [ex] at hrx
    obtain ⟨b, cc, C, e1, hb, hcc, hC⟩ := hrx.rsl_inv
    split at hex
    ·rename_i cs e' hm
     split at hex
     ·rename_i hc
      obtain ⟨rfl, hbd, hcs⟩ := hc
      simp only [Option.some.injEq, Prod.mk.injEq] at hex
      obtain ⟨rfl, rfl, rfl⟩ := hex
      obtain ⟨hB, cur, T, fz, hh, hsf, hl, hrp, hgr, _⟩ := h.inv.cells hm hb
      obtain ⟨rfl, ti', z', c0, i1, i2, i3, i4, i5, i6, i7⟩ := hgr _ rfl
      rw [hi] at i1
      simp only [Option.some.injEq] at i1; subst i1
      have hc0 : cc = c0 := hC _ i5 rfl
      subst hc0
      have hbd' : c + k ≤ 140737488355328 := by
       have : (c + k) * 1 ≤ (c + k) * (bytes + 1) := Nat.mul_le_mul_left _ (by omega)
       omega
      have hbb : (c + k) * bytes ≤ 140737488355328 := by
       have : (c + k) * bytes ≤ (c + k) * (bytes + 1) := Nat.mul_le_mul_left _ (by omega)
       omega
      have hfr := h.fresh n (Nat.le_refl _) (by omega)
      have holds : Reps g (cs.take (c * sz)) (cur.toList.take (c * sz)) := by
       have := hrp.take (c * sz)
       rwa [List.take_take, show min (c * sz) cs.length = c * sz by omega] at this
      have hreps : Reps g (cs.take (c * sz) ++ ws) (cur.toList.take (c * sz) ++ us) := Reps.append holds hrep
      have hrl := hreps.1
      have hcl : (cur.toList.take (c * sz)).length = c * sz := by rw [List.length_take]; simp; omega
      by_cases hroom : c + k ≤ cc
      ·have hfit : c * ti.size + us.length ≤ cur.size := by rw [hul, hsize, i7, hsize, ← Nat.add_mul]; exact Nat.mul_le_mul_right _ hroom
       have hr := run_app_room (P := P) (ty := o.type) hu hi hh hsf hsrc' hrep.2.1 hroom hfit
       rw [hsize] at hr hfit
       refine ⟨_, _, g.add n b C, _, hrun _ _ (by rw [e1]; exact hr), .inl rfl, ⟨h.inv.move (i := i) (j := n) (b := b) (by rw [hm]; simp) hb hfr.1 hfr.2 (Below.setRow hB) (by simp) (fun k hk => setRow_other w b k _ hk) ?_, Gm.add_le hfr.2, fun j hj => Gm.add_other (by omega), ?_⟩⟩
       ·rw [setRow_heap w b cur _ T fz hh]
        have hsz' : (cur.toList.take (c * sz) ++ us ++ cur.toList.drop (c * sz + us.length)).toArray.size = cur.size := by simp; omega
        rw [i5]
        refine ObOk.row he i6 (by rw [hsz', i7, hsize]) (by rw [hsz']; exact hsf) (by rw [hsz', ← hrl]; simp; omega) ?_
        rw [List.toList_toArray, ← hrl, List.take_left]
        exact hreps
       ·exact .rsl n 0 (c + k) b cc C Gm.add_same hroom (fun c1 h1 h2 => hC c1 h1 h2)
      ·have hcc63 : (cur.toList.take (c * sz)).length = c * ti.size := by rw [hcl, hsize]
       have hr := Vd.run_app_grow (P := P) (w := w) (ty := o.type) hu hi hz (b := ⟨b, 0, none⟩) (sLen := c) (sCap := cc) (olds := cur.toList.take (c * sz)) hcc63 (fun j v hv => by
        rw [Vd.mk_add, Nat.zero_add, cell_row hh]
        have hj : j < c * sz := by
         rcases Nat.lt_or_ge j (c * sz) with h1 | h1
         ·exact h1
         ·rw [List.getElem?_eq_none (by simp; omega)] at hv; cases hv
        rw [List.getElem?_take_of_lt hj] at hv
        simpa using hv) hsrc' (by omega) (by omega) (growslice_fits (by omega) (by rw [hby]; exact hbb))
       have hge := grownCap_ge w (c + k) cc T
       have hcm : grownCap w (c + k) cc T ≤ maxLen := grownCap_le_maxLen w (c + k) cc T (by unfold maxLen; omega)
       have hsz2 : ((cur.toList.take (c * sz)).toArray ++ us.toArray ++ Builtin.zeroCells z.cells (grownCap w (c + k) cc T - (c + k))).size = grownCap w (c + k) cc T * sz := by
        simp only [Array.size_append, List.size_toArray, size_zeroCells, hzs, hul, hcl, ← Nat.add_mul]
        congr 1; omega
       have hkill : Inv P B w0 (m.put i none) w.drew g := h.inv.drew.less (fun j ob hj => by
        by_cases hji : j = i
        ·subst hji; rw [Mem.put_same] at hj; cases hj
        ·rwa [Mem.put_other hji] at hj)
       have hni : n ≠ i := by rintro rfl; rw [hfr.1] at hm; cases hm
       refine ⟨_, _, g.add n w.heap.size (some (grownCap w (c + k) cc T)), _, hrun _ _ (by rw [e1]; exact hr), .inl rfl, ?_⟩
       refine step_new (w := w.drew) hkill ⟨by rw [Mem.put_other hni]; exact hfr.1, hfr.2⟩ _ (ObOk.row he hcm hsz2 (Soft.zero _) (by rw [← hrl]; simp) ?_) (.rsl n 0 (c + k) _ _ _ Gm.add_same hge (fun c hc _ => by simpa using hc))
       have : ((cur.toList.take (c * sz)).toArray ++ us.toArray ++ Builtin.zeroCells z.cells (grownCap w (c + k) cc T - (c + k))).toList.take (cs.take (c * sz) ++ ws).length = cur.toList.take (c * sz) ++ us := by
        rw [← hrl]
        simp only [Array.toList_append, List.toList_toArray]
        rw [List.take_left]
       rw [this]; exact hreps
     ·cases hex
    ·cases hex
   ·cases hex
 ·cases hex
end
end Go.Ve

namespace Go.Ve
open Go.RowKit
set_option linter.unusedSimpArgs false
set_option linter.unusedVariables false
section
variable {P : Program} {B : Nat} {w0 w : World} {m : Mem} {g : Gm} {n n' : Nat} {s : Nat → D} {a : Act} {d : D} {u : Upd}
theorem does_copy {t t2 e : TypeId} {o : Oper} {x y : Operand} {p q : Arg} {sz : Nat} (h : At P B w0 w m g n n' s a) (hu : P.underlying t = some (.slice e)) (hs : Vd.szOf P e = some sz)
  (hx : trArg x = some p) (hy : trArg y = some q) (ho : o.op = .call { callee := .builtin .copy, args := #[x, y], argTypes := #[t, t2] })
  (hex : exec s m n (.copy sz p q) = some (d, u, n')) : Does P B w0 g n w (Upd.app m u) d n' (execOp a.eval o) := by
 have hrx := h.slots.arg hx
 have hry := h.slots.arg hy
 have hrun : ∀ v' w', (Builtin.copy_ #[t, t2] o.type #[a.eval x, a.eval y]).run P w = .ok v' w' → (execOp a.eval o).run P w = .ok (.value v') w' := by
  intro v' w' e1
  simp only [execOp, ho, resolve, invoke, builtin, Sem.run_bind, Sem.run_pure, Result.andThen_ok, List.map_toArray, List.map_cons, List.map_nil, e1]
 simp only [exec] at hex
 split at hex
 ·rename_i k ws ey
  obtain ⟨us, hsrc, hrep⟩ := appSrc_sound h.inv hry ey
  have hl := hsrc.len
  have hul : us.length = k * sz := hsrc.wl
  -- the first of them
  have hfirst : ∀ j, j ≤ k → (Builtin.firstCells sz j (a.eval y)).run P w = .ok (us.take (j * sz)).toArray w := by
   intro j hj
   unfold appSrc at ey
   split at ey
   ·rename_i b eb
    rw [eb] at hry
    split at ey
    ·rename_i h1; subst h1
     simp only [Option.some.injEq, Prod.mk.injEq] at ey
     obtain ⟨rfl, rfl⟩ := ey
     have hcells := hsrc.cells
     rw [hry.str_inv] at hcells ⊢
     simp only [Builtin.firstCells, Sem.run_pure, Result.ok.injEq, and_true] at hcells ⊢
     have h2 : us = b.map fun c => Value.int .u8 c.toNat := by
      have := congrArg Array.toList hcells
      simp [Vd.bytes_extract, List.take_of_length_le] at this
      exact this.symm
     rw [h2, Vd.bytes_extract, List.drop_zero, Nat.mul_one]
     simp [List.map_take]
    ·cases ey
   ·rename_i dd hnd
    unfold slCells at ey
    split at ey
    ·rename_i i o c hrsl
     rw [hrsl] at hry
     obtain ⟨b, cc, C, e1, hb, hle, _⟩ := hry.rsl_inv
     split at ey
     ·rename_i cs e hm
      split at ey
      ·rename_i hk
       simp only [Option.some.injEq, Prod.mk.injEq] at ey
       obtain ⟨rfl, rfl⟩ := ey
       obtain ⟨_, vs, T, fz, hh, _, hlv, hrp, _⟩ := h.inv.cells hm hb
       obtain ⟨r1, r2, r3⟩ := cells_at hh hlv hrp hk
       have hcells := hsrc.cells
       rw [e1] at hcells ⊢
       have h2 := Vd.Src.slice (P := P) (w := w) (size := sz) (n := c) (c := cc) (ad := ⟨b, o, none⟩) r2 (fun j u hu => by rw [Vd.mk_add]; exact r3 j u hu)
       have h3 := h2.cells
       rw [hcells] at h3
       have h4 : us = (vs.toList.drop o).take (c * sz) := by simpa using congrArg (fun r => match r with | Result.ok x _ => x.toList | _ => []) h3
       have h5 := run_firstCells_some (P := P) w sz j ⟨b, o, none⟩ c cc (us.take (j * sz)) (by rw [List.length_take, hul]; have := Nat.mul_le_mul_right sz hj; omega) (fun q v hv => by
        have hq : q < j * sz := by
         rcases Nat.lt_or_ge q (j * sz) with h1 | h1
         ·exact h1
         ·rw [List.getElem?_eq_none (by simp; omega)] at hv; cases hv
        rw [List.getElem?_take_of_lt hq, h4] at hv
        rw [Vd.mk_add]; exact r3 q v hv)
       exact h5
      ·cases ey
     ·cases ey
    all_goals first | (cases ey; done) | skip
    all_goals
     simp only [Option.some.injEq, Prod.mk.injEq] at ey
     obtain ⟨rfl, rfl⟩ := ey
     obtain rfl : j = 0 := by omega
     have hus : us = [] := List.eq_nil_of_length_eq_zero (by rw [hul]; simp)
     subst hus
     simpa using hsrc.cells
  have zero : ∀ ad cc, a.eval x = .slice ad 0 cc → some (D.int .i64 0, ([] : Upd), n) = some (d, u, n') → Does P B w0 g n w (Upd.app m u) d n' (execOp a.eval o) := by
   intro ad cc e1 e2
   refine .pureE h.inv (hrun (.int .i64 0) w ?_) (.int _ _) e2
   have h0 := hfirst 0 (Nat.zero_le _)
   rw [e1]
   cases ad <;> simp [Builtin.copy_, run_underlying hu, hl, Vd.run_sizeOf' hs, h0, storeCells, goInt]
  split at hex
  ·rename_i i o' c ex
   rw [ex] at hrx
   obtain ⟨b, cc, C, e1, hb, hcc, hC⟩ := hrx.rsl_inv
   split at hex
   ·rename_i cs e' hm
    split at hex
    ·rename_i hk
     simp only [Option.some.injEq, Prod.mk.injEq] at hex
     obtain ⟨rfl, rfl, rfl⟩ := hex
     obtain ⟨hB, cur, T, fz, hh, hsf, hlc, hrp, _⟩ := h.inv.cells hm hb
     have hf := hfirst (min k c) (Nat.min_le_left _ _)
     have htl : (us.take (min k c * sz)).length = min k c * sz := by rw [List.length_take, hul]; have := Nat.mul_le_mul_right sz (Nat.min_le_left k c); omega
     have hst := run_storeCells_soft P b o' T fz (us.take (min k c * sz)) 0 cur w hh hsf (by rw [htl]; omega) (fun v hv => hrep.2.1 v (List.mem_of_mem_take hv))
     simp only [Nat.add_zero] at hst
     refine ⟨.int .i64 (min k c : Nat), _, g, _, hrun _ _ ?_, .inl rfl, step_store h.inv hm hb (hrep.take _) (by have := (hrep.take (min k c * sz)).1; omega) hh (.int _ _)⟩
     rw [e1]
     have hmin : Nat.min k c = min k c := rfl
     simp [Builtin.copy_, run_underlying hu, hl, Vd.run_sizeOf' hs, hmin, hf, hst, goInt]
    ·cases hex
   ·cases hex
  ·rename_i ex; rw [ex] at hrx; exact zero _ _ hrx.nils_inv hex
  ·rename_i ex; rw [ex] at hrx; obtain ⟨ad, cc, e1⟩ := hrx.esl_inv; exact zero _ _ e1 hex
  ·rename_i ex; rw [ex] at hrx; obtain ⟨ad, e1⟩ := hrx.esl0_inv; exact zero _ _ e1 hex
  ·cases hex
 ·cases hex
theorem does_mksl {t e : TypeId} {o : Oper} {x y : Operand} {p q : Arg} {sz bytes : Nat} {z : D} (h : At P B w0 w m g n n' s a) (hu : P.underlying t = some (.slice e)) (he : Vd.elemOf P e = some (sz, bytes))
  (hz : zeroOf P e = some z) (hx : trArg x = some p) (hy : trArg y = some q) (ho : o.op = .makeSlice t x y)
  (hex : exec s m n (.mksl e sz bytes z p q) = some (d, u, n')) : Does P B w0 g n w (Upd.app m u) d n' (execOp a.eval o) := by
 obtain ⟨hpos, ti, zv, hi, hsize, hzv, hzs, hby⟩ := Vd.elemOf_some he
 have hrx := h.slots.arg hx
 have hry := h.slots.arg hy
 obtain ⟨ti', zv', hi', hzv', hrz, hzd⟩ := zeroOf_some hz g
 rw [hi] at hi'
 simp only [Option.some.injEq] at hi'; subst hi'
 rw [hzv] at hzv'
 simp only [Option.some.injEq] at hzv'; subst hzv'
 simp only [exec] at hex
 split at hex
 ·rename_i k c k' c' ex ey
  rw [ex] at hrx; rw [ey] at hry
  split at hex
  ·rename_i hc
   obtain ⟨h0, hnc, hbd, hzl⟩ := hc
   simp only [Option.some.injEq, Prod.mk.injEq] at hex
   obtain ⟨rfl, rfl, rfl⟩ := hex
   obtain ⟨c, rfl⟩ := Int.eq_ofNat_of_zero_le h0
   obtain ⟨c', rfl⟩ := Int.eq_ofNat_of_zero_le (Int.le_trans h0 hnc)
   have hbd2 : c' * (bytes + 1) ≤ 140737488355328 := by
    have : ((c' * (bytes + 1) : Nat) : Int) ≤ 140737488355328 := by simpa using hbd
    omega
   have hbb : bytes * c' ≤ 140737488355328 := by
    have : c' * bytes ≤ c' * (bytes + 1) := Nat.mul_le_mul_left _ (by omega)
    rw [Nat.mul_comm]; omega
   have hcc : c' ≤ 140737488355328 := by
    have : c' * 1 ≤ c' * (bytes + 1) := Nat.mul_le_mul_left _ (by omega)
    omega
   have hb3 : (ti.bytes : Int) * (c' : Int) ≤ 281474976710656 := by
    rw [hby]
    have : ((bytes * c' : Nat) : Int) ≤ 281474976710656 := by omega
    simpa using this
   have hr := run_make (P := P) w t e ti zv hu hi hzv k k' (c : Int) (c' : Int) (by omega) (by omega) hb3 (by omega)
   simp only [Int.toNat_natCast, hsize] at hr
   have hrz' := hrz.cells hzd
   have hcn : c ≤ c' := by omega
   refine ⟨.slice (some ⟨w.heap.size, 0, none⟩) c c', w.alloc (.cells (madeCells zv.cells (c' * sz)) e), g.add n w.heap.size (some c'), .value (.slice (some ⟨w.heap.size, 0, none⟩) c c'), ?_, .inl rfl, ?_⟩
   ·simp only [execOp, ho, hrx.int_inv, hry.int_inv, Sem.run_bind, hr, Result.andThen_ok, Sem.run_pure]
   ·refine step_new h.inv (h.fresh n (Nat.le_refl _) (by omega)) _ (ObOk.row he (by unfold maxLen; omega) (by simp [size_madeCells]) (Soft.zero _) ?_ ?_) (.rsl n 0 c _ c' _ Gm.add_same hcn (fun q hq _ => by simpa using hq))
    ·simp [size_madeCells, hzl]; exact Nat.mul_le_mul_right _ hcn
    ·have hfl : ∀ k : Nat, (List.replicate k z.cells).flatten.length = k * sz := by intro k; simp [hzl]
     have hle : c * sz ≤ c' * sz := Nat.mul_le_mul_right _ hcn
     simp only [Int.toNat_natCast]
     rw [hfl]
     have hcell : ∀ j, j < c * sz → ((madeCells zv.cells (c' * sz)).toList.take (c * sz))[j]? = zv.cells.toList[j % sz]? := by
      intro j hj
      rw [List.getElem?_take_of_lt hj]
      have hm : j % sz < zv.cells.size := by rw [hzs]; exact Nat.mod_lt _ hpos
      simp [madeCells, hzs, show j < c' * sz by omega]
      rw [getElem!_pos zv.cells _ hm, getElem?_pos zv.cells _ hm]
     have hget : ∀ (k j : Nat), j < k * sz → ((List.replicate k z.cells).flatten)[j]? = z.cells[j % sz]? := by
      intro k
      induction k with
      | zero => intro j hj; omega
      | succ k ih =>
       intro j hj
       rw [List.replicate_succ, List.flatten_cons]
       by_cases hjs : j < sz
       ·rw [List.getElem?_append_left (by omega), Nat.mod_eq_of_lt hjs]
       ·rw [List.getElem?_append_right (by omega), hzl, ih (j - sz) (by rw [Nat.succ_mul] at hj; omega)]
        congr 1
        exact (Nat.mod_eq_sub_mod (by omega)).symm
     refine ⟨by rw [List.length_take, hfl, Array.length_toList, size_madeCells]; omega, fun v hv => ?_, fun j d v hd hv => ?_⟩
     ·obtain ⟨j, hj, rfl⟩ := List.getElem_of_mem hv
      have hj' : j < c * sz := Nat.lt_of_lt_of_le hj (List.length_take_le _ _)
      have := hcell j hj'
      rw [List.getElem?_eq_getElem hj] at this
      exact hrz'.2.1 _ (List.mem_of_getElem? this.symm)
     ·have hj' : j < c * sz := by have := (List.getElem?_eq_some_iff.1 hd).1; rw [hfl] at this; exact this
      rw [hget c j hj'] at hd
      rw [hcell j hj'] at hv
      exact hrz'.2.2 _ d v hd hv
  ·cases hex
 ·cases hex
theorem reps_zeroCells {z : List D} {zv : Array Value} {sz : Nat} (hpos : 0 < sz) (hzs : zv.size = sz) (hr : Reps g z zv.toList) (k : Nat) : Reps g (List.replicate k z).flatten (Builtin.zeroCells zv k).toList := by
 have hzl : z.length = sz := by have := hr.1; simp at this; omega
 have hfl : ∀ k : Nat, (List.replicate k z).flatten.length = k * sz := by intro k; simp [hzl]
 have hcell : ∀ j, j < k * sz → ((Builtin.zeroCells zv k).toList)[j]? = zv.toList[j % sz]? := by
  intro j hj
  have hm : j % sz < zv.size := by rw [hzs]; exact Nat.mod_lt _ hpos
  simp [Builtin.zeroCells, hzs, hj]
  rw [getElem!_pos zv _ hm, getElem?_pos zv _ hm]
 have hget : ∀ (k j : Nat), j < k * sz → ((List.replicate k z).flatten)[j]? = z[j % sz]? := by
  intro k
  induction k with
  | zero => intro j hj; omega
  | succ k ih =>
   intro j hj
   rw [List.replicate_succ, List.flatten_cons]
   by_cases hjs : j < sz
   ·rw [List.getElem?_append_left (by omega), Nat.mod_eq_of_lt hjs]
   ·rw [List.getElem?_append_right (by omega), hzl, ih (j - sz) (by rw [Nat.succ_mul] at hj; omega)]
    congr 1
    exact (Nat.mod_eq_sub_mod (by omega)).symm
 have hsl : (Builtin.zeroCells zv k).toList.length = k * sz := by simp [Builtin.zeroCells, hzs]
 refine ⟨by rw [hsl, hfl], fun v hv => ?_, fun j d v hd hv => ?_⟩
 ·obtain ⟨j, hj, rfl⟩ := List.getElem_of_mem hv
  have := hcell j (by omega)
  rw [List.getElem?_eq_getElem hj] at this
  exact hr.2.1 _ (List.mem_of_getElem? this.symm)
 ·have hj' : j < k * sz := by have := (List.getElem?_eq_some_iff.1 hd).1; rw [hfl] at this; exact this
  rw [hget k j hj'] at hd
  rw [hcell j hj'] at hv
  exact hr.2.2 _ d v hd hv
theorem does_appz {t t2 e : TypeId} {kn : IntKind} {o : Oper} {x y : Operand} {p q : Arg} {sz bytes : Nat} {z : D} (h : At P B w0 w m g n n' s a) (hu : P.underlying t = some (.slice e)) (hu2 : P.underlying t2 = some (.int kn)) (he : Vd.elemOf P e = some (sz, bytes))
  (hz : zeroOf P e = some z) (hx : trArg x = some p) (hy : trArg y = some q) (ho : o.op = .call { callee := .builtin .append, args := #[x, y], argTypes := #[t, t2] })
  (hex : exec s m n (.appz e sz bytes z p q) = some (d, u, n')) : Does P B w0 g n w (Upd.app m u) d n' (execOp a.eval o) := by
 obtain ⟨hpos, ti, zv, hi, hsize, hzv, hzs, hby⟩ := Vd.elemOf_some he
 have hrx := h.slots.arg hx
 have hry := h.slots.arg hy
 obtain ⟨ti', zv', hi', hzv', hrz, hzd⟩ := zeroOf_some hz g
 rw [hi] at hi'
 simp only [Option.some.injEq] at hi'; subst hi'
 rw [hzv] at hzv'
 simp only [Option.some.injEq] at hzv'; subst hzv'
 have hrun : ∀ v' w', (Builtin.append_ #[t, t2] o.type #[a.eval x, a.eval y]).run P w = .ok v' w' → (execOp a.eval o).run P w = .ok (.value v') w' := by
  intro v' w' e1
  simp only [execOp, ho, resolve, invoke, builtin, Sem.run_bind, Sem.run_pure, Result.andThen_ok, List.map_toArray, List.map_cons, List.map_nil, e1]
 simp only [exec] at hex
 split at hex
 ·rename_i k0 k ex ey
  rw [ex] at hrx; rw [ey] at hry
  split at hex
  ·rename_i hk0
   subst hk0
   refine .pureE h.inv (hrun (.slice none 0 0) w ?_) .nils hex
   rw [hrx.nils_inv, hry.int_inv]
   have hw : IntKind.i64.wrap 0 = 0 := rfl
   simp [Builtin.append_, run_underlying hu, run_underlying hu2, sizeOf, typeInfo, hi, asInt, asIntOf, hw]
  ·rename_i hk0
   split at hex
   ·rename_i hc
    obtain ⟨h0, hbd, hzl⟩ := hc
    simp only [Option.some.injEq, Prod.mk.injEq] at hex
    obtain ⟨rfl, rfl, rfl⟩ := hex
    obtain ⟨c, rfl⟩ := Int.eq_ofNat_of_zero_le (Int.le_of_lt h0)
    have hc0 : 0 < c := by omega
    have hbd2 : c * (bytes + 1) ≤ 140737488355328 := by
     have : ((c * (bytes + 1) : Nat) : Int) ≤ 140737488355328 := by simpa using hbd
     omega
    have hbb : c * bytes ≤ 140737488355328 := by
     have : c * bytes ≤ c * (bytes + 1) := Nat.mul_le_mul_left _ (by omega)
     omega
    have hcc : c ≤ 140737488355328 := by
     have : c * 1 ≤ c * (bytes + 1) := Nat.mul_le_mul_left _ (by omega)
     omega
    have hr := Lib.run_append_nil_zeros (P := P) w t t2 o.type e ti zv k0 kn hu hu2 hi hzv c hc0 (by omega) (by omega) (by rw [hby]; omega)
    have hge := grownCap_ge w c 0 e
    have hcm : grownCap w c 0 e ≤ maxLen := grownCap_le_maxLen w c 0 e (by unfold maxLen; omega)
    have hsz2 : (Builtin.zeroCells zv.cells c ++ Builtin.zeroCells zv.cells (grownCap w c 0 e - c)).size = grownCap w c 0 e * sz := by
     simp only [Array.size_append, size_zeroCells, hzs, ← Nat.add_mul]
     congr 1; omega
    have hrz' := reps_zeroCells hpos hzs (hrz.cells hzd) c
    refine ⟨_, _, g.add n w.heap.size (some (grownCap w c 0 e)), _, hrun _ _ (by rw [hrx.nils_inv, hry.int_inv]; exact hr), .inl rfl, ?_⟩
    have hl := hrz'.1
    simp only [Int.toNat_natCast]
    refine step_new (w := w.drew) h.inv.drew (h.fresh n (Nat.le_refl _) (by omega)) _ (ObOk.row he hcm hsz2 (Soft.zero _) ?_ ?_) (.rsl n 0 c _ _ _ Gm.add_same hge (fun c hc _ => by simpa using hc))
    ·rw [← hl]; simp
    ·have : (Builtin.zeroCells zv.cells c ++ Builtin.zeroCells zv.cells (grownCap w c 0 e - c)).toList.take (List.replicate c z.cells).flatten.length = (Builtin.zeroCells zv.cells c).toList := by
      rw [← hl, Array.toList_append, List.take_left]
     rw [this]; exact hrz'
   ·cases hex
 ·cases hex
theorem does_s2b {src dst e : TypeId} {o : Oper} {x : Operand} {y : Arg} {bytes : Nat} (h : At P B w0 w m g n n' s a) (hs : P.underlying src = some .string) (hd : P.underlying dst = some (.slice e)) (he : P.underlying e = some (.int .u8)) (hel : Vd.elemOf P e = some (1, bytes))
  (hx : trArg x = some y) (ho : o.op = .convert src dst x) (hex : exec s m n (.s2b e y) = some (d, u, n')) : Does P B w0 g n w (Upd.app m u) d n' (execOp a.eval o) := by
 have hr := h.slots.arg hx
 simp only [exec] at hex
 split at hex
 ·rename_i b e1
  rw [e1] at hr
  split at hex
  ·rename_i hbl
   simp only [Option.some.injEq, Prod.mk.injEq] at hex
   obtain ⟨rfl, rfl, rfl⟩ := hex
   have hsz : (ByteArray.mk b.toArray).size = b.length := by simp [ByteArray.size]
   have hrun := Lib.run_convert_string_bytes (P := P) w src dst e ⟨b.toArray⟩ hs hd he
   rw [hsz] at hrun
   have hnew := Lib.bytesWorld_at_new w e ⟨b.toArray⟩
   have hsize := Lib.bytesWorld_size w e ⟨b.toArray⟩
   have hbelow : Below w.heap.size w (Lib.bytesWorld w e ⟨b.toArray⟩) :=
    ⟨rfl, rfl, rfl, by rw [hsize]; omega, fun k hk => Lib.bytesWorld_at_old w e _ k hk⟩
   have hfr := h.fresh n (Nat.le_refl _) (by omega)
   have hge := grownCap_ge w b.length 0 e
   have hcs : (Lib.bytesCells w e ⟨b.toArray⟩).size = grownCap w b.length 0 e * 1 := by simp [Lib.bytesCells, hsz]; omega
   have hcm : grownCap w b.length 0 e ≤ maxLen := grownCap_le_maxLen w b.length 0 e (by unfold maxLen; omega)
   have x := Gm.add_le (b := w.heap.size) (C := some (grownCap w b.length 0 e)) hfr.2
   have hov := h.inv.over hbelow
   refine ⟨.slice (some ⟨w.heap.size, 0, none⟩) b.length (grownCap w b.length 0 e), Lib.bytesWorld w e ⟨b.toArray⟩, g.add n w.heap.size (some (grownCap w b.length 0 e)), .value (.slice (some ⟨w.heap.size, 0, none⟩) b.length (grownCap w b.length 0 e)), ?_, .inl rfl, ⟨?_, x, fun i hi => Gm.add_other (by omega), .rsl n 0 _ _ _ _ Gm.add_same hge (fun c hc _ => by simpa using hc)⟩⟩
   ·simp only [execOp, ho, hr.str_inv, Sem.run_bind, hrun, Result.andThen_ok, Sem.run_pure]
   ·have hob : ObOk P (g.add n w.heap.size (some (grownCap w b.length 0 e))) (some (grownCap w b.length 0 e)) (.cells (bytesD b) (.row e)) (Lib.bytesWorld w e ⟨b.toArray⟩).heap[w.heap.size]? := by
     rw [hnew]
     refine ObOk.row hel hcm hcs (.inr (Nat.le_refl _)) (by rw [hcs]; simp [bytesD]; omega) ?_
     have : (Lib.bytesCells w e ⟨b.toArray⟩).toList.take (bytesD b).length = b.map fun c => Value.int .u8 c.toNat := by
      simp only [Lib.bytesCells, Array.toList_append]
      rw [List.take_append_of_le_length (by simp [bytesD]), List.take_of_length_le (by simp [bytesD])]
      simp
     rw [this]
     exact reps_bytes b
    have old : ∀ j, m j ≠ none → ∀ b' D, (g.add n w.heap.size (some (grownCap w b.length 0 e))) j = some (b', D) → j ≠ n ∧ g j = some (b', D) ∧ b' < w.heap.size := by
     intro j hj b' D hb'
     have hjn : j ≠ n := by rintro rfl; exact hj hfr.1
     rw [Gm.add_other hjn] at hb'
     cases hmj : m j with
     | none => exact absurd hmj hj
     | some ob' =>
      obtain ⟨b1, D', h1, h2, h3⟩ := h.inv.obj j ob' hmj
      rw [hb'] at h1
      simp only [Option.some.injEq, Prod.mk.injEq] at h1
      obtain ⟨rfl, rfl⟩ := h1
      exact ⟨hjn, hb', h3.lt⟩
    refine ⟨hov.below, hov.size, fun j ob hj => ?_, fun j j' b1 D D' h1 h2 h3 h4 => ?_⟩
    ·by_cases hjn : j = n
     ·subst hjn
      simp only [Upd.app, Mem.put_same, Option.some.injEq] at hj
      subst hj
      exact ⟨w.heap.size, _, Gm.add_same, h.inv.size, hob⟩
     ·simp only [Upd.app, Mem.put_other hjn] at hj
      obtain ⟨b1, D, h1, h2, h3⟩ := hov.obj j ob hj
      exact ⟨b1, D, x _ _ h1, h2, h3.ext x⟩
    ·by_cases hj : j = n
     ·by_cases hj' : j' = n
      ·rw [hj, hj']
      ·simp only [Upd.app, Mem.put_other hj'] at h2
       obtain ⟨_, _, lt⟩ := old j' h2 _ _ h4
       subst hj
       rw [Gm.add_same] at h3
       simp only [Option.some.injEq, Prod.mk.injEq] at h3
       omega
     ·simp only [Upd.app, Mem.put_other hj] at h1
      obtain ⟨_, a2, lt⟩ := old j h1 _ _ h3
      by_cases hj' : j' = n
      ·subst hj'
       rw [Gm.add_same] at h4
       simp only [Option.some.injEq, Prod.mk.injEq] at h4
       omega
      ·simp only [Upd.app, Mem.put_other hj'] at h2
       obtain ⟨_, b2, _⟩ := old j' h2 _ _ h4
       exact hov.inj j j' b1 D D' h1 h2 a2 b2
  ·cases hex
 ·cases hex
theorem unbytesD_some : ∀ {xs : List D} {b : List UInt8}, unbytesD xs = some b → ∃ ns : List Int, xs = ns.map (D.int .u8) ∧ b = ns.map fun n => UInt8.ofNat n.toNat
 | [], b, h => by simp only [unbytesD, Option.some.injEq] at h; subst h; exact ⟨[], rfl, rfl⟩
 | x :: r, b, h => by
  unfold unbytesD at h
  split at h
  ·rename_i heq; cases heq
  ·rename_i n r' heq
   cases heq
   rw [Option.map_eq_some_iff] at h
   obtain ⟨b', hb, rfl⟩ := h
   obtain ⟨ns, rfl, rfl⟩ := unbytesD_some hb
   exact ⟨n :: ns, rfl, rfl⟩
  ·cases h
theorem does_b2s {src dst e : TypeId} {o : Oper} {x : Operand} {y : Arg} (h : At P B w0 w m g n n' s a) (hs : P.underlying src = some (.slice e)) (hd : P.underlying dst = some .string) (he : P.underlying e = some (.int .u8))
  (hx : trArg x = some y) (ho : o.op = .convert src dst x) (hex : exec s m n (.b2s y) = some (d, u, n')) : Does P B w0 g n w (Upd.app m u) d n' (execOp a.eval o) := by
 have hr := h.slots.arg hx
 simp only [exec] at hex
 split at hex
 ·rename_i k cs e1
  obtain ⟨us, hsrc, hrep⟩ := slCells_sound h.inv hr e1
  refine .pureM h.inv hex (fun b hb => ⟨.string ⟨b.toArray⟩, ?_, .str _⟩)
  obtain ⟨ns, rfl, rfl⟩ := unbytesD_some hb
  have hus : us = ns.map (Value.int .u8) := by
   apply List.ext_getElem?
   intro j
   have hl := hrep.1
   by_cases hj : j < us.length
   ·have hj2 : j < ns.length := by simpa [hl] using hj
    have := hrep.2.2 j (.int .u8 ns[j]) us[j] (by simp [hj2]) (List.getElem?_eq_getElem hj)
    rw [List.getElem?_eq_getElem hj, this.int_inv]; simp [hj2]
   ·rw [List.getElem?_eq_none (by omega), List.getElem?_eq_none (by simp; simp at hl; omega)]
  subst hus
  have hul := hsrc.wl
  simp only [List.length_map, Nat.mul_one] at hul
  have hconv : ∀ ad c cc, (convert src dst (.slice ad c cc)).run P w = (Conv.bytesToString (.slice ad c cc)).run P w := by
   intro ad c cc
   cases ad <;> simp [convert, run_underlying hs, run_underlying hd, run_underlying he]
  have fin : ∀ ad c cc, a.eval x = .slice ad c cc → (Conv.bytesToString (.slice ad c cc)).run P w = .ok (.string ⟨(ns.map fun n => UInt8.ofNat n.toNat).toArray⟩) w → (execOp a.eval o).run P w = .ok (.value (.string ⟨(ns.map fun n => UInt8.ofNat n.toNat).toArray⟩)) w := by
   intro ad c cc ev e2
   simp only [execOp, ho, ev, Sem.run_bind, hconv, e2, Result.andThen_ok, Sem.run_pure]
  have some_ : ∀ ad c, a.eval x = .slice (some ad) k c → (execOp a.eval o).run P w = .ok (.value (.string ⟨(ns.map fun n => UInt8.ofNat n.toNat).toArray⟩)) w := by
   intro ad c ev
   have hload : (loadCells ad k).run P w = .ok (ns.map (Value.int .u8)).toArray w := by
    have := hsrc.cells
    rw [ev] at this
    simpa [Builtin.firstCells] using this
   have hrun := run_bytesToString (P := P) w ad k c ns hload
   have hfold := Vd.foldl_push_ofNat ns []
   refine fin _ _ _ ev ?_
   rw [hrun]
   rw [show ByteArray.empty = ⟨([] : List UInt8).toArray⟩ from rfl, hfold]
   rfl
  unfold slCells at e1
  split at e1
  ·rename_i i o' c ex
   rw [ex] at hr
   obtain ⟨b, cc, C, ev, _⟩ := hr.rsl_inv
   split at e1
   ·split at e1
    ·simp only [Option.some.injEq, Prod.mk.injEq] at e1
     obtain ⟨rfl, _⟩ := e1
     exact some_ _ _ ev
    ·cases e1
   ·cases e1
  ·rename_i ex
   rw [ex] at hr
   obtain ⟨ad, c, ev⟩ := hr.esl_inv
   simp only [Option.some.injEq, Prod.mk.injEq] at e1
   obtain ⟨rfl, _⟩ := e1
   exact some_ _ _ ev
  ·rename_i ex
   rw [ex] at hr
   obtain ⟨ad, ev⟩ := hr.esl0_inv
   simp only [Option.some.injEq, Prod.mk.injEq] at e1
   obtain ⟨rfl, _⟩ := e1
   exact some_ _ _ ev
  ·rename_i ex
   rw [ex] at hr
   simp only [Option.some.injEq, Prod.mk.injEq] at e1
   obtain ⟨rfl, e2⟩ := e1
   have hns : ns = [] := by cases ns with | nil => rfl | cons a b => cases e2
   subst hns
   refine fin _ _ _ hr.nils_inv ?_
   simp [Conv.bytesToString]
   rfl
  ·cases e1
 ·cases hex
end
end Go.Ve

namespace Go.Ve
open Go.RowKit
set_option linter.unusedSimpArgs false
set_option linter.unusedVariables false
section
variable {P : Program} {B : Nat} {w0 w : World} {m : Mem} {g : Gm} {n n' : Nat} {s : Nat → D} {a : Act} {d : D} {u : Upd}
theorem does_cutm {t e : TypeId} {o : Oper} {x : Operand} {lo : Option Operand} {hi mx : Operand} {y : Arg} {l' h' m' : Option Arg} {sz : Nat} (h : At P B w0 w m g n n' s a) (hu : P.underlying t = some (.slice e)) (hs : Vd.szOf P e = some sz)
  (hx : trArg x = some y) (hlo : trOpt lo = some l') (hhi : trOpt (some hi) = some h') (hmx : trOpt (some mx) = some m') (ho : o.op = .slice t x lo (some hi) (some mx)) (he : exec s m n (.cutm sz y l' h' m') = some (d, u, n')) :
  Does P B w0 g n w (Upd.app m u) d n' (execOp a.eval o) := by
 have hr := h.slots.arg hx
 have hrun : ∀ ad c cc l hh m1, a.eval x = .slice ad c cc → (Instr.sliceBounds true c cc (lo.map a.eval) (some (a.eval hi)) (some (a.eval mx))).run P w = .ok (l, hh, m1) w →
   (execOp a.eval o).run P w = .ok (.value (.slice (if m1 = l then ad else ad.map (·.add (l * sz))) (hh - l) (m1 - l))) w := by
  intro ad c cc l hh m1 e1 e2
  simp only [execOp, ho, Instr.sliceAt, Sem.run_bind, run_underlying hu, Result.andThen_ok, Instr.slice, e1, Option.map_some, e2, Vd.run_sizeOf' hs, Sem.run_pure]
 -- all three bounds
 have hb3 : ∀ c cc h1 l hh, c ≤ cc → bound s m' c c = some h1 → bounds s l' h' h1 = some (l, hh) →
   (Instr.sliceBounds true c cc (lo.map a.eval) (some (a.eval hi)) (some (a.eval mx))).run P w = .ok (l, hh, h1) w ∧ l ≤ hh ∧ hh ≤ h1 ∧ h1 ≤ c := by
  intro c cc h1 l hh hc e1 e2
  unfold bounds at e2
  split at e2
  ·rename_i hh1 eh
   split at e2
   ·rename_i l1 el
    simp only [Option.some.injEq, Prod.mk.injEq] at e2
    obtain ⟨rfl, rfl⟩ := e2
    rcases bound_sound h.slots hmx e1 with ⟨h0, _⟩ | ⟨om, km, hm1, em, hm2⟩
    ·cases h0
    simp only [Option.some.injEq] at hm1; subst hm1
    rcases bound_sound h.slots hhi eh with ⟨h0, _⟩ | ⟨oh, kh, hh1, eoh, hh2⟩
    ·cases h0
    simp only [Option.some.injEq] at hh1; subst hh1
    rcases bound_sound h.slots hlo el with ⟨rfl, rfl, _⟩ | ⟨ol, kl, rfl, eol, hl2⟩
    ·refine ⟨?_, Nat.zero_le _, hh2, hm2⟩
     have c1 : (0 : Int) ≤ (h1 : Int) ∧ (h1 : Int) ≤ (cc : Int) := by omega
     have c2 : (0 : Int) ≤ (hh1 : Int) ∧ (hh1 : Int) ≤ (h1 : Int) := by omega
     simp only [Instr.sliceBounds, Instr.sliceBound, asIntOf, em, eoh, Sem.run_bind, Sem.run_pure, Result.andThen_ok, c1, c2, and_self, if_true, Option.map_none, Int.toNat_natCast]
    ·refine ⟨?_, hl2, hh2, hm2⟩
     have c1 : (0 : Int) ≤ (h1 : Int) ∧ (h1 : Int) ≤ (cc : Int) := by omega
     have c2 : (0 : Int) ≤ (hh1 : Int) ∧ (hh1 : Int) ≤ (h1 : Int) := by omega
     have c3 : (0 : Int) ≤ (l1 : Int) ∧ (l1 : Int) ≤ (hh1 : Int) := by omega
     simp only [Instr.sliceBounds, Instr.sliceBound, asIntOf, em, eoh, eol, Sem.run_bind, Sem.run_pure, Result.andThen_ok, c1, c2, c3, and_self, if_true, Option.map_some, Int.toNat_natCast]
   ·cases e2
  ·cases e2
 simp only [exec] at he
 split at he
 ·rename_i i o' c ex
  rw [ex] at hr
  obtain ⟨b, cc, C, e1, hb, hc, _⟩ := hr.rsl_inv
  split at he
  ·rename_i h1 eb
   split at he
   ·rename_i l hh eb2
    split at he
    ·rename_i hl
     subst hl
     obtain ⟨q1, q2, q3, q4⟩ := hb3 c cc l l hh hc eb eb2
     obtain rfl : hh = l := by omega
     refine .pureE h.inv (hrun _ _ _ _ _ _ e1 q1) ?_ he
     rw [if_pos rfl, Nat.sub_self]
     exact .esl0 _
    ·cases he
   ·cases he
  ·cases he
 ·rename_i ex
  rw [ex] at hr
  split at he
  ·rename_i h1 eb
   split at he
   ·rename_i x1 eb2
    obtain ⟨l, hh⟩ := x1
    have hh1 : h1 = 0 := by
     rcases bound_sound h.slots hmx eb with ⟨h0, _⟩ | ⟨_, _, _, _, h2⟩
     ·cases h0
     ·omega
    subst hh1
    obtain ⟨q1, q2, q3, q4⟩ := hb3 0 0 0 l hh (Nat.le_refl _) eb eb2
    obtain rfl : hh = 0 := by omega
    obtain rfl : l = 0 := by omega
    exact .pureE h.inv (hrun _ _ _ _ _ _ hr.nils_inv q1) (by simpa using Rep.nils) he
   ·cases he
  ·cases he
 ·rename_i ex
  rw [ex] at hr
  obtain ⟨ad, cc, e1⟩ := hr.esl_inv
  split at he
  ·rename_i h1 eb
   split at he
   ·rename_i x1 eb2
    obtain ⟨l, hh⟩ := x1
    have hh1 : h1 = 0 := by
     rcases bound_sound h.slots hmx eb with ⟨h0, _⟩ | ⟨_, _, _, _, h2⟩
     ·cases h0
     ·omega
    subst hh1
    obtain ⟨q1, q2, q3, q4⟩ := hb3 0 cc 0 l hh (Nat.zero_le _) eb eb2
    obtain rfl : hh = 0 := by omega
    obtain rfl : l = 0 := by omega
    exact .pureE h.inv (hrun _ _ _ _ _ _ e1 q1) (by simpa using Rep.esl0 ad) he
   ·cases he
  ·cases he
 ·rename_i ex
  rw [ex] at hr
  obtain ⟨ad, e1⟩ := hr.esl0_inv
  split at he
  ·rename_i h1 eb
   split at he
   ·rename_i x1 eb2
    obtain ⟨l, hh⟩ := x1
    have hh1 : h1 = 0 := by
     rcases bound_sound h.slots hmx eb with ⟨h0, _⟩ | ⟨_, _, _, _, h2⟩
     ·cases h0
     ·omega
    subst hh1
    obtain ⟨q1, q2, q3, q4⟩ := hb3 0 0 0 l hh (Nat.le_refl _) eb eb2
    obtain rfl : hh = 0 := by omega
    obtain rfl : l = 0 := by omega
    exact .pureE h.inv (hrun _ _ _ _ _ _ e1 q1) (by simpa using Rep.esl0 ad) he
   ·cases he
  ·cases he
 ·cases he
theorem does_tass {x : Operand} {xt t : TypeId} {ok : Bool} {z : D} {o : Oper} {p : Arg} {td : TypeDesc} (h : At P B w0 w m g n n' s a) (hu : P.underlying t = some td) (hni : ∀ ms, td ≠ .interface ms) (hz : zeroOf P t = some z)
  (hx : trArg x = some p) (ho : o.op = .typeAssert x xt t ok) (hex : exec s m n (.tass t ok z p) = some (d, u, n')) : Does P B w0 g n w (Upd.app m u) d n' (execOp a.eval o) := by
 have hrx := h.slots.arg hx
 obtain ⟨zv, hzr, hzero⟩ : ∃ zv, Rep g z zv ∧ (zeroValue t).run P w = .ok zv w := by
  obtain ⟨i, v, hi, hv, hr, _⟩ := zeroOf_some hz g
  exact ⟨v, hr, by simp [zeroValue, typeInfo, hi, hv]⟩
 have hgo : ∀ v, (Instr.typeAssert (a.eval x) xt t ok).run P w = .ok v w → (execOp a.eval o).run P w = .ok (.value v) w := by
  intro v e
  simp only [execOp, ho, Sem.run_bind, e, Result.andThen_ok, Sem.run_pure]
 simp only [exec] at hex
 split at hex
 ·rename_i t' d' ex
  rw [ex] at hrx
  obtain ⟨v, ev, hv⟩ := hrx.iface_inv
  split at hex
  ·rename_i htt
   subst htt
   refine .pureE (v := if ok then .tuple #[v, .bool true] else v) h.inv (hgo _ ?_) ?_ hex
   ·rw [ev]
    unfold Instr.typeAssert
    simp only [Sem.run_bind, run_underlying hu, Result.andThen_ok]
    cases td <;> first | exact absurd rfl (hni _) | (cases ok <;> simp)
   ·cases ok
    ·exact hv
    ·exact Rep.tup2 hv (.bool true)
  ·rename_i htt
   split at hex
   ·rename_i hok
    subst hok
    refine .pureE (v := .tuple #[zv, .bool false]) h.inv (hgo _ ?_) (Rep.tup2 hzr (.bool false)) hex
    rw [ev]
    unfold Instr.typeAssert
    simp only [Sem.run_bind, run_underlying hu, Result.andThen_ok]
    have htt' : ¬ t' = t := htt
    cases td <;> first | exact absurd rfl (hni _) | (simp [htt', hzero])
   ·cases hex
 ·rename_i ex
  rw [ex] at hrx
  have ev := hrx.nili_inv
  split at hex
  ·rename_i hok
   subst hok
   refine .pureE (v := .tuple #[zv, .bool false]) h.inv (hgo _ ?_) (Rep.tup2 hzr (.bool false)) hex
   rw [ev]
   unfold Instr.typeAssert
   simp only [Sem.run_bind, run_underlying hu, Result.andThen_ok]
   cases td <;> first | exact absurd rfl (hni _) | (simp [hzero])
  ·cases hex
 ·cases hex
theorem does_range {t : TypeId} {o : Oper} {x : Operand} {y : Arg} (h : At P B w0 w m g n n' s a) (hu : P.underlying t = some .string) (hx : trArg x = some y) (ho : o.op = .range t x)
  (he : exec s m n (.range y) = some (d, u, n')) : Does P B w0 g n w (Upd.app m u) d n' (execOp a.eval o) := by
 have hr := h.slots.arg hx
 simp only [exec] at he
 split at he
 ·rename_i b ex
  rw [ex] at hr
  simp only [Option.some.injEq, Prod.mk.injEq] at he
  obtain ⟨rfl, rfl, rfl⟩ := he
  refine ⟨.pointer (some ⟨w.heap.size, 0, none⟩), w.alloc (.stringIter ⟨b.toArray⟩ 0), g.add n w.heap.size none, .value (.pointer (some ⟨w.heap.size, 0, none⟩)), ?_, .inl rfl, ?_⟩
  ·simp [execOp, ho, Instr.range, run_underlying hu, hr.str_inv]
  ·exact step_new h.inv (h.fresh n (Nat.le_refl _) (by omega)) none (by exact rfl) (.ptr n 0 _ none Gm.add_same)
 ·cases he
theorem Below.setObj {B b : Nat} {w : World} {o : Obj} (h : B ≤ b) : Below B w (World.setObj w b o) :=
 ⟨rfl, rfl, rfl, by simp [World.setObj], fun k hk => setObj_other (by omega)⟩
theorem does_next {o : Oper} {x : Operand} {y : Arg} (h : At P B w0 w m g n n' s a) (hx : trArg x = some y) (ho : o.op = .next x true)
  (he : exec s m n (.next y) = some (d, u, n')) : Does P B w0 g n w (Upd.app m u) d n' (execOp a.eval o) := by
 have hr := h.slots.arg hx
 simp only [exec] at he
 split at he
 ·rename_i i ex
  rw [ex] at hr
  obtain ⟨b, C, e1, hb⟩ := hr.ptr_inv
  split at he
  ·rename_i bs pos hm
   obtain ⟨b', C', h1, hB, h3⟩ := h.inv.obj i _ hm
   rw [hb] at h1
   simp only [Option.some.injEq, Prod.mk.injEq] at h1
   obtain ⟨rfl, rfl⟩ := h1
   have h3' : w.heap[b]? = some (.stringIter ⟨bs.toArray⟩ pos) := h3
   have hlt : b < w.heap.size := (Array.getElem?_eq_some_iff.1 h3').1
   have hget : (getObj b).run P w = .ok (.stringIter ⟨bs.toArray⟩ pos) w := by simp [getObj, Sem.run, h3']
   have hset : ∀ o', (setObj b o').run P w = .ok () (World.setObj w b o') := by intro o'; simp [setObj, Sem.run, h3', World.setObj]
   have hsz : (ByteArray.mk bs.toArray).size = bs.length := by simp [ByteArray.size]
   split at he
   ·rename_i hp
    simp only [Option.some.injEq, Prod.mk.injEq] at he
    obtain ⟨rfl, rfl, rfl⟩ := he
    refine ⟨.tuple #[.bool true, .int .i64 (pos : Nat), .int .i32 (Utf8.decode ⟨bs.toArray⟩ pos).1], World.setObj w b (.stringIter ⟨bs.toArray⟩ (pos + (Utf8.decode ⟨bs.toArray⟩ pos).2)), g, .value (.tuple #[.bool true, .int .i64 (pos : Nat), .int .i32 (Utf8.decode ⟨bs.toArray⟩ pos).1]), ?_, .inl rfl, ⟨?_, Gm.le.refl g, fun _ _ => rfl, ?_⟩⟩
    ·simp only [execOp, ho, Instr.next, e1, Sem.run_bind, hget, Result.andThen_ok, hsz, hp, if_true]
     cases hd : Utf8.decode ⟨bs.toArray⟩ pos with
     | mk c wd =>
      simp only [Sem.run_bind, hset, Result.andThen_ok, Sem.run_pure]
      rfl
    ·refine h.inv.upd (by rw [hm]; simp) hb (Below.setObj hB) (by simp [World.setObj]) (fun k hk => setObj_other hk) ?_
     rw [setObj_same hlt]
     rfl
    ·refine .tup _ [.bool true, .int .i64 (pos : Nat), .int .i32 (Utf8.decode ⟨bs.toArray⟩ pos).1] rfl (fun j d v hd hv => ?_)
     match j with
     | 0 => simp at hd hv; subst hd hv; exact .bool _
     | 1 => simp at hd hv; subst hd hv; exact .int _ _
     | 2 => simp at hd hv; subst hd hv; exact .int _ _
     | j + 3 => simp at hd
   ·rename_i hp
    refine .pureE h.inv (v := .tuple #[.bool false]) ?_ (.tup [.bool false] [.bool false] rfl (fun j d v hd hv => ?_)) he
    ·simp only [execOp, ho, Instr.next, e1, Sem.run_bind, hget, Result.andThen_ok, hsz, hp, if_false, Sem.run_pure]
    ·match j with
     | 0 => simp at hd hv; subst hd hv; exact .bool _
     | j + 1 => simp at hd
  ·cases he
 ·cases he
theorem ints_some : ∀ {xs : List D} {l : List (IntKind × Int)}, ints xs = some l → xs = l.map fun p => D.int p.1 p.2
 | [], l, h => by simp only [ints, Option.some.injEq] at h; subst h; rfl
 | x :: r, l, h => by
  unfold ints at h
  split at h
  ·rename_i heq; cases heq
  ·rename_i k n r' heq
   cases heq
   rw [Option.map_eq_some_iff] at h
   obtain ⟨l', hl, rfl⟩ := h
   rw [ints_some hl]; rfl
  ·cases h
theorem run_mm (mx : Bool) (k : IntKind) : ∀ (l : List (IntKind × Int)) (x : Int), ((l.map fun p => Value.int p.1 p.2).foldlM (m := Sem) (if mx then Builtin.max2 else Builtin.min2) (.int k x)).run P w = .ok (.int k (l.foldl (fun a b => mm2 mx a b.2) x)) w
 | [], x => by simp
 | p :: r, x => by
  rw [List.map_cons, List.foldlM_cons]
  have : ((if mx then Builtin.max2 else Builtin.min2) (.int k x) (.int p.1 p.2)).run P w = .ok (.int k (mm2 mx x p.2)) w := by
   cases mx <;> simp [Builtin.max2, Builtin.min2, mm2]
  simp only [Sem.run_bind, this, Result.andThen_ok]
  exact run_mm mx k r _
theorem does_mm {o : Oper} {mx : Bool} {c : Call} {x : Arg} {ys : List Arg} (h : At P B w0 w m g n n' s a) (hc : c.callee = .builtin (if mx then .max else .min)) (hl : trArgs c.args.toList = some (x :: ys)) (ho : o.op = .call c)
  (he : exec s m n (.mm mx x ys) = some (d, u, n')) : Does P B w0 g n w (Upd.app m u) d n' (execOp a.eval o) := by
 obtain ⟨a1, a2⟩ := h.slots.args hl
 simp only [exec] at he
 split at he
 ·rename_i k q l ex ey
  have hys := ints_some ey
  have hvs : c.args.toList.map a.eval = Value.int k q :: l.map fun p => Value.int p.1 p.2 := by
   simp only [List.length_map, List.length_cons] at a1
   apply List.ext_getElem?
   intro j
   by_cases hj : j < c.args.toList.length
   ·have hv : (c.args.toList.map a.eval)[j]? = some (a.eval c.args.toList[j]) := by simp at hj; simp [hj]
    rw [hv]
    cases j with
    | zero =>
     have := a2 0 _ _ (by simp; rfl) hv
     rw [ex] at this
     rw [this.int_inv]; rfl
    | succ j =>
     have hj' : j < ys.length := by omega
     have hd : (ys.map (·.ev s))[j]? = some (ys[j].ev s) := by simp [hj']
     have := a2 (j + 1) _ _ (by simpa using hd) hv
     have hlj : j < l.length := by have := congrArg List.length hys; simp at this; omega
     have e3 : ys[j].ev s = D.int l[j].1 l[j].2 := by
      rw [hys] at hd
      simpa [hlj] using hd.symm
     rw [e3] at this
     rw [this.int_inv]
     simp [hlj]
   ·have hll : l.length = ys.length := by have := congrArg List.length hys; simpa using this.symm
    rw [List.getElem?_eq_none (by simpa using hj), List.getElem?_eq_none (by rw [List.length_cons, List.length_map]; omega)]
  refine .pureE h.inv (v := .int k (l.foldl (fun a b => mm2 mx a b.2) q)) ?_ (.int _ _) he
  have hr := run_mm (P := P) (w := w) mx k l q
  cases mx
  ·simp only [Bool.false_eq_true, if_false] at hc hr
   simp only [execOp, ho, resolve, hc, invoke, builtin, Sem.run_bind, Sem.run_pure, Result.andThen_ok, Builtin.min_, Array.toList_map, hvs, hr]
  ·simp only [if_true] at hc hr
   simp only [execOp, ho, resolve, hc, invoke, builtin, Sem.run_bind, Sem.run_pure, Result.andThen_ok, Builtin.max_, Array.toList_map, hvs, hr]
 ·cases he
end
end Go.Ve

namespace Go.Ve
open Go.RowKit
set_option linter.unusedSimpArgs false
set_option linter.unusedVariables false
section
variable {P : Program} {B : Nat} {w0 w w' : World} {m : Mem} {g g' : Gm} {n n' : Nat} {s : Nat → D} {a : Act} {d : D} {u : Upd}
theorem shape_row {b : Nat} {vs : Array Value} {T : TypeId} {fz : Nat × Nat} (h : w.heap[b]? = some (.cells vs T fz)) : w.shape? b = some (T, vs.size) := by
 simp [World.shape?, h]
theorem does_toU {src dst e : TypeId} {o : Oper} {x : Operand} {y : Arg} {k : Nat} (h : At P B w0 w m g n n' s a) (hs : P.underlying src = some (.pointer e)) (hd : P.underlying dst = some .unsafePointer) (hz : Vd.szOf P e = some (k + 1))
  (hx : trArg x = some y) (ho : o.op = .convert src dst x) (hex : exec s m n (.toU y) = some (d, u, n')) : Does P B w0 g n w (Upd.app m u) d n' (execOp a.eval o) := by
 have hr := h.slots.arg hx
 have run : ∀ v, (convert src dst (a.eval x)).run P w = .ok v w → (execOp a.eval o).run P w = .ok (.value v) w := by
  intro v e1
  simp only [execOp, ho, Sem.run_bind, e1, Result.andThen_ok, Sem.run_pure]
 simp only [exec] at hex
 split at hex
 ·rename_i ex
  rw [ex] at hr
  refine .pureE h.inv (run (.pointer none) ?_) .nilp hex
  rw [hr.nilp_inv]
  simp [convert, run_underlying hs, run_underlying hd, Conv.unsafePointer]
 ·rename_i i ex
  rw [ex] at hr
  obtain ⟨b, C, e1, hb⟩ := hr.ptr_inv
  split at hex
  ·rename_i c0 cs kd hm
   obtain ⟨_, vs, T, fz, hh, _, hl, _⟩ := h.inv.cells hm hb
   obtain ⟨j, hj, hjs⟩ := Option.map_eq_some_iff.1 hz
   refine .pureE h.inv (run _ ?_) hr hex
   rw [e1]
   exact Lib.run_to_unsafe w ⟨b, 0, none⟩ hs hd hj (by rw [hjs]; omega) (shape_row hh) (by simp at hl ⊢; omega)
  ·cases hex
 ·cases hex
theorem does_fromU {src dst e : TypeId} {o : Oper} {x : Operand} {y : Arg} {sz : Nat} (h : At P B w0 w m g n n' s a) (hs : P.underlying src = some .unsafePointer) (hd : P.underlying dst = some (.pointer e)) (hz : Vd.szOf P e = some sz)
  (hlies : liesAt P P.depth e (sz / P.cellsOf e) 0 e 1 = true)
  (hx : trArg x = some y) (ho : o.op = .convert src dst x) (hex : exec s m n (.fromU e sz y) = some (d, u, n')) : Does P B w0 g n w (Upd.app m u) d n' (execOp a.eval o) := by
 have hr := h.slots.arg hx
 have run : ∀ v, (convert src dst (a.eval x)).run P w = .ok v w → (execOp a.eval o).run P w = .ok (.value v) w := by
  intro v e1
  simp only [execOp, ho, Sem.run_bind, e1, Result.andThen_ok, Sem.run_pure]
 simp only [exec] at hex
 split at hex
 ·rename_i ex
  rw [ex] at hr
  refine .pureE h.inv (run (.pointer none) ?_) .nilp hex
  rw [hr.nilp_inv]
  simp [convert, run_underlying hs, run_underlying hd, Conv.unsafePointer]
 ·rename_i i ex
  rw [ex] at hr
  obtain ⟨b, C, e1, hb⟩ := hr.ptr_inv
  split at hex
  ·rename_i cs t' hm
   split at hex
   ·rename_i hc
    obtain ⟨rfl, hcs⟩ := hc
    obtain ⟨_, vs, T, fz, hh, _, hl, _, _, hv⟩ := h.inv.cells hm hb
    obtain ⟨rfl, _, hvs⟩ := hv _ rfl
    obtain ⟨j, hj, hjs⟩ := Option.map_eq_some_iff.1 hz
    refine .pureE h.inv (run _ ?_) hr hex
    rw [e1]
    exact Lib.run_from_unsafe w ⟨b, 0, none⟩ hs hd hj (shape_row hh) (by rw [hvs, hcs]; exact hlies)
   ·cases hex
  ·cases hex
 ·cases hex
theorem does_sld {t t0 : TypeId} {o : Oper} {x : Operand} {y : Arg} (h : At P B w0 w m g n n' s a) (hx : trArg x = some y)
  (ho : o.op = .call { callee := .builtin .unsafeSliceData, args := #[x], argTypes := #[t] }) (hex : exec s m n (.sld y) = some (d, u, n')) : Does P B w0 g n w (Upd.app m u) d n' (execOp a.eval o) := by
 have hr := h.slots.arg hx
 have run : ∀ v, (Builtin.unsafeSliceData_ #[t] o.type #[a.eval x]).run P w = .ok v w → (execOp a.eval o).run P w = .ok (.value v) w := by
  intro v e1
  simp only [execOp, ho, resolve, invoke, builtin, Sem.run_bind, Sem.run_pure, Result.andThen_ok, List.map_toArray, List.map_cons, List.map_nil, e1]
 simp only [exec] at hex
 split at hex
 ·rename_i ex
  rw [ex] at hr
  refine .pureE h.inv (run (.pointer none) ?_) .nilp hex
  rw [hr.nils_inv]
  exact Lib.run_unsafeSliceData_nil w _ _ _ _
 ·rename_i i o' c ex
  rw [ex] at hr
  obtain ⟨b, cc, C, e1, hb, hc, _⟩ := hr.rsl_inv
  split at hex
  ·rename_i h0
   refine .pureE h.inv (run _ ?_) (.ptr i o' b C hb) hex
   rw [e1]
   exact Lib.run_unsafeSliceData_row w _ _ _ _ _ (by omega)
  ·cases hex
 ·cases hex
theorem Inv.kill (h : Inv P B w0 m w g) {i b : Nat} {C : Option Nat} (hm : m i ≠ none) (hg : g i = some (b, C)) (hb : Below B w w') (hs : w'.heap.size = w.heap.size)
  (hoth : ∀ k, k ≠ b → w'.heap[k]? = w.heap[k]?) : Inv P B w0 (m.put i none) w' g := by
 refine ⟨h.below.trans hb, by rw [hs]; exact h.size, fun k ob' hk => ?_, fun k k' b1 D D' h1 h2 h3 h4 => ?_⟩
 ·by_cases hki : k = i
  ·subst hki; rw [Mem.put_same] at hk; cases hk
  ·rw [Mem.put_other hki] at hk
   obtain ⟨b1, D, h1, h2, h3⟩ := h.obj k ob' hk
   refine ⟨b1, D, h1, h2, ?_⟩
   have : b1 ≠ b := by
    rintro rfl
    exact hki (h.inj k i b1 D C (by rw [hk]; simp) hm h1 hg)
   rw [hoth b1 this]; exact h3
 ·have nn : ∀ k, m.put i none k ≠ none → m k ≠ none := by
   intro k hk
   by_cases hki : k = i
   ·subst hki; exact hm
   ·rw [Mem.put_other hki] at hk; exact hk
  exact h.inj k k' b1 D D' (nn k h1) (nn k' h2) h3 h4
theorem freeze_other (w : World) (b n k : Nat) (h : k ≠ b) : (w.freeze ⟨b, 0, none⟩ n).heap[k]? = w.heap[k]? := by
 unfold World.freeze
 split
 ·rfl
 ·simp [Array.getElem?_modify, Ne.symm h]
theorem freeze_size (w : World) (b n : Nat) : (w.freeze ⟨b, 0, none⟩ n).heap.size = w.heap.size := by
 unfold World.freeze
 split
 ·rfl
 ·simp
theorem unbytesS_some : ∀ {ds : List D} {b : List UInt8}, unbytesS ds = some b → ds = bytesD b
 | [], b, h => by simp only [unbytesS, Option.some.injEq] at h; subst h; rfl
 | x :: r, b, h => by
  unfold unbytesS at h
  split at h
  ·rename_i heq; cases heq
  ·rename_i n r' heq
   cases heq
   split at h
   ·rename_i hn
    rw [Option.map_eq_some_iff] at h
    obtain ⟨b', hb, rfl⟩ := h
    rw [unbytesS_some hb]
    have : ((UInt8.ofNat n.toNat).toNat : Int) = n := by
     have h1 : n.toNat < 256 := by omega
     rw [UInt8.toNat_ofNat_of_lt' (by simpa using h1)]
     omega
    show _ = D.int .u8 ((UInt8.ofNat n.toNat).toNat : Int) :: bytesD b'
    rw [this]
   ·cases h
  ·cases h
theorem does_ustr {t t2 e : TypeId} {o : Oper} {x k : Operand} {y z : Arg} (h : At P B w0 w m g n n' s a) (hu : P.underlying t = some (.pointer e)) (hc1 : P.cellsOf e = 1) (hx : trArg x = some y) (hk : trArg k = some z)
  (ho : o.op = .call { callee := .builtin .unsafeString, args := #[x, k], argTypes := #[t, t2] }) (hex : exec s m n (.ustr e y z) = some (d, u, n')) : Does P B w0 g n w (Upd.app m u) d n' (execOp a.eval o) := by
 have hr := h.slots.arg hx
 have hrk := h.slots.arg hk
 have run : ∀ v w1, (Builtin.unsafeString_ #[t, t2] o.type #[a.eval x, a.eval k]).run P w = .ok v w1 → (execOp a.eval o).run P w = .ok (.value v) w1 := by
  intro v w1 e1
  simp only [execOp, ho, resolve, invoke, builtin, Sem.run_bind, Sem.run_pure, Result.andThen_ok, List.map_toArray, List.map_cons, List.map_nil, e1]
 simp only [exec] at hex
 split at hex
 ·rename_i ex ek
  rw [ex] at hr; rw [ek] at hrk
  refine .pureE h.inv (run (.string .empty) w ?_) (.str []) hex
  rw [hr.nilp_inv, hrk.int_inv]
  exact Lib.run_unsafeString_none w _ _ _ _
 ·rename_i i k' ex ek
  rw [ex] at hr; rw [ek] at hrk
  obtain ⟨b, C, e1, hb⟩ := hr.ptr_inv
  split at hex
  ·rename_i cs e' hm
   split at hex
   ·rename_i hc
    obtain ⟨rfl, h0, hle, h63⟩ := hc
    split at hex
    ·rename_i bs hbs
     simp only [Option.some.injEq, Prod.mk.injEq] at hex
     obtain ⟨rfl, rfl, rfl⟩ := hex
     obtain ⟨hB, vs, T, fz, hh, _, hl, hrp, hgr, _⟩ := h.inv.cells hm hb
     obtain ⟨rfl, _⟩ := hgr _ rfl
     have hns := unbytesS_some hbs
     have hlen : bs.length = k'.toNat := by
      have := congrArg List.length hns
      simp [bytesD] at this
      omega
     have hcell : ∀ j c, bs[j]? = some c → w.cell? ((⟨b, 0, none⟩ : Addr).add j) = some (.int .u8 c.toNat) := by
      intro j c hj
      have hjl : j < bs.length := (List.getElem?_eq_some_iff.1 hj).1
      have hd : cs[j]? = some (.int .u8 c.toNat) := by
       have e1 : (cs.take k'.toNat)[j]? = cs[j]? := List.getElem?_take_of_lt (by omega)
       rw [← e1, hns]
       simp [bytesD, hj]
      obtain ⟨v, q1, q2, q3⟩ := rep_at (b := b) hl hrp hd
      rw [Vd.mk_add, Nat.zero_add, cell_row hh, q1, q3.int_inv]
     have hstr := Lib.run_unsafeString_row (P := P) w t t2 o.type T hu hc1 b vs.size (shape_row hh) bs (by intro e; subst e; simp at hlen; omega) (by omega) (by omega) hcell
     have hk' : (k' : Int) = (bs.length : Int) := by rw [hlen]; omega
     refine ⟨_, _, g, _, run _ _ (by rw [e1, hrk.int_inv, hk']; exact hstr), .inl rfl, ⟨h.inv.kill (by rw [hm]; simp) hb (Lib.below_freeze (Below.refl _ _) hB _) (freeze_size _ _ _) (fun k hk => freeze_other _ _ _ k hk), Gm.le.refl g, fun _ _ => rfl, .str _⟩⟩
    ·cases hex
   ·cases hex
  ·cases hex
 ·cases hex
inductive Ents (g : Gm) : List D → List D → List MapEntry → Prop
 | nil : Ents g [] [] []
 | cons (k d : D) (e : MapEntry) (ks ds : List D) (es : List MapEntry) : Rep g k e.key → e.key.oneCell' = true → Rep g d e.val → Ents g ks ds es → Ents g (k :: ks) (d :: ds) (e :: es)
theorem Ents.len {ks ds : List D} {es : List MapEntry} (h : Ents g ks ds es) : ks.length = es.length ∧ ds.length = es.length := by
 induction h with
 | nil => exact ⟨rfl, rfl⟩
 | cons k d e ks ds es _ _ _ _ ih => simp [ih.1, ih.2]
theorem ents_of : ∀ {ks ds : List D} {es : List MapEntry}, Reps g ks (es.map (·.key)) → es.length = ds.length → (∀ (j : Nat) d v, ds[j]? = some d → (es.map (·.val))[j]? = some v → Rep g d v) → Ents g ks ds es
 | [], [], [], _, _, _ => .nil
 | [], _, e :: es, h, _, _ => by have := h.1; simp at this
 | k :: ks, _, [], h, _, _ => by have := h.1; simp at this
 | k :: ks, [], e :: es, _, h, _ => by simp at h
 | [], d :: ds, [], _, h, _ => by simp at h
 | k :: ks, d :: ds, e :: es, h1, h2, h3 => by
  refine .cons k d e ks ds es (h1.2.2 0 k e.key rfl rfl) (h1.2.1 _ (by simp)) (h3 0 d e.val rfl rfl) (ents_of ⟨by have := h1.1; simpa using this, fun v hv => h1.2.1 v (by simp at hv ⊢; exact .inr hv), fun j d v hd hv => h1.2.2 (j + 1) d v hd hv⟩ (by simpa using h2) (fun j d v hd hv => h3 (j + 1) d v hd hv))
theorem Ents.reps {ks ds : List D} {es : List MapEntry} (h : Ents g ks ds es) : Reps g ks (es.map (·.key)) ∧ es.length = ds.length ∧ (∀ (j : Nat) d v, ds[j]? = some d → (es.map (·.val))[j]? = some v → Rep g d v) := by
 induction h with
 | nil => exact ⟨Reps.nil g, rfl, by simp⟩
 | cons k d e ks ds es h1 h2 h3 _ ih =>
  obtain ⟨i1, i2, i3⟩ := ih
  refine ⟨⟨by simp [i1.1], fun v hv => ?_, fun j d' v hd hv => ?_⟩, by simp [i2], fun j d' v hd hv => ?_⟩
  ·simp only [List.map_cons, List.mem_cons] at hv
   rcases hv with rfl | hv
   ·exact h2
   ·exact i1.2.1 v hv
  ·cases j with
   | zero => simp at hd hv; subst hd hv; exact h1
   | succ j => simp at hd hv; exact i1.2.2 j d' v hd (by simpa using hv)
  ·cases j with
   | zero => simp at hd hv; subst hd hv; exact h3
   | succ j => simp at hd hv; exact i3 j d' v hd (by simpa using hv)
theorem sameNow_str {key k : List UInt8} {v : Value} (h : Rep g (.str k) v) : Instr.sameNow .string (.string ⟨key.toArray⟩) v = some (decide (key = k)) := by
 rw [h.str_inv]
 simp only [Instr.sameNow]
 congr 1
 rw [Bool.eq_iff_iff]; simp [MapKept.bytes_beq]
theorem lookD_sound {key : List UInt8} : ∀ {ks ds : List D} {es : List MapEntry} {r : Option D} (i : Nat), Ents g ks ds es → lookD key ks ds = some r →
  ∃ q, Instr.findNow .string (.string ⟨key.toArray⟩) es i = some q ∧ (match r, q with | none, none => True | some d, some (_, v) => Rep g d v | _, _ => False) := by
 intro ks ds es r i h hl
 induction h generalizing i with
 | nil => simp only [lookD, Option.some.injEq] at hl; subst hl; exact ⟨none, rfl, trivial⟩
 | cons k d e ks ds es h1 h2 h3 _ ih =>
  unfold lookD at hl
  split at hl
  ·rename_i k' ks' v' vs' e1 e2
   cases e1; cases e2
   have hs := sameNow_str (key := key) h1
   split at hl
   ·rename_i hk
    simp only [Option.some.injEq] at hl; subst hl
    subst hk
    exact ⟨some (i, e.val), by simp [Instr.findNow, hs], h3⟩
   ·rename_i hk
    obtain ⟨q, q1, q2⟩ := ih (i + 1) hl
    exact ⟨q, by simp [Instr.findNow, hs, hk, q1], q2⟩
  ·rename_i e1 e2; cases e1
  ·cases hl
theorem isKey_str (b : ByteArray) : MapKept.IsKey .string (.string b) := by simp [MapKept.IsKey]
theorem Inv.map (h : Inv P B w0 m w g) {i b : Nat} {C : Option Nat} {ks vs : List D} (hm : m i = some (.map ks vs)) (hb : g i = some (b, C)) :
  B ≤ b ∧ ∃ es clock, w.heap[b]? = some (.map es clock) ∧ Ents g ks vs es.toList := by
 obtain ⟨b', C', h1, h2, h3⟩ := h.obj i _ hm
 rw [hb] at h1
 simp only [Option.some.injEq, Prod.mk.injEq] at h1
 obtain ⟨rfl, rfl⟩ := h1
 obtain ⟨es, clock, q1, q2, q3, q4⟩ := h3
 exact ⟨h2, es, clock, q1, ents_of q2 (by simpa using q3) q4⟩
theorem does_lookup {t kt et : TypeId} {ok : Bool} {z : D} {o : Oper} {x k : Operand} {y y' : Arg} (h : At P B w0 w m g n n' s a) (hu : P.underlying t = some (.map kt et)) (hk : P.underlying kt = some .string) (hz : zeroOf P et = some z)
  (hx : trArg x = some y) (hy : trArg k = some y') (ho : o.op = .lookup t x k ok) (hex : exec s m n (.lookup ok z y y') = some (d, u, n')) : Does P B w0 g n w (Upd.app m u) d n' (execOp a.eval o) := by
 have hr := h.slots.arg hx
 have hrk := h.slots.arg hy
 obtain ⟨ti, zv, hi, hzv, hrz, hzd⟩ := zeroOf_some hz g
 have hzero : (zeroValue et).run P w = .ok zv w := by simp [zeroValue, typeInfo, hi, hzv]
 have run : ∀ v, (Instr.lookup t (a.eval x) (a.eval k) ok).run P w = .ok v w → (execOp a.eval o).run P w = .ok (.value v) w := by
  intro v e1
  simp only [execOp, ho, Sem.run_bind, e1, Result.andThen_ok, Sem.run_pure]
 have mk : ∀ (d1 : D) (v1 : Value) (f : Bool), Rep g d1 v1 → (Instr.lookup t (a.eval x) (a.eval k) ok).run P w = .ok (if ok then .tuple #[v1, .bool f] else v1) w →
   some (if ok = true then D.tup [d1, .bool f] else d1, ([] : Upd), n) = some (d, u, n') → Does P B w0 g n w (Upd.app m u) d n' (execOp a.eval o) := by
  intro d1 v1 f h1 h2 h3
  refine .pureE h.inv (run _ h2) ?_ h3
  cases ok
  ·exact h1
  ·exact Rep.tup2 h1 (.bool f)
 simp only [exec] at hex
 split at hex
 ·rename_i key ek
  rw [ek] at hrk
  have hck := fun em => MapKept.run_checkKey (P := P) (w := w) hk (isKey_str ⟨key.toArray⟩) em 9999
  split at hex
  ·rename_i ex
   rw [ex] at hr
   refine mk z zv false hrz ?_ hex
   have hf := MapKept.run_findKey (P := P) (w := w) (k := .string ⟨key.toArray⟩) (l := []) (a := none) hk rfl
   rw [hr.nilm_inv, hrk.str_inv]
   cases ok <;> simp [Instr.lookup, run_underlying hu, hck, hf, hzero, Result.andThen]
  ·rename_i i ex
   rw [ex] at hr
   obtain ⟨b, C, e1, hb⟩ := hr.map_inv
   split at hex
   ·rename_i ks vs hm
    obtain ⟨hB, es, clock, hh, hents⟩ := h.inv.map hm hb
    have hget := MapKept.run_getObj_map (P := P) hh
    split at hex
    ·rename_i d1 hl
     obtain ⟨q, q1, q2⟩ := lookD_sound 0 hents hl
     match q, q2 with
     | some (j, v), q2 =>
      have hf := MapKept.run_findKey (P := P) (w := w) hk q1
      refine mk d1 v true q2 ?_ hex
      rw [e1, hrk.str_inv]
      cases ok <;> simp [Instr.lookup, run_underlying hu, hget, hck, hf, Result.andThen]
    ·rename_i hl
     obtain ⟨q, q1, q2⟩ := lookD_sound 0 hents hl
     match q, q2 with
     | none, q2 =>
      have hf := MapKept.run_findKey (P := P) (w := w) hk q1
      refine mk z zv false hrz ?_ hex
      rw [e1, hrk.str_inv]
      cases ok <;> simp [Instr.lookup, run_underlying hu, hget, hck, hf, hzero, Result.andThen]
    ·cases hex
   ·cases hex
  ·cases hex
 ·cases hex
theorem putK_sound {key : List UInt8} {d0 : D} {v0 : Value} (hv : Rep g d0 v0) : ∀ {ks ds : List D} {es : List MapEntry} {r : List D × List D} (i : Nat), Ents g ks ds es → putK key d0 ks ds = some r →
  (Instr.findNow .string (.string ⟨key.toArray⟩) es i = some none ∧ ∀ c, Ents g r.1 r.2 (es ++ [{ key := .string ⟨key.toArray⟩, val := v0, born := c }])) ∨
  (∃ j e, Instr.findNow .string (.string ⟨key.toArray⟩) es i = some (some (i + j, e.val)) ∧ es[j]? = some e ∧ e.key = .string ⟨key.toArray⟩ ∧ Ents g r.1 r.2 (es.modify j fun e => { e with key := .string ⟨key.toArray⟩, val := v0 })) := by
 intro ks ds es r i h hl
 induction h generalizing i r with
 | nil =>
  simp only [putK, Option.some.injEq] at hl; subst hl
  exact .inl ⟨rfl, fun c => .cons _ _ _ _ _ _ (.str key) rfl hv .nil⟩
 | cons k d e ks ds es h1 h2 h3 h4 ih =>
  unfold putK at hl
  split at hl
  ·rename_i k' ks' v' vs' e1 e2
   cases e1; cases e2
   have hs := sameNow_str (key := key) h1
   split at hl
   ·rename_i hk
    simp only [Option.some.injEq] at hl; subst hl
    subst hk
    refine .inr ⟨0, e, by simp [Instr.findNow, hs], rfl, h1.str_inv, ?_⟩
    exact .cons _ _ _ _ _ _ (.str key) rfl hv h4
   ·rename_i hk
    rw [Option.map_eq_some_iff] at hl
    obtain ⟨r', hr', rfl⟩ := hl
    rcases ih (i + 1) hr' with ⟨q1, q2⟩ | ⟨j, e', q1, q2, q3, q4⟩
    ·exact .inl ⟨by simp [Instr.findNow, hs, hk, q1], fun c => .cons _ _ _ _ _ _ h1 h2 h3 (q2 c)⟩
    ·refine .inr ⟨j + 1, e', by simp [Instr.findNow, hs, hk, q1]; omega, by simpa using q2, q3, ?_⟩
     exact .cons _ _ _ _ _ _ h1 h2 h3 q4
  ·rename_i e1 e2; cases e1
  ·cases hl
theorem delK_sound {key : List UInt8} : ∀ {ks ds : List D} {es : List MapEntry} {r : List D × List D} (i : Nat), Ents g ks ds es → delK key ks ds = some r →
  (Instr.findNow .string (.string ⟨key.toArray⟩) es i = some none ∧ Ents g r.1 r.2 es) ∨
  (∃ j v, Instr.findNow .string (.string ⟨key.toArray⟩) es i = some (some (i + j, v)) ∧ j < es.length ∧ Ents g r.1 r.2 (es.eraseIdx j)) := by
 intro ks ds es r i h hl
 induction h generalizing i r with
 | nil =>
  simp only [delK, Option.some.injEq] at hl; subst hl
  exact .inl ⟨rfl, .nil⟩
 | cons k d e ks ds es h1 h2 h3 h4 ih =>
  unfold delK at hl
  split at hl
  ·rename_i k' ks' v' vs' e1 e2
   cases e1; cases e2
   have hs := sameNow_str (key := key) h1
   split at hl
   ·rename_i hk
    simp only [Option.some.injEq] at hl; subst hl
    subst hk
    exact .inr ⟨0, e.val, by simp [Instr.findNow, hs], by simp, h4⟩
   ·rename_i hk
    rw [Option.map_eq_some_iff] at hl
    obtain ⟨r', hr', rfl⟩ := hl
    rcases ih (i + 1) hr' with ⟨q1, q2⟩ | ⟨j, v, q1, q2, q3⟩
    ·exact .inl ⟨by simp [Instr.findNow, hs, hk, q1], .cons _ _ _ _ _ _ h1 h2 h3 q2⟩
    ·refine .inr ⟨j + 1, v, by simp [Instr.findNow, hs, hk, q1]; omega, by simpa using q2, ?_⟩
     exact .cons _ _ _ _ _ _ h1 h2 h3 q3
  ·rename_i e1 e2; cases e1
  ·cases hl
theorem ObOk.ofEnts {ks ds : List D} {es : Array MapEntry} {C : Option Nat} (h : Ents g ks ds es.toList) (clock : Nat) : ObOk P g C (.map ks ds) (some (.map es clock)) := by
 obtain ⟨h1, h2, h3⟩ := h.reps
 exact ⟨es, clock, rfl, h1, by simpa using h2, h3⟩
theorem does_mkmap {t : TypeId} {o : Oper} (h : At P B w0 w m g n n' s a) (ho : o.op = .makeMap t none) (hex : exec s m n .mkmap = some (d, u, n')) : Does P B w0 g n w (Upd.app m u) d n' (execOp a.eval o) := by
 simp only [exec, Option.some.injEq, Prod.mk.injEq] at hex
 obtain ⟨rfl, rfl, rfl⟩ := hex
 refine ⟨.map (some w.heap.size), w.alloc (.map #[] 0), g.add n w.heap.size none, .value (.map (some w.heap.size)), ?_, .inl rfl, ?_⟩
 ·simp only [execOp, ho, Option.map_none, Sem.run_bind, run_makeMap_plain, Result.andThen_ok, Sem.run_pure]
 ·exact step_new h.inv (h.fresh n (Nat.le_refl _) (by omega)) none (ObOk.ofEnts (es := #[]) .nil 0) (.map n _ none Gm.add_same)
theorem step_map (hi : Inv P B w0 m w g) {i b : Nat} {C : Option Nat} {ks ds ks' ds' : List D} (hm : m i = some (.map ks ds)) (hb : g i = some (b, C)) {es : Array MapEntry} {clock : Nat} (hh : w.heap[b]? = some (.map es clock))
  {es' : Array MapEntry} {clock' : Nat} (he : Ents g ks' ds' es'.toList) {d : D} {v : Value} (hd : Rep g d v) :
  Step P B w0 g n (m.put i (some (.map ks' ds'))) d n v { w with heap := w.heap.setIfInBounds b (.map es' clock') } g := by
 obtain ⟨hB, _⟩ := hi.map hm hb
 have hset := MapKept.heap_set (w := w) (o' := .map es' clock') hh
 refine ⟨hi.upd (b := b) (C := C) (by rw [hm]; simp) hb (Below.setObj (w := w) hB) (by simp) (fun k hk => hset.2 k hk) ?_, Gm.le.refl g, fun _ _ => rfl, hd⟩
 show ObOk P g C (.map ks' ds') (w.heap.setIfInBounds b (.map es' clock'))[b]?
 rw [hset.1]
 exact ObOk.ofEnts he clock'
theorem keyThatStays_same (key : ByteArray) : (Instr.keyThatStays (.string key) (.string key)).run P w = .ok (.string key) w := by
 have : Instr.sameBits 10000 (.string key) (.string key) = true := by simp [Instr.sameBits, MapKept.bytes_beq]
 simp [Instr.keyThatStays, this]
theorem does_mapset {t kt et : TypeId} {o : Oper} {x k v : Operand} {y y' z : Arg} (h : At P B w0 w m g n n' s a) (hu : P.underlying t = some (.map kt et)) (hk : P.underlying kt = some .string)
  (hx : trArg x = some y) (hy : trArg k = some y') (hv : trArg v = some z) (ho : o.op = .mapUpdate t x k v) (hex : exec s m n (.mapset y y' z) = some (d, u, n')) : Does P B w0 g n w (Upd.app m u) d n' (execOp a.eval o) := by
 have hr := h.slots.arg hx
 have hrk := h.slots.arg hy
 have hrv := h.slots.arg hv
 simp only [exec] at hex
 split at hex
 ·rename_i key ek
  rw [ek] at hrk
  have hck := fun em => MapKept.run_checkKey (P := P) (w := w) hk (isKey_str ⟨key.toArray⟩) em 9999
  split at hex
  ·rename_i i ex
   rw [ex] at hr
   obtain ⟨b, C, e1, hb⟩ := hr.map_inv
   split at hex
   ·rename_i ks vs hm
    obtain ⟨hB, es, clock, hh, hents⟩ := h.inv.map hm hb
    have hget := MapKept.run_getObj_map (P := P) hh
    rw [Option.map_eq_some_iff] at hex
    obtain ⟨r, hr', hex⟩ := hex
    simp only [Prod.mk.injEq] at hex
    obtain ⟨rfl, rfl, rfl⟩ := hex
    rcases putK_sound hrv 0 hents hr' with ⟨q1, q2⟩ | ⟨j, e0, q1, q2, q3, q4⟩
    ·have hf := MapKept.run_findKey (P := P) (w := w) hk q1
     refine ⟨undef, _, g, .skip, ?_, .inr ⟨rfl, rfl⟩, step_map h.inv hm hb hh (es' := es.push { key := .string ⟨key.toArray⟩, val := a.eval v, born := clock }) (clock' := clock + 1) (by simpa using q2 clock) (.junk _)⟩
     simp only [execOp, ho, e1, hrk.str_inv]
     simp [Instr.mapUpdate, run_underlying hu, hget, hck, hf, MapKept.run_setObj_map _ hh, Result.andThen]
    ·have hf := MapKept.run_findKey (P := P) (w := w) hk q1
     rw [Nat.zero_add] at hf
     have hkey : ((es[j]?).map (·.key)).getD (.string ⟨key.toArray⟩) = .string ⟨key.toArray⟩ := by
      have : es[j]? = some e0 := by rw [← Array.getElem?_toList]; exact q2
      rw [this]; exact q3
     refine ⟨undef, _, g, .skip, ?_, .inr ⟨rfl, rfl⟩, step_map h.inv hm hb hh (es' := es.modify j fun e => { e with key := .string ⟨key.toArray⟩, val := a.eval v }) (clock' := clock) (by simpa using q4) (.junk _)⟩
     simp only [execOp, ho, e1, hrk.str_inv]
     simp [Instr.mapUpdate, run_underlying hu, hget, hck, hf, hkey, keyThatStays_same, MapKept.run_setObj_map _ hh, Result.andThen]
   ·cases hex
  ·cases hex
 ·cases hex
theorem does_mapdel {t t2 kt et : TypeId} {o : Oper} {x k : Operand} {y y' : Arg} (h : At P B w0 w m g n n' s a) (hu : P.underlying t = some (.map kt et)) (hk : P.underlying kt = some .string)
  (hx : trArg x = some y) (hy : trArg k = some y') (ho : o.op = .call { callee := .builtin .delete, args := #[x, k], argTypes := #[t, t2] }) (hex : exec s m n (.mapdel y y') = some (d, u, n')) : Does P B w0 g n w (Upd.app m u) d n' (execOp a.eval o) := by
 have hr := h.slots.arg hx
 have hrk := h.slots.arg hy
 have run : ∀ v w1, (Builtin.delete_ #[t, t2] o.type #[a.eval x, a.eval k]).run P w = .ok v w1 → (execOp a.eval o).run P w = .ok (.value v) w1 := by
  intro v w1 e1
  simp only [execOp, ho, resolve, invoke, builtin, Sem.run_bind, Sem.run_pure, Result.andThen_ok, List.map_toArray, List.map_cons, List.map_nil, e1]
 have htup : ∀ g : Gm, Rep g (.tup []) (.tuple #[]) := fun g => .tup [] [] rfl (by simp)
 simp only [exec] at hex
 split at hex
 ·rename_i key ek
  rw [ek] at hrk
  have hck := fun em => MapKept.run_checkKey (P := P) (w := w) hk (isKey_str ⟨key.toArray⟩) em 9999
  split at hex
  ·rename_i ex
   rw [ex] at hr
   refine .pureE h.inv (run (.tuple #[]) w ?_) (htup g) hex
   rw [hr.nilm_inv, hrk.str_inv]
   simp [Builtin.delete_, run_underlying hu, hck, Result.andThen]
  ·rename_i i ex
   rw [ex] at hr
   obtain ⟨b, C, e1, hb⟩ := hr.map_inv
   split at hex
   ·rename_i ks vs hm
    obtain ⟨hB, es, clock, hh, hents⟩ := h.inv.map hm hb
    have hget := MapKept.run_getObj_map (P := P) hh
    rw [Option.map_eq_some_iff] at hex
    obtain ⟨r, hr', hex⟩ := hex
    simp only [Prod.mk.injEq] at hex
    obtain ⟨rfl, rfl, rfl⟩ := hex
    rcases delK_sound 0 hents hr' with ⟨q1, q2⟩ | ⟨j, v, q1, q2, q3⟩
    ·have hf := MapKept.run_findKey (P := P) (w := w) hk q1
     refine ⟨_, _, g, _, run (.tuple #[]) _ ?_, .inl rfl, step_map h.inv hm hb hh (es' := es) (clock' := clock) q2 (htup g)⟩
     rw [e1, hrk.str_inv]
     simp [Builtin.delete_, run_underlying hu, hget, hck, hf, MapKept.run_setObj_map _ hh, Result.andThen]
    ·have hf := MapKept.run_findKey (P := P) (w := w) hk q1
     rw [Nat.zero_add] at hf
     refine ⟨_, _, g, _, run (.tuple #[]) _ ?_, .inl rfl, step_map h.inv hm hb hh (es' := es.eraseIdxIfInBounds j) (clock' := clock) ?_ (htup g)⟩
     ·rw [e1, hrk.str_inv]
      simp [Builtin.delete_, run_underlying hu, hget, hck, hf, MapKept.run_setObj_map _ hh, Result.andThen]
     ·have hj : j < es.size := by simpa using q2
      rw [Array.eraseIdxIfInBounds, dif_pos hj]
      simpa using q3
   ·cases hex
  ·cases hex
 ·cases hex
theorem does_lenm {t kt et : TypeId} {o : Oper} {x : Operand} {y : Arg} (h : At P B w0 w m g n n' s a) (hu : P.underlying t = some (.map kt et))
  (hx : trArg x = some y) (ho : o.op = .call { callee := .builtin .len, args := #[x], argTypes := #[t] }) (hex : exec s m n (.lenm y) = some (d, u, n')) : Does P B w0 g n w (Upd.app m u) d n' (execOp a.eval o) := by
 have hr := h.slots.arg hx
 have run : ∀ n, (Builtin.len_ #[t] o.type #[a.eval x]).run P w = .ok (goInt n) w → (execOp a.eval o).run P w = .ok (.value (.int .i64 n)) w := by
  intro n e
  simp only [execOp, ho, resolve, invoke, builtin, Sem.run_bind, Sem.run_pure, Result.andThen_ok, List.map_toArray, List.map_cons, List.map_nil, e]
  rfl
 simp only [exec] at hex
 split at hex
 ·rename_i ex
  rw [ex] at hr
  refine .pureE h.inv (run 0 ?_) (.int _ _) hex
  rw [hr.nilm_inv]
  simp [Builtin.len_, run_underlying hu, goInt]
 ·rename_i i ex
  rw [ex] at hr
  obtain ⟨b, C, e1, hb⟩ := hr.map_inv
  split at hex
  ·rename_i ks vs hm
   obtain ⟨hB, es, clock, hh, hents⟩ := h.inv.map hm hb
   refine .pureE h.inv (run _ ?_) (.int _ _) hex
   rw [e1]
   have := hents.len.1
   simp [Builtin.len_, run_underlying hu, MapKept.run_getObj_map (P := P) hh, goInt, this]
  ·cases hex
 ·cases hex
end
end Go.Ve

namespace Go.Ve
open Go.RowKit
set_option linter.unusedSimpArgs false
set_option linter.unusedVariables false
section
variable {P : Program} {B : Nat} {w0 w : World} {m : Mem} {g : Gm} {n n' : Nat} {s : Nat → D} {a : Act} {d : D} {u : Upd}
theorem isSlice_some {P : Program} {u : TypeId} (h : isSlice P u = true) : ∃ e, P.underlying u = some (.slice e) := by
 unfold isSlice at h
 split at h
 ·rename_i e he; exact ⟨e, he⟩
 ·cases h
theorem call_eq {c : Call} {b : Builtin} {xs : List Operand} {ts : List TypeId} (h1 : c.callee = .builtin b) (h2 : c.args.toList = xs) (h3 : c.argTypes.toList = ts) : c = { callee := .builtin b, args := xs.toArray, argTypes := ts.toArray } := by
 cases c; simp only at h1 h2 h3 ⊢
 subst h1 h2 h3
 simp
theorem does_call {o : Oper} {c : Call} {dop : DOp} (h : At P B w0 w m g n n' s a) (hop : o.op = .call c) (htr : trCall P c = some dop) (hnc : ∀ f xs, dop ≠ .call f xs) (hex : exec s m n dop = some (d, u, n')) :
  Does P B w0 g n w (Upd.app m u) d n' (execOp a.eval o) := by
 have map1 : ∀ {x : Operand} {F : Arg → DOp}, (trArg x).map F = some dop → ∃ y, trArg x = some y ∧ dop = F y := by
  intro x F e
  rw [Option.map_eq_some_iff] at e
  obtain ⟨y, h1, h2⟩ := e
  exact ⟨y, h1, h2.symm⟩
 unfold trCall at htr
 split at htr
 ·split at htr
  ·simp only [Option.some.injEq] at htr; exact absurd htr.symm (hnc _ _)
  ·cases htr
 ·rename_i hcal
  split at htr
  ·rename_i x t hargs htys
   obtain rfl := call_eq hcal hargs htys
   have lenRun : ∀ n, (Builtin.len_ #[t] o.type #[a.eval x]).run P w = .ok (goInt n) w → (execOp a.eval o).run P w = .ok (.value (.int .i64 n)) w := by
    intro n e
    simp only [execOp, hop, resolve, invoke, builtin, Sem.run_bind, Sem.run_pure, Result.andThen_ok, List.map_toArray, List.map_cons, List.map_nil, e]
    rfl
   split at htr
   ·rename_i hu
    obtain ⟨y, hx, rfl⟩ := map1 htr
    have hr := h.slots.arg hx
    simp only [exec] at hex
    refine .pureM h.inv hex (fun q hq => ?_)
    unfold lenD at hq
    split at hq
    ·rename_i b _ e
     rw [e] at hr
     simp only [Option.some.injEq] at hq; subst hq
     have hl : (Builtin.len_ #[t] o.type #[a.eval x]).run P w = .ok (goInt (b.length : Int)) w := by
      have hsz : (ByteArray.mk b.toArray).size = b.length := by simp [ByteArray.size]
      simp [Builtin.len_, run_underlying hu, hr.str_inv, hsz]
     exact ⟨_, lenRun _ hl, .int _ _⟩
    all_goals first | (rename_i hf _; cases hf; done) | (rename_i hf; cases hf; done) | (cases hq; done)
   ·rename_i e hu
    obtain ⟨y, hx, rfl⟩ := map1 htr
    have hr := h.slots.arg hx
    simp only [exec] at hex
    refine .pureM h.inv hex (fun q hq => ?_)
    have key : ∃ ad cc, a.eval x = .slice ad q cc := by
     unfold lenD at hq
     split at hq
     ·rename_i hf _; cases hf
     ·rename_i e'; rw [e'] at hr; simp only [Option.some.injEq] at hq; subst hq; obtain ⟨b, c, C, e1, _⟩ := hr.rsl_inv; exact ⟨_, _, e1⟩
     ·rename_i e'; rw [e'] at hr; simp only [Option.some.injEq] at hq; subst hq; obtain ⟨b, c, e1⟩ := hr.esl_inv; exact ⟨_, _, e1⟩
     ·rename_i e'; rw [e'] at hr; simp only [Option.some.injEq] at hq; subst hq; obtain ⟨b, e1⟩ := hr.esl0_inv; exact ⟨_, _, e1⟩
     ·rename_i e'; rw [e'] at hr; simp only [Option.some.injEq] at hq; subst hq; exact ⟨_, _, hr.nils_inv⟩
     ·cases hq
    obtain ⟨ad, cc, e1⟩ := key
    have hl : (Builtin.len_ #[t] o.type #[a.eval x]).run P w = .ok (goInt (q : Int)) w := by
     simp [Builtin.len_, run_underlying hu, e1]
    exact ⟨_, lenRun _ hl, .int _ _⟩
   ·rename_i kt et hu
    obtain ⟨y, hx, rfl⟩ := map1 htr
    exact does_lenm h hu hx hop hex
   ·cases htr
  ·cases htr
 ·rename_i hcal
  split at htr
  ·rename_i x t hargs htys
   obtain rfl := call_eq hcal hargs htys
   split at htr
   ·rename_i e hu
    obtain ⟨y, hx, rfl⟩ := map1 htr
    have hr := h.slots.arg hx
    have capRun : ∀ ad, a.eval x = .slice ad 0 0 → (execOp a.eval o).run P w = .ok (.value (.int .i64 0)) w := by
     intro ad e1
     have : (Builtin.cap_ #[t] o.type #[a.eval x]).run P w = .ok (.int .i64 0) w := by
      simp [Builtin.cap_, run_underlying hu, e1, goInt]
     simp only [execOp, hop, resolve, invoke, builtin, Sem.run_bind, Sem.run_pure, Result.andThen_ok, List.map_toArray, List.map_cons, List.map_nil, this]
    simp only [exec] at hex
    split at hex
    ·rename_i e'; rw [e'] at hr; exact .pureE h.inv (capRun _ hr.nils_inv) (.int _ _) hex
    ·rename_i e'; rw [e'] at hr; obtain ⟨ad, e1⟩ := hr.esl0_inv; exact .pureE h.inv (capRun _ e1) (.int _ _) hex
    ·cases hex
   ·cases htr
  ·cases htr
 ·rename_i hcal
  split at htr
  ·rename_i x y t t' hargs htys
   split at htr
   ·rename_i htt
    obtain rfl := call_eq hcal hargs htys
    split at htr
    ·rename_i e hu
     split at htr
     ·rename_i sz bytes p q he hx hy
      simp only [Option.some.injEq] at htr; subst htr
      exact does_app h hu he hx hy hop (htt.imp isSlice_some Vd.isStr_some) hex
     ·cases htr
    ·cases htr
   ·obtain rfl := call_eq hcal hargs htys
    split at htr
    ·rename_i kn e hu2 hu
     split at htr
     ·rename_i sz bytes z p q he hz hx hy
      simp only [Option.some.injEq] at htr; subst htr
      exact does_appz h hu hu2 he hz hx hy hop hex
     ·cases htr
    ·cases htr
  ·cases htr
 ·rename_i hcal
  split at htr
  ·rename_i x y t t' hargs htys
   obtain rfl := call_eq hcal hargs htys
   split at htr
   ·rename_i e hu
    split at htr
    ·rename_i sz p q hs hx hy
     simp only [Option.some.injEq] at htr; subst htr
     exact does_copy h hu hs hx hy hop hex
    ·cases htr
   ·cases htr
  ·cases htr
 ·rename_i hcal
  split at htr
  ·rename_i x t hargs htys
   obtain rfl := call_eq hcal hargs htys
   split at htr
   ·obtain ⟨y, hx, rfl⟩ := map1 htr
    exact does_sld (t0 := t) h hx hop hex
   ·cases htr
  ·cases htr
 ·rename_i hcal
  split at htr
  ·rename_i x y t t' hargs htys
   obtain rfl := call_eq hcal hargs htys
   split at htr
   ·rename_i e p q hu hx hy
    split at htr
    ·rename_i hc
     simp only [Option.some.injEq] at htr; subst htr
     exact does_ustr h hu hc hx hy hop hex
    ·cases htr
   ·cases htr
  ·cases htr
 ·rename_i hcal
  split at htr
  ·rename_i x y t t' hargs htys
   obtain rfl := call_eq hcal hargs htys
   split at htr
   ·rename_i kt et hu
    split at htr
    ·rename_i p q hk hx hy
     simp only [Option.some.injEq] at htr; subst htr
     exact does_mapdel h hu hk hx hy hop hex
    ·cases htr
   ·cases htr
  ·cases htr
 ·rename_i hcal
  split at htr
  ·rename_i x ys hl
   simp only [Option.some.injEq] at htr; subst htr
   exact does_mm h (by simpa using hcal) hl hop hex
  ·cases htr
 ·rename_i hcal
  split at htr
  ·rename_i x ys hl
   simp only [Option.some.injEq] at htr; subst htr
   exact does_mm h (by simpa using hcal) hl hop hex
  ·cases htr
 ·rename_i hcal
  split at htr
  ·rename_i x t hargs htys
   obtain rfl := call_eq hcal hargs htys
   split at htr
   ·rename_i e hu
    split at htr
    ·rename_i sz z p hs hz hx
     simp only [Option.some.injEq] at htr; subst htr
     have hr := h.slots.arg hx
     have clr : ∀ ad cc, a.eval x = .slice ad 0 cc → (execOp a.eval o).run P w = .ok (.value (.tuple #[])) w := by
      intro ad cc e1
      have : (Builtin.clear_ #[t] o.type #[a.eval x]).run P w = .ok (.tuple #[]) w := by
       cases ad <;> simp [Builtin.clear_, run_underlying hu, e1]
      simp only [execOp, hop, resolve, invoke, builtin, Sem.run_bind, Sem.run_pure, Result.andThen_ok, List.map_toArray, List.map_cons, List.map_nil, this]
     have ht : Rep g (.tup []) (.tuple #[]) := .tup [] [] rfl (by simp)
     simp only [exec] at hex
     split at hex
     ·rename_i e'; rw [e'] at hr; exact .pureE h.inv (clr _ _ hr.nils_inv) ht hex
     ·rename_i e'; rw [e'] at hr; obtain ⟨ad, c, e1⟩ := hr.esl_inv; exact .pureE h.inv (clr _ _ e1) ht hex
     ·rename_i e'; rw [e'] at hr; obtain ⟨ad, e1⟩ := hr.esl0_inv; exact .pureE h.inv (clr _ _ e1) ht hex
     ·rename_i e'; rw [e'] at hr; obtain ⟨b, c, C, e1, _⟩ := hr.rsl_inv; exact .pureE h.inv (clr _ _ e1) ht hex
     ·cases hex
    ·cases htr
   ·cases htr
  ·cases htr
 ·cases htr
theorem op_does {o : Oper} {dop : DOp} (h : At P B w0 w m g n n' s a) (htr : tr P o.op = some dop) (hnc : ∀ f xs, dop ≠ .call f xs) (hex : exec s m n dop = some (d, u, n')) :
  Does P B w0 g n w (Upd.app m u) d n' (execOp a.eval o) := by
 have map1 : ∀ {x : Operand} {F : Arg → DOp}, (trArg x).map F = some dop → ∃ y, trArg x = some y ∧ dop = F y := by
  intro x F e
  rw [Option.map_eq_some_iff] at e
  obtain ⟨y, h1, h2⟩ := e
  exact ⟨y, h1, h2.symm⟩
 cases hop : o.op <;> rw [hop] at htr <;> first | (simp only [tr] at htr; done) | skip
 case move x =>
  obtain ⟨y, hx, rfl⟩ := map1 htr
  exact .pureE h.inv (by simp [execOp, hop]) (h.slots.arg hx) hex
 case assign x =>
  obtain ⟨y, hx, rfl⟩ := map1 htr
  exact .pureE h.inv (by simp [execOp, hop]) (h.slots.arg hx) hex
 case pick c x y =>
  simp only [tr] at htr
  split at htr
  ·rename_i c' x' y' e1 e2 e3
   simp only [Option.some.injEq] at htr; subst htr
   simp only [exec] at hex
   split at hex
   ·rename_i b eb
    have hb := h.slots.arg e1
    rw [eb] at hb
    have hrun : (execOp a.eval o).run P w = .ok (.value (if b then a.eval x else a.eval y)) w := by
     simp [execOp, hop, hb.bool_inv, asBool]
    refine .pureE h.inv hrun ?_ hex
    cases b
    ·exact h.slots.arg e3
    ·exact h.slots.arg e2
   ·cases hex
  ·cases htr
 case alloc t =>
  simp only [tr] at htr
  rw [Option.map_eq_some_iff] at htr
  obtain ⟨z, hz, rfl⟩ := htr
  exact does_alloc h hz hop hex
 case box t x =>
  obtain ⟨y, hx, rfl⟩ := map1 htr
  exact does_box h hx hop hex
 case build t parts =>
  simp only [tr] at htr
  split at htr
  ·rename_i fields zs hu hz
   split at htr
   ·rename_i hok
    rw [Option.map_eq_some_iff] at htr
    obtain ⟨l, hl, rfl⟩ := htr
    exact does_build h hu hok hz hl hop hex
   ·cases htr
  ·rename_i len e zs hu hz
   split at htr
   ·rename_i sz hs
    rw [Option.map_eq_some_iff] at htr
    obtain ⟨l, hl, rfl⟩ := htr
    exact does_buildA h hu hs hz hl hop hex
   ·cases htr
  ·cases htr
 case buildSlice t len parts =>
  simp only [tr] at htr
  split at htr
  ·rename_i e hu
   split at htr
   ·rename_i sz bytes l he hl
    split at htr
    ·rename_i hc
     simp only [Option.some.injEq] at htr; subst htr
     exact does_bslice h hu he hl hc.1 hc.2 hop hex
    ·cases htr
   ·cases htr
  ·cases htr
 case load t x =>
  simp only [tr] at htr
  split at htr
  ·rename_i k y hk hx
   simp only [Option.some.injEq] at htr; subst htr
   exact does_load h hk hx hop hex
  ·cases htr
 case store t x v =>
  simp only [tr] at htr
  split at htr
  ·rename_i n y z hn hx hv
   simp only [Option.some.injEq] at htr; subst htr
   exact does_store h hn hx hv hop hex
  ·cases htr
 case nilCheck x =>
  obtain ⟨y, hx, rfl⟩ := map1 htr
  have hr := h.slots.arg hx
  simp only [exec] at hex
  split at hex
  ·rename_i i o' e; rw [e] at hr
   obtain ⟨b, C, e1, hb⟩ := hr.ptr_inv
   exact .pureE (v := a.eval x) h.inv (by simp [execOp, hop, e1]) hr hex
  ·rename_i f cs e; rw [e] at hr
   obtain ⟨vs, e1, _⟩ := hr.fn_inv
   exact .pureE (v := a.eval x) h.inv (by simp [execOp, hop, e1]) hr hex
  ·rename_i f cs e; rw [e] at hr
   obtain ⟨vs, e1, _⟩ := hr.fnb_inv
   exact .pureE (v := a.eval x) h.inv (by simp [execOp, hop, e1]) hr hex
  ·cases hex
 case binOp op t x y yt =>
  cases op
  case eql =>
   simp only [tr] at htr
   split at htr
   ·rename_i p q hx hy
    exact does_eq (ne := false) h hx hy htr hop hex
   ·cases htr
  case neq =>
   simp only [tr] at htr
   split at htr
   ·rename_i p q hx hy
    exact does_eq (ne := true) h hx hy htr hop hex
   ·cases htr
  all_goals
   simp only [tr] at htr
   split at htr
   ·rename_i p q hx hy
    simp only [Option.some.injEq] at htr; subst htr
    exact does_bin h hx hy hop hex
   ·cases htr
 case unOp op t x =>
  obtain ⟨y, hx, rfl⟩ := map1 htr
  simp only [exec] at hex
  refine .pureM h.inv hex (fun d' h1 => ?_)
  obtain ⟨v, e1, e2⟩ := un_sound (P := P) (w := w) (h.slots.arg hx) h1
  exact ⟨v, by simp only [execOp, hop, Sem.run_bind, e1, Result.andThen_ok, Sem.run_pure], e2⟩
 case convert src dst x =>
  simp only [tr] at htr
  split at htr
  ·rename_i k1 k y hs hd hx
   simp only [Option.some.injEq] at htr; subst htr
   have hr := h.slots.arg hx
   simp only [exec] at hex
   split at hex
   ·rename_i k' v e
    rw [e] at hr
    refine .pureE (v := .int k (k.wrap v)) h.inv ?_ (.int _ _) hex
    simp [execOp, hop, hr.int_inv, convert, run_underlying hs, run_underlying hd, Conv.intToInt]
   ·cases hex
  ·rename_i y hs hd hx
   simp only [Option.some.injEq] at htr; subst htr
   have hr := h.slots.arg hx
   simp only [exec] at hex
   split at hex
   ·rename_i b e
    rw [e] at hr
    refine .pureE (v := a.eval x) h.inv ?_ hr hex
    simp [execOp, hop, hr.str_inv, convert, run_underlying hs, run_underlying hd]
   ·cases hex
  ·rename_i e y hs hd hx
   split at htr
   ·rename_i bytes he hel
    simp only [Option.some.injEq] at htr; subst htr
    exact does_s2b h hs hd he hel hx hop hex
   ·cases htr
  ·rename_i e y hs hd hx
   split at htr
   ·rename_i he
    simp only [Option.some.injEq] at htr; subst htr
    exact does_b2s h hs hd he hx hop hex
   ·cases htr
  ·rename_i e y hs hd hx
   split at htr
   ·rename_i k hk
    simp only [Option.some.injEq] at htr; subst htr
    exact does_toU h hs hd hk hx hop hex
   ·cases htr
  ·rename_i e y hs hd hx
   split at htr
   ·rename_i sz hsz
    split at htr
    ·rename_i hl
     simp only [Option.some.injEq] at htr; subst htr
     exact does_fromU h hs hd hsz hl hx hop hex
    ·cases htr
   ·cases htr
  ·cases htr
 case fieldAddr t x f =>
  simp only [tr] at htr
  split at htr
  ·rename_i fields y hu hx
   split at htr
   ·rename_i fd hf
    split at htr
    ·rename_i n hn
     simp only [Option.some.injEq] at htr; subst htr
     exact does_faddr h hu hf hn hx hop hex
    ·cases htr
   ·cases htr
  ·cases htr
 case field t x f =>
  simp only [tr] at htr
  split at htr
  ·rename_i fields y hu hx
   split at htr
   ·rename_i fd hf
    rw [Option.map_eq_some_iff] at htr
    obtain ⟨k, hk, rfl⟩ := htr
    exact does_field h hu hf hk hx hop hex
   ·cases htr
  ·cases htr
 case indexAddr t x i =>
  simp only [tr] at htr
  split at htr
  ·rename_i e y z hu hx hi
   rw [Option.map_eq_some_iff] at htr
   obtain ⟨n, hn, rfl⟩ := htr
   exact does_iaddr h hu hn hx hi hop hex
  ·rename_i len e y z hu hx hi
   rw [Option.map_eq_some_iff] at htr
   obtain ⟨n, hn, rfl⟩ := htr
   exact does_iaddra h hu hn hx hi hop hex
  ·cases htr
 case index t x i =>
  simp only [tr] at htr
  split at htr
  ·rename_i y z hu hx hi
   simp only [Option.some.injEq] at htr; subst htr
   exact does_idxs h hu hx hi hop hex
  ·rename_i len e y z hu hx hi
   split at htr
   ·rename_i sz k hs hk
    simp only [Option.some.injEq] at htr; subst htr
    exact does_idxa h hu hs hk hx hi hop hex
   ·cases htr
  ·cases htr
 case slice t x lo hi mx =>
  cases mx with
  | some mx =>
   simp only [tr] at htr
   split at htr
   ·rename_i e y l' m' hu hx hlo hmx
    split at htr
    ·rename_i sz hi' hs
     split at htr
     ·rename_i h' hhi
      simp only [Option.some.injEq] at htr; subst htr
      exact does_cutm h hu hs hx hlo hhi hmx hop hex
     ·cases htr
    ·cases htr
   ·cases htr
  | none =>
   simp only [tr] at htr
   split at htr
   ·rename_i y l' h' hu hx hlo hhi
    simp only [Option.some.injEq] at htr; subst htr
    exact does_cuts h hu hx hlo hhi hop hex
   ·rename_i e y l' h' hu hx hlo hhi
    rw [Option.map_eq_some_iff] at htr
    obtain ⟨n, hn, rfl⟩ := htr
    exact does_cutl h hu hn hx hlo hhi hop hex
   ·rename_i len e y l' h' hu hx hlo hhi
    rw [Option.map_eq_some_iff] at htr
    obtain ⟨n, hn, rfl⟩ := htr
    exact does_cuta h hu hn hx hlo hhi hop hex
   ·cases htr
 case sliceToArrayPointer t x =>
  simp only [tr] at htr
  split at htr
  ·rename_i len e y hu hx
   simp only [Option.some.injEq] at htr; subst htr
   exact does_s2a h hu hx hop hex
  ·cases htr
 case makeInterface t x =>
  simp only [tr] at htr
  split at htr
  ·cases htr
  ·rename_i td y hni hu hx
   simp only [Option.some.injEq] at htr; subst htr
   have hr := h.slots.arg hx
   simp only [exec] at hex
   split at hex
   ·rename_i hc
    refine .pureE (v := .iface t (a.eval x)) h.inv ?_ (.iface t _ _ hr) hex
    simp only [execOp, hop, Instr.makeInterface, Sem.run_bind, run_underlying hu, Result.andThen_ok]
    cases td <;> first | exact absurd rfl (hni _) | rfl
   ·cases hex
  ·cases htr
 case typeAssert x xt t ok =>
  simp only [tr] at htr
  split at htr
  ·cases htr
  ·rename_i td z y hni hu hz hx
   simp only [Option.some.injEq] at htr; subst htr
   exact does_tass h hu (fun ms e => hni ms (by rw [← e])) hz hx hop hex
  ·cases htr
 case extract x i =>
  obtain ⟨y, hx, rfl⟩ := map1 htr
  have hr := h.slots.arg hx
  simp only [exec] at hex
  split at hex
  ·rename_i ds e; rw [e] at hr
   obtain ⟨vs, e1, e2, e3⟩ := hr.tup_inv
   refine .pureM h.inv hex (fun d' hd => ?_)
   have hv : i < vs.length := by rw [e2]; exact (List.getElem?_eq_some_iff.1 hd).1
   exact ⟨vs[i], by simp [execOp, hop, e1, Instr.extract, hv], e3 i d' _ hd (List.getElem?_eq_getElem hv)⟩
  ·cases hex
 case makeFunc fn first caps =>
  cases fn with
  | func f =>
   simp only [tr] at htr
   split at htr
   ·rename_i l hf hl
    simp only [Option.some.injEq] at htr; subst htr
    have hf0 : first = #[] := Array.toList_eq_nil_iff.1 hf
    subst hf0
    obtain ⟨a1, a2⟩ := h.slots.args hl
    simp only [exec] at hex
    refine .pureE (v := .func (.func f) #[] (caps.map a.eval)) h.inv (by simp [execOp, hop, Instr.makeFunc]) ?_ hex
    have := Rep.fn (g := g) f (l.map (·.ev s)) (caps.map a.eval).toList (by simpa using a1) (by simpa using a2)
    rwa [Array.toArray_toList] at this
   ·rename_i x r hf hl
    rw [Option.map_eq_some_iff] at htr
    obtain ⟨l, hl', rfl⟩ := htr
    have hc0 : caps = #[] := by
     cases hcl : caps.toList with
     | nil => exact Array.toList_eq_nil_iff.1 hcl
     | cons c cr =>
      rw [hcl] at hl
      simp only [trArgs] at hl
      split at hl <;> simp at hl
    subst hc0
    rw [← hf] at hl'
    obtain ⟨a1, a2⟩ := h.slots.args hl'
    simp only [exec] at hex
    refine .pureE (v := .func (.func f) (first.map a.eval) #[]) h.inv (by simp [execOp, hop, Instr.makeFunc]) ?_ hex
    have := Rep.fnb (g := g) f (l.map (·.ev s)) (first.map a.eval).toList (by simpa using a1) (by simpa using a2)
    rwa [Array.toArray_toList] at this
   ·cases htr
  | _ => simp only [tr] at htr; cases htr
 case makeSlice t x y =>
  simp only [tr] at htr
  split at htr
  ·rename_i e hu
   split at htr
   ·rename_i sz bytes z p q he hz hx hy
    simp only [Option.some.injEq] at htr; subst htr
    exact does_mksl h hu he hz hx hy hop hex
   ·cases htr
  ·cases htr
 case makeMap t r =>
  cases r with
  | none =>
   simp only [tr, Option.some.injEq] at htr; subst htr
   exact does_mkmap h hop hex
  | some r => simp only [tr] at htr; cases htr
 case lookup t x k ok =>
  simp only [tr] at htr
  split at htr
  ·rename_i kt et hu
   split at htr
   ·rename_i z y y' hk hz hx hy
    simp only [Option.some.injEq] at htr; subst htr
    exact does_lookup h hu hk hz hx hy hop hex
   ·cases htr
  ·cases htr
 case mapUpdate t x k v =>
  simp only [tr] at htr
  split at htr
  ·rename_i kt et hu
   split at htr
   ·rename_i y y' z hk hx hy hv
    simp only [Option.some.injEq] at htr; subst htr
    exact does_mapset h hu hk hx hy hv hop hex
   ·cases htr
  ·cases htr
 case range t x =>
  simp only [tr] at htr
  split at htr
  ·rename_i y hu hx
   simp only [Option.some.injEq] at htr; subst htr
   exact does_range h hu hx hop hex
  ·cases htr
 case next x isS =>
  cases isS with
  | true =>
   obtain ⟨y, hx, rfl⟩ := map1 htr
   exact does_next h hx hop hex
  | false => simp only [tr] at htr; cases htr
 case call c => exact does_call h hop htr hnc hex
 all_goals (simp [tr] at htr)
end
end Go.Ve

namespace Go.Ve
open Go.RowKit
set_option linter.unusedSimpArgs false
set_option linter.unusedVariables false
inductive Tr (α : Type) where
 | nil
 | node (x : Option α) (l r : Tr α)
def Tr.get {α : Type} : Tr α → Nat → Option α
 | .nil, _ => none
 | .node x l r, n => match n with
  | 0 => x
  | k + 1 => bif Nat.beq (k % 2) 0 then l.get (k / 2) else r.get (k / 2)
def Tr.putF {α : Type} (x : Option α) : Nat → Tr α → Nat → Tr α
 | 0, t, _ => t
 | f + 1, t, n => match t with
  | .nil => (match n with
   | 0 => .node x .nil .nil
   | k + 1 => bif Nat.beq (k % 2) 0 then .node none (Tr.putF x f .nil (k / 2)) .nil else .node none .nil (Tr.putF x f .nil (k / 2)))
  | .node y l r => match n with
   | 0 => .node x l r
   | k + 1 => bif Nat.beq (k % 2) 0 then .node y (Tr.putF x f l (k / 2)) r else .node y l (Tr.putF x f r (k / 2))
def Tr.put {α : Type} (t : Tr α) (n : Nat) (x : Option α) : Tr α := Tr.putF x (n + 1) t n
theorem Tr.get_nil {α : Type} (n : Nat) : (Tr.nil : Tr α).get n = none := by cases n <;> rfl
theorem Tr.get_zero {α : Type} (x : Option α) (l r : Tr α) : (Tr.node x l r).get 0 = x := rfl
theorem Tr.get_succ {α : Type} (x : Option α) (l r : Tr α) (k : Nat) : (Tr.node x l r).get (k + 1) = if k % 2 = 0 then l.get (k / 2) else r.get (k / 2) := by
 simp only [Tr.get]
 by_cases h : k % 2 = 0
 ·simp [h]
 ·have : Nat.beq (k % 2) 0 = false := by rw [Bool.eq_false_iff]; intro e; exact h (Nat.eq_of_beq_eq_true e)
  simp [h, this]
theorem half_inj {k j : Nat} (h1 : k / 2 = j / 2) (h2 : k % 2 = j % 2) : k = j := by omega
theorem Tr.get_putF {α : Type} (x : Option α) : ∀ (f : Nat) (t : Tr α) (n j : Nat), n < f → (Tr.putF x f t n).get j = if j = n then x else t.get j
 | 0, t, n, j, h => by omega
 | f + 1, t, n, j, h => by
  have beq : ∀ k : Nat, Nat.beq (k % 2) 0 = decide (k % 2 = 0) := by
   intro k
   by_cases hk : k % 2 = 0
   ·simp [hk]
   ·rw [decide_eq_false hk, Bool.eq_false_iff]; intro e; exact hk (Nat.eq_of_beq_eq_true e)
  cases t with
  | nil =>
   cases n with
   | zero =>
    simp only [Tr.putF]
    cases j with
    | zero => simp [Tr.get]
    | succ j => rw [Tr.get_succ]; simp [Tr.get_nil]
   | succ k =>
    simp only [Tr.putF, beq]
    by_cases hk : k % 2 = 0
    ·simp only [hk, decide_true, cond_true]
     cases j with
     | zero => simp [Tr.get]
     | succ j =>
      rw [Tr.get_succ, Tr.get_putF x f .nil (k / 2) (j / 2) (by omega)]
      by_cases hj : j % 2 = 0
      ·rw [if_pos hj]
       by_cases he : j / 2 = k / 2
       ·rw [if_pos he, if_pos (by omega)]
       ·rw [if_neg he, if_neg (by omega), Tr.get_nil, Tr.get_nil]
      ·rw [if_neg hj, if_neg (by omega), Tr.get_nil, Tr.get_nil]
    ·simp only [hk, decide_false, cond_false]
     cases j with
     | zero => simp [Tr.get]
     | succ j =>
      rw [Tr.get_succ, Tr.get_putF x f .nil (k / 2) (j / 2) (by omega)]
      by_cases hj : j % 2 = 0
      ·rw [if_pos hj, if_neg (by omega), Tr.get_nil, Tr.get_nil]
      ·rw [if_neg hj]
       by_cases he : j / 2 = k / 2
       ·rw [if_pos he, if_pos (by omega)]
       ·rw [if_neg he, if_neg (by omega), Tr.get_nil, Tr.get_nil]
  | node y l r =>
   cases n with
   | zero =>
    simp only [Tr.putF]
    cases j with
    | zero => simp [Tr.get]
    | succ j => rw [Tr.get_succ, Tr.get_succ]; simp
   | succ k =>
    simp only [Tr.putF, beq]
    by_cases hk : k % 2 = 0
    ·simp only [hk, decide_true, cond_true]
     cases j with
     | zero => simp [Tr.get]
     | succ j =>
      rw [Tr.get_succ, Tr.get_succ, Tr.get_putF x f l (k / 2) (j / 2) (by omega)]
      by_cases hj : j % 2 = 0
      ·rw [if_pos hj, if_pos hj]
       by_cases he : j / 2 = k / 2
       ·rw [if_pos he, if_pos (by omega)]
       ·rw [if_neg he, if_neg (by omega)]
      ·rw [if_neg hj, if_neg hj, if_neg (by omega)]
    ·simp only [hk, decide_false, cond_false]
     cases j with
     | zero => simp [Tr.get]
     | succ j =>
      rw [Tr.get_succ, Tr.get_succ, Tr.get_putF x f r (k / 2) (j / 2) (by omega)]
      by_cases hj : j % 2 = 0
      ·rw [if_pos hj, if_pos hj, if_neg (by omega)]
      ·rw [if_neg hj, if_neg hj]
       by_cases he : j / 2 = k / 2
       ·rw [if_pos he, if_pos (by omega)]
       ·rw [if_neg he, if_neg (by omega)]
theorem Tr.get_put {α : Type} (t : Tr α) (n : Nat) (x : Option α) (j : Nat) : (t.put n x).get j = if j = n then x else t.get j := Tr.get_putF x (n + 1) t n j (Nat.lt_succ_self n)
abbrev Mt := Tr Ob
def Mt.app (m : Mt) : Upd → Mt
 | [] => m
 | (i, x) :: u => Mt.app (Tr.put m i x) u
theorem Mt.app_get : ∀ (u : Upd) (m : Mt), (Mt.app m u).get = Upd.app m.get u
 | [], m => rfl
 | (i, x) :: u, m => by
  simp only [Mt.app, Upd.app]
  rw [Mt.app_get u]
  congr 1
  funext j
  simp only [Tr.get_put, Mem.put]
def Arg.uses : Arg → List Nat
 | .t n => [n]
 | .c _ => []
def optUses : Option Arg → List Nat
 | some a => a.uses
 | none => []
def DOp.uses : DOp → List Nat
 | .mv x | .box _ x | .load _ x | .nilchk x | .un _ x | .conv _ x | .s2s x | .s2b _ x | .b2s x | .faddr _ x | .field _ _ x | .mkif _ x | .tass _ _ _ x | .ext _ x | .len _ x | .cap x | .s2a _ x | .clear _ _ x | .range x | .next x | .toU x | .fromU _ _ x | .sld x | .lenm x => x.uses
 | .pick c a b => c.uses ++ a.uses ++ b.uses
 | .alloc _ _ | .stop | .mkmap => []
 | .build _ ps => ps.flatMap fun p => p.2.2.uses
 | .bslice _ _ ps => ps.flatMap Arg.uses
 | .store _ x y | .bin _ x y | .beq _ x y | .seq _ _ x y | .nileq _ _ x y | .ptreq _ x y | .iaddr _ x y | .iaddra _ _ x y | .idxs x y | .idxa _ _ _ x y | .app _ _ _ x y | .copy _ x y | .mksl _ _ _ _ x y | .appz _ _ _ _ x y | .ustr _ x y | .lookup _ _ x y | .mapdel x y => x.uses ++ y.uses
 | .mapset x y z => x.uses ++ y.uses ++ z.uses
 | .cuts x l h | .cutl _ x l h | .cuta _ _ x l h => x.uses ++ (optUses l ++ optUses h)
 | .cutm _ x l h mx => x.uses ++ (optUses l ++ optUses h) ++ optUses mx
 | .mkfn _ cs | .mkfnb _ cs => cs.flatMap Arg.uses
 | .mm _ x ys => x.uses ++ ys.flatMap Arg.uses
 | .call f xs => f.uses ++ xs.flatMap Arg.uses
def D.obj : D → List Nat
 | .ptr i _ => [i]
 | .rsl i _ _ => [i]
 | .map i => [i]
 | _ => []
def rds (s : Nat → D) : DOp → List Nat
 | .load _ x | .store _ x _ | .b2s x | .cuta _ _ x _ _ | .next x | .toU x | .fromU _ _ x | .ustr _ x _ | .lookup _ _ x _ | .mapset x _ _ | .mapdel x _ | .lenm x => (x.ev s).obj
 | .app _ _ _ x y | .copy _ x y => (x.ev s).obj ++ (y.ev s).obj
 | _ => []
theorem Arg.ev_congr {x : Arg} {s s' : Nat → D} (h : ∀ t ∈ x.uses, s t = s' t) : x.ev s = x.ev s' := by
 cases x with
 | t n => exact h n (List.mem_singleton.2 rfl)
 | c d => rfl
theorem args_congr {xs : List Arg} {s s' : Nat → D} (h : ∀ t ∈ xs.flatMap Arg.uses, s t = s' t) : xs.map (·.ev s) = xs.map (·.ev s') :=
 List.map_congr_left fun x hx => Arg.ev_congr fun t ht => h t (List.mem_flatMap.2 ⟨x, hx, ht⟩)
theorem bound_congr {x : Option Arg} {s s' : Nat → D} (h : ∀ t ∈ optUses x, s t = s' t) (a b : Nat) : bound s x a b = bound s' x a b := by
 cases x with
 | none => rfl
 | some x => simp only [bound]; rw [Arg.ev_congr h]
theorem bounds_congr {x y : Option Arg} {s s' : Nat → D} (h : ∀ t ∈ optUses x ++ optUses y, s t = s' t) (a : Nat) : bounds s x y a = bounds s' x y a := by
 simp only [List.mem_append] at h
 simp only [bounds]
 rw [bound_congr (fun t ht => h t (.inr ht))]
 split
 ·rw [bound_congr (fun t ht => h t (.inl ht))]
 ·rfl
theorem exec_slots {op : DOp} {s s' : Nat → D} {m : Mem} {n : Nat} (hs : ∀ t ∈ op.uses, s t = s' t) : exec s m n op = exec s' m n op := by
 have two : ∀ {x y : Arg}, (∀ t ∈ x.uses ++ y.uses, s t = s' t) → x.ev s = x.ev s' ∧ y.ev s = y.ev s' := by
  intro x y h
  simp only [List.mem_append] at h
  exact ⟨Arg.ev_congr (fun t ht => h t (.inl ht)), Arg.ev_congr (fun t ht => h t (.inr ht))⟩
 cases op with
 | alloc t zs => rfl
 | stop => rfl
 | mkmap => rfl
 | call f xs => rfl
 | mv x => simp only [exec]; rw [Arg.ev_congr hs]
 | box t x => simp only [exec]; rw [Arg.ev_congr hs]
 | nilchk x => simp only [exec]; rw [Arg.ev_congr hs]
 | un op x => simp only [exec]; rw [Arg.ev_congr hs]
 | conv k x => simp only [exec]; rw [Arg.ev_congr hs]
 | s2s x => simp only [exec]; rw [Arg.ev_congr hs]
 | s2b e x => simp only [exec]; rw [Arg.ev_congr hs]
 | b2s x => simp only [exec]; rw [Arg.ev_congr hs]
 | faddr off x => simp only [exec]; rw [Arg.ev_congr hs]
 | field k off x => simp only [exec]; rw [Arg.ev_congr hs]
 | mkif t x => simp only [exec]; rw [Arg.ev_congr hs]
 | tass t ok z x => simp only [exec]; rw [Arg.ev_congr hs]
 | ext i x => simp only [exec]; rw [Arg.ev_congr hs]
 | len k x => simp only [exec]; rw [Arg.ev_congr hs]
 | cap x => simp only [exec]; rw [Arg.ev_congr hs]
 | s2a k x => simp only [exec]; rw [Arg.ev_congr hs]
 | clear sz z x => simp only [exec]; rw [Arg.ev_congr hs]
 | range x => simp only [exec]; rw [Arg.ev_congr hs]
 | next x => simp only [exec]; rw [Arg.ev_congr hs]
 | toU x => simp only [exec]; rw [Arg.ev_congr hs]
 | fromU t sz x => simp only [exec]; rw [Arg.ev_congr hs]
 | sld x => simp only [exec]; rw [Arg.ev_congr hs]
 | lenm x => simp only [exec]; rw [Arg.ev_congr hs]
 | load k x => simp only [exec]; rw [Arg.ev_congr hs]
 | pick c a b =>
  simp only [DOp.uses, List.mem_append] at hs
  simp only [exec]
  rw [Arg.ev_congr (fun t ht => hs t (.inl (.inl ht))), Arg.ev_congr (fun t ht => hs t (.inl (.inr ht))), Arg.ev_congr (fun t ht => hs t (.inr ht))]
 | build zs ps =>
  simp only [exec]
  have : (ps.map fun p => (p.1, p.2.1, p.2.2.ev s)) = ps.map fun p => (p.1, p.2.1, p.2.2.ev s') :=
   List.map_congr_left fun p hp => by rw [Arg.ev_congr fun t ht => hs t (List.mem_flatMap.2 ⟨p, hp, ht⟩)]
  rw [this]
 | bslice e sz ps =>
  have hp : ∀ p ∈ ps, p.ev s = p.ev s' := fun p hp => Arg.ev_congr fun t ht => hs t (List.mem_flatMap.2 ⟨p, hp, ht⟩)
  simp only [exec]
  have h1 : (ps.flatMap fun p => (p.ev s).cells) = ps.flatMap fun p => (p.ev s').cells := by
   simp only [List.flatMap_def]
   rw [List.map_congr_left (fun p hp' => by rw [hp p hp'])]
  rw [h1]
  have : (ps.all fun p => (p.ev s).data && (p.ev s).cells.length == sz) = ps.all fun p => (p.ev s').data && (p.ev s').cells.length == sz := by
   rw [Bool.eq_iff_iff, List.all_eq_true, List.all_eq_true]
   constructor
   ·intro h p hp'; rw [← hp p hp']; exact h p hp'
   ·intro h p hp'; rw [hp p hp']; exact h p hp'
  rw [this]
 | store n x v => obtain ⟨h1, h2⟩ := two hs; simp only [exec]; rw [h1, h2]
 | bin op x y => obtain ⟨h1, h2⟩ := two hs; simp only [exec]; rw [h1, h2]
 | beq ne x y => obtain ⟨h1, h2⟩ := two hs; simp only [exec]; rw [h1, h2]
 | seq ne l x y => obtain ⟨h1, h2⟩ := two hs; simp only [exec]; rw [h1, h2]
 | nileq ne k x y => obtain ⟨h1, h2⟩ := two hs; simp only [exec]; rw [h1, h2]
 | ptreq ne x y => obtain ⟨h1, h2⟩ := two hs; simp only [exec]; rw [h1, h2]
 | iaddr sz x y => obtain ⟨h1, h2⟩ := two hs; simp only [exec]; rw [h1, h2]
 | iaddra len sz x y => obtain ⟨h1, h2⟩ := two hs; simp only [exec]; rw [h1, h2]
 | idxs x y => obtain ⟨h1, h2⟩ := two hs; simp only [exec]; rw [h1, h2]
 | idxa len sz k x y => obtain ⟨h1, h2⟩ := two hs; simp only [exec]; rw [h1, h2]
 | mksl e sz b z x y => obtain ⟨h1, h2⟩ := two hs; simp only [exec]; rw [h1, h2]
 | appz e sz b z x y => obtain ⟨h1, h2⟩ := two hs; simp only [exec]; rw [h1, h2]
 | app e sz b x y => obtain ⟨h1, h2⟩ := two hs; simp only [exec]; rw [h1, h2]
 | copy sz x y => obtain ⟨h1, h2⟩ := two hs; simp only [exec]; rw [h1, h2]
 | mkfn f cs => simp only [exec]; rw [args_congr hs]
 | mkfnb f cs => simp only [exec]; rw [args_congr hs]
 | ustr e x y => obtain ⟨h1, h2⟩ := two hs; simp only [exec]; rw [h1, h2]
 | lookup ok z x y => obtain ⟨h1, h2⟩ := two hs; simp only [exec]; rw [h1, h2]
 | mapdel x y => obtain ⟨h1, h2⟩ := two hs; simp only [exec]; rw [h1, h2]
 | mapset x y z =>
  simp only [DOp.uses, List.mem_append] at hs
  simp only [exec]
  rw [Arg.ev_congr (fun t ht => hs t (.inl (.inl ht))), Arg.ev_congr (fun t ht => hs t (.inl (.inr ht))), Arg.ev_congr (fun t ht => hs t (.inr ht))]
 | mm mx x ys =>
  simp only [DOp.uses, List.mem_append] at hs
  simp only [exec]
  rw [Arg.ev_congr (fun t ht => hs t (.inl ht)), args_congr (fun t ht => hs t (.inr ht))]
 | cuts x l h =>
  simp only [DOp.uses] at hs
  have hb := fun k => bounds_congr (x := l) (y := h) (s := s) (s' := s') (fun t ht => hs t (List.mem_append_right _ ht)) k
  simp only [exec, hb]
  rw [Arg.ev_congr (fun t ht => hs t (List.mem_append_left _ ht))]
 | cutl sz x l h =>
  simp only [DOp.uses] at hs
  have hb := fun k => bounds_congr (x := l) (y := h) (s := s) (s' := s') (fun t ht => hs t (List.mem_append_right _ ht)) k
  simp only [exec, hb]
  rw [Arg.ev_congr (fun t ht => hs t (List.mem_append_left _ ht))]
 | cuta len sz x l h =>
  simp only [DOp.uses] at hs
  have hb := fun k => bounds_congr (x := l) (y := h) (s := s) (s' := s') (fun t ht => hs t (List.mem_append_right _ ht)) k
  simp only [exec, hb]
  rw [Arg.ev_congr (fun t ht => hs t (List.mem_append_left _ ht))]
 | cutm sz x l h mx =>
  simp only [DOp.uses] at hs
  have hb := fun k => bounds_congr (x := l) (y := h) (s := s) (s' := s') (fun t ht => hs t (List.mem_append_left _ (List.mem_append_right _ ht))) k
  have hm := fun a b => bound_congr (x := mx) (s := s) (s' := s') (fun t ht => hs t (List.mem_append_right _ ht)) a b
  simp only [exec, hb, hm]
  rw [Arg.ev_congr (fun t ht => hs t (List.mem_append_left _ (List.mem_append_left _ ht)))]
def Sub (m M : Mem) : Prop := ∀ i ob, m i = some ob → M i = some ob
theorem slCells_mono {m M : Mem} {sz : Nat} {d : D} (h : ∀ i ∈ d.obj, ∀ ob, m i = some ob → M i = some ob) {r : Nat × List D} (hr : slCells m sz d = some r) : slCells M sz d = some r := by
 unfold slCells at hr ⊢
 split at hr
 ·rename_i i o n
  split at hr
  ·rename_i cs e hm
   simp only [h i (by simp [D.obj]) _ hm]
   exact hr
  ·cases hr
 ·exact hr
 ·exact hr
 ·exact hr
 ·cases hr
theorem appSrc_mono {m M : Mem} {sz : Nat} {d : D} (h : ∀ i ∈ d.obj, ∀ ob, m i = some ob → M i = some ob) {r : Nat × List D} (hr : appSrc m sz d = some r) : appSrc M sz d = some r := by
 unfold appSrc at hr ⊢
 split at hr
 ·exact hr
 ·exact slCells_mono h hr
theorem exec_mono {op : DOp} {s : Nat → D} {m M : Mem} {n : Nat} (h : ∀ i ∈ rds s op, ∀ ob, m i = some ob → M i = some ob) {r : D × Upd × Nat} (hr : exec s m n op = some r) : exec s M n op = some r := by
 cases op with
 | load k x =>
  simp only [exec] at hr ⊢
  simp only [rds] at h
  split at hr
  ·rename_i i o e
   split at hr
   ·rename_i cs e' hm
    rw [e] at h
    simp only [h i (by simp [D.obj]) _ hm]
    exact hr
   ·cases hr
  ·cases hr
 | store k x v =>
  simp only [exec] at hr ⊢
  simp only [rds] at h
  split at hr
  ·rename_i i o e
   split at hr
   ·rename_i cs e' hm
    rw [e] at h
    simp only [h i (by simp [D.obj]) _ hm]
    exact hr
   ·cases hr
  ·cases hr
 | b2s x =>
  simp only [exec] at hr ⊢
  simp only [rds] at h
  split at hr
  ·rename_i k cs e
   rw [slCells_mono h e]
   exact hr
  ·cases hr
 | cuta len sz x l hh =>
  simp only [exec] at hr ⊢
  simp only [rds] at h
  split at hr
  ·rename_i i o e
   split at hr
   ·rename_i cs hm
    rw [e] at h
    simp only [h i (by simp [D.obj]) _ hm]
    exact hr
   ·cases hr
  ·cases hr
 | next x =>
  simp only [exec] at hr ⊢
  simp only [rds] at h
  split at hr
  ·rename_i i e
   split at hr
   ·rename_i b pos hm
    rw [e] at h
    simp only [h i (by simp [D.obj]) _ hm]
    exact hr
   ·cases hr
  ·cases hr
 | app e sz b x y =>
  simp only [exec] at hr ⊢
  simp only [rds, List.mem_append] at h
  split at hr
  ·rename_i k ws ey
   rw [appSrc_mono (fun i hi => h i (.inr hi)) ey]
   simp only
   split at hr
   ·rename_i hk; rw [if_pos hk]; exact hr
   ·rename_i hk; rw [if_neg hk]
    split at hr
    ·exact hr
    ·exact hr
    ·rename_i i c ex
     split at hr
     ·rename_i cs e' hm
      simp only [h i (.inl (by rw [ex]; simp [D.obj])) _ hm]
      exact hr
     ·cases hr
    ·cases hr
  ·cases hr
 | copy sz x y =>
  simp only [exec] at hr ⊢
  simp only [rds, List.mem_append] at h
  split at hr
  ·rename_i k ws ey
   rw [appSrc_mono (fun i hi => h i (.inr hi)) ey]
   simp only
   split at hr
   ·rename_i i o c ex
    split at hr
    ·rename_i cs e' hm
     simp only [h i (.inl (by rw [ex]; simp [D.obj])) _ hm]
     exact hr
    ·cases hr
   ·exact hr
   ·exact hr
   ·exact hr
   ·cases hr
  ·cases hr
 | toU x =>
  simp only [exec] at hr ⊢
  simp only [rds] at h
  split at hr
  ·exact hr
  ·rename_i i e
   split at hr
   ·rename_i c0 cs kd hm
    rw [e] at h
    simp only [h i (by simp [D.obj]) _ hm]
    exact hr
   ·cases hr
  ·cases hr
 | fromU t sz x =>
  simp only [exec] at hr ⊢
  simp only [rds] at h
  split at hr
  ·exact hr
  ·rename_i i e
   split at hr
   ·rename_i cs t' hm
    rw [e] at h
    simp only [h i (by simp [D.obj]) _ hm]
    exact hr
   ·cases hr
  ·cases hr
 | ustr e x k =>
  simp only [exec] at hr ⊢
  simp only [rds] at h
  split at hr
  ·exact hr
  ·rename_i i k' ex ek
   split at hr
   ·rename_i cs e' hm
    rw [ex] at h
    simp only [h i (by simp [D.obj]) _ hm]
    exact hr
   ·cases hr
  ·cases hr
 | lookup ok z x k =>
  simp only [exec] at hr ⊢
  simp only [rds] at h
  split at hr
  ·split at hr
   ·exact hr
   ·rename_i i ex
    split at hr
    ·rename_i ks vs hm
     rw [ex] at h
     simp only [h i (by simp [D.obj]) _ hm]
     exact hr
    ·cases hr
   ·cases hr
  ·cases hr
 | mapset x k v =>
  simp only [exec] at hr ⊢
  simp only [rds] at h
  split at hr
  ·split at hr
   ·rename_i i ex
    split at hr
    ·rename_i ks vs hm
     rw [ex] at h
     simp only [h i (by simp [D.obj]) _ hm]
     exact hr
    ·cases hr
   ·cases hr
  ·cases hr
 | mapdel x k =>
  simp only [exec] at hr ⊢
  simp only [rds] at h
  split at hr
  ·split at hr
   ·exact hr
   ·rename_i i ex
    split at hr
    ·rename_i ks vs hm
     rw [ex] at h
     simp only [h i (by simp [D.obj]) _ hm]
     exact hr
    ·cases hr
   ·cases hr
  ·cases hr
 | lenm x =>
  simp only [exec] at hr ⊢
  simp only [rds] at h
  split at hr
  ·exact hr
  ·rename_i i ex
   split at hr
   ·rename_i ks vs hm
    rw [ex] at h
    simp only [h i (by simp [D.obj]) _ hm]
    exact hr
   ·cases hr
  ·cases hr
 | _ => exact hr
def DOp.mayW : DOp → Bool
 | .alloc .. | .box .. | .bslice .. | .mksl .. | .store .. | .app .. | .appz .. | .copy .. | .s2b .. | .range _ | .next _ | .call .. | .ustr .. | .mkmap | .mapset .. | .mapdel .. => true
 | _ => false
def DOp.mayR : DOp → Bool
 | .load .. | .store .. | .b2s _ | .cuta .. | .app .. | .copy .. | .next _ | .call .. | .toU _ | .fromU .. | .ustr .. | .lookup .. | .mapset .. | .mapdel .. | .lenm _ => true
 | _ => false
theorem exec_still {op : DOp} {s : Nat → D} {m : Mem} {n : Nat} (h : op.mayW = false) {d : D} {u : Upd} {n' : Nat} (hr : exec s m n op = some (d, u, n')) : u = [] ∧ n' = n := by
 have done : ∀ {d0 : D}, some (d0, ([] : Upd), n) = some (d, u, n') → u = [] ∧ n' = n := by
  intro d0 e
  simp only [Option.some.injEq, Prod.mk.injEq] at e
  exact ⟨e.2.1.symm, e.2.2.symm⟩
 have mapd : ∀ {α : Type} {q : Option α} {f : α → D}, (q.map fun y => (f y, ([] : Upd), n)) = some (d, u, n') → u = [] ∧ n' = n := by
  intro α q f e
  rw [Option.map_eq_some_iff] at e
  obtain ⟨y, _, e⟩ := e
  exact done (congrArg some e)
 cases op <;> first | (simp [DOp.mayW] at h; done) | skip
 all_goals simp only [exec] at hr
 all_goals repeat' (split at hr)
 all_goals first | exact done hr | exact mapd hr | (cases hr; done)
theorem rds_still {op : DOp} {s : Nat → D} (h : op.mayR = false) : rds s op = [] := by
 cases op <;> first | rfl | (simp [DOp.mayR] at h)
theorem exec_next {op : DOp} {s : Nat → D} {m : Mem} {n : Nat} {d : D} {u : Upd} {n' : Nat} (hr : exec s m n op = some (d, u, n')) : n ≤ n' := by
 have done : ∀ {d0 : D} {u0 : Upd}, some (d0, u0, n) = some (d, u, n') → n ≤ n' := by
  intro d0 u0 e
  simp only [Option.some.injEq, Prod.mk.injEq] at e
  omega
 have done1 : ∀ {d0 : D} {u0 : Upd}, some (d0, u0, n + 1) = some (d, u, n') → n ≤ n' := by
  intro d0 u0 e
  simp only [Option.some.injEq, Prod.mk.injEq] at e
  omega
 have mapd : ∀ {α : Type} {q : Option α} {f : α → D}, (q.map fun y => (f y, ([] : Upd), n)) = some (d, u, n') → n ≤ n' := by
  intro α q f e
  rw [Option.map_eq_some_iff] at e
  obtain ⟨y, _, e⟩ := e
  exact done (congrArg some e)
 have mapu : ∀ {α : Type} {q : Option α} {f : α → D} {k : α → Upd}, (q.map fun y => (f y, k y, n)) = some (d, u, n') → n ≤ n' := by
  intro α q f k e
  rw [Option.map_eq_some_iff] at e
  obtain ⟨y, _, e⟩ := e
  exact done (congrArg some e)
 cases op
 all_goals simp only [exec] at hr
 all_goals repeat' (split at hr)
 all_goals first | exact done hr | exact done1 hr | exact mapd hr | exact mapu hr | (cases hr; done)
end Go.Ve

namespace Go.Ve
open Go.RowKit
set_option linter.unusedSimpArgs false
set_option linter.unusedVariables false
structure ROp where
 dst : Option Nat
 op : DOp
 guard : Option (Nat × Bool)
abbrev CallF := FuncId → List D → Mt → Nat → Option (D × Mt × Nat × List Nat)
def updOld (u : Upd) (n : Nat) : List Nat := (u.map (·.1)).filter fun i => Nat.blt i n
def calleeOf : D → List D → Option (FuncId × List D)
 | .fn f caps, xs => some (f, xs ++ caps)
 | .fnb f first, xs => some (f, first ++ xs)
 | _, _ => none
def stepOp (call : CallF) (s : Nat → D) (m : Mt) (n : Nat) (op : DOp) : Option (D × Mt × Nat × List Nat) :=
 match op with
 | .call f xs => match calleeOf (f.ev s) (xs.map (·.ev s)) with
  | some (f, ds) => call f ds m n
  | none => none
 | op => match exec s m.get n op with
  | some (d, u, n') => bif u.all (fun p => Nat.blt p.1 n') then some (d, m.app u, n', updOld u n) else none
  | none => none
def guardG (s : Nat → D) : Option (Nat × Bool) → Option Bool
 | none => some true
 | some (t, b) => match s t with
  | .bool b' => some (b' == b)
  | .tup [] => some false
  | _ => none
structure After (P : Program) (B : Nat) (w0 : World) (M : Mem) (g : Gm) (n : Nat) (m' : Mem) (n' : Nat) (W : List Nat) (M' : Mem) (w' : World) (g' : Gm) : Prop where
 inv : Inv P B w0 M' w' g'
 sub : Sub m' M'
 le : g.le g'
 out : ∀ i, ¬ (n ≤ i ∧ i < n') → g' i = g i
 keep : ∀ i, i ∉ W → ¬ (n ≤ i ∧ i < n') → M' i = M i
def Runs (P : Program) (f : FuncId) (vs : List Value) (w : World) (post : Value → World → Prop) : Prop :=
 ((∃ fn, P.funcs[f]? = some fn ∧ fn.body.isSome = true ∧ (fn.name == "runtime.NumGoroutine") = false) ∧ Calls P f vs.toArray w fun e w' => ∃ v, e = .returned v ∧ post v w') ∨
 (∃ v w', (callFunc f vs.toArray).run P w = .ok (.value v) w' ∧ post v w')
def CallOk (P : Program) (call : CallF) : Prop := ∀ f ds m n d m' n' W, call f ds m n = some (d, m', n', W) →
 n ≤ n' ∧ (∀ i ∈ W, i < n) ∧ (∀ i, i ∉ W → ¬ (n ≤ i ∧ i < n') → m'.get i = m.get i) ∧
 ∀ (B : Nat) (w0 w : World) (M : Mem) (g : Gm) (vs : List Value), Sub m.get M → Inv P B w0 M w g → (∀ i, n ≤ i → i < n' → M i = none ∧ g i = none) →
  vs.length = ds.length → (∀ (j : Nat) d v, ds[j]? = some d → vs[j]? = some v → Rep g d v) →
  Runs P f vs w fun v w' => ∃ M' g', After P B w0 M g n m'.get n' W M' w' g' ∧ Rep g' d v
theorem app_out : ∀ (u : Upd) (m : Mem) (i : Nat), i ∉ u.map (·.1) → Upd.app m u i = m i
 | [], m, i, _ => rfl
 | (j, x) :: u, m, i, h => by
  simp only [List.map_cons, List.mem_cons, not_or] at h
  simp only [Upd.app]
  rw [app_out u _ i h.2, Mem.put_other h.1]
theorem app_in : ∀ (u : Upd) (m M : Mem) (i : Nat), i ∈ u.map (·.1) → Upd.app m u i = Upd.app M u i
 | [], m, M, i, h => by cases h
 | (j, x) :: u, m, M, i, h => by
  simp only [Upd.app]
  by_cases hi : i ∈ u.map (·.1)
  ·exact app_in u _ _ i hi
  ·simp only [List.map_cons, List.mem_cons] at h
   rw [app_out u _ i hi, app_out u _ i hi]
   rcases h with rfl | h
   ·simp [Mem.put]
   ·exact absurd h hi
theorem exec_new {op : DOp} {s : Nat → D} {m : Mem} {n : Nat} {d : D} {u : Upd} {n' : Nat} (hr : exec s m n op = some (d, u, n')) : n' = n ∨ (n' = n + 1 ∧ n ∈ u.map (·.1)) := by
 have done : ∀ {d0 : D} {u0 : Upd}, some (d0, u0, n) = some (d, u, n') → n' = n ∨ (n' = n + 1 ∧ n ∈ u.map (·.1)) := by
  intro d0 u0 e
  simp only [Option.some.injEq, Prod.mk.injEq] at e
  exact .inl e.2.2.symm
 have done1 : ∀ {d0 : D} {u0 : Upd}, n ∈ u0.map (·.1) → some (d0, u0, n + 1) = some (d, u, n') → n' = n ∨ (n' = n + 1 ∧ n ∈ u.map (·.1)) := by
  intro d0 u0 h e
  simp only [Option.some.injEq, Prod.mk.injEq] at e
  obtain ⟨_, rfl, rfl⟩ := e
  exact .inr ⟨rfl, h⟩
 have mapd : ∀ {α : Type} {q : Option α} {f : α → D}, (q.map fun y => (f y, ([] : Upd), n)) = some (d, u, n') → n' = n ∨ (n' = n + 1 ∧ n ∈ u.map (·.1)) := by
  intro α q f e
  rw [Option.map_eq_some_iff] at e
  obtain ⟨y, _, e⟩ := e
  exact done (congrArg some e)
 have mapu : ∀ {α : Type} {q : Option α} {f : α → D} {k : α → Upd}, (q.map fun y => (f y, k y, n)) = some (d, u, n') → n' = n ∨ (n' = n + 1 ∧ n ∈ u.map (·.1)) := by
  intro α q f k e
  rw [Option.map_eq_some_iff] at e
  obtain ⟨y, _, e⟩ := e
  exact done (congrArg some e)
 cases op
 all_goals simp only [exec] at hr
 all_goals repeat' (split at hr)
 all_goals first | exact done hr | exact done1 (by simp) hr | exact mapd hr | exact mapu hr | (cases hr; done)
theorem prim_facts {s : Nat → D} {m : Mem} {n : Nat} {op : DOp} {d : D} {u : Upd} {n' : Nat} (hex : exec s m n op = some (d, u, n')) (hall : (u.all fun p => Nat.blt p.1 n') = true) :
  n ≤ n' ∧ (∀ i ∈ updOld u n, i < n) ∧ ∀ i, i ∈ u.map (·.1) ↔ (i ∈ updOld u n ∨ (n ≤ i ∧ i < n')) := by
 have hlt : ∀ i ∈ u.map (·.1), i < n' := by
  intro i hi
  rw [List.mem_map] at hi
  obtain ⟨p, hp, rfl⟩ := hi
  have := List.all_eq_true.1 hall p hp
  exact Nat.le_of_ble_eq_true this
 have hblt : ∀ i, Nat.blt i n = true ↔ i < n := fun i => ⟨fun h => Nat.le_of_ble_eq_true h, fun h => Nat.ble_eq_true_of_le h⟩
 refine ⟨exec_next hex, fun i hi => ?_, fun i => ⟨fun hi => ?_, fun hi => ?_⟩⟩
 ·simp only [updOld, List.mem_filter] at hi
  exact (hblt i).1 hi.2
 ·have := hlt i hi
  by_cases h : i < n
  ·exact .inl (by simp only [updOld, List.mem_filter]; exact ⟨hi, (hblt i).2 h⟩)
  ·exact .inr ⟨by omega, this⟩
 ·rcases hi with hi | hi
  ·simp only [updOld, List.mem_filter] at hi; exact hi.1
  ·rcases exec_new hex with rfl | ⟨rfl, h⟩
   ·omega
   ·obtain rfl : i = n := by omega
    exact h
theorem stepOp_prim {call : CallF} {s : Nat → D} {m : Mt} {n : Nat} {op : DOp} (hnc : ∀ f xs, op ≠ .call f xs) : stepOp call s m n op = match exec s m.get n op with
  | some (d, u, n') => bif u.all (fun p => Nat.blt p.1 n') then some (d, m.app u, n', updOld u n) else none
  | none => none := by
 cases op <;> first | rfl | (exact absurd rfl (hnc _ _))
theorem stepOp_prim_some {call : CallF} {s : Nat → D} {m : Mt} {n : Nat} {op : DOp} (hnc : ∀ f xs, op ≠ .call f xs) {d : D} {m' : Mt} {n' : Nat} {W : List Nat} (h : stepOp call s m n op = some (d, m', n', W)) :
  ∃ u, exec s m.get n op = some (d, u, n') ∧ (u.all fun p => Nat.blt p.1 n') = true ∧ m' = m.app u ∧ W = updOld u n := by
 rw [stepOp_prim hnc] at h
 split at h
 ·rename_i d1 u n1 e
  cases hall : (u.all fun p => Nat.blt p.1 n1) with
  | true =>
   rw [hall] at h
   simp only [cond_true, Option.some.injEq, Prod.mk.injEq] at h
   obtain ⟨rfl, rfl, rfl, rfl⟩ := h
   exact ⟨u, e, hall, rfl, rfl⟩
  | false => rw [hall] at h; cases h
 ·cases h
section
variable {P : Program} {B : Nat} {w0 w : World} {M : Mem} {g : Gm} {n n' : Nat} {s : Nat → D} {a : Act} {d : D}
theorem stepOp_facts {call : CallF} (hc : CallOk P call) {m m' : Mt} {op : DOp} {W : List Nat} (h : stepOp call s m n op = some (d, m', n', W)) :
  n ≤ n' ∧ (∀ i ∈ W, i < n) ∧ (∀ i, i ∉ W → ¬ (n ≤ i ∧ i < n') → m'.get i = m.get i) := by
 by_cases hcall : ∃ f xs, op = .call f xs
 ·obtain ⟨f, xs, rfl⟩ := hcall
  simp only [stepOp] at h
  split at h
  ·obtain ⟨p, q, r, _⟩ := hc _ _ _ _ _ _ _ _ h
   exact ⟨p, q, r⟩
  ·cases h
 ·obtain ⟨u, e, hall, rfl, rfl⟩ := stepOp_prim_some (fun f xs e => hcall ⟨f, xs, e⟩) h
  obtain ⟨p, q, r⟩ := prim_facts e hall
  refine ⟨p, q, fun i h1 h2 => ?_⟩
  rw [Mt.app_get]
  exact app_out u _ i (fun hi => by rcases (r i).1 hi with h3 | h3; exact h1 h3; exact h2 h3)
theorem call_wp {o : Oper} {f : Arg} {xs : List Arg} {c : Call} {K : Act → World → Prop} {Q : Exit → Act → World → Prop} (hop : o.op = .call c) (htr : trCall P c = some (.call f xs)) (hs : Slots g s a)
  {fid : FuncId} {ds : List D} (ef : calleeOf (f.ev s) (xs.map (·.ev s)) = some (fid, ds)) {post : Value → World → Prop}
  (hrun : ∀ vs : List Value, vs.length = ds.length → (∀ (j : Nat) d v, ds[j]? = some d → vs[j]? = some v → Rep g d v) → Runs P fid vs w post)
  (hK : ∀ v w', post v w' → K (a.put o.dst v) w') : o.wp P a w K Q := by
 obtain ⟨fo, hcal, hf, hxs⟩ : ∃ fo, c.callee = .value fo ∧ trArg fo = some f ∧ trArgs c.args.toList = some xs := by
  unfold trCall at htr
  split at htr
  ·rename_i fo hcal
   split at htr
   ·rename_i g' ys e1 e2
    simp only [Option.some.injEq, DOp.call.injEq] at htr
    obtain ⟨rfl, rfl⟩ := htr
    exact ⟨fo, hcal, e1, e2⟩
   ·cases htr
  all_goals
   exfalso
   repeat' (split at htr)
   all_goals first | (simp at htr; done) | (rw [Option.map_eq_some_iff] at htr; obtain ⟨_, _, htr⟩ := htr; cases htr)
 have hrf := hs.arg hf
 obtain ⟨a1, a2⟩ := hs.args hxs
 have a1' : ((c.args.map a.eval).toList).length = (xs.map (·.ev s)).length := by simpa using a1
 have a2' : ∀ (j : Nat) d v, (xs.map (·.ev s))[j]? = some d → ((c.args.map a.eval).toList)[j]? = some v → Rep g d v := by simpa using a2
 have two : ∀ {ds ds' : List D} {us us' : List Value}, us.length = ds.length → (∀ (j : Nat) d v, ds[j]? = some d → us[j]? = some v → Rep g d v) → (∀ (j : Nat) d v, ds'[j]? = some d → us'[j]? = some v → Rep g d v) →
   ∀ (j : Nat) d v, (ds ++ ds')[j]? = some d → (us ++ us')[j]? = some v → Rep g d v := by
  intro ds ds' us us' l1 h1 h2 j d v hd hv
  by_cases hj : j < ds.length
  ·rw [List.getElem?_append_left hj] at hd
   rw [List.getElem?_append_left (by omega)] at hv
   exact h1 j d v hd hv
  ·rw [List.getElem?_append_right (by omega)] at hd
   rw [List.getElem?_append_right (by omega), l1] at hv
   exact h2 _ d v hd hv
 obtain ⟨us, hlen, hrep, hinv⟩ : ∃ us : List Value, us.length = ds.length ∧ (∀ (j : Nat) d v, ds[j]? = some d → us[j]? = some v → Rep g d v) ∧ ∀ W, (execOp a.eval o).run P W = (callFunc fid us.toArray).run P W := by
  unfold calleeOf at ef
  split at ef
  ·rename_i ef'
   simp only [Option.some.injEq, Prod.mk.injEq] at ef
   obtain ⟨rfl, rfl⟩ := ef
   rw [ef'] at hrf
   obtain ⟨vs, e1, e2, e3⟩ := hrf.fn_inv
   refine ⟨(c.args.map a.eval).toList ++ vs, by simp at a1' ⊢; omega, two a1' a2' e3, fun W => ?_⟩
   have harr : ((c.args.map a.eval).toList ++ vs).toArray = c.args.map a.eval ++ vs.toArray := by simp
   rw [harr]
   simp only [execOp, hop, resolve, hcal, e1, Deferred.ofValue, Sem.run_bind, Sem.run_pure, Result.andThen_ok, invoke]
   simp
  ·rename_i ef'
   simp only [Option.some.injEq, Prod.mk.injEq] at ef
   obtain ⟨rfl, rfl⟩ := ef
   rw [ef'] at hrf
   obtain ⟨vs, e1, e2, e3⟩ := hrf.fnb_inv
   refine ⟨vs ++ (c.args.map a.eval).toList, by simp at a1' ⊢; omega, two e2 e3 a2', fun W => ?_⟩
   have harr : (vs ++ (c.args.map a.eval).toList).toArray = vs.toArray ++ c.args.map a.eval := by simp
   rw [harr]
   simp only [execOp, hop, resolve, hcal, e1, Deferred.ofValue, Sem.run_bind, Sem.run_pure, Result.andThen_ok, invoke]
   simp
  ·cases ef
 have hR := hrun us hlen hrep
 unfold Runs at hR
 rcases hR with ⟨⟨fn, hfn, hbody, hname⟩, hcalls⟩ | ⟨v, w', hr, hp⟩
 ·have hbn : fn.body.isNone = false := by cases hb : fn.body <;> simp_all
  have hrun : (execOp a.eval o).run P w = .ok (.enter fid us.toArray) w := by
   rw [hinv]
   simp only [callFunc, Sem.run_bind, Sem.run_pure, Result.andThen_ok, run_program, hfn, hname, hbn, Bool.false_eq_true, if_false]
  unfold Oper.wp
  rw [hrun, Oper.upon_enter]
  refine hcalls.mono ?_
  rintro e w' ⟨v, rfl, hp⟩
  exact hK v w' hp
 ·unfold Oper.wp
  rw [hinv, hr]
  exact hK v w' hp
end
end Go.Ve

namespace Go.Ve
open Go.RowKit
set_option linter.unusedSimpArgs false
set_option linter.unusedVariables false
abbrev Sl := Tr D
def sg (s : Sl) (t : Nat) : D := (s.get t).getD .junk
def setD (s : Sl) (t : Option Nat) (d : D) : Sl := match t with
 | some t => s.put t (some d)
 | none => s
def setS (s : Nat → D) (t : Option Nat) (d : D) : Nat → D := match t with
 | some t => fun t' => if t' = t then d else s t'
 | none => s
theorem sg_set (s : Sl) (t : Option Nat) (d : D) : sg (setD s t d) = setS (sg s) t d := by
 cases t with
 | none => rfl
 | some t =>
  funext t'
  simp only [sg, setD, setS, Tr.get_put]
  split <;> rfl
def rowR (call : CallF) : List ROp → Sl → Mt → Nat → List Nat → Option (Sl × Mt × Nat × List Nat)
 | [], s, m, n, w => some (s, m, n, w)
 | o :: l, s, m, n, w => match guardG (sg s) o.guard with
  | some true => match stepOp call (sg s) m n o.op with
   | some (d, m', n', w') => rowR call l (setD s o.dst d) m' n' (w' ++ w)
   | none => none
  | some false => rowR call l (setD s o.dst (.tup [])) m n w
  | none => none
inductive Rd where
 | ids (l : List Nat)
 | mem (m : Mt)
def Rd.has : Rd → Nat → Bool
 | .ids l, i => l.contains i
 | .mem m, i => (m.get i).isSome
structure Rec where
 on : Bool
 s : Sl
 c : Mt
 v : Mt
 n0 : Nat
 d : D
 mv : Mt
 n1 : Nat
 w : List Nat
 rd : Rd
def hide (m : Mt) : List Nat → Mt
 | [] => m
 | i :: l => hide (Tr.put m i none) l
def unhide (m m' : Mt) (w : List Nat) (n n' : Nat) : List Nat → Mt
 | [] => m'
 | i :: l => unhide m (bif w.contains i || (Nat.ble n i && Nat.blt i n') then m' else Tr.put m' i (m.get i)) w n n' l
def hidIds (acc : List Rec) (hs : List Nat) : List Nat := hs.flatMap fun j => match acc[j]? with
 | some r => r.w ++ List.range' r.n0 (r.n1 - r.n0)
 | none => []
def isCall : DOp → Bool
 | .call _ _ => true
 | _ => false
def drawR (call : CallF) : List ROp → List (List Nat) → List Rec → Sl → Mt → Nat → Option (Sl × Mt × Nat × List Rec)
 | [], _, acc, s, m, n => some (s, m, n, acc)
 | o :: l, hs, acc, s, m, n => match guardG (sg s) o.guard with
  | some true =>
   if isCall o.op then
    match stepOp call (sg s) (hide m (hidIds acc (hs.headD []))) n o.op with
    | some (d, m', n', w) => drawR call l hs.tail (acc ++ [⟨true, s, m, hide m (hidIds acc (hs.headD [])), n, d, m', n', w, .mem (hide m (hidIds acc (hs.headD [])))⟩]) (setD s o.dst d) (unhide m m' w n n' (hidIds acc (hs.headD []))) n'
    | none => none
   else match stepOp call (sg s) m n o.op with
    | some (d, m', n', w) => drawR call l hs.tail (acc ++ [⟨true, s, m, m, n, d, m', n', w, .ids (rds (sg s) o.op)⟩]) (setD s o.dst d) m' n'
    | none => none
  | some false => drawR call l hs.tail (acc ++ [⟨false, s, m, m, n, .tup [], m, n, [], .ids []⟩]) (setD s o.dst (.tup [])) m n
  | none => none
def inR (r : Rec) (i : Nat) : Bool := Nat.ble r.n0 i && Nat.blt i r.n1
def chk (r q : Rec) : Bool :=
 r.w.all (fun i => !q.rd.has i && !q.w.contains i) && q.w.all (fun i => !inR r i) &&
 match q.rd with
 | .ids l => l.all fun i => !inR r i
 | .mem m => (List.range' r.n0 (r.n1 - r.n0)).all fun i => (m.get i).isNone
def chkAll (rs : List Rec) (ps : List (Nat × Nat)) : Bool := ps.all fun p => match rs[p.1]?, rs[p.2]? with
 | some r, some q => chk r q
 | _, _ => false
abbrev Rec.touch (r : Rec) (i : Nat) : Prop := i ∈ r.w ∨ (r.n0 ≤ i ∧ i < r.n1)
theorem hide_sub : ∀ (l : List Nat) (m : Mt), Sub (hide m l).get m.get
 | [], m => fun i ob h => h
 | j :: l, m => fun i ob h => by
  have := hide_sub l (Tr.put m j none) i ob h
  rw [Tr.get_put] at this
  split at this
  ·cases this
  ·exact this
theorem unhide_get (m : Mt) (w : List Nat) (n n' : Nat) : ∀ (l : List Nat) (m' : Mt) (i : Nat), (unhide m m' w n n' l).get i = if i ∈ l ∧ ¬ (i ∈ w ∨ (n ≤ i ∧ i < n')) then m.get i else m'.get i
 | [], m', i => by simp [unhide]
 | j :: l, m', i => by
  have hb : (w.contains j || (Nat.ble n j && Nat.blt j n')) = decide (j ∈ w ∨ (n ≤ j ∧ j < n')) := by
   rw [Bool.eq_iff_iff]
   simp only [Bool.or_eq_true, Bool.and_eq_true, decide_eq_true_eq, List.contains_iff_mem]
   constructor
   ·rintro (h | ⟨h1, h2⟩)
    ·exact .inl h
    ·exact .inr ⟨Nat.le_of_ble_eq_true h1, Nat.le_of_ble_eq_true h2⟩
   ·rintro (h | ⟨h1, h2⟩)
    ·exact .inl h
    ·exact .inr ⟨Nat.ble_eq_true_of_le h1, Nat.ble_eq_true_of_le h2⟩
  simp only [unhide]
  rw [unhide_get m w n n' l, hb]
  by_cases hj : j ∈ w ∨ (n ≤ j ∧ j < n')
  ·simp only [hj, decide_true, cond_true]
   by_cases hi : i ∈ l ∧ ¬ (i ∈ w ∨ (n ≤ i ∧ i < n'))
   ·rw [if_pos hi, if_pos ⟨List.mem_cons_of_mem _ hi.1, hi.2⟩]
   ·rw [if_neg hi, if_neg]
    rintro ⟨h1, h2⟩
    rcases List.mem_cons.1 h1 with rfl | h1
    ·exact h2 hj
    ·exact hi ⟨h1, h2⟩
  ·simp only [hj, decide_false, cond_false]
   by_cases hi : i ∈ l ∧ ¬ (i ∈ w ∨ (n ≤ i ∧ i < n'))
   ·rw [if_pos hi, if_pos ⟨List.mem_cons_of_mem _ hi.1, hi.2⟩]
   ·rw [if_neg hi, Tr.get_put]
    by_cases hij : i = j
    ·subst hij
     rw [if_pos rfl, if_pos ⟨List.mem_cons_self .., hj⟩]
    ·rw [if_neg hij, if_neg]
     rintro ⟨h1, h2⟩
     rcases List.mem_cons.1 h1 with rfl | h1
     ·exact hij rfl
     ·exact hi ⟨h1, h2⟩
structure OpFact (call : CallF) (o : ROp) (r : Rec) : Prop where
 off : r.on = false → guardG (sg r.s) o.guard = some false ∧ r.d = .tup [] ∧ r.w = [] ∧ r.n1 = r.n0 ∧ r.rd = .ids []
 step : r.on = true → guardG (sg r.s) o.guard = some true ∧ stepOp call (sg r.s) r.v r.n0 o.op = some (r.d, r.mv, r.n1, r.w)
 prim : r.on = true → isCall o.op = false → r.v = r.c ∧ r.rd = .ids (rds (sg r.s) o.op)
 view : r.on = true → isCall o.op = true → r.rd = .mem r.v ∧ Sub r.v.get r.c.get
structure Chain (call : CallF) (l : List ROp) (rs : List Rec) (S : Nat → Sl) (C : Nat → Mt) (nn : Nat → Nat) : Prop where
 len : rs.length = l.length
 at_ : ∀ (k : Nat) o r, l[k]? = some o → rs[k]? = some r → r.s = S k ∧ r.c = C k ∧ r.n0 = nn k ∧ r.n1 = nn (k + 1) ∧ OpFact call o r ∧ S (k + 1) = setD (S k) o.dst r.d ∧
  ∀ i, (C (k + 1)).get i = if r.touch i then r.mv.get i else (C k).get i
theorem Chain.cons {call : CallF} {o : ROp} {l : List ROp} {r : Rec} {rs : List Rec} {S : Nat → Sl} {C : Nat → Mt} {nn : Nat → Nat} (h : Chain call l rs S C nn) (hf : OpFact call o r)
  (h2 : S 0 = setD r.s o.dst r.d) (h3 : nn 0 = r.n1) (h4 : ∀ i, (C 0).get i = if r.touch i then r.mv.get i else r.c.get i) :
  Chain call (o :: l) (r :: rs) (fun k => match k with | 0 => r.s | k + 1 => S k) (fun k => match k with | 0 => r.c | k + 1 => C k) (fun k => match k with | 0 => r.n0 | k + 1 => nn k) := by
 refine ⟨by simp [h.len], fun k o' r' ho hr => ?_⟩
 cases k with
 | zero =>
  simp only [List.getElem?_cons_zero, Option.some.injEq] at ho hr
  subst ho hr
  exact ⟨rfl, rfl, rfl, h3.symm, hf, h2, h4⟩
 | succ k =>
  simp only [List.getElem?_cons_succ] at ho hr
  exact h.at_ k o' r' ho hr
theorem isCall_not {op : DOp} (h : isCall op = false) : ∀ f xs, op ≠ .call f xs := by
 rintro f xs rfl; cases h
theorem draw_chain {call : CallF} {P : Program} (hc : CallOk P call) : ∀ (l : List ROp) (hs : List (List Nat)) (acc : List Rec) (s : Sl) (m : Mt) (n : Nat) (s' : Sl) (m' : Mt) (n' : Nat) (rs : List Rec),
  drawR call l hs acc s m n = some (s', m', n', rs) →
  ∃ rs2 S C nn, rs = acc ++ rs2 ∧ Chain call l rs2 S C nn ∧ S 0 = s ∧ C 0 = m ∧ nn 0 = n ∧ S l.length = s' ∧ C l.length = m' ∧ nn l.length = n'
 | [], hs, acc, s, m, n, s', m', n', rs, h => by
  simp only [drawR, Option.some.injEq, Prod.mk.injEq] at h
  obtain ⟨rfl, rfl, rfl, rfl⟩ := h
  exact ⟨[], fun _ => s, fun _ => m, fun _ => n, by simp, ⟨rfl, by simp⟩, rfl, rfl, rfl, rfl, rfl, rfl⟩
 | o :: l, hs, acc, s, m, n, s', m', n', rs, h => by
  simp only [drawR] at h
  have go : ∀ (r : Rec) (s1 : Sl) (m1 : Mt) (n1 : Nat), OpFact call o r → r.s = s → r.c = m → r.n0 = n → s1 = setD s o.dst r.d → n1 = r.n1 → (∀ i, m1.get i = if r.touch i then r.mv.get i else m.get i) →
    drawR call l hs.tail (acc ++ [r]) s1 m1 n1 = some (s', m', n', rs) →
    ∃ rs2 S C nn, rs = acc ++ rs2 ∧ Chain call (o :: l) rs2 S C nn ∧ S 0 = s ∧ C 0 = m ∧ nn 0 = n ∧ S (o :: l).length = s' ∧ C (o :: l).length = m' ∧ nn (o :: l).length = n' := by
   intro r s1 m1 n1 hf e1 e2 e3 e4 e5 e6 hd
   obtain ⟨rs2, S, C, nn, q1, q2, q3, q4, q5, q6, q7, q8⟩ := draw_chain hc l hs.tail (acc ++ [r]) s1 m1 n1 s' m' n' rs hd
   refine ⟨r :: rs2, _, _, _, by rw [q1]; simp, q2.cons hf (by rw [q3, e4, e1]) (by rw [q5, e5]) (fun i => by rw [q4, e6, e2]), e1, e2, e3, q6, q7, q8⟩
  split at h
  ·rename_i hg
   split at h
   ·rename_i hcall
    split at h
    ·rename_i d m1 n1 w he
     obtain ⟨p1, p2, p3⟩ := stepOp_facts hc he
     refine go _ _ _ _ ⟨(by intro e; cases e), fun _ => ⟨hg, he⟩, fun _ e => (by rw [hcall] at e; cases e), fun _ _ => ⟨rfl, hide_sub _ _⟩⟩ rfl rfl rfl rfl rfl (fun i => ?_) h
     rw [unhide_get]
     simp only [Rec.touch]
     by_cases ht : i ∈ w ∨ (n ≤ i ∧ i < n1)
     ·rw [if_neg (fun e => e.2 ht), if_pos ht]
     ·rw [if_neg ht]
      split
      ·rfl
      ·rename_i hni
       have h1 : i ∉ w := fun e => ht (.inl e)
       have h2 : ¬ (n ≤ i ∧ i < n1) := fun e => ht (.inr e)
       rw [p3 i h1 h2]
       have hnl : i ∉ hidIds acc (hs.headD []) := fun e => hni ⟨e, ht⟩
       have hh : ∀ (ids : List Nat) (q : Mt), i ∉ ids → (hide q ids).get i = q.get i := by
        intro ids
        induction ids with
        | nil => intro q _; rfl
        | cons j ids ih =>
         intro q hq
         simp only [List.mem_cons, not_or] at hq
         simp only [hide]
         rw [ih _ hq.2, Tr.get_put, if_neg hq.1]
       exact hh _ _ hnl
    ·cases h
   ·rename_i hcall
    have hcall : isCall o.op = false := by simpa using hcall
    split at h
    ·rename_i d m1 n1 w he
     obtain ⟨p1, p2, p3⟩ := stepOp_facts hc he
     refine go _ _ _ _ ⟨(by intro e; cases e), fun _ => ⟨hg, he⟩, fun _ _ => ⟨rfl, rfl⟩, fun _ e => (by rw [hcall] at e; cases e)⟩ rfl rfl rfl rfl rfl (fun i => ?_) h
     simp only [Rec.touch]
     split
     ·rfl
     ·rename_i ht
      exact p3 i (fun e => ht (.inl e)) (fun e => ht (.inr e))
    ·cases h
  ·rename_i hg
   refine go _ _ _ _ ⟨fun _ => ⟨hg, rfl, rfl, rfl, rfl⟩, (by intro e; cases e), (by intro e; cases e), (by intro e; cases e)⟩ rfl rfl rfl rfl rfl (fun i => ?_) h
   simp
  ·cases h
end Go.Ve
