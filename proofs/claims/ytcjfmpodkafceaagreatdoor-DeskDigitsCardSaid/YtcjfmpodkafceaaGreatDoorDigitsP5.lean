/-
  A part of the proof: the program at hand. Nothing in it is assumed.
-/
import Derived.Test.YtcjfmpodkafceaaGreatDoorDigitsP4
import Derived.Test.YtcjfmpodkafceaaGreatDoorProg
import Derived.Lib.Bytealg
import Derived.Shelf.Strings.OnBuilder

set_option linter.unusedSimpArgs false
set_option linter.unusedVariables false

namespace Go.Ve
open Go.Proofs
set_option maxRecDepth 100000
/-- (*padlock/entry.taker).count -/
def dc126 : DC := (.seq (.row [⟨some 4, .mv (.c (.int .i64 0)), none⟩]) (.seq (.seq (.row [⟨some 7, .mv (.t 1), none⟩, ⟨some 8, .bin .geq (.t 7) (.c (.int .i64 4)), none⟩]) (.cond (.t 8) (.row [⟨some 9, .mv (.t 0), none⟩, ⟨some 10, .call (.c (.fn 105 [])) [(.t 9), (.c (.int .i64 24))], none⟩]) .skip)) (.seq (.row [⟨some 11, .mv (.t 0), none⟩, ⟨some 12, .call (.c (.fn 101 [])) [(.t 11), (.c (.int .i64 1))], none⟩, ⟨some 13, .conv .i64 (.t 12), none⟩, ⟨some 5, .mv (.t 13), none⟩]) (.seq (.seq (.row [⟨some 14, .mv (.t 1), none⟩, ⟨some 15, .mv (.t 5), none⟩, ⟨some 16, .call (.c (.fn 134 [])) [(.t 14), (.t 15)], none⟩, ⟨some 6, .mv (.t 16), none⟩]) (.seq (.row [⟨some 17, .mv (.t 0), none⟩, ⟨some 18, .nilchk (.t 17), none⟩, ⟨some 19, .faddr 0 (.t 18), none⟩, ⟨some 20, .faddr 2 (.t 19), none⟩, ⟨some 21, .load none (.t 20), none⟩, ⟨some 22, .bin .eql (.t 21) (.c (.int .i64 0)), none⟩, ⟨some 23, .mv (.t 22), none⟩, ⟨some 24, .mv (.t 6), some (23, true)⟩, ⟨some 25, .bin .neq (.t 24) (.c (.int .i64 0)), some (23, true)⟩, ⟨some 26, .pick (.t 23) (.t 25) (.c (.bool false)), none⟩]) (.cond (.t 26) (.row [⟨some 27, .mv (.t 0), none⟩, ⟨some 28, .mv (.t 6), none⟩, ⟨some 29, .call (.c (.fn 105 [])) [(.t 27), (.t 28)], none⟩]) .skip))) (.seq (.row [⟨some 30, .mv (.t 5), none⟩, ⟨some 4, .mv (.t 30), none⟩]) .ret)))))
def fr126 : FnR := ⟨dc126, 31, [.t 4]⟩
theorem ok126 : FnOk Tryz.prog 126 fr126 := ⟨⟨Tryz.f126, _, Tryz.func126, rfl, by kernel_rfl, rfl, by kernel_rfl, by kernel_rfl⟩⟩

def dc130l0 : DC := (.seq (.row [⟨some 5, .next (.t 4), none⟩, ⟨some 6, .ext 0 (.t 5), none⟩]) (.seq (.cond (.t 6) .skip (.exit 0)) (.block 1 (.row [⟨some 7, .mv (.t 2), none⟩, ⟨some 8, .bin .add (.t 7) (.c (.int .i64 1)), none⟩, ⟨some 2, .mv (.t 8), none⟩]))))
/-- unicode/utf8.RuneCountInString -/
def dc130 : DC := (.seq (.row [⟨some 2, .mv (.c (.int .i64 0)), none⟩]) (.seq (.seq (.row [⟨some 3, .mv (.t 0), none⟩, ⟨some 4, .range (.t 3), none⟩]) (.block 0 (.loop dc130l0))) (.seq (.row [⟨some 9, .mv (.t 2), none⟩, ⟨some 2, .mv (.t 9), none⟩]) .ret)))
def fr130 : FnR := ⟨dc130, 10, [.t 2]⟩
theorem ok130 : FnOk Tryz.prog 130 fr130 := ⟨⟨Tryz.f130, _, Tryz.func130, rfl, by kernel_rfl, rfl, by kernel_rfl, by kernel_rfl⟩⟩

/-- unicode/utf8.DecodeRuneInString -/
def dc131 : DC := (.seq (.row [⟨some 2, .mv (.c (.int .i32 0)), none⟩, ⟨some 3, .mv (.c (.int .i64 0)), none⟩]) (.seq (.seq (.row [⟨some 4, .mv (.t 0), none⟩, ⟨some 5, .bin .neq (.t 4) (.c (.str [])), none⟩, ⟨some 6, .mv (.t 5), none⟩, ⟨some 7, .mv (.t 0), some (6, true)⟩, ⟨some 8, .idxs (.t 7) (.c (.int .i64 0)), some (6, true)⟩, ⟨some 9, .bin .lss (.t 8) (.c (.int .u8 128)), some (6, true)⟩, ⟨some 10, .pick (.t 6) (.t 9) (.c (.bool false)), none⟩]) (.cond (.t 10) (.seq (.row [⟨some 11, .mv (.t 0), none⟩, ⟨some 12, .idxs (.t 11) (.c (.int .i64 0)), none⟩, ⟨some 13, .conv .i32 (.t 12), none⟩, ⟨some 2, .mv (.t 13), none⟩, ⟨some 3, .mv (.c (.int .i64 1)), none⟩]) .ret) (.row [⟨some 15, .mv (.t 0), none⟩, ⟨some 16, .call (.c (.fn 136 [])) [(.t 15)], none⟩, ⟨some 14, .mv (.t 16), none⟩, ⟨some 17, .ext 0 (.t 14), none⟩, ⟨some 18, .ext 1 (.t 14), none⟩, ⟨some 2, .mv (.t 17), none⟩, ⟨some 3, .mv (.t 18), none⟩]))) .ret))
def fr131 : FnR := ⟨dc131, 19, [.t 2, .t 3]⟩
theorem ok131 : FnOk Tryz.prog 131 fr131 := ⟨⟨Tryz.f131, _, Tryz.func131, rfl, by kernel_rfl, rfl, by kernel_rfl, by kernel_rfl⟩⟩

def dc133l0 : DC := (.seq (.seq (.row [⟨some 57, .mv (.t 8), none⟩, ⟨some 58, .mv (.t 9), none⟩, ⟨some 59, .bin .lss (.t 57) (.t 58), none⟩]) (.cond (.t 59) .skip (.exit 1))) (.block 2 (.seq (.seq (.row [⟨some 60, .mv (.t 0), none⟩, ⟨some 61, .mv (.t 8), none⟩, ⟨some 62, .idxs (.t 60) (.t 61), none⟩, ⟨some 63, .mv (.t 6), none⟩, ⟨some 64, .bin .neq (.t 62) (.t 63), none⟩]) (.cond (.t 64) (.seq (.row [⟨some 65, .mv (.t 0), none⟩, ⟨some 66, .mv (.t 8), none⟩, ⟨some 67, .bin .add (.t 66) (.c (.int .i64 1)), none⟩, ⟨some 68, .mv (.t 9), none⟩, ⟨some 69, .cuts (.t 65) (some (.t 67)) (some (.t 68)), none⟩, ⟨some 70, .mv (.t 6), none⟩, ⟨some 71, .call (.c (.fn 137 [])) [(.t 69), (.t 70)], none⟩, ⟨some 11, .mv (.t 71), none⟩]) (.seq (.seq (.row [⟨some 72, .mv (.t 11), none⟩, ⟨some 73, .bin .lss (.t 72) (.c (.int .i64 0)), none⟩]) (.cond (.t 73) (.seq (.row [⟨some 4, .mv (.c (.int .i64 (-1))), none⟩]) .ret) .skip)) (.row [⟨some 74, .mv (.t 8), none⟩, ⟨some 75, .mv (.t 11), none⟩, ⟨some 76, .bin .add (.t 75) (.c (.int .i64 1)), none⟩, ⟨some 77, .bin .add (.t 74) (.t 76), none⟩, ⟨some 8, .mv (.t 77), none⟩]))) .skip)) (.seq (.seq (.row [⟨some 78, .mv (.t 0), none⟩, ⟨some 79, .mv (.t 8), none⟩, ⟨some 80, .bin .add (.t 79) (.c (.int .i64 1)), none⟩, ⟨some 81, .idxs (.t 78) (.t 80), none⟩, ⟨some 82, .mv (.t 7), none⟩, ⟨some 83, .bin .eql (.t 81) (.t 82), none⟩, ⟨some 84, .mv (.t 83), none⟩, ⟨some 85, .mv (.t 0), some (84, true)⟩, ⟨some 86, .mv (.t 8), some (84, true)⟩, ⟨some 87, .mv (.t 8), some (84, true)⟩, ⟨some 88, .mv (.t 5), some (84, true)⟩, ⟨some 89, .bin .add (.t 87) (.t 88), some (84, true)⟩, ⟨some 90, .cuts (.t 85) (some (.t 86)) (some (.t 89)), some (84, true)⟩, ⟨some 91, .mv (.t 1), some (84, true)⟩, ⟨some 92, .bin .eql (.t 90) (.t 91), some (84, true)⟩, ⟨some 93, .pick (.t 84) (.t 92) (.c (.bool false)), none⟩]) (.cond (.t 93) (.seq (.row [⟨some 94, .mv (.t 8), none⟩, ⟨some 4, .mv (.t 94), none⟩]) .ret) .skip)) (.seq (.row [⟨some 95, .mv (.t 8), none⟩, ⟨some 96, .bin .add (.t 95) (.c (.int .i64 1)), none⟩, ⟨some 8, .mv (.t 96), none⟩]) (.seq (.row [⟨some 97, .mv (.t 10), none⟩, ⟨some 98, .bin .add (.t 97) (.c (.int .i64 1)), none⟩, ⟨some 10, .mv (.t 98), none⟩]) (.seq (.row [⟨some 99, .mv (.t 5), none⟩, ⟨some 100, .stop, none⟩, ⟨some 101, .bin .leq (.t 99) (.t 100), none⟩, ⟨some 102, .mv (.t 101), none⟩, ⟨some 103, .mv (.t 10), some (102, true)⟩, ⟨some 104, .mv (.t 8), some (102, true)⟩, ⟨some 105, .call (.c (.fn 139 [])) [(.t 104)], some (102, true)⟩, ⟨some 106, .bin .gtr (.t 103) (.t 105), some (102, true)⟩, ⟨some 107, .pick (.t 102) (.t 106) (.c (.bool false)), none⟩]) (.cond (.t 107) (.seq (.row [⟨some 108, .mv (.t 0), none⟩, ⟨some 109, .mv (.t 8), none⟩, ⟨some 110, .cuts (.t 108) (some (.t 109)) none, none⟩, ⟨some 111, .mv (.t 1), none⟩, ⟨some 112, .call (.c (.fn 138 [])) [(.t 110), (.t 111)], none⟩, ⟨some 12, .mv (.t 112), none⟩]) (.seq (.seq (.row [⟨some 113, .mv (.t 12), none⟩, ⟨some 114, .bin .geq (.t 113) (.c (.int .i64 0)), none⟩]) (.cond (.t 114) (.seq (.row [⟨some 115, .mv (.t 12), none⟩, ⟨some 116, .mv (.t 8), none⟩, ⟨some 117, .bin .add (.t 115) (.t 116), none⟩, ⟨some 4, .mv (.t 117), none⟩]) .ret) .skip)) (.seq (.row [⟨some 4, .mv (.c (.int .i64 (-1))), none⟩]) .ret))) (.seq (.row [⟨some 118, .mv (.t 5), none⟩, ⟨some 119, .stop, none⟩, ⟨some 120, .bin .gtr (.t 118) (.t 119), none⟩, ⟨some 121, .mv (.t 120), none⟩, ⟨some 122, .mv (.t 10), some (121, true)⟩, ⟨some 123, .mv (.t 8), some (121, true)⟩, ⟨some 124, .bin .shr (.t 123) (.c (.int .u64 4)), some (121, true)⟩, ⟨some 125, .bin .add (.c (.int .i64 4)) (.t 124), some (121, true)⟩, ⟨some 126, .bin .geq (.t 122) (.t 125), some (121, true)⟩, ⟨some 127, .pick (.t 121) (.t 126) (.c (.bool false)), none⟩, ⟨some 128, .mv (.t 127), none⟩, ⟨some 129, .mv (.t 8), some (128, true)⟩, ⟨some 130, .mv (.t 9), some (128, true)⟩, ⟨some 131, .bin .lss (.t 129) (.t 130), some (128, true)⟩, ⟨some 132, .pick (.t 128) (.t 131) (.c (.bool false)), none⟩]) (.cond (.t 132) (.seq (.row [⟨some 133, .mv (.t 0), none⟩, ⟨some 134, .mv (.t 8), none⟩, ⟨some 135, .cuts (.t 133) (some (.t 134)) none, none⟩, ⟨some 136, .mv (.t 1), none⟩, ⟨some 137, .call (.c (.fn 140 [])) [(.t 135), (.t 136)], none⟩, ⟨some 13, .mv (.t 137), none⟩]) (.seq (.seq (.row [⟨some 138, .mv (.t 13), none⟩, ⟨some 139, .bin .lss (.t 138) (.c (.int .i64 0)), none⟩]) (.cond (.t 139) (.seq (.row [⟨some 4, .mv (.c (.int .i64 (-1))), none⟩]) .ret) .skip)) (.seq (.row [⟨some 140, .mv (.t 8), none⟩, ⟨some 141, .mv (.t 13), none⟩, ⟨some 142, .bin .add (.t 140) (.t 141), none⟩, ⟨some 4, .mv (.t 142), none⟩]) .ret))) .skip))))))))))
/-- internal/stringslite.Index -/
def dc133 : DC := (.seq (.row [⟨some 4, .mv (.c (.int .i64 0)), none⟩]) (.seq (.row [⟨some 14, .mv (.t 1), none⟩, ⟨some 15, .len true (.t 14), none⟩, ⟨some 5, .mv (.t 15), none⟩]) (.seq (.block 0 (.seq (.row [⟨some 17, .mv (.t 5), none⟩, ⟨some 18, .bin .eql (.t 17) (.c (.int .i64 0)), none⟩, ⟨some 19, .mv (.t 18), none⟩, ⟨some 20, .mv (.t 1), some (19, false)⟩, ⟨some 21, .mv (.t 0), some (19, false)⟩, ⟨some 22, .bin .eql (.t 20) (.t 21), some (19, false)⟩, ⟨some 23, .pick (.t 19) (.c (.bool true)) (.t 22), none⟩, ⟨some 16, .mv (.t 23), none⟩]) (.cond (.t 16) (.seq (.row [⟨some 4, .mv (.c (.int .i64 0)), none⟩]) .ret) (.seq (.row [⟨some 25, .mv (.t 5), none⟩, ⟨some 26, .bin .eql (.t 25) (.c (.int .i64 1)), none⟩, ⟨some 24, .mv (.t 26), none⟩]) (.cond (.t 24) (.seq (.row [⟨some 27, .mv (.t 0), none⟩, ⟨some 28, .mv (.t 1), none⟩, ⟨some 29, .idxs (.t 28) (.c (.int .i64 0)), none⟩, ⟨some 30, .call (.c (.fn 137 [])) [(.t 27), (.t 29)], none⟩, ⟨some 4, .mv (.t 30), none⟩]) .ret) (.seq (.row [⟨some 32, .mv (.t 5), none⟩, ⟨some 33, .mv (.t 0), none⟩, ⟨some 34, .len true (.t 33), none⟩, ⟨some 35, .bin .geq (.t 32) (.t 34), none⟩, ⟨some 31, .mv (.t 35), none⟩]) (.cond (.t 31) (.seq (.row [⟨some 4, .mv (.c (.int .i64 (-1))), none⟩]) .ret) (.seq (.row [⟨some 37, .mv (.t 5), none⟩, ⟨some 38, .stop, none⟩, ⟨some 39, .bin .leq (.t 37) (.t 38), none⟩, ⟨some 40, .mv (.t 39), none⟩, ⟨some 41, .mv (.t 0), some (40, true)⟩, ⟨some 42, .len true (.t 41), some (40, true)⟩, ⟨some 43, .bin .leq (.t 42) (.c (.int .i64 64)), some (40, true)⟩, ⟨some 44, .pick (.t 40) (.t 43) (.c (.bool false)), none⟩, ⟨some 36, .mv (.t 44), none⟩]) (.cond (.t 36) (.seq (.row [⟨some 45, .mv (.t 0), none⟩, ⟨some 46, .mv (.t 1), none⟩, ⟨some 47, .call (.c (.fn 138 [])) [(.t 45), (.t 46)], none⟩, ⟨some 4, .mv (.t 47), none⟩]) .ret) .skip))))))))) (.seq (.row [⟨some 48, .mv (.t 1), none⟩, ⟨some 49, .idxs (.t 48) (.c (.int .i64 0)), none⟩, ⟨some 6, .mv (.t 49), none⟩]) (.seq (.row [⟨some 50, .mv (.t 1), none⟩, ⟨some 51, .idxs (.t 50) (.c (.int .i64 1)), none⟩, ⟨some 7, .mv (.t 51), none⟩]) (.seq (.row [⟨some 8, .mv (.c (.int .i64 0)), none⟩]) (.seq (.row [⟨some 52, .mv (.t 0), none⟩, ⟨some 53, .len true (.t 52), none⟩, ⟨some 54, .mv (.t 5), none⟩, ⟨some 55, .bin .sub (.t 53) (.t 54), none⟩, ⟨some 56, .bin .add (.t 55) (.c (.int .i64 1)), none⟩, ⟨some 9, .mv (.t 56), none⟩]) (.seq (.row [⟨some 10, .mv (.c (.int .i64 0)), none⟩]) (.seq (.block 1 (.loop dc133l0)) (.seq (.row [⟨some 4, .mv (.c (.int .i64 (-1))), none⟩]) .ret))))))))))
def fr133 : FnR := ⟨dc133, 143, [.t 4]⟩
theorem ok133 : FnOk Tryz.prog 133 fr133 := ⟨⟨Tryz.f133, _, Tryz.func133, rfl, by kernel_rfl, rfl, by kernel_rfl, by kernel_rfl⟩⟩

/-- padlock/entry.within -/
def dc134 : DC := (.seq (.row [⟨some 4, .mv (.c (.int .i64 0)), none⟩]) (.seq (.seq (.row [⟨some 5, .mv (.t 0), none⟩, ⟨some 6, .bin .geq (.t 5) (.c (.int .i64 4)), none⟩]) (.cond (.t 6) (.seq (.row [⟨some 4, .mv (.c (.int .i64 24)), none⟩]) .ret) .skip)) (.seq (.seq (.row [⟨some 7, .mv (.t 1), none⟩, ⟨some 8, .bin .gtr (.t 7) (.c (.int .i64 64)), none⟩]) (.cond (.t 8) (.seq (.row [⟨some 4, .mv (.c (.int .i64 5)), none⟩]) .ret) .skip)) (.seq (.row [⟨some 4, .mv (.c (.int .i64 0)), none⟩]) .ret))))
def fr134 : FnR := ⟨dc134, 9, [.t 4]⟩
theorem ok134 : FnOk Tryz.prog 134 fr134 := ⟨⟨Tryz.f134, _, Tryz.func134, rfl, by kernel_rfl, rfl, by kernel_rfl, by kernel_rfl⟩⟩

/-- (padlock/quill.Scan).fails -/
def dc135 : DC := (.seq (.row [⟨some 2, .box (.t 0), none⟩, ⟨some 4, .alloc [.str [], .int .i64 0, .int .i64 0], none⟩]) (.seq (.row [⟨some 5, .mv (.t 1), none⟩, ⟨some 6, .faddr 2 (.t 2), none⟩, ⟨none, .store 1 (.t 6) (.t 5), none⟩]) (.seq (.row [⟨some 7, .load (some 3) (.t 2), none⟩, ⟨none, .store 3 (.t 4) (.t 7), none⟩]) .ret)))
def fr135 : FnR := ⟨dc135, 8, [.cell (some 3) 4]⟩
theorem ok135 : FnOk Tryz.prog 135 fr135 := ⟨⟨Tryz.f135, _, Tryz.func135, rfl, by kernel_rfl, rfl, by kernel_rfl, by kernel_rfl⟩⟩

/-- unicode/utf8.decodeRuneInStringSlow -/
def dc136 : DC := (.seq (.row [⟨some 2, .mv (.c (.int .i32 0)), none⟩, ⟨some 3, .mv (.c (.int .i64 0)), none⟩]) (.seq (.row [⟨some 13, .mv (.t 0), none⟩, ⟨some 14, .len true (.t 13), none⟩, ⟨some 4, .mv (.t 14), none⟩]) (.seq (.seq (.row [⟨some 15, .mv (.t 4), none⟩, ⟨some 16, .bin .lss (.t 15) (.c (.int .i64 1)), none⟩]) (.cond (.t 16) (.seq (.row [⟨some 2, .mv (.c (.int .i32 65533)), none⟩, ⟨some 3, .mv (.c (.int .i64 0)), none⟩]) .ret) .skip)) (.seq (.row [⟨some 17, .mv (.t 0), none⟩, ⟨some 18, .idxs (.t 17) (.c (.int .i64 0)), none⟩, ⟨some 5, .mv (.t 18), none⟩]) (.seq (.row [⟨some 19, .mv (.t 5), none⟩, ⟨some 20, .stop, none⟩, ⟨some 21, .load none (.t 20), none⟩, ⟨some 6, .mv (.t 21), none⟩]) (.seq (.seq (.row [⟨some 22, .mv (.t 6), none⟩, ⟨some 23, .bin .geq (.t 22) (.c (.int .u8 240)), none⟩]) (.cond (.t 23) (.seq (.row [⟨some 24, .mv (.t 6), none⟩, ⟨some 25, .conv .i32 (.t 24), none⟩, ⟨some 26, .bin .shl (.t 25) (.c (.int .u64 31)), none⟩, ⟨some 27, .bin .shr (.t 26) (.c (.int .u64 31)), none⟩, ⟨some 7, .mv (.t 27), none⟩]) (.seq (.row [⟨some 28, .mv (.t 0), none⟩, ⟨some 29, .idxs (.t 28) (.c (.int .i64 0)), none⟩, ⟨some 30, .conv .i32 (.t 29), none⟩, ⟨some 31, .mv (.t 7), none⟩, ⟨some 32, .bin .andNot (.t 30) (.t 31), none⟩, ⟨some 33, .mv (.t 7), none⟩, ⟨some 34, .bin .and (.c (.int .i32 65533)) (.t 33), none⟩, ⟨some 35, .bin .or (.t 32) (.t 34), none⟩, ⟨some 2, .mv (.t 35), none⟩, ⟨some 3, .mv (.c (.int .i64 1)), none⟩]) .ret)) .skip)) (.seq (.row [⟨some 36, .mv (.t 6), none⟩, ⟨some 37, .bin .and (.t 36) (.c (.int .u8 7)), none⟩, ⟨some 38, .conv .i64 (.t 37), none⟩, ⟨some 8, .mv (.t 38), none⟩]) (.seq (.row [⟨some 39, .mv (.t 6), none⟩, ⟨some 40, .bin .shr (.t 39) (.c (.int .u64 4)), none⟩, ⟨some 41, .stop, none⟩, ⟨some 42, .load (some 2) (.t 41), none⟩, ⟨some 9, .alloc [.int .u8 0, .int .u8 0], none⟩, ⟨none, .store 2 (.t 9) (.t 42), none⟩]) (.seq (.seq (.row [⟨some 43, .mv (.t 4), none⟩, ⟨some 44, .mv (.t 8), none⟩, ⟨some 45, .bin .lss (.t 43) (.t 44), none⟩]) (.cond (.t 45) (.seq (.row [⟨some 2, .mv (.c (.int .i32 65533)), none⟩, ⟨some 3, .mv (.c (.int .i64 1)), none⟩]) .ret) .skip)) (.seq (.row [⟨some 46, .mv (.t 0), none⟩, ⟨some 47, .idxs (.t 46) (.c (.int .i64 1)), none⟩, ⟨some 10, .mv (.t 47), none⟩]) (.seq (.seq (.row [⟨some 48, .mv (.t 10), none⟩, ⟨some 49, .faddr 0 (.t 9), none⟩, ⟨some 50, .load none (.t 49), none⟩, ⟨some 51, .bin .lss (.t 48) (.t 50), none⟩, ⟨some 52, .mv (.t 51), none⟩, ⟨some 53, .faddr 1 (.t 9), some (52, false)⟩, ⟨some 54, .load none (.t 53), some (52, false)⟩, ⟨some 55, .mv (.t 10), some (52, false)⟩, ⟨some 56, .bin .lss (.t 54) (.t 55), some (52, false)⟩, ⟨some 57, .pick (.t 52) (.c (.bool true)) (.t 56), none⟩]) (.cond (.t 57) (.seq (.row [⟨some 2, .mv (.c (.int .i32 65533)), none⟩, ⟨some 3, .mv (.c (.int .i64 1)), none⟩]) .ret) .skip)) (.seq (.seq (.row [⟨some 58, .mv (.t 8), none⟩, ⟨some 59, .bin .leq (.t 58) (.c (.int .i64 2)), none⟩]) (.cond (.t 59) (.seq (.row [⟨some 60, .mv (.t 5), none⟩, ⟨some 61, .bin .and (.t 60) (.c (.int .u8 31)), none⟩, ⟨some 62, .conv .i32 (.t 61), none⟩, ⟨some 63, .bin .shl (.t 62) (.c (.int .u64 6)), none⟩, ⟨some 64, .mv (.t 10), none⟩, ⟨some 65, .bin .and (.t 64) (.c (.int .u8 63)), none⟩, ⟨some 66, .conv .i32 (.t 65), none⟩, ⟨some 67, .bin .or (.t 63) (.t 66), none⟩, ⟨some 2, .mv (.t 67), none⟩, ⟨some 3, .mv (.c (.int .i64 2)), none⟩]) .ret) .skip)) (.seq (.row [⟨some 68, .mv (.t 0), none⟩, ⟨some 69, .idxs (.t 68) (.c (.int .i64 2)), none⟩, ⟨some 11, .mv (.t 69), none⟩]) (.seq (.seq (.row [⟨some 70, .mv (.t 11), none⟩, ⟨some 71, .bin .lss (.t 70) (.c (.int .u8 128)), none⟩, ⟨some 72, .mv (.t 71), none⟩, ⟨some 73, .mv (.t 11), some (72, false)⟩, ⟨some 74, .bin .lss (.c (.int .u8 191)) (.t 73), some (72, false)⟩, ⟨some 75, .pick (.t 72) (.c (.bool true)) (.t 74), none⟩]) (.cond (.t 75) (.seq (.row [⟨some 2, .mv (.c (.int .i32 65533)), none⟩, ⟨some 3, .mv (.c (.int .i64 1)), none⟩]) .ret) .skip)) (.seq (.seq (.row [⟨some 76, .mv (.t 8), none⟩, ⟨some 77, .bin .leq (.t 76) (.c (.int .i64 3)), none⟩]) (.cond (.t 77) (.seq (.row [⟨some 78, .mv (.t 5), none⟩, ⟨some 79, .bin .and (.t 78) (.c (.int .u8 15)), none⟩, ⟨some 80, .conv .i32 (.t 79), none⟩, ⟨some 81, .bin .shl (.t 80) (.c (.int .u64 12)), none⟩, ⟨some 82, .mv (.t 10), none⟩, ⟨some 83, .bin .and (.t 82) (.c (.int .u8 63)), none⟩, ⟨some 84, .conv .i32 (.t 83), none⟩, ⟨some 85, .bin .shl (.t 84) (.c (.int .u64 6)), none⟩, ⟨some 86, .bin .or (.t 81) (.t 85), none⟩, ⟨some 87, .mv (.t 11), none⟩, ⟨some 88, .bin .and (.t 87) (.c (.int .u8 63)), none⟩, ⟨some 89, .conv .i32 (.t 88), none⟩, ⟨some 90, .bin .or (.t 86) (.t 89), none⟩, ⟨some 2, .mv (.t 90), none⟩, ⟨some 3, .mv (.c (.int .i64 3)), none⟩]) .ret) .skip)) (.seq (.row [⟨some 91, .mv (.t 0), none⟩, ⟨some 92, .idxs (.t 91) (.c (.int .i64 3)), none⟩, ⟨some 12, .mv (.t 92), none⟩]) (.seq (.seq (.row [⟨some 93, .mv (.t 12), none⟩, ⟨some 94, .bin .lss (.t 93) (.c (.int .u8 128)), none⟩, ⟨some 95, .mv (.t 94), none⟩, ⟨some 96, .mv (.t 12), some (95, false)⟩, ⟨some 97, .bin .lss (.c (.int .u8 191)) (.t 96), some (95, false)⟩, ⟨some 98, .pick (.t 95) (.c (.bool true)) (.t 97), none⟩]) (.cond (.t 98) (.seq (.row [⟨some 2, .mv (.c (.int .i32 65533)), none⟩, ⟨some 3, .mv (.c (.int .i64 1)), none⟩]) .ret) .skip)) (.seq (.row [⟨some 99, .mv (.t 5), none⟩, ⟨some 100, .bin .and (.t 99) (.c (.int .u8 7)), none⟩, ⟨some 101, .conv .i32 (.t 100), none⟩, ⟨some 102, .bin .shl (.t 101) (.c (.int .u64 18)), none⟩, ⟨some 103, .mv (.t 10), none⟩, ⟨some 104, .bin .and (.t 103) (.c (.int .u8 63)), none⟩, ⟨some 105, .conv .i32 (.t 104), none⟩, ⟨some 106, .bin .shl (.t 105) (.c (.int .u64 12)), none⟩, ⟨some 107, .bin .or (.t 102) (.t 106), none⟩, ⟨some 108, .mv (.t 11), none⟩, ⟨some 109, .bin .and (.t 108) (.c (.int .u8 63)), none⟩, ⟨some 110, .conv .i32 (.t 109), none⟩, ⟨some 111, .bin .shl (.t 110) (.c (.int .u64 6)), none⟩, ⟨some 112, .bin .or (.t 107) (.t 111), none⟩, ⟨some 113, .mv (.t 12), none⟩, ⟨some 114, .bin .and (.t 113) (.c (.int .u8 63)), none⟩, ⟨some 115, .conv .i32 (.t 114), none⟩, ⟨some 116, .bin .or (.t 112) (.t 115), none⟩, ⟨some 2, .mv (.t 116), none⟩, ⟨some 3, .mv (.c (.int .i64 4)), none⟩]) .ret))))))))))))))))))
def fr136 : FnR := ⟨dc136, 117, [.t 2, .t 3]⟩
theorem ok136 : FnOk Tryz.prog 136 fr136 := ⟨⟨Tryz.f136, _, Tryz.func136, rfl, by kernel_rfl, rfl, by kernel_rfl, by kernel_rfl⟩⟩

/-- internal/stringslite.IndexByte -/
def dc137 : DC := (.seq (.row [⟨some 4, .mv (.c (.int .i64 0)), none⟩]) (.seq (.row [⟨some 5, .mv (.t 0), none⟩, ⟨some 6, .mv (.t 1), none⟩, ⟨some 7, .call (.c (.fn 141 [])) [(.t 5), (.t 6)], none⟩, ⟨some 4, .mv (.t 7), none⟩]) .ret))
def fr137 : FnR := ⟨dc137, 8, [.t 4]⟩
theorem ok137 : FnOk Tryz.prog 137 fr137 := ⟨⟨Tryz.f137, _, Tryz.func137, rfl, by kernel_rfl, rfl, by kernel_rfl, by kernel_rfl⟩⟩

/-- internal/bytealg.Cutover -/
def dc139 : DC := (.seq (.row [⟨some 2, .mv (.c (.int .i64 0)), none⟩]) (.seq (.row [⟨some 3, .mv (.t 0), none⟩, ⟨some 4, .bin .add (.t 3) (.c (.int .i64 16)), none⟩, ⟨some 5, .bin .quo (.t 4) (.c (.int .i64 8)), none⟩, ⟨some 2, .mv (.t 5), none⟩]) .ret))
def fr139 : FnR := ⟨dc139, 6, [.t 2]⟩
theorem ok139 : FnOk Tryz.prog 139 fr139 := ⟨⟨Tryz.f139, _, Tryz.func139, rfl, by kernel_rfl, rfl, by kernel_rfl, by kernel_rfl⟩⟩

def dc140l0 : DC := (.seq (.seq (.row [⟨some 18, .mv (.t 9), none⟩, ⟨some 19, .mv (.t 7), none⟩, ⟨some 20, .bin .lss (.t 18) (.t 19), none⟩]) (.cond (.t 20) .skip (.exit 0))) (.seq (.block 1 (.row [⟨some 23, .mv (.t 8), none⟩, ⟨some 24, .bin .mul (.t 23) (.c (.int .u32 16777619)), none⟩, ⟨some 25, .mv (.t 0), none⟩, ⟨some 26, .mv (.t 9), none⟩, ⟨some 27, .idxs (.t 25) (.t 26), none⟩, ⟨some 28, .conv .u32 (.t 27), none⟩, ⟨some 29, .bin .add (.t 24) (.t 28), none⟩, ⟨some 8, .mv (.t 29), none⟩])) (.row [⟨some 21, .mv (.t 9), none⟩, ⟨some 22, .bin .add (.t 21) (.c (.int .i64 1)), none⟩, ⟨some 9, .mv (.t 22), none⟩])))
def dc140l1 : DC := (.seq (.seq (.row [⟨some 41, .mv (.t 10), none⟩, ⟨some 42, .mv (.t 0), none⟩, ⟨some 43, .len true (.t 42), none⟩, ⟨some 44, .bin .lss (.t 41) (.t 43), none⟩]) (.cond (.t 44) .skip (.exit 2))) (.block 3 (.seq (.row [⟨some 45, .mv (.t 8), none⟩, ⟨some 46, .bin .mul (.t 45) (.c (.int .u32 16777619)), none⟩, ⟨some 8, .mv (.t 46), none⟩]) (.seq (.row [⟨some 47, .mv (.t 8), none⟩, ⟨some 48, .mv (.t 0), none⟩, ⟨some 49, .mv (.t 10), none⟩, ⟨some 50, .idxs (.t 48) (.t 49), none⟩, ⟨some 51, .conv .u32 (.t 50), none⟩, ⟨some 52, .bin .add (.t 47) (.t 51), none⟩, ⟨some 8, .mv (.t 52), none⟩]) (.seq (.row [⟨some 53, .mv (.t 8), none⟩, ⟨some 54, .mv (.t 6), none⟩, ⟨some 55, .mv (.t 0), none⟩, ⟨some 56, .mv (.t 10), none⟩, ⟨some 57, .mv (.t 7), none⟩, ⟨some 58, .bin .sub (.t 56) (.t 57), none⟩, ⟨some 59, .idxs (.t 55) (.t 58), none⟩, ⟨some 60, .conv .u32 (.t 59), none⟩, ⟨some 61, .bin .mul (.t 54) (.t 60), none⟩, ⟨some 62, .bin .sub (.t 53) (.t 61), none⟩, ⟨some 8, .mv (.t 62), none⟩]) (.seq (.row [⟨some 63, .mv (.t 10), none⟩, ⟨some 64, .bin .add (.t 63) (.c (.int .i64 1)), none⟩, ⟨some 10, .mv (.t 64), none⟩]) (.seq (.row [⟨some 65, .mv (.t 8), none⟩, ⟨some 66, .mv (.t 5), none⟩, ⟨some 67, .bin .eql (.t 65) (.t 66), none⟩, ⟨some 68, .mv (.t 67), none⟩, ⟨some 69, .mv (.t 0), some (68, true)⟩, ⟨some 70, .mv (.t 10), some (68, true)⟩, ⟨some 71, .mv (.t 7), some (68, true)⟩, ⟨some 72, .bin .sub (.t 70) (.t 71), some (68, true)⟩, ⟨some 73, .mv (.t 10), some (68, true)⟩, ⟨some 74, .cuts (.t 69) (some (.t 72)) (some (.t 73)), some (68, true)⟩, ⟨some 75, .mv (.t 1), some (68, true)⟩, ⟨some 76, .bin .eql (.t 74) (.t 75), some (68, true)⟩, ⟨some 77, .pick (.t 68) (.t 76) (.c (.bool false)), none⟩]) (.cond (.t 77) (.seq (.row [⟨some 78, .mv (.t 10), none⟩, ⟨some 79, .mv (.t 7), none⟩, ⟨some 80, .bin .sub (.t 78) (.t 79), none⟩, ⟨some 4, .mv (.t 80), none⟩]) .ret) .skip))))))))
/-- internal/bytealg.IndexRabinKarp[string] -/
def dc140 : DC := (.seq (.row [⟨some 4, .mv (.c (.int .i64 0)), none⟩]) (.seq (.row [⟨some 12, .mv (.t 1), none⟩, ⟨some 13, .call (.c (.fn 142 [])) [(.t 12)], none⟩, ⟨some 11, .mv (.t 13), none⟩, ⟨some 14, .ext 0 (.t 11), none⟩, ⟨some 15, .ext 1 (.t 11), none⟩, ⟨some 5, .mv (.t 14), none⟩, ⟨some 6, .mv (.t 15), none⟩]) (.seq (.row [⟨some 16, .mv (.t 1), none⟩, ⟨some 17, .len true (.t 16), none⟩, ⟨some 7, .mv (.t 17), none⟩]) (.seq (.row [⟨some 8, .mv (.c (.int .u32 0)), none⟩]) (.seq (.seq (.row [⟨some 9, .mv (.c (.int .i64 0)), none⟩]) (.block 0 (.loop dc140l0))) (.seq (.seq (.row [⟨some 30, .mv (.t 8), none⟩, ⟨some 31, .mv (.t 5), none⟩, ⟨some 32, .bin .eql (.t 30) (.t 31), none⟩, ⟨some 33, .mv (.t 32), none⟩, ⟨some 34, .mv (.t 0), some (33, true)⟩, ⟨some 35, .mv (.t 7), some (33, true)⟩, ⟨some 36, .cuts (.t 34) none (some (.t 35)), some (33, true)⟩, ⟨some 37, .mv (.t 1), some (33, true)⟩, ⟨some 38, .bin .eql (.t 36) (.t 37), some (33, true)⟩, ⟨some 39, .pick (.t 33) (.t 38) (.c (.bool false)), none⟩]) (.cond (.t 39) (.seq (.row [⟨some 4, .mv (.c (.int .i64 0)), none⟩]) .ret) .skip)) (.seq (.seq (.row [⟨some 40, .mv (.t 7), none⟩, ⟨some 10, .mv (.t 40), none⟩]) (.block 2 (.loop dc140l1))) (.seq (.row [⟨some 4, .mv (.c (.int .i64 (-1))), none⟩]) .ret))))))))
def fr140 : FnR := ⟨dc140, 81, [.t 4]⟩
theorem ok140 : FnOk Tryz.prog 140 fr140 := ⟨⟨Tryz.f140, _, Tryz.func140, rfl, by kernel_rfl, rfl, by kernel_rfl, by kernel_rfl⟩⟩

def dc142l0 : DC := (.seq (.seq (.row [⟨some 9, .mv (.t 5), none⟩, ⟨some 10, .mv (.t 0), none⟩, ⟨some 11, .len true (.t 10), none⟩, ⟨some 12, .bin .lss (.t 9) (.t 11), none⟩]) (.cond (.t 12) .skip (.exit 0))) (.seq (.block 1 (.row [⟨some 15, .mv (.t 4), none⟩, ⟨some 16, .bin .mul (.t 15) (.c (.int .u32 16777619)), none⟩, ⟨some 17, .mv (.t 0), none⟩, ⟨some 18, .mv (.t 5), none⟩, ⟨some 19, .idxs (.t 17) (.t 18), none⟩, ⟨some 20, .conv .u32 (.t 19), none⟩, ⟨some 21, .bin .add (.t 16) (.t 20), none⟩, ⟨some 4, .mv (.t 21), none⟩])) (.row [⟨some 13, .mv (.t 5), none⟩, ⟨some 14, .bin .add (.t 13) (.c (.int .i64 1)), none⟩, ⟨some 5, .mv (.t 14), none⟩])))
def dc142l1 : DC := (.seq (.seq (.row [⟨some 24, .mv (.t 8), none⟩, ⟨some 25, .bin .gtr (.t 24) (.c (.int .i64 0)), none⟩]) (.cond (.t 25) .skip (.exit 2))) (.seq (.block 3 (.seq (.seq (.row [⟨some 28, .mv (.t 8), none⟩, ⟨some 29, .bin .and (.t 28) (.c (.int .i64 1)), none⟩, ⟨some 30, .bin .neq (.t 29) (.c (.int .i64 0)), none⟩]) (.cond (.t 30) (.row [⟨some 31, .mv (.t 6), none⟩, ⟨some 32, .mv (.t 7), none⟩, ⟨some 33, .bin .mul (.t 31) (.t 32), none⟩, ⟨some 6, .mv (.t 33), none⟩]) .skip)) (.row [⟨some 34, .mv (.t 7), none⟩, ⟨some 35, .mv (.t 7), none⟩, ⟨some 36, .bin .mul (.t 34) (.t 35), none⟩, ⟨some 7, .mv (.t 36), none⟩]))) (.row [⟨some 26, .mv (.t 8), none⟩, ⟨some 27, .bin .shr (.t 26) (.c (.int .u64 1)), none⟩, ⟨some 8, .mv (.t 27), none⟩])))
/-- internal/bytealg.hashStr[string] -/
def dc142 : DC := (.seq (.row [⟨some 2, .mv (.c (.int .u32 0)), none⟩, ⟨some 3, .mv (.c (.int .u32 0)), none⟩]) (.seq (.row [⟨some 4, .mv (.c (.int .u32 0)), none⟩]) (.seq (.seq (.row [⟨some 5, .mv (.c (.int .i64 0)), none⟩]) (.block 0 (.loop dc142l0))) (.seq (.row [⟨some 6, .mv (.c (.int .u32 1)), none⟩, ⟨some 7, .mv (.c (.int .u32 16777619)), none⟩]) (.seq (.seq (.row [⟨some 22, .mv (.t 0), none⟩, ⟨some 23, .len true (.t 22), none⟩, ⟨some 8, .mv (.t 23), none⟩]) (.block 2 (.loop dc142l1))) (.seq (.row [⟨some 37, .mv (.t 4), none⟩, ⟨some 38, .mv (.t 6), none⟩, ⟨some 2, .mv (.t 37), none⟩, ⟨some 3, .mv (.t 38), none⟩]) .ret))))))
def fr142 : FnR := ⟨dc142, 39, [.t 2, .t 3]⟩
theorem ok142 : FnOk Tryz.prog 142 fr142 := ⟨⟨Tryz.f142, _, Tryz.func142, rfl, by kernel_rfl, rfl, by kernel_rfl, by kernel_rfl⟩⟩

end Go.Ve

namespace Go.Ve
open Go.RowKit Go.Shelf
set_option linter.unusedSimpArgs false
set_option linter.unusedVariables false

abbrev Sp := List D → Mt → Nat → Option (D × Mt × Nat × List Nat)

def SpOk (P : Program) (f : FuncId) (q : Sp) : Prop := ∀ ds m n d m' n' W, q ds m n = some (d, m', n', W) →
    n ≤ n' ∧ (∀ i ∈ W, i < n) ∧ (∀ i, i ∉ W → ¬ (n ≤ i ∧ i < n') → m'.get i = m.get i) ∧
    ∀ (B : Nat) (w0 w : World) (M : Mem) (g : Gm) (vs : List Value), Sub m.get M → Inv P B w0 M w g → (∀ i, n ≤ i → i < n' → M i = none ∧ g i = none) →
      vs.length = ds.length → (∀ (j : Nat) d v, ds[j]? = some d → vs[j]? = some v → Rep g d v) →
      Runs P f vs w fun v w' => ∃ M' g', After P B w0 M g n m'.get n' W M' w' g' ∧ Rep g' d v

theorem SpecOk.of {P : Program} {spec : FuncId → Option Sp} (h : ∀ f q, spec f = some q → SpOk P f q) : SpecOk P spec := fun f q hq => h f q hq

theorem Runs.mono {P : Program} {f : FuncId} {vs : List Value} {w : World} {p q : Value → World → Prop} (h : Runs P f vs w p) (k : ∀ v w', p v w' → q v w') : Runs P f vs w q := by
  rcases h with ⟨h1, h2⟩ | ⟨v, w', h1, h2⟩
  · exact .inl ⟨h1, h2.mono fun e w' => by rintro ⟨v, rfl, hp⟩; exact ⟨v, rfl, k v w' hp⟩⟩
  · exact .inr ⟨v, w', h1, k v w' h2⟩

/-- It writes no object, and makes none. -/
def still (F : List D → Mem → Option D) : Sp := fun ds m n => (F ds m.get).map fun d => (d, m, n, [])

theorem SpOk.still {P : Program} {f : FuncId} {F : List D → Mem → Option D}
    (h : ∀ ds m d, F ds m = some d → ∀ (B : Nat) (w0 w : World) (M : Mem) (g : Gm) (vs : List Value), Sub m M → Inv P B w0 M w g →
      vs.length = ds.length → (∀ (j : Nat) d v, ds[j]? = some d → vs[j]? = some v → Rep g d v) → Runs P f vs w fun v w' => Rep g d v ∧ Below w.heap.size w w') : SpOk P f (still F) := by
  intro ds m n d m' n' W hq
  simp only [Ve.still, Option.map_eq_some_iff, Prod.mk.injEq] at hq
  obtain ⟨d', hF, rfl, rfl, rfl, rfl⟩ := hq
  refine ⟨Nat.le_refl _, by simp, fun i _ _ => rfl, fun B w0 w M g vs hsub hi _ hl hrep => ?_⟩
  refine (h ds m.get _ hF B w0 w M g vs hsub hi hl hrep).mono fun v w' ⟨h1, h2⟩ => ⟨M, g, ⟨hi.over h2, hsub, Gm.le.refl g, fun i _ => rfl, fun i _ _ => rfl⟩, h1⟩

/-- An entry of the model. -/
theorem runs_extern {P : Program} {f : FuncId} {fn : Func} {e : Array Value → Sem Value} (hf : P.funcs[f]? = some fn) (hname : (fn.name == "runtime.NumGoroutine") = false)
    (hb : fn.body.isNone = true) (hn : Extern.findNext fn = none) (he : Extern.find fn = some e) {vs : List Value} {w w' : World} {v : Value} {post : Value → World → Prop} (hr : (e vs.toArray).run P w = .ok v w') (hp : post v w') : Runs P f vs w post :=
  .inr ⟨v, w', by rw [run_callFunc_extern hf hname hb hn he, hr]; rfl, hp⟩

theorem two_reps {g : Gm} {a b : D} {vs : List Value} (hl : vs.length = [a, b].length) (h : ∀ (j : Nat) d v, [a, b][j]? = some d → vs[j]? = some v → Rep g d v) : ∃ u v, vs = [u, v] ∧ Rep g a u ∧ Rep g b v := by
  match vs, hl with
  | [u, v], _ => exact ⟨u, v, rfl, h 0 _ _ rfl rfl, h 1 _ _ rfl rfl⟩

def fCount : List D → Mem → Option D
  | [.str s, .int .u8 c], _ => some (.int .i64 (Lib.countByte s c.toNat.toUInt8 : Nat))
  | _, _ => none
def fIndexByte : List D → Mem → Option D
  | [.str s, .int .u8 c], _ => some (.int .i64 (Lib.indexByte s c.toNat.toUInt8))
  | _, _ => none

theorem count_ok {P : Program} {f : FuncId} {fn : Func} (hf : P.funcs[f]? = some fn) (hname : (fn.name == "runtime.NumGoroutine") = false)
    (hb : fn.body.isNone = true) (hn : Extern.findNext fn = none) (he : Extern.find fn = some Extern.BytealgCount.count) : SpOk P f (still fCount) := by
  refine .still fun ds m d hF B w0 w M g vs hsub hi hl hrep => ?_
  unfold fCount at hF
  split at hF
  · simp only [Option.some.injEq] at hF; subst hF
    obtain ⟨u, v, rfl, h1, h2⟩ := two_reps hl hrep
    rw [h1.str_inv, h2.int_inv]
    exact runs_extern hf hname hb hn he (Lib.run_countString _ _ w) ⟨.int _ _, Below.refl _ _⟩
  · cases hF

theorem indexByte_ok {P : Program} {f : FuncId} {fn : Func} (hf : P.funcs[f]? = some fn) (hname : (fn.name == "runtime.NumGoroutine") = false)
    (hb : fn.body.isNone = true) (hn : Extern.findNext fn = none) (he : Extern.find fn = some Extern.BytealgIndexByte.indexByte) : SpOk P f (still fIndexByte) := by
  refine .still fun ds m d hF B w0 w M g vs hsub hi hl hrep => ?_
  unfold fIndexByte at hF
  split at hF
  · simp only [Option.some.injEq] at hF; subst hF
    obtain ⟨u, v, rfl, h1, h2⟩ := two_reps hl hrep
    rw [h1.str_inv, h2.int_inv]
    exact runs_extern hf hname hb hn he (Lib.run_indexByteString _ _ w) ⟨.int _ _, Below.refl _ _⟩
  · cases hF

def strsD : List D → Option (List (List UInt8))
  | [] => some []
  | .str s :: r => (strsD r).map (s :: ·)
  | _ => none

theorem strsD_some : ∀ {ds : List D} {xs : List (List UInt8)}, strsD ds = some xs → ds = xs.map D.str
  | [], xs, h => by simp only [strsD, Option.some.injEq] at h; subst h; rfl
  | d :: r, xs, h => by
    unfold strsD at h
    split at h
    · rename_i heq; cases heq
    · rename_i s r' heq
      cases heq
      simp only [Option.map_eq_some_iff] at h
      obtain ⟨ys, hy, rfl⟩ := h
      rw [strsD_some hy]; rfl
    · cases h

def fJoin : List D → Mem → Option D
  | [sl, .str sep], m => match slCells m 1 sl with
    | some (k, cs) => match strsD cs with
      | some xs => bif Nat.ble xs.length 140737488355328 && Nat.ble (Lib.join xs sep).length 140737488355328 then some (.str (Lib.join xs sep)) else none
      | none => none
    | none => none
  | _, _ => none

theorem join_ok {P : Program} {ρ : Go.Shelf.Ren} (L : Go.Proofs.Lays.n156 P ρ) (X : Go.Proofs.Builder.Extra P ρ) (hb : ∃ fn, P.funcs[ρ.f 156]? = some fn ∧ fn.body.isSome = true ∧ (fn.name == "runtime.NumGoroutine") = false) : SpOk P (ρ.f 156) (still fJoin) := by
  refine .still fun ds m d hF B w0 w M g vs hsub hi hl hrep => ?_
  unfold fJoin at hF
  split at hF
  · rename_i sl sep
    split at hF
    · rename_i k cs hcs
      split at hF
      · rename_i xs hxs
        cases hc : (Nat.ble xs.length 140737488355328 && Nat.ble (Lib.join xs sep).length 140737488355328) with
        | false => rw [hc] at hF; cases hF
        | true =>
          rw [hc] at hF
          simp only [cond_true, Option.some.injEq] at hF; subst hF
          rw [Bool.and_eq_true] at hc
          have l1 := Nat.le_of_ble_eq_true hc.1
          have l2 := Nat.le_of_ble_eq_true hc.2
          obtain ⟨u, v, rfl, h1, h2⟩ := two_reps hl hrep
          rw [h2.str_inv]
          have hcells := strsD_some hxs
          have empty : ∀ a c, u = .slice a 0 c → cs = [] → Runs P (ρ.f 156) [u, .string ⟨sep.toArray⟩] w fun v w' => Rep g (.str (Lib.join xs sep)) v ∧ Below w.heap.size w w' := by
            rintro a c rfl rfl
            have hx0 : xs = [] := by cases xs with | nil => rfl | cons x r => simp at hcells
            subst hx0
            refine .inl ⟨hb, (Go.Proofs.Any.strings_Join_none L X a c ⟨sep.toArray⟩ w).mono ?_⟩
            rintro e w' ⟨rfl, rfl⟩
            exact ⟨_, rfl, .str _, Below.refl _ _⟩
          unfold slCells at hcs
          split at hcs
          · rename_i i o n
            obtain ⟨b, cc, C, rfl, hbk, hle, _⟩ := h1.rsl_inv
            split at hcs
            · rename_i cs0 e hm
              split at hcs
              · rename_i hk
                simp only [Option.some.injEq, Prod.mk.injEq] at hcs
                obtain ⟨rfl, rfl⟩ := hcs
                obtain ⟨hB, vs0, T, fz, hh, _, hlv, hrp, _⟩ := hi.cells (hsub _ _ hm) hbk
                obtain ⟨r1, r2, r3⟩ := cells_at hh hlv hrp hk
                have hxl : xs.length = n := by
                  have := congrArg List.length hcells
                  simp at this; omega
                have hlt : b < w.heap.size := (Array.getElem?_eq_some_iff.1 hh).1
                have hc2 : ∀ (j : Nat) x, (xs.map fun x => (⟨x.toArray⟩ : ByteArray))[j]? = some x → w.cell? ⟨b, o + j, none⟩ = some (.string x) := by
                  intro j x hx
                  rw [List.getElem?_map, Option.map_eq_some_iff] at hx
                  obtain ⟨y, hy, rfl⟩ := hx
                  have hjn : j < n := by rw [← hxl]; exact (List.getElem?_eq_some_iff.1 hy).1
                  have hv := List.getElem?_eq_getElem (l := (vs0.toList.drop o).take (n * 1)) (i := j) (by omega)
                  have hd : ((cs0.drop o).take (n * 1))[j]? = some (.str y) := by rw [hcells, List.getElem?_map, hy]; rfl
                  have := (r1.2.2 j _ _ hd hv).str_inv
                  rw [this] at hv
                  exact r3 j _ hv
                have hmap : (xs.map fun x => (⟨x.toArray⟩ : ByteArray)).map (·.data.toList) = xs := by simp [List.map_map, Function.comp_def]
                have := Go.Proofs.Any.strings_Join L X b o cc (xs.map fun x => (⟨x.toArray⟩ : ByteArray)) ⟨sep.toArray⟩ w hc2 hlt (by simpa using l1) (by simp; omega) (by rw [hmap]; simpa using l2)
                rw [hmap] at this
                rw [List.length_map, hxl] at this
                refine .inl ⟨hb, this.mono ?_⟩
                rintro e w' ⟨rfl, hw⟩
                exact ⟨_, rfl, .str _, hw⟩
              · cases hcs
            · cases hcs
          · simp only [Option.some.injEq, Prod.mk.injEq] at hcs
            obtain ⟨ad, c, e⟩ := h1.esl_inv
            exact empty _ _ e hcs.2.symm
          · simp only [Option.some.injEq, Prod.mk.injEq] at hcs
            obtain ⟨ad, e⟩ := h1.esl0_inv
            exact empty _ _ e hcs.2.symm
          · simp only [Option.some.injEq, Prod.mk.injEq] at hcs
            exact empty _ _ h1.nils_inv hcs.2.symm
          · cases hcs
      · cases hF
    · cases hF
  · cases hF

/-! ### Tables as trees -/

theorem tab_node {P : Program} {f fr k} {a b : Option FnR} (h1 : a = some fr → FnOk P f fr) (h2 : b = some fr → FnOk P f fr) : (bif Nat.blt f k then a else b) = some fr → FnOk P f fr := by
  cases Nat.blt f k with
  | true => exact h1
  | false => exact h2
theorem tab_leaf {P : Program} {f fr k r} (h : FnOk P k r) : (bif Nat.beq f k then some r else none) = some fr → FnOk P f fr := by
  intro e
  cases hk : Nat.beq f k with
  | true =>
    rw [hk] at e
    simp only [cond_true, Option.some.injEq] at e; subst e
    rw [Nat.eq_of_beq_eq_true hk]; exact h
  | false => rw [hk] at e; cases e

theorem spec_cons {P : Program} {f : FuncId} {q : Sp} {k : FuncId} {r : Sp} {b : Option Sp} (h : SpOk P k r) (h2 : b = some q → SpOk P f q) : (bif Nat.beq f k then some r else b) = some q → SpOk P f q := by
  intro e
  cases hk : Nat.beq f k with
  | true =>
    rw [hk] at e
    simp only [cond_true, Option.some.injEq] at e; subst e
    rw [Nat.eq_of_beq_eq_true hk]; exact h
  | false => rw [hk] at e; exact h2 e
end Go.Ve

namespace Go.Proofs
open Go.Shelf
def Tryz.lays156_ren : Go.Shelf.Ren := ⟨fun | 156 => 64 | 165 => 91 | 166 => 92 | 169 => 93 | 240 => 112 | 241 => 113 | 276 => 128 | 277 => 129 | n => n, fun | 31 => 23 | 9 => 9 | 3 => 3 | 4 => 4 | 0 => 0 | 20 => 20 | 72 => 150 | 76 => 154 | 70 => 148 | 37 => 77 | 75 => 153 | 127 => 170 | 164 => 184 | 5 => 5 | 80 => 117 | n => n, fun | n => n⟩
theorem Tryz.lays156 : Go.Proofs.Lays.n156 Tryz.prog Tryz.lays156_ren := {
  mixed := by kernel_rfl
  f156 := Tryz.func64.trans (congrArg some (by kernel_rfl))
  f165 := Tryz.func91.trans (congrArg some (by kernel_rfl))
  f166 := Tryz.func92.trans (congrArg some (by kernel_rfl))
  f169 := Tryz.func93.trans (congrArg some (by kernel_rfl))
  f240 := Tryz.func112.trans (congrArg some (by kernel_rfl))
  f241 := Tryz.func113.trans (congrArg some (by kernel_rfl))
  f276 := Tryz.func128.trans (congrArg some (by kernel_rfl))
  f277 := Tryz.func129.trans (congrArg some (by kernel_rfl))
  t0 := Tryz.underlying0
  a0 := Tryz.isAgg0
  z0 := Tryz.sizeOf0
  v0 := Tryz.zeroValue0
  t3 := Tryz.underlying3
  a3 := Tryz.isAgg3
  z3 := Tryz.sizeOf3
  v3 := Tryz.zeroValue3
  t4 := Tryz.underlying4
  a4 := Tryz.isAgg4
  z4 := Tryz.sizeOf4
  v4 := Tryz.zeroValue4
  t9 := Tryz.underlying9
  a9 := Tryz.isAgg9
  z9 := Tryz.sizeOf9
  v9 := Tryz.zeroValue9
  t20 := Tryz.underlying20
  a20 := Tryz.isAgg20
  z20 := Tryz.sizeOf20
  v20 := Tryz.zeroValue20
  t31 := Tryz.underlying23
  a31 := Tryz.isAgg23
  z31 := Tryz.sizeOf23
  v31 := Tryz.zeroValue23
  t37 := Tryz.underlying77
  a37 := Tryz.isAgg77
  z37 := Tryz.sizeOf77
  v37 := Tryz.zeroValue77
  t70 := Tryz.underlying148
  a70 := Tryz.isAgg148
  z70 := Tryz.sizeOf148
  v70 := Tryz.zeroValue148
  t72 := Tryz.underlying150
  a72 := Tryz.isAgg150
  z72 := Tryz.sizeOf150
  v72 := Tryz.zeroValue150
  t75 := Tryz.underlying153
  a75 := Tryz.isAgg153
  z75 := Tryz.sizeOf153
  v75 := Tryz.zeroValue153
  t76 := Tryz.underlying154
  a76 := Tryz.isAgg154
  z76 := Tryz.sizeOf154
  v76 := Tryz.zeroValue154
  t127 := Tryz.underlying170
  a127 := Tryz.isAgg170
  z127 := Tryz.sizeOf170
  v127 := Tryz.zeroValue170
  t164 := Tryz.underlying184
  a164 := Tryz.isAgg184
  z164 := Tryz.sizeOf184
  v164 := Tryz.zeroValue184 }
theorem Tryz.Builder_Extra_156 : Builder.Extra Tryz.prog Tryz.lays156_ren := {
  sizeBuilder := by kernel_rfl
  liesBuilder := by kernel_rfl
  t5 := Tryz.underlying5
  a5 := Tryz.isAgg5
  z5 := Tryz.sizeOf5
  v5 := Tryz.zeroValue5
  infoByte := by kernel_rfl
  cellsByte := by kernel_rfl
  sizeByte := by kernel_rfl
  neB5 := by decide }
end Go.Proofs

namespace Go.Ve
open Go.Proofs
set_option maxRecDepth 100000
def tab (f : FuncId) : Option FnR := bif Nat.blt f 84 then (bif Nat.blt f 53 then (bif Nat.blt f 30 then (bif Nat.blt f 21 then (bif Nat.blt f 13 then (bif Nat.blt f 10 then (bif Nat.beq f 9 then some fr9 else none) else (bif Nat.beq f 10 then some fr10 else none)) else (bif Nat.blt f 15 then (bif Nat.beq f 13 then some fr13 else none) else (bif Nat.blt f 20 then (bif Nat.beq f 15 then some fr15 else none) else (bif Nat.beq f 20 then some fr20 else none)))) else (bif Nat.blt f 25 then (bif Nat.blt f 23 then (bif Nat.beq f 21 then some fr21 else none) else (bif Nat.beq f 23 then some fr23 else none)) else (bif Nat.blt f 27 then (bif Nat.beq f 25 then some fr25 else none) else (bif Nat.blt f 29 then (bif Nat.beq f 27 then some fr27 else none) else (bif Nat.beq f 29 then some fr29 else none))))) else (bif Nat.blt f 43 then (bif Nat.blt f 35 then (bif Nat.blt f 31 then (bif Nat.beq f 30 then some fr30 else none) else (bif Nat.beq f 31 then some fr31 else none)) else (bif Nat.blt f 39 then (bif Nat.beq f 35 then some fr35 else none) else (bif Nat.blt f 40 then (bif Nat.beq f 39 then some fr39 else none) else (bif Nat.beq f 40 then some fr40 else none)))) else (bif Nat.blt f 46 then (bif Nat.blt f 44 then (bif Nat.beq f 43 then some fr43 else none) else (bif Nat.blt f 45 then (bif Nat.beq f 44 then some fr44 else none) else (bif Nat.beq f 45 then some fr45 else none))) else (bif Nat.blt f 47 then (bif Nat.beq f 46 then some fr46 else none) else (bif Nat.blt f 48 then (bif Nat.beq f 47 then some fr47 else none) else (bif Nat.beq f 48 then some fr48 else none)))))) else (bif Nat.blt f 69 then (bif Nat.blt f 58 then (bif Nat.blt f 55 then (bif Nat.blt f 54 then (bif Nat.beq f 53 then some fr53 else none) else (bif Nat.beq f 54 then some fr54 else none)) else (bif Nat.blt f 56 then (bif Nat.beq f 55 then some fr55 else none) else (bif Nat.blt f 57 then (bif Nat.beq f 56 then some fr56 else none) else (bif Nat.beq f 57 then some fr57 else none)))) else (bif Nat.blt f 65 then (bif Nat.blt f 59 then (bif Nat.beq f 58 then some fr58 else none) else (bif Nat.blt f 63 then (bif Nat.beq f 59 then some fr59 else none) else (bif Nat.beq f 63 then some fr63 else none))) else (bif Nat.blt f 67 then (bif Nat.beq f 65 then some fr65 else none) else (bif Nat.blt f 68 then (bif Nat.beq f 67 then some fr67 else none) else (bif Nat.beq f 68 then some fr68 else none))))) else (bif Nat.blt f 75 then (bif Nat.blt f 71 then (bif Nat.blt f 70 then (bif Nat.beq f 69 then some fr69 else none) else (bif Nat.beq f 70 then some fr70 else none)) else (bif Nat.blt f 72 then (bif Nat.beq f 71 then some fr71 else none) else (bif Nat.blt f 73 then (bif Nat.beq f 72 then some fr72 else none) else (bif Nat.beq f 73 then some fr73 else none)))) else (bif Nat.blt f 78 then (bif Nat.blt f 76 then (bif Nat.beq f 75 then some fr75 else none) else (bif Nat.blt f 77 then (bif Nat.beq f 76 then some fr76 else none) else (bif Nat.beq f 77 then some fr77 else none))) else (bif Nat.blt f 79 then (bif Nat.beq f 78 then some fr78 else none) else (bif Nat.blt f 80 then (bif Nat.beq f 79 then some fr79 else none) else (bif Nat.beq f 80 then some fr80 else none))))))) else (bif Nat.blt f 115 then (bif Nat.blt f 99 then (bif Nat.blt f 94 then (bif Nat.blt f 86 then (bif Nat.blt f 85 then (bif Nat.beq f 84 then some fr84 else none) else (bif Nat.beq f 85 then some fr85 else none)) else (bif Nat.blt f 87 then (bif Nat.beq f 86 then some fr86 else none) else (bif Nat.blt f 90 then (bif Nat.beq f 87 then some fr87 else none) else (bif Nat.beq f 90 then some fr90 else none)))) else (bif Nat.blt f 96 then (bif Nat.blt f 95 then (bif Nat.beq f 94 then some fr94 else none) else (bif Nat.beq f 95 then some fr95 else none)) else (bif Nat.blt f 97 then (bif Nat.beq f 96 then some fr96 else none) else (bif Nat.blt f 98 then (bif Nat.beq f 97 then some fr97 else none) else (bif Nat.beq f 98 then some fr98 else none))))) else (bif Nat.blt f 104 then (bif Nat.blt f 101 then (bif Nat.blt f 100 then (bif Nat.beq f 99 then some fr99 else none) else (bif Nat.beq f 100 then some fr100 else none)) else (bif Nat.blt f 102 then (bif Nat.beq f 101 then some fr101 else none) else (bif Nat.blt f 103 then (bif Nat.beq f 102 then some fr102 else none) else (bif Nat.beq f 103 then some fr103 else none)))) else (bif Nat.blt f 107 then (bif Nat.blt f 105 then (bif Nat.beq f 104 then some fr104 else none) else (bif Nat.blt f 106 then (bif Nat.beq f 105 then some fr105 else none) else (bif Nat.beq f 106 then some fr106 else none))) else (bif Nat.blt f 111 then (bif Nat.beq f 107 then some fr107 else none) else (bif Nat.blt f 114 then (bif Nat.beq f 111 then some fr111 else none) else (bif Nat.beq f 114 then some fr114 else none)))))) else (bif Nat.blt f 126 then (bif Nat.blt f 120 then (bif Nat.blt f 117 then (bif Nat.blt f 116 then (bif Nat.beq f 115 then some fr115 else none) else (bif Nat.beq f 116 then some fr116 else none)) else (bif Nat.blt f 118 then (bif Nat.beq f 117 then some fr117 else none) else (bif Nat.blt f 119 then (bif Nat.beq f 118 then some fr118 else none) else (bif Nat.beq f 119 then some fr119 else none)))) else (bif Nat.blt f 123 then (bif Nat.blt f 121 then (bif Nat.beq f 120 then some fr120 else none) else (bif Nat.blt f 122 then (bif Nat.beq f 121 then some fr121 else none) else (bif Nat.beq f 122 then some fr122 else none))) else (bif Nat.blt f 124 then (bif Nat.beq f 123 then some fr123 else none) else (bif Nat.blt f 125 then (bif Nat.beq f 124 then some fr124 else none) else (bif Nat.beq f 125 then some fr125 else none))))) else (bif Nat.blt f 135 then (bif Nat.blt f 131 then (bif Nat.blt f 130 then (bif Nat.beq f 126 then some fr126 else none) else (bif Nat.beq f 130 then some fr130 else none)) else (bif Nat.blt f 133 then (bif Nat.beq f 131 then some fr131 else none) else (bif Nat.blt f 134 then (bif Nat.beq f 133 then some fr133 else none) else (bif Nat.beq f 134 then some fr134 else none)))) else (bif Nat.blt f 139 then (bif Nat.blt f 136 then (bif Nat.beq f 135 then some fr135 else none) else (bif Nat.blt f 137 then (bif Nat.beq f 136 then some fr136 else none) else (bif Nat.beq f 137 then some fr137 else none))) else (bif Nat.blt f 140 then (bif Nat.beq f 139 then some fr139 else none) else (bif Nat.blt f 142 then (bif Nat.beq f 140 then some fr140 else none) else (bif Nat.beq f 142 then some fr142 else none)))))))
theorem tab_ok : ∀ f fr, tab f = some fr → FnOk Tryz.prog f fr := fun f fr => (tab_node (tab_node (tab_node (tab_node (tab_node (tab_node (tab_leaf ok9) (tab_leaf ok10)) (tab_node (tab_leaf ok13) (tab_node (tab_leaf ok15) (tab_leaf ok20)))) (tab_node (tab_node (tab_leaf ok21) (tab_leaf ok23)) (tab_node (tab_leaf ok25) (tab_node (tab_leaf ok27) (tab_leaf ok29))))) (tab_node (tab_node (tab_node (tab_leaf ok30) (tab_leaf ok31)) (tab_node (tab_leaf ok35) (tab_node (tab_leaf ok39) (tab_leaf ok40)))) (tab_node (tab_node (tab_leaf ok43) (tab_node (tab_leaf ok44) (tab_leaf ok45))) (tab_node (tab_leaf ok46) (tab_node (tab_leaf ok47) (tab_leaf ok48)))))) (tab_node (tab_node (tab_node (tab_node (tab_leaf ok53) (tab_leaf ok54)) (tab_node (tab_leaf ok55) (tab_node (tab_leaf ok56) (tab_leaf ok57)))) (tab_node (tab_node (tab_leaf ok58) (tab_node (tab_leaf ok59) (tab_leaf ok63))) (tab_node (tab_leaf ok65) (tab_node (tab_leaf ok67) (tab_leaf ok68))))) (tab_node (tab_node (tab_node (tab_leaf ok69) (tab_leaf ok70)) (tab_node (tab_leaf ok71) (tab_node (tab_leaf ok72) (tab_leaf ok73)))) (tab_node (tab_node (tab_leaf ok75) (tab_node (tab_leaf ok76) (tab_leaf ok77))) (tab_node (tab_leaf ok78) (tab_node (tab_leaf ok79) (tab_leaf ok80))))))) (tab_node (tab_node (tab_node (tab_node (tab_node (tab_leaf ok84) (tab_leaf ok85)) (tab_node (tab_leaf ok86) (tab_node (tab_leaf ok87) (tab_leaf ok90)))) (tab_node (tab_node (tab_leaf ok94) (tab_leaf ok95)) (tab_node (tab_leaf ok96) (tab_node (tab_leaf ok97) (tab_leaf ok98))))) (tab_node (tab_node (tab_node (tab_leaf ok99) (tab_leaf ok100)) (tab_node (tab_leaf ok101) (tab_node (tab_leaf ok102) (tab_leaf ok103)))) (tab_node (tab_node (tab_leaf ok104) (tab_node (tab_leaf ok105) (tab_leaf ok106))) (tab_node (tab_leaf ok107) (tab_node (tab_leaf ok111) (tab_leaf ok114)))))) (tab_node (tab_node (tab_node (tab_node (tab_leaf ok115) (tab_leaf ok116)) (tab_node (tab_leaf ok117) (tab_node (tab_leaf ok118) (tab_leaf ok119)))) (tab_node (tab_node (tab_leaf ok120) (tab_node (tab_leaf ok121) (tab_leaf ok122))) (tab_node (tab_leaf ok123) (tab_node (tab_leaf ok124) (tab_leaf ok125))))) (tab_node (tab_node (tab_node (tab_leaf ok126) (tab_leaf ok130)) (tab_node (tab_leaf ok131) (tab_node (tab_leaf ok133) (tab_leaf ok134)))) (tab_node (tab_node (tab_leaf ok135) (tab_node (tab_leaf ok136) (tab_leaf ok137))) (tab_node (tab_leaf ok139) (tab_node (tab_leaf ok140) (tab_leaf ok142))))))))
def spec (f : FuncId) : Option Sp := bif Nat.beq f 64 then some (still fJoin) else (bif Nat.beq f 132 then some (still fCount) else (bif Nat.beq f 141 then some (still fIndexByte) else (none)))
theorem spec_ok : SpecOk Tryz.prog spec := .of fun f q => (spec_cons (join_ok Tryz.lays156 Tryz.Builder_Extra_156 ⟨_, Tryz.func64, by kernel_rfl, by kernel_rfl⟩) (spec_cons (count_ok Tryz.func132 (by kernel_rfl) (by kernel_rfl) (by kernel_rfl) (by kernel_rfl)) (spec_cons (indexByte_ok Tryz.func141 (by kernel_rfl) (by kernel_rfl) (by kernel_rfl) (by kernel_rfl)) (fun h => by cases h))))
end Go.Ve

namespace Go.Ve
open Go.Proofs Go.RowKit
set_option linter.unusedVariables false
theorem awakeR1 : isBool true (callF tab spec 40 9 [] .nil 0) = true := by kernel_rfl
theorem awake (w : World) : Calls Tryz.prog 9 #[] w fun e w' => e = .returned (.bool true) ∧ Below w.heap.size w w' :=
  calls_bool (callF_ok tab_ok spec_ok 40) awakeR1 ⟨_, Tryz.func9, by kernel_rfl⟩ (vs := []) rfl (by simp) w
end Go.Ve

namespace Go.Vd
open Go.Proofs Go.RowKit
set_option linter.unusedSimpArgs false
set_option linter.unusedVariables false

theorem ok9 : (funS trueF).ok Tryz.prog 9 := closed_ok ⟨_, Tryz.func9, by kernel_rfl, by kernel_rfl⟩ Go.Ve.awake

def F5 : List D → Option D
  | [.int .i64 n, .str s] => some (.bool true)
  | _ => none

theorem ok5 : (funS F5).ok Tryz.prog 5 := by
  let S : Summs := fun f => if f = 9 then some (funS trueF) else if f = 25 then some (funS F25) else if f = 26 then some (funS F26) else if f = 27 then some (funS F27) else if f = 28 then some (funS F28) else none
  have hS : Summs.ok Tryz.prog S := by
    intro f q h
    simp only [S] at h
    split at h
    · simp only [Option.some.injEq] at h; subst h; rename_i e; subst e; exact ok9
    · split at h
      · simp only [Option.some.injEq] at h; subst h; rename_i e; subst e; exact ok25
      · split at h
        · simp only [Option.some.injEq] at h; subst h; rename_i e; subst e; exact ok26
        · split at h
          · simp only [Option.some.injEq] at h; subst h; rename_i e; subst e; exact ok27
          · split at h
            · simp only [Option.some.injEq] at h; subst h; rename_i e; subst e; exact ok28
            · cases h
  have s9 : S 9 = some (funS trueF) := rfl
  have s25 : S 25 = some (funS F25) := rfl
  have s26 : S 26 = some (funS F26) := rfl
  have s27 : S 27 = some (funS F27) := rfl
  have s28 : S 28 = some (funS F28) := rfl
  refine fun_ok (S := S) hS fn5 (fun ds r h => ?_) (fun ds r h => ?_)
  · unfold F5 at h; split at h
    · simp
    · cases h
  · unfold F5 at h; split at h
    · rename_i n s
      simp only [Option.some.injEq] at h
      subst h
      unfold dc5
      simp only [↓go1, go2, go3, go4, reduceIte, Nat.reduceEqDiff, Nat.reduceAdd]
      refine ifQ.intro (fun h => ?_) (fun h => ?_)
      · simp only [↓go1, go2, go3, go4, reduceIte, Nat.reduceEqDiff, Nat.reduceAdd, callK_fun s9, trueF]
      · simp only [↓go1, go2, go3, go4, reduceIte, Nat.reduceEqDiff, Nat.reduceAdd, callK_fun s9, callK_fun s25, callK_fun s26, callK_fun s27, callK_fun s28, F25, F26, F27, F28, trueF]
    · cases h

theorem digits_law (w : World) (n : Int) (s : ByteArray) : Calls Tryz.prog 5 #[.int .i64 n, .string s] w fun e w' => e = .returned (.bool true) ∧ Below w.heap.size w w' := by
  have hs : s = ⟨s.data.toList.toArray⟩ := by simp
  have := funS_bool (w := w) ok5 (ds := [.int .i64 n, .str s.data.toList]) (b := true) rfl rfl (vs := [.int .i64 n, .string ⟨s.data.toList.toArray⟩]) rfl (fun g j d v hd hv => by
    match j with
    | 0 => simp at hd hv; subst hd hv; exact .int _ _
    | 1 => simp at hd hv; subst hd hv; exact .str _
    | j + 2 => simp at hd)
  rw [← hs] at this
  exact this
end Go.Vd
