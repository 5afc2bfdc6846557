/-
  A part of the proof: the program at hand. Nothing in it is assumed.
-/
import Derived.Test.YtcjfmpodkafceaaGreatDoorBackP5
import Derived.Test.YtcjfmpodkafceaaGreatDoorProg
import Derived.Shelf.Strings.OnBuilder
import Derived.Shelf.Strings.Split

set_option linter.unusedSimpArgs false
set_option linter.unusedVariables false

namespace Go.Vd
open Go.RowKit
set_option maxRecDepth 10000
def dc9 : DC := (.seq (.row [⟨some 0, .mv (.c (.bool false)), [], none⟩]) (.seq (.row [⟨some 16, .build [(.slice true [] []), (.int .i64 0), (.int .i64 0), (.bool false), (.slice true [] [])] [], [], none⟩, ⟨some 17, .call (.c (.fn 10 [])) [(.t 16)], [], none⟩, ⟨some 15, .mv (.t 17), [], none⟩, ⟨some 18, .ext 0 (.t 15), [], none⟩, ⟨some 19, .ext 1 (.t 15), [], none⟩, ⟨some 1, .mv (.t 18), [], none⟩, ⟨some 2, .mv (.t 19), [], none⟩]) (.seq (.row [⟨some 21, .bslice 9 1 [(.c (.str [116, 111, 108, 100, 32, 51, 32, 49, 32, 49])), (.c (.str [115, 97, 105, 100, 32, 54, 49, 54, 50]))], [], none⟩, ⟨some 22, .call (.c (.fn 13 [])) [(.t 21)], [], none⟩, ⟨some 20, .mv (.t 22), [], none⟩, ⟨some 23, .ext 0 (.t 20), [], none⟩, ⟨some 24, .ext 1 (.t 20), [], none⟩, ⟨some 3, .alloc [(.slice true [] []), (.int .i64 0), (.int .i64 0), (.bool false), (.slice true [] [])], [], none⟩, ⟨none, .store 5 (.t 3) (.t 23), [], none⟩, ⟨some 4, .mv (.t 24), [], none⟩]) (.seq (.row [⟨some 26, .load (some 5) (.t 3), [], none⟩, ⟨some 27, .call (.c (.fn 21 [])) [(.t 26)], [], none⟩, ⟨some 25, .mv (.t 27), [], none⟩, ⟨some 28, .ext 0 (.t 25), [], none⟩, ⟨some 29, .ext 1 (.t 25), [], none⟩, ⟨some 5, .mv (.t 28), [], none⟩, ⟨some 6, .mv (.t 29), [], none⟩]) (.seq (.row [⟨some 31, .mv (.t 5), [], none⟩, ⟨some 32, .call (.c (.fn 23 [])) [(.t 31)], [], none⟩, ⟨some 30, .mv (.t 32), [], none⟩, ⟨some 33, .ext 0 (.t 30), [], none⟩, ⟨some 34, .ext 1 (.t 30), [], none⟩, ⟨some 7, .alloc [(.slice true [] []), (.int .i64 0), (.int .i64 0), (.bool false), (.slice true [] [])], [], none⟩, ⟨none, .store 5 (.t 7) (.t 33), [], none⟩, ⟨some 8, .mv (.t 34), [], none⟩]) (.seq (.row [⟨some 36, .bslice 9 1 [(.c (.str [116, 111, 108, 100, 32, 51, 32, 49, 32, 50]))], [], none⟩, ⟨some 37, .call (.c (.fn 13 [])) [(.t 36)], [], none⟩, ⟨some 35, .mv (.t 37), [], none⟩, ⟨some 38, .ext 0 (.t 35), [], none⟩, ⟨some 39, .ext 1 (.t 35), [], none⟩, ⟨some 9, .alloc [(.slice true [] []), (.int .i64 0), (.int .i64 0), (.bool false), (.slice true [] [])], [], none⟩, ⟨none, .store 5 (.t 9) (.t 38), [], none⟩, ⟨some 10, .mv (.t 39), [], none⟩]) (.seq (.row [⟨some 41, .call (.c (.fn 23 [])) [(.c (.str [120]))], [], none⟩, ⟨some 40, .mv (.t 41), [], none⟩, ⟨some 42, .ext 0 (.t 40), [], none⟩, ⟨some 43, .ext 1 (.t 40), [], none⟩, ⟨some 11, .alloc [(.slice true [] []), (.int .i64 0), (.int .i64 0), (.bool false), (.slice true [] [])], [], none⟩, ⟨none, .store 5 (.t 11) (.t 42), [], none⟩, ⟨some 12, .mv (.t 43), [], none⟩]) (.seq (.row [⟨some 45, .call (.c (.fn 25 [])) [(.c (.str [45, 49, 50]))], [], none⟩, ⟨some 44, .mv (.t 45), [], none⟩, ⟨some 46, .ext 0 (.t 44), [], none⟩, ⟨some 47, .ext 1 (.t 44), [], none⟩, ⟨some 13, .mv (.t 46), [], none⟩, ⟨some 14, .mv (.t 47), [], none⟩]) (.seq (.row [⟨some 48, .mv (.t 2), [], none⟩, ⟨some 49, .bin .eql (.t 48) (.c (.int .i64 0)), [], none⟩, ⟨some 50, .mv (.t 49), [], none⟩, ⟨some 51, .mv (.t 1), [], some (2, true)⟩, ⟨some 52, .len false (.t 51), [], some (2, true)⟩, ⟨some 53, .bin .eql (.t 52) (.c (.int .i64 1)), [], some (2, true)⟩, ⟨some 54, .pick (.t 50) (.t 53) (.c (.bool false)), [], none⟩, ⟨some 55, .mv (.t 54), [], none⟩, ⟨some 56, .mv (.t 1), [], some (7, true)⟩, ⟨some 57, .iaddr 1 (.t 56) (.c (.int .i64 0)), [], some (7, true)⟩, ⟨some 58, .load none (.t 57), [], some (7, true)⟩, ⟨some 59, .bin .eql (.t 58) (.c (.str [116, 111, 108, 100, 32, 48, 32, 48, 32, 48])), [], some (7, true)⟩, ⟨some 60, .pick (.t 55) (.t 59) (.c (.bool false)), [], none⟩, ⟨some 61, .mv (.t 60), [], none⟩, ⟨some 62, .mv (.t 4), [], some (13, true)⟩, ⟨some 63, .bin .eql (.t 62) (.c (.int .i64 0)), [], some (13, true)⟩, ⟨some 64, .pick (.t 61) (.t 63) (.c (.bool false)), [], none⟩, ⟨some 65, .mv (.t 64), [], none⟩, ⟨some 66, .faddr 1 (.t 3), [], some (17, true)⟩, ⟨some 67, .load none (.t 66), [], some (17, true)⟩, ⟨some 68, .bin .eql (.t 67) (.c (.int .i64 3)), [], some (17, true)⟩, ⟨some 69, .pick (.t 65) (.t 68) (.c (.bool false)), [], none⟩, ⟨some 70, .mv (.t 69), [], none⟩, ⟨some 71, .faddr 3 (.t 3), [], some (22, true)⟩, ⟨some 72, .load none (.t 71), [], some (22, true)⟩, ⟨some 73, .pick (.t 70) (.t 72) (.c (.bool false)), [], none⟩, ⟨some 74, .mv (.t 73), [], none⟩, ⟨some 75, .faddr 4 (.t 3), [], some (26, true)⟩, ⟨some 76, .load none (.t 75), [], some (26, true)⟩, ⟨some 77, .len false (.t 76), [], some (26, true)⟩, ⟨some 78, .bin .eql (.t 77) (.c (.int .i64 1)), [], some (26, true)⟩, ⟨some 79, .pick (.t 74) (.t 78) (.c (.bool false)), [], none⟩, ⟨some 80, .mv (.t 79), [], none⟩, ⟨some 81, .faddr 4 (.t 3), [], some (32, true)⟩, ⟨some 82, .load none (.t 81), [], some (32, true)⟩, ⟨some 83, .iaddr 1 (.t 82) (.c (.int .i64 0)), [], some (32, true)⟩, ⟨some 84, .load none (.t 83), [], some (32, true)⟩, ⟨some 85, .bin .eql (.t 84) (.c (.str [97, 98])), [], some (32, true)⟩, ⟨some 86, .pick (.t 80) (.t 85) (.c (.bool false)), [], none⟩, ⟨some 87, .mv (.t 86), [], none⟩, ⟨some 88, .mv (.t 6), [], some (39, true)⟩, ⟨some 89, .bin .eql (.t 88) (.c (.int .i64 0)), [], some (39, true)⟩, ⟨some 90, .pick (.t 87) (.t 89) (.c (.bool false)), [], none⟩, ⟨some 91, .mv (.t 90), [], none⟩, ⟨some 92, .mv (.t 8), [], some (43, true)⟩, ⟨some 93, .bin .eql (.t 92) (.c (.int .i64 0)), [], some (43, true)⟩, ⟨some 94, .pick (.t 91) (.t 93) (.c (.bool false)), [], none⟩, ⟨some 95, .mv (.t 94), [], none⟩, ⟨some 96, .load (some 5) (.t 3), [], some (47, true)⟩, ⟨some 97, .load (some 5) (.t 7), [], some (47, true)⟩, ⟨some 98, .call (.c (.fn 20 [])) [(.t 96), (.t 97)], [], some (47, true)⟩, ⟨some 99, .pick (.t 95) (.t 98) (.c (.bool false)), [], none⟩, ⟨some 100, .mv (.t 99), [], none⟩, ⟨some 101, .load (some 5) (.t 3), [], some (52, true)⟩, ⟨some 102, .build [(.slice true [] []), (.int .i64 0), (.int .i64 0), (.bool false), (.slice true [] [])] [], [], some (52, true)⟩, ⟨some 103, .call (.c (.fn 20 [])) [(.t 101), (.t 102)], [], some (52, true)⟩, ⟨some 104, .un .not (.t 103), [], some (52, true)⟩, ⟨some 105, .pick (.t 100) (.t 104) (.c (.bool false)), [], none⟩, ⟨some 106, .mv (.t 105), [], none⟩, ⟨some 107, .mv (.t 10), [], some (58, true)⟩, ⟨some 108, .bin .eql (.t 107) (.c (.int .i64 4)), [], some (58, true)⟩, ⟨some 109, .pick (.t 106) (.t 108) (.c (.bool false)), [], none⟩, ⟨some 110, .mv (.t 109), [], none⟩, ⟨some 111, .mv (.t 12), [], some (62, true)⟩, ⟨some 112, .bin .eql (.t 111) (.c (.int .i64 4)), [], some (62, true)⟩, ⟨some 113, .pick (.t 110) (.t 112) (.c (.bool false)), [], none⟩, ⟨some 114, .mv (.t 113), [], none⟩, ⟨some 115, .mv (.t 13), [], some (66, true)⟩, ⟨some 116, .bin .eql (.t 115) (.c (.int .i64 (-12))), [], some (66, true)⟩, ⟨some 117, .pick (.t 114) (.t 116) (.c (.bool false)), [], none⟩, ⟨some 118, .mv (.t 117), [], none⟩, ⟨some 119, .mv (.t 14), [], some (70, true)⟩, ⟨some 120, .pick (.t 118) (.t 119) (.c (.bool false)), [], none⟩, ⟨some 121, .mv (.t 120), [], none⟩, ⟨some 122, .call (.c (.fn 27 [])) [(.c (.int .i64 (-7)))], [], some (73, true)⟩, ⟨some 123, .bin .eql (.t 122) (.c (.str [45, 55])), [], some (73, true)⟩, ⟨some 124, .pick (.t 121) (.t 123) (.c (.bool false)), [], none⟩, ⟨some 125, .mv (.t 124), [], none⟩, ⟨some 126, .call (.c (.fn 27 [])) [(.c (.int .i64 1099511627777))], [], some (77, true)⟩, ⟨some 127, .bin .eql (.t 126) (.c (.str [])), [], some (77, true)⟩, ⟨some 128, .pick (.t 125) (.t 127) (.c (.bool false)), [], none⟩, ⟨some 129, .mv (.t 128), [], none⟩, ⟨some 130, .build [(.slice true [] []), (.int .i64 0), (.int .i64 0), (.bool false), (.slice true [] [])] [(2, 1, (.c (.int .i64 1099511627777)))], [], some (81, true)⟩, ⟨some 131, .call (.c (.fn 15 [])) [(.t 130)], [], some (81, true)⟩, ⟨some 132, .bin .eql (.t 131) (.c (.int .i64 8)), [], some (81, true)⟩, ⟨some 133, .pick (.t 129) (.t 132) (.c (.bool false)), [], none⟩, ⟨some 134, .mv (.t 133), [], none⟩, ⟨some 135, .pick (.t 134) (.c (.bool true)) (.c (.bool false)), [], none⟩, ⟨some 136, .mv (.t 135), [], none⟩, ⟨some 137, .pick (.t 136) (.c (.bool true)) (.c (.bool false)), [], none⟩, ⟨some 0, .mv (.t 137), [], none⟩]) .ret)))))))))
def wokT : Td := ⟨[], 3, 1, true, [[97, 98]]⟩
theorem tdT : tdD true false wokT = .agg [.slice true [] [], .int .i64 3, .int .i64 1, .bool true, .slice false [] [.str [97, 98]]] := rfl
theorem tdZ : tdD true true zeroT = .agg [.slice true [] [], .int .i64 0, .int .i64 0, .bool false, .slice true [] []] := rfl
theorem c10 : Flines [.agg [.slice true [] [], .int .i64 0, .int .i64 0, .bool false, .slice true [] []]] = some (.tup [.slice false [] [.str [116, 111, 108, 100, 32, 48, 32, 48, 32, 48]], .int .i64 0]) := by kernel_rfl
theorem c13 (n : Bool) (i : Id) : F13 [.slice n i [.str [116, 111, 108, 100, 32, 51, 32, 49, 32, 49], .str [115, 97, 105, 100, 32, 54, 49, 54, 50]]] = some (.tup [.agg [.slice true [] [], .int .i64 3, .int .i64 1, .bool true, .slice false [] [.str [97, 98]]], .int .i64 0]) := by kernel_rfl
theorem c13b (n : Bool) (i : Id) : F13 [.slice n i [.str [116, 111, 108, 100, 32, 51, 32, 49, 32, 50]]] = some (.tup [.agg [.slice true [] [], .int .i64 0, .int .i64 0, .bool false, .slice true [] []], .int .i64 4]) := by kernel_rfl
theorem c21 : Fbytes [.agg [.slice true [] [], .int .i64 3, .int .i64 1, .bool true, .slice false [] [.str [97, 98]]]] = some (.tup [.str (bytesB wokT), .int .i64 0]) := by kernel_rfl
theorem c23 : F23 [.str (bytesB wokT)] = some (.tup [.agg [.slice true [] [], .int .i64 3, .int .i64 1, .bool true, .slice false [] [.str [97, 98]]], .int .i64 0]) := by kernel_rfl
theorem c23b : F23 [.str [120]] = some (.tup [.agg [.slice true [] [], .int .i64 0, .int .i64 0, .bool false, .slice true [] []], .int .i64 4]) := by kernel_rfl
theorem c25 : F25 [.str [45, 49, 50]] = some (.tup [.int .i64 (-12), .bool true]) := by kernel_rfl
theorem c20 : Fsame [.agg [.slice true [] [], .int .i64 3, .int .i64 1, .bool true, .slice false [] [.str [97, 98]]], .agg [.slice true [] [], .int .i64 3, .int .i64 1, .bool true, .slice false [] [.str [97, 98]]]] = some (.bool true) := by kernel_rfl
theorem c20b : Fsame [.agg [.slice true [] [], .int .i64 3, .int .i64 1, .bool true, .slice false [] [.str [97, 98]]], .agg [.slice true [] [], .int .i64 0, .int .i64 0, .bool false, .slice true [] []]] = some (.bool false) := by kernel_rfl
theorem c27 : F27 [.int .i64 (-7)] = some (.str [45, 55]) := by kernel_rfl
theorem c27b : F27 [.int .i64 1099511627777] = some (.str []) := by kernel_rfl
theorem c15 : F15 [.agg [.slice true [] [], .int .i64 0, .int .i64 1099511627777, .bool false, .slice true [] []]] = some (.int .i64 8) := by kernel_rfl
theorem cFill : fillD [.slice true [] [], .int .i64 0, .int .i64 0, .bool false, .slice true [] []] [(2, 1, .int .i64 1099511627777)] = some [.slice true [] [], .int .i64 0, .int .i64 1099511627777, .bool false, .slice true [] []] := rfl
set_option maxHeartbeats 8000000 in
theorem ok9 {P : Program} (hf : Fn P 9 138 dc9 [.t 0]) (h10 : (funS Flines).ok P 10) (h13 : (funS F13).ok P 13) (h15 : (funS F15).ok P 15) (h20 : (funS Fsame).ok P 20) (h21 : (funS Fbytes).ok P 21) (h23 : (funS F23).ok P 23) (h25 : (funS F25).ok P 25) (h27 : (funS F27).ok P 27) : (funS trueF).ok P 9 := by
 obtain ⟨S, hS, s10, s13, s15, s20, s21, s23, s25, s27⟩ : ∃ S : Summs, Summs.ok P S ∧ S 10 = some (funS Flines) ∧ S 13 = some (funS F13) ∧ S 15 = some (funS F15) ∧ S 20 = some (funS Fsame) ∧ S 21 = some (funS Fbytes) ∧ S 23 = some (funS F23) ∧ S 25 = some (funS F25) ∧ S 27 = some (funS F27) :=
  ⟨tabL [(10, _), (13, _), (15, _), (20, _), (21, _), (23, _), (25, _), (27, _)], tabL_cons h10 (tabL_cons h13 (tabL_cons h15 (tabL_cons h20 (tabL_cons h21 (tabL_cons h23 (tabL_cons h25 (tabL_cons h27 tabL_nil))))))), rfl, rfl, rfl, rfl, rfl, rfl, rfl, rfl⟩
 refine fun_ok (S := S) hS hf (fun ds r h => ?_) (fun ds r h => ?_)
 ·unfold trueF at h; split at h
  ·simp
  ·cases h
 ·unfold trueF at h; split at h
  ·simp only [Option.some.injEq] at h
   subst h
   have x1 : ((((1 : Nat) : Int) = 1)) = True := by simp
   unfold dc9
   simp only [↓go1, gB0, reduceIte, Nat.reduceEqDiff, Nat.reduceAdd, Nat.reduceSub, Nat.reduceLT, Nat.reduceLeDiff, rd_succ, rd_zero, put_rd, fill_nil, tdCells, callK_fun s10, callK_fun s13, callK_fun s15, callK_fun s20, callK_fun s21, callK_fun s23, callK_fun s25, callK_fun s27, c10, c13, c13b, c21, c23, c23b, c25, c20, c20b, c27, c27b, c15, tdT, tdZ, x1, Int.reduceEq, Int.reduceNeg, Int.reduceLE, Int.reduceToNat, D.cells, cFill]
  ·cases h
end Go.Vd

namespace Go.Vd
open Go.Proofs Go.RowKit
set_option maxRecDepth 100000
theorem dfn3 : Fn Tryz.prog 3 88 dc3 [.t 6] := ⟨Tryz.f3, _, Tryz.func3, rfl, by kernel_rfl, rfl, by kernel_rfl, by kernel_rfl⟩
theorem dfn7 : Fn Tryz.prog 7 54 dc7 [.t 2] := ⟨Tryz.f7, _, Tryz.func7, rfl, by kernel_rfl, rfl, by kernel_rfl, by kernel_rfl⟩
theorem dfn8 : Fn Tryz.prog 8 19 dc8 [.t 2] := ⟨Tryz.f8, _, Tryz.func8, rfl, by kernel_rfl, rfl, by kernel_rfl, by kernel_rfl⟩
theorem dfn10 : Fn Tryz.prog 10 77 dc10 [.t 2, .t 3] := ⟨Tryz.f10, _, Tryz.func10, rfl, by kernel_rfl, rfl, by kernel_rfl, by kernel_rfl⟩
theorem dfn11 : Fn Tryz.prog 11 15 dc11 [.cell (some 5) 2] := ⟨Tryz.f11, _, Tryz.func11, rfl, by kernel_rfl, rfl, by kernel_rfl, by kernel_rfl⟩
theorem dfn13 : Fn Tryz.prog 13 30 dc13 [.cell (some 5) 2, .t 3] := ⟨Tryz.f13, _, Tryz.func13, rfl, by kernel_rfl, rfl, by kernel_rfl, by kernel_rfl⟩
theorem dfn15 : Fn Tryz.prog 15 62 dc15 [.t 2] := ⟨Tryz.f15, _, Tryz.func15, rfl, by kernel_rfl, rfl, by kernel_rfl, by kernel_rfl⟩
theorem dfn17 : Fn Tryz.prog 17 26 dc17 [.t 4] := ⟨Tryz.f17, _, Tryz.func17, rfl, by kernel_rfl, rfl, by kernel_rfl, by kernel_rfl⟩
theorem dfn20 : Fn Tryz.prog 20 38 dc20 [.t 4] := ⟨Tryz.f20, _, Tryz.func20, rfl, by kernel_rfl, rfl, by kernel_rfl, by kernel_rfl⟩
theorem dfn29 : Fn Tryz.prog 29 5 dc29 [.t 2] := ⟨Tryz.f29, _, Tryz.func29, rfl, by kernel_rfl, rfl, by kernel_rfl, by kernel_rfl⟩
theorem dfn30 : Fn Tryz.prog 30 4 dc30 [.t 2] := ⟨Tryz.f30, _, Tryz.func30, rfl, by kernel_rfl, rfl, by kernel_rfl, by kernel_rfl⟩
theorem dfn31 : Fn Tryz.prog 31 7 dc31 [.t 2] := ⟨Tryz.f31, _, Tryz.func31, rfl, by kernel_rfl, rfl, by kernel_rfl, by kernel_rfl⟩
theorem dfn32 : Fn Tryz.prog 32 19 dc32 [.t 2] := ⟨Tryz.f32, _, Tryz.func32, rfl, by kernel_rfl, rfl, by kernel_rfl, by kernel_rfl⟩
theorem dfn35 : Fn Tryz.prog 35 79 dc35 [.t 6] := ⟨Tryz.f35, _, Tryz.func35, rfl, by kernel_rfl, rfl, by kernel_rfl, by kernel_rfl⟩
theorem dfn40 : Fn Tryz.prog 40 6 dc40 [.t 2] := ⟨Tryz.f40, _, Tryz.func40, rfl, by kernel_rfl, rfl, by kernel_rfl, by kernel_rfl⟩
theorem dfn43 : Fn Tryz.prog 43 26 dc43 [.t 4] := ⟨Tryz.f43, _, Tryz.func43, rfl, by kernel_rfl, rfl, by kernel_rfl, by kernel_rfl⟩
theorem dfn44 : Fn Tryz.prog 44 26 dc44 [.t 4] := ⟨Tryz.f44, _, Tryz.func44, rfl, by kernel_rfl, rfl, by kernel_rfl, by kernel_rfl⟩
theorem dfn65 : Fn Tryz.prog 65 29 dc65 [.t 2] := ⟨Tryz.f65, _, Tryz.func65, rfl, by kernel_rfl, rfl, by kernel_rfl, by kernel_rfl⟩
theorem dfn68 : Fn Tryz.prog 68 28 dc68 [.t 2] := ⟨Tryz.f68, _, Tryz.func68, rfl, by kernel_rfl, rfl, by kernel_rfl, by kernel_rfl⟩
theorem dfn69 : Fn Tryz.prog 69 23 dc69 [.t 2] := ⟨Tryz.f69, _, Tryz.func69, rfl, by kernel_rfl, rfl, by kernel_rfl, by kernel_rfl⟩
theorem dfn70 : Fn Tryz.prog 70 23 dc70 [.t 2] := ⟨Tryz.f70, _, Tryz.func70, rfl, by kernel_rfl, rfl, by kernel_rfl, by kernel_rfl⟩
theorem dfn71 : Fn Tryz.prog 71 16 dc71 [.t 2] := ⟨Tryz.f71, _, Tryz.func71, rfl, by kernel_rfl, rfl, by kernel_rfl, by kernel_rfl⟩
theorem dfn72 : Fn Tryz.prog 72 23 dc72 [.cell (some 7) 2] := ⟨Tryz.f72, _, Tryz.func72, rfl, by kernel_rfl, rfl, by kernel_rfl, by kernel_rfl⟩
theorem dfn73 : Fn Tryz.prog 73 31 dc73 [.t 2] := ⟨Tryz.f73, _, Tryz.func73, rfl, by kernel_rfl, rfl, by kernel_rfl, by kernel_rfl⟩
theorem dfn77 : Fn Tryz.prog 77 9 dc77 [.t 4] := ⟨Tryz.f77, _, Tryz.func77, rfl, by kernel_rfl, rfl, by kernel_rfl, by kernel_rfl⟩
theorem dfn78 : Fn Tryz.prog 78 6 dc78 [.t 2] := ⟨Tryz.f78, _, Tryz.func78, rfl, by kernel_rfl, rfl, by kernel_rfl, by kernel_rfl⟩
theorem dfn95 : Fn Tryz.prog 95 47 dc95 [.t 2, .t 3] := ⟨Tryz.f95, _, Tryz.func95, rfl, by kernel_rfl, rfl, by kernel_rfl, by kernel_rfl⟩
theorem dfn97 : Fn Tryz.prog 97 19 dc97 [.t 4] := ⟨Tryz.f97, _, Tryz.func97, rfl, by kernel_rfl, rfl, by kernel_rfl, by kernel_rfl⟩
theorem dfn117 : Fn Tryz.prog 117 24 dc117 [.t 2] := ⟨Tryz.f117, _, Tryz.func117, rfl, by kernel_rfl, rfl, by kernel_rfl, by kernel_rfl⟩
theorem desk : Desk Tryz.prog where
 f3 := dfn3
 f7 := dfn7
 f8 := dfn8
 f10 := dfn10
 f11 := dfn11
 f13 := dfn13
 f15 := dfn15
 f17 := dfn17
 f20 := dfn20
 f29 := dfn29
 f30 := dfn30
 f31 := dfn31
 f32 := dfn32
 f35 := dfn35
 f40 := dfn40
 f43 := dfn43
 f44 := dfn44
 f65 := dfn65
 f68 := dfn68
 f69 := dfn69
 f70 := dfn70
 f71 := dfn71
 f72 := dfn72
 f73 := dfn73
 f77 := dfn77
 f78 := dfn78
 f95 := dfn95
 f97 := dfn97
 f117 := dfn117
end Go.Vd

namespace Go.Vd
open Go.Proofs Go.RowKit
set_option maxRecDepth 100000
theorem bfn4 : Fn Tryz.prog 4 64 dc4 [.t 4] := ⟨Tryz.f4, _, Tryz.func4, rfl, by kernel_rfl, rfl, by kernel_rfl, by kernel_rfl⟩
theorem bfn6 : Fn Tryz.prog 6 145 dc6 [.t 6] := ⟨Tryz.f6, _, Tryz.func6, rfl, by kernel_rfl, rfl, by kernel_rfl, by kernel_rfl⟩
theorem bfn21 : Fn Tryz.prog 21 41 dc21 [.t 2, .t 3] := ⟨Tryz.f21, _, Tryz.func21, rfl, by kernel_rfl, rfl, by kernel_rfl, by kernel_rfl⟩
theorem bfn23 : Fn Tryz.prog 23 92 dc23 [.cell (some 5) 2, .t 3] := ⟨Tryz.f23, _, Tryz.func23, rfl, by kernel_rfl, rfl, by kernel_rfl, by kernel_rfl⟩
theorem bfn45 : Fn Tryz.prog 45 12 dc45 [.t 2, .t 3] := ⟨Tryz.f45, _, Tryz.func45, rfl, by kernel_rfl, rfl, by kernel_rfl, by kernel_rfl⟩
theorem bfn46 : Fn Tryz.prog 46 21 dc46 [.t 2] := ⟨Tryz.f46, _, Tryz.func46, rfl, by kernel_rfl, rfl, by kernel_rfl, by kernel_rfl⟩
theorem bfn47 : Fn Tryz.prog 47 42 dc47 [.t 2] := ⟨Tryz.f47, _, Tryz.func47, rfl, by kernel_rfl, rfl, by kernel_rfl, by kernel_rfl⟩
theorem bfn48 : Fn Tryz.prog 48 7 dc48 [.t 2] := ⟨Tryz.f48, _, Tryz.func48, rfl, by kernel_rfl, rfl, by kernel_rfl, by kernel_rfl⟩
theorem bfn53 : Fn Tryz.prog 53 22 dc53 [.t 2, .t 3] := ⟨Tryz.f53, _, Tryz.func53, rfl, by kernel_rfl, rfl, by kernel_rfl, by kernel_rfl⟩
theorem bfn54 : Fn Tryz.prog 54 63 dc54 [.t 6] := ⟨Tryz.f54, _, Tryz.func54, rfl, by kernel_rfl, rfl, by kernel_rfl, by kernel_rfl⟩
theorem bfn55 : Fn Tryz.prog 55 24 dc55 [.t 4] := ⟨Tryz.f55, _, Tryz.func55, rfl, by kernel_rfl, rfl, by kernel_rfl, by kernel_rfl⟩
theorem bfn56 : Fn Tryz.prog 56 24 dc56 [.t 4] := ⟨Tryz.f56, _, Tryz.func56, rfl, by kernel_rfl, rfl, by kernel_rfl, by kernel_rfl⟩
theorem bfn57 : Fn Tryz.prog 57 24 dc57 [.t 4] := ⟨Tryz.f57, _, Tryz.func57, rfl, by kernel_rfl, rfl, by kernel_rfl, by kernel_rfl⟩
theorem bfn58 : Fn Tryz.prog 58 24 dc58 [.t 4] := ⟨Tryz.f58, _, Tryz.func58, rfl, by kernel_rfl, rfl, by kernel_rfl, by kernel_rfl⟩
theorem bfn59 : Fn Tryz.prog 59 52 dc59 [.cell (some 7) 4] := ⟨Tryz.f59, _, Tryz.func59, rfl, by kernel_rfl, rfl, by kernel_rfl, by kernel_rfl⟩
theorem bfn79 : Fn Tryz.prog 79 5 dc79 [.t 2] := ⟨Tryz.f79, _, Tryz.func79, rfl, by kernel_rfl, rfl, by kernel_rfl, by kernel_rfl⟩
theorem bfn80 : Fn Tryz.prog 80 88 dc80 [.t 4] := ⟨Tryz.f80, _, Tryz.func80, rfl, by kernel_rfl, rfl, by kernel_rfl, by kernel_rfl⟩
theorem bfn84 : Fn Tryz.prog 84 45 dc84 [.t 4] := ⟨Tryz.f84, _, Tryz.func84, rfl, by kernel_rfl, rfl, by kernel_rfl, by kernel_rfl⟩
theorem bfn85 : Fn Tryz.prog 85 17 dc85 [.t 2] := ⟨Tryz.f85, _, Tryz.func85, rfl, by kernel_rfl, rfl, by kernel_rfl, by kernel_rfl⟩
theorem bfn86 : Fn Tryz.prog 86 13 dc86 [.t 2, .t 3] := ⟨Tryz.f86, _, Tryz.func86, rfl, by kernel_rfl, rfl, by kernel_rfl, by kernel_rfl⟩
theorem bfn87 : Fn Tryz.prog 87 13 dc87 [.t 2, .t 3] := ⟨Tryz.f87, _, Tryz.func87, rfl, by kernel_rfl, rfl, by kernel_rfl, by kernel_rfl⟩
theorem bfn98 : Fn Tryz.prog 98 37 dc98 [.t 4] := ⟨Tryz.f98, _, Tryz.func98, rfl, by kernel_rfl, rfl, by kernel_rfl, by kernel_rfl⟩
theorem bfn99 : Fn Tryz.prog 99 18 dc99 [.t 6] := ⟨Tryz.f99, _, Tryz.func99, rfl, by kernel_rfl, rfl, by kernel_rfl, by kernel_rfl⟩
theorem bfn100 : Fn Tryz.prog 100 14 dc100 [.t 4] := ⟨Tryz.f100, _, Tryz.func100, rfl, by kernel_rfl, rfl, by kernel_rfl, by kernel_rfl⟩
theorem bfn101 : Fn Tryz.prog 101 19 dc101 [.t 4] := ⟨Tryz.f101, _, Tryz.func101, rfl, by kernel_rfl, rfl, by kernel_rfl, by kernel_rfl⟩
theorem bfn102 : Fn Tryz.prog 102 16 dc102 [.t 2] := ⟨Tryz.f102, _, Tryz.func102, rfl, by kernel_rfl, rfl, by kernel_rfl, by kernel_rfl⟩
theorem bfn103 : Fn Tryz.prog 103 30 dc103 [.t 4] := ⟨Tryz.f103, _, Tryz.func103, rfl, by kernel_rfl, rfl, by kernel_rfl, by kernel_rfl⟩
theorem bfn104 : Fn Tryz.prog 104 59 dc104 [.t 4] := ⟨Tryz.f104, _, Tryz.func104, rfl, by kernel_rfl, rfl, by kernel_rfl, by kernel_rfl⟩
theorem bfn105 : Fn Tryz.prog 105 15 dc105 [] := ⟨Tryz.f105, _, Tryz.func105, rfl, by kernel_rfl, rfl, by kernel_rfl, by kernel_rfl⟩
theorem bfn106 : Fn Tryz.prog 106 14 dc106 [.t 2] := ⟨Tryz.f106, _, Tryz.func106, rfl, by kernel_rfl, rfl, by kernel_rfl, by kernel_rfl⟩
theorem bfn107 : Fn Tryz.prog 107 9 dc107 [.t 2] := ⟨Tryz.f107, _, Tryz.func107, rfl, by kernel_rfl, rfl, by kernel_rfl, by kernel_rfl⟩
theorem bfn118 : Fn Tryz.prog 118 30 dc118 [.t 4] := ⟨Tryz.f118, _, Tryz.func118, rfl, by kernel_rfl, rfl, by kernel_rfl, by kernel_rfl⟩
theorem bfn119 : Fn Tryz.prog 119 49 dc119 [.t 4] := ⟨Tryz.f119, _, Tryz.func119, rfl, by kernel_rfl, rfl, by kernel_rfl, by kernel_rfl⟩
theorem bfn120 : Fn Tryz.prog 120 9 dc120 [.t 2] := ⟨Tryz.f120, _, Tryz.func120, rfl, by kernel_rfl, rfl, by kernel_rfl, by kernel_rfl⟩
theorem bfn121 : Fn Tryz.prog 121 17 dc121 [.t 4] := ⟨Tryz.f121, _, Tryz.func121, rfl, by kernel_rfl, rfl, by kernel_rfl, by kernel_rfl⟩
theorem bfn122 : Fn Tryz.prog 122 23 dc122 [.t 6] := ⟨Tryz.f122, _, Tryz.func122, rfl, by kernel_rfl, rfl, by kernel_rfl, by kernel_rfl⟩
theorem bfn123 : Fn Tryz.prog 123 22 dc123 [.t 4, .t 5] := ⟨Tryz.f123, _, Tryz.func123, rfl, by kernel_rfl, rfl, by kernel_rfl, by kernel_rfl⟩
theorem bfn124 : Fn Tryz.prog 124 60 dc124 [.t 4, .cell (some 3) 5] := ⟨Tryz.f124, _, Tryz.func124, rfl, by kernel_rfl, rfl, by kernel_rfl, by kernel_rfl⟩
theorem bfn125 : Fn Tryz.prog 125 38 dc125 [.t 2, .cell (some 3) 3] := ⟨Tryz.f125, _, Tryz.func125, rfl, by kernel_rfl, rfl, by kernel_rfl, by kernel_rfl⟩
theorem bfn126 : Fn Tryz.prog 126 31 dc126 [.t 4] := ⟨Tryz.f126, _, Tryz.func126, rfl, by kernel_rfl, rfl, by kernel_rfl, by kernel_rfl⟩
theorem bfn134 : Fn Tryz.prog 134 9 dc134 [.t 4] := ⟨Tryz.f134, _, Tryz.func134, rfl, by kernel_rfl, rfl, by kernel_rfl, by kernel_rfl⟩
theorem bfn135 : Fn Tryz.prog 135 8 dc135 [.cell (some 3) 4] := ⟨Tryz.f135, _, Tryz.func135, rfl, by kernel_rfl, rfl, by kernel_rfl, by kernel_rfl⟩
theorem deskB : DeskB Tryz.prog where
 f4 := bfn4
 f6 := bfn6
 f21 := bfn21
 f23 := bfn23
 f45 := bfn45
 f46 := bfn46
 f47 := bfn47
 f48 := bfn48
 f53 := bfn53
 f54 := bfn54
 f55 := bfn55
 f56 := bfn56
 f57 := bfn57
 f58 := bfn58
 f59 := bfn59
 f79 := bfn79
 f80 := bfn80
 f84 := bfn84
 f85 := bfn85
 f86 := bfn86
 f87 := bfn87
 f98 := bfn98
 f99 := bfn99
 f100 := bfn100
 f101 := bfn101
 f102 := bfn102
 f103 := bfn103
 f104 := bfn104
 f105 := bfn105
 f106 := bfn106
 f107 := bfn107
 f118 := bfn118
 f119 := bfn119
 f120 := bfn120
 f121 := bfn121
 f122 := bfn122
 f123 := bfn123
 f124 := bfn124
 f125 := bfn125
 f126 := bfn126
 f134 := bfn134
 f135 := bfn135
end Go.Vd

namespace Go.Proofs
open Go.Shelf
def Tryz.lays156_ren : Go.Shelf.Ren := ⟨fun | 156 => 64 | 165 => 91 | 166 => 92 | 169 => 93 | 240 => 112 | 241 => 113 | 276 => 128 | 277 => 129 | n => n, fun | 31 => 23 | 9 => 9 | 3 => 3 | 4 => 4 | 0 => 0 | 20 => 20 | 72 => 150 | 76 => 154 | 70 => 148 | 37 => 77 | 75 => 153 | 127 => 170 | 164 => 184 | 5 => 5 | 80 => 117 | n => n, fun | n => n⟩
theorem Tryz.lays156 : Go.Proofs.Lays.n156 Tryz.prog Tryz.lays156_ren := {
 mixed := by kernel_rfl
 f156 := Tryz.func64.trans (congrArg some (by kernel_rfl))
 f165 := Tryz.func91.trans (congrArg some (by kernel_rfl))
 f166 := Tryz.func92.trans (congrArg some (by kernel_rfl))
 f169 := Tryz.func93.trans (congrArg some (by kernel_rfl))
 f240 := Tryz.func112.trans (congrArg some (by kernel_rfl))
 f241 := Tryz.func113.trans (congrArg some (by kernel_rfl))
 f276 := Tryz.func128.trans (congrArg some (by kernel_rfl))
 f277 := Tryz.func129.trans (congrArg some (by kernel_rfl))
 t0 := Tryz.underlying0
 a0 := Tryz.isAgg0
 z0 := Tryz.sizeOf0
 v0 := Tryz.zeroValue0
 t3 := Tryz.underlying3
 a3 := Tryz.isAgg3
 z3 := Tryz.sizeOf3
 v3 := Tryz.zeroValue3
 t4 := Tryz.underlying4
 a4 := Tryz.isAgg4
 z4 := Tryz.sizeOf4
 v4 := Tryz.zeroValue4
 t9 := Tryz.underlying9
 a9 := Tryz.isAgg9
 z9 := Tryz.sizeOf9
 v9 := Tryz.zeroValue9
 t20 := Tryz.underlying20
 a20 := Tryz.isAgg20
 z20 := Tryz.sizeOf20
 v20 := Tryz.zeroValue20
 t31 := Tryz.underlying23
 a31 := Tryz.isAgg23
 z31 := Tryz.sizeOf23
 v31 := Tryz.zeroValue23
 t37 := Tryz.underlying77
 a37 := Tryz.isAgg77
 z37 := Tryz.sizeOf77
 v37 := Tryz.zeroValue77
 t70 := Tryz.underlying148
 a70 := Tryz.isAgg148
 z70 := Tryz.sizeOf148
 v70 := Tryz.zeroValue148
 t72 := Tryz.underlying150
 a72 := Tryz.isAgg150
 z72 := Tryz.sizeOf150
 v72 := Tryz.zeroValue150
 t75 := Tryz.underlying153
 a75 := Tryz.isAgg153
 z75 := Tryz.sizeOf153
 v75 := Tryz.zeroValue153
 t76 := Tryz.underlying154
 a76 := Tryz.isAgg154
 z76 := Tryz.sizeOf154
 v76 := Tryz.zeroValue154
 t127 := Tryz.underlying170
 a127 := Tryz.isAgg170
 z127 := Tryz.sizeOf170
 v127 := Tryz.zeroValue170
 t164 := Tryz.underlying184
 a164 := Tryz.isAgg184
 z164 := Tryz.sizeOf184
 v164 := Tryz.zeroValue184 }
theorem Tryz.Builder_Extra_156 : Builder.Extra Tryz.prog Tryz.lays156_ren := {
 sizeBuilder := by kernel_rfl
 liesBuilder := by kernel_rfl
 t5 := Tryz.underlying5
 a5 := Tryz.isAgg5
 z5 := Tryz.sizeOf5
 v5 := Tryz.zeroValue5
 infoByte := by kernel_rfl
 cellsByte := by kernel_rfl
 sizeByte := by kernel_rfl
 neB5 := by decide }
end Go.Proofs

namespace Go.Proofs
open Go.Shelf
def Tryz.lays146_ren : Go.Shelf.Ren := ⟨fun | 146 => 67 | 221 => 94 | 268 => 114 | 138 => 115 | 143 => 116 | 195 => 130 | 197 => 131 | 218 => 132 | 219 => 133 | 260 => 136 | 217 => 137 | 225 => 138 | 224 => 139 | 267 => 140 | 266 => 141 | 314 => 142 | n => n, fun | 9 => 9 | 31 => 23 | 3 => 3 | 4 => 4 | 0 => 0 | 105 => 187 | 21 => 21 | 5 => 5 | 46 => 156 | 119 => 192 | 139 => 195 | 138 => 194 | 146 => 197 | 51 => 196 | n => n, fun | 1 => 0 | 3 => 1 | 4 => 2 | n => n⟩
theorem Tryz.lays146 : Go.Proofs.Lays.n146 Tryz.prog Tryz.lays146_ren := {
 mixed := by kernel_rfl
 f138 := Tryz.func115.trans (congrArg some (by kernel_rfl))
 f143 := Tryz.func116.trans (congrArg some (by kernel_rfl))
 f146 := Tryz.func67.trans (congrArg some (by kernel_rfl))
 f195 := Tryz.func130.trans (congrArg some (by kernel_rfl))
 f197 := Tryz.func131.trans (congrArg some (by kernel_rfl))
 f217 := Tryz.func137.trans (congrArg some (by kernel_rfl))
 f218 := Tryz.func132.trans (congrArg some (by kernel_rfl))
 f219 := Tryz.func133.trans (congrArg some (by kernel_rfl))
 f221 := Tryz.func94.trans (congrArg some (by kernel_rfl))
 f224 := Tryz.func139.trans (congrArg some (by kernel_rfl))
 f225 := Tryz.func138.trans (congrArg some (by kernel_rfl))
 f260 := Tryz.func136.trans (congrArg some (by kernel_rfl))
 f266 := Tryz.func141.trans (congrArg some (by kernel_rfl))
 f267 := Tryz.func140.trans (congrArg some (by kernel_rfl))
 f268 := Tryz.func114.trans (congrArg some (by kernel_rfl))
 f314 := Tryz.func142.trans (congrArg some (by kernel_rfl))
 t0 := Tryz.underlying0
 a0 := Tryz.isAgg0
 z0 := Tryz.sizeOf0
 v0 := Tryz.zeroValue0
 t3 := Tryz.underlying3
 a3 := Tryz.isAgg3
 z3 := Tryz.sizeOf3
 v3 := Tryz.zeroValue3
 t4 := Tryz.underlying4
 a4 := Tryz.isAgg4
 z4 := Tryz.sizeOf4
 v4 := Tryz.zeroValue4
 t5 := Tryz.underlying5
 a5 := Tryz.isAgg5
 z5 := Tryz.sizeOf5
 v5 := Tryz.zeroValue5
 t9 := Tryz.underlying9
 a9 := Tryz.isAgg9
 z9 := Tryz.sizeOf9
 v9 := Tryz.zeroValue9
 t21 := Tryz.underlying21
 a21 := Tryz.isAgg21
 z21 := Tryz.sizeOf21
 v21 := Tryz.zeroValue21
 t31 := Tryz.underlying23
 a31 := Tryz.isAgg23
 z31 := Tryz.sizeOf23
 v31 := Tryz.zeroValue23
 t46 := Tryz.underlying156
 a46 := Tryz.isAgg156
 z46 := Tryz.sizeOf156
 v46 := Tryz.zeroValue156
 t51 := Tryz.underlying196
 a51 := Tryz.isAgg196
 z51 := Tryz.sizeOf196
 v51 := Tryz.zeroValue196
 t105 := Tryz.underlying187
 a105 := Tryz.isAgg187
 z105 := Tryz.sizeOf187
 v105 := Tryz.zeroValue187
 t119 := Tryz.underlying192
 a119 := Tryz.isAgg192
 z119 := Tryz.sizeOf192
 t138 := Tryz.underlying194
 a138 := Tryz.isAgg194
 z138 := Tryz.sizeOf194
 v138 := Tryz.zeroValue194
 t139 := Tryz.underlying195
 a139 := Tryz.isAgg195
 z139 := Tryz.sizeOf195
 v139 := Tryz.zeroValue195
 t146 := Tryz.underlying197
 a146 := Tryz.isAgg197
 z146 := Tryz.sizeOf197
 v146 := Tryz.zeroValue197
 g1 := by kernel_rfl
 g3 := by kernel_rfl
 g4 := by kernel_rfl }
end Go.Proofs

namespace Go.Vd
open Go.Proofs Go.RowKit
set_option maxRecDepth 100000
theorem hi146 : (Tryz.prog.info? (Tryz.lays146_ren.t 9)).map (fun i => (i.zero, i.size, i.bytes)) = some (some (.string ByteArray.empty), 1, 16) := by kernel_rfl
theorem okSplit : (funS Fsplit).ok Tryz.prog 67 := split_ok Tryz.lays146 hi146 ⟨_, Tryz.func67, by kernel_rfl, by kernel_rfl⟩
theorem okJoin : (funS Fjoin).ok Tryz.prog 64 := join_ok Tryz.lays156 Tryz.Builder_Extra_156 ⟨_, Tryz.func64, by kernel_rfl, by kernel_rfl⟩
theorem okCheck : (funS F15).ok Tryz.prog 15 := ok15 desk ok39
theorem okLines : (funS Flines).ok Tryz.prog 10 := ok10 desk ok27 okCheck (ok29 desk okJoin)
theorem okParse : (funS F13).ok Tryz.prog 13 := ok13 desk ok25 okSplit okCheck
theorem okBytes : (funS Fbytes).ok Tryz.prog 21 := ok21 deskB okCheck ok121
theorem okUnb : (funS F23).ok Tryz.prog 23 := ok23 deskB okCheck
theorem afn9 : Fn Tryz.prog 9 138 dc9 [.t 0] := ⟨Tryz.f9, _, Tryz.func9, rfl, by kernel_rfl, rfl, by kernel_rfl, by kernel_rfl⟩
theorem okAwake : (funS trueF).ok Tryz.prog 9 := ok9 afn9 okLines okParse okCheck (ok20 desk) okBytes okUnb ok25 ok27
end Go.Vd

namespace Go.Vd
open Go.Proofs Go.RowKit Go.ChangeShapes Go.WideShapes Go.Deep Go.Joins
set_option maxRecDepth 100000
theorem okLaw6 : (funS F6).ok Tryz.prog 6 := ok6 desk deskB okAwake okLines okParse okCheck okBytes okUnb
theorem back_law {w : World} {v0 v1 v2 : Value} (h0 : ∃ (nc nb : Bool) (t : Td), Rep w (startG (allG w)) (tdD nc nb t) v0)
  (h1 : ∃ (nl : Bool) (l : List Bs), Rep w (startG (allG w)) (.slice nl [] (l.map .str)) v1) (h2 : ∃ s : Bs, Rep w (startG (allG w)) (.str s) v2) :
  Calls Tryz.prog 6 #[v0, v1, v2] w fun e w' => e = .returned (.bool true) ∧ Below w.heap.size w w' := by
 obtain ⟨nc, nb, t, r0⟩ := h0
 obtain ⟨nl, l, r1⟩ := h1
 obtain ⟨s, r2⟩ := h2
 refine row_true okLaw6 (G := allG w) (fun b hb => allG_out w b hb) (ds := [tdD nc nb t, .slice nl [] (l.map .str), .str s]) (vs := [v0, v1, v2]) rfl (fun j d v hd hv => ?_) rfl rfl ?_
 ·match j with
  | 0 => simp only [List.getElem?_cons_zero, Option.some.injEq] at hd hv; subst hd hv; exact r0
  | 1 => simp only [List.getElem?_cons_succ, List.getElem?_cons_zero, Option.some.injEq] at hd hv; subst hd hv; exact r1
  | 2 => simp only [List.getElem?_cons_succ, List.getElem?_cons_zero, Option.some.injEq] at hd hv; subst hd hv; exact r2
  | j + 3 => simp at hd
 ·simp only [F6, tdD, tdCells, tdOf_mk, strsOf_map]
end Go.Vd
