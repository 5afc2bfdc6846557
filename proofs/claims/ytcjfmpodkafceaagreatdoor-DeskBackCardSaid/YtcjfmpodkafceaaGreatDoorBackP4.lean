/-
  A part of the proof: the layers over the model. Nothing in it is assumed.
-/
import Derived.Test.YtcjfmpodkafceaaGreatDoorBackP3
import Derived.Laws.CopyOwn
import Derived.Laws.MakeOwn
import Derived.WalkKit

set_option linter.unusedSimpArgs false
set_option linter.unusedVariables false

namespace Go.Vd
def dc4 : DC := (.seq (.row [⟨some 2, .box (.t 0), [], none⟩, ⟨some 4, .mv (.c (.bool false)), [], none⟩]) (.seq (.seq (.row [⟨some 13, .load (some 5) (.t 2), [], none⟩, ⟨some 14, .call (.c (.fn 7 [])) [(.t 13)], [], none⟩, ⟨some 15, .mv (.t 14), [], none⟩, ⟨some 16, .mv (.t 1), [], some (2, false)⟩, ⟨some 17, .len true (.t 16), [], some (2, false)⟩, ⟨some 18, .bin .gtr (.t 17) (.c (.int .i64 2000)), [], some (2, false)⟩, ⟨some 19, .pick (.t 15) (.c (.bool true)) (.t 18), [], none⟩]) (.cond (.t 19) (.seq (.row [⟨some 20, .call (.c (.fn 9 [])) [], [], none⟩, ⟨some 4, .mv (.t 20), [], none⟩]) .ret) .skip)) (.seq (.row [⟨some 22, .load (some 5) (.t 2), [], none⟩, ⟨some 23, .call (.c (.fn 11 [])) [(.t 22)], [], none⟩, ⟨some 24, .call (.c (.fn 21 [])) [(.t 23)], [], none⟩, ⟨some 21, .mv (.t 24), [], none⟩, ⟨some 25, .ext 0 (.t 21), [], none⟩, ⟨some 26, .ext 1 (.t 21), [], none⟩, ⟨some 5, .mv (.t 25), [], none⟩, ⟨some 6, .mv (.t 26), [], none⟩]) (.seq (.row [⟨some 28, .load (some 5) (.t 2), [], none⟩, ⟨some 29, .call (.c (.fn 22 [])) [(.t 28)], [], none⟩, ⟨some 27, .mv (.t 29), [], none⟩, ⟨some 30, .ext 0 (.t 27), [], none⟩, ⟨some 31, .ext 1 (.t 27), [], none⟩, ⟨some 7, .mv (.t 30), [], none⟩, ⟨some 8, .mv (.t 31), [], none⟩]) (.seq (.row [⟨some 33, .mv (.t 1), [], none⟩, ⟨some 34, .call (.c (.fn 23 [])) [(.t 33)], [], none⟩, ⟨some 32, .mv (.t 34), [], none⟩, ⟨some 35, .ext 0 (.t 32), [], none⟩, ⟨some 36, .ext 1 (.t 32), [], none⟩, ⟨some 9, .alloc [(.slice true [] []), (.int .i64 0), (.int .i64 0), (.bool false), (.slice true [] [])], [], none⟩, ⟨none, .store 5 (.t 9) (.t 35), [], none⟩, ⟨some 10, .mv (.t 36), [], none⟩]) (.seq (.row [⟨some 38, .mv (.t 1), [], none⟩, ⟨some 39, .call (.c (.fn 24 [])) [(.t 38)], [], none⟩, ⟨some 37, .mv (.t 39), [], none⟩, ⟨some 40, .ext 0 (.t 37), [], none⟩, ⟨some 41, .ext 1 (.t 37), [], none⟩, ⟨some 11, .alloc [(.slice true [] []), (.int .i64 0), (.int .i64 0), (.bool false), (.slice true [] [])], [], none⟩, ⟨none, .store 5 (.t 11) (.t 40), [], none⟩, ⟨some 12, .mv (.t 41), [], none⟩]) (.seq (.drawn [⟨some 42, .mv (.t 5), [], none⟩, ⟨some 43, .mv (.t 7), [], none⟩, ⟨some 44, .bin .eql (.t 42) (.t 43), [], none⟩, ⟨some 45, .mv (.t 44), [], none⟩, ⟨some 46, .mv (.t 6), [], some (3, true)⟩, ⟨some 47, .mv (.t 8), [], some (3, true)⟩, ⟨some 48, .bin .eql (.t 46) (.t 47), [], some (3, true)⟩, ⟨some 49, .pick (.t 45) (.t 48) (.c (.bool false)), [], none⟩, ⟨some 50, .mv (.t 49), [], none⟩, ⟨some 51, .load (some 5) (.t 9), [], some (8, true)⟩, ⟨some 52, .call (.c (.fn 19 [])) [(.t 51)], [], some (8, true)⟩, ⟨some 53, .load (some 5) (.t 11), [], some (8, true)⟩, ⟨some 54, .call (.c (.fn 18 [])) [(.t 52), (.t 53)], [], some (8, true)⟩, ⟨some 55, .pick (.t 50) (.t 54) (.c (.bool false)), [], none⟩, ⟨some 56, .mv (.t 55), [], none⟩, ⟨some 57, .mv (.t 10), [], some (14, true)⟩, ⟨some 58, .mv (.t 12), [], some (14, true)⟩, ⟨some 59, .bin .eql (.t 57) (.t 58), [], some (14, true)⟩, ⟨some 60, .pick (.t 56) (.t 59) (.c (.bool false)), [], none⟩, ⟨some 61, .mv (.t 60), [], none⟩, ⟨some 62, .call (.c (.fn 9 [])) [], [], some (19, true)⟩, ⟨some 63, .pick (.t 61) (.t 62) (.c (.bool false)), [], none⟩, ⟨some 4, .mv (.t 63), [], none⟩] [(10, 11)]) .ret)))))))
def dc6 : DC := (.seq (.row [⟨some 3, .box (.t 0), [], none⟩, ⟨some 6, .mv (.c (.bool false)), [], none⟩]) (.seq (.seq (.row [⟨some 24, .load (some 5) (.t 3), [], none⟩, ⟨some 25, .call (.c (.fn 7 [])) [(.t 24)], [], none⟩, ⟨some 26, .mv (.t 25), [], none⟩, ⟨some 27, .mv (.t 1), [], some (2, false)⟩, ⟨some 28, .call (.c (.fn 8 [])) [(.t 27)], [], some (2, false)⟩, ⟨some 29, .pick (.t 26) (.c (.bool true)) (.t 28), [], none⟩, ⟨some 30, .mv (.t 29), [], none⟩, ⟨some 31, .mv (.t 2), [], some (6, false)⟩, ⟨some 32, .len true (.t 31), [], some (6, false)⟩, ⟨some 33, .bin .gtr (.t 32) (.c (.int .i64 2000)), [], some (6, false)⟩, ⟨some 34, .pick (.t 30) (.c (.bool true)) (.t 33), [], none⟩]) (.cond (.t 34) (.seq (.row [⟨some 35, .call (.c (.fn 9 [])) [], [], none⟩, ⟨some 6, .mv (.t 35), [], none⟩]) .ret) .skip)) (.seq (.row [⟨some 36, .load (some 5) (.t 3), [], none⟩, ⟨some 37, .call (.c (.fn 11 [])) [(.t 36)], [], none⟩, ⟨some 7, .alloc [(.slice true [] []), (.int .i64 0), (.int .i64 0), (.bool false), (.slice true [] [])], [], none⟩, ⟨none, .store 5 (.t 7) (.t 37), [], none⟩]) (.seq (.seq (.row [⟨some 39, .load (some 5) (.t 7), [], none⟩, ⟨some 40, .call (.c (.fn 10 [])) [(.t 39)], [], none⟩, ⟨some 38, .mv (.t 40), [], none⟩, ⟨some 41, .ext 0 (.t 38), [], none⟩, ⟨some 42, .ext 1 (.t 38), [], none⟩, ⟨some 8, .mv (.t 41), [], none⟩, ⟨some 9, .mv (.t 42), [], none⟩]) (.seq (.row [⟨some 43, .mv (.t 9), [], none⟩, ⟨some 44, .bin .eql (.t 43) (.c (.int .i64 0)), [], none⟩]) (.cond (.t 44) (.seq (.row [⟨some 46, .load (some 5) (.t 7), [], none⟩, ⟨some 47, .call (.c (.fn 21 [])) [(.t 46)], [], none⟩, ⟨some 45, .mv (.t 47), [], none⟩, ⟨some 48, .ext 0 (.t 45), [], none⟩, ⟨some 49, .ext 1 (.t 45), [], none⟩, ⟨some 10, .mv (.t 48), [], none⟩, ⟨some 11, .mv (.t 49), [], none⟩]) (.seq (.row [⟨some 51, .mv (.t 8), [], none⟩, ⟨some 52, .call (.c (.fn 13 [])) [(.t 51)], [], none⟩, ⟨some 50, .mv (.t 52), [], none⟩, ⟨some 53, .ext 0 (.t 50), [], none⟩, ⟨some 54, .ext 1 (.t 50), [], none⟩, ⟨some 12, .alloc [(.slice true [] []), (.int .i64 0), (.int .i64 0), (.bool false), (.slice true [] [])], [], none⟩, ⟨none, .store 5 (.t 12) (.t 53), [], none⟩, ⟨some 13, .mv (.t 54), [], none⟩]) (.seq (.row [⟨some 56, .mv (.t 10), [], none⟩, ⟨some 57, .call (.c (.fn 23 [])) [(.t 56)], [], none⟩, ⟨some 55, .mv (.t 57), [], none⟩, ⟨some 58, .ext 0 (.t 55), [], none⟩, ⟨some 59, .ext 1 (.t 55), [], none⟩, ⟨some 14, .alloc [(.slice true [] []), (.int .i64 0), (.int .i64 0), (.bool false), (.slice true [] [])], [], none⟩, ⟨none, .store 5 (.t 14) (.t 58), [], none⟩, ⟨some 15, .mv (.t 59), [], none⟩]) (.seq (.row [⟨some 60, .mv (.t 11), [], none⟩, ⟨some 61, .bin .neq (.t 60) (.c (.int .i64 0)), [], none⟩, ⟨some 62, .mv (.t 61), [], none⟩, ⟨some 63, .mv (.t 13), [], some (2, false)⟩, ⟨some 64, .bin .neq (.t 63) (.c (.int .i64 0)), [], some (2, false)⟩, ⟨some 65, .pick (.t 62) (.c (.bool true)) (.t 64), [], none⟩, ⟨some 66, .mv (.t 65), [], none⟩, ⟨some 67, .mv (.t 15), [], some (6, false)⟩, ⟨some 68, .bin .neq (.t 67) (.c (.int .i64 0)), [], some (6, false)⟩, ⟨some 69, .pick (.t 66) (.c (.bool true)) (.t 68), [], none⟩, ⟨some 70, .mv (.t 69), [], none⟩, ⟨some 71, .load (some 5) (.t 7), [], some (10, false)⟩, ⟨some 72, .load (some 5) (.t 12), [], some (10, false)⟩, ⟨some 73, .call (.c (.fn 20 [])) [(.t 71), (.t 72)], [], some (10, false)⟩, ⟨some 74, .un .not (.t 73), [], some (10, false)⟩, ⟨some 75, .pick (.t 70) (.c (.bool true)) (.t 74), [], none⟩, ⟨some 76, .mv (.t 75), [], none⟩, ⟨some 77, .load (some 5) (.t 7), [], some (16, false)⟩, ⟨some 78, .load (some 5) (.t 14), [], some (16, false)⟩, ⟨some 79, .call (.c (.fn 20 [])) [(.t 77), (.t 78)], [], some (16, false)⟩, ⟨some 80, .un .not (.t 79), [], some (16, false)⟩, ⟨some 81, .pick (.t 76) (.c (.bool true)) (.t 80), [], none⟩, ⟨some 82, .mv (.t 81), [], none⟩, ⟨some 83, .mv (.t 8), [], some (22, false)⟩, ⟨some 84, .len false (.t 83), [], some (22, false)⟩, ⟨some 85, .faddr 0 (.t 3), [], some (22, false)⟩, ⟨some 86, .load none (.t 85), [], some (22, false)⟩, ⟨some 87, .len false (.t 86), [], some (22, false)⟩, ⟨some 88, .bin .add (.c (.int .i64 1)) (.t 87), [], some (22, false)⟩, ⟨some 89, .faddr 4 (.t 3), [], some (22, false)⟩, ⟨some 90, .load none (.t 89), [], some (22, false)⟩, ⟨some 91, .len false (.t 90), [], some (22, false)⟩, ⟨some 92, .bin .add (.t 88) (.t 91), [], some (22, false)⟩, ⟨some 93, .bin .neq (.t 84) (.t 92), [], some (22, false)⟩, ⟨some 94, .pick (.t 82) (.c (.bool true)) (.t 93), [], none⟩]) (.cond (.t 94) (.seq (.row [⟨some 6, .mv (.c (.bool false)), [], none⟩]) .ret) .skip))))) .skip))) (.seq (.seq (.row [⟨some 96, .mv (.t 1), [], none⟩, ⟨some 97, .call (.c (.fn 13 [])) [(.t 96)], [], none⟩, ⟨some 95, .mv (.t 97), [], none⟩, ⟨some 98, .ext 0 (.t 95), [], none⟩, ⟨some 99, .ext 1 (.t 95), [], none⟩, ⟨some 16, .alloc [(.slice true [] []), (.int .i64 0), (.int .i64 0), (.bool false), (.slice true [] [])], [], none⟩, ⟨none, .store 5 (.t 16) (.t 98), [], none⟩, ⟨some 17, .mv (.t 99), [], none⟩]) (.seq (.row [⟨some 100, .mv (.t 17), [], none⟩, ⟨some 101, .bin .eql (.t 100) (.c (.int .i64 0)), [], none⟩]) (.cond (.t 101) (.seq (.row [⟨some 103, .load (some 5) (.t 16), [], none⟩, ⟨some 104, .call (.c (.fn 10 [])) [(.t 103)], [], none⟩, ⟨some 102, .mv (.t 104), [], none⟩, ⟨some 105, .ext 0 (.t 102), [], none⟩, ⟨some 106, .ext 1 (.t 102), [], none⟩, ⟨some 18, .mv (.t 105), [], none⟩, ⟨some 19, .mv (.t 106), [], none⟩]) (.seq (.row [⟨some 107, .mv (.t 19), [], none⟩, ⟨some 108, .bin .neq (.t 107) (.c (.int .i64 0)), [], none⟩, ⟨some 109, .mv (.t 108), [], none⟩, ⟨some 110, .mv (.t 18), [], some (2, false)⟩, ⟨some 111, .mv (.t 1), [], some (2, false)⟩, ⟨some 112, .call (.c (.fn 17 [])) [(.t 110), (.t 111)], [], some (2, false)⟩, ⟨some 113, .un .not (.t 112), [], some (2, false)⟩, ⟨some 114, .pick (.t 109) (.c (.bool true)) (.t 113), [], none⟩, ⟨some 115, .mv (.t 114), [], none⟩, ⟨some 116, .load (some 5) (.t 16), [], some (8, false)⟩, ⟨some 117, .call (.c (.fn 15 [])) [(.t 116)], [], some (8, false)⟩, ⟨some 118, .bin .neq (.t 117) (.c (.int .i64 0)), [], some (8, false)⟩, ⟨some 119, .pick (.t 115) (.c (.bool true)) (.t 118), [], none⟩]) (.cond (.t 119) (.seq (.row [⟨some 6, .mv (.c (.bool false)), [], none⟩]) .ret) .skip))) .skip))) (.seq (.seq (.row [⟨some 121, .mv (.t 2), [], none⟩, ⟨some 122, .call (.c (.fn 23 [])) [(.t 121)], [], none⟩, ⟨some 120, .mv (.t 122), [], none⟩, ⟨some 123, .ext 0 (.t 120), [], none⟩, ⟨some 124, .ext 1 (.t 120), [], none⟩, ⟨some 20, .alloc [(.slice true [] []), (.int .i64 0), (.int .i64 0), (.bool false), (.slice true [] [])], [], none⟩, ⟨none, .store 5 (.t 20) (.t 123), [], none⟩, ⟨some 21, .mv (.t 124), [], none⟩]) (.seq (.row [⟨some 125, .mv (.t 21), [], none⟩, ⟨some 126, .bin .eql (.t 125) (.c (.int .i64 0)), [], none⟩]) (.cond (.t 126) (.seq (.row [⟨some 128, .load (some 5) (.t 20), [], none⟩, ⟨some 129, .call (.c (.fn 21 [])) [(.t 128)], [], none⟩, ⟨some 127, .mv (.t 129), [], none⟩, ⟨some 130, .ext 0 (.t 127), [], none⟩, ⟨some 131, .ext 1 (.t 127), [], none⟩, ⟨some 22, .mv (.t 130), [], none⟩, ⟨some 23, .mv (.t 131), [], none⟩]) (.seq (.row [⟨some 132, .mv (.t 23), [], none⟩, ⟨some 133, .bin .neq (.t 132) (.c (.int .i64 0)), [], none⟩, ⟨some 134, .mv (.t 133), [], none⟩, ⟨some 135, .mv (.t 22), [], some (2, false)⟩, ⟨some 136, .mv (.t 2), [], some (2, false)⟩, ⟨some 137, .bin .neq (.t 135) (.t 136), [], some (2, false)⟩, ⟨some 138, .pick (.t 134) (.c (.bool true)) (.t 137), [], none⟩, ⟨some 139, .mv (.t 138), [], none⟩, ⟨some 140, .load (some 5) (.t 20), [], some (7, false)⟩, ⟨some 141, .call (.c (.fn 15 [])) [(.t 140)], [], some (7, false)⟩, ⟨some 142, .bin .neq (.t 141) (.c (.int .i64 0)), [], some (7, false)⟩, ⟨some 143, .pick (.t 139) (.c (.bool true)) (.t 142), [], none⟩]) (.cond (.t 143) (.seq (.row [⟨some 6, .mv (.c (.bool false)), [], none⟩]) .ret) .skip))) .skip))) (.seq (.row [⟨some 144, .call (.c (.fn 9 [])) [], [], none⟩, ⟨some 6, .mv (.t 144), [], none⟩]) .ret)))))))
def dc21 : DC := (.seq (.row [⟨some 1, .box (.t 0), [], none⟩, ⟨some 2, .mv (.c (.str [])), [], none⟩, ⟨some 3, .mv (.c (.int .i64 0)), [], none⟩]) (.seq (.seq (.row [⟨some 7, .load (some 5) (.t 1), [], none⟩, ⟨some 8, .call (.c (.fn 15 [])) [(.t 7)], [], none⟩, ⟨some 4, .mv (.t 8), [], none⟩]) (.seq (.row [⟨some 9, .mv (.t 4), [], none⟩, ⟨some 10, .bin .neq (.t 9) (.c (.int .i64 0)), [], none⟩]) (.cond (.t 10) (.seq (.row [⟨some 11, .mv (.t 4), [], none⟩, ⟨some 2, .mv (.c (.str [])), [], none⟩, ⟨some 3, .mv (.t 11), [], none⟩]) .ret) .skip))) (.seq (.drawn [⟨some 13, .faddr 4 (.t 1), [], none⟩, ⟨some 14, .load none (.t 13), [], none⟩, ⟨some 15, .call (.c (.fn 46 [])) [(.t 14)], [], none⟩, ⟨some 16, .build [(.str []), .nilIface] [(0, 1, (.c (.str [98, 101, 104, 105, 110, 100]))), (1, 1, (.t 15))], [], none⟩, ⟨some 17, .faddr 0 (.t 1), [], none⟩, ⟨some 18, .load none (.t 17), [], none⟩, ⟨some 19, .call (.c (.fn 47 [])) [(.t 18)], [], none⟩, ⟨some 20, .build [(.str []), .nilIface] [(0, 1, (.c (.str [99, 97, 108, 108, 115]))), (1, 1, (.t 19))], [], none⟩, ⟨some 21, .faddr 2 (.t 1), [], none⟩, ⟨some 22, .load none (.t 21), [], none⟩, ⟨some 23, .call (.c (.fn 48 [])) [(.t 22)], [], none⟩, ⟨some 24, .build [(.str []), .nilIface] [(0, 1, (.c (.str [108, 101, 102, 116]))), (1, 1, (.t 23))], [], none⟩, ⟨some 25, .faddr 3 (.t 1), [], none⟩, ⟨some 26, .load none (.t 25), [], none⟩, ⟨some 27, .mkif 4 (.t 26), [], none⟩, ⟨some 28, .build [(.str []), .nilIface] [(0, 1, (.c (.str [115, 101, 97, 108, 101, 100]))), (1, 1, (.t 27))], [], none⟩, ⟨some 29, .faddr 1 (.t 1), [], none⟩, ⟨some 30, .load none (.t 29), [], none⟩, ⟨some 31, .call (.c (.fn 48 [])) [(.t 30)], [], none⟩, ⟨some 32, .build [(.str []), .nilIface] [(0, 1, (.c (.str [116, 105, 99, 107, 115]))), (1, 1, (.t 31))], [], none⟩, ⟨some 33, .bslice 82 2 [(.t 16), (.t 20), (.t 24), (.t 28), (.t 32)], [], none⟩, ⟨some 34, .mkif 85 (.t 33), [], none⟩, ⟨some 35, .call (.c (.fn 45 [])) [(.t 34)], [], none⟩, ⟨some 12, .mv (.t 35), [], none⟩, ⟨some 36, .ext 0 (.t 12), [], none⟩, ⟨some 37, .ext 1 (.t 12), [], none⟩, ⟨some 5, .mv (.t 36), [], none⟩, ⟨some 6, .mv (.t 37), [], none⟩] [(2, 5), (2, 9), (2, 13), (2, 17), (6, 9), (6, 13), (6, 17), (10, 13), (10, 17), (18, 13)]) (.seq (.row [⟨some 38, .mv (.t 5), [], none⟩, ⟨some 39, .b2s (.t 38), [], none⟩, ⟨some 40, .mv (.t 6), [], none⟩, ⟨some 2, .mv (.t 39), [], none⟩, ⟨some 3, .mv (.t 40), [], none⟩]) .ret))))
def dc23l0 : DC := (.seq (.row [⟨some 50, .bin .lss (.t 49) (.t 48), [], none⟩]) (.seq (.cond (.t 50) .skip (.exit 0)) (.seq (.block 1 (.seq (.row [⟨some 51, .iaddr 1 (.t 47) (.t 49), [], none⟩, ⟨some 52, .load none (.t 51), [], none⟩, ⟨some 10, .mv (.t 52), [], none⟩]) (.drawn [⟨some 53, .faddr 4 (.t 8), [], none⟩, ⟨some 54, .load none (.t 53), [], none⟩, ⟨some 55, .mv (.t 6), [], none⟩, ⟨some 56, .mv (.t 10), [], none⟩, ⟨some 57, .call (.c (.fn 58 [])) [(.t 55), (.t 56)], [], none⟩, ⟨some 58, .bslice 9 1 [(.t 57)], [], none⟩, ⟨some 59, .app 9 1 16 (.t 54) (.t 58), [], none⟩, ⟨some 60, .faddr 4 (.t 8), [], none⟩, ⟨none, .store 1 (.t 60) (.t 59), [], none⟩] [(4, 1), (5, 1)]))) (.row [⟨some 61, .bin .add (.t 49) (.c (.int .i64 1)), [], none⟩, ⟨some 49, .mv (.t 61), [], none⟩]))))
def dc23l1 : DC := (.seq (.row [⟨some 69, .bin .lss (.t 68) (.t 67), [], none⟩]) (.seq (.cond (.t 69) .skip (.exit 2)) (.seq (.block 3 (.seq (.row [⟨some 70, .iaddr 1 (.t 66) (.t 68), [], none⟩, ⟨some 71, .load none (.t 70), [], none⟩, ⟨some 12, .mv (.t 71), [], none⟩]) (.drawn [⟨some 72, .faddr 0 (.t 8), [], none⟩, ⟨some 73, .load none (.t 72), [], none⟩, ⟨some 74, .mv (.t 6), [], none⟩, ⟨some 75, .mv (.t 12), [], none⟩, ⟨some 76, .call (.c (.fn 59 [])) [(.t 74), (.t 75)], [], none⟩, ⟨some 77, .bslice 65 7 [(.t 76)], [], none⟩, ⟨some 78, .app 65 7 72 (.t 73) (.t 77), [], none⟩, ⟨some 79, .faddr 0 (.t 8), [], none⟩, ⟨none, .store 1 (.t 79) (.t 78), [], none⟩] [(4, 1), (5, 1)]))) (.row [⟨some 80, .bin .add (.t 68) (.c (.int .i64 1)), [], none⟩, ⟨some 68, .mv (.t 80), [], none⟩]))))
def dc23 : DC := (.seq (.row [⟨some 2, .alloc [(.slice true [] []), (.int .i64 0), (.int .i64 0), (.bool false), (.slice true [] [])], [], none⟩, ⟨some 3, .mv (.c (.int .i64 0)), [], none⟩]) (.seq (.row [⟨some 14, .mv (.t 0), [], none⟩, ⟨some 15, .call (.c (.fn 53 [])) [(.t 14)], [], none⟩, ⟨some 13, .mv (.t 15), [], none⟩, ⟨some 16, .ext 0 (.t 13), [], none⟩, ⟨some 17, .ext 1 (.t 13), [], none⟩, ⟨some 4, .mv (.t 16), [], none⟩, ⟨some 5, .mv (.t 17), [], none⟩]) (.seq (.seq (.row [⟨some 18, .mv (.t 5), [], none⟩, ⟨some 19, .bin .neq (.t 18) (.c (.int .i64 0)), [], none⟩]) (.cond (.t 19) (.seq (.row [⟨some 20, .build [(.slice true [] []), (.int .i64 0), (.int .i64 0), (.bool false), (.slice true [] [])] [], [], none⟩, ⟨none, .store 5 (.t 2) (.t 20), [], none⟩, ⟨some 3, .mv (.c (.int .i64 4)), [], none⟩]) .ret) .skip)) (.seq (.row [⟨some 21, .build [(.bool false)] [], [], none⟩, ⟨some 22, .box (.t 21), [], none⟩, ⟨some 6, .mv (.t 22), [], none⟩]) (.seq (.row [⟨some 23, .mv (.t 6), [], none⟩, ⟨some 24, .mv (.t 4), [], none⟩, ⟨some 25, .bslice 9 1 [(.c (.str [98, 101, 104, 105, 110, 100])), (.c (.str [99, 97, 108, 108, 115])), (.c (.str [108, 101, 102, 116])), (.c (.str [115, 101, 97, 108, 101, 100])), (.c (.str [116, 105, 99, 107, 115]))], [], none⟩, ⟨some 26, .call (.c (.fn 54 [])) [(.t 23), (.t 24), (.t 25)], [], none⟩, ⟨some 7, .mv (.t 26), [], none⟩]) (.seq (.drawn [⟨some 27, .mv (.t 6), [], none⟩, ⟨some 28, .mv (.t 7), [], none⟩, ⟨some 29, .iaddr 1 (.t 28) (.c (.int .i64 2)), [], none⟩, ⟨some 30, .load none (.t 29), [], none⟩, ⟨some 31, .call (.c (.fn 55 [])) [(.t 27), (.t 30)], [], none⟩, ⟨some 32, .mv (.t 6), [], none⟩, ⟨some 33, .mv (.t 7), [], none⟩, ⟨some 34, .iaddr 1 (.t 33) (.c (.int .i64 3)), [], none⟩, ⟨some 35, .load none (.t 34), [], none⟩, ⟨some 36, .call (.c (.fn 56 [])) [(.t 32), (.t 35)], [], none⟩, ⟨some 37, .mv (.t 6), [], none⟩, ⟨some 38, .mv (.t 7), [], none⟩, ⟨some 39, .iaddr 1 (.t 38) (.c (.int .i64 4)), [], none⟩, ⟨some 40, .load none (.t 39), [], none⟩, ⟨some 41, .call (.c (.fn 55 [])) [(.t 37), (.t 40)], [], none⟩, ⟨some 42, .build [(.slice true [] []), (.int .i64 0), (.int .i64 0), (.bool false), (.slice true [] [])] [(2, 1, (.t 31)), (3, 1, (.t 36)), (1, 1, (.t 41))], [], none⟩, ⟨some 8, .alloc [(.slice true [] []), (.int .i64 0), (.int .i64 0), (.bool false), (.slice true [] [])], [], none⟩, ⟨none, .store 5 (.t 8) (.t 42), [], none⟩] [(4, 8), (4, 13), (4, 16), (9, 13), (9, 16), (14, 16), (16, 3), (16, 4), (16, 8), (16, 9), (16, 13), (16, 14)]) (.seq (.seq (.row [⟨some 43, .mv (.t 6), [], none⟩, ⟨some 44, .mv (.t 7), [], none⟩, ⟨some 45, .iaddr 1 (.t 44) (.c (.int .i64 0)), [], none⟩, ⟨some 46, .load none (.t 45), [], none⟩, ⟨some 47, .call (.c (.fn 57 [])) [(.t 43), (.t 46)], [], none⟩, ⟨some 48, .len false (.t 47), [], none⟩, ⟨some 49, .mv (.c (.int .i64 0)), [], none⟩]) (.block 0 (.loop dc23l0))) (.seq (.seq (.row [⟨some 62, .mv (.t 6), [], none⟩, ⟨some 63, .mv (.t 7), [], none⟩, ⟨some 64, .iaddr 1 (.t 63) (.c (.int .i64 1)), [], none⟩, ⟨some 65, .load none (.t 64), [], none⟩, ⟨some 66, .call (.c (.fn 57 [])) [(.t 62), (.t 65)], [], none⟩, ⟨some 67, .len false (.t 66), [], none⟩, ⟨some 68, .mv (.c (.int .i64 0)), [], none⟩]) (.block 2 (.loop dc23l1))) (.seq (.seq (.row [⟨some 81, .mv (.t 6), [], none⟩, ⟨some 82, .nilchk (.t 81), [], none⟩, ⟨some 83, .faddr 0 (.t 82), [], none⟩, ⟨some 84, .load none (.t 83), [], none⟩, ⟨some 85, .mv (.t 84), [], none⟩, ⟨some 86, .load (some 5) (.t 8), [], some (4, false)⟩, ⟨some 87, .call (.c (.fn 15 [])) [(.t 86)], [], some (4, false)⟩, ⟨some 88, .bin .neq (.t 87) (.c (.int .i64 0)), [], some (4, false)⟩, ⟨some 89, .pick (.t 85) (.c (.bool true)) (.t 88), [], none⟩]) (.cond (.t 89) (.seq (.row [⟨some 90, .build [(.slice true [] []), (.int .i64 0), (.int .i64 0), (.bool false), (.slice true [] [])] [], [], none⟩, ⟨none, .store 5 (.t 2) (.t 90), [], none⟩, ⟨some 3, .mv (.c (.int .i64 4)), [], none⟩]) .ret) .skip)) (.seq (.row [⟨some 91, .load (some 5) (.t 8), [], none⟩, ⟨none, .store 5 (.t 2) (.t 91), [], none⟩, ⟨some 3, .mv (.c (.int .i64 0)), [], none⟩]) .ret))))))))))
def dc45 : DC := (.seq (.row [⟨some 2, .mv (.c (.slice true [] [])), [], none⟩, ⟨some 3, .mv (.c (.int .i64 0)), [], none⟩]) (.seq (.seq (.row [⟨some 5, .mv (.t 0), [], none⟩, ⟨some 6, .call (.c (.fn 79 [])) [(.t 5)], [], none⟩, ⟨some 4, .mv (.t 6), [], none⟩]) (.seq (.row [⟨some 7, .mv (.t 4), [], none⟩, ⟨some 8, .bin .neq (.t 7) (.c (.int .i64 0)), [], none⟩]) (.cond (.t 8) (.seq (.row [⟨some 9, .mv (.t 4), [], none⟩, ⟨some 2, .mv (.c (.slice true [] [])), [], none⟩, ⟨some 3, .mv (.t 9), [], none⟩]) .ret) .skip))) (.seq (.row [⟨some 10, .mv (.t 0), [], none⟩, ⟨some 11, .call (.c (.fn 80 [])) [(.c (.slice true [] [])), (.t 10)], [], none⟩, ⟨some 2, .mv (.t 11), [], none⟩, ⟨some 3, .mv (.c (.int .i64 0)), [], none⟩]) .ret)))
def dc46l0 : DC := (.seq (.row [⟨some 10, .bin .lss (.t 9) (.t 8), [], none⟩]) (.seq (.cond (.t 10) .skip (.exit 0)) (.seq (.block 1 (.seq (.row [⟨some 11, .iaddr 1 (.t 7) (.t 9), [], none⟩, ⟨some 12, .load none (.t 11), [], none⟩, ⟨some 5, .mv (.t 12), [], none⟩]) (.row [⟨some 13, .mv (.t 3), [], none⟩, ⟨some 14, .mv (.t 5), [], none⟩, ⟨some 15, .mkif 9 (.t 14), [], none⟩, ⟨some 16, .bslice 20 1 [(.t 15)], [], none⟩, ⟨some 17, .app 20 1 16 (.t 13) (.t 16), [], none⟩, ⟨some 3, .mv (.t 17), [], none⟩]))) (.row [⟨some 18, .bin .add (.t 9) (.c (.int .i64 1)), [], none⟩, ⟨some 9, .mv (.t 18), [], none⟩]))))
def dc46 : DC := (.seq (.row [⟨some 2, .mv (.c .nilIface), [], none⟩]) (.seq (.row [⟨some 6, .bslice 20 1 [], [], none⟩, ⟨some 3, .mv (.t 6), [], none⟩]) (.seq (.seq (.row [⟨some 7, .mv (.t 0), [], none⟩, ⟨some 8, .len false (.t 7), [], none⟩, ⟨some 9, .mv (.c (.int .i64 0)), [], none⟩]) (.block 0 (.loop dc46l0))) (.seq (.row [⟨some 19, .mv (.t 3), [], none⟩, ⟨some 20, .mkif 99 (.t 19), [], none⟩, ⟨some 2, .mv (.t 20), [], none⟩]) .ret))))
def dc47l0 : DC := (.seq (.row [⟨some 10, .bin .lss (.t 9) (.t 8), [], none⟩]) (.seq (.cond (.t 10) .skip (.exit 0)) (.seq (.block 1 (.seq (.row [⟨some 11, .iaddr 7 (.t 7) (.t 9), [], none⟩, ⟨some 12, .load (some 7) (.t 11), [], none⟩, ⟨some 5, .alloc [(.int .i64 0), (.str []), (.str []), (.int .i64 0), (.int .i64 0), (.int .i64 0), (.bool false)], [], none⟩, ⟨none, .store 7 (.t 5) (.t 12), [], none⟩]) (.drawn [⟨some 13, .mv (.t 3), [], none⟩, ⟨some 14, .faddr 4 (.t 5), [], none⟩, ⟨some 15, .load none (.t 14), [], none⟩, ⟨some 16, .call (.c (.fn 48 [])) [(.t 15)], [], none⟩, ⟨some 17, .faddr 0 (.t 5), [], none⟩, ⟨some 18, .load none (.t 17), [], none⟩, ⟨some 19, .call (.c (.fn 48 [])) [(.t 18)], [], none⟩, ⟨some 20, .faddr 3 (.t 5), [], none⟩, ⟨some 21, .load none (.t 20), [], none⟩, ⟨some 22, .call (.c (.fn 48 [])) [(.t 21)], [], none⟩, ⟨some 23, .faddr 5 (.t 5), [], none⟩, ⟨some 24, .load none (.t 23), [], none⟩, ⟨some 25, .call (.c (.fn 48 [])) [(.t 24)], [], none⟩, ⟨some 26, .faddr 6 (.t 5), [], none⟩, ⟨some 27, .load none (.t 26), [], none⟩, ⟨some 28, .mkif 4 (.t 27), [], none⟩, ⟨some 29, .faddr 1 (.t 5), [], none⟩, ⟨some 30, .load none (.t 29), [], none⟩, ⟨some 31, .mkif 9 (.t 30), [], none⟩, ⟨some 32, .faddr 2 (.t 5), [], none⟩, ⟨some 33, .load none (.t 32), [], none⟩, ⟨some 34, .mkif 9 (.t 33), [], none⟩, ⟨some 35, .bslice 20 1 [(.t 16), (.t 19), (.t 22), (.t 25), (.t 28), (.t 31), (.t 34)], [], none⟩, ⟨some 36, .mkif 99 (.t 35), [], none⟩, ⟨some 37, .bslice 20 1 [(.t 36)], [], none⟩, ⟨some 38, .app 20 1 16 (.t 13) (.t 37), [], none⟩, ⟨some 3, .mv (.t 38), [], none⟩] [(3, 5), (3, 8), (3, 11), (3, 14), (3, 17), (3, 20), (6, 8), (6, 11), (6, 14), (6, 17), (6, 20), (9, 11), (9, 14), (9, 17), (9, 20), (12, 14), (12, 17), (12, 20)]))) (.row [⟨some 39, .bin .add (.t 9) (.c (.int .i64 1)), [], none⟩, ⟨some 9, .mv (.t 39), [], none⟩]))))
def dc47 : DC := (.seq (.row [⟨some 2, .mv (.c .nilIface), [], none⟩]) (.seq (.row [⟨some 6, .bslice 20 1 [], [], none⟩, ⟨some 3, .mv (.t 6), [], none⟩]) (.seq (.seq (.row [⟨some 7, .mv (.t 0), [], none⟩, ⟨some 8, .len false (.t 7), [], none⟩, ⟨some 9, .mv (.c (.int .i64 0)), [], none⟩]) (.block 0 (.loop dc47l0))) (.seq (.row [⟨some 40, .mv (.t 3), [], none⟩, ⟨some 41, .mkif 99 (.t 40), [], none⟩, ⟨some 2, .mv (.t 41), [], none⟩]) .ret))))
def dc48 : DC := (.seq (.row [⟨some 2, .mv (.c .nilIface), [], none⟩]) (.seq (.row [⟨some 3, .mv (.t 0), [], none⟩, ⟨some 4, .bin .add (.c (.int .i64 1099511627776)) (.t 3), [], none⟩, ⟨some 5, .conv .u64 (.t 4), [], none⟩, ⟨some 6, .mkif 86 (.t 5), [], none⟩, ⟨some 2, .mv (.t 6), [], none⟩]) .ret))
def dc53 : DC := (.seq (.row [⟨some 2, .mv (.c .nilIface), [], none⟩, ⟨some 3, .mv (.c (.int .i64 0)), [], none⟩]) (.seq (.row [⟨some 7, .mv (.t 0), [], none⟩, ⟨some 8, .build [(.str []), (.int .i64 0), (.int .i64 0)] [(0, 1, (.t 7))], [], none⟩, ⟨some 9, .build [(.str []), (.int .i64 0), (.int .i64 0)] [(0, 3, (.t 8))], [], none⟩, ⟨some 10, .box (.t 9), [], none⟩, ⟨some 4, .mv (.t 10), [], none⟩]) (.seq (.row [⟨some 11, .mv (.t 4), [], none⟩, ⟨some 12, .call (.c (.fn 84 [])) [(.t 11), (.c (.int .i64 0))], [], none⟩, ⟨some 5, .mv (.t 12), [], none⟩]) (.seq (.seq (.row [⟨some 13, .mv (.t 4), [], none⟩, ⟨some 14, .nilchk (.t 13), [], none⟩, ⟨some 15, .faddr 0 (.t 14), [], none⟩, ⟨some 16, .load (some 3) (.t 15), [], none⟩, ⟨some 17, .call (.c (.fn 85 [])) [(.t 16)], [], none⟩, ⟨some 6, .mv (.t 17), [], none⟩]) (.seq (.row [⟨some 18, .mv (.t 6), [], none⟩, ⟨some 19, .bin .neq (.t 18) (.c (.int .i64 0)), [], none⟩]) (.cond (.t 19) (.seq (.row [⟨some 20, .mv (.t 6), [], none⟩, ⟨some 2, .mv (.c .nilIface), [], none⟩, ⟨some 3, .mv (.t 20), [], none⟩]) .ret) .skip))) (.seq (.row [⟨some 21, .mv (.t 5), [], none⟩, ⟨some 2, .mv (.t 21), [], none⟩, ⟨some 3, .mv (.c (.int .i64 0)), [], none⟩]) .ret)))))
def dc54l0 : DC := (.seq (.row [⟨some 36, .bin .lss (.t 35) (.t 34), [], none⟩]) (.seq (.cond (.t 36) .skip (.exit 0)) (.seq (.block 1 (.seq (.row [⟨some 37, .mv (.t 35), [], none⟩, ⟨some 38, .iaddr 2 (.t 33) (.t 35), [], none⟩, ⟨some 39, .load (some 2) (.t 38), [], none⟩, ⟨some 11, .alloc [(.str []), .nilIface], [], none⟩, ⟨some 10, .mv (.t 37), [], none⟩, ⟨none, .store 2 (.t 11) (.t 39), [], none⟩]) (.seq (.drawn [⟨some 40, .mv (.t 0), [], none⟩, ⟨some 41, .mv (.t 0), [], none⟩, ⟨some 42, .nilchk (.t 41), [], none⟩, ⟨some 43, .faddr 0 (.t 42), [], none⟩, ⟨some 44, .load none (.t 43), [], none⟩, ⟨some 45, .mv (.t 44), [], none⟩, ⟨some 46, .faddr 0 (.t 11), [], some (5, false)⟩, ⟨some 47, .load none (.t 46), [], some (5, false)⟩, ⟨some 48, .mv (.t 2), [], some (5, false)⟩, ⟨some 49, .mv (.t 10), [], some (5, false)⟩, ⟨some 50, .iaddr 1 (.t 48) (.t 49), [], some (5, false)⟩, ⟨some 51, .load none (.t 50), [], some (5, false)⟩, ⟨some 52, .bin .neq (.t 47) (.t 51), [], some (5, false)⟩, ⟨some 53, .pick (.t 45) (.c (.bool true)) (.t 52), [], none⟩, ⟨some 54, .nilchk (.t 40), [], none⟩, ⟨some 55, .faddr 0 (.t 54), [], none⟩, ⟨none, .store 1 (.t 55) (.t 53), [], none⟩] []) (.row [⟨some 56, .mv (.t 9), [], none⟩, ⟨some 57, .mv (.t 10), [], none⟩, ⟨some 58, .faddr 1 (.t 11), [], none⟩, ⟨some 59, .load none (.t 58), [], none⟩, ⟨some 60, .iaddr 1 (.t 56) (.t 57), [], none⟩, ⟨none, .store 1 (.t 60) (.t 59), [], none⟩])))) (.row [⟨some 61, .bin .add (.t 35) (.c (.int .i64 1)), [], none⟩, ⟨some 35, .mv (.t 61), [], none⟩]))))
def dc54 : DC := (.seq (.row [⟨some 6, .mv (.c (.slice true [] [])), [], none⟩]) (.seq (.row [⟨some 13, .mv (.t 1), [], none⟩, ⟨some 14, .tass 85 true (.slice true [] []) (.t 13), [], none⟩, ⟨some 12, .mv (.t 14), [], none⟩, ⟨some 15, .ext 0 (.t 12), [], none⟩, ⟨some 16, .ext 1 (.t 12), [], none⟩, ⟨some 7, .mv (.t 15), [], none⟩, ⟨some 8, .mv (.t 16), [], none⟩]) (.seq (.row [⟨some 17, .mv (.t 2), [], none⟩, ⟨some 18, .len false (.t 17), [], none⟩, ⟨some 19, .mksl 20 1 16 .nilIface (.t 18) (.t 18), [], none⟩, ⟨some 9, .mv (.t 19), [], none⟩]) (.seq (.seq (.row [⟨some 20, .mv (.t 8), [], none⟩, ⟨some 21, .un .not (.t 20), [], none⟩, ⟨some 22, .mv (.t 21), [], none⟩, ⟨some 23, .mv (.t 7), [], some (2, false)⟩, ⟨some 24, .len false (.t 23), [], some (2, false)⟩, ⟨some 25, .mv (.t 2), [], some (2, false)⟩, ⟨some 26, .len false (.t 25), [], some (2, false)⟩, ⟨some 27, .bin .neq (.t 24) (.t 26), [], some (2, false)⟩, ⟨some 28, .pick (.t 22) (.c (.bool true)) (.t 27), [], none⟩]) (.cond (.t 28) (.seq (.row [⟨some 29, .mv (.t 0), [], none⟩, ⟨some 30, .nilchk (.t 29), [], none⟩, ⟨some 31, .faddr 0 (.t 30), [], none⟩, ⟨none, .store 1 (.t 31) (.c (.bool true)), [], none⟩]) (.seq (.row [⟨some 32, .mv (.t 9), [], none⟩, ⟨some 6, .mv (.t 32), [], none⟩]) .ret)) .skip)) (.seq (.seq (.row [⟨some 33, .mv (.t 7), [], none⟩, ⟨some 34, .len false (.t 33), [], none⟩, ⟨some 35, .mv (.c (.int .i64 0)), [], none⟩]) (.block 0 (.loop dc54l0))) (.seq (.row [⟨some 62, .mv (.t 9), [], none⟩, ⟨some 6, .mv (.t 62), [], none⟩]) .ret))))))
def dc55 : DC := (.seq (.row [⟨some 4, .mv (.c (.int .i64 0)), [], none⟩]) (.seq (.row [⟨some 8, .mv (.t 1), [], none⟩, ⟨some 9, .call (.c (.fn 86 [])) [(.t 8)], [], none⟩, ⟨some 7, .mv (.t 9), [], none⟩, ⟨some 10, .ext 0 (.t 7), [], none⟩, ⟨some 11, .ext 1 (.t 7), [], none⟩, ⟨some 5, .mv (.t 10), [], none⟩, ⟨some 6, .mv (.t 11), [], none⟩]) (.seq (.seq (.row [⟨some 12, .mv (.t 6), [], none⟩, ⟨some 13, .un .not (.t 12), [], none⟩, ⟨some 14, .mv (.t 13), [], none⟩, ⟨some 15, .mv (.t 5), [], some (2, false)⟩, ⟨some 16, .bin .gtr (.t 15) (.c (.int .u64 2199023255552)), [], some (2, false)⟩, ⟨some 17, .pick (.t 14) (.c (.bool true)) (.t 16), [], none⟩]) (.cond (.t 17) (.seq (.row [⟨some 18, .mv (.t 0), [], none⟩, ⟨some 19, .nilchk (.t 18), [], none⟩, ⟨some 20, .faddr 0 (.t 19), [], none⟩, ⟨none, .store 1 (.t 20) (.c (.bool true)), [], none⟩]) (.seq (.row [⟨some 4, .mv (.c (.int .i64 0)), [], none⟩]) .ret)) .skip)) (.seq (.row [⟨some 21, .mv (.t 5), [], none⟩, ⟨some 22, .conv .i64 (.t 21), [], none⟩, ⟨some 23, .bin .sub (.t 22) (.c (.int .i64 1099511627776)), [], none⟩, ⟨some 4, .mv (.t 23), [], none⟩]) .ret))))
def dc56 : DC := (.seq (.row [⟨some 4, .mv (.c (.bool false)), [], none⟩]) (.seq (.row [⟨some 8, .mv (.t 1), [], none⟩, ⟨some 9, .tass 4 true (.bool false) (.t 8), [], none⟩, ⟨some 7, .mv (.t 9), [], none⟩, ⟨some 10, .ext 0 (.t 7), [], none⟩, ⟨some 11, .ext 1 (.t 7), [], none⟩, ⟨some 5, .mv (.t 10), [], none⟩, ⟨some 6, .mv (.t 11), [], none⟩]) (.seq (.row [⟨some 12, .mv (.t 0), [], none⟩, ⟨some 13, .mv (.t 0), [], none⟩, ⟨some 14, .nilchk (.t 13), [], none⟩, ⟨some 15, .faddr 0 (.t 14), [], none⟩, ⟨some 16, .load none (.t 15), [], none⟩, ⟨some 17, .mv (.t 16), [], none⟩, ⟨some 18, .mv (.t 6), [], some (5, false)⟩, ⟨some 19, .un .not (.t 18), [], some (5, false)⟩, ⟨some 20, .pick (.t 17) (.c (.bool true)) (.t 19), [], none⟩, ⟨some 21, .nilchk (.t 12), [], none⟩, ⟨some 22, .faddr 0 (.t 21), [], none⟩, ⟨none, .store 1 (.t 22) (.t 20), [], none⟩]) (.seq (.row [⟨some 23, .mv (.t 5), [], none⟩, ⟨some 4, .mv (.t 23), [], none⟩]) .ret))))
def dc57 : DC := (.seq (.row [⟨some 4, .mv (.c (.slice true [] [])), [], none⟩]) (.seq (.row [⟨some 8, .mv (.t 1), [], none⟩, ⟨some 9, .tass 99 true (.slice true [] []) (.t 8), [], none⟩, ⟨some 7, .mv (.t 9), [], none⟩, ⟨some 10, .ext 0 (.t 7), [], none⟩, ⟨some 11, .ext 1 (.t 7), [], none⟩, ⟨some 5, .mv (.t 10), [], none⟩, ⟨some 6, .mv (.t 11), [], none⟩]) (.seq (.row [⟨some 12, .mv (.t 0), [], none⟩, ⟨some 13, .mv (.t 0), [], none⟩, ⟨some 14, .nilchk (.t 13), [], none⟩, ⟨some 15, .faddr 0 (.t 14), [], none⟩, ⟨some 16, .load none (.t 15), [], none⟩, ⟨some 17, .mv (.t 16), [], none⟩, ⟨some 18, .mv (.t 6), [], some (5, false)⟩, ⟨some 19, .un .not (.t 18), [], some (5, false)⟩, ⟨some 20, .pick (.t 17) (.c (.bool true)) (.t 19), [], none⟩, ⟨some 21, .nilchk (.t 12), [], none⟩, ⟨some 22, .faddr 0 (.t 21), [], none⟩, ⟨none, .store 1 (.t 22) (.t 20), [], none⟩]) (.seq (.row [⟨some 23, .mv (.t 5), [], none⟩, ⟨some 4, .mv (.t 23), [], none⟩]) .ret))))
def dc58 : DC := (.seq (.row [⟨some 4, .mv (.c (.str [])), [], none⟩]) (.seq (.row [⟨some 8, .mv (.t 1), [], none⟩, ⟨some 9, .call (.c (.fn 87 [])) [(.t 8)], [], none⟩, ⟨some 7, .mv (.t 9), [], none⟩, ⟨some 10, .ext 0 (.t 7), [], none⟩, ⟨some 11, .ext 1 (.t 7), [], none⟩, ⟨some 5, .mv (.t 10), [], none⟩, ⟨some 6, .mv (.t 11), [], none⟩]) (.seq (.row [⟨some 12, .mv (.t 0), [], none⟩, ⟨some 13, .mv (.t 0), [], none⟩, ⟨some 14, .nilchk (.t 13), [], none⟩, ⟨some 15, .faddr 0 (.t 14), [], none⟩, ⟨some 16, .load none (.t 15), [], none⟩, ⟨some 17, .mv (.t 16), [], none⟩, ⟨some 18, .mv (.t 6), [], some (5, false)⟩, ⟨some 19, .un .not (.t 18), [], some (5, false)⟩, ⟨some 20, .pick (.t 17) (.c (.bool true)) (.t 19), [], none⟩, ⟨some 21, .nilchk (.t 12), [], none⟩, ⟨some 22, .faddr 0 (.t 21), [], none⟩, ⟨none, .store 1 (.t 22) (.t 20), [], none⟩]) (.seq (.row [⟨some 23, .mv (.t 5), [], none⟩, ⟨some 4, .mv (.t 23), [], none⟩]) .ret))))
def dc59 : DC := (.seq (.row [⟨some 4, .alloc [(.int .i64 0), (.str []), (.str []), (.int .i64 0), (.int .i64 0), (.int .i64 0), (.bool false)], [], none⟩]) (.seq (.row [⟨some 6, .mv (.t 0), [], none⟩, ⟨some 7, .mv (.t 1), [], none⟩, ⟨some 8, .call (.c (.fn 57 [])) [(.t 6), (.t 7)], [], none⟩, ⟨some 5, .mv (.t 8), [], none⟩]) (.seq (.seq (.row [⟨some 9, .mv (.t 5), [], none⟩, ⟨some 10, .len false (.t 9), [], none⟩, ⟨some 11, .bin .neq (.t 10) (.c (.int .i64 7)), [], none⟩]) (.cond (.t 11) (.seq (.row [⟨some 12, .mv (.t 0), [], none⟩, ⟨some 13, .nilchk (.t 12), [], none⟩, ⟨some 14, .faddr 0 (.t 13), [], none⟩, ⟨none, .store 1 (.t 14) (.c (.bool true)), [], none⟩]) (.seq (.row [⟨some 15, .build [(.int .i64 0), (.str []), (.str []), (.int .i64 0), (.int .i64 0), (.int .i64 0), (.bool false)] [], [], none⟩, ⟨none, .store 7 (.t 4) (.t 15), [], none⟩]) .ret)) .skip)) (.seq (.drawn [⟨some 16, .mv (.t 0), [], none⟩, ⟨some 17, .mv (.t 5), [], none⟩, ⟨some 18, .iaddr 1 (.t 17) (.c (.int .i64 0)), [], none⟩, ⟨some 19, .load none (.t 18), [], none⟩, ⟨some 20, .call (.c (.fn 55 [])) [(.t 16), (.t 19)], [], none⟩, ⟨some 21, .mv (.t 0), [], none⟩, ⟨some 22, .mv (.t 5), [], none⟩, ⟨some 23, .iaddr 1 (.t 22) (.c (.int .i64 1)), [], none⟩, ⟨some 24, .load none (.t 23), [], none⟩, ⟨some 25, .call (.c (.fn 55 [])) [(.t 21), (.t 24)], [], none⟩, ⟨some 26, .mv (.t 0), [], none⟩, ⟨some 27, .mv (.t 5), [], none⟩, ⟨some 28, .iaddr 1 (.t 27) (.c (.int .i64 2)), [], none⟩, ⟨some 29, .load none (.t 28), [], none⟩, ⟨some 30, .call (.c (.fn 55 [])) [(.t 26), (.t 29)], [], none⟩, ⟨some 31, .mv (.t 0), [], none⟩, ⟨some 32, .mv (.t 5), [], none⟩, ⟨some 33, .iaddr 1 (.t 32) (.c (.int .i64 3)), [], none⟩, ⟨some 34, .load none (.t 33), [], none⟩, ⟨some 35, .call (.c (.fn 55 [])) [(.t 31), (.t 34)], [], none⟩, ⟨some 36, .mv (.t 0), [], none⟩, ⟨some 37, .mv (.t 5), [], none⟩, ⟨some 38, .iaddr 1 (.t 37) (.c (.int .i64 4)), [], none⟩, ⟨some 39, .load none (.t 38), [], none⟩, ⟨some 40, .call (.c (.fn 56 [])) [(.t 36), (.t 39)], [], none⟩, ⟨some 41, .mv (.t 0), [], none⟩, ⟨some 42, .mv (.t 5), [], none⟩, ⟨some 43, .iaddr 1 (.t 42) (.c (.int .i64 5)), [], none⟩, ⟨some 44, .load none (.t 43), [], none⟩, ⟨some 45, .call (.c (.fn 58 [])) [(.t 41), (.t 44)], [], none⟩, ⟨some 46, .mv (.t 0), [], none⟩, ⟨some 47, .mv (.t 5), [], none⟩, ⟨some 48, .iaddr 1 (.t 47) (.c (.int .i64 6)), [], none⟩, ⟨some 49, .load none (.t 48), [], none⟩, ⟨some 50, .call (.c (.fn 58 [])) [(.t 46), (.t 49)], [], none⟩, ⟨some 51, .build [(.int .i64 0), (.str []), (.str []), (.int .i64 0), (.int .i64 0), (.int .i64 0), (.bool false)] [(4, 1, (.t 20)), (0, 1, (.t 25)), (3, 1, (.t 30)), (5, 1, (.t 35)), (6, 1, (.t 40)), (1, 1, (.t 45)), (2, 1, (.t 50))], [], none⟩, ⟨none, .store 7 (.t 4) (.t 51), [], none⟩] [(4, 8), (4, 13), (4, 18), (4, 23), (4, 28), (4, 33), (9, 13), (9, 18), (9, 23), (9, 28), (9, 33), (14, 18), (14, 23), (14, 28), (14, 33), (19, 23), (19, 28), (19, 33), (24, 28), (24, 33), (29, 33)]) .ret))))
def dc79 : DC := (.seq (.row [⟨some 2, .mv (.c (.int .i64 0)), [], none⟩]) (.seq (.row [⟨some 3, .mv (.t 0), [], none⟩, ⟨some 4, .call (.c (.fn 98 [])) [(.t 3), (.c (.int .i64 0))], [], none⟩, ⟨some 2, .mv (.t 4), [], none⟩]) .ret))
def dc80l0 : DC := (.seq (.row [⟨some 53, .bin .lss (.t 52) (.t 51), [], none⟩]) (.seq (.cond (.t 53) .skip (.exit 1)) (.seq (.block 2 (.seq (.row [⟨some 54, .iaddr 1 (.t 50) (.t 52), [], none⟩, ⟨some 55, .load none (.t 54), [], none⟩, ⟨some 10, .mv (.t 55), [], none⟩]) (.row [⟨some 56, .mv (.t 0), [], none⟩, ⟨some 57, .mv (.t 10), [], none⟩, ⟨some 58, .call (.c (.fn 80 [])) [(.t 56), (.t 57)], [], none⟩, ⟨some 0, .mv (.t 58), [], none⟩]))) (.row [⟨some 59, .bin .add (.t 52) (.c (.int .i64 1)), [], none⟩, ⟨some 52, .mv (.t 59), [], none⟩]))))
def dc80l1 : DC := (.seq (.row [⟨some 73, .bin .lss (.t 72) (.t 71), [], none⟩]) (.seq (.cond (.t 73) .skip (.exit 3)) (.seq (.block 4 (.seq (.row [⟨some 74, .iaddr 2 (.t 70) (.t 72), [], none⟩, ⟨some 75, .load (some 2) (.t 74), [], none⟩, ⟨some 13, .alloc [(.str []), .nilIface], [], none⟩, ⟨none, .store 2 (.t 13) (.t 75), [], none⟩]) (.drawn [⟨some 76, .mv (.t 0), [], none⟩, ⟨some 77, .faddr 0 (.t 13), [], none⟩, ⟨some 78, .load none (.t 77), [], none⟩, ⟨some 79, .call (.c (.fn 100 [])) [(.t 76), (.t 78)], [], none⟩, ⟨some 80, .faddr 1 (.t 13), [], none⟩, ⟨some 81, .load none (.t 80), [], none⟩, ⟨some 82, .call (.c (.fn 80 [])) [(.t 79), (.t 81)], [], none⟩, ⟨some 0, .mv (.t 82), [], none⟩] [(3, 5)]))) (.row [⟨some 83, .bin .add (.t 72) (.c (.int .i64 1)), [], none⟩, ⟨some 72, .mv (.t 83), [], none⟩]))))
def dc80 : DC := (.seq (.row [⟨some 4, .mv (.c (.slice true [] [])), [], none⟩]) (.seq (.seq (.row [⟨some 14, .mv (.t 1), [], none⟩]) (.block 0 (.seq (.row [⟨some 15, .tass 4 true (.bool false) (.t 14), [], none⟩, ⟨some 16, .ext 1 (.t 15), [], none⟩, ⟨some 17, .ext 0 (.t 15), [], none⟩]) (.cond (.t 16) (.seq (.row [⟨some 5, .mv (.t 17), [], none⟩]) (.seq (.seq (.row [⟨some 18, .mv (.t 5), [], none⟩]) (.cond (.t 18) (.seq (.row [⟨some 19, .mv (.t 0), [], none⟩, ⟨some 20, .bslice 5 1 [(.c (.int .u8 2))], [], none⟩, ⟨some 21, .app 5 1 1 (.t 19) (.t 20), [], none⟩, ⟨some 4, .mv (.t 21), [], none⟩]) .ret) .skip)) (.seq (.row [⟨some 22, .mv (.t 0), [], none⟩, ⟨some 23, .bslice 5 1 [(.c (.int .u8 1))], [], none⟩, ⟨some 24, .app 5 1 1 (.t 22) (.t 23), [], none⟩, ⟨some 4, .mv (.t 24), [], none⟩]) .ret))) (.seq (.row [⟨some 25, .tass 86 true (.int .u64 0) (.t 14), [], none⟩, ⟨some 26, .ext 1 (.t 25), [], none⟩, ⟨some 27, .ext 0 (.t 25), [], none⟩]) (.cond (.t 26) (.seq (.row [⟨some 6, .mv (.t 27), [], none⟩]) (.seq (.row [⟨some 28, .mv (.t 0), [], none⟩, ⟨some 29, .bslice 5 1 [(.c (.int .u8 3))], [], none⟩, ⟨some 30, .app 5 1 1 (.t 28) (.t 29), [], none⟩, ⟨some 31, .mv (.t 6), [], none⟩, ⟨some 32, .call (.c (.fn 99 [])) [(.t 30), (.c (.int .i64 8)), (.t 31)], [], none⟩, ⟨some 4, .mv (.t 32), [], none⟩]) .ret)) (.seq (.row [⟨some 33, .tass 9 true (.str []) (.t 14), [], none⟩, ⟨some 34, .ext 1 (.t 33), [], none⟩, ⟨some 35, .ext 0 (.t 33), [], none⟩]) (.cond (.t 34) (.seq (.row [⟨some 7, .mv (.t 35), [], none⟩]) (.seq (.row [⟨some 36, .mv (.t 0), [], none⟩, ⟨some 37, .bslice 5 1 [(.c (.int .u8 4))], [], none⟩, ⟨some 38, .app 5 1 1 (.t 36) (.t 37), [], none⟩, ⟨some 39, .mv (.t 7), [], none⟩, ⟨some 40, .call (.c (.fn 100 [])) [(.t 38), (.t 39)], [], none⟩, ⟨some 4, .mv (.t 40), [], none⟩]) .ret)) (.seq (.row [⟨some 41, .tass 99 true (.slice true [] []) (.t 14), [], none⟩, ⟨some 42, .ext 1 (.t 41), [], none⟩, ⟨some 43, .ext 0 (.t 41), [], none⟩]) (.cond (.t 42) (.seq (.row [⟨some 8, .mv (.t 43), [], none⟩]) (.seq (.row [⟨some 44, .mv (.t 0), [], none⟩, ⟨some 45, .mv (.t 8), [], none⟩, ⟨some 46, .len false (.t 45), [], none⟩, ⟨some 47, .conv .u8 (.t 46), [], none⟩, ⟨some 48, .bslice 5 1 [(.c (.int .u8 5)), (.t 47)], [], none⟩, ⟨some 49, .app 5 1 1 (.t 44) (.t 48), [], none⟩, ⟨some 0, .mv (.t 49), [], none⟩]) (.seq (.seq (.row [⟨some 50, .mv (.t 8), [], none⟩, ⟨some 51, .len false (.t 50), [], none⟩, ⟨some 52, .mv (.c (.int .i64 0)), [], none⟩]) (.block 1 (.loop dc80l0))) (.seq (.row [⟨some 60, .mv (.t 0), [], none⟩, ⟨some 4, .mv (.t 60), [], none⟩]) .ret)))) (.seq (.row [⟨some 61, .tass 85 true (.slice true [] []) (.t 14), [], none⟩, ⟨some 62, .ext 1 (.t 61), [], none⟩, ⟨some 63, .ext 0 (.t 61), [], none⟩]) (.cond (.t 62) (.seq (.row [⟨some 11, .mv (.t 63), [], none⟩]) (.seq (.row [⟨some 64, .mv (.t 0), [], none⟩, ⟨some 65, .mv (.t 11), [], none⟩, ⟨some 66, .len false (.t 65), [], none⟩, ⟨some 67, .conv .u8 (.t 66), [], none⟩, ⟨some 68, .bslice 5 1 [(.c (.int .u8 6)), (.t 67)], [], none⟩, ⟨some 69, .app 5 1 1 (.t 64) (.t 68), [], none⟩, ⟨some 0, .mv (.t 69), [], none⟩]) (.seq (.seq (.row [⟨some 70, .mv (.t 11), [], none⟩, ⟨some 71, .len false (.t 70), [], none⟩, ⟨some 72, .mv (.c (.int .i64 0)), [], none⟩]) (.block 3 (.loop dc80l1))) (.seq (.row [⟨some 84, .mv (.t 0), [], none⟩, ⟨some 4, .mv (.t 84), [], none⟩]) .ret)))) .skip)))))))))))) (.seq (.row [⟨some 85, .mv (.t 0), [], none⟩, ⟨some 86, .bslice 5 1 [(.c (.int .u8 0))], [], none⟩, ⟨some 87, .app 5 1 1 (.t 85) (.t 86), [], none⟩, ⟨some 4, .mv (.t 87), [], none⟩]) .ret)))
def dc84 : DC := (.seq (.row [⟨some 4, .mv (.c .nilIface), [], none⟩]) (.seq (.row [⟨some 6, .mv (.t 0), [], none⟩, ⟨some 7, .call (.c (.fn 101 [])) [(.t 6), (.c (.int .i64 1))], [], none⟩, ⟨some 5, .mv (.t 7), [], none⟩]) (.seq (.seq (.row [⟨some 8, .mv (.t 0), [], none⟩, ⟨some 9, .nilchk (.t 8), [], none⟩, ⟨some 10, .faddr 0 (.t 9), [], none⟩, ⟨some 11, .faddr 2 (.t 10), [], none⟩, ⟨some 12, .load none (.t 11), [], none⟩, ⟨some 13, .bin .neq (.t 12) (.c (.int .i64 0)), [], none⟩]) (.cond (.t 13) (.seq (.row [⟨some 4, .mv (.c .nilIface), [], none⟩]) .ret) .skip)) (.seq (.seq (.row [⟨some 14, .mv (.t 5), [], none⟩]) (.block 0 (.seq (.row [⟨some 16, .bin .eql (.t 14) (.c (.int .u64 0)), [], none⟩, ⟨some 15, .mv (.t 16), [], none⟩]) (.cond (.t 15) (.seq (.row [⟨some 4, .mv (.c .nilIface), [], none⟩]) .ret) (.seq (.seq (.row [⟨some 18, .bin .eql (.t 14) (.c (.int .u64 1)), [], none⟩, ⟨some 17, .mv (.t 18), [], none⟩]) (.cond (.t 17) .skip (.row [⟨some 19, .bin .eql (.t 14) (.c (.int .u64 2)), [], none⟩, ⟨some 17, .mv (.t 19), [], none⟩]))) (.cond (.t 17) (.seq (.row [⟨some 20, .mv (.t 5), [], none⟩, ⟨some 21, .bin .eql (.t 20) (.c (.int .u64 2)), [], none⟩, ⟨some 22, .mkif 4 (.t 21), [], none⟩, ⟨some 4, .mv (.t 22), [], none⟩]) .ret) (.seq (.row [⟨some 24, .bin .eql (.t 14) (.c (.int .u64 3)), [], none⟩, ⟨some 23, .mv (.t 24), [], none⟩]) (.cond (.t 23) (.seq (.row [⟨some 25, .mv (.t 0), [], none⟩, ⟨some 26, .call (.c (.fn 101 [])) [(.t 25), (.c (.int .i64 8))], [], none⟩, ⟨some 27, .mkif 86 (.t 26), [], none⟩, ⟨some 4, .mv (.t 27), [], none⟩]) .ret) (.seq (.row [⟨some 29, .bin .eql (.t 14) (.c (.int .u64 4)), [], none⟩, ⟨some 28, .mv (.t 29), [], none⟩]) (.cond (.t 28) (.seq (.row [⟨some 30, .mv (.t 0), [], none⟩, ⟨some 31, .call (.c (.fn 102 [])) [(.t 30)], [], none⟩, ⟨some 32, .mkif 9 (.t 31), [], none⟩, ⟨some 4, .mv (.t 32), [], none⟩]) .ret) (.seq (.row [⟨some 34, .bin .eql (.t 14) (.c (.int .u64 5)), [], none⟩, ⟨some 33, .mv (.t 34), [], none⟩]) (.cond (.t 33) (.seq (.row [⟨some 35, .mv (.t 0), [], none⟩, ⟨some 36, .mv (.t 1), [], none⟩, ⟨some 37, .call (.c (.fn 103 [])) [(.t 35), (.t 36)], [], none⟩, ⟨some 4, .mv (.t 37), [], none⟩]) .ret) (.seq (.row [⟨some 39, .bin .eql (.t 14) (.c (.int .u64 6)), [], none⟩, ⟨some 38, .mv (.t 39), [], none⟩]) (.cond (.t 38) (.seq (.row [⟨some 40, .mv (.t 0), [], none⟩, ⟨some 41, .mv (.t 1), [], none⟩, ⟨some 42, .call (.c (.fn 104 [])) [(.t 40), (.t 41)], [], none⟩, ⟨some 4, .mv (.t 42), [], none⟩]) .ret) .skip)))))))))))))) (.seq (.row [⟨some 43, .mv (.t 0), [], none⟩, ⟨some 44, .call (.c (.fn 105 [])) [(.t 43), (.c (.int .i64 22))], [], none⟩]) (.seq (.row [⟨some 4, .mv (.c .nilIface), [], none⟩]) .ret))))))
def dc85 : DC := (.seq (.row [⟨some 1, .box (.t 0), [], none⟩, ⟨some 2, .mv (.c (.int .i64 0)), [], none⟩]) (.seq (.block 0 (.seq (.row [⟨some 4, .faddr 2 (.t 1), [], none⟩, ⟨some 5, .load none (.t 4), [], none⟩, ⟨some 6, .bin .neq (.t 5) (.c (.int .i64 0)), [], none⟩, ⟨some 3, .mv (.t 6), [], none⟩]) (.cond (.t 3) (.seq (.row [⟨some 7, .faddr 2 (.t 1), [], none⟩, ⟨some 8, .load none (.t 7), [], none⟩, ⟨some 2, .mv (.t 8), [], none⟩]) .ret) (.seq (.row [⟨some 10, .load (some 3) (.t 1), [], none⟩, ⟨some 11, .call (.c (.fn 106 [])) [(.t 10)], [], none⟩, ⟨some 12, .un .not (.t 11), [], none⟩, ⟨some 9, .mv (.t 12), [], none⟩]) (.cond (.t 9) (.seq (.row [⟨some 2, .mv (.c (.int .i64 2)), [], none⟩]) .ret) (.seq (.row [⟨some 14, .load (some 3) (.t 1), [], none⟩, ⟨some 15, .call (.c (.fn 107 [])) [(.t 14)], [], none⟩, ⟨some 16, .bin .gtr (.t 15) (.c (.int .i64 0)), [], none⟩, ⟨some 13, .mv (.t 16), [], none⟩]) (.cond (.t 13) (.seq (.row [⟨some 2, .mv (.c (.int .i64 4)), [], none⟩]) .ret) .skip))))))) (.seq (.row [⟨some 2, .mv (.c (.int .i64 0)), [], none⟩]) .ret)))
def dc86 : DC := (.seq (.row [⟨some 2, .mv (.c (.int .u64 0)), [], none⟩, ⟨some 3, .mv (.c (.bool false)), [], none⟩]) (.seq (.row [⟨some 7, .mv (.t 0), [], none⟩, ⟨some 8, .tass 86 true (.int .u64 0) (.t 7), [], none⟩, ⟨some 6, .mv (.t 8), [], none⟩, ⟨some 9, .ext 0 (.t 6), [], none⟩, ⟨some 10, .ext 1 (.t 6), [], none⟩, ⟨some 4, .mv (.t 9), [], none⟩, ⟨some 5, .mv (.t 10), [], none⟩]) (.seq (.row [⟨some 11, .mv (.t 4), [], none⟩, ⟨some 12, .mv (.t 5), [], none⟩, ⟨some 2, .mv (.t 11), [], none⟩, ⟨some 3, .mv (.t 12), [], none⟩]) .ret)))
def dc87 : DC := (.seq (.row [⟨some 2, .mv (.c (.str [])), [], none⟩, ⟨some 3, .mv (.c (.bool false)), [], none⟩]) (.seq (.row [⟨some 7, .mv (.t 0), [], none⟩, ⟨some 8, .tass 9 true (.str []) (.t 7), [], none⟩, ⟨some 6, .mv (.t 8), [], none⟩, ⟨some 9, .ext 0 (.t 6), [], none⟩, ⟨some 10, .ext 1 (.t 6), [], none⟩, ⟨some 4, .mv (.t 9), [], none⟩, ⟨some 5, .mv (.t 10), [], none⟩]) (.seq (.row [⟨some 11, .mv (.t 4), [], none⟩, ⟨some 12, .mv (.t 5), [], none⟩, ⟨some 2, .mv (.t 11), [], none⟩, ⟨some 3, .mv (.t 12), [], none⟩]) .ret)))
def dc98 : DC := (.seq (.row [⟨some 4, .mv (.c (.int .i64 0)), [], none⟩]) (.seq (.seq (.row [⟨some 9, .mv (.t 0), [], none⟩]) (.block 0 (.seq (.row [⟨some 10, .nileq false 2 (.t 9) (.c .nilIface), [], none⟩, ⟨some 11, .tass 4 true (.bool false) (.t 9), [], none⟩, ⟨some 12, .ext 1 (.t 11), [], none⟩, ⟨some 13, .ext 0 (.t 11), [], none⟩, ⟨some 14, .tass 86 true (.int .u64 0) (.t 9), [], none⟩, ⟨some 15, .ext 1 (.t 14), [], none⟩, ⟨some 16, .ext 0 (.t 14), [], none⟩, ⟨some 17, .pick (.t 12) (.c (.bool true)) (.t 15), [], none⟩, ⟨some 18, .pick (.t 10) (.c (.bool true)) (.t 17), [], none⟩]) (.cond (.t 18) (.seq (.row [⟨some 5, .mv (.t 9), [], none⟩]) (.seq (.row [⟨some 4, .mv (.c (.int .i64 0)), [], none⟩]) .ret)) (.seq (.row [⟨some 19, .tass 9 true (.str []) (.t 9), [], none⟩, ⟨some 20, .ext 1 (.t 19), [], none⟩, ⟨some 21, .ext 0 (.t 19), [], none⟩]) (.cond (.t 20) (.seq (.row [⟨some 6, .mv (.t 21), [], none⟩]) (.seq (.seq (.row [⟨some 22, .mv (.t 6), [], none⟩, ⟨some 23, .len true (.t 22), [], none⟩, ⟨some 24, .bin .gtr (.t 23) (.c (.int .i64 65535)), [], none⟩]) (.cond (.t 24) (.seq (.row [⟨some 4, .mv (.c (.int .i64 5)), [], none⟩]) .ret) .skip)) (.seq (.row [⟨some 4, .mv (.c (.int .i64 0)), [], none⟩]) .ret))) (.seq (.row [⟨some 25, .tass 99 true (.slice true [] []) (.t 9), [], none⟩, ⟨some 26, .ext 1 (.t 25), [], none⟩, ⟨some 27, .ext 0 (.t 25), [], none⟩]) (.cond (.t 26) (.seq (.row [⟨some 7, .mv (.t 27), [], none⟩]) (.seq (.row [⟨some 28, .mv (.t 7), [], none⟩, ⟨some 29, .mv (.t 1), [], none⟩, ⟨some 30, .call (.c (.fn 118 [])) [(.t 28), (.t 29)], [], none⟩, ⟨some 4, .mv (.t 30), [], none⟩]) .ret)) (.seq (.row [⟨some 31, .tass 85 true (.slice true [] []) (.t 9), [], none⟩, ⟨some 32, .ext 1 (.t 31), [], none⟩, ⟨some 33, .ext 0 (.t 31), [], none⟩]) (.cond (.t 32) (.seq (.row [⟨some 8, .mv (.t 33), [], none⟩]) (.seq (.row [⟨some 34, .mv (.t 8), [], none⟩, ⟨some 35, .mv (.t 1), [], none⟩, ⟨some 36, .call (.c (.fn 119 [])) [(.t 34), (.t 35)], [], none⟩, ⟨some 4, .mv (.t 36), [], none⟩]) .ret)) .skip)))))))))) (.seq (.row [⟨some 4, .mv (.c (.int .i64 22)), [], none⟩]) .ret)))
def dc99 : DC := (.seq (.row [⟨some 6, .mv (.c (.slice true [] [])), [], none⟩]) (.seq (.seq (.row [⟨some 7, .mv (.t 1), [], none⟩, ⟨some 8, .call (.c (.fn 120 [])) [(.t 7)], [], none⟩, ⟨some 9, .un .not (.t 8), [], none⟩]) (.cond (.t 9) (.seq (.row [⟨some 10, .mv (.t 0), [], none⟩, ⟨some 11, .call (.c (.fn 121 [])) [(.t 10), (.c (.int .i64 0))], [], none⟩, ⟨some 6, .mv (.t 11), [], none⟩]) .ret) .skip)) (.seq (.row [⟨some 12, .mv (.t 0), [], none⟩, ⟨some 13, .mv (.t 1), [], none⟩, ⟨some 14, .call (.c (.fn 121 [])) [(.t 12), (.t 13)], [], none⟩, ⟨some 15, .mv (.t 1), [], none⟩, ⟨some 16, .mv (.t 2), [], none⟩, ⟨some 17, .call (.c (.fn 122 [])) [(.t 14), (.t 15), (.t 16)], [], none⟩, ⟨some 6, .mv (.t 17), [], none⟩]) .ret)))
def dc100 : DC := (.seq (.row [⟨some 4, .mv (.c (.slice true [] [])), [], none⟩]) (.seq (.row [⟨some 8, .mv (.t 0), [], none⟩, ⟨some 9, .mv (.t 1), [], none⟩, ⟨some 10, .call (.c (.fn 123 [])) [(.t 8), (.t 9)], [], none⟩, ⟨some 7, .mv (.t 10), [], none⟩, ⟨some 11, .ext 0 (.t 7), [], none⟩, ⟨some 12, .ext 1 (.t 7), [], none⟩, ⟨some 5, .mv (.t 11), [], none⟩, ⟨some 6, .mv (.t 12), [], none⟩]) (.seq (.row [⟨some 13, .mv (.t 5), [], none⟩, ⟨some 4, .mv (.t 13), [], none⟩]) .ret)))
def dc101 : DC := (.seq (.row [⟨some 4, .mv (.c (.int .u64 0)), [], none⟩]) (.seq (.row [⟨some 5, .mv (.c (.int .u64 0)), [], none⟩]) (.seq (.row [⟨some 7, .mv (.t 0), [], none⟩, ⟨some 8, .mv (.t 0), [], none⟩, ⟨some 9, .nilchk (.t 8), [], none⟩, ⟨some 10, .faddr 0 (.t 9), [], none⟩, ⟨some 11, .load (some 3) (.t 10), [], none⟩, ⟨some 12, .mv (.t 1), [], none⟩, ⟨some 13, .call (.c (.fn 124 [])) [(.t 11), (.t 12)], [], none⟩, ⟨some 6, .mv (.t 13), [], none⟩, ⟨some 14, .ext 0 (.t 6), [], none⟩, ⟨some 15, .ext 1 (.t 6), [], none⟩, ⟨some 5, .mv (.t 14), [], none⟩, ⟨some 16, .nilchk (.t 7), [], none⟩, ⟨some 17, .faddr 0 (.t 16), [], none⟩, ⟨none, .store 3 (.t 17) (.t 15), [], none⟩]) (.seq (.row [⟨some 18, .mv (.t 5), [], none⟩, ⟨some 4, .mv (.t 18), [], none⟩]) .ret))))
def dc102 : DC := (.seq (.row [⟨some 2, .mv (.c (.str [])), [], none⟩]) (.seq (.row [⟨some 3, .mv (.c (.str [])), [], none⟩]) (.seq (.row [⟨some 5, .mv (.t 0), [], none⟩, ⟨some 6, .mv (.t 0), [], none⟩, ⟨some 7, .nilchk (.t 6), [], none⟩, ⟨some 8, .faddr 0 (.t 7), [], none⟩, ⟨some 9, .load (some 3) (.t 8), [], none⟩, ⟨some 10, .call (.c (.fn 125 [])) [(.t 9)], [], none⟩, ⟨some 4, .mv (.t 10), [], none⟩, ⟨some 11, .ext 0 (.t 4), [], none⟩, ⟨some 12, .ext 1 (.t 4), [], none⟩, ⟨some 3, .mv (.t 11), [], none⟩, ⟨some 13, .nilchk (.t 5), [], none⟩, ⟨some 14, .faddr 0 (.t 13), [], none⟩, ⟨none, .store 3 (.t 14) (.t 12), [], none⟩]) (.seq (.row [⟨some 15, .mv (.t 3), [], none⟩, ⟨some 2, .mv (.t 15), [], none⟩]) .ret))))
def dc103l0 : DC := (.seq (.row [⟨some 13, .bin .lss (.t 12) (.t 11), [], none⟩]) (.seq (.cond (.t 13) .skip (.exit 0)) (.seq (.block 1 (.seq (.seq (.row [⟨some 14, .mv (.t 0), [], none⟩, ⟨some 15, .nilchk (.t 14), [], none⟩, ⟨some 16, .faddr 0 (.t 15), [], none⟩, ⟨some 17, .faddr 2 (.t 16), [], none⟩, ⟨some 18, .load none (.t 17), [], none⟩, ⟨some 19, .bin .neq (.t 18) (.c (.int .i64 0)), [], none⟩]) (.cond (.t 19) (.seq (.row [⟨some 4, .mv (.c .nilIface), [], none⟩]) .ret) .skip)) (.row [⟨some 20, .mv (.t 6), [], none⟩, ⟨some 21, .mv (.t 0), [], none⟩, ⟨some 22, .mv (.t 1), [], none⟩, ⟨some 23, .bin .add (.t 22) (.c (.int .i64 1)), [], none⟩, ⟨some 24, .call (.c (.fn 84 [])) [(.t 21), (.t 23)], [], none⟩, ⟨some 25, .bslice 20 1 [(.t 24)], [], none⟩, ⟨some 26, .app 20 1 16 (.t 20) (.t 25), [], none⟩, ⟨some 6, .mv (.t 26), [], none⟩]))) (.row [⟨some 27, .bin .add (.t 12) (.c (.int .i64 1)), [], none⟩, ⟨some 12, .mv (.t 27), [], none⟩]))))
def dc103 : DC := (.seq (.row [⟨some 4, .mv (.c .nilIface), [], none⟩]) (.seq (.row [⟨some 7, .mv (.t 0), [], none⟩, ⟨some 8, .mv (.t 1), [], none⟩, ⟨some 9, .call (.c (.fn 126 [])) [(.t 7), (.t 8)], [], none⟩, ⟨some 5, .mv (.t 9), [], none⟩]) (.seq (.row [⟨some 10, .bslice 20 1 [], [], none⟩, ⟨some 6, .mv (.t 10), [], none⟩]) (.seq (.seq (.row [⟨some 11, .mv (.t 5), [], none⟩, ⟨some 12, .mv (.c (.int .i64 0)), [], none⟩]) (.block 0 (.loop dc103l0))) (.seq (.row [⟨some 28, .mv (.t 6), [], none⟩, ⟨some 29, .mkif 99 (.t 28), [], none⟩, ⟨some 4, .mv (.t 29), [], none⟩]) .ret)))))
def dc104l0 : DC := (.seq (.row [⟨some 15, .bin .lss (.t 14) (.t 13), [], none⟩]) (.seq (.cond (.t 15) .skip (.exit 0)) (.seq (.block 1 (.seq (.row [⟨some 16, .mv (.t 14), [], none⟩, ⟨some 7, .mv (.t 16), [], none⟩]) (.seq (.seq (.row [⟨some 17, .mv (.t 0), [], none⟩, ⟨some 18, .nilchk (.t 17), [], none⟩, ⟨some 19, .faddr 0 (.t 18), [], none⟩, ⟨some 20, .faddr 2 (.t 19), [], none⟩, ⟨some 21, .load none (.t 20), [], none⟩, ⟨some 22, .bin .neq (.t 21) (.c (.int .i64 0)), [], none⟩]) (.cond (.t 22) (.seq (.row [⟨some 4, .mv (.c .nilIface), [], none⟩]) .ret) .skip)) (.seq (.row [⟨some 23, .mv (.t 0), [], none⟩, ⟨some 24, .call (.c (.fn 102 [])) [(.t 23)], [], none⟩, ⟨some 25, .build [(.str []), .nilIface] [(0, 1, (.t 24))], [], none⟩, ⟨some 8, .alloc [(.str []), .nilIface], [], none⟩, ⟨none, .store 2 (.t 8) (.t 25), [], none⟩]) (.seq (.seq (.drawn [⟨some 26, .mv (.t 7), [], none⟩, ⟨some 27, .bin .gtr (.t 26) (.c (.int .i64 0)), [], none⟩, ⟨some 28, .mv (.t 27), [], none⟩, ⟨some 29, .mv (.t 6), [], some (2, true)⟩, ⟨some 30, .mv (.t 7), [], some (2, true)⟩, ⟨some 31, .bin .sub (.t 30) (.c (.int .i64 1)), [], some (2, true)⟩, ⟨some 32, .iaddr 2 (.t 29) (.t 31), [], some (2, true)⟩, ⟨some 33, .faddr 0 (.t 32), [], some (2, true)⟩, ⟨some 34, .load none (.t 33), [], some (2, true)⟩, ⟨some 35, .faddr 0 (.t 8), [], some (2, true)⟩, ⟨some 36, .load none (.t 35), [], some (2, true)⟩, ⟨some 37, .bin .geq (.t 34) (.t 36), [], some (2, true)⟩, ⟨some 38, .pick (.t 28) (.t 37) (.c (.bool false)), [], none⟩] []) (.cond (.t 38) (.row [⟨some 39, .mv (.t 0), [], none⟩, ⟨some 40, .call (.c (.fn 105 [])) [(.t 39), (.c (.int .i64 4))], [], none⟩]) .skip)) (.seq (.seq (.row [⟨some 41, .mv (.t 0), [], none⟩, ⟨some 42, .nilchk (.t 41), [], none⟩, ⟨some 43, .faddr 0 (.t 42), [], none⟩, ⟨some 44, .faddr 2 (.t 43), [], none⟩, ⟨some 45, .load none (.t 44), [], none⟩, ⟨some 46, .bin .neq (.t 45) (.c (.int .i64 0)), [], none⟩]) (.cond (.t 46) (.seq (.row [⟨some 4, .mv (.c .nilIface), [], none⟩]) .ret) .skip)) (.seq (.row [⟨some 47, .mv (.t 0), [], none⟩, ⟨some 48, .mv (.t 1), [], none⟩, ⟨some 49, .bin .add (.t 48) (.c (.int .i64 1)), [], none⟩, ⟨some 50, .call (.c (.fn 84 [])) [(.t 47), (.t 49)], [], none⟩, ⟨some 51, .faddr 1 (.t 8), [], none⟩, ⟨none, .store 1 (.t 51) (.t 50), [], none⟩]) (.row [⟨some 52, .mv (.t 6), [], none⟩, ⟨some 53, .load (some 2) (.t 8), [], none⟩, ⟨some 54, .bslice 82 2 [(.t 53)], [], none⟩, ⟨some 55, .app 82 2 32 (.t 52) (.t 54), [], none⟩, ⟨some 6, .mv (.t 55), [], none⟩])))))))) (.row [⟨some 56, .bin .add (.t 14) (.c (.int .i64 1)), [], none⟩, ⟨some 14, .mv (.t 56), [], none⟩]))))
def dc104 : DC := (.seq (.row [⟨some 4, .mv (.c .nilIface), [], none⟩]) (.seq (.row [⟨some 9, .mv (.t 0), [], none⟩, ⟨some 10, .mv (.t 1), [], none⟩, ⟨some 11, .call (.c (.fn 126 [])) [(.t 9), (.t 10)], [], none⟩, ⟨some 5, .mv (.t 11), [], none⟩]) (.seq (.row [⟨some 12, .bslice 82 2 [], [], none⟩, ⟨some 6, .mv (.t 12), [], none⟩]) (.seq (.seq (.row [⟨some 13, .mv (.t 5), [], none⟩, ⟨some 14, .mv (.c (.int .i64 0)), [], none⟩]) (.block 0 (.loop dc104l0))) (.seq (.row [⟨some 57, .mv (.t 6), [], none⟩, ⟨some 58, .mkif 85 (.t 57), [], none⟩, ⟨some 4, .mv (.t 58), [], none⟩]) .ret)))))
def dc105 : DC := (.seq (.row [⟨some 4, .mv (.t 0), [], none⟩, ⟨some 5, .nilchk (.t 4), [], none⟩, ⟨some 6, .faddr 0 (.t 5), [], none⟩, ⟨some 7, .faddr 2 (.t 6), [], none⟩, ⟨some 8, .load none (.t 7), [], none⟩, ⟨some 9, .bin .eql (.t 8) (.c (.int .i64 0)), [], none⟩]) (.cond (.t 9) (.row [⟨some 10, .mv (.t 0), [], none⟩, ⟨some 11, .mv (.t 1), [], none⟩, ⟨some 12, .nilchk (.t 10), [], none⟩, ⟨some 13, .faddr 0 (.t 12), [], none⟩, ⟨some 14, .faddr 2 (.t 13), [], none⟩, ⟨none, .store 1 (.t 14) (.t 11), [], none⟩]) .skip))
def dc106 : DC := (.seq (.row [⟨some 1, .box (.t 0), [], none⟩, ⟨some 2, .mv (.c (.bool false)), [], none⟩]) (.seq (.row [⟨some 3, .faddr 1 (.t 1), [], none⟩, ⟨some 4, .load none (.t 3), [], none⟩, ⟨some 5, .bin .geq (.t 4) (.c (.int .i64 0)), [], none⟩, ⟨some 6, .mv (.t 5), [], none⟩, ⟨some 7, .faddr 1 (.t 1), [], some (3, true)⟩, ⟨some 8, .load none (.t 7), [], some (3, true)⟩, ⟨some 9, .faddr 0 (.t 1), [], some (3, true)⟩, ⟨some 10, .load none (.t 9), [], some (3, true)⟩, ⟨some 11, .len true (.t 10), [], some (3, true)⟩, ⟨some 12, .bin .leq (.t 8) (.t 11), [], some (3, true)⟩, ⟨some 13, .pick (.t 6) (.t 12) (.c (.bool false)), [], none⟩, ⟨some 2, .mv (.t 13), [], none⟩]) .ret))
def dc107 : DC := (.seq (.row [⟨some 1, .box (.t 0), [], none⟩, ⟨some 2, .mv (.c (.int .i64 0)), [], none⟩]) (.seq (.row [⟨some 3, .faddr 0 (.t 1), [], none⟩, ⟨some 4, .load none (.t 3), [], none⟩, ⟨some 5, .len true (.t 4), [], none⟩, ⟨some 6, .faddr 1 (.t 1), [], none⟩, ⟨some 7, .load none (.t 6), [], none⟩, ⟨some 8, .bin .sub (.t 5) (.t 7), [], none⟩, ⟨some 2, .mv (.t 8), [], none⟩]) .ret))
def dc118l0 : DC := (.seq (.row [⟨some 19, .bin .lss (.t 18) (.t 17), [], none⟩]) (.seq (.cond (.t 19) .skip (.exit 0)) (.seq (.block 1 (.seq (.row [⟨some 20, .iaddr 1 (.t 16) (.t 18), [], none⟩, ⟨some 21, .load none (.t 20), [], none⟩, ⟨some 7, .mv (.t 21), [], none⟩]) (.seq (.row [⟨some 22, .mv (.t 7), [], none⟩, ⟨some 23, .mv (.t 1), [], none⟩, ⟨some 24, .bin .add (.t 23) (.c (.int .i64 1)), [], none⟩, ⟨some 25, .call (.c (.fn 98 [])) [(.t 22), (.t 24)], [], none⟩, ⟨some 8, .mv (.t 25), [], none⟩]) (.seq (.row [⟨some 26, .mv (.t 8), [], none⟩, ⟨some 27, .bin .neq (.t 26) (.c (.int .i64 0)), [], none⟩]) (.cond (.t 27) (.seq (.row [⟨some 28, .mv (.t 8), [], none⟩, ⟨some 4, .mv (.t 28), [], none⟩]) .ret) .skip))))) (.row [⟨some 29, .bin .add (.t 18) (.c (.int .i64 1)), [], none⟩, ⟨some 18, .mv (.t 29), [], none⟩]))))
def dc118 : DC := (.seq (.row [⟨some 4, .mv (.c (.int .i64 0)), [], none⟩]) (.seq (.seq (.row [⟨some 9, .mv (.t 1), [], none⟩, ⟨some 10, .mv (.t 0), [], none⟩, ⟨some 11, .len false (.t 10), [], none⟩, ⟨some 12, .call (.c (.fn 134 [])) [(.t 9), (.t 11)], [], none⟩, ⟨some 5, .mv (.t 12), [], none⟩]) (.seq (.row [⟨some 13, .mv (.t 5), [], none⟩, ⟨some 14, .bin .neq (.t 13) (.c (.int .i64 0)), [], none⟩]) (.cond (.t 14) (.seq (.row [⟨some 15, .mv (.t 5), [], none⟩, ⟨some 4, .mv (.t 15), [], none⟩]) .ret) .skip))) (.seq (.seq (.row [⟨some 16, .mv (.t 0), [], none⟩, ⟨some 17, .len false (.t 16), [], none⟩, ⟨some 18, .mv (.c (.int .i64 0)), [], none⟩]) (.block 0 (.loop dc118l0))) (.seq (.row [⟨some 4, .mv (.c (.int .i64 0)), [], none⟩]) .ret))))
def dc119l0 : DC := (.seq (.row [⟨some 19, .bin .lss (.t 18) (.t 17), [], none⟩]) (.seq (.cond (.t 19) .skip (.exit 0)) (.seq (.block 1 (.seq (.row [⟨some 20, .mv (.t 18), [], none⟩, ⟨some 21, .iaddr 2 (.t 16) (.t 18), [], none⟩, ⟨some 22, .load (some 2) (.t 21), [], none⟩, ⟨some 7, .alloc [(.str []), .nilIface], [], none⟩, ⟨some 6, .mv (.t 20), [], none⟩, ⟨none, .store 2 (.t 7) (.t 22), [], none⟩]) (.seq (.seq (.row [⟨some 23, .faddr 0 (.t 7), [], none⟩, ⟨some 24, .load none (.t 23), [], none⟩, ⟨some 25, .len true (.t 24), [], none⟩, ⟨some 26, .bin .gtr (.t 25) (.c (.int .i64 65535)), [], none⟩]) (.cond (.t 26) (.seq (.row [⟨some 4, .mv (.c (.int .i64 5)), [], none⟩]) .ret) .skip)) (.seq (.seq (.drawn [⟨some 27, .mv (.t 6), [], none⟩, ⟨some 28, .bin .gtr (.t 27) (.c (.int .i64 0)), [], none⟩, ⟨some 29, .mv (.t 28), [], none⟩, ⟨some 30, .mv (.t 0), [], some (2, true)⟩, ⟨some 31, .mv (.t 6), [], some (2, true)⟩, ⟨some 32, .bin .sub (.t 31) (.c (.int .i64 1)), [], some (2, true)⟩, ⟨some 33, .iaddr 2 (.t 30) (.t 32), [], some (2, true)⟩, ⟨some 34, .faddr 0 (.t 33), [], some (2, true)⟩, ⟨some 35, .load none (.t 34), [], some (2, true)⟩, ⟨some 36, .faddr 0 (.t 7), [], some (2, true)⟩, ⟨some 37, .load none (.t 36), [], some (2, true)⟩, ⟨some 38, .bin .geq (.t 35) (.t 37), [], some (2, true)⟩, ⟨some 39, .pick (.t 29) (.t 38) (.c (.bool false)), [], none⟩] []) (.cond (.t 39) (.seq (.row [⟨some 4, .mv (.c (.int .i64 4)), [], none⟩]) .ret) .skip)) (.seq (.row [⟨some 40, .faddr 1 (.t 7), [], none⟩, ⟨some 41, .load none (.t 40), [], none⟩, ⟨some 42, .mv (.t 1), [], none⟩, ⟨some 43, .bin .add (.t 42) (.c (.int .i64 1)), [], none⟩, ⟨some 44, .call (.c (.fn 98 [])) [(.t 41), (.t 43)], [], none⟩, ⟨some 8, .mv (.t 44), [], none⟩]) (.seq (.row [⟨some 45, .mv (.t 8), [], none⟩, ⟨some 46, .bin .neq (.t 45) (.c (.int .i64 0)), [], none⟩]) (.cond (.t 46) (.seq (.row [⟨some 47, .mv (.t 8), [], none⟩, ⟨some 4, .mv (.t 47), [], none⟩]) .ret) .skip))))))) (.row [⟨some 48, .bin .add (.t 18) (.c (.int .i64 1)), [], none⟩, ⟨some 18, .mv (.t 48), [], none⟩]))))
def dc119 : DC := (.seq (.row [⟨some 4, .mv (.c (.int .i64 0)), [], none⟩]) (.seq (.seq (.row [⟨some 9, .mv (.t 1), [], none⟩, ⟨some 10, .mv (.t 0), [], none⟩, ⟨some 11, .len false (.t 10), [], none⟩, ⟨some 12, .call (.c (.fn 134 [])) [(.t 9), (.t 11)], [], none⟩, ⟨some 5, .mv (.t 12), [], none⟩]) (.seq (.row [⟨some 13, .mv (.t 5), [], none⟩, ⟨some 14, .bin .neq (.t 13) (.c (.int .i64 0)), [], none⟩]) (.cond (.t 14) (.seq (.row [⟨some 15, .mv (.t 5), [], none⟩, ⟨some 4, .mv (.t 15), [], none⟩]) .ret) .skip))) (.seq (.seq (.row [⟨some 16, .mv (.t 0), [], none⟩, ⟨some 17, .len false (.t 16), [], none⟩, ⟨some 18, .mv (.c (.int .i64 0)), [], none⟩]) (.block 0 (.loop dc119l0))) (.seq (.row [⟨some 4, .mv (.c (.int .i64 0)), [], none⟩]) .ret))))
def dc120 : DC := (.seq (.row [⟨some 2, .mv (.c (.bool false)), [], none⟩]) (.seq (.row [⟨some 3, .mv (.t 0), [], none⟩, ⟨some 4, .bin .geq (.t 3) (.c (.int .i64 1)), [], none⟩, ⟨some 5, .mv (.t 4), [], none⟩, ⟨some 6, .mv (.t 0), [], some (2, true)⟩, ⟨some 7, .bin .leq (.t 6) (.c (.int .i64 8)), [], some (2, true)⟩, ⟨some 8, .pick (.t 5) (.t 7) (.c (.bool false)), [], none⟩, ⟨some 2, .mv (.t 8), [], none⟩]) .ret))
def dc121 : DC := (.seq (.row [⟨some 4, .mv (.c (.slice true [] [])), [], none⟩]) (.seq (.row [⟨some 6, .mv (.t 0), [], none⟩, ⟨some 7, .len false (.t 6), [], none⟩, ⟨some 8, .mv (.t 0), [], none⟩, ⟨some 9, .len false (.t 8), [], none⟩, ⟨some 10, .mv (.t 1), [], none⟩, ⟨some 11, .bin .add (.t 9) (.t 10), [], none⟩, ⟨some 12, .mksl 5 1 1 (.int .u8 0) (.t 7) (.t 11), [], none⟩, ⟨some 5, .mv (.t 12), [], none⟩]) (.seq (.row [⟨some 13, .mv (.t 5), [], none⟩, ⟨some 14, .mv (.t 0), [], none⟩, ⟨some 15, .stop, [], none⟩]) (.seq (.row [⟨some 16, .mv (.t 5), [], none⟩, ⟨some 4, .mv (.t 16), [], none⟩]) .ret))))
def dc122l0 : DC := (.seq (.seq (.row [⟨some 11, .mv (.t 7), [], none⟩, ⟨some 12, .bin .geq (.t 11) (.c (.int .i64 0)), [], none⟩]) (.cond (.t 12) .skip (.exit 0))) (.seq (.block 1 (.row [⟨some 15, .mv (.t 0), [], none⟩, ⟨some 16, .mv (.t 2), [], none⟩, ⟨some 17, .mv (.t 7), [], none⟩, ⟨some 18, .bin .shr (.t 16) (.t 17), [], none⟩, ⟨some 19, .conv .u8 (.t 18), [], none⟩, ⟨some 20, .bslice 5 1 [(.t 19)], [], none⟩, ⟨some 21, .app 5 1 1 (.t 15) (.t 20), [], none⟩, ⟨some 0, .mv (.t 21), [], none⟩])) (.row [⟨some 13, .mv (.t 7), [], none⟩, ⟨some 14, .bin .sub (.t 13) (.c (.int .i64 8)), [], none⟩, ⟨some 7, .mv (.t 14), [], none⟩])))
def dc122 : DC := (.seq (.row [⟨some 6, .mv (.c (.slice true [] [])), [], none⟩]) (.seq (.seq (.row [⟨some 8, .mv (.t 1), [], none⟩, ⟨some 9, .bin .sub (.t 8) (.c (.int .i64 1)), [], none⟩, ⟨some 10, .bin .mul (.c (.int .i64 8)) (.t 9), [], none⟩, ⟨some 7, .mv (.t 10), [], none⟩]) (.block 0 (.loop dc122l0))) (.seq (.row [⟨some 22, .mv (.t 0), [], none⟩, ⟨some 6, .mv (.t 22), [], none⟩]) .ret)))
def dc123 : DC := (.seq (.row [⟨some 4, .mv (.c (.slice true [] [])), [], none⟩, ⟨some 5, .mv (.c (.int .i64 0)), [], none⟩]) (.seq (.seq (.row [⟨some 7, .mv (.t 1), [], none⟩, ⟨some 8, .len true (.t 7), [], none⟩, ⟨some 9, .bin .gtr (.t 8) (.c (.int .i64 65535)), [], none⟩]) (.cond (.t 9) (.seq (.row [⟨some 4, .mv (.c (.slice true [] [])), [], none⟩, ⟨some 5, .mv (.c (.int .i64 5)), [], none⟩]) .ret) .skip)) (.seq (.row [⟨some 10, .mv (.t 0), [], none⟩, ⟨some 11, .mv (.t 1), [], none⟩, ⟨some 12, .len true (.t 11), [], none⟩, ⟨some 13, .bin .add (.c (.int .i64 2)) (.t 12), [], none⟩, ⟨some 14, .call (.c (.fn 121 [])) [(.t 10), (.t 13)], [], none⟩, ⟨some 15, .mv (.t 1), [], none⟩, ⟨some 16, .len true (.t 15), [], none⟩, ⟨some 17, .conv .u64 (.t 16), [], none⟩, ⟨some 18, .call (.c (.fn 122 [])) [(.t 14), (.c (.int .i64 2)), (.t 17)], [], none⟩, ⟨some 6, .mv (.t 18), [], none⟩]) (.seq (.row [⟨some 19, .mv (.t 6), [], none⟩, ⟨some 20, .mv (.t 1), [], none⟩, ⟨some 21, .app 5 1 1 (.t 19) (.t 20), [], none⟩, ⟨some 4, .mv (.t 21), [], none⟩, ⟨some 5, .mv (.c (.int .i64 0)), [], none⟩]) .ret))))
def dc124l0 : DC := (.seq (.row [⟨some 44, .bin .lss (.t 43) (.t 42), [], none⟩]) (.seq (.cond (.t 44) .skip (.exit 1)) (.seq (.block 2 (.seq (.row [⟨some 45, .iaddr 1 (.t 41) (.t 43), [], none⟩, ⟨some 46, .load none (.t 45), [], none⟩, ⟨some 8, .mv (.t 46), [], none⟩]) (.row [⟨some 47, .mv (.t 6), [], none⟩, ⟨some 48, .bin .shl (.t 47) (.c (.int .u64 8)), [], none⟩, ⟨some 49, .mv (.t 8), [], none⟩, ⟨some 50, .conv .u64 (.t 49), [], none⟩, ⟨some 51, .bin .or (.t 48) (.t 50), [], none⟩, ⟨some 6, .mv (.t 51), [], none⟩]))) (.row [⟨some 52, .bin .add (.t 43) (.c (.int .i64 1)), [], none⟩, ⟨some 43, .mv (.t 52), [], none⟩]))))
def dc124 : DC := (.seq (.row [⟨some 2, .box (.t 0), [], none⟩, ⟨some 4, .mv (.c (.int .u64 0)), [], none⟩, ⟨some 5, .alloc [(.str []), (.int .i64 0), (.int .i64 0)], [], none⟩]) (.seq (.block 0 (.seq (.row [⟨some 10, .faddr 2 (.t 2), [], none⟩, ⟨some 11, .load none (.t 10), [], none⟩, ⟨some 12, .bin .neq (.t 11) (.c (.int .i64 0)), [], none⟩, ⟨some 9, .mv (.t 12), [], none⟩]) (.cond (.t 9) (.seq (.drawn [⟨some 13, .load (some 3) (.t 2), [], none⟩, ⟨some 4, .mv (.c (.int .u64 0)), [], none⟩, ⟨none, .store 3 (.t 5) (.t 13), [], none⟩] []) .ret) (.seq (.row [⟨some 15, .load (some 3) (.t 2), [], none⟩, ⟨some 16, .call (.c (.fn 106 [])) [(.t 15)], [], none⟩, ⟨some 17, .un .not (.t 16), [], none⟩, ⟨some 18, .mv (.t 17), [], none⟩, ⟨some 19, .mv (.t 1), [], some (3, false)⟩, ⟨some 20, .call (.c (.fn 120 [])) [(.t 19)], [], some (3, false)⟩, ⟨some 21, .un .not (.t 20), [], some (3, false)⟩, ⟨some 22, .pick (.t 18) (.c (.bool true)) (.t 21), [], none⟩, ⟨some 14, .mv (.t 22), [], none⟩]) (.cond (.t 14) (.seq (.row [⟨some 23, .load (some 3) (.t 2), [], none⟩, ⟨some 24, .call (.c (.fn 135 [])) [(.t 23), (.c (.int .i64 2))], [], none⟩, ⟨some 4, .mv (.c (.int .u64 0)), [], none⟩, ⟨none, .store 3 (.t 5) (.t 24), [], none⟩]) .ret) (.seq (.row [⟨some 26, .load (some 3) (.t 2), [], none⟩, ⟨some 27, .call (.c (.fn 107 [])) [(.t 26)], [], none⟩, ⟨some 28, .mv (.t 1), [], none⟩, ⟨some 29, .bin .lss (.t 27) (.t 28), [], none⟩, ⟨some 25, .mv (.t 29), [], none⟩]) (.cond (.t 25) (.seq (.row [⟨some 30, .load (some 3) (.t 2), [], none⟩, ⟨some 31, .call (.c (.fn 135 [])) [(.t 30), (.c (.int .i64 3))], [], none⟩, ⟨some 4, .mv (.c (.int .u64 0)), [], none⟩, ⟨none, .store 3 (.t 5) (.t 31), [], none⟩]) .ret) .skip))))))) (.seq (.row [⟨some 6, .mv (.c (.int .u64 0)), [], none⟩]) (.seq (.seq (.row [⟨some 32, .faddr 0 (.t 2), [], none⟩, ⟨some 33, .load none (.t 32), [], none⟩, ⟨some 34, .faddr 1 (.t 2), [], none⟩, ⟨some 35, .load none (.t 34), [], none⟩, ⟨some 36, .faddr 1 (.t 2), [], none⟩, ⟨some 37, .load none (.t 36), [], none⟩, ⟨some 38, .mv (.t 1), [], none⟩, ⟨some 39, .bin .add (.t 37) (.t 38), [], none⟩, ⟨some 40, .cuts (.t 33) (some (.t 35)) (some (.t 39)), [], none⟩, ⟨some 41, .s2b (.t 40), [], none⟩, ⟨some 42, .len false (.t 41), [], none⟩, ⟨some 43, .mv (.c (.int .i64 0)), [], none⟩]) (.block 1 (.loop dc124l0))) (.seq (.row [⟨some 53, .faddr 1 (.t 2), [], none⟩, ⟨some 54, .load none (.t 53), [], none⟩, ⟨some 55, .mv (.t 1), [], none⟩, ⟨some 56, .bin .add (.t 54) (.t 55), [], none⟩, ⟨some 57, .faddr 1 (.t 2), [], none⟩, ⟨none, .store 1 (.t 57) (.t 56), [], none⟩]) (.seq (.drawn [⟨some 58, .mv (.t 6), [], none⟩, ⟨some 59, .load (some 3) (.t 2), [], none⟩, ⟨some 4, .mv (.t 58), [], none⟩, ⟨none, .store 3 (.t 5) (.t 59), [], none⟩] []) .ret))))))
def dc125 : DC := (.seq (.row [⟨some 1, .box (.t 0), [], none⟩, ⟨some 2, .mv (.c (.str [])), [], none⟩, ⟨some 3, .alloc [(.str []), (.int .i64 0), (.int .i64 0)], [], none⟩]) (.seq (.row [⟨some 8, .load (some 3) (.t 1), [], none⟩, ⟨some 9, .call (.c (.fn 124 [])) [(.t 8), (.c (.int .i64 2))], [], none⟩, ⟨some 7, .mv (.t 9), [], none⟩, ⟨some 10, .ext 0 (.t 7), [], none⟩, ⟨some 11, .ext 1 (.t 7), [], none⟩, ⟨some 5, .alloc [(.str []), (.int .i64 0), (.int .i64 0)], [], none⟩, ⟨some 4, .mv (.t 10), [], none⟩, ⟨none, .store 3 (.t 5) (.t 11), [], none⟩]) (.seq (.seq (.row [⟨some 12, .faddr 2 (.t 5), [], none⟩, ⟨some 13, .load none (.t 12), [], none⟩, ⟨some 14, .bin .neq (.t 13) (.c (.int .i64 0)), [], none⟩]) (.cond (.t 14) (.seq (.drawn [⟨some 15, .load (some 3) (.t 5), [], none⟩, ⟨some 2, .mv (.c (.str [])), [], none⟩, ⟨none, .store 3 (.t 3) (.t 15), [], none⟩] []) .ret) .skip)) (.seq (.seq (.row [⟨some 16, .load (some 3) (.t 5), [], none⟩, ⟨some 17, .call (.c (.fn 107 [])) [(.t 16)], [], none⟩, ⟨some 18, .mv (.t 4), [], none⟩, ⟨some 19, .conv .i64 (.t 18), [], none⟩, ⟨some 20, .bin .lss (.t 17) (.t 19), [], none⟩]) (.cond (.t 20) (.seq (.row [⟨some 21, .load (some 3) (.t 1), [], none⟩, ⟨some 22, .call (.c (.fn 135 [])) [(.t 21), (.c (.int .i64 3))], [], none⟩, ⟨some 2, .mv (.c (.str [])), [], none⟩, ⟨none, .store 3 (.t 3) (.t 22), [], none⟩]) .ret) .skip)) (.seq (.row [⟨some 23, .faddr 1 (.t 5), [], none⟩, ⟨some 24, .load none (.t 23), [], none⟩, ⟨some 6, .mv (.t 24), [], none⟩]) (.seq (.row [⟨some 25, .faddr 1 (.t 5), [], none⟩, ⟨some 26, .load none (.t 25), [], none⟩, ⟨some 27, .mv (.t 4), [], none⟩, ⟨some 28, .conv .i64 (.t 27), [], none⟩, ⟨some 29, .bin .add (.t 26) (.t 28), [], none⟩, ⟨some 30, .faddr 1 (.t 5), [], none⟩, ⟨none, .store 1 (.t 30) (.t 29), [], none⟩]) (.seq (.drawn [⟨some 31, .faddr 0 (.t 1), [], none⟩, ⟨some 32, .load none (.t 31), [], none⟩, ⟨some 33, .mv (.t 6), [], none⟩, ⟨some 34, .faddr 1 (.t 5), [], none⟩, ⟨some 35, .load none (.t 34), [], none⟩, ⟨some 36, .cuts (.t 32) (some (.t 33)) (some (.t 35)), [], none⟩, ⟨some 37, .load (some 3) (.t 5), [], none⟩, ⟨some 2, .mv (.t 36), [], none⟩, ⟨none, .store 3 (.t 3) (.t 37), [], none⟩] []) .ret)))))))
def dc126 : DC := (.seq (.row [⟨some 4, .mv (.c (.int .i64 0)), [], none⟩]) (.seq (.seq (.row [⟨some 7, .mv (.t 1), [], none⟩, ⟨some 8, .bin .geq (.t 7) (.c (.int .i64 4)), [], none⟩]) (.cond (.t 8) (.row [⟨some 9, .mv (.t 0), [], none⟩, ⟨some 10, .call (.c (.fn 105 [])) [(.t 9), (.c (.int .i64 24))], [], none⟩]) .skip)) (.seq (.row [⟨some 11, .mv (.t 0), [], none⟩, ⟨some 12, .call (.c (.fn 101 [])) [(.t 11), (.c (.int .i64 1))], [], none⟩, ⟨some 13, .conv .i64 (.t 12), [], none⟩, ⟨some 5, .mv (.t 13), [], none⟩]) (.seq (.seq (.row [⟨some 14, .mv (.t 1), [], none⟩, ⟨some 15, .mv (.t 5), [], none⟩, ⟨some 16, .call (.c (.fn 134 [])) [(.t 14), (.t 15)], [], none⟩, ⟨some 6, .mv (.t 16), [], none⟩]) (.seq (.row [⟨some 17, .mv (.t 0), [], none⟩, ⟨some 18, .nilchk (.t 17), [], none⟩, ⟨some 19, .faddr 0 (.t 18), [], none⟩, ⟨some 20, .faddr 2 (.t 19), [], none⟩, ⟨some 21, .load none (.t 20), [], none⟩, ⟨some 22, .bin .eql (.t 21) (.c (.int .i64 0)), [], none⟩, ⟨some 23, .mv (.t 22), [], none⟩, ⟨some 24, .mv (.t 6), [], some (6, true)⟩, ⟨some 25, .bin .neq (.t 24) (.c (.int .i64 0)), [], some (6, true)⟩, ⟨some 26, .pick (.t 23) (.t 25) (.c (.bool false)), [], none⟩]) (.cond (.t 26) (.row [⟨some 27, .mv (.t 0), [], none⟩, ⟨some 28, .mv (.t 6), [], none⟩, ⟨some 29, .call (.c (.fn 105 [])) [(.t 27), (.t 28)], [], none⟩]) .skip))) (.seq (.row [⟨some 30, .mv (.t 5), [], none⟩, ⟨some 4, .mv (.t 30), [], none⟩]) .ret)))))
def dc134 : DC := (.seq (.row [⟨some 4, .mv (.c (.int .i64 0)), [], none⟩]) (.seq (.seq (.row [⟨some 5, .mv (.t 0), [], none⟩, ⟨some 6, .bin .geq (.t 5) (.c (.int .i64 4)), [], none⟩]) (.cond (.t 6) (.seq (.row [⟨some 4, .mv (.c (.int .i64 24)), [], none⟩]) .ret) .skip)) (.seq (.seq (.row [⟨some 7, .mv (.t 1), [], none⟩, ⟨some 8, .bin .gtr (.t 7) (.c (.int .i64 64)), [], none⟩]) (.cond (.t 8) (.seq (.row [⟨some 4, .mv (.c (.int .i64 5)), [], none⟩]) .ret) .skip)) (.seq (.row [⟨some 4, .mv (.c (.int .i64 0)), [], none⟩]) .ret))))
def dc135 : DC := (.seq (.row [⟨some 2, .box (.t 0), [], none⟩, ⟨some 4, .alloc [(.str []), (.int .i64 0), (.int .i64 0)], [], none⟩]) (.seq (.row [⟨some 5, .mv (.t 1), [], none⟩, ⟨some 6, .faddr 2 (.t 2), [], none⟩, ⟨none, .store 1 (.t 6) (.t 5), [], none⟩]) (.seq (.row [⟨some 7, .load (some 3) (.t 2), [], none⟩, ⟨none, .store 3 (.t 4) (.t 7), [], none⟩]) .ret)))
structure DeskB (P : Program) : Prop where
 f4 : Fn P 4 64 dc4 [.t 4]
 f6 : Fn P 6 145 dc6 [.t 6]
 f21 : Fn P 21 41 dc21 [.t 2, .t 3]
 f23 : Fn P 23 92 dc23 [.cell (some 5) 2, .t 3]
 f45 : Fn P 45 12 dc45 [.t 2, .t 3]
 f46 : Fn P 46 21 dc46 [.t 2]
 f47 : Fn P 47 42 dc47 [.t 2]
 f48 : Fn P 48 7 dc48 [.t 2]
 f53 : Fn P 53 22 dc53 [.t 2, .t 3]
 f54 : Fn P 54 63 dc54 [.t 6]
 f55 : Fn P 55 24 dc55 [.t 4]
 f56 : Fn P 56 24 dc56 [.t 4]
 f57 : Fn P 57 24 dc57 [.t 4]
 f58 : Fn P 58 24 dc58 [.t 4]
 f59 : Fn P 59 52 dc59 [.cell (some 7) 4]
 f79 : Fn P 79 5 dc79 [.t 2]
 f80 : Fn P 80 88 dc80 [.t 4]
 f84 : Fn P 84 45 dc84 [.t 4]
 f85 : Fn P 85 17 dc85 [.t 2]
 f86 : Fn P 86 13 dc86 [.t 2, .t 3]
 f87 : Fn P 87 13 dc87 [.t 2, .t 3]
 f98 : Fn P 98 37 dc98 [.t 4]
 f99 : Fn P 99 18 dc99 [.t 6]
 f100 : Fn P 100 14 dc100 [.t 4]
 f101 : Fn P 101 19 dc101 [.t 4]
 f102 : Fn P 102 16 dc102 [.t 2]
 f103 : Fn P 103 30 dc103 [.t 4]
 f104 : Fn P 104 59 dc104 [.t 4]
 f105 : Fn P 105 15 dc105 []
 f106 : Fn P 106 14 dc106 [.t 2]
 f107 : Fn P 107 9 dc107 [.t 2]
 f118 : Fn P 118 30 dc118 [.t 4]
 f119 : Fn P 119 49 dc119 [.t 4]
 f120 : Fn P 120 9 dc120 [.t 2]
 f121 : Fn P 121 17 dc121 [.t 4]
 f122 : Fn P 122 23 dc122 [.t 6]
 f123 : Fn P 123 22 dc123 [.t 4, .t 5]
 f124 : Fn P 124 60 dc124 [.t 4, .cell (some 3) 5]
 f125 : Fn P 125 38 dc125 [.t 2, .cell (some 3) 3]
 f126 : Fn P 126 31 dc126 [.t 4]
 f134 : Fn P 134 9 dc134 [.t 4]
 f135 : Fn P 135 8 dc135 [.cell (some 3) 4]
end Go.Vd

namespace Go.Vd
open Go.RowKit
set_option maxRecDepth 10000
def tassV (t : TypeId) (ok : Bool) (z : D) : D → Option D
 | .iface t' d => if t' = t then some (if ok then .tup [d, .bool true] else d) else if ok then some (.tup [z, .bool false]) else none
 | .nilIface => if ok then some (.tup [z, .bool false]) else none
 | _ => none
theorem x_tass {S : Summs} {s : Nat → D} {m : Mem} {fr : Id} {K : D → Upd → Prop} {t : TypeId} {ok : Bool} {z : D} {x : Arg} : execK S s m fr (.tass t ok z x) K = Got (tassV t ok z (x.ev s)) (fun d => K d []) .mk := by
 simp only [execK, exec]; unfold tassV
 cases x.ev s with
 | iface t' d => by_cases h : t' = t <;> cases ok <;> simp [h, Got_none, Got_some]
 | nilIface => cases ok <;> simp [Got_none, Got_some]
 | _ => simp only [Got_none]
structure Gd (e : Nat) (fr : Id) (m0 : Mem) (nl0 : Bool) (t0 : Id) (m : Mem) (c : Nat) (t : Id) : Prop where
 name : ∃ l j, t = l ++ j :: fr ∧ j < c
 tok : m t 0 = some (.tok (e + 1))
 out : ∀ i o, ¬ fr <:+ i → m i o = (if nl0 = true then m0 else m0.put t0 0 [.tok 0]) i o
def Gs (e : Nat) (fr : Id) (m0 : Mem) (nl0 : Bool) (t0 : Id) (m : Mem) (c : Nat) (nl : Bool) (t : Id) : Prop :=
 (nl = nl0 ∧ t = t0 ∧ ∀ i o, ¬ fr <:+ i → m i o = m0 i o) ∨ (nl = false ∧ Gd e fr m0 nl0 t0 m c t)
theorem suf_mk (l : List Nat) (j : Nat) (fr : Id) : fr <:+ l ++ j :: fr := ⟨l ++ [j], by simp⟩
theorem mk_ne {l l' : List Nat} {j k : Nat} {fr : Id} (h : j ≠ k) : l ++ j :: fr ≠ l' ++ k :: fr := by
 intro e
 have e' := congrArg List.reverse e
 simp only [List.reverse_append, List.reverse_cons, List.append_assoc, List.append_cancel_left_eq] at e'
 simp only [List.cons_append, List.nil_append, List.cons.injEq] at e'
 exact h e'.1
section
variable {e : Nat} {fr : Id} {m0 m : Mem} {nl0 nl : Bool} {t0 t : Id} {c c' k o : Nat} {l : List Nat} {xs ds : List D} {emp : Bool}
theorem Gs.start : Gs e fr m0 nl0 t0 m0 c nl0 t0 := .inl ⟨rfl, rfl, fun _ _ _ => rfl⟩
theorem Gd.gs (h : Gd e fr m0 nl0 t0 m c t) : Gs e fr m0 nl0 t0 m c false t := .inr ⟨rfl, h⟩
theorem Gd.more (h : Gd e fr m0 nl0 t0 m c t) (hc : c ≤ c') : Gd e fr m0 nl0 t0 m c' t := ⟨by obtain ⟨l, j, b, b'⟩ := h.name; exact ⟨l, j, b, by omega⟩, h.tok, h.out⟩
theorem Gs.more (h : Gs e fr m0 nl0 t0 m c nl t) (hc : c ≤ c') : Gs e fr m0 nl0 t0 m c' nl t := h.imp id (fun ⟨a, b⟩ => ⟨a, b.more hc⟩)
theorem old_out (hfr : ∀ i o, fr <:+ i → m0 i o = none) (h : m0 t0 0 = some (.tok (e + 1))) : ¬ fr <:+ t0 := fun hs => by rw [hfr _ _ hs] at h; cases h
theorem out_put (i : Id) (o' : Nat) (hi : ¬ fr <:+ i) : m.put (l ++ k :: fr) o ds i o' = m i o' := Mem.put_other (fun e => hi (e ▸ suf_mk l k fr))
theorem Gd.put (h : Gd e fr m0 nl0 t0 m c t) (hk : c ≤ k) : Gd e fr m0 nl0 t0 (m.put (l ++ k :: fr) o ds) c t := by
 refine ⟨h.name, ?_, fun i o' hi => (out_put i o' hi).trans (h.out i o' hi)⟩
 obtain ⟨l', j, b, b'⟩ := h.name
 rw [Mem.put_other]
 ·exact h.tok
 ·rw [b]; exact mk_ne (by omega)
theorem Gs.put (h : Gs e fr m0 nl0 t0 m c nl t) (hk : c ≤ k) : Gs e fr m0 nl0 t0 (m.put (l ++ k :: fr) o ds) c nl t := by
 rcases h with ⟨a, b, d⟩ | ⟨a, h⟩
 ·exact .inl ⟨a, b, fun i o' hi => (out_put i o' hi).trans (d i o' hi)⟩
 ·exact .inr ⟨a, h.put hk⟩
theorem Gs.grow (h : Gs e fr m0 nl0 t0 m c nl t) (hfr : ∀ i o, fr <:+ i → m0 i o = none) (h0 : growT m0 e nl0 t0 emp = true) : Grow m e (.slice nl t xs) := by
 rcases h with ⟨rfl, rfl, d⟩ | ⟨a, h⟩
 ·exact growT_grow' h0 (fun e1 e2 => d _ _ (old_out hfr e2))
 ·obtain ⟨l', j, b, b'⟩ := h.name
  exact .inr ⟨h.tok, by rw [b]; simp⟩
theorem Gs.nil (h : Gs e fr m0 nl0 t0 m c nl t) (h0 : growT m0 e nl0 t0 emp = true) : nl = true → emp = true := by
 rcases h with ⟨rfl, rfl, d⟩ | ⟨a, _⟩
 ·rintro rfl
  unfold growT at h0; rw [if_pos rfl] at h0; exact h0
 ·rw [a]; intro h; cases h
theorem Gs.app (h : Gs e fr m0 nl0 t0 m c nl t) (hk : c ≤ k) (hk' : k < c') : Gd e fr m0 nl0 t0 (Upd.app m (growU e (l ++ k :: fr) (.slice nl t xs))) c' (l ++ k :: fr) := by
 refine ⟨⟨l, k, rfl, hk'⟩, by rw [growU_rd, if_pos ⟨rfl, rfl⟩], fun i o hi => ?_⟩
 have hne : i ≠ l ++ k :: fr := fun e => hi (e ▸ suf_mk l k fr)
 rw [growU_rd, if_neg (fun x => hne x.1)]
 rcases h with ⟨rfl, rfl, d⟩ | ⟨rfl, h⟩
 ·cases nl with
  | true => rw [if_neg (fun x => by simp at x), d i o hi]; rfl
  | false => rw [d i o hi]; simp [put_tok]
 ·obtain ⟨l', j, b, b'⟩ := h.name
  have hni : i ≠ t := fun e => hi (by rw [e, b]; exact suf_mk l' j fr)
  rw [if_neg (fun x => hni x.2.1)]; exact h.out i o hi
theorem Gd.fin (h : Gd e fr m0 nl0 t0 m c t) (hfr : ∀ i o, fr <:+ i → m0 i o = none) (h0 : growT m0 e nl0 t0 emp = true) : ∀ i o x, Upd.app m0 (growU e t (.slice nl0 t0 xs)) i o = some x → m i o = some x := by
 intro i o x hx
 rw [growU_rd] at hx
 by_cases h1 : i = t ∧ o = 0
 ·rw [if_pos h1] at hx; rw [h1.1, h1.2, h.tok]; exact hx
 ·rw [if_neg h1] at hx
  by_cases h2 : nl0 = false ∧ i = t0 ∧ o = 0
  ·obtain ⟨rfl, rfl, rfl⟩ := h2
   rw [if_pos ⟨rfl, rfl, rfl⟩] at hx
   rw [h.out _ _ (old_out hfr (growT_tok h0 rfl)), if_neg (by simp), put_tok, if_pos ⟨rfl, rfl⟩]; exact hx
  ·rw [if_neg h2] at hx
   by_cases hi : fr <:+ i
   ·rw [hfr i o hi] at hx; cases hx
   ·rw [h.out i o hi]
    cases nl0 with
    | true => exact hx
    | false => simp only [Bool.false_eq_true, if_false, put_tok]; rw [if_neg (fun x => h2 ⟨rfl, x⟩)]; exact hx
end
theorem opn_ok2 {P : Program} {S : Summs} {f : FuncId} {N : Nat} {dc : DC} {rs : List RV} (hS : Summs.ok P S) (hf : Fn P f N dc rs) {q : Summ} (hloc : ∀ ds m m' fr, (∀ l ∈ q.rd ds m, m l.1 l.2 = m' l.1 l.2) → q.ex ds m fr = q.ex ds m' fr)
  (hq : ∀ ds m fr r u, q.ex ds m fr = some (r, u) → (∀ i o, fr <:+ i → m i o = none) → ds.length ≤ N ∧ dc.wp S fr (Ends rs fun d m' => d = r ∧ ∀ i o x, Upd.app m u i o = some x → m' i o = some x) ⟨entryS ds, m, 0⟩) : q.ok P f := by
 obtain ⟨fn, code, h1, h2, h3, h4, h5, h6⟩ := hf.is
 refine ⟨⟨fn, h1, by rw [h2]; rfl, h3⟩, hloc, ?_⟩
 intro B w0 w m g fr ds vs r u hi hfresh hl hrep hex
 have hfr : ∀ k i, (k :: fr) <:+ i → Fresh m g i := fun k i h => hfresh i ((List.suffix_cons k fr).trans h)
 obtain ⟨hN, hwp⟩ := hq ds m fr r u hex (fun i o h => (hfresh i h).1 o)
 have hcalls := calls_of (ns := fr) hS hf hN hi hfr hl hrep hwp
 refine hcalls.mono ?_
 rintro e w' ⟨v, d, m', g', rfl, hinv, hext, hkeep, hrd, rfl, hle⟩
 refine ⟨v, g', rfl, hinv.less hle, hext, hrd, fun i hf hn => ?_⟩
 obtain ⟨k1, k2, k3⟩ := hkeep i hf hn
 refine ⟨fun o => ?_, k2, k3⟩
 cases hx : Upd.app m u i o with
 | none => rfl
 | some x => exact absurd (k1 o) (by rw [hle i o x hx]; simp)
def gQ (e : Nat) (F : List D → Option (List D × List Nat)) : Summ where
 rd := fun ds _ => match ds with
  | .slice _ t _ :: _ => [(t, 0)]
  | _ => []
 ex := fun ds m fr => match ds with
  | .slice nl t xs :: rest => if growT m e nl t xs.isEmpty = true ∧ xs.length ≤ 100000000 then (F rest).map fun y => (.slice false (y.2 ++ fr) (xs ++ y.1), growU e (y.2 ++ fr) (.slice nl t xs)) else none
  | _ => none
theorem gQ_loc {e : Nat} {F : List D → Option (List D × List Nat)} (ds : List D) (m m' : Mem) (fr : Id) (h : ∀ l ∈ (gQ e F).rd ds m, m l.1 l.2 = m' l.1 l.2) : (gQ e F).ex ds m fr = (gQ e F).ex ds m' fr := by
 simp only [gQ] at h ⊢
 split
 ·rename_i nl t xs rest
  rw [growT_congr (h (t, 0) (by simp))]
 ·rfl
theorem gQ_inv {e : Nat} {F : List D → Option (List D × List Nat)} {ds : List D} {m : Mem} {fr : Id} {d : D} {u : Upd} (h : (gQ e F).ex ds m fr = some (d, u)) :
  ∃ nl t xs rest ys l, ds = .slice nl t xs :: rest ∧ growT m e nl t xs.isEmpty = true ∧ xs.length ≤ 100000000 ∧ F rest = some (ys, l) ∧ d = .slice false (l ++ fr) (xs ++ ys) ∧ u = growU e (l ++ fr) (.slice nl t xs) := by
 simp only [gQ] at h
 split at h
 ·rename_i nl t xs rest
  split at h
  ·rename_i hk
   rw [Option.map_eq_some_iff] at h
   obtain ⟨⟨ys, l⟩, hF, h⟩ := h
   simp only [Prod.mk.injEq] at h
   exact ⟨nl, t, xs, rest, ys, l, rfl, hk.1, hk.2, hF, h.1.symm, h.2.symm⟩
  ·cases h
 ·cases h
theorem got_g {e : Nat} {F : List D → Option (List D × List Nat)} {m : Mem} {fr : Id} {nl : Bool} {t : Id} {xs rest ys : List D} {l : List Nat} {K : D × Upd → Prop} {g} (h0 : Grow m e (.slice nl t xs)) (hn : nl = true → xs = []) (hl : xs.length ≤ 100000000) (hF : F rest = some (ys, l))
  (h : K (.slice false (l ++ fr) (xs ++ ys), growU e (l ++ fr) (.slice nl t xs))) : Got ((gQ e F).ex (.slice nl t xs :: rest) m fr) K g := by
 refine Got.intro ?_ h
 have hg : growT m e nl t xs.isEmpty = true := by
  unfold growT
  cases nl with
  | true => rw [if_pos rfl, hn rfl]; rfl
  | false =>
   rcases h0 with h0 | ⟨h1, h2⟩
   ·cases h0
   ·rw [if_neg (by simp), h1]
    cases t with
    | nil => exact absurd rfl h2
    | cons a b => simp
 simp only [gQ]
 rw [if_pos ⟨hg, hl⟩, hF]; rfl
end Go.Vd

namespace Go.Vd
open Go.RowKit
set_option maxRecDepth 10000
def beB : Nat → Int → Bs
 | 0, _ => []
 | k + 1, n => UInt8.ofNat ((n.fdiv (2 ^ (8 * k))) % 256).toNat :: beB k n
theorem beB_len : ∀ k n, (beB k n).length = k
 | 0, _ => rfl
 | k + 1, n => by simp [beB, beB_len k n]
def F122 : List D → Option (List D × List Nat)
 | [.int .i64 s, .int .u64 n] => if 1 ≤ s ∧ s ≤ 8 ∧ 0 ≤ n then some (bytesD (beB s.toNat n), [13 * s.toNat]) else none
 | _ => none
set_option maxHeartbeats 1000000 in
theorem loop122 {S : Summs} {fr : Id} {m0 : Mem} {nl0 : Bool} {t0 : Id} {emp : Bool} {n : Int} {sz : Nat} {Q : Ex → St → Prop} (hsz : sz ≤ 8) (hn0 : 0 ≤ n) (hfr : ∀ i o, fr <:+ i → m0 i o = none) (hg0 : growT m0 5 nl0 t0 emp = true) :
  ∀ (k : Nat) (st : St) (nl : Bool) (t : Id) (xs : List D) g, k ≤ sz → xs.length + k ≤ 200000000 → (nl = true → xs = []) → st.c = 5 + 13 * (sz - k) → Gs 5 fr m0 nl0 t0 st.m st.c nl t →
   st.s 7 = .int .i64 (8 * (k : Int) - 8) → st.s 0 = .slice nl t xs → st.s 2 = .int .u64 n →
   (∀ st' nl' t', st'.s 0 = .slice nl' t' (xs ++ bytesD (beB k n)) → (k = 0 → nl' = nl ∧ t' = t ∧ st'.m = st.m ∧ st.c ≤ st'.c) → (0 < k → nl' = false ∧ t' = [13 * sz] ++ fr ∧ Gd 5 fr m0 nl0 t0 st'.m st'.c t') → Q (.exit 0) st') → loopW S fr dc122l0 Q st g := by
 intro k
 induction k with
 | zero =>
  intro st nl t xs g _ _ _ _ hG h7 h0 h2 hexit
  refine wp_loopd dc122l0.eq_1 ?_
  have hn : ((0 : Int) ≤ 8 * ((0 : Nat) : Int) - 8) = False := eq_false (by decide)
  simp only [↓go1, go2, go3, go4, reduceIte, Nat.reduceEqDiff, Nat.reduceAdd, h7, h0, h2, hn]
  exact hexit _ nl t (by simp only [↓go1, reduceIte, Nat.reduceEqDiff, h0, beB, bytesD, List.map_nil, List.append_nil]) (fun _ => ⟨rfl, rfl, rfl, by simp only; omega⟩) (fun h => absurd h (by omega))
 | succ k ih =>
  intro st nl t xs g hk hlen hnil hc hG h7 h0 h2 hexit
  refine wp_loopd dc122l0.eq_1 ?_
  have hn : ((0 : Int) ≤ 8 * ((k + 1 : Nat) : Int) - 8) = True := eq_true (by omega)
  have hb : ((0 : Int) ≤ 8 * ((k + 1 : Nat) : Int) - 8) := by omega
  have hmin : min (8 * ((k + 1 : Nat) : Int) - 8).toNat IntKind.u64.bits = 8 * k := by
   have : IntKind.u64.bits = 64 := rfl
   omega
  have hw : IntKind.i64.wrap (8 * ((k + 1 : Nat) : Int) - 8 - 8) = 8 * (k : Int) - 8 := by rw [IntWalk.i64_in _ ⟨by omega, by omega⟩]; omega
  simp only [↓go1, gB4, reduceIte, Nat.reduceEqDiff, Nat.reduceAdd, Nat.reduceSub, Nat.reduceLT, Nat.le_refl, Nat.reduceLeDiff, h7, h0, h2, hn, hmin, u8_wrap, and_false, reduceCtorEq]
  refine Need.intro ⟨by omega, rfl, Gs.grow (hG.put (l := []) (k := st.c + 2 + 5) (by omega)) hfr hg0⟩ ?_
  rw [app_fold hnil]
  simp only [↓go1, go2, go3, go4, reduceIte, Nat.reduceEqDiff, Nat.reduceAdd, h7, h2, hw]
  have hd : Gd 5 fr m0 nl0 t0 (Upd.app (st.m.put ((st.c + 2 + 5) :: fr) 0 [D.tok 6]) (growU 5 ((st.c + 2 + 6) :: fr) (.slice nl t xs))) (st.c + 2 + 8 + 3) ((st.c + 2 + 6) :: fr) :=
   Gs.app (l := []) (hG.put (l := []) (k := st.c + 2 + 5) (by omega)) (by omega) (by omega)
  refine ih _ false ((st.c + 2 + 6) :: fr) (xs ++ [.int .u8 ((((n.fdiv (2 ^ (8 * k))) % 256).toNat : Nat) : Int)]) _ (by omega) (by simp; omega) (by simp) (by simp only; omega) hd.gs rfl rfl h2 (fun st' nl' t' e1 e2 e3 => ?_)
  refine hexit st' nl' t' ?_ (fun h => absurd h (by omega)) (fun _ => ?_)
  ·rw [e1, List.append_assoc]; simp only [beB, bytesD, List.map_cons]; rw [toNat_ofNat (by omega)]; rfl
  ·by_cases hk0 : k = 0
   ·obtain ⟨a, b, c, d⟩ := e2 hk0
    refine ⟨a, ?_, ?_⟩
    ·rw [b]; simp only [List.cons_append, List.nil_append, List.cons.injEq, and_true]; omega
    ·rw [b, c]; exact hd.more d
   ·exact e3 (by omega)
theorem ok122 {P : Program} (hb : DeskB P) : (gQ 5 F122).ok P 122 := by
 refine opn_ok2 (S := fun _ => none) none_ok hb.f122 gQ_loc (fun ds m fr d u h hfr => ?_)
 obtain ⟨nl, t, xs, rest, ys, l, rfl, hg, hx, hF, rfl, rfl⟩ := gQ_inv h
 unfold F122 at hF
 split at hF
 ·rename_i s n
  split at hF
  ·rename_i hc
   obtain ⟨hc1, hc2, hc3⟩ := hc
   simp only [Option.some.injEq, Prod.mk.injEq] at hF
   obtain ⟨rfl, rfl⟩ := hF
   refine ⟨by simp, ?_⟩
   clear h
   have hs : ((s.toNat : Nat) : Int) = s := Int.toNat_of_nonneg (by omega)
   have w1 : IntKind.i64.wrap (s - 1) = s - 1 := IntWalk.i64_in _ ⟨by omega, by omega⟩
   have w2 : IntKind.i64.wrap (8 * (s - 1)) = 8 * (s.toNat : Int) - 8 := by rw [IntWalk.i64_in _ ⟨by omega, by omega⟩]; omega
   unfold dc122
   simp only [↓go1, go2, go3, go4, reduceIte, Nat.reduceEqDiff, Nat.reduceAdd, w1, w2]
   refine loop122 (sz := s.toNat) (by omega) hc3 hfr hg s.toNat _ nl t xs _ (by omega) (by omega) (fun h => ?_) (by simp only; omega) Gs.start rfl rfl rfl (fun st nl' t' e1 _ e3 => ?_)
   ·subst h; unfold growT at hg; rw [if_pos rfl, List.isEmpty_iff] at hg; exact hg
   ·obtain ⟨rfl, rfl, hd⟩ := e3 (by omega)
    simp only [↓go1, go2, go3, go4, reduceIte, Nat.reduceEqDiff, Nat.reduceAdd, e1]
    exact hd.fin hfr hg
  ·cases hF
 ·cases hF
end Go.Vd

namespace Go.Vd
open Go.Proofs Go.RowKit
set_option maxRecDepth 20000 in
theorem walk121 (w : World) (sp : Option Addr) (n c k : Nat) (cs : List Value) (hl : cs.length = n) (h1 : ∀ v ∈ cs, v.oneCell' = true) (hk : n + k ≤ 140737488355328)
  (hsrc : 0 < n → ∃ ad, sp = some ad ∧ ∀ (j : Nat) v, cs[j]? = some v → w.cell? (ad.add j) = some v) :
  Calls Tryz.prog 121 #[.slice sp n c, .int .i64 (k : Int)] w fun e w' => e = .returned (.slice (some ⟨w.heap.size, 0, none⟩) n (n + k)) ∧ w' = (w.alloc (.cells (madeCells #[.int .u8 0] (n + k)) 5)).setRow w.heap.size (cs ++ (madeCells #[.int .u8 0] (n + k)).toList.drop n).toArray := by
 have hw : IntKind.i64.wrap ((n : Int) + (k : Int)) = (n : Int) + (k : Int) := IntWalk.i64_in _ ⟨by omega, by omega⟩
 have hmk : ∀ u : World, (Instr.makeSlice 77 (.int .i64 (n : Int)) (.int .i64 ((n : Int) + (k : Int)))).run Tryz.prog u = .ok (.slice (some ⟨u.heap.size, 0, none⟩) n (n + k)) (u.alloc (.cells (madeCells #[.int .u8 0] (n + k)) 5)) := fun u => by
  have e1 : ((n : Int) + (k : Int)).toNat = n + k := by omega
  have := run_make (P := Tryz.prog) u 77 5 Tryz.t5 (.int .u8 0) Tryz.underlying77 (by kernel_rfl) (by kernel_rfl) .i64 .i64 (n : Int) ((n : Int) + (k : Int)) (by omega) (by omega) (by show ((1 : Nat) : Int) * _ ≤ _; omega) (by omega)
  simpa [show Tryz.t5.size = 1 from rfl, Value.cells, e1] using this
 have hcp : (Builtin.copy_ #[77, 77] 3 #[.slice (some ⟨w.heap.size, 0, none⟩) n (n + k), .slice sp n c]).run Tryz.prog (w.alloc (.cells (madeCells #[.int .u8 0] (n + k)) 5)) = .ok (goInt n) ((w.alloc (.cells (madeCells #[.int .u8 0] (n + k)) 5)).setRow w.heap.size (cs ++ (madeCells #[.int .u8 0] (n + k)).toList.drop n).toArray) := by
  have hg : (w.alloc (.cells (madeCells #[.int .u8 0] (n + k)) 5)).heap[w.heap.size]? = some (.cells (madeCells #[.int .u8 0] (n + k)) 5 (0, 0)) := heap_alloc_new w _
  rcases Nat.eq_zero_or_pos n with h0 | h0
  ·have hc0 : cs = [] := List.eq_nil_of_length_eq_zero (by omega)
   subst hc0
   have := run_copy_none (P := Tryz.prog) (w.alloc (.cells (madeCells #[.int .u8 0] (n + k)) 5)) 77 77 3 5 (some ⟨w.heap.size, 0, none⟩) sp n (n + k) n c Tryz.underlying77 (by kernel_rfl) (by rw [h0]; rfl)
   rw [this, h0]
   simp only [List.nil_append, List.drop_zero, Array.toArray_toList]
   rw [setRow_self _ _ _ 5 (0, 0) (by rw [h0] at hg; exact hg)]
   rfl
  ·obtain ⟨ad, rfl, hs⟩ := hsrc h0
   have := run_copy_row (P := Tryz.prog) (w.alloc (.cells (madeCells #[.int .u8 0] (n + k)) 5)) 77 77 3 5 w.heap.size 0 n (n + k) ad n c (madeCells #[.int .u8 0] (n + k)) 5 cs Tryz.underlying77 (by kernel_rfl) hg (by rw [hl]; simp) (fun j v hv => by rw [World.cell?_alloc_old _ _ _ (Nat.ne_of_lt (World.block_lt_of_cell? _ _ (hs j v hv)))]; exact hs j v hv) (by simp [madeCells]; omega) h1
   rw [this, hl]
   simp [hl]
 go_enter Tryz.func121, Tryz.ntmps121
 go_wp2
 go_ret
 exact ⟨rfl, rfl⟩
theorem alloc_setRow (w : World) (a b : Array Value) (e : TypeId) : (w.alloc (.cells a e)).setRow w.heap.size b = w.alloc (.cells b e) := by
 have h : ∀ (F : Obj → Obj), (w.heap.push (.cells a e)).modify w.heap.size F = w.heap.push (F (.cells a e)) := by
  intro F
  apply Array.ext_getElem?
  intro i
  rw [Array.getElem?_modify]
  by_cases hi : w.heap.size = i
  ·subst hi; simp
  ·rw [if_neg hi]
   rcases Nat.lt_or_ge i w.heap.size with hlt | hge
   ·simp [Array.getElem?_push, Ne.symm hi, show i ≠ w.heap.size from Ne.symm hi]
   ·simp [Array.getElem?_push, show i ≠ w.heap.size from Ne.symm hi]
 unfold World.setRow World.alloc
 simp only [h]
def isByteD : D → Bool
 | .int .u8 _ => true
 | _ => false
def grownQ : Summ where
 rd := fun _ _ => []
 ex := fun ds _ fr => match ds with
  | [.slice _ _ xs, .int .i64 k] => if 0 ≤ k ∧ xs.all isByteD = true ∧ (xs.length : Int) + k ≤ 140737488355328 then some (.slice false (0 :: fr) xs, [(0 :: fr, 0, [.tok 6])]) else none
  | _ => none
theorem ok121 : grownQ.ok Tryz.prog 121 := by
 refine ⟨⟨Tryz.f121, Tryz.func121, rfl, by kernel_rfl⟩, fun ds m m' fr _ => rfl, ?_⟩
 intro B w0 w m g fr ds vs r u hi hfresh hl hrep hex
 simp only [grownQ] at hex
 split at hex
 ·rename_i nl t xs k
  split at hex
  ·rename_i hc
   obtain ⟨hk0, hall, hk⟩ := hc
   simp only [Option.some.injEq, Prod.mk.injEq] at hex
   obtain ⟨rfl, rfl⟩ := hex
   match vs, hl with
   | [v0, v1], _ =>
    have hr0 := hrep 0 _ v0 rfl rfl
    have hr1 := (hrep 1 _ v1 rfl rfl).int_inv
    subst hr1
    have hcell : ∀ d ∈ xs, d.cells.length = 1 ∧ d.calm = true := by
     intro d hd
     have := List.all_eq_true.1 hall d hd
     unfold isByteD at this
     split at this
     ·exact ⟨rfl, rfl⟩
     ·cases this
    obtain ⟨sp, c, cs, e0, hcl, hreps, hsrc⟩ : ∃ (sp : Option Addr) (c : Nat) (cs : List Value), v0 = .slice sp xs.length c ∧ cs.length = xs.length ∧ Reps w g (flat xs) cs ∧
      (0 < xs.length → ∃ ad, sp = some ad ∧ ∀ (j : Nat) v, cs[j]? = some v → w.cell? (ad.add j) = some v) := by
     cases nl with
     | true =>
      rcases hr0.slice_inv with ⟨_, rfl, e⟩ | ⟨h, _⟩
      ·exact ⟨none, 0, [], e, rfl, Reps.nil w g, fun h => by simp at h⟩
      ·cases h
     | false =>
      obtain ⟨ad, n, c, sz, ws, ev, hn, hnc, hsz, hwl, hrp, hcl, _⟩ := hr0.slice_list
      subst hn
      refine ⟨some ad, c, ws, ev, ?_, hrp, fun _ => ⟨ad, rfl, hcl⟩⟩
      rw [hwl]
      cases xs with
      | nil => simp
      | cons x r =>
       have h1 := hsz x (List.mem_cons_self ..)
       rw [(hcell x (List.mem_cons_self ..)).1] at h1
       rw [← h1, Nat.mul_one]
    subst e0
    have hkn : ((k.toNat : Nat) : Int) = k := Int.toNat_of_nonneg hk0
    have hw := walk121 w sp xs.length c k.toNat cs hcl hreps.2.1 (by omega) hsrc
    rw [hkn] at hw
    refine hw.mono ?_
    rintro e w' ⟨rfl, rfl⟩
    rw [alloc_setRow]
    have hsz : (cs ++ (madeCells #[Value.int .u8 0] (xs.length + k.toNat)).toList.drop xs.length).toArray.size = (xs.length + k.toNat) * 1 := by simp [madeCells, hcl]
    have hinfo : ∃ ti z, Tryz.prog.info? 5 = some ti ∧ ti.size = 1 ∧ ti.zero = some z ∧ z.cells.size = 1 := ⟨Tryz.t5, .int .u8 0, by kernel_rfl, by kernel_rfl, by kernel_rfl, by kernel_rfl⟩
    have hf0 := hfresh (0 :: fr) (List.suffix_cons 0 fr)
    have hinv := hi.newTok hf0 (e := 5) (n := xs.length) (c := xs.length + k.toNat) (sz := 1) (cur := (cs ++ (madeCells #[Value.int .u8 0] (xs.length + k.toNat)).toList.drop xs.length).toArray) (by decide) hinfo (by omega) (by unfold maxLen; omega) hsz
    have hext := Ext.newTok (w := w) (t := 0 :: fr) (n := xs.length) (c := xs.length + k.toNat) (sz := 1) (Obj.cells (cs ++ (madeCells #[Value.int .u8 0] (xs.length + k.toNat)).toList.drop xs.length).toArray 5) hi.gz hf0.2.2 rfl
    refine ⟨_, _, rfl, hinv, hext, ?_, fun i hf hn => fresh_newTok hf (fun h => hn ((List.suffix_cons 0 fr).trans h)) _ _ _ _ _⟩
    refine Rep.ofRow (sz := 1) (cur := (cs ++ (madeCells #[Value.int .u8 0] (xs.length + k.toNat)).toList.drop xs.length).toArray) (T := 5) (fz := (0, 0)) (heap_alloc_new w _) rfl (by omega) (fun d hd => (hcell d hd).1) (hreps.ext hext) (fun j v hv => ?_) (by simp [Gh.tok]) (fun _ => by simp [Gh.tok]) (fun d hd => (hcell d hd).2)
    rw [List.getElem?_toArray, List.getElem?_append_left (List.getElem?_eq_some_iff.1 hv).1]
    exact hv
  ·cases hex
 ·cases hex
end Go.Vd

namespace Go.Vd
open Go.RowKit
set_option maxRecDepth 10000
def F120 : List D → Option D
 | [.int .i64 n] => some (.bool (decide (1 ≤ n ∧ n ≤ 8)))
 | _ => none
theorem ok120 {P : Program} (hb : DeskB P) : (funS F120).ok P 120 := by
 refine fun_ok (S := fun _ => none) none_ok hb.f120 (fun ds r h => ?_) (fun ds r h => ?_)
 ·unfold F120 at h; split at h
  ·simp
  ·cases h
 ·unfold F120 at h; split at h
  ·rename_i n
   simp only [Option.some.injEq] at h
   subst h
   unfold dc120
   by_cases h1 : 1 ≤ n
   ·have h1' : ((1 : Int) ≤ n) = True := eq_true h1
    by_cases h2 : n ≤ 8
    ·have h2' : (n ≤ (8 : Int)) = True := eq_true h2
     simp only [↓go1, gB4, reduceIte, Nat.reduceEqDiff, Nat.reduceAdd, Nat.reduceSub, Nat.reduceLT, Nat.reduceLeDiff, Nat.zero_add, and_false, h1', h2', true_and, and_true]
    ·have h2' : (n ≤ (8 : Int)) = False := eq_false h2
     simp only [↓go1, gB4, reduceIte, Nat.reduceEqDiff, Nat.reduceAdd, Nat.reduceSub, Nat.reduceLT, Nat.reduceLeDiff, Nat.zero_add, and_false, h1', h2', true_and, and_true]
   ·have h1' : ((1 : Int) ≤ n) = False := eq_false h1
    simp only [↓go1, gB4, reduceIte, Nat.reduceEqDiff, Nat.reduceAdd, Nat.reduceSub, Nat.reduceLT, Nat.reduceLeDiff, Nat.zero_add, and_false, h1', false_and]
  ·cases h
def cQ (e : Nat) (wr : D → D) (F : List D → Option (List D × List Nat)) : Summ where
 rd := fun _ _ => []
 ex := fun ds _ fr => match ds with
  | .slice _ _ xs :: rest => if xs.all isByteD = true ∧ xs.length ≤ 100000000 then (F rest).map fun y => (wr (.slice false (y.2 ++ fr) (xs ++ y.1)), [(y.2 ++ fr, 0, [.tok (e + 1)])]) else none
  | _ => none
theorem cQ_inv {e : Nat} {wr : D → D} {F : List D → Option (List D × List Nat)} {ds : List D} {m : Mem} {fr : Id} {d : D} {u : Upd} (h : (cQ e wr F).ex ds m fr = some (d, u)) :
  ∃ nl t xs rest ys l, ds = .slice nl t xs :: rest ∧ xs.all isByteD = true ∧ xs.length ≤ 100000000 ∧ F rest = some (ys, l) ∧ d = wr (.slice false (l ++ fr) (xs ++ ys)) ∧ u = [(l ++ fr, 0, [.tok (e + 1)])] := by
 simp only [cQ] at h
 split at h
 ·rename_i nl t xs rest
  split at h
  ·rename_i hk
   rw [Option.map_eq_some_iff] at h
   obtain ⟨⟨ys, l⟩, hF, h⟩ := h
   simp only [Prod.mk.injEq] at h
   exact ⟨nl, t, xs, rest, ys, l, rfl, hk.1, hk.2, hF, h.1.symm, h.2.symm⟩
  ·cases h
 ·cases h
theorem got_c {e : Nat} {wr : D → D} {F : List D → Option (List D × List Nat)} {m : Mem} {fr : Id} {nl : Bool} {t : Id} {xs rest ys : List D} {l : List Nat} {K : D × Upd → Prop} {g} (ha : xs.all isByteD = true) (hl : xs.length ≤ 100000000) (hF : F rest = some (ys, l))
  (h : K (wr (.slice false (l ++ fr) (xs ++ ys)), [(l ++ fr, 0, [.tok (e + 1)])])) : Got ((cQ e wr F).ex (.slice nl t xs :: rest) m fr) K g := by
 refine Got.intro ?_ h
 simp only [cQ]
 rw [if_pos ⟨ha, hl⟩, hF]; rfl
theorem bytes_all (a : Bs) : (bytesD a).all isByteD = true := by
 rw [List.all_eq_true]
 intro x hx
 obtain ⟨c, _, rfl⟩ := List.mem_map.1 hx
 rfl
theorem all_app {a b : List D} (h : a.all isByteD = true) (h' : b.all isByteD = true) : (a ++ b).all isByteD = true := by simp [h, h']
theorem Gd.finc {e : Nat} {fr : Id} {m0 m : Mem} {t0 t : Id} {c : Nat} (h : Gd e fr m0 true t0 m c t) (hfr : ∀ i o, fr <:+ i → m0 i o = none) : ∀ i o x, Upd.app m0 [(t, 0, [.tok (e + 1)])] i o = some x → m i o = some x :=
 h.fin (emp := true) (xs := []) hfr (by unfold growT; rfl)
def F99 : List D → Option (List D × List Nat)
 | [.int .i64 s, .int .u64 n] => if 1 ≤ s ∧ s ≤ 8 ∧ 0 ≤ n then some (bytesD (beB s.toNat n), [13 * s.toNat, 9]) else none
 | _ => none
theorem grown_ex {m : Mem} {fr : Id} {nl : Bool} {t : Id} {xs : List D} {k : Int} (hk : 0 ≤ k) (ha : xs.all isByteD = true) (hl : (xs.length : Int) + k ≤ 140737488355328) : grownQ.ex [.slice nl t xs, .int .i64 k] m fr = some (.slice false (0 :: fr) xs, [(0 :: fr, 0, [.tok 6])]) := by
 simp only [grownQ]; exact if_pos ⟨hk, ha, hl⟩
theorem u64_small {n : Int} (h : 0 ≤ n) (h' : n < 18446744073709551616) : IntKind.u64.wrap n = n := by
 have : IntKind.u64.wrap n = n % 18446744073709551616 := by simp [IntKind.wrap, IntKind.bits, IntKind.signed]
 rw [this]; omega
theorem ok99 {P : Program} (hb : DeskB P) (h121 : grownQ.ok P 121) : (cQ 5 id F99).ok P 99 := by
 have hS : Summs.ok P (tabL [(120, funS F120), (121, grownQ), (122, gQ 5 F122)]) := tabL_cons (ok120 hb) (tabL_cons h121 (tabL_cons (ok122 hb) tabL_nil))
 have s120 : tabL [(120, funS F120), (121, grownQ), (122, gQ 5 F122)] 120 = some (funS F120) := rfl
 have s121 : tabL [(120, funS F120), (121, grownQ), (122, gQ 5 F122)] 121 = some grownQ := rfl
 have s122 : tabL [(120, funS F120), (121, grownQ), (122, gQ 5 F122)] 122 = some (gQ 5 F122) := rfl
 generalize tabL [(120, funS F120), (121, grownQ), (122, gQ 5 F122)] = S at hS s120 s121 s122
 refine opn_ok2 (S := S) hS hb.f99 (fun ds m m' fr _ => rfl) (fun ds m fr d u h hfr => ?_)
 obtain ⟨nl, t, xs, rest, ys, l, rfl, ha, hx, hF, rfl, rfl⟩ := cQ_inv h
 unfold F99 at hF
 split at hF
 ·rename_i s n
  split at hF
  ·rename_i hc
   obtain ⟨hc1, hc2, hc3⟩ := hc
   simp only [Option.some.injEq, Prod.mk.injEq] at hF
   obtain ⟨rfl, rfl⟩ := hF
   refine ⟨by simp, ?_⟩
   clear h
   have f120 : F120 [.int .i64 s] = some (.bool true) := by simp [F120, hc1, hc2]
   have f122 : F122 [.int .i64 s, .int .u64 n] = some (bytesD (beB s.toNat n), [13 * s.toNat]) := if_pos ⟨hc1, hc2, hc3⟩
   have g121 : ∀ m fr, grownQ.ex [.slice nl t xs, .int .i64 s] m fr = some (.slice false (0 :: fr) xs, [(0 :: fr, 0, [.tok 6])]) := fun m fr => grown_ex (by omega) ha (by omega)
   unfold dc99
   simp only [↓go1, gB4, reduceIte, Nat.reduceEqDiff, Nat.reduceAdd, Nat.reduceSub, Nat.reduceLT, Nat.reduceLeDiff, Nat.zero_add, and_false, callK_fun s120, callK_fn s121, callK_fn s122, f120, g121]
   have hd : Gd 5 fr m true [] (m.put ([0] ++ 6 :: fr) 0 [.tok 6]) 7 ([0] ++ 6 :: fr) :=
    ⟨⟨[0], 6, rfl, by omega⟩, by rw [put_tok, if_pos ⟨rfl, rfl⟩], fun i o hi => out_put i o hi⟩
   refine got_g (.inr ⟨hd.tok, by simp⟩) (by simp) hx f122 ?_
   simp only [↓go1, gB4, reduceIte, Nat.reduceEqDiff, Nat.reduceAdd, Nat.reduceSub, Nat.reduceLT, Nat.reduceLeDiff, Nat.zero_add, and_false, callK_fun s120, callK_fn s121, callK_fn s122, f120, g121]
   exact ⟨rfl, (Gs.app (c' := 10) (l := [13 * s.toNat]) (k := 9) hd.gs (by omega) (by omega)).finc hfr⟩
  ·cases hF
 ·cases hF
def rowW (d : D) : D := .tup [d, .int .i64 0]
def F123 : List D → Option (List D × List Nat)
 | [.str s] => if s.length ≤ 65535 then some (bytesD (beB 2 s.length ++ s), [17]) else none
 | _ => none
set_option maxHeartbeats 1000000 in
theorem ok123 {P : Program} (hb : DeskB P) (h121 : grownQ.ok P 121) : (cQ 5 rowW F123).ok P 123 := by
 have hS : Summs.ok P (tabL [(121, grownQ), (122, gQ 5 F122)]) := tabL_cons h121 (tabL_cons (ok122 hb) tabL_nil)
 have s121 : tabL [(121, grownQ), (122, gQ 5 F122)] 121 = some grownQ := rfl
 have s122 : tabL [(121, grownQ), (122, gQ 5 F122)] 122 = some (gQ 5 F122) := rfl
 generalize tabL [(121, grownQ), (122, gQ 5 F122)] = S at hS s121 s122
 refine opn_ok2 (S := S) hS hb.f123 (fun ds m m' fr _ => rfl) (fun ds m fr d u h hfr => ?_)
 obtain ⟨nl, t, xs, rest, ys, l, rfl, ha, hx, hF, rfl, rfl⟩ := cQ_inv h
 unfold F123 at hF
 split at hF
 ·rename_i s
  split at hF
  ·rename_i hc
   simp only [Option.some.injEq, Prod.mk.injEq] at hF
   obtain ⟨rfl, rfl⟩ := hF
   refine ⟨by simp, ?_⟩
   clear h
   have g1 : ((65535 : Int) < (s.length : Int)) = False := eq_false (by omega)
   have w1 : IntKind.i64.wrap (2 + (s.length : Int)) = 2 + (s.length : Int) := IntWalk.i64_in _ ⟨by omega, by omega⟩
   have w2 : IntKind.u64.wrap (s.length : Int) = (s.length : Int) := u64_small (by omega) (by omega)
   have f122 : F122 [.int .i64 2, .int .u64 (s.length : Int)] = some (bytesD (beB 2 s.length), [26]) := by
    show (if (1 : Int) ≤ 2 ∧ (2 : Int) ≤ 8 ∧ 0 ≤ (s.length : Int) then some (bytesD (beB (2 : Int).toNat (s.length : Int)), [13 * (2 : Int).toNat]) else none) = _
    rw [if_pos ⟨by omega, by omega, by omega⟩]; rfl
   have g121 : ∀ m fr, grownQ.ex [.slice nl t xs, .int .i64 (2 + (s.length : Int))] m fr = some (.slice false (0 :: fr) xs, [(0 :: fr, 0, [.tok 6])]) := fun m fr => grown_ex (by omega) ha (by omega)
   unfold dc123
   simp only [↓go1, gB4, reduceIte, Nat.reduceEqDiff, Nat.reduceAdd, Nat.reduceSub, Nat.reduceLT, Nat.reduceLeDiff, Nat.zero_add, and_false, callK_fn s121, callK_fn s122, false_and, g121, g1, w1, w2, bytesD_len, beB_len, reduceCtorEq]
   have hd : Gd 5 fr m true [] (m.put ([0] ++ 9 :: fr) 0 [.tok 6]) 10 ([0] ++ 9 :: fr) :=
    ⟨⟨[0], 9, rfl, by omega⟩, by rw [put_tok, if_pos ⟨rfl, rfl⟩], fun i o hi => out_put i o hi⟩
   refine got_g (.inr ⟨hd.tok, by simp⟩) (by simp) hx f122 ?_
   have hd2 : Gd 5 fr m true [] (Upd.app (m.put (0 :: 9 :: fr) 0 [.tok 6]) (growU 5 ([26] ++ 13 :: fr) (.slice false (0 :: 9 :: fr) xs))) 14 ([26] ++ 13 :: fr) :=
    Gs.app (l := [26]) (k := 13) hd.gs (by omega) (by omega)
   simp only [↓go1, gB4, reduceIte, Nat.reduceEqDiff, Nat.reduceAdd, Nat.reduceSub, Nat.reduceLT, Nat.reduceLeDiff, Nat.zero_add, and_false, callK_fn s121, callK_fn s122, false_and, g121, g1, w1, w2, bytesD_len, beB_len, reduceCtorEq]
   refine Need.intro ⟨by simp only [List.length_append, bytesD_len, beB_len]; omega, ?_, .inr ⟨hd2.tok, by simp⟩⟩ ?_
   ·cases s <;> rfl
   simp only [↓go1, gB4, reduceIte, Nat.reduceEqDiff, Nat.reduceAdd, Nat.reduceSub, Nat.reduceLT, Nat.reduceLeDiff, Nat.zero_add, and_false, callK_fn s121, callK_fn s122, false_and, g121, g1, w1, w2, bytesD_len, beB_len, reduceCtorEq]
   refine ⟨by rw [bytesD_app, List.append_assoc]; rfl, ?_⟩
   exact (Gs.app (c' := 18) (l := []) (k := 17) hd2.gs (by omega) (by omega)).finc hfr
  ·cases hF
 ·cases hF
def F100 : List D → Option (List D × List Nat)
 | [.str s] => if s.length ≤ 65535 then some (bytesD (beB 2 s.length ++ s), [17, 3]) else none
 | _ => none
theorem ok100 {P : Program} (hb : DeskB P) (h121 : grownQ.ok P 121) : (cQ 5 id F100).ok P 100 := by
 have hS : Summs.ok P (tabL [(123, cQ 5 rowW F123)]) := tabL_cons (ok123 hb h121) tabL_nil
 have s123 : tabL [(123, cQ 5 rowW F123)] 123 = some (cQ 5 rowW F123) := rfl
 generalize tabL [(123, cQ 5 rowW F123)] = S at hS s123
 refine opn_ok2 (S := S) hS hb.f100 (fun ds m m' fr _ => rfl) (fun ds m fr d u h hfr => ?_)
 obtain ⟨nl, t, xs, rest, ys, l, rfl, ha, hx, hF, rfl, rfl⟩ := cQ_inv h
 unfold F100 at hF
 split at hF
 ·rename_i s
  split at hF
  ·rename_i hc
   simp only [Option.some.injEq, Prod.mk.injEq] at hF
   obtain ⟨rfl, rfl⟩ := hF
   refine ⟨by simp, ?_⟩
   clear h
   have f123 : F123 [.str s] = some (bytesD (beB 2 s.length ++ s), [17]) := if_pos hc
   unfold dc100
   simp only [↓go1, gB4, reduceIte, Nat.reduceEqDiff, Nat.reduceAdd, Nat.reduceSub, Nat.reduceLT, Nat.reduceLeDiff, Nat.zero_add, and_false, callK_fn s123]
   refine got_c ha hx f123 ?_
   simp only [rowW]
   simp only [↓go1, gB4, reduceIte, Nat.reduceEqDiff, Nat.reduceAdd, Nat.reduceSub, Nat.reduceLT, Nat.reduceLeDiff, Nat.zero_add, and_false, callK_fn s123]
   exact ⟨rfl, fun i o x hx => hx⟩
  ·cases hF
 ·cases hF
end Go.Vd

namespace Go.Vd
inductive Tr where
 | nil
 | tr (b : Bool)
 | num (n : Int)
 | text (s : Bs)
 | list (l : List Tr)
 | pairs (l : List (Bs × Tr))
def rowB (s : Bs) : Bs := beB 2 s.length ++ s
mutual
def Tr.enc : Tr → Bs
 | .nil => [0]
 | .tr b => if b then [2] else [1]
 | .num n => 3 :: beB 8 n
 | .text s => 4 :: rowB s
 | .list l => 5 :: UInt8.ofNat (l.length % 256) :: Tr.encL l
 | .pairs l => 6 :: UInt8.ofNat (l.length % 256) :: Tr.encP l
def Tr.encL : List Tr → Bs
 | [] => []
 | v :: r => Tr.enc v ++ Tr.encL r
def Tr.encP : List (Bs × Tr) → Bs
 | [] => []
 | (k, v) :: r => (rowB k ++ Tr.enc v) ++ Tr.encP r
end
def endL (l : List (List Nat)) (a0 b0 st : Nat) : List Nat := match l.getLast? with
 | none => [a0]
 | some p => p ++ [b0 + st * (l.length - 1)]
mutual
def Tr.pid : Tr → List Nat
 | .nil => [19]
 | .tr _ => [9]
 | .num _ => [104, 9, 13]
 | .text _ => [17, 3, 16]
 | .list l => endL (Tr.pidL l) 20 31 10
 | .pairs l => endL (Tr.pidP l) 23 39 15
def Tr.pidL : List Tr → List (List Nat)
 | [] => []
 | v :: r => Tr.pid v :: Tr.pidL r
def Tr.pidP : List (Bs × Tr) → List (List Nat)
 | [] => []
 | (_, v) :: r => Tr.pid v :: Tr.pidP r
end
theorem encL_app : ∀ a b : List Tr, Tr.encL (a ++ b) = Tr.encL a ++ Tr.encL b
 | [], b => by simp [Tr.encL]
 | v :: r, b => by simp [Tr.encL, encL_app r b, List.append_assoc]
theorem encP_app : ∀ a b : List (Bs × Tr), Tr.encP (a ++ b) = Tr.encP a ++ Tr.encP b
 | [], b => by simp [Tr.encP]
 | (k, v) :: r, b => by simp [Tr.encP, encP_app r b, List.append_assoc]
theorem pidL_len : ∀ l : List Tr, (Tr.pidL l).length = l.length
 | [] => rfl
 | v :: r => by simp [Tr.pidL, pidL_len r]
theorem pidP_len : ∀ l : List (Bs × Tr), (Tr.pidP l).length = l.length
 | [] => rfl
 | (k, v) :: r => by simp [Tr.pidP, pidP_len r]
theorem pidL_app : ∀ a b : List Tr, Tr.pidL (a ++ b) = Tr.pidL a ++ Tr.pidL b
 | [], b => rfl
 | v :: r, b => by simp [Tr.pidL, pidL_app r b]
theorem pidP_app : ∀ a b : List (Bs × Tr), Tr.pidP (a ++ b) = Tr.pidP a ++ Tr.pidP b
 | [], b => rfl
 | (k, v) :: r, b => by simp [Tr.pidP, pidP_app r b]
theorem endL_snoc (l : List (List Nat)) (p : List Nat) (a0 b0 st : Nat) : endL (l ++ [p]) a0 b0 st = p ++ [b0 + st * l.length] := by
 simp [endL]
end Go.Vd

namespace Go.Vd
open Go.RowKit
set_option maxRecDepth 10000
def allM {α β : Type} (f : α → Option β) : List α → Option (List β)
 | [] => some []
 | x :: r => match f x, allM f r with
  | some y, some s => some (y :: s)
  | _, _ => none
theorem allM_some {α β : Type} {f : α → Option β} : ∀ {xs : List α} {l : List β}, allM f xs = some l → xs.length = l.length ∧ ∀ (i : Nat) x y, xs[i]? = some x → l[i]? = some y → f x = some y
 | [], l, h => by simp only [allM, Option.some.injEq] at h; subst h; exact ⟨rfl, fun i x y h => by simp at h⟩
 | x :: r, l, h => by
  simp only [allM] at h
  split at h
  ·rename_i y s h1 h2
   simp only [Option.some.injEq] at h; subst h
   obtain ⟨e, k⟩ := allM_some h2
   refine ⟨by simp [e], fun i x' y' hx hy => ?_⟩
   match i with
   | 0 => simp at hx hy; subst hx hy; exact h1
   | i + 1 => exact k i x' y' (by simpa using hx) (by simpa using hy)
  ·cases h
def trOf : Nat → D → Option Tr
 | _, .nilIface => some .nil
 | _, .iface 4 (.bool b) => some (.tr b)
 | _, .iface 86 (.int .u64 n) => some (.num n)
 | _, .iface 9 (.str s) => some (.text s)
 | n + 1, .iface 99 (.slice _ _ xs) => (allM (trOf n) xs).map .list
 | n + 1, .iface 85 (.slice _ _ xs) => (allM (fun x => match x with
  | .agg [.str k, y] => (trOf n y).map fun v => (k, v)
  | _ => none) xs).map .pairs
 | _, _ => none
mutual
def Tr.fit : Tr → Bool
 | .nil => true
 | .tr _ => true
 | .num n => decide (0 ≤ n) && decide (n < 18446744073709551616)
 | .text s => decide (s.length ≤ 65535)
 | .list l => decide (l.length ≤ 64) && Tr.fitL l
 | .pairs l => decide (l.length ≤ 64) && Tr.fitP l
def Tr.fitL : List Tr → Bool
 | [] => true
 | v :: r => Tr.fit v && Tr.fitL r
def Tr.fitP : List (Bs × Tr) → Bool
 | [] => true
 | (k, v) :: r => decide (k.length ≤ 65535) && Tr.fit v && Tr.fitP r
end
def putQ (n : Nat) : Summ where
 rd := fun ds _ => match ds with
  | .slice _ t _ :: _ => [(t, 0)]
  | _ => []
 ex := fun ds m fr => match ds with
  | [.slice nl t xs, d] => match trOf n d with
   | some v => if growT m 5 nl t xs.isEmpty = true ∧ xs.all isByteD = true ∧ xs.length + v.enc.length ≤ 90000000 ∧ v.fit = true then some (.slice false (v.pid ++ fr) (xs ++ bytesD v.enc), growU 5 (v.pid ++ fr) (.slice nl t xs)) else none
   | none => none
  | _ => none
theorem putQ_loc {n : Nat} (ds : List D) (m m' : Mem) (fr : Id) (h : ∀ l ∈ (putQ n).rd ds m, m l.1 l.2 = m' l.1 l.2) : (putQ n).ex ds m fr = (putQ n).ex ds m' fr := by
 simp only [putQ] at h ⊢
 split
 ·rename_i nl t xs d
  rw [growT_congr (h (t, 0) (by simp))]
 ·rfl
theorem putQ_inv {n : Nat} {ds : List D} {m : Mem} {fr : Id} {d : D} {u : Upd} (h : (putQ n).ex ds m fr = some (d, u)) :
  ∃ nl t xs x v, ds = [.slice nl t xs, x] ∧ trOf n x = some v ∧ growT m 5 nl t xs.isEmpty = true ∧ xs.all isByteD = true ∧ xs.length + v.enc.length ≤ 90000000 ∧ v.fit = true ∧ d = .slice false (v.pid ++ fr) (xs ++ bytesD v.enc) ∧ u = growU 5 (v.pid ++ fr) (.slice nl t xs) := by
 simp only [putQ] at h
 split at h
 ·rename_i nl t xs x
  split at h
  ·rename_i v hv
   split at h
   ·rename_i hk
    simp only [Option.some.injEq, Prod.mk.injEq] at h
    exact ⟨nl, t, xs, x, v, rfl, hv, hk.1, hk.2.1, hk.2.2.1, hk.2.2.2, h.1.symm, h.2.symm⟩
   ·cases h
  ·cases h
 ·cases h
theorem trOf_inv {n : Nat} {d : D} {v : Tr} (h : trOf n d = some v) :
  (v = .nil ∧ d = .nilIface) ∨ (∃ b, v = .tr b ∧ d = .iface 4 (.bool b)) ∨ (∃ k, v = .num k ∧ d = .iface 86 (.int .u64 k)) ∨ (∃ s, v = .text s ∧ d = .iface 9 (.str s)) ∨
  (∃ m nl t xs l, n = m + 1 ∧ v = .list l ∧ d = .iface 99 (.slice nl t xs) ∧ allM (trOf m) xs = some l) ∨
  (∃ m nl t xs l, n = m + 1 ∧ v = .pairs l ∧ d = .iface 85 (.slice nl t xs) ∧ allM (fun x => match x with
   | .agg [.str k, y] => (trOf m y).map fun v => (k, v)
   | _ => none) xs = some l) := by
 unfold trOf at h
 split at h
 ·simp only [Option.some.injEq] at h; exact .inl ⟨h.symm, rfl⟩
 ·rename_i b; simp only [Option.some.injEq] at h; exact .inr (.inl ⟨b, h.symm, rfl⟩)
 ·rename_i k; simp only [Option.some.injEq] at h; exact .inr (.inr (.inl ⟨k, h.symm, rfl⟩))
 ·rename_i s; simp only [Option.some.injEq] at h; exact .inr (.inr (.inr (.inl ⟨s, h.symm, rfl⟩)))
 ·rename_i m nl t xs
  rw [Option.map_eq_some_iff] at h
  obtain ⟨l, h1, rfl⟩ := h
  exact .inr (.inr (.inr (.inr (.inl ⟨m, nl, t, xs, l, rfl, rfl, rfl, h1⟩))))
 ·rename_i m nl t xs
  rw [Option.map_eq_some_iff] at h
  obtain ⟨l, h1, rfl⟩ := h
  exact .inr (.inr (.inr (.inr (.inr ⟨m, nl, t, xs, l, rfl, rfl, rfl, h1⟩))))
 ·cases h
end Go.Vd

namespace Go.Vd
open Go.RowKit
set_option maxRecDepth 10000
theorem Gd.copy {e : Nat} {fr : Id} {m0 m : Mem} {nl0 : Bool} {t0 t : Id} {c c' k : Nat} {l : List Nat} (h : Gd e fr m0 nl0 t0 m c t) (hk : c ≤ k) (hk' : k < c') : Gd e fr m0 nl0 t0 (m.put (l ++ k :: fr) 0 [.tok (e + 1)]) c' (l ++ k :: fr) :=
 ⟨⟨l, k, rfl, hk'⟩, by rw [put_tok, if_pos ⟨rfl, rfl⟩], fun i o hi => (out_put i o hi).trans (h.out i o hi)⟩
set_option maxHeartbeats 4000000 in
theorem put_leaf {P : Program} {S : Summs} (s99 : S 99 = some (cQ 5 id F99)) (s100 : S 100 = some (cQ 5 id F100)) {fr : Id} {m : Mem} {nl : Bool} {t : Id} {xs : List D} {x : D} {v : Tr} (hfr : ∀ i o, fr <:+ i → m i o = none)
  (hg : growT m 5 nl t xs.isEmpty = true) (ha : xs.all isByteD = true) (hl : xs.length + v.enc.length ≤ 90000000) (hfit : v.fit = true)
  (hv : (v = .nil ∧ x = .nilIface) ∨ (∃ b, v = .tr b ∧ x = .iface 4 (.bool b)) ∨ (∃ k, v = .num k ∧ x = .iface 86 (.int .u64 k)) ∨ (∃ s, v = .text s ∧ x = .iface 9 (.str s))) :
  dc80.wp S fr (Ends [.t 4] fun d m' => d = .slice false (v.pid ++ fr) (xs ++ bytesD v.enc) ∧ ∀ i o y, Upd.app m (growU 5 (v.pid ++ fr) (.slice nl t xs)) i o = some y → m' i o = some y) ⟨entryS [.slice nl t xs, x], m, 0⟩ := by
 have hnil : nl = true → xs = [] := growT_nil hg (fun h => List.isEmpty_iff.1 h)
 have G0 : ∀ c, Gs 5 fr m nl t m c nl t := fun c => Gs.start
 rcases hv with ⟨rfl, rfl⟩ | ⟨b, rfl, rfl⟩ | ⟨k, rfl, rfl⟩ | ⟨s, rfl, rfl⟩
 ·unfold dc80
  simp only [↓go1, gB4, ↓x_tass, tassV, reduceIte, Nat.reduceEqDiff, Nat.reduceAdd, Nat.reduceSub, Nat.reduceLT, Nat.reduceLeDiff, Nat.zero_add, and_false, false_and, reduceCtorEq, Bool.false_eq_true, List.getElem?_cons_zero, List.getElem?_cons_succ, callK_fn s99, callK_fn s100]
  refine Need.intro ⟨by omega, rfl, Gs.grow ((G0 18).put (l := []) (k := 18) (by omega)) hfr hg⟩ ?_
  rw [app_fold hnil]
  simp only [↓go1, gB4, ↓x_tass, tassV, reduceIte, Nat.reduceEqDiff, Nat.reduceAdd, Nat.reduceSub, Nat.reduceLT, Nat.reduceLeDiff, Nat.zero_add, and_false, false_and, reduceCtorEq, Bool.false_eq_true, List.getElem?_cons_zero, List.getElem?_cons_succ, callK_fn s99, callK_fn s100]
  have hd : Gd 5 fr m nl t (Upd.app (m.put (18 :: fr) 0 [.tok 6]) (growU 5 (19 :: fr) (.slice nl t xs))) 20 (19 :: fr) :=
   Gs.app (l := []) (k := 19) ((G0 18).put (l := []) (k := 18) (by omega)) (by omega) (by omega)
  exact ⟨rfl, hd.fin hfr hg⟩
 ·unfold dc80
  cases b
  all_goals
  simp only [↓go1, gB4, ↓x_tass, tassV, reduceIte, Nat.reduceEqDiff, Nat.reduceAdd, Nat.reduceSub, Nat.reduceLT, Nat.reduceLeDiff, Nat.zero_add, and_false, false_and, reduceCtorEq, Bool.false_eq_true, List.getElem?_cons_zero, List.getElem?_cons_succ, callK_fn s99, callK_fn s100]
  all_goals
   refine Need.intro ⟨by omega, rfl, Gs.grow ((G0 8).put (l := []) (k := 8) (by omega)) hfr hg⟩ ?_
   rw [app_fold hnil]
   simp only [↓go1, gB4, ↓x_tass, tassV, reduceIte, Nat.reduceEqDiff, Nat.reduceAdd, Nat.reduceSub, Nat.reduceLT, Nat.reduceLeDiff, Nat.zero_add, and_false, false_and, reduceCtorEq, Bool.false_eq_true, List.getElem?_cons_zero, List.getElem?_cons_succ, callK_fn s99, callK_fn s100]
   have hd : Gd 5 fr m nl t (Upd.app (m.put (8 :: fr) 0 [.tok 6]) (growU 5 (9 :: fr) (.slice nl t xs))) 10 (9 :: fr) :=
    Gs.app (l := []) (k := 9) ((G0 8).put (l := []) (k := 8) (by omega)) (by omega) (by omega)
   exact ⟨rfl, hd.fin hfr hg⟩
 ·unfold dc80
  have hk : 0 ≤ k := by simp only [Tr.fit, Bool.and_eq_true, decide_eq_true_eq] at hfit; exact hfit.1
  have f99 : F99 [.int .i64 8, .int .u64 k] = some (bytesD (beB 8 k), [104, 9]) := by
   show (if (1 : Int) ≤ 8 ∧ (8 : Int) ≤ 8 ∧ 0 ≤ k then some (bytesD (beB (8 : Int).toNat k), [13 * (8 : Int).toNat, 9]) else none) = _
   rw [if_pos ⟨by omega, by omega, hk⟩]; rfl
  simp only [↓go1, gB4, ↓x_tass, tassV, reduceIte, Nat.reduceEqDiff, Nat.reduceAdd, Nat.reduceSub, Nat.reduceLT, Nat.reduceLeDiff, Nat.zero_add, and_false, false_and, reduceCtorEq, Bool.false_eq_true, List.getElem?_cons_zero, List.getElem?_cons_succ, callK_fn s99, callK_fn s100]
  refine Need.intro ⟨by omega, rfl, Gs.grow ((G0 10).put (l := []) (k := 10) (by omega)) hfr hg⟩ ?_
  rw [app_fold hnil]
  simp only [↓go1, gB4, ↓x_tass, tassV, reduceIte, Nat.reduceEqDiff, Nat.reduceAdd, Nat.reduceSub, Nat.reduceLT, Nat.reduceLeDiff, Nat.zero_add, and_false, false_and, reduceCtorEq, Bool.false_eq_true, List.getElem?_cons_zero, List.getElem?_cons_succ, callK_fn s99, callK_fn s100]
  have hd : Gd 5 fr m nl t (Upd.app (m.put (10 :: fr) 0 [.tok 6]) (growU 5 (11 :: fr) (.slice nl t xs))) 12 (11 :: fr) :=
   Gs.app (l := []) (k := 11) ((G0 10).put (l := []) (k := 10) (by omega)) (by omega) (by omega)
  refine got_c (all_app ha rfl) (by simp only [List.length_append, List.length_cons, List.length_nil]; omega) f99 ?_
  simp only [↓go1, gB4, ↓x_tass, tassV, reduceIte, Nat.reduceEqDiff, Nat.reduceAdd, Nat.reduceSub, Nat.reduceLT, Nat.reduceLeDiff, Nat.zero_add, and_false, false_and, reduceCtorEq, Bool.false_eq_true, List.getElem?_cons_zero, List.getElem?_cons_succ, callK_fn s99, callK_fn s100]
  refine ⟨by simp only [id, Tr.enc, bytesD, List.map_cons, List.append_assoc]; rfl, ?_⟩
  exact (hd.copy (c' := 14) (l := [104, 9]) (k := 13) (by omega) (by omega)).fin hfr hg
 ·unfold dc80
  have hs : s.length ≤ 65535 := by simpa [Tr.fit] using hfit
  have f100 : F100 [.str s] = some (bytesD (beB 2 s.length ++ s), [17, 3]) := if_pos hs
  simp only [↓go1, gB4, ↓x_tass, tassV, reduceIte, Nat.reduceEqDiff, Nat.reduceAdd, Nat.reduceSub, Nat.reduceLT, Nat.reduceLeDiff, Nat.zero_add, and_false, false_and, reduceCtorEq, Bool.false_eq_true, List.getElem?_cons_zero, List.getElem?_cons_succ, callK_fn s99, callK_fn s100]
  refine Need.intro ⟨by omega, rfl, Gs.grow ((G0 13).put (l := []) (k := 13) (by omega)) hfr hg⟩ ?_
  rw [app_fold hnil]
  simp only [↓go1, gB4, ↓x_tass, tassV, reduceIte, Nat.reduceEqDiff, Nat.reduceAdd, Nat.reduceSub, Nat.reduceLT, Nat.reduceLeDiff, Nat.zero_add, and_false, false_and, reduceCtorEq, Bool.false_eq_true, List.getElem?_cons_zero, List.getElem?_cons_succ, callK_fn s99, callK_fn s100]
  have hd : Gd 5 fr m nl t (Upd.app (m.put (13 :: fr) 0 [.tok 6]) (growU 5 (14 :: fr) (.slice nl t xs))) 15 (14 :: fr) :=
   Gs.app (l := []) (k := 14) ((G0 13).put (l := []) (k := 13) (by omega)) (by omega) (by omega)
  refine got_c (all_app ha rfl) (by simp only [List.length_append, List.length_cons, List.length_nil]; omega) f100 ?_
  simp only [↓go1, gB4, ↓x_tass, tassV, reduceIte, Nat.reduceEqDiff, Nat.reduceAdd, Nat.reduceSub, Nat.reduceLT, Nat.reduceLeDiff, Nat.zero_add, and_false, false_and, reduceCtorEq, Bool.false_eq_true, List.getElem?_cons_zero, List.getElem?_cons_succ, callK_fn s99, callK_fn s100]
  refine ⟨by simp only [id, Tr.enc, rowB, bytesD, List.map_cons, List.append_assoc]; rfl, ?_⟩
  exact (hd.copy (c' := 17) (l := [17, 3]) (k := 16) (by omega) (by omega)).fin hfr hg
end Go.Vd

namespace Go.Vd
open Go.RowKit
set_option maxRecDepth 10000
theorem got_put {n : Nat} {m : Mem} {fr : Id} {nl : Bool} {t : Id} {xs : List D} {x : D} {v : Tr} {K : D × Upd → Prop} {g} (hv : trOf n x = some v) (h0 : Grow m 5 (.slice nl t xs)) (hn : nl = true → xs = []) (ha : xs.all isByteD = true) (hl : xs.length + v.enc.length ≤ 90000000) (hf : v.fit = true)
  (h : K (.slice false (v.pid ++ fr) (xs ++ bytesD v.enc), growU 5 (v.pid ++ fr) (.slice nl t xs))) : Got ((putQ n).ex [.slice nl t xs, x] m fr) K g := by
 refine Got.intro ?_ h
 have hg : growT m 5 nl t xs.isEmpty = true := by
  unfold growT
  cases nl with
  | true => rw [if_pos rfl, hn rfl]; rfl
  | false =>
   rcases h0 with h0 | ⟨h1, h2⟩
   ·cases h0
   ·rw [if_neg (by simp), h1]
    cases t with
    | nil => exact absurd rfl h2
    | cons a b => simp
 simp only [putQ, hv]
 exact if_pos ⟨hg, ha, hl, hf⟩
theorem fitL_get : ∀ {l : List Tr} {k : Nat} (h : k < l.length), Tr.fitL l = true → l[k].fit = true
 | [], k, h, _ => by simp at h
 | v :: r, k, h, hf => by
  simp only [Tr.fitL, Bool.and_eq_true] at hf
  match k with
  | 0 => exact hf.1
  | k + 1 => exact fitL_get (l := r) (by simpa using h) hf.2
theorem encL_take {l : List Tr} {k : Nat} (h : k < l.length) : (Tr.encL (l.take k)).length + l[k].enc.length ≤ (Tr.encL l).length := by
 have : l = l.take k ++ l[k] :: l.drop (k + 1) := by rw [← List.drop_eq_getElem_cons h, List.take_append_drop]
 have e : (Tr.encL l).length = (Tr.encL (l.take k ++ l[k] :: l.drop (k + 1))).length := by rw [← this]
 rw [e, encL_app]; simp only [Tr.encL, List.length_append]; omega
set_option maxHeartbeats 2000000 in
theorem loop80a {S : Summs} {n : Nat} (s80 : S 80 = some (putQ n)) {fr : Id} {m0 : Mem} {nl0 : Bool} {t0 : Id} {base xs : List D} {l : List Tr} {nlx : Bool} {tx : Id} {Q : Ex → St → Prop} (hlen : xs.length = l.length) (hl64 : l.length ≤ 64) (hget : ∀ (i : Nat) x v, xs[i]? = some x → l[i]? = some v → trOf n x = some v) (hfit : Tr.fitL l = true)
  (hba : base.all isByteD = true) (hbl : base.length + (Tr.encL l).length ≤ 90000000)
  (hexit : ∀ st' c', st'.s 0 = .slice false (endL (Tr.pidL l) 20 31 10 ++ fr) (base ++ bytesD (Tr.encL l)) → Gd 5 fr m0 nl0 t0 st'.m c' (endL (Tr.pidL l) 20 31 10 ++ fr) → Q (.exit 1) st') :
  ∀ (j k : Nat) st g, j = l.length - k → k ≤ l.length → st.c = 25 + 10 * k → st.s 52 = .int .i64 (k : Int) → st.s 51 = .int .i64 (l.length : Int) → st.s 50 = .slice nlx tx xs → st.s 0 = .slice false (endL (Tr.pidL (l.take k)) 20 31 10 ++ fr) (base ++ bytesD (Tr.encL (l.take k))) →
   Gd 5 fr m0 nl0 t0 st.m st.c (endL (Tr.pidL (l.take k)) 20 31 10 ++ fr) → loopW S fr dc80l0 Q st g := by
 intro j
 induction j with
 | zero =>
  intro k st g hj hk hc h52 h51 h50 h0 hG
  refine wp_loopd dc80l0.eq_1 ?_
  have : ¬ ((k : Int) < l.length) := by omega
  rw [List.take_of_length_le (by omega)] at h0 hG
  simp only [↓go1, go2, go3, go4, reduceIte, Nat.reduceEqDiff, Nat.reduceAdd, h52, h51, this]
  exact hexit _ _ h0 hG
 | succ j ih =>
  intro k st g hj hk hc h52 h51 h50 h0 hG
  refine wp_loopd dc80l0.eq_1 ?_
  have hlt : ((k : Int) < l.length) := by omega
  have hk0 : (0 : Int) ≤ (k : Int) := by omega
  have hkl : k < l.length := by omega
  have hkx : k < xs.length := by omega
  have hx : xs[(k : Int).toNat]? = some xs[k] := by simp [hkx]
  have hw : IntKind.i64.wrap ((k : Int) + 1) = ((k + 1 : Nat) : Int) := by rw [IntWalk.i64_in _ ⟨by omega, by omega⟩]; omega
  have htr := hget k xs[k] l[k] (List.getElem?_eq_getElem hkx) (List.getElem?_eq_getElem hkl)
  have hone : (xs[k]).cells = [xs[k]] := by
   rcases trOf_inv htr with ⟨_, e⟩ | ⟨_, _, e⟩ | ⟨_, _, e⟩ | ⟨_, _, e⟩ | ⟨_, _, _, _, _, _, _, e, _⟩ | ⟨_, _, _, _, _, _, _, e, _⟩ <;> rw [e] <;> rfl
  have htk : l.take (k + 1) = l.take k ++ [l[k]] := by rw [List.take_add_one, List.getElem?_eq_getElem hkl]; rfl
  have hel := encL_take hkl
  generalize xs[k] = x at hx htr hone
  simp only [↓go1, go2, go3, go4, reduceIte, Nat.reduceEqDiff, Nat.reduceAdd, Nat.zero_le, List.length_cons, List.length_nil, h52, h51, h50, h0, hlt, hk0, hx, hw, hone, callK_fn s80]
  have hne : endL (Tr.pidL (l.take k)) 20 31 10 ++ fr ≠ [] := by
   obtain ⟨a, b, e, _⟩ := hG.name
   rw [e]; simp
  have hd : Gd 5 fr m0 nl0 t0 (Upd.app st.m (growU 5 (l[k].pid ++ (st.c + 1 + 3 + 2) :: fr) (.slice false (endL (Tr.pidL (l.take k)) 20 31 10 ++ fr) (base ++ bytesD (Tr.encL (l.take k)))))) (st.c + 1 + 3 + 4 + 2) (l[k].pid ++ (st.c + 1 + 3 + 2) :: fr) :=
   Gs.app hG.gs (by omega) (by omega)
  refine got_put htr (.inr ⟨hG.tok, hne⟩) (by simp) (all_app hba (bytes_all _)) (by rw [List.length_append, bytesD_len]; omega) (fitL_get hkl hfit) ?_
  simp only [↓go1, go2, go3, go4, reduceIte, Nat.reduceEqDiff, Nat.reduceAdd, Nat.zero_le, List.length_cons, List.length_nil, h52, h51, h50, hw]
  have hid : endL (Tr.pidL (l.take (k + 1))) 20 31 10 ++ fr = l[k].pid ++ (st.c + 1 + 3 + 2) :: fr := by
   rw [htk, pidL_app]; simp only [Tr.pidL]; rw [endL_snoc, pidL_len, List.length_take, Nat.min_eq_left (by omega), List.append_assoc, hc, show 25 + 10 * k + 1 + 3 + 2 = 31 + 10 * k by omega]; rfl
  refine ih (k + 1) _ _ (by omega) (by omega) (by simp only; omega) rfl h51 h50 ?_ ?_
  ·rw [hid, htk, encL_app, bytesD_app, ← List.append_assoc]; simp only [Tr.encL, List.append_nil]; rfl
  ·rw [hid]; exact hd
end Go.Vd

namespace Go.Vd
open Go.RowKit
set_option maxRecDepth 10000
set_option maxHeartbeats 4000000 in
theorem put_list {P : Program} {S : Summs} {n : Nat} (s80 : S 80 = some (putQ n)) {fr : Id} {m : Mem} {nl : Bool} {t : Id} {xs : List D} {nlx : Bool} {tx : Id} {ys : List D} {l : List Tr} (hfr : ∀ i o, fr <:+ i → m i o = none)
  (hg : growT m 5 nl t xs.isEmpty = true) (ha : xs.all isByteD = true) (hl : xs.length + (Tr.list l).enc.length ≤ 90000000) (hfit : (Tr.list l).fit = true) (hy : allM (trOf n) ys = some l) :
  dc80.wp S fr (Ends [.t 4] fun d m' => d = .slice false ((Tr.list l).pid ++ fr) (xs ++ bytesD (Tr.list l).enc) ∧ ∀ i o y, Upd.app m (growU 5 ((Tr.list l).pid ++ fr) (.slice nl t xs)) i o = some y → m' i o = some y) ⟨entryS [.slice nl t xs, .iface 99 (.slice nlx tx ys)], m, 0⟩ := by
 have hnil : nl = true → xs = [] := growT_nil hg (fun h => List.isEmpty_iff.1 h)
 have G0 : ∀ c, Gs 5 fr m nl t m c nl t := fun c => Gs.start
 obtain ⟨hlen, hget⟩ := allM_some hy
 simp only [Tr.fit, Bool.and_eq_true, decide_eq_true_eq] at hfit
 obtain ⟨hf1, hf2⟩ := hfit
 have hel : (Tr.list l).enc.length = 2 + (Tr.encL l).length := by simp only [Tr.enc, List.length_cons]; omega
 have hm : ((l.length : Int) % 256).toNat = l.length % 256 := by omega
 unfold dc80
 simp only [↓go1, gB4, ↓x_tass, tassV, reduceIte, Nat.reduceEqDiff, Nat.reduceAdd, Nat.reduceSub, Nat.reduceLT, Nat.reduceLeDiff, Nat.zero_add, and_false, false_and, reduceCtorEq, Bool.false_eq_true, List.getElem?_cons_zero, List.getElem?_cons_succ, u8_wrap, hlen, hm]
 refine Need.intro ⟨by omega, rfl, Gs.grow ((G0 19).put (l := []) (k := 19) (by omega)) hfr hg⟩ ?_
 simp only [↓go1, go2, go3, go4, reduceIte, Nat.reduceEqDiff, Nat.reduceAdd, Nat.zero_le, List.length_cons, List.length_nil, hlen]
 have hd : Gd 5 fr m nl t (Upd.app (m.put (19 :: fr) 0 [.tok 6]) (growU 5 (20 :: fr) (.slice nl t xs))) 25 (20 :: fr) :=
  Gs.app (l := []) (k := 20) ((G0 19).put (l := []) (k := 19) (by omega)) (by omega) (by omega)
 have h256 : l.length % 256 < 256 := Nat.mod_lt _ (by omega)
 refine loop80a s80 (base := xs ++ [.int .u8 5, .int .u8 ((l.length % 256 : Nat) : Int)]) (xs := ys) (l := l) hlen hf1 hget hf2 (all_app ha rfl) (by simp only [List.length_append, List.length_cons, List.length_nil]; omega) (fun st c' e0 hG => ?_) l.length 0 _ _ rfl (by omega) rfl rfl rfl rfl ?_ hd
 ·simp only [↓go1, go2, go3, go4, reduceIte, Nat.reduceEqDiff, Nat.reduceAdd, e0]
  refine ⟨?_, hG.fin hfr hg⟩
  simp only [Tr.pid, Tr.enc, bytesD, List.map_cons, List.append_assoc, List.cons_append, List.nil_append]
  rw [toNat_ofNat h256]; rfl
 ·cases nl with
  | true => rw [hnil rfl]; simp [Tr.encL, bytesD]; rfl
  | false => simp [Tr.encL, bytesD]; rfl
end Go.Vd

namespace Go.Vd
open Go.RowKit
set_option maxRecDepth 10000
theorem trOf_iface {n : Nat} {x : D} {v : Tr} (h : trOf n x = some v) : x.un = x ∧ x.calm = true ∧ x.cells = [x] ∧ x.data = true := by
 rcases trOf_inv h with ⟨_, e⟩ | ⟨_, _, e⟩ | ⟨_, _, e⟩ | ⟨_, _, e⟩ | ⟨_, _, _, _, _, _, _, e, _⟩ | ⟨_, _, _, _, _, _, _, e, _⟩ <;> rw [e] <;> exact ⟨rfl, rfl, rfl, rfl⟩
def pairOf (n : Nat) : D → Option (Bs × Tr) := fun x => match x with
  | .agg [.str k, y] => (trOf n y).map fun v => (k, v)
  | _ => none
theorem pairOf_inv {n : Nat} {x : D} {kv : Bs × Tr} (h : pairOf n x = some kv) : ∃ y, x = .agg [.str kv.1, y] ∧ trOf n y = some kv.2 := by
 unfold pairOf at h
 split at h
 ·rename_i k y
  rw [Option.map_eq_some_iff] at h
  obtain ⟨v, hv, rfl⟩ := h
  exact ⟨y, rfl, hv⟩
 ·cases h
theorem fitP_get : ∀ {l : List (Bs × Tr)} {k : Nat} (h : k < l.length), Tr.fitP l = true → l[k].1.length ≤ 65535 ∧ l[k].2.fit = true
 | [], k, h, _ => by simp at h
 | (a, v) :: r, k, h, hf => by
  simp only [Tr.fitP, Bool.and_eq_true, decide_eq_true_eq] at hf
  match k with
  | 0 => exact ⟨hf.1.1, hf.1.2⟩
  | k + 1 => exact fitP_get (l := r) (by simpa using h) hf.2
theorem encP_take {l : List (Bs × Tr)} {k : Nat} (h : k < l.length) : (Tr.encP (l.take k)).length + (rowB l[k].1).length + l[k].2.enc.length ≤ (Tr.encP l).length := by
 have : l = l.take k ++ l[k] :: l.drop (k + 1) := by rw [← List.drop_eq_getElem_cons h, List.take_append_drop]
 have e : (Tr.encP l).length = (Tr.encP (l.take k ++ l[k] :: l.drop (k + 1))).length := by rw [← this]
 rw [e, encP_app]; simp only [Tr.encP, List.length_append]; omega
set_option maxHeartbeats 2000000 in
theorem loop80b {S : Summs} {n : Nat} (s80 : S 80 = some (putQ n)) (s100 : S 100 = some (cQ 5 id F100)) {fr : Id} {m0 : Mem} {nl0 : Bool} {t0 : Id} {base xs : List D} {l : List (Bs × Tr)} {nlx : Bool} {tx : Id} {Q : Ex → St → Prop} (hlen : xs.length = l.length) (hl64 : l.length ≤ 64)
  (hget : ∀ (i : Nat) x (kv : Bs × Tr), xs[i]? = some x → l[i]? = some kv → ∃ y, x = .agg [.str kv.1, y] ∧ trOf n y = some kv.2) (hfit : Tr.fitP l = true)
  (hba : base.all isByteD = true) (hbl : base.length + (Tr.encP l).length ≤ 90000000)
  (hexit : ∀ st' c', st'.s 0 = .slice false (endL (Tr.pidP l) 23 39 15 ++ fr) (base ++ bytesD (Tr.encP l)) → Gd 5 fr m0 nl0 t0 st'.m c' (endL (Tr.pidP l) 23 39 15 ++ fr) → Q (.exit 3) st') :
  ∀ (j k : Nat) st g, j = l.length - k → k ≤ l.length → st.c = 28 + 15 * k → st.s 72 = .int .i64 (k : Int) → st.s 71 = .int .i64 (l.length : Int) → st.s 70 = .slice nlx tx xs → st.s 0 = .slice false (endL (Tr.pidP (l.take k)) 23 39 15 ++ fr) (base ++ bytesD (Tr.encP (l.take k))) →
   Gd 5 fr m0 nl0 t0 st.m st.c (endL (Tr.pidP (l.take k)) 23 39 15 ++ fr) → loopW S fr dc80l1 Q st g := by
 intro j
 induction j with
 | zero =>
  intro k st g hj hk hc h52 h51 h50 h0 hG
  refine wp_loopd dc80l1.eq_1 ?_
  have : ¬ ((k : Int) < l.length) := by omega
  rw [List.take_of_length_le (by omega)] at h0 hG
  simp only [↓go1, go2, go3, go4, reduceIte, Nat.reduceEqDiff, Nat.reduceAdd, h52, h51, this]
  exact hexit _ _ h0 hG
 | succ j ih =>
  intro k st g hj hk hc h52 h51 h50 h0 hG
  refine wp_loopd dc80l1.eq_1 ?_
  have hlt : ((k : Int) < l.length) := by omega
  have hk0 : (0 : Int) ≤ (k : Int) := by omega
  have hkl : k < l.length := by omega
  have hkx : k < xs.length := by omega
  have hw : IntKind.i64.wrap ((k : Int) + 1) = ((k + 1 : Nat) : Int) := by rw [IntWalk.i64_in _ ⟨by omega, by omega⟩]; omega
  obtain ⟨y, hxy, htr⟩ := hget k xs[k] l[k] (List.getElem?_eq_getElem hkx) (List.getElem?_eq_getElem hkl)
  have hx : xs[(k : Int).toNat]? = some (.agg [.str l[k].1, y]) := by simp [hkx, hxy]
  have htk : l.take (k + 1) = l.take k ++ [l[k]] := by rw [List.take_add_one, List.getElem?_eq_getElem hkl]; rfl
  have hel := encP_take hkl
  obtain ⟨hf1, hf2⟩ := fitP_get hkl hfit
  have f100 : F100 [.str l[k].1] = some (bytesD (beB 2 l[k].1.length ++ l[k].1), [17, 3]) := if_pos hf1
  simp only [↓go1, gB2, reduceIte, Nat.reduceEqDiff, Nat.reduceAdd, put2_rd, rd_succ, rd_zero, Nat.one_ne_zero, Nat.zero_ne_one, Nat.le_refl, List.take_succ_cons, List.take_zero, List.drop_zero, D.cells, h52, h51, h50, h0, hlt, hk0, hx, hw, callK_fn s80, callK_fn s100]
  have hG1 := ((hG.more (c' := st.c + 1 + 4) (by omega)).put (l := []) (k := st.c + 1 + 4) (o := 0) (ds := []) (by omega))
  refine got_c (all_app hba (bytes_all _)) (by rw [List.length_append, bytesD_len]; simp only [rowB, List.length_append, beB_len] at hel; omega) f100 ?_
  simp only [↓go1, gB2, reduceIte, Nat.reduceEqDiff, Nat.reduceAdd, put2_rd, rd_succ, rd_zero, Nat.one_ne_zero, Nat.zero_ne_one, Nat.le_refl, List.take_succ_cons, List.take_zero, List.drop_zero, D.cells, h52, h51, h50, h0, hlt, hk0, hx, hw, callK_fn s80, callK_fn s100]
  have hAB : (st.c + 1 + 2) :: fr ≠ [17, 3] ++ (st.c + 1 + 4 + 3) :: fr := mk_ne (l := []) (by omega)
  have hrd : (((st.m.put ((st.c + 1 + 2) :: fr) 0 [D.str [], D.nilIface]).put ((st.c + 1 + 2) :: fr) 0 [D.str l[k].fst, y]).put ([17, 3] ++ (st.c + 1 + 4 + 3) :: fr) 0 [D.tok 6]) ((st.c + 1 + 2) :: fr) 1 = some y := by
   rw [Mem.put_other hAB]; simp [put2_rd]
  obtain ⟨u1, u2, u3, u4⟩ := trOf_iface htr
  refine Got.intro hrd ?_
  simp only [↓go1, gB2, id, reduceIte, Nat.reduceEqDiff, Nat.reduceAdd, put2_rd, hrd, rd_succ, rd_zero, Nat.one_ne_zero, Nat.zero_ne_one, Nat.le_refl, List.take_succ_cons, List.take_zero, List.drop_zero, D.cells, h52, h51, h50, h0, hlt, hk0, hx, hw, callK_fn s80, callK_fn s100]
  have hA : Gd 5 fr m0 nl0 t0 (((st.m.put ((st.c + 1 + 2) :: fr) 0 [D.str [], D.nilIface]).put ((st.c + 1 + 2) :: fr) 0 [D.str l[k].fst, y]).put ([17, 3] ++ (st.c + 1 + 4 + 3) :: fr) 0 [D.tok 6]) (st.c + 1 + 4 + 4) ([17, 3] ++ (st.c + 1 + 4 + 3) :: fr) :=
   Gd.copy (c := st.c) (Gd.put (l := []) (k := st.c + 1 + 2) (Gd.put (l := []) (k := st.c + 1 + 2) hG (by omega)) (by omega)) (by omega) (by omega)
  refine got_put htr (.inr ⟨hA.tok, by simp⟩) (by simp) (all_app (all_app hba (bytes_all _)) (bytes_all _)) (by rw [List.length_append, List.length_append, bytesD_len, bytesD_len]; simp only [rowB, List.length_append, beB_len] at hel ⊢; omega) hf2 ?_
  simp only [↓go1, gB2, id, reduceIte, Nat.reduceEqDiff, Nat.reduceAdd, put2_rd, rd_succ, rd_zero, Nat.one_ne_zero, Nat.zero_ne_one, Nat.le_refl, List.take_succ_cons, List.take_zero, List.drop_zero, D.cells, h52, h51, h50, h0, hlt, hk0, hx, hw, callK_fn s80, callK_fn s100]
  refine Need.intro ?_ ?_
  ·intro p hp w hw
   simp only [List.mem_cons, List.not_mem_nil, or_false] at hp
   subst hp
   simp only [List.getD_cons_succ, List.getD_cons_zero, wlocs, rds] at hw ⊢
   simp only [↓go1, gB2, id, reduceIte, Nat.reduceEqDiff, Nat.reduceAdd, put2_rd, rd_succ, rd_zero, Nat.one_ne_zero, Nat.zero_ne_one, Nat.le_refl, List.take_succ_cons, List.take_zero, List.drop_zero, D.cells, h52, h51, h50, h0, hlt, hk0, hx, hw, callK_fn s80, callK_fn s100]
   exact feet_one (Ne.symm hAB) hw
  simp only [↓go1, gB2, id, reduceIte, Nat.reduceEqDiff, Nat.reduceAdd, put2_rd, rd_succ, rd_zero, Nat.one_ne_zero, Nat.zero_ne_one, Nat.le_refl, List.take_succ_cons, List.take_zero, List.drop_zero, D.cells, h52, h51, h50, h0, hlt, hk0, hx, hw, callK_fn s80, callK_fn s100]
  have hid : endL (Tr.pidP (l.take (k + 1))) 23 39 15 ++ fr = l[k].2.pid ++ (st.c + 1 + 4 + 6) :: fr := by
   rw [htk, pidP_app]; simp only [Tr.pidP]; rw [endL_snoc, pidP_len, List.length_take, Nat.min_eq_left (by omega), List.append_assoc, hc, show 28 + 15 * k + 1 + 4 + 6 = 39 + 15 * k by omega]; rfl
  refine ih (k + 1) _ _ (by omega) (by omega) (by show st.c + 1 + 4 + 8 + 2 = _; omega) rfl h51 h50 ?_ ?_
  ·rw [hid, htk, encP_app, bytesD_app, ← List.append_assoc]; simp only [Tr.encP, List.append_nil, bytesD_app, rowB, List.append_assoc]; rfl
  ·rw [hid]; exact Gs.app (c' := st.c + 1 + 4 + 8 + 2) hA.gs (by omega) (by omega)
set_option maxHeartbeats 4000000 in
theorem put_pairs {P : Program} {S : Summs} {n : Nat} (s80 : S 80 = some (putQ n)) (s100 : S 100 = some (cQ 5 id F100)) {fr : Id} {m : Mem} {nl : Bool} {t : Id} {xs : List D} {nlx : Bool} {tx : Id} {ys : List D} {l : List (Bs × Tr)} (hfr : ∀ i o, fr <:+ i → m i o = none)
  (hg : growT m 5 nl t xs.isEmpty = true) (ha : xs.all isByteD = true) (hl : xs.length + (Tr.pairs l).enc.length ≤ 90000000) (hfit : (Tr.pairs l).fit = true) (hy : allM (pairOf n) ys = some l) :
  dc80.wp S fr (Ends [.t 4] fun d m' => d = .slice false ((Tr.pairs l).pid ++ fr) (xs ++ bytesD (Tr.pairs l).enc) ∧ ∀ i o y, Upd.app m (growU 5 ((Tr.pairs l).pid ++ fr) (.slice nl t xs)) i o = some y → m' i o = some y) ⟨entryS [.slice nl t xs, .iface 85 (.slice nlx tx ys)], m, 0⟩ := by
 have hnil : nl = true → xs = [] := growT_nil hg (fun h => List.isEmpty_iff.1 h)
 have G0 : ∀ c, Gs 5 fr m nl t m c nl t := fun c => Gs.start
 obtain ⟨hlen, hget⟩ := allM_some hy
 simp only [Tr.fit, Bool.and_eq_true, decide_eq_true_eq] at hfit
 obtain ⟨hf1, hf2⟩ := hfit
 have hel : (Tr.pairs l).enc.length = 2 + (Tr.encP l).length := by simp only [Tr.enc, List.length_cons]; omega
 have hm : ((l.length : Int) % 256).toNat = l.length % 256 := by omega
 unfold dc80
 simp only [↓go1, gB4, ↓x_tass, tassV, reduceIte, Nat.reduceEqDiff, Nat.reduceAdd, Nat.reduceSub, Nat.reduceLT, Nat.reduceLeDiff, Nat.zero_add, and_false, false_and, reduceCtorEq, Bool.false_eq_true, List.getElem?_cons_zero, List.getElem?_cons_succ, u8_wrap, hlen, hm]
 refine Need.intro ⟨by omega, rfl, Gs.grow ((G0 22).put (l := []) (k := 22) (by omega)) hfr hg⟩ ?_
 simp only [↓go1, go2, go3, go4, reduceIte, Nat.reduceEqDiff, Nat.reduceAdd, Nat.zero_le, List.length_cons, List.length_nil, hlen]
 have hd : Gd 5 fr m nl t (Upd.app (m.put (22 :: fr) 0 [.tok 6]) (growU 5 (23 :: fr) (.slice nl t xs))) 28 (23 :: fr) :=
  Gs.app (l := []) (k := 23) ((G0 22).put (l := []) (k := 22) (by omega)) (by omega) (by omega)
 have h256 : l.length % 256 < 256 := Nat.mod_lt _ (by omega)
 refine loop80b s80 s100 (base := xs ++ [.int .u8 6, .int .u8 ((l.length % 256 : Nat) : Int)]) (xs := ys) (l := l) hlen hf1 (fun i x kv h1 h2 => pairOf_inv (hget i x kv h1 h2)) hf2 (all_app ha rfl) (by simp only [List.length_append, List.length_cons, List.length_nil]; omega) (fun st c' e0 hG => ?_) l.length 0 _ _ rfl (by omega) rfl rfl rfl rfl ?_ hd
 ·simp only [↓go1, go2, go3, go4, reduceIte, Nat.reduceEqDiff, Nat.reduceAdd, e0]
  refine ⟨?_, hG.fin hfr hg⟩
  simp only [Tr.pid, Tr.enc, bytesD, List.map_cons, List.append_assoc, List.cons_append, List.nil_append]
  rw [toNat_ofNat h256]; rfl
 ·cases nl with
  | true => rw [hnil rfl]; simp [Tr.encP, bytesD]; rfl
  | false => simp [Tr.encP, bytesD]; rfl
theorem trOf_inv2 {n : Nat} {d : D} {v : Tr} (h : trOf n d = some v) :
  ((v = .nil ∧ d = .nilIface) ∨ (∃ b, v = .tr b ∧ d = .iface 4 (.bool b)) ∨ (∃ k, v = .num k ∧ d = .iface 86 (.int .u64 k)) ∨ (∃ s, v = .text s ∧ d = .iface 9 (.str s))) ∨
  (∃ m nl t xs l, n = m + 1 ∧ v = .list l ∧ d = .iface 99 (.slice nl t xs) ∧ allM (trOf m) xs = some l) ∨
  (∃ m nl t xs l, n = m + 1 ∧ v = .pairs l ∧ d = .iface 85 (.slice nl t xs) ∧ allM (pairOf m) xs = some l) := by
 rcases trOf_inv h with a | a | a | a | a | a
 ·exact .inl (.inl a)
 ·exact .inl (.inr (.inl a))
 ·exact .inl (.inr (.inr (.inl a)))
 ·exact .inl (.inr (.inr (.inr a)))
 ·exact .inr (.inl a)
 ·exact .inr (.inr a)
theorem ok80 {P : Program} (hb : DeskB P) (h121 : grownQ.ok P 121) : ∀ n, (putQ n).ok P 80
 | 0 => by
  have hS : Summs.ok P (tabL [(99, cQ 5 id F99), (100, cQ 5 id F100)]) := tabL_cons (ok99 hb h121) (tabL_cons (ok100 hb h121) tabL_nil)
  refine opn_ok2 (S := tabL [(99, cQ 5 id F99), (100, cQ 5 id F100)]) hS hb.f80 putQ_loc (fun ds m fr d u h hfr => ?_)
  obtain ⟨nl, t, xs, x, v, rfl, hv, hg, ha, hl, hf, rfl, rfl⟩ := putQ_inv h
  refine ⟨by simp, ?_⟩
  rcases trOf_inv2 hv with h1 | ⟨_, _, _, _, _, e, _⟩ | ⟨_, _, _, _, _, e, _⟩
  ·exact put_leaf (P := P) rfl rfl hfr hg ha hl hf h1
  ·cases e
  ·cases e
 | n + 1 => by
  have hS : Summs.ok P (tabL [(99, cQ 5 id F99), (100, cQ 5 id F100), (80, putQ n)]) := tabL_cons (ok99 hb h121) (tabL_cons (ok100 hb h121) (tabL_cons (ok80 hb h121 n) tabL_nil))
  refine opn_ok2 (S := tabL [(99, cQ 5 id F99), (100, cQ 5 id F100), (80, putQ n)]) hS hb.f80 putQ_loc (fun ds m fr d u h hfr => ?_)
  obtain ⟨nl, t, xs, x, v, rfl, hv, hg, ha, hl, hf, rfl, rfl⟩ := putQ_inv h
  refine ⟨by simp, ?_⟩
  rcases trOf_inv2 hv with h1 | ⟨_, _, _, _, _, e, rfl, rfl, hy⟩ | ⟨_, _, _, _, _, e, rfl, rfl, hy⟩
  ·exact put_leaf (P := P) rfl rfl hfr hg ha hl hf h1
  ·obtain rfl := Nat.succ.inj e
   exact put_list (P := P) rfl hfr hg ha hl hf hy
  ·obtain rfl := Nat.succ.inj e
   exact put_pairs (P := P) rfl rfl hfr hg ha hl hf hy
end Go.Vd

namespace Go.Vd
open Go.RowKit
set_option maxRecDepth 10000
def F134 : List D → Option D
 | [.int .i64 k, .int .i64 n] => some (.int .i64 (if 4 ≤ k then 24 else if 64 < n then 5 else 0))
 | _ => none
theorem ok134 {P : Program} (hb : DeskB P) : (funS F134).ok P 134 := by
 refine fun_ok (S := fun _ => none) none_ok hb.f134 (fun ds r h => ?_) (fun ds r h => ?_)
 ·unfold F134 at h; split at h
  ·simp
  ·cases h
 ·unfold F134 at h; split at h
  ·rename_i k n
   simp only [Option.some.injEq] at h
   subst h
   unfold dc134
   by_cases h1 : 4 ≤ k
   ·have h1' : ((4 : Int) ≤ k) = True := eq_true h1
    simp only [↓go1, gB4, reduceIte, Nat.reduceEqDiff, Nat.reduceAdd, Nat.reduceSub, Nat.reduceLT, Nat.reduceLeDiff, Nat.zero_add, h1']
   ·have h1' : ((4 : Int) ≤ k) = False := eq_false h1
    by_cases h2 : 64 < n
    ·have h2' : ((64 : Int) < n) = True := eq_true h2
     simp only [↓go1, gB4, reduceIte, Nat.reduceEqDiff, Nat.reduceAdd, Nat.reduceSub, Nat.reduceLT, Nat.reduceLeDiff, Nat.zero_add, h1', h2']
    ·have h2' : ((64 : Int) < n) = False := eq_false h2
     simp only [↓go1, gB4, reduceIte, Nat.reduceEqDiff, Nat.reduceAdd, Nat.reduceSub, Nat.reduceLT, Nat.reduceLeDiff, Nat.zero_add, h1', h2']
  ·cases h
def ascP : List (Bs × Tr) → Bool
 | [] => true
 | (a, _) :: r => (match r with
  | [] => true
  | (b, _) :: _ => Op.bytesLess a b) && ascP r
mutual
def Tr.good : Tr → Bool
 | .list l => Tr.goodL l
 | .pairs l => ascP l && Tr.goodP l
 | _ => true
def Tr.goodL : List Tr → Bool
 | [] => true
 | v :: r => Tr.good v && Tr.goodL r
def Tr.goodP : List (Bs × Tr) → Bool
 | [] => true
 | (_, v) :: r => Tr.good v && Tr.goodP r
end
theorem goodL_get : ∀ {l : List Tr} {k : Nat} (h : k < l.length), Tr.goodL l = true → l[k].good = true
 | [], k, h, _ => by simp at h
 | v :: r, k, h, hf => by
  simp only [Tr.goodL, Bool.and_eq_true] at hf
  match k with
  | 0 => exact hf.1
  | k + 1 => exact goodL_get (l := r) (by simpa using h) hf.2
theorem goodP_get : ∀ {l : List (Bs × Tr)} {k : Nat} (h : k < l.length), Tr.goodP l = true → l[k].2.good = true
 | [], k, h, _ => by simp at h
 | (a, v) :: r, k, h, hf => by
  simp only [Tr.goodP, Bool.and_eq_true] at hf
  match k with
  | 0 => exact hf.1
  | k + 1 => exact goodP_get (l := r) (by simpa using h) hf.2
theorem ascP_get : ∀ {l : List (Bs × Tr)} {k : Nat} (h : k + 1 < l.length), ascP l = true → Op.bytesLess l[k].1 l[k + 1].1 = true
 | [], k, h, _ => by simp at h
 | [a], k, h, _ => by simp at h
 | (a, v) :: (b, w) :: r, k, h, hf => by
  simp only [ascP, Bool.and_eq_true] at hf
  match k with
  | 0 => exact hf.1
  | k + 1 => exact ascP_get (l := (b, w) :: r) (by simpa using h) (by simp only [ascP, Bool.and_eq_true]; exact hf.2)
def Fchk (n : Nat) : List D → Option D
 | [d, .int .i64 k] => match trOf n d with
  | some v => if v.fit = true ∧ v.good = true ∧ 0 ≤ k ∧ k + n ≤ 4 then some (.int .i64 0) else none
  | none => none
 | _ => none
def F118 (n : Nat) : List D → Option D
 | [.slice _ _ xs, .int .i64 k] => match allM (trOf n) xs with
  | some l => if (Tr.list l).fit = true ∧ (Tr.list l).good = true ∧ 0 ≤ k ∧ k + n < 4 then some (.int .i64 0) else none
  | none => none
 | _ => none
def F119 (n : Nat) : List D → Option D
 | [.slice _ _ xs, .int .i64 k] => match allM (pairOf n) xs with
  | some l => if (Tr.pairs l).fit = true ∧ (Tr.pairs l).good = true ∧ 0 ≤ k ∧ k + n < 4 then some (.int .i64 0) else none
  | none => none
 | _ => none
theorem ok98z {P : Program} (hb : DeskB P) : (funS (Fchk 0)).ok P 98 := by
 refine fun_ok (S := fun _ => none) none_ok hb.f98 (fun ds r h => ?_) (fun ds r h => ?_)
 ·unfold Fchk at h; split at h
  ·simp
  ·cases h
 ·unfold Fchk at h; split at h
  ·rename_i d k
   split at h
   ·rename_i v hv
    split at h
    ·rename_i hc
     simp only [Option.some.injEq] at h
     subst h
     unfold dc98
     rcases trOf_inv hv with ⟨rfl, rfl⟩ | ⟨b, rfl, rfl⟩ | ⟨k, rfl, rfl⟩ | ⟨s, rfl, rfl⟩ | ⟨m, _, _, _, _, e, _⟩ | ⟨m, _, _, _, _, e, _⟩
     ·simp only [↓go1, gB4, ↓x_tass, tassV, nilEq, bne_self_eq_false, Bool.bne_false, Bool.false_bne, reduceIte, Nat.reduceEqDiff, Nat.reduceAdd, Nat.reduceSub, Nat.reduceLT, Nat.reduceLeDiff, Nat.zero_add, and_false, false_and, reduceCtorEq, Bool.false_eq_true, List.getElem?_cons_zero, List.getElem?_cons_succ]
     ·simp only [↓go1, gB4, ↓x_tass, tassV, nilEq, bne_self_eq_false, Bool.bne_false, Bool.false_bne, reduceIte, Nat.reduceEqDiff, Nat.reduceAdd, Nat.reduceSub, Nat.reduceLT, Nat.reduceLeDiff, Nat.zero_add, and_false, false_and, reduceCtorEq, Bool.false_eq_true, List.getElem?_cons_zero, List.getElem?_cons_succ]
     ·simp only [↓go1, gB4, ↓x_tass, tassV, nilEq, bne_self_eq_false, Bool.bne_false, Bool.false_bne, reduceIte, Nat.reduceEqDiff, Nat.reduceAdd, Nat.reduceSub, Nat.reduceLT, Nat.reduceLeDiff, Nat.zero_add, and_false, false_and, reduceCtorEq, Bool.false_eq_true, List.getElem?_cons_zero, List.getElem?_cons_succ]
     ·have hs : s.length ≤ 65535 := by simpa [Tr.fit] using hc.1
      have hs' : ((65535 : Int) < (s.length : Int)) = False := eq_false (by omega)
      simp only [↓go1, gB4, ↓x_tass, tassV, nilEq, bne_self_eq_false, Bool.bne_false, Bool.false_bne, reduceIte, Nat.reduceEqDiff, Nat.reduceAdd, Nat.reduceSub, Nat.reduceLT, Nat.reduceLeDiff, Nat.zero_add, and_false, false_and, reduceCtorEq, Bool.false_eq_true, List.getElem?_cons_zero, List.getElem?_cons_succ, hs']
     ·omega
     ·omega
    ·cases h
   ·cases h
  ·cases h
theorem ok98s {P : Program} (hb : DeskB P) {n : Nat} (h118 : (funS (F118 n)).ok P 118) (h119 : (funS (F119 n)).ok P 119) : (funS (Fchk (n + 1))).ok P 98 := by
 have hS : Summs.ok P (tabL [(118, funS (F118 n)), (119, funS (F119 n))]) := tabL_cons h118 (tabL_cons h119 tabL_nil)
 have s118 : tabL [(118, funS (F118 n)), (119, funS (F119 n))] 118 = some (funS (F118 n)) := rfl
 have s119 : tabL [(118, funS (F118 n)), (119, funS (F119 n))] 119 = some (funS (F119 n)) := rfl
 generalize tabL [(118, funS (F118 n)), (119, funS (F119 n))] = S at hS s118 s119
 refine fun_ok (S := S) hS hb.f98 (fun ds r h => ?_) (fun ds r h => ?_)
 ·unfold Fchk at h; split at h
  ·simp
  ·cases h
 ·unfold Fchk at h; split at h
  ·rename_i d k
   split at h
   ·rename_i v hv
    split at h
    ·rename_i hc
     simp only [Option.some.injEq] at h
     subst h
     unfold dc98
     rcases trOf_inv hv with ⟨rfl, rfl⟩ | ⟨b, rfl, rfl⟩ | ⟨k, rfl, rfl⟩ | ⟨s, rfl, rfl⟩ | ⟨m, nl, t, ys, l, e, rfl, rfl, hy⟩ | ⟨m, nl, t, ys, l, e, rfl, rfl, hy⟩
     ·simp only [↓go1, gB4, ↓x_tass, tassV, nilEq, bne_self_eq_false, Bool.bne_false, Bool.false_bne, reduceIte, Nat.reduceEqDiff, Nat.reduceAdd, Nat.reduceSub, Nat.reduceLT, Nat.reduceLeDiff, Nat.zero_add, and_false, false_and, reduceCtorEq, Bool.false_eq_true, List.getElem?_cons_zero, List.getElem?_cons_succ, callK_fun s118, callK_fun s119]
     ·simp only [↓go1, gB4, ↓x_tass, tassV, nilEq, bne_self_eq_false, Bool.bne_false, Bool.false_bne, reduceIte, Nat.reduceEqDiff, Nat.reduceAdd, Nat.reduceSub, Nat.reduceLT, Nat.reduceLeDiff, Nat.zero_add, and_false, false_and, reduceCtorEq, Bool.false_eq_true, List.getElem?_cons_zero, List.getElem?_cons_succ, callK_fun s118, callK_fun s119]
     ·simp only [↓go1, gB4, ↓x_tass, tassV, nilEq, bne_self_eq_false, Bool.bne_false, Bool.false_bne, reduceIte, Nat.reduceEqDiff, Nat.reduceAdd, Nat.reduceSub, Nat.reduceLT, Nat.reduceLeDiff, Nat.zero_add, and_false, false_and, reduceCtorEq, Bool.false_eq_true, List.getElem?_cons_zero, List.getElem?_cons_succ, callK_fun s118, callK_fun s119]
     ·have hs : s.length ≤ 65535 := by simpa [Tr.fit] using hc.1
      have hs' : ((65535 : Int) < (s.length : Int)) = False := eq_false (by omega)
      simp only [↓go1, gB4, ↓x_tass, tassV, nilEq, bne_self_eq_false, Bool.bne_false, Bool.false_bne, reduceIte, Nat.reduceEqDiff, Nat.reduceAdd, Nat.reduceSub, Nat.reduceLT, Nat.reduceLeDiff, Nat.zero_add, and_false, false_and, reduceCtorEq, Bool.false_eq_true, List.getElem?_cons_zero, List.getElem?_cons_succ, callK_fun s118, callK_fun s119, hs']
     ·obtain rfl := Nat.succ.inj e
      have f118 : ∀ nl t, F118 n [.slice nl t ys, .int .i64 k] = some (.int .i64 0) := fun nl t => by
       simp only [F118, hy]; exact if_pos ⟨hc.1, hc.2.1, hc.2.2.1, by have := hc.2.2.2; omega⟩
      simp only [↓go1, gB4, ↓x_tass, tassV, nilEq, bne_self_eq_false, Bool.bne_false, Bool.false_bne, reduceIte, Nat.reduceEqDiff, Nat.reduceAdd, Nat.reduceSub, Nat.reduceLT, Nat.reduceLeDiff, Nat.zero_add, and_false, false_and, reduceCtorEq, Bool.false_eq_true, List.getElem?_cons_zero, List.getElem?_cons_succ, callK_fun s118, callK_fun s119, f118]
     ·obtain rfl := Nat.succ.inj e
      have f119 : ∀ nl t, F119 n [.slice nl t ys, .int .i64 k] = some (.int .i64 0) := fun nl t => by
       simp only [F119, show allM (pairOf n) ys = some l from hy]; exact if_pos ⟨hc.1, hc.2.1, hc.2.2.1, by have := hc.2.2.2; omega⟩
      simp only [↓go1, gB4, ↓x_tass, tassV, nilEq, bne_self_eq_false, Bool.bne_false, Bool.false_bne, reduceIte, Nat.reduceEqDiff, Nat.reduceAdd, Nat.reduceSub, Nat.reduceLT, Nat.reduceLeDiff, Nat.zero_add, and_false, false_and, reduceCtorEq, Bool.false_eq_true, List.getElem?_cons_zero, List.getElem?_cons_succ, callK_fun s118, callK_fun s119, f119]
    ·cases h
   ·cases h
  ·cases h
theorem loop118 {S : Summs} {n : Nat} (s98 : S 98 = some (funS (Fchk n))) {xs : List D} {l : List Tr} {nl : Bool} {t : Id} {d : Int} {Q : Ex → St → Prop} (hlen : xs.length = l.length) (hl64 : l.length ≤ 64)
  (hget : ∀ (i : Nat) x v, xs[i]? = some x → l[i]? = some v → trOf n x = some v) (hfit : Tr.fitL l = true) (hgood : Tr.goodL l = true) (hd0 : 0 ≤ d) (hd : d + n < 4) (hexit : ∀ st, Q (.exit 0) st) :
  ∀ (j k : Nat) st g, j = l.length - k → k ≤ l.length → st.s 18 = .int .i64 (k : Int) → st.s 17 = .int .i64 (l.length : Int) → st.s 16 = .slice nl t xs → st.s 1 = .int .i64 d → loopW S [] dc118l0 Q st g := by
 intro j
 induction j with
 | zero =>
  intro k st g hj hk h18 h17 h16 h1
  refine wp_loopd dc118l0.eq_1 ?_
  have : ¬ ((k : Int) < l.length) := by omega
  simp only [↓go1, go2, go3, go4, reduceIte, Nat.reduceEqDiff, Nat.reduceAdd, h18, h17, this]
  exact hexit _
 | succ j ih =>
  intro k st g hj hk h18 h17 h16 h1
  refine wp_loopd dc118l0.eq_1 ?_
  have hlt : ((k : Int) < l.length) := by omega
  have hk0 : (0 : Int) ≤ (k : Int) := by omega
  have hkl : k < l.length := by omega
  have hkx : k < xs.length := by omega
  have hx : xs[(k : Int).toNat]? = some xs[k] := by simp [hkx]
  have hw : IntKind.i64.wrap ((k : Int) + 1) = ((k + 1 : Nat) : Int) := by rw [IntWalk.i64_in _ ⟨by omega, by omega⟩]; omega
  have hwd : IntKind.i64.wrap (d + 1) = d + 1 := IntWalk.i64_in _ ⟨by omega, by omega⟩
  have htr := hget k xs[k] l[k] (List.getElem?_eq_getElem hkx) (List.getElem?_eq_getElem hkl)
  obtain ⟨u1, u2, u3, u4⟩ := trOf_iface htr
  have f98 : Fchk n [xs[k], .int .i64 (d + 1)] = some (.int .i64 0) := by
   simp only [Fchk, htr]; exact if_pos ⟨fitL_get hkl hfit, goodL_get hkl hgood, by omega, by omega⟩
  generalize xs[k] = x at hx htr u1 u2 u3 u4 f98
  simp only [↓go1, go2, go3, go4, reduceIte, Nat.reduceEqDiff, Nat.reduceAdd, Nat.zero_le, List.length_cons, List.length_nil, h18, h17, h16, h1, hlt, hk0, hx, hw, hwd, u1, u2, u3, u4, f98, callK_fun s98]
  exact ih (k + 1) _ _ (by omega) (by omega) rfl h17 h16 h1
theorem ok118 {P : Program} (hb : DeskB P) {n : Nat} (h98 : (funS (Fchk n)).ok P 98) : (funS (F118 n)).ok P 118 := by
 have hS : Summs.ok P (tabL [(98, funS (Fchk n)), (134, funS F134)]) := tabL_cons h98 (tabL_cons (ok134 hb) tabL_nil)
 have s98 : tabL [(98, funS (Fchk n)), (134, funS F134)] 98 = some (funS (Fchk n)) := rfl
 have s134 : tabL [(98, funS (Fchk n)), (134, funS F134)] 134 = some (funS F134) := rfl
 generalize tabL [(98, funS (Fchk n)), (134, funS F134)] = S at hS s98 s134
 refine fun_ok (S := S) hS hb.f118 (fun ds r h => ?_) (fun ds r h => ?_)
 ·unfold F118 at h; split at h
  ·simp
  ·cases h
 ·unfold F118 at h; split at h
  ·rename_i nl t xs k
   split at h
   ·rename_i l hy
    split at h
    ·rename_i hc
     simp only [Option.some.injEq] at h
     subst h
     obtain ⟨hlen, hget⟩ := allM_some hy
     obtain ⟨hf, hg, hk0, hk4⟩ := hc
     simp only [Tr.fit, Bool.and_eq_true, decide_eq_true_eq] at hf
     have f134 : F134 [.int .i64 k, .int .i64 (l.length : Int)] = some (.int .i64 0) := by
      simp only [F134]; rw [if_neg (by omega), if_neg (by omega)]
     unfold dc118
     simp only [↓go1, go2, go3, go4, reduceIte, Nat.reduceEqDiff, Nat.reduceAdd, Nat.zero_le, List.length_cons, List.length_nil, hlen, f134, callK_fun s134]
     exact loop118 s98 hlen hf.1 hget hf.2 hg hk0 hk4 (fun st => by simp only [↓go1, go2, go3, go4, reduceIte, Nat.reduceEqDiff, Nat.reduceAdd]) l.length 0 _ _ rfl (by omega) rfl rfl rfl rfl
    ·cases h
   ·cases h
  ·cases h
theorem v_sgeq {x y : List UInt8} : evBin .geq (.str x) (.str y) = some (.bool (!(Op.bytesLess x y))) := rfl
set_option maxHeartbeats 1000000 in
theorem loop119 {S : Summs} {n : Nat} (s98 : S 98 = some (funS (Fchk n))) {xs : List D} {l : List (Bs × Tr)} {nl nl2 : Bool} {t t2 : Id} {d : Int} {Q : Ex → St → Prop} (hlen : xs.length = l.length) (hl64 : l.length ≤ 64)
  (hget : ∀ (i : Nat) x kv, xs[i]? = some x → l[i]? = some kv → pairOf n x = some kv) (hfit : Tr.fitP l = true) (hgood : Tr.goodP l = true) (hasc : ascP l = true) (hd0 : 0 ≤ d) (hd : d + n < 4) (hexit : ∀ st, Q (.exit 0) st) :
  ∀ (j k : Nat) st g, j = l.length - k → k ≤ l.length → st.s 18 = .int .i64 (k : Int) → st.s 17 = .int .i64 (l.length : Int) → st.s 16 = .slice nl t xs → st.s 0 = .slice nl2 t2 xs → st.s 1 = .int .i64 d → loopW S [] dc119l0 Q st g := by
 intro j
 induction j with
 | zero =>
  intro k st g hj hk h18 h17 h16 h0 h1
  refine wp_loopd dc119l0.eq_1 ?_
  have : ¬ ((k : Int) < l.length) := by omega
  simp only [↓go1, go2, go3, go4, reduceIte, Nat.reduceEqDiff, Nat.reduceAdd, h18, h17, this]
  exact hexit _
 | succ j ih =>
  intro k st g hj hk h18 h17 h16 h0 h1
  refine wp_loopd dc119l0.eq_1 ?_
  have hlt : ((k : Int) < l.length) := by omega
  have hk0 : (0 : Int) ≤ (k : Int) := by omega
  have hkl : k < l.length := by omega
  have hkx : k < xs.length := by omega
  have hw : IntKind.i64.wrap ((k : Int) + 1) = ((k + 1 : Nat) : Int) := by rw [IntWalk.i64_in _ ⟨by omega, by omega⟩]; omega
  have hwd : IntKind.i64.wrap (d + 1) = d + 1 := IntWalk.i64_in _ ⟨by omega, by omega⟩
  obtain ⟨y, hxy, htr⟩ := pairOf_inv (hget k xs[k] l[k] (List.getElem?_eq_getElem hkx) (List.getElem?_eq_getElem hkl))
  have hx : xs[(k : Int).toNat]? = some (.agg [.str l[k].1, y]) := by simp [hkx, hxy]
  obtain ⟨u1, u2, u3, u4⟩ := trOf_iface htr
  obtain ⟨hf1, hf2⟩ := fitP_get hkl hfit
  have hlen5 : ((65535 : Int) < (l[k].1.length : Int)) = False := eq_false (by omega)
  have f98 : Fchk n [y, .int .i64 (d + 1)] = some (.int .i64 0) := by
   simp only [Fchk, htr]; exact if_pos ⟨hf2, goodP_get hkl hgood, by omega, by omega⟩
  by_cases hz : k = 0
  ·subst hz
   have hzz : ((0 : Int) < ((0 : Nat) : Int)) = False := eq_false (by omega)
   simp only [↓go1, gB2, reduceIte, Nat.reduceEqDiff, Nat.reduceAdd, put2_rd, rd_succ, rd_zero, Nat.one_ne_zero, Nat.zero_ne_one, Nat.le_refl, List.take_succ_cons, List.take_zero, List.drop_zero, D.cells, h18, h17, h16, h0, h1, hlt, hk0, hx, hw, hwd, u1, u2, u3, u4, f98, hlen5, hzz, callK_fun s98]
   refine Need.intro (fun p hp => by cases hp) ?_
   simp only [↓go1, gB2, reduceIte, Nat.reduceEqDiff, Nat.reduceAdd, put2_rd, rd_succ, rd_zero, Nat.one_ne_zero, Nat.zero_ne_one, Nat.le_refl, List.take_succ_cons, List.take_zero, List.drop_zero, D.cells, h18, h17, h16, h0, h1, hlt, hk0, hx, hw, hwd, u1, u2, u3, u4, f98, hlen5, hzz, callK_fun s98]
   exact ih _ _ _ (by omega) (by omega) rfl h17 h16 h0 h1
  ·have hzz : ((0 : Int) < (k : Int)) = True := eq_true (by omega)
   have hpx : k - 1 < xs.length := by omega
   have hpl : k - 1 < l.length := by omega
   obtain ⟨y', hxy', htr'⟩ := pairOf_inv (hget (k - 1) xs[k - 1] l[k - 1] (List.getElem?_eq_getElem hpx) (List.getElem?_eq_getElem hpl))
   have hx' : xs[((k : Int) - 1).toNat]? = some (.agg [.str l[k - 1].1, y']) := by
    rw [show ((k : Int) - 1).toNat = k - 1 by omega]; simp [hpx, hxy']
   have hwm : IntKind.i64.wrap ((k : Int) - 1) = (k : Int) - 1 := IntWalk.i64_in _ ⟨by omega, by omega⟩
   have hk1 : (0 : Int) ≤ (k : Int) - 1 := by omega
   have has : Op.bytesLess l[k - 1].1 l[k].1 = true := by
    have := ascP_get (l := l) (k := k - 1) (by omega) hasc
    simpa [show k - 1 + 1 = k by omega] using this
   simp only [↓go1, gB2, reduceIte, Nat.reduceEqDiff, Nat.reduceAdd, put2_rd, rd_succ, rd_zero, Nat.one_ne_zero, Nat.zero_ne_one, Nat.le_refl, List.take_succ_cons, List.take_zero, List.drop_zero, D.cells, h18, h17, h16, h0, h1, hlt, hk0, hx, hw, hwd, u1, u2, u3, u4, f98, hlen5, hzz, hx', hwm, hk1, v_sgeq, has, callK_fun s98]
   refine Need.intro (fun p hp => by cases hp) ?_
   simp only [↓go1, gB2, reduceIte, Nat.reduceEqDiff, Nat.reduceAdd, put2_rd, rd_succ, rd_zero, Nat.one_ne_zero, Nat.zero_ne_one, Nat.le_refl, List.take_succ_cons, List.take_zero, List.drop_zero, D.cells, h18, h17, h16, h0, h1, hlt, hk0, hx, hw, hwd, u1, u2, u3, u4, f98, hlen5, hzz, hx', hwm, hk1, v_sgeq, has, callK_fun s98]
   exact ih _ _ _ (by omega) (by omega) rfl h17 h16 h0 h1
theorem ok119 {P : Program} (hb : DeskB P) {n : Nat} (h98 : (funS (Fchk n)).ok P 98) : (funS (F119 n)).ok P 119 := by
 have hS : Summs.ok P (tabL [(98, funS (Fchk n)), (134, funS F134)]) := tabL_cons h98 (tabL_cons (ok134 hb) tabL_nil)
 have s98 : tabL [(98, funS (Fchk n)), (134, funS F134)] 98 = some (funS (Fchk n)) := rfl
 have s134 : tabL [(98, funS (Fchk n)), (134, funS F134)] 134 = some (funS F134) := rfl
 generalize tabL [(98, funS (Fchk n)), (134, funS F134)] = S at hS s98 s134
 refine fun_ok (S := S) hS hb.f119 (fun ds r h => ?_) (fun ds r h => ?_)
 ·unfold F119 at h; split at h
  ·simp
  ·cases h
 ·unfold F119 at h; split at h
  ·rename_i nl t xs k
   split at h
   ·rename_i l hy
    split at h
    ·rename_i hc
     simp only [Option.some.injEq] at h
     subst h
     obtain ⟨hlen, hget⟩ := allM_some hy
     obtain ⟨hf, hg, hk0, hk4⟩ := hc
     simp only [Tr.fit, Bool.and_eq_true, decide_eq_true_eq] at hf
     simp only [Tr.good, Bool.and_eq_true] at hg
     have f134 : F134 [.int .i64 k, .int .i64 (l.length : Int)] = some (.int .i64 0) := by
      simp only [F134]; rw [if_neg (by omega), if_neg (by omega)]
     unfold dc119
     simp only [↓go1, go2, go3, go4, reduceIte, Nat.reduceEqDiff, Nat.reduceAdd, Nat.zero_le, List.length_cons, List.length_nil, hlen, f134, callK_fun s134]
     exact loop119 s98 hlen hf.1 hget hf.2 hg.2 hg.1 hk0 hk4 (fun st => by simp only [↓go1, go2, go3, go4, reduceIte, Nat.reduceEqDiff, Nat.reduceAdd]) l.length 0 _ _ rfl (by omega) rfl rfl rfl rfl rfl
    ·cases h
   ·cases h
  ·cases h
theorem ok98 {P : Program} (hb : DeskB P) : ∀ n, (funS (Fchk n)).ok P 98
 | 0 => ok98z hb
 | n + 1 => ok98s hb (ok118 hb (ok98 hb n)) (ok119 hb (ok98 hb n))
def F79 : List D → Option D
 | [d] => match trOf 4 d with
  | some v => if v.fit = true ∧ v.good = true then some (.int .i64 0) else none
  | none => none
 | _ => none
theorem ok79 {P : Program} (hb : DeskB P) : (funS F79).ok P 79 := by
 have hS : Summs.ok P (tabL [(98, funS (Fchk 4))]) := tabL_cons (ok98 hb 4) tabL_nil
 have s98 : tabL [(98, funS (Fchk 4))] 98 = some (funS (Fchk 4)) := rfl
 generalize tabL [(98, funS (Fchk 4))] = S at hS s98
 refine fun_ok (S := S) hS hb.f79 (fun ds r h => ?_) (fun ds r h => ?_)
 ·unfold F79 at h; split at h
  ·simp
  ·cases h
 ·unfold F79 at h; split at h
  ·rename_i d
   split at h
   ·rename_i v hv
    split at h
    ·rename_i hc
     simp only [Option.some.injEq] at h
     subst h
     obtain ⟨u1, u2, u3, u4⟩ := trOf_iface hv
     have f98 : Fchk 4 [d, .int .i64 0] = some (.int .i64 0) := by
      simp only [Fchk, hv]; exact if_pos ⟨hc.1, hc.2, by omega, by omega⟩
     unfold dc79
     simp only [↓go1, gB4, reduceIte, Nat.reduceEqDiff, Nat.reduceAdd, Nat.reduceSub, Nat.reduceLT, u1, u2, u3, u4, f98, callK_fun s98]
    ·cases h
   ·cases h
  ·cases h
end Go.Vd

namespace Go.Vd
open Go.RowKit
set_option maxRecDepth 10000
section
variable {k : TypeId} {d : D}
theorem data_if : D.data (.iface k d) = true := rfl
theorem cells_if : D.cells (.iface k d) = [.iface k d] := rfl
theorem un_if : D.un (.iface k d) = .iface k d := rfl
theorem calm_if : D.calm (.iface k d) = true := rfl
theorem calm1_if : D.calm1 (.iface k d) = true := rfl
theorem un1_if : D.un1 (.iface k d) = .iface k d := rfl
theorem unR_if : D.unR (.iface k d) = .iface k d := rfl
theorem calmR_if : D.calmR (.iface k d) = true := rfl
theorem data_ni : D.data .nilIface = true := rfl
theorem cells_ni : D.cells .nilIface = [.nilIface] := rfl
theorem un_ni : D.un .nilIface = .nilIface := rfl
theorem calm_ni : D.calm .nilIface = true := rfl
theorem calm1_ni : D.calm1 .nilIface = true := rfl
end
def cntD (n : Int) : D := .iface 86 (.int .u64 (1099511627776 + n))
def F48 : List D → Option D
 | [.int .i64 n] => if inR n = true then some (cntD n) else none
 | _ => none
theorem cnt_wrap {n : Int} (h : inR n = true) : IntKind.u64.wrap (IntKind.i64.wrap (1099511627776 + n)) = 1099511627776 + n := by
 simp only [inR, Bool.and_eq_true, decide_eq_true_eq] at h
 rw [IntWalk.i64_in _ ⟨by omega, by omega⟩]
 exact u64_small (by omega) (by omega)
theorem ok48 {P : Program} (hb : DeskB P) : (funS F48).ok P 48 := by
 refine fun_ok (S := fun _ => none) none_ok hb.f48 (fun ds r h => ?_) (fun ds r h => ?_)
 ·unfold F48 at h; split at h
  ·simp
  ·cases h
 ·unfold F48 at h; split at h
  ·rename_i n
   split at h
   ·rename_i hn
    simp only [Option.some.injEq] at h
    subst h
    unfold dc48
    simp only [↓go1, gB2, reduceIte, Nat.reduceEqDiff, Nat.reduceAdd, Nat.reduceSub, Nat.reduceLT, Nat.reduceLeDiff, Nat.zero_add, data_if, cells_if, un_if, calm_if, calm1_if, unR_if, calmR_if, data_ni, cells_ni, un_ni, calm_ni, calm1_ni, List.getElem?_cons_zero, List.getElem?_cons_succ, put_rd, put2_rd, rd_zero, rd_succ, Nat.le_refl, reduceCtorEq, List.take_succ_cons, List.take_zero, List.drop_zero, cnt_wrap hn]
    simp only [cntD, unR_if, calmR_if, and_self]
   ·cases h
  ·cases h
def F46 : List D → Option D
 | [.slice _ _ xs] => match strsOf xs with
  | some l => if l.length ≤ 1000000 then some (.iface 99 (.slice false [] (l.map fun s => .iface 9 (.str s)))) else none
  | none => none
 | _ => none
set_option maxHeartbeats 1000000 in
theorem loop46 {S : Summs} {l : List Bs} {nl0 : Bool} {t0 : Id} {Q : Ex → St → Prop} (hb : l.length ≤ 1000000)
  (hexit : ∀ st t, st.s 3 = .slice false t (l.map fun s => .iface 9 (.str s)) → Q (.exit 0) st) :
  ∀ (n k : Nat) (t : Id) st g, n = l.length - k → k ≤ l.length → st.s 9 = .int .i64 (k : Int) → st.s 8 = .int .i64 (l.length : Int) → st.s 7 = .slice nl0 t0 (l.map .str) →
   st.s 3 = .slice false t ((l.take k).map fun s => .iface 9 (.str s)) → Gw st.m st.c 20 false t →
   loopW S [] dc46l0 Q st g := by
 intro n
 induction n with
 | zero =>
  intro k t st g hn hk h9 h8 h7 h3 hg
  refine wp_loopd dc46l0.eq_1 ?_
  have : ¬ ((k : Int) < l.length) := by omega
  simp only [↓go1, go2, go3, go4, reduceIte, Nat.reduceEqDiff, Nat.reduceAdd, h9, h8, this]
  rw [List.take_of_length_le (by omega)] at h3
  refine hexit _ t ?_
  simp only [↓go1, go2, go3, go4, reduceIte, Nat.reduceEqDiff, Nat.reduceAdd, h3]
 | succ n ih =>
  intro k t st g hn hk h9 h8 h7 h3 hg
  refine wp_loopd dc46l0.eq_1 ?_
  have hlt : ((k : Int) < l.length) := by omega
  have hk0 : (0 : Int) ≤ (k : Int) := by omega
  have hkl : k < l.length := by omega
  have hx : (l.map D.str)[(k : Int).toNat]? = some (.str l[k]) := by simp [hkl]
  have hw : IntKind.i64.wrap ((k : Int) + 1) = (k : Int) + 1 := IntWalk.i64_in _ ⟨by omega, by omega⟩
  have htk : l.take (k + 1) = l.take k ++ [l[k]] := by rw [List.take_add_one, List.getElem?_eq_getElem hkl]; rfl
  simp only [↓go1, gB2, reduceIte, Nat.reduceEqDiff, Nat.reduceAdd, Nat.reduceSub, Nat.reduceLT, Nat.reduceLeDiff, Nat.zero_add, data_if, cells_if, un_if, calm_if, calm1_if, unR_if, calmR_if, data_ni, cells_ni, un_ni, calm_ni, calm1_ni, List.getElem?_cons_zero, List.getElem?_cons_succ, put_rd, put2_rd, rd_zero, rd_succ, Nat.le_refl, reduceCtorEq, List.take_succ_cons, List.take_zero, List.drop_zero, h9, h8, h7, h3, hlt, hk0, hx, hw]
  refine Need.intro ⟨by simp only [List.length_map, List.length_take]; omega, rfl, (hg.put (by omega)).toGrow⟩ ?_
  simp only [↓go1, gB2, reduceIte, Nat.reduceEqDiff, Nat.reduceAdd, Nat.reduceSub, Nat.reduceLT, Nat.reduceLeDiff, Nat.zero_add, data_if, cells_if, un_if, calm_if, calm1_if, unR_if, calmR_if, data_ni, cells_ni, un_ni, calm_ni, calm1_ni, List.getElem?_cons_zero, List.getElem?_cons_succ, put_rd, put2_rd, rd_zero, rd_succ, Nat.le_refl, reduceCtorEq, List.take_succ_cons, List.take_zero, List.drop_zero, h9, h8, h7, h3, hlt, hk0, hx, hw]
  refine ih (k + 1) [st.c + 1 + 3 + 4] _ _ (by omega) (by omega) rfl h8 h7 ?_ (Gw.new (by simp only; omega))
  rw [htk, List.map_append]; rfl
theorem ok46 {P : Program} (hb : DeskB P) : (funS F46).ok P 46 := by
 refine fun_ok (S := fun _ => none) none_ok hb.f46 (fun ds r h => ?_) (fun ds r h => ?_)
 ·unfold F46 at h; split at h
  ·simp
  ·cases h
 ·unfold F46 at h; split at h
  ·rename_i nl t xs
   split at h
   ·rename_i l hl
    obtain rfl := strsOf_some hl
    split at h
    ·rename_i hc
     simp only [Option.some.injEq] at h
     subst h
     unfold dc46
     simp only [↓go1, gB2, reduceIte, Nat.reduceEqDiff, Nat.reduceAdd, Nat.reduceSub, Nat.reduceLT, Nat.reduceLeDiff, Nat.zero_add, data_if, cells_if, un_if, calm_if, calm1_if, unR_if, calmR_if, data_ni, cells_ni, un_ni, calm_ni, calm1_ni, List.getElem?_cons_zero, List.getElem?_cons_succ, put_rd, put2_rd, rd_zero, rd_succ, Nat.le_refl, reduceCtorEq, List.take_succ_cons, List.take_zero, List.drop_zero, List.length_map]
     refine loop46 (l := l) hc (fun st t e => ?_) l.length 0 [1] _ _ rfl (by omega) rfl rfl rfl rfl ?_
     ·simp only [↓go1, gB2, reduceIte, Nat.reduceEqDiff, Nat.reduceAdd, Nat.reduceSub, Nat.reduceLT, Nat.reduceLeDiff, Nat.zero_add, data_if, cells_if, un_if, calm_if, calm1_if, unR_if, calmR_if, data_ni, cells_ni, un_ni, calm_ni, calm1_ni, List.getElem?_cons_zero, List.getElem?_cons_succ, put_rd, put2_rd, rd_zero, rd_succ, Nat.le_refl, reduceCtorEq, List.take_succ_cons, List.take_zero, List.drop_zero, e]
     ·exact .inr ⟨1, rfl, by simp only; omega, by simp [put_tok]⟩
    ·cases h
   ·cases h
  ·cases h
def callD (d : Dn) : D := .iface 99 (.slice false [] [cntD d.at_, cntD d.cl, cntD d.fr, cntD d.to, .iface 4 (.bool d.is), .iface 9 (.str d.line), .iface 9 (.str d.reply)])
def F47 : List D → Option D
 | [.slice _ _ xs] => match dnsOf xs with
  | some l => if l.length ≤ 1000000 ∧ l.all okN = true then some (.iface 99 (.slice false [] (l.map callD))) else none
  | none => none
 | _ => none
set_option maxHeartbeats 2000000 in
theorem loop47 {S : Summs} (s48 : S 48 = some (funS F48)) {l : List Dn} {nl0 : Bool} {t0 : Id} {Q : Ex → St → Prop} (hb : l.length ≤ 1000000) (hok : ∀ d ∈ l, okN d = true)
  (hexit : ∀ st t, st.s 3 = .slice false t (l.map callD) → Q (.exit 0) st) :
  ∀ (n k : Nat) (t : Id) st g, n = l.length - k → k ≤ l.length → st.s 9 = .int .i64 (k : Int) → st.s 8 = .int .i64 (l.length : Int) → st.s 7 = .slice nl0 t0 (l.map dnD) →
   st.s 3 = .slice false t ((l.take k).map callD) → Gw st.m st.c 20 false t →
   loopW S [] dc47l0 Q st g := by
 intro n
 induction n with
 | zero =>
  intro k t st g hn hk h9 h8 h7 h3 hg
  refine wp_loopd dc47l0.eq_1 ?_
  have : ¬ ((k : Int) < l.length) := by omega
  simp only [↓go1, go2, go3, go4, reduceIte, Nat.reduceEqDiff, Nat.reduceAdd, h9, h8, this]
  rw [List.take_of_length_le (by omega)] at h3
  refine hexit _ t ?_
  simp only [↓go1, go2, go3, go4, reduceIte, Nat.reduceEqDiff, Nat.reduceAdd, h3]
 | succ n ih =>
  intro k t st g hn hk h9 h8 h7 h3 hg
  refine wp_loopd dc47l0.eq_1 ?_
  have hlt : ((k : Int) < l.length) := by omega
  have hk0 : (0 : Int) ≤ (k : Int) := by omega
  have hkl : k < l.length := by omega
  have hx : (l.map dnD)[(k : Int).toNat]? = some (.agg [.int .i64 l[k].cl, .str l[k].line, .str l[k].reply, .int .i64 l[k].fr, .int .i64 l[k].at_, .int .i64 l[k].to, .bool l[k].is]) := by simp [hkl, dnD]
  have hw : IntKind.i64.wrap ((k : Int) + 1) = (k : Int) + 1 := IntWalk.i64_in _ ⟨by omega, by omega⟩
  have htk : l.take (k + 1) = l.take k ++ [l[k]] := by rw [List.take_add_one, List.getElem?_eq_getElem hkl]; rfl
  have hdk := hok l[k] (List.getElem_mem hkl)
  simp only [okN, Bool.and_eq_true] at hdk
  have fa : F48 [.int .i64 l[k].at_] = some (cntD l[k].at_) := if_pos (by simp [hdk])
  have fb : F48 [.int .i64 l[k].cl] = some (cntD l[k].cl) := if_pos (by simp [hdk])
  have fc : F48 [.int .i64 l[k].fr] = some (cntD l[k].fr) := if_pos (by simp [hdk])
  have fd : F48 [.int .i64 l[k].to] = some (cntD l[k].to) := if_pos (by simp [hdk])
  simp only [↓go1, gB2, reduceIte, Nat.reduceEqDiff, Nat.reduceAdd, Nat.reduceSub, Nat.reduceLT, Nat.reduceLeDiff, Nat.zero_add, data_if, cells_if, un_if, calm_if, calm1_if, unR_if, calmR_if, data_ni, cells_ni, un_ni, calm_ni, calm1_ni, List.getElem?_cons_zero, List.getElem?_cons_succ, put_rd, put2_rd, rd_zero, rd_succ, Nat.le_refl, reduceCtorEq, List.take_succ_cons, List.take_zero, List.drop_zero, h9, h8, h7, h3, hlt, hk0, hx, hw, fa, fb, fc, fd, callK_fun s48]
  simp only [cntD, ↓go1, gB2, reduceIte, Nat.reduceEqDiff, Nat.reduceAdd, Nat.reduceSub, Nat.reduceLT, Nat.reduceLeDiff, Nat.zero_add, data_if, cells_if, un_if, calm_if, calm1_if, unR_if, calmR_if, data_ni, cells_ni, un_ni, calm_ni, calm1_ni, List.getElem?_cons_zero, List.getElem?_cons_succ, put_rd, put2_rd, rd_zero, rd_succ, Nat.le_refl, reduceCtorEq, List.take_succ_cons, List.take_zero, List.drop_zero, h9, h8, h7, h3, hlt, hk0, hx, hw, fa, fb, fc, fd, callK_fun s48]
  refine Need.intro ⟨by simp only [List.length_map, List.length_take]; omega, rfl, (((((hg.put (by omega)).put (by omega)).put (by omega)).put (by omega)).toGrow)⟩ ?_
  simp only [cntD, ↓go1, gB2, reduceIte, Nat.reduceEqDiff, Nat.reduceAdd, Nat.reduceSub, Nat.reduceLT, Nat.reduceLeDiff, Nat.zero_add, data_if, cells_if, un_if, calm_if, calm1_if, unR_if, calmR_if, data_ni, cells_ni, un_ni, calm_ni, calm1_ni, List.getElem?_cons_zero, List.getElem?_cons_succ, put_rd, put2_rd, rd_zero, rd_succ, Nat.le_refl, reduceCtorEq, List.take_succ_cons, List.take_zero, List.drop_zero, h9, h8, h7, h3, hlt, hk0, hx, hw, fa, fb, fc, fd, callK_fun s48]
  refine Need.intro (feetB_ok rfl) ?_
  simp only [cntD, ↓go1, gB2, reduceIte, Nat.reduceEqDiff, Nat.reduceAdd, Nat.reduceSub, Nat.reduceLT, Nat.reduceLeDiff, Nat.zero_add, data_if, cells_if, un_if, calm_if, calm1_if, unR_if, calmR_if, data_ni, cells_ni, un_ni, calm_ni, calm1_ni, List.getElem?_cons_zero, List.getElem?_cons_succ, put_rd, put2_rd, rd_zero, rd_succ, Nat.le_refl, reduceCtorEq, List.take_succ_cons, List.take_zero, List.drop_zero, h9, h8, h7, h3, hlt, hk0, hx, hw, fa, fb, fc, fd, callK_fun s48]
  refine ih (k + 1) [st.c + 1 + 4 + 25] _ _ (by omega) (by omega) rfl h8 h7 ?_ (Gw.new (by simp only; omega))
  rw [htk, List.map_append]; rfl
theorem ok47 {P : Program} (hb : DeskB P) : (funS F47).ok P 47 := by
 have hS : Summs.ok P (tabL [(48, funS F48)]) := tabL_cons (ok48 hb) tabL_nil
 have s48 : tabL [(48, funS F48)] 48 = some (funS F48) := rfl
 generalize tabL [(48, funS F48)] = S at hS s48
 refine fun_ok (S := S) hS hb.f47 (fun ds r h => ?_) (fun ds r h => ?_)
 ·unfold F47 at h; split at h
  ·simp
  ·cases h
 ·unfold F47 at h; split at h
  ·rename_i nl t xs
   split at h
   ·rename_i l hl
    obtain rfl := dnsOf_some hl
    split at h
    ·rename_i hc
     simp only [Option.some.injEq] at h
     subst h
     unfold dc47
     simp only [↓go1, gB2, reduceIte, Nat.reduceEqDiff, Nat.reduceAdd, Nat.reduceSub, Nat.reduceLT, Nat.reduceLeDiff, Nat.zero_add, data_if, cells_if, un_if, calm_if, calm1_if, unR_if, calmR_if, data_ni, cells_ni, un_ni, calm_ni, calm1_ni, List.getElem?_cons_zero, List.getElem?_cons_succ, put_rd, put2_rd, rd_zero, rd_succ, Nat.le_refl, reduceCtorEq, List.take_succ_cons, List.take_zero, List.drop_zero, List.length_map]
     refine loop47 s48 (l := l) hc.1 (List.all_eq_true.1 hc.2) (fun st t e => ?_) l.length 0 [1] _ _ rfl (by omega) rfl rfl rfl rfl ?_
     ·simp only [↓go1, gB2, reduceIte, Nat.reduceEqDiff, Nat.reduceAdd, Nat.reduceSub, Nat.reduceLT, Nat.reduceLeDiff, Nat.zero_add, data_if, cells_if, un_if, calm_if, calm1_if, unR_if, calmR_if, data_ni, cells_ni, un_ni, calm_ni, calm1_ni, List.getElem?_cons_zero, List.getElem?_cons_succ, put_rd, put2_rd, rd_zero, rd_succ, Nat.le_refl, reduceCtorEq, List.take_succ_cons, List.take_zero, List.drop_zero, e]
     ·exact .inr ⟨1, rfl, by simp only; omega, by simp [put_tok]⟩
    ·cases h
   ·cases h
  ·cases h
def F45 : List D → Option D
 | [d] => match trOf 4 d with
  | some v => if v.fit = true ∧ v.good = true ∧ v.enc.length ≤ 90000000 then some (.tup [.slice false [] (bytesD v.enc), .int .i64 0]) else none
  | none => none
 | _ => none
theorem ok45 {P : Program} (hb : DeskB P) (h121 : grownQ.ok P 121) : (funS F45).ok P 45 := by
 have hS : Summs.ok P (tabL [(79, funS F79), (80, putQ 4)]) := tabL_cons (ok79 hb) (tabL_cons (ok80 hb h121 4) tabL_nil)
 have s79 : tabL [(79, funS F79), (80, putQ 4)] 79 = some (funS F79) := rfl
 have s80 : tabL [(79, funS F79), (80, putQ 4)] 80 = some (putQ 4) := rfl
 generalize tabL [(79, funS F79), (80, putQ 4)] = S at hS s79 s80
 refine fun_ok (S := S) hS hb.f45 (fun ds r h => ?_) (fun ds r h => ?_)
 ·unfold F45 at h; split at h
  ·simp
  ·cases h
 ·unfold F45 at h; split at h
  ·rename_i d
   split at h
   ·rename_i v hv
    split at h
    ·rename_i hc
     simp only [Option.some.injEq] at h
     subst h
     obtain ⟨u1, u2, u3, u4⟩ := trOf_iface hv
     have f79 : F79 [d] = some (.int .i64 0) := by
      simp only [F79, hv]; exact if_pos ⟨hc.1, hc.2.1⟩
     unfold dc45
     simp only [↓go1, gB2, reduceIte, Nat.reduceEqDiff, Nat.reduceAdd, Nat.reduceSub, Nat.reduceLT, Nat.reduceLeDiff, Nat.zero_add, data_if, cells_if, un_if, calm_if, calm1_if, unR_if, calmR_if, data_ni, cells_ni, un_ni, calm_ni, calm1_ni, List.getElem?_cons_zero, List.getElem?_cons_succ, put_rd, put2_rd, rd_zero, rd_succ, Nat.le_refl, reduceCtorEq, List.take_succ_cons, List.take_zero, List.drop_zero, u1, u2, u3, u4, f79, callK_fun s79, callK_fn s80]
     refine got_put hv (.inl rfl) (fun _ => rfl) rfl (by simp only [List.length_nil]; omega) hc.1 ?_
     simp only [↓go1, gB2, reduceIte, Nat.reduceEqDiff, Nat.reduceAdd, Nat.reduceSub, Nat.reduceLT, Nat.reduceLeDiff, Nat.zero_add, data_if, cells_if, un_if, calm_if, calm1_if, unR_if, calmR_if, data_ni, cells_ni, un_ni, calm_ni, calm1_ni, List.getElem?_cons_zero, List.getElem?_cons_succ, put_rd, put2_rd, rd_zero, rd_succ, Nat.le_refl, reduceCtorEq, List.take_succ_cons, List.take_zero, List.drop_zero, u1, u2, u3, u4, f79, callK_fun s79, callK_fn s80, List.nil_append]
    ·cases h
   ·cases h
  ·cases h
end Go.Vd

namespace Go.Vd
open Go.RowKit
set_option maxRecDepth 10000
def cntT (n : Int) : Tr := .num (1099511627776 + n)
def callT (d : Dn) : Tr := .list [cntT d.at_, cntT d.cl, cntT d.fr, cntT d.to, .tr d.is, .text d.line, .text d.reply]
def kBehind : Bs := [98, 101, 104, 105, 110, 100]
def kCalls : Bs := [99, 97, 108, 108, 115]
def kLeft : Bs := [108, 101, 102, 116]
def kSealed : Bs := [115, 101, 97, 108, 101, 100]
def kTicks : Bs := [116, 105, 99, 107, 115]
def tellT (t : Td) : Tr := .pairs [(kBehind, .list (t.behind.map .text)), (kCalls, .list (t.calls.map callT)), (kLeft, cntT t.left), (kSealed, .tr t.shut), (kTicks, cntT t.ticks)]
def bytesB (t : Td) : Bs := (tellT t).enc
theorem allM_map {α β γ : Type} {f : α → Option β} {g : γ → α} {h : γ → β} (e : ∀ x, f (g x) = some (h x)) : ∀ l : List γ, allM f (l.map g) = some (l.map h)
 | [] => rfl
 | x :: r => by simp only [List.map_cons, allM, e, allM_map e r]
theorem trOf_cnt (n : Nat) (k : Int) : trOf n (cntD k) = some (cntT k) := by
 unfold cntD cntT; cases n <;> rfl
theorem trOf_call (d : Dn) : trOf 2 (callD d) = some (callT d) := by
 simp only [callD, callT, trOf, allM, trOf_cnt, Option.map_some]
theorem trOf_behind (l : List Bs) : trOf 3 (.iface 99 (.slice false [] (l.map fun s => .iface 9 (.str s)))) = some (.list (l.map .text)) := by
 simp only [trOf]; rw [allM_map (f := trOf 2) (g := fun s : Bs => D.iface 9 (.str s)) (h := Tr.text) (fun s => rfl)]; rfl
theorem trOf_calls (l : List Dn) : trOf 3 (.iface 99 (.slice false [] (l.map callD))) = some (.list (l.map callT)) := by
 simp only [trOf]; rw [allM_map (f := trOf 2) (g := callD) (h := callT) (fun s => trOf_call s)]; rfl
theorem trOf_tell (t : Td) {nl : Bool} {i : Id} : trOf 4 (.iface 85 (.slice nl i [.agg [.str kBehind, .iface 99 (.slice false [] (t.behind.map fun s => .iface 9 (.str s)))], .agg [.str kCalls, .iface 99 (.slice false [] (t.calls.map callD))], .agg [.str kLeft, cntD t.left], .agg [.str kSealed, .iface 4 (.bool t.shut)], .agg [.str kTicks, cntD t.ticks]])) = some (tellT t) := by
 have e : trOf 3 (.iface 4 (.bool t.shut)) = some (.tr t.shut) := rfl
 rw [trOf]
 simp only [allM, trOf_behind, trOf_calls, trOf_cnt, e, Option.map_some]
 rfl
theorem fitL_map {α : Type} {f : α → Tr} : ∀ {l : List α}, (∀ x ∈ l, (f x).fit = true) → Tr.fitL (l.map f) = true
 | [], _ => rfl
 | x :: r, h => by simp only [List.map_cons, Tr.fitL, Bool.and_eq_true]; exact ⟨h x (by simp), fitL_map fun y hy => h y (by simp [hy])⟩
theorem goodL_map {α : Type} {f : α → Tr} : ∀ {l : List α}, (∀ x ∈ l, (f x).good = true) → Tr.goodL (l.map f) = true
 | [], _ => rfl
 | x :: r, h => by simp only [List.map_cons, Tr.goodL, Bool.and_eq_true]; exact ⟨h x (by simp), goodL_map fun y hy => h y (by simp [hy])⟩
theorem encL_le {α : Type} {f : α → Tr} {b : Nat} : ∀ {l : List α}, (∀ x ∈ l, (f x).enc.length ≤ b) → (Tr.encL (l.map f)).length ≤ l.length * b
 | [], _ => by simp [Tr.encL]
 | x :: r, h => by
  have h1 := h x (by simp)
  have h2 := encL_le (l := r) fun y hy => h y (by simp [hy])
  simp only [List.map_cons, Tr.encL, List.length_append, List.length_cons, Nat.succ_mul]; omega
theorem inR_fit {n : Int} (h : inR n = true) : (cntT n).fit = true := by
 simp only [inR, Bool.and_eq_true, decide_eq_true_eq] at h
 simp only [cntT, Tr.fit, Bool.and_eq_true, decide_eq_true_eq]; omega
theorem tell_fit {t : Td} (h : checkB t = 0) : (tellT t).fit = true := by
 obtain ⟨b1, b2, b3, b4⟩ := lines_ok h
 obtain ⟨c1, c2, c3⟩ := check_ok h
 have e1 : Tr.fitL (t.behind.map .text) = true := fitL_map fun s hs => by have := b4 s hs; simp only [Tr.fit, decide_eq_true_eq]; omega
 have e2 : Tr.fitL (t.calls.map callT) = true := fitL_map fun d hd => by
  obtain ⟨d1, d2, d3, d4⟩ := c3 d hd
  have d5 := b3 d hd
  simp only [callT, Tr.fit, Tr.fitL, inR_fit d1, inR_fit d2, inR_fit d3, inR_fit d4, List.length_cons, List.length_nil, Bool.true_and, Bool.and_true, Bool.and_eq_true, decide_eq_true_eq]
  omega
 simp only [tellT, Tr.fit, Tr.fitP, e1, e2, inR_fit c1, inR_fit c2, kBehind, kCalls, kLeft, kSealed, kTicks, List.length_cons, List.length_nil, List.length_map, Bool.true_and, Bool.and_true, Bool.and_eq_true, decide_eq_true_eq]
 omega
theorem tell_good (t : Td) : (tellT t).good = true := by
 have e1 : Tr.goodL (t.behind.map .text) = true := goodL_map fun s hs => rfl
 have e2 : Tr.goodL (t.calls.map callT) = true := goodL_map fun d hd => rfl
 simp only [tellT, Tr.good, Tr.goodP, e1, e2, cntT, Bool.and_true, Bool.true_and]
 simp only [ascP, Bool.and_true]
 decide +kernel
theorem tell_len {t : Td} (h : checkB t = 0) : (tellT t).enc.length ≤ 200000 := by
 obtain ⟨b1, b2, b3, b4⟩ := lines_ok h
 have e1 : (Tr.encL (t.behind.map .text)).length ≤ t.behind.length * 503 := encL_le fun s hs => by
  have := b4 s hs; simp only [Tr.enc, rowB, List.length_cons, List.length_append, beB_len]; omega
 have e2 : (Tr.encL (t.calls.map callT)).length ≤ t.calls.length * 1100 := encL_le fun d hd => by
  have d5 := b3 d hd
  have d6 : (if d.is = true then ([2] : Bs) else [1]).length = 1 := by cases d.is <;> rfl
  simp only [callT, cntT, Tr.enc, Tr.encL, rowB, List.length_cons, List.length_append, List.length_nil, beB_len, d6]; omega
 have d6 : (if t.shut = true then ([2] : Bs) else [1]).length = 1 := by cases t.shut <;> rfl
 simp only [tellT, cntT, Tr.enc, Tr.encP, rowB, List.length_cons, List.length_append, List.length_nil, beB_len, kBehind, kCalls, kLeft, kSealed, kTicks, d6]
 omega
def Fbytes : List D → Option D
 | [d] => match tdOf d with
  | some (_, _, t) => some (if checkB t = 0 then .tup [.str (bytesB t), .int .i64 0] else .tup [.str [], .int .i64 (checkB t)])
  | none => none
 | _ => none
set_option maxHeartbeats 4000000 in
theorem ok21 {P : Program} (hb : DeskB P) (h15 : (funS F15).ok P 15) (h121 : grownQ.ok P 121) : (funS Fbytes).ok P 21 := by
 have hS : Summs.ok P (tabL [(15, funS F15), (46, funS F46), (47, funS F47), (48, funS F48), (45, funS F45)]) := tabL_cons h15 (tabL_cons (ok46 hb) (tabL_cons (ok47 hb) (tabL_cons (ok48 hb) (tabL_cons (ok45 hb h121) tabL_nil))))
 have s15 : tabL [(15, funS F15), (46, funS F46), (47, funS F47), (48, funS F48), (45, funS F45)] 15 = some (funS F15) := rfl
 have s46 : tabL [(15, funS F15), (46, funS F46), (47, funS F47), (48, funS F48), (45, funS F45)] 46 = some (funS F46) := rfl
 have s47 : tabL [(15, funS F15), (46, funS F46), (47, funS F47), (48, funS F48), (45, funS F45)] 47 = some (funS F47) := rfl
 have s48 : tabL [(15, funS F15), (46, funS F46), (47, funS F47), (48, funS F48), (45, funS F45)] 48 = some (funS F48) := rfl
 have s45 : tabL [(15, funS F15), (46, funS F46), (47, funS F47), (48, funS F48), (45, funS F45)] 45 = some (funS F45) := rfl
 generalize tabL [(15, funS F15), (46, funS F46), (47, funS F47), (48, funS F48), (45, funS F45)] = S at hS s15 s46 s47 s48 s45
 refine fun_ok (S := S) hS hb.f21 (fun ds r h => ?_) (fun ds r h => ?_)
 ·unfold Fbytes at h; split at h
  ·simp
  ·cases h
 ·unfold Fbytes at h; split at h
  ·rename_i d
   split at h
   ·rename_i nc nb t ht
    obtain ⟨x, y, rfl⟩ := tdOf_some ht
    simp only [Option.some.injEq] at h
    subst h
    have f15 : ∀ x y, F15 [.agg [.slice nc x (t.calls.map dnD), .int .i64 t.ticks, .int .i64 t.left, .bool t.shut, .slice nb y (t.behind.map .str)]] = some (.int .i64 (checkB t)) := fun x y => by
     simp only [F15, tdOf, dnsOf_map, strsOf_map]
    unfold dc21
    by_cases hz : checkB t = 0
    ·obtain ⟨b1, b2, b3, b4⟩ := lines_ok hz
     obtain ⟨c1, c2, c3⟩ := check_ok hz
     have f46 : ∀ nl i, F46 [.slice nl i (t.behind.map .str)] = some (.iface 99 (.slice false [] (t.behind.map fun s => .iface 9 (.str s)))) := fun nl i => by
      simp only [F46, strsOf_map]; exact if_pos (by omega)
     have f47 : ∀ nl i, F47 [.slice nl i (t.calls.map dnD)] = some (.iface 99 (.slice false [] (t.calls.map callD))) := fun nl i => by
      simp only [F47, dnsOf_map]; exact if_pos ⟨by omega, List.all_eq_true.2 fun d hd => by
       obtain ⟨d1, d2, d3, d4⟩ := c3 d hd
       simp only [okN, d1, d2, d3, d4, Bool.and_true]⟩
     have f48a : F48 [.int .i64 t.left] = some (cntD t.left) := if_pos c2
     have f48b : F48 [.int .i64 t.ticks] = some (cntD t.ticks) := if_pos c1
     have f45 : ∀ nl i, F45 [.iface 85 (.slice nl i [.agg [.str [98, 101, 104, 105, 110, 100], .iface 99 (.slice false [] (t.behind.map fun s => .iface 9 (.str s)))], .agg [.str [99, 97, 108, 108, 115], .iface 99 (.slice false [] (t.calls.map callD))], .agg [.str [108, 101, 102, 116], cntD t.left], .agg [.str [115, 101, 97, 108, 101, 100], .iface 4 (.bool t.shut)], .agg [.str [116, 105, 99, 107, 115], cntD t.ticks]])] = some (.tup [.slice false [] (bytesD (bytesB t)), .int .i64 0]) := fun nl i => by
      have e := trOf_tell t (nl := nl) (i := i)
      simp only [kBehind, kCalls, kLeft, kSealed, kTicks] at e
      simp only [F45, e]
      exact if_pos ⟨tell_fit hz, tell_good t, by have := tell_len hz; omega⟩
     have hfill : ∀ (s : Bs) (k : TypeId) (d : D), fillD [.str [], .nilIface] [(0, 1, .str s), (1, 1, .iface k d)] = some [.str s, .iface k d] := fun s k d => rfl
     simp only [cntD] at f45 f48a f48b
     simp only [↓go1, gB2, reduceIte, Nat.reduceEqDiff, Nat.reduceAdd, Nat.reduceSub, Nat.reduceLT, Nat.reduceLeDiff, List.length_map, Nat.zero_add, data_if, cells_if, un_if, calm_if, calm1_if, un1_if, unR_if, calmR_if, data_ni, cells_ni, un_ni, calm_ni, calm1_ni, List.getElem?_cons_zero, List.getElem?_cons_succ, put_rd, put2_rd, rd_zero, rd_succ, false_and, Nat.le_refl, reduceCtorEq, List.take_succ_cons, List.take_zero, List.drop_zero, List.cons.injEq, callK_fun s15, callK_fun s46, callK_fun s47, callK_fun s48, callK_fun s45, f15, hz, f45, f46, f47, f48a, f48b, hfill, unbytes_bytes, List.map_cons, List.map_nil, List.all_cons, List.all_nil]
     refine Need.intro (feetB_ok rfl) ?_
     simp only [↓go1, gB2, reduceIte, Nat.reduceEqDiff, Nat.reduceAdd, Nat.reduceSub, Nat.reduceLT, Nat.reduceLeDiff, List.length_map, Nat.zero_add, data_if, cells_if, un_if, calm_if, calm1_if, un1_if, unR_if, calmR_if, data_ni, cells_ni, un_ni, calm_ni, calm1_ni, List.getElem?_cons_zero, List.getElem?_cons_succ, put_rd, put2_rd, rd_zero, rd_succ, false_and, Nat.le_refl, reduceCtorEq, List.take_succ_cons, List.take_zero, List.drop_zero, List.cons.injEq, callK_fun s15, callK_fun s46, callK_fun s47, callK_fun s48, callK_fun s45, f15, hz, f45, f46, f47, f48a, f48b, hfill, unbytes_bytes, List.map_cons, List.map_nil, List.all_cons, List.all_nil]
    ·have hz : (checkB t = 0) = False := by simpa using hz
     simp only [↓go1, gB2, reduceIte, Nat.reduceEqDiff, Nat.reduceAdd, Nat.reduceSub, Nat.reduceLT, Nat.reduceLeDiff, List.length_map, Nat.zero_add, data_if, cells_if, un_if, calm_if, calm1_if, un1_if, unR_if, calmR_if, data_ni, cells_ni, un_ni, calm_ni, calm1_ni, List.getElem?_cons_zero, List.getElem?_cons_succ, put_rd, put2_rd, rd_zero, rd_succ, false_and, Nat.le_refl, reduceCtorEq, List.take_succ_cons, List.take_zero, List.drop_zero, List.cons.injEq, callK_fun s15, callK_fun s46, callK_fun s47, callK_fun s48, callK_fun s45, f15, hz]
   ·cases h
  ·cases h
end Go.Vd

namespace Go.Vd
open Go.RowKit
set_option maxRecDepth 10000
end Go.Vd

namespace Go.Vd
open Go.RowKit
set_option maxRecDepth 10000
def nodD (k n : Int) (s : Bs) (nk : Bool) (ks : List D) (nn : Bool) (ns : List D) : D := .agg [.int .u8 k, .int .u64 n, .str s, .slice nk [] ks, .slice nn [] ns]
def sayD (s : Bs) : D := nodD 3 0 s true [] true []
def truthD (b : Bool) : D := nodD 1 (if b = true then 1 else 0) [] true [] true []
end Go.Vd

namespace Go.Vd
open Go.RowKit
set_option maxRecDepth 10000
end Go.Vd

namespace Go.Vd
open Go.RowKit
set_option maxRecDepth 10000
structure NI (m : Mem) (M0 : Nat → Option D) (kb : List D) (tb : Id) (kc : List D) (tc : Id) : Prop where
 a : ∀ o, m [0] o = M0 o
 b0 : m [10] 0 = some (.int .u8 4)
 b1 : m [10] 1 = some (.int .u64 0)
 b2 : m [10] 2 = some (.str [])
 b3 : m [10] 3 = some (.slice kb.isEmpty tb kb)
 b4 : m [10] 4 = some (.slice true [] [])
 c0 : m [11] 0 = some (.int .u8 4)
 c1 : m [11] 1 = some (.int .u64 0)
 c2 : m [11] 2 = some (.str [])
 c3 : m [11] 3 = some (.slice kc.isEmpty tc kc)
 c4 : m [11] 4 = some (.slice true [] [])
section
variable {m m' : Mem} {M0 : Nat → Option D} {kb kc : List D} {tb tc : Id} {c j f : Nat} {x : D}
theorem NI.keep (h : NI m M0 kb tb kc tc) (h0 : ∀ o, m' [0] o = m [0] o) (h1 : ∀ o, m' [10] o = m [10] o) (h2 : ∀ o, m' [11] o = m [11] o) : NI m' M0 kb tb kc tc :=
 ⟨fun o => (h0 o).trans (h.a o), by rw [h1, h.b0], by rw [h1, h.b1], by rw [h1, h.b2], by rw [h1, h.b3], by rw [h1, h.b4], by rw [h2, h.c0], by rw [h2, h.c1], by rw [h2, h.c2], by rw [h2, h.c3], by rw [h2, h.c4]⟩
theorem NI.put (h : NI m M0 kb tb kc tc) {o : Nat} {ds : List D} (hj : 12 ≤ j) : NI (m.put [j] o ds) M0 kb tb kc tc :=
 h.keep (fun o => Mem.put_other (by simp; omega)) (fun o => Mem.put_other (by simp; omega)) (fun o => Mem.put_other (by simp; omega))
theorem growU_keep {e : Nat} {nl : Bool} {t i : Id} {xs : List D} {o : Nat} (hg : Gw m c e nl t) (hi : i ≠ [f]) (h0 : ∀ x, m i 0 ≠ some (.tok x)) : Upd.app m (growU e [f] (.slice nl t xs)) i o = m i o := by
 rw [growU_rd, if_neg (fun h => hi h.1), if_neg]
 rintro ⟨h1, rfl, rfl⟩
 rcases hg with h2 | ⟨j, rfl, _, h3⟩
 ·rw [h1] at h2; cases h2
 ·exact h0 _ h3
theorem NI.grow (h : NI m M0 kb tb kc tc) {nl : Bool} {t : Id} {xs : List D} (hM : ∀ x, M0 0 ≠ some (.tok x)) (hg : Gw m c 89 nl t) (hf : 12 ≤ f) : NI (Upd.app m (growU 89 [f] (.slice nl t xs))) M0 kb tb kc tc :=
 h.keep (fun o => growU_keep hg (by simp; omega) (by rw [h.a]; exact hM)) (fun o => growU_keep hg (by simp; omega) (by rw [h.b0]; simp)) (fun o => growU_keep hg (by simp; omega) (by rw [h.c0]; simp))
theorem NI.setB (h : NI m M0 kb tb kc tc) {t' : Id} : NI (m.put [10] 3 [.slice false t' (kb ++ [x])]) M0 (kb ++ [x]) t' kc tc := by
 refine ⟨fun o => (Mem.put_other (by simp)).trans (h.a o), ?_, ?_, ?_, ?_, ?_, (Mem.put_other (by simp)).trans h.c0, (Mem.put_other (by simp)).trans h.c1, (Mem.put_other (by simp)).trans h.c2, (Mem.put_other (by simp)).trans h.c3, (Mem.put_other (by simp)).trans h.c4⟩
 ·simpa [put_rd] using h.b0
 ·simpa [put_rd] using h.b1
 ·simpa [put_rd] using h.b2
 ·rw [isEmpty_snoc]; simp [put_rd]
 ·simpa [put_rd] using h.b4
theorem NI.setC (h : NI m M0 kb tb kc tc) {t' : Id} : NI (m.put [11] 3 [.slice false t' (kc ++ [x])]) M0 kb tb (kc ++ [x]) t' := by
 refine ⟨fun o => (Mem.put_other (by simp)).trans (h.a o), (Mem.put_other (by simp)).trans h.b0, (Mem.put_other (by simp)).trans h.b1, (Mem.put_other (by simp)).trans h.b2, (Mem.put_other (by simp)).trans h.b3, (Mem.put_other (by simp)).trans h.b4, ?_, ?_, ?_, ?_, ?_⟩
 ·simpa [put_rd] using h.c0
 ·simpa [put_rd] using h.c1
 ·simpa [put_rd] using h.c2
 ·rw [isEmpty_snoc]; simp [put_rd]
 ·simpa [put_rd] using h.c4
theorem Gw.out {e : Nat} {i : Id} {o : Nat} {d : D} (hi : i = [10] ∨ i = [11]) (hc : 12 ≤ j) (h : m [j] 0 = some (.tok (e + 1))) (hj : j < c) : Gw (m.put i o [d]) c e false [j] :=
 .inr ⟨j, rfl, hj, by rw [Mem.put_other]; exact h; rcases hi with rfl | rfl <;> simp <;> omega⟩
end
theorem lit_ne {a b k : Nat} (h : a < b + k) : (a = b + k) = False := eq_false (by omega)
end Go.Vd

namespace Go.Vd
open Go.RowKit
set_option maxRecDepth 10000
end Go.Vd

namespace Go.Vd
open Go.RowKit
def beN (l : Bs) : Nat := l.foldl (fun n b => 256 * n + b.toNat) 0
theorem beN_snoc (l : Bs) (b : UInt8) : beN (l ++ [b]) = 256 * beN l + b.toNat := by simp [beN]
theorem beN_lt (l : Bs) : beN l < 256 ^ l.length := by
 have : ∀ (r l : Bs), l = r.reverse → beN l < 256 ^ l.length := by
  intro r
  induction r with
  | nil => rintro l rfl; simp [beN]
  | cons b r ih =>
   rintro l rfl
   rw [List.reverse_cons, beN_snoc]
   have h1 := ih r.reverse rfl
   have h2 := b.toNat_lt
   simp only [List.length_append, List.length_cons, List.length_nil, Nat.pow_add, Nat.pow_succ, Nat.pow_zero] at h1 ⊢
   omega
 exact this l.reverse l (by simp)
theorem beN_take {l : Bs} {k : Nat} (h : k < l.length) : beN (l.take (k + 1)) = 256 * beN (l.take k) + l[k].toNat := by
 rw [List.take_add_one, List.getElem?_eq_getElem h]; exact beN_snoc _ _
theorem or_byte {n b : Nat} (hn : n < 72057594037927936) (hb : b < 256) : bits .or .u64 (IntKind.u64.wrap ((n : Int) * 2 ^ min (8 : Int).toNat IntKind.u64.bits)) (b : Int) = ((256 * n + b : Nat) : Int) := by
 have hm : min (8 : Int).toNat IntKind.u64.bits = 8 := by decide
 have hw : IntKind.u64.wrap ((n : Int) * 2 ^ 8) = ((n * 256 : Nat) : Int) := by
  rw [u64_small (by omega) (by omega)]; omega
 rw [hm, hw]
 unfold bits
 have e1 : BitVec.ofInt IntKind.u64.bits ((n * 256 : Nat) : Int) = BitVec.ofNat 64 (n * 256) := by
  show BitVec.ofInt 64 _ = _
  rw [BitVec.ofInt_natCast]
 have e2 : BitVec.ofInt IntKind.u64.bits ((b : Nat) : Int) = BitVec.ofNat 64 b := by
  show BitVec.ofInt 64 _ = _
  rw [BitVec.ofInt_natCast]
 simp only [e1, e2]
 have e3 : (BitVec.ofNat 64 (n * 256) ||| BitVec.ofNat 64 b).toNat = 256 * n + b := by
  rw [BitVec.toNat_or, BitVec.toNat_ofNat, BitVec.toNat_ofNat, Nat.mod_eq_of_lt (by omega), Nat.mod_eq_of_lt (by omega)]
  have := Nat.shiftLeft_add_eq_or_of_lt (i := 8) (b := b) (by omega) n
  rw [Nat.shiftLeft_eq] at this
  rw [show n * 256 = n * 2 ^ 8 by rfl, ← this]; omega
 show IntKind.u64.wrap ((BitVec.ofNat 64 (n * 256) ||| BitVec.ofNat 64 b).toNat : Int) = _
 rw [e3]
 exact u64_small (by omega) (by omega)
structure Sc where
 s : Bs
 at_ : Nat
 bad : Int
def numS (k : Nat) (c : Sc) : Nat × Sc :=
 if c.bad ≠ 0 then (0, c) else if c.s.length - c.at_ < k then (0, { c with bad := 3 }) else (beN ((c.s.drop c.at_).take k), { c with at_ := c.at_ + k })
def rowS (c : Sc) : Bs × Sc :=
 if (numS 2 c).2.bad ≠ 0 then ([], (numS 2 c).2)
 else if (numS 2 c).2.s.length - (numS 2 c).2.at_ < (numS 2 c).1 then ([], { c with bad := 3 })
 else (((numS 2 c).2.s.drop (numS 2 c).2.at_).take (numS 2 c).1, { (numS 2 c).2 with at_ := (numS 2 c).2.at_ + (numS 2 c).1 })
def endS (c : Sc) : Int := if c.bad ≠ 0 then c.bad else if c.at_ < c.s.length then 4 else 0
def failS (e : Int) (c : Sc) : Sc := if c.bad = 0 then { c with bad := e } else c
def countS (n : Nat) (c : Sc) : Nat × Sc :=
 let p := numS 1 (if n = 0 then failS 24 c else c)
 let e : Int := if n = 0 then 24 else if 64 < p.1 then 5 else 0
 (p.1, if p.2.bad = 0 ∧ e ≠ 0 then failS e p.2 else p.2)
def itemsL (f : Sc → Tr × Sc) : Nat → List Tr → Sc → Tr × Sc
 | 0, acc, c => (.list acc, c)
 | k + 1, acc, c => if c.bad ≠ 0 then (.nil, c) else itemsL f k (acc ++ [(f c).1]) (f c).2
def lastB (acc : List (Bs × Tr)) (s : Bs) : Bool := match acc.getLast? with
 | some (a, _) => !(Op.bytesLess a s)
 | none => false
def namedL (f : Sc → Tr × Sc) : Nat → List (Bs × Tr) → Sc → Tr × Sc
 | 0, acc, c => (.pairs acc, c)
 | k + 1, acc, c => if c.bad ≠ 0 then (.nil, c) else
  let c2 := if lastB acc (rowS c).1 = true then failS 4 (rowS c).2 else (rowS c).2
  if c2.bad ≠ 0 then (.nil, c2) else namedL f k (acc ++ [((rowS c).1, (f c2).1)]) (f c2).2
def itemsS (n : Nat) (f : Sc → Tr × Sc) (c : Sc) : Tr × Sc := itemsL f (countS n c).1 [] (countS n c).2
def namedS (n : Nat) (f : Sc → Tr × Sc) (c : Sc) : Tr × Sc := namedL f (countS n c).1 [] (countS n c).2
def valS (n : Nat) (f : Sc → Tr × Sc) (c : Sc) : Tr × Sc :=
 let p := numS 1 c
 if p.2.bad ≠ 0 then (.nil, p.2) else if p.1 = 0 then (.nil, p.2) else if p.1 = 1 then (.tr false, p.2) else if p.1 = 2 then (.tr true, p.2)
 else if p.1 = 3 then (.num (numS 8 p.2).1, (numS 8 p.2).2) else if p.1 = 4 then (.text (rowS p.2).1, (rowS p.2).2)
 else if p.1 = 5 then itemsS n f p.2 else if p.1 = 6 then namedS n f p.2 else (.nil, failS 22 p.2)
def takeV : Nat → Sc → Tr × Sc
 | 0 => valS 0 fun c => (.nil, c)
 | n + 1 => valS (n + 1) (takeV n)
def kidsA (f : Sc → Tr × Sc) : Nat → List Tr → Sc → Tr × Sc
 | 0, acc, c => (.list acc, c)
 | k + 1, acc, c => if c.bad ≠ 0 then (.list acc, c) else kidsA f k (acc ++ [(f c).1]) (f c).2
def kidsB (f : Sc → Tr × Sc) : Nat → List (Bs × Tr) → Sc → Tr × Sc
 | 0, acc, c => (.pairs acc, c)
 | k + 1, acc, c => if c.bad ≠ 0 then (.pairs acc, c) else
  let c2 := if (rowS c).2.bad = 0 ∧ lastB acc (rowS c).1 = true then { (rowS c).2 with bad := 4 } else (rowS c).2
  if c2.bad ≠ 0 then (.nil, c2) else kidsB f k (acc ++ [((rowS c).1, (f c2).1)]) (f c2).2
def oneS (n : Nat) (f : Sc → Tr × Sc) (c : Sc) : Tr × Sc :=
 let p := numS 1 c
 if p.2.bad ≠ 0 then (.nil, p.2) else if 6 < p.1 then (.nil, { p.2 with bad := 22 }) else if p.1 = 0 then (.nil, p.2) else if p.1 < 3 then (.tr (decide (p.1 = 2)), p.2)
 else if p.1 = 3 then (.num (numS 8 p.2).1, (numS 8 p.2).2) else if p.1 = 4 then (.text (rowS p.2).1, (rowS p.2).2)
 else if n = 0 then (.nil, { p.2 with bad := 24 })
 else
  let q := numS 1 p.2
  let c2 := if q.2.bad = 0 ∧ 64 < q.1 then { q.2 with bad := 5 } else q.2
  if p.1 = 5 then kidsA f q.1 [] c2 else kidsB f q.1 [] c2
def oneV : Nat → Sc → Tr × Sc
 | 0 => oneS 0 fun c => (.nil, c)
 | n + 1 => oneS (n + 1) (oneV n)
end Go.Vd

namespace Go.Vd
open Go.RowKit
set_option maxRecDepth 10000
theorem res_tc {s : Nat → D} {m : Mem} {k : Option Nat} {a t : Nat} : resOf [.t t, .cell k a] s m = (ldD m k (s a)).map fun d => .tup [s t, d] := by
 simp only [resOf, rvAll, RV.of]
 cases ldD m k (s a) <;> rfl
def scD (c : Sc) : D := .agg [.str c.s, .int .i64 (c.at_ : Int), .int .i64 c.bad]
def scOf : D → Option Sc
 | .agg [.str s, .int .i64 a, .int .i64 b] => if 0 ≤ a ∧ a ≤ (s.length : Int) ∧ s.length ≤ 1000000 then some ⟨s, a.toNat, b⟩ else none
 | _ => none
theorem scOf_inv {d : D} {c : Sc} (h : scOf d = some c) : d = .agg [.str c.s, .int .i64 (c.at_ : Int), .int .i64 c.bad] ∧ c.at_ ≤ c.s.length ∧ c.s.length ≤ 1000000 := by
 unfold scOf at h
 split at h
 ·rename_i s a b
  split at h
  ·rename_i hc
   simp only [Option.some.injEq] at h
   subst h
   refine ⟨?_, by simp only; omega, hc.2.2⟩
   simp only [Int.toNat_of_nonneg hc.1]
  ·cases h
 ·cases h
theorem scOf_of {c : Sc} (h : c.at_ ≤ c.s.length) (h' : c.s.length ≤ 1000000) : scOf (.agg [.str c.s, .int .i64 (c.at_ : Int), .int .i64 c.bad]) = some c := by
 simp only [scOf]
 rw [if_pos ⟨by omega, by omega, h'⟩]; simp
theorem scOf_of' {s : Bs} {a : Nat} {b : Int} (h : a ≤ s.length) (h' : s.length ≤ 1000000) : scOf (.agg [.str s, .int .i64 (a : Int), .int .i64 b]) = some ⟨s, a, b⟩ := scOf_of (c := ⟨s, a, b⟩) h h'
def F106 : List D → Option D
 | [d] => (scOf d).map fun _ => .bool true
 | _ => none
def F107 : List D → Option D
 | [d] => (scOf d).map fun c => .int .i64 ((c.s.length : Int) - c.at_)
 | _ => none
def F135 : List D → Option D
 | [d, .int .i64 e] => (scOf d).map fun c => scD { c with bad := e }
 | _ => none
def F124 : List D → Option D
 | [d, .int .i64 k] => if 1 ≤ k ∧ k ≤ 8 then (scOf d).map fun c => .tup [.int .u64 ((numS k.toNat c).1 : Int), scD (numS k.toNat c).2] else none
 | _ => none
def F125 : List D → Option D
 | [d] => (scOf d).map fun c => .tup [.str (rowS c).1, scD (rowS c).2]
 | _ => none
def F85 : List D → Option D
 | [d] => (scOf d).map fun c => .int .i64 (endS c)
 | _ => none
theorem ok106 {P : Program} (hb : DeskB P) : (funS F106).ok P 106 := by
 refine fun_ok (S := fun _ => none) none_ok hb.f106 (fun ds r h => ?_) (fun ds r h => ?_)
 ·unfold F106 at h; split at h
  ·simp
  ·cases h
 ·unfold F106 at h; split at h
  ·rename_i d
   rw [Option.map_eq_some_iff] at h
   obtain ⟨c, hc, rfl⟩ := h
   obtain ⟨rfl, h1, h2⟩ := scOf_inv hc
   have g1 : ((0 : Int) ≤ (c.at_ : Int)) = True := eq_true (by omega)
   have g2 : ((c.at_ : Int) ≤ (c.s.length : Int)) = True := eq_true (by omega)
   unfold dc106
   simp only [↓go1, gB0, reduceIte, Nat.reduceEqDiff, Nat.reduceAdd, Nat.reduceSub, Nat.reduceLT, Nat.reduceLeDiff, put1_rd, put_rd, rd_zero, rd_succ, gB1, reduceCtorEq, res_cell, res_tc, ldD_agg, scD, g1, g2]
  ·cases h
theorem ok107 {P : Program} (hb : DeskB P) : (funS F107).ok P 107 := by
 refine fun_ok (S := fun _ => none) none_ok hb.f107 (fun ds r h => ?_) (fun ds r h => ?_)
 ·unfold F107 at h; split at h
  ·simp
  ·cases h
 ·unfold F107 at h; split at h
  ·rename_i d
   rw [Option.map_eq_some_iff] at h
   obtain ⟨c, hc, rfl⟩ := h
   obtain ⟨rfl, h1, h2⟩ := scOf_inv hc
   have g1 : IntKind.i64.wrap ((c.s.length : Int) - (c.at_ : Int)) = (c.s.length : Int) - (c.at_ : Int) := IntWalk.i64_in _ ⟨by omega, by omega⟩
   unfold dc107
   simp only [↓go1, gB0, reduceIte, Nat.reduceEqDiff, Nat.reduceAdd, Nat.reduceSub, Nat.reduceLT, Nat.reduceLeDiff, put1_rd, put_rd, rd_zero, rd_succ, gB1, reduceCtorEq, res_cell, res_tc, ldD_agg, scD, g1]
  ·cases h
theorem ok135 {P : Program} (hb : DeskB P) : (funS F135).ok P 135 := by
 refine fun_ok (S := fun _ => none) none_ok hb.f135 (fun ds r h => ?_) (fun ds r h => ?_)
 ·unfold F135 at h; split at h
  ·simp
  ·cases h
 ·unfold F135 at h; split at h
  ·rename_i d e
   rw [Option.map_eq_some_iff] at h
   obtain ⟨c, hc, rfl⟩ := h
   obtain ⟨rfl, h1, h2⟩ := scOf_inv hc
   unfold dc135
   simp only [↓go1, gB0, reduceIte, Nat.reduceEqDiff, Nat.reduceAdd, Nat.reduceSub, Nat.reduceLT, Nat.reduceLeDiff, put1_rd, put_rd, rd_zero, rd_succ, gB1, reduceCtorEq, res_cell, res_tc, ldD_agg, scD]
  ·cases h
theorem pow_le {k n : Nat} (h : k ≤ n) : (256 : Nat) ^ k ≤ 256 ^ n := Nat.pow_le_pow_right (by omega) h
set_option maxHeartbeats 1000000 in
theorem loop124 {S : Summs} {b : Bs} (hb : b.length ≤ 8) {nl : Bool} {t : Id} {M : Mem} {X : D} {Q : Ex → St → Prop} (hexit : ∀ st, st.s 6 = .int .u64 (beN b : Int) → st.m = M → st.s 2 = .ptr [0] 0 → st.s 5 = .ptr [2] 0 → st.s 1 = X → Q (.exit 1) st) :
  ∀ (n k : Nat) st g, n = b.length - k → k ≤ b.length → st.s 43 = .int .i64 (k : Int) → st.s 42 = .int .i64 (b.length : Int) → st.s 41 = .slice nl t (bytesD b) → st.s 6 = .int .u64 (beN (b.take k) : Int) → st.m = M → st.s 2 = .ptr [0] 0 → st.s 5 = .ptr [2] 0 → st.s 1 = X → loopW S [] dc124l0 Q st g := by
 intro n
 induction n with
 | zero =>
  intro k st g hn hk h43 h42 h41 h6 hm h2 h5 h1
  refine wp_loopd dc124l0.eq_1 ?_
  have hlt : ((k : Int) < (b.length : Int)) = False := eq_false (by omega)
  rw [List.take_of_length_le (by omega)] at h6
  simp only [↓go1, gB0, reduceIte, Nat.reduceEqDiff, Nat.reduceAdd, Nat.reduceSub, Nat.reduceLT, Nat.reduceLeDiff, put1_rd, put_rd, rd_zero, rd_succ, gB1, reduceCtorEq, res_cell, res_tc, ldD_agg, scD, h43, h42, hlt]
  exact hexit _ h6 hm h2 h5 h1
 | succ n ih =>
  intro k st g hn hk h43 h42 h41 h6 hm h2 h5 h1
  refine wp_loopd dc124l0.eq_1 ?_
  have hlt : ((k : Int) < (b.length : Int)) = True := eq_true (by omega)
  have hk0 : (0 : Int) ≤ (k : Int) := by omega
  have hkl : k < b.length := by omega
  have hx : (bytesD b)[(k : Int).toNat]? = some (.int .u8 (b[k].toNat : Int)) := by simp [bytesD, hkl]
  have hw : IntKind.i64.wrap ((k : Int) + 1) = ((k + 1 : Nat) : Int) := by rw [IntWalk.i64_in _ ⟨by omega, by omega⟩]; omega
  have hb1 : b[k].toNat < 256 := b[k].toNat_lt
  have hw2 : IntKind.u64.wrap (b[k].toNat : Int) = (b[k].toNat : Int) := u64_small (by omega) (by omega)
  have hlt2 : beN (b.take k) < 72057594037927936 := by
   have h1 := beN_lt (b.take k)
   have h2 : (b.take k).length ≤ 7 := by simp; omega
   exact Nat.lt_of_lt_of_le h1 (pow_le h2)
  have hor := or_byte hlt2 hb1
  have h08 : (0 : Int) ≤ 8 := by omega
  simp only [↓go1, gB0, reduceIte, Nat.reduceEqDiff, Nat.reduceAdd, Nat.reduceSub, Nat.reduceLT, Nat.reduceLeDiff, put1_rd, put_rd, rd_zero, rd_succ, gB1, reduceCtorEq, res_cell, res_tc, ldD_agg, scD, h43, h42, h41, h6, hlt, hk0, hx, hw, hw2, hor, h08]
  refine ih (k + 1) _ _ (by omega) (by omega) rfl h42 h41 ?_ hm h2 h5 h1
  simp only [↓go1, gB0, reduceIte, Nat.reduceEqDiff, Nat.reduceAdd, Nat.reduceSub, Nat.reduceLT, Nat.reduceLeDiff, put1_rd, put_rd, rd_zero, rd_succ, gB1, reduceCtorEq, res_cell, res_tc, ldD_agg, scD, beN_take hkl]
set_option maxHeartbeats 2000000 in
theorem ok124 {P : Program} (hb : DeskB P) : (funS F124).ok P 124 := by
 have hS : Summs.ok P (tabL [(106, funS F106), (107, funS F107), (120, funS F120), (135, funS F135)]) := tabL_cons (ok106 hb) (tabL_cons (ok107 hb) (tabL_cons (ok120 hb) (tabL_cons (ok135 hb) tabL_nil)))
 have s106 : tabL [(106, funS F106), (107, funS F107), (120, funS F120), (135, funS F135)] 106 = some (funS F106) := rfl
 have s107 : tabL [(106, funS F106), (107, funS F107), (120, funS F120), (135, funS F135)] 107 = some (funS F107) := rfl
 have s120 : tabL [(106, funS F106), (107, funS F107), (120, funS F120), (135, funS F135)] 120 = some (funS F120) := rfl
 have s135 : tabL [(106, funS F106), (107, funS F107), (120, funS F120), (135, funS F135)] 135 = some (funS F135) := rfl
 generalize tabL [(106, funS F106), (107, funS F107), (120, funS F120), (135, funS F135)] = S at hS s106 s107 s120 s135
 refine fun_ok (S := S) hS hb.f124 (fun ds r h => ?_) (fun ds r h => ?_)
 ·unfold F124 at h; split at h
  ·simp
  ·cases h
 ·unfold F124 at h; split at h
  ·rename_i d k
   split at h
   ·rename_i hk
    rw [Option.map_eq_some_iff] at h
    obtain ⟨⟨s, a, b⟩, hc, rfl⟩ := h
    obtain ⟨rfl, h1, h2⟩ := scOf_inv hc
    simp only at h1 h2
    have f106 : F106 [.agg [.str s, .int .i64 (a : Int), .int .i64 b]] = some (.bool true) := by simp only [F106, scOf_of' h1 h2, Option.map_some]
    have f107 : F107 [.agg [.str s, .int .i64 (a : Int), .int .i64 b]] = some (.int .i64 ((s.length : Int) - a)) := by simp only [F107, scOf_of' h1 h2, Option.map_some]
    have f120 : F120 [.int .i64 k] = some (.bool true) := by simp [F120, hk.1, hk.2]
    have f135 : ∀ e, F135 [.agg [.str s, .int .i64 (a : Int), .int .i64 b], .int .i64 e] = some (.agg [.str s, .int .i64 (a : Int), .int .i64 e]) := fun e => by simp only [F135, scOf_of' h1 h2, Option.map_some, scD]
    unfold dc124
    by_cases hb0 : b = 0
    ·have hb0' : (b = 0) = True := eq_true hb0
     by_cases hl : s.length - a < k.toNat
     ·have hl' : ((s.length : Int) - a < k) = True := eq_true (by omega)
      simp only [↓go1, gB0, reduceIte, Nat.reduceEqDiff, Nat.reduceAdd, Nat.reduceSub, Nat.reduceLT, Nat.reduceLeDiff, put1_rd, put_rd, rd_zero, rd_succ, gB1, reduceCtorEq, res_cell, res_tc, ldD_agg, scD, hb0', hl', f106, f107, f120, f135, numS, if_pos hl, callK_fun s106, callK_fun s107, callK_fun s120, callK_fun s135]
      rfl
     ·have hl' : ((s.length : Int) - a < k) = False := eq_false (by omega)
      have hwk : IntKind.i64.wrap ((a : Int) + k) = (a : Int) + k := IntWalk.i64_in _ ⟨by omega, by omega⟩
      have c1 : ((0 : Int) ≤ (a : Int) + k) = True := eq_true (by omega)
      have c2 : ((a : Int) + k ≤ (s.length : Int)) = True := eq_true (by omega)
      have c3 : ((0 : Int) ≤ (a : Int)) = True := eq_true (by omega)
      have c4 : ((a : Int) ≤ (a : Int) + k) = True := eq_true (by omega)
      have c5 : ((a : Int) + k).toNat = a + k.toNat := by omega
      have c6 : ((a : Int)).toNat = a := by omega
      have c8 : a + k.toNat - a = k.toNat := by omega
      have c7 : ((a : Int) ≤ ((a + k.toNat : Nat) : Int)) = True := eq_true (by omega)
      simp only [↓go1, gB0, reduceIte, Nat.reduceEqDiff, Nat.reduceAdd, Nat.reduceSub, Nat.reduceLT, Nat.reduceLeDiff, put1_rd, put_rd, rd_zero, rd_succ, gB1, reduceCtorEq, res_cell, res_tc, ldD_agg, scD, hb0', hl', f106, f107, f120, f135, numS, if_neg hl, hwk, c1, c2, c3, c4, c5, c6, c7, c8, callK_fun s106, callK_fun s107, callK_fun s120, callK_fun s135]
      have hbl : ((s.drop a).take k.toNat).length = k.toNat := by rw [List.length_take, List.length_drop]; omega
      have hif : (if ¬ b = 0 then ((0 : Nat), (⟨s, a, b⟩ : Sc)) else if s.length - a < k.toNat then (0, ⟨s, a, 3⟩) else (beN ((s.drop a).take k.toNat), ⟨s, a + k.toNat, b⟩)) = (beN ((s.drop a).take k.toNat), ⟨s, a + k.toNat, b⟩) := by
       rw [if_neg (by simp [hb0]), if_neg hl]
      rw [hif]
      refine loop124 (b := (s.drop a).take k.toNat) (by omega) (X := .int .i64 k) (M := (Mem.put (fun _ _ => none) [0] 0 [.str s, .int .i64 (a : Int), .int .i64 b]).put [2] 0 [.str [], .int .i64 0, .int .i64 0]) (fun st e6 em e2 e5 e1 => ?_) _ 0 _ _ rfl (by omega) rfl ?_ rfl rfl rfl rfl rfl rfl
      ·have hcast : ((a + k.toNat : Nat) : Int) = (a : Int) + k := by omega
       simp only [↓go1, gB0, reduceIte, Nat.reduceEqDiff, Nat.reduceAdd, Nat.reduceSub, Nat.reduceLT, Nat.reduceLeDiff, put1_rd, put_rd, rd_zero, rd_succ, gB1, reduceCtorEq, res_cell, res_tc, ldD_agg, scD, e6, em, e2, e5, e1, hwk, hb0, hcast]
       refine Need.intro (feetB_ok rfl) ?_
       simp only [↓go1, gB0, reduceIte, Nat.reduceEqDiff, Nat.reduceAdd, Nat.reduceSub, Nat.reduceLT, Nat.reduceLeDiff, put1_rd, put_rd, rd_zero, rd_succ, gB1, reduceCtorEq, res_cell, res_tc, ldD_agg, scD, e6, em, e2, e5, e1, hwk, hb0, hcast]
      ·simp only [↓go1, gB0, reduceIte, Nat.reduceEqDiff, Nat.reduceAdd, Nat.reduceSub, Nat.reduceLT, Nat.reduceLeDiff, put1_rd, put_rd, rd_zero, rd_succ, gB1, reduceCtorEq, res_cell, res_tc, ldD_agg, scD, bytesD_len, hbl]
    ·have hb0' : (b = 0) = False := eq_false hb0
     simp only [↓go1, gB0, reduceIte, Nat.reduceEqDiff, Nat.reduceAdd, Nat.reduceSub, Nat.reduceLT, Nat.reduceLeDiff, put1_rd, put_rd, rd_zero, rd_succ, gB1, reduceCtorEq, res_cell, res_tc, ldD_agg, scD, hb0', f106, f107, f120, f135, numS, callK_fun s106, callK_fun s107, callK_fun s120, callK_fun s135]
     refine Need.intro (feetB_ok rfl) ?_
     simp only [↓go1, gB0, reduceIte, Nat.reduceEqDiff, Nat.reduceAdd, Nat.reduceSub, Nat.reduceLT, Nat.reduceLeDiff, put1_rd, put_rd, rd_zero, rd_succ, gB1, reduceCtorEq, res_cell, res_tc, ldD_agg, scD, hb0', f106, f107, f120, f135, numS, callK_fun s106, callK_fun s107, callK_fun s120, callK_fun s135]
     rfl
   ·cases h
  ·cases h
theorem numS_inv {k : Nat} {c : Sc} (h : c.at_ ≤ c.s.length) : (numS k c).2.s = c.s ∧ (numS k c).2.at_ ≤ c.s.length ∧ (numS k c).1 < 256 ^ k ∧ ((numS k c).2.bad = 0 → c.bad = 0) := by
 unfold numS
 split
 ·exact ⟨rfl, h, Nat.pos_of_ne_zero (by simp), fun e => e⟩
 ·split
  ·exact ⟨rfl, h, Nat.pos_of_ne_zero (by simp), fun e => by simp at e⟩
  ·refine ⟨rfl, by simp only; omega, ?_, fun e => e⟩
   refine Nat.lt_of_lt_of_le (beN_lt _) (pow_le ?_)
   simp; omega
theorem u64i64 {n : Nat} (h : n < 65536) : IntKind.i64.wrap (n : Int) = (n : Int) := IntWalk.i64_in _ ⟨by omega, by omega⟩
set_option maxHeartbeats 2000000 in
theorem ok125 {P : Program} (hb : DeskB P) : (funS F125).ok P 125 := by
 have hS : Summs.ok P (tabL [(107, funS F107), (124, funS F124), (135, funS F135)]) := tabL_cons (ok107 hb) (tabL_cons (ok124 hb) (tabL_cons (ok135 hb) tabL_nil))
 have s107 : tabL [(107, funS F107), (124, funS F124), (135, funS F135)] 107 = some (funS F107) := rfl
 have s124 : tabL [(107, funS F107), (124, funS F124), (135, funS F135)] 124 = some (funS F124) := rfl
 have s135 : tabL [(107, funS F107), (124, funS F124), (135, funS F135)] 135 = some (funS F135) := rfl
 generalize tabL [(107, funS F107), (124, funS F124), (135, funS F135)] = S at hS s107 s124 s135
 refine fun_ok (S := S) hS hb.f125 (fun ds r h => ?_) (fun ds r h => ?_)
 ·unfold F125 at h; split at h
  ·simp
  ·cases h
 ·unfold F125 at h; split at h
  ·rename_i d
   rw [Option.map_eq_some_iff] at h
   obtain ⟨c, hc, rfl⟩ := h
   obtain ⟨rfl, h1, h2⟩ := scOf_inv hc
   obtain ⟨i1, i2, i3, _⟩ := numS_inv (k := 2) h1
   have f124 : F124 [.agg [.str c.s, .int .i64 (c.at_ : Int), .int .i64 c.bad], .int .i64 2] = some (.tup [.int .u64 ((numS 2 c).1 : Int), .agg [.str c.s, .int .i64 ((numS 2 c).2.at_ : Int), .int .i64 (numS 2 c).2.bad]]) := by
    simp only [F124, scOf_of h1 h2, Option.map_some, scD]
    rw [if_pos ⟨by omega, by omega⟩]
    show some (D.tup [.int .u64 ((numS 2 c).1 : Int), .agg [.str (numS 2 c).2.s, _, _]]) = _
    rw [i1]; rfl
   have f135 : ∀ e, F135 [.agg [.str c.s, .int .i64 (c.at_ : Int), .int .i64 c.bad], .int .i64 e] = some (.agg [.str c.s, .int .i64 (c.at_ : Int), .int .i64 e]) := fun e => by simp only [F135, scOf_of h1 h2, Option.map_some, scD]
   unfold rowS
   generalize numS 2 c = p at i1 i2 i3 f124 ⊢
   obtain ⟨n, ⟨s', a, b⟩⟩ := p
   simp only at i1 i2 i3 f124 ⊢
   subst i1
   have f107 : F107 [.agg [.str c.s, .int .i64 (a : Int), .int .i64 b]] = some (.int .i64 ((c.s.length : Int) - a)) := by simp only [F107, scOf_of' i2 h2, Option.map_some]
   have hw := u64i64 (n := n) (by simpa using i3)
   unfold dc125
   by_cases hb0 : b = 0
   ·have hb0' : (b = 0) = True := eq_true hb0
    by_cases hl : c.s.length - a < n
    ·have hl' : ((c.s.length : Int) - a < (n : Int)) = True := eq_true (by omega)
     simp only [↓go1, gB0, reduceIte, Nat.reduceEqDiff, Nat.reduceAdd, Nat.reduceSub, Nat.reduceLT, Nat.reduceLeDiff, put1_rd, put_rd, rd_zero, rd_succ, gB1, reduceCtorEq, res_cell, res_tc, ldD_agg, scD, hb0', hl', if_pos hl, f107, f124, f135, hw, if_false, callK_fun s107, callK_fun s124, callK_fun s135]
    ·have hl' : ((c.s.length : Int) - a < (n : Int)) = False := eq_false (by omega)
     have hwk : IntKind.i64.wrap ((a : Int) + (n : Int)) = ((a + n : Nat) : Int) := by rw [IntWalk.i64_in _ ⟨by omega, by omega⟩]; omega
     have c1 : ((0 : Int) ≤ ((a + n : Nat) : Int)) = True := eq_true (by omega)
     have c2 : (((a + n : Nat) : Int) ≤ (c.s.length : Int)) = True := eq_true (by omega)
     have c3 : ((0 : Int) ≤ (a : Int)) = True := eq_true (by omega)
     have c4 : ((a : Int) ≤ ((a + n : Nat) : Int)) = True := eq_true (by omega)
     have c5 : (((a + n : Nat) : Int)).toNat = a + n := by omega
     have c6 : ((a : Int)).toNat = a := by omega
     have c8 : a + n - a = n := by omega
     simp only [↓go1, gB0, reduceIte, Nat.reduceEqDiff, Nat.reduceAdd, Nat.reduceSub, Nat.reduceLT, Nat.reduceLeDiff, put1_rd, put_rd, rd_zero, rd_succ, gB1, reduceCtorEq, res_cell, res_tc, ldD_agg, scD, hb0', hl', if_neg hl, f107, f124, f135, hw, hwk, c1, c2, c3, c4, c5, c6, c8, if_false, callK_fun s107, callK_fun s124, callK_fun s135]
     refine Need.intro (feetB_ok rfl) ?_
     simp only [↓go1, gB0, reduceIte, Nat.reduceEqDiff, Nat.reduceAdd, Nat.reduceSub, Nat.reduceLT, Nat.reduceLeDiff, put1_rd, put_rd, rd_zero, rd_succ, gB1, reduceCtorEq, res_cell, res_tc, ldD_agg, scD, hb0', hl', if_neg hl, f107, f124, f135, hw, hwk, c1, c2, c3, c4, c5, c6, c8, if_false, callK_fun s107, callK_fun s124, callK_fun s135]
   ·have hb0' : (b = 0) = False := eq_false hb0
    simp only [↓go1, gB0, reduceIte, Nat.reduceEqDiff, Nat.reduceAdd, Nat.reduceSub, Nat.reduceLT, Nat.reduceLeDiff, put1_rd, put_rd, rd_zero, rd_succ, gB1, reduceCtorEq, res_cell, res_tc, ldD_agg, scD, hb0', f107, f124, f135, hw, if_true, callK_fun s107, callK_fun s124, callK_fun s135]
    refine Need.intro (feetB_ok rfl) ?_
    simp only [↓go1, gB0, reduceIte, Nat.reduceEqDiff, Nat.reduceAdd, Nat.reduceSub, Nat.reduceLT, Nat.reduceLeDiff, put1_rd, put_rd, rd_zero, rd_succ, gB1, reduceCtorEq, res_cell, res_tc, ldD_agg, scD, hb0', f107, f124, f135, hw, if_true, callK_fun s107, callK_fun s124, callK_fun s135]
  ·cases h
theorem ok85 {P : Program} (hb : DeskB P) : (funS F85).ok P 85 := by
 have hS : Summs.ok P (tabL [(106, funS F106), (107, funS F107)]) := tabL_cons (ok106 hb) (tabL_cons (ok107 hb) tabL_nil)
 have s106 : tabL [(106, funS F106), (107, funS F107)] 106 = some (funS F106) := rfl
 have s107 : tabL [(106, funS F106), (107, funS F107)] 107 = some (funS F107) := rfl
 generalize tabL [(106, funS F106), (107, funS F107)] = S at hS s106 s107
 refine fun_ok (S := S) hS hb.f85 (fun ds r h => ?_) (fun ds r h => ?_)
 ·unfold F85 at h; split at h
  ·simp
  ·cases h
 ·unfold F85 at h; split at h
  ·rename_i d
   rw [Option.map_eq_some_iff] at h
   obtain ⟨c, hc, rfl⟩ := h
   obtain ⟨rfl, h1, h2⟩ := scOf_inv hc
   have f106 : F106 [.agg [.str c.s, .int .i64 (c.at_ : Int), .int .i64 c.bad]] = some (.bool true) := by simp only [F106, scOf_of h1 h2, Option.map_some]
   have f107 : F107 [.agg [.str c.s, .int .i64 (c.at_ : Int), .int .i64 c.bad]] = some (.int .i64 ((c.s.length : Int) - c.at_)) := by simp only [F107, scOf_of h1 h2, Option.map_some]
   unfold dc85
   by_cases hb0 : c.bad = 0
   ·have hb0' : (c.bad = 0) = True := eq_true hb0
    by_cases hl : c.at_ < c.s.length
    ·have hl' : ((0 : Int) < (c.s.length : Int) - (c.at_ : Int)) = True := eq_true (by omega)
     simp only [↓go1, gB0, reduceIte, Nat.reduceEqDiff, Nat.reduceAdd, Nat.reduceSub, Nat.reduceLT, Nat.reduceLeDiff, put1_rd, put_rd, rd_zero, rd_succ, gB1, reduceCtorEq, res_cell, res_tc, ldD_agg, scD, hb0', hl', f106, f107, endS, if_pos hl, callK_fun s106, callK_fun s107]
    ·have hl' : ((0 : Int) < (c.s.length : Int) - (c.at_ : Int)) = False := eq_false (by omega)
     simp only [↓go1, gB0, reduceIte, Nat.reduceEqDiff, Nat.reduceAdd, Nat.reduceSub, Nat.reduceLT, Nat.reduceLeDiff, put1_rd, put_rd, rd_zero, rd_succ, gB1, reduceCtorEq, res_cell, res_tc, ldD_agg, scD, hb0', hl', f106, f107, endS, if_neg hl, callK_fun s106, callK_fun s107]
   ·have hb0' : (c.bad = 0) = False := eq_false hb0
    simp only [↓go1, gB0, reduceIte, Nat.reduceEqDiff, Nat.reduceAdd, Nat.reduceSub, Nat.reduceLT, Nat.reduceLeDiff, put1_rd, put_rd, rd_zero, rd_succ, gB1, reduceCtorEq, res_cell, res_tc, ldD_agg, scD, hb0', f106, f107, endS, callK_fun s106, callK_fun s107]
  ·cases h
end Go.Vd

namespace Go.Vd
open Go.RowKit
set_option maxRecDepth 10000
structure ScAt (m : Mem) (r : Id) (c : Sc) : Prop where
 c0 : m r 0 = some (.str c.s)
 c1 : m r 1 = some (.int .i64 (c.at_ : Int))
 c2 : m r 2 = some (.int .i64 c.bad)
 le : c.at_ ≤ c.s.length
 len : c.s.length ≤ 1000000
def scAt (m : Mem) (r : Id) : Option Sc :=
 match m r 0, m r 1, m r 2 with
 | some (.str s), some (.int .i64 a), some (.int .i64 b) => if 0 ≤ a ∧ a ≤ (s.length : Int) ∧ s.length ≤ 1000000 then some ⟨s, a.toNat, b⟩ else none
 | _, _, _ => none
theorem scAt_some {m : Mem} {r : Id} {c : Sc} (h : scAt m r = some c) : ScAt m r c := by
 unfold scAt at h
 split at h
 ·rename_i s a b h0 h1 h2
  split at h
  ·rename_i hc
   simp only [Option.some.injEq] at h
   subst h
   exact ⟨h0, by rw [h1]; simp only [Int.toNat_of_nonneg hc.1], h2, by simp only; omega, hc.2.2⟩
  ·cases h
 ·cases h
theorem ScAt.of {m : Mem} {r : Id} {c : Sc} (h : ScAt m r c) : scAt m r = some c := by
 unfold scAt
 rw [h.c0, h.c1, h.c2]
 have := h.le
 simp only
 rw [if_pos ⟨by omega, by omega, h.len⟩]; simp
def scU (r : Id) (c : Sc) : Upd := [(r, 0, [.str c.s, .int .i64 (c.at_ : Int), .int .i64 c.bad])]
theorem rowU_sc {S : Summs} {ns : Id} {n k : Nat} {ops l : List DOper} {s : Nat → D} {dst : Option Nat} {m : Mem} {K} {d : D} {r : Id} {c : Sc} : rowU S ns n ops l k s dst m K d (scU r c) = rowK S ns n ops l k (setS s dst d) (Upd.app m (scU r c)) K := rfl
theorem drawnU_sc {S : Summs} {ns : Id} {n k : Nat} {ops l : List DOper} {s : Nat → D} {dst : Option Nat} {m : Mem} {op : DOp} {K} {d : D} {r : Id} {c : Sc} : drawnU S ns n ops l k s dst m op K d (scU r c) = drawnK S ns n ops l k (setS s dst d) (Upd.app m (scU r c)) fun k' s' m' f => K k' s' m' ((rds S s m op, wlocs (scU r c)) :: f) := rfl
theorem put3_rd {m : Mem} {r i : Id} {a b c : D} {o : Nat} : m.put r 0 [a, b, c] i o = if i = r ∧ o = 0 then some a else if i = r ∧ o = 1 then some b else if i = r ∧ o = 2 then some c else m i o := by
 rw [put_rd]
 by_cases hi : i = r
 ·match o with
  | 0 => simp [hi]
  | 1 => simp [hi]
  | 2 => simp [hi]
  | o + 3 => rw [if_neg (by simp), if_neg (by simp), if_neg (by simp), if_neg (by simp)]
 ·simp [hi]
def tkQ (F : Sc → List D → Option (D × Sc)) : Summ where
 rd := fun ds _ => match ds with
  | .ptr r 0 :: _ => [(r, 0), (r, 1), (r, 2)]
  | _ => []
 ex := fun ds m _ => match ds with
  | .ptr r 0 :: rest => match scAt m r with
   | some c => (F c rest).map fun x => (x.1, scU r x.2)
   | none => none
  | _ => none
theorem tkQ_loc (F : Sc → List D → Option (D × Sc)) (ds : List D) (m m' : Mem) (fr : Id) (h : ∀ l ∈ (tkQ F).rd ds m, m l.1 l.2 = m' l.1 l.2) : (tkQ F).ex ds m fr = (tkQ F).ex ds m' fr := by
 simp only [tkQ] at h ⊢
 split
 ·rename_i r rest
  unfold scAt
  rw [h (r, 0) (by simp), h (r, 1) (by simp), h (r, 2) (by simp)]
 ·rfl
theorem tkQ_inv {F : Sc → List D → Option (D × Sc)} {ds : List D} {m : Mem} {fr : Id} {d : D} {u : Upd} (h : (tkQ F).ex ds m fr = some (d, u)) :
  ∃ r rest c c', ds = .ptr r 0 :: rest ∧ ScAt m r c ∧ F c rest = some (d, c') ∧ u = scU r c' := by
 simp only [tkQ] at h
 split at h
 ·rename_i r rest
  split at h
  ·rename_i c hc
   rw [Option.map_eq_some_iff] at h
   obtain ⟨⟨d', c'⟩, hF, h⟩ := h
   simp only [Prod.mk.injEq] at h
   exact ⟨r, rest, c, c', rfl, scAt_some hc, by rw [hF, ← h.1], h.2.symm⟩
  ·cases h
 ·cases h
theorem got_tk {F : Sc → List D → Option (D × Sc)} {m : Mem} {fr r : Id} {rest : List D} {c c' : Sc} {d : D} {K : D × Upd → Prop} {g} (h : ScAt m r c) (hF : F c rest = some (d, c')) (k : K (d, scU r c')) : Got ((tkQ F).ex (.ptr r 0 :: rest) m fr) K g := by
 refine Got.intro ?_ k
 simp only [tkQ, h.of, hF]; rfl
theorem ScAt.upd {m : Mem} {r : Id} {c : Sc} (h1 : c.at_ ≤ c.s.length) (h2 : c.s.length ≤ 1000000) : ScAt (Upd.app m (scU r c)) r c :=
 ⟨by simp [scU, Upd.app, put3_rd], by simp [scU, Upd.app, put3_rd], by simp [scU, Upd.app, put3_rd], h1, h2⟩
theorem ScAt.keep {m m' : Mem} {r : Id} {c : Sc} (h : ScAt m r c) (hm : ∀ o, m' r o = m r o) : ScAt m' r c := ⟨by rw [hm, h.c0], by rw [hm, h.c1], by rw [hm, h.c2], h.le, h.len⟩
theorem ScAt.nfr {m : Mem} {r fr : Id} {c : Sc} (h : ScAt m r c) (hfr : ∀ i o, fr <:+ i → m i o = none) : ¬ fr <:+ r := fun e => by have := h.c0; rw [hfr _ _ e] at this; cases this
structure Tk (fr r : Id) (m0 m : Mem) (c : Sc) : Prop where
 at_ : ScAt m r c
 out : ∀ i o, ¬ fr <:+ i → ¬ (i = r ∧ o < 3) → m i o = m0 i o
section
variable {fr r : Id} {m0 m : Mem} {c c' : Sc}
theorem Tk.start (h : ScAt m r c) : Tk fr r m m c := ⟨h, fun _ _ _ _ => rfl⟩
theorem Tk.upd (h : Tk fr r m0 m c) (h1 : c'.at_ ≤ c'.s.length) (h2 : c'.s.length ≤ 1000000) : Tk fr r m0 (Upd.app m (scU r c')) c' := by
 refine ⟨ScAt.upd h1 h2, fun i o hi ho => ?_⟩
 rw [← h.out i o hi ho]
 simp only [scU, Upd.app, put3_rd]
 rw [if_neg (fun e => ho ⟨e.1, by omega⟩), if_neg (fun e => ho ⟨e.1, by omega⟩), if_neg (fun e => ho ⟨e.1, by omega⟩)]
theorem Tk.setBad (h : Tk fr r m0 m c) {e : Int} : Tk fr r m0 (m.put r 2 [.int .i64 e]) { c with bad := e } := by
 refine ⟨⟨?_, ?_, ?_, h.at_.le, h.at_.len⟩, fun i o hi ho => ?_⟩
 ·simp [put1_rd, h.at_.c0]
 ·simp [put1_rd, h.at_.c1]
 ·simp [put1_rd]
 ·rw [← h.out i o hi ho, put1_rd, if_neg (fun e => ho ⟨e.1, by omega⟩)]
theorem Tk.mem (h : Tk fr r m0 m c) {m' : Mem} (hr : ¬ fr <:+ r) (hm : ∀ i o, ¬ fr <:+ i → m' i o = m i o) : Tk fr r m0 m' c :=
 ⟨h.at_.keep (fun o => hm r o hr), fun i o hi ho => (hm i o hi).trans (h.out i o hi ho)⟩
theorem Tk.fin (h : Tk fr r m0 m c) (hfr : ∀ i o, fr <:+ i → m0 i o = none) : ∀ i o x, Upd.app m0 (scU r c) i o = some x → m i o = some x := by
 intro i o x hx
 simp only [scU, Upd.app, put3_rd] at hx
 by_cases e0 : i = r ∧ o = 0
 ·rw [if_pos e0] at hx; rw [e0.1, e0.2, h.at_.c0]; exact hx
 ·rw [if_neg e0] at hx
  by_cases e1 : i = r ∧ o = 1
  ·rw [if_pos e1] at hx; rw [e1.1, e1.2, h.at_.c1]; exact hx
  ·rw [if_neg e1] at hx
   by_cases e2 : i = r ∧ o = 2
   ·rw [if_pos e2] at hx; rw [e2.1, e2.2, h.at_.c2]; exact hx
   ·rw [if_neg e2] at hx
    by_cases hf : fr <:+ i
    ·rw [hfr i o hf] at hx; cases hx
    ·rw [h.out i o hf (fun e => ?_)]
     ·exact hx
     ·match o with
      | 0 => exact e0 ⟨e.1, rfl⟩
      | 1 => exact e1 ⟨e.1, rfl⟩
      | 2 => exact e2 ⟨e.1, rfl⟩
      | o + 3 => omega
end
theorem rowS_inv {c : Sc} (h : c.at_ ≤ c.s.length) : (rowS c).2.s = c.s ∧ (rowS c).2.at_ ≤ c.s.length ∧ (rowS c).1.length ≤ 65535 ∧ ((rowS c).2.bad = 0 → c.bad = 0) := by
 obtain ⟨i1, i2, i3, i4⟩ := numS_inv (k := 2) h
 unfold rowS
 split
 ·exact ⟨i1, i2, by simp, i4⟩
 ·split
  ·exact ⟨rfl, h, by simp, fun e => by simp at e⟩
  ·rename_i h1 h2
   rw [i1] at h2 ⊢
   refine ⟨rfl, by simp only; omega, ?_, i4⟩
   simp only [List.length_take]
   have : (numS 2 c).1 < 65536 := by simpa using i3
   omega
theorem failS_inv {e : Int} {c : Sc} : (failS e c).s = c.s ∧ (failS e c).at_ = c.at_ := by
 unfold failS; split <;> exact ⟨rfl, rfl⟩
def F101 (c : Sc) : List D → Option (D × Sc)
 | [.int .i64 k] => if 1 ≤ k ∧ k ≤ 8 then some (.int .u64 ((numS k.toNat c).1 : Int), (numS k.toNat c).2) else none
 | _ => none
theorem ok101 {P : Program} (hb : DeskB P) : (tkQ F101).ok P 101 := by
 have hS : Summs.ok P (tabL [(124, funS F124)]) := tabL_cons (ok124 hb) tabL_nil
 have s124 : tabL [(124, funS F124)] 124 = some (funS F124) := rfl
 generalize tabL [(124, funS F124)] = S at hS s124
 refine opn_ok2 (S := S) hS hb.f101 (tkQ_loc _) (fun ds m fr d u h hfr => ?_)
 obtain ⟨r, rest, c, c', rfl, T, hF, rfl⟩ := tkQ_inv h
 unfold F101 at hF
 split at hF
 ·rename_i k
  split at hF
  ·rename_i hk
   simp only [Option.some.injEq, Prod.mk.injEq] at hF
   obtain ⟨rfl, rfl⟩ := hF
   refine ⟨by simp, ?_⟩
   clear h
   obtain ⟨c0, c1, c2, h1, h2⟩ := T
   obtain ⟨i1, i2, i3, _⟩ := numS_inv (k := k.toNat) h1
   have f124 : F124 [.agg [.str c.s, .int .i64 (c.at_ : Int), .int .i64 c.bad], .int .i64 k] = some (.tup [.int .u64 ((numS k.toNat c).1 : Int), .agg [.str (numS k.toNat c).2.s, .int .i64 ((numS k.toNat c).2.at_ : Int), .int .i64 (numS k.toNat c).2.bad]]) := by
    simp only [F124, scOf_of h1 h2, Option.map_some, scD]
    rw [if_pos ⟨by omega, by omega⟩]
   unfold dc101
   simp only [↓go1, gB0, reduceIte, Nat.reduceEqDiff, Nat.reduceAdd, Nat.reduceSub, Nat.reduceLT, Nat.reduceLeDiff, put1_rd, rd_zero, rd_succ, gB1, reduceCtorEq, ldD_agg, scD, List.append_nil, rowU_sc, drawnU_sc, c0, c1, c2, f124, callK_fun s124]
   exact fun i o x hx => hx
  ·cases hF
 ·cases hF
def F102 (c : Sc) : List D → Option (D × Sc)
 | [] => some (.str (rowS c).1, (rowS c).2)
 | _ => none
theorem ok102 {P : Program} (hb : DeskB P) : (tkQ F102).ok P 102 := by
 have hS : Summs.ok P (tabL [(125, funS F125)]) := tabL_cons (ok125 hb) tabL_nil
 have s125 : tabL [(125, funS F125)] 125 = some (funS F125) := rfl
 generalize tabL [(125, funS F125)] = S at hS s125
 refine opn_ok2 (S := S) hS hb.f102 (tkQ_loc _) (fun ds m fr d u h hfr => ?_)
 obtain ⟨r, rest, c, c', rfl, T, hF, rfl⟩ := tkQ_inv h
 unfold F102 at hF
 split at hF
 ·simp only [Option.some.injEq, Prod.mk.injEq] at hF
  obtain ⟨rfl, rfl⟩ := hF
  refine ⟨by simp, ?_⟩
  clear h
  obtain ⟨c0, c1, c2, h1, h2⟩ := T
  have f125 : F125 [.agg [.str c.s, .int .i64 (c.at_ : Int), .int .i64 c.bad]] = some (.tup [.str (rowS c).1, .agg [.str (rowS c).2.s, .int .i64 ((rowS c).2.at_ : Int), .int .i64 (rowS c).2.bad]]) := by
   simp only [F125, scOf_of h1 h2, Option.map_some, scD]
  unfold dc102
  simp only [↓go1, gB0, reduceIte, Nat.reduceEqDiff, Nat.reduceAdd, Nat.reduceSub, Nat.reduceLT, Nat.reduceLeDiff, put1_rd, rd_zero, rd_succ, gB1, reduceCtorEq, ldD_agg, scD, List.append_nil, rowU_sc, drawnU_sc, c0, c1, c2, f125, callK_fun s125]
  exact fun i o x hx => hx
 ·cases hF
def F105 (c : Sc) : List D → Option (D × Sc)
 | [.int .i64 e] => some (.tup [], failS e c)
 | _ => none
theorem ok105 {P : Program} (hb : DeskB P) : (tkQ F105).ok P 105 := by
 refine opn_ok2 (S := fun _ => none) none_ok hb.f105 (tkQ_loc _) (fun ds m fr d u h hfr => ?_)
 obtain ⟨r, rest, c, c', rfl, T, hF, rfl⟩ := tkQ_inv h
 unfold F105 at hF
 split at hF
 ·rename_i e
  simp only [Option.some.injEq, Prod.mk.injEq] at hF
  obtain ⟨rfl, rfl⟩ := hF
  refine ⟨by simp, ?_⟩
  clear h
  have T0 := Tk.start (fr := fr) T
  obtain ⟨c0, c1, c2, h1, h2⟩ := T
  unfold dc105
  by_cases hb0 : c.bad = 0
  ·have hb0' : (c.bad = 0) = True := eq_true hb0
   simp only [↓go1, gB0, reduceIte, Nat.reduceEqDiff, Nat.reduceAdd, Nat.reduceSub, Nat.reduceLT, Nat.reduceLeDiff, put1_rd, rd_zero, rd_succ, gB1, reduceCtorEq, ldD_agg, scD, List.append_nil, rowU_sc, drawnU_sc, c0, c1, c2, hb0']
   unfold failS
   rw [if_pos hb0]
   have := T0.setBad (e := e).fin hfr
   simpa only [put1_rd] using this
  ·have hb0' : (c.bad = 0) = False := eq_false hb0
   simp only [↓go1, gB0, reduceIte, Nat.reduceEqDiff, Nat.reduceAdd, Nat.reduceSub, Nat.reduceLT, Nat.reduceLeDiff, put1_rd, rd_zero, rd_succ, gB1, reduceCtorEq, ldD_agg, scD, List.append_nil, rowU_sc, drawnU_sc, c0, c1, c2, hb0']
   unfold failS
   rw [if_neg hb0]
   exact T0.fin hfr
 ·cases hF
def F126 (n : Nat) (c : Sc) : List D → Option (D × Sc)
 | [.int .i64 d] => if d = 4 - (n : Int) ∧ n ≤ 4 then some (.int .i64 ((countS n c).1 : Int), (countS n c).2) else none
 | _ => none
set_option maxHeartbeats 1000000 in
theorem ok126 {P : Program} (hb : DeskB P) (n : Nat) : (tkQ (F126 n)).ok P 126 := by
 have hS : Summs.ok P (tabL [(101, tkQ F101), (105, tkQ F105), (134, funS F134)]) := tabL_cons (ok101 hb) (tabL_cons (ok105 hb) (tabL_cons (ok134 hb) tabL_nil))
 have s101 : tabL [(101, tkQ F101), (105, tkQ F105), (134, funS F134)] 101 = some (tkQ F101) := rfl
 have s105 : tabL [(101, tkQ F101), (105, tkQ F105), (134, funS F134)] 105 = some (tkQ F105) := rfl
 have s134 : tabL [(101, tkQ F101), (105, tkQ F105), (134, funS F134)] 134 = some (funS F134) := rfl
 generalize tabL [(101, tkQ F101), (105, tkQ F105), (134, funS F134)] = S at hS s101 s105 s134
 refine opn_ok2 (S := S) hS hb.f126 (tkQ_loc _) (fun ds m fr d u h hfr => ?_)
 obtain ⟨r, rest, c, c', rfl, T, hF, rfl⟩ := tkQ_inv h
 unfold F126 at hF
 split at hF
 ·rename_i d
  split at hF
  ·rename_i hk
   simp only [Option.some.injEq, Prod.mk.injEq] at hF
   obtain ⟨rfl, rfl⟩ := hF
   refine ⟨by simp, ?_⟩
   clear h
   have T0 := Tk.start (fr := fr) T
   obtain ⟨c0, c1, c2, h1, h2⟩ := T
   have tail : ∀ (C0 : Sc) (M : Mem) (E0 : Int), Tk fr r m M C0 → True := fun _ _ _ _ => trivial
   unfold dc126
   by_cases hn : n = 0
   ·subst hn
    obtain rfl : d = 4 := by omega
    have g4 : ((4 : Int) ≤ 4) = True := eq_true (by omega)
    have f105 : F105 c [.int .i64 24] = some (.tup [], failS 24 c) := rfl
    have L0 : (failS 24 c).at_ ≤ (failS 24 c).s.length := by rw [failS_inv.1, failS_inv.2]; exact h1
    have L1 : (failS 24 c).s.length ≤ 1000000 := by rw [failS_inv.1]; exact h2
    have T1 := T0.upd L0 L1
    have f101 : F101 (failS 24 c) [.int .i64 1] = some (.int .u64 ((numS 1 (failS 24 c)).1 : Int), (numS 1 (failS 24 c)).2) := by
     simp only [F101]; rw [if_pos ⟨by omega, by omega⟩]; rfl
    have hbad : (failS 24 c).bad ≠ 0 := by unfold failS; split <;> simp_all
    have hnum : numS 1 (failS 24 c) = (0, failS 24 c) := by unfold numS; rw [if_pos hbad]
    rw [hnum] at f101
    simp only at f101
    have T2 := T1.upd L0 L1
    have hbad' : ((failS 24 c).bad = 0) = False := eq_false hbad
    have w0 : IntKind.i64.wrap ((0 : Nat) : Int) = ((0 : Nat) : Int) := by decide
    have f134 : F134 [.int .i64 4, .int .i64 ((0 : Nat) : Int)] = some (.int .i64 24) := rfl
    have hcs : countS 0 c = (0, failS 24 c) := by
     simp only [countS, if_true, hnum]; rw [if_neg (by simp [hbad])]
    rw [hcs]
    simp only [↓go1, gB0, reduceIte, Nat.reduceEqDiff, Nat.reduceAdd, Nat.reduceSub, Nat.reduceLT, Nat.reduceLeDiff, put1_rd, rd_zero, rd_succ, gB1, reduceCtorEq, ldD_agg, scD, List.append_nil, rowU_sc, drawnU_sc, g4, callK_fn s101, callK_fn s105, callK_fun s134]
    refine got_tk T0.at_ f105 ?_
    simp only [↓go1, gB0, reduceIte, Nat.reduceEqDiff, Nat.reduceAdd, Nat.reduceSub, Nat.reduceLT, Nat.reduceLeDiff, put1_rd, rd_zero, rd_succ, gB1, reduceCtorEq, ldD_agg, scD, List.append_nil, rowU_sc, drawnU_sc, callK_fn s101, callK_fn s105, callK_fun s134]
    refine got_tk T1.at_ f101 ?_
    simp only [↓go1, gB0, reduceIte, Nat.reduceEqDiff, Nat.reduceAdd, Nat.reduceSub, Nat.reduceLT, Nat.reduceLeDiff, put1_rd, rd_zero, rd_succ, gB1, reduceCtorEq, ldD_agg, scD, List.append_nil, rowU_sc, drawnU_sc, w0, f134, T2.at_.c2, hbad', callK_fn s101, callK_fn s105, callK_fun s134]
    exact T2.fin hfr
   ·have g4 : ((4 : Int) ≤ d) = False := eq_false (by omega)
    obtain ⟨i1, i2, i3, i4⟩ := numS_inv (k := 1) h1
    have f101 : F101 c [.int .i64 1] = some (.int .u64 ((numS 1 c).1 : Int), (numS 1 c).2) := by
     simp only [F101]; rw [if_pos ⟨by omega, by omega⟩]; rfl
    have T1 := T0.upd (c' := (numS 1 c).2) (by rw [i1]; exact i2) (by rw [i1]; exact h2)
    have hw : IntKind.i64.wrap ((numS 1 c).1 : Int) = ((numS 1 c).1 : Int) := u64i64 (by omega)
    have hcs : countS n c = ((numS 1 c).1, if (numS 1 c).2.bad = 0 ∧ (if 64 < (numS 1 c).1 then (5 : Int) else 0) ≠ 0 then failS (if 64 < (numS 1 c).1 then (5 : Int) else 0) (numS 1 c).2 else (numS 1 c).2) := by
     simp only [countS, if_neg hn]
    rw [hcs]
    simp only [↓go1, gB0, reduceIte, Nat.reduceEqDiff, Nat.reduceAdd, Nat.reduceSub, Nat.reduceLT, Nat.reduceLeDiff, put1_rd, rd_zero, rd_succ, gB1, reduceCtorEq, ldD_agg, scD, List.append_nil, rowU_sc, drawnU_sc, g4, callK_fn s101, callK_fn s105, callK_fun s134]
    refine got_tk T0.at_ f101 ?_
    rw [← i1] at h2
    have i2' : (numS 1 c).2.at_ ≤ (numS 1 c).2.s.length := by rw [i1]; exact i2
    generalize numS 1 c = p at i3 T1 hw i2' h2 ⊢
    obtain ⟨x, c3⟩ := p
    simp only at i3 T1 hw i2' h2 ⊢
    by_cases hx : 64 < x
    ·have f134 : F134 [.int .i64 d, .int .i64 (x : Int)] = some (.int .i64 5) := by
      simp only [F134]; rw [if_neg (by omega), if_pos (by omega)]
     by_cases hb0 : c3.bad = 0
     ·have hb0' : (c3.bad = 0) = True := eq_true hb0
      have f105 : F105 c3 [.int .i64 5] = some (.tup [], failS 5 c3) := rfl
      have h50 : ((5 : Int) = 0) = False := eq_false (by decide)
      have T2 := T1.upd (c' := failS 5 c3) (by rw [failS_inv.1, failS_inv.2]; exact i2') (by rw [failS_inv.1]; exact h2)
      simp only [↓go1, gB0, reduceIte, Nat.reduceEqDiff, Nat.reduceAdd, Nat.reduceSub, Nat.reduceLT, Nat.reduceLeDiff, put1_rd, rd_zero, rd_succ, gB1, reduceCtorEq, ldD_agg, scD, List.append_nil, rowU_sc, drawnU_sc, hw, f134, T1.at_.c2, hb0', hx, h50, callK_fn s101, callK_fn s105, callK_fun s134]
      refine got_tk T1.at_ f105 ?_
      simp only [↓go1, gB0, reduceIte, Nat.reduceEqDiff, Nat.reduceAdd, Nat.reduceSub, Nat.reduceLT, Nat.reduceLeDiff, put1_rd, rd_zero, rd_succ, gB1, reduceCtorEq, ldD_agg, scD, List.append_nil, rowU_sc, drawnU_sc, hw, f134, T1.at_.c2, hb0', hx, h50, callK_fn s101, callK_fn s105, callK_fun s134]
      exact T2.fin hfr
     ·have hb0' : (c3.bad = 0) = False := eq_false hb0
      simp only [↓go1, gB0, reduceIte, Nat.reduceEqDiff, Nat.reduceAdd, Nat.reduceSub, Nat.reduceLT, Nat.reduceLeDiff, put1_rd, rd_zero, rd_succ, gB1, reduceCtorEq, ldD_agg, scD, List.append_nil, rowU_sc, drawnU_sc, hw, f134, T1.at_.c2, hb0', callK_fn s101, callK_fn s105, callK_fun s134]
      exact T1.fin hfr
    ·have f134 : F134 [.int .i64 d, .int .i64 (x : Int)] = some (.int .i64 0) := by
      simp only [F134]; rw [if_neg (by omega), if_neg (by omega)]
     by_cases hb0 : c3.bad = 0
     ·have hb0' : (c3.bad = 0) = True := eq_true hb0
      simp only [↓go1, gB0, reduceIte, Nat.reduceEqDiff, Nat.reduceAdd, Nat.reduceSub, Nat.reduceLT, Nat.reduceLeDiff, put1_rd, rd_zero, rd_succ, gB1, reduceCtorEq, ldD_agg, scD, List.append_nil, rowU_sc, drawnU_sc, hw, f134, T1.at_.c2, hb0', if_neg hx, callK_fn s101, callK_fn s105, callK_fun s134]
      exact T1.fin hfr
     ·have hb0' : (c3.bad = 0) = False := eq_false hb0
      simp only [↓go1, gB0, reduceIte, Nat.reduceEqDiff, Nat.reduceAdd, Nat.reduceSub, Nat.reduceLT, Nat.reduceLeDiff, put1_rd, rd_zero, rd_succ, gB1, reduceCtorEq, ldD_agg, scD, List.append_nil, rowU_sc, drawnU_sc, hw, f134, T1.at_.c2, hb0', if_neg hx, callK_fn s101, callK_fn s105, callK_fun s134]
      exact T1.fin hfr
  ·cases hF
 ·cases hF
end Go.Vd
