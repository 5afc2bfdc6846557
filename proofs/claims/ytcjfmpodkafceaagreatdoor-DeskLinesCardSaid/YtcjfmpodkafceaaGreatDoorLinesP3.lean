/-
  A part of the proof: the layers over the model. Nothing in it is assumed.
-/
import Derived.Test.YtcjfmpodkafceaaGreatDoorLinesP2
import Derived.Laws.AppendOwn
import Derived.Shelf.Strings.OnBuilder

set_option linter.unusedSimpArgs false
set_option linter.unusedVariables false

namespace Go.Vd
def dc3 : DC := (.seq (.row [⟨some 3, .box (.t 0), [], none⟩, ⟨some 4, .box (.t 1), [], none⟩, ⟨some 6, .mv (.c (.bool false)), [], none⟩]) (.seq (.seq (.row [⟨some 15, .load (some 5) (.t 3), [], none⟩, ⟨some 16, .call (.c (.fn 7 [])) [(.t 15)], [], none⟩, ⟨some 17, .mv (.t 16), [], none⟩, ⟨some 18, .load (some 5) (.t 4), [], some (2, false)⟩, ⟨some 19, .call (.c (.fn 7 [])) [(.t 18)], [], some (2, false)⟩, ⟨some 20, .pick (.t 17) (.c (.bool true)) (.t 19), [], none⟩, ⟨some 21, .mv (.t 20), [], none⟩, ⟨some 22, .mv (.t 2), [], some (6, false)⟩, ⟨some 23, .call (.c (.fn 8 [])) [(.t 22)], [], some (6, false)⟩, ⟨some 24, .pick (.t 21) (.c (.bool true)) (.t 23), [], none⟩]) (.cond (.t 24) (.seq (.row [⟨some 25, .call (.c (.fn 9 [])) [], [], none⟩, ⟨some 6, .mv (.t 25), [], none⟩]) .ret) .skip)) (.seq (.row [⟨some 27, .load (some 5) (.t 3), [], none⟩, ⟨some 28, .call (.c (.fn 11 [])) [(.t 27)], [], none⟩, ⟨some 29, .call (.c (.fn 10 [])) [(.t 28)], [], none⟩, ⟨some 26, .mv (.t 29), [], none⟩, ⟨some 30, .ext 0 (.t 26), [], none⟩, ⟨some 31, .ext 1 (.t 26), [], none⟩, ⟨some 7, .mv (.t 30), [], none⟩, ⟨some 8, .mv (.t 31), [], none⟩]) (.seq (.row [⟨some 33, .load (some 5) (.t 3), [], none⟩, ⟨some 34, .call (.c (.fn 12 [])) [(.t 33)], [], none⟩, ⟨some 32, .mv (.t 34), [], none⟩, ⟨some 35, .ext 0 (.t 32), [], none⟩, ⟨some 36, .ext 1 (.t 32), [], none⟩, ⟨some 9, .mv (.t 35), [], none⟩, ⟨some 10, .mv (.t 36), [], none⟩]) (.seq (.row [⟨some 38, .mv (.t 2), [], none⟩, ⟨some 39, .call (.c (.fn 13 [])) [(.t 38)], [], none⟩, ⟨some 37, .mv (.t 39), [], none⟩, ⟨some 40, .ext 0 (.t 37), [], none⟩, ⟨some 41, .ext 1 (.t 37), [], none⟩, ⟨some 11, .alloc [(.slice true [] []), (.int .i64 0), (.int .i64 0), (.bool false), (.slice true [] [])], [], none⟩, ⟨none, .store 5 (.t 11) (.t 40), [], none⟩, ⟨some 12, .mv (.t 41), [], none⟩]) (.seq (.row [⟨some 43, .mv (.t 2), [], none⟩, ⟨some 44, .call (.c (.fn 14 [])) [(.t 43)], [], none⟩, ⟨some 42, .mv (.t 44), [], none⟩, ⟨some 45, .ext 0 (.t 42), [], none⟩, ⟨some 46, .ext 1 (.t 42), [], none⟩, ⟨some 13, .alloc [(.slice true [] []), (.int .i64 0), (.int .i64 0), (.bool false), (.slice true [] [])], [], none⟩, ⟨none, .store 5 (.t 13) (.t 45), [], none⟩, ⟨some 14, .mv (.t 46), [], none⟩]) (.seq (.drawn [⟨some 47, .load (some 5) (.t 3), [], none⟩, ⟨some 48, .call (.c (.fn 11 [])) [(.t 47)], [], none⟩, ⟨some 49, .call (.c (.fn 15 [])) [(.t 48)], [], none⟩, ⟨some 50, .load (some 5) (.t 3), [], none⟩, ⟨some 51, .call (.c (.fn 16 [])) [(.t 50)], [], none⟩, ⟨some 52, .bin .eql (.t 49) (.t 51), [], none⟩, ⟨some 53, .mv (.t 52), [], none⟩, ⟨some 54, .mv (.t 7), [], some (6, true)⟩, ⟨some 55, .mv (.t 9), [], some (6, true)⟩, ⟨some 56, .call (.c (.fn 17 [])) [(.t 54), (.t 55)], [], some (6, true)⟩, ⟨some 57, .pick (.t 53) (.t 56) (.c (.bool false)), [], none⟩, ⟨some 58, .mv (.t 57), [], none⟩, ⟨some 59, .mv (.t 8), [], some (11, true)⟩, ⟨some 60, .mv (.t 10), [], some (11, true)⟩, ⟨some 61, .bin .eql (.t 59) (.t 60), [], some (11, true)⟩, ⟨some 62, .pick (.t 58) (.t 61) (.c (.bool false)), [], none⟩, ⟨some 63, .mv (.t 62), [], none⟩, ⟨some 64, .load (some 5) (.t 11), [], some (16, true)⟩, ⟨some 65, .call (.c (.fn 19 [])) [(.t 64)], [], some (16, true)⟩, ⟨some 66, .load (some 5) (.t 13), [], some (16, true)⟩, ⟨some 67, .call (.c (.fn 18 [])) [(.t 65), (.t 66)], [], some (16, true)⟩, ⟨some 68, .pick (.t 63) (.t 67) (.c (.bool false)), [], none⟩, ⟨some 69, .mv (.t 68), [], none⟩, ⟨some 70, .mv (.t 12), [], some (22, true)⟩, ⟨some 71, .mv (.t 14), [], some (22, true)⟩, ⟨some 72, .bin .eql (.t 70) (.t 71), [], some (22, true)⟩, ⟨some 73, .pick (.t 69) (.t 72) (.c (.bool false)), [], none⟩, ⟨some 74, .mv (.t 73), [], none⟩, ⟨some 75, .load (some 5) (.t 3), [], some (27, true)⟩, ⟨some 76, .call (.c (.fn 11 [])) [(.t 75)], [], some (27, true)⟩, ⟨some 77, .load (some 5) (.t 4), [], some (27, true)⟩, ⟨some 78, .call (.c (.fn 11 [])) [(.t 77)], [], some (27, true)⟩, ⟨some 79, .call (.c (.fn 20 [])) [(.t 76), (.t 78)], [], some (27, true)⟩, ⟨some 80, .load (some 5) (.t 3), [], some (27, true)⟩, ⟨some 81, .load (some 5) (.t 4), [], some (27, true)⟩, ⟨some 82, .call (.c (.fn 18 [])) [(.t 80), (.t 81)], [], some (27, true)⟩, ⟨some 83, .beq false (.t 79) (.t 82), [], some (27, true)⟩, ⟨some 84, .pick (.t 74) (.t 83) (.c (.bool false)), [], none⟩, ⟨some 85, .mv (.t 84), [], none⟩, ⟨some 86, .call (.c (.fn 9 [])) [], [], some (38, true)⟩, ⟨some 87, .pick (.t 85) (.t 86) (.c (.bool false)), [], none⟩, ⟨some 6, .mv (.t 87), [], none⟩] [(1, 3), (2, 3), (18, 19), (29, 30), (29, 33), (29, 34), (31, 33), (31, 34), (32, 33), (32, 34)]) .ret)))))))
def dc7l0 : DC := (.seq (.seq (.row [⟨some 15, .mv (.t 3), [], none⟩, ⟨some 16, .faddr 0 (.t 1), [], none⟩, ⟨some 17, .load none (.t 16), [], none⟩, ⟨some 18, .len false (.t 17), [], none⟩, ⟨some 19, .bin .lss (.t 15) (.t 18), [], none⟩]) (.cond (.t 19) .skip (.exit 0))) (.seq (.block 1 (.seq (.row [⟨some 22, .faddr 0 (.t 1), [], none⟩, ⟨some 23, .load none (.t 22), [], none⟩, ⟨some 24, .mv (.t 3), [], none⟩, ⟨some 25, .iaddr 7 (.t 23) (.t 24), [], none⟩, ⟨some 26, .faddr 1 (.t 25), [], none⟩, ⟨some 27, .load none (.t 26), [], none⟩, ⟨some 28, .len true (.t 27), [], none⟩, ⟨some 29, .bin .gtr (.t 28) (.c (.int .i64 600)), [], none⟩, ⟨some 30, .mv (.t 29), [], none⟩, ⟨some 31, .faddr 0 (.t 1), [], some (8, false)⟩, ⟨some 32, .load none (.t 31), [], some (8, false)⟩, ⟨some 33, .mv (.t 3), [], some (8, false)⟩, ⟨some 34, .iaddr 7 (.t 32) (.t 33), [], some (8, false)⟩, ⟨some 35, .faddr 2 (.t 34), [], some (8, false)⟩, ⟨some 36, .load none (.t 35), [], some (8, false)⟩, ⟨some 37, .len true (.t 36), [], some (8, false)⟩, ⟨some 38, .bin .gtr (.t 37) (.c (.int .i64 600)), [], some (8, false)⟩, ⟨some 39, .pick (.t 30) (.c (.bool true)) (.t 38), [], none⟩]) (.cond (.t 39) (.seq (.row [⟨some 2, .mv (.c (.bool true)), [], none⟩]) .ret) .skip))) (.row [⟨some 20, .mv (.t 3), [], none⟩, ⟨some 21, .bin .add (.t 20) (.c (.int .i64 1)), [], none⟩, ⟨some 3, .mv (.t 21), [], none⟩])))
def dc7l1 : DC := (.seq (.seq (.row [⟨some 40, .mv (.t 4), [], none⟩, ⟨some 41, .faddr 4 (.t 1), [], none⟩, ⟨some 42, .load none (.t 41), [], none⟩, ⟨some 43, .len false (.t 42), [], none⟩, ⟨some 44, .bin .lss (.t 40) (.t 43), [], none⟩]) (.cond (.t 44) .skip (.exit 2))) (.seq (.block 3 (.seq (.row [⟨some 47, .faddr 4 (.t 1), [], none⟩, ⟨some 48, .load none (.t 47), [], none⟩, ⟨some 49, .mv (.t 4), [], none⟩, ⟨some 50, .iaddr 1 (.t 48) (.t 49), [], none⟩, ⟨some 51, .load none (.t 50), [], none⟩, ⟨some 52, .len true (.t 51), [], none⟩, ⟨some 53, .bin .gtr (.t 52) (.c (.int .i64 600)), [], none⟩]) (.cond (.t 53) (.seq (.row [⟨some 2, .mv (.c (.bool true)), [], none⟩]) .ret) .skip))) (.row [⟨some 45, .mv (.t 4), [], none⟩, ⟨some 46, .bin .add (.t 45) (.c (.int .i64 1)), [], none⟩, ⟨some 4, .mv (.t 46), [], none⟩])))
def dc7 : DC := (.seq (.row [⟨some 1, .box (.t 0), [], none⟩, ⟨some 2, .mv (.c (.bool false)), [], none⟩]) (.seq (.seq (.row [⟨some 5, .faddr 0 (.t 1), [], none⟩, ⟨some 6, .load none (.t 5), [], none⟩, ⟨some 7, .len false (.t 6), [], none⟩, ⟨some 8, .bin .gtr (.t 7) (.c (.int .i64 70)), [], none⟩, ⟨some 9, .mv (.t 8), [], none⟩, ⟨some 10, .faddr 4 (.t 1), [], some (4, false)⟩, ⟨some 11, .load none (.t 10), [], some (4, false)⟩, ⟨some 12, .len false (.t 11), [], some (4, false)⟩, ⟨some 13, .bin .gtr (.t 12) (.c (.int .i64 70)), [], some (4, false)⟩, ⟨some 14, .pick (.t 9) (.c (.bool true)) (.t 13), [], none⟩]) (.cond (.t 14) (.seq (.row [⟨some 2, .mv (.c (.bool true)), [], none⟩]) .ret) .skip)) (.seq (.seq (.row [⟨some 3, .mv (.c (.int .i64 0)), [], none⟩]) (.block 0 (.loop dc7l0))) (.seq (.seq (.row [⟨some 4, .mv (.c (.int .i64 0)), [], none⟩]) (.block 2 (.loop dc7l1))) (.seq (.row [⟨some 2, .mv (.c (.bool false)), [], none⟩]) .ret)))))
def dc8l0 : DC := (.seq (.seq (.row [⟨some 7, .mv (.t 3), [], none⟩, ⟨some 8, .mv (.t 0), [], none⟩, ⟨some 9, .len false (.t 8), [], none⟩, ⟨some 10, .bin .lss (.t 7) (.t 9), [], none⟩]) (.cond (.t 10) .skip (.exit 0))) (.seq (.block 1 (.seq (.row [⟨some 13, .mv (.t 0), [], none⟩, ⟨some 14, .mv (.t 3), [], none⟩, ⟨some 15, .iaddr 1 (.t 13) (.t 14), [], none⟩, ⟨some 16, .load none (.t 15), [], none⟩, ⟨some 17, .len true (.t 16), [], none⟩, ⟨some 18, .bin .gtr (.t 17) (.c (.int .i64 1000)), [], none⟩]) (.cond (.t 18) (.seq (.row [⟨some 2, .mv (.c (.bool true)), [], none⟩]) .ret) .skip))) (.row [⟨some 11, .mv (.t 3), [], none⟩, ⟨some 12, .bin .add (.t 11) (.c (.int .i64 1)), [], none⟩, ⟨some 3, .mv (.t 12), [], none⟩])))
def dc8 : DC := (.seq (.row [⟨some 2, .mv (.c (.bool false)), [], none⟩]) (.seq (.seq (.row [⟨some 4, .mv (.t 0), [], none⟩, ⟨some 5, .len false (.t 4), [], none⟩, ⟨some 6, .bin .gtr (.t 5) (.c (.int .i64 40)), [], none⟩]) (.cond (.t 6) (.seq (.row [⟨some 2, .mv (.c (.bool true)), [], none⟩]) .ret) .skip)) (.seq (.seq (.row [⟨some 3, .mv (.c (.int .i64 0)), [], none⟩]) (.block 0 (.loop dc8l0))) (.seq (.row [⟨some 2, .mv (.c (.bool false)), [], none⟩]) .ret))))
def dc10l0 : DC := (.seq (.row [⟨some 31, .bin .lss (.t 30) (.t 29), [], none⟩]) (.seq (.cond (.t 31) .skip (.exit 0)) (.seq (.block 1 (.seq (.row [⟨some 32, .iaddr 7 (.t 28) (.t 30), [], none⟩, ⟨some 33, .load (some 7) (.t 32), [], none⟩, ⟨some 7, .alloc [(.int .i64 0), (.str []), (.str []), (.int .i64 0), (.int .i64 0), (.int .i64 0), (.bool false)], [], none⟩, ⟨none, .store 7 (.t 7) (.t 33), [], none⟩]) (.drawn [⟨some 34, .mv (.t 5), [], none⟩, ⟨some 35, .faddr 0 (.t 7), [], none⟩, ⟨some 36, .load none (.t 35), [], none⟩, ⟨some 37, .call (.c (.fn 27 [])) [(.t 36)], [], none⟩, ⟨some 38, .faddr 3 (.t 7), [], none⟩, ⟨some 39, .load none (.t 38), [], none⟩, ⟨some 40, .call (.c (.fn 27 [])) [(.t 39)], [], none⟩, ⟨some 41, .faddr 4 (.t 7), [], none⟩, ⟨some 42, .load none (.t 41), [], none⟩, ⟨some 43, .call (.c (.fn 27 [])) [(.t 42)], [], none⟩, ⟨some 44, .faddr 5 (.t 7), [], none⟩, ⟨some 45, .load none (.t 44), [], none⟩, ⟨some 46, .call (.c (.fn 27 [])) [(.t 45)], [], none⟩, ⟨some 47, .faddr 6 (.t 7), [], none⟩, ⟨some 48, .load none (.t 47), [], none⟩, ⟨some 49, .call (.c (.fn 30 [])) [(.t 48)], [], none⟩, ⟨some 50, .faddr 1 (.t 7), [], none⟩, ⟨some 51, .load none (.t 50), [], none⟩, ⟨some 52, .call (.c (.fn 31 [])) [(.t 51)], [], none⟩, ⟨some 53, .faddr 2 (.t 7), [], none⟩, ⟨some 54, .load none (.t 53), [], none⟩, ⟨some 55, .call (.c (.fn 31 [])) [(.t 54)], [], none⟩, ⟨some 56, .bslice 9 1 [(.c (.str [99, 97, 108, 108])), (.t 37), (.t 40), (.t 43), (.t 46), (.t 49), (.t 52), (.t 55)], [], none⟩, ⟨some 57, .call (.c (.fn 29 [])) [(.t 56)], [], none⟩, ⟨some 58, .bslice 9 1 [(.t 57)], [], none⟩, ⟨some 59, .app 9 1 16 (.t 34) (.t 58), [], none⟩, ⟨some 5, .mv (.t 59), [], none⟩] [(3, 5), (3, 8), (3, 11), (3, 14), (3, 17), (3, 20), (6, 8), (6, 11), (6, 14), (6, 17), (6, 20), (9, 11), (9, 14), (9, 17), (9, 20), (12, 14), (12, 17), (12, 20), (15, 17), (15, 20), (18, 20)]))) (.row [⟨some 60, .bin .add (.t 30) (.c (.int .i64 1)), [], none⟩, ⟨some 30, .mv (.t 60), [], none⟩]))))
def dc10l1 : DC := (.seq (.row [⟨some 65, .bin .lss (.t 64) (.t 63), [], none⟩]) (.seq (.cond (.t 65) .skip (.exit 2)) (.seq (.block 3 (.seq (.row [⟨some 66, .iaddr 1 (.t 62) (.t 64), [], none⟩, ⟨some 67, .load none (.t 66), [], none⟩, ⟨some 9, .mv (.t 67), [], none⟩]) (.row [⟨some 68, .mv (.t 5), [], none⟩, ⟨some 69, .mv (.t 9), [], none⟩, ⟨some 70, .call (.c (.fn 31 [])) [(.t 69)], [], none⟩, ⟨some 71, .bslice 9 1 [(.c (.str [115, 97, 105, 100])), (.t 70)], [], none⟩, ⟨some 72, .call (.c (.fn 29 [])) [(.t 71)], [], none⟩, ⟨some 73, .bslice 9 1 [(.t 72)], [], none⟩, ⟨some 74, .app 9 1 16 (.t 68) (.t 73), [], none⟩, ⟨some 5, .mv (.t 74), [], none⟩]))) (.row [⟨some 75, .bin .add (.t 64) (.c (.int .i64 1)), [], none⟩, ⟨some 64, .mv (.t 75), [], none⟩]))))
def dc10 : DC := (.seq (.row [⟨some 1, .box (.t 0), [], none⟩, ⟨some 2, .mv (.c (.slice true [] [])), [], none⟩, ⟨some 3, .mv (.c (.int .i64 0)), [], none⟩]) (.seq (.seq (.row [⟨some 10, .load (some 5) (.t 1), [], none⟩, ⟨some 11, .call (.c (.fn 15 [])) [(.t 10)], [], none⟩, ⟨some 4, .mv (.t 11), [], none⟩]) (.seq (.row [⟨some 12, .mv (.t 4), [], none⟩, ⟨some 13, .bin .neq (.t 12) (.c (.int .i64 0)), [], none⟩]) (.cond (.t 13) (.seq (.row [⟨some 14, .mv (.t 4), [], none⟩, ⟨some 2, .mv (.c (.slice true [] [])), [], none⟩, ⟨some 3, .mv (.t 14), [], none⟩]) .ret) .skip))) (.seq (.drawn [⟨some 15, .faddr 1 (.t 1), [], none⟩, ⟨some 16, .load none (.t 15), [], none⟩, ⟨some 17, .call (.c (.fn 27 [])) [(.t 16)], [], none⟩, ⟨some 18, .faddr 2 (.t 1), [], none⟩, ⟨some 19, .load none (.t 18), [], none⟩, ⟨some 20, .call (.c (.fn 27 [])) [(.t 19)], [], none⟩, ⟨some 21, .faddr 3 (.t 1), [], none⟩, ⟨some 22, .load none (.t 21), [], none⟩, ⟨some 23, .call (.c (.fn 30 [])) [(.t 22)], [], none⟩, ⟨some 24, .bslice 9 1 [(.c (.str [116, 111, 108, 100])), (.t 17), (.t 20), (.t 23)], [], none⟩, ⟨some 25, .call (.c (.fn 29 [])) [(.t 24)], [], none⟩, ⟨some 26, .bslice 9 1 [(.t 25)], [], none⟩, ⟨some 5, .mv (.t 26), [], none⟩] [(2, 4), (2, 7), (5, 7)]) (.seq (.seq (.row [⟨some 27, .faddr 0 (.t 1), [], none⟩, ⟨some 28, .load none (.t 27), [], none⟩, ⟨some 29, .len false (.t 28), [], none⟩, ⟨some 30, .mv (.c (.int .i64 0)), [], none⟩]) (.block 0 (.loop dc10l0))) (.seq (.seq (.row [⟨some 61, .faddr 4 (.t 1), [], none⟩, ⟨some 62, .load none (.t 61), [], none⟩, ⟨some 63, .len false (.t 62), [], none⟩, ⟨some 64, .mv (.c (.int .i64 0)), [], none⟩]) (.block 2 (.loop dc10l1))) (.seq (.row [⟨some 76, .mv (.t 5), [], none⟩, ⟨some 2, .mv (.t 76), [], none⟩, ⟨some 3, .mv (.c (.int .i64 0)), [], none⟩]) .ret))))))
def dc11 : DC := (.seq (.row [⟨some 1, .box (.t 0), [], none⟩, ⟨some 2, .alloc [(.slice true [] []), (.int .i64 0), (.int .i64 0), (.bool false), (.slice true [] [])], [], none⟩]) (.seq (.drawn [⟨some 3, .faddr 0 (.t 1), [], none⟩, ⟨some 4, .load none (.t 3), [], none⟩, ⟨some 5, .call (.c (.fn 32 [])) [(.t 4)], [], none⟩, ⟨some 6, .faddr 1 (.t 1), [], none⟩, ⟨some 7, .load none (.t 6), [], none⟩, ⟨some 8, .faddr 2 (.t 1), [], none⟩, ⟨some 9, .load none (.t 8), [], none⟩, ⟨some 10, .faddr 3 (.t 1), [], none⟩, ⟨some 11, .load none (.t 10), [], none⟩, ⟨some 12, .faddr 4 (.t 1), [], none⟩, ⟨some 13, .load none (.t 12), [], none⟩, ⟨some 14, .build [(.slice true [] []), (.int .i64 0), (.int .i64 0), (.bool false), (.slice true [] [])] [(0, 1, (.t 5)), (1, 1, (.t 7)), (2, 1, (.t 9)), (3, 1, (.t 11)), (4, 1, (.t 13))], [], none⟩, ⟨none, .store 5 (.t 2) (.t 14), [], none⟩] [(2, 4), (2, 6), (2, 8), (2, 10)]) .ret))
def dc12l0 : DC := (.seq (.seq (.row [⟨some 29, .mv (.t 6), [], none⟩, ⟨some 30, .faddr 0 (.t 1), [], none⟩, ⟨some 31, .load none (.t 30), [], none⟩, ⟨some 32, .len false (.t 31), [], none⟩, ⟨some 33, .bin .lss (.t 29) (.t 32), [], none⟩]) (.cond (.t 33) .skip (.exit 0))) (.seq (.block 1 (.seq (.row [⟨some 36, .faddr 0 (.t 1), [], none⟩, ⟨some 37, .load none (.t 36), [], none⟩, ⟨some 38, .mv (.t 6), [], none⟩, ⟨some 39, .iaddr 7 (.t 37) (.t 38), [], none⟩, ⟨some 40, .load (some 7) (.t 39), [], none⟩, ⟨some 7, .alloc [(.int .i64 0), (.str []), (.str []), (.int .i64 0), (.int .i64 0), (.int .i64 0), (.bool false)], [], none⟩, ⟨none, .store 7 (.t 7) (.t 40), [], none⟩]) (.drawn [⟨some 41, .mv (.t 5), [], none⟩, ⟨some 42, .faddr 0 (.t 7), [], none⟩, ⟨some 43, .load none (.t 42), [], none⟩, ⟨some 44, .call (.c (.fn 28 [])) [(.t 43)], [], none⟩, ⟨some 45, .bin .add (.c (.str [99, 97, 108, 108, 32])) (.t 44), [], none⟩, ⟨some 46, .bin .add (.t 45) (.c (.str [32])), [], none⟩, ⟨some 47, .faddr 3 (.t 7), [], none⟩, ⟨some 48, .load none (.t 47), [], none⟩, ⟨some 49, .call (.c (.fn 28 [])) [(.t 48)], [], none⟩, ⟨some 50, .bin .add (.t 46) (.t 49), [], none⟩, ⟨some 51, .bin .add (.t 50) (.c (.str [32])), [], none⟩, ⟨some 52, .faddr 4 (.t 7), [], none⟩, ⟨some 53, .load none (.t 52), [], none⟩, ⟨some 54, .call (.c (.fn 28 [])) [(.t 53)], [], none⟩, ⟨some 55, .bin .add (.t 51) (.t 54), [], none⟩, ⟨some 56, .bin .add (.t 55) (.c (.str [32])), [], none⟩, ⟨some 57, .faddr 5 (.t 7), [], none⟩, ⟨some 58, .load none (.t 57), [], none⟩, ⟨some 59, .call (.c (.fn 28 [])) [(.t 58)], [], none⟩, ⟨some 60, .bin .add (.t 56) (.t 59), [], none⟩, ⟨some 61, .bin .add (.t 60) (.c (.str [32])), [], none⟩, ⟨some 62, .faddr 6 (.t 7), [], none⟩, ⟨some 63, .load none (.t 62), [], none⟩, ⟨some 64, .call (.c (.fn 33 [])) [(.t 63)], [], none⟩, ⟨some 65, .bin .add (.t 61) (.t 64), [], none⟩, ⟨some 66, .bin .add (.t 65) (.c (.str [32])), [], none⟩, ⟨some 67, .faddr 1 (.t 7), [], none⟩, ⟨some 68, .load none (.t 67), [], none⟩, ⟨some 69, .call (.c (.fn 34 [])) [(.t 68)], [], none⟩, ⟨some 70, .bin .add (.t 66) (.t 69), [], none⟩, ⟨some 71, .bin .add (.t 70) (.c (.str [32])), [], none⟩, ⟨some 72, .faddr 2 (.t 7), [], none⟩, ⟨some 73, .load none (.t 72), [], none⟩, ⟨some 74, .call (.c (.fn 34 [])) [(.t 73)], [], none⟩, ⟨some 75, .bin .add (.t 71) (.t 74), [], none⟩, ⟨some 76, .bslice 9 1 [(.t 75)], [], none⟩, ⟨some 77, .app 9 1 16 (.t 41) (.t 76), [], none⟩, ⟨some 5, .mv (.t 77), [], none⟩] [(3, 7), (3, 12), (3, 17), (3, 22), (3, 27), (3, 32), (8, 12), (8, 17), (8, 22), (8, 27), (8, 32), (13, 17), (13, 22), (13, 27), (13, 32), (18, 22), (18, 27), (18, 32), (23, 27), (23, 32), (28, 32)]))) (.row [⟨some 34, .mv (.t 6), [], none⟩, ⟨some 35, .bin .add (.t 34) (.c (.int .i64 1)), [], none⟩, ⟨some 6, .mv (.t 35), [], none⟩])))
def dc12l1 : DC := (.seq (.seq (.row [⟨some 78, .mv (.t 8), [], none⟩, ⟨some 79, .faddr 4 (.t 1), [], none⟩, ⟨some 80, .load none (.t 79), [], none⟩, ⟨some 81, .len false (.t 80), [], none⟩, ⟨some 82, .bin .lss (.t 78) (.t 81), [], none⟩]) (.cond (.t 82) .skip (.exit 2))) (.seq (.block 3 (.row [⟨some 85, .mv (.t 5), [], none⟩, ⟨some 86, .faddr 4 (.t 1), [], none⟩, ⟨some 87, .load none (.t 86), [], none⟩, ⟨some 88, .mv (.t 8), [], none⟩, ⟨some 89, .iaddr 1 (.t 87) (.t 88), [], none⟩, ⟨some 90, .load none (.t 89), [], none⟩, ⟨some 91, .call (.c (.fn 34 [])) [(.t 90)], [], none⟩, ⟨some 92, .bin .add (.c (.str [115, 97, 105, 100, 32])) (.t 91), [], none⟩, ⟨some 93, .bslice 9 1 [(.t 92)], [], none⟩, ⟨some 94, .app 9 1 16 (.t 85) (.t 93), [], none⟩, ⟨some 5, .mv (.t 94), [], none⟩])) (.row [⟨some 83, .mv (.t 8), [], none⟩, ⟨some 84, .bin .add (.t 83) (.c (.int .i64 1)), [], none⟩, ⟨some 8, .mv (.t 84), [], none⟩])))
def dc12 : DC := (.seq (.row [⟨some 1, .box (.t 0), [], none⟩, ⟨some 2, .mv (.c (.slice true [] [])), [], none⟩, ⟨some 3, .mv (.c (.int .i64 0)), [], none⟩]) (.seq (.row [⟨some 9, .load (some 5) (.t 1), [], none⟩, ⟨some 10, .call (.c (.fn 16 [])) [(.t 9)], [], none⟩, ⟨some 4, .mv (.t 10), [], none⟩]) (.seq (.seq (.row [⟨some 11, .mv (.t 4), [], none⟩, ⟨some 12, .bin .neq (.t 11) (.c (.int .i64 0)), [], none⟩]) (.cond (.t 12) (.seq (.row [⟨some 13, .mv (.t 4), [], none⟩, ⟨some 2, .mv (.c (.slice true [] [])), [], none⟩, ⟨some 3, .mv (.t 13), [], none⟩]) .ret) .skip)) (.seq (.drawn [⟨some 14, .faddr 1 (.t 1), [], none⟩, ⟨some 15, .load none (.t 14), [], none⟩, ⟨some 16, .call (.c (.fn 28 [])) [(.t 15)], [], none⟩, ⟨some 17, .bin .add (.c (.str [116, 111, 108, 100, 32])) (.t 16), [], none⟩, ⟨some 18, .bin .add (.t 17) (.c (.str [32])), [], none⟩, ⟨some 19, .faddr 2 (.t 1), [], none⟩, ⟨some 20, .load none (.t 19), [], none⟩, ⟨some 21, .call (.c (.fn 28 [])) [(.t 20)], [], none⟩, ⟨some 22, .bin .add (.t 18) (.t 21), [], none⟩, ⟨some 23, .bin .add (.t 22) (.c (.str [32])), [], none⟩, ⟨some 24, .faddr 3 (.t 1), [], none⟩, ⟨some 25, .load none (.t 24), [], none⟩, ⟨some 26, .call (.c (.fn 33 [])) [(.t 25)], [], none⟩, ⟨some 27, .bin .add (.t 23) (.t 26), [], none⟩, ⟨some 28, .bslice 9 1 [(.t 27)], [], none⟩, ⟨some 5, .mv (.t 28), [], none⟩] [(2, 6), (2, 11), (7, 11)]) (.seq (.seq (.row [⟨some 6, .mv (.c (.int .i64 0)), [], none⟩]) (.block 0 (.loop dc12l0))) (.seq (.seq (.row [⟨some 8, .mv (.c (.int .i64 0)), [], none⟩]) (.block 2 (.loop dc12l1))) (.seq (.row [⟨some 95, .mv (.t 5), [], none⟩, ⟨some 2, .mv (.t 95), [], none⟩, ⟨some 3, .mv (.c (.int .i64 0)), [], none⟩]) .ret)))))))
def dc13l0 : DC := (.seq (.row [⟨some 10, .bin .lss (.t 9) (.t 8), [], none⟩]) (.seq (.cond (.t 10) .skip (.exit 0)) (.seq (.block 1 (.seq (.row [⟨some 11, .mv (.t 9), [], none⟩, ⟨some 12, .iaddr 1 (.t 7) (.t 9), [], none⟩, ⟨some 13, .load none (.t 12), [], none⟩, ⟨some 5, .mv (.t 11), [], none⟩, ⟨some 6, .mv (.t 13), [], none⟩]) (.seq (.row [⟨some 14, .mv (.t 5), [], none⟩, ⟨some 15, .mv (.t 6), [], none⟩, ⟨some 16, .call (.c (.fn 35 [])) [(.t 4), (.t 14), (.t 15)], [], none⟩, ⟨some 17, .un .not (.t 16), [], none⟩]) (.cond (.t 17) (.seq (.row [⟨some 18, .build [(.slice true [] []), (.int .i64 0), (.int .i64 0), (.bool false), (.slice true [] [])] [], [], none⟩, ⟨none, .store 5 (.t 2) (.t 18), [], none⟩, ⟨some 3, .mv (.c (.int .i64 4)), [], none⟩]) .ret) .skip)))) (.row [⟨some 19, .bin .add (.t 9) (.c (.int .i64 1)), [], none⟩, ⟨some 9, .mv (.t 19), [], none⟩]))))
def dc13 : DC := (.seq (.row [⟨some 2, .alloc [(.slice true [] []), (.int .i64 0), (.int .i64 0), (.bool false), (.slice true [] [])], [], none⟩, ⟨some 3, .mv (.c (.int .i64 0)), [], none⟩]) (.seq (.row [⟨some 4, .alloc [(.slice true [] []), (.int .i64 0), (.int .i64 0), (.bool false), (.slice true [] [])], [], none⟩]) (.seq (.seq (.row [⟨some 7, .mv (.t 0), [], none⟩, ⟨some 8, .len false (.t 7), [], none⟩, ⟨some 9, .mv (.c (.int .i64 0)), [], none⟩]) (.block 0 (.loop dc13l0))) (.seq (.seq (.row [⟨some 20, .mv (.t 0), [], none⟩, ⟨some 21, .len false (.t 20), [], none⟩, ⟨some 22, .bin .eql (.t 21) (.c (.int .i64 0)), [], none⟩, ⟨some 23, .mv (.t 22), [], none⟩, ⟨some 24, .load (some 5) (.t 4), [], some (3, false)⟩, ⟨some 25, .call (.c (.fn 15 [])) [(.t 24)], [], some (3, false)⟩, ⟨some 26, .bin .neq (.t 25) (.c (.int .i64 0)), [], some (3, false)⟩, ⟨some 27, .pick (.t 23) (.c (.bool true)) (.t 26), [], none⟩]) (.cond (.t 27) (.seq (.row [⟨some 28, .build [(.slice true [] []), (.int .i64 0), (.int .i64 0), (.bool false), (.slice true [] [])] [], [], none⟩, ⟨none, .store 5 (.t 2) (.t 28), [], none⟩, ⟨some 3, .mv (.c (.int .i64 4)), [], none⟩]) .ret) .skip)) (.seq (.row [⟨some 29, .load (some 5) (.t 4), [], none⟩, ⟨none, .store 5 (.t 2) (.t 29), [], none⟩, ⟨some 3, .mv (.c (.int .i64 0)), [], none⟩]) .ret)))))
def dc14l0 : DC := (.seq (.seq (.row [⟨some 9, .mv (.t 5), [], none⟩, ⟨some 10, .mv (.t 0), [], none⟩, ⟨some 11, .len false (.t 10), [], none⟩, ⟨some 12, .bin .lss (.t 9) (.t 11), [], none⟩]) (.cond (.t 12) .skip (.exit 0))) (.seq (.block 1 (.seq (.row [⟨some 15, .mv (.t 0), [], none⟩, ⟨some 16, .mv (.t 5), [], none⟩, ⟨some 17, .iaddr 1 (.t 15) (.t 16), [], none⟩, ⟨some 18, .load none (.t 17), [], none⟩, ⟨some 19, .call (.c (.fn 36 [])) [(.t 18), (.c (.int .u8 32))], [], none⟩, ⟨some 6, .mv (.t 19), [], none⟩]) (.seq (.row [⟨some 20, .mv (.t 6), [], none⟩, ⟨some 21, .iaddr 1 (.t 20) (.c (.int .i64 0)), [], none⟩, ⟨some 22, .load none (.t 21), [], none⟩, ⟨some 23, .bin .eql (.t 22) (.c (.str [116, 111, 108, 100])), [], none⟩, ⟨some 24, .mv (.t 23), [], none⟩, ⟨some 25, .mv (.t 6), [], some (4, true)⟩, ⟨some 26, .len false (.t 25), [], some (4, true)⟩, ⟨some 27, .bin .eql (.t 26) (.c (.int .i64 4)), [], some (4, true)⟩, ⟨some 28, .pick (.t 24) (.t 27) (.c (.bool false)), [], none⟩]) (.cond (.t 28) (.drawn [⟨some 29, .mv (.t 6), [], none⟩, ⟨some 30, .iaddr 1 (.t 29) (.c (.int .i64 1)), [], none⟩, ⟨some 31, .load none (.t 30), [], none⟩, ⟨some 32, .call (.c (.fn 37 [])) [(.t 31)], [], none⟩, ⟨some 33, .mv (.t 6), [], none⟩, ⟨some 34, .iaddr 1 (.t 33) (.c (.int .i64 2)), [], none⟩, ⟨some 35, .load none (.t 34), [], none⟩, ⟨some 36, .call (.c (.fn 37 [])) [(.t 35)], [], none⟩, ⟨some 37, .mv (.t 6), [], none⟩, ⟨some 38, .iaddr 1 (.t 37) (.c (.int .i64 3)), [], none⟩, ⟨some 39, .load none (.t 38), [], none⟩, ⟨some 40, .bin .eql (.t 39) (.c (.str [49])), [], none⟩, ⟨some 41, .faddr 1 (.t 4), [], none⟩, ⟨none, .store 1 (.t 41) (.t 32), [], none⟩, ⟨some 42, .faddr 2 (.t 4), [], none⟩, ⟨none, .store 1 (.t 42) (.t 36), [], none⟩, ⟨some 43, .faddr 3 (.t 4), [], none⟩, ⟨none, .store 1 (.t 43) (.t 40), [], none⟩] [(3, 6), (3, 10), (7, 10), (13, 10), (15, 10)]) (.seq (.row [⟨some 44, .mv (.t 6), [], none⟩, ⟨some 45, .iaddr 1 (.t 44) (.c (.int .i64 0)), [], none⟩, ⟨some 46, .load none (.t 45), [], none⟩, ⟨some 47, .bin .eql (.t 46) (.c (.str [99, 97, 108, 108])), [], none⟩, ⟨some 48, .mv (.t 47), [], none⟩, ⟨some 49, .mv (.t 6), [], some (4, true)⟩, ⟨some 50, .len false (.t 49), [], some (4, true)⟩, ⟨some 51, .bin .eql (.t 50) (.c (.int .i64 8)), [], some (4, true)⟩, ⟨some 52, .pick (.t 48) (.t 51) (.c (.bool false)), [], none⟩]) (.cond (.t 52) (.drawn [⟨some 53, .faddr 0 (.t 4), [], none⟩, ⟨some 54, .load none (.t 53), [], none⟩, ⟨some 55, .mv (.t 6), [], none⟩, ⟨some 56, .iaddr 1 (.t 55) (.c (.int .i64 1)), [], none⟩, ⟨some 57, .load none (.t 56), [], none⟩, ⟨some 58, .call (.c (.fn 37 [])) [(.t 57)], [], none⟩, ⟨some 59, .mv (.t 6), [], none⟩, ⟨some 60, .iaddr 1 (.t 59) (.c (.int .i64 2)), [], none⟩, ⟨some 61, .load none (.t 60), [], none⟩, ⟨some 62, .call (.c (.fn 37 [])) [(.t 61)], [], none⟩, ⟨some 63, .mv (.t 6), [], none⟩, ⟨some 64, .iaddr 1 (.t 63) (.c (.int .i64 3)), [], none⟩, ⟨some 65, .load none (.t 64), [], none⟩, ⟨some 66, .call (.c (.fn 37 [])) [(.t 65)], [], none⟩, ⟨some 67, .mv (.t 6), [], none⟩, ⟨some 68, .iaddr 1 (.t 67) (.c (.int .i64 4)), [], none⟩, ⟨some 69, .load none (.t 68), [], none⟩, ⟨some 70, .call (.c (.fn 37 [])) [(.t 69)], [], none⟩, ⟨some 71, .mv (.t 6), [], none⟩, ⟨some 72, .iaddr 1 (.t 71) (.c (.int .i64 5)), [], none⟩, ⟨some 73, .load none (.t 72), [], none⟩, ⟨some 74, .bin .eql (.t 73) (.c (.str [49])), [], none⟩, ⟨some 75, .mv (.t 6), [], none⟩, ⟨some 76, .iaddr 1 (.t 75) (.c (.int .i64 6)), [], none⟩, ⟨some 77, .load none (.t 76), [], none⟩, ⟨some 78, .call (.c (.fn 38 [])) [(.t 77)], [], none⟩, ⟨some 79, .mv (.t 6), [], none⟩, ⟨some 80, .iaddr 1 (.t 79) (.c (.int .i64 7)), [], none⟩, ⟨some 81, .load none (.t 80), [], none⟩, ⟨some 82, .call (.c (.fn 38 [])) [(.t 81)], [], none⟩, ⟨some 83, .build [(.int .i64 0), (.str []), (.str []), (.int .i64 0), (.int .i64 0), (.int .i64 0), (.bool false)] [(0, 1, (.t 58)), (3, 1, (.t 62)), (4, 1, (.t 66)), (5, 1, (.t 70)), (6, 1, (.t 74)), (1, 1, (.t 78)), (2, 1, (.t 82))], [], none⟩, ⟨some 84, .bslice 62 7 [(.t 83)], [], none⟩, ⟨some 85, .app 62 7 72 (.t 54) (.t 84), [], none⟩, ⟨some 86, .faddr 0 (.t 4), [], none⟩, ⟨none, .store 1 (.t 86) (.t 85), [], none⟩] [(5, 1), (5, 8), (5, 12), (5, 16), (5, 20), (5, 24), (5, 28), (9, 1), (9, 12), (9, 16), (9, 20), (9, 24), (9, 28), (13, 1), (13, 16), (13, 20), (13, 24), (13, 28), (17, 1), (17, 20), (17, 24), (17, 28), (25, 1), (25, 20), (25, 28), (29, 1), (29, 20), (31, 1)]) (.seq (.row [⟨some 87, .mv (.t 6), [], none⟩, ⟨some 88, .iaddr 1 (.t 87) (.c (.int .i64 0)), [], none⟩, ⟨some 89, .load none (.t 88), [], none⟩, ⟨some 90, .bin .eql (.t 89) (.c (.str [115, 97, 105, 100])), [], none⟩, ⟨some 91, .mv (.t 90), [], none⟩, ⟨some 92, .mv (.t 6), [], some (4, true)⟩, ⟨some 93, .len false (.t 92), [], some (4, true)⟩, ⟨some 94, .bin .eql (.t 93) (.c (.int .i64 2)), [], some (4, true)⟩, ⟨some 95, .pick (.t 91) (.t 94) (.c (.bool false)), [], none⟩]) (.cond (.t 95) (.drawn [⟨some 96, .faddr 4 (.t 4), [], none⟩, ⟨some 97, .load none (.t 96), [], none⟩, ⟨some 98, .mv (.t 6), [], none⟩, ⟨some 99, .iaddr 1 (.t 98) (.c (.int .i64 1)), [], none⟩, ⟨some 100, .load none (.t 99), [], none⟩, ⟨some 101, .call (.c (.fn 38 [])) [(.t 100)], [], none⟩, ⟨some 102, .bslice 9 1 [(.t 101)], [], none⟩, ⟨some 103, .app 9 1 16 (.t 97) (.t 102), [], none⟩, ⟨some 104, .faddr 4 (.t 4), [], none⟩, ⟨none, .store 1 (.t 104) (.t 103), [], none⟩] [(5, 1), (6, 1)]) .skip)))))))) (.row [⟨some 13, .mv (.t 5), [], none⟩, ⟨some 14, .bin .add (.t 13) (.c (.int .i64 1)), [], none⟩, ⟨some 5, .mv (.t 14), [], none⟩])))
def dc14 : DC := (.seq (.row [⟨some 2, .alloc [(.slice true [] []), (.int .i64 0), (.int .i64 0), (.bool false), (.slice true [] [])], [], none⟩, ⟨some 3, .mv (.c (.int .i64 0)), [], none⟩]) (.seq (.row [⟨some 4, .alloc [(.slice true [] []), (.int .i64 0), (.int .i64 0), (.bool false), (.slice true [] [])], [], none⟩]) (.seq (.seq (.row [⟨some 5, .mv (.c (.int .i64 0)), [], none⟩]) (.block 0 (.loop dc14l0))) (.seq (.row [⟨some 106, .load (some 5) (.t 4), [], none⟩, ⟨some 107, .call (.c (.fn 12 [])) [(.t 106)], [], none⟩, ⟨some 105, .mv (.t 107), [], none⟩, ⟨some 108, .ext 0 (.t 105), [], none⟩, ⟨some 109, .ext 1 (.t 105), [], none⟩, ⟨some 7, .mv (.t 108), [], none⟩, ⟨some 8, .mv (.t 109), [], none⟩]) (.seq (.seq (.row [⟨some 110, .mv (.t 8), [], none⟩, ⟨some 111, .bin .neq (.t 110) (.c (.int .i64 0)), [], none⟩, ⟨some 112, .mv (.t 111), [], none⟩, ⟨some 113, .mv (.t 7), [], some (2, false)⟩, ⟨some 114, .mv (.t 0), [], some (2, false)⟩, ⟨some 115, .call (.c (.fn 17 [])) [(.t 113), (.t 114)], [], some (2, false)⟩, ⟨some 116, .un .not (.t 115), [], some (2, false)⟩, ⟨some 117, .pick (.t 112) (.c (.bool true)) (.t 116), [], none⟩]) (.cond (.t 117) (.seq (.row [⟨some 118, .build [(.slice true [] []), (.int .i64 0), (.int .i64 0), (.bool false), (.slice true [] [])] [], [], none⟩, ⟨none, .store 5 (.t 2) (.t 118), [], none⟩, ⟨some 3, .mv (.c (.int .i64 4)), [], none⟩]) .ret) .skip)) (.seq (.row [⟨some 119, .load (some 5) (.t 4), [], none⟩, ⟨none, .store 5 (.t 2) (.t 119), [], none⟩, ⟨some 3, .mv (.c (.int .i64 0)), [], none⟩]) .ret))))))
def dc15l0 : DC := (.seq (.row [⟨some 30, .bin .lss (.t 29) (.t 28), [], none⟩]) (.seq (.cond (.t 30) .skip (.exit 0)) (.seq (.block 1 (.seq (.row [⟨some 31, .iaddr 7 (.t 27) (.t 29), [], none⟩, ⟨some 32, .load (some 7) (.t 31), [], none⟩, ⟨some 6, .alloc [(.int .i64 0), (.str []), (.str []), (.int .i64 0), (.int .i64 0), (.int .i64 0), (.bool false)], [], none⟩, ⟨none, .store 7 (.t 6) (.t 32), [], none⟩]) (.seq (.row [⟨some 33, .mv (.t 3), [], none⟩, ⟨some 34, .mv (.t 33), [], none⟩, ⟨some 35, .faddr 0 (.t 6), [], some (1, true)⟩, ⟨some 36, .load none (.t 35), [], some (1, true)⟩, ⟨some 37, .faddr 3 (.t 6), [], some (1, true)⟩, ⟨some 38, .load none (.t 37), [], some (1, true)⟩, ⟨some 39, .faddr 4 (.t 6), [], some (1, true)⟩, ⟨some 40, .load none (.t 39), [], some (1, true)⟩, ⟨some 41, .faddr 5 (.t 6), [], some (1, true)⟩, ⟨some 42, .load none (.t 41), [], some (1, true)⟩, ⟨some 43, .bslice 3 1 [(.t 36), (.t 38), (.t 40), (.t 42)], [], some (1, true)⟩, ⟨some 44, .call (.c (.fn 39 [])) [(.t 43)], [], some (1, true)⟩, ⟨some 45, .pick (.t 34) (.t 44) (.c (.bool false)), [], none⟩, ⟨some 3, .mv (.t 45), [], none⟩]) (.row [⟨some 46, .mv (.t 4), [], none⟩, ⟨some 47, .mv (.t 46), [], none⟩, ⟨some 48, .faddr 1 (.t 6), [], some (1, true)⟩, ⟨some 49, .load none (.t 48), [], some (1, true)⟩, ⟨some 50, .faddr 2 (.t 6), [], some (1, true)⟩, ⟨some 51, .load none (.t 50), [], some (1, true)⟩, ⟨some 52, .bslice 9 1 [(.t 49), (.t 51)], [], some (1, true)⟩, ⟨some 53, .call (.c (.fn 40 [])) [(.t 52)], [], some (1, true)⟩, ⟨some 54, .pick (.t 47) (.t 53) (.c (.bool false)), [], none⟩, ⟨some 4, .mv (.t 54), [], none⟩])))) (.row [⟨some 55, .bin .add (.t 29) (.c (.int .i64 1)), [], none⟩, ⟨some 29, .mv (.t 55), [], none⟩]))))
def dc15 : DC := (.seq (.row [⟨some 1, .box (.t 0), [], none⟩, ⟨some 2, .mv (.c (.int .i64 0)), [], none⟩]) (.seq (.seq (.row [⟨some 7, .faddr 0 (.t 1), [], none⟩, ⟨some 8, .load none (.t 7), [], none⟩, ⟨some 9, .len false (.t 8), [], none⟩, ⟨some 10, .bin .gtr (.t 9) (.c (.int .i64 64)), [], none⟩, ⟨some 11, .mv (.t 10), [], none⟩, ⟨some 12, .faddr 4 (.t 1), [], some (4, false)⟩, ⟨some 13, .load none (.t 12), [], some (4, false)⟩, ⟨some 14, .len false (.t 13), [], some (4, false)⟩, ⟨some 15, .bin .gtr (.t 14) (.c (.int .i64 64)), [], some (4, false)⟩, ⟨some 16, .pick (.t 11) (.c (.bool true)) (.t 15), [], none⟩]) (.cond (.t 16) (.seq (.row [⟨some 2, .mv (.c (.int .i64 24)), [], none⟩]) .ret) .skip)) (.seq (.drawn [⟨some 17, .faddr 1 (.t 1), [], none⟩, ⟨some 18, .load none (.t 17), [], none⟩, ⟨some 19, .faddr 2 (.t 1), [], none⟩, ⟨some 20, .load none (.t 19), [], none⟩, ⟨some 21, .bslice 3 1 [(.t 18), (.t 20)], [], none⟩, ⟨some 22, .call (.c (.fn 39 [])) [(.t 21)], [], none⟩, ⟨some 23, .faddr 4 (.t 1), [], none⟩, ⟨some 24, .load none (.t 23), [], none⟩, ⟨some 25, .call (.c (.fn 40 [])) [(.t 24)], [], none⟩, ⟨some 3, .mv (.t 22), [], none⟩, ⟨some 4, .mv (.t 25), [], none⟩] [(4, 7), (5, 7)]) (.seq (.seq (.row [⟨some 26, .faddr 0 (.t 1), [], none⟩, ⟨some 27, .load none (.t 26), [], none⟩, ⟨some 28, .len false (.t 27), [], none⟩, ⟨some 29, .mv (.c (.int .i64 0)), [], none⟩]) (.block 0 (.loop dc15l0))) (.seq (.block 2 (.seq (.row [⟨some 57, .mv (.t 3), [], none⟩, ⟨some 58, .un .not (.t 57), [], none⟩, ⟨some 56, .mv (.t 58), [], none⟩]) (.cond (.t 56) (.seq (.row [⟨some 2, .mv (.c (.int .i64 8)), [], none⟩]) .ret) (.seq (.row [⟨some 60, .mv (.t 4), [], none⟩, ⟨some 61, .un .not (.t 60), [], none⟩, ⟨some 59, .mv (.t 61), [], none⟩]) (.cond (.t 59) (.seq (.row [⟨some 2, .mv (.c (.int .i64 5)), [], none⟩]) .ret) .skip))))) (.seq (.row [⟨some 2, .mv (.c (.int .i64 0)), [], none⟩]) .ret))))))
def dc16l0 : DC := (.seq (.seq (.row [⟨some 26, .mv (.t 5), [], none⟩, ⟨some 27, .faddr 0 (.t 1), [], none⟩, ⟨some 28, .load none (.t 27), [], none⟩, ⟨some 29, .len false (.t 28), [], none⟩, ⟨some 30, .bin .lss (.t 26) (.t 29), [], none⟩]) (.cond (.t 30) .skip (.exit 0))) (.seq (.block 1 (.seq (.row [⟨some 33, .faddr 0 (.t 1), [], none⟩, ⟨some 34, .load none (.t 33), [], none⟩, ⟨some 35, .mv (.t 5), [], none⟩, ⟨some 36, .iaddr 7 (.t 34) (.t 35), [], none⟩, ⟨some 37, .load (some 7) (.t 36), [], none⟩, ⟨some 6, .alloc [(.int .i64 0), (.str []), (.str []), (.int .i64 0), (.int .i64 0), (.int .i64 0), (.bool false)], [], none⟩, ⟨none, .store 7 (.t 6) (.t 37), [], none⟩]) (.seq (.row [⟨some 38, .mv (.t 3), [], none⟩, ⟨some 39, .mv (.t 38), [], none⟩, ⟨some 40, .faddr 0 (.t 6), [], some (1, true)⟩, ⟨some 41, .load none (.t 40), [], some (1, true)⟩, ⟨some 42, .call (.c (.fn 41 [])) [(.t 41)], [], some (1, true)⟩, ⟨some 43, .pick (.t 39) (.t 42) (.c (.bool false)), [], none⟩, ⟨some 44, .mv (.t 43), [], none⟩, ⟨some 45, .faddr 3 (.t 6), [], some (6, true)⟩, ⟨some 46, .load none (.t 45), [], some (6, true)⟩, ⟨some 47, .call (.c (.fn 41 [])) [(.t 46)], [], some (6, true)⟩, ⟨some 48, .pick (.t 44) (.t 47) (.c (.bool false)), [], none⟩, ⟨some 49, .mv (.t 48), [], none⟩, ⟨some 50, .faddr 4 (.t 6), [], some (11, true)⟩, ⟨some 51, .load none (.t 50), [], some (11, true)⟩, ⟨some 52, .call (.c (.fn 41 [])) [(.t 51)], [], some (11, true)⟩, ⟨some 53, .pick (.t 49) (.t 52) (.c (.bool false)), [], none⟩, ⟨some 54, .mv (.t 53), [], none⟩, ⟨some 55, .faddr 5 (.t 6), [], some (16, true)⟩, ⟨some 56, .load none (.t 55), [], some (16, true)⟩, ⟨some 57, .call (.c (.fn 41 [])) [(.t 56)], [], some (16, true)⟩, ⟨some 58, .pick (.t 54) (.t 57) (.c (.bool false)), [], none⟩, ⟨some 3, .mv (.t 58), [], none⟩]) (.row [⟨some 59, .mv (.t 4), [], none⟩, ⟨some 60, .mv (.t 59), [], none⟩, ⟨some 61, .faddr 1 (.t 6), [], some (1, false)⟩, ⟨some 62, .load none (.t 61), [], some (1, false)⟩, ⟨some 63, .len true (.t 62), [], some (1, false)⟩, ⟨some 64, .bin .gtr (.t 63) (.c (.int .i64 500)), [], some (1, false)⟩, ⟨some 65, .pick (.t 60) (.c (.bool true)) (.t 64), [], none⟩, ⟨some 66, .mv (.t 65), [], none⟩, ⟨some 67, .faddr 2 (.t 6), [], some (7, false)⟩, ⟨some 68, .load none (.t 67), [], some (7, false)⟩, ⟨some 69, .len true (.t 68), [], some (7, false)⟩, ⟨some 70, .bin .gtr (.t 69) (.c (.int .i64 500)), [], some (7, false)⟩, ⟨some 71, .pick (.t 66) (.c (.bool true)) (.t 70), [], none⟩, ⟨some 4, .mv (.t 71), [], none⟩])))) (.row [⟨some 31, .mv (.t 5), [], none⟩, ⟨some 32, .bin .add (.t 31) (.c (.int .i64 1)), [], none⟩, ⟨some 5, .mv (.t 32), [], none⟩])))
def dc16l1 : DC := (.seq (.seq (.row [⟨some 72, .mv (.t 7), [], none⟩, ⟨some 73, .faddr 4 (.t 1), [], none⟩, ⟨some 74, .load none (.t 73), [], none⟩, ⟨some 75, .len false (.t 74), [], none⟩, ⟨some 76, .bin .lss (.t 72) (.t 75), [], none⟩]) (.cond (.t 76) .skip (.exit 2))) (.seq (.block 3 (.row [⟨some 79, .mv (.t 4), [], none⟩, ⟨some 80, .mv (.t 79), [], none⟩, ⟨some 81, .faddr 4 (.t 1), [], some (1, false)⟩, ⟨some 82, .load none (.t 81), [], some (1, false)⟩, ⟨some 83, .mv (.t 7), [], some (1, false)⟩, ⟨some 84, .iaddr 1 (.t 82) (.t 83), [], some (1, false)⟩, ⟨some 85, .load none (.t 84), [], some (1, false)⟩, ⟨some 86, .len true (.t 85), [], some (1, false)⟩, ⟨some 87, .bin .gtr (.t 86) (.c (.int .i64 500)), [], some (1, false)⟩, ⟨some 88, .pick (.t 80) (.c (.bool true)) (.t 87), [], none⟩, ⟨some 4, .mv (.t 88), [], none⟩])) (.row [⟨some 77, .mv (.t 7), [], none⟩, ⟨some 78, .bin .add (.t 77) (.c (.int .i64 1)), [], none⟩, ⟨some 7, .mv (.t 78), [], none⟩])))
def dc16 : DC := (.seq (.row [⟨some 1, .box (.t 0), [], none⟩, ⟨some 2, .mv (.c (.int .i64 0)), [], none⟩]) (.seq (.seq (.row [⟨some 8, .faddr 0 (.t 1), [], none⟩, ⟨some 9, .load none (.t 8), [], none⟩, ⟨some 10, .len false (.t 9), [], none⟩, ⟨some 11, .bin .gtr (.t 10) (.c (.int .i64 64)), [], none⟩, ⟨some 12, .mv (.t 11), [], none⟩, ⟨some 13, .faddr 4 (.t 1), [], some (4, false)⟩, ⟨some 14, .load none (.t 13), [], some (4, false)⟩, ⟨some 15, .len false (.t 14), [], some (4, false)⟩, ⟨some 16, .bin .gtr (.t 15) (.c (.int .i64 64)), [], some (4, false)⟩, ⟨some 17, .pick (.t 12) (.c (.bool true)) (.t 16), [], none⟩]) (.cond (.t 17) (.seq (.row [⟨some 2, .mv (.c (.int .i64 24)), [], none⟩]) .ret) .skip)) (.seq (.row [⟨some 18, .faddr 1 (.t 1), [], none⟩, ⟨some 19, .load none (.t 18), [], none⟩, ⟨some 20, .call (.c (.fn 41 [])) [(.t 19)], [], none⟩, ⟨some 21, .mv (.t 20), [], none⟩, ⟨some 22, .faddr 2 (.t 1), [], some (3, true)⟩, ⟨some 23, .load none (.t 22), [], some (3, true)⟩, ⟨some 24, .call (.c (.fn 41 [])) [(.t 23)], [], some (3, true)⟩, ⟨some 25, .pick (.t 21) (.t 24) (.c (.bool false)), [], none⟩, ⟨some 3, .mv (.t 25), [], none⟩]) (.seq (.row [⟨some 4, .mv (.c (.bool false)), [], none⟩]) (.seq (.seq (.row [⟨some 5, .mv (.c (.int .i64 0)), [], none⟩]) (.block 0 (.loop dc16l0))) (.seq (.seq (.row [⟨some 7, .mv (.c (.int .i64 0)), [], none⟩]) (.block 2 (.loop dc16l1))) (.seq (.seq (.row [⟨some 89, .mv (.t 3), [], none⟩, ⟨some 90, .un .not (.t 89), [], none⟩]) (.cond (.t 90) (.seq (.row [⟨some 2, .mv (.c (.int .i64 8)), [], none⟩]) .ret) .skip)) (.seq (.seq (.row [⟨some 91, .mv (.t 4), [], none⟩]) (.cond (.t 91) (.seq (.row [⟨some 2, .mv (.c (.int .i64 5)), [], none⟩]) .ret) .skip)) (.seq (.row [⟨some 2, .mv (.c (.int .i64 0)), [], none⟩]) .ret)))))))))
def dc17l0 : DC := (.seq (.seq (.row [⟨some 11, .mv (.t 5), [], none⟩, ⟨some 12, .mv (.t 0), [], none⟩, ⟨some 13, .len false (.t 12), [], none⟩, ⟨some 14, .bin .lss (.t 11) (.t 13), [], none⟩]) (.cond (.t 14) .skip (.exit 0))) (.seq (.block 1 (.seq (.drawn [⟨some 17, .mv (.t 0), [], none⟩, ⟨some 18, .mv (.t 5), [], none⟩, ⟨some 19, .iaddr 1 (.t 17) (.t 18), [], none⟩, ⟨some 20, .load none (.t 19), [], none⟩, ⟨some 21, .mv (.t 1), [], none⟩, ⟨some 22, .mv (.t 5), [], none⟩, ⟨some 23, .iaddr 1 (.t 21) (.t 22), [], none⟩, ⟨some 24, .load none (.t 23), [], none⟩, ⟨some 25, .bin .neq (.t 20) (.t 24), [], none⟩] []) (.cond (.t 25) (.seq (.row [⟨some 4, .mv (.c (.bool false)), [], none⟩]) .ret) .skip))) (.row [⟨some 15, .mv (.t 5), [], none⟩, ⟨some 16, .bin .add (.t 15) (.c (.int .i64 1)), [], none⟩, ⟨some 5, .mv (.t 16), [], none⟩])))
def dc17 : DC := (.seq (.row [⟨some 4, .mv (.c (.bool false)), [], none⟩]) (.seq (.seq (.row [⟨some 6, .mv (.t 0), [], none⟩, ⟨some 7, .len false (.t 6), [], none⟩, ⟨some 8, .mv (.t 1), [], none⟩, ⟨some 9, .len false (.t 8), [], none⟩, ⟨some 10, .bin .neq (.t 7) (.t 9), [], none⟩]) (.cond (.t 10) (.seq (.row [⟨some 4, .mv (.c (.bool false)), [], none⟩]) .ret) .skip)) (.seq (.seq (.row [⟨some 5, .mv (.c (.int .i64 0)), [], none⟩]) (.block 0 (.loop dc17l0))) (.seq (.row [⟨some 4, .mv (.c (.bool true)), [], none⟩]) .ret))))
def dc18l0 : DC := (.seq (.seq (.row [⟨some 42, .mv (.t 5), [], none⟩, ⟨some 43, .faddr 0 (.t 2), [], none⟩, ⟨some 44, .load none (.t 43), [], none⟩, ⟨some 45, .len false (.t 44), [], none⟩, ⟨some 46, .bin .lss (.t 42) (.t 45), [], none⟩]) (.cond (.t 46) .skip (.exit 0))) (.seq (.block 1 (.seq (.drawn [⟨some 49, .faddr 0 (.t 2), [], none⟩, ⟨some 50, .load none (.t 49), [], none⟩, ⟨some 51, .mv (.t 5), [], none⟩, ⟨some 52, .iaddr 7 (.t 50) (.t 51), [], none⟩, ⟨some 53, .load (some 7) (.t 52), [], none⟩, ⟨some 54, .faddr 0 (.t 3), [], none⟩, ⟨some 55, .load none (.t 54), [], none⟩, ⟨some 56, .mv (.t 5), [], none⟩, ⟨some 57, .iaddr 7 (.t 55) (.t 56), [], none⟩, ⟨some 58, .load (some 7) (.t 57), [], none⟩, ⟨some 59, .seq true [(0, 0), (2, 1), (2, 2), (0, 3), (0, 4), (0, 5), (1, 6)] (.t 53) (.t 58), [], none⟩] []) (.cond (.t 59) (.seq (.row [⟨some 4, .mv (.c (.bool false)), [], none⟩]) .ret) .skip))) (.row [⟨some 47, .mv (.t 5), [], none⟩, ⟨some 48, .bin .add (.t 47) (.c (.int .i64 1)), [], none⟩, ⟨some 5, .mv (.t 48), [], none⟩])))
def dc18 : DC := (.seq (.row [⟨some 2, .box (.t 0), [], none⟩, ⟨some 3, .box (.t 1), [], none⟩, ⟨some 4, .mv (.c (.bool false)), [], none⟩]) (.seq (.seq (.row [⟨some 6, .faddr 1 (.t 2), [], none⟩, ⟨some 7, .load none (.t 6), [], none⟩, ⟨some 8, .faddr 1 (.t 3), [], none⟩, ⟨some 9, .load none (.t 8), [], none⟩, ⟨some 10, .bin .neq (.t 7) (.t 9), [], none⟩, ⟨some 11, .mv (.t 10), [], none⟩, ⟨some 12, .faddr 2 (.t 2), [], some (5, false)⟩, ⟨some 13, .load none (.t 12), [], some (5, false)⟩, ⟨some 14, .faddr 2 (.t 3), [], some (5, false)⟩, ⟨some 15, .load none (.t 14), [], some (5, false)⟩, ⟨some 16, .bin .neq (.t 13) (.t 15), [], some (5, false)⟩, ⟨some 17, .pick (.t 11) (.c (.bool true)) (.t 16), [], none⟩, ⟨some 18, .mv (.t 17), [], none⟩, ⟨some 19, .faddr 3 (.t 2), [], some (12, false)⟩, ⟨some 20, .load none (.t 19), [], some (12, false)⟩, ⟨some 21, .faddr 3 (.t 3), [], some (12, false)⟩, ⟨some 22, .load none (.t 21), [], some (12, false)⟩, ⟨some 23, .beq true (.t 20) (.t 22), [], some (12, false)⟩, ⟨some 24, .pick (.t 18) (.c (.bool true)) (.t 23), [], none⟩, ⟨some 25, .mv (.t 24), [], none⟩, ⟨some 26, .faddr 0 (.t 2), [], some (19, false)⟩, ⟨some 27, .load none (.t 26), [], some (19, false)⟩, ⟨some 28, .len false (.t 27), [], some (19, false)⟩, ⟨some 29, .faddr 0 (.t 3), [], some (19, false)⟩, ⟨some 30, .load none (.t 29), [], some (19, false)⟩, ⟨some 31, .len false (.t 30), [], some (19, false)⟩, ⟨some 32, .bin .neq (.t 28) (.t 31), [], some (19, false)⟩, ⟨some 33, .pick (.t 25) (.c (.bool true)) (.t 32), [], none⟩, ⟨some 34, .mv (.t 33), [], none⟩, ⟨some 35, .faddr 4 (.t 2), [], some (28, false)⟩, ⟨some 36, .load none (.t 35), [], some (28, false)⟩, ⟨some 37, .faddr 4 (.t 3), [], some (28, false)⟩, ⟨some 38, .load none (.t 37), [], some (28, false)⟩, ⟨some 39, .call (.c (.fn 17 [])) [(.t 36), (.t 38)], [], some (28, false)⟩, ⟨some 40, .un .not (.t 39), [], some (28, false)⟩, ⟨some 41, .pick (.t 34) (.c (.bool true)) (.t 40), [], none⟩]) (.cond (.t 41) (.seq (.row [⟨some 4, .mv (.c (.bool false)), [], none⟩]) .ret) .skip)) (.seq (.seq (.row [⟨some 5, .mv (.c (.int .i64 0)), [], none⟩]) (.block 0 (.loop dc18l0))) (.seq (.row [⟨some 4, .mv (.c (.bool true)), [], none⟩]) .ret))))
def dc19 : DC := (.seq (.row [⟨some 1, .box (.t 0), [], none⟩, ⟨some 2, .alloc [(.slice true [] []), (.int .i64 0), (.int .i64 0), (.bool false), (.slice true [] [])], [], none⟩]) (.seq (.drawn [⟨some 3, .faddr 0 (.t 1), [], none⟩, ⟨some 4, .load none (.t 3), [], none⟩, ⟨some 5, .call (.c (.fn 42 [])) [(.t 4)], [], none⟩, ⟨some 6, .faddr 1 (.t 1), [], none⟩, ⟨some 7, .load none (.t 6), [], none⟩, ⟨some 8, .faddr 2 (.t 1), [], none⟩, ⟨some 9, .load none (.t 8), [], none⟩, ⟨some 10, .faddr 3 (.t 1), [], none⟩, ⟨some 11, .load none (.t 10), [], none⟩, ⟨some 12, .faddr 4 (.t 1), [], none⟩, ⟨some 13, .load none (.t 12), [], none⟩, ⟨some 14, .build [(.slice true [] []), (.int .i64 0), (.int .i64 0), (.bool false), (.slice true [] [])] [(0, 1, (.t 5)), (1, 1, (.t 7)), (2, 1, (.t 9)), (3, 1, (.t 11)), (4, 1, (.t 13))], [], none⟩, ⟨none, .store 5 (.t 2) (.t 14), [], none⟩] [(2, 4), (2, 6), (2, 8), (2, 10)]) .ret))
def dc20 : DC := (.seq (.row [⟨some 2, .box (.t 0), [], none⟩, ⟨some 3, .box (.t 1), [], none⟩, ⟨some 4, .mv (.c (.bool false)), [], none⟩]) (.seq (.row [⟨some 5, .faddr 1 (.t 2), [], none⟩, ⟨some 6, .load none (.t 5), [], none⟩, ⟨some 7, .faddr 1 (.t 3), [], none⟩, ⟨some 8, .load none (.t 7), [], none⟩, ⟨some 9, .bin .eql (.t 6) (.t 8), [], none⟩, ⟨some 10, .mv (.t 9), [], none⟩, ⟨some 11, .faddr 2 (.t 2), [], some (5, true)⟩, ⟨some 12, .load none (.t 11), [], some (5, true)⟩, ⟨some 13, .faddr 2 (.t 3), [], some (5, true)⟩, ⟨some 14, .load none (.t 13), [], some (5, true)⟩, ⟨some 15, .bin .eql (.t 12) (.t 14), [], some (5, true)⟩, ⟨some 16, .pick (.t 10) (.t 15) (.c (.bool false)), [], none⟩, ⟨some 17, .mv (.t 16), [], none⟩, ⟨some 18, .faddr 3 (.t 2), [], some (12, true)⟩, ⟨some 19, .load none (.t 18), [], some (12, true)⟩, ⟨some 20, .faddr 3 (.t 3), [], some (12, true)⟩, ⟨some 21, .load none (.t 20), [], some (12, true)⟩, ⟨some 22, .beq false (.t 19) (.t 21), [], some (12, true)⟩, ⟨some 23, .pick (.t 17) (.t 22) (.c (.bool false)), [], none⟩, ⟨some 24, .mv (.t 23), [], none⟩, ⟨some 25, .faddr 0 (.t 2), [], some (19, true)⟩, ⟨some 26, .load none (.t 25), [], some (19, true)⟩, ⟨some 27, .faddr 0 (.t 3), [], some (19, true)⟩, ⟨some 28, .load none (.t 27), [], some (19, true)⟩, ⟨some 29, .call (.c (.fn 43 [])) [(.t 26), (.t 28)], [], some (19, true)⟩, ⟨some 30, .pick (.t 24) (.t 29) (.c (.bool false)), [], none⟩, ⟨some 31, .mv (.t 30), [], none⟩, ⟨some 32, .faddr 4 (.t 2), [], some (26, true)⟩, ⟨some 33, .load none (.t 32), [], some (26, true)⟩, ⟨some 34, .faddr 4 (.t 3), [], some (26, true)⟩, ⟨some 35, .load none (.t 34), [], some (26, true)⟩, ⟨some 36, .call (.c (.fn 44 [])) [(.t 33), (.t 35)], [], some (26, true)⟩, ⟨some 37, .pick (.t 31) (.t 36) (.c (.bool false)), [], none⟩, ⟨some 4, .mv (.t 37), [], none⟩]) .ret))
def dc29 : DC := (.seq (.row [⟨some 2, .mv (.c (.str [])), [], none⟩]) (.seq (.row [⟨some 3, .mv (.t 0), [], none⟩, ⟨some 4, .call (.c (.fn 64 [])) [(.t 3), (.c (.str [32]))], [], none⟩, ⟨some 2, .mv (.t 4), [], none⟩]) .ret))
def dc30 : DC := (.seq (.row [⟨some 2, .mv (.c (.str [])), [], none⟩]) (.seq (.seq (.row [⟨some 3, .mv (.t 0), [], none⟩]) (.cond (.t 3) (.seq (.row [⟨some 2, .mv (.c (.str [49])), [], none⟩]) .ret) .skip)) (.seq (.row [⟨some 2, .mv (.c (.str [48])), [], none⟩]) .ret)))
def dc31 : DC := (.seq (.row [⟨some 2, .mv (.c (.str [])), [], none⟩]) (.seq (.seq (.row [⟨some 3, .mv (.t 0), [], none⟩, ⟨some 4, .bin .eql (.t 3) (.c (.str [])), [], none⟩]) (.cond (.t 4) (.seq (.row [⟨some 2, .mv (.c (.str [45])), [], none⟩]) .ret) .skip)) (.seq (.row [⟨some 5, .mv (.t 0), [], none⟩, ⟨some 6, .call (.c (.fn 65 [])) [(.t 5)], [], none⟩, ⟨some 2, .mv (.t 6), [], none⟩]) .ret)))
def dc32l0 : DC := (.seq (.seq (.row [⟨some 5, .mv (.t 4), [], none⟩, ⟨some 6, .mv (.t 0), [], none⟩, ⟨some 7, .len false (.t 6), [], none⟩, ⟨some 8, .bin .lss (.t 5) (.t 7), [], none⟩]) (.cond (.t 8) .skip (.exit 0))) (.seq (.block 1 (.row [⟨some 11, .mv (.t 3), [], none⟩, ⟨some 12, .mv (.t 0), [], none⟩, ⟨some 13, .mv (.t 4), [], none⟩, ⟨some 14, .iaddr 7 (.t 12) (.t 13), [], none⟩, ⟨some 15, .load (some 7) (.t 14), [], none⟩, ⟨some 16, .bslice 65 7 [(.t 15)], [], none⟩, ⟨some 17, .app 65 7 72 (.t 11) (.t 16), [], none⟩, ⟨some 3, .mv (.t 17), [], none⟩])) (.row [⟨some 9, .mv (.t 4), [], none⟩, ⟨some 10, .bin .add (.t 9) (.c (.int .i64 1)), [], none⟩, ⟨some 4, .mv (.t 10), [], none⟩])))
def dc32 : DC := (.seq (.row [⟨some 2, .mv (.c (.slice true [] [])), [], none⟩]) (.seq (.row [⟨some 3, .mv (.c (.slice true [] [])), [], none⟩]) (.seq (.seq (.row [⟨some 4, .mv (.c (.int .i64 0)), [], none⟩]) (.block 0 (.loop dc32l0))) (.seq (.row [⟨some 18, .mv (.t 3), [], none⟩, ⟨some 2, .mv (.t 18), [], none⟩]) .ret))))
def dc33 : DC := (.seq (.row [⟨some 2, .mv (.c (.str [])), [], none⟩]) (.seq (.seq (.row [⟨some 3, .mv (.t 0), [], none⟩]) (.cond (.t 3) (.seq (.row [⟨some 2, .mv (.c (.str [49])), [], none⟩]) .ret) .skip)) (.seq (.row [⟨some 2, .mv (.c (.str [48])), [], none⟩]) .ret)))
def dc34 : DC := (.seq (.row [⟨some 2, .mv (.c (.str [])), [], none⟩]) (.seq (.seq (.row [⟨some 3, .mv (.t 0), [], none⟩, ⟨some 4, .bin .eql (.t 3) (.c (.str [])), [], none⟩]) (.cond (.t 4) (.seq (.row [⟨some 2, .mv (.c (.str [45])), [], none⟩]) .ret) .skip)) (.seq (.row [⟨some 5, .mv (.t 0), [], none⟩, ⟨some 6, .call (.c (.fn 66 [])) [(.t 5)], [], none⟩, ⟨some 2, .mv (.t 6), [], none⟩]) .ret)))
def dc35 : DC := (.seq (.row [⟨some 6, .mv (.c (.bool false)), [], none⟩]) (.seq (.row [⟨some 9, .mv (.t 2), [], none⟩, ⟨some 10, .call (.c (.fn 67 [])) [(.t 9), (.c (.str [32]))], [], none⟩, ⟨some 11, .build [(.slice true [] []), (.bool false)] [(0, 1, (.t 10))], [], none⟩, ⟨some 12, .box (.t 11), [], none⟩, ⟨some 7, .mv (.t 12), [], none⟩]) (.seq (.seq (.row [⟨some 13, .mv (.t 7), [], none⟩, ⟨some 14, .call (.c (.fn 68 [])) [(.t 13)], [], none⟩, ⟨some 8, .mv (.t 14), [], none⟩]) (.block 0 (.seq (.row [⟨some 16, .mv (.t 1), [], none⟩, ⟨some 17, .bin .eql (.t 16) (.c (.int .i64 0)), [], none⟩, ⟨some 15, .mv (.t 17), [], none⟩]) (.cond (.t 15) (.seq (.row [⟨some 18, .mv (.t 0), [], none⟩, ⟨some 19, .mv (.t 0), [], none⟩, ⟨some 20, .mv (.t 7), [], none⟩, ⟨some 21, .call (.c (.fn 69 [])) [(.t 20)], [], none⟩, ⟨some 22, .mv (.t 7), [], none⟩, ⟨some 23, .call (.c (.fn 69 [])) [(.t 22)], [], none⟩, ⟨some 24, .nilchk (.t 18), [], none⟩, ⟨some 25, .faddr 1 (.t 24), [], none⟩, ⟨none, .store 1 (.t 25) (.t 21), [], none⟩, ⟨some 26, .nilchk (.t 19), [], none⟩, ⟨some 27, .faddr 2 (.t 26), [], none⟩, ⟨none, .store 1 (.t 27) (.t 23), [], none⟩]) (.seq (.row [⟨some 28, .mv (.t 0), [], none⟩, ⟨some 29, .mv (.t 7), [], none⟩, ⟨some 30, .call (.c (.fn 70 [])) [(.t 29)], [], none⟩, ⟨some 31, .nilchk (.t 28), [], none⟩, ⟨some 32, .faddr 3 (.t 31), [], none⟩, ⟨none, .store 1 (.t 32) (.t 30), [], none⟩]) (.seq (.row [⟨some 33, .mv (.t 8), [], none⟩, ⟨some 34, .bin .eql (.t 33) (.c (.str [116, 111, 108, 100])), [], none⟩, ⟨some 35, .mv (.t 34), [], none⟩, ⟨some 36, .mv (.t 7), [], some (2, true)⟩, ⟨some 37, .call (.c (.fn 71 [])) [(.t 36)], [], some (2, true)⟩, ⟨some 38, .pick (.t 35) (.t 37) (.c (.bool false)), [], none⟩, ⟨some 6, .mv (.t 38), [], none⟩]) .ret))) (.seq (.row [⟨some 40, .mv (.t 8), [], none⟩, ⟨some 41, .bin .eql (.t 40) (.c (.str [99, 97, 108, 108])), [], none⟩, ⟨some 39, .mv (.t 41), [], none⟩]) (.cond (.t 39) (.seq (.drawn [⟨some 42, .mv (.t 0), [], none⟩, ⟨some 43, .mv (.t 0), [], none⟩, ⟨some 44, .nilchk (.t 43), [], none⟩, ⟨some 45, .faddr 0 (.t 44), [], none⟩, ⟨some 46, .load none (.t 45), [], none⟩, ⟨some 47, .mv (.t 7), [], none⟩, ⟨some 48, .call (.c (.fn 72 [])) [(.t 47)], [], none⟩, ⟨some 49, .bslice 65 7 [(.t 48)], [], none⟩, ⟨some 50, .app 65 7 72 (.t 46) (.t 49), [], none⟩, ⟨some 51, .nilchk (.t 42), [], none⟩, ⟨some 52, .faddr 0 (.t 51), [], none⟩, ⟨none, .store 1 (.t 52) (.t 50), [], none⟩] [(6, 4), (7, 4)]) (.seq (.row [⟨some 53, .mv (.t 0), [], none⟩, ⟨some 54, .nilchk (.t 53), [], none⟩, ⟨some 55, .faddr 4 (.t 54), [], none⟩, ⟨some 56, .load none (.t 55), [], none⟩, ⟨some 57, .len false (.t 56), [], none⟩, ⟨some 58, .bin .eql (.t 57) (.c (.int .i64 0)), [], none⟩, ⟨some 59, .mv (.t 58), [], none⟩, ⟨some 60, .mv (.t 7), [], some (6, true)⟩, ⟨some 61, .call (.c (.fn 71 [])) [(.t 60)], [], some (6, true)⟩, ⟨some 62, .pick (.t 59) (.t 61) (.c (.bool false)), [], none⟩, ⟨some 6, .mv (.t 62), [], none⟩]) .ret)) (.seq (.row [⟨some 64, .mv (.t 8), [], none⟩, ⟨some 65, .bin .eql (.t 64) (.c (.str [115, 97, 105, 100])), [], none⟩, ⟨some 63, .mv (.t 65), [], none⟩]) (.cond (.t 63) (.seq (.drawn [⟨some 66, .mv (.t 0), [], none⟩, ⟨some 67, .mv (.t 0), [], none⟩, ⟨some 68, .nilchk (.t 67), [], none⟩, ⟨some 69, .faddr 4 (.t 68), [], none⟩, ⟨some 70, .load none (.t 69), [], none⟩, ⟨some 71, .mv (.t 7), [], none⟩, ⟨some 72, .call (.c (.fn 73 [])) [(.t 71)], [], none⟩, ⟨some 73, .bslice 9 1 [(.t 72)], [], none⟩, ⟨some 74, .app 9 1 16 (.t 70) (.t 73), [], none⟩, ⟨some 75, .nilchk (.t 66), [], none⟩, ⟨some 76, .faddr 4 (.t 75), [], none⟩, ⟨none, .store 1 (.t 76) (.t 74), [], none⟩] [(6, 4), (7, 4)]) (.seq (.row [⟨some 77, .mv (.t 7), [], none⟩, ⟨some 78, .call (.c (.fn 71 [])) [(.t 77)], [], none⟩, ⟨some 6, .mv (.t 78), [], none⟩]) .ret)) .skip)))))))) (.seq (.row [⟨some 6, .mv (.c (.bool false)), [], none⟩]) .ret))))
def dc36l0 : DC := (.seq (.seq (.row [⟨some 8, .mv (.t 7), [], none⟩, ⟨some 9, .mv (.t 0), [], none⟩, ⟨some 10, .len true (.t 9), [], none⟩, ⟨some 11, .bin .leq (.t 8) (.t 10), [], none⟩]) (.cond (.t 11) .skip (.exit 0))) (.seq (.block 1 (.seq (.row [⟨some 14, .mv (.t 7), [], none⟩, ⟨some 15, .mv (.t 0), [], none⟩, ⟨some 16, .len true (.t 15), [], none⟩, ⟨some 17, .bin .eql (.t 14) (.t 16), [], none⟩, ⟨some 18, .mv (.t 17), [], none⟩, ⟨some 19, .mv (.t 0), [], some (4, false)⟩, ⟨some 20, .mv (.t 7), [], some (4, false)⟩, ⟨some 21, .idxs (.t 19) (.t 20), [], some (4, false)⟩, ⟨some 22, .mv (.t 1), [], some (4, false)⟩, ⟨some 23, .bin .eql (.t 21) (.t 22), [], some (4, false)⟩, ⟨some 24, .pick (.t 18) (.c (.bool true)) (.t 23), [], none⟩]) (.cond (.t 24) (.seq (.row [⟨some 25, .mv (.t 5), [], none⟩, ⟨some 26, .mv (.t 0), [], none⟩, ⟨some 27, .mv (.t 6), [], none⟩, ⟨some 28, .mv (.t 7), [], none⟩, ⟨some 29, .cuts (.t 26) (some (.t 27)) (some (.t 28)), [], none⟩, ⟨some 30, .bslice 9 1 [(.t 29)], [], none⟩, ⟨some 31, .app 9 1 16 (.t 25) (.t 30), [], none⟩, ⟨some 5, .mv (.t 31), [], none⟩]) (.row [⟨some 32, .mv (.t 7), [], none⟩, ⟨some 33, .bin .add (.t 32) (.c (.int .i64 1)), [], none⟩, ⟨some 6, .mv (.t 33), [], none⟩])) .skip))) (.row [⟨some 12, .mv (.t 7), [], none⟩, ⟨some 13, .bin .add (.t 12) (.c (.int .i64 1)), [], none⟩, ⟨some 7, .mv (.t 13), [], none⟩])))
def dc36 : DC := (.seq (.row [⟨some 4, .mv (.c (.slice true [] [])), [], none⟩]) (.seq (.row [⟨some 5, .mv (.c (.slice true [] [])), [], none⟩]) (.seq (.row [⟨some 6, .mv (.c (.int .i64 0)), [], none⟩]) (.seq (.seq (.row [⟨some 7, .mv (.c (.int .i64 0)), [], none⟩]) (.block 0 (.loop dc36l0))) (.seq (.row [⟨some 34, .mv (.t 5), [], none⟩, ⟨some 4, .mv (.t 34), [], none⟩]) .ret)))))
def dc37 : DC := (.seq (.row [⟨some 2, .mv (.c (.int .i64 0)), [], none⟩]) (.seq (.row [⟨some 6, .mv (.t 0), [], none⟩, ⟨some 7, .call (.c (.fn 26 [])) [(.t 6)], [], none⟩, ⟨some 5, .mv (.t 7), [], none⟩, ⟨some 8, .ext 0 (.t 5), [], none⟩, ⟨some 9, .ext 1 (.t 5), [], none⟩, ⟨some 3, .mv (.t 8), [], none⟩, ⟨some 4, .mv (.t 9), [], none⟩]) (.seq (.row [⟨some 10, .mv (.t 3), [], none⟩, ⟨some 2, .mv (.t 10), [], none⟩]) .ret)))
def dc38 : DC := (.seq (.row [⟨some 2, .mv (.c (.str [])), [], none⟩]) (.seq (.row [⟨some 6, .mv (.t 0), [], none⟩, ⟨some 7, .call (.c (.fn 74 [])) [(.t 6)], [], none⟩, ⟨some 5, .mv (.t 7), [], none⟩, ⟨some 8, .ext 0 (.t 5), [], none⟩, ⟨some 9, .ext 1 (.t 5), [], none⟩, ⟨some 3, .mv (.t 8), [], none⟩, ⟨some 4, .mv (.t 9), [], none⟩]) (.seq (.row [⟨some 10, .mv (.t 3), [], none⟩, ⟨some 2, .mv (.t 10), [], none⟩]) .ret)))
def dc40 : DC := (.seq (.row [⟨some 2, .mv (.c (.bool false)), [], none⟩]) (.seq (.row [⟨some 3, .mv (.t 0), [], none⟩, ⟨some 4, .call (.c (.fn 77 [])) [(.t 3), (.c (.fn 78 []))], [], none⟩, ⟨some 5, .un .not (.t 4), [], none⟩, ⟨some 2, .mv (.t 5), [], none⟩]) .ret))
def dc42l0 : DC := (.seq (.seq (.row [⟨some 5, .mv (.t 4), [], none⟩, ⟨some 6, .mv (.t 0), [], none⟩, ⟨some 7, .len false (.t 6), [], none⟩, ⟨some 8, .bin .lss (.t 5) (.t 7), [], none⟩]) (.cond (.t 8) .skip (.exit 0))) (.seq (.block 1 (.row [⟨some 11, .mv (.t 3), [], none⟩, ⟨some 12, .mv (.t 0), [], none⟩, ⟨some 13, .mv (.t 4), [], none⟩, ⟨some 14, .iaddr 7 (.t 12) (.t 13), [], none⟩, ⟨some 15, .load (some 7) (.t 14), [], none⟩, ⟨some 16, .bslice 62 7 [(.t 15)], [], none⟩, ⟨some 17, .app 62 7 72 (.t 11) (.t 16), [], none⟩, ⟨some 3, .mv (.t 17), [], none⟩])) (.row [⟨some 9, .mv (.t 4), [], none⟩, ⟨some 10, .bin .add (.t 9) (.c (.int .i64 1)), [], none⟩, ⟨some 4, .mv (.t 10), [], none⟩])))
def dc42 : DC := (.seq (.row [⟨some 2, .mv (.c (.slice true [] [])), [], none⟩]) (.seq (.row [⟨some 3, .mv (.c (.slice true [] [])), [], none⟩]) (.seq (.seq (.row [⟨some 4, .mv (.c (.int .i64 0)), [], none⟩]) (.block 0 (.loop dc42l0))) (.seq (.row [⟨some 18, .mv (.t 3), [], none⟩, ⟨some 2, .mv (.t 18), [], none⟩]) .ret))))
def dc43l0 : DC := (.seq (.row [⟨some 14, .bin .lss (.t 13) (.t 12), [], none⟩]) (.seq (.cond (.t 14) .skip (.exit 0)) (.seq (.block 1 (.seq (.row [⟨some 15, .mv (.t 13), [], none⟩, ⟨some 5, .mv (.t 15), [], none⟩]) (.seq (.drawn [⟨some 16, .mv (.t 0), [], none⟩, ⟨some 17, .mv (.t 5), [], none⟩, ⟨some 18, .iaddr 7 (.t 16) (.t 17), [], none⟩, ⟨some 19, .load (some 7) (.t 18), [], none⟩, ⟨some 20, .mv (.t 1), [], none⟩, ⟨some 21, .mv (.t 5), [], none⟩, ⟨some 22, .iaddr 7 (.t 20) (.t 21), [], none⟩, ⟨some 23, .load (some 7) (.t 22), [], none⟩, ⟨some 24, .seq true [(0, 0), (2, 1), (2, 2), (0, 3), (0, 4), (0, 5), (1, 6)] (.t 19) (.t 23), [], none⟩] []) (.cond (.t 24) (.seq (.row [⟨some 4, .mv (.c (.bool false)), [], none⟩]) .ret) .skip)))) (.row [⟨some 25, .bin .add (.t 13) (.c (.int .i64 1)), [], none⟩, ⟨some 13, .mv (.t 25), [], none⟩]))))
def dc43 : DC := (.seq (.row [⟨some 4, .mv (.c (.bool false)), [], none⟩]) (.seq (.seq (.row [⟨some 6, .mv (.t 0), [], none⟩, ⟨some 7, .len false (.t 6), [], none⟩, ⟨some 8, .mv (.t 1), [], none⟩, ⟨some 9, .len false (.t 8), [], none⟩, ⟨some 10, .bin .neq (.t 7) (.t 9), [], none⟩]) (.cond (.t 10) (.seq (.row [⟨some 4, .mv (.c (.bool false)), [], none⟩]) .ret) .skip)) (.seq (.seq (.row [⟨some 11, .mv (.t 0), [], none⟩, ⟨some 12, .len false (.t 11), [], none⟩, ⟨some 13, .mv (.c (.int .i64 0)), [], none⟩]) (.block 0 (.loop dc43l0))) (.seq (.row [⟨some 4, .mv (.c (.bool true)), [], none⟩]) .ret))))
def dc44l0 : DC := (.seq (.row [⟨some 14, .bin .lss (.t 13) (.t 12), [], none⟩]) (.seq (.cond (.t 14) .skip (.exit 0)) (.seq (.block 1 (.seq (.row [⟨some 15, .mv (.t 13), [], none⟩, ⟨some 5, .mv (.t 15), [], none⟩]) (.seq (.drawn [⟨some 16, .mv (.t 0), [], none⟩, ⟨some 17, .mv (.t 5), [], none⟩, ⟨some 18, .iaddr 1 (.t 16) (.t 17), [], none⟩, ⟨some 19, .load none (.t 18), [], none⟩, ⟨some 20, .mv (.t 1), [], none⟩, ⟨some 21, .mv (.t 5), [], none⟩, ⟨some 22, .iaddr 1 (.t 20) (.t 21), [], none⟩, ⟨some 23, .load none (.t 22), [], none⟩, ⟨some 24, .bin .neq (.t 19) (.t 23), [], none⟩] []) (.cond (.t 24) (.seq (.row [⟨some 4, .mv (.c (.bool false)), [], none⟩]) .ret) .skip)))) (.row [⟨some 25, .bin .add (.t 13) (.c (.int .i64 1)), [], none⟩, ⟨some 13, .mv (.t 25), [], none⟩]))))
def dc44 : DC := (.seq (.row [⟨some 4, .mv (.c (.bool false)), [], none⟩]) (.seq (.seq (.row [⟨some 6, .mv (.t 0), [], none⟩, ⟨some 7, .len false (.t 6), [], none⟩, ⟨some 8, .mv (.t 1), [], none⟩, ⟨some 9, .len false (.t 8), [], none⟩, ⟨some 10, .bin .neq (.t 7) (.t 9), [], none⟩]) (.cond (.t 10) (.seq (.row [⟨some 4, .mv (.c (.bool false)), [], none⟩]) .ret) .skip)) (.seq (.seq (.row [⟨some 11, .mv (.t 0), [], none⟩, ⟨some 12, .len false (.t 11), [], none⟩, ⟨some 13, .mv (.c (.int .i64 0)), [], none⟩]) (.block 0 (.loop dc44l0))) (.seq (.row [⟨some 4, .mv (.c (.bool true)), [], none⟩]) .ret))))
def dc65l0 : DC := (.seq (.row [⟨some 14, .bin .lss (.t 13) (.t 12), [], none⟩]) (.seq (.cond (.t 14) .skip (.exit 0)) (.seq (.block 1 (.seq (.row [⟨some 15, .iaddr 1 (.t 11) (.t 13), [], none⟩, ⟨some 16, .load none (.t 15), [], none⟩, ⟨some 5, .mv (.t 16), [], none⟩]) (.drawn [⟨some 17, .mv (.t 3), [], none⟩, ⟨some 18, .mv (.t 5), [], none⟩, ⟨some 19, .bin .shr (.t 18) (.c (.int .u64 4)), [], none⟩, ⟨some 20, .idxs (.c (.str [48, 49, 50, 51, 52, 53, 54, 55, 56, 57, 97, 98, 99, 100, 101, 102])) (.t 19), [], none⟩, ⟨some 21, .mv (.t 5), [], none⟩, ⟨some 22, .bin .and (.t 21) (.c (.int .u8 15)), [], none⟩, ⟨some 23, .idxs (.c (.str [48, 49, 50, 51, 52, 53, 54, 55, 56, 57, 97, 98, 99, 100, 101, 102])) (.t 22), [], none⟩, ⟨some 24, .bslice 5 1 [(.t 20), (.t 23)], [], none⟩, ⟨some 25, .app 5 1 1 (.t 17) (.t 24), [], none⟩, ⟨some 3, .mv (.t 25), [], none⟩] []))) (.row [⟨some 26, .bin .add (.t 13) (.c (.int .i64 1)), [], none⟩, ⟨some 13, .mv (.t 26), [], none⟩]))))
def dc65 : DC := (.seq (.row [⟨some 2, .mv (.c (.str [])), [], none⟩]) (.seq (.row [⟨some 6, .mv (.t 0), [], none⟩, ⟨some 7, .len true (.t 6), [], none⟩, ⟨some 8, .bin .mul (.c (.int .i64 2)) (.t 7), [], none⟩, ⟨some 9, .mksl 5 1 1 (.int .u8 0) (.c (.int .i64 0)) (.t 8), [], none⟩, ⟨some 3, .mv (.t 9), [], none⟩]) (.seq (.seq (.row [⟨some 10, .mv (.t 0), [], none⟩, ⟨some 11, .s2b (.t 10), [], none⟩, ⟨some 12, .len false (.t 11), [], none⟩, ⟨some 13, .mv (.c (.int .i64 0)), [], none⟩]) (.block 0 (.loop dc65l0))) (.seq (.row [⟨some 27, .mv (.t 3), [], none⟩, ⟨some 28, .b2s (.t 27), [], none⟩, ⟨some 2, .mv (.t 28), [], none⟩]) .ret))))
def dc66l0 : DC := (.seq (.seq (.row [⟨some 6, .mv (.t 5), [], none⟩, ⟨some 7, .mv (.t 0), [], none⟩, ⟨some 8, .len true (.t 7), [], none⟩, ⟨some 9, .bin .lss (.t 6) (.t 8), [], none⟩]) (.cond (.t 9) .skip (.exit 0))) (.seq (.block 1 (.drawn [⟨some 12, .mv (.t 4), [], none⟩, ⟨some 13, .mv (.t 3), [], none⟩, ⟨some 14, .mv (.t 0), [], none⟩, ⟨some 15, .mv (.t 5), [], none⟩, ⟨some 16, .idxs (.t 14) (.t 15), [], none⟩, ⟨some 17, .bin .quo (.t 16) (.c (.int .u8 16)), [], none⟩, ⟨some 18, .idxs (.t 13) (.t 17), [], none⟩, ⟨some 19, .mv (.t 3), [], none⟩, ⟨some 20, .mv (.t 0), [], none⟩, ⟨some 21, .mv (.t 5), [], none⟩, ⟨some 22, .idxs (.t 20) (.t 21), [], none⟩, ⟨some 23, .bin .rem (.t 22) (.c (.int .u8 16)), [], none⟩, ⟨some 24, .idxs (.t 19) (.t 23), [], none⟩, ⟨some 25, .bslice 5 1 [(.t 18), (.t 24)], [], none⟩, ⟨some 26, .app 5 1 1 (.t 12) (.t 25), [], none⟩, ⟨some 4, .mv (.t 26), [], none⟩] [])) (.row [⟨some 10, .mv (.t 5), [], none⟩, ⟨some 11, .bin .add (.t 10) (.c (.int .i64 1)), [], none⟩, ⟨some 5, .mv (.t 11), [], none⟩])))
def dc66 : DC := (.seq (.row [⟨some 2, .mv (.c (.str [])), [], none⟩]) (.seq (.row [⟨some 3, .mv (.c (.str [48, 49, 50, 51, 52, 53, 54, 55, 56, 57, 97, 98, 99, 100, 101, 102])), [], none⟩]) (.seq (.row [⟨some 4, .mv (.c (.slice true [] [])), [], none⟩]) (.seq (.seq (.row [⟨some 5, .mv (.c (.int .i64 0)), [], none⟩]) (.block 0 (.loop dc66l0))) (.seq (.row [⟨some 27, .mv (.t 4), [], none⟩, ⟨some 28, .b2s (.t 27), [], none⟩, ⟨some 2, .mv (.t 28), [], none⟩]) .ret)))))
def dc68 : DC := (.seq (.row [⟨some 2, .mv (.c (.str [])), [], none⟩]) (.seq (.seq (.row [⟨some 4, .mv (.t 0), [], none⟩, ⟨some 5, .nilchk (.t 4), [], none⟩, ⟨some 6, .faddr 0 (.t 5), [], none⟩, ⟨some 7, .load none (.t 6), [], none⟩, ⟨some 8, .len false (.t 7), [], none⟩, ⟨some 9, .bin .eql (.t 8) (.c (.int .i64 0)), [], none⟩]) (.cond (.t 9) (.seq (.row [⟨some 10, .mv (.t 0), [], none⟩, ⟨some 11, .nilchk (.t 10), [], none⟩, ⟨some 12, .faddr 1 (.t 11), [], none⟩, ⟨none, .store 1 (.t 12) (.c (.bool true)), [], none⟩]) (.seq (.row [⟨some 2, .mv (.c (.str [])), [], none⟩]) .ret)) .skip)) (.seq (.row [⟨some 13, .mv (.t 0), [], none⟩, ⟨some 14, .nilchk (.t 13), [], none⟩, ⟨some 15, .faddr 0 (.t 14), [], none⟩, ⟨some 16, .load none (.t 15), [], none⟩, ⟨some 17, .iaddr 1 (.t 16) (.c (.int .i64 0)), [], none⟩, ⟨some 18, .load none (.t 17), [], none⟩, ⟨some 3, .mv (.t 18), [], none⟩]) (.seq (.row [⟨some 19, .mv (.t 0), [], none⟩, ⟨some 20, .mv (.t 0), [], none⟩, ⟨some 21, .nilchk (.t 20), [], none⟩, ⟨some 22, .faddr 0 (.t 21), [], none⟩, ⟨some 23, .load none (.t 22), [], none⟩, ⟨some 24, .cutl 1 (.t 23) (some (.c (.int .i64 1))) none, [], none⟩, ⟨some 25, .nilchk (.t 19), [], none⟩, ⟨some 26, .faddr 0 (.t 25), [], none⟩, ⟨none, .store 1 (.t 26) (.t 24), [], none⟩]) (.seq (.row [⟨some 27, .mv (.t 3), [], none⟩, ⟨some 2, .mv (.t 27), [], none⟩]) .ret)))))
def dc69 : DC := (.seq (.row [⟨some 2, .mv (.c (.int .i64 0)), [], none⟩]) (.seq (.row [⟨some 6, .mv (.t 0), [], none⟩, ⟨some 7, .call (.c (.fn 68 [])) [(.t 6)], [], none⟩, ⟨some 8, .call (.c (.fn 25 [])) [(.t 7)], [], none⟩, ⟨some 5, .mv (.t 8), [], none⟩, ⟨some 9, .ext 0 (.t 5), [], none⟩, ⟨some 10, .ext 1 (.t 5), [], none⟩, ⟨some 3, .mv (.t 9), [], none⟩, ⟨some 4, .mv (.t 10), [], none⟩]) (.seq (.row [⟨some 11, .mv (.t 0), [], none⟩, ⟨some 12, .mv (.t 0), [], none⟩, ⟨some 13, .nilchk (.t 12), [], none⟩, ⟨some 14, .faddr 1 (.t 13), [], none⟩, ⟨some 15, .load none (.t 14), [], none⟩, ⟨some 16, .mv (.t 15), [], none⟩, ⟨some 17, .mv (.t 4), [], some (5, false)⟩, ⟨some 18, .un .not (.t 17), [], some (5, false)⟩, ⟨some 19, .pick (.t 16) (.c (.bool true)) (.t 18), [], none⟩, ⟨some 20, .nilchk (.t 11), [], none⟩, ⟨some 21, .faddr 1 (.t 20), [], none⟩, ⟨none, .store 1 (.t 21) (.t 19), [], none⟩]) (.seq (.row [⟨some 22, .mv (.t 3), [], none⟩, ⟨some 2, .mv (.t 22), [], none⟩]) .ret))))
def dc70 : DC := (.seq (.row [⟨some 2, .mv (.c (.bool false)), [], none⟩]) (.seq (.row [⟨some 4, .mv (.t 0), [], none⟩, ⟨some 5, .call (.c (.fn 68 [])) [(.t 4)], [], none⟩, ⟨some 3, .mv (.t 5), [], none⟩]) (.seq (.row [⟨some 6, .mv (.t 0), [], none⟩, ⟨some 7, .mv (.t 0), [], none⟩, ⟨some 8, .nilchk (.t 7), [], none⟩, ⟨some 9, .faddr 1 (.t 8), [], none⟩, ⟨some 10, .load none (.t 9), [], none⟩, ⟨some 11, .mv (.t 10), [], none⟩, ⟨some 12, .mv (.t 3), [], some (5, false)⟩, ⟨some 13, .bin .neq (.t 12) (.c (.str [48])), [], some (5, false)⟩, ⟨some 14, .mv (.t 13), [], some (5, false)⟩, ⟨some 15, .mv (.t 3), [], some (8, true)⟩, ⟨some 16, .bin .neq (.t 15) (.c (.str [49])), [], some (8, true)⟩, ⟨some 17, .pick (.t 14) (.t 16) (.c (.bool false)), [], some (5, false)⟩, ⟨some 18, .pick (.t 11) (.c (.bool true)) (.t 17), [], none⟩, ⟨some 19, .nilchk (.t 6), [], none⟩, ⟨some 20, .faddr 1 (.t 19), [], none⟩, ⟨none, .store 1 (.t 20) (.t 18), [], none⟩]) (.seq (.row [⟨some 21, .mv (.t 3), [], none⟩, ⟨some 22, .bin .eql (.t 21) (.c (.str [49])), [], none⟩, ⟨some 2, .mv (.t 22), [], none⟩]) .ret))))
def dc71 : DC := (.seq (.row [⟨some 2, .mv (.c (.bool false)), [], none⟩]) (.seq (.row [⟨some 3, .mv (.t 0), [], none⟩, ⟨some 4, .nilchk (.t 3), [], none⟩, ⟨some 5, .faddr 1 (.t 4), [], none⟩, ⟨some 6, .load none (.t 5), [], none⟩, ⟨some 7, .un .not (.t 6), [], none⟩, ⟨some 8, .mv (.t 7), [], none⟩, ⟨some 9, .mv (.t 0), [], some (5, true)⟩, ⟨some 10, .nilchk (.t 9), [], some (5, true)⟩, ⟨some 11, .faddr 0 (.t 10), [], some (5, true)⟩, ⟨some 12, .load none (.t 11), [], some (5, true)⟩, ⟨some 13, .len false (.t 12), [], some (5, true)⟩, ⟨some 14, .bin .eql (.t 13) (.c (.int .i64 0)), [], some (5, true)⟩, ⟨some 15, .pick (.t 8) (.t 14) (.c (.bool false)), [], none⟩, ⟨some 2, .mv (.t 15), [], none⟩]) .ret))
def dc72 : DC := (.seq (.row [⟨some 2, .alloc [(.int .i64 0), (.str []), (.str []), (.int .i64 0), (.int .i64 0), (.int .i64 0), (.bool false)], [], none⟩]) (.seq (.row [⟨some 4, .mv (.t 0), [], none⟩, ⟨some 5, .call (.c (.fn 69 [])) [(.t 4)], [], none⟩, ⟨some 6, .mv (.t 0), [], none⟩, ⟨some 7, .call (.c (.fn 69 [])) [(.t 6)], [], none⟩, ⟨some 8, .mv (.t 0), [], none⟩, ⟨some 9, .call (.c (.fn 69 [])) [(.t 8)], [], none⟩, ⟨some 10, .mv (.t 0), [], none⟩, ⟨some 11, .call (.c (.fn 69 [])) [(.t 10)], [], none⟩, ⟨some 12, .build [(.int .i64 0), (.str []), (.str []), (.int .i64 0), (.int .i64 0), (.int .i64 0), (.bool false)] [(0, 1, (.t 5)), (3, 1, (.t 7)), (4, 1, (.t 9)), (5, 1, (.t 11))], [], none⟩, ⟨some 3, .alloc [(.int .i64 0), (.str []), (.str []), (.int .i64 0), (.int .i64 0), (.int .i64 0), (.bool false)], [], none⟩, ⟨none, .store 7 (.t 3) (.t 12), [], none⟩]) (.seq (.row [⟨some 13, .mv (.t 0), [], none⟩, ⟨some 14, .call (.c (.fn 70 [])) [(.t 13)], [], none⟩, ⟨some 15, .faddr 6 (.t 3), [], none⟩, ⟨none, .store 1 (.t 15) (.t 14), [], none⟩]) (.seq (.row [⟨some 16, .mv (.t 0), [], none⟩, ⟨some 17, .call (.c (.fn 73 [])) [(.t 16)], [], none⟩, ⟨some 18, .mv (.t 0), [], none⟩, ⟨some 19, .call (.c (.fn 73 [])) [(.t 18)], [], none⟩, ⟨some 20, .faddr 1 (.t 3), [], none⟩, ⟨none, .store 1 (.t 20) (.t 17), [], none⟩, ⟨some 21, .faddr 2 (.t 3), [], none⟩, ⟨none, .store 1 (.t 21) (.t 19), [], none⟩]) (.seq (.row [⟨some 22, .load (some 7) (.t 3), [], none⟩, ⟨none, .store 7 (.t 2) (.t 22), [], none⟩]) .ret)))))
def dc73 : DC := (.seq (.row [⟨some 2, .mv (.c (.str [])), [], none⟩]) (.seq (.row [⟨some 6, .mv (.t 0), [], none⟩, ⟨some 7, .call (.c (.fn 68 [])) [(.t 6)], [], none⟩, ⟨some 3, .mv (.t 7), [], none⟩]) (.seq (.seq (.row [⟨some 8, .mv (.t 3), [], none⟩, ⟨some 9, .bin .eql (.t 8) (.c (.str [45])), [], none⟩]) (.cond (.t 9) (.seq (.row [⟨some 2, .mv (.c (.str [])), [], none⟩]) .ret) .skip)) (.seq (.row [⟨some 11, .mv (.t 3), [], none⟩, ⟨some 12, .call (.c (.fn 95 [])) [(.t 11)], [], none⟩, ⟨some 10, .mv (.t 12), [], none⟩, ⟨some 13, .ext 0 (.t 10), [], none⟩, ⟨some 14, .ext 1 (.t 10), [], none⟩, ⟨some 4, .mv (.t 13), [], none⟩, ⟨some 5, .mv (.t 14), [], none⟩]) (.seq (.row [⟨some 15, .mv (.t 0), [], none⟩, ⟨some 16, .mv (.t 0), [], none⟩, ⟨some 17, .nilchk (.t 16), [], none⟩, ⟨some 18, .faddr 1 (.t 17), [], none⟩, ⟨some 19, .load none (.t 18), [], none⟩, ⟨some 20, .mv (.t 19), [], none⟩, ⟨some 21, .mv (.t 5), [], some (5, false)⟩, ⟨some 22, .un .not (.t 21), [], some (5, false)⟩, ⟨some 23, .pick (.t 20) (.c (.bool true)) (.t 22), [], none⟩, ⟨some 24, .mv (.t 23), [], none⟩, ⟨some 25, .mv (.t 4), [], some (9, false)⟩, ⟨some 26, .bin .eql (.t 25) (.c (.str [])), [], some (9, false)⟩, ⟨some 27, .pick (.t 24) (.c (.bool true)) (.t 26), [], none⟩, ⟨some 28, .nilchk (.t 15), [], none⟩, ⟨some 29, .faddr 1 (.t 28), [], none⟩, ⟨none, .store 1 (.t 29) (.t 27), [], none⟩]) (.seq (.row [⟨some 30, .mv (.t 4), [], none⟩, ⟨some 2, .mv (.t 30), [], none⟩]) .ret))))))
def dc74l0 : DC := (.seq (.seq (.row [⟨some 16, .mv (.t 7), [], none⟩, ⟨some 17, .bin .lss (.t 16) (.c (.int .i64 2)), [], none⟩]) (.cond (.t 17) .skip (.exit 2))) (.seq (.block 3 (.seq (.row [⟨some 20, .mv (.t 0), [], none⟩, ⟨some 21, .mv (.t 5), [], none⟩, ⟨some 22, .mv (.t 7), [], none⟩, ⟨some 23, .bin .add (.t 21) (.t 22), [], none⟩, ⟨some 24, .idxs (.t 20) (.t 23), [], none⟩, ⟨some 25, .conv .i64 (.t 24), [], none⟩, ⟨some 8, .mv (.t 25), [], none⟩]) (.seq (.row [⟨some 26, .mv (.t 8), [], none⟩, ⟨some 27, .bin .geq (.t 26) (.c (.int .i64 97)), [], none⟩]) (.cond (.t 27) (.row [⟨some 28, .mv (.t 6), [], none⟩, ⟨some 29, .bin .mul (.c (.int .i64 16)) (.t 28), [], none⟩, ⟨some 30, .mv (.t 8), [], none⟩, ⟨some 31, .bin .add (.t 29) (.t 30), [], none⟩, ⟨some 32, .bin .sub (.t 31) (.c (.int .i64 87)), [], none⟩, ⟨some 6, .mv (.t 32), [], none⟩]) (.row [⟨some 33, .mv (.t 6), [], none⟩, ⟨some 34, .bin .mul (.c (.int .i64 16)) (.t 33), [], none⟩, ⟨some 35, .mv (.t 8), [], none⟩, ⟨some 36, .bin .add (.t 34) (.t 35), [], none⟩, ⟨some 37, .bin .sub (.t 36) (.c (.int .i64 48)), [], none⟩, ⟨some 6, .mv (.t 37), [], none⟩]))))) (.row [⟨some 18, .mv (.t 7), [], none⟩, ⟨some 19, .bin .add (.t 18) (.c (.int .i64 1)), [], none⟩, ⟨some 7, .mv (.t 19), [], none⟩])))
def dc74l1 : DC := (.seq (.seq (.row [⟨some 9, .mv (.t 5), [], none⟩, ⟨some 10, .bin .add (.t 9) (.c (.int .i64 1)), [], none⟩, ⟨some 11, .mv (.t 0), [], none⟩, ⟨some 12, .len true (.t 11), [], none⟩, ⟨some 13, .bin .lss (.t 10) (.t 12), [], none⟩]) (.cond (.t 13) .skip (.exit 0))) (.seq (.block 1 (.seq (.row [⟨some 6, .mv (.c (.int .i64 0)), [], none⟩]) (.seq (.seq (.row [⟨some 7, .mv (.c (.int .i64 0)), [], none⟩]) (.block 2 (.loop dc74l0))) (.row [⟨some 38, .mv (.t 4), [], none⟩, ⟨some 39, .mv (.t 6), [], none⟩, ⟨some 40, .conv .u8 (.t 39), [], none⟩, ⟨some 41, .bslice 5 1 [(.t 40)], [], none⟩, ⟨some 42, .app 5 1 1 (.t 38) (.t 41), [], none⟩, ⟨some 4, .mv (.t 42), [], none⟩])))) (.row [⟨some 14, .mv (.t 5), [], none⟩, ⟨some 15, .bin .add (.t 14) (.c (.int .i64 2)), [], none⟩, ⟨some 5, .mv (.t 15), [], none⟩])))
def dc74 : DC := (.seq (.row [⟨some 2, .mv (.c (.str [])), [], none⟩, ⟨some 3, .mv (.c (.bool false)), [], none⟩]) (.seq (.row [⟨some 4, .mv (.c (.slice true [] [])), [], none⟩]) (.seq (.seq (.row [⟨some 5, .mv (.c (.int .i64 0)), [], none⟩]) (.block 0 (.loop dc74l1))) (.seq (.seq (.row [⟨some 43, .mv (.t 4), [], none⟩, ⟨some 44, .b2s (.t 43), [], none⟩, ⟨some 45, .call (.c (.fn 66 [])) [(.t 44)], [], none⟩, ⟨some 46, .mv (.t 0), [], none⟩, ⟨some 47, .bin .neq (.t 45) (.t 46), [], none⟩]) (.cond (.t 47) (.seq (.row [⟨some 2, .mv (.c (.str [])), [], none⟩, ⟨some 3, .mv (.c (.bool false)), [], none⟩]) .ret) .skip)) (.seq (.row [⟨some 48, .mv (.t 4), [], none⟩, ⟨some 49, .b2s (.t 48), [], none⟩, ⟨some 2, .mv (.t 49), [], none⟩, ⟨some 3, .mv (.c (.bool true)), [], none⟩]) .ret)))))
def dc77 : DC := (.seq (.row [⟨some 4, .mv (.c (.bool false)), [], none⟩]) (.seq (.row [⟨some 5, .mv (.t 0), [], none⟩, ⟨some 6, .mv (.t 1), [], none⟩, ⟨some 7, .call (.c (.fn 97 [])) [(.t 5), (.t 6)], [], none⟩, ⟨some 8, .bin .geq (.t 7) (.c (.int .i64 0)), [], none⟩, ⟨some 4, .mv (.t 8), [], none⟩]) .ret))
def dc78 : DC := (.seq (.row [⟨some 2, .mv (.c (.bool false)), [], none⟩]) (.seq (.row [⟨some 3, .mv (.t 0), [], none⟩, ⟨some 4, .len true (.t 3), [], none⟩, ⟨some 5, .bin .gtr (.t 4) (.c (.int .i64 500)), [], none⟩, ⟨some 2, .mv (.t 5), [], none⟩]) .ret))
def dc95l0 : DC := (.seq (.seq (.row [⟨some 16, .mv (.t 5), [], none⟩, ⟨some 17, .mv (.t 0), [], none⟩, ⟨some 18, .len true (.t 17), [], none⟩, ⟨some 19, .bin .lss (.t 16) (.t 18), [], none⟩]) (.cond (.t 19) .skip (.exit 0))) (.seq (.block 1 (.seq (.drawn [⟨some 22, .mv (.t 0), [], none⟩, ⟨some 23, .mv (.t 5), [], none⟩, ⟨some 24, .idxs (.t 22) (.t 23), [], none⟩, ⟨some 25, .call (.c (.fn 117 [])) [(.t 24)], [], none⟩, ⟨some 26, .mv (.t 0), [], none⟩, ⟨some 27, .mv (.t 5), [], none⟩, ⟨some 28, .bin .add (.t 27) (.c (.int .i64 1)), [], none⟩, ⟨some 29, .idxs (.t 26) (.t 28), [], none⟩, ⟨some 30, .call (.c (.fn 117 [])) [(.t 29)], [], none⟩, ⟨some 6, .mv (.t 25), [], none⟩, ⟨some 7, .mv (.t 30), [], none⟩] []) (.seq (.seq (.row [⟨some 31, .mv (.t 6), [], none⟩, ⟨some 32, .bin .lss (.t 31) (.c (.int .i64 0)), [], none⟩, ⟨some 33, .mv (.t 32), [], none⟩, ⟨some 34, .mv (.t 7), [], some (2, false)⟩, ⟨some 35, .bin .lss (.t 34) (.c (.int .i64 0)), [], some (2, false)⟩, ⟨some 36, .pick (.t 33) (.c (.bool true)) (.t 35), [], none⟩]) (.cond (.t 36) (.seq (.row [⟨some 2, .mv (.c (.str [])), [], none⟩, ⟨some 3, .mv (.c (.bool false)), [], none⟩]) .ret) .skip)) (.row [⟨some 37, .mv (.t 4), [], none⟩, ⟨some 38, .mv (.t 6), [], none⟩, ⟨some 39, .bin .shl (.t 38) (.c (.int .u64 4)), [], none⟩, ⟨some 40, .mv (.t 7), [], none⟩, ⟨some 41, .bin .or (.t 39) (.t 40), [], none⟩, ⟨some 42, .conv .u8 (.t 41), [], none⟩, ⟨some 43, .bslice 5 1 [(.t 42)], [], none⟩, ⟨some 44, .app 5 1 1 (.t 37) (.t 43), [], none⟩, ⟨some 4, .mv (.t 44), [], none⟩])))) (.row [⟨some 20, .mv (.t 5), [], none⟩, ⟨some 21, .bin .add (.t 20) (.c (.int .i64 2)), [], none⟩, ⟨some 5, .mv (.t 21), [], none⟩])))
def dc95 : DC := (.seq (.row [⟨some 2, .mv (.c (.str [])), [], none⟩, ⟨some 3, .mv (.c (.bool false)), [], none⟩]) (.seq (.seq (.row [⟨some 8, .mv (.t 0), [], none⟩, ⟨some 9, .len true (.t 8), [], none⟩, ⟨some 10, .bin .rem (.t 9) (.c (.int .i64 2)), [], none⟩, ⟨some 11, .bin .neq (.t 10) (.c (.int .i64 0)), [], none⟩]) (.cond (.t 11) (.seq (.row [⟨some 2, .mv (.c (.str [])), [], none⟩, ⟨some 3, .mv (.c (.bool false)), [], none⟩]) .ret) .skip)) (.seq (.row [⟨some 12, .mv (.t 0), [], none⟩, ⟨some 13, .len true (.t 12), [], none⟩, ⟨some 14, .bin .quo (.t 13) (.c (.int .i64 2)), [], none⟩, ⟨some 15, .mksl 5 1 1 (.int .u8 0) (.c (.int .i64 0)) (.t 14), [], none⟩, ⟨some 4, .mv (.t 15), [], none⟩]) (.seq (.seq (.row [⟨some 5, .mv (.c (.int .i64 0)), [], none⟩]) (.block 0 (.loop dc95l0))) (.seq (.row [⟨some 45, .mv (.t 4), [], none⟩, ⟨some 46, .b2s (.t 45), [], none⟩, ⟨some 2, .mv (.t 46), [], none⟩, ⟨some 3, .mv (.c (.bool true)), [], none⟩]) .ret)))))
def dc97l0 : DC := (.seq (.row [⟨some 9, .bin .lss (.t 8) (.t 7), [], none⟩]) (.seq (.cond (.t 9) .skip (.exit 0)) (.seq (.block 1 (.seq (.row [⟨some 10, .mv (.t 8), [], none⟩, ⟨some 5, .mv (.t 10), [], none⟩]) (.seq (.row [⟨some 11, .mv (.t 1), [], none⟩, ⟨some 12, .mv (.t 0), [], none⟩, ⟨some 13, .mv (.t 5), [], none⟩, ⟨some 14, .iaddr 1 (.t 12) (.t 13), [], none⟩, ⟨some 15, .load none (.t 14), [], none⟩, ⟨some 16, .call (.t 11) [(.t 15)], [], none⟩]) (.cond (.t 16) (.seq (.row [⟨some 17, .mv (.t 5), [], none⟩, ⟨some 4, .mv (.t 17), [], none⟩]) .ret) .skip)))) (.row [⟨some 18, .bin .add (.t 8) (.c (.int .i64 1)), [], none⟩, ⟨some 8, .mv (.t 18), [], none⟩]))))
def dc97 : DC := (.seq (.row [⟨some 4, .mv (.c (.int .i64 0)), [], none⟩]) (.seq (.seq (.row [⟨some 6, .mv (.t 0), [], none⟩, ⟨some 7, .len false (.t 6), [], none⟩, ⟨some 8, .mv (.c (.int .i64 0)), [], none⟩]) (.block 0 (.loop dc97l0))) (.seq (.row [⟨some 4, .mv (.c (.int .i64 (-1))), [], none⟩]) .ret)))
def dc117 : DC := (.seq (.row [⟨some 2, .mv (.c (.int .i64 0)), [], none⟩]) (.seq (.block 0 (.seq (.row [⟨some 4, .mv (.t 0), [], none⟩, ⟨some 5, .bin .geq (.t 4) (.c (.int .u8 48)), [], none⟩, ⟨some 6, .mv (.t 5), [], none⟩, ⟨some 7, .mv (.t 0), [], some (2, true)⟩, ⟨some 8, .bin .leq (.t 7) (.c (.int .u8 57)), [], some (2, true)⟩, ⟨some 9, .pick (.t 6) (.t 8) (.c (.bool false)), [], none⟩, ⟨some 3, .mv (.t 9), [], none⟩]) (.cond (.t 3) (.seq (.row [⟨some 10, .mv (.t 0), [], none⟩, ⟨some 11, .bin .sub (.t 10) (.c (.int .u8 48)), [], none⟩, ⟨some 12, .conv .i64 (.t 11), [], none⟩, ⟨some 2, .mv (.t 12), [], none⟩]) .ret) (.seq (.row [⟨some 14, .mv (.t 0), [], none⟩, ⟨some 15, .bin .geq (.t 14) (.c (.int .u8 97)), [], none⟩, ⟨some 16, .mv (.t 15), [], none⟩, ⟨some 17, .mv (.t 0), [], some (2, true)⟩, ⟨some 18, .bin .leq (.t 17) (.c (.int .u8 102)), [], some (2, true)⟩, ⟨some 19, .pick (.t 16) (.t 18) (.c (.bool false)), [], none⟩, ⟨some 13, .mv (.t 19), [], none⟩]) (.cond (.t 13) (.seq (.row [⟨some 20, .mv (.t 0), [], none⟩, ⟨some 21, .bin .sub (.t 20) (.c (.int .u8 97)), [], none⟩, ⟨some 22, .conv .i64 (.t 21), [], none⟩, ⟨some 23, .bin .add (.t 22) (.c (.int .i64 10)), [], none⟩, ⟨some 2, .mv (.t 23), [], none⟩]) .ret) .skip))))) (.seq (.row [⟨some 2, .mv (.c (.int .i64 (-1))), [], none⟩]) .ret)))
structure Desk (P : Program) : Prop where
 f3 : Fn P 3 88 dc3 [.t 6]
 f7 : Fn P 7 54 dc7 [.t 2]
 f8 : Fn P 8 19 dc8 [.t 2]
 f10 : Fn P 10 77 dc10 [.t 2, .t 3]
 f11 : Fn P 11 15 dc11 [.cell (some 5) 2]
 f12 : Fn P 12 96 dc12 [.t 2, .t 3]
 f13 : Fn P 13 30 dc13 [.cell (some 5) 2, .t 3]
 f14 : Fn P 14 120 dc14 [.cell (some 5) 2, .t 3]
 f15 : Fn P 15 62 dc15 [.t 2]
 f16 : Fn P 16 92 dc16 [.t 2]
 f17 : Fn P 17 26 dc17 [.t 4]
 f18 : Fn P 18 60 dc18 [.t 4]
 f19 : Fn P 19 15 dc19 [.cell (some 5) 2]
 f20 : Fn P 20 38 dc20 [.t 4]
 f29 : Fn P 29 5 dc29 [.t 2]
 f30 : Fn P 30 4 dc30 [.t 2]
 f31 : Fn P 31 7 dc31 [.t 2]
 f32 : Fn P 32 19 dc32 [.t 2]
 f33 : Fn P 33 4 dc33 [.t 2]
 f34 : Fn P 34 7 dc34 [.t 2]
 f35 : Fn P 35 79 dc35 [.t 6]
 f36 : Fn P 36 35 dc36 [.t 4]
 f37 : Fn P 37 11 dc37 [.t 2]
 f38 : Fn P 38 11 dc38 [.t 2]
 f40 : Fn P 40 6 dc40 [.t 2]
 f42 : Fn P 42 19 dc42 [.t 2]
 f43 : Fn P 43 26 dc43 [.t 4]
 f44 : Fn P 44 26 dc44 [.t 4]
 f65 : Fn P 65 29 dc65 [.t 2]
 f66 : Fn P 66 29 dc66 [.t 2]
 f68 : Fn P 68 28 dc68 [.t 2]
 f69 : Fn P 69 23 dc69 [.t 2]
 f70 : Fn P 70 23 dc70 [.t 2]
 f71 : Fn P 71 16 dc71 [.t 2]
 f72 : Fn P 72 23 dc72 [.cell (some 7) 2]
 f73 : Fn P 73 31 dc73 [.t 2]
 f74 : Fn P 74 50 dc74 [.t 2, .t 3]
 f77 : Fn P 77 9 dc77 [.t 4]
 f78 : Fn P 78 6 dc78 [.t 2]
 f95 : Fn P 95 47 dc95 [.t 2, .t 3]
 f97 : Fn P 97 19 dc97 [.t 4]
 f117 : Fn P 117 24 dc117 [.t 2]
end Go.Vd

namespace Go.Vd
open Go.RowKit
set_option linter.unusedSimpArgs false
set_option linter.unusedVariables false
theorem put_rd {m : Mem} {i i' : Id} {o o' : Nat} {ds : List D} : m.put i o ds i' o' = if i' = i ∧ o ≤ o' ∧ o' < o + ds.length then ds[o' - o]? else m i' o' := rfl
theorem rd_zero {m : Mem} {i : Id} {o : Nat} : rdCells m i o 0 = some [] := rfl
theorem rd_succ {m : Mem} {i : Id} {o n : Nat} : rdCells m i o (n + 1) = (m i o).bind fun d => (rdCells m i (o + 1) n).map (d :: ·) := by
 show (match m i o with | some d => _ | none => none) = _
 cases m i o <;> rfl
theorem res_cell {s : Nat → D} {m : Mem} {k : Option Nat} {a : Nat} : resOf [.cell k a] s m = ldD m k (s a) := by
 simp only [resOf, rvAll, RV.of]
 cases ldD m k (s a) <;> rfl
theorem ldD_agg {m : Mem} {n : Nat} {i : Id} {o : Nat} : ldD m (some n) (.ptr i o) = (rdCells m i o n).map .agg := rfl
def strsOf : List D → Option (List Bs)
 | [] => some []
 | .str s :: r => (strsOf r).map (s :: ·)
 | _ => none
theorem strsOf_some : ∀ {xs : List D} {l : List Bs}, strsOf xs = some l → xs = l.map .str
 | [], l, h => by simp only [strsOf, Option.some.injEq] at h; subst h; rfl
 | x :: r, l, h => by
  unfold strsOf at h
  split at h
  ·rename_i h0; cases h0
  ·rename_i s r' h0
   simp only [List.cons.injEq] at h0
   obtain ⟨rfl, rfl⟩ := h0
   rw [Option.map_eq_some_iff] at h
   obtain ⟨l', h1, rfl⟩ := h
   rw [strsOf_some h1]; rfl
  ·cases h
theorem strsOf_map : ∀ l : List Bs, strsOf (l.map .str) = some l
 | [] => rfl
 | i :: r => by simp only [List.map_cons, strsOf]; rw [strsOf_map r]; rfl
def dnD (d : Dn) : D := .agg [.int .i64 d.cl, .str d.line, .str d.reply, .int .i64 d.fr, .int .i64 d.at_, .int .i64 d.to, .bool d.is]
def dnsOf : List D → Option (List Dn)
 | [] => some []
 | .agg [.int .i64 a, .str x, .str y, .int .i64 b, .int .i64 c, .int .i64 d, .bool e] :: r => (dnsOf r).map (⟨a, x, y, b, c, d, e⟩ :: ·)
 | _ => none
theorem dnsOf_some : ∀ {xs : List D} {l : List Dn}, dnsOf xs = some l → xs = l.map dnD
 | [], l, h => by simp only [dnsOf, Option.some.injEq] at h; subst h; rfl
 | x :: r, l, h => by
  unfold dnsOf at h
  split at h
  ·rename_i h0; cases h0
  ·rename_i h0
   simp only [List.cons.injEq] at h0
   obtain ⟨rfl, rfl⟩ := h0
   rw [Option.map_eq_some_iff] at h
   obtain ⟨l', h1, rfl⟩ := h
   rw [dnsOf_some h1]; rfl
  ·cases h
theorem dnsOf_map : ∀ l : List Dn, dnsOf (l.map dnD) = some l
 | [] => rfl
 | i :: r => by simp only [List.map_cons, dnD, dnsOf]; rw [dnsOf_map r]; rfl
def tdCells (nc nb : Bool) (t : Td) : List D := [.slice nc [] (t.calls.map dnD), .int .i64 t.ticks, .int .i64 t.left, .bool t.shut, .slice nb [] (t.behind.map .str)]
abbrev tdD (nc nb : Bool) (t : Td) : D := .agg (tdCells nc nb t)
def tdOf : D → Option (Bool × Bool × Td)
 | .agg [.slice nc _ cs, .int .i64 a, .int .i64 b, .bool s, .slice nb _ bs] => match dnsOf cs, strsOf bs with
  | some c, some b' => some (nc, nb, ⟨c, a, b, s, b'⟩)
  | _, _ => none
 | _ => none
theorem tdOf_some {d : D} {nc nb : Bool} {t : Td} (h : tdOf d = some (nc, nb, t)) : ∃ x y, d = .agg [.slice nc x (t.calls.map dnD), .int .i64 t.ticks, .int .i64 t.left, .bool t.shut, .slice nb y (t.behind.map .str)] := by
 unfold tdOf at h
 split at h
 ·split at h
  ·rename_i h1 h2
   simp only [Option.some.injEq, Prod.mk.injEq] at h
   obtain ⟨rfl, rfl, rfl⟩ := h
   exact ⟨_, _, by rw [dnsOf_some h1, strsOf_some h2]⟩
  ·cases h
 ·cases h
theorem tdOf_td (nc nb : Bool) (t : Td) : tdOf (tdD nc nb t) = some (nc, nb, t) := by
 simp only [tdD, tdCells, tdOf, dnsOf_map, strsOf_map]
theorem td_len (nc nb : Bool) (t : Td) : (tdCells nc nb t).length = 5 := rfl
theorem td_un (nc nb : Bool) (t : Td) : (tdCells nc nb t).map D.un1 = tdCells nc nb t := rfl
theorem td_calm (nc nb : Bool) (t : Td) : ((tdCells nc nb t).map D.un1).all D.calm1 = true := rfl
theorem rd5 {m : Mem} {i : Id} {a b c d e : D} : rdCells (m.put i 0 [a, b, c, d, e]) i 0 5 = some [a, b, c, d, e] := by simp [rd_succ, rd_zero, put_rd]
theorem none_ok {P : Program} : Summs.ok P (fun _ => none) := fun f q h => by cases h
def longD (d : Dn) : Bool := decide (600 < d.line.length) || decide (600 < d.reply.length)
def overB (t : Td) : Bool := decide (70 < t.calls.length) || decide (70 < t.behind.length) || t.calls.any longD || t.behind.any fun s => decide (600 < s.length)
def F7 : List D → Option D
 | [d] => match tdOf d with
  | some (_, _, t) => some (.bool (overB t))
  | none => none
 | _ => none
theorem loop7a {S : Summs} {ns : Id} {l : List Dn} {i : Id} {nl : Bool} {t : Id} {y : D} {Q : Ex → St → Prop} (hb : l.length ≤ 70)
  (hret : ∀ st, l.any longD = true → st.s 2 = .bool true → Q .ret st)
  (hexit : ∀ st, l.any longD = false → st.s 1 = .ptr i 0 → st.m i 4 = some y → Q (.exit 0) st) :
  ∀ (n k : Nat) st g, n = l.length - k → k ≤ l.length → (∀ j, j < k → ∀ x, l[j]? = some x → longD x = false) → st.s 3 = .int .i64 (k : Int) → st.s 1 = .ptr i 0 → st.m i 0 = some (.slice nl t (l.map dnD)) → st.m i 4 = some y →
   loopW S ns dc7l0 Q st g := by
 intro n
 induction n with
 | zero =>
  intro k st g hn hk hall h3 h1 m0 m1
  refine wp_loopd dc7l0.eq_1 ?_
  have : ¬ ((k : Int) < l.length) := by omega
  simp only [↓go1, go2, go3, go4, reduceIte, Nat.reduceEqDiff, Nat.reduceAdd, h3, h1, m0, List.length_map, this]
  refine hexit _ ?_ ?_ ?_
  ·rw [List.any_eq_false]
   intro x hx
   obtain ⟨j, hj, e⟩ := List.getElem_of_mem hx
   simp [hall j (by omega) x (by rw [List.getElem?_eq_getElem hj, e])]
  ·simp only [↓go1, go2, go3, go4, reduceIte, Nat.reduceEqDiff, Nat.reduceAdd, h1]
  ·exact m1
 | succ n ih =>
  intro k st g hn hk hall h3 h1 m0 m1
  refine wp_loopd dc7l0.eq_1 ?_
  have hlt : ((k : Int) < l.length) := by omega
  have hk0 : (0 : Int) ≤ (k : Int) := by omega
  have hkl : k < l.length := by omega
  have hx : (l.map dnD)[(k : Int).toNat]? = some (.agg [.int .i64 l[k].cl, .str l[k].line, .str l[k].reply, .int .i64 l[k].fr, .int .i64 l[k].at_, .int .i64 l[k].to, .bool l[k].is]) := by simp [hkl, dnD]
  have hg1 : ((600 : Int) < (l[k].line.length : Int)) = (600 < l[k].line.length) := by simp only [eq_iff_iff]; omega
  have hg2 : ((600 : Int) < (l[k].reply.length : Int)) = (600 < l[k].reply.length) := by simp only [eq_iff_iff]; omega
  have hw : IntKind.i64.wrap ((k : Int) + 1) = (k : Int) + 1 := IntWalk.i64_in _ ⟨by omega, by omega⟩
  have hno : longD l[k] = true → l.any longD = true := fun h => List.any_eq_true.2 ⟨l[k], List.getElem_mem hkl, h⟩
  simp only [↓go1, go2, go3, go4, reduceIte, Nat.reduceEqDiff, Nat.reduceAdd, Nat.zero_le, List.drop_zero, List.drop_succ_cons, Nat.reduceLeDiff, h3, h1, m0, List.length_map, hlt, hk0, hx, hg1, hg2, hw]
  refine ifQ.intro (fun hc => ?_) (fun hc => ?_)
  ·simp only [↓go1, go2, go3, go4, reduceIte, Nat.reduceEqDiff, Nat.reduceAdd, Nat.zero_le, List.drop_zero, List.drop_succ_cons, Nat.reduceLeDiff, h3, h1, m0, List.length_map, hlt, hk0, hx, hg1, hg2, hw, hc]
   exact hret _ (hno (by simp [longD, hc])) rfl
  ·simp only [↓go1, go2, go3, go4, reduceIte, Nat.reduceEqDiff, Nat.reduceAdd, Nat.zero_le, List.drop_zero, List.drop_succ_cons, Nat.reduceLeDiff, h3, h1, m0, List.length_map, hlt, hk0, hx, hg1, hg2, hw, hc]
   refine ifQ.intro (fun hc2 => ?_) (fun hc2 => ?_)
   ·simp only [↓go1, go2, go3, go4, reduceIte, Nat.reduceEqDiff, Nat.reduceAdd, Nat.zero_le, List.drop_zero, List.drop_succ_cons, Nat.reduceLeDiff, h3, h1, m0, List.length_map, hlt, hk0, hx, hg1, hg2, hw, hc, hc2]
    exact hret _ (hno (by simp [longD, hc2])) rfl
   ·simp only [↓go1, go2, go3, go4, reduceIte, Nat.reduceEqDiff, Nat.reduceAdd, Nat.zero_le, List.drop_zero, List.drop_succ_cons, Nat.reduceLeDiff, h3, h1, m0, List.length_map, hlt, hk0, hx, hg1, hg2, hw, hc, hc2]
    refine ih (k + 1) _ _ (by omega) (by omega) (fun j hj x hx' => ?_) rfl h1 m0 m1
    rcases Nat.lt_or_eq_of_le (Nat.le_of_lt_succ hj) with hj | rfl
    ·exact hall j hj x hx'
    ·rw [List.getElem?_eq_getElem hkl] at hx'
     simp only [Option.some.injEq] at hx'; subst hx'
     simp [longD, hc, hc2]
theorem loop7b {S : Summs} {ns : Id} {l : List Bs} {i : Id} {nl : Bool} {t : Id} {Q : Ex → St → Prop} (hb : l.length ≤ 70)
  (hret : ∀ st, (l.any fun s => decide (600 < s.length)) = true → st.s 2 = .bool true → Q .ret st)
  (hexit : ∀ st, (l.any fun s => decide (600 < s.length)) = false → Q (.exit 2) st) :
  ∀ (n k : Nat) st g, n = l.length - k → k ≤ l.length → (∀ j, j < k → ∀ x, l[j]? = some x → ¬ 600 < x.length) → st.s 4 = .int .i64 (k : Int) → st.s 1 = .ptr i 0 → st.m i 4 = some (.slice nl t (l.map .str)) →
   loopW S ns dc7l1 Q st g := by
 intro n
 induction n with
 | zero =>
  intro k st g hn hk hall h4 h1 m0
  refine wp_loopd dc7l1.eq_1 ?_
  have : ¬ ((k : Int) < l.length) := by omega
  simp only [↓go1, go2, go3, go4, reduceIte, Nat.reduceEqDiff, Nat.reduceAdd, h4, h1, m0, List.length_map, this]
  refine hexit _ ?_
  rw [List.any_eq_false]
  intro x hx
  obtain ⟨j, hj, e⟩ := List.getElem_of_mem hx
  simpa using hall j (by omega) x (by rw [List.getElem?_eq_getElem hj, e])
 | succ n ih =>
  intro k st g hn hk hall h4 h1 m0
  refine wp_loopd dc7l1.eq_1 ?_
  have hlt : ((k : Int) < l.length) := by omega
  have hk0 : (0 : Int) ≤ (k : Int) := by omega
  have hkl : k < l.length := by omega
  have hx : (l.map D.str)[(k : Int).toNat]? = some (.str l[k]) := by simp [hkl]
  have hg1 : ((600 : Int) < (l[k].length : Int)) = (600 < l[k].length) := by simp only [eq_iff_iff]; omega
  have hw : IntKind.i64.wrap ((k : Int) + 1) = (k : Int) + 1 := IntWalk.i64_in _ ⟨by omega, by omega⟩
  simp only [↓go1, go2, go3, go4, reduceIte, Nat.reduceEqDiff, Nat.reduceAdd, Nat.zero_le, List.drop_zero, List.drop_succ_cons, Nat.reduceLeDiff, h4, h1, m0, List.length_map, hlt, hk0, hx, hg1, hw]
  refine ifQ.intro (fun hc => ?_) (fun hc => ?_)
  ·simp only [↓go1, go2, go3, go4, reduceIte, Nat.reduceEqDiff, Nat.reduceAdd, Nat.zero_le, List.drop_zero, List.drop_succ_cons, Nat.reduceLeDiff, h4, h1, m0, List.length_map, hlt, hk0, hx, hg1, hw, hc]
   exact hret _ (List.any_eq_true.2 ⟨l[k], List.getElem_mem hkl, by simpa using hc⟩) rfl
  ·simp only [↓go1, go2, go3, go4, reduceIte, Nat.reduceEqDiff, Nat.reduceAdd, Nat.zero_le, List.drop_zero, List.drop_succ_cons, Nat.reduceLeDiff, h4, h1, m0, List.length_map, hlt, hk0, hx, hg1, hw, hc]
   refine ih (k + 1) _ _ (by omega) (by omega) (fun j hj x hx' => ?_) rfl h1 m0
   rcases Nat.lt_or_eq_of_le (Nat.le_of_lt_succ hj) with hj | rfl
   ·exact hall j hj x hx'
   ·rw [List.getElem?_eq_getElem hkl] at hx'
    simp only [Option.some.injEq] at hx'; subst hx'
    exact hc
theorem ok7 {P : Program} (hd : Desk P) : (funS F7).ok P 7 := by
 refine fun_ok (S := fun _ => none) none_ok hd.f7 (fun ds r h => ?_) (fun ds r h => ?_)
 ·unfold F7 at h; split at h
  ·simp
  ·cases h
 ·unfold F7 at h; split at h
  ·rename_i d
   split at h
   ·rename_i nc nb t ht
    obtain ⟨x, y, rfl⟩ := tdOf_some ht
    simp only [Option.some.injEq] at h
    subst h
    unfold dc7
    have g1 : ((70 : Int) < (t.calls.length : Int)) = (70 < t.calls.length) := by simp only [eq_iff_iff]; omega
    have g2 : ((70 : Int) < (t.behind.length : Int)) = (70 < t.behind.length) := by simp only [eq_iff_iff]; omega
    simp only [↓go1, go2, go3, go4, reduceIte, Nat.reduceEqDiff, Nat.reduceAdd, put_rd, List.length_map, List.length_cons, List.length_nil, Nat.zero_le, Nat.reduceLeDiff, Nat.reduceLT, and_self, true_and, Nat.sub_zero, Nat.reduceSub, List.getElem?_cons_zero, List.getElem?_cons_succ, Nat.zero_add, g1, g2]
    refine ifQ.intro (fun hc => ?_) (fun hc => ?_)
    ·simp only [↓go1, go2, go3, go4, reduceIte, Nat.reduceEqDiff, Nat.reduceAdd, hc]
     simp [overB, hc]
    ·simp only [↓go1, go2, go3, go4, reduceIte, Nat.reduceEqDiff, Nat.reduceAdd, put_rd, List.length_map, List.length_cons, List.length_nil, Nat.zero_le, Nat.reduceLeDiff, Nat.reduceLT, and_self, true_and, Nat.sub_zero, Nat.reduceSub, List.getElem?_cons_zero, List.getElem?_cons_succ, Nat.zero_add, g1, g2, hc]
     refine ifQ.intro (fun hc2 => ?_) (fun hc2 => ?_)
     ·simp only [↓go1, go2, go3, go4, reduceIte, Nat.reduceEqDiff, Nat.reduceAdd, hc2]
      simp [overB, hc2]
     ·simp only [↓go1, go2, go3, go4, reduceIte, Nat.reduceEqDiff, Nat.reduceAdd, hc2]
      refine loop7a (l := t.calls) (i := [0]) (nl := nc) (t := x) (y := .slice nb y (t.behind.map .str)) (by omega) (fun st h1 h2 => ?_) (fun st h1 h2 h3 => ?_) t.calls.length 0 _ _ rfl (by omega) (by omega) rfl rfl ?_ ?_
      ·simp only [↓go1, go2, go3, go4, reduceIte, Nat.reduceEqDiff, Nat.reduceAdd, h2]
       simp [overB, h1]
      ·simp only [↓go1, go2, go3, go4, reduceIte, Nat.reduceEqDiff, Nat.reduceAdd, h2, h3]
       refine loop7b (l := t.behind) (i := [0]) (nl := nb) (t := y) (by omega) (fun st h4 h5 => ?_) (fun st h4 => ?_) t.behind.length 0 _ _ rfl (by omega) (by omega) rfl ?_ ?_
       ·simp only [↓go1, go2, go3, go4, reduceIte, Nat.reduceEqDiff, Nat.reduceAdd, h5]
        simp [overB, h4]
       ·simp only [↓go1, go2, go3, go4, reduceIte, Nat.reduceEqDiff, Nat.reduceAdd]
        simp only [overB, h1, h4, hc, hc2, decide_false, Bool.or_self, and_self]
       ·simp only [↓go1, go2, go3, go4, reduceIte, Nat.reduceEqDiff, Nat.reduceAdd, h2]
       ·exact h3
      ·simp [put_rd, D.cells]
      ·simp [put_rd, D.cells]
   ·cases h
  ·cases h
def manyB (l : List Bs) : Bool := decide (40 < l.length) || l.any fun s => decide (1000 < s.length)
def F8 : List D → Option D
 | [.slice _ _ xs] => match strsOf xs with
  | some l => some (.bool (manyB l))
  | none => none
 | _ => none
theorem loop8 {S : Summs} {ns : Id} {l : List Bs} {nl : Bool} {t : Id} {Q : Ex → St → Prop} (hb : l.length ≤ 40)
  (hret : ∀ st, (l.any fun s => decide (1000 < s.length)) = true → st.s 2 = .bool true → Q .ret st)
  (hexit : ∀ st, (l.any fun s => decide (1000 < s.length)) = false → Q (.exit 0) st) :
  ∀ (n k : Nat) st g, n = l.length - k → k ≤ l.length → (∀ j, j < k → ∀ x, l[j]? = some x → ¬ 1000 < x.length) → st.s 3 = .int .i64 (k : Int) → st.s 0 = .slice nl t (l.map .str) →
   loopW S ns dc8l0 Q st g := by
 intro n
 induction n with
 | zero =>
  intro k st g hn hk hall h3 h0
  refine wp_loopd dc8l0.eq_1 ?_
  have : ¬ ((k : Int) < l.length) := by omega
  simp only [↓go1, go2, go3, go4, reduceIte, Nat.reduceEqDiff, Nat.reduceAdd, h3, h0, List.length_map, this]
  refine hexit _ ?_
  rw [List.any_eq_false]
  intro x hx
  obtain ⟨j, hj, e⟩ := List.getElem_of_mem hx
  simpa using hall j (by omega) x (by rw [List.getElem?_eq_getElem hj, e])
 | succ n ih =>
  intro k st g hn hk hall h3 h0
  refine wp_loopd dc8l0.eq_1 ?_
  have hlt : ((k : Int) < l.length) := by omega
  have hk0 : (0 : Int) ≤ (k : Int) := by omega
  have hkl : k < l.length := by omega
  have hx : (l.map D.str)[(k : Int).toNat]? = some (.str l[k]) := by simp [hkl]
  have hg1 : ((1000 : Int) < (l[k].length : Int)) = (1000 < l[k].length) := by simp only [eq_iff_iff]; omega
  have hw : IntKind.i64.wrap ((k : Int) + 1) = (k : Int) + 1 := IntWalk.i64_in _ ⟨by omega, by omega⟩
  simp only [↓go1, go2, go3, go4, reduceIte, Nat.reduceEqDiff, Nat.reduceAdd, Nat.zero_le, List.drop_zero, List.drop_succ_cons, Nat.reduceLeDiff, h3, h0, List.length_map, hlt, hk0, hx, hg1, hw]
  refine ifQ.intro (fun hc => ?_) (fun hc => ?_)
  ·simp only [↓go1, go2, go3, go4, reduceIte, Nat.reduceEqDiff, Nat.reduceAdd, Nat.zero_le, List.drop_zero, List.drop_succ_cons, Nat.reduceLeDiff, h3, h0, List.length_map, hlt, hk0, hx, hg1, hw, hc]
   exact hret _ (List.any_eq_true.2 ⟨l[k], List.getElem_mem hkl, by simpa using hc⟩) rfl
  ·simp only [↓go1, go2, go3, go4, reduceIte, Nat.reduceEqDiff, Nat.reduceAdd, Nat.zero_le, List.drop_zero, List.drop_succ_cons, Nat.reduceLeDiff, h3, h0, List.length_map, hlt, hk0, hx, hg1, hw, hc]
   refine ih (k + 1) _ _ (by omega) (by omega) (fun j hj x hx' => ?_) rfl h0
   rcases Nat.lt_or_eq_of_le (Nat.le_of_lt_succ hj) with hj | rfl
   ·exact hall j hj x hx'
   ·rw [List.getElem?_eq_getElem hkl] at hx'
    simp only [Option.some.injEq] at hx'; subst hx'
    exact hc
theorem ok8 {P : Program} (hd : Desk P) : (funS F8).ok P 8 := by
 refine fun_ok (S := fun _ => none) none_ok hd.f8 (fun ds r h => ?_) (fun ds r h => ?_)
 ·unfold F8 at h; split at h
  ·simp
  ·cases h
 ·unfold F8 at h; split at h
  ·rename_i nl t xs
   split at h
   ·rename_i l hl
    obtain rfl := strsOf_some hl
    simp only [Option.some.injEq] at h
    subst h
    unfold dc8
    have g1 : ((40 : Int) < (l.length : Int)) = (40 < l.length) := by simp only [eq_iff_iff]; omega
    simp only [↓go1, go2, go3, go4, reduceIte, Nat.reduceEqDiff, Nat.reduceAdd, List.length_map, g1]
    refine ifQ.intro (fun hc => ?_) (fun hc => ?_)
    ·simp only [↓go1, go2, go3, go4, reduceIte, Nat.reduceEqDiff, Nat.reduceAdd, hc]
     simp [manyB, hc]
    ·simp only [↓go1, go2, go3, go4, reduceIte, Nat.reduceEqDiff, Nat.reduceAdd, hc]
     refine loop8 (l := l) (nl := nl) (t := t) (by omega) (fun st h1 h2 => ?_) (fun st h1 => ?_) l.length 0 _ _ rfl (by omega) (by omega) rfl rfl
     ·simp only [↓go1, go2, go3, go4, reduceIte, Nat.reduceEqDiff, Nat.reduceAdd, h2]
      simp [manyB, h1]
     ·simp only [↓go1, go2, go3, go4, reduceIte, Nat.reduceEqDiff, Nat.reduceAdd]
      simp only [manyB, h1, hc, decide_false, Bool.or_self, and_self]
   ·cases h
  ·cases h
end Go.Vd

namespace Go.Vd
open Go.RowKit
set_option linter.unusedSimpArgs false
set_option linter.unusedVariables false
def tabL : List (FuncId × Summ) → Summs
 | [], _ => none
 | (k, q) :: r, f => if f = k then some q else tabL r f
theorem tabL_nil {P : Program} : Summs.ok P (tabL []) := fun f q h => by cases h
theorem tabL_cons {P : Program} {k : FuncId} {q : Summ} {r : List (FuncId × Summ)} (h : q.ok P k) (hr : Summs.ok P (tabL r)) : Summs.ok P (tabL ((k, q) :: r)) := fun f q' e => by
 simp only [tabL] at e
 split at e
 ·rename_i hf; subst hf; simp only [Option.some.injEq] at e; subst e; exact h
 ·exact hr f q' e
def F78 : List D → Option D
 | [.str s] => some (.bool (!okT s))
 | _ => none
theorem ok78 {P : Program} (hd : Desk P) : (funS F78).ok P 78 := by
 refine fun_ok (S := fun _ => none) none_ok hd.f78 (fun ds r h => ?_) (fun ds r h => ?_)
 ·unfold F78 at h; split at h
  ·simp
  ·cases h
 ·unfold F78 at h; split at h
  ·rename_i s
   simp only [Option.some.injEq] at h
   subst h
   unfold dc78
   have g1 : ((500 : Int) < (s.length : Int)) = (500 < s.length) := by simp only [eq_iff_iff]; omega
   simp only [↓go1, go2, go3, go4, reduceIte, Nat.reduceEqDiff, Nat.reduceAdd, g1]
   simp only [okT, D.bool.injEq, and_true]
   by_cases h : 500 < s.length
   ·simp [h]
   ·simp [h]; omega
  ·cases h
def firstLong (l : List Bs) : Int := match l.findIdx? (fun s => !okT s) with
 | some k => k
 | none => -1
def F97 : List D → Option D
 | [.slice _ _ xs, .fn 78 []] => match strsOf xs with
  | some l => if l.length ≤ 1000000000 then some (.int .i64 (firstLong l)) else none
  | none => none
 | _ => none
theorem loop97 {S : Summs} {ns : Id} {l : List Bs} {nl : Bool} {t : Id} {Q : Ex → St → Prop} (hS : S 78 = some (funS F78)) (hb : l.length ≤ 1000000000)
  (hret : ∀ (k : Nat) st, l.findIdx? (fun n => !okT n) = some k → st.s 4 = .int .i64 k → Q .ret st)
  (hexit : ∀ st, l.findIdx? (fun n => !okT n) = none → Q (.exit 0) st) :
  ∀ (n k : Nat) st g, n = l.length - k → k ≤ l.length → (∀ j, j < k → ∀ x, l[j]? = some x → okT x = true) → st.s 8 = .int .i64 (k : Int) → st.s 7 = .int .i64 (l.length : Int) → st.s 0 = .slice nl t (l.map .str) → st.s 1 = .fn 78 [] →
   loopW S ns dc97l0 Q st g := by
 intro n
 induction n with
 | zero =>
  intro k st g hn hk hall h8 h7 h0 h1
  refine wp_loopd dc97l0.eq_1 ?_
  have : ¬ ((k : Int) < l.length) := by omega
  simp only [↓go1, go2, go3, go4, reduceIte, Nat.reduceEqDiff, Nat.reduceAdd, h8, h7, h0, h1, this]
  refine hexit _ (List.findIdx?_eq_none_iff.2 fun x hx => ?_)
  obtain ⟨j, hj, e⟩ := List.getElem_of_mem hx
  simp [hall j (by omega) x (by rw [List.getElem?_eq_getElem hj, e])]
 | succ n ih =>
  intro k st g hn hk hall h8 h7 h0 h1
  refine wp_loopd dc97l0.eq_1 ?_
  have hlt : ((k : Int) < l.length) := by omega
  have hk0 : (0 : Int) ≤ (k : Int) := by omega
  have hkl : k < l.length := by omega
  have hx : (l.map D.str)[(k : Int).toNat]? = some (.str (l[k])) := by simp [hkl]
  have hw : IntKind.i64.wrap ((k : Int) + 1) = (k : Int) + 1 := IntWalk.i64_in _ ⟨by omega, by omega⟩
  cases hok : okT l[k] with
  | false =>
   simp only [↓go1, go2, go3, go4, reduceIte, Nat.reduceEqDiff, Nat.reduceAdd, h8, h7, h0, h1, hlt, hk0, hx, callK_fun hS, F78, hok, Bool.not_false]
   refine hret k _ ?_ rfl
   rw [List.findIdx?_eq_some_iff_getElem]
   refine ⟨hkl, by simp [hok], fun j hj => ?_⟩
   simp [hall j hj _ (List.getElem?_eq_getElem (by omega))]
  | true =>
   simp only [↓go1, go2, go3, go4, reduceIte, Nat.reduceEqDiff, Nat.reduceAdd, h8, h7, h0, h1, hlt, hk0, hx, callK_fun hS, F78, hok, Bool.not_true, hw]
   refine ih (k + 1) _ _ (by omega) (by omega) (fun j hj x hx' => ?_) rfl h7 h0 h1
   rcases Nat.lt_or_eq_of_le (Nat.le_of_lt_succ hj) with hj | rfl
   ·exact hall j hj x hx'
   ·rw [List.getElem?_eq_getElem hkl] at hx'
    simp only [Option.some.injEq] at hx'; subst hx'
    exact hok
theorem ok97 {P : Program} (hd : Desk P) : (funS F97).ok P 97 := by
 have hS : Summs.ok P (tabL [(78, funS F78)]) := tabL_cons (ok78 hd) tabL_nil
 have s78 : tabL [(78, funS F78)] 78 = some (funS F78) := rfl
 generalize tabL [(78, funS F78)] = S at hS s78
 refine fun_ok (S := S) hS hd.f97 (fun ds r h => ?_) (fun ds r h => ?_)
 ·unfold F97 at h; split at h
  ·simp
  ·cases h
 ·unfold F97 at h; split at h
  ·rename_i nl t xs
   split at h
   ·rename_i l hl
    obtain rfl := strsOf_some hl
    split at h
    ·rename_i hb
     simp only [Option.some.injEq] at h
     subst h
     unfold dc97
     simp only [↓go1, go2, go3, go4, reduceIte, Nat.reduceEqDiff, Nat.reduceAdd, List.length_map]
     refine loop97 s78 hb (fun k st h1 h2 => ?_) (fun st h1 => ?_) l.length 0 _ _ rfl (by omega) (by omega) rfl rfl rfl rfl
     ·simp only [↓go1, go2, go3, go4, reduceIte, Nat.reduceEqDiff, Nat.reduceAdd, h2, firstLong, h1]
     ·simp only [↓go1, go2, go3, go4, reduceIte, Nat.reduceEqDiff, Nat.reduceAdd, firstLong, h1]
    ·cases h
   ·cases h
  ·cases h
def F77 : List D → Option D
 | [.slice _ _ xs, .fn 78 []] => match strsOf xs with
  | some l => if l.length ≤ 1000000000 then some (.bool (l.any fun n => !okT n)) else none
  | none => none
 | _ => none
theorem firstLong_any (l : List Bs) : decide (0 ≤ firstLong l) = l.any fun n => !okT n := by
 unfold firstLong
 cases h : l.findIdx? (fun n => !okT n) with
 | none =>
  have := List.findIdx?_eq_none_iff.1 h
  have h2 : (l.any fun n => !okT n) = false := by rw [List.any_eq_false]; intro x hx; simpa using this x hx
  rw [h2]; simp
 | some k =>
  rw [List.findIdx?_eq_some_iff_getElem] at h
  obtain ⟨hk, h1, _⟩ := h
  have : (l.any fun n => !okT n) = true := List.any_eq_true.2 ⟨l[k], List.getElem_mem hk, h1⟩
  rw [this]; simp
theorem ok77 {P : Program} (hd : Desk P) : (funS F77).ok P 77 := by
 have hS : Summs.ok P (tabL [(97, funS F97)]) := tabL_cons (ok97 hd) tabL_nil
 have s97 : tabL [(97, funS F97)] 97 = some (funS F97) := rfl
 generalize tabL [(97, funS F97)] = S at hS s97
 refine fun_ok (S := S) hS hd.f77 (fun ds r h => ?_) (fun ds r h => ?_)
 ·unfold F77 at h; split at h
  ·simp
  ·cases h
 ·unfold F77 at h; split at h
  ·rename_i nl t xs
   split at h
   ·rename_i l hl
    split at h
    ·rename_i hb
     simp only [Option.some.injEq] at h
     subst h
     unfold dc77
     simp only [↓go1, go2, go3, go4, reduceIte, Nat.reduceEqDiff, Nat.reduceAdd, callK_fun s97, F97, hl, hb, firstLong_any]
    ·cases h
   ·cases h
  ·cases h
def F40 : List D → Option D
 | [.slice _ _ xs] => match strsOf xs with
  | some l => if l.length ≤ 1000000000 then some (.bool (l.all okT)) else none
  | none => none
 | _ => none
theorem ok40 {P : Program} (hd : Desk P) : (funS F40).ok P 40 := by
 have hS : Summs.ok P (tabL [(77, funS F77)]) := tabL_cons (ok77 hd) tabL_nil
 have s77 : tabL [(77, funS F77)] 77 = some (funS F77) := rfl
 generalize tabL [(77, funS F77)] = S at hS s77
 refine fun_ok (S := S) hS hd.f40 (fun ds r h => ?_) (fun ds r h => ?_)
 ·unfold F40 at h; split at h
  ·simp
  ·cases h
 ·unfold F40 at h; split at h
  ·rename_i nl t xs
   split at h
   ·rename_i l hl
    split at h
    ·rename_i hb
     simp only [Option.some.injEq] at h
     subst h
     unfold dc40
     have e : (!l.any fun n => !okT n) = l.all okT := by simp [List.all_eq_not_any_not]
     simp only [↓go1, go2, go3, go4, reduceIte, Nat.reduceEqDiff, Nat.reduceAdd, callK_fun s77, F77, hl, hb, e]
    ·cases h
   ·cases h
  ·cases h
def okL (d : Dn) : Bool := okT d.line && okT d.reply
def F15 : List D → Option D
 | [d] => match tdOf d with
  | some (_, _, t) => some (.int .i64 (checkB t))
  | none => none
 | _ => none
theorem f39_four (d : Dn) {nl : Bool} {t : Id} : F39 [.slice nl t [.int .i64 d.cl, .int .i64 d.fr, .int .i64 d.at_, .int .i64 d.to]] = some (.bool (okN d)) := by
 simp [F39, intsOf, okN, Bool.and_assoc]
theorem f39_two (a b : Int) {nl : Bool} {t : Id} : F39 [.slice nl t [.int .i64 a, .int .i64 b]] = some (.bool (inR a && inR b)) := by
 simp [F39, intsOf]
theorem f40_two (d : Dn) {nl : Bool} {t : Id} : F40 [.slice nl t [.str d.line, .str d.reply]] = some (.bool (okL d)) := by
 simp [F40, strsOf, okL]
end Go.Vd

namespace Go.Vd
open Go.RowKit
set_option linter.unusedSimpArgs false
set_option linter.unusedVariables false
set_option maxRecDepth 10000
theorem loop15 {S : Summs} {l : List Dn} {nl : Bool} {t : Id} {Q : Ex → St → Prop} (s39 : S 39 = some (funS F39)) (s40 : S 40 = some (funS F40)) (hb : l.length ≤ 64) :
  ∀ (n k : Nat) (u v : Bool) st g, n = l.length - k → k ≤ l.length → st.s 29 = .int .i64 (k : Int) → st.s 28 = .int .i64 (l.length : Int) → st.s 27 = .slice nl t (l.map dnD) → st.s 3 = .bool u → st.s 4 = .bool v →
   (∀ st, st.s 3 = .bool (u && (l.drop k).all okN) → st.s 4 = .bool (v && (l.drop k).all okL) → Q (.exit 0) st) → loopW S [] dc15l0 Q st g := by
 intro n
 induction n with
 | zero =>
  intro k u v st g hn hk h29 h28 h27 h3 h4 hexit
  refine wp_loopd dc15l0.eq_1 ?_
  have : ¬ ((k : Int) < l.length) := by omega
  simp only [↓go1, go2, go3, go4, reduceIte, Nat.reduceEqDiff, Nat.reduceAdd, h29, h28, this]
  refine hexit _ ?_ ?_
  ·rw [List.drop_of_length_le (by omega)]
   simp only [↓go1, go2, go3, go4, reduceIte, Nat.reduceEqDiff, Nat.reduceAdd, h3, List.all_nil, Bool.and_true]
  ·rw [List.drop_of_length_le (by omega)]
   simp only [↓go1, go2, go3, go4, reduceIte, Nat.reduceEqDiff, Nat.reduceAdd, h4, List.all_nil, Bool.and_true]
 | succ n ih =>
  intro k u v st g hn hk h29 h28 h27 h3 h4 hexit
  refine wp_loopd dc15l0.eq_1 ?_
  have hlt : ((k : Int) < l.length) := by omega
  have hk0 : (0 : Int) ≤ (k : Int) := by omega
  have hkl : k < l.length := by omega
  have hx : (l.map dnD)[(k : Int).toNat]? = some (.agg [.int .i64 l[k].cl, .str l[k].line, .str l[k].reply, .int .i64 l[k].fr, .int .i64 l[k].at_, .int .i64 l[k].to, .bool l[k].is]) := by simp [hkl, dnD]
  have hw : IntKind.i64.wrap ((k : Int) + 1) = (k : Int) + 1 := IntWalk.i64_in _ ⟨by omega, by omega⟩
  have f39 := fun (nl : Bool) (t : Id) => f39_four l[k] (nl := nl) (t := t)
  have f40 := fun (nl : Bool) (t : Id) => f40_two l[k] (nl := nl) (t := t)
  have hdr : l.drop k = l[k] :: l.drop (k + 1) := List.drop_eq_getElem_cons hkl
  rw [hdr] at hexit
  simp only [List.all_cons] at hexit
  cases u <;> cases v
  all_goals simp only [↓go1, go2, go3, go4, reduceIte, Nat.reduceEqDiff, Nat.reduceAdd, Nat.zero_le, Nat.sub_zero, Nat.reduceSub, Nat.reduceLT, List.take_succ_cons, List.take_zero, List.length_cons, List.length_nil, List.getElem?_cons_zero, List.getElem?_cons_succ, put_rd, rd_zero, rd_succ, Option.bind_some, Option.map_some, Option.isSome_some, true_and, and_true, and_false, and_self, Nat.le_refl, Nat.reduceLeDiff, h29, h28, h27, h3, h4, hlt, hk0, hx, hw, callK_fun s39, callK_fun s40, f39, f40]
  all_goals refine ih (k + 1) _ _ _ _ (by omega) (by omega) rfl h28 h27 rfl rfl (fun st a b => hexit st ?_ ?_)
  all_goals first | simpa using a | simpa using b
theorem ok15 {P : Program} (hd : Desk P) (h39 : (funS F39).ok P 39) : (funS F15).ok P 15 := by
 have hS : Summs.ok P (tabL [(39, funS F39), (40, funS F40)]) := tabL_cons h39 (tabL_cons (ok40 hd) tabL_nil)
 have s39 : tabL [(39, funS F39), (40, funS F40)] 39 = some (funS F39) := rfl
 have s40 : tabL [(39, funS F39), (40, funS F40)] 40 = some (funS F40) := rfl
 generalize tabL [(39, funS F39), (40, funS F40)] = S at hS s39 s40
 refine fun_ok (S := S) hS hd.f15 (fun ds r h => ?_) (fun ds r h => ?_)
 ·unfold F15 at h; split at h
  ·simp
  ·cases h
 ·unfold F15 at h; split at h
  ·rename_i d
   split at h
   ·rename_i nc nb t ht
    obtain ⟨x, y, rfl⟩ := tdOf_some ht
    simp only [Option.some.injEq] at h
    subst h
    unfold dc15
    have g1 : ((64 : Int) < (t.calls.length : Int)) = (64 < t.calls.length) := by simp only [eq_iff_iff]; omega
    have g2 : ((64 : Int) < (t.behind.length : Int)) = (64 < t.behind.length) := by simp only [eq_iff_iff]; omega
    simp only [↓go1, go2, go3, go4, reduceIte, Nat.reduceEqDiff, Nat.reduceAdd, put_rd, List.length_map, List.length_cons, List.length_nil, Nat.zero_le, Nat.reduceLeDiff, Nat.reduceLT, and_self, true_and, Nat.sub_zero, Nat.reduceSub, List.getElem?_cons_zero, List.getElem?_cons_succ, Nat.zero_add, g1, g2]
    refine ifQ.intro (fun hc => ?_) (fun hc => ?_)
    ·simp only [↓go1, go2, go3, go4, reduceIte, Nat.reduceEqDiff, Nat.reduceAdd, hc]
     simp [checkB, hc]
    ·simp only [↓go1, go2, go3, go4, reduceIte, Nat.reduceEqDiff, Nat.reduceAdd, put_rd, List.length_map, List.length_cons, List.length_nil, Nat.zero_le, Nat.reduceLeDiff, Nat.reduceLT, and_self, true_and, Nat.sub_zero, Nat.reduceSub, List.getElem?_cons_zero, List.getElem?_cons_succ, Nat.zero_add, g1, g2, hc]
     refine ifQ.intro (fun hc2 => ?_) (fun hc2 => ?_)
     ·simp only [↓go1, go2, go3, go4, reduceIte, Nat.reduceEqDiff, Nat.reduceAdd, hc2]
      simp [checkB, hc2]
     ·have f39 := fun (nl : Bool) (t' : Id) => f39_two t.ticks t.left (nl := nl) (t := t')
      have f40 : ∀ (nl : Bool) (t' : Id), F40 [.slice nl t' (t.behind.map .str)] = some (.bool (t.behind.all okT)) := fun nl t' => by
       simp only [F40, strsOf_map]; exact if_pos (by omega)
      simp only [↓go1, go2, go3, go4, reduceIte, Nat.reduceEqDiff, Nat.reduceAdd, put_rd, List.length_map, List.length_cons, List.length_nil, Nat.zero_le, Nat.reduceLeDiff, Nat.reduceLT, and_self, true_and, and_true, and_false, false_and, List.cons.injEq, Nat.sub_zero, Nat.reduceSub, List.getElem?_cons_zero, List.getElem?_cons_succ, Nat.zero_add, g1, g2, hc, hc2, callK_fun s39, callK_fun s40, f39, f40]
      refine Need.intro (feetB_ok rfl) ?_
      simp only [↓go1, go2, go3, go4, reduceIte, Nat.reduceEqDiff, Nat.reduceAdd, put_rd, List.length_map, List.length_cons, List.length_nil, Nat.zero_le, Nat.reduceLeDiff, Nat.reduceLT, and_self, true_and, and_true, and_false, false_and, List.cons.injEq, Nat.sub_zero, Nat.reduceSub, List.getElem?_cons_zero, List.getElem?_cons_succ, Nat.zero_add, g1, g2, hc, hc2, callK_fun s39, callK_fun s40, f39, f40]
      refine loop15 (l := t.calls) (nl := nc) (t := x) s39 s40 (by omega) t.calls.length 0 (inR t.ticks && inR t.left) (t.behind.all okT) _ _ rfl (by omega) rfl rfl rfl rfl rfl (fun st a b => ?_)
      rw [List.drop_zero] at a b
      have hcs : checkB t = if (inR t.ticks && inR t.left && t.calls.all okN) = false then 8 else if (t.behind.all okT && t.calls.all okL) = false then 5 else 0 := by
       unfold checkB
       rw [if_neg (by omega)]
       rfl
      rw [hcs]
      cases hu : (inR t.ticks && inR t.left && t.calls.all okN) with
      | false =>
       rw [hu] at a
       simp only [↓go1, go2, go3, go4, reduceIte, Nat.reduceEqDiff, Nat.reduceAdd, a, b, Bool.not_false]
      | true =>
       rw [hu] at a
       cases hv : (t.behind.all okT && t.calls.all okL) with
       | false =>
        rw [hv] at b
        simp only [↓go1, go2, go3, go4, reduceIte, Nat.reduceEqDiff, Nat.reduceAdd, a, b, Bool.not_false, Bool.not_true]
       | true =>
        rw [hv] at b
        simp only [↓go1, go2, go3, go4, reduceIte, Nat.reduceEqDiff, Nat.reduceAdd, a, b, Bool.not_false, Bool.not_true]
   ·cases h
  ·cases h
end Go.Vd

namespace Go.Vd
open Go.RowKit
set_option linter.unusedSimpArgs false
set_option linter.unusedVariables false
set_option maxRecDepth 10000
def F16 : List D → Option D
 | [d] => match tdOf d with
  | some (_, _, t) => some (.int .i64 (checkB t))
  | none => none
 | _ => none
set_option maxHeartbeats 2000000 in
theorem loop16a {S : Summs} {l : List Dn} {nl : Bool} {t : Id} {y : D} {Q : Ex → St → Prop} (s41 : S 41 = some (funS F41)) (hb : l.length ≤ 64) :
  ∀ (n k : Nat) (u v : Bool) st g, n = l.length - k → k ≤ l.length → st.s 5 = .int .i64 (k : Int) → st.s 1 = .ptr [0] 0 → st.m [0] 0 = some (.slice nl t (l.map dnD)) → st.m [0] 4 = some y → st.s 3 = .bool u → st.s 4 = .bool v →
   (∀ st, st.s 1 = .ptr [0] 0 → st.m [0] 4 = some y → st.s 3 = .bool (u && (l.drop k).all okN) → st.s 4 = .bool (v || !(l.drop k).all okL) → Q (.exit 0) st) → loopW S [] dc16l0 Q st g := by
 intro n
 induction n with
 | zero =>
  intro k u v st g hn hk h5 h1 m0 m4 h3 h4 hexit
  refine wp_loopd dc16l0.eq_1 ?_
  have : ¬ ((k : Int) < l.length) := by omega
  simp only [↓go1, go2, go3, go4, reduceIte, Nat.reduceEqDiff, Nat.reduceAdd, h5, h1, m0, List.length_map, this]
  refine hexit _ ?_ m4 ?_ ?_
  ·simp only [↓go1, go2, go3, go4, reduceIte, Nat.reduceEqDiff, Nat.reduceAdd, h1]
  ·rw [List.drop_of_length_le (by omega)]
   simp only [↓go1, go2, go3, go4, reduceIte, Nat.reduceEqDiff, Nat.reduceAdd, h3, List.all_nil, Bool.and_true]
  ·rw [List.drop_of_length_le (by omega)]
   simp only [↓go1, go2, go3, go4, reduceIte, Nat.reduceEqDiff, Nat.reduceAdd, h4, List.all_nil, Bool.not_true, Bool.or_false]
 | succ n ih =>
  intro k u v st g hn hk h5 h1 m0 m4 h3 h4 hexit
  refine wp_loopd dc16l0.eq_1 ?_
  have hlt : ((k : Int) < l.length) := by omega
  have hk0 : (0 : Int) ≤ (k : Int) := by omega
  have hkl : k < l.length := by omega
  have hx : (l.map dnD)[(k : Int).toNat]? = some (.agg [.int .i64 l[k].cl, .str l[k].line, .str l[k].reply, .int .i64 l[k].fr, .int .i64 l[k].at_, .int .i64 l[k].to, .bool l[k].is]) := by simp [hkl, dnD]
  have hw : IntKind.i64.wrap ((k : Int) + 1) = (k : Int) + 1 := IntWalk.i64_in _ ⟨by omega, by omega⟩
  have hdr : l.drop k = l[k] :: l.drop (k + 1) := List.drop_eq_getElem_cons hkl
  rw [hdr] at hexit
  simp only [List.all_cons] at hexit
  obtain ⟨b1, e1⟩ : ∃ b, inR l[k].cl = b := ⟨_, rfl⟩
  obtain ⟨b2, e2⟩ : ∃ b, inR l[k].fr = b := ⟨_, rfl⟩
  obtain ⟨b3, e3⟩ : ∃ b, inR l[k].at_ = b := ⟨_, rfl⟩
  obtain ⟨b4, e4⟩ : ∃ b, inR l[k].to = b := ⟨_, rfl⟩
  obtain ⟨c1, g1⟩ : ∃ b : Bool, ((500 : Int) < (l[k].line.length : Int)) = (b = true) := ⟨decide ((500 : Int) < (l[k].line.length : Int)), by simp⟩
  obtain ⟨c2, g2⟩ : ∃ b : Bool, ((500 : Int) < (l[k].reply.length : Int)) = (b = true) := ⟨decide ((500 : Int) < (l[k].reply.length : Int)), by simp⟩
  have o1 : okT l[k].line = !c1 := by
   have : (500 < l[k].line.length) ↔ c1 = true := by rw [← eq_iff_iff, ← g1]; simp only [eq_iff_iff]; omega
   unfold okT
   cases c1
   ·simp at this; simp; omega
   ·simp at this; simp; omega
  have o2 : okT l[k].reply = !c2 := by
   have : (500 < l[k].reply.length) ↔ c2 = true := by rw [← eq_iff_iff, ← g2]; simp only [eq_iff_iff]; omega
   unfold okT
   cases c2
   ·simp at this; simp; omega
   ·simp at this; simp; omega
  have oN : okN l[k] = (b1 && b2 && b3 && b4) := by simp only [okN, e1, e2, e3, e4]
  have oL : okL l[k] = (!c1 && !c2) := by simp only [okL, o1, o2]
  rw [oN, oL] at hexit
  have hN : (u = false) ∨ (u = true ∧ b1 = false) ∨ (u = true ∧ b1 = true ∧ b2 = false) ∨ (u = true ∧ b1 = true ∧ b2 = true ∧ b3 = false) ∨ (u = true ∧ b1 = true ∧ b2 = true ∧ b3 = true) := by
   cases u <;> cases b1 <;> cases b2 <;> cases b3 <;> simp
  have hM : (v = true) ∨ (v = false ∧ c1 = true) ∨ (v = false ∧ c1 = false) := by cases v <;> cases c1 <;> simp
  clear oN oL o1 o2
  rcases hN with rfl | ⟨rfl, rfl⟩ | ⟨rfl, rfl, rfl⟩ | ⟨rfl, rfl, rfl, rfl⟩ | ⟨rfl, rfl, rfl, rfl⟩
  all_goals rcases hM with rfl | ⟨rfl, rfl⟩ | ⟨rfl, rfl⟩
  all_goals simp only [↓go1, go2, go3, go4, reduceIte, Nat.reduceEqDiff, Nat.reduceAdd, Nat.zero_le, Nat.sub_zero, Nat.reduceSub, Nat.reduceLT, List.take_succ_cons, List.take_zero, List.length_cons, List.length_nil, List.getElem?_cons_zero, List.getElem?_cons_succ, List.length_map, put_rd, rd_zero, rd_succ, Option.bind_some, Option.map_some, Option.isSome_some, true_and, and_true, and_false, and_self, Nat.le_refl, Nat.reduceLeDiff, h5, h1, m0, h3, h4, hlt, hk0, hx, hw, callK_fun s41, F41, e1, e2, e3, e4, g1, g2]
  all_goals refine ih (k + 1) _ _ _ _ (by omega) (by omega) rfl h1 (by simp [put_rd, m0]) (by simp [put_rd, m4]) rfl rfl (fun st p q a b => hexit st p q ?_ ?_)
  all_goals first | simpa using a | simpa using b
theorem loop16b {S : Summs} {l : List Bs} {nl : Bool} {t : Id} {Q : Ex → St → Prop} (hb : l.length ≤ 64) :
  ∀ (n k : Nat) (u v : Bool) st g, n = l.length - k → k ≤ l.length → st.s 7 = .int .i64 (k : Int) → st.s 1 = .ptr [0] 0 → st.m [0] 4 = some (.slice nl t (l.map .str)) → st.s 3 = .bool u → st.s 4 = .bool v →
   (∀ st, st.s 3 = .bool u → st.s 4 = .bool (v || !(l.drop k).all okT) → Q (.exit 2) st) → loopW S [] dc16l1 Q st g := by
 intro n
 induction n with
 | zero =>
  intro k u v st g hn hk h7 h1 m4 h3 h4 hexit
  refine wp_loopd dc16l1.eq_1 ?_
  have : ¬ ((k : Int) < l.length) := by omega
  simp only [↓go1, go2, go3, go4, reduceIte, Nat.reduceEqDiff, Nat.reduceAdd, h7, h1, m4, List.length_map, this]
  refine hexit _ ?_ ?_
  ·simp only [↓go1, go2, go3, go4, reduceIte, Nat.reduceEqDiff, Nat.reduceAdd, h3]
  ·rw [List.drop_of_length_le (by omega)]
   simp only [↓go1, go2, go3, go4, reduceIte, Nat.reduceEqDiff, Nat.reduceAdd, h4, List.all_nil, Bool.not_true, Bool.or_false]
 | succ n ih =>
  intro k u v st g hn hk h7 h1 m4 h3 h4 hexit
  refine wp_loopd dc16l1.eq_1 ?_
  have hlt : ((k : Int) < l.length) := by omega
  have hk0 : (0 : Int) ≤ (k : Int) := by omega
  have hkl : k < l.length := by omega
  have hx : (l.map D.str)[(k : Int).toNat]? = some (.str l[k]) := by simp [hkl]
  have hw : IntKind.i64.wrap ((k : Int) + 1) = (k : Int) + 1 := IntWalk.i64_in _ ⟨by omega, by omega⟩
  have hdr : l.drop k = l[k] :: l.drop (k + 1) := List.drop_eq_getElem_cons hkl
  rw [hdr] at hexit
  simp only [List.all_cons] at hexit
  obtain ⟨c1, g1⟩ : ∃ b : Bool, ((500 : Int) < (l[k].length : Int)) = (b = true) := ⟨decide ((500 : Int) < (l[k].length : Int)), by simp⟩
  have o1 : okT l[k] = !c1 := by
   have : (500 < l[k].length) ↔ c1 = true := by rw [← eq_iff_iff, ← g1]; simp only [eq_iff_iff]; omega
   unfold okT
   cases c1
   ·simp at this; simp; omega
   ·simp at this; simp; omega
  rw [o1] at hexit
  clear o1
  have hM : (v = true) ∨ (v = false ∧ c1 = true) ∨ (v = false ∧ c1 = false) := by cases v <;> cases c1 <;> simp
  rcases hM with rfl | ⟨rfl, rfl⟩ | ⟨rfl, rfl⟩
  all_goals simp only [↓go1, go2, go3, go4, reduceIte, Nat.reduceEqDiff, Nat.reduceAdd, Nat.zero_le, List.drop_zero, List.drop_succ_cons, Nat.reduceLeDiff, List.length_map, h7, h1, m4, h3, h4, hlt, hk0, hx, hw, g1]
  all_goals refine ih (k + 1) _ _ _ _ (by omega) (by omega) rfl h1 m4 h3 rfl (fun st a b => hexit st a ?_)
  all_goals first | exact b | simpa using b
set_option maxHeartbeats 1000000 in
theorem ok16 {P : Program} (hd : Desk P) (h41 : (funS F41).ok P 41) : (funS F16).ok P 16 := by
 have hS : Summs.ok P (tabL [(41, funS F41)]) := tabL_cons h41 tabL_nil
 have s41 : tabL [(41, funS F41)] 41 = some (funS F41) := rfl
 generalize tabL [(41, funS F41)] = S at hS s41
 refine fun_ok (S := S) hS hd.f16 (fun ds r h => ?_) (fun ds r h => ?_)
 ·unfold F16 at h; split at h
  ·simp
  ·cases h
 ·unfold F16 at h; split at h
  ·rename_i d
   split at h
   ·rename_i nc nb t ht
    obtain ⟨x, y, rfl⟩ := tdOf_some ht
    simp only [Option.some.injEq] at h
    subst h
    unfold dc16
    have g1 : ((64 : Int) < (t.calls.length : Int)) = (64 < t.calls.length) := by simp only [eq_iff_iff]; omega
    have g2 : ((64 : Int) < (t.behind.length : Int)) = (64 < t.behind.length) := by simp only [eq_iff_iff]; omega
    simp only [↓go1, go2, go3, go4, reduceIte, Nat.reduceEqDiff, Nat.reduceAdd, put_rd, List.length_map, List.length_cons, List.length_nil, Nat.zero_le, Nat.reduceLeDiff, Nat.reduceLT, and_self, true_and, Nat.sub_zero, Nat.reduceSub, List.getElem?_cons_zero, List.getElem?_cons_succ, Nat.zero_add, g1, g2]
    refine ifQ.intro (fun hc => ?_) (fun hc => ?_)
    ·simp only [↓go1, go2, go3, go4, reduceIte, Nat.reduceEqDiff, Nat.reduceAdd, hc]
     simp [checkB, hc]
    ·simp only [↓go1, go2, go3, go4, reduceIte, Nat.reduceEqDiff, Nat.reduceAdd, put_rd, List.length_map, List.length_cons, List.length_nil, Nat.zero_le, Nat.reduceLeDiff, Nat.reduceLT, and_self, true_and, Nat.sub_zero, Nat.reduceSub, List.getElem?_cons_zero, List.getElem?_cons_succ, Nat.zero_add, g1, g2, hc]
     refine ifQ.intro (fun hc2 => ?_) (fun hc2 => ?_)
     ·simp only [↓go1, go2, go3, go4, reduceIte, Nat.reduceEqDiff, Nat.reduceAdd, hc2]
      simp [checkB, hc2]
     ·have hcs : checkB t = if (inR t.ticks && inR t.left && t.calls.all okN) = false then 8 else if (t.behind.all okT && t.calls.all okL) = false then 5 else 0 := by
       unfold checkB
       rw [if_neg (by omega)]
       rfl
      rw [hcs]
      cases ha : inR t.ticks <;> cases hb : inR t.left
      all_goals simp only [↓go1, go2, go3, go4, reduceIte, Nat.reduceEqDiff, Nat.reduceAdd, put_rd, List.length_map, List.length_cons, List.length_nil, Nat.zero_le, Nat.reduceLeDiff, Nat.reduceLT, and_self, true_and, Nat.sub_zero, Nat.reduceSub, List.getElem?_cons_zero, List.getElem?_cons_succ, Nat.zero_add, g1, g2, hc, hc2, callK_fun s41, F41, ha, hb]
      all_goals refine loop16a (l := t.calls) (nl := nc) (t := x) (y := .slice nb y (t.behind.map .str)) s41 (by omega) t.calls.length 0 _ _ _ _ rfl (by omega) rfl rfl (by simp [put_rd, D.cells]) (by simp [put_rd, D.cells]) rfl rfl (fun st p q a b => ?_)
      all_goals simp only [↓go1, go2, go3, go4, reduceIte, Nat.reduceEqDiff, Nat.reduceAdd, p, q, a, b]
      all_goals refine loop16b (l := t.behind) (nl := nb) (t := y) (by omega) t.behind.length 0 _ _ _ _ rfl (by omega) rfl p q a b (fun st2 a2 b2 => ?_)
      all_goals simp only [List.drop_zero, Bool.false_or, Bool.true_and, Bool.false_and] at a2 b2
      all_goals cases hA : t.calls.all okN <;> cases hB : t.calls.all okL <;> cases hC : t.behind.all okT
      all_goals simp only [hA, hB, hC, Bool.not_true, Bool.not_false, Bool.or_false, Bool.or_true, Bool.false_or, Bool.true_or] at a2 b2
      all_goals simp only [↓go1, go2, go3, go4, reduceIte, Nat.reduceEqDiff, Nat.reduceAdd, a2, b2, hA, hB, hC, Bool.true_and, Bool.false_and, Bool.and_false, Bool.and_true, Bool.and_self, Bool.not_true, Bool.not_false]
      all_goals exact ⟨rfl, rfl⟩
   ·cases h
  ·cases h
end Go.Vd

namespace Go.Vd
open Go.RowKit
set_option linter.unusedSimpArgs false
set_option linter.unusedVariables false
set_option maxRecDepth 10000
def Gw (m : Mem) (c e : Nat) (nl : Bool) (t : Id) : Prop := nl = true ∨ ∃ j, t = [j] ∧ j < c ∧ m t 0 = some (.tok (e + 1))
theorem Gw.grow {m : Mem} {c e c' x : Nat} {nl : Bool} {t : Id} {xs : List D} (h : Gw m c e nl t) (hc : c ≤ c') : Grow (m.put [c'] 0 [.tok x]) e (.slice nl t xs) := by
 rcases h with h | ⟨j, rfl, h1, h2⟩
 ·exact .inl h
 ·refine .inr ⟨?_, by simp⟩
  rw [Mem.put_other (by simp; omega)]; exact h2
theorem Gw.new {m : Mem} {c e c' : Nat} {nl : Bool} {t : Id} {xs : List D} (hc : c' < c) : Gw (Upd.app m (growU e [c'] (.slice nl t xs))) c e false [c'] := by
 refine .inr ⟨c', rfl, hc, ?_⟩
 cases nl <;> simp [growU, Upd.app, put_tok]
theorem Gw.more {m : Mem} {c c' e : Nat} {nl : Bool} {t : Id} (h : Gw m c e nl t) (hc : c ≤ c') : Gw m c' e nl t := by
 rcases h with h | ⟨j, h1, h2, h3⟩
 ·exact .inl h
 ·exact .inr ⟨j, h1, by omega, h3⟩
def Fdns : List D → Option D
 | [.slice _ _ xs] => match dnsOf xs with
  | some l => if l.length ≤ 1000 then some (.slice l.isEmpty [] (l.map dnD)) else none
  | none => none
 | _ => none
theorem isEmpty_take {α : Type} {l : List α} {k : Nat} (h : k < l.length) : (l.take (k + 1)).isEmpty = false := by
 cases l with
 | nil => simp at h
 | cons x r => rfl
theorem dnD_eq (d : Dn) : dnD d = .agg [.int .i64 d.cl, .str d.line, .str d.reply, .int .i64 d.fr, .int .i64 d.at_, .int .i64 d.to, .bool d.is] := rfl
theorem loop32 {S : Summs} {l : List Dn} {nl0 : Bool} {t0 : Id} {Q : Ex → St → Prop} (hb : l.length ≤ 1000)
  (hexit : ∀ st t, st.s 3 = .slice l.isEmpty t (l.map dnD) → Q (.exit 0) st) :
  ∀ (n k : Nat) (t : Id) st g, n = l.length - k → k ≤ l.length → st.s 4 = .int .i64 (k : Int) → st.s 0 = .slice nl0 t0 (l.map dnD) → st.s 3 = .slice (l.take k).isEmpty t ((l.take k).map dnD) → Gw st.m st.c 65 (l.take k).isEmpty t →
   loopW S [] dc32l0 Q st g := by
 intro n
 induction n with
 | zero =>
  intro k t st g hn hk h4 h0 h3 hg
  refine wp_loopd dc32l0.eq_1 ?_
  have : ¬ ((k : Int) < l.length) := by omega
  simp only [↓go1, go2, go3, go4, reduceIte, Nat.reduceEqDiff, Nat.reduceAdd, h4, h0, List.length_map, this]
  refine hexit _ t ?_
  rw [List.take_of_length_le (by omega)] at h3
  simp only [↓go1, go2, go3, go4, reduceIte, Nat.reduceEqDiff, Nat.reduceAdd, h3]
 | succ n ih =>
  intro k t st g hn hk h4 h0 h3 hg
  refine wp_loopd dc32l0.eq_1 ?_
  have hlt : ((k : Int) < l.length) := by omega
  have hk0 : (0 : Int) ≤ (k : Int) := by omega
  have hkl : k < l.length := by omega
  have hx : (l.map dnD)[(k : Int).toNat]? = some (.agg [.int .i64 l[k].cl, .str l[k].line, .str l[k].reply, .int .i64 l[k].fr, .int .i64 l[k].at_, .int .i64 l[k].to, .bool l[k].is]) := by simp [hkl, dnD]
  have hw : IntKind.i64.wrap ((k : Int) + 1) = (k : Int) + 1 := IntWalk.i64_in _ ⟨by omega, by omega⟩
  have htk : l.take (k + 1) = l.take k ++ [l[k]] := by rw [List.take_add_one, List.getElem?_eq_getElem hkl]; rfl
  have hlen : (l.take k).length = k := by simp; omega
  have hnil : (l.take k).isEmpty = true → (l.take k).map dnD = [] := fun h => by rw [List.isEmpty_iff] at h; rw [h]; rfl
  simp only [↓go1, go2, go3, go4, reduceIte, Nat.reduceEqDiff, Nat.reduceAdd, Nat.zero_le, Nat.sub_zero, Nat.reduceSub, Nat.reduceLT, List.take_succ_cons, List.take_zero, List.length_cons, List.length_nil, List.length_map, Nat.le_refl, Nat.reduceLeDiff, h4, h0, h3, hlt, hk0, hx, hw, and_false, reduceCtorEq]
  refine Need.intro ⟨by simp [hlen]; omega, rfl, hg.grow (by omega)⟩ ?_
  rw [app_fold hnil]
  simp only [↓go1, go2, go3, go4, reduceIte, Nat.reduceEqDiff, Nat.reduceAdd, h4, hw]
  refine ih (k + 1) [st.c + 4 + 6] _ _ (by omega) (by omega) rfl h0 ?_ ?_
  ·rw [isEmpty_take hkl, htk, List.map_append]; rfl
  ·rw [isEmpty_take hkl]
   exact Gw.new (by simp only; omega)
theorem ok32 {P : Program} (hd : Desk P) : (funS Fdns).ok P 32 := by
 refine fun_ok (S := fun _ => none) none_ok hd.f32 (fun ds r h => ?_) (fun ds r h => ?_)
 ·unfold Fdns at h; split at h
  ·simp
  ·cases h
 ·unfold Fdns at h; split at h
  ·rename_i nl t xs
   split at h
   ·rename_i l hl
    obtain rfl := dnsOf_some hl
    split at h
    ·rename_i hb
     simp only [Option.some.injEq] at h
     subst h
     unfold dc32
     simp only [↓go1, go2, go3, go4, reduceIte, Nat.reduceEqDiff, Nat.reduceAdd]
     refine loop32 (l := l) (nl0 := nl) (t0 := t) hb (fun st t' h1 => ?_) l.length 0 [] _ _ rfl (by omega) rfl rfl rfl (.inl rfl)
     simp only [↓go1, go2, go3, go4, reduceIte, Nat.reduceEqDiff, Nat.reduceAdd, h1]
    ·cases h
   ·cases h
  ·cases h
theorem loop42 {S : Summs} {l : List Dn} {nl0 : Bool} {t0 : Id} {Q : Ex → St → Prop} (hb : l.length ≤ 1000)
  (hexit : ∀ st t, st.s 3 = .slice l.isEmpty t (l.map dnD) → Q (.exit 0) st) :
  ∀ (n k : Nat) (t : Id) st g, n = l.length - k → k ≤ l.length → st.s 4 = .int .i64 (k : Int) → st.s 0 = .slice nl0 t0 (l.map dnD) → st.s 3 = .slice (l.take k).isEmpty t ((l.take k).map dnD) → Gw st.m st.c 62 (l.take k).isEmpty t →
   loopW S [] dc42l0 Q st g := by
 intro n
 induction n with
 | zero =>
  intro k t st g hn hk h4 h0 h3 hg
  refine wp_loopd dc42l0.eq_1 ?_
  have : ¬ ((k : Int) < l.length) := by omega
  simp only [↓go1, go2, go3, go4, reduceIte, Nat.reduceEqDiff, Nat.reduceAdd, h4, h0, List.length_map, this]
  refine hexit _ t ?_
  rw [List.take_of_length_le (by omega)] at h3
  simp only [↓go1, go2, go3, go4, reduceIte, Nat.reduceEqDiff, Nat.reduceAdd, h3]
 | succ n ih =>
  intro k t st g hn hk h4 h0 h3 hg
  refine wp_loopd dc42l0.eq_1 ?_
  have hlt : ((k : Int) < l.length) := by omega
  have hk0 : (0 : Int) ≤ (k : Int) := by omega
  have hkl : k < l.length := by omega
  have hx : (l.map dnD)[(k : Int).toNat]? = some (.agg [.int .i64 l[k].cl, .str l[k].line, .str l[k].reply, .int .i64 l[k].fr, .int .i64 l[k].at_, .int .i64 l[k].to, .bool l[k].is]) := by simp [hkl, dnD]
  have hw : IntKind.i64.wrap ((k : Int) + 1) = (k : Int) + 1 := IntWalk.i64_in _ ⟨by omega, by omega⟩
  have htk : l.take (k + 1) = l.take k ++ [l[k]] := by rw [List.take_add_one, List.getElem?_eq_getElem hkl]; rfl
  have hlen : (l.take k).length = k := by simp; omega
  have hnil : (l.take k).isEmpty = true → (l.take k).map dnD = [] := fun h => by rw [List.isEmpty_iff] at h; rw [h]; rfl
  simp only [↓go1, go2, go3, go4, reduceIte, Nat.reduceEqDiff, Nat.reduceAdd, Nat.zero_le, Nat.sub_zero, Nat.reduceSub, Nat.reduceLT, List.take_succ_cons, List.take_zero, List.length_cons, List.length_nil, List.length_map, Nat.le_refl, Nat.reduceLeDiff, h4, h0, h3, hlt, hk0, hx, hw, and_false, reduceCtorEq]
  refine Need.intro ⟨by simp [hlen]; omega, rfl, hg.grow (by omega)⟩ ?_
  rw [app_fold hnil]
  simp only [↓go1, go2, go3, go4, reduceIte, Nat.reduceEqDiff, Nat.reduceAdd, h4, hw]
  refine ih (k + 1) [st.c + 4 + 6] _ _ (by omega) (by omega) rfl h0 ?_ ?_
  ·rw [isEmpty_take hkl, htk, List.map_append]; rfl
  ·rw [isEmpty_take hkl]
   exact Gw.new (by simp only; omega)
theorem ok42 {P : Program} (hd : Desk P) : (funS Fdns).ok P 42 := by
 refine fun_ok (S := fun _ => none) none_ok hd.f42 (fun ds r h => ?_) (fun ds r h => ?_)
 ·unfold Fdns at h; split at h
  ·simp
  ·cases h
 ·unfold Fdns at h; split at h
  ·rename_i nl t xs
   split at h
   ·rename_i l hl
    obtain rfl := dnsOf_some hl
    split at h
    ·rename_i hb
     simp only [Option.some.injEq] at h
     subst h
     unfold dc42
     simp only [↓go1, go2, go3, go4, reduceIte, Nat.reduceEqDiff, Nat.reduceAdd]
     refine loop42 (l := l) (nl0 := nl) (t0 := t) hb (fun st t' h1 => ?_) l.length 0 [] _ _ rfl (by omega) rfl rfl rfl (.inl rfl)
     simp only [↓go1, go2, go3, go4, reduceIte, Nat.reduceEqDiff, Nat.reduceAdd, h1]
    ·cases h
   ·cases h
  ·cases h
def F11 : List D → Option D
 | [d] => match tdOf d with
  | some (_, nb, t) => if t.calls.length ≤ 1000 then some (tdD t.calls.isEmpty nb t) else none
  | none => none
 | _ => none
theorem fdns_map (l : List Dn) (nl : Bool) (t : Id) (h : l.length ≤ 1000) : Fdns [.slice nl t (l.map dnD)] = some (.slice l.isEmpty [] (l.map dnD)) := by
 simp only [Fdns, dnsOf_map]; exact if_pos h
theorem ok11 {P : Program} (hd : Desk P) : (funS F11).ok P 11 := by
 have hS : Summs.ok P (tabL [(32, funS Fdns)]) := tabL_cons (ok32 hd) tabL_nil
 have s32 : tabL [(32, funS Fdns)] 32 = some (funS Fdns) := rfl
 generalize tabL [(32, funS Fdns)] = S at hS s32
 refine fun_ok (S := S) hS hd.f11 (fun ds r h => ?_) (fun ds r h => ?_)
 ·unfold F11 at h; split at h
  ·simp
  ·cases h
 ·unfold F11 at h; split at h
  ·rename_i d
   split at h
   ·rename_i nc nb t ht
    obtain ⟨x, y, rfl⟩ := tdOf_some ht
    split at h
    ·rename_i hb
     simp only [Option.some.injEq] at h
     subst h
     have f32 : ∀ (nl : Bool) (t' : Id), Fdns [.slice nl t' (t.calls.map dnD)] = some (.slice t.calls.isEmpty [] (t.calls.map dnD)) := fun nl t' => fdns_map _ _ _ hb
     have hfill2 : ∀ (n1 n2 : Bool) (t1 t2 : Id) (xs ys : List D) (b c : Int) (d : Bool), fillD [.slice true [] [], .int .i64 0, .int .i64 0, .bool false, .slice true [] []] [(0, 1, .slice n1 t1 xs), (1, 1, .int .i64 b), (2, 1, .int .i64 c), (3, 1, .bool d), (4, 1, .slice n2 t2 ys)] = some [.slice n1 t1 xs, .int .i64 b, .int .i64 c, .bool d, .slice n2 t2 ys] := by
      intro n1 n2 t1 t2 xs ys b c d
      simp [fillD, putAt, D.data, D.cells]
     unfold dc11
     simp only [↓go1, go2, go3, go4, reduceIte, Nat.reduceEqDiff, Nat.reduceAdd, put_rd, List.length_map, List.length_cons, List.length_nil, Nat.zero_le, Nat.reduceLeDiff, Nat.reduceLT, and_self, true_and, and_true, and_false, false_and, List.cons.injEq, Nat.sub_zero, Nat.reduceSub, List.getElem?_cons_zero, List.getElem?_cons_succ, Nat.zero_add, callK_fun s32, f32, hfill2, rd_zero, rd_succ, Option.bind_some, Option.map_some, Option.isSome_some]
     refine Need.intro (feetB_ok rfl) ?_
     simp only [↓go1, go2, go3, go4, reduceIte, Nat.reduceEqDiff, Nat.reduceAdd, put_rd, List.length_map, List.length_cons, List.length_nil, Nat.zero_le, Nat.reduceLeDiff, Nat.reduceLT, and_self, true_and, and_true, and_false, false_and, List.cons.injEq, Nat.sub_zero, Nat.reduceSub, List.getElem?_cons_zero, List.getElem?_cons_succ, Nat.zero_add, callK_fun s32, f32, hfill2, rd_zero, rd_succ, Option.bind_some, Option.map_some, Option.isSome_some, res_cell, ldD_agg]
     exact ⟨rfl, rfl⟩
    ·cases h
   ·cases h
  ·cases h
theorem ok19 {P : Program} (hd : Desk P) : (funS F11).ok P 19 := by
 have hS : Summs.ok P (tabL [(42, funS Fdns)]) := tabL_cons (ok42 hd) tabL_nil
 have s42 : tabL [(42, funS Fdns)] 42 = some (funS Fdns) := rfl
 generalize tabL [(42, funS Fdns)] = S at hS s42
 refine fun_ok (S := S) hS hd.f19 (fun ds r h => ?_) (fun ds r h => ?_)
 ·unfold F11 at h; split at h
  ·simp
  ·cases h
 ·unfold F11 at h; split at h
  ·rename_i d
   split at h
   ·rename_i nc nb t ht
    obtain ⟨x, y, rfl⟩ := tdOf_some ht
    split at h
    ·rename_i hb
     simp only [Option.some.injEq] at h
     subst h
     have f42 : ∀ (nl : Bool) (t' : Id), Fdns [.slice nl t' (t.calls.map dnD)] = some (.slice t.calls.isEmpty [] (t.calls.map dnD)) := fun nl t' => fdns_map _ _ _ hb
     have hfill2 : ∀ (n1 n2 : Bool) (t1 t2 : Id) (xs ys : List D) (b c : Int) (d : Bool), fillD [.slice true [] [], .int .i64 0, .int .i64 0, .bool false, .slice true [] []] [(0, 1, .slice n1 t1 xs), (1, 1, .int .i64 b), (2, 1, .int .i64 c), (3, 1, .bool d), (4, 1, .slice n2 t2 ys)] = some [.slice n1 t1 xs, .int .i64 b, .int .i64 c, .bool d, .slice n2 t2 ys] := by
      intro n1 n2 t1 t2 xs ys b c d
      simp [fillD, putAt, D.data, D.cells]
     unfold dc19
     simp only [↓go1, go2, go3, go4, reduceIte, Nat.reduceEqDiff, Nat.reduceAdd, put_rd, List.length_map, List.length_cons, List.length_nil, Nat.zero_le, Nat.reduceLeDiff, Nat.reduceLT, and_self, true_and, and_true, and_false, false_and, List.cons.injEq, Nat.sub_zero, Nat.reduceSub, List.getElem?_cons_zero, List.getElem?_cons_succ, Nat.zero_add, callK_fun s42, f42, hfill2, rd_zero, rd_succ, Option.bind_some, Option.map_some, Option.isSome_some]
     refine Need.intro (feetB_ok rfl) ?_
     simp only [↓go1, go2, go3, go4, reduceIte, Nat.reduceEqDiff, Nat.reduceAdd, put_rd, List.length_map, List.length_cons, List.length_nil, Nat.zero_le, Nat.reduceLeDiff, Nat.reduceLT, and_self, true_and, and_true, and_false, false_and, List.cons.injEq, Nat.sub_zero, Nat.reduceSub, List.getElem?_cons_zero, List.getElem?_cons_succ, Nat.zero_add, callK_fun s42, f42, hfill2, rd_zero, rd_succ, Option.bind_some, Option.map_some, Option.isSome_some, res_cell, ldD_agg]
     exact ⟨rfl, rfl⟩
    ·cases h
   ·cases h
  ·cases h
end Go.Vd

namespace Go.Vd
open Go.RowKit
set_option linter.unusedSimpArgs false
set_option linter.unusedVariables false
set_option maxRecDepth 10000
theorem bytesD_app (a b : Bs) : bytesD (a ++ b) = bytesD a ++ bytesD b := by simp [bytesD]
theorem bytesD_len (a : Bs) : (bytesD a).length = a.length := by simp [bytesD]
theorem unbytes_bytes : ∀ a : Bs, unbytesD (bytesD a) = some a
 | [] => rfl
 | c :: r => by
  have h := c.toNat_lt
  show (unbytesD (bytesD r)).map _ = _
  rw [unbytes_bytes r]
  simp
theorem hexTab : ∀ n, n < 16 → ([48, 49, 50, 51, 52, 53, 54, 55, 56, 57, 97, 98, 99, 100, 101, 102] : Bs)[n]? = some (hexD n) := by decide +kernel
theorem and15 : ∀ n : Nat, n < 256 → bits .and .u8 (n : Int) 15 = ((n % 16 : Nat) : Int) := by decide +kernel
theorem shr4 : ∀ n : Nat, n < 256 → (n : Int).fdiv (2 ^ min (4 : Int).toNat IntKind.u8.bits) = ((n / 16 : Nat) : Int) := by decide +kernel
theorem hexB_snoc (s : Bs) (c : UInt8) : hexB (s ++ [c]) = hexB s ++ [hexD (c.toNat / 16), hexD (c.toNat % 16)] := by simp [hexB]
def F65 : List D → Option D
 | [.str s] => if s.length ≤ 1000000 then some (.str (hexB s)) else none
 | _ => none
theorem loop65 {S : Summs} {l : Bs} {Q : Ex → St → Prop} (hb : l.length ≤ 1000000)
  (hexit : ∀ st t, st.s 3 = .slice false t (bytesD (hexB l)) → Q (.exit 0) st) :
  ∀ (n k : Nat) (t : Id) st g, n = l.length - k → k ≤ l.length → st.s 13 = .int .i64 (k : Int) → st.s 12 = .int .i64 (l.length : Int) → st.s 11 = .slice false [] (bytesD l) → st.s 3 = .slice false t (bytesD (hexB (l.take k))) → Gw st.m st.c 5 false t →
   loopW S [] dc65l0 Q st g := by
 intro n
 induction n with
 | zero =>
  intro k t st g hn hk h13 h12 h11 h3 hg
  refine wp_loopd dc65l0.eq_1 ?_
  have : ¬ ((k : Int) < l.length) := by omega
  simp only [↓go1, go2, go3, go4, reduceIte, Nat.reduceEqDiff, Nat.reduceAdd, h13, h12, this]
  refine hexit _ t ?_
  rw [List.take_of_length_le (by omega)] at h3
  simp only [↓go1, go2, go3, go4, reduceIte, Nat.reduceEqDiff, Nat.reduceAdd, h3]
 | succ n ih =>
  intro k t st g hn hk h13 h12 h11 h3 hg
  refine wp_loopd dc65l0.eq_1 ?_
  have hlt : ((k : Int) < l.length) := by omega
  have hk0 : (0 : Int) ≤ (k : Int) := by omega
  have hkl : k < l.length := by omega
  have hx : (bytesD l)[(k : Int).toNat]? = some (.int .u8 (l[k].toNat : Int)) := by simp [bytesD, hkl]
  have hw : IntKind.i64.wrap ((k : Int) + 1) = (k : Int) + 1 := IntWalk.i64_in _ ⟨by omega, by omega⟩
  have hc := l[k].toNat_lt
  have htk : l.take (k + 1) = l.take k ++ [l[k]] := by rw [List.take_add_one, List.getElem?_eq_getElem hkl]; rfl
  have hlen : (l.take k).length = k := by simp; omega
  have h04 : (0 : Int) ≤ 4 := by decide
  have a1 := shr4 l[k].toNat (by omega)
  have a2 := and15 l[k].toNat (by omega)
  have p1 : (0 : Int) ≤ ((l[k].toNat / 16 : Nat) : Int) := by omega
  have p2 : (0 : Int) ≤ ((l[k].toNat % 16 : Nat) : Int) := by omega
  have q1 : (((l[k].toNat / 16 : Nat) : Int)).toNat = l[k].toNat / 16 := Int.toNat_natCast _
  have q2 : (((l[k].toNat % 16 : Nat) : Int)).toNat = l[k].toNat % 16 := Int.toNat_natCast _
  have t1 := hexTab (l[k].toNat / 16) (by omega)
  have t2 := hexTab (l[k].toNat % 16) (by omega)
  simp only [↓go1, go2, go3, go4, reduceIte, Nat.reduceEqDiff, Nat.reduceAdd, Nat.zero_le, Nat.sub_zero, Nat.reduceSub, Nat.reduceLT, List.length_cons, List.length_nil, Nat.le_refl, Nat.reduceLeDiff, h13, h12, h11, h3, hlt, hk0, hx, hw, h04, a1, a2, p1, p2, q1, q2, t1, t2, false_and, reduceCtorEq]
  refine Need.intro ⟨by rw [bytesD_len, hexB_len, hlen]; omega, rfl, hg.grow (by omega)⟩ ?_
  simp only [↓go1, go2, go3, go4, reduceIte, Nat.reduceEqDiff, Nat.reduceAdd, Bool.false_eq_true, h13, hw]
  refine Need.intro (feetB_ok rfl) ?_
  simp only [↓go1, go2, go3, go4, reduceIte, Nat.reduceEqDiff, Nat.reduceAdd, Bool.false_eq_true, h13, hw]
  refine ih (k + 1) [st.c + 1 + 3 + 8] _ _ (by omega) (by omega) rfl h12 h11 ?_ ?_
  ·rw [htk, hexB_snoc, bytesD_app]; rfl
  ·exact Gw.new (by simp only; omega)
theorem ok65 {P : Program} (hd : Desk P) : (funS F65).ok P 65 := by
 refine fun_ok (S := fun _ => none) none_ok hd.f65 (fun ds r h => ?_) (fun ds r h => ?_)
 ·unfold F65 at h; split at h
  ·simp
  ·cases h
 ·unfold F65 at h; split at h
  ·rename_i s
   split at h
   ·rename_i hb
    simp only [Option.some.injEq] at h
    subst h
    have hw : IntKind.i64.wrap (2 * (s.length : Int)) = 2 * (s.length : Int) := IntWalk.i64_in _ ⟨by omega, by omega⟩
    have b1 : (0 : Int) ≤ 0 := by decide
    have b2 : (0 : Int) ≤ 2 * (s.length : Int) := by omega
    have b3 : 2 * (s.length : Int) * 2 ≤ 140737488355328 := by omega
    have e0 : (0 : Int).toNat = 0 := rfl
    unfold dc65
    simp only [↓go1, go2, go3, go4, reduceIte, Nat.reduceEqDiff, Nat.reduceAdd, hw, b1, b2, b3, e0, List.replicate_zero, bytesD_len, true_and, and_true]
    refine Need.intro (by omega) ?_
    simp only [↓go1, go2, go3, go4, reduceIte, Nat.reduceEqDiff, Nat.reduceAdd, hw, e0, List.replicate_zero, bytesD_len]
    refine loop65 (l := s) hb (fun st t' h1 => ?_) s.length 0 [4] _ _ rfl (by omega) rfl rfl rfl rfl (.inr ⟨4, rfl, by simp only; omega, by simp [put_tok]⟩)
    simp only [↓go1, go2, go3, go4, reduceIte, Nat.reduceEqDiff, Nat.reduceAdd, h1, unbytes_bytes]
   ·cases h
  ·cases h
theorem loop66 {S : Summs} {l : Bs} {Q : Ex → St → Prop} (hb : l.length ≤ 1000000)
  (hexit : ∀ st t, st.s 4 = .slice l.isEmpty t (bytesD (hexB l)) → Q (.exit 0) st) :
  ∀ (n k : Nat) (t : Id) st g, n = l.length - k → k ≤ l.length → st.s 5 = .int .i64 (k : Int) → st.s 0 = .str l → st.s 3 = .str [48, 49, 50, 51, 52, 53, 54, 55, 56, 57, 97, 98, 99, 100, 101, 102] → st.s 4 = .slice (l.take k).isEmpty t (bytesD (hexB (l.take k))) → Gw st.m st.c 5 (l.take k).isEmpty t →
   loopW S [] dc66l0 Q st g := by
 intro n
 induction n with
 | zero =>
  intro k t st g hn hk h5 h0 h3 h4 hg
  refine wp_loopd dc66l0.eq_1 ?_
  have : ¬ ((k : Int) < l.length) := by omega
  simp only [↓go1, go2, go3, go4, reduceIte, Nat.reduceEqDiff, Nat.reduceAdd, h5, h0, this]
  refine hexit _ t ?_
  rw [List.take_of_length_le (by omega)] at h4
  simp only [↓go1, go2, go3, go4, reduceIte, Nat.reduceEqDiff, Nat.reduceAdd, h4]
 | succ n ih =>
  intro k t st g hn hk h5 h0 h3 h4 hg
  refine wp_loopd dc66l0.eq_1 ?_
  have hlt : ((k : Int) < l.length) := by omega
  have hk0 : (0 : Int) ≤ (k : Int) := by omega
  have hkl : k < l.length := by omega
  have hx : l[(k : Int).toNat]? = some l[k] := by simp [hkl]
  have hw : IntKind.i64.wrap ((k : Int) + 1) = (k : Int) + 1 := IntWalk.i64_in _ ⟨by omega, by omega⟩
  have hc := l[k].toNat_lt
  have htk : l.take (k + 1) = l.take k ++ [l[k]] := by rw [List.take_add_one, List.getElem?_eq_getElem hkl]; rfl
  have hlen : (l.take k).length = k := by simp; omega
  have a1 : IntKind.u8.wrap ((l[k].toNat : Int).tdiv 16) = ((l[k].toNat / 16 : Nat) : Int) := by
   have : (l[k].toNat : Int).tdiv 16 = ((l[k].toNat / 16 : Nat) : Int) := by rw [Int.tdiv_eq_ediv_of_nonneg (by omega)]; omega
   rw [this]; exact IntWalk.u8_in _ ⟨by omega, by omega⟩
  have a2 : (l[k].toNat : Int).tmod 16 = ((l[k].toNat % 16 : Nat) : Int) := by rw [Int.tmod_eq_emod_of_nonneg (by omega)]; omega
  have n16 : ((16 : Int) ≠ 0) = True := by simp
  have p1 : (0 : Int) ≤ ((l[k].toNat / 16 : Nat) : Int) := by omega
  have p2 : (0 : Int) ≤ ((l[k].toNat % 16 : Nat) : Int) := by omega
  have q1 : (((l[k].toNat / 16 : Nat) : Int)).toNat = l[k].toNat / 16 := Int.toNat_natCast _
  have q2 : (((l[k].toNat % 16 : Nat) : Int)).toNat = l[k].toNat % 16 := Int.toNat_natCast _
  have t1 := hexTab (l[k].toNat / 16) (by omega)
  have t2 := hexTab (l[k].toNat % 16) (by omega)
  have hnil : (l.take k).isEmpty = true → bytesD (hexB (l.take k)) = [] := fun h => by rw [List.isEmpty_iff] at h; rw [h]; rfl
  simp only [↓go1, go2, go3, go4, reduceIte, Nat.reduceEqDiff, Nat.reduceAdd, Nat.zero_le, Nat.sub_zero, Nat.reduceSub, Nat.reduceLT, List.length_cons, List.length_nil, Nat.le_refl, Nat.reduceLeDiff, h5, h0, h3, h4, hlt, hk0, hx, hw, n16, a1, a2, p1, p2, q1, q2, t1, t2, and_false, reduceCtorEq]
  refine Need.intro ⟨by rw [bytesD_len, hexB_len, hlen]; omega, rfl, hg.grow (by omega)⟩ ?_
  rw [app_fold hnil]
  simp only [↓go1, go2, go3, go4, reduceIte, Nat.reduceEqDiff, Nat.reduceAdd, Bool.false_eq_true, h5, hw]
  refine Need.intro (feetB_ok rfl) ?_
  simp only [↓go1, go2, go3, go4, reduceIte, Nat.reduceEqDiff, Nat.reduceAdd, Bool.false_eq_true, h5, hw]
  refine ih (k + 1) [st.c + 4 + 14] _ _ (by omega) (by omega) rfl h0 h3 ?_ ?_
  ·rw [isEmpty_take hkl, htk, hexB_snoc, bytesD_app]; rfl
  ·rw [isEmpty_take hkl]
   exact Gw.new (by simp only; omega)
theorem ok66 {P : Program} (hd : Desk P) : (funS F65).ok P 66 := by
 refine fun_ok (S := fun _ => none) none_ok hd.f66 (fun ds r h => ?_) (fun ds r h => ?_)
 ·unfold F65 at h; split at h
  ·simp
  ·cases h
 ·unfold F65 at h; split at h
  ·rename_i s
   split at h
   ·rename_i hb
    simp only [Option.some.injEq] at h
    subst h
    unfold dc66
    simp only [↓go1, go2, go3, go4, reduceIte, Nat.reduceEqDiff, Nat.reduceAdd]
    refine loop66 (l := s) hb (fun st t' h1 => ?_) s.length 0 [] _ _ rfl (by omega) rfl rfl rfl rfl (.inl rfl)
    simp only [↓go1, go2, go3, go4, reduceIte, Nat.reduceEqDiff, Nat.reduceAdd, h1, unbytes_bytes]
   ·cases h
  ·cases h
def F30 : List D → Option D
 | [.bool b] => some (.str (flagB b))
 | _ => none
theorem ok30 {P : Program} (hd : Desk P) : (funS F30).ok P 30 := by
 refine fun_ok (S := fun _ => none) none_ok hd.f30 (fun ds r h => ?_) (fun ds r h => ?_)
 ·unfold F30 at h; split at h
  ·simp
  ·cases h
 ·unfold F30 at h; split at h
  ·rename_i b
   simp only [Option.some.injEq] at h
   subst h
   unfold dc30
   cases b
   all_goals simp only [↓go1, go2, go3, go4, reduceIte, Nat.reduceEqDiff, Nat.reduceAdd, flagB, Bool.false_eq_true]
  ·cases h
theorem ok33 {P : Program} (hd : Desk P) : (funS F30).ok P 33 := by
 refine fun_ok (S := fun _ => none) none_ok hd.f33 (fun ds r h => ?_) (fun ds r h => ?_)
 ·unfold F30 at h; split at h
  ·simp
  ·cases h
 ·unfold F30 at h; split at h
  ·rename_i b
   simp only [Option.some.injEq] at h
   subst h
   unfold dc33
   cases b
   all_goals simp only [↓go1, go2, go3, go4, reduceIte, Nat.reduceEqDiff, Nat.reduceAdd, flagB, Bool.false_eq_true]
  ·cases h
def F31 : List D → Option D
 | [.str s] => if s.length ≤ 1000000 then some (.str (wordB s)) else none
 | _ => none
theorem ok31 {P : Program} (hd : Desk P) : (funS F31).ok P 31 := by
 have hS : Summs.ok P (tabL [(65, funS F65)]) := tabL_cons (ok65 hd) tabL_nil
 have s65 : tabL [(65, funS F65)] 65 = some (funS F65) := rfl
 generalize tabL [(65, funS F65)] = S at hS s65
 refine fun_ok (S := S) hS hd.f31 (fun ds r h => ?_) (fun ds r h => ?_)
 ·unfold F31 at h; split at h
  ·simp
  ·cases h
 ·unfold F31 at h; split at h
  ·rename_i s
   split at h
   ·rename_i hb
    simp only [Option.some.injEq] at h
    subst h
    unfold dc31
    have f65 : F65 [.str s] = some (.str (hexB s)) := if_pos hb
    by_cases hs : s = []
    ·subst hs
     simp only [↓go1, go2, go3, go4, reduceIte, Nat.reduceEqDiff, Nat.reduceAdd, wordB]
    ·simp only [↓go1, go2, go3, go4, reduceIte, Nat.reduceEqDiff, Nat.reduceAdd, wordB, hs, callK_fun s65, f65]
   ·cases h
  ·cases h
theorem ok34 {P : Program} (hd : Desk P) : (funS F31).ok P 34 := by
 have hS : Summs.ok P (tabL [(66, funS F65)]) := tabL_cons (ok66 hd) tabL_nil
 have s66 : tabL [(66, funS F65)] 66 = some (funS F65) := rfl
 generalize tabL [(66, funS F65)] = S at hS s66
 refine fun_ok (S := S) hS hd.f34 (fun ds r h => ?_) (fun ds r h => ?_)
 ·unfold F31 at h; split at h
  ·simp
  ·cases h
 ·unfold F31 at h; split at h
  ·rename_i s
   split at h
   ·rename_i hb
    simp only [Option.some.injEq] at h
    subst h
    unfold dc34
    have f65 : F65 [.str s] = some (.str (hexB s)) := if_pos hb
    by_cases hs : s = []
    ·subst hs
     simp only [↓go1, go2, go3, go4, reduceIte, Nat.reduceEqDiff, Nat.reduceAdd, wordB]
    ·simp only [↓go1, go2, go3, go4, reduceIte, Nat.reduceEqDiff, Nat.reduceAdd, wordB, hs, callK_fun s66, f65]
   ·cases h
  ·cases h
end Go.Vd

namespace Go.Vd
open Go.RowKit
set_option linter.unusedVariables false
def isStrD : D → Bool
 | .str _ => true
 | _ => false
def strOf : D → List UInt8
 | .str s => s
 | _ => []
theorem rep_own {P : Program} {B : Nat} {w0 w w' : World} {m : Mem} {g : Gh} {e n : Nat} {v : Value} {xs : List D} (hi : InvM P B w0 m w g) (hb : Below w.heap.size w w') (hx : xs.all isStrD = true) (hn : n = xs.length)
  (ho : w'.ownsRow w.heap.size e 1 v n (xs.map fun d => Value.string ⟨(strOf d).toArray⟩)) (hv : v ≠ .slice none 0 0) : Rep w' (g.over w w') (.slice false [] xs) v := by
 obtain ⟨h1, h2⟩ := ho
 rcases h2 with ⟨h2, _⟩ | ⟨b, cap, cur, rfl, hbase, hh, hnc, hcm, hsz, htk⟩
 ·exact absurd h2 hv
 ·have hcells : ∀ d ∈ xs, d.cells.length = 1 ∧ d.calm = true := by
   intro d hd
   have := List.all_eq_true.1 hx d hd
   unfold isStrD at this
   split at this
   ·exact ⟨rfl, rfl⟩
   ·cases this
  have hreps : Reps w' (g.over w w') (flat xs) (xs.map fun d => Value.string ⟨(strOf d).toArray⟩) := by
   clear hn h1 htk hv
   induction xs with
   | nil => exact Reps.nil _ _
   | cons x r ih =>
    simp only [List.all_cons, Bool.and_eq_true] at hx
    have ihr := ih hx.2 (fun d hd => hcells d (List.mem_cons_of_mem _ hd))
    match x, hx.1 with
    | .str s, _ => exact Reps.append (Reps.one (.str s) rfl) ihr
  refine Rep.ofRow (sz := 1) (vs := xs.map fun d => Value.string ⟨(strOf d).toArray⟩) hh hn hnc (fun d hd => (hcells d hd).1) hreps (fun j v hv => ?_) ?_ (fun h => absurd rfl h) (fun d hd => (hcells d hd).2)
  ·rw [← htk] at hv
   have hj : j < n * 1 := by
    rcases Nat.lt_or_ge j (n * 1) with h | h
    ·exact h
    ·rw [List.getElem?_eq_none (by simp; omega)] at hv; cases hv
   rw [List.getElem?_take_of_lt hj] at hv
   simpa using hv
  ·simp only [Gh.over]
   rw [if_neg (by omega), hh]
   show n * 1 ≤ cur.size
   omega
theorem flat_strs : ∀ {xs : List D}, xs.all isStrD = true → flat xs = xs
 | [], _ => rfl
 | .str s :: r, h => by
  simp only [List.all_cons, Bool.and_eq_true] at h
  show [D.str s] ++ flat r = _
  rw [flat_strs h.2]; rfl
 | .junk :: r, h => by simp [isStrD] at h
 | .bool _ :: r, h => by simp [isStrD] at h
 | .int _ _ :: r, h => by simp [isStrD] at h
 | .slice _ _ _ :: r, h => by simp [isStrD] at h
 | .ptr _ _ :: r, h => by simp [isStrD] at h
 | .eptr _ :: r, h => by simp [isStrD] at h
 | .nilptr :: r, h => by simp [isStrD] at h
 | .agg _ :: r, h => by simp [isStrD] at h
 | .tup _ :: r, h => by simp [isStrD] at h
 | .iface _ _ :: r, h => by simp [isStrD] at h
 | .nilIface :: r, h => by simp [isStrD] at h
 | .fn _ _ :: r, h => by simp [isStrD] at h
 | .nilFunc :: r, h => by simp [isStrD] at h
 | .nilMap :: r, h => by simp [isStrD] at h
 | .tok _ :: r, h => by simp [isStrD] at h
def Fclone : List D → Option D
 | [.slice nl _ xs] => if xs.all isStrD = true ∧ xs.length ≤ 1000000 then some (.slice nl [] xs) else none
 | _ => none
theorem clone_ok {P : Program} {f : FuncId} {e : Nat} (ent : ∃ fn, P.funcs[f]? = some fn ∧ fn.body.isSome = true ∧ (fn.name == "runtime.NumGoroutine") = false)
  (hnil : ∀ w : World, Calls P f #[.slice none 0 0] w fun ev w' => ev = .returned (.slice none 0 0) ∧ w' = w)
  (hrow : ∀ (w : World) (a : Addr) (n c : Nat) (zs : List (List UInt8)), (0 < n → a.spot = none) → n = zs.length → n ≤ 1000000 → (∀ (j : Nat) z, zs[j]? = some z → w.cell? (a.add j) = some (.string ⟨z.toArray⟩)) →
   Calls P f #[.slice (some a) n c] w fun ev w' => ∃ v, ev = .returned v ∧ w'.ownsRow w.heap.size e 1 v n (zs.map fun z => Value.string ⟨z.toArray⟩) ∧ v ≠ .slice none 0 0 ∧ Below w.heap.size w w') : (funS Fclone).ok P f := by
 refine ⟨ent, fun ds m m' fr _ => rfl, ?_⟩
 intro B w0 w m g fr ds vs r u hi hfresh hl hrep hex
 simp only [funS] at hex
 split at hex
 ·rw [Option.map_eq_some_iff] at hex
  obtain ⟨r', hr, hex⟩ := hex
  simp only [Prod.mk.injEq] at hex
  obtain ⟨rfl, rfl⟩ := hex
  match ds, vs, hl with
  | [d], [v], _ =>
   have h0 := hrep 0 d v rfl rfl
   have hd : ∃ nl t xs, d = .slice nl t xs := by
    cases d <;> first | exact ⟨_, _, _, rfl⟩ | (exfalso; simp [Fclone, D.un] at hr; done)
   obtain ⟨nl, t, xs, rfl⟩ := hd
   simp only [List.map_cons, List.map_nil, D.un, Fclone] at hr
   split at hr
   ·rename_i hc
    obtain ⟨c1, c2⟩ := hc
    simp only [Option.some.injEq] at hr; subst hr
    cases nl with
    | true =>
     rcases h0.slice_inv with ⟨_, rfl, rfl⟩ | ⟨h, _⟩
     ·refine (hnil w).mono ?_
      rintro ev w' ⟨rfl, rfl⟩
      exact ⟨_, g, rfl, hi, Ext.refl _ _, .nils [], fun i hf _ => hf⟩
     ·cases h
    | false =>
     obtain ⟨ad, n, c, sz, ws, rfl, hn, hnc, hsz, hwl, hrp, hcl, _⟩ := h0.slice_list
     have hcell : ∀ (j : Nat) z, (xs.map strOf)[j]? = some z → w.cell? (ad.add j) = some (.string ⟨z.toArray⟩) := by
      intro j z hz
      rw [List.getElem?_map, Option.map_eq_some_iff] at hz
      obtain ⟨x, hx, rfl⟩ := hz
      have hs : isStrD x = true := List.all_eq_true.1 c1 x (List.mem_of_getElem? hx)
      have hj : j < xs.length := (List.getElem?_eq_some_iff.1 hx).1
      have hsz1 : sz = 1 := by
       have h1 := hsz x (List.mem_of_getElem? hx)
       unfold isStrD at hs
       split at hs
       ·exact h1.symm
       ·cases hs
      subst hsz1
      have hfl : (flat xs)[j]? = some x := by
       rw [flat_strs c1]; exact hx
      have hw := List.getElem?_eq_getElem (l := ws) (i := j) (by omega)
      have hr := hrp.2.2 j x _ hfl hw
      have hv : ws[j]'(by omega) = .string ⟨(strOf x).toArray⟩ := by
       unfold isStrD at hs
       split at hs
       ·exact hr.str_inv
       ·cases hs
      rw [hv] at hw
      exact hcl j _ hw
     have hsp : 0 < n → ad.spot = none := by
      intro h0
      obtain ⟨z, hz⟩ : ∃ z, (xs.map strOf)[0]? = some z := ⟨_, List.getElem?_eq_getElem (by simp; omega)⟩
      have := hcell 0 z hz
      unfold World.cell? at this
      split at this
      ·split at this
       ·cases this
       ·rename_i hh
        cases hsp : ad.spot with
        | none => rfl
        | some q => simp [Addr.add, hsp] at hh
      ·cases this
     refine (hrow w ad n c (xs.map strOf) hsp (by simpa using hn) (by omega) hcell).mono ?_
     rintro ev w' ⟨v', rfl, ho, hne, hb⟩
     rw [List.map_map] at ho
     exact ⟨v', g.over w w', rfl, hi.over hb, Ext.over hi.gz hb, rep_own hi hb c1 hn ho hne, fun i hf _ => hf⟩
   ·cases hr
  | [], _, _ => simp [Fclone] at hr
  | _ :: _ :: _, _, _ => simp [Fclone] at hr
 ·cases hex
end Go.Vd

namespace Go.Vd
open Go.RowKit
set_option linter.unusedSimpArgs false
set_option linter.unusedVariables false
set_option maxRecDepth 10000
def sumL : List Bs → Nat
 | [] => 0
 | w :: r => w.length + sumL r
theorem joinB_len : ∀ l : List Bs, (joinB l).length ≤ sumL l + l.length
 | [] => by simp [joinB]
 | [w] => by simp [joinB, sumL]
 | w :: v :: r => by
  have := joinB_len (v :: r)
  simp only [joinB, List.length_append, List.length_cons, sumL] at this ⊢
  omega
theorem join_eq : ∀ l : List Bs, Lib.join l [32] = joinB l
 | [] => rfl
 | [w] => Lib.join_one w [32]
 | w :: v :: r => by
  have ih := join_eq (v :: r)
  rw [Lib.join_cons] at ih
  rw [Lib.join_cons, joinB, ← ih]
  simp [Lib.joinTail]
def Fjoin : List D → Option D
 | [.slice _ _ xs, .str [32]] => match strsOf xs with
  | some l => if l ≠ [] ∧ l.length ≤ 1000 ∧ sumL l ≤ 1000000 then some (.str (joinB l)) else none
  | none => none
 | _ => none
theorem strs_all : ∀ l : List Bs, (l.map D.str).all isStrD = true
 | [] => rfl
 | w :: r => by
  show (isStrD (.str w) && _) = true
  rw [strs_all r]; rfl
theorem join_ok {P : Program} {ρ : Go.Shelf.Ren} (L : Go.Proofs.Lays.n156 P ρ) (X : Go.Proofs.Builder.Extra P ρ) (ent : ∃ fn, P.funcs[ρ.f 156]? = some fn ∧ fn.body.isSome = true ∧ (fn.name == "runtime.NumGoroutine") = false) : (funS Fjoin).ok P (ρ.f 156) := by
 refine ⟨ent, fun ds m m' fr _ => rfl, ?_⟩
 intro B w0 w m g fr ds vs r u hi hfresh hl hrep hex
 simp only [funS] at hex
 split at hex
 ·rw [Option.map_eq_some_iff] at hex
  obtain ⟨r', hr, hex⟩ := hex
  simp only [Prod.mk.injEq] at hex
  obtain ⟨rfl, rfl⟩ := hex
  match ds, vs, hl with
  | [d, d1], [v, v1], _ =>
   have h0 := hrep 0 d v rfl rfl
   have h1 := hrep 1 d1 v1 rfl rfl
   have hd : ∃ nl t xs, d = .slice nl t xs := by
    cases d <;> first | exact ⟨_, _, _, rfl⟩ | (exfalso; simp [Fjoin, D.un] at hr; done)
   obtain ⟨nl, t, xs, rfl⟩ := hd
   have hd1 : d1 = .str [32] := by
    cases d1 with
    | str s =>
     simp only [List.map_cons, List.map_nil, D.un, Fjoin] at hr
     split at hr
     ·rename_i heq; simp at heq; rw [heq.2]
     ·cases hr
    | _ => exfalso; simp [Fjoin, D.un] at hr
   subst hd1
   simp only [List.map_cons, List.map_nil, D.un, Fjoin] at hr
   split at hr
   ·rename_i l hls
    obtain rfl := strsOf_some hls
    split at hr
    ·rename_i hc
     obtain ⟨c0, c1, c2⟩ := hc
     simp only [Option.some.injEq] at hr; subst hr
     rw [h1.str_inv]
     cases nl with
     | true =>
      rcases h0.slice_inv with ⟨_, hx, _⟩ | ⟨h, _⟩
      ·exfalso; cases l with
       | nil => exact c0 rfl
       | cons a b => cases hx
      ·cases h
     | false =>
      obtain ⟨ad, n, c, sz, ws, rfl, hn, hnc, hsz, hwl, hrp, hcl, _⟩ := h0.slice_list
      have hpos : 0 < l.length := List.length_pos_iff.2 c0
      have hsz1 : sz = 1 := by
       obtain ⟨a, b, e⟩ := List.exists_cons_of_ne_nil c0
       have := hsz (.str a) (by rw [e]; simp)
       exact this.symm
      subst hsz1
      have hcell : ∀ (j : Nat) z, l[j]? = some z → w.cell? (ad.add j) = some (.string ⟨z.toArray⟩) := by
       intro j z hz
       have hj : j < l.length := (List.getElem?_eq_some_iff.1 hz).1
       have hfl : (flat (l.map D.str))[j]? = some (.str z) := by
        rw [flat_strs (strs_all l), List.getElem?_map, hz]; rfl
       have hw := List.getElem?_eq_getElem (l := ws) (i := j) (by simp at hn; omega)
       have hr := hrp.2.2 j (.str z) _ hfl hw
       rw [hr.str_inv] at hw
       exact hcl j _ hw
      have hsp : ad.spot = none := by
       obtain ⟨z, hz⟩ : ∃ z, l[0]? = some z := ⟨_, List.getElem?_eq_getElem hpos⟩
       have := hcell 0 z hz
       unfold World.cell? at this
       split at this
       ·split at this
        ·cases this
        ·rename_i hh
         cases hsp : ad.spot with
         | none => rfl
         | some q => simp [Addr.add, hsp] at hh
       ·cases this
      have hadd : ∀ j, ad.add j = ⟨ad.block, ad.off + j, none⟩ := by
       intro j
       cases ad with
       | mk b o s => simp at hsp; subst hsp; unfold Addr.add; split <;> simp_all
      have hlt : ad.block < w.heap.size := by
       obtain ⟨z, hz⟩ : ∃ z, l[0]? = some z := ⟨_, List.getElem?_eq_getElem hpos⟩
       have := hcell 0 z hz
       rw [hadd] at this
       unfold World.cell? at this
       split at this
       ·rename_i hh; exact (Array.getElem?_eq_some_iff.1 hh).1
       ·cases this
      have hmap : (l.map fun x => (⟨x.toArray⟩ : ByteArray)).map (·.data.toList) = l := by simp [List.map_map, Function.comp_def]
      have hj : (⟨#[32]⟩ : ByteArray).data.toList = [32] := rfl
      have hjl := joinB_len l
      have := Go.Proofs.Any.strings_Join L X ad.block ad.off c (l.map fun x => (⟨x.toArray⟩ : ByteArray)) ⟨#[32]⟩ w (fun j x hx => by
       rw [List.getElem?_map, Option.map_eq_some_iff] at hx
       obtain ⟨z, hz, rfl⟩ := hx
       rw [← hadd]; exact hcell j z hz) hlt (by simp; omega) (by simp at hn ⊢; omega) (by rw [hmap, hj, join_eq]; omega)
      rw [hmap, hj, join_eq, List.length_map] at this
      have hnl : n = l.length := by simpa using hn
      have had : (some (⟨ad.block, ad.off, none⟩ : Addr)) = some ad := by cases ad; simp at hsp; simp [hsp]
      rw [had, ← hnl] at this
      refine this.mono ?_
      rintro ev w' ⟨rfl, hb⟩
      exact ⟨_, g.over w w', rfl, hi.over hb, Ext.over hi.gz hb, .str _, fun i hf _ => hf⟩
    ·cases hr
   ·cases hr
  | [], _, _ => simp [Fjoin] at hr
  | [_], _, _ => simp [Fjoin] at hr
  | _ :: _ :: _ :: _, _, _ => simp [Fjoin] at hr
 ·cases hex
def F29 : List D → Option D
 | [.slice _ _ xs] => match strsOf xs with
  | some l => if l ≠ [] ∧ l.length ≤ 1000 ∧ sumL l ≤ 1000000 then some (.str (joinB l)) else none
  | none => none
 | _ => none
theorem ok29 {P : Program} (hd : Desk P) (h64 : (funS Fjoin).ok P 64) : (funS F29).ok P 29 := by
 have hS : Summs.ok P (tabL [(64, funS Fjoin)]) := tabL_cons h64 tabL_nil
 have s64 : tabL [(64, funS Fjoin)] 64 = some (funS Fjoin) := rfl
 generalize tabL [(64, funS Fjoin)] = S at hS s64
 refine fun_ok (S := S) hS hd.f29 (fun ds r h => ?_) (fun ds r h => ?_)
 ·unfold F29 at h; split at h
  ·simp
  ·cases h
 ·unfold F29 at h; split at h
  ·rename_i nl t xs
   split at h
   ·rename_i l hl
    split at h
    ·rename_i hc
     simp only [Option.some.injEq] at h
     subst h
     have fj : ∀ (nl : Bool) (t : Id), Fjoin [.slice nl t xs, .str [32]] = some (.str (joinB l)) := fun nl t => by
      simp only [Fjoin, hl]; exact if_pos hc
     unfold dc29
     simp only [↓go1, go2, go3, go4, reduceIte, Nat.reduceEqDiff, Nat.reduceAdd, callK_fun s64, fj]
    ·cases h
   ·cases h
  ·cases h
end Go.Vd

namespace Go.Vd
open Go.RowKit
set_option linter.unusedSimpArgs false
set_option linter.unusedVariables false
set_option maxRecDepth 10000
theorem Gw.put {m : Mem} {c e c' o : Nat} {nl : Bool} {t : Id} {ds : List D} (h : Gw m c e nl t) (hc : c ≤ c') : Gw (m.put [c'] o ds) c e nl t := by
 rcases h with h | ⟨j, rfl, h1, h2⟩
 ·exact .inl h
 ·refine .inr ⟨j, rfl, h1, ?_⟩
  rw [Mem.put_other (by simp; omega)]; exact h2
theorem Gw.toGrow {m : Mem} {c e : Nat} {nl : Bool} {t : Id} {xs : List D} (h : Gw m c e nl t) : Grow m e (.slice nl t xs) := by
 rcases h with h | ⟨j, rfl, h1, h2⟩
 ·exact .inl h
 ·exact .inr ⟨h2, by simp⟩
theorem digits_len (n : Int) : (digitsB n).length ≤ 14 := by
 by_cases h : inR n = true
 ·exact (numV_digits h).2.2
 ·unfold digitsB; rw [if_neg h]; simp
theorem flag_len (b : Bool) : (flagB b).length = 1 := by cases b <;> rfl
theorem word_len (s : Bs) : (wordB s).length ≤ 2 * s.length + 1 := by
 unfold wordB
 split
 ·simp
 ·rw [hexB_len]; omega
theorem lines_ok {t : Td} (h : checkB t = 0) : t.calls.length ≤ 64 ∧ t.behind.length ≤ 64 ∧ (∀ d ∈ t.calls, d.line.length ≤ 500 ∧ d.reply.length ≤ 500) ∧ ∀ s ∈ t.behind, s.length ≤ 500 := by
 unfold checkB at h
 split at h
 ·cases h
 ·rename_i h1
  split at h
  ·cases h
  ·split at h
   ·cases h
   ·rename_i h2
    simp only [Bool.not_eq_false, Bool.and_eq_true] at h2
    refine ⟨by omega, by omega, fun d hd => ?_, fun s hs => ?_⟩
    ·have := List.all_eq_true.1 h2.2 d hd
     simp only [okT, Bool.and_eq_true, decide_eq_true_eq] at this
     exact this
    ·have := List.all_eq_true.1 h2.1 s hs
     simpa [okT] using this
def Flines : List D → Option D
 | [d] => match tdOf d with
  | some (_, _, t) => some (.tup [if checkB t = 0 then .slice false [] ((linesB t).map .str) else .slice true [] [], .int .i64 (checkB t)])
  | none => none
 | _ => none
theorem f29_call (d : Dn) (h : d.line.length ≤ 500 ∧ d.reply.length ≤ 500) {nl : Bool} {t : Id} : F29 [.slice nl t [.str [99, 97, 108, 108], .str (digitsB d.cl), .str (digitsB d.fr), .str (digitsB d.at_), .str (digitsB d.to), .str (flagB d.is), .str (wordB d.line), .str (wordB d.reply)]] = some (.str (joinB (callW d))) := by
 have h1 := digits_len d.cl
 have h2 := digits_len d.fr
 have h3 := digits_len d.at_
 have h4 := digits_len d.to
 have h5 := flag_len d.is
 have h6 := word_len d.line
 have h7 := word_len d.reply
 simp only [F29, strsOf, Option.map_some]
 exact if_pos ⟨by simp, by simp, by simp only [sumL, List.length_cons, List.length_nil]; omega⟩
theorem f29_told (t : Td) {nl : Bool} {t' : Id} : F29 [.slice nl t' [.str [116, 111, 108, 100], .str (digitsB t.ticks), .str (digitsB t.left), .str (flagB t.shut)]] = some (.str (joinB (toldW t))) := by
 have h1 := digits_len t.ticks
 have h2 := digits_len t.left
 have h5 := flag_len t.shut
 simp only [F29, strsOf, Option.map_some]
 exact if_pos ⟨by simp, by simp, by simp only [sumL, List.length_cons, List.length_nil]; omega⟩
theorem f29_said (s : Bs) (h : s.length ≤ 500) {nl : Bool} {t' : Id} : F29 [.slice nl t' [.str [115, 97, 105, 100], .str (wordB s)]] = some (.str (joinB (saidW s))) := by
 have h6 := word_len s
 simp only [F29, strsOf, Option.map_some]
 exact if_pos ⟨by simp, by simp, by simp only [sumL, List.length_cons, List.length_nil]; omega⟩
set_option maxHeartbeats 1000000 in
theorem loop10a {S : Summs} {l : List Dn} {nl0 : Bool} {t0 : Id} {pre : List D} {y : D} {Q : Ex → St → Prop} (s27 : S 27 = some (funS F27)) (s29 : S 29 = some (funS F29)) (s30 : S 30 = some (funS F30)) (s31 : S 31 = some (funS F31)) (hb : l.length ≤ 64) (hpre : pre.length ≤ 1000)
  (hok : ∀ d ∈ l, d.line.length ≤ 500 ∧ d.reply.length ≤ 500)
  (hexit : ∀ st t, st.s 1 = .ptr [0] 0 → st.m [0] 4 = some y → st.s 5 = .slice false t (pre ++ l.map fun d => .str (joinB (callW d))) → Gw st.m st.c 9 false t → 1 ≤ st.c → Q (.exit 0) st) :
  ∀ (n k : Nat) (t : Id) st g, n = l.length - k → k ≤ l.length → st.s 30 = .int .i64 (k : Int) → st.s 29 = .int .i64 (l.length : Int) → st.s 28 = .slice nl0 t0 (l.map dnD) → st.s 1 = .ptr [0] 0 → st.m [0] 4 = some y →
   st.s 5 = .slice false t (pre ++ (l.take k).map fun d => .str (joinB (callW d))) → Gw st.m st.c 9 false t → 1 ≤ st.c →
   loopW S [] dc10l0 Q st g := by
 intro n
 induction n with
 | zero =>
  intro k t st g hn hk h30 h29 h28 h1 m4 h5 hg hc1
  refine wp_loopd dc10l0.eq_1 ?_
  have : ¬ ((k : Int) < l.length) := by omega
  simp only [↓go1, go2, go3, go4, reduceIte, Nat.reduceEqDiff, Nat.reduceAdd, h30, h29, this]
  rw [List.take_of_length_le (by omega)] at h5
  refine hexit _ t ?_ m4 ?_ (hg.more (by simp only; omega)) (by simp only; omega)
  ·simp only [↓go1, go2, go3, go4, reduceIte, Nat.reduceEqDiff, Nat.reduceAdd, h1]
  ·simp only [↓go1, go2, go3, go4, reduceIte, Nat.reduceEqDiff, Nat.reduceAdd, h5]
 | succ n ih =>
  intro k t st g hn hk h30 h29 h28 h1 m4 h5 hg hc1
  refine wp_loopd dc10l0.eq_1 ?_
  have hlt : ((k : Int) < l.length) := by omega
  have hk0 : (0 : Int) ≤ (k : Int) := by omega
  have hkl : k < l.length := by omega
  have hx : (l.map dnD)[(k : Int).toNat]? = some (.agg [.int .i64 l[k].cl, .str l[k].line, .str l[k].reply, .int .i64 l[k].fr, .int .i64 l[k].at_, .int .i64 l[k].to, .bool l[k].is]) := by simp [hkl, dnD]
  have hw : IntKind.i64.wrap ((k : Int) + 1) = (k : Int) + 1 := IntWalk.i64_in _ ⟨by omega, by omega⟩
  have htk : l.take (k + 1) = l.take k ++ [l[k]] := by rw [List.take_add_one, List.getElem?_eq_getElem hkl]; rfl
  have hlen : (l.take k).length = k := by simp; omega
  have hdk := hok l[k] (List.getElem_mem hkl)
  have f27 : ∀ n, F27 [.int .i64 n] = some (.str (digitsB n)) := fun n => rfl
  have f30 : ∀ b, F30 [.bool b] = some (.str (flagB b)) := fun b => rfl
  have f31a : F31 [.str l[k].line] = some (.str (wordB l[k].line)) := if_pos (by omega)
  have f31b : F31 [.str l[k].reply] = some (.str (wordB l[k].reply)) := if_pos (by omega)
  have f29 := fun (nl : Bool) (t : Id) => f29_call l[k] hdk (nl := nl) (t := t)
  simp only [↓go1, go2, go3, go4, reduceIte, Nat.reduceEqDiff, Nat.reduceAdd, Nat.zero_le, Nat.sub_zero, Nat.reduceSub, Nat.reduceLT, List.take_succ_cons, List.take_zero, List.length_cons, List.length_nil, List.getElem?_cons_zero, List.getElem?_cons_succ, put_rd, rd_zero, rd_succ, Option.bind_some, Option.map_some, Option.isSome_some, true_and, and_true, and_false, and_self, Nat.le_refl, Nat.reduceLeDiff, h30, h29, h28, h5, hlt, hk0, hx, hw, callK_fun s27, callK_fun s29, callK_fun s30, callK_fun s31, f27, f29, f30, f31a, f31b, reduceCtorEq]
  refine Need.intro ⟨by simp only [List.length_append, List.length_map, List.length_take]; omega, rfl, ((((hg.put (by omega)).put (by omega)).put (by omega)).put (by omega)).toGrow⟩ ?_
  simp only [↓go1, go2, go3, go4, reduceIte, Nat.reduceEqDiff, Nat.reduceAdd, Nat.zero_le, Nat.sub_zero, Nat.reduceSub, Nat.reduceLT, List.take_succ_cons, List.take_zero, List.length_cons, List.length_nil, List.getElem?_cons_zero, List.getElem?_cons_succ, put_rd, rd_zero, rd_succ, Option.bind_some, Option.map_some, Option.isSome_some, true_and, and_true, and_false, and_self, Nat.le_refl, Nat.reduceLeDiff, h30, h29, h28, h5, hlt, hk0, hx, hw, callK_fun s27, callK_fun s29, callK_fun s30, callK_fun s31, f27, f29, f30, f31a, f31b, reduceCtorEq]
  refine Need.intro (feetB_ok rfl) ?_
  simp only [↓go1, go2, go3, go4, reduceIte, Nat.reduceEqDiff, Nat.reduceAdd, Nat.zero_le, Nat.sub_zero, Nat.reduceSub, Nat.reduceLT, List.take_succ_cons, List.take_zero, List.length_cons, List.length_nil, List.getElem?_cons_zero, List.getElem?_cons_succ, put_rd, rd_zero, rd_succ, Option.bind_some, Option.map_some, Option.isSome_some, true_and, and_true, and_false, and_self, Nat.le_refl, Nat.reduceLeDiff, h30, h29, h28, h5, hlt, hk0, hx, hw, callK_fun s27, callK_fun s29, callK_fun s30, callK_fun s31, f27, f29, f30, f31a, f31b, reduceCtorEq]
  refine ih (k + 1) [st.c + 1 + 4 + 25] _ _ (by omega) (by omega) rfl h29 h28 h1 ?_ ?_ (Gw.new (by simp only; omega)) (by simp only; omega)
  ·have e1 : ([0] : Id) ≠ [st.c + 1 + 2] := by simp
   simp only [growU, Upd.app, put_tok, Nat.reduceEqDiff, and_false, reduceIte, Mem.put_other e1, m4]
  ·rw [htk, List.map_append, ← List.append_assoc]; rfl
set_option maxHeartbeats 1000000 in
theorem loop10b {S : Summs} {l : List Bs} {nl0 : Bool} {t0 : Id} {pre : List D} {Q : Ex → St → Prop} (s29 : S 29 = some (funS F29)) (s31 : S 31 = some (funS F31)) (hb : l.length ≤ 64) (hpre : pre.length ≤ 1000)
  (hok : ∀ d ∈ l, d.length ≤ 500)
  (hexit : ∀ st t, st.s 5 = .slice false t (pre ++ l.map fun d => .str (joinB (saidW d))) → Q (.exit 2) st) :
  ∀ (n k : Nat) (t : Id) st g, n = l.length - k → k ≤ l.length → st.s 64 = .int .i64 (k : Int) → st.s 63 = .int .i64 (l.length : Int) → st.s 62 = .slice nl0 t0 (l.map .str) →
   st.s 5 = .slice false t (pre ++ (l.take k).map fun d => .str (joinB (saidW d))) → Gw st.m st.c 9 false t →
   loopW S [] dc10l1 Q st g := by
 intro n
 induction n with
 | zero =>
  intro k t st g hn hk h30 h29 h28 h5 hg
  refine wp_loopd dc10l1.eq_1 ?_
  have : ¬ ((k : Int) < l.length) := by omega
  simp only [↓go1, go2, go3, go4, reduceIte, Nat.reduceEqDiff, Nat.reduceAdd, h30, h29, this]
  rw [List.take_of_length_le (by omega)] at h5
  refine hexit _ t ?_
  simp only [↓go1, go2, go3, go4, reduceIte, Nat.reduceEqDiff, Nat.reduceAdd, h5]
 | succ n ih =>
  intro k t st g hn hk h30 h29 h28 h5 hg
  refine wp_loopd dc10l1.eq_1 ?_
  have hlt : ((k : Int) < l.length) := by omega
  have hk0 : (0 : Int) ≤ (k : Int) := by omega
  have hkl : k < l.length := by omega
  have hx : (l.map D.str)[(k : Int).toNat]? = some (.str l[k]) := by simp [hkl]
  have hw : IntKind.i64.wrap ((k : Int) + 1) = (k : Int) + 1 := IntWalk.i64_in _ ⟨by omega, by omega⟩
  have htk : l.take (k + 1) = l.take k ++ [l[k]] := by rw [List.take_add_one, List.getElem?_eq_getElem hkl]; rfl
  have hlen : (l.take k).length = k := by simp; omega
  have hdk := hok l[k] (List.getElem_mem hkl)
  have f31a : F31 [.str l[k]] = some (.str (wordB l[k])) := if_pos (by omega)
  have f29 := fun (nl : Bool) (t : Id) => f29_said l[k] hdk (nl := nl) (t' := t)
  simp only [↓go1, go2, go3, go4, reduceIte, Nat.reduceEqDiff, Nat.reduceAdd, Nat.zero_le, Nat.sub_zero, Nat.reduceSub, Nat.reduceLT, List.take_succ_cons, List.take_zero, List.length_cons, List.length_nil, List.getElem?_cons_zero, List.getElem?_cons_succ, put_rd, rd_zero, rd_succ, Option.bind_some, Option.map_some, Option.isSome_some, true_and, and_true, and_false, and_self, Nat.le_refl, Nat.reduceLeDiff, h30, h29, h28, h5, hlt, hk0, hx, hw, callK_fun s29, callK_fun s31, f29, f31a, reduceCtorEq]
  refine Need.intro ⟨by simp only [List.length_append, List.length_map, List.length_take]; omega, rfl, (((hg.put (by omega)).put (by omega))).toGrow⟩ ?_
  simp only [↓go1, go2, go3, go4, reduceIte, Nat.reduceEqDiff, Nat.reduceAdd, Nat.zero_le, Nat.sub_zero, Nat.reduceSub, Nat.reduceLT, List.take_succ_cons, List.take_zero, List.length_cons, List.length_nil, List.getElem?_cons_zero, List.getElem?_cons_succ, put_rd, rd_zero, rd_succ, Option.bind_some, Option.map_some, Option.isSome_some, true_and, and_true, and_false, and_self, Nat.le_refl, Nat.reduceLeDiff, h30, h29, h28, h5, hlt, hk0, hx, hw, callK_fun s29, callK_fun s31, f29, f31a, reduceCtorEq]
  refine ih (k + 1) [st.c + 1 + 3 + 6] _ _ (by omega) (by omega) rfl h29 h28 ?_ (Gw.new (by simp only; omega))
  ·rw [htk, List.map_append, ← List.append_assoc]; rfl
theorem ok10 {P : Program} (hd : Desk P) (h27 : (funS F27).ok P 27) (h15 : (funS F15).ok P 15) (h29 : (funS F29).ok P 29) : (funS Flines).ok P 10 := by
 have hS : Summs.ok P (tabL [(15, funS F15), (27, funS F27), (29, funS F29), (30, funS F30), (31, funS F31)]) := tabL_cons h15 (tabL_cons h27 (tabL_cons h29 (tabL_cons (ok30 hd) (tabL_cons (ok31 hd) tabL_nil))))
 have s15 : tabL [(15, funS F15), (27, funS F27), (29, funS F29), (30, funS F30), (31, funS F31)] 15 = some (funS F15) := rfl
 have s27 : tabL [(15, funS F15), (27, funS F27), (29, funS F29), (30, funS F30), (31, funS F31)] 27 = some (funS F27) := rfl
 have s29 : tabL [(15, funS F15), (27, funS F27), (29, funS F29), (30, funS F30), (31, funS F31)] 29 = some (funS F29) := rfl
 have s30 : tabL [(15, funS F15), (27, funS F27), (29, funS F29), (30, funS F30), (31, funS F31)] 30 = some (funS F30) := rfl
 have s31 : tabL [(15, funS F15), (27, funS F27), (29, funS F29), (30, funS F30), (31, funS F31)] 31 = some (funS F31) := rfl
 generalize tabL [(15, funS F15), (27, funS F27), (29, funS F29), (30, funS F30), (31, funS F31)] = S at hS s15 s27 s29 s30 s31
 refine fun_ok (S := S) hS hd.f10 (fun ds r h => ?_) (fun ds r h => ?_)
 ·unfold Flines at h; split at h
  ·simp
  ·cases h
 ·unfold Flines at h; split at h
  ·rename_i d
   split at h
   ·rename_i nc nb t ht
    obtain ⟨x, y, rfl⟩ := tdOf_some ht
    simp only [Option.some.injEq] at h
    subst h
    have f15 : ∀ x y, F15 [.agg [.slice nc x (t.calls.map dnD), .int .i64 t.ticks, .int .i64 t.left, .bool t.shut, .slice nb y (t.behind.map .str)]] = some (.int .i64 (checkB t)) := fun x y => by
     simp only [F15, tdOf, dnsOf_map, strsOf_map]
    have f27 : ∀ n, F27 [.int .i64 n] = some (.str (digitsB n)) := fun n => rfl
    have f30 : ∀ b, F30 [.bool b] = some (.str (flagB b)) := fun b => rfl
    have f29 := fun (nl : Bool) (t' : Id) => f29_told t (nl := nl) (t' := t')
    unfold dc10
    by_cases hz : checkB t = 0
    ·simp only [↓go1, go2, go3, go4, reduceIte, Nat.reduceEqDiff, Nat.reduceAdd, put_rd, List.length_map, List.length_cons, List.length_nil, Nat.zero_le, Nat.reduceLeDiff, Nat.reduceLT, and_self, true_and, and_true, and_false, false_and, List.cons.injEq, Nat.sub_zero, Nat.reduceSub, List.getElem?_cons_zero, List.getElem?_cons_succ, Nat.zero_add, rd_zero, rd_succ, Option.bind_some, Option.map_some, Option.isSome_some, callK_fun s15, callK_fun s27, callK_fun s29, callK_fun s30, f15, f27, f29, f30, hz]
     refine Need.intro (feetB_ok rfl) ?_
     simp only [↓go1, go2, go3, go4, reduceIte, Nat.reduceEqDiff, Nat.reduceAdd, put_rd, List.length_map, List.length_cons, List.length_nil, Nat.zero_le, Nat.reduceLeDiff, Nat.reduceLT, and_self, true_and, and_true, and_false, false_and, List.cons.injEq, Nat.sub_zero, Nat.reduceSub, List.getElem?_cons_zero, List.getElem?_cons_succ, Nat.zero_add, rd_zero, rd_succ, Option.bind_some, Option.map_some, Option.isSome_some, callK_fun s15, callK_fun s27, callK_fun s29, callK_fun s30, f15, f27, f29, f30, hz]
     obtain ⟨b1, b2, b3, b4⟩ := lines_ok hz
     refine loop10a (l := t.calls) (pre := [.str (joinB (toldW t))]) (y := .slice nb y (t.behind.map .str)) s27 s29 s30 s31 b1 (by simp) b3 (fun st u a1 a2 a3 a4 a5 => ?_) t.calls.length 0 [19] _ _ rfl (by omega) rfl rfl rfl rfl ?_ rfl ?_ (by simp)
     ·simp only [↓go1, go2, go3, go4, reduceIte, Nat.reduceEqDiff, Nat.reduceAdd, put_rd, List.length_map, List.length_cons, List.length_nil, Nat.zero_le, Nat.reduceLeDiff, Nat.reduceLT, and_self, true_and, and_true, and_false, false_and, List.cons.injEq, Nat.sub_zero, Nat.reduceSub, List.getElem?_cons_zero, List.getElem?_cons_succ, Nat.zero_add, rd_zero, rd_succ, Option.bind_some, Option.map_some, Option.isSome_some, hz, a1, a2, a3]
      refine loop10b (l := t.behind) (pre := [.str (joinB (toldW t))] ++ t.calls.map fun d => .str (joinB (callW d))) s29 s31 b2 (by simp; omega) b4 (fun st u c => ?_) t.behind.length 0 u _ _ rfl (by omega) rfl rfl rfl ?_ ?_
      ·simp only [↓go1, go2, go3, go4, reduceIte, Nat.reduceEqDiff, Nat.reduceAdd, put_rd, List.length_map, List.length_cons, List.length_nil, Nat.zero_le, Nat.reduceLeDiff, Nat.reduceLT, and_self, true_and, and_true, and_false, false_and, List.cons.injEq, Nat.sub_zero, Nat.reduceSub, List.getElem?_cons_zero, List.getElem?_cons_succ, Nat.zero_add, rd_zero, rd_succ, Option.bind_some, Option.map_some, Option.isSome_some, hz, c]
       simp [linesB, List.map_map, Function.comp_def]
      ·simp only [↓go1, go2, go3, go4, reduceIte, Nat.reduceEqDiff, Nat.reduceAdd, a3, List.take_zero, List.map_nil, List.append_nil]
      ·exact a4.more (by simp only; omega)
     ·rfl
     ·exact .inr ⟨19, rfl, by simp, rfl⟩
    ·have hz : (checkB t = 0) = False := by simpa using hz
     simp only [↓go1, go2, go3, go4, reduceIte, Nat.reduceEqDiff, Nat.reduceAdd, put_rd, List.length_map, List.length_cons, List.length_nil, Nat.zero_le, Nat.reduceLeDiff, Nat.reduceLT, and_self, true_and, and_true, and_false, false_and, List.cons.injEq, Nat.sub_zero, Nat.reduceSub, List.getElem?_cons_zero, List.getElem?_cons_succ, Nat.zero_add, rd_zero, rd_succ, Option.bind_some, Option.map_some, Option.isSome_some, callK_fun s15, callK_fun s27, callK_fun s29, callK_fun s30, f15, f27, f29, f30, hz]
   ·cases h
  ·cases h
end Go.Vd

namespace Go.Vd
open Go.RowKit
set_option linter.unusedSimpArgs false
set_option linter.unusedVariables false
set_option maxRecDepth 10000
theorem big_le {n : Nat} (h : n ≤ 9223372036854775807) : (n ≤ 9223372036854775807) = True := eq_true h
theorem Gw.ne {m : Mem} {c e : Nat} {t i : Id} {nl : Bool} {t0 : Id} {xs : List D} (h : Gw m c e false t) (hm : m i 0 = some (.slice nl t0 xs)) : i ≠ t := by
 rcases h with h | ⟨j, rfl, h1, h2⟩
 ·cases h
 ·rintro rfl; rw [hm] at h2; cases h2
set_option maxHeartbeats 4000000 in
theorem loop12a {S : Summs} {l : List Dn} {nl0 : Bool} {t0 : Id} {pre : List D} {y : D} {Q : Ex → St → Prop} (s28 : S 28 = some (funS F28)) (s33 : S 33 = some (funS F30)) (s34 : S 34 = some (funS F31)) (hb : l.length ≤ 64) (hpre : pre.length ≤ 1000)
  (hok : ∀ d ∈ l, d.line.length ≤ 500 ∧ d.reply.length ≤ 500)
  (hexit : ∀ st t, st.s 1 = .ptr [0] 0 → st.m [0] 4 = some y → st.s 5 = .slice false t (pre ++ l.map fun d => .str (joinB (callW d))) → Gw st.m st.c 9 false t → 1 ≤ st.c → Q (.exit 0) st) :
  ∀ (n k : Nat) (t : Id) st g, n = l.length - k → k ≤ l.length → st.s 6 = .int .i64 (k : Int) → st.s 1 = .ptr [0] 0 → st.m [0] 0 = some (.slice nl0 t0 (l.map dnD)) → st.m [0] 4 = some y →
   st.s 5 = .slice false t (pre ++ (l.take k).map fun d => .str (joinB (callW d))) → Gw st.m st.c 9 false t → 1 ≤ st.c →
   loopW S [] dc12l0 Q st g := by
 intro n
 induction n with
 | zero =>
  intro k t st g hn hk h6 h1 m0 m4 h5 hg hc1
  refine wp_loopd dc12l0.eq_1 ?_
  have : ¬ ((k : Int) < l.length) := by omega
  simp only [↓go1, go2, go3, go4, reduceIte, Nat.reduceEqDiff, Nat.reduceAdd, h6, h1, m0, List.length_map, this]
  rw [List.take_of_length_le (by omega)] at h5
  refine hexit _ t ?_ m4 ?_ (hg.more (by simp only; omega)) (by simp only; omega)
  ·simp only [↓go1, go2, go3, go4, reduceIte, Nat.reduceEqDiff, Nat.reduceAdd, h1]
  ·simp only [↓go1, go2, go3, go4, reduceIte, Nat.reduceEqDiff, Nat.reduceAdd, h5]
 | succ n ih =>
  intro k t st g hn hk h6 h1 m0 m4 h5 hg hc1
  refine wp_loopd dc12l0.eq_1 ?_
  have hlt : ((k : Int) < l.length) := by omega
  have hk0 : (0 : Int) ≤ (k : Int) := by omega
  have hkl : k < l.length := by omega
  have hx : (l.map dnD)[(k : Int).toNat]? = some (.agg [.int .i64 l[k].cl, .str l[k].line, .str l[k].reply, .int .i64 l[k].fr, .int .i64 l[k].at_, .int .i64 l[k].to, .bool l[k].is]) := by simp [hkl, dnD]
  have hw : IntKind.i64.wrap ((k : Int) + 1) = (k : Int) + 1 := IntWalk.i64_in _ ⟨by omega, by omega⟩
  have htk : l.take (k + 1) = l.take k ++ [l[k]] := by rw [List.take_add_one, List.getElem?_eq_getElem hkl]; rfl
  have hlen : (l.take k).length = k := by simp; omega
  have hdk := hok l[k] (List.getElem_mem hkl)
  have q1 := digits_len l[k].cl
  have q2 := digits_len l[k].fr
  have q3 := digits_len l[k].at_
  have q4 := digits_len l[k].to
  have q5 := flag_len l[k].is
  have q6 := word_len l[k].line
  have q7 := word_len l[k].reply
  obtain ⟨hd1, hd2⟩ := hdk
  have f28 : ∀ n, F28 [.int .i64 n] = some (.str (digitsB n)) := fun n => rfl
  have f30 : ∀ b, F30 [.bool b] = some (.str (flagB b)) := fun b => rfl
  have f31a : F31 [.str l[k].line] = some (.str (wordB l[k].line)) := if_pos (by omega)
  have f31b : F31 [.str l[k].reply] = some (.str (wordB l[k].reply)) := if_pos (by omega)
  simp (disch := omega) only [↓go1, go2, go3, go4, reduceIte, Nat.reduceEqDiff, Nat.reduceAdd, Nat.zero_le, Nat.sub_zero, Nat.reduceSub, Nat.reduceLT, List.take_succ_cons, List.take_zero, List.length_append, List.length_cons, List.length_nil, List.length_map, List.getElem?_cons_zero, List.getElem?_cons_succ, put_rd, rd_zero, rd_succ, Option.bind_some, Option.map_some, Option.isSome_some, true_and, and_true, and_false, and_self, Nat.le_refl, Nat.reduceLeDiff, h6, h1, m0, m4, h5, hlt, hk0, hx, hw, callK_fun s28, callK_fun s33, callK_fun s34, f28, f30, f31a, f31b, reduceCtorEq, big_le]
  refine Need.intro ⟨by simp only [List.length_append, List.length_map, List.length_take]; omega, rfl, (((hg.put (by omega)).put (by omega)).put (by omega)).toGrow⟩ ?_
  simp (disch := omega) only [↓go1, go2, go3, go4, reduceIte, Nat.reduceEqDiff, Nat.reduceAdd, Nat.zero_le, Nat.sub_zero, Nat.reduceSub, Nat.reduceLT, List.take_succ_cons, List.take_zero, List.length_append, List.length_cons, List.length_nil, List.length_map, List.getElem?_cons_zero, List.getElem?_cons_succ, put_rd, rd_zero, rd_succ, Option.bind_some, Option.map_some, Option.isSome_some, true_and, and_true, and_false, and_self, Nat.le_refl, Nat.reduceLeDiff, h6, h1, m0, m4, h5, hlt, hk0, hx, hw, callK_fun s28, callK_fun s33, callK_fun s34, f28, f30, f31a, f31b, reduceCtorEq, big_le]
  refine Need.intro (feetB_ok rfl) ?_
  simp (disch := omega) only [↓go1, go2, go3, go4, reduceIte, Nat.reduceEqDiff, Nat.reduceAdd, Nat.zero_le, Nat.sub_zero, Nat.reduceSub, Nat.reduceLT, List.take_succ_cons, List.take_zero, List.length_append, List.length_cons, List.length_nil, List.length_map, List.getElem?_cons_zero, List.getElem?_cons_succ, put_rd, rd_zero, rd_succ, Option.bind_some, Option.map_some, Option.isSome_some, true_and, and_true, and_false, and_self, Nat.le_refl, Nat.reduceLeDiff, h6, h1, m0, m4, h5, hlt, hk0, hx, hw, callK_fun s28, callK_fun s33, callK_fun s34, f28, f30, f31a, f31b, reduceCtorEq, big_le]
  have e1 : ([0] : Id) ≠ [st.c + 5 + 5] := by simp
  have e2 : ([0] : Id) ≠ [st.c + 5 + 7 + 36] := by simp
  have e3 : ([0] : Id) ≠ [st.c + 5 + 7 + 35] := by simp
  have e4 := hg.ne m0
  refine ih (k + 1) [st.c + 5 + 7 + 36] _ _ (by omega) (by omega) rfl h1 ?_ ?_ ?_ (Gw.new (by simp only; omega)) (by simp only; omega)
  ·simp only [growU, Upd.app, put_tok, e2, e3, e4, false_and, reduceIte, Mem.put_other e1, m0]
  ·simp only [growU, Upd.app, put_tok, Nat.reduceEqDiff, and_false, reduceIte, Mem.put_other e1, m4]
  ·have hj : joinB (callW l[k]) = [99, 97, 108, 108, 32] ++ digitsB l[k].cl ++ [32] ++ digitsB l[k].fr ++ [32] ++ digitsB l[k].at_ ++ [32] ++ digitsB l[k].to ++ [32] ++ flagB l[k].is ++ [32] ++ wordB l[k].line ++ [32] ++ wordB l[k].reply := by
    simp [joinB, callW, kCall]
   rw [htk, List.map_append, ← List.append_assoc]
   simp only [List.map_cons, List.map_nil, hj]; rfl
set_option maxHeartbeats 2000000 in
theorem loop12b {S : Summs} {l : List Bs} {nl0 : Bool} {t0 : Id} {pre : List D} {Q : Ex → St → Prop} (s34 : S 34 = some (funS F31)) (hb : l.length ≤ 64) (hpre : pre.length ≤ 1000)
  (hok : ∀ d ∈ l, d.length ≤ 500)
  (hexit : ∀ st t, st.s 5 = .slice false t (pre ++ l.map fun d => .str (joinB (saidW d))) → Q (.exit 2) st) :
  ∀ (n k : Nat) (t : Id) st g, n = l.length - k → k ≤ l.length → st.s 8 = .int .i64 (k : Int) → st.s 1 = .ptr [0] 0 → st.m [0] 4 = some (.slice nl0 t0 (l.map .str)) →
   st.s 5 = .slice false t (pre ++ (l.take k).map fun d => .str (joinB (saidW d))) → Gw st.m st.c 9 false t → 1 ≤ st.c →
   loopW S [] dc12l1 Q st g := by
 intro n
 induction n with
 | zero =>
  intro k t st g hn hk h6 h1 m4 h5 hg hc1
  refine wp_loopd dc12l1.eq_1 ?_
  have : ¬ ((k : Int) < l.length) := by omega
  simp only [↓go1, go2, go3, go4, reduceIte, Nat.reduceEqDiff, Nat.reduceAdd, h6, h1, m4, List.length_map, this]
  rw [List.take_of_length_le (by omega)] at h5
  refine hexit _ t ?_
  simp only [↓go1, go2, go3, go4, reduceIte, Nat.reduceEqDiff, Nat.reduceAdd, h5]
 | succ n ih =>
  intro k t st g hn hk h6 h1 m4 h5 hg hc1
  refine wp_loopd dc12l1.eq_1 ?_
  have hlt : ((k : Int) < l.length) := by omega
  have hk0 : (0 : Int) ≤ (k : Int) := by omega
  have hkl : k < l.length := by omega
  have hx : (l.map D.str)[(k : Int).toNat]? = some (.str l[k]) := by simp [hkl]
  have hw : IntKind.i64.wrap ((k : Int) + 1) = (k : Int) + 1 := IntWalk.i64_in _ ⟨by omega, by omega⟩
  have htk : l.take (k + 1) = l.take k ++ [l[k]] := by rw [List.take_add_one, List.getElem?_eq_getElem hkl]; rfl
  have hlen : (l.take k).length = k := by simp; omega
  have hdk := hok l[k] (List.getElem_mem hkl)
  have q6 := word_len l[k]
  have f31a : F31 [.str l[k]] = some (.str (wordB l[k])) := if_pos (by omega)
  simp (disch := omega) only [↓go1, go2, go3, go4, reduceIte, Nat.reduceEqDiff, Nat.reduceAdd, Nat.zero_le, Nat.sub_zero, Nat.reduceSub, Nat.reduceLT, List.take_succ_cons, List.take_zero, List.length_append, List.length_cons, List.length_nil, List.length_map, List.getElem?_cons_zero, List.getElem?_cons_succ, put_rd, rd_zero, rd_succ, Option.bind_some, Option.map_some, Option.isSome_some, true_and, and_true, and_false, and_self, Nat.le_refl, Nat.reduceLeDiff, h6, h1, m4, h5, hlt, hk0, hx, hw, callK_fun s34, f31a, reduceCtorEq, big_le]
  refine Need.intro ⟨by simp only [List.length_append, List.length_map, List.length_take]; omega, rfl, (hg.put (by omega)).toGrow⟩ ?_
  simp (disch := omega) only [↓go1, go2, go3, go4, reduceIte, Nat.reduceEqDiff, Nat.reduceAdd, Nat.zero_le, Nat.sub_zero, Nat.reduceSub, Nat.reduceLT, List.take_succ_cons, List.take_zero, List.length_append, List.length_cons, List.length_nil, List.length_map, List.getElem?_cons_zero, List.getElem?_cons_succ, put_rd, rd_zero, rd_succ, Option.bind_some, Option.map_some, Option.isSome_some, true_and, and_true, and_false, and_self, Nat.le_refl, Nat.reduceLeDiff, h6, h1, m4, h5, hlt, hk0, hx, hw, callK_fun s34, f31a, reduceCtorEq, big_le]
  refine ih (k + 1) [st.c + 5 + 9] _ _ (by omega) (by omega) rfl h1 ?_ ?_ (Gw.new (by simp only; omega)) (by simp only; omega)
  ·simp only [growU, Upd.app, put_tok, Nat.reduceEqDiff, and_false, reduceIte, m4]
  ·rw [htk, List.map_append, ← List.append_assoc]; rfl
theorem ok12 {P : Program} (hd : Desk P) (h28 : (funS F28).ok P 28) (h16 : (funS F16).ok P 16) : (funS Flines).ok P 12 := by
 have hS : Summs.ok P (tabL [(16, funS F16), (28, funS F28), (33, funS F30), (34, funS F31)]) := tabL_cons h16 (tabL_cons h28 (tabL_cons (ok33 hd) (tabL_cons (ok34 hd) tabL_nil)))
 have s16 : tabL [(16, funS F16), (28, funS F28), (33, funS F30), (34, funS F31)] 16 = some (funS F16) := rfl
 have s28 : tabL [(16, funS F16), (28, funS F28), (33, funS F30), (34, funS F31)] 28 = some (funS F28) := rfl
 have s33 : tabL [(16, funS F16), (28, funS F28), (33, funS F30), (34, funS F31)] 33 = some (funS F30) := rfl
 have s34 : tabL [(16, funS F16), (28, funS F28), (33, funS F30), (34, funS F31)] 34 = some (funS F31) := rfl
 generalize tabL [(16, funS F16), (28, funS F28), (33, funS F30), (34, funS F31)] = S at hS s16 s28 s33 s34
 refine fun_ok (S := S) hS hd.f12 (fun ds r h => ?_) (fun ds r h => ?_)
 ·unfold Flines at h; split at h
  ·simp
  ·cases h
 ·unfold Flines at h; split at h
  ·rename_i d
   split at h
   ·rename_i nc nb t ht
    obtain ⟨x, y, rfl⟩ := tdOf_some ht
    simp only [Option.some.injEq] at h
    subst h
    have f16 : ∀ x y, F16 [.agg [.slice nc x (t.calls.map dnD), .int .i64 t.ticks, .int .i64 t.left, .bool t.shut, .slice nb y (t.behind.map .str)]] = some (.int .i64 (checkB t)) := fun x y => by
     simp only [F16, tdOf, dnsOf_map, strsOf_map]
    have f28 : ∀ n, F28 [.int .i64 n] = some (.str (digitsB n)) := fun n => rfl
    have f30 : ∀ b, F30 [.bool b] = some (.str (flagB b)) := fun b => rfl
    have q1 := digits_len t.ticks
    have q2 := digits_len t.left
    have q5 := flag_len t.shut
    have hj : joinB (toldW t) = [116, 111, 108, 100, 32] ++ digitsB t.ticks ++ [32] ++ digitsB t.left ++ [32] ++ flagB t.shut := by
     simp [joinB, toldW, kTold]
    unfold dc12
    by_cases hz : checkB t = 0
    ·simp (disch := omega) only [↓go1, go2, go3, go4, reduceIte, Nat.reduceEqDiff, Nat.reduceAdd, put_rd, List.length_append, List.length_map, List.length_cons, List.length_nil, Nat.zero_le, Nat.reduceLeDiff, Nat.reduceLT, and_self, true_and, and_true, and_false, false_and, List.cons.injEq, Nat.sub_zero, Nat.reduceSub, List.getElem?_cons_zero, List.getElem?_cons_succ, Nat.zero_add, rd_zero, rd_succ, Option.bind_some, Option.map_some, Option.isSome_some, callK_fun s16, callK_fun s28, callK_fun s33, f16, f28, f30, hz, big_le]
     refine Need.intro (feetB_ok rfl) ?_
     simp (disch := omega) only [↓go1, go2, go3, go4, reduceIte, Nat.reduceEqDiff, Nat.reduceAdd, put_rd, List.length_append, List.length_map, List.length_cons, List.length_nil, Nat.zero_le, Nat.reduceLeDiff, Nat.reduceLT, and_self, true_and, and_true, and_false, false_and, List.cons.injEq, Nat.sub_zero, Nat.reduceSub, List.getElem?_cons_zero, List.getElem?_cons_succ, Nat.zero_add, rd_zero, rd_succ, Option.bind_some, Option.map_some, Option.isSome_some, callK_fun s16, callK_fun s28, callK_fun s33, f16, f28, f30, hz, big_le]
     obtain ⟨b1, b2, b3, b4⟩ := lines_ok hz
     refine loop12a (l := t.calls) (pre := [.str (joinB (toldW t))]) (y := .slice nb y (t.behind.map .str)) s28 s33 s34 b1 (by simp) b3 (fun st u a1 a2 a3 a4 a5 => ?_) t.calls.length 0 [22] _ _ rfl (by omega) rfl rfl rfl rfl ?_ ?_ (by simp)
     ·simp (disch := omega) only [↓go1, go2, go3, go4, reduceIte, Nat.reduceEqDiff, Nat.reduceAdd, put_rd, List.length_append, List.length_map, List.length_cons, List.length_nil, Nat.zero_le, Nat.reduceLeDiff, Nat.reduceLT, and_self, true_and, and_true, and_false, false_and, List.cons.injEq, Nat.sub_zero, Nat.reduceSub, List.getElem?_cons_zero, List.getElem?_cons_succ, Nat.zero_add, rd_zero, rd_succ, Option.bind_some, Option.map_some, Option.isSome_some, callK_fun s16, callK_fun s28, callK_fun s33, f16, f28, f30, hz, big_le, a1, a2, a3]
      refine loop12b (l := t.behind) (pre := [.str (joinB (toldW t))] ++ t.calls.map fun d => .str (joinB (callW d))) s34 b2 (by simp; omega) b4 (fun st u c => ?_) t.behind.length 0 u _ _ rfl (by omega) rfl ?_ a2 ?_ ?_ (by simp only; omega)
      ·simp (disch := omega) only [↓go1, go2, go3, go4, reduceIte, Nat.reduceEqDiff, Nat.reduceAdd, put_rd, List.length_append, List.length_map, List.length_cons, List.length_nil, Nat.zero_le, Nat.reduceLeDiff, Nat.reduceLT, and_self, true_and, and_true, and_false, false_and, List.cons.injEq, Nat.sub_zero, Nat.reduceSub, List.getElem?_cons_zero, List.getElem?_cons_succ, Nat.zero_add, rd_zero, rd_succ, Option.bind_some, Option.map_some, Option.isSome_some, callK_fun s16, callK_fun s28, callK_fun s33, f16, f28, f30, hz, big_le, c]
       simp [linesB, List.map_map, Function.comp_def]
      ·simp only [↓go1, go2, go3, go4, reduceIte, Nat.reduceEqDiff, Nat.reduceAdd, a1]
      ·simp only [↓go1, go2, go3, go4, reduceIte, Nat.reduceEqDiff, Nat.reduceAdd, a3, List.take_zero, List.map_nil, List.append_nil]
      ·exact a4.more (by simp only; omega)
     ·rw [hj]; rfl
     ·exact .inr ⟨22, rfl, by simp, rfl⟩
    ·have hz : (checkB t = 0) = False := by simpa using hz
     simp (disch := omega) only [↓go1, go2, go3, go4, reduceIte, Nat.reduceEqDiff, Nat.reduceAdd, put_rd, List.length_append, List.length_map, List.length_cons, List.length_nil, Nat.zero_le, Nat.reduceLeDiff, Nat.reduceLT, and_self, true_and, and_true, and_false, false_and, List.cons.injEq, Nat.sub_zero, Nat.reduceSub, List.getElem?_cons_zero, List.getElem?_cons_succ, Nat.zero_add, rd_zero, rd_succ, Option.bind_some, Option.map_some, Option.isSome_some, callK_fun s16, callK_fun s28, callK_fun s33, f16, f28, f30, hz, big_le]
   ·cases h
  ·cases h
end Go.Vd

namespace Go.Vd
open Go.RowKit
set_option linter.unusedSimpArgs false
set_option linter.unusedVariables false
set_option maxRecDepth 10000
def Fst : List D → Option D
 | [.slice _ _ xs, .slice _ _ ys] => match strsOf xs, strsOf ys with
  | some a, some b => if a.length ≤ 1000000000 then some (.bool (decide (a = b))) else none
  | _, _ => none
 | _ => none
def Fsd : List D → Option D
 | [.slice _ _ xs, .slice _ _ ys] => match dnsOf xs, dnsOf ys with
  | some a, some b => if a.length ≤ 1000000000 then some (.bool (decide (a = b))) else none
  | _, _ => none
 | _ => none
theorem leaves_eq {a b : Dn} (h : a = b) : leavesEq [.int .i64 a.cl, .str a.line, .str a.reply, .int .i64 a.fr, .int .i64 a.at_, .int .i64 a.to, .bool a.is] [.int .i64 b.cl, .str b.line, .str b.reply, .int .i64 b.fr, .int .i64 b.at_, .int .i64 b.to, .bool b.is] [(0, 0), (2, 1), (2, 2), (0, 3), (0, 4), (0, 5), (1, 6)] = some true := by
 subst h; simp [leavesEq, leafEq]
theorem leaves_ne {a b : Dn} (h : a ≠ b) : leavesEq [.int .i64 a.cl, .str a.line, .str a.reply, .int .i64 a.fr, .int .i64 a.at_, .int .i64 a.to, .bool a.is] [.int .i64 b.cl, .str b.line, .str b.reply, .int .i64 b.fr, .int .i64 b.at_, .int .i64 b.to, .bool b.is] [(0, 0), (2, 1), (2, 2), (0, 3), (0, 4), (0, 5), (1, 6)] = some false := by
 cases a with | mk a1 a2 a3 a4 a5 a6 a7 =>
 cases b with | mk b1 b2 b3 b4 b5 b6 b7 =>
 simp only [ne_eq, Dn.mk.injEq] at h
 simp only [leavesEq, leafEq, List.getElem?_cons_zero, List.getElem?_cons_succ, if_true]
 by_cases h1 : a1 = b1
 ·by_cases h2 : a2 = b2
  ·by_cases h3 : a3 = b3
   ·by_cases h4 : a4 = b4
    ·by_cases h5 : a5 = b5
     ·by_cases h6 : a6 = b6
      ·by_cases h7 : a7 = b7
       ·exact absurd ⟨h1, h2, h3, h4, h5, h6, h7⟩ h
       ·simp [h1, h2, h3, h4, h5, h6, beq_eq_false_iff_ne.2 h7]
      ·simp [h1, h2, h3, h4, h5, beq_eq_false_iff_ne.2 h6]
     ·simp [h1, h2, h3, h4, beq_eq_false_iff_ne.2 h5]
    ·simp [h1, h2, h3, beq_eq_false_iff_ne.2 h4]
   ·simp [h1, h2, beq_eq_false_iff_ne.2 h3]
  ·simp [h1, beq_eq_false_iff_ne.2 h2]
 ·simp [beq_eq_false_iff_ne.2 h1]
set_option maxHeartbeats 1000000 in
theorem loop17 {S : Summs} {a b : List Bs} {nl nl2 : Bool} {t t2 : Id} {Q : Ex → St → Prop} (hab : a.length = b.length) (hb : a.length ≤ 1000000000)
  (hret : ∀ st, a ≠ b → st.s 4 = .bool false → Q .ret st)
  (hexit : ∀ st, a = b → Q (.exit 0) st) :
  ∀ (n k : Nat) st g, n = a.length - k → k ≤ a.length → (∀ j, j < k → a[j]? = b[j]?) → st.s 5 = .int .i64 (k : Int) → st.s 0 = .slice nl t (a.map .str) → st.s 1 = .slice nl2 t2 (b.map .str) → loopW S [] dc17l0 Q st g := by
 intro n
 induction n with
 | zero =>
  intro k st g hn hk hall h5 h0 h1
  refine wp_loopd dc17l0.eq_1 ?_
  have : ¬ ((k : Int) < a.length) := by omega
  simp only [↓go1, go2, go3, go4, reduceIte, Nat.reduceEqDiff, Nat.reduceAdd, h5, h0, h1, List.length_map, this]
  refine hexit _ (List.ext_getElem? fun j => ?_)
  by_cases hj : j < k
  ·exact hall j hj
  ·rw [List.getElem?_eq_none (by omega), List.getElem?_eq_none (by omega)]
 | succ n ih =>
  intro k st g hn hk hall h5 h0 h1
  refine wp_loopd dc17l0.eq_1 ?_
  have hlt : ((k : Int) < a.length) := by omega
  have hk0 : (0 : Int) ≤ (k : Int) := by omega
  have hka : k < a.length := by omega
  have hkb : k < b.length := by omega
  have hx : (a.map D.str)[(k : Int).toNat]? = some (.str a[k]) := by simp [hka]
  have hy : (b.map D.str)[(k : Int).toNat]? = some (.str b[k]) := by simp [hkb]
  have hw : IntKind.i64.wrap ((k : Int) + 1) = (k : Int) + 1 := IntWalk.i64_in _ ⟨by omega, by omega⟩
  by_cases hc : a[k] = b[k]
  ·have hl := True.intro
   simp only [↓go1, go2, go3, go4, reduceIte, Nat.reduceEqDiff, Nat.reduceAdd, Nat.zero_le, Nat.sub_zero, Nat.reduceSub, List.drop_zero, List.drop_succ_cons, Nat.reduceLeDiff, List.length_cons, List.length_nil, List.take_succ_cons, List.take_zero, Nat.le_refl, h5, h0, h1, List.length_map, hlt, hk0, hx, hy, hw, hc, hl, Bool.bne_true, Bool.bne_false, Bool.not_true, Bool.not_false, bne_self_eq_false, Bool.false_bne, Bool.true_bne, Option.map_some]
   refine Need.intro (feetB_ok rfl) ?_
   simp only [↓go1, go2, go3, go4, reduceIte, Nat.reduceEqDiff, Nat.reduceAdd, Nat.zero_le, Nat.sub_zero, Nat.reduceSub, List.drop_zero, List.drop_succ_cons, Nat.reduceLeDiff, List.length_cons, List.length_nil, List.take_succ_cons, List.take_zero, Nat.le_refl, h5, h0, h1, List.length_map, hlt, hk0, hx, hy, hw, hc, hl, Bool.bne_true, Bool.bne_false, Bool.not_true, Bool.not_false, bne_self_eq_false, Bool.false_bne, Bool.true_bne, Option.map_some]
   refine ih (k + 1) _ _ (by omega) (by omega) (fun j hj => ?_) rfl h0 h1
   rcases Nat.lt_or_eq_of_le (Nat.le_of_lt_succ hj) with hj | rfl
   ·exact hall j hj
   ·rw [List.getElem?_eq_getElem hka, List.getElem?_eq_getElem hkb, hc]
  ·have hl := True.intro
   simp only [↓go1, go2, go3, go4, reduceIte, Nat.reduceEqDiff, Nat.reduceAdd, Nat.zero_le, Nat.sub_zero, Nat.reduceSub, List.drop_zero, List.drop_succ_cons, Nat.reduceLeDiff, List.length_cons, List.length_nil, List.take_succ_cons, List.take_zero, Nat.le_refl, h5, h0, h1, List.length_map, hlt, hk0, hx, hy, hw, hc, hl, Bool.bne_true, Bool.bne_false, Bool.not_true, Bool.not_false, bne_self_eq_false, Bool.false_bne, Bool.true_bne, Option.map_some]
   refine Need.intro (feetB_ok rfl) ?_
   simp only [↓go1, go2, go3, go4, reduceIte, Nat.reduceEqDiff, Nat.reduceAdd, Nat.zero_le, Nat.sub_zero, Nat.reduceSub, List.drop_zero, List.drop_succ_cons, Nat.reduceLeDiff, List.length_cons, List.length_nil, List.take_succ_cons, List.take_zero, Nat.le_refl, h5, h0, h1, List.length_map, hlt, hk0, hx, hy, hw, hc, hl, Bool.bne_true, Bool.bne_false, Bool.not_true, Bool.not_false, bne_self_eq_false, Bool.false_bne, Bool.true_bne, Option.map_some]
   refine hret _ (fun e => ?_) rfl
   subst e; exact hc rfl
theorem ok17 {P : Program} (hd : Desk P) : (funS Fst).ok P 17 := by
 refine fun_ok (S := tabL []) tabL_nil hd.f17 (fun ds r h => ?_) (fun ds r h => ?_)
 ·unfold Fst at h; split at h
  ·simp
  ·cases h
 ·unfold Fst at h; split at h
  ·rename_i nl t xs nl2 t2 ys
   split at h
   ·rename_i a b ha hb
    obtain rfl := strsOf_some ha
    obtain rfl := strsOf_some hb
    split at h
    ·rename_i hlen
     simp only [Option.some.injEq] at h
     subst h
     unfold dc17
     by_cases hc : a.length = b.length
     ·have he : ((a.length : Int) = (b.length : Int)) = True := by simp; omega
      simp only [↓go1, go2, go3, go4, reduceIte, Nat.reduceEqDiff, Nat.reduceAdd, List.length_map, he]
      refine loop17 (a := a) (b := b) (nl := nl) (t := t) (nl2 := nl2) (t2 := t2) hc hlen (fun st h1 h2 => ?_) (fun st h1 => ?_) a.length 0 _ _ rfl (by omega) (by omega) rfl rfl rfl
      ·simp only [↓go1, go2, go3, go4, reduceIte, Nat.reduceEqDiff, Nat.reduceAdd, h2]
       simp [h1]
      ·simp only [↓go1, go2, go3, go4, reduceIte, Nat.reduceEqDiff, Nat.reduceAdd]
       simp [h1]
     ·have he : ((a.length : Int) = (b.length : Int)) = False := by simp; omega
      simp only [↓go1, go2, go3, go4, reduceIte, Nat.reduceEqDiff, Nat.reduceAdd, List.length_map, he]
      have : a ≠ b := fun e => hc (by rw [e])
      simp [this]
    ·cases h
   ·cases h
  ·cases h
set_option maxHeartbeats 1000000 in
theorem loop44 {S : Summs} {a b : List Bs} {nl nl2 : Bool} {t t2 : Id} {Q : Ex → St → Prop} (hab : a.length = b.length) (hb : a.length ≤ 1000000000)
  (hret : ∀ st, a ≠ b → st.s 4 = .bool false → Q .ret st)
  (hexit : ∀ st, a = b → Q (.exit 0) st) :
  ∀ (n k : Nat) st g, n = a.length - k → k ≤ a.length → (∀ j, j < k → a[j]? = b[j]?) → st.s 13 = .int .i64 (k : Int) → st.s 12 = .int .i64 (a.length : Int) → st.s 0 = .slice nl t (a.map .str) → st.s 1 = .slice nl2 t2 (b.map .str) → loopW S [] dc44l0 Q st g := by
 intro n
 induction n with
 | zero =>
  intro k st g hn hk hall h5 h12 h0 h1
  refine wp_loopd dc44l0.eq_1 ?_
  have : ¬ ((k : Int) < a.length) := by omega
  simp only [↓go1, go2, go3, go4, reduceIte, Nat.reduceEqDiff, Nat.reduceAdd, h5, h12, h0, h1, List.length_map, this]
  refine hexit _ (List.ext_getElem? fun j => ?_)
  by_cases hj : j < k
  ·exact hall j hj
  ·rw [List.getElem?_eq_none (by omega), List.getElem?_eq_none (by omega)]
 | succ n ih =>
  intro k st g hn hk hall h5 h12 h0 h1
  refine wp_loopd dc44l0.eq_1 ?_
  have hlt : ((k : Int) < a.length) := by omega
  have hk0 : (0 : Int) ≤ (k : Int) := by omega
  have hka : k < a.length := by omega
  have hkb : k < b.length := by omega
  have hx : (a.map D.str)[(k : Int).toNat]? = some (.str a[k]) := by simp [hka]
  have hy : (b.map D.str)[(k : Int).toNat]? = some (.str b[k]) := by simp [hkb]
  have hw : IntKind.i64.wrap ((k : Int) + 1) = (k : Int) + 1 := IntWalk.i64_in _ ⟨by omega, by omega⟩
  by_cases hc : a[k] = b[k]
  ·have hl := True.intro
   simp only [↓go1, go2, go3, go4, reduceIte, Nat.reduceEqDiff, Nat.reduceAdd, Nat.zero_le, Nat.sub_zero, Nat.reduceSub, List.drop_zero, List.drop_succ_cons, Nat.reduceLeDiff, List.length_cons, List.length_nil, List.take_succ_cons, List.take_zero, Nat.le_refl, h5, h12, h0, h1, List.length_map, hlt, hk0, hx, hy, hw, hc, hl, Bool.bne_true, Bool.bne_false, Bool.not_true, Bool.not_false, bne_self_eq_false, Bool.false_bne, Bool.true_bne, Option.map_some]
   refine Need.intro (feetB_ok rfl) ?_
   simp only [↓go1, go2, go3, go4, reduceIte, Nat.reduceEqDiff, Nat.reduceAdd, Nat.zero_le, Nat.sub_zero, Nat.reduceSub, List.drop_zero, List.drop_succ_cons, Nat.reduceLeDiff, List.length_cons, List.length_nil, List.take_succ_cons, List.take_zero, Nat.le_refl, h5, h12, h0, h1, List.length_map, hlt, hk0, hx, hy, hw, hc, hl, Bool.bne_true, Bool.bne_false, Bool.not_true, Bool.not_false, bne_self_eq_false, Bool.false_bne, Bool.true_bne, Option.map_some]
   refine ih (k + 1) _ _ (by omega) (by omega) (fun j hj => ?_) rfl h12 h0 h1
   rcases Nat.lt_or_eq_of_le (Nat.le_of_lt_succ hj) with hj | rfl
   ·exact hall j hj
   ·rw [List.getElem?_eq_getElem hka, List.getElem?_eq_getElem hkb, hc]
  ·have hl := True.intro
   simp only [↓go1, go2, go3, go4, reduceIte, Nat.reduceEqDiff, Nat.reduceAdd, Nat.zero_le, Nat.sub_zero, Nat.reduceSub, List.drop_zero, List.drop_succ_cons, Nat.reduceLeDiff, List.length_cons, List.length_nil, List.take_succ_cons, List.take_zero, Nat.le_refl, h5, h12, h0, h1, List.length_map, hlt, hk0, hx, hy, hw, hc, hl, Bool.bne_true, Bool.bne_false, Bool.not_true, Bool.not_false, bne_self_eq_false, Bool.false_bne, Bool.true_bne, Option.map_some]
   refine Need.intro (feetB_ok rfl) ?_
   simp only [↓go1, go2, go3, go4, reduceIte, Nat.reduceEqDiff, Nat.reduceAdd, Nat.zero_le, Nat.sub_zero, Nat.reduceSub, List.drop_zero, List.drop_succ_cons, Nat.reduceLeDiff, List.length_cons, List.length_nil, List.take_succ_cons, List.take_zero, Nat.le_refl, h5, h12, h0, h1, List.length_map, hlt, hk0, hx, hy, hw, hc, hl, Bool.bne_true, Bool.bne_false, Bool.not_true, Bool.not_false, bne_self_eq_false, Bool.false_bne, Bool.true_bne, Option.map_some]
   refine hret _ (fun e => ?_) rfl
   subst e; exact hc rfl
theorem ok44 {P : Program} (hd : Desk P) : (funS Fst).ok P 44 := by
 refine fun_ok (S := tabL []) tabL_nil hd.f44 (fun ds r h => ?_) (fun ds r h => ?_)
 ·unfold Fst at h; split at h
  ·simp
  ·cases h
 ·unfold Fst at h; split at h
  ·rename_i nl t xs nl2 t2 ys
   split at h
   ·rename_i a b ha hb
    obtain rfl := strsOf_some ha
    obtain rfl := strsOf_some hb
    split at h
    ·rename_i hlen
     simp only [Option.some.injEq] at h
     subst h
     unfold dc44
     by_cases hc : a.length = b.length
     ·have he : ((a.length : Int) = (b.length : Int)) = True := by simp; omega
      simp only [↓go1, go2, go3, go4, reduceIte, Nat.reduceEqDiff, Nat.reduceAdd, List.length_map, he]
      refine loop44 (a := a) (b := b) (nl := nl) (t := t) (nl2 := nl2) (t2 := t2) hc hlen (fun st h1 h2 => ?_) (fun st h1 => ?_) a.length 0 _ _ rfl (by omega) (by omega) rfl rfl rfl rfl
      ·simp only [↓go1, go2, go3, go4, reduceIte, Nat.reduceEqDiff, Nat.reduceAdd, h2]
       simp [h1]
      ·simp only [↓go1, go2, go3, go4, reduceIte, Nat.reduceEqDiff, Nat.reduceAdd]
       simp [h1]
     ·have he : ((a.length : Int) = (b.length : Int)) = False := by simp; omega
      simp only [↓go1, go2, go3, go4, reduceIte, Nat.reduceEqDiff, Nat.reduceAdd, List.length_map, he]
      have : a ≠ b := fun e => hc (by rw [e])
      simp [this]
    ·cases h
   ·cases h
  ·cases h
set_option maxHeartbeats 1000000 in
theorem loop43 {S : Summs} {a b : List Dn} {nl nl2 : Bool} {t t2 : Id} {Q : Ex → St → Prop} (hab : a.length = b.length) (hb : a.length ≤ 1000000000)
  (hret : ∀ st, a ≠ b → st.s 4 = .bool false → Q .ret st)
  (hexit : ∀ st, a = b → Q (.exit 0) st) :
  ∀ (n k : Nat) st g, n = a.length - k → k ≤ a.length → (∀ j, j < k → a[j]? = b[j]?) → st.s 13 = .int .i64 (k : Int) → st.s 12 = .int .i64 (a.length : Int) → st.s 0 = .slice nl t (a.map dnD) → st.s 1 = .slice nl2 t2 (b.map dnD) → loopW S [] dc43l0 Q st g := by
 intro n
 induction n with
 | zero =>
  intro k st g hn hk hall h5 h12 h0 h1
  refine wp_loopd dc43l0.eq_1 ?_
  have : ¬ ((k : Int) < a.length) := by omega
  simp only [↓go1, go2, go3, go4, reduceIte, Nat.reduceEqDiff, Nat.reduceAdd, h5, h12, h0, h1, List.length_map, this]
  refine hexit _ (List.ext_getElem? fun j => ?_)
  by_cases hj : j < k
  ·exact hall j hj
  ·rw [List.getElem?_eq_none (by omega), List.getElem?_eq_none (by omega)]
 | succ n ih =>
  intro k st g hn hk hall h5 h12 h0 h1
  refine wp_loopd dc43l0.eq_1 ?_
  have hlt : ((k : Int) < a.length) := by omega
  have hk0 : (0 : Int) ≤ (k : Int) := by omega
  have hka : k < a.length := by omega
  have hkb : k < b.length := by omega
  have hx : (a.map dnD)[(k : Int).toNat]? = some (.agg [.int .i64 a[k].cl, .str a[k].line, .str a[k].reply, .int .i64 a[k].fr, .int .i64 a[k].at_, .int .i64 a[k].to, .bool a[k].is]) := by simp [hka, dnD]
  have hy : (b.map dnD)[(k : Int).toNat]? = some (.agg [.int .i64 b[k].cl, .str b[k].line, .str b[k].reply, .int .i64 b[k].fr, .int .i64 b[k].at_, .int .i64 b[k].to, .bool b[k].is]) := by simp [hkb, dnD]
  have hw : IntKind.i64.wrap ((k : Int) + 1) = (k : Int) + 1 := IntWalk.i64_in _ ⟨by omega, by omega⟩
  by_cases hc : a[k] = b[k]
  ·have hl := leaves_eq hc
   simp only [↓go1, go2, go3, go4, reduceIte, Nat.reduceEqDiff, Nat.reduceAdd, Nat.zero_le, Nat.sub_zero, Nat.reduceSub, List.drop_zero, List.drop_succ_cons, Nat.reduceLeDiff, List.length_cons, List.length_nil, List.take_succ_cons, List.take_zero, Nat.le_refl, h5, h12, h0, h1, List.length_map, hlt, hk0, hx, hy, hw, hl, Bool.bne_true, Bool.bne_false, Bool.not_true, Bool.not_false, bne_self_eq_false, Bool.false_bne, Bool.true_bne, Option.map_some]
   refine Need.intro (feetB_ok rfl) ?_
   simp only [↓go1, go2, go3, go4, reduceIte, Nat.reduceEqDiff, Nat.reduceAdd, Nat.zero_le, Nat.sub_zero, Nat.reduceSub, List.drop_zero, List.drop_succ_cons, Nat.reduceLeDiff, List.length_cons, List.length_nil, List.take_succ_cons, List.take_zero, Nat.le_refl, h5, h12, h0, h1, List.length_map, hlt, hk0, hx, hy, hw, hl, Bool.bne_true, Bool.bne_false, Bool.not_true, Bool.not_false, bne_self_eq_false, Bool.false_bne, Bool.true_bne, Option.map_some]
   refine ih (k + 1) _ _ (by omega) (by omega) (fun j hj => ?_) rfl h12 h0 h1
   rcases Nat.lt_or_eq_of_le (Nat.le_of_lt_succ hj) with hj | rfl
   ·exact hall j hj
   ·rw [List.getElem?_eq_getElem hka, List.getElem?_eq_getElem hkb, hc]
  ·have hl := leaves_ne hc
   simp only [↓go1, go2, go3, go4, reduceIte, Nat.reduceEqDiff, Nat.reduceAdd, Nat.zero_le, Nat.sub_zero, Nat.reduceSub, List.drop_zero, List.drop_succ_cons, Nat.reduceLeDiff, List.length_cons, List.length_nil, List.take_succ_cons, List.take_zero, Nat.le_refl, h5, h12, h0, h1, List.length_map, hlt, hk0, hx, hy, hw, hl, Bool.bne_true, Bool.bne_false, Bool.not_true, Bool.not_false, bne_self_eq_false, Bool.false_bne, Bool.true_bne, Option.map_some]
   refine Need.intro (feetB_ok rfl) ?_
   simp only [↓go1, go2, go3, go4, reduceIte, Nat.reduceEqDiff, Nat.reduceAdd, Nat.zero_le, Nat.sub_zero, Nat.reduceSub, List.drop_zero, List.drop_succ_cons, Nat.reduceLeDiff, List.length_cons, List.length_nil, List.take_succ_cons, List.take_zero, Nat.le_refl, h5, h12, h0, h1, List.length_map, hlt, hk0, hx, hy, hw, hl, Bool.bne_true, Bool.bne_false, Bool.not_true, Bool.not_false, bne_self_eq_false, Bool.false_bne, Bool.true_bne, Option.map_some]
   refine hret _ (fun e => ?_) rfl
   subst e; exact hc rfl
theorem ok43 {P : Program} (hd : Desk P) : (funS Fsd).ok P 43 := by
 refine fun_ok (S := tabL []) tabL_nil hd.f43 (fun ds r h => ?_) (fun ds r h => ?_)
 ·unfold Fsd at h; split at h
  ·simp
  ·cases h
 ·unfold Fsd at h; split at h
  ·rename_i nl t xs nl2 t2 ys
   split at h
   ·rename_i a b ha hb
    obtain rfl := dnsOf_some ha
    obtain rfl := dnsOf_some hb
    split at h
    ·rename_i hlen
     simp only [Option.some.injEq] at h
     subst h
     unfold dc43
     by_cases hc : a.length = b.length
     ·have he : ((a.length : Int) = (b.length : Int)) = True := by simp; omega
      simp only [↓go1, go2, go3, go4, reduceIte, Nat.reduceEqDiff, Nat.reduceAdd, List.length_map, he]
      refine loop43 (a := a) (b := b) (nl := nl) (t := t) (nl2 := nl2) (t2 := t2) hc hlen (fun st h1 h2 => ?_) (fun st h1 => ?_) a.length 0 _ _ rfl (by omega) (by omega) rfl rfl rfl rfl
      ·simp only [↓go1, go2, go3, go4, reduceIte, Nat.reduceEqDiff, Nat.reduceAdd, h2]
       simp [h1]
      ·simp only [↓go1, go2, go3, go4, reduceIte, Nat.reduceEqDiff, Nat.reduceAdd]
       simp [h1]
     ·have he : ((a.length : Int) = (b.length : Int)) = False := by simp; omega
      simp only [↓go1, go2, go3, go4, reduceIte, Nat.reduceEqDiff, Nat.reduceAdd, List.length_map, he]
      have : a ≠ b := fun e => hc (by rw [e])
      simp [this]
    ·cases h
   ·cases h
  ·cases h
end Go.Vd

namespace Go.Vd
open Go.RowKit
set_option linter.unusedSimpArgs false
set_option linter.unusedVariables false
set_option maxRecDepth 10000
def Fsame : List D → Option D
 | [a, b] => match tdOf a, tdOf b with
  | some (_, _, t), some (_, _, u) => if t.calls.length ≤ 1000000000 ∧ t.behind.length ≤ 1000000000 then some (.bool (decide (t = u))) else none
  | _, _ => none
 | _ => none
theorem td_ne {t u : Td} (h : ¬ (t.ticks = u.ticks ∧ t.left = u.left ∧ t.shut = u.shut ∧ t.calls = u.calls ∧ t.behind = u.behind)) : t ≠ u := by
 rintro rfl; exact h ⟨rfl, rfl, rfl, rfl, rfl⟩
theorem td_eq {t u : Td} (h1 : t.ticks = u.ticks) (h2 : t.left = u.left) (h3 : t.shut = u.shut) (h4 : t.calls = u.calls) (h5 : t.behind = u.behind) : t = u := by
 cases t; cases u; simp_all
set_option maxHeartbeats 4000000 in
theorem ok20 {P : Program} (hd : Desk P) : (funS Fsame).ok P 20 := by
 have hS : Summs.ok P (tabL [(43, funS Fsd), (44, funS Fst)]) := tabL_cons (ok43 hd) (tabL_cons (ok44 hd) tabL_nil)
 have s43 : tabL [(43, funS Fsd), (44, funS Fst)] 43 = some (funS Fsd) := rfl
 have s44 : tabL [(43, funS Fsd), (44, funS Fst)] 44 = some (funS Fst) := rfl
 generalize tabL [(43, funS Fsd), (44, funS Fst)] = S at hS s43 s44
 refine fun_ok (S := S) hS hd.f20 (fun ds r h => ?_) (fun ds r h => ?_)
 ·unfold Fsame at h; split at h
  ·simp
  ·cases h
 ·unfold Fsame at h; split at h
  ·rename_i d e
   split at h
   ·rename_i nc nb t nc2 nb2 u ht hu
    obtain ⟨x, y, rfl⟩ := tdOf_some ht
    obtain ⟨x2, y2, rfl⟩ := tdOf_some hu
    split at h
    ·rename_i hb
     obtain ⟨hb1, hb2⟩ := hb
     simp only [Option.some.injEq] at h
     subst h
     have f43 : ∀ n1 i1 n2 i2, Fsd [.slice n1 i1 (t.calls.map dnD), .slice n2 i2 (u.calls.map dnD)] = some (.bool (decide (t.calls = u.calls))) := fun _ _ _ _ => by
      simp only [Fsd, dnsOf_map]; exact if_pos hb1
     have f44 : ∀ n1 i1 n2 i2, Fst [.slice n1 i1 (t.behind.map .str), .slice n2 i2 (u.behind.map .str)] = some (.bool (decide (t.behind = u.behind))) := fun _ _ _ _ => by
      simp only [Fst, strsOf_map]; exact if_pos hb2
     unfold dc20
     by_cases h1 : t.ticks = u.ticks
     ·have h1' : (t.ticks = u.ticks) = True := by simp [h1]
      by_cases h2 : t.left = u.left
      ·have h2' : (t.left = u.left) = True := by simp [h2]
       by_cases h3 : t.shut = u.shut
       ·have h3' : (t.shut = u.shut) = True := by simp [h3]
        by_cases h4 : t.calls = u.calls
        ·have h4' : (t.calls = u.calls) = True := by simp [h4]
         by_cases h5 : t.behind = u.behind
         ·have h5' : (t.behind = u.behind) = True := by simp [h5]
          have he := td_eq h1 h2 h3 h4 h5
          simp only [↓go1, go2, go3, go4, reduceIte, Nat.reduceEqDiff, Nat.reduceAdd, put_rd, List.length_append, List.length_map, List.length_cons, List.length_nil, Nat.zero_le, Nat.reduceLeDiff, Nat.reduceLT, and_self, true_and, and_true, and_false, false_and, List.cons.injEq, Nat.sub_zero, Nat.reduceSub, List.getElem?_cons_zero, List.getElem?_cons_succ, Nat.zero_add, rd_zero, rd_succ, Option.bind_some, Option.map_some, Option.isSome_some, List.take_succ_cons, List.take_zero, Nat.le_refl, Nat.one_ne_zero, Nat.zero_ne_one, callK_fun s43, callK_fun s44, f43, f44, h1', h2', h3', h4', h5']
          simp [he]
         ·have he := td_ne (t := t) (u := u) (fun h => h5 h.2.2.2.2)
          have h5' : (t.behind = u.behind) = False := by simp [h5]
          simp only [↓go1, go2, go3, go4, reduceIte, Nat.reduceEqDiff, Nat.reduceAdd, put_rd, List.length_append, List.length_map, List.length_cons, List.length_nil, Nat.zero_le, Nat.reduceLeDiff, Nat.reduceLT, and_self, true_and, and_true, and_false, false_and, List.cons.injEq, Nat.sub_zero, Nat.reduceSub, List.getElem?_cons_zero, List.getElem?_cons_succ, Nat.zero_add, rd_zero, rd_succ, Option.bind_some, Option.map_some, Option.isSome_some, List.take_succ_cons, List.take_zero, Nat.le_refl, Nat.one_ne_zero, Nat.zero_ne_one, callK_fun s43, callK_fun s44, f43, f44, h1', h2', h3', h4', h5']
          simp [he]
        ·have he := td_ne (t := t) (u := u) (fun h => h4 h.2.2.2.1)
         have h4' : (t.calls = u.calls) = False := by simp [h4]
         simp only [↓go1, go2, go3, go4, reduceIte, Nat.reduceEqDiff, Nat.reduceAdd, put_rd, List.length_append, List.length_map, List.length_cons, List.length_nil, Nat.zero_le, Nat.reduceLeDiff, Nat.reduceLT, and_self, true_and, and_true, and_false, false_and, List.cons.injEq, Nat.sub_zero, Nat.reduceSub, List.getElem?_cons_zero, List.getElem?_cons_succ, Nat.zero_add, rd_zero, rd_succ, Option.bind_some, Option.map_some, Option.isSome_some, List.take_succ_cons, List.take_zero, Nat.le_refl, Nat.one_ne_zero, Nat.zero_ne_one, callK_fun s43, callK_fun s44, f43, f44, h1', h2', h3', h4']
         simp [he]
       ·have he := td_ne (t := t) (u := u) (fun h => h3 h.2.2.1)
        have h3' : (t.shut = u.shut) = False := by simp [h3]
        simp only [↓go1, go2, go3, go4, reduceIte, Nat.reduceEqDiff, Nat.reduceAdd, put_rd, List.length_append, List.length_map, List.length_cons, List.length_nil, Nat.zero_le, Nat.reduceLeDiff, Nat.reduceLT, and_self, true_and, and_true, and_false, false_and, List.cons.injEq, Nat.sub_zero, Nat.reduceSub, List.getElem?_cons_zero, List.getElem?_cons_succ, Nat.zero_add, rd_zero, rd_succ, Option.bind_some, Option.map_some, Option.isSome_some, List.take_succ_cons, List.take_zero, Nat.le_refl, Nat.one_ne_zero, Nat.zero_ne_one, callK_fun s43, callK_fun s44, f43, f44, h1', h2', h3']
        simp [he]
      ·have he := td_ne (t := t) (u := u) (fun h => h2 h.2.1)
       have h2' : (t.left = u.left) = False := by simp [h2]
       simp only [↓go1, go2, go3, go4, reduceIte, Nat.reduceEqDiff, Nat.reduceAdd, put_rd, List.length_append, List.length_map, List.length_cons, List.length_nil, Nat.zero_le, Nat.reduceLeDiff, Nat.reduceLT, and_self, true_and, and_true, and_false, false_and, List.cons.injEq, Nat.sub_zero, Nat.reduceSub, List.getElem?_cons_zero, List.getElem?_cons_succ, Nat.zero_add, rd_zero, rd_succ, Option.bind_some, Option.map_some, Option.isSome_some, List.take_succ_cons, List.take_zero, Nat.le_refl, Nat.one_ne_zero, Nat.zero_ne_one, callK_fun s43, callK_fun s44, f43, f44, h1', h2']
       simp [he]
     ·have he := td_ne (t := t) (u := u) (fun h => h1 h.1)
      have h1' : (t.ticks = u.ticks) = False := by simp [h1]
      simp only [↓go1, go2, go3, go4, reduceIte, Nat.reduceEqDiff, Nat.reduceAdd, put_rd, List.length_append, List.length_map, List.length_cons, List.length_nil, Nat.zero_le, Nat.reduceLeDiff, Nat.reduceLT, and_self, true_and, and_true, and_false, false_and, List.cons.injEq, Nat.sub_zero, Nat.reduceSub, List.getElem?_cons_zero, List.getElem?_cons_succ, Nat.zero_add, rd_zero, rd_succ, Option.bind_some, Option.map_some, Option.isSome_some, List.take_succ_cons, List.take_zero, Nat.le_refl, Nat.one_ne_zero, Nat.zero_ne_one, callK_fun s43, callK_fun s44, f43, f44, h1']
      simp [he]
    ·cases h
   ·cases h
  ·cases h
set_option maxHeartbeats 1000000 in
theorem loop18 {S : Summs} {a b : List Dn} {nl nl2 : Bool} {t t2 : Id} {Q : Ex → St → Prop} (hab : a.length = b.length) (hb : a.length ≤ 1000000000)
  (hret : ∀ st, a ≠ b → st.s 4 = .bool false → Q .ret st)
  (hexit : ∀ st, a = b → Q (.exit 0) st) :
  ∀ (n k : Nat) st g, n = a.length - k → k ≤ a.length → (∀ j, j < k → a[j]? = b[j]?) → st.s 5 = .int .i64 (k : Int) → st.s 2 = .ptr [0] 0 → st.s 3 = .ptr [1] 0 → st.m [0] 0 = some (.slice nl t (a.map dnD)) → st.m [1] 0 = some (.slice nl2 t2 (b.map dnD)) → loopW S [] dc18l0 Q st g := by
 intro n
 induction n with
 | zero =>
  intro k st g hn hk hall h5 h2 h3 h0 h1
  refine wp_loopd dc18l0.eq_1 ?_
  have : ¬ ((k : Int) < a.length) := by omega
  simp only [↓go1, go2, go3, go4, reduceIte, Nat.reduceEqDiff, Nat.reduceAdd, h5, h2, h3, h0, h1, List.length_map, this]
  refine hexit _ (List.ext_getElem? fun j => ?_)
  by_cases hj : j < k
  ·exact hall j hj
  ·rw [List.getElem?_eq_none (by omega), List.getElem?_eq_none (by omega)]
 | succ n ih =>
  intro k st g hn hk hall h5 h2 h3 h0 h1
  refine wp_loopd dc18l0.eq_1 ?_
  have hlt : ((k : Int) < a.length) := by omega
  have hk0 : (0 : Int) ≤ (k : Int) := by omega
  have hka : k < a.length := by omega
  have hkb : k < b.length := by omega
  have hx : (a.map dnD)[(k : Int).toNat]? = some (.agg [.int .i64 a[k].cl, .str a[k].line, .str a[k].reply, .int .i64 a[k].fr, .int .i64 a[k].at_, .int .i64 a[k].to, .bool a[k].is]) := by simp [hka, dnD]
  have hy : (b.map dnD)[(k : Int).toNat]? = some (.agg [.int .i64 b[k].cl, .str b[k].line, .str b[k].reply, .int .i64 b[k].fr, .int .i64 b[k].at_, .int .i64 b[k].to, .bool b[k].is]) := by simp [hkb, dnD]
  have hw : IntKind.i64.wrap ((k : Int) + 1) = (k : Int) + 1 := IntWalk.i64_in _ ⟨by omega, by omega⟩
  by_cases hc : a[k] = b[k]
  ·have hl := leaves_eq hc
   simp only [↓go1, go2, go3, go4, reduceIte, Nat.reduceEqDiff, Nat.reduceAdd, Nat.zero_le, Nat.sub_zero, Nat.reduceSub, List.drop_zero, List.drop_succ_cons, Nat.reduceLeDiff, List.length_cons, List.length_nil, List.take_succ_cons, List.take_zero, Nat.le_refl, h5, h2, h3, h0, h1, List.length_map, hlt, hk0, hx, hy, hw, hl, Bool.bne_true, Bool.bne_false, Bool.not_true, Bool.not_false, bne_self_eq_false, Bool.false_bne, Bool.true_bne, Option.map_some]
   refine Need.intro (feetB_ok rfl) ?_
   simp only [↓go1, go2, go3, go4, reduceIte, Nat.reduceEqDiff, Nat.reduceAdd, Nat.zero_le, Nat.sub_zero, Nat.reduceSub, List.drop_zero, List.drop_succ_cons, Nat.reduceLeDiff, List.length_cons, List.length_nil, List.take_succ_cons, List.take_zero, Nat.le_refl, h5, h2, h3, h0, h1, List.length_map, hlt, hk0, hx, hy, hw, hl, Bool.bne_true, Bool.bne_false, Bool.not_true, Bool.not_false, bne_self_eq_false, Bool.false_bne, Bool.true_bne, Option.map_some]
   refine ih (k + 1) _ _ (by omega) (by omega) (fun j hj => ?_) rfl h2 h3 h0 h1
   rcases Nat.lt_or_eq_of_le (Nat.le_of_lt_succ hj) with hj | rfl
   ·exact hall j hj
   ·rw [List.getElem?_eq_getElem hka, List.getElem?_eq_getElem hkb, hc]
  ·have hl := leaves_ne hc
   simp only [↓go1, go2, go3, go4, reduceIte, Nat.reduceEqDiff, Nat.reduceAdd, Nat.zero_le, Nat.sub_zero, Nat.reduceSub, List.drop_zero, List.drop_succ_cons, Nat.reduceLeDiff, List.length_cons, List.length_nil, List.take_succ_cons, List.take_zero, Nat.le_refl, h5, h2, h3, h0, h1, List.length_map, hlt, hk0, hx, hy, hw, hl, Bool.bne_true, Bool.bne_false, Bool.not_true, Bool.not_false, bne_self_eq_false, Bool.false_bne, Bool.true_bne, Option.map_some]
   refine Need.intro (feetB_ok rfl) ?_
   simp only [↓go1, go2, go3, go4, reduceIte, Nat.reduceEqDiff, Nat.reduceAdd, Nat.zero_le, Nat.sub_zero, Nat.reduceSub, List.drop_zero, List.drop_succ_cons, Nat.reduceLeDiff, List.length_cons, List.length_nil, List.take_succ_cons, List.take_zero, Nat.le_refl, h5, h2, h3, h0, h1, List.length_map, hlt, hk0, hx, hy, hw, hl, Bool.bne_true, Bool.bne_false, Bool.not_true, Bool.not_false, bne_self_eq_false, Bool.false_bne, Bool.true_bne, Option.map_some]
   refine hret _ (fun e => ?_) rfl
   subst e; exact hc rfl
set_option maxHeartbeats 4000000 in
theorem ok18 {P : Program} (hd : Desk P) : (funS Fsame).ok P 18 := by
 have hS : Summs.ok P (tabL [(17, funS Fst)]) := tabL_cons (ok17 hd) tabL_nil
 have s17 : tabL [(17, funS Fst)] 17 = some (funS Fst) := rfl
 generalize tabL [(17, funS Fst)] = S at hS s17
 refine fun_ok (S := S) hS hd.f18 (fun ds r h => ?_) (fun ds r h => ?_)
 ·unfold Fsame at h; split at h
  ·simp
  ·cases h
 ·unfold Fsame at h; split at h
  ·rename_i d e
   split at h
   ·rename_i nc nb t nc2 nb2 u ht hu
    obtain ⟨x, y, rfl⟩ := tdOf_some ht
    obtain ⟨x2, y2, rfl⟩ := tdOf_some hu
    split at h
    ·rename_i hb
     obtain ⟨hb1, hb2⟩ := hb
     simp only [Option.some.injEq] at h
     subst h
     have f17 : ∀ n1 i1 n2 i2, Fst [.slice n1 i1 (t.behind.map .str), .slice n2 i2 (u.behind.map .str)] = some (.bool (decide (t.behind = u.behind))) := fun _ _ _ _ => by
      simp only [Fst, strsOf_map]; exact if_pos hb2
     unfold dc18
     by_cases h1 : t.ticks = u.ticks
     ·have h1' : (t.ticks ≠ u.ticks) = False := by simp [h1]
      have h1'' : (t.ticks = u.ticks) = True := by simp [h1]
      by_cases h2 : t.left = u.left
      ·have h2' : (t.left ≠ u.left) = False := by simp [h2]
       have h2'' : (t.left = u.left) = True := by simp [h2]
       by_cases h3 : t.shut = u.shut
       ·have h3' : (t.shut ≠ u.shut) = False := by simp [h3]
        have h3'' : (t.shut = u.shut) = True := by simp [h3]
        by_cases h4 : t.calls.length = u.calls.length
        ·have h4' : ((t.calls.length : Int) ≠ (u.calls.length : Int)) = False := by simp; omega
         have h4'' : ((t.calls.length : Int) = (u.calls.length : Int)) = True := by simp; omega
         by_cases h5 : t.behind = u.behind
         ·have h5' : (t.behind = u.behind) = True := by simp [h5]
          simp only [↓go1, go2, go3, go4, reduceIte, Nat.reduceEqDiff, Nat.reduceAdd, put_rd, List.length_append, List.length_map, List.length_cons, List.length_nil, Nat.zero_le, Nat.reduceLeDiff, Nat.reduceLT, and_self, true_and, and_true, and_false, false_and, List.cons.injEq, Nat.sub_zero, Nat.reduceSub, List.getElem?_cons_zero, List.getElem?_cons_succ, Nat.zero_add, rd_zero, rd_succ, Option.bind_some, Option.map_some, Option.isSome_some, List.take_succ_cons, List.take_zero, Nat.le_refl, Nat.one_ne_zero, Nat.zero_ne_one, callK_fun s17, f17, h1'', h2'', h3'', h4'', h1', h2', h3', h4', h5']
          refine loop18 (a := t.calls) (b := u.calls) (nl := nc) (t := x) (nl2 := nc2) (t2 := x2) h4 hb1 (fun st e1 e2 => ?_) (fun st e1 => ?_) t.calls.length 0 _ _ rfl (by omega) (by omega) rfl rfl rfl rfl rfl
          ·have he := td_ne (t := t) (u := u) (fun h => e1 h.2.2.2.1)
           simp only [↓go1, go2, go3, go4, reduceIte, Nat.reduceEqDiff, Nat.reduceAdd, e2]
           simp [he]
          ·have he := td_eq h1 h2 h3 e1 h5
           simp only [↓go1, go2, go3, go4, reduceIte, Nat.reduceEqDiff, Nat.reduceAdd]
           simp [he]
         ·have he := td_ne (t := t) (u := u) (fun h => h5 h.2.2.2.2)
          have h5' : (t.behind = u.behind) = False := by simp [h5]
          simp only [↓go1, go2, go3, go4, reduceIte, Nat.reduceEqDiff, Nat.reduceAdd, put_rd, List.length_append, List.length_map, List.length_cons, List.length_nil, Nat.zero_le, Nat.reduceLeDiff, Nat.reduceLT, and_self, true_and, and_true, and_false, false_and, List.cons.injEq, Nat.sub_zero, Nat.reduceSub, List.getElem?_cons_zero, List.getElem?_cons_succ, Nat.zero_add, rd_zero, rd_succ, Option.bind_some, Option.map_some, Option.isSome_some, List.take_succ_cons, List.take_zero, Nat.le_refl, Nat.one_ne_zero, Nat.zero_ne_one, callK_fun s17, f17, h1'', h2'', h3'', h4'', h1', h2', h3', h4', h5']
          simp [he]
        ·have he := td_ne (t := t) (u := u) (fun h => h4 (by rw [h.2.2.2.1]))
         have h4' : ((t.calls.length : Int) ≠ (u.calls.length : Int)) = True := by simp; omega
         have h4'' : ((t.calls.length : Int) = (u.calls.length : Int)) = False := by simp; omega
         simp only [↓go1, go2, go3, go4, reduceIte, Nat.reduceEqDiff, Nat.reduceAdd, put_rd, List.length_append, List.length_map, List.length_cons, List.length_nil, Nat.zero_le, Nat.reduceLeDiff, Nat.reduceLT, and_self, true_and, and_true, and_false, false_and, List.cons.injEq, Nat.sub_zero, Nat.reduceSub, List.getElem?_cons_zero, List.getElem?_cons_succ, Nat.zero_add, rd_zero, rd_succ, Option.bind_some, Option.map_some, Option.isSome_some, List.take_succ_cons, List.take_zero, Nat.le_refl, Nat.one_ne_zero, Nat.zero_ne_one, callK_fun s17, f17, h1'', h2'', h3'', h4'', h1', h2', h3', h4']
         simp [he]
       ·have he := td_ne (t := t) (u := u) (fun h => h3 h.2.2.1)
        have h3' : (t.shut ≠ u.shut) = True := by simp [h3]
        have h3'' : (t.shut = u.shut) = False := by simp [h3]
        simp only [↓go1, go2, go3, go4, reduceIte, Nat.reduceEqDiff, Nat.reduceAdd, put_rd, List.length_append, List.length_map, List.length_cons, List.length_nil, Nat.zero_le, Nat.reduceLeDiff, Nat.reduceLT, and_self, true_and, and_true, and_false, false_and, List.cons.injEq, Nat.sub_zero, Nat.reduceSub, List.getElem?_cons_zero, List.getElem?_cons_succ, Nat.zero_add, rd_zero, rd_succ, Option.bind_some, Option.map_some, Option.isSome_some, List.take_succ_cons, List.take_zero, Nat.le_refl, Nat.one_ne_zero, Nat.zero_ne_one, callK_fun s17, f17, h1'', h2'', h3'', h1', h2', h3']
        simp [he]
      ·have he := td_ne (t := t) (u := u) (fun h => h2 h.2.1)
       have h2' : (t.left ≠ u.left) = True := by simp [h2]
       have h2'' : (t.left = u.left) = False := by simp [h2]
       simp only [↓go1, go2, go3, go4, reduceIte, Nat.reduceEqDiff, Nat.reduceAdd, put_rd, List.length_append, List.length_map, List.length_cons, List.length_nil, Nat.zero_le, Nat.reduceLeDiff, Nat.reduceLT, and_self, true_and, and_true, and_false, false_and, List.cons.injEq, Nat.sub_zero, Nat.reduceSub, List.getElem?_cons_zero, List.getElem?_cons_succ, Nat.zero_add, rd_zero, rd_succ, Option.bind_some, Option.map_some, Option.isSome_some, List.take_succ_cons, List.take_zero, Nat.le_refl, Nat.one_ne_zero, Nat.zero_ne_one, callK_fun s17, f17, h1'', h2'', h1', h2']
       simp [he]
     ·have he := td_ne (t := t) (u := u) (fun h => h1 h.1)
      have h1' : (t.ticks ≠ u.ticks) = True := by simp [h1]
      have h1'' : (t.ticks = u.ticks) = False := by simp [h1]
      simp only [↓go1, go2, go3, go4, reduceIte, Nat.reduceEqDiff, Nat.reduceAdd, put_rd, List.length_append, List.length_map, List.length_cons, List.length_nil, Nat.zero_le, Nat.reduceLeDiff, Nat.reduceLT, and_self, true_and, and_true, and_false, false_and, List.cons.injEq, Nat.sub_zero, Nat.reduceSub, List.getElem?_cons_zero, List.getElem?_cons_succ, Nat.zero_add, rd_zero, rd_succ, Option.bind_some, Option.map_some, Option.isSome_some, List.take_succ_cons, List.take_zero, Nat.le_refl, Nat.one_ne_zero, Nat.zero_ne_one, callK_fun s17, f17, h1'', h1']
      simp [he]
    ·cases h
   ·cases h
  ·cases h
end Go.Vd

namespace Go.Vd
open Go.RowKit
set_option linter.unusedSimpArgs false
set_option linter.unusedVariables false
set_option maxRecDepth 10000
def digI (c : UInt8) : Int := match digV c with
 | some x => (x : Int)
 | none => -1
def F117 : List D → Option D
 | [.int .u8 n] => if 0 ≤ n ∧ n < 256 then some (.int .i64 (digI (UInt8.ofNat n.toNat))) else none
 | _ => none
theorem digI_eq {n : Int} (h : 0 ≤ n ∧ n < 256) : digI (UInt8.ofNat n.toNat) = if 48 ≤ n ∧ n ≤ 57 then n - 48 else if 97 ≤ n ∧ n ≤ 102 then n - 87 else -1 := by
 unfold digI digV
 rw [toNat_ofNat (by omega)]
 by_cases h1 : 48 ≤ n ∧ n ≤ 57
 ·rw [if_pos h1, if_pos (by omega)]; simp only; omega
 ·rw [if_neg h1, if_neg (by omega)]
  by_cases h2 : 97 ≤ n ∧ n ≤ 102
  ·rw [if_pos h2, if_pos (by omega)]; simp only; omega
  ·rw [if_neg h2, if_neg (by omega)]
theorem ok117 {P : Program} (hd : Desk P) : (funS F117).ok P 117 := by
 refine fun_ok (S := fun _ => none) none_ok hd.f117 (fun ds r h => ?_) (fun ds r h => ?_)
 ·unfold F117 at h; split at h
  ·simp
  ·cases h
 ·unfold F117 at h; split at h
  ·rename_i n
   split at h
   ·rename_i hb
    simp only [Option.some.injEq] at h
    subst h
    rw [digI_eq hb]
    unfold dc117
    by_cases h1 : 48 ≤ n
    ·have h1' : ((48 : Int) ≤ n) = True := by simp [h1]
     by_cases h2 : n ≤ 57
     ·have h2' : (n ≤ (57 : Int)) = True := by simp [h2]
      have e1 : IntKind.u8.wrap (n - 48) = n - 48 := IntWalk.u8_in _ ⟨by omega, by omega⟩
      have e2 : IntKind.i64.wrap (n - 48) = n - 48 := IntWalk.i64_in _ ⟨by omega, by omega⟩
      simp only [↓go1, go2, go3, go4, reduceIte, Nat.reduceEqDiff, Nat.reduceAdd, h1', h2', e1, e2, and_self]
     ·have h2' : (n ≤ (57 : Int)) = False := by simp; omega
      by_cases h3 : 97 ≤ n
      ·have h3' : ((97 : Int) ≤ n) = True := by simp [h3]
       by_cases h4 : n ≤ 102
       ·have h4' : (n ≤ (102 : Int)) = True := by simp [h4]
        have e1 : IntKind.u8.wrap (n - 97) = n - 97 := IntWalk.u8_in _ ⟨by omega, by omega⟩
        have e2 : IntKind.i64.wrap (n - 97) = n - 97 := IntWalk.i64_in _ ⟨by omega, by omega⟩
        have e3 : IntKind.i64.wrap (n - 97 + 10) = n - 87 := by rw [IntWalk.i64_in _ ⟨by omega, by omega⟩]; omega
        simp only [↓go1, go2, go3, go4, reduceIte, Nat.reduceEqDiff, Nat.reduceAdd, h1', h2', h3', h4', e1, e2, e3, and_self, and_false]
       ·have h4' : (n ≤ (102 : Int)) = False := by simp; omega
        simp only [↓go1, go2, go3, go4, reduceIte, Nat.reduceEqDiff, Nat.reduceAdd, h1', h2', h3', h4', and_self, and_false, Int.reduceNeg]
      ·have h3' : ((97 : Int) ≤ n) = False := by simp; omega
       simp only [↓go1, go2, go3, go4, reduceIte, Nat.reduceEqDiff, Nat.reduceAdd, h1', h2', h3', and_self, and_false, false_and, Int.reduceNeg]
    ·have h1' : ((48 : Int) ≤ n) = False := by simp; omega
     have h3' : ((97 : Int) ≤ n) = False := by simp; omega
     simp only [↓go1, go2, go3, go4, reduceIte, Nat.reduceEqDiff, Nat.reduceAdd, h1', h3', and_self, and_false, false_and, Int.reduceNeg]
   ·cases h
  ·cases h
theorem orD : ∀ x : Nat, x < 16 → ∀ y : Nat, y < 16 → IntKind.u8.wrap (bits .or .i64 (IntKind.i64.wrap ((x : Int) * 2 ^ min (4 : Int).toNat IntKind.i64.bits)) (y : Int)) = ((16 * x + y : Nat) : Int) := by decide +kernel
theorem digV_lt {c : UInt8} {n : Nat} (h : digV c = some n) : n < 16 := (hexD_digV h).2
def F95 : List D → Option D
 | [.str s] => if s.length ≤ 1000000 then some (match unhexB s with
  | some r => .tup [.str r, .bool true]
  | none => .tup [.str [], .bool false]) else none
 | _ => none
theorem bytesD_snoc (a : Bs) {n : Nat} (h : n < 256) : bytesD a ++ [.int .u8 (n : Int)] = bytesD (a ++ [UInt8.ofNat n]) := by
 rw [bytesD_app]; simp only [bytesD, List.map_cons, List.map_nil]; rw [toNat_ofNat h]
set_option maxHeartbeats 1000000 in
theorem loop95 {S : Summs} {l : Bs} {Q : Ex → St → Prop} (s117 : S 117 = some (funS F117)) (hb : l.length ≤ 1000000) (hev : l.length % 2 = 0)
  (hexit : ∀ st r t, unhexB l = some r → st.s 4 = .slice false t (bytesD r) → Q (.exit 0) st)
  (hret : ∀ st, unhexB l = none → st.s 2 = .str [] → st.s 3 = .bool false → Q .ret st) :
  ∀ (n k : Nat) (t : Id) (acc : Bs) st g, n = l.length - k → k ≤ l.length → k % 2 = 0 → acc.length ≤ k → unhexB l = (unhexB (l.drop k)).map (acc ++ ·) → st.s 5 = .int .i64 (k : Int) → st.s 0 = .str l → st.s 4 = .slice false t (bytesD acc) → Gw st.m st.c 5 false t →
   loopW S [] dc95l0 Q st g := by
 intro n
 induction n using Nat.strongRecOn with
 | _ n ih =>
  intro k t acc st g hn hk hk2 ha hu h5 h0 h4 hg
  refine wp_loopd dc95l0.eq_1 ?_
  by_cases hl : k = l.length
  ·have : ¬ ((k : Int) < l.length) := by omega
   simp only [↓go1, go2, go3, go4, reduceIte, Nat.reduceEqDiff, Nat.reduceAdd, h5, h0, this]
   refine hexit _ acc t ?_ ?_
   ·rw [hu, List.drop_of_length_le (by omega)]; simp [unhexB]
   ·simp only [↓go1, go2, go3, go4, reduceIte, Nat.reduceEqDiff, Nat.reduceAdd, h4]
  ·have hlt : ((k : Int) < l.length) := by omega
   have hk0 : (0 : Int) ≤ (k : Int) := by omega
   have hk1 : (0 : Int) ≤ (k : Int) + 1 := by omega
   have hkl : k < l.length := by omega
   have hkl1 : k + 1 < l.length := by omega
   have hx : l[(k : Int).toNat]? = some l[k] := by simp [hkl]
   have hy : l[((k : Int) + 1).toNat]? = some l[k + 1] := by
    rw [show ((k : Int) + 1).toNat = k + 1 by omega]; simp [hkl1]
   have hw1 : IntKind.i64.wrap ((k : Int) + 1) = (k : Int) + 1 := IntWalk.i64_in _ ⟨by omega, by omega⟩
   have hw : IntKind.i64.wrap ((k : Int) + 2) = (k : Int) + 2 := IntWalk.i64_in _ ⟨by omega, by omega⟩
   have hdr : l.drop k = l[k] :: l[k + 1] :: l.drop (k + 2) := by
    rw [List.drop_eq_getElem_cons hkl, List.drop_eq_getElem_cons hkl1]
   have hcx := l[k].toNat_lt
   have hcy := l[k + 1].toNat_lt
   have f1 : F117 [.int .u8 (l[k].toNat : Int)] = some (.int .i64 (digI l[k])) := by
    have : UInt8.ofNat ((l[k].toNat : Int)).toNat = l[k] := by rw [Int.toNat_natCast, ← UInt8.toNat_inj, toNat_ofNat (by omega)]
    rw [← this]; simp only [this]; exact if_pos ⟨by omega, by omega⟩ |>.trans (by rw [this])
   have f2 : F117 [.int .u8 (l[k + 1].toNat : Int)] = some (.int .i64 (digI l[k + 1])) := by
    have : UInt8.ofNat ((l[k + 1].toNat : Int)).toNat = l[k + 1] := by rw [Int.toNat_natCast, ← UInt8.toNat_inj, toNat_ofNat (by omega)]
    exact if_pos ⟨by omega, by omega⟩ |>.trans (by rw [this])
   cases hdx : digV l[k] with
   | none =>
    have d1 : digI l[k] = -1 := by simp [digI, hdx]
    have m1 : ((-1 : Int) < 0) = True := by simp
    have hnone : unhexB l = none := by rw [hu, hdr]; simp [unhexB, hdx]
    simp only [↓go1, go2, go3, go4, reduceIte, Nat.reduceEqDiff, Nat.reduceAdd, h5, h0, hlt, hk0, hk1, hx, hy, hw1, callK_fun s117, f1, f2, d1]
    refine Need.intro (feetB_ok rfl) ?_
    simp only [↓go1, go2, go3, go4, reduceIte, Nat.reduceEqDiff, Nat.reduceAdd, m1]
    exact hret _ hnone rfl rfl
   | some x =>
    have hx16 := digV_lt hdx
    have d1 : digI l[k] = (x : Int) := by simp [digI, hdx]
    have m1 : ((x : Int) < 0) = False := by simp
    cases hdy : digV l[k + 1] with
    | none =>
     have d2 : digI l[k + 1] = -1 := by simp [digI, hdy]
     have m2 : ((-1 : Int) < 0) = True := by simp
     have hnone : unhexB l = none := by rw [hu, hdr]; simp [unhexB, hdx, hdy]
     simp only [↓go1, go2, go3, go4, reduceIte, Nat.reduceEqDiff, Nat.reduceAdd, h5, h0, hlt, hk0, hk1, hx, hy, hw1, callK_fun s117, f1, f2, d1, d2]
     refine Need.intro (feetB_ok rfl) ?_
     simp only [↓go1, go2, go3, go4, reduceIte, Nat.reduceEqDiff, Nat.reduceAdd, m1, m2]
     exact hret _ hnone rfl rfl
    | some y =>
     have hy16 := digV_lt hdy
     have d2 : digI l[k + 1] = (y : Int) := by simp [digI, hdy]
     have m2 : ((y : Int) < 0) = False := by simp
     have ho := orD x hx16 y hy16
     have h04 : ((0 : Int) ≤ 4) = True := by simp
     simp only [↓go1, go2, go3, go4, reduceIte, Nat.reduceEqDiff, Nat.reduceAdd, h5, h0, hlt, hk0, hk1, hx, hy, hw1, callK_fun s117, f1, f2, d1, d2]
     refine Need.intro (feetB_ok rfl) ?_
     simp only [↓go1, go2, go3, go4, reduceIte, Nat.reduceEqDiff, Nat.reduceAdd, Nat.zero_le, Nat.sub_zero, Nat.reduceSub, Nat.reduceLT, List.length_cons, List.length_nil, Nat.le_refl, Nat.reduceLeDiff, h5, h0, h4, m1, m2, ho, h04, false_and, reduceCtorEq]
     refine Need.intro ⟨by rw [bytesD_len]; omega, rfl, (hg.put (by omega)).toGrow⟩ ?_
     simp only [↓go1, go2, go3, go4, reduceIte, Nat.reduceEqDiff, Nat.reduceAdd, Bool.false_eq_true, h5, hw]
     refine ih (n - 2) (by omega) (k + 2) [st.c + 4 + 11 + 6 + 7] (acc ++ [UInt8.ofNat (16 * x + y)]) _ _ (by omega) (by omega) (by omega) (by simp; omega) ?_ rfl h0 ?_ (Gw.new (by simp only; omega))
     ·rw [hu, hdr]; simp only [unhexB, hdx, hdy]
      cases unhexB (l.drop (k + 2)) <;> simp
     ·rw [← bytesD_snoc acc (show 16 * x + y < 256 by omega)]; rfl
theorem ok95 {P : Program} (hd : Desk P) : (funS F95).ok P 95 := by
 have hS : Summs.ok P (tabL [(117, funS F117)]) := tabL_cons (ok117 hd) tabL_nil
 have s117 : tabL [(117, funS F117)] 117 = some (funS F117) := rfl
 generalize tabL [(117, funS F117)] = S at hS s117
 refine fun_ok (S := S) hS hd.f95 (fun ds r h => ?_) (fun ds r h => ?_)
 ·unfold F95 at h; split at h
  ·simp
  ·cases h
 ·unfold F95 at h; split at h
  ·rename_i s
   split at h
   ·rename_i hb
    simp only [Option.some.injEq] at h
    subst h
    unfold dc95
    have n2 : ((2 : Int) ≠ 0) = True := by simp
    have hm : (s.length : Int).tmod 2 = ((s.length % 2 : Nat) : Int) := by rw [Int.tmod_eq_emod_of_nonneg (by omega)]; omega
    by_cases hev : s.length % 2 = 0
    ·have hq : IntKind.i64.wrap ((s.length : Int).tdiv 2) = ((s.length / 2 : Nat) : Int) := by
      have : (s.length : Int).tdiv 2 = ((s.length / 2 : Nat) : Int) := by rw [Int.tdiv_eq_ediv_of_nonneg (by omega)]; omega
      rw [this]; exact IntWalk.i64_in _ ⟨by omega, by omega⟩
     have hz : ((((s.length % 2 : Nat) : Int)) ≠ 0) = False := by simp; omega
     have hz' : ((((s.length % 2 : Nat) : Int)) = 0) = True := by simp; omega
     have e0 : (0 : Int).toNat = 0 := rfl
     have b1 : ((0 : Int) ≤ 0) = True := by simp
     have b2 : ((0 : Int) ≤ ((s.length / 2 : Nat) : Int)) = True := eq_true (by omega)
     simp only [↓go1, go2, go3, go4, reduceIte, Nat.reduceEqDiff, Nat.reduceAdd, n2, hm, hz, hz', hq, e0, b1, b2, List.length_cons, List.length_nil, List.replicate_zero, true_and, and_true]
     refine Need.intro (by omega) ?_
     simp only [↓go1, go2, go3, go4, reduceIte, Nat.reduceEqDiff, Nat.reduceAdd, List.replicate_zero]
     refine loop95 (l := s) s117 hb hev (fun st r t' e h1 => ?_) (fun st e h2 h3 => ?_) s.length 0 [9] [] _ _ rfl (by omega) rfl (by simp) (by simp) rfl rfl rfl (.inr ⟨9, rfl, by simp only; omega, by simp [put_tok]⟩)
     ·simp only [↓go1, go2, go3, go4, reduceIte, Nat.reduceEqDiff, Nat.reduceAdd, h1, e, unbytes_bytes]
     ·simp only [↓go1, go2, go3, go4, reduceIte, Nat.reduceEqDiff, Nat.reduceAdd, h2, h3, e]
    ·have hz : ((((s.length % 2 : Nat) : Int)) ≠ 0) = True := by simp; omega
     have hz' : ((((s.length % 2 : Nat) : Int)) = 0) = False := by simp; omega
     have hn : unhexB s = none := by
      cases h : unhexB s with
      | none => rfl
      | some r => have := unhex_len h; omega
     simp only [↓go1, go2, go3, go4, reduceIte, Nat.reduceEqDiff, Nat.reduceAdd, n2, hm, hz, hz', hn]
   ·cases h
  ·cases h
end Go.Vd
