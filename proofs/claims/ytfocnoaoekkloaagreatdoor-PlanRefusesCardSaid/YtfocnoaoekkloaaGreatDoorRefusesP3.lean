/-
  A part of the proof: the layers over the model. Nothing in it is assumed.
-/
import Derived.Test.YtfocnoaoekkloaaGreatDoorRefusesP2
import Derived.Test.YtfocnoaoekkloaaGreatDoorProg
import Derived.Lib.AppendZeros
import Derived.WalkKit

set_option linter.unusedSimpArgs false
set_option linter.unusedVariables false
set_option linter.defProp false
set_option maxHeartbeats 4000000
set_option maxRecDepth 100000
namespace Go.Vd
open Go.Proofs
def dc27 : DC := (sr [oo 2 (.mv (.c (.int .u8 0)))] (.seq (sr [mm 3 0] (.block 0 (.seq (sr [oo 5 (.bin .eql (.t 3) (.c (.int .u8 9))), mm 4 5] (cd 4 .skip (sr [oo 6 (.bin .eql (.t 3) (.c (.int .u8 14))), mm 4 6] (cd 4 .skip (.row [oo 7 (.bin .eql (.t 3) (.c (.int .u8 18))), mm 4 7]))))) (cd 4 (sr [oo 2 (.mv (.c (.int .u8 1)))] .ret) (.seq (sr [oo 9 (.bin .eql (.t 3) (.c (.int .u8 10))), mm 8 9] (cd 8 .skip (.row [oo 10 (.bin .eql (.t 3) (.c (.int .u8 15))), mm 8 10]))) (cd 8 (sr [oo 2 (.mv (.c (.int .u8 2)))] .ret) (.seq (sr [oo 12 (.bin .eql (.t 3) (.c (.int .u8 11))), mm 11 12] (cd 11 .skip (.row [oo 13 (.bin .eql (.t 3) (.c (.int .u8 12))), mm 11 13]))) (cd 11 (sr [oo 2 (.mv (.c (.int .u8 4)))] .ret) (.seq (sr [oo 15 (.bin .eql (.t 3) (.c (.int .u8 13))), mm 14 15] (cd 14 .skip (.row [oo 16 (.bin .eql (.t 3) (.c (.int .u8 16))), mm 14 16]))) (cd 14 (sr [oo 2 (.mv (.c (.int .u8 8)))] .ret) (sr [oo 18 (.bin .eql (.t 3) (.c (.int .u8 17))), mm 17 18] (cd 17 (sr [oo 2 (.mv (.c (.int .u8 16)))] .ret) (.seq (sr [oo 20 (.bin .eql (.t 3) (.c (.int .u8 3))), mm 19 20] (cd 19 .skip (sr [oo 21 (.bin .eql (.t 3) (.c (.int .u8 4))), mm 19 21] (cd 19 .skip (sr [oo 22 (.bin .eql (.t 3) (.c (.int .u8 5))), mm 19 22] (cd 19 .skip (sr [oo 23 (.bin .eql (.t 3) (.c (.int .u8 6))), mm 19 23] (cd 19 .skip (sr [oo 24 (.bin .eql (.t 3) (.c (.int .u8 7))), mm 19 24] (cd 19 .skip (.row [oo 25 (.bin .eql (.t 3) (.c (.int .u8 8))), mm 19 25]))))))))))) (cd 19 (sr [oo 2 (.mv (.c (.int .u8 32)))] .ret) .skip)))))))))))))) (sr [oo 2 (.mv (.c (.int .u8 0)))] .ret)))
theorem fn27 : Fn Tryz.prog 27 26 dc27 [.t 2] := Ao Tryz.func27
def dc29 : DC := (sr [cb 2 false] (.seq (sr [mm 3 0] (.block 0 (.seq (sr [oo 5 (.bin .eql (.t 3) (.c (.int .u8 9))), mm 4 5] (cd 4 .skip (sr [oo 6 (.bin .eql (.t 3) (.c (.int .u8 14))), mm 4 6] (cd 4 .skip (.row [oo 7 (.bin .eql (.t 3) (.c (.int .u8 17))), mm 4 7]))))) (cd 4 (sr [cb 2 false] .ret) .skip)))) (sr [mm 8 0, oo 9 (.bin .geq (.t 8) (.c (.int .u8 4))), mm 10 9, og 11 (.mv (.t 0)) 2 true, og 12 (.bin .leq (.t 11) (.c (.int .u8 18))) 2 true, oo 13 (.pick (.t 10) (.t 12) (.c (.bool false))), mm 2 13] .ret)))
theorem fn29 : Fn Tryz.prog 29 14 dc29 [.t 2] := Ao Tryz.func29
def dc28 : DC := (sr [oo 2 (.mv (.c (.int .u8 0)))] (.seq (sr [mm 3 0, bi 4 .eql 3 9, mm 5 4, og 6 (.mv (.t 0)) 2 false, og 7 (.bin .eql (.t 6) (.c (.int .i64 14))) 2 false, oo 8 (.pick (.t 5) (.c (.bool true)) (.t 7)), mm 9 8, og 10 (.mv (.t 0)) 6 false, og 11 (.bin .eql (.t 10) (.c (.int .i64 18))) 6 false, oo 12 (.pick (.t 9) (.c (.bool true)) (.t 11))] (cd 12 (sr [oo 2 (.mv (.c (.int .u8 1)))] .ret) .skip)) (.seq (sr [mm 13 0, bi 14 .eql 13 10, mm 15 14, og 16 (.mv (.t 0)) 2 false, og 17 (.bin .eql (.t 16) (.c (.int .i64 15))) 2 false, oo 18 (.pick (.t 15) (.c (.bool true)) (.t 17))] (cd 18 (sr [oo 2 (.mv (.c (.int .u8 2)))] .ret) .skip)) (.seq (sr [mm 19 0, bi 20 .eql 19 11, mm 21 20, og 22 (.mv (.t 0)) 2 false, og 23 (.bin .eql (.t 22) (.c (.int .i64 12))) 2 false, oo 24 (.pick (.t 21) (.c (.bool true)) (.t 23))] (cd 24 (sr [oo 2 (.mv (.c (.int .u8 4)))] .ret) .skip)) (.seq (sr [mm 25 0, bi 26 .eql 25 13, mm 27 26, og 28 (.mv (.t 0)) 2 false, og 29 (.bin .eql (.t 28) (.c (.int .i64 16))) 2 false, oo 30 (.pick (.t 27) (.c (.bool true)) (.t 29))] (cd 30 (sr [oo 2 (.mv (.c (.int .u8 8)))] .ret) .skip)) (.seq (sr [mm 31 0, bi 32 .eql 31 17] (cd 32 (sr [oo 2 (.mv (.c (.int .u8 16)))] .ret) .skip)) (.seq (sr [mm 33 0, bi 34 .geq 33 3, mm 35 34, og 36 (.mv (.t 0)) 2 true, og 37 (.bin .leq (.t 36) (.c (.int .i64 8))) 2 true, oo 38 (.pick (.t 35) (.t 37) (.c (.bool false)))] (cd 38 (sr [oo 2 (.mv (.c (.int .u8 32)))] .ret) .skip)) (sr [oo 2 (.mv (.c (.int .u8 0)))] .ret))))))))
theorem fn28 : Fn Tryz.prog 28 39 dc28 [.t 2] := Ao Tryz.func28
def dc30 : DC := (sr [cb 2 false] (sr [mm 3 0, bi 4 .geq 3 4, mm 5 4, og 6 (.mv (.t 0)) 2 true, og 7 (.bin .leq (.t 6) (.c (.int .i64 18))) 2 true, oo 8 (.pick (.t 5) (.t 7) (.c (.bool false))), mm 9 8, og 10 (.mv (.t 0)) 6 true, og 11 (.bin .neq (.t 10) (.c (.int .i64 9))) 6 true, oo 12 (.pick (.t 9) (.t 11) (.c (.bool false))), mm 13 12, og 14 (.mv (.t 0)) 10 true, og 15 (.bin .neq (.t 14) (.c (.int .i64 14))) 10 true, oo 16 (.pick (.t 13) (.t 15) (.c (.bool false))), mm 17 16, og 18 (.mv (.t 0)) 14 true, og 19 (.bin .neq (.t 18) (.c (.int .i64 17))) 14 true, oo 20 (.pick (.t 17) (.t 19) (.c (.bool false))), mm 2 20] .ret))
theorem fn30 : Fn Tryz.prog 30 21 dc30 [.t 2] := Ao Tryz.func30
def dc44l0 : DC := (.seq (sr [mm 7 3, mm 8 0, nn 9 false 8, bt 10 .lss 7 9] (cd 10 .skip (.exit 0))) (.seq (.block 1 (sr [mm 13 0, mm 14 3, ii 15 2 13 14, ff 16 0 15, ll 17 16, nn 18 true 17, bi 19 .gtr 18 100] (cd 19 (sr [ci 2 1] .ret) .skip))) (.row [mm 11 3, bi 12 .add 11 1, mm 3 12])))
def dc44 : DC := (sr [ci 2 0] (.seq (sr [mm 4 0, nn 5 false 4, bi 6 .gtr 5 8] (cd 6 (sr [ci 2 1] .ret) .skip)) (.seq (sr [ci 3 0] (.block 0 (.loop dc44l0))) (sr [ci 2 0] .ret))))
theorem fn44 : Fn Tryz.prog 44 20 dc44 [.t 2] := Ao Tryz.func44
def dc202l0 : DC := (sr [oo 14 (.next (.t 13)), xx 15 0 14] (.seq (cd 15 .skip (.exit 0)) (.block 1 (sr [xx 16 2 14, mm 4 16] (sr [mm 17 4, oo 18 (.bin .lss (.t 17) (.c (.int .i32 97))), mm 19 18, og 20 (.mv (.t 4)) 2 false, og 21 (.bin .gtr (.t 20) (.c (.int .i32 122))) 2 false, oo 22 (.pick (.t 19) (.c (.bool true)) (.t 21)), mm 23 22, og 24 (.mv (.t 4)) 6 true, og 25 (.bin .lss (.t 24) (.c (.int .i32 48))) 6 true, og 26 (.mv (.t 25)) 6 true, og 27 (.mv (.t 4)) 9 false, og 28 (.bin .gtr (.t 27) (.c (.int .i32 57))) 9 false, og 29 (.pick (.t 26) (.c (.bool true)) (.t 28)) 6 true, oo 30 (.pick (.t 23) (.t 29) (.c (.bool false)))] (cd 30 (sr [cb 2 false] .ret) .skip))))))
def dc202 : DC := (sr [cb 2 false] (.seq (sr [mm 5 0, oo 6 (.bin .eql (.t 5) (.c (.str []))), mm 7 6, og 8 (.mv (.t 0)) 2 false, og 9 (.len true (.t 8)) 2 false, og 10 (.bin .gtr (.t 9) (.c (.int .i64 8))) 2 false, oo 11 (.pick (.t 7) (.c (.bool true)) (.t 10))] (cd 11 (sr [cb 2 false] .ret) .skip)) (.seq (sr [mm 12 0, oo 13 (.range (.t 12))] (.block 0 (.loop dc202l0))) (sr [cb 2 true] .ret))))
theorem fn202 : Fn Tryz.prog 202 31 dc202 [.t 2] := Ao Tryz.func202
def dc98 : DC := (sr [oo 1 (.box (.t 0)), ci 2 0] (sr [ff 4 2 1, ll 5 4, bi 6 .eql 5 0, mm 3 6] (.seq (sr [ff 7 0 1, ll 8 7] (.block 0 (sr [oo 10 (.bin .eql (.t 8) (.c (.int .u8 1))), mm 9 10] (cd 9 (.row [mm 11 3, mm 12 11, og 13 (.faddr 1 (.t 1)) 1 true, og 14 (.load none (.t 13)) 1 true, og 15 (.call (.c (.fn 201 [])) [(.t 14)]) 1 true, og 16 (.bin .eql (.t 15) (.c (.int .i64 0))) 1 true, oo 17 (.pick (.t 12) (.t 16) (.c (.bool false))), mm 3 17]) (sr [oo 19 (.bin .eql (.t 8) (.c (.int .u8 2))), mm 18 19] (cd 18 (.row [ff 20 2 1, ll 21 20, bi 22 .geq 21 1, mm 23 22, og 24 (.faddr 2 (.t 1)) 3 true, og 25 (.load none (.t 24)) 3 true, og 26 (.bin .leq (.t 25) (.c (.int .i64 30))) 3 true, oo 27 (.pick (.t 23) (.t 26) (.c (.bool false))), mm 28 27, og 29 (.faddr 1 (.t 1)) 8 true, og 30 (.load none (.t 29)) 8 true, og 31 (.call (.c (.fn 201 [])) [(.t 30)]) 8 true, og 32 (.bin .eql (.t 31) (.c (.int .i64 0))) 8 true, oo 33 (.pick (.t 28) (.t 32) (.c (.bool false))), mm 3 33]) (sr [oo 35 (.bin .eql (.t 8) (.c (.int .u8 3))), mm 34 35] (cd 34 (.row [mm 36 3, mm 37 36, og 38 (.faddr 1 (.t 1)) 1 true, og 39 (.load none (.t 38)) 1 true, og 40 (.call (.c (.fn 202 [])) [(.t 39)]) 1 true, oo 41 (.pick (.t 37) (.t 40) (.c (.bool false))), mm 3 41]) (.seq (sr [oo 43 (.bin .eql (.t 8) (.c (.int .u8 4))), mm 42 43] (cd 42 .skip (.row [oo 44 (.bin .eql (.t 8) (.c (.int .u8 5))), mm 42 44]))) (cd 42 (.row [mm 45 3, mm 46 45, og 47 (.faddr 1 (.t 1)) 1 true, og 48 (.load none (.t 47)) 1 true, og 49 (.bin .eql (.t 48) (.c (.str []))) 1 true, oo 50 (.pick (.t 46) (.t 49) (.c (.bool false))), mm 3 50]) (sr [ci 2 22] .ret))))))))))) (.seq (sr [mm 51 3, oo 52 (.un .not (.t 51))] (cd 52 (sr [ci 2 2] .ret) .skip)) (sr [ci 2 0] .ret)))))
theorem fn98 : Fn Tryz.prog 98 53 dc98 [.t 2] := Ao Tryz.func98
def dc213 : DC := (sr [cb 2 false] (sr [mm 3 0, oo 4 (.build [(.int .u8 0), (.str []), (.int .i64 0)] [(0, 1, (.c (.int .u8 3))), (1, 1, (.t 3))]), cc 5 98 [(.t 4)], bi 6 .eql 5 0, mm 2 6] .ret))
theorem fn213 : Fn Tryz.prog 213 7 dc213 [.t 2] := Ao Tryz.func213
def dc217l0 : DC := (.seq (sr [mm 12 3, mm 13 0, nn 14 true 13, bt 15 .lss 12 14] (cd 15 .skip (.exit 0))) (.seq (.block 1 (sr [mm 18 0, mm 19 3, oo 20 (.idxs (.t 18) (.t 19)), oo 21 (.bin .lss (.t 20) (.c (.int .u8 97))), mm 22 21, og 23 (.mv (.t 0)) 4 false, og 24 (.mv (.t 3)) 4 false, og 25 (.idxs (.t 23) (.t 24)) 4 false, og 26 (.bin .gtr (.t 25) (.c (.int .u8 122))) 4 false, oo 27 (.pick (.t 22) (.c (.bool true)) (.t 26)), mm 28 27, og 29 (.mv (.t 0)) 10 true, og 30 (.mv (.t 3)) 10 true, og 31 (.idxs (.t 29) (.t 30)) 10 true, og 32 (.bin .lss (.t 31) (.c (.int .u8 48))) 10 true, og 33 (.mv (.t 32)) 10 true, og 34 (.mv (.t 0)) 15 false, og 35 (.mv (.t 3)) 15 false, og 36 (.idxs (.t 34) (.t 35)) 15 false, og 37 (.bin .gtr (.t 36) (.c (.int .u8 57))) 15 false, og 38 (.pick (.t 33) (.c (.bool true)) (.t 37)) 10 true, oo 39 (.pick (.t 28) (.t 38) (.c (.bool false)))] (cd 39 (sr [cb 2 false] .ret) .skip))) (.row [mm 16 3, bi 17 .add 16 1, mm 3 17])))
def dc217 : DC := (sr [cb 2 false] (.seq (sr [mm 4 0, nn 5 true 4, bi 6 .lss 5 1, mm 7 6, og 8 (.mv (.t 0)) 3 false, og 9 (.len true (.t 8)) 3 false, og 10 (.bin .gtr (.t 9) (.c (.int .i64 8))) 3 false, oo 11 (.pick (.t 7) (.c (.bool true)) (.t 10))] (cd 11 (sr [cb 2 false] .ret) .skip)) (.seq (sr [ci 3 0] (.block 0 (.loop dc217l0))) (sr [cb 2 true] .ret))))
theorem fn217 : Fn Tryz.prog 217 40 dc217 [.t 2] := Ao Tryz.func217
def dc314 : DC := (sr [oo 2 (.box (.t 0)), ci 4 0] (.seq (sr [ff 6 0 2, ll 7 6, oo 8 (.bin .neq (.t 7) (.c (.str [])))] (cd 8 (sr [ff 9 0 2, ll 10 9, cc 11 201 [(.t 10)], mm 5 11] (sr [mm 12 5, bi 13 .neq 12 0] (cd 13 (sr [mm 14 5, mm 4 14] .ret) .skip))) .skip)) (.seq (sr [ff 15 1 2, ll 16 15, oo 17 (.bin .gtr (.t 16) (.c (.int .u8 63)))] (cd 17 (sr [ci 4 2] .ret) .skip)) (.seq (sr [mm 18 1, oo 19 (.mkfn 369 [(.t 2)]), cc 20 368 [(.t 18), (.t 19)]] (cd 20 (sr [ci 4 20] .ret) .skip)) (sr [ci 4 0] .ret)))))
theorem fn314 : Fn Tryz.prog 314 21 dc314 [.t 4] := Ao Tryz.func314
def dc368 : DC := (sr [cb 4 false] (sr [mm 5 0, mm 6 1, cc 7 399 [(.t 5), (.t 6)], bi 8 .geq 7 0, mm 4 8] .ret))
theorem fn368 : Fn Tryz.prog 368 9 dc368 [.t 4] := Ao Tryz.func368
def dc369 : DC := (sr [oo 2 (.box (.t 0)), cb 3 false] (sr [ff 4 0 2, ll 5 4, ff 6 0 1, ll 7 6, bt 8 .eql 5 7, mm 3 8] .ret))
theorem fn369 : Fn Tryz.prog 369 9 dc369 [.t 3] := Ao Tryz.func369
def dc399l0 : DC := (sr [bt 9 .lss 8 7] (.seq (cd 9 .skip (.exit 0)) (.seq (.block 1 (sr [mm 10 8, mm 5 10] (sr [mm 11 1, mm 12 0, mm 13 5, ii 14 2 12 13, lk 15 2 14, oo 16 (.call (.t 11) [(.t 15)])] (cd 16 (sr [mm 17 5, mm 4 17] .ret) .skip)))) (.row [bi 18 .add 8 1, mm 8 18]))))
def dc399 : DC := (sr [ci 4 0] (.seq (sr [mm 6 0, nn 7 false 6, ci 8 0] (.block 0 (.loop dc399l0))) (sr [oo 4 (.mv (.c (.int .i64 (-1))))] .ret)))
theorem fn399 : Fn Tryz.prog 399 19 dc399 [.t 4] := Ao Tryz.func399
def dc214l0 : DC := (sr [bt 12 .lss 11 10] (.seq (cd 12 .skip (.exit 0)) (.seq (.block 1 (sr [mm 13 11, ii 14 2 9 11, lk 15 2 14, oo 4 (.alloc [(.str []), (.int .u8 0)]), mm 3 13, oz (.store 2 (.t 4) (.t 15))] (.seq (.drawn [lk 16 2 4, mm 17 0, mm 18 3, oo 19 (.cutl 2 (.t 17) none (some (.t 18))), cc 20 314 [(.t 16), (.t 19)], mm 5 20] []) (sr [mm 21 5, bi 22 .neq 21 0] (cd 22 (sr [mm 23 5, mm 2 23] .ret) .skip))))) (.row [bi 24 .add 11 1, mm 11 24]))))
def dc214 : DC := (sr [ci 2 0] (.seq (sr [mm 6 0, nn 7 false 6, bi 8 .gtr 7 4] (cd 8 (sr [ci 2 24] .ret) .skip)) (.seq (sr [mm 9 0, nn 10 false 9, ci 11 0] (.block 0 (.loop dc214l0))) (sr [ci 2 0] .ret))))
theorem fn214 : Fn Tryz.prog 214 25 dc214 [.t 2] := Ao Tryz.func214
def dc218l0 : DC := (.seq (sr [mm 41 4, mm 42 3, bt 43 .lss 41 42] (cd 43 .skip (.exit 2))) (.seq (.block 3 (.seq (.drawn [mm 46 0, mm 47 4, ii 48 2 46 47, ff 49 0 48, ll 50 49, mm 51 0, mm 52 3, ii 53 2 51 52, ff 54 0 53, ll 55 54, bt 56 .eql 50 55] []) (cd 56 (sr [ci 2 20] .ret) .skip))) (.row [mm 44 4, bi 45 .add 44 1, mm 4 45])))
def dc218l1 : DC := (.seq (sr [mm 8 3, mm 9 0, nn 10 false 9, bt 11 .lss 8 10] (cd 11 .skip (.exit 0))) (.seq (.block 1 (.seq (sr [mm 14 0, mm 15 3, ii 16 2 14 15, ff 17 0 16, ll 18 17, oo 19 (.bin .neq (.t 18) (.c (.str []))), mm 20 19, og 21 (.mv (.t 0)) 6 true, og 22 (.mv (.t 3)) 6 true, og 23 (.iaddr 2 (.t 21) (.t 22)) 6 true, og 24 (.faddr 0 (.t 23)) 6 true, og 25 (.load none (.t 24)) 6 true, og 26 (.call (.c (.fn 211 [])) [(.t 25)]) 6 true, og 27 (.bin .neq (.t 26) (.c (.int .i64 0))) 6 true, oo 28 (.pick (.t 20) (.t 27) (.c (.bool false)))] (cd 28 (sr [mm 29 0, mm 30 3, ii 31 2 29 30, ff 32 0 31, ll 33 32, cc 34 211 [(.t 33)], mm 2 34] .ret) .skip)) (.seq (sr [mm 35 0, mm 36 3, ii 37 2 35 36, ff 38 1 37, ll 39 38, oo 40 (.bin .gtr (.t 39) (.c (.int .u8 63)))] (cd 40 (sr [ci 2 2] .ret) .skip)) (sr [ci 4 0] (.block 2 (.loop dc218l0)))))) (.row [mm 12 3, bi 13 .add 12 1, mm 3 13])))
def dc218 : DC := (sr [ci 2 0] (.seq (sr [mm 5 0, nn 6 false 5, bi 7 .gtr 6 4] (cd 7 (sr [ci 2 24] .ret) .skip)) (.seq (sr [ci 3 0] (.block 0 (.loop dc218l1))) (sr [ci 2 0] .ret))))
theorem fn218 : Fn Tryz.prog 218 57 dc218 [.t 2] := Ao Tryz.func218
def dc219l0 : DC := (.seq (sr [mm 6 5, bi 7 .lss 6 8] (cd 7 .skip (.exit 0))) (.seq (.block 1 (.seq (sr [mm 10 1, oo 11 (.bin .rem (.t 10) (.c (.int .u8 2))), oo 12 (.bin .eql (.t 11) (.c (.int .u8 1))), mm 13 12, og 14 (.mv (.t 0)) 3 true, og 15 (.bin .rem (.t 14) (.c (.int .u8 2))) 3 true, og 16 (.bin .eql (.t 15) (.c (.int .u8 0))) 3 true, oo 17 (.pick (.t 13) (.t 16) (.c (.bool false)))] (cd 17 (sr [cb 4 false] .ret) .skip)) (.row [mm 18 1, oo 19 (.bin .quo (.t 18) (.c (.int .u8 2))), mm 20 0, oo 21 (.bin .quo (.t 20) (.c (.int .u8 2))), mm 1 19, mm 0 21]))) (.row [mm 8 5, bi 9 .add 8 1, mm 5 9])))
def dc219 : DC := (sr [cb 4 false] (.seq (sr [ci 5 0] (.block 0 (.loop dc219l0))) (sr [cb 4 true] .ret)))
theorem fn219 : Fn Tryz.prog 219 22 dc219 [.t 4] := Ao Tryz.func219
def dc220l0 : DC := (.seq (sr [mm 7 6, mm 8 0, nn 9 false 8, bt 10 .lss 7 9] (cd 10 .skip (.exit 0))) (.seq (.block 1 (.seq (.drawn [mm 13 1, mm 14 0, mm 15 6, ii 16 2 14 15, ff 17 0 16, ll 18 17, cc 19 111 [(.t 13), (.t 18)], mm 20 19, og 21 (.mv (.t 5)) 7 true, og 22 (.bin .lss (.t 21) (.c (.int .i64 0))) 7 true, og 23 (.mv (.t 22)) 7 true, og 24 (.mv (.t 0)) 10 false, og 25 (.mv (.t 6)) 10 false, og 26 (.iaddr 2 (.t 24) (.t 25)) 10 false, og 27 (.faddr 0 (.t 26)) 10 false, og 28 (.load none (.t 27)) 10 false, og 29 (.len true (.t 28)) 10 false, og 30 (.mv (.t 0)) 10 false, og 31 (.mv (.t 5)) 10 false, og 32 (.iaddr 2 (.t 30) (.t 31)) 10 false, og 33 (.faddr 0 (.t 32)) 10 false, og 34 (.load none (.t 33)) 10 false, og 35 (.len true (.t 34)) 10 false, og 36 (.bin .gtr (.t 29) (.t 35)) 10 false, og 37 (.pick (.t 23) (.c (.bool true)) (.t 36)) 7 true, oo 38 (.pick (.t 20) (.t 37) (.c (.bool false)))] []) (cd 38 (.row [mm 39 6, mm 5 39]) .skip))) (.row [mm 11 6, bi 12 .add 11 1, mm 6 12])))
def dc220 : DC := (sr [oo 4 (.mv (.c (.int .u8 0)))] (sr [oo 5 (.mv (.c (.int .i64 (-1))))] (.seq (sr [ci 6 0] (.block 0 (.loop dc220l0))) (.seq (sr [mm 40 5, bi 41 .lss 40 0] (cd 41 (sr [oo 4 (.mv (.c (.int .u8 0)))] .ret) .skip)) (sr [mm 42 0, mm 43 5, ii 44 2 42 43, ff 45 1 44, ll 46 45, mm 4 46] .ret)))))
theorem fn220 : Fn Tryz.prog 220 47 dc220 [.t 4] := Ao Tryz.func220
def dc95 : DC := (sr [oo 4 (.mv (.c (.int .u8 0)))] (sr [mm 6 1, mm 7 0, cc 8 199 [(.t 7)], cc 9 198 [(.t 6), (.t 8)], mm 5 9] (.seq (sr [mm 10 5, bi 11 .lss 10 0] (cd 11 (sr [oo 4 (.mv (.c (.int .u8 0)))] .ret) .skip)) (sr [mm 12 0, mm 13 5, ii 14 2 12 13, ff 15 1 14, ll 16 15, mm 4 16] .ret))))
theorem fn95 : Fn Tryz.prog 95 17 dc95 [.t 4] := Ao Tryz.func95
def dc199l0 : DC := (sr [bt 12 .lss 11 10] (.seq (cd 12 .skip (.exit 0)) (.seq (.block 1 (sr [mm 13 11, ii 14 2 9 11, lk 15 2 14, oo 5 (.alloc [(.str []), (.int .u8 0)]), mm 4 13, oz (.store 2 (.t 5) (.t 15))] (.row [mm 16 3, mm 17 4, ff 18 0 5, ll 19 18, ii 20 1 16 17, oz (.store 1 (.t 20) (.t 19))]))) (.row [bi 21 .add 11 1, mm 11 21]))))
def dc199 : DC := (sr [oo 2 (.mv (.c (.slice true [] [])))] (sr [mm 6 0, nn 7 false 6, oo 8 (.mksl 9 1 16 (.str []) (.t 7) (.t 7)), mm 3 8] (.seq (sr [mm 9 0, nn 10 false 9, ci 11 0] (.block 0 (.loop dc199l0))) (sr [mm 22 3, mm 2 22] .ret))))
theorem fn199 : Fn Tryz.prog 199 23 dc199 [.t 2] := Ao Tryz.func199
def dc198l0 : DC := (sr [bt 12 .lss 11 10] (.seq (cd 12 .skip (.exit 0)) (.seq (.block 1 (sr [mm 13 11, ii 14 1 9 11, ll 15 14, mm 7 13, mm 8 15] (sr [mm 16 8, nn 17 true 16, mm 18 6, bt 19 .gtr 17 18, mm 20 19, og 21 (.mv (.t 0)) 4 true, og 22 (.mv (.t 8)) 4 true, og 23 (.call (.c (.fn 206 [])) [(.t 21), (.t 22)]) 4 true, oo 24 (.pick (.t 20) (.t 23) (.c (.bool false)))] (cd 24 (.row [mm 25 7, mm 26 8, nn 27 true 26, mm 5 25, mm 6 27]) .skip)))) (.row [bi 28 .add 11 1, mm 11 28]))))
def dc198 : DC := (sr [ci 4 0] (sr [oo 5 (.mv (.c (.int .i64 (-1)))), oo 6 (.mv (.c (.int .i64 (-1))))] (.seq (sr [mm 9 1, nn 10 false 9, ci 11 0] (.block 0 (.loop dc198l0))) (sr [mm 29 5, mm 4 29] .ret))))
theorem fn198 : Fn Tryz.prog 198 30 dc198 [.t 4] := Ao Tryz.func198
def dc215 : DC := (sr [cb 6 false] (sr [mm 7 2, mm 8 0, mm 9 1, cc 10 95 [(.t 8), (.t 9)], bt 11 .andNot 7 10, oo 12 (.bin .eql (.t 11) (.c (.int .u8 0))), mm 6 12] .ret))
theorem fn215 : Fn Tryz.prog 215 13 dc215 [.t 6] := Ao Tryz.func215
def dc114l0 : DC := (sr [bt 26 .lss 25 24] (.seq (cd 26 .skip (.exit 2)) (.seq (.block 3 (sr [ii 27 2 23 25, lk 28 2 27, oo 8 (.alloc [(.str []), (.int .u8 0)]), oz (.store 2 (.t 8) (.t 28))] (.seq (.drawn [mm 29 1, ff 30 0 8, ll 31 30, mm 32 0, ff 33 0 8, ll 34 33, cc 35 95 [(.t 32), (.t 34)], cc 36 215 [(.t 29), (.t 31), (.t 35)], oo 37 (.un .not (.t 36))] [(6, 2)]) (cd 37 (sr [cb 4 false] .ret) .skip)))) (.row [bi 38 .add 25 1, mm 25 38]))))
def dc114l1 : DC := (sr [bi 21 .lss 20 2] (.seq (cd 21 .skip (.exit 0)) (.seq (.block 1 (sr [oo 22 (.idxa 2 (.t 19) (.t 20)), mm 6 22] (sr [mm 23 6, nn 24 false 23, ci 25 0] (.block 2 (.loop dc114l0))))) (.row [bi 39 .add 20 1, mm 20 39]))))
def dc114 : DC := (sr [cb 4 false] (.seq (sr [mm 9 0, cc 10 214 [(.t 9)], bi 11 .neq 10 0, mm 12 11, og 13 (.mv (.t 1)) 3 false, og 14 (.call (.c (.fn 214 [])) [(.t 13)]) 3 false, og 15 (.bin .neq (.t 14) (.c (.int .i64 0))) 3 false, oo 16 (.pick (.t 12) (.c (.bool true)) (.t 15))] (cd 16 (sr [cb 4 false] .ret) .skip)) (.seq (sr [mm 17 0, mm 18 1, oo 19 (.build [(.slice true [] []), (.slice true [] [])] [(0, 1, (.t 17)), (1, 1, (.t 18))]), ci 20 0] (.block 0 (.loop dc114l1))) (sr [cb 4 true] .ret))))
theorem fn114 : Fn Tryz.prog 114 40 dc114 [.t 4] := Ao Tryz.func114
def dc118l0 : DC := (.seq (sr [mm 21 6, mm 22 5, nn 23 false 22, bt 24 .lss 21 23] (cd 24 .skip (.exit 0))) (.seq (.block 1 (sr [mm 27 5, mm 28 6, ii 29 2 27 28, ff 30 0 29, ll 31 30, mm 7 31] (sr [mm 32 1, mm 33 7, cc 34 220 [(.t 32), (.t 33)], mm 35 0, mm 36 7, cc 37 220 [(.t 35), (.t 36)], cc 38 219 [(.t 34), (.t 37)], oo 39 (.un .not (.t 38))] (cd 39 (sr [cb 4 false] .ret) .skip)))) (.row [mm 25 6, bi 26 .add 25 1, mm 6 26])))
def dc118 : DC := (sr [cb 4 false] (.seq (sr [mm 8 0, cc 9 218 [(.t 8)], bi 10 .neq 9 0, mm 11 10, og 12 (.mv (.t 1)) 3 false, og 13 (.call (.c (.fn 218 [])) [(.t 12)]) 3 false, og 14 (.bin .neq (.t 13) (.c (.int .i64 0))) 3 false, oo 15 (.pick (.t 11) (.c (.bool true)) (.t 14))] (cd 15 (sr [cb 4 false] .ret) .skip)) (sr [oo 16 (.bslice 191 2 []), mm 17 0, oo 18 (.app 191 2 24 (.t 16) (.t 17)), mm 19 1, oo 20 (.app 191 2 24 (.t 18) (.t 19)), mm 5 20] (.seq (sr [ci 6 0] (.block 0 (.loop dc118l0))) (sr [cb 4 true] .ret)))))
theorem fn118 : Fn Tryz.prog 118 40 dc118 [.t 4] := Ao Tryz.func118
def dc164 : DC := (sr [cb 6 false] (sr [mm 7 0, mm 8 1, cc 9 220 [(.t 7), (.t 8)], mm 10 2, cc 11 219 [(.t 9), (.t 10)], mm 6 11] .ret))
theorem fn164 : Fn Tryz.prog 164 12 dc164 [.t 6] := Ao Tryz.func164
end Go.Vd
namespace Go.Vd
open Go.Proofs Go.RowKit
def Cn (op : Int) : Int := if op = 9 ∨ op = 14 ∨ op = 18 then 1 else if op = 10 ∨ op = 15 then 2 else if op = 11 ∨ op = 12 then 4 else if op = 13 ∨ op = 16 then 8 else if op = 17 then 16 else if 3 ≤ op ∧ op ≤ 8 then 32 else 0
def writesF (op : Int) : Bool := decide (4 ≤ op ∧ op ≤ 18 ∧ op ≠ 9 ∧ op ≠ 14 ∧ op ≠ 17)
def F27 : List D → Option D
 | [.int .u8 op] => some (.int .u8 (Cn op))
 | _ => none
theorem ok27 : (Ai F27).ok Tryz.prog 27 := by
 refine As (S := fun _ => none) Au fn27 (fun ds r h => ?_) (fun ds r h => ?_)
 ·unfold F27 at h; split at h
  ·simp
  ·cases h
 ·unfold F27 at h; split at h
  ·rename_i op
   simp only [Option.some.injEq] at h
   subst h
   unfold dc27
   simp only [↓go1, go2, reduceIte, Nat.reduceEqDiff, Nat.reduceAdd]
   repeat' (first | (refine ifQ.intro (fun h => ?_) (fun h => ?_) <;> try (exfalso; omega)) | (simp only [↓go1, go2, go3, go4, reduceIte, Nat.reduceEqDiff, Nat.reduceAdd, h]))
   all_goals (first | rfl | (rw [D.int.injEq]; refine ⟨rfl, ?_⟩; unfold Cn; (repeat' split) <;> first | rfl | (exfalso; omega)))
  ·cases h
def F28 : List D → Option D
 | [.int .i64 op] => some (.int .u8 (Cn op))
 | _ => none
theorem ok28 : (Ai F28).ok Tryz.prog 28 := by
 refine As (S := fun _ => none) Au fn28 (fun ds r h => ?_) (fun ds r h => ?_)
 ·unfold F28 at h; split at h
  ·simp
  ·cases h
 ·unfold F28 at h; split at h
  ·rename_i op
   simp only [Option.some.injEq] at h
   subst h
   unfold dc28
   simp only [↓go1, go2, reduceIte, Nat.reduceEqDiff, Nat.reduceAdd]
   repeat' (first | (refine ifQ.intro (fun h => ?_) (fun h => ?_) <;> try (exfalso; omega)) | (simp only [↓go1, go2, go3, go4, reduceIte, Nat.reduceEqDiff, Nat.reduceAdd, h]))
   all_goals (first | rfl | (rw [D.int.injEq]; refine ⟨rfl, ?_⟩; unfold Cn; (repeat' split) <;> first | rfl | (exfalso; omega)))
  ·cases h
def F29 : List D → Option D
 | [.int .u8 op] => some (.bool (writesF op))
 | _ => none
theorem ok29 : (Ai F29).ok Tryz.prog 29 := by
 refine As (S := fun _ => none) Au fn29 (fun ds r h => ?_) (fun ds r h => ?_)
 ·unfold F29 at h; split at h
  ·simp
  ·cases h
 ·unfold F29 at h; split at h
  ·rename_i op
   simp only [Option.some.injEq] at h
   subst h
   unfold dc29
   simp only [↓go1, go2, reduceIte, Nat.reduceEqDiff, Nat.reduceAdd]
   repeat' (first | (refine ifQ.intro (fun h => ?_) (fun h => ?_) <;> try (exfalso; omega)) | (simp only [↓go1, go2, go3, go4, reduceIte, Nat.reduceEqDiff, Nat.reduceAdd, h]))
   all_goals (rw [D.bool.injEq, Bool.eq_iff_iff]; simp [writesF]; try omega)
  ·cases h
def F30 : List D → Option D
 | [.int .i64 op] => some (.bool (writesF op))
 | _ => none
theorem ok30 : (Ai F30).ok Tryz.prog 30 := by
 refine As (S := fun _ => none) Au fn30 (fun ds r h => ?_) (fun ds r h => ?_)
 ·unfold F30 at h; split at h
  ·simp
  ·cases h
 ·unfold F30 at h; split at h
  ·rename_i op
   simp only [Option.some.injEq] at h
   subst h
   unfold dc30
   simp only [↓go1, go2, reduceIte, Nat.reduceEqDiff, Nat.reduceAdd]
   repeat' (first | (refine ifQ.intro (fun h => ?_) (fun h => ?_) <;> try (exfalso; omega)) | (simp only [↓go1, go2, go3, go4, reduceIte, Nat.reduceEqDiff, Nat.reduceAdd, h]))
   all_goals (rw [D.bool.injEq, Bool.eq_iff_iff]; simp [writesF]; try omega)
  ·cases h
def Cs (c : Int) : Bool := decide (97 ≤ c ∧ c ≤ 122) || decide (48 ≤ c ∧ c ≤ 57)
def nameS (s : Bs) : Nat → Nat → Bool
 | 0, _ => true
 | f + 1, p => if p < s.length then Cs (at' s p) && nameS s f (p + 1) else true
def BF (s : Bs) : Bool := decide (1 ≤ s.length) && decide (s.length ≤ 8) && nameS s s.length 0
theorem dec_name (s : Bs) (p : Nat) (hp : p < s.length) : Cs ((Utf8.decode ⟨s.toArray⟩ p).1 : Nat) = Cs (at' s p) ∧ (Cs (at' s p) = true → (Utf8.decode ⟨s.toArray⟩ p).2 = 1) := by
 have b0 := at_lt s p
 by_cases h : at' s p < 128
 ·have : Utf8.decode ⟨s.toArray⟩ p = (at' s p, 1) := by
   unfold Utf8.decode
   simp only [get_at, Nat.add_zero, h, if_true]
  rw [this]; exact ⟨rfl, fun _ => rfl⟩
 ·have h1 : Cs (at' s p) = false := by simp [Cs]; omega
  have h2 : 128 ≤ (Utf8.decode ⟨s.toArray⟩ p).1 := by
   unfold Utf8.decode
   simp only [get_at, Nat.add_zero, h, if_false]
   (repeat' split) <;> simp_all [Utf8.runeError] <;> omega
  refine ⟨?_, fun e => by rw [h1] at e; cases e⟩
  rw [h1]; simp [Cs]; omega
theorem loop202 {S : Summs} {ns i : Id} {s : Bs} {Q : Ex → St → Prop} {e : Bool} (hret : ∀ st, e = false → st.s 2 = .bool false → Q .ret st) (hexit : ∀ st, e = true → Q (.exit 0) st) :
  ∀ (f p : Nat) st g, s.length ≤ p + f → nameS s f p = e → st.s 13 = .itp i → st.m i 1 = some (.it s p) → AV S ns dc202l0 Q st g := by
 intro f
 induction f with
 | zero =>
  intro p st g hf he h0 hm
  refine Ad dc202l0.eq_1 ?_
  have : ¬ (p < s.length) := by omega
  simp only [↓go1, go2, go4, reduceIte, Nat.reduceEqDiff, Nat.reduceAdd, hm, h0, this]
  exact hexit _ he.symm
 | succ f ih =>
  intro p st g hf he h0 hm
  refine Ad dc202l0.eq_1 ?_
  unfold nameS at he
  by_cases hlt : p < s.length
  ·rw [if_pos hlt] at he
   obtain ⟨d1, d2⟩ := dec_name s p hlt
   cases ho : Cs (at' s p) with
   | true =>
    rw [ho, Bool.true_and] at he
    have w := d2 ho
    rw [ho] at d1
    have d3 : (97 ≤ ((Utf8.decode ⟨s.toArray⟩ p).1 : Int) ∧ ((Utf8.decode ⟨s.toArray⟩ p).1 : Int) ≤ 122) ∨ (48 ≤ ((Utf8.decode ⟨s.toArray⟩ p).1 : Int) ∧ ((Utf8.decode ⟨s.toArray⟩ p).1 : Int) ≤ 57) := by simpa [Cs] using d1
    have hp : st.m.put i 1 [.it s (p + (Utf8.decode ⟨s.toArray⟩ p).2)] i 1 = some (.it s (p + 1)) := by rw [DM, if_pos ⟨rfl, rfl⟩, w]
    simp only [↓go1, go2, go4, reduceIte, Nat.reduceEqDiff, Nat.reduceAdd, hm, h0, hlt]
    repeat' (first | (refine ifQ.intro (fun h => ?_) (fun h => ?_) <;> try (exfalso; omega)) | (simp only [↓go1, go2, go4, reduceIte, Nat.reduceEqDiff, Nat.reduceAdd, h]))
    all_goals (first | exact ih _ _ _ (by omega) he h0 hp | (exfalso; omega))
   | false =>
    rw [ho, Bool.false_and] at he
    rw [ho] at d1
    have d3 : ¬ ((97 ≤ ((Utf8.decode ⟨s.toArray⟩ p).1 : Int) ∧ ((Utf8.decode ⟨s.toArray⟩ p).1 : Int) ≤ 122) ∨ (48 ≤ ((Utf8.decode ⟨s.toArray⟩ p).1 : Int) ∧ ((Utf8.decode ⟨s.toArray⟩ p).1 : Int) ≤ 57)) := by
     intro hh
     have : Cs ((Utf8.decode ⟨s.toArray⟩ p).1 : Nat) = true := by simpa [Cs] using hh
     rw [d1] at this; cases this
    simp only [↓go1, go2, go4, reduceIte, Nat.reduceEqDiff, Nat.reduceAdd, hm, h0, hlt]
    repeat' (first | (refine ifQ.intro (fun h => ?_) (fun h => ?_) <;> try (exfalso; omega)) | (simp only [↓go1, go2, go4, reduceIte, Nat.reduceEqDiff, Nat.reduceAdd, h]))
    all_goals (first | exact hret _ he.symm rfl | (exfalso; omega))
  ·rw [if_neg hlt] at he
   simp only [↓go1, go2, go4, reduceIte, Nat.reduceEqDiff, Nat.reduceAdd, hm, h0, hlt]
   exact hexit _ he.symm
def F202 : List D → Option D
 | [.str s] => some (.bool (BF s))
 | _ => none
theorem ok202 : (Ai F202).ok Tryz.prog 202 := by
 refine As (S := fun _ => none) Au fn202 (fun ds r h => ?_) (fun ds r h => ?_)
 ·unfold F202 at h; split at h
  ·simp
  ·cases h
 ·unfold F202 at h; split at h
  ·rename_i s
   simp only [Option.some.injEq] at h
   subst h
   unfold dc202
   unfold BF
   have c1 : ((8 : Int) < (s.length : Int)) = (8 < s.length) := by simp only [eq_iff_iff]; omega
   by_cases h0 : s = []
   ·subst h0
    simp only [↓go1, go2, go3, go4, reduceIte, Nat.reduceEqDiff, Nat.reduceAdd]
    try simp
   ·have h0' : (s = []) = False := eq_false h0
    have hl : 1 ≤ s.length := by cases s with | nil => exact absurd rfl h0 | cons _ _ => simp
    by_cases h8 : 8 < s.length
    ·simp only [↓go1, go2, go3, go4, reduceIte, Nat.reduceEqDiff, Nat.reduceAdd, h0', c1, h8]
     simp; omega
    ·simp only [↓go1, go2, go4, reduceIte, Nat.reduceEqDiff, Nat.reduceAdd, h0', c1, h8]
     have e1 : (decide (1 ≤ s.length) && decide (s.length ≤ 8) && nameS s s.length 0) = nameS s s.length 0 := by simp; omega
     rw [e1]
     refine loop202 (e := nameS s s.length 0) (fun st h1 h2 => ?_) (fun st h1 => ?_) s.length 0 _ _ (by omega) rfl rfl (by simp only []; rw [DM, if_pos ⟨rfl, rfl⟩])
     ·simp only [↓go1, go2, go3, go4, h1, h2]
     ·simp only [↓go1, go2, go3, go4, reduceIte, Nat.reduceAdd, h1]
  ·cases h
theorem Ac {m : Mem} {i i' : Id} {o o' : Nat} {ds : List D} : m.put i o ds i' o' = if i' = i ∧ o ≤ o' ∧ o' < o + ds.length then ds[o' - o]? else m i' o' := rfl
theorem Ag {m : Mem} {i : Id} {o : Nat} : Af m i o 0 = some [] := rfl
theorem Ah {m : Mem} {i : Id} {o n : Nat} : Af m i o (n + 1) = (m i o).bind fun d => (Af m i (o + 1) n).map (d :: ·) := by
 show (match m i o with | some d => _ | none => none) = _
 cases m i o <;> rfl
theorem AR {s : Nat → D} {m : Mem} {k : Option Nat} {a : Nat} : BX [.cell k a] s m = ldD m k (s a) := by
 simp only [BX, rvAll, RV.of]
 cases ldD m k (s a) <;> rfl
theorem AE {m : Mem} {n : Nat} {i : Id} {o : Nat} : ldD m (some n) (.ptr i o) = (Af m i o n).map .agg := rfl
def rowsE (k : Int) (name : Bs) (n : Int) : Int :=
 if k = 1 then (if n = 0 ∧ Be name = 0 then 0 else 2) else if k = 2 then (if 1 ≤ n ∧ n ≤ 30 ∧ Be name = 0 then 0 else 2) else if k = 3 then (if n = 0 ∧ BF name = true then 0 else 2)
 else if k = 4 ∨ k = 5 then (if n = 0 ∧ name = [] then 0 else 2) else 22
def F98 : List D → Option D
 | [.agg [.int .u8 k, .str name, .int .i64 n]] => if name.length ≤ 1000000 then some (.int .i64 (rowsE k name n)) else none
 | _ => none
theorem ok98 : (Ai F98).ok Tryz.prog 98 := by
 obtain ⟨S, hS, hl⟩ := AJ (Ab ok201 (Ab ok202 Ae))
 have s201 := hl 201 _ rfl
 have s202 := hl 202 _ rfl
 clear hl
 refine As (S := S) hS fn98 (fun ds r h => ?_) (fun ds r h => ?_)
 ·unfold F98 at h; split at h
  ·simp
  ·cases h
 ·unfold F98 at h; split at h
  ·rename_i k name n
   split at h
   ·rename_i hc
    simp only [Option.some.injEq] at h
    subst h
    unfold dc98
    have h201 : F201 [.str name] = some (.int .i64 (Be name)) := if_pos hc
    have h202 : F202 [.str name] = some (.bool (BF name)) := rfl
    unfold rowsE
    generalize Be name = e at *
    generalize BF name = b at *
    simp only [↓go1, go2, go3, reduceIte, Nat.reduceEqDiff, Nat.reduceAdd, Ac, Nat.zero_le, Nat.reduceLT, Nat.sub_zero, List.length_cons, List.length_nil, Nat.zero_add, List.getElem?_cons_zero, List.getElem?_cons_succ, and_self]
    repeat' (first | (refine ifQ.intro (fun h => ?_) (fun h => ?_) <;> try (exfalso; omega)) | (simp only [↓go1, gB0, reduceIte, Nat.reduceEqDiff, Nat.reduceAdd, h, Ac, Nat.reduceLT, Aa s201, Aa s202, h201, h202]))
    all_goals (first | rfl | (rw [D.int.injEq]; refine ⟨rfl, ?_⟩; (repeat' split) <;> first | rfl | (exfalso; simp_all; done) | (exfalso; simp_all; omega)))
   ·cases h
  ·cases h
def F213 : List D → Option D
 | [.str s] => if s.length ≤ 1000000 then some (.bool (BF s)) else none
 | _ => none
theorem ok213 : (Ai F213).ok Tryz.prog 213 := by
 obtain ⟨S, hS, hl⟩ := AJ (Ab ok98 Ae)
 have s98 := hl 98 _ rfl
 clear hl
 refine As (S := S) hS fn213 (fun ds r h => ?_) (fun ds r h => ?_)
 ·unfold F213 at h; split at h
  ·simp
  ·cases h
 ·unfold F213 at h; split at h
  ·rename_i s
   split at h
   ·rename_i hc
    simp only [Option.some.injEq] at h
    subst h
    unfold dc213
    have hF : F98 [.agg [.int .u8 3, .str s, .int .i64 0]] = some (.int .i64 (rowsE 3 s 0)) := if_pos hc
    have e : rowsE 3 s 0 = if BF s = true then 0 else 2 := by simp [rowsE]
    simp only [↓go1, gB1, reduceIte, Nat.reduceEqDiff, Nat.reduceAdd, Bt, List.take_zero, List.take_succ_cons, List.drop_succ_cons, List.drop_zero, List.cons_append, List.nil_append, Nat.reduceLeDiff, and_self, A2, Aa s98, hF, e, Nat.reduceLeDiff, and_self]
    cases BF s <;> simp
   ·cases h
  ·cases h
theorem loop217 {S : Summs} {ns : Id} {s : Bs} {Q : Ex → St → Prop} {e : Bool} (hb : s.length ≤ 1000000) (hret : ∀ st, e = false → st.s 2 = .bool false → Q .ret st) (hexit : ∀ st, e = true → Q (.exit 0) st) :
  ∀ (f p : Nat) st g, s.length ≤ p + f → p ≤ s.length → nameS s f p = e → st.s 0 = .str s → st.s 3 = .int .i64 (p : Int) → AV S ns dc217l0 Q st g := by
 intro f
 induction f with
 | zero =>
  intro p st g hf hp he h0 h3
  refine Ad dc217l0.eq_1 ?_
  have : ¬ ((p : Int) < s.length) := by omega
  simp only [↓go1, go2, go4, reduceIte, Nat.reduceEqDiff, Nat.reduceAdd, h0, h3, this]
  exact hexit _ he.symm
 | succ f ih =>
  intro p st g hf hp he h0 h3
  refine Ad dc217l0.eq_1 ?_
  unfold nameS at he
  by_cases hlt : p < s.length
  ·rw [if_pos hlt] at he
   have hlt' : ((p : Int) < s.length) := by omega
   have hp0 : (0 : Int) ≤ (p : Int) := by omega
   obtain ⟨c, hc, hc2⟩ := at_some hlt
   have hw : IntKind.i64.wrap ((p : Int) + 1) = ((p + 1 : Nat) : Int) := w64 (by omega) (by omega)
   rw [hc2] at he
   cases ho : Cs (c.toNat : Nat) with
   | true =>
    rw [ho, Bool.true_and] at he
    have d3 : (97 ≤ (c.toNat : Int) ∧ (c.toNat : Int) ≤ 122) ∨ (48 ≤ (c.toNat : Int) ∧ (c.toNat : Int) ≤ 57) := by simpa [Cs] using ho
    simp only [↓go1, go2, go4, reduceIte, Nat.reduceEqDiff, Nat.reduceAdd, h0, h3, hlt', hp0, Int.toNat_natCast, hc]
    repeat' (first | (refine ifQ.intro (fun h => ?_) (fun h => ?_) <;> try (exfalso; omega)) | (simp only [↓go1, go2, go4, reduceIte, Nat.reduceEqDiff, Nat.reduceAdd, h, h0, h3, hp0, Int.toNat_natCast, hc, hw]))
    all_goals (first | exact ih _ _ _ (by omega) (by omega) he h0 rfl | (exfalso; omega))
   | false =>
    rw [ho, Bool.false_and] at he
    have d3 : ¬ ((97 ≤ (c.toNat : Int) ∧ (c.toNat : Int) ≤ 122) ∨ (48 ≤ (c.toNat : Int) ∧ (c.toNat : Int) ≤ 57)) := by
     intro hh
     have : Cs (c.toNat : Nat) = true := by simpa [Cs] using hh
     rw [ho] at this; cases this
    simp only [↓go1, go2, go4, reduceIte, Nat.reduceEqDiff, Nat.reduceAdd, h0, h3, hlt', hp0, Int.toNat_natCast, hc]
    repeat' (first | (refine ifQ.intro (fun h => ?_) (fun h => ?_) <;> try (exfalso; omega)) | (simp only [↓go1, go2, go4, reduceIte, Nat.reduceEqDiff, Nat.reduceAdd, h, h0, h3, hp0, Int.toNat_natCast, hc]))
    all_goals (first | exact hret _ he.symm rfl | (exfalso; omega))
  ·rw [if_neg hlt] at he
   have hlt' : ¬ ((p : Int) < s.length) := by omega
   simp only [↓go1, go2, go4, reduceIte, Nat.reduceEqDiff, Nat.reduceAdd, h0, h3, hlt']
   exact hexit _ he.symm
def F217 : List D → Option D
 | [.str s] => some (.bool (BF s))
 | _ => none
theorem ok217 : (Ai F217).ok Tryz.prog 217 := by
 refine As (S := fun _ => none) Au fn217 (fun ds r h => ?_) (fun ds r h => ?_)
 ·unfold F217 at h; split at h
  ·simp
  ·cases h
 ·unfold F217 at h; split at h
  ·rename_i s
   simp only [Option.some.injEq] at h
   subst h
   unfold dc217
   unfold BF
   have c1 : ((8 : Int) < (s.length : Int)) = (8 < s.length) := by simp only [eq_iff_iff]; omega
   have c2 : ((s.length : Int) < 1) = (s.length < 1) := by simp only [eq_iff_iff]; omega
   by_cases h0 : s.length < 1
   ·simp only [↓go1, go2, go3, go4, reduceIte, Nat.reduceEqDiff, Nat.reduceAdd, c2, h0]
    simp; omega
   ·by_cases h8 : 8 < s.length
    ·simp only [↓go1, go2, go3, go4, reduceIte, Nat.reduceEqDiff, Nat.reduceAdd, c1, c2, h0, h8]
     simp; omega
    ·simp only [↓go1, go2, go4, reduceIte, Nat.reduceEqDiff, Nat.reduceAdd, c1, c2, h0, h8]
     have e1 : (decide (1 ≤ s.length) && decide (s.length ≤ 8) && nameS s s.length 0) = nameS s s.length 0 := by
      have a1 : decide (1 ≤ s.length) = true := decide_eq_true (by omega)
      have a2 : decide (s.length ≤ 8) = true := decide_eq_true (by omega)
      rw [a1, a2]; rfl
     rw [e1]
     refine loop217 (e := nameS s s.length 0) (by omega) (fun st h1 h2 => ?_) (fun st h1 => ?_) s.length 0 _ _ (by omega) (by omega) rfl rfl rfl
     ·simp only [↓go1, go2, go3, go4, h1, h2]
     ·simp only [↓go1, go2, go3, go4, reduceIte, Nat.reduceAdd, h1]
  ·cases h
def capV (m : Mem) : List D → Option D
 | [] => some .junk
 | [.ptr i 0] => m i 0
 | _ => none
def capR : List D → List Loc
 | [.ptr i 0] => [(i, 0)]
 | _ => []
theorem capV_congr {m m' : Mem} {caps : List D} (h : ∀ l ∈ capR caps, m l.1 l.2 = m' l.1 l.2) : capV m caps = capV m' caps := by
 unfold capV
 split
 ·rfl
 ·exact h (_, 0) (by simp [capR])
 ·rfl
def cloS (F : D → D → Option D) : Summ where
 rd := fun ds _ => capR ds.tail
 ex := fun ds m _ => match ds with
  | x :: caps => (capV m caps).bind fun c => (F c x).map fun d => (d, [])
  | [] => none
def D_ : List (Option D) → Option (List Bool)
 | [] => some []
 | some (.bool b) :: r => (D_ r).map (b :: ·)
 | _ => none
def Bq (l : List Bool) : Int := match l.findIdx? id with
 | some k => k
 | none => -1
theorem firstT_any (l : List Bool) : decide (0 ≤ Bq l) = l.any id := by
 unfold Bq
 cases h : l.findIdx? id with
 | none =>
  have := List.findIdx?_eq_none_iff.1 h
  have h2 : l.any id = false := by rw [List.any_eq_false]; intro x hx; simpa using this x hx
  rw [h2]; simp
 | some k =>
  rw [List.findIdx?_eq_some_iff_getElem] at h
  obtain ⟨hk, h1, _⟩ := h
  have : l.any id = true := List.any_eq_true.2 ⟨l[k], List.getElem_mem hk, h1⟩
  rw [this]; simp
def elB : Option Nat → D → Bool
 | none, .agg _ => false
 | none, _ => true
 | some n, .agg cs => cs.length == n
 | some _, _ => false
def fnR (ds : List D) : List Loc := match ds with
 | [_, .fn _ caps] => capR caps
 | _ => []
def idxS (g : FuncId) (k : Option Nat) (F : D → D → Option D) : Summ where
 rd := fun ds _ => fnR ds
 ex := fun ds m _ => match ds with
  | [.slice _ _ xs, .fn g' caps] => if g' = g ∧ xs.length ≤ 1000000 ∧ xs.all (elB k) = true then (capV m caps).bind fun c => (D_ (xs.map (F c))).map fun bs => (.int .i64 (Bq bs), []) else none
  | _ => none
def cnS (g : FuncId) (k : Option Nat) (F : D → D → Option D) : Summ where
 rd := fun ds _ => fnR ds
 ex := fun ds m _ => match ds with
  | [.slice _ _ xs, .fn g' caps] => if g' = g ∧ xs.length ≤ 1000000 ∧ xs.all (elB k) = true then (capV m caps).bind fun c => (D_ (xs.map (F c))).map fun bs => (.bool (bs.any id), []) else none
  | _ => none
def dcIL (sz : Nat) (k : Option Nat) : DC := (.seq (.row [⟨some 9, .bin .lss (.t 8) (.t 7), [], none⟩]) (.seq (.cond (.t 9) .skip (.exit 0)) (.seq (.block 1 (.seq (.row [⟨some 10, .mv (.t 8), [], none⟩, ⟨some 5, .mv (.t 10), [], none⟩]) (.seq (.row [⟨some 11, .mv (.t 1), [], none⟩, ⟨some 12, .mv (.t 0), [], none⟩, ⟨some 13, .mv (.t 5), [], none⟩, ⟨some 14, .iaddr sz (.t 12) (.t 13), [], none⟩, ⟨some 15, .load k (.t 14), [], none⟩, ⟨some 16, .call (.t 11) [(.t 15)], [], none⟩]) (.cond (.t 16) (.seq (.row [⟨some 17, .mv (.t 5), [], none⟩, ⟨some 4, .mv (.t 17), [], none⟩]) .ret) .skip)))) (.row [⟨some 18, .bin .add (.t 8) (.c (.int .i64 1)), [], none⟩, ⟨some 8, .mv (.t 18), [], none⟩]))))
def dcI (sz : Nat) (k : Option Nat) : DC := (.seq (.row [⟨some 4, .mv (.c (.int .i64 0)), [], none⟩]) (.seq (.seq (.row [⟨some 6, .mv (.t 0), [], none⟩, ⟨some 7, .len false (.t 6), [], none⟩, ⟨some 8, .mv (.c (.int .i64 0)), [], none⟩]) (.block 0 (.loop (dcIL sz k)))) (.seq (.row [⟨some 4, .mv (.c (.int .i64 (-1))), [], none⟩]) .ret)))
def dcCn (f : FuncId) : DC := (.seq (.row [⟨some 4, .mv (.c (.bool false)), [], none⟩]) (.seq (.row [⟨some 5, .mv (.t 0), [], none⟩, ⟨some 6, .mv (.t 1), [], none⟩, ⟨some 7, .call (.c (.fn f [])) [(.t 5), (.t 6)], [], none⟩, ⟨some 8, .bin .geq (.t 7) (.c (.int .i64 0)), [], none⟩, ⟨some 4, .mv (.t 8), [], none⟩]) .ret))
def szOk (sz : Nat) : Option Nat → Prop
 | none => sz = 1
 | some n => sz = n
theorem elB_sz {sz : Nat} {k : Option Nat} (h : szOk sz k) {x : D} (hx : elB k x = true) : x.cells.length = sz := by
 cases k with
 | none => cases x <;> first | (cases hx; done) | exact h.symm
 | some n => cases x <;> first | (cases hx; done) | (simp only [elB, beq_iff_eq] at hx; exact hx.trans h.symm)
theorem elB_load {m : Mem} {k : Option Nat} {x : D} {K : D → Upd → Prop} {t : Tag (m, K)} (hx : elB k x = true) : loadK k (.eptr x.cells) m K t = K x [] := by
 cases k with
 | none => cases x <;> first | (cases hx; done) | (simp only [loadK_eptr, D.cells, List.head?_cons, AZ])
 | some n =>
  cases x <;> first | (cases hx; done) | skip
  rename_i cs
  simp only [elB, beq_iff_eq] at hx
  subst hx
  simp only [loadK_eptrs, D.cells, Nat.le_refl, Need_true, List.take_length]
theorem boolsOf_some : ∀ {l : List (Option D)} {bs : List Bool}, D_ l = some bs → l = bs.map fun b => some (.bool b)
 | [], bs, h => by simp only [D_, Option.some.injEq] at h; subst h; rfl
 | x :: r, bs, h => by
  unfold D_ at h
  split at h
  ·rename_i e; cases e
  ·rename_i b r' e
   cases e
   rw [Option.map_eq_some_iff] at h
   obtain ⟨bs', h1, rfl⟩ := h
   rw [boolsOf_some h1]; rfl
  ·cases h
theorem loopI {S : Summs} {ns : Id} {sz : Nat} {k : Option Nat} {g : FuncId} {F : D → D → Option D} {xs caps : List D} {c : D} {bs : List Bool} {nl : Bool} {t : Id} {m : Mem} {Q : Ex → St → Prop} (hsz : szOk sz k) (hg : S g = some (cloS F)) (hb : xs.length ≤ 1000000) (hel : xs.all (elB k) = true)
  (hcap : capV m caps = some c) (hbs : xs.map (F c) = bs.map fun b => some (.bool b))
  (hret : ∀ (j : Nat) st, st.m = m → bs.findIdx? id = some j → st.s 4 = .int .i64 (j : Int) → Q .ret st) (hexit : ∀ st, st.m = m → bs.findIdx? id = none → Q (.exit 0) st) :
  ∀ (n j : Nat) st tg, n = xs.length - j → j ≤ xs.length → (∀ i, i < j → bs[i]? = some false) → st.m = m → st.s 8 = .int .i64 (j : Int) → st.s 7 = .int .i64 (xs.length : Int) → st.s 0 = .slice nl t xs → st.s 1 = .fn g caps → AV S ns (dcIL sz k) Q st tg := by
 intro n
 have hlen : bs.length = xs.length := by simpa using (congrArg List.length hbs).symm
 induction n with
 | zero =>
  intro j st tg hn hj hall hm h8 h7 h0 h1
  refine Ad (dcIL.eq_1 sz k) ?_
  have : ¬ ((j : Int) < xs.length) := by omega
  simp only [↓go1, go2, go4, reduceIte, Nat.reduceAdd, h8, h7, this]
  refine hexit _ hm (List.findIdx?_eq_none_iff.2 fun b hb' => ?_)
  obtain ⟨i, hi, rfl⟩ := List.getElem_of_mem hb'
  have := hall i (by omega)
  rw [List.getElem?_eq_getElem hi] at this
  simpa using Option.some.inj this
 | succ n ih =>
  intro j st tg hn hj hall hm h8 h7 h0 h1
  refine Ad (dcIL.eq_1 sz k) ?_
  have hjl : j < xs.length := by omega
  have hlt : ((j : Int) < xs.length) := by omega
  have hj0 : (0 : Int) ≤ (j : Int) := by omega
  have hx : xs[j]? = some xs[j] := List.getElem?_eq_getElem hjl
  have he : elB k xs[j] = true := List.all_eq_true.1 hel _ (List.getElem_mem hjl)
  have hcs := elB_sz hsz he
  have hw : IntKind.i64.wrap ((j : Int) + 1) = ((j + 1 : Nat) : Int) := w64 (by omega) (by omega)
  obtain ⟨st_s, st_m, st_c⟩ := st
  simp only at hm h8 h7 h0 h1
  subst hm
  have hF : F c xs[j] = some (.bool (bs[j]'(by omega))) := by
   have e := congrArg (·[j]?) hbs
   simp only [List.getElem?_map, hx, Option.map_some, List.getElem?_eq_getElem (show j < bs.length by omega)] at e
   exact Option.some.inj e
  have hex : ∀ fr, (cloS F).ex (xs[j] :: caps) st_m fr = some (.bool (bs[j]'(by omega)), []) := by
   intro fr; simp only [cloS, hcap, Option.bind_some, hF, Option.map_some]
  simp only [↓go1, go2, go4, reduceIte, Nat.reduceEqDiff, Nat.reduceAdd, h8, h7, h0, h1, hlt, hj0, Int.toNat_natCast, hx, hcs, elB_load he, AK hg, hex]
  cases hbj : bs[j]'(by omega) with
  | true =>
   simp only [↓go1, go2, reduceIte, Nat.reduceEqDiff, Nat.reduceAdd]
   refine hret j _ rfl ?_ rfl
   rw [List.findIdx?_eq_some_iff_getElem]
   refine ⟨by omega, by simp [hbj], fun i hi => ?_⟩
   have := hall i hi
   rw [List.getElem?_eq_getElem (by omega)] at this
   simp [Option.some.inj this]
  | false =>
   simp only [↓go1, go2, reduceIte, Nat.reduceEqDiff, Nat.reduceAdd, h8, hw]
   refine ih (j + 1) _ _ (by omega) (by omega) (fun i hi => ?_) rfl rfl h7 h0 h1
   rcases Nat.lt_or_eq_of_le (Nat.le_of_lt_succ hi) with hi | rfl
   ·exact hall i hi
   ·rw [List.getElem?_eq_getElem (by omega), hbj]
theorem fnR_congr {ds : List D} {m m' : Mem} (h : ∀ l ∈ fnR ds, m l.1 l.2 = m' l.1 l.2) {x : D} {g : FuncId} {caps : List D} (e : ds = [x, .fn g caps]) : capV m caps = capV m' caps := by
 subst e; exact capV_congr h
theorem idx_ok {P : Program} {f g : FuncId} {sz : Nat} {k : Option Nat} {F : D → D → Option D} {N : Nat} (hN : 2 ≤ N) (hf : Fn P f N (dcI sz k) [.t 4]) (hsz : szOk sz k) (hg : (cloS F).ok P g) : (idxS g k F).ok P f := by
 have hS : Summs.ok P (Dr [(g, cloS F)]) := Ab hg Ae
 have sg : Dr [(g, cloS F)] g = some (cloS F) := by simp [Dr]
 generalize Dr [(g, cloS F)] = S at hS sg
 refine opn_ok hS hf (fun ds m m' fr h => ?_) (fun ds m fr r u hex _ => ?_)
 ·simp only [idxS] at h ⊢
  split
  ·rename_i nl t xs g' caps
   rw [fnR_congr h rfl]
  ·rfl
 ·simp only [idxS] at hex
  split at hex
  ·rename_i nl t xs g' caps
   split at hex
   ·rename_i hc
    obtain ⟨rfl, hb, hel⟩ := hc
    rw [Option.bind_eq_some_iff] at hex
    obtain ⟨c, hcap, hex⟩ := hex
    rw [Option.map_eq_some_iff] at hex
    obtain ⟨bs, hbs, hex⟩ := hex
    simp only [Prod.mk.injEq] at hex
    obtain ⟨rfl, rfl⟩ := hex
    refine ⟨hN, ?_⟩
    unfold dcI
    simp only [↓go1, go2, reduceIte, Nat.reduceEqDiff, Nat.reduceAdd]
    refine loopI (xs := xs) (caps := caps) (c := c) (bs := bs) (nl := nl) (t := t) (m := m) hsz sg hb hel hcap (boolsOf_some hbs) (fun j st hm h1 h2 => ?_) (fun st hm h1 => ?_) xs.length 0 _ _ (by omega) (by omega) (by simp) rfl rfl rfl rfl rfl
    ·simp only [↓go1, go2, go4, h2, Bq, h1, hm]
     exact fun i o x h => h
    ·simp only [↓go1, go2, go4, reduceIte, Nat.reduceAdd, Bq, h1, hm]
     exact fun i o x h => h
   ·cases hex
  ·cases hex
theorem cn_ok {P : Program} {f h g : FuncId} {k : Option Nat} {F : D → D → Option D} {N : Nat} (hN : 2 ≤ N) (hf : Fn P f N (dcCn h) [.t 4]) (hi : (idxS g k F).ok P h) : (cnS g k F).ok P f := by
 have hS : Summs.ok P (Dr [(h, idxS g k F)]) := Ab hi Ae
 have sh : Dr [(h, idxS g k F)] h = some (idxS g k F) := by simp [Dr]
 generalize Dr [(h, idxS g k F)] = S at hS sh
 refine opn_ok hS hf (fun ds m m' fr h => ?_) (fun ds m fr r u hex _ => ?_)
 ·simp only [cnS] at h ⊢
  split
  ·rename_i nl t xs g' caps
   rw [fnR_congr h rfl]
  ·rfl
 ·simp only [cnS] at hex
  split at hex
  ·rename_i nl t xs g' caps
   split at hex
   ·rename_i hc
    rw [Option.bind_eq_some_iff] at hex
    obtain ⟨c, hcap, hex⟩ := hex
    rw [Option.map_eq_some_iff] at hex
    obtain ⟨bs, hbs, hex⟩ := hex
    simp only [Prod.mk.injEq] at hex
    obtain ⟨rfl, rfl⟩ := hex
    refine ⟨hN, ?_⟩
    have he : ∀ fr, (idxS g k F).ex [.slice nl t xs, .fn g' caps] m fr = some (.int .i64 (Bq bs), []) := by
     intro fr; simp only [idxS, if_pos hc, hcap, Option.bind_some, hbs, Option.map_some]
    unfold dcCn
    simp only [↓go1, go2, go4, reduceIte, Nat.reduceEqDiff, Nat.reduceAdd, AK sh, he]
    exact ⟨by rw [← firstT_any], fun i o x h => h⟩
   ·cases hex
  ·cases hex
end Go.Vd
namespace Go.Vd
open Go.Proofs
def dc204 : DC := (sr [oo 2 (.box (.t 0)), cb 3 false] (sr [ff 4 0 2, ll 5 4, ll 6 1, bt 7 .eql 5 6, mm 3 7] .ret))
theorem fn204 : Fn Tryz.prog 204 8 dc204 [.t 3] := Ao Tryz.func204
def dc205 : DC := (sr [cb 3 false] (sr [ll 4 1, mm 5 0, cc 6 206 [(.t 4), (.t 5)], mm 7 6, og 8 (.mv (.t 0)) 3 false, og 9 (.load none (.t 1)) 3 false, og 10 (.call (.c (.fn 206 [])) [(.t 8), (.t 9)]) 3 false, oo 11 (.pick (.t 7) (.c (.bool true)) (.t 10)), mm 3 11] .ret))
theorem fn205 : Fn Tryz.prog 205 12 dc205 [.t 3] := Ao Tryz.func205
def dc103 : DC := (sr [oo 2 (.box (.t 0)), oo 3 (.box (.t 1)), ci 4 0] (sr [ff 5 0 2, ll 6 5, oo 7 (.mkfn 204 [(.t 3)]), cc 8 203 [(.t 6), (.t 7)], mm 4 8] .ret))
theorem fn103 : Fn Tryz.prog 103 9 dc103 [.t 4] := Ao Tryz.func103
def dc104 : DC := (sr [oo 2 (.box (.t 0)), cb 4 false] (sr [mm 5 1, oo 6 (.mkfn 205 [(.t 2)]), cc 7 192 [(.t 5), (.t 6)], mm 4 7] .ret))
theorem fn104 : Fn Tryz.prog 104 8 dc104 [.t 4] := Ao Tryz.func104
end Go.Vd
namespace Go.Vd
open Go.Proofs Go.RowKit
theorem clo_ok {S : Summs} {P : Program} {f : FuncId} {N : Nat} {dc : DC} {rs : List RV} {F : D → D → Option D} (hS : Summs.ok P S) (hf : Fn P f N dc rs)
  (hwp : ∀ x caps m fr c d, capV m caps = some c → F c x = some d → (∀ k i o, (k :: fr) <:+ i → m i o = none) → caps.length ≤ 1 → (caps.length + 1 ≤ N) ∧ dc.wp S fr (De rs fun d' m' => d' = d ∧ ∀ i o y, m i o = some y → m' i o = some y) ⟨Bi (x :: caps), m, 0⟩) : (cloS F).ok P f := by
 refine opn_ok hS hf (fun ds m m' fr h => ?_) (fun ds m fr r u hex hfr => ?_)
 ·simp only [cloS] at h ⊢
  split
  ·rename_i x caps; rw [capV_congr (m := m) (m' := m') (caps := caps) h]
  ·rfl
 ·simp only [cloS] at hex
  split at hex
  ·rename_i x caps
   rw [Option.bind_eq_some_iff] at hex
   obtain ⟨c, hcap, hex⟩ := hex
   rw [Option.map_eq_some_iff] at hex
   obtain ⟨d, hd, hex⟩ := hex
   simp only [Prod.mk.injEq] at hex
   obtain ⟨rfl, rfl⟩ := hex
   have hl : caps.length ≤ 1 := by
    unfold capV at hcap
    split at hcap
    ·simp
    ·simp
    ·cases hcap
   obtain ⟨h1, h2⟩ := hwp x caps m fr c d hcap hd hfr hl
   exact ⟨h1, h2⟩
  ·cases hex
theorem capV_str {m : Mem} {caps : List D} {p : Bs} (h : capV m caps = some (.str p)) : ∃ i, caps = [.ptr i 0] ∧ m i 0 = some (.str p) := by
 unfold capV at h
 split at h
 ·cases h
 ·exact ⟨_, rfl, h⟩
 ·cases h
def K369 : D → D → Option D
 | .str p, .agg [.str q, .int .u8 _] => some (.bool (decide (q = p)))
 | _, _ => none
def K204 : D → D → Option D
 | .str p, .agg [.str q, .int .i64 _, .bool _] => some (.bool (decide (q = p)))
 | _, _ => none
def K205 : D → D → Option D
 | .str p, .str q => some (.bool (AT p q || AT q p))
 | _, _ => none
theorem clo369 : (cloS K369).ok Tryz.prog 369 := by
 refine clo_ok (S := fun _ => none) Au fn369 (fun x caps m fr c d hcap hF hfr hl => ⟨by omega, ?_⟩)
 unfold K369 at hF
 split at hF
 ·rename_i p q k
  simp only [Option.some.injEq] at hF
  subst hF
  obtain ⟨i, rfl, hm⟩ := capV_str hcap
  have hi : i ≠ 0 :: fr := by rintro rfl; have := hfr 0 (0 :: fr) 0 (List.suffix_refl _); rw [hm] at this; cases this
  unfold dc369
  simp only [↓go1, gB1, reduceIte, Nat.reduceEqDiff, Nat.reduceAdd, hm, hi, Ac, Nat.zero_le, Nat.reduceLT, Nat.sub_zero, List.getElem?_cons_zero, and_self]
  intro i o y h
  split
  ·rename_i e; rw [e.1, hfr 0 _ o (List.suffix_refl _)] at h; cases h
  ·exact h
 ·cases hF
theorem clo204 : (cloS K204).ok Tryz.prog 204 := by
 refine clo_ok (S := fun _ => none) Au fn204 (fun x caps m fr c d hcap hF hfr hl => ⟨by omega, ?_⟩)
 unfold K204 at hF
 split at hF
 ·rename_i p q k b
  simp only [Option.some.injEq] at hF
  subst hF
  obtain ⟨i, rfl, hm⟩ := capV_str hcap
  have hi : i ≠ 0 :: fr := by rintro rfl; have := hfr 0 (0 :: fr) 0 (List.suffix_refl _); rw [hm] at this; cases this
  unfold dc204
  simp only [↓go1, gB1, reduceIte, Nat.reduceEqDiff, Nat.reduceAdd, hm, hi, Ac, Nat.zero_le, Nat.reduceLT, Nat.sub_zero, List.getElem?_cons_zero, and_self]
  intro i o y h
  split
  ·rename_i e; rw [e.1, hfr 0 _ o (List.suffix_refl _)] at h; cases h
  ·exact h
 ·cases hF
theorem clo205 : (cloS K205).ok Tryz.prog 205 := by
 obtain ⟨S, hS, hl⟩ := AJ (Ab ok206 Ae)
 have s206 := hl 206 _ rfl
 clear hl
 refine clo_ok (S := S) hS fn205 (fun x caps m fr c d hcap hF hfr hl => ⟨by omega, ?_⟩)
 unfold K205 at hF
 split at hF
 ·rename_i p q
  simp only [Option.some.injEq] at hF
  subst hF
  obtain ⟨i, rfl, hm⟩ := capV_str hcap
  have h206 : ∀ p q, F206 [.str p, .str q] = some (.bool (AT p q)) := fun _ _ => rfl
  unfold dc205
  cases h1 : AT p q with
  | false => simp only [↓go1, go2, go3, go4, reduceIte, Nat.reduceEqDiff, Nat.reduceAdd, hm, Aa s206, h206, h1]; simp
  | true => simp only [↓go1, go2, go3, go4, reduceIte, Nat.reduceEqDiff, Nat.reduceAdd, hm, Aa s206, h206, h1]; simp
 ·cases hF
theorem fn203 : Fn Tryz.prog 203 19 (dcI 3 (some 3)) [.t 4] := ⟨Tryz.f203, _, Tryz.func203, rfl, by kernel_rfl, rfl, by kernel_rfl, by kernel_rfl⟩
theorem fn297 : Fn Tryz.prog 297 19 (dcI 1 none) [.t 4] := ⟨Tryz.f297, _, Tryz.func297, rfl, by kernel_rfl, rfl, by kernel_rfl, by kernel_rfl⟩
theorem fn388 : Fn Tryz.prog 388 19 (dcI 1 none) [.t 4] := ⟨Tryz.f388, _, Tryz.func388, rfl, by kernel_rfl, rfl, by kernel_rfl, by kernel_rfl⟩
theorem fn192 : Fn Tryz.prog 192 9 (dcCn 297) [.t 4] := ⟨Tryz.f192, _, Tryz.func192, rfl, by kernel_rfl, rfl, by kernel_rfl, by kernel_rfl⟩
theorem fn343 : Fn Tryz.prog 343 9 (dcCn 388) [.t 4] := ⟨Tryz.f343, _, Tryz.func343, rfl, by kernel_rfl, rfl, by kernel_rfl, by kernel_rfl⟩
theorem idx399 : (idxS 369 (some 2) K369).ok Tryz.prog 399 := idx_ok (by omega) fn399 rfl clo369
theorem cn368 : (cnS 369 (some 2) K369).ok Tryz.prog 368 := cn_ok (by omega) fn368 idx399
theorem idx203 : (idxS 204 (some 3) K204).ok Tryz.prog 203 := idx_ok (by omega) fn203 rfl clo204
theorem idx297 : (idxS 205 none K205).ok Tryz.prog 297 := idx_ok (by omega) fn297 rfl clo205
theorem cn192 : (cnS 205 none K205).ok Tryz.prog 192 := cn_ok (by omega) fn192 idx297
abbrev Rl := Bs × Int
def rlD (r : Rl) : D := .agg [.str r.1, .int .u8 r.2]
def Aj (l : List Rl) : List D := l.map rlD
def rlT : D → Rl
 | .agg [.str q, .int .u8 k] => (q, k)
 | _ => ([], 0)
def A0 (xs : List D) : List Rl := xs.map rlT
theorem AN (l : List Rl) : A0 (Aj l) = l := by
 simp only [A0, Aj, List.map_map]
 conv => rhs; rw [← List.map_id l]
 exact List.map_congr_left fun r _ => rfl
def Bf (l : List Rl) (j : Nat) : Rl := l.getD j ([], 0)
theorem An (l : List Rl) : (Aj l).length = l.length := List.length_map ..
theorem CD {l : List Rl} {j : Nat} (h : j < l.length) : (Aj l)[j]? = some (rlD (Bf l j)) := by
 simp [Aj, Bf, List.getElem?_eq_getElem h]
theorem rlsD_take (l : List Rl) (j : Nat) : (Aj l).take j = Aj (l.take j) := (List.map_take ..).symm
theorem rlsD_elB (l : List Rl) : (Aj l).all (elB (some 2)) = true := by
 rw [List.all_eq_true]; intro x hx
 obtain ⟨r, _, rfl⟩ := List.mem_map.1 hx
 rfl
theorem rlsD_head (l : List Rl) : D.headSz (Aj l) 2 = 2 := by cases l <;> rfl
def Eb (l : List Rl) (q : Bs) : Bool := l.any fun r => decide (r.1 = q)
def ruleE (r : Rl) (l : List Rl) : Int := if r.1 ≠ [] ∧ Be r.1 ≠ 0 then Be r.1 else if 63 < r.2 then 2 else if Eb l r.1 = true then 20 else 0
def D3 (l : List Rl) : Nat → Nat → Int
 | 0, _ => 0
 | f + 1, j => if j < l.length then (if ruleE (Bf l j) (l.take j) ≠ 0 then ruleE (Bf l j) (l.take j) else D3 l f (j + 1)) else 0
def Cm (l : List Rl) : Int := if 4 < l.length then 24 else D3 l l.length 0
def Bu (l : List Rl) : Prop := ∀ r ∈ l, r.1.length ≤ 1000000
theorem prefB_at {l : List Rl} (h : Bu l) {j : Nat} (hj : j < l.length) : (Bf l j).1.length ≤ 1000000 := by
 have : Bf l j = l[j] := by simp [Bf, List.getElem?_eq_getElem hj]
 rw [this]; exact h _ (List.getElem_mem hj)
theorem DZ (bs : List Bool) : D_ (bs.map fun b => some (.bool b)) = some bs := by
 induction bs with
 | nil => rfl
 | cons b r ih => simp only [List.map_cons, D_, ih, Option.map_some]
theorem cn368_ex {l : List Rl} {nl : Bool} {t : Id} (hl : l.length ≤ 1000000) {q : Bs} (m : Mem) (fr i : Id) (hm : m i 0 = some (.str q)) :
  (cnS 369 (some 2) K369).ex [.slice nl t (Aj l), .fn 369 [.ptr i 0]] m fr = some (.bool (Eb l q), []) := by
 have e : (Aj l).map (K369 (.str q)) = (l.map fun r => decide (r.1 = q)).map fun b => some (.bool b) := by
  simp only [Aj, List.map_map]
  exact List.map_congr_left fun r _ => rfl
 simp only [cnS, An, hl, rlsD_elB, and_self, if_true, capV, hm, Option.bind_some, e, DZ, Option.map_some]
 simp only [Eb, List.any_map]
 rfl
open Classical in
noncomputable def F314 : List D → Option D
 | [.agg [.str q, .int .u8 k], .slice _ _ xs] => if xs = Aj (A0 xs) ∧ xs.length ≤ 1000000 ∧ q.length ≤ 1000000 then some (.int .i64 (ruleE (q, k) (A0 xs))) else none
 | _ => none
theorem ok314 : (Ai F314).ok Tryz.prog 314 := by
 obtain ⟨S, hS, hl⟩ := AJ (Ab ok201 (Ab cn368 Ae))
 have s201 := hl 201 _ rfl
 have s368 := hl 368 _ rfl
 clear hl
 refine As (S := S) hS fn314 (fun ds r h => ?_) (fun ds r h => ?_)
 ·unfold F314 at h; split at h
  ·simp
  ·cases h
 ·unfold F314 at h; split at h
  ·rename_i q k nl t xs
   split at h
   ·rename_i hc
    obtain ⟨hx, hlen, hq⟩ := hc
    simp only [Option.some.injEq] at h
    subst h
    generalize A0 xs = l at hx
    subst hx
    rw [An] at hlen
    have h201 : F201 [.str q] = some (.int .i64 (Be q)) := if_pos hq
    unfold dc314 ruleE
    generalize Be q = e at *
    simp only [↓go1, go2, go3, reduceIte, Nat.reduceEqDiff, Nat.reduceAdd, Ac, Nat.zero_le, Nat.reduceLT, Nat.sub_zero, List.length_cons, List.length_nil, Nat.zero_add, List.getElem?_cons_zero, and_self]
    repeat' (first | (refine ifQ.intro (fun h => ?_) (fun h => ?_) <;> try (exfalso; omega)) | (simp only [↓go1, gB0, reduceIte, Nat.reduceEqDiff, Nat.reduceAdd, h, Ac, Nat.reduceLT, Aa s201, h201, AK s368, cn368_ex (q := q) hlen]))
    all_goals (first | rfl | (rw [D.int.injEq]; refine ⟨rfl, ?_⟩; (repeat' split) <;> first | rfl | (exfalso; simp_all; done) | (exfalso; simp_all; omega)))
   ·cases h
  ·cases h
open Classical in
theorem F314_eq {q : Bs} {k : Int} {nl : Bool} {t : Id} {l : List Rl} (hl : l.length ≤ 1000000) (hq : q.length ≤ 1000000) : F314 [.agg [.str q, .int .u8 k], .slice nl t (Aj l)] = some (.int .i64 (ruleE (q, k) l)) := by
 have h : Aj l = Aj (A0 (Aj l)) ∧ (Aj l).length ≤ 1000000 ∧ q.length ≤ 1000000 := ⟨by rw [AN], by rw [An]; exact hl, hq⟩
 show (if _ then _ else _) = _
 rw [if_pos h, AN]
theorem loop214 {S : Summs} {ns : Id} {l : List Rl} {nl : Bool} {t : Id} {Q : Ex → St → Prop} {e : Int} (s314 : S 314 = some (Ai F314)) (hb : l.length ≤ 4) (hp : Bu l)
  (hret : ∀ st, e ≠ 0 → st.s 2 = .int .i64 e → Q .ret st) (hexit : ∀ st, e = 0 → Q (.exit 0) st) :
  ∀ (f j : Nat) st g, l.length = j + f → D3 l f j = e → st.s 0 = .slice nl t (Aj l) → st.s 9 = .slice nl t (Aj l) → st.s 10 = .int .i64 (l.length : Int) → st.s 11 = .int .i64 (j : Int) → AV S ns dc214l0 Q st g := by
 intro f
 induction f with
 | zero =>
  intro j st g hf he h0 h9 h10 h11
  refine Ad dc214l0.eq_1 ?_
  have : ¬ ((j : Int) < l.length) := by omega
  simp only [↓go1, go2, go4, reduceIte, Nat.reduceAdd, h10, h11, this]
  exact hexit _ he.symm
 | succ f ih =>
  intro j st g hf he h0 h9 h10 h11
  refine Ad dc214l0.eq_1 ?_
  unfold D3 at he
  have hj : j < l.length := by omega
  rw [if_pos hj] at he
  have hlt : ((j : Int) < l.length) := by omega
  have hj0 : (0 : Int) ≤ (j : Int) := by omega
  have hjl : ((j : Int) ≤ l.length) := by omega
  have hw : IntKind.i64.wrap ((j : Int) + 1) = ((j + 1 : Nat) : Int) := w64 (by omega) (by omega)
  have hat := CD hj
  have hq := prefB_at hp hj
  generalize hr : Bf l j = r at he hat hq
  obtain ⟨q, k⟩ := r
  have hat' : (Aj l)[j]? = some (.agg [.str q, .int .u8 k]) := hat
  have hF := F314_eq (nl := nl) (t := []) (l := l.take j) (q := q) (k := k) (by simp; omega) hq
  generalize ruleE (q, k) (l.take j) = e' at he hF
  obtain ⟨st_s, st_m, st_c⟩ := st
  simp only at h0 h9 h10 h11
  simp only [↓go1, gB0, reduceIte, Nat.reduceEqDiff, Nat.reduceAdd, h0, h9, h10, h11, hlt, hj0, hjl, Int.toNat_natCast, hat', An, rlsD_head, rlsD_take, Aa s314, hF, Ac, Ag, Ah, Nat.reduceLT, Nat.reduceLeDiff, Option.bind_some, List.take_succ_cons, List.take_zero, Option.isSome_some, List.drop_zero]
  refine AA.intro (Al rfl) ?_
  simp only [↓go1, go2, go3, reduceIte, Nat.reduceEqDiff, Nat.reduceAdd, rlsD_take, List.drop_zero]
  refine ifQ.intro (fun h => ?_) (fun h => ?_)
  ·rw [if_neg (by simpa using h)] at he
   simp only [↓go1, go2, go3, reduceIte, Nat.reduceEqDiff, Nat.reduceAdd, h11, rlsD_take, List.drop_zero, hw]
   exact ih (j + 1) _ _ (by omega) he h0 h9 h10 rfl
  ·rw [if_pos h] at he
   simp only [↓go1, go2, go3, reduceIte, Nat.reduceEqDiff, Nat.reduceAdd, rlsD_take, List.drop_zero]
   exact hret _ (he ▸ h) (by rw [← he]; rfl)
open Classical in
noncomputable def Fpol : List D → Option D
 | [.slice _ _ xs] => if xs = Aj (A0 xs) ∧ xs.length ≤ 1000000 ∧ Bu (A0 xs) then some (.int .i64 (Cm (A0 xs))) else none
 | _ => none
open Classical in
theorem Fpol_eq {nl : Bool} {t : Id} {l : List Rl} (hl : l.length ≤ 1000000) (hp : Bu l) : Fpol [.slice nl t (Aj l)] = some (.int .i64 (Cm l)) := by
 have h : Aj l = Aj (A0 (Aj l)) ∧ (Aj l).length ≤ 1000000 ∧ Bu (A0 (Aj l)) := by rw [AN, An]; exact ⟨rfl, hl, hp⟩
 show (if _ then _ else _) = _
 rw [if_pos h, AN]
open Classical in
theorem Fpol_inv {ds : List D} {r : D} (h : Fpol ds = some r) : ∃ nl t l, ds = [.slice nl t (Aj l)] ∧ l.length ≤ 1000000 ∧ Bu l ∧ r = .int .i64 (Cm l) := by
 unfold Fpol at h
 split at h
 ·rename_i nl t xs
  split at h
  ·rename_i hc
   obtain ⟨h1, h2, h3⟩ := hc
   simp only [Option.some.injEq] at h
   subst h
   refine ⟨nl, t, A0 xs, by rw [← h1], ?_, h3, rfl⟩
   rw [h1, An] at h2; exact h2
  ·cases h
 ·cases h
theorem ok214 : (Ai Fpol).ok Tryz.prog 214 := by
 obtain ⟨S, hS, hl⟩ := AJ (Ab ok314 Ae)
 have s314 := hl 314 _ rfl
 clear hl
 refine As (S := S) hS fn214 (fun ds r h => ?_) (fun ds r h => ?_)
 ·obtain ⟨nl, t, l, rfl, _⟩ := Fpol_inv h
  simp
 ·obtain ⟨nl, t, l, rfl, hl, hp, rfl⟩ := Fpol_inv h
  unfold dc214 Cm
  by_cases h4 : 4 < l.length
  ·have h4' : ((4 : Int) < l.length) := by omega
   simp only [↓go1, go2, go3, go4, reduceIte, Nat.reduceEqDiff, Nat.reduceAdd, An, h4', h4]
  ·have h4' : ¬ ((4 : Int) < l.length) := by omega
   simp only [↓go1, go2, go4, reduceIte, Nat.reduceEqDiff, Nat.reduceAdd, An, h4']
   refine loop214 (l := l) (nl := nl) (t := t) (e := D3 l l.length 0) s314 (by omega) hp (fun st h1 h2 => ?_) (fun st h1 => ?_) l.length 0 _ _ (by omega) rfl rfl rfl rfl rfl
   ·simp only [↓go1, go2, go3, go4, h2]
    rw [if_neg h4]
   ·simp only [↓go1, go2, go3, go4, reduceIte, Nat.reduceAdd, h1]
    rw [if_neg h4]
theorem usedP_take_succ (l : List Rl) (q : Bs) {i : Nat} (hi : i < l.length) : Eb (l.take (i + 1)) q = (Eb (l.take i) q || decide ((Bf l i).1 = q)) := by
 have e : Bf l i = l[i] := by simp [Bf, List.getElem?_eq_getElem hi]
 unfold Eb
 rw [List.take_succ_eq_append_getElem hi, List.any_append, e]
 simp
theorem usedP_take_le (l : List Rl) (q : Bs) {i j : Nat} (h : i ≤ j) (hu : Eb (l.take i) q = true) : Eb (l.take j) q = true := by
 unfold Eb at *
 rw [List.any_eq_true] at *
 obtain ⟨x, hx, h2⟩ := hu
 exact ⟨x, (List.take_subset_take_left l h) hx, h2⟩
theorem loop218i {S : Summs} {ns : Id} {l : List Rl} {nl : Bool} {t : Id} {Q : Ex → St → Prop} {i : Nat} {q : Bs} (hb : l.length ≤ 4) (hi : i < l.length) (hq : (Bf l i).1 = q)
  (hret : ∀ st, Eb (l.take i) q = true → st.s 2 = .int .i64 20 → Q .ret st) (hexit : ∀ st, Eb (l.take i) q = false → st.s 0 = .slice nl t (Aj l) → st.s 3 = .int .i64 (i : Int) → Q (.exit 2) st) :
  ∀ (f j : Nat) st g, i = j + f → Eb (l.take j) q = false → st.s 0 = .slice nl t (Aj l) → st.s 3 = .int .i64 (i : Int) → st.s 4 = .int .i64 (j : Int) → AV S ns dc218l0 Q st g := by
 intro f
 induction f with
 | zero =>
  intro j st g hf he h0 h3 h4
  refine Ad dc218l0.eq_1 ?_
  have : ¬ ((j : Int) < i) := by omega
  simp only [↓go1, go2, go4, reduceIte, Nat.reduceEqDiff, Nat.reduceAdd, h3, h4, this]
  exact hexit _ (by rw [show i = j by omega]; exact he) h0 h3
 | succ f ih =>
  intro j st g hf he h0 h3 h4
  refine Ad dc218l0.eq_1 ?_
  have hlt : ((j : Int) < i) := by omega
  have hj0 : (0 : Int) ≤ (j : Int) := by omega
  have hi0 : (0 : Int) ≤ (i : Int) := by omega
  have hw : IntKind.i64.wrap ((j : Int) + 1) = ((j + 1 : Nat) : Int) := w64 (by omega) (by omega)
  have hat : (Aj l)[j]? = some (.agg [.str (Bf l j).1, .int .u8 (Bf l j).2]) := CD (by omega)
  have hati : (Aj l)[i]? = some (.agg [.str q, .int .u8 (Bf l i).2]) := by rw [← hq]; exact CD hi
  have hu := usedP_take_succ l q (show j < l.length by omega)
  rw [he, Bool.false_or] at hu
  generalize Bf l j = r at hat hu
  obtain ⟨st_s, st_m, st_c⟩ := st
  simp only at h0 h3 h4
  simp only [↓go1, gB1, reduceIte, Nat.reduceEqDiff, Nat.reduceAdd, h0, h3, h4, hlt, hj0, hi0, Int.toNat_natCast, hat, hati, Nat.zero_le, List.drop_zero, List.head?_cons]
  refine AA.intro (Al rfl) ?_
  simp only [↓go1, go2, go3, reduceIte, Nat.reduceEqDiff]
  refine ifQ.intro (fun h => ?_) (fun h => ?_)
  ·simp only [↓go1, go2, go3, Nat.reduceAdd]
   exact hret _ (usedP_take_le l q (show j + 1 ≤ i by omega) (by rw [hu]; simpa using h)) rfl
  ·simp only [↓go1, go2, go3, reduceIte, Nat.reduceEqDiff, Nat.reduceAdd, h4, hw]
   exact ih (j + 1) _ _ (by omega) (by rw [hu]; simpa using h) h0 h3 rfl
theorem loop218 {S : Summs} {ns : Id} {l : List Rl} {nl : Bool} {t : Id} {Q : Ex → St → Prop} {e : Int} (s211 : S 211 = some (Ai F211)) (hb : l.length ≤ 4) (hp : Bu l)
  (hret : ∀ st, e ≠ 0 → st.s 2 = .int .i64 e → Q .ret st) (hexit : ∀ st, e = 0 → Q (.exit 0) st) :
  ∀ (f i : Nat) st g, l.length = i + f → D3 l f i = e → st.s 0 = .slice nl t (Aj l) → st.s 3 = .int .i64 (i : Int) → AV S ns dc218l1 Q st g := by
 intro f
 induction f with
 | zero =>
  intro i st g hf he h0 h3
  refine Ad dc218l1.eq_1 ?_
  have : ¬ ((i : Int) < l.length) := by omega
  simp only [↓go1, go2, go4, reduceIte, Nat.reduceEqDiff, Nat.reduceAdd, h0, h3, this, An]
  exact hexit _ he.symm
 | succ f ih =>
  intro i st g hf he h0 h3
  refine Ad dc218l1.eq_1 ?_
  unfold D3 at he
  have hi : i < l.length := by omega
  rw [if_pos hi] at he
  have hlt : ((i : Int) < l.length) := by omega
  have hi0 : (0 : Int) ≤ (i : Int) := by omega
  have hw : IntKind.i64.wrap ((i : Int) + 1) = ((i + 1 : Nat) : Int) := w64 (by omega) (by omega)
  have hat := CD hi
  have hq := prefB_at hp hi
  generalize hr : Bf l i = r at he hat hq
  obtain ⟨q, k⟩ := r
  replace hat : (Aj l)[i]? = some (.agg [.str q, .int .u8 k]) := hat
  have hF : F211 [.str q] = some (.int .i64 (Be q)) := if_pos hq
  unfold ruleE at he
  generalize Be q = er at he hF
  obtain ⟨st_s, st_m, st_c⟩ := st
  simp only at h0 h3
  have hret' : ∀ st (v : Int), st.s 2 = .int .i64 v → v = e → v ≠ 0 → Q .ret st := fun st v h1 h2 h3 => hret st (h2 ▸ h3) (h2 ▸ h1)
  simp only at he
  simp only [↓go1, gB1, reduceIte, Nat.reduceEqDiff, Nat.reduceAdd, h0, h3, hlt, hi0, Int.toNat_natCast, hat, An, Nat.zero_le, List.drop_zero, List.head?_cons]
  repeat' (first | (refine ifQ.intro (fun h => ?_) (fun h => ?_) <;> try (exfalso; omega)) | (simp only [↓go1, gB1, reduceIte, Nat.reduceEqDiff, Nat.reduceAdd, h, h0, h3, hi0, Int.toNat_natCast, hat, Aa s211, hF, Nat.zero_le, Nat.reduceLeDiff, List.drop_zero, List.drop_succ_cons, List.head?_cons]))
  all_goals (try (refine hret' _ _ rfl ?_ ?_ <;> first | omega | (simp_all; done)))
  all_goals (refine loop218i (l := l) (nl := nl) (t := t) (i := i) (q := q) hb hi (by rw [hr]) (fun st h1 h2 => ?_) (fun st h1 h2 h3 => ?_) i 0 _ _ (by omega) (by simp [Eb]) h0 h3 rfl)
  all_goals (first | (simp only [↓go1, go2, reduceIte, Nat.reduceEqDiff, Nat.reduceAdd]; refine hret' _ _ h2 (by simp_all) (by decide)) | (simp only [↓go1, go2, reduceIte, Nat.reduceEqDiff, Nat.reduceAdd, h3, hw]; exact ih (i + 1) _ _ (by omega) (by simp_all) h2 rfl))
theorem ok218 : (Ai Fpol).ok Tryz.prog 218 := by
 obtain ⟨S, hS, hl⟩ := AJ (Ab ok211 Ae)
 have s211 := hl 211 _ rfl
 clear hl
 refine As (S := S) hS fn218 (fun ds r h => ?_) (fun ds r h => ?_)
 ·obtain ⟨nl, t, l, rfl, _⟩ := Fpol_inv h
  simp
 ·obtain ⟨nl, t, l, rfl, hl, hp, rfl⟩ := Fpol_inv h
  unfold dc218 Cm
  by_cases h4 : 4 < l.length
  ·have h4' : ((4 : Int) < l.length) := by omega
   simp only [↓go1, go2, go3, go4, reduceIte, Nat.reduceEqDiff, Nat.reduceAdd, An, h4', h4]
  ·have h4' : ¬ ((4 : Int) < l.length) := by omega
   simp only [↓go1, go2, go4, reduceIte, Nat.reduceEqDiff, Nat.reduceAdd, An, h4']
   refine loop218 (l := l) (nl := nl) (t := t) (e := D3 l l.length 0) s211 (by omega) hp (fun st h1 h2 => ?_) (fun st h1 => ?_) l.length 0 _ _ (by omega) rfl rfl rfl
   ·simp only [↓go1, go2, go3, go4, h2]
    rw [if_neg h4]
   ·simp only [↓go1, go2, go3, go4, reduceIte, Nat.reduceAdd, h1]
    rw [if_neg h4]
theorem v_andNot {k : IntKind} {a b : Int} : A4 .andNot (.int k a) (.int k b) = some (.int k (bits .andNot k a b)) := by simp [A4]
def hasR : Nat → Nat → Nat → Bool
 | 0, _, _ => true
 | f + 1, a, c => if c % 2 = 1 ∧ a % 2 = 0 then false else hasR f (a / 2) (c / 2)
theorem hasR_bits : ∀ (f a c : Nat), hasR f a c = true ↔ ∀ i, i < f → c.testBit i = true → a.testBit i = true
 | 0, a, c => by simp [hasR]
 | f + 1, a, c => by
  have ih := hasR_bits f (a / 2) (c / 2)
  have h0 : ∀ n : Nat, n.testBit 0 = decide (n % 2 = 1) := fun n => Nat.testBit_zero n
  unfold hasR
  by_cases h : c % 2 = 1 ∧ a % 2 = 0
  ·rw [if_pos h]
   constructor
   ·intro h; cases h
   ·intro h1
    have h2 := h1 0 (by omega) (by rw [h0]; simp [h.1])
    rw [h0, decide_eq_true_iff] at h2
    omega
  ·rw [if_neg h, ih]
   constructor
   ·intro h1 i hi h2
    cases i with
    | zero =>
     rw [h0, decide_eq_true_iff] at h2 ⊢
     omega
    | succ i =>
     rw [Nat.testBit_succ] at h2 ⊢
     exact h1 i (by omega) h2
   ·intro h1 i hi h2
    have := h1 (i + 1) (by omega) (by rw [Nat.testBit_succ]; exact h2)
    rwa [Nat.testBit_succ] at this
def hasB (a c : Nat) : Bool := Nat.beq (Nat.land c (255 - a)) 0
theorem hasR_eq {a c : Nat} (ha : a < 256) (hc : c < 256) : hasR 8 a c = hasB a c := by
 rw [Bool.eq_iff_iff, hasR_bits]
 have e : ∀ i, (Nat.land c (255 - a)).testBit i = (c.testBit i && (decide (i < 8) && !a.testBit i)) := by
  intro i
  show (c &&& (255 - a)).testBit i = _
  rw [Nat.testBit_and, show 255 - a = 2 ^ 8 - (a + 1) by omega, Nat.testBit_two_pow_sub_succ (by omega)]
 constructor
 ·intro h
  unfold hasB
  have : Nat.land c (255 - a) = 0 := by
   refine Nat.eq_of_testBit_eq fun i => ?_
   rw [e, Nat.zero_testBit]
   by_cases hi : i < 8
   ·cases h1 : c.testBit i with
    | false => rfl
    | true => rw [h i hi h1]; simp
   ·simp [hi]
  rw [this]; rfl
 ·intro h i hi h1
  have h2 : Nat.land c (255 - a) = 0 := Nat.eq_of_beq_eq_true h
  have h3 := e i
  rw [h2, Nat.zero_testBit, h1] at h3
  simpa [hi] using h3.symm
theorem u8id {x : Nat} (h : x < 256) : IntKind.u8.wrap (x : Int) = x := by
 simp only [IntKind.wrap, IntKind.signed, IntKind.bits, Bool.false_and, Bool.false_eq_true, if_false]
 omega
theorem andNot_nat {a c : Nat} (ha : a < 256) (hc : c < 256) : bits .andNot .u8 (c : Int) (a : Int) = ((Nat.land c (255 - a) : Nat) : Int) := by
 have h1 : (BitVec.ofInt 8 (c : Int)).toNat = c := by rw [BitVec.toNat_ofInt]; omega
 have h2 : (BitVec.ofInt 8 (a : Int)).toNat = a := by rw [BitVec.toNat_ofInt]; omega
 have h3 : (BitVec.ofInt 8 (c : Int) &&& ~~~ BitVec.ofInt 8 (a : Int)).toNat = Nat.land c (255 - a) := by
  rw [BitVec.toNat_and, BitVec.toNat_not, h1, h2]; rfl
 have h4 : Nat.land c (255 - a) ≤ c := Nat.and_le_left
 show IntKind.u8.wrap ((BitVec.ofInt 8 (c : Int) &&& ~~~ BitVec.ofInt 8 (a : Int)).toNat : Int) = _
 rw [h3]
 generalize Nat.land c (255 - a) = x at h4
 exact u8id (by omega)
theorem u8half {a : Nat} (ha : a < 256) : IntKind.u8.wrap ((a : Int).tdiv 2) = ((a / 2 : Nat) : Int) := by
 rw [show (a : Int).tdiv 2 = ((a / 2 : Nat) : Int) by rw [Int.natCast_ediv]; exact Int.tdiv_eq_ediv_of_nonneg (by omega)]
 exact u8id (by omega)
theorem natmod2 {a : Nat} : (a : Int).tmod 2 = ((a % 2 : Nat) : Int) := rfl
theorem loop219 {S : Summs} {ns : Id} {Q : Ex → St → Prop} {e : Bool}
  (hret : ∀ st, e = false → st.s 4 = .bool false → Q .ret st) (hexit : ∀ st, e = true → Q (.exit 0) st) :
  ∀ (f i a c : Nat) st g, 8 = i + f → a < 256 → c < 256 → hasR f a c = e → st.s 0 = .int .u8 (a : Int) → st.s 1 = .int .u8 (c : Int) → st.s 5 = .int .i64 (i : Int) → AV S ns dc219l0 Q st g := by
 intro f
 induction f with
 | zero =>
  intro i a c st g hf ha hc he h0 h1 h5
  refine Ad dc219l0.eq_1 ?_
  have : ¬ ((i : Int) < 8) := by omega
  simp only [↓go1, go2, go4, reduceIte, Nat.reduceEqDiff, Nat.reduceAdd, h5, this]
  exact hexit _ he.symm
 | succ f ih =>
  intro i a c st g hf ha hc he h0 h1 h5
  refine Ad dc219l0.eq_1 ?_
  unfold hasR at he
  have hlt : ((i : Int) < 8) := by omega
  have hw : IntKind.i64.wrap ((i : Int) + 1) = ((i + 1 : Nat) : Int) := w64 (by omega) (by omega)
  have n2 : ((2 : Int) = 0) = False := by simp
  have ua := u8half ha
  have uc := u8half hc
  obtain ⟨st_s, st_m, st_c⟩ := st
  simp only at h0 h1 h5
  by_cases hc1 : c % 2 = 1
  ·have ec : (((c % 2 : Nat) : Int) = 1) = True := eq_true (by omega)
   by_cases ha1 : a % 2 = 0
   ·have ea : (((a % 2 : Nat) : Int) = 0) = True := eq_true (by omega)
    rw [if_pos ⟨hc1, ha1⟩] at he
    simp only [↓go1, go2, go4, reduceIte, Nat.reduceEqDiff, Nat.reduceAdd, h0, h1, h5, hlt, natmod2, ec, ea, n2, ne_eq]
    exact hret _ he.symm rfl
   ·have ea : (((a % 2 : Nat) : Int) = 0) = False := eq_false (by omega)
    rw [if_neg (fun h => ha1 h.2)] at he
    simp only [↓go1, go2, go4, reduceIte, Nat.reduceEqDiff, Nat.reduceAdd, h0, h1, h5, hlt, hw, natmod2, ec, ea, n2, ua, uc, ne_eq]
    exact ih (i + 1) _ _ _ _ (by omega) (by omega) (by omega) he rfl rfl rfl
  ·have ec : (((c % 2 : Nat) : Int) = 1) = False := eq_false (by omega)
   rw [if_neg (fun h => hc1 h.1)] at he
   simp only [↓go1, go2, go4, reduceIte, Nat.reduceEqDiff, Nat.reduceAdd, h0, h1, h5, hlt, hw, natmod2, ec, n2, ua, uc, ne_eq]
   exact ih (i + 1) _ _ _ _ (by omega) (by omega) (by omega) he rfl rfl rfl
def F219 : List D → Option D
 | [.int .u8 a, .int .u8 c] => if 0 ≤ a ∧ a < 256 ∧ 0 ≤ c ∧ c < 256 then some (.bool (hasB a.toNat c.toNat)) else none
 | _ => none
theorem ok219 : (Ai F219).ok Tryz.prog 219 := by
 refine As (S := fun _ => none) Au fn219 (fun ds r h => ?_) (fun ds r h => ?_)
 ·unfold F219 at h; split at h
  ·simp
  ·cases h
 ·unfold F219 at h; split at h
  ·rename_i a c
   split at h
   ·rename_i hc
    obtain ⟨h1, h2, h3, h4⟩ := hc
    simp only [Option.some.injEq] at h
    subst h
    obtain ⟨a, rfl⟩ := Int.eq_ofNat_of_zero_le h1
    obtain ⟨c, rfl⟩ := Int.eq_ofNat_of_zero_le h3
    simp only [Int.toNat_natCast]
    have ha : a < 256 := by omega
    have hc : c < 256 := by omega
    unfold dc219
    simp only [↓go1, go2, Nat.reduceAdd]
    refine loop219 (e := hasB a c) (fun st h1 h2 => ?_) (fun st h1 => ?_) 8 0 a c _ _ (by omega) ha hc (hasR_eq ha hc) rfl rfl rfl
    ·simp only [↓go1, go2, go3, go4, h1, h2]
    ·simp only [↓go1, go2, go3, go4, reduceIte, Nat.reduceAdd, h1]
   ·cases h
  ·cases h
structure RI (fr r : Id) (m0 m : Mem) (l : List Bs) (j : Nat) : Prop where
 row : ∀ i, i < l.length → m r i = some (.str (if i < j then l.getD i [] else []))
 out : ∀ i o, ¬ fr <:+ i → m i o = m0 i o
theorem RI.put {fr r : Id} {m0 m : Mem} {l : List Bs} {j k o : Nat} {ds : List D} (h : RI fr r m0 m l j) (hk : (k :: fr) ≠ r) : RI fr r m0 (m.put (k :: fr) o ds) l j := by
 refine ⟨fun i hi => ?_, fun i o' hn => ?_⟩
 ·rw [Mem.put_other (fun e => hk e.symm)]; exact h.row i hi
 ·rw [Mem.put_other (fun e => hn (by rw [e]; exact List.suffix_cons _ _))]; exact h.out i o' hn
theorem RI.fill {fr r : Id} {m0 m : Mem} {l : List Bs} {j : Nat} (h : RI fr r m0 m l j) (hr : fr <:+ r) : RI fr r m0 (m.put r j [.str (l.getD j [])]) l (j + 1) := by
 refine ⟨fun i hi => ?_, fun i o' hn => ?_⟩
 ·rw [Ac]
  by_cases e : i = j
  ·subst e
   rw [if_pos ⟨rfl, Nat.le_refl _, by simp⟩, if_pos (by omega)]; simp
  ·rw [if_neg (by simp; omega), h.row i hi]
   by_cases h2 : i < j
   ·rw [if_pos h2, if_pos (by omega)]
   ·rw [if_neg h2, if_neg (by omega)]
 ·rw [Mem.put_other (fun e => hn (by rw [e]; exact hr))]; exact h.out i o' hn
theorem RI.start {fr : Id} {m : Mem} {l : List Bs} {k n : Nat} (hn : n = l.length) : RI fr (k :: fr) m (m.put (k :: fr) 0 (List.replicate n (.str []))) l 0 := by
 subst hn
 refine ⟨fun i hi => ?_, fun i o hn => Mem.put_other (fun e => hn (by rw [e]; exact List.suffix_cons _ _))⟩
 rw [Ac, if_pos ⟨rfl, by omega, by simp; exact hi⟩, if_neg (by omega)]
 simp [hi]
theorem RI.fin {fr r : Id} {m0 m : Mem} {l : List Bs} (h : RI fr r m0 m l l.length) (hf : ∀ i o, fr <:+ i → m0 i o = none) :
  (∀ (j : Nat) x, (l.map D.str)[j]? = some x → m r j = some x) ∧ ∀ i o x, m0 i o = some x → m i o = some x := by
 refine ⟨fun j x hx => ?_, fun i o x hx => ?_⟩
 ·have hj : j < l.length := by have := (List.getElem?_eq_some_iff.1 hx).1; simpa using this
  rw [h.row j hj, if_pos hj]
  simp [hj] at hx
  simp [hj, hx]
 ·rw [h.out i o (fun hs => by rw [hf i o hs] at hx; cases hx)]; exact hx
def rowS (F : List D → Option (List Bs)) : Summ where
 rd := fun _ _ => []
 ex := fun ds _ _ => (F ds).map fun l => (.slice false [] (l.map .str), [])
theorem rowS_ok {S : Summs} {P : Program} {f : FuncId} {N : Nat} {dc : DC} {rs : List RV} {F : List D → Option (List Bs)} (hS : Summs.ok P S) (hf : Fn P f N dc rs)
  (hwp : ∀ ds l m fr, F ds = some l → (∀ i o, fr <:+ i → m i o = none) → ds.length ≤ N ∧ dc.wp S fr (De rs fun d m' => ∃ i, d = .row i l.length ∧ fr <:+ i ∧ RI fr i m m' l l.length) ⟨Bi ds, m, 0⟩) : (rowS F).ok P f := by
 refine opn_row hS hf (fun _ _ _ _ _ => rfl) (fun ds m fr r u hex hfr => ?_)
 simp only [rowS, Option.map_eq_some_iff, Prod.mk.injEq] at hex
 obtain ⟨l, hl, rfl, rfl⟩ := hex
 obtain ⟨h1, h2⟩ := hwp ds l m fr hl hfr
 refine ⟨h1, by simp, l.map .str, rfl, ?_, ?_⟩
 ·intro x hx
  obtain ⟨s, _, rfl⟩ := List.mem_map.1 hx
  exact ⟨rfl, rfl⟩
 ·refine wp_mono' h2 (fun e st' h => ?_)
  obtain ⟨a, d, hd, i, hdi, hs, hR⟩ := h
  exact ⟨a, d, hd, i, by simpa using hdi, hs, (hR.fin hfr).1, fun i o x hx => (hR.fin hfr).2 i o x hx⟩
open Classical in
noncomputable def F199 : List D → Option (List Bs)
 | [.slice _ _ xs] => if xs = Aj (A0 xs) ∧ xs.length ≤ 1000000 then some ((A0 xs).map (·.1)) else none
 | _ => none
open Classical in
theorem F199_eq {nl : Bool} {t : Id} {l : List Rl} (hl : l.length ≤ 1000000) : F199 [.slice nl t (Aj l)] = some (l.map (·.1)) := by
 have h : Aj l = Aj (A0 (Aj l)) ∧ (Aj l).length ≤ 1000000 := by rw [AN, An]; exact ⟨rfl, hl⟩
 show (if _ then _ else _) = _
 rw [if_pos h, AN]
open Classical in
theorem F199_inv {ds : List D} {r : List Bs} (h : F199 ds = some r) : ∃ nl t l, ds = [.slice nl t (Aj l)] ∧ l.length ≤ 1000000 ∧ r = l.map (·.1) := by
 unfold F199 at h
 split at h
 ·rename_i nl t xs
  split at h
  ·rename_i hc
   obtain ⟨h1, h2⟩ := hc
   simp only [Option.some.injEq] at h
   subst h
   refine ⟨nl, t, A0 xs, by rw [← h1], ?_, rfl⟩
   rw [h1, An] at h2; exact h2
  ·cases h
 ·cases h
theorem loop199 {S : Summs} {fr : Id} {l : List Rl} {nl : Bool} {t : Id} {m0 : Mem} {k : Nat} {Q : Ex → St → Prop} (hb : l.length ≤ 1000000)
  (hexit : ∀ st, st.s 3 = .row (k :: fr) l.length → RI fr (k :: fr) m0 st.m (l.map (·.1)) l.length → Q (.exit 0) st) :
  ∀ (f j : Nat) st g, l.length = j + f → k < st.c → st.s 3 = .row (k :: fr) l.length → st.s 9 = .slice nl t (Aj l) → st.s 10 = .int .i64 (l.length : Int) → st.s 11 = .int .i64 (j : Int) → RI fr (k :: fr) m0 st.m (l.map (·.1)) j → AV S fr dc199l0 Q st g := by
 intro f
 induction f with
 | zero =>
  intro j st g hf hc h3 h9 h10 h11 I
  refine Ad dc199l0.eq_1 ?_
  have : ¬ ((j : Int) < l.length) := by omega
  simp only [↓go1, go2, go4, reduceIte, Nat.reduceAdd, h10, h11, this]
  exact hexit _ h3 (by rw [show l.length = j by omega]; exact I)
 | succ f ih =>
  intro j st g hf hc h3 h9 h10 h11 I
  refine Ad dc199l0.eq_1 ?_
  have hj : j < l.length := by omega
  have hlt : ((j : Int) < l.length) := by omega
  have hj0 : (0 : Int) ≤ (j : Int) := by omega
  have hw : IntKind.i64.wrap ((j : Int) + 1) = ((j + 1 : Nat) : Int) := w64 (by omega) (by omega)
  have hat : (Aj l)[j]? = some (.agg [.str (Bf l j).1, .int .u8 (Bf l j).2]) := CD hj
  have hg : (l.map (·.1)).getD j [] = (Bf l j).1 := by simp [Bf, List.getElem?_eq_getElem hj]
  generalize Bf l j = r at hat hg
  have hne1 : ((st.c + 1 + 3) :: fr = k :: fr) = False := eq_false (by simp; omega)
  have hne2 : (k :: fr = (st.c + 1 + 3) :: fr) = False := eq_false (by simp; omega)
  have hrow := I.row j (by simpa using hj)
  rw [if_neg (by omega)] at hrow
  obtain ⟨st_s, st_m, st_c⟩ := st
  simp only at h3 h9 h10 h11 hc hne1 hne2 hrow I
  simp only [↓go1, gB0, reduceIte, Nat.reduceEqDiff, Nat.reduceAdd, h3, h9, h10, h11, hlt, hj0, hw, Int.toNat_natCast, hat, hne2, hrow, Nat.le_refl, false_and, Ac, Ag, Ah, Nat.reduceLT, Option.bind_some, List.take_succ_cons, List.take_zero, Option.isSome_some]
  refine ih (j + 1) _ _ (by omega) (by simp only; omega) h3 h9 h10 rfl ?_
  rw [← hg]
  exact ((I.put (by simp; omega)).put (by simp; omega)).fill (List.suffix_cons _ _)
theorem ok199 : (rowS F199).ok Tryz.prog 199 := by
 refine rowS_ok (S := fun _ => none) Au fn199 (fun ds r m fr h hfr => ?_)
 obtain ⟨nl, t, l, rfl, hl, rfl⟩ := F199_inv h
 refine ⟨by simp, ?_⟩
 have hn0 : ((0 : Int) ≤ (l.length : Int)) := by omega
 have hnb : ((l.length : Int) * (((16 : Nat) : Int) + 1) ≤ 140737488355328) = True := eq_true (by omega)
 unfold dc199
 simp only [↓go1, go2, go3, reduceIte, Nat.reduceEqDiff, Nat.reduceAdd, hn0, hnb, An, Int.toNat_natCast, Int.le_refl, List.length_cons, List.length_nil, Nat.zero_add, and_self]
 refine loop199 (l := l) (nl := nl) (t := t) (m0 := m) (k := 3) hl (fun st h1 h2 => ?_) l.length 0 _ _ (by omega) (by simp only; omega) rfl rfl rfl rfl ?_
 ·simp only [↓go1, go2, reduceIte, Nat.reduceEqDiff, Nat.reduceAdd, h1, List.length_map]
  exact ⟨_, rfl, List.suffix_cons _ _, h2⟩
 ·exact RI.start (by simp)
def longR (s : Bs) (l : List Bs) : Nat → Nat → Int → Int → Int
 | 0, _, b, _ => b
 | f + 1, j, b, n => if n < ((l.getD j []).length : Int) ∧ AT s (l.getD j []) = true then longR s l f (j + 1) j (l.getD j []).length else longR s l f (j + 1) b n
def Dx (s : Bs) (l : List Bs) : Int := longR s l l.length 0 (-1) (-1)
theorem loop198 {S : Summs} {ns : Id} {s : Bs} {l : List Bs} {nl : Bool} {t : Id} {Q : Ex → St → Prop} {e : Int} (s206 : S 206 = some (Ai F206)) (hb : l.length ≤ 1000000)
  (hexit : ∀ st, st.s 5 = .int .i64 e → Q (.exit 0) st) :
  ∀ (f j : Nat) (b n : Int) st g, l.length = j + f → longR s l f j b n = e → st.s 0 = .str s → st.s 5 = .int .i64 b → st.s 6 = .int .i64 n → st.s 9 = .slice nl t (l.map .str) → st.s 10 = .int .i64 (l.length : Int) → st.s 11 = .int .i64 (j : Int) → AV S ns dc198l0 Q st g := by
 intro f
 induction f with
 | zero =>
  intro j b n st g hf he h0 h5 h6 h9 h10 h11
  refine Ad dc198l0.eq_1 ?_
  have : ¬ ((j : Int) < l.length) := by omega
  simp only [↓go1, go2, go4, reduceIte, Nat.reduceAdd, h10, h11, this]
  exact hexit _ (by rw [← he]; exact h5)
 | succ f ih =>
  intro j b n st g hf he h0 h5 h6 h9 h10 h11
  refine Ad dc198l0.eq_1 ?_
  unfold longR at he
  have hj : j < l.length := by omega
  have hlt : ((j : Int) < l.length) := by omega
  have hj0 : (0 : Int) ≤ (j : Int) := by omega
  have hw : IntKind.i64.wrap ((j : Int) + 1) = ((j + 1 : Nat) : Int) := w64 (by omega) (by omega)
  have hat : (l.map D.str)[j]? = some (.str (l.getD j [])) := by simp [hj]
  generalize l.getD j [] = p at hat he
  have h206 : F206 [.str s, .str p] = some (.bool (AT s p)) := rfl
  obtain ⟨st_s, st_m, st_c⟩ := st
  simp only at h0 h5 h6 h9 h10 h11
  by_cases hn : n < (p.length : Int)
  ·cases hp : AT s p with
   | true =>
    rw [if_pos ⟨hn, hp⟩] at he
    simp only [↓go1, gB1, reduceIte, Nat.reduceEqDiff, Nat.reduceAdd, h0, h9, h10, h11, h6, hlt, hj0, hw, Int.toNat_natCast, hat, Aa s206, h206, List.head?_cons, hn, hp]
    exact ih (j + 1) _ _ _ _ (by omega) he h0 rfl rfl h9 h10 rfl
   | false =>
    rw [if_neg (by rw [hp]; simp)] at he
    simp only [↓go1, gB1, reduceIte, Nat.reduceEqDiff, Nat.reduceAdd, h0, h9, h10, h11, h6, hlt, hj0, hw, Int.toNat_natCast, hat, Aa s206, h206, List.head?_cons, hn, hp]
    exact ih (j + 1) _ _ _ _ (by omega) he h0 h5 h6 h9 h10 rfl
  ·rw [if_neg (fun h => hn h.1)] at he
   simp only [↓go1, gB1, reduceIte, Nat.reduceEqDiff, Nat.reduceAdd, h9, h10, h11, h6, hlt, hj0, hw, Int.toNat_natCast, hat, List.head?_cons, hn]
   exact ih (j + 1) _ _ _ _ (by omega) he h0 h5 h6 h9 h10 rfl
def F198 : List D → Option D
 | [.str s, .slice _ _ xs] => (EA xs).bind fun l => if l.length ≤ 1000000 then some (.int .i64 (Dx s l)) else none
 | _ => none
theorem F198_eq {s : Bs} {nl : Bool} {t : Id} {l : List Bs} (hl : l.length ≤ 1000000) : F198 [.str s, .slice nl t (l.map .str)] = some (.int .i64 (Dx s l)) := by
 simp only [F198, Ez, Option.bind_some]; exact if_pos hl
theorem ok198 : (Ai F198).ok Tryz.prog 198 := by
 obtain ⟨S, hS, hl⟩ := AJ (Ab ok206 Ae)
 have s206 := hl 206 _ rfl
 clear hl
 refine As (S := S) hS fn198 (fun ds r h => ?_) (fun ds r h => ?_)
 ·unfold F198 at h; split at h
  ·simp
  ·cases h
 ·unfold F198 at h; split at h
  ·rename_i s nl t xs
   rw [Option.bind_eq_some_iff] at h
   obtain ⟨l, hs, h⟩ := h
   obtain rfl := DI hs
   split at h
   ·rename_i hl
    simp only [Option.some.injEq] at h
    subst h
    unfold dc198
    simp only [↓go1, go2, reduceIte, Nat.reduceEqDiff, Nat.reduceAdd, List.length_map]
    refine loop198 (s := s) (l := l) (nl := nl) (t := t) (e := Dx s l) s206 hl (fun st h1 => ?_) l.length 0 _ _ _ _ (by omega) rfl rfl rfl rfl rfl rfl rfl
    simp only [↓go1, go2, go3, go4, reduceIte, Nat.reduceEqDiff, Nat.reduceAdd, h1]
   ·cases h
  ·cases h
def BQ (l : List Rl) (s : Bs) : Int := if Dx s (l.map (·.1)) < 0 then 0 else (Bf l (Dx s (l.map (·.1))).toNat).2
theorem longR_lt (s : Bs) (l : List Bs) : ∀ (f j : Nat) (b n : Int), l.length = j + f → b < l.length → longR s l f j b n < l.length
 | 0, j, b, n, hf, hb => by simpa [longR] using hb
 | f + 1, j, b, n, hf, hb => by
  unfold longR
  split
  ·exact longR_lt s l f (j + 1) _ _ (by omega) (by omega)
  ·exact longR_lt s l f (j + 1) _ _ (by omega) hb
theorem longE_lt (s : Bs) (l : List Bs) : Dx s l < l.length := longR_lt s l _ _ _ _ (by omega) (by omega)
open Classical in
noncomputable def F95 : List D → Option D
 | [.slice _ _ xs, .str s] => if xs = Aj (A0 xs) ∧ xs.length ≤ 1000000 then some (.int .u8 (BQ (A0 xs) s)) else none
 | _ => none
open Classical in
theorem F95_eq {nl : Bool} {t : Id} {l : List Rl} {s : Bs} (hl : l.length ≤ 1000000) : F95 [.slice nl t (Aj l), .str s] = some (.int .u8 (BQ l s)) := by
 have h : Aj l = Aj (A0 (Aj l)) ∧ (Aj l).length ≤ 1000000 := by rw [AN, An]; exact ⟨rfl, hl⟩
 show (if _ then _ else _) = _
 rw [if_pos h, AN]
open Classical in
theorem F95_inv {ds : List D} {r : D} (h : F95 ds = some r) : ∃ nl t l s, ds = [.slice nl t (Aj l), .str s] ∧ l.length ≤ 1000000 ∧ r = .int .u8 (BQ l s) := by
 unfold F95 at h
 split at h
 ·rename_i nl t xs s
  split at h
  ·rename_i hc
   obtain ⟨h1, h2⟩ := hc
   simp only [Option.some.injEq] at h
   subst h
   refine ⟨nl, t, A0 xs, s, by rw [← h1], ?_, rfl⟩
   rw [h1, An] at h2; exact h2
  ·cases h
 ·cases h
theorem ok95 : (Ai F95).ok Tryz.prog 95 := by
 obtain ⟨S, hS, hl⟩ := AJ (Ab ok199 (Ab ok198 Ae))
 have s199 := hl 199 _ rfl
 have s198 := hl 198 _ rfl
 clear hl
 refine As (S := S) hS fn95 (fun ds r h => ?_) (fun ds r h => ?_)
 ·obtain ⟨nl, t, l, s, rfl, _⟩ := F95_inv h
  simp
 ·obtain ⟨nl, t, l, s, rfl, hl, rfl⟩ := F95_inv h
  have e199 : ∀ m fr, (rowS F199).ex [.slice nl t (Aj l)] m fr = some (.slice false [] ((l.map (·.1)).map .str), []) := by
   intro m fr; simp only [rowS, F199_eq hl, Option.map_some]
  have e198 : F198 [.str s, .slice false [] ((l.map (·.1)).map .str)] = some (.int .i64 (Dx s (l.map (·.1)))) := F198_eq (by simpa using hl)
  have hall : ((l.map (·.1)).map D.str).all D.calm = true := by rw [List.all_eq_true]; intro x hx; obtain ⟨y, _, rfl⟩ := List.mem_map.1 hx; rfl
  have hun : ((l.map (·.1)).map D.str).map D.un = (l.map (·.1)).map D.str := by rw [List.map_map]; exact List.map_congr_left fun _ _ => rfl
  unfold dc95 BQ
  have hlt := longE_lt s (l.map (·.1))
  rw [List.length_map] at hlt
  generalize Dx s (l.map (·.1)) = i at e198 hlt
  by_cases hi : i < 0
  ·simp only [↓go1, go2, go3, go4, reduceIte, Nat.reduceEqDiff, Nat.reduceAdd, AK s199, e199, Aa s198, e198, hi]
  ·obtain ⟨j, rfl⟩ := Int.eq_ofNat_of_zero_le (show 0 ≤ i by omega)
   have hj : j < l.length := by omega
   have hj0 : (0 : Int) ≤ (j : Int) := by omega
   have hat : (Aj l)[j]? = some (.agg [.str (Bf l j).1, .int .u8 (Bf l j).2]) := CD hj
   simp only [↓go1, gB1, reduceIte, Nat.reduceEqDiff, Nat.reduceAdd, AK s199, e199, Aa s198, e198, hi, hj0, Int.toNat_natCast, hat, Nat.reduceLeDiff, and_self, List.drop_zero, List.drop_succ_cons, List.head?_cons]
theorem loop220 {S : Summs} {ns : Id} {s : Bs} {l : List Rl} {nl : Bool} {t : Id} {Q : Ex → St → Prop} {e : Int} (s111 : S 111 = some (Ai F111)) (hb : l.length ≤ 1000000) (hp0 : Bu l) (hs : s.length ≤ 1000000)
  (hexit : ∀ st, st.s 0 = .slice nl t (Aj l) → st.s 5 = .int .i64 e → Q (.exit 0) st) :
  ∀ (f j : Nat) (b n : Int) st g, l.length = j + f → b < l.length → (b < 0 ∧ n = -1 ∨ 0 ≤ b ∧ n = ((Bf l b.toNat).1.length : Int)) → longR s (l.map (·.1)) f j b n = e → st.s 0 = .slice nl t (Aj l) → st.s 1 = .str s → st.s 5 = .int .i64 b → st.s 6 = .int .i64 (j : Int) → AV S ns dc220l0 Q st g := by
 intro f
 induction f with
 | zero =>
  intro j b n st g hf hbl hbn he h0 h1 h5 h6
  refine Ad dc220l0.eq_1 ?_
  have : ¬ ((j : Int) < l.length) := by omega
  simp only [↓go1, go2, go4, reduceIte, Nat.reduceEqDiff, Nat.reduceAdd, h0, h6, this, An]
  exact hexit _ h0 (by rw [← he]; exact h5)
 | succ f ih =>
  intro j b n st g hf hbl hbn he h0 h1 h5 h6
  refine Ad dc220l0.eq_1 ?_
  unfold longR at he
  have hj : j < l.length := by omega
  have hlt : ((j : Int) < l.length) := by omega
  have hj0 : (0 : Int) ≤ (j : Int) := by omega
  have hw : IntKind.i64.wrap ((j : Int) + 1) = ((j + 1 : Nat) : Int) := w64 (by omega) (by omega)
  have hat : (Aj l)[j]? = some (.agg [.str (Bf l j).1, .int .u8 (Bf l j).2]) := CD hj
  have hg : (l.map (·.1)).getD j [] = (Bf l j).1 := by simp [Bf, List.getElem?_eq_getElem hj]
  have hself : (j : Int) < 0 ∧ (((Bf l j).1.length : Nat) : Int) = -1 ∨ 0 ≤ (j : Int) ∧ (((Bf l j).1.length : Nat) : Int) = ((Bf l (j : Int).toNat).1.length : Int) := .inr ⟨by omega, rfl⟩
  rw [hg] at he
  have hpl := prefB_at hp0 hj
  generalize (Bf l j).1 = p at hat he hself hpl
  have h111 : F111 [.str s, .str p] = some (.bool (AT s p)) := if_pos ⟨hs, hpl⟩
  obtain ⟨st_s, st_m, st_c⟩ := st
  simp only at h0 h1 h5 h6
  rcases hbn with ⟨hb0, rfl⟩ | ⟨hb0, hn⟩
  ·cases hp : AT s p with
   | true =>
    rw [if_pos ⟨by omega, hp⟩] at he
    simp only [↓go1, gB1, reduceIte, Nat.reduceEqDiff, Nat.reduceAdd, h0, h1, h5, h6, hlt, hj0, Int.toNat_natCast, hat, An, Aa s111, h111, Nat.zero_le, List.drop_zero, List.head?_cons, hp, hb0]
    refine AA.intro (Al rfl) ?_
    simp only [↓go1, go2, go3, reduceIte, Nat.reduceEqDiff, Nat.reduceAdd, h6, hw]
    exact ih (j + 1) _ _ _ _ (by omega) (by omega) hself he h0 h1 rfl rfl
   | false =>
    rw [if_neg (by rw [hp]; simp)] at he
    simp only [↓go1, gB1, reduceIte, Nat.reduceEqDiff, Nat.reduceAdd, h0, h1, h6, hlt, hj0, Int.toNat_natCast, hat, An, Aa s111, h111, Nat.zero_le, List.drop_zero, List.head?_cons, hp]
    refine AA.intro (Al rfl) ?_
    simp only [↓go1, go2, go3, reduceIte, Nat.reduceEqDiff, Nat.reduceAdd, h6, hw]
    exact ih (j + 1) _ _ _ _ (by omega) hbl (.inl ⟨hb0, rfl⟩) he h0 h1 h5 rfl
  ·obtain ⟨i, rfl⟩ := Int.eq_ofNat_of_zero_le hb0
   rw [Int.toNat_natCast] at hn
   have hi : i < l.length := by omega
   have hnb : ¬ ((i : Int) < 0) := by omega
   have hati : (Aj l)[i]? = some (.agg [.str (Bf l i).1, .int .u8 (Bf l i).2]) := CD hi
   subst hn
   have hkeep : (i : Int) < 0 ∧ (((Bf l i).1.length : Nat) : Int) = -1 ∨ 0 ≤ (i : Int) ∧ (((Bf l i).1.length : Nat) : Int) = ((Bf l (i : Int).toNat).1.length : Int) := .inr ⟨by omega, rfl⟩
   generalize (Bf l i).1 = pi at hati he hkeep
   cases hp : AT s p with
   | true =>
    by_cases hn : ((pi.length : Int) < (p.length : Int))
    ·rw [if_pos ⟨hn, hp⟩] at he
     simp only [↓go1, gB1, reduceIte, Nat.reduceEqDiff, Nat.reduceAdd, h0, h1, h5, h6, hlt, hj0, Int.toNat_natCast, hat, An, Aa s111, h111, Nat.zero_le, List.drop_zero, List.head?_cons, hp, hnb, hati, hn, Nat.zero_le, Int.natCast_nonneg]
     refine AA.intro (Al rfl) ?_
     simp only [↓go1, go2, go3, reduceIte, Nat.reduceEqDiff, Nat.reduceAdd, h6, hw]
     exact ih (j + 1) _ _ _ _ (by omega) (by omega) hself he h0 h1 rfl rfl
    ·rw [if_neg (fun h => hn h.1)] at he
     simp only [↓go1, gB1, reduceIte, Nat.reduceEqDiff, Nat.reduceAdd, h0, h1, h5, h6, hlt, hj0, Int.toNat_natCast, hat, An, Aa s111, h111, Nat.zero_le, List.drop_zero, List.head?_cons, hp, hnb, hati, hn, Int.natCast_nonneg]
     refine AA.intro (Al rfl) ?_
     simp only [↓go1, go2, go3, reduceIte, Nat.reduceEqDiff, Nat.reduceAdd, h6, hw]
     exact ih (j + 1) _ _ _ _ (by omega) (by omega) hkeep he h0 h1 h5 rfl
   | false =>
    rw [if_neg (by rw [hp]; simp)] at he
    simp only [↓go1, gB1, reduceIte, Nat.reduceEqDiff, Nat.reduceAdd, h0, h1, h6, hlt, hj0, Int.toNat_natCast, hat, An, Aa s111, h111, Nat.zero_le, List.drop_zero, List.head?_cons, hp]
    refine AA.intro (Al rfl) ?_
    simp only [↓go1, go2, go3, reduceIte, Nat.reduceEqDiff, Nat.reduceAdd, h6, hw]
    exact ih (j + 1) _ _ _ _ (by omega) (by omega) hkeep he h0 h1 h5 rfl
open Classical in
noncomputable def F220 : List D → Option D
 | [.slice _ _ xs, .str s] => if xs = Aj (A0 xs) ∧ xs.length ≤ 1000000 ∧ Bu (A0 xs) ∧ s.length ≤ 1000000 then some (.int .u8 (BQ (A0 xs) s)) else none
 | _ => none
open Classical in
theorem F220_eq {nl : Bool} {t : Id} {l : List Rl} {s : Bs} (hl : l.length ≤ 1000000) (hp : Bu l) (hs : s.length ≤ 1000000) : F220 [.slice nl t (Aj l), .str s] = some (.int .u8 (BQ l s)) := by
 have h : Aj l = Aj (A0 (Aj l)) ∧ (Aj l).length ≤ 1000000 ∧ Bu (A0 (Aj l)) ∧ s.length ≤ 1000000 := by rw [AN, An]; exact ⟨rfl, hl, hp, hs⟩
 show (if _ then _ else _) = _
 rw [if_pos h, AN]
open Classical in
theorem F220_inv {ds : List D} {r : D} (h : F220 ds = some r) : ∃ nl t l s, ds = [.slice nl t (Aj l), .str s] ∧ l.length ≤ 1000000 ∧ Bu l ∧ s.length ≤ 1000000 ∧ r = .int .u8 (BQ l s) := by
 unfold F220 at h
 split at h
 ·rename_i nl t xs s
  split at h
  ·rename_i hc
   obtain ⟨h1, h2, h3⟩ := hc
   simp only [Option.some.injEq] at h
   subst h
   refine ⟨nl, t, A0 xs, s, by rw [← h1], ?_, h3.1, h3.2, rfl⟩
   rw [h1, An] at h2; exact h2
  ·cases h
 ·cases h
theorem ok220 : (Ai F220).ok Tryz.prog 220 := by
 obtain ⟨S, hS, hl⟩ := AJ (Ab ok111 Ae)
 have s111 := hl 111 _ rfl
 clear hl
 refine As (S := S) hS fn220 (fun ds r h => ?_) (fun ds r h => ?_)
 ·obtain ⟨nl, t, l, s, rfl, _⟩ := F220_inv h
  simp
 ·obtain ⟨nl, t, l, s, rfl, hl, hp, hs, rfl⟩ := F220_inv h
  unfold dc220 BQ
  have hlt := longE_lt s (l.map (·.1))
  rw [List.length_map] at hlt
  simp only [↓go1, go2, Nat.reduceAdd]
  refine loop220 (s := s) (l := l) (nl := nl) (t := t) (e := Dx s (l.map (·.1))) s111 hl hp hs (fun st h0 h1 => ?_) l.length 0 (-1) (-1) _ _ (by omega) (by omega) (.inl ⟨by omega, rfl⟩) (by rw [Dx, List.length_map]) rfl rfl rfl rfl
  generalize Dx s (l.map (·.1)) = i at h1 hlt
  by_cases hi : i < 0
  ·simp only [↓go1, go2, go3, go4, reduceIte, Nat.reduceEqDiff, Nat.reduceAdd, h1, hi]
  ·obtain ⟨j, rfl⟩ := Int.eq_ofNat_of_zero_le (show 0 ≤ i by omega)
   have hj : j < l.length := by omega
   have hj0 : (0 : Int) ≤ (j : Int) := by omega
   have hat : (Aj l)[j]? = some (.agg [.str (Bf l j).1, .int .u8 (Bf l j).2]) := CD hj
   simp only [↓go1, gB1, reduceIte, Nat.reduceEqDiff, Nat.reduceAdd, h0, h1, hi, hj0, Int.toNat_natCast, hat, Nat.reduceLeDiff, and_self, List.drop_zero, List.drop_succ_cons, List.head?_cons]
def EJ (l : List Rl) (s : Bs) (want : Int) : Bool := hasB (BQ l s).toNat want.toNat
def Da (l : List Rl) : Prop := ∀ r ∈ l, 0 ≤ r.2 ∧ r.2 < 256
open Classical in
noncomputable def F215 : List D → Option D
 | [.slice _ _ xs, .str s, .int .u8 k] => if xs = Aj (A0 xs) ∧ xs.length ≤ 1000000 ∧ Da (A0 xs) ∧ Bu (A0 xs) ∧ s.length ≤ 1000000 ∧ 0 ≤ k ∧ k < 256 then some (.bool (EJ (A0 xs) s k)) else none
 | _ => none
open Classical in
theorem F215_eq {nl : Bool} {t : Id} {l : List Rl} {s : Bs} {k : Int} (hl : l.length ≤ 1000000) (hc : Da l) (hp : Bu l) (hs : s.length ≤ 1000000) (h0 : 0 ≤ k) (h1 : k < 256) : F215 [.slice nl t (Aj l), .str s, .int .u8 k] = some (.bool (EJ l s k)) := by
 have h : Aj l = Aj (A0 (Aj l)) ∧ (Aj l).length ≤ 1000000 ∧ Da (A0 (Aj l)) ∧ Bu (A0 (Aj l)) ∧ s.length ≤ 1000000 ∧ 0 ≤ k ∧ k < 256 := by rw [AN, An]; exact ⟨rfl, hl, hc, hp, hs, h0, h1⟩
 show (if _ then _ else _) = _
 rw [if_pos h, AN]
open Classical in
theorem F215_inv {ds : List D} {r : D} (h : F215 ds = some r) : ∃ nl t l s k, ds = [.slice nl t (Aj l), .str s, .int .u8 k] ∧ l.length ≤ 1000000 ∧ Da l ∧ Bu l ∧ s.length ≤ 1000000 ∧ 0 ≤ k ∧ k < 256 ∧ r = .bool (EJ l s k) := by
 unfold F215 at h
 split at h
 ·rename_i nl t xs s k
  split at h
  ·rename_i hc
   obtain ⟨h1, h2, h3, hp, hs, h4, h5⟩ := hc
   simp only [Option.some.injEq] at h
   subst h
   refine ⟨nl, t, A0 xs, s, k, by rw [← h1], ?_, h3, hp, hs, h4, h5, rfl⟩
   rw [h1, An] at h2; exact h2
  ·cases h
 ·cases h
theorem capsP_b {l : List Rl} {s : Bs} (hc : Da l) : 0 ≤ BQ l s ∧ BQ l s < 256 := by
 unfold BQ
 have hlt := longE_lt s (l.map (·.1))
 rw [List.length_map] at hlt
 split
 ·omega
 ·rename_i h
  have hj : (Dx s (l.map (·.1))).toNat < l.length := by omega
  have : Bf l (Dx s (l.map (·.1))).toNat = l[(Dx s (l.map (·.1))).toNat] := by simp [Bf, List.getElem?_eq_getElem hj]
  rw [this]; exact hc _ (List.getElem_mem hj)
theorem F219_eq {a c : Int} (h1 : 0 ≤ a) (h2 : a < 256) (h3 : 0 ≤ c) (h4 : c < 256) : F219 [.int .u8 a, .int .u8 c] = some (.bool (hasB a.toNat c.toNat)) := if_pos ⟨h1, h2, h3, h4⟩
theorem ok164 : (Ai F215).ok Tryz.prog 164 := by
 obtain ⟨S, hS, hl⟩ := AJ (Ab ok220 (Ab ok219 Ae))
 have s220 := hl 220 _ rfl
 have s219 := hl 219 _ rfl
 clear hl
 refine As (S := S) hS fn164 (fun ds r h => ?_) (fun ds r h => ?_)
 ·obtain ⟨nl, t, l, s, k, rfl, _⟩ := F215_inv h
  simp
 ·obtain ⟨nl, t, l, s, k, rfl, hl, hc, hp, hs, h0, h1, rfl⟩ := F215_inv h
  have e1 := F220_eq (nl := nl) (t := []) (s := s) hl hp hs
  have hb := capsP_b (s := s) hc
  have e2 := F219_eq hb.1 hb.2 h0 h1
  have hall : (Aj l).all D.calm = true := by rw [List.all_eq_true]; intro x hx; obtain ⟨y, _, rfl⟩ := List.mem_map.1 hx; rfl
  have hun : (Aj l).map D.un = Aj l := by rw [Aj, List.map_map]; exact List.map_congr_left fun _ _ => rfl
  unfold dc164 EJ
  simp only [↓go1, go2, go3, go4, reduceIte, Nat.reduceEqDiff, Nat.reduceAdd, Aa s220, e1, Aa s219, e2]
theorem ok215 : (Ai F215).ok Tryz.prog 215 := by
 obtain ⟨S, hS, hl⟩ := AJ (Ab ok95 Ae)
 have s95 := hl 95 _ rfl
 clear hl
 refine As (S := S) hS fn215 (fun ds r h => ?_) (fun ds r h => ?_)
 ·obtain ⟨nl, t, l, s, k, rfl, _⟩ := F215_inv h
  simp
 ·obtain ⟨nl, t, l, s, k, rfl, hl, hc, hp, hs, h0, h1, rfl⟩ := F215_inv h
  have e1 := F95_eq (nl := nl) (t := []) (s := s) hl
  have hb := capsP_b (s := s) hc
  have hall : (Aj l).all D.calm = true := by rw [List.all_eq_true]; intro x hx; obtain ⟨y, _, rfl⟩ := List.mem_map.1 hx; rfl
  have hun : (Aj l).map D.un = Aj l := by rw [Aj, List.map_map]; exact List.map_congr_left fun _ _ => rfl
  unfold dc215 EJ
  generalize BQ l s = a at e1 hb
  obtain ⟨a, rfl⟩ := Int.eq_ofNat_of_zero_le hb.1
  obtain ⟨k, rfl⟩ := Int.eq_ofNat_of_zero_le h0
  have hbit := andNot_nat (a := a) (c := k) (by omega) (by omega)
  have hz : decide (((Nat.land k (255 - a) : Nat) : Int) = 0) = hasB a k := by
   unfold hasB
   generalize Nat.land k (255 - a) = x
   cases x with
   | zero => rfl
   | succ x => simp [Nat.beq]; omega
  simp only [↓go1, go2, go3, go4, reduceIte, Nat.reduceEqDiff, Nat.reduceAdd, Aa s95, e1, v_andNot, hbit, hz, Int.toNat_natCast]
theorem DA {m : Mem} {e : Nat} {nl : Bool} {t : Id} {xs : List D} : Grow m e (.slice nl t xs) = (nl = true ∨ (m t 0 = some (.tok (e + 1)) ∧ t ≠ [])) := rfl
theorem C_ {e : Nat} {fr t : Id} {xs : List D} : BL e fr (.slice false t xs) = [(t, 0, [.tok 0]), (fr, 0, [.tok (e + 1)])] := rfl
theorem rlsD_append (a b : List Rl) : Aj a ++ Aj b = Aj (a ++ b) := (List.map_append ..).symm
theorem Cw (l : List Rl) : (Aj l).all D.calm = true := by rw [List.all_eq_true]; intro x hx; obtain ⟨y, _, rfl⟩ := List.mem_map.1 hx; rfl
theorem DL (l : List Rl) : (Aj l).map D.un = Aj l := by rw [Aj, List.map_map]; exact List.map_congr_left fun _ _ => rfl
def oneC (a b : List Rl) (r : Rl) : Bool := hasB (BQ b r.1).toNat (BQ a r.1).toNat
def CG (a b l : List Rl) : Nat → Nat → Bool
 | 0, _ => true
 | f + 1, j => if oneC a b (Bf l j) = true then CG a b l f (j + 1) else false
theorem DV (a b l : List Rl) : ∀ (f j : Nat), l.length = j + f → CG a b l f j = (l.drop j).all (oneC a b)
 | 0, j, h => by rw [List.drop_of_length_le (by omega)]; rfl
 | f + 1, j, h => by
  have hj : j < l.length := by omega
  have e : Bf l j = l[j] := by simp [Bf, List.getElem?_eq_getElem hj]
  unfold CG
  rw [DV a b l f (j + 1) (by omega), List.drop_eq_getElem_cons hj, List.all_cons, e]
  cases oneC a b l[j] <;> simp
def CV (a b : List Rl) : Bool := decide (Cm a = 0) && decide (Cm b = 0) && (a ++ b).all (oneC a b)
theorem loop118 {S : Summs} {ns : Id} {a b l : List Rl} {nl na nb : Bool} {t ta tb : Id} {Q : Ex → St → Prop} {e : Bool} (s220 : S 220 = some (Ai F220)) (s219 : S 219 = some (Ai F219))
  (la : a.length ≤ 1000000) (lb : b.length ≤ 1000000) (pa : Bu a) (pb : Bu b) (ca : Da a) (cb : Da b) (hb : l.length ≤ 1000000) (hpl : Bu l)
  (hret : ∀ st, e = false → st.s 4 = .bool false → Q .ret st) (hexit : ∀ st, e = true → Q (.exit 0) st) :
  ∀ (f j : Nat) st g, l.length = j + f → CG a b l f j = e → st.s 0 = .slice na ta (Aj a) → st.s 1 = .slice nb tb (Aj b) → st.s 5 = .slice nl t (Aj l) → st.s 6 = .int .i64 (j : Int) → AV S ns dc118l0 Q st g := by
 intro f
 induction f with
 | zero =>
  intro j st g hf he h0 h1 h5 h6
  refine Ad dc118l0.eq_1 ?_
  have : ¬ ((j : Int) < l.length) := by omega
  simp only [↓go1, go2, go4, reduceIte, Nat.reduceEqDiff, Nat.reduceAdd, h5, h6, this, An]
  exact hexit _ he.symm
 | succ f ih =>
  intro j st g hf he h0 h1 h5 h6
  refine Ad dc118l0.eq_1 ?_
  unfold CG at he
  have hj : j < l.length := by omega
  have hlt : ((j : Int) < l.length) := by omega
  have hj0 : (0 : Int) ≤ (j : Int) := by omega
  have hw : IntKind.i64.wrap ((j : Int) + 1) = ((j + 1 : Nat) : Int) := w64 (by omega) (by omega)
  have hat : (Aj l)[j]? = some (.agg [.str (Bf l j).1, .int .u8 (Bf l j).2]) := CD hj
  have hq := prefB_at hpl hj
  unfold oneC at he
  generalize (Bf l j).1 = q at hat hq he
  have ea := F220_eq (nl := na) (t := []) (s := q) la pa hq
  have eb := F220_eq (nl := nb) (t := []) (s := q) lb pb hq
  have ba := capsP_b (s := q) ca
  have bb := capsP_b (s := q) cb
  have e219 := F219_eq bb.1 bb.2 ba.1 ba.2
  have halla := Cw a
  have hallb := Cw b
  have huna := DL a
  have hunb := DL b
  generalize hasB (BQ b q).toNat (BQ a q).toNat = hh at he e219
  obtain ⟨st_s, st_m, st_c⟩ := st
  simp only at h0 h1 h5 h6
  cases hh with
  | true =>
   rw [if_pos rfl] at he
   simp only [↓go1, gB1, reduceIte, Nat.reduceEqDiff, Nat.reduceAdd, h0, h1, h5, h6, hlt, hj0, hw, Int.toNat_natCast, hat, An, Aa s220, ea, eb, Aa s219, e219, Nat.zero_le, List.drop_zero, List.head?_cons]
   exact ih (j + 1) _ _ (by omega) he h0 h1 h5 rfl
  | false =>
   rw [if_neg (by simp)] at he
   simp only [↓go1, gB1, reduceIte, Nat.reduceEqDiff, Nat.reduceAdd, h0, h1, h5, h6, hlt, hj0, Int.toNat_natCast, hat, An, Aa s220, ea, eb, Aa s219, e219, Nat.zero_le, List.drop_zero, List.head?_cons]
   exact hret _ he.symm rfl
open Classical in
noncomputable def F118 : List D → Option D
 | [.slice _ _ xs, .slice _ _ ys] => if (xs = Aj (A0 xs) ∧ xs.length ≤ 1000000 ∧ Bu (A0 xs) ∧ Da (A0 xs)) ∧ ys = Aj (A0 ys) ∧ ys.length ≤ 1000000 ∧ Bu (A0 ys) ∧ Da (A0 ys) then some (.bool (CV (A0 xs) (A0 ys))) else none
 | _ => none
open Classical in
theorem F118_eq {na nb : Bool} {ta tb : Id} {a b : List Rl} (la : a.length ≤ 1000000) (lb : b.length ≤ 1000000) (pa : Bu a) (pb : Bu b) (ca : Da a) (cb : Da b) : F118 [.slice na ta (Aj a), .slice nb tb (Aj b)] = some (.bool (CV a b)) := by
 have h : (Aj a = Aj (A0 (Aj a)) ∧ (Aj a).length ≤ 1000000 ∧ Bu (A0 (Aj a)) ∧ Da (A0 (Aj a))) ∧ Aj b = Aj (A0 (Aj b)) ∧ (Aj b).length ≤ 1000000 ∧ Bu (A0 (Aj b)) ∧ Da (A0 (Aj b)) := by
  rw [AN, AN, An, An]; exact ⟨⟨rfl, la, pa, ca⟩, rfl, lb, pb, cb⟩
 show (if _ then _ else _) = _
 rw [if_pos h, AN, AN]
open Classical in
theorem F118_inv {ds : List D} {r : D} (h : F118 ds = some r) : ∃ na ta a nb tb b, ds = [.slice na ta (Aj a), .slice nb tb (Aj b)] ∧ a.length ≤ 1000000 ∧ b.length ≤ 1000000 ∧ Bu a ∧ Bu b ∧ Da a ∧ Da b ∧ r = .bool (CV a b) := by
 unfold F118 at h
 split at h
 ·rename_i na ta xs nb tb ys
  split at h
  ·rename_i hc
   obtain ⟨⟨h1, h2, h3, h4⟩, h5, h6, h7, h8⟩ := hc
   simp only [Option.some.injEq] at h
   subst h
   refine ⟨na, ta, A0 xs, nb, tb, A0 ys, by rw [← h1, ← h5], ?_, ?_, h3, h7, h4, h8, rfl⟩
   ·rw [h1, An] at h2; exact h2
   ·rw [h5, An] at h6; exact h6
  ·cases h
 ·cases h
theorem ok118 : (Ai F118).ok Tryz.prog 118 := by
 obtain ⟨S, hS, hl⟩ := AJ (Ab ok218 (Ab ok220 (Ab ok219 Ae)))
 have s218 := hl 218 _ rfl
 have s220 := hl 220 _ rfl
 have s219 := hl 219 _ rfl
 clear hl
 refine As (S := S) hS fn118 (fun ds r h => ?_) (fun ds r h => ?_)
 ·obtain ⟨na, ta, a, nb, tb, b, rfl, _⟩ := F118_inv h
  simp
 ·obtain ⟨na, ta, a, nb, tb, b, rfl, la, lb, pa, pb, ca, cb, rfl⟩ := F118_inv h
  have ea := Fpol_eq (nl := na) (t := []) la pa
  have eb := Fpol_eq (nl := nb) (t := []) lb pb
  have halla := Cw a
  have hallb := Cw b
  have huna := DL a
  have hunb := DL b
  have h4a : Cm a = 0 → a.length ≤ 4 := by unfold Cm; split <;> omega
  have h4b : Cm b = 0 → b.length ≤ 4 := by unfold Cm; split <;> omega
  unfold dc118 CV
  generalize Cm a = xa at *
  generalize Cm b = xb at *
  by_cases hxa : xa = 0
  ·by_cases hxb : xb = 0
   ·have l4a := h4a hxa
    have l4b := h4b hxb
    subst hxa hxb
    have n1 : (Aj a).length * 25 ≤ 140737488355328 := by rw [An]; omega
    have n2 : ((Aj a).length + (Aj b).length) * 25 ≤ 140737488355328 := by rw [An, An]; omega
    simp only [↓go1, gB1, reduceIte, Nat.reduceEqDiff, Nat.reduceAdd, Aa s218, ea, eb, DA, C_, n1, n2, rlsD_head, false_or, false_and, List.nil_append, ne_eq, reduceCtorEq, List.map_nil, List.all_nil, rlsD_append, if_false, Ac, Nat.zero_le, Nat.reduceLT, Nat.sub_zero, List.getElem?_cons_zero, and_self]
    refine loop118 (a := a) (b := b) (l := a ++ b) (e := (a ++ b).all (oneC a b)) s220 s219 la lb pa pb ca cb (by simp; omega) ?_ (fun st h1 h2 => ?_) (fun st h1 => ?_) (a ++ b).length 0 _ _ (by omega) ?_ rfl rfl rfl rfl
    ·intro r hr
     rcases List.mem_append.1 hr with h | h
     ·exact pa r h
     ·exact pb r h
    ·simp only [↓go1, go2, go3, go4, h1, h2]
    ·simp only [↓go1, go2, go3, go4, reduceIte, Nat.reduceAdd, h1]
    ·rw [DV _ _ _ _ _ (by omega)]; rfl
   ·simp only [↓go1, go2, go3, go4, reduceIte, Nat.reduceEqDiff, Nat.reduceAdd, Aa s218, ea, eb, hxb, hxa]
    simp
  ·simp only [↓go1, go2, go3, go4, reduceIte, Nat.reduceEqDiff, Nat.reduceAdd, Aa s218, ea, hxa]
   simp
end Go.Vd
namespace Go.Vd
open Go.Proofs
def dc246 : DC := (sr [cb 6 false] (sr [mm 7 0, mm 8 1, bt 9 .geq 7 8, mm 10 9, og 11 (.mv (.t 0)) 3 true, og 12 (.mv (.t 2)) 3 true, og 13 (.bin .leq (.t 11) (.t 12)) 3 true, oo 14 (.pick (.t 10) (.t 13) (.c (.bool false))), mm 6 14] .ret))
theorem fn246 : Fn Tryz.prog 246 15 dc246 [.t 6] := Ao Tryz.func246
def dc294 : DC := (sr [oo 2 (.box (.t 0)), oo 3 (.box (.t 1)), ci 4 0] (.seq (sr [ff 5 0 2, ll 6 5, bi 7 .eql 6 0] (cd 7 (sr [ff 8 0 3, ll 9 8, mm 4 9] .ret) .skip)) (sr [ff 10 0 2, ll 11 10, mm 4 11] .ret)))
theorem fn294 : Fn Tryz.prog 294 12 dc294 [.t 4] := Ao Tryz.func294
def dc295l0 : DC := (sr [bt 11 .lss 10 9] (.seq (cd 11 .skip (.exit 0)) (.seq (.block 1 (sr [ii 12 3 8 10, lk 13 3 12, oo 7 (.alloc [(.int .i64 0), (.bool false), (.bool false)]), oz (.store 3 (.t 7) (.t 13))] (.seq (sr [mm 14 1, lk 15 3 7, oo 16 (.call (.t 14) [(.t 15)]), mm 17 5, bt 18 .leq 16 17] (cd 18 (sr [cb 4 false] .ret) .skip)) (.row [mm 19 1, lk 20 3 7, oo 21 (.call (.t 19) [(.t 20)]), mm 5 21])))) (.row [bi 22 .add 10 1, mm 10 22]))))
def dc295 : DC := (sr [cb 4 false] (sr [ci 5 0] (.seq (sr [mm 8 0, nn 9 false 8, ci 10 0] (.block 0 (.loop dc295l0))) (sr [cb 4 true] .ret))))
theorem fn295 : Fn Tryz.prog 295 23 dc295 [.t 4] := Ao Tryz.func295
def dc191 : DC := (sr [oo 2 (.box (.t 0)), oo 3 (.box (.t 1)), ci 4 0] (.seq (sr [ff 7 0 3, ll 8 7, cc 9 246 [(.t 8), (.c (.int .i64 1)), (.c (.int .i64 6))], oo 10 (.un .not (.t 9)), mm 11 10, og 12 (.faddr 0 (.t 2)) 4 false, og 13 (.load none (.t 12)) 4 false, og 14 (.call (.c (.fn 246 [])) [(.t 13), (.c (.int .i64 0)), (.c (.int .i64 6))]) 4 false, og 15 (.un .not (.t 14)) 4 false, oo 16 (.pick (.t 11) (.c (.bool true)) (.t 15)), mm 17 16, og 18 (.faddr 2 (.t 2)) 10 false, og 19 (.load none (.t 18)) 10 false, og 20 (.call (.c (.fn 246 [])) [(.t 19), (.c (.int .i64 0)), (.c (.int .i64 30))]) 10 false, og 21 (.un .not (.t 20)) 10 false, oo 22 (.pick (.t 17) (.c (.bool true)) (.t 21))] (cd 22 (sr [ci 4 2] .ret) .skip)) (.seq (.seq (.drawn [ff 23 3 2, ll 24 23, nn 25 false 24, lk 26 4 2, lk 27 2 3, cc 28 294 [(.t 26), (.t 27)], bt 29 .gtr 25 28, mm 30 29, og 31 (.faddr 3 (.t 2)) 7 false, og 32 (.load none (.t 31)) 7 false, og 33 (.call (.c (.fn 295 [])) [(.t 32), (.c (.fn 296 []))]) 7 false, og 34 (.un .not (.t 33)) 7 false, oo 35 (.pick (.t 30) (.c (.bool true)) (.t 34))] [(5, 1)]) (cd 35 (sr [ci 4 2] .ret) .skip)) (sr [ci 5 0] (.seq (sr [ff 36 3 2, ll 37 36, nn 38 false 37, mm 6 38] (sr [mm 39 6, bi 40 .gtr 39 0] (cd 40 (.row [ff 41 3 2, ll 42 41, mm 43 6, bi 44 .sub 43 1, ii 45 3 42 44, ff 46 0 45, ll 47 46, mm 5 47]) .skip))) (.seq (sr [mm 48 5, ff 49 2 2, ll 50 49, bt 51 .neq 48 50] (cd 51 (sr [ci 4 2] .ret) .skip)) (sr [ci 4 0] .ret)))))))
theorem fn191 : Fn Tryz.prog 191 52 dc191 [.t 4] := Ao Tryz.func191
def dc102 : DC := (sr [oo 1 (.box (.t 0)), ci 2 0] (.seq (sr [ff 4 0 1, ll 5 4, cc 6 201 [(.t 5)], mm 3 6] (sr [mm 7 3, bi 8 .neq 7 0] (cd 8 (sr [mm 9 3, mm 2 9] .ret) .skip))) (sr [oo 10 (.build [(.int .i64 0), (.bool false), (.int .i64 0), (.slice true [] [])] []), ff 11 1 1, lk 12 2 11, cc 13 191 [(.t 10), (.t 12)], mm 2 13] .ret)))
theorem fn102 : Fn Tryz.prog 102 14 dc102 [.t 2] := Ao Tryz.func102
def dc105l0 : DC := (sr [bt 14 .lss 13 12] (.seq (cd 14 .skip (.exit 0)) (.seq (.block 1 (sr [mm 15 13, ii 16 3 11 13, lk 17 3 16, oo 5 (.alloc [(.str []), (.int .i64 0), (.bool false)]), mm 4 15, oz (.store 3 (.t 5) (.t 17))] (.row [mm 18 3, mm 19 4, ff 20 0 5, ll 21 20, ii 22 1 18 19, oz (.store 1 (.t 22) (.t 21))]))) (.row [bi 23 .add 13 1, mm 13 23]))))
def dc105 : DC := (sr [oo 1 (.box (.t 0)), oo 2 (.mv (.c (.slice true [] [])))] (sr [ff 6 0 1, ll 7 6, nn 8 false 7, oo 9 (.mksl 9 1 16 (.str []) (.t 8) (.t 8)), mm 3 9] (.seq (sr [ff 10 0 1, ll 11 10, nn 12 false 11, ci 13 0] (.block 0 (.loop dc105l0))) (sr [mm 24 3, mm 2 24] .ret))))
theorem fn105 : Fn Tryz.prog 105 25 dc105 [.t 2] := Ao Tryz.func105
end Go.Vd
namespace Go.Vd
open Go.Proofs Go.RowKit
def F246 : List D → Option D
 | [.int .i64 n, .int .i64 lo, .int .i64 hi] => some (.bool (decide (lo ≤ n ∧ n ≤ hi)))
 | _ => none
theorem ok246 : (Ai F246).ok Tryz.prog 246 := by
 refine As (S := fun _ => none) Au fn246 (fun ds r h => ?_) (fun ds r h => ?_)
 ·unfold F246 at h; split at h
  ·simp
  ·cases h
 ·unfold F246 at h; split at h
  ·rename_i n lo hi
   simp only [Option.some.injEq] at h
   subst h
   unfold dc246
   simp only [↓go1, go2, reduceIte, Nat.reduceEqDiff, Nat.reduceAdd]
   repeat' (first | (refine ifQ.intro (fun h => ?_) (fun h => ?_) <;> try (exfalso; omega)) | (simp only [↓go1, go2, go3, go4, reduceIte, Nat.reduceEqDiff, Nat.reduceAdd, h, and_self, false_and]))
   all_goals (simp_all <;> omega)
  ·cases h
def F294 : List D → Option D
 | [.agg [.int .i64 a, .bool b, .int .i64 c, .slice nl t xs], .agg [.int .i64 q, .bool b2]] => some (.int .i64 (if a = 0 then q else a))
 | _ => none
theorem ok294 : (Ai F294).ok Tryz.prog 294 := by
 refine As (S := fun _ => none) Au fn294 (fun ds r h => ?_) (fun ds r h => ?_)
 ·unfold F294 at h; split at h
  ·simp
  ·cases h
 ·unfold F294 at h; split at h
  ·rename_i a b c nl t xs q b2
   simp only [Option.some.injEq] at h
   subst h
   unfold dc294
   simp only [↓go1, gB1, reduceIte, Nat.reduceEqDiff, Nat.reduceAdd, Ac, Nat.zero_le, Nat.reduceLT, Nat.sub_zero, List.getElem?_cons_zero, and_self, List.cons.injEq, Nat.zero_ne_one]
   repeat' (first | (refine ifQ.intro (fun h => ?_) (fun h => ?_) <;> try (exfalso; omega)) | (simp only [↓go1, gB1, reduceIte, Nat.reduceEqDiff, Nat.reduceAdd, h, Ac, Nat.zero_le, Nat.reduceLT, Nat.sub_zero, List.getElem?_cons_zero, and_self, List.cons.injEq, Nat.zero_ne_one, Nat.one_ne_zero]))
   all_goals simp_all
  ·cases h
def F295 : List D → Option D
 | [.slice nl t [], .fn g caps] => some (.bool true)
 | _ => none
theorem ok295 : (Ai F295).ok Tryz.prog 295 := by
 refine As (S := fun _ => none) Au fn295 (fun ds r h => ?_) (fun ds r h => ?_)
 ·unfold F295 at h; split at h
  ·simp
  ·cases h
 ·unfold F295 at h; split at h
  ·rename_i nl t g caps
   simp only [Option.some.injEq] at h
   subst h
   unfold dc295
   simp only [↓go1, go2, reduceIte, Nat.reduceEqDiff, Nat.reduceAdd, List.length_nil]
   refine Ad dc295l0.eq_1 ?_
   simp only [↓go1, go2, go3, go4, reduceIte, Nat.reduceEqDiff, Nat.reduceAdd, and_self, Int.lt_irrefl, Int.cast_ofNat_Int]
  ·cases h
def F191 : List D → Option D
 | [.agg [.int .i64 0, .bool b, .int .i64 0, .slice nl t []], .agg [.int .i64 q, .bool b2]] => some (.int .i64 (if 1 ≤ q ∧ q ≤ 6 then 0 else 2))
 | _ => none
theorem ok191 : (Ai F191).ok Tryz.prog 191 := by
 obtain ⟨S, hS, hl⟩ := AJ (Ab ok246 (Ab ok294 (Ab ok295 Ae)))
 have s246 := hl 246 _ rfl
 have s294 := hl 294 _ rfl
 have s295 := hl 295 _ rfl
 clear hl
 refine As (S := S) hS fn191 (fun ds r h => ?_) (fun ds r h => ?_)
 ·unfold F191 at h; split at h
  ·simp
  ·cases h
 ·unfold F191 at h; split at h
  ·rename_i b nl t q b2
   simp only [Option.some.injEq] at h
   subst h
   unfold dc191
   have h246 : ∀ n lo hi, F246 [.int .i64 n, .int .i64 lo, .int .i64 hi] = some (.bool (decide (lo ≤ n ∧ n ≤ hi))) := fun _ _ _ => rfl
   have h294 : F294 [.agg [.int .i64 0, .bool b, .int .i64 0, .slice nl [] []], .agg [.int .i64 q, .bool b2]] = some (.int .i64 q) := rfl
   have h295 : ∀ nl t g caps, F295 [.slice nl t [], .fn g caps] = some (.bool true) := fun _ _ _ _ => rfl
   by_cases hq : 1 ≤ q ∧ q ≤ 6
   ·have hq0 : ¬ (q < 0) := by omega
    simp only [↓go1, gB0, reduceIte, Nat.reduceEqDiff, Nat.reduceAdd, Ac, Ag, Ah, Nat.reduceLT, Option.bind_some, List.cons.injEq, Nat.zero_ne_one, Nat.one_ne_zero, and_false, Aa s246, h246, Aa s294, h294, Aa s295, h295, hq, hq0, Int.cast_ofNat_Int, Int.reduceLE]
    refine AA.intro (Al rfl) ?_
    simp only [↓go1, gB0, reduceIte, Nat.reduceEqDiff, Nat.reduceAdd, Ac, Nat.reduceLT, List.cons.injEq, Nat.zero_ne_one, and_false, hq, Int.lt_irrefl, Int.cast_ofNat_Int]
   ·simp only [↓go1, gB1, reduceIte, Nat.reduceEqDiff, Nat.reduceAdd, Ac, Nat.zero_le, Nat.reduceLT, Nat.sub_zero, List.getElem?_cons_zero, and_self, List.cons.injEq, Nat.one_ne_zero, Aa s246, h246, hq]
  ·cases h
end Go.Vd
namespace Go.Vd
open Go.Proofs
def dc210 : DC := (sr [cb 2 false] (sr [mm 3 0, mm 4 0, bt 5 .neq 3 4, mm 2 5] .ret))
theorem fn210 : Fn Tryz.prog 210 6 dc210 [.t 2] := Ao Tryz.func210
def dc109 : DC := (sr [ci 4 0] (sr [mm 7 0, cc 8 210 [(.t 7)], mm 5 8] (sr [mm 9 1, cc 10 210 [(.t 9)], mm 6 10] (.seq (sr [mm 11 5] (cd 11 (.seq (sr [mm 12 6] (cd 12 (sr [ci 4 0] .ret) .skip)) (sr [oo 4 (.mv (.c (.int .i64 (-1))))] .ret)) .skip)) (.seq (sr [mm 13 6] (cd 13 (sr [ci 4 1] .ret) .skip)) (.seq (sr [mm 14 0, mm 15 1, bt 16 .lss 14 15] (cd 16 (sr [oo 4 (.mv (.c (.int .i64 (-1))))] .ret) .skip)) (.seq (sr [mm 17 0, mm 18 1, bt 19 .gtr 17 18] (cd 19 (sr [ci 4 1] .ret) .skip)) (sr [ci 4 0] .ret))))))))
theorem fn109 : Fn Tryz.prog 109 20 dc109 [.t 4] := Ao Tryz.func109
def dc108 : DC := (sr [oo 2 (.box (.t 0)), oo 3 (.box (.t 1)), ci 4 0] (sr [ff 5 0 2, ll 6 5, ff 7 0 3, ll 8 7, cc 9 109 [(.t 6), (.t 8)], mm 4 9] .ret))
theorem fn108 : Fn Tryz.prog 108 10 dc108 [.t 4] := Ao Tryz.func108
end Go.Vd
namespace Go.Vd
open Go.Proofs Go.RowKit
abbrev Mt := Bs × Int × Bool
def mtD (m : Mt) : D := .agg [.str m.1, .int .i64 m.2.1, .bool m.2.2]
def Ar (l : List Mt) : List D := l.map mtD
def mtT : D → Mt
 | .agg [.str p, .int .i64 q, .bool b] => (p, q, b)
 | _ => ([], 0, false)
def Bw (xs : List D) : List Mt := xs.map mtT
theorem AY (l : List Mt) : Bw (Ar l) = l := by
 simp only [Bw, Ar, List.map_map]
 conv => rhs; rw [← List.map_id l]
 exact List.map_congr_left fun r _ => rfl
theorem Aq (l : List Mt) : (Ar l).length = l.length := List.length_map ..
theorem mtsD_elB (l : List Mt) : (Ar l).all (elB (some 3)) = true := by
 rw [List.all_eq_true]; intro x hx
 obtain ⟨r, _, rfl⟩ := List.mem_map.1 hx
 rfl
def AQ (l : List Mt) (j : Nat) : Mt := l.getD j ([], 0, false)
theorem Cp {l : List Mt} {j : Nat} (h : j < l.length) : (Ar l)[j]? = some (mtD (AQ l j)) := by
 simp [Ar, AQ, List.getElem?_eq_getElem h]
def CT (p : Bs) (q : Int) : Int := if Be p ≠ 0 then Be p else if 1 ≤ q ∧ q ≤ 6 then 0 else 2
def Cg (l : List Mt) (p : Bs) : Int := Bq (l.map fun m => decide (m.1 = p))
theorem idx203_ex {l : List Mt} {nl : Bool} {t : Id} (hl : l.length ≤ 1000000) {q : Bs} (m : Mem) (fr i : Id) (hm : m i 0 = some (.str q)) :
  (idxS 204 (some 3) K204).ex [.slice nl t (Ar l), .fn 204 [.ptr i 0]] m fr = some (.int .i64 (Cg l q), []) := by
 have e : (Ar l).map (K204 (.str q)) = (l.map fun r => decide (r.1 = q)).map fun b => some (.bool b) := by
  simp only [Ar, List.map_map]
  exact List.map_congr_left fun r _ => rfl
 simp only [idxS, Aq, hl, mtsD_elB, and_self, if_true, capV, hm, Option.bind_some, e, DZ, Option.map_some]
 rfl
def DO (s : Bs) (l : List Bs) : Bool := l.any fun q => AT s q || AT q s
theorem cn192_ex {l : List Bs} {nl : Bool} {t : Id} (hl : l.length ≤ 1000000) {s : Bs} (m : Mem) (fr i : Id) (hm : m i 0 = some (.str s)) :
  (cnS 205 none K205).ex [.slice nl t (l.map .str), .fn 205 [.ptr i 0]] m fr = some (.bool (DO s l), []) := by
 have e : (l.map D.str).map (K205 (.str s)) = (l.map fun q => AT s q || AT q s).map fun b => some (.bool b) := by
  simp only [List.map_map]
  exact List.map_congr_left fun r _ => rfl
 have hel : (l.map D.str).all (elB none) = true := by
  rw [List.all_eq_true]; intro x hx
  obtain ⟨r, _, rfl⟩ := List.mem_map.1 hx
  rfl
 simp only [cnS, List.length_map, hl, hel, and_self, if_true, capV, hm, Option.bind_some, e, DZ, Option.map_some]
 simp only [DO, List.any_map]
 rfl
def F102 : List D → Option D
 | [.agg [.str p, .int .i64 q, .bool b]] => if p.length ≤ 1000000 then some (.int .i64 (CT p q)) else none
 | _ => none
theorem ok102 : (Ai F102).ok Tryz.prog 102 := by
 obtain ⟨S, hS, hl⟩ := AJ (Ab ok201 (Ab ok191 Ae))
 have s201 := hl 201 _ rfl
 have s191 := hl 191 _ rfl
 clear hl
 refine As (S := S) hS fn102 (fun ds r h => ?_) (fun ds r h => ?_)
 ·unfold F102 at h; split at h
  ·simp
  ·cases h
 ·unfold F102 at h; split at h
  ·rename_i p q b
   split at h
   ·rename_i hc
    simp only [Option.some.injEq] at h
    subst h
    unfold dc102
    have h201 : F201 [.str p] = some (.int .i64 (Be p)) := if_pos hc
    have h191 : F191 [.agg [.int .i64 0, .bool false, .int .i64 0, .slice true [] []], .agg [.int .i64 q, .bool b]] = some (.int .i64 (if 1 ≤ q ∧ q ≤ 6 then 0 else 2)) := rfl
    unfold CT
    generalize Be p = e at *
    generalize (if 1 ≤ q ∧ q ≤ 6 then (0 : Int) else 2) = e2 at *
    by_cases he : e = 0
    ·subst he
     simp only [↓go1, gB0, reduceIte, Nat.reduceEqDiff, Nat.reduceAdd, Ac, Ag, Ah, Nat.reduceLT, Option.bind_some, A2, Aa s201, h201, Aa s191, h191, ne_eq]
    ·simp only [↓go1, gB1, reduceIte, Nat.reduceEqDiff, Nat.reduceAdd, Ac, Nat.zero_le, Nat.reduceLT, Nat.sub_zero, List.getElem?_cons_zero, and_self, Aa s201, h201, he, ne_eq]
   ·cases h
  ·cases h
open Classical in
noncomputable def F103 : List D → Option D
 | [.agg [.slice _ _ xs], .str p] => if xs = Ar (Bw xs) ∧ xs.length ≤ 1000000 then some (.int .i64 (Cg (Bw xs) p)) else none
 | _ => none
open Classical in
theorem F103_eq {nl : Bool} {t : Id} {l : List Mt} {p : Bs} (hl : l.length ≤ 1000000) : F103 [.agg [.slice nl t (Ar l)], .str p] = some (.int .i64 (Cg l p)) := by
 have h : Ar l = Ar (Bw (Ar l)) ∧ (Ar l).length ≤ 1000000 := by rw [AY, Aq]; exact ⟨rfl, hl⟩
 show (if _ then _ else _) = _
 rw [if_pos h, AY]
theorem ok103 : (Ai F103).ok Tryz.prog 103 := by
 obtain ⟨S, hS, hl⟩ := AJ (Ab idx203 Ae)
 have s203 := hl 203 _ rfl
 clear hl
 refine As (S := S) hS fn103 (fun ds r h => ?_) (fun ds r h => ?_)
 ·unfold F103 at h; split at h
  ·simp
  ·cases h
 ·unfold F103 at h; split at h
  ·rename_i nl t xs p
   split at h
   ·rename_i hc
    obtain ⟨hx, hlen⟩ := hc
    simp only [Option.some.injEq] at h
    subst h
    generalize Bw xs = l at hx
    subst hx
    rw [Aq] at hlen
    unfold dc103
    simp only [↓go1, gB1, reduceIte, Nat.reduceEqDiff, Nat.reduceAdd, Ac, Nat.zero_le, Nat.reduceLT, Nat.sub_zero, List.getElem?_cons_zero, and_self, List.cons.injEq, Nat.zero_ne_one, Nat.one_ne_zero, AK s203, idx203_ex (q := p) hlen]
   ·cases h
  ·cases h
def F104 : List D → Option D
 | [.str s, .slice _ _ xs] => (EA xs).bind fun l => if l.length ≤ 1000000 then some (.bool (DO s l)) else none
 | _ => none
theorem F104_eq {s : Bs} {nl : Bool} {t : Id} {l : List Bs} (hl : l.length ≤ 1000000) : F104 [.str s, .slice nl t (l.map .str)] = some (.bool (DO s l)) := by
 simp only [F104, Ez, Option.bind_some]; exact if_pos hl
theorem ok104 : (Ai F104).ok Tryz.prog 104 := by
 obtain ⟨S, hS, hl⟩ := AJ (Ab cn192 Ae)
 have s192 := hl 192 _ rfl
 clear hl
 refine As (S := S) hS fn104 (fun ds r h => ?_) (fun ds r h => ?_)
 ·unfold F104 at h; split at h
  ·simp
  ·cases h
 ·unfold F104 at h; split at h
  ·rename_i s nl t xs
   rw [Option.bind_eq_some_iff] at h
   obtain ⟨l, hs, h⟩ := h
   obtain rfl := DI hs
   split at h
   ·rename_i hl
    simp only [Option.some.injEq] at h
    subst h
    unfold dc104
    simp only [↓go1, gB1, reduceIte, Nat.reduceEqDiff, Nat.reduceAdd, Ac, Nat.zero_le, Nat.reduceLT, Nat.sub_zero, List.getElem?_cons_zero, and_self, AK s192, cn192_ex (s := s) hl]
   ·cases h
  ·cases h
theorem RI.base {fr r : Id} {m0 m0' m : Mem} {l : List Bs} {j : Nat} (h : RI fr r m0' m l j) (e : ∀ i o, ¬ fr <:+ i → m0' i o = m0 i o) : RI fr r m0 m l j :=
 ⟨h.row, fun i o hn => (h.out i o hn).trans (e i o hn)⟩
open Classical in
noncomputable def F105 : List D → Option (List Bs)
 | [.agg [.slice _ _ xs]] => if xs = Ar (Bw xs) ∧ xs.length ≤ 1000000 then some ((Bw xs).map (·.1)) else none
 | _ => none
open Classical in
theorem F105_eq {nl : Bool} {t : Id} {l : List Mt} (hl : l.length ≤ 1000000) : F105 [.agg [.slice nl t (Ar l)]] = some (l.map (·.1)) := by
 have h : Ar l = Ar (Bw (Ar l)) ∧ (Ar l).length ≤ 1000000 := by rw [AY, Aq]; exact ⟨rfl, hl⟩
 show (if _ then _ else _) = _
 rw [if_pos h, AY]
open Classical in
theorem F105_inv {ds : List D} {r : List Bs} (h : F105 ds = some r) : ∃ nl t l, ds = [.agg [.slice nl t (Ar l)]] ∧ l.length ≤ 1000000 ∧ r = l.map (·.1) := by
 unfold F105 at h
 split at h
 ·rename_i nl t xs
  split at h
  ·rename_i hc
   obtain ⟨h1, h2⟩ := hc
   simp only [Option.some.injEq] at h
   subst h
   refine ⟨nl, t, Bw xs, by rw [← h1], ?_, rfl⟩
   rw [h1, Aq] at h2; exact h2
  ·cases h
 ·cases h
theorem loop105 {S : Summs} {fr : Id} {l : List Mt} {nl : Bool} {t : Id} {m0 : Mem} {k : Nat} {Q : Ex → St → Prop} (hb : l.length ≤ 1000000)
  (hexit : ∀ st, st.s 3 = .row (k :: fr) l.length → RI fr (k :: fr) m0 st.m (l.map (·.1)) l.length → Q (.exit 0) st) :
  ∀ (f j : Nat) st g, l.length = j + f → k < st.c → st.s 3 = .row (k :: fr) l.length → st.s 11 = .slice nl t (Ar l) → st.s 12 = .int .i64 (l.length : Int) → st.s 13 = .int .i64 (j : Int) → RI fr (k :: fr) m0 st.m (l.map (·.1)) j → AV S fr dc105l0 Q st g := by
 intro f
 induction f with
 | zero =>
  intro j st g hf hc h3 h11 h12 h13 I
  refine Ad dc105l0.eq_1 ?_
  have : ¬ ((j : Int) < l.length) := by omega
  simp only [↓go1, go2, go4, reduceIte, Nat.reduceAdd, h12, h13, this]
  exact hexit _ h3 (by rw [show l.length = j by omega]; exact I)
 | succ f ih =>
  intro j st g hf hc h3 h11 h12 h13 I
  refine Ad dc105l0.eq_1 ?_
  have hj : j < l.length := by omega
  have hlt : ((j : Int) < l.length) := by omega
  have hj0 : (0 : Int) ≤ (j : Int) := by omega
  have hw : IntKind.i64.wrap ((j : Int) + 1) = ((j + 1 : Nat) : Int) := w64 (by omega) (by omega)
  have hat : (Ar l)[j]? = some (.agg [.str (AQ l j).1, .int .i64 (AQ l j).2.1, .bool (AQ l j).2.2]) := Cp hj
  have hg : (l.map (·.1)).getD j [] = (AQ l j).1 := by simp [AQ, List.getElem?_eq_getElem hj]
  generalize AQ l j = r at hat hg
  have hne1 : ((st.c + 1 + 3) :: fr = k :: fr) = False := eq_false (by simp; omega)
  have hne2 : (k :: fr = (st.c + 1 + 3) :: fr) = False := eq_false (by simp; omega)
  have hrow := I.row j (by simpa using hj)
  rw [if_neg (by omega)] at hrow
  obtain ⟨st_s, st_m, st_c⟩ := st
  simp only at h3 h11 h12 h13 hc hne1 hne2 hrow I
  simp only [↓go1, gB0, reduceIte, Nat.reduceEqDiff, Nat.reduceAdd, h3, h11, h12, h13, hlt, hj0, hw, Int.toNat_natCast, hat, hne2, hrow, Nat.le_refl, false_and, Ac, Ag, Ah, Nat.reduceLT, Option.bind_some, List.take_succ_cons, List.take_zero, Option.isSome_some, false_and]
  refine ih (j + 1) _ _ (by omega) (by simp only; omega) h3 h11 h12 rfl ?_
  rw [← hg]
  exact ((I.put (by simp; omega)).put (by simp; omega)).fill (List.suffix_cons _ _)
theorem ok105 : (rowS F105).ok Tryz.prog 105 := by
 refine rowS_ok (S := fun _ => none) Au fn105 (fun ds r m fr h hfr => ?_)
 obtain ⟨nl, t, l, rfl, hl, rfl⟩ := F105_inv h
 refine ⟨by simp, ?_⟩
 have hn0 : ((0 : Int) ≤ (l.length : Int)) := by omega
 have hnb : ((l.length : Int) * (((16 : Nat) : Int) + 1) ≤ 140737488355328) = True := eq_true (by omega)
 unfold dc105
 simp only [↓go1, gB1, reduceIte, Nat.reduceEqDiff, Nat.reduceAdd, hn0, hnb, Aq, Int.toNat_natCast, Int.le_refl, Ac, Nat.zero_le, Nat.reduceLT, Nat.sub_zero, List.getElem?_cons_zero, and_self, List.cons.injEq, false_and]
 refine loop105 (l := l) (nl := nl) (t := t) (m0 := m) (k := 5) hl (fun st h1 h2 => ?_) l.length 0 _ _ (by omega) (by simp only; omega) rfl rfl rfl rfl ?_
 ·simp only [↓go1, go2, reduceIte, Nat.reduceEqDiff, Nat.reduceAdd, h1, List.length_map]
  exact ⟨_, rfl, List.suffix_cons _ _, h2⟩
 ·exact RI.base (RI.start (by simp [])) (fun i o hn => Mem.put_other (fun e => hn (by rw [e]; exact List.suffix_cons _ _)))
end Go.Vd
namespace Go.Vd
open Go.Proofs
def dc48 : DC := (sr [oo 0 (.alloc [(.slice true [] [])])] (sr [cc 1 112 [], oo 2 (.bslice 97 3 [(.t 1)]), oo 3 (.build [(.slice true [] [])] [(0, 1, (.t 2))]), oz (.store 1 (.t 0) (.t 3))] .ret))
theorem fn48 : Fn Tryz.prog 48 4 dc48 [.cell (some 1) 0] := Ao Tryz.func48
def dc112 : DC := (sr [oo 0 (.alloc [(.str []), (.str []), (.slice true [] [])])] (sr [oo 1 (.build [(.str []), (.int .u8 0)] [(1, 1, (.c (.int .u8 63)))]), oo 2 (.bslice 209 2 [(.t 1)]), oo 3 (.build [(.str []), (.str []), (.slice true [] [])] [(0, 1, (.c (.str [114, 111, 111, 116]))), (2, 1, (.t 2))]), oz (.store 3 (.t 0) (.t 3))] .ret))
theorem fn112 : Fn Tryz.prog 112 4 dc112 [.cell (some 3) 0] := Ao Tryz.func112
def dc113 : DC := (sr [oo 1 (.box (.t 0)), ci 2 0] (.seq (sr [ff 4 0 1, ll 5 4, cc 6 213 [(.t 5)], oo 7 (.un .not (.t 6))] (cd 7 (sr [ci 2 2] .ret) .skip)) (.seq (sr [ff 8 2 1, ll 9 8, cc 10 214 [(.t 9)], mm 3 10] (sr [mm 11 3, bi 12 .neq 11 0] (cd 12 (sr [mm 13 3, mm 2 13] .ret) .skip))) (.seq (.block 0 (sr [ff 15 1 1, ll 16 15, oo 17 (.bin .eql (.t 16) (.c (.str []))), mm 18 17, og 19 (.faddr 0 (.t 1)) 3 true, og 20 (.load none (.t 19)) 3 true, og 21 (.bin .eql (.t 20) (.c (.str [114, 111, 111, 116]))) 3 true, oo 22 (.pick (.t 18) (.t 21) (.c (.bool false))), mm 14 22] (cd 14 (sr [ci 2 0] .ret) (sr [ff 24 1 1, ll 25 24, cc 26 213 [(.t 25)], mm 27 26, og 28 (.faddr 1 (.t 1)) 3 true, og 29 (.load none (.t 28)) 3 true, og 30 (.faddr 0 (.t 1)) 3 true, og 31 (.load none (.t 30)) 3 true, og 32 (.bin .neq (.t 29) (.t 31)) 3 true, oo 33 (.pick (.t 27) (.t 32) (.c (.bool false))), mm 23 33] (cd 23 (sr [ci 2 0] .ret) .skip))))) (sr [ci 2 2] .ret)))))
theorem fn113 : Fn Tryz.prog 113 34 dc113 [.t 2] := Ao Tryz.func113
def dc93 : DC := (sr [oo 2 (.box (.t 0)), ci 4 0, cb 5 false] (sr [ff 6 0 2, ll 7 6, mm 8 1, cc 9 195 [(.t 7), (.t 8), (.c (.fn 196 []))], xx 10 0 9, xx 11 1 9, mm 4 10, mm 5 11] .ret))
theorem fn93 : Fn Tryz.prog 93 12 dc93 [.t 4, .t 5] := Ao Tryz.func93
def dc195l0 : DC := (.seq (sr [mm 15 9, mm 16 10, bt 17 .lss 15 16] (cd 17 .skip (.exit 0))) (.block 1 (sr [mm 18 9, mm 19 10, bt 20 .add 18 19, oo 21 (.conv .u64 (.t 20)), oo 22 (.bin .shr (.t 21) (.c (.int .u64 1))), oo 23 (.conv .i64 (.t 22)), mm 11 23] (sr [mm 24 2, mm 25 0, mm 26 11, ii 27 3 25 26, lk 28 3 27, mm 29 1, oo 30 (.call (.t 24) [(.t 28), (.t 29)]), bi 31 .lss 30 0] (cd 31 (.row [mm 32 11, bi 33 .add 32 1, mm 9 33]) (.row [mm 34 11, mm 10 34]))))))
def dc195 : DC := (sr [ci 6 0, cb 7 false] (sr [mm 12 0, nn 13 false 12, mm 8 13] (sr [mm 14 8, ci 9 0, mm 10 14] (.seq (.block 0 (.loop dc195l0)) (sr [mm 35 9, mm 36 9, mm 37 8, bt 38 .lss 36 37, mm 39 38, og 40 (.mv (.t 2)) 4 true, og 41 (.mv (.t 0)) 4 true, og 42 (.mv (.t 9)) 4 true, og 43 (.iaddr 3 (.t 41) (.t 42)) 4 true, og 44 (.load (some 3) (.t 43)) 4 true, og 45 (.mv (.t 1)) 4 true, og 46 (.call (.t 40) [(.t 44), (.t 45)]) 4 true, og 47 (.bin .eql (.t 46) (.c (.int .i64 0))) 4 true, oo 48 (.pick (.t 39) (.t 47) (.c (.bool false))), mm 6 35, mm 7 48] .ret)))))
theorem fn195 : Fn Tryz.prog 195 49 dc195 [.t 6, .t 7] := Ao Tryz.func195
def dc196 : DC := (sr [oo 2 (.box (.t 0)), ci 4 0] (sr [ff 5 0 2, ll 6 5, mm 7 1, cc 8 109 [(.t 6), (.t 7)], mm 4 8] .ret))
theorem fn196 : Fn Tryz.prog 196 9 dc196 [.t 4] := Ao Tryz.func196
def dc115 : DC := (sr [oo 2 (.box (.t 0)), oo 3 (.box (.t 1)), oo 4 (.alloc [(.slice true [] [])])] (sr [lk 8 1 2, ff 9 0 3, ll 10 9, cc 11 93 [(.t 8), (.t 10)], mm 7 11, xx 12 0 7, xx 13 1 7, mm 5 12, mm 6 13] (.seq (.drawn [ff 14 0 2, ll 15 14, mm 16 5, oo 17 (.cutl 3 (.t 15) none (some (.t 16))), lk 18 3 3, cc 19 94 [(.t 18)], oo 20 (.bslice 97 3 [(.t 19)]), ff 21 0 2, ll 22 21, mm 23 5, oo 24 (.cutl 3 (.t 22) (some (.t 23)) none), oo 25 (.bslice 53 1 [(.t 17), (.t 20), (.t 24)]), cc 26 216 [(.t 25)], oo 27 (.build [(.slice true [] [])] [(0, 1, (.t 26))]), oz (.store 1 (.t 4) (.t 27))] [(5, 1), (5, 8), (6, 1), (6, 8)]) .ret)))
theorem fn115 : Fn Tryz.prog 115 28 dc115 [.cell (some 1) 4] := Ao Tryz.func115
def dc94 : DC := (sr [oo 1 (.box (.t 0)), oo 2 (.alloc [(.str []), (.str []), (.slice true [] [])])] (sr [ff 3 2 1, ll 4 3, cc 5 197 [(.t 4)], ff 6 2 1, oz (.store 1 (.t 6) (.t 5))] (sr [lk 7 3 1, oz (.store 3 (.t 2) (.t 7))] .ret)))
theorem fn94 : Fn Tryz.prog 94 8 dc94 [.cell (some 3) 2] := Ao Tryz.func94
def dc197 : DC := (sr [oo 2 (.mv (.c (.slice true [] [])))] (.seq (sr [mm 3 0, oo 4 (.nileq false 0 (.t 3) (.c (.slice true [] [])))] (cd 4 (sr [oo 2 (.mv (.c (.slice true [] [])))] .ret) .skip)) (sr [oo 5 (.bslice 209 2 []), mm 6 0, oo 7 (.app 209 2 24 (.t 5) (.t 6)), mm 2 7] .ret)))
theorem fn197 : Fn Tryz.prog 197 8 dc197 [.t 2] := Ao Tryz.func197
def dc216l0 : DC := (sr [bt 12 .lss 11 10] (.seq (cd 12 .skip (.exit 0)) (.seq (.block 1 (sr [ii 13 1 9 11, ll 14 13, mm 5 14] (sr [mm 15 3, mm 16 5, nn 17 false 16, bt 18 .add 15 17, mm 3 18] (sr [mm 19 3, bi 20 .lss 19 0] (cd 20 (.row [oo 21 (.mkif 9 (.c (.str [108, 101, 110, 32, 111, 117, 116, 32, 111, 102, 32, 114, 97, 110, 103, 101]))), oz (.stop)]) .skip))))) (.row [bi 22 .add 11 1, mm 11 22]))))
def dc216l1 : DC := (sr [bt 28 .lss 27 26] (.seq (cd 28 .skip (.exit 2)) (.seq (.block 3 (sr [ii 29 1 25 27, ll 30 29, mm 8 30] (.row [mm 31 6, mm 32 8, oo 33 (.app 97 3 56 (.t 31) (.t 32)), mm 6 33]))) (.row [bi 34 .add 27 1, mm 27 34]))))
def dc216 : DC := (sr [oo 2 (.mv (.c (.slice true [] [])))] (sr [ci 3 0] (.seq (sr [mm 9 0, nn 10 false 9, ci 11 0] (.block 0 (.loop dc216l0))) (sr [mm 23 3, cc 24 315 [(.c (.slice true [] [])), (.t 23)], mm 6 24] (.seq (sr [mm 25 0, nn 26 false 25, ci 27 0] (.block 2 (.loop dc216l1))) (sr [mm 35 6, mm 2 35] .ret))))))
theorem fn216 : Fn Tryz.prog 216 36 dc216 [.t 2] := Ao Tryz.func216
def dc50 : DC := (sr [oo 2 (.box (.t 0)), oo 3 (.box (.t 1)), oo 4 (.alloc [(.slice true [] [])]), ci 5 0] (.seq (sr [lk 11 3 3, cc 12 113 [(.t 11)], mm 6 12] (sr [mm 13 6, bi 14 .neq 13 0] (cd 14 (sr [lk 15 1 2, mm 16 6, oz (.store 1 (.t 4) (.t 15)), mm 5 16] .ret) .skip))) (.seq (sr [ff 17 1 3, ll 18 17, oo 19 (.bin .eql (.t 18) (.c (.str [])))] (cd 19 (sr [lk 20 1 2, oz (.store 1 (.t 4) (.t 20)), ci 5 2] .ret) .skip)) (.seq (sr [lk 22 1 2, ff 23 0 3, ll 24 23, cc 25 93 [(.t 22), (.t 24)], mm 21 25, xx 26 0 21, xx 27 1 21, mm 7 26, mm 8 27] (sr [mm 28 8] (cd 28 (sr [lk 29 1 2, oz (.store 1 (.t 4) (.t 29)), ci 5 20] .ret) .skip))) (sr [lk 31 1 2, ff 32 1 3, ll 33 32, cc 34 93 [(.t 31), (.t 33)], mm 30 34, xx 35 0 30, xx 36 1 30, mm 9 35, mm 10 36] (.seq (sr [mm 37 10, oo 38 (.un .not (.t 37))] (cd 38 (sr [lk 39 1 2, oz (.store 1 (.t 4) (.t 39)), ci 5 6] .ret) .skip)) (.seq (.seq (.drawn [ff 40 2 3, ll 41 40, ff 42 0 2, ll 43 42, mm 44 9, ii 45 3 43 44, ff 46 2 45, ll 47 46, cc 48 114 [(.t 41), (.t 47)], oo 49 (.un .not (.t 48))] []) (cd 49 (sr [lk 50 1 2, oz (.store 1 (.t 4) (.t 50)), ci 5 13] .ret) .skip)) (sr [lk 51 1 2, lk 52 3 3, cc 53 115 [(.t 51), (.t 52)], oz (.store 1 (.t 4) (.t 53)), ci 5 0] .ret))))))))
theorem fn50 : Fn Tryz.prog 50 54 dc50 [.cell (some 1) 4, .t 5] := Ao Tryz.func50
def dc35 : DC := (sr [oo 2 (.box (.t 0)), oo 4 (.alloc [(.str []), (.str []), (.slice true [] [])]), cb 5 false] (sr [lk 9 1 2, mm 10 1, cc 11 93 [(.t 9), (.t 10)], mm 8 11, xx 12 0 8, xx 13 1 8, mm 6 12, mm 7 13] (.seq (sr [mm 14 7, oo 15 (.un .not (.t 14))] (cd 15 (sr [oo 16 (.build [(.str []), (.str []), (.slice true [] [])] []), oz (.store 3 (.t 4) (.t 16)), cb 5 false] .ret) .skip)) (sr [ff 17 0 2, ll 18 17, mm 19 6, ii 20 3 18 19, lk 21 3 20, cc 22 94 [(.t 21)], oz (.store 3 (.t 4) (.t 22)), cb 5 true] .ret))))
theorem fn35 : Fn Tryz.prog 35 23 dc35 [.cell (some 3) 4, .t 5] := Ao Tryz.func35
def dc36 : DC := (sr [oo 3 (.box (.t 0)), oo 6 (.mv (.c (.int .u8 0)))] (sr [lk 10 1 3, mm 11 1, cc 12 93 [(.t 10), (.t 11)], mm 9 12, xx 13 0 9, xx 14 1 9, mm 7 13, mm 8 14] (.seq (sr [mm 15 8, oo 16 (.un .not (.t 15))] (cd 16 (sr [oo 6 (.mv (.c (.int .u8 0)))] .ret) .skip)) (sr [ff 17 0 3, ll 18 17, mm 19 7, ii 20 3 18 19, ff 21 2 20, ll 22 21, mm 23 2, cc 24 95 [(.t 22), (.t 23)], mm 6 24] .ret))))
theorem fn36 : Fn Tryz.prog 36 25 dc36 [.t 6] := Ao Tryz.func36
def dc129l0 : DC := (sr [bt 10 .lss 9 8] (.seq (cd 10 .skip (.exit 0)) (.seq (.block 1 (sr [ii 11 3 7 9, lk 12 3 11, oo 5 (.alloc [(.str []), (.str []), (.slice true [] [])]), oz (.store 3 (.t 5) (.t 12))] (.row [mm 13 3, ff 14 0 5, ll 15 14, oo 16 (.bslice 9 1 [(.t 15)]), oo 17 (.app 9 1 16 (.t 13) (.t 16)), mm 3 17]))) (.row [bi 18 .add 9 1, mm 9 18]))))
def dc129 : DC := (sr [oo 1 (.box (.t 0)), oo 2 (.mv (.c (.slice true [] [])))] (sr [oo 3 (.mv (.c (.slice true [] [])))] (.seq (sr [ff 6 0 1, ll 7 6, nn 8 false 7, ci 9 0] (.block 0 (.loop dc129l0))) (sr [mm 19 3, mm 2 19] .ret))))
theorem fn129 : Fn Tryz.prog 129 20 dc129 [.t 2] := Ao Tryz.func129
end Go.Vd
namespace Go.Vd
open Go.Proofs Go.RowKit
theorem v_slss {a b : Bs} : A4 .lss (.str a) (.str b) = some (.bool (Op.bytesLess a b)) := by simp [A4]
theorem v_sgtr {a b : Bs} : A4 .gtr (.str a) (.str b) = some (.bool (!(Op.bytesLess a b || a == b))) := by simp [A4]
def Ep (a b : Bs) : Int := if Op.bytesLess a b = true then -1 else if a = b then 0 else 1
def F210 : List D → Option D
 | [.str s] => some (.bool false)
 | _ => none
theorem ok210 : (Ai F210).ok Tryz.prog 210 := by
 refine As (S := fun _ => none) Au fn210 (fun ds r h => ?_) (fun ds r h => ?_)
 ·unfold F210 at h; split at h
  ·simp
  ·cases h
 ·unfold F210 at h; split at h
  ·rename_i s
   simp only [Option.some.injEq] at h
   subst h
   unfold dc210
   simp only [↓go1, go2, go3, go4, reduceIte, Nat.reduceEqDiff, Nat.reduceAdd, and_self]
  ·cases h
def F109 : List D → Option D
 | [.str a, .str b] => some (.int .i64 (Ep a b))
 | _ => none
theorem ok109 : (Ai F109).ok Tryz.prog 109 := by
 obtain ⟨S, hS, hl⟩ := AJ (Ab ok210 Ae)
 have s210 := hl 210 _ rfl
 clear hl
 refine As (S := S) hS fn109 (fun ds r h => ?_) (fun ds r h => ?_)
 ·unfold F109 at h; split at h
  ·simp
  ·cases h
 ·unfold F109 at h; split at h
  ·rename_i a b
   simp only [Option.some.injEq] at h
   subst h
   unfold dc109
   have h210 : ∀ s, F210 [.str s] = some (.bool false) := fun _ => rfl
   unfold Ep
   cases hl : Op.bytesLess a b with
   | true => simp only [↓go1, go2, go3, go4, reduceIte, Nat.reduceEqDiff, Nat.reduceAdd, and_self, Aa s210, h210, v_slss, hl]
   | false =>
    by_cases he : a = b
    ·subst he
     have he' : (a == a) = true := by simp
     simp only [↓go1, go2, go3, go4, reduceIte, Nat.reduceEqDiff, Nat.reduceAdd, and_self, Aa s210, h210, v_slss, v_sgtr, hl, he', Bool.false_or]
    ·have he' : (a == b) = false := by simpa using he
     simp only [↓go1, go2, go3, go4, reduceIte, Nat.reduceEqDiff, Nat.reduceAdd, and_self, Aa s210, h210, v_slss, v_sgtr, hl, he', he, Bool.or_false]
  ·cases h
def F108 : List D → Option D
 | [.agg [.str p, .int .i64 q, .bool b], .agg [.str p2, .int .i64 q2, .bool b2]] => some (.int .i64 (Ep p p2))
 | _ => none
theorem ok108 : (Ai F108).ok Tryz.prog 108 := by
 obtain ⟨S, hS, hl⟩ := AJ (Ab ok109 Ae)
 have s109 := hl 109 _ rfl
 clear hl
 refine As (S := S) hS fn108 (fun ds r h => ?_) (fun ds r h => ?_)
 ·unfold F108 at h; split at h
  ·simp
  ·cases h
 ·unfold F108 at h; split at h
  ·rename_i p q b p2 q2 b2
   simp only [Option.some.injEq] at h
   subst h
   unfold dc108
   have h109 : ∀ a b, F109 [.str a, .str b] = some (.int .i64 (Ep a b)) := fun _ _ => rfl
   simp only [↓go1, gB1, reduceIte, Nat.reduceEqDiff, Nat.reduceAdd, Ac, Nat.zero_le, Nat.reduceLT, Nat.sub_zero, List.getElem?_cons_zero, and_self, List.cons.injEq, Nat.zero_ne_one, Nat.one_ne_zero, Aa s109, h109]
  ·cases h
def F196 : List D → Option D
 | [.agg [.str n, .str p, .slice nl t xs], .str s] => some (.int .i64 (Ep n s))
 | _ => none
theorem ok196 : (Ai F196).ok Tryz.prog 196 := by
 obtain ⟨S, hS, hl⟩ := AJ (Ab ok109 Ae)
 have s109 := hl 109 _ rfl
 clear hl
 refine As (S := S) hS fn196 (fun ds r h => ?_) (fun ds r h => ?_)
 ·unfold F196 at h; split at h
  ·simp
  ·cases h
 ·unfold F196 at h; split at h
  ·rename_i n p nl t xs s
   simp only [Option.some.injEq] at h
   subst h
   unfold dc196
   have h109 : ∀ a b, F109 [.str a, .str b] = some (.int .i64 (Ep a b)) := fun _ _ => rfl
   simp only [↓go1, gB1, reduceIte, Nat.reduceEqDiff, Nat.reduceAdd, Ac, Nat.zero_le, Nat.reduceLT, Nat.sub_zero, List.getElem?_cons_zero, and_self, Aa s109, h109]
  ·cases h
abbrev Tk := Bs × Bs × Bool × List Rl
def tkD (k : Tk) : D := .agg [.str k.1, .str k.2.1, .slice k.2.2.1 [] (Aj k.2.2.2)]
def AC (l : List Tk) : List D := l.map tkD
def tkT : D → Tk
 | .agg [.str n, .str p, .slice nl _ xs] => (n, p, nl, A0 xs)
 | _ => ([], [], true, [])
def BD (xs : List D) : List Tk := xs.map tkT
theorem A5 (l : List Tk) : BD (AC l) = l := by
 simp only [BD, AC, List.map_map]
 conv => rhs; rw [← List.map_id l]
 exact List.map_congr_left fun r _ => by simp only [Function.comp, tkD, tkT, AN, id]
theorem AI (l : List Tk) : (AC l).length = l.length := List.length_map ..
def AO (l : List Tk) (j : Nat) : Tk := l.getD j ([], [], true, [])
theorem CC {l : List Tk} {j : Nat} (h : j < l.length) : (AC l)[j]? = some (tkD (AO l j)) := by
 simp [AC, AO, List.getElem?_eq_getElem h]
def bsR (l : List Tk) (s : Bs) : Nat → Nat → Nat → Nat
 | 0, lo, _ => lo
 | f + 1, lo, hi => if lo < hi then (if Ep (AO l ((lo + hi) / 2)).1 s < 0 then bsR l s f ((lo + hi) / 2 + 1) hi else bsR l s f lo ((lo + hi) / 2)) else lo
def bsE (l : List Tk) (s : Bs) : Nat := bsR l s l.length 0 l.length
def A9 (l : List Tk) (s : Bs) : Bool := decide (bsE l s < l.length) && decide (Ep (AO l (bsE l s)).1 s = 0)
theorem bs_mid {lo hi : Nat} (h : lo + hi < 1000000000) : IntKind.i64.wrap ((IntKind.u64.wrap (IntKind.i64.wrap ((lo : Int) + (hi : Int)))).fdiv (2 ^ min (1 : Int).toNat IntKind.u64.bits)) = (((lo + hi) / 2 : Nat) : Int) := by
 have h1 : IntKind.i64.wrap ((lo : Int) + (hi : Int)) = ((lo + hi : Nat) : Int) := by rw [w64 (by omega) (by omega)]; omega
 have h2 : IntKind.u64.wrap ((lo + hi : Nat) : Int) = ((lo + hi : Nat) : Int) := by
  simp only [IntKind.wrap, IntKind.signed, IntKind.bits, Bool.false_and, Bool.false_eq_true, if_false]
  omega
 have h3 : (((lo + hi : Nat) : Int)).fdiv (2 ^ min (1 : Int).toNat IntKind.u64.bits) = (((lo + hi) / 2 : Nat) : Int) := by
  rw [show (2 : Int) ^ min (1 : Int).toNat IntKind.u64.bits = 2 from rfl, Int.fdiv_eq_ediv_of_nonneg _ (by omega)]; omega
 rw [h1, h2, h3, w64 (by omega) (by omega)]
theorem loop195 {S : Summs} {ns : Id} {l : List Tk} {nl : Bool} {t : Id} {s : Bs} {Q : Ex → St → Prop} {e : Nat} (s196 : S 196 = some (Ai F196)) (hb : l.length ≤ 1000000)
  (hexit : ∀ st, st.s 0 = .slice nl t (AC l) → st.s 1 = .str s → st.s 2 = .fn 196 [] → st.s 8 = .int .i64 (l.length : Int) → st.s 9 = .int .i64 (e : Int) → Q (.exit 0) st) :
  ∀ (f lo hi : Nat) st g, hi ≤ lo + f → hi ≤ l.length → bsR l s f lo hi = e → st.s 0 = .slice nl t (AC l) → st.s 1 = .str s → st.s 2 = .fn 196 [] → st.s 8 = .int .i64 (l.length : Int) → st.s 9 = .int .i64 (lo : Int) → st.s 10 = .int .i64 (hi : Int) → AV S ns dc195l0 Q st g := by
 intro f
 induction f with
 | zero =>
  intro lo hi st g hf hh he h0 h1 h2 h8 h9 h10
  refine Ad dc195l0.eq_1 ?_
  have : ¬ ((lo : Int) < hi) := by omega
  simp only [↓go1, go2, go4, reduceIte, Nat.reduceEqDiff, Nat.reduceAdd, h9, h10, this]
  exact hexit _ h0 h1 h2 h8 (by rw [← he]; exact h9)
 | succ f ih =>
  intro lo hi st g hf hh he h0 h1 h2 h8 h9 h10
  refine Ad dc195l0.eq_1 ?_
  unfold bsR at he
  by_cases hlt : lo < hi
  ·rw [if_pos hlt] at he
   have hlt' : ((lo : Int) < hi) := by omega
   have hmid := bs_mid (lo := lo) (hi := hi) (by omega)
   have hml : (lo + hi) / 2 < hi := by omega
   have hlm : lo ≤ (lo + hi) / 2 := by omega
   generalize (lo + hi) / 2 = mid at he hmid hml hlm
   have hm0 : (0 : Int) ≤ (mid : Int) := by omega
   have one0 : (0 : Int) ≤ 1 := by omega
   have hw : IntKind.i64.wrap ((mid : Int) + 1) = ((mid + 1 : Nat) : Int) := w64 (by omega) (by omega)
   have hat := CC (l := l) (j := mid) (by omega)
   generalize AO l mid = k at hat he
   obtain ⟨n, p, knl, rs⟩ := k
   replace hat : (AC l)[mid]? = some (.agg [.str n, .str p, .slice knl [] (Aj rs)]) := hat
   have h196 : F196 [.agg [.str n, .str p, .slice knl [] (Aj rs)], .str s] = some (.int .i64 (Ep n s)) := rfl
   simp only at he
   generalize Ep n s = c at he h196
   obtain ⟨st_s, st_m, st_c⟩ := st
   simp only at h0 h1 h2 h8 h9 h10
   by_cases hc : c < 0
   ·rw [if_pos hc] at he
    simp only [↓go1, gB1, reduceIte, Nat.reduceEqDiff, Nat.reduceAdd, h0, h1, h2, h9, h10, hlt', hmid, hm0, one0, hw, hat, hc, Int.toNat_natCast, Aa s196, h196, Nat.reduceLeDiff, List.take_succ_cons, List.take_zero]
    exact ih (mid + 1) hi _ _ (by omega) hh he h0 h1 h2 h8 rfl h10
   ·rw [if_neg hc] at he
    simp only [↓go1, gB1, reduceIte, Nat.reduceEqDiff, Nat.reduceAdd, h0, h1, h2, h9, h10, hlt', hmid, hm0, one0, hat, hc, Int.toNat_natCast, Aa s196, h196, Nat.reduceLeDiff, List.take_succ_cons, List.take_zero]
    exact ih lo mid _ _ (by omega) (by omega) he h0 h1 h2 h8 h9 rfl
  ·rw [if_neg hlt] at he
   have hlt' : ¬ ((lo : Int) < hi) := by omega
   simp only [↓go1, go2, go4, reduceIte, Nat.reduceEqDiff, Nat.reduceAdd, h9, h10, hlt']
   exact hexit _ h0 h1 h2 h8 (by rw [← he]; exact h9)
theorem bsR_le (l : List Tk) (s : Bs) : ∀ (f lo hi : Nat), lo ≤ hi → bsR l s f lo hi ≤ hi
 | 0, lo, hi, h => by simpa [bsR] using h
 | f + 1, lo, hi, h => by
  unfold bsR
  split
  ·split
   ·exact bsR_le l s f _ _ (by omega)
   ·exact Nat.le_trans (bsR_le l s f _ _ (by omega)) (by omega)
  ·exact h
open Classical in
noncomputable def F195 : List D → Option D
 | [.slice _ _ xs, .str s, .fn 196 []] => if xs = AC (BD xs) ∧ xs.length ≤ 1000000 then some (.tup [.int .i64 (bsE (BD xs) s : Int), .bool (A9 (BD xs) s)]) else none
 | _ => none
open Classical in
theorem F195_eq {nl : Bool} {t : Id} {l : List Tk} {s : Bs} (hl : l.length ≤ 1000000) : F195 [.slice nl t (AC l), .str s, .fn 196 []] = some (.tup [.int .i64 (bsE l s : Int), .bool (A9 l s)]) := by
 have h : AC l = AC (BD (AC l)) ∧ (AC l).length ≤ 1000000 := by rw [A5, AI]; exact ⟨rfl, hl⟩
 show (if _ then _ else _) = _
 rw [if_pos h, A5]
theorem ok195 : (Ai F195).ok Tryz.prog 195 := by
 obtain ⟨S, hS, hl⟩ := AJ (Ab ok196 Ae)
 have s196 := hl 196 _ rfl
 clear hl
 refine As (S := S) hS fn195 (fun ds r h => ?_) (fun ds r h => ?_)
 ·unfold F195 at h; split at h
  ·simp
  ·cases h
 ·unfold F195 at h; split at h
  ·rename_i nl t xs s
   split at h
   ·rename_i hc
    obtain ⟨hx, hl⟩ := hc
    simp only [Option.some.injEq] at h
    subst h
    generalize BD xs = l at hx
    subst hx
    rw [AI] at hl
    have hle : bsE l s ≤ l.length := bsR_le l s _ _ _ (by omega)
    unfold dc195
    simp only [↓go1, go2, reduceIte, Nat.reduceEqDiff, Nat.reduceAdd, AI]
    refine loop195 (l := l) (nl := nl) (t := t) (s := s) (e := bsE l s) s196 hl (fun st h0 h1 h2 h8 h9 => ?_) l.length 0 l.length _ _ (by omega) (by omega) rfl rfl rfl rfl rfl rfl rfl
    unfold A9
    generalize bsE l s = i at h9 hle
    by_cases hi : i < l.length
    ·have hi' : ((i : Int) < l.length) := by omega
     have hi0 : (0 : Int) ≤ (i : Int) := by omega
     have hat := CC (l := l) (j := i) hi
     generalize AO l i = k at hat
     obtain ⟨n, p, knl, rs⟩ := k
     replace hat : (AC l)[i]? = some (.agg [.str n, .str p, .slice knl [] (Aj rs)]) := hat
     have h196 : F196 [.agg [.str n, .str p, .slice knl [] (Aj rs)], .str s] = some (.int .i64 (Ep n s)) := rfl
     simp only [↓go1, gB1, reduceIte, Nat.reduceEqDiff, Nat.reduceAdd, h0, h1, h2, h8, h9, hi', hi0, hat, Int.toNat_natCast, Aa s196, h196, Nat.reduceLeDiff, List.take_succ_cons, List.take_zero]
     simp [hi]
    ·have hi' : ¬ ((i : Int) < l.length) := by omega
     simp only [↓go1, go2, go3, go4, reduceIte, Nat.reduceEqDiff, Nat.reduceAdd, h8, h9, hi']
     simp [hi]
   ·cases h
  ·cases h
theorem tksD_un (l : List Tk) : (AC l).map D.un = AC l := by rw [AC, List.map_map]; exact List.map_congr_left fun _ _ => rfl
theorem tksD_head (l : List Tk) : D.headSz (AC l) 3 = 3 := by cases l <;> rfl
def Df (xs : List D) : Prop := xs = AC (BD xs) ∧ xs.length ≤ 1000000
theorem CX {l : List Tk} (hl : l.length ≤ 1000000) : Df (AC l) := ⟨by rw [A5], by rw [AI]; exact hl⟩
theorem CO {xs : List D} (h : Df xs) : ∃ l : List Tk, xs = AC l ∧ l.length ≤ 1000000 ∧ BD xs = l := by
 refine ⟨BD xs, h.1, ?_, rfl⟩
 have := h.2; rw [h.1, AI] at this; exact this
open Classical in
noncomputable def F93 : List D → Option D
 | [.agg [.slice _ _ xs], .str s] => if Df xs then some (.tup [.int .i64 (bsE (BD xs) s : Int), .bool (A9 (BD xs) s)]) else none
 | _ => none
open Classical in
theorem F93_eq {nl : Bool} {t : Id} {l : List Tk} {s : Bs} (hl : l.length ≤ 1000000) : F93 [.agg [.slice nl t (AC l)], .str s] = some (.tup [.int .i64 (bsE l s : Int), .bool (A9 l s)]) := by
 show (if _ then _ else _) = _
 rw [if_pos (CX hl), A5]
theorem ok93 : (Ai F93).ok Tryz.prog 93 := by
 obtain ⟨S, hS, hl⟩ := AJ (Ab ok195 Ae)
 have s195 := hl 195 _ rfl
 clear hl
 refine As (S := S) hS fn93 (fun ds r h => ?_) (fun ds r h => ?_)
 ·unfold F93 at h; split at h
  ·simp
  ·cases h
 ·unfold F93 at h; split at h
  ·rename_i nl t xs s
   split at h
   ·rename_i hc
    obtain ⟨l, rfl, hl, e⟩ := CO hc
    simp only [Option.some.injEq] at h
    subst h
    rw [e]
    have h195 := F195_eq (nl := nl) (t := []) (s := s) hl
    unfold dc93
    simp only [↓go1, gB0, reduceIte, Nat.reduceEqDiff, Nat.reduceAdd, Ac, Nat.reduceLT, Aa s195, h195]
   ·cases h
  ·cases h
open Classical in
noncomputable def F36 : List D → Option D
 | [.agg [.slice _ _ xs], .str s, .str p] => if Df xs ∧ ∀ k ∈ BD xs, k.2.2.2.length ≤ 1000000 then some (.int .u8 (if A9 (BD xs) s = true then BQ (AO (BD xs) (bsE (BD xs) s)).2.2.2 p else 0)) else none
 | _ => none
theorem ok36 : (Ai F36).ok Tryz.prog 36 := by
 obtain ⟨S, hS, hl⟩ := AJ (Ab ok93 (Ab ok95 Ae))
 have s93 := hl 93 _ rfl
 have s95 := hl 95 _ rfl
 clear hl
 refine As (S := S) hS fn36 (fun ds r h => ?_) (fun ds r h => ?_)
 ·unfold F36 at h; split at h
  ·simp
  ·cases h
 ·unfold F36 at h; split at h
  ·rename_i nl t xs s p
   split at h
   ·rename_i hc
    obtain ⟨hc, hk⟩ := hc
    obtain ⟨l, rfl, hl, e⟩ := CO hc
    rw [e] at hk h
    simp only [Option.some.injEq] at h
    subst h
    have h93 := F93_eq (nl := nl) (t := []) (s := s) hl
    have hu := tksD_un l
    unfold dc36
    cases hf : A9 l s with
    | false => simp only [↓go1, gB0, reduceIte, Nat.reduceEqDiff, Nat.reduceAdd, Ac, Ag, Ah, Nat.reduceLT, Option.bind_some, Aa s93, h93, hf]
    | true =>
     have hi : bsE l s < l.length := by
      unfold A9 at hf
      rw [Bool.and_eq_true, decide_eq_true_iff] at hf
      exact hf.1
     rw [hf] at h93
     generalize bsE l s = i at h93 hi
     have hi0 : (0 : Int) ≤ (i : Int) := by omega
     have hat := CC (l := l) (j := i) hi
     have hm : AO l i ∈ l := by simp [AO, List.getElem?_eq_getElem hi]
     have hlk := hk _ hm
     generalize AO l i = k at hat hlk
     obtain ⟨n, q, knl, rs⟩ := k
     replace hat : (AC l)[i]? = some (.agg [.str n, .str q, .slice knl [] (Aj rs)]) := hat
     have h95 := F95_eq (nl := knl) (t := []) (s := p) hlk
     simp only [↓go1, gB0, reduceIte, Nat.reduceEqDiff, Nat.reduceAdd, Ac, Ag, Ah, Nat.reduceLT, Nat.reduceLeDiff, Option.bind_some, List.drop_zero, List.drop_succ_cons, List.head?_cons, Aa s93, h93, Aa s95, h95, hi0, hat, Int.toNat_natCast]
   ·cases h
  ·cases h
def tokE (n p : Bs) (l : List Rl) : Int := if BF n = false then 2 else if Cm l ≠ 0 then Cm l else if p = [] ∧ n = [114, 111, 111, 116] then 0 else if BF p = true ∧ p ≠ n then 0 else 2
open Classical in
noncomputable def F113 : List D → Option D
 | [.agg [.str n, .str p, .slice _ _ xs]] => if (xs = Aj (A0 xs) ∧ xs.length ≤ 1000000 ∧ Bu (A0 xs)) ∧ n.length ≤ 1000000 ∧ p.length ≤ 1000000 then some (.int .i64 (tokE n p (A0 xs))) else none
 | _ => none
open Classical in
theorem F113_eq {n p : Bs} {nl : Bool} {t : Id} {l : List Rl} (hl : l.length ≤ 1000000) (hp : Bu l) (h1 : n.length ≤ 1000000) (h2 : p.length ≤ 1000000) : F113 [.agg [.str n, .str p, .slice nl t (Aj l)]] = some (.int .i64 (tokE n p l)) := by
 have h : (Aj l = Aj (A0 (Aj l)) ∧ (Aj l).length ≤ 1000000 ∧ Bu (A0 (Aj l))) ∧ n.length ≤ 1000000 ∧ p.length ≤ 1000000 := by rw [AN, An]; exact ⟨⟨rfl, hl, hp⟩, h1, h2⟩
 show (if _ then _ else _) = _
 rw [if_pos h, AN]
theorem ok113 : (Ai F113).ok Tryz.prog 113 := by
 obtain ⟨S, hS, hl⟩ := AJ (Ab ok213 (Ab ok214 Ae))
 have s213 := hl 213 _ rfl
 have s214 := hl 214 _ rfl
 clear hl
 refine As (S := S) hS fn113 (fun ds r h => ?_) (fun ds r h => ?_)
 ·unfold F113 at h; split at h
  ·simp
  ·cases h
 ·unfold F113 at h; split at h
  ·rename_i n p nl t xs
   split at h
   ·rename_i hc
    obtain ⟨⟨hx, hl, hp⟩, hn, hpp⟩ := hc
    simp only [Option.some.injEq] at h
    subst h
    generalize A0 xs = l at hx hp
    subst hx
    rw [An] at hl
    have h213n : F213 [.str n] = some (.bool (BF n)) := if_pos hn
    have h213p : F213 [.str p] = some (.bool (BF p)) := if_pos hpp
    have h214 := Fpol_eq (nl := nl) (t := []) hl hp
    have hu := DL l
    have hcl := Cw l
    unfold dc113 tokE
    generalize Cm l = e at *
    generalize BF p = bp at *
    generalize BF n = bn at *
    cases bn with
    | false => simp only [↓go1, gB1, reduceIte, Nat.reduceEqDiff, Nat.reduceAdd, Ac, Nat.zero_le, Nat.reduceLT, Nat.sub_zero, List.getElem?_cons_zero, and_self, Aa s213, h213n]
    | true =>
     simp only [↓go1, gB0, reduceIte, Nat.reduceEqDiff, Nat.reduceAdd, Ac, Nat.reduceLT, Aa s213, h213n, Aa s214, h214]
     repeat' (first | (refine ifQ.intro (fun h => ?_) (fun h => ?_) <;> try (exfalso; omega)) | (simp only [↓go1, gB0, reduceIte, Nat.reduceEqDiff, Nat.reduceAdd, h, Ac, Nat.reduceLT, false_and, Aa s213, h213p]))
     all_goals (try simp_all)
   ·cases h
  ·cases h
theorem A3 {s : Nat → D} {m : Mem} {k : Option Nat} {a b : Nat} : BX [.cell k a, .t b] s m = (ldD m k (s a)).map fun d => .tup [d, s b] := by
 simp only [BX, rvAll, RV.of]
 cases ldD m k (s a) <;> rfl
theorem bne_tf : (true != false) = true := rfl
theorem bne_ff : (false != false) = false := rfl
def rlsOk (nl : Bool) (xs : List D) : Prop := xs = Aj (A0 xs) ∧ xs.length ≤ 1000000 ∧ (nl = true → xs = [])
theorem rlsOk_mk {nl : Bool} {l : List Rl} (hl : l.length ≤ 1000000) (hn : nl = true → l = []) : rlsOk nl (Aj l) := ⟨by rw [AN], by rw [An]; exact hl, fun h => by rw [hn h]; rfl⟩
theorem Ef {nl : Bool} {xs : List D} (h : rlsOk nl xs) : ∃ l : List Rl, xs = Aj l ∧ l.length ≤ 1000000 ∧ (nl = true → l = []) ∧ A0 xs = l := by
 refine ⟨A0 xs, h.1, ?_, fun hn => ?_, rfl⟩
 ·have := h.2.1; rw [h.1, An] at this; exact this
 ·rw [h.2.2 hn]; rfl
open Classical in
noncomputable def F197 : List D → Option D
 | [.slice nl _ xs] => if rlsOk nl xs then some (.slice nl [] xs) else none
 | _ => none
open Classical in
theorem F197_eq {nl : Bool} {t : Id} {l : List Rl} (hl : l.length ≤ 1000000) (hn : nl = true → l = []) : F197 [.slice nl t (Aj l)] = some (.slice nl [] (Aj l)) := by
 show (if _ then _ else _) = _
 rw [if_pos (rlsOk_mk hl hn)]
theorem ok197 : (Ai F197).ok Tryz.prog 197 := by
 refine As (S := fun _ => none) Au fn197 (fun ds r h => ?_) (fun ds r h => ?_)
 ·unfold F197 at h; split at h
  ·simp
  ·cases h
 ·unfold F197 at h; split at h
  ·rename_i nl t xs
   split at h
   ·rename_i hc
    obtain ⟨l, rfl, hl, hn, e⟩ := Ef hc
    simp only [Option.some.injEq] at h
    subst h
    have n1 : (Aj l).length * 25 ≤ 140737488355328 := by rw [An]; omega
    unfold dc197
    cases nl with
    | true =>
     have := hn rfl
     subst this
     simp only [↓go1, go2, go3, go4, reduceIte, Nat.reduceEqDiff, Nat.reduceAdd, bne_tf, reduceCtorEq, nilEq]
     rfl
    | false => simp only [↓go1, gB1, reduceIte, Nat.reduceEqDiff, Nat.reduceAdd, Ac, Nat.zero_le, Nat.reduceLT, Nat.sub_zero, List.getElem?_cons_zero, and_self, false_and, bne_ff, n1, DA, C_, rlsD_head, false_or, List.nil_append, ne_eq, reduceCtorEq, List.map_nil, List.all_nil, nilEq]
   ·cases h
  ·cases h
open Classical in
noncomputable def F94 : List D → Option D
 | [.agg [.str n, .str p, .slice nl _ xs]] => if rlsOk nl xs then some (.agg [.str n, .str p, .slice nl [] xs]) else none
 | _ => none
open Classical in
theorem F94_eq {n p : Bs} {nl : Bool} {t : Id} {l : List Rl} (hl : l.length ≤ 1000000) (hn : nl = true → l = []) : F94 [.agg [.str n, .str p, .slice nl t (Aj l)]] = some (.agg [.str n, .str p, .slice nl [] (Aj l)]) := by
 show (if _ then _ else _) = _
 rw [if_pos (rlsOk_mk hl hn)]
theorem ok94 : (Ai F94).ok Tryz.prog 94 := by
 obtain ⟨S, hS, hl⟩ := AJ (Ab ok197 Ae)
 have s197 := hl 197 _ rfl
 clear hl
 refine As (S := S) hS fn94 (fun ds r h => ?_) (fun ds r h => ?_)
 ·unfold F94 at h; split at h
  ·simp
  ·cases h
 ·unfold F94 at h; split at h
  ·rename_i n p nl t xs
   split at h
   ·rename_i hc
    obtain ⟨l, rfl, hl, hn, e⟩ := Ef hc
    simp only [Option.some.injEq] at h
    subst h
    have h197 := F197_eq (t := []) hl hn
    unfold dc94
    simp only [↓go1, gB0, reduceIte, Nat.reduceEqDiff, Nat.reduceAdd, Ac, Ag, Ah, Nat.reduceLT, Nat.reduceLeDiff, Nat.reduceSub, Option.bind_some, Option.isSome_some, List.cons.injEq, Nat.zero_ne_one, and_false, Nat.succ_ne_zero, AR, AE, Aa s197, h197]
   ·cases h
  ·cases h
def tkOk (k : Tk) : Prop := k.2.2.2.length ≤ 1000000 ∧ (k.2.2.1 = true → k.2.2.2 = [])
open Classical in
noncomputable def F35 : List D → Option D
 | [.agg [.slice _ _ xs], .str s] => if Df xs ∧ ∀ k ∈ BD xs, tkOk k then some (.tup (if A9 (BD xs) s = true then [tkD (AO (BD xs) (bsE (BD xs) s)), .bool true] else [.agg [.str [], .str [], .slice true [] []], .bool false])) else none
 | _ => none
theorem ok35 : (Ai F35).ok Tryz.prog 35 := by
 obtain ⟨S, hS, hl⟩ := AJ (Ab ok93 (Ab ok94 Ae))
 have s93 := hl 93 _ rfl
 have s94 := hl 94 _ rfl
 clear hl
 refine As (S := S) hS fn35 (fun ds r h => ?_) (fun ds r h => ?_)
 ·unfold F35 at h; split at h
  ·simp
  ·cases h
 ·unfold F35 at h; split at h
  ·rename_i nl t xs s
   split at h
   ·rename_i hc
    obtain ⟨hc, hk⟩ := hc
    obtain ⟨l, rfl, hl, e⟩ := CO hc
    rw [e] at hk h
    simp only [Option.some.injEq] at h
    subst h
    have h93 := F93_eq (nl := nl) (t := []) (s := s) hl
    have hu := tksD_un l
    unfold dc35
    cases hf : A9 l s with
    | false => simp only [↓go1, gB0, reduceIte, Nat.reduceEqDiff, Nat.reduceAdd, Ac, Ag, Ah, Nat.reduceLT, Option.bind_some, Option.isSome_some, List.cons.injEq, Nat.zero_ne_one, and_false, Nat.succ_ne_zero, AE, A3, A2, Aa s93, h93, hf]
    | true =>
     have hi : bsE l s < l.length := by
      unfold A9 at hf
      rw [Bool.and_eq_true, decide_eq_true_iff] at hf
      exact hf.1
     rw [hf] at h93
     generalize bsE l s = i at h93 hi
     have hi0 : (0 : Int) ≤ (i : Int) := by omega
     have hat := CC (l := l) (j := i) hi
     have hm : AO l i ∈ l := by simp [AO, List.getElem?_eq_getElem hi]
     have hlk := hk _ hm
     generalize AO l i = k at hat hlk
     obtain ⟨n, q, knl, rs⟩ := k
     replace hat : (AC l)[i]? = some (.agg [.str n, .str q, .slice knl [] (Aj rs)]) := hat
     have h94 := F94_eq (n := n) (p := q) (t := []) hlk.1 hlk.2
     simp only [↓go1, gB0, reduceIte, Nat.reduceEqDiff, Nat.reduceAdd, Ac, Ag, Ah, Nat.reduceLT, Nat.reduceLeDiff, Option.bind_some, List.take_succ_cons, List.take_zero, Option.isSome_some, List.cons.injEq, Nat.zero_ne_one, and_false, Nat.succ_ne_zero, AE, A3, Aa s93, h93, Aa s94, h94, hi0, hat, Int.toNat_natCast, tkD]
   ·cases h
  ·cases h
end Go.Vd
namespace Go.Vd
open Go.Proofs
def dc106l0 : DC := (sr [bt 12 .lss 11 10] (.seq (cd 12 .skip (.exit 0)) (.seq (.block 1 (sr [ii 13 1 9 11, ll 14 13, mm 5 14] (sr [mm 15 3, mm 16 5, nn 17 false 16, bt 18 .add 15 17, mm 3 18] (sr [mm 19 3, bi 20 .lss 19 0] (cd 20 (.row [oo 21 (.mkif 9 (.c (.str [108, 101, 110, 32, 111, 117, 116, 32, 111, 102, 32, 114, 97, 110, 103, 101]))), oz (.stop)]) .skip))))) (.row [bi 22 .add 11 1, mm 11 22]))))
def dc106l1 : DC := (sr [bt 28 .lss 27 26] (.seq (cd 28 .skip (.exit 2)) (.seq (.block 3 (sr [ii 29 1 25 27, ll 30 29, mm 8 30] (.row [mm 31 6, mm 32 8, oo 33 (.app 124 3 32 (.t 31) (.t 32)), mm 6 33]))) (.row [bi 34 .add 27 1, mm 27 34]))))
def dc106 : DC := (sr [oo 2 (.mv (.c (.slice true [] [])))] (sr [ci 3 0] (.seq (sr [mm 9 0, nn 10 false 9, ci 11 0] (.block 0 (.loop dc106l0))) (sr [mm 23 3, cc 24 207 [(.c (.slice true [] [])), (.t 23)], mm 6 24] (.seq (sr [mm 25 0, nn 26 false 25, ci 27 0] (.block 2 (.loop dc106l1))) (sr [mm 35 6, mm 2 35] .ret))))))
theorem fn106 : Fn Tryz.prog 106 36 dc106 [.t 2] := Ao Tryz.func106
end Go.Vd
namespace Go.Vd
open Go.RowKit
def D.plain : D → Bool
 | .bool _ | .int _ _ | .str _ => true
 | _ => false
theorem Rep.plain {w w' : World} {g g' : Gh} {d : D} {v : Value} (h : Rep w g d v) (hp : d.plain = true) : Rep w' g' d v := by
 cases h with
 | bool b => exact .bool b
 | int k n => exact .int k n
 | str s => exact .str s
 | _ => cases hp
def ownS (F : List D → Option (List D)) : Summ where
 rd := fun _ _ => []
 ex := fun ds _ fr => if (ds.map D.un).all D.calm = true then (F (ds.map D.un)).map fun xs => (.row fr xs.length, [(fr, 0, flat xs)]) else none
section
variable {P : Program} {B : Nat} {w0 w w' : World} {m : Mem} {g : Gh}
theorem InvM.adopt (h : InvM P B w0 m w g) (hb : Below w.heap.size w w') {fr : Id} (hf : BB m g fr) {b : Nat} (hbw : w.heap.size ≤ b) {cur : Array Value} {T : TypeId} (hh : w'.heap[b]? = some (.cells cur T (0, 0))) {ds : List D}
  (hc : ∀ (j : Nat) d, ds[j]? = some d → d.plain = true ∧ ∃ v, cur[j]? = some v ∧ v.oneCell' = true ∧ Rep w' (g.obj fr b) d v) :
  InvM P B w0 (m.put fr 0 ds) w' (g.obj fr b) ∧ Ext w g w' (g.obj fr b) := by
 have x : Ext w g w' (g.obj fr b) := by
  refine ⟨fun p hp => ?_, fun b => Nat.le_refl _, fun i' b h => ?_, rfl, fun i x h => h⟩
  ·by_cases hlt : p.block < w.heap.size
   ·exact hb.cell hlt
   ·rw [h.gz _ (by omega)] at hp; omega
  ·simp only [Gh.obj]
   split
   ·rename_i e; subst e; rw [hf.2.1] at h; cases h
   ·exact h
 refine ⟨?_, x⟩
 have ne : ∀ i' b', g.dl i' = some b' → i' ≠ fr := fun i' b' hb e => by subst e; rw [hf.2.1] at hb; cases hb
 have hput : ∀ o d, m.put fr 0 ds fr o = some d → ds[o]? = some d := by
  intro o d hm
  by_cases ho : o < ds.length
  ·have hm' : m.put fr 0 ds fr (0 + o) = ds[o]? := Mem.put_same ho
   rw [Nat.zero_add] at hm'
   rw [← hm']; exact hm
  ·rw [Mem.put_out (by omega), hf.1 o] at hm; cases hm
 have hpl : ∀ {o d}, m.put fr 0 ds fr o = some d → d.plain = true := fun hm => (hc _ _ (hput _ _ hm)).1
 have oth : ∀ {i o d}, m.put fr 0 ds i o = some d → d.plain = false → i ≠ fr ∧ m i o = some d := by
  intro i o d hm hd
  by_cases e : i = fr
  ·subst e; rw [hpl hm] at hd; cases hd
  ·rw [Mem.put_other e] at hm; exact ⟨e, hm⟩
 refine ⟨h.below.trans (hb.mono h.size), Nat.le_trans h.size hb.size, fun b' hb' => h.gz b' (Nat.le_trans hb.size hb'), h.old, fun i' b' hi => ?_, fun i1 i2 b' h1 h2 => ?_, fun i' o d hm hd => ?_, fun i' e hi => ?_, fun i1 i2 e e' b' y y' h1 h2 h3 h4 => ?_, h.itr.to (fun i' s p e => (oth e rfl).2) fun i' b' s p _ _ _ e1 e2 e3 => ?_⟩
 rotate_right
 ·have hlt : b' < w.heap.size := (Array.getElem?_eq_some_iff.1 e1).1
  refine ⟨rfl, hb.block b' hlt, e2, fun i1 h1 => ?_⟩
  simp only [Gh.obj] at h1
  split at h1
  ·simp only [Option.some.injEq] at h1; omega
  ·exact e3 i1 h1
 ·simp only [Gh.obj] at hi
  split at hi
  ·rename_i e
   subst e
   simp only [Option.some.injEq] at hi
   subst hi
   refine ⟨Nat.le_trans h.size hbw, h.gz _ hbw, cur, T, hh, fun o d hm => ?_⟩
   exact (hc o d (hput o d hm)).2
  ·rename_i hne
   obtain ⟨p, q, vs', T', hh', r⟩ := h.obj i' b' hi
   refine ⟨p, q, vs', T', (hb.block b' (h.lt hi)).trans hh', fun o d hm => ?_⟩
   rw [Mem.put_other hne] at hm
   obtain ⟨v, r1, r2, r3⟩ := r o d hm
   exact ⟨v, r1, r2, r3.ext x⟩
 ·simp only [Gh.obj] at h1 h2
  split at h1 <;> split at h2
  ·simp_all
  ·simp only [Option.some.injEq] at h1; subst h1; have := h.lt h2; omega
  ·simp only [Option.some.injEq] at h2; subst h2; have := h.lt h1; omega
  ·exact h.inj _ _ _ h1 h2
 ·simp only [Gh.obj] at hd
  split at hd
  ·cases hd
  ·rename_i hne; rw [Mem.put_other hne] at hm; exact h.kind _ _ _ hm hd
 ·obtain ⟨hne, hi⟩ := oth hi rfl
  obtain ⟨b1, n, c, sz, cur', t1, t2, t3, t4, t5, t6, t7, t8, t9, t10⟩ := h.tok i' e hi
  have hlt : b1 < w.heap.size := (Array.getElem?_eq_some_iff.1 t5).1
  refine ⟨b1, n, c, sz, cur', t1, t2, t3, t4, (hb.block b1 hlt).trans t5, t6, t7, t8, t9, fun i1 h1 => ?_⟩
  simp only [Gh.obj] at h1
  split at h1
  ·simp only [Option.some.injEq] at h1; omega
  ·exact t10 i1 h1
 ·exact h.tinj _ _ _ _ _ _ _ (oth h1 rfl).2 (oth h2 rfl).2 h3 h4
end
section
variable {P : Program} {S : Summs} {f : FuncId} {N : Nat} {dc : DC} {rs : List RV}
theorem own_ok (hS : Summs.ok P S) (hf : Fn P f N dc rs) {F : List D → Option (List D)} (hN : ∀ ds r, F ds = some r → ds.length ≤ N)
  (hF : ∀ ds xs, F ds = some xs → (∀ x ∈ flat xs, x.plain = true) ∧ dc.wp S [] (De rs fun d m' => ∃ t e, d = .slice false t xs ∧ t ≠ [] ∧ m' t 0 = some (.tok (e + 1))) ⟨Bi ds, fun _ _ => none, 0⟩) : (ownS F).ok P f := by
 obtain ⟨fn, code, h1, h2, h3, h4, h5, h6⟩ := hf.is
 refine ⟨⟨fn, h1, by rw [h2]; rfl, h3⟩, fun ds m m' fr _ => rfl, ?_⟩
 intro B w0 w m g fr ds vs r u hi hfresh hl hrep hex
 simp only [ownS] at hex
 split at hex
 ·rename_i hcalm
  rw [Option.map_eq_some_iff] at hex
  obtain ⟨xs, hr, hex⟩ := hex
  simp only [Prod.mk.injEq] at hex
  obtain ⟨rfl, rfl⟩ := hex
  obtain ⟨hpl, hwp⟩ := hF _ _ hr
  have hi0 := start_inv P w hi.gz
  have hrep0 : ∀ (j : Nat) d v, (ds.map D.un)[j]? = some d → vs[j]? = some v → Rep w (Cr g.G) d v := by
   intro j d v hd hv
   have hc := List.all_eq_true.1 hcalm d (List.mem_of_getElem? hd)
   rw [List.getElem?_map, Option.map_eq_some_iff] at hd
   obtain ⟨d', hd', rfl⟩ := hd
   exact (hrep j d' v hd' hv).un.calm_to hc (fun _ _ => rfl) (fun _ => Nat.le_refl _)
  have hcalls := Es (B := w.heap.size) (w0 := w) (w := w) (g := Cr g.G) (ns := []) (m := fun _ _ => none) (ds := ds.map D.un) (vs := vs) hS hf (hN _ _ hr) hi0 (fun k i _ => ⟨fun _ => rfl, rfl, rfl⟩) (by simpa using hl) hrep0 hwp
  refine hcalls.mono ?_
  rintro e w' ⟨v, d, m', g', rfl, hinv, hext, _, hrd, t, e', rfl, ht, htok⟩
  obtain ⟨b, n, c, sz, cur, t1, t2, t3, t4, t5, t6, t7, t8, t9, t10⟩ := hinv.tok t e' htok
  rcases hrd.slice_inv with ⟨h, _⟩ | ⟨_, ad, n', c', sz', vv, rfl, q1, q2, q3, q4, q5, q6, q7, q8, q9⟩
  ·cases h
  ·obtain ⟨q8a, q8b, q8c⟩ := q8 ht
   rw [t1] at q8c
   simp only [Option.some.injEq, Prod.mk.injEq] at q8c
   obtain ⟨hb, hn, hc, hsz⟩ := q8c
   have had : ad = ⟨b, 0, none⟩ := by
    cases ad; simp only at hb q8a q8b; subst hb q8a q8b; rfl
   subst had
   subst hn hc hsz
   have hfl := BP q3
   obtain ⟨i1, i2⟩ := hi.adopt hinv.below (hfresh fr (List.suffix_refl _)) t2 t5 (ds := flat xs) (fun j d hd => by
    have hj : j < n * sz := by rw [q1, ← hfl]; exact (List.getElem?_eq_some_iff.1 hd).1
    have hp := hpl d (List.mem_of_getElem? hd)
    have hcell := q4 j hj
    rw [C7, Nat.zero_add] at hcell
    refine ⟨hp, vv j, ?_, q5 j hj, (q6 j d hd).plain hp⟩
    simpa [World.cell?, t5] using hcell)
   refine ⟨_, g.obj fr b, rfl, i1, i2, ?_, fun i hf hne => Dm hf hne _ _⟩
   rw [← q1]
   exact .row fr n c b q2 (by simp [Gh.obj])
 ·cases hex
def SetC (m : Mem) (d r : D) : Prop := r = d.un ∨ ∃ i xs sz, d = .row i xs.length ∧ r = .slice false [] xs ∧ (∀ x ∈ xs, x.calm = true ∧ x.cells.length = sz) ∧ ∀ (j : Nat) x, (flat xs)[j]? = some x → m i j = some x
def SetL (p : D → D → Prop) : List D → List D → Prop
 | [], [] => True
 | c :: cs, x :: xs => p c x ∧ SetL p cs xs
 | _, _ => False
def SetD (m : Mem) (d r : D) : Prop := SetC m d r ∨ ∃ cs xs, d = .agg cs ∧ r = .agg xs ∧ SetL (SetC m) cs xs
def SetR (m : Mem) (d r : D) : Prop := (r.calm = true ∧ SetD m d r) ∨ ∃ cs xs, d = .tup cs ∧ r = .tup xs ∧ SetL (SetD m) cs xs
theorem SetL.get {p : D → D → Prop} : ∀ {cs xs : List D}, SetL p cs xs → cs.length = xs.length ∧ ∀ (j : Nat) c x, cs[j]? = some c → xs[j]? = some x → p c x
 | [], [], _ => ⟨rfl, by simp⟩
 | c :: cs, x :: xs, h => by
  obtain ⟨h1, h2⟩ := h
  obtain ⟨a, b⟩ := SetL.get h2
  refine ⟨by simp [a], fun j c' x' hc hx => ?_⟩
  cases j with
  | zero => simp only [List.getElem?_cons_zero, Option.some.injEq] at hc hx; subst hc hx; exact h1
  | succ j => simp only [List.getElem?_cons_succ] at hc hx; exact b j c' x' hc hx
 | [], _ :: _, h => h.elim
 | _ :: _, [], h => h.elim
theorem fun_set (hS : Summs.ok P S) (hf : Fn P f N dc rs) {F : List D → Option D} (hN : ∀ ds r, F ds = some r → ds.length ≤ N)
  (hF : ∀ ds r, F ds = some r → r.calmR = true ∧ dc.wp S [] (De rs fun d m' => SetR m' d r) ⟨Bi ds, fun _ _ => none, 0⟩) : (Ai F).ok P f := by
 obtain ⟨fn, code, h1, h2, h3, h4, h5, h6⟩ := hf.is
 refine ⟨⟨fn, h1, by rw [h2]; rfl, h3⟩, fun ds m m' fr _ => rfl, ?_⟩
 intro B w0 w m g fr ds vs r u hi hfresh hl hrep hex
 simp only [Ai] at hex
 split at hex
 ·rename_i hcalm
  rw [Option.map_eq_some_iff] at hex
  obtain ⟨r', hr, hex⟩ := hex
  simp only [Prod.mk.injEq] at hex
  obtain ⟨rfl, rfl⟩ := hex
  obtain ⟨hcr, hwp⟩ := hF _ _ hr
  have hi0 := start_inv P w hi.gz
  have hrep0 : ∀ (j : Nat) d v, (ds.map D.un)[j]? = some d → vs[j]? = some v → Rep w (Cr g.G) d v := by
   intro j d v hd hv
   have hc := List.all_eq_true.1 hcalm d (List.mem_of_getElem? hd)
   rw [List.getElem?_map, Option.map_eq_some_iff] at hd
   obtain ⟨d', hd', rfl⟩ := hd
   exact (hrep j d' v hd' hv).un.calm_to hc (fun _ _ => rfl) (fun _ => Nat.le_refl _)
  have hcalls := Es (B := w.heap.size) (w0 := w) (w := w) (g := Cr g.G) (ns := []) (m := fun _ _ => none) (ds := ds.map D.un) (vs := vs) hS hf (hN _ _ hr) hi0 (fun k i _ => ⟨fun _ => rfl, rfl, rfl⟩) (by simpa using hl) hrep0 hwp
  refine hcalls.mono ?_
  rintro e w' ⟨v, d, m', g', rfl, hinv, hext, _, hrd, hset⟩
  let G' : Nat → Nat := fun b => max (g'.G b) (match w'.heap[b]? with | some (.cells c _ _) => c.size | _ => 0)
  have hGle : ∀ b, g'.G b ≤ (g.glue w G').G b := by
   intro b
   simp only [Gh.glue]
   split
   ·rename_i hlt
    rw [hinv.old b hlt, hext.G0]
    exact Nat.le_refl _
   ·exact Nat.le_max_left ..
  have hGz : ∀ b, w'.heap.size ≤ b → G' b = 0 := by
   intro b hb
   simp only [G']
   rw [Array.getElem?_eq_none hb, hinv.gz b hb]; rfl
  have hC : ∀ {d r : D} {v : Value}, Rep w' g' d v → SetC m' d r → r.calm = true → Rep w' (g.glue w G') r v := by
   intro d r v h hs hc
   rcases hs with rfl | ⟨i, xs, sz, rfl, rfl, hx, hm⟩
   ·exact h.un.calm_to hc (fun _ _ => rfl) hGle
   ·obtain ⟨b, cap, rfl, hcap, hb⟩ := h.row_inv
    obtain ⟨hBb, hGb, cur, T, hheap, hobj⟩ := hinv.obj i b hb
    have hfl := BP fun x h => (hx x h).2
    have hvl : ∀ (j : Nat), j < (flat xs).length → ∃ v, cur[j]? = some v ∧ v.oneCell' = true ∧ ∃ x, (flat xs)[j]? = some x ∧ Rep w' g' x v := by
     intro j hj
     obtain ⟨v', r1, r2, r3⟩ := hobj j _ (hm j _ (List.getElem?_eq_getElem hj))
     exact ⟨v', r1, r2, _, List.getElem?_eq_getElem hj, r3⟩
    have hsz : (flat xs).length ≤ cur.size := by
     rcases Nat.eq_zero_or_pos (flat xs).length with h | h
     ·omega
     ·obtain ⟨v', r1, _⟩ := hvl ((flat xs).length - 1) (by omega)
      have := (Array.getElem?_eq_some_iff.1 r1).1
      omega
    have hcalm : ∀ x ∈ xs, x.calm = true := fun x h => (hx x h).1
    refine Rep.ofRow (sz := sz) (cur := cur) (vs := cur.toList.take (flat xs).length) hheap rfl hcap (fun x h => (hx x h).2) ⟨by simp; omega, fun v hv => ?_, fun j x v hx' hv => ?_⟩ (fun j v hv => ?_) ?_ (fun h => absurd rfl h) hcalm
    ·obtain ⟨j, hj, rfl⟩ := List.getElem_of_mem hv
     have hj' : j < (flat xs).length := Nat.lt_of_lt_of_le hj (List.length_take_le _ _)
     obtain ⟨v', r1, r2, _⟩ := hvl j hj'
     have : (cur.toList.take (flat xs).length)[j]? = some v' := by rw [List.getElem?_take_of_lt hj']; simpa using r1
     rw [List.getElem?_eq_getElem hj] at this
     rw [Option.some.inj this]; exact r2
    ·have hj' : j < (flat xs).length := (List.getElem?_eq_some_iff.1 hx').1
     obtain ⟨v', r1, r2, x', hx2, r3⟩ := hvl j hj'
     rw [hx'] at hx2; obtain rfl := Option.some.inj hx2
     have : (cur.toList.take (flat xs).length)[j]? = some v' := by rw [List.getElem?_take_of_lt hj']; simpa using r1
     rw [hv] at this; obtain rfl := Option.some.inj this
     exact r3.calm_to (calm_flat hcalm x (List.mem_of_getElem? hx')) (fun _ _ => rfl) hGle
    ·have hj : j < (flat xs).length := Nat.lt_of_lt_of_le (List.getElem?_eq_some_iff.1 hv).1 (List.length_take_le _ _)
     rw [List.getElem?_take_of_lt hj] at hv
     simpa using hv
    ·rw [← hfl]
     simp only [Gh.glue, G']
     rw [if_neg (by omega), hheap]
     exact Nat.le_trans hsz (Nat.le_max_right ..)
  have hD : ∀ {d r : D} {v : Value}, Rep w' g' d v → SetD m' d r → r.calm = true → Rep w' (g.glue w G') r v := by
   intro d r v h hs hc
   rcases hs with hs | ⟨cs, xs, rfl, rfl, hL⟩
   ·exact hC h hs hc
   ·obtain ⟨us, rfl, k1, k2, k3⟩ := AU.ofAgg h
    obtain ⟨l1, l2⟩ := hL.get
    refine .agg _ us (by rw [k1, l1]) k2 (fun j x v hx hv => ?_)
    have hj : j < cs.length := by rw [l1]; exact (List.getElem?_eq_some_iff.1 hx).1
    exact hC (k3 j _ v (List.getElem?_eq_getElem hj) hv) (l2 j _ x (List.getElem?_eq_getElem hj) hx) (calm_agg hc x (List.mem_of_getElem? hx))
  refine ⟨v, g.glue w G', rfl, hi.glue hinv.below hGz, Ext.glue hi.gz hinv.below, ?_, fun i hf _ => hf⟩
  rcases hset with ⟨hc, hs⟩ | ⟨cs, xs, rfl, rfl, hL⟩
  ·exact hD hrd hs hc
  ·obtain ⟨us, rfl, k1, k2⟩ := hrd.tup_inv
   obtain ⟨l1, l2⟩ := hL.get
   refine .tup _ us (by rw [k1, l1]) (fun j x v hx hv => ?_)
   have hj : j < cs.length := by rw [l1]; exact (List.getElem?_eq_some_iff.1 hx).1
   simp only [D.calmR, List.all_eq_true] at hcr
   exact hD (k2 j _ v (List.getElem?_eq_getElem hj) hv) (l2 j _ x (List.getElem?_eq_getElem hj) hx) (hcr x (List.mem_of_getElem? hx))
 ·cases hex
end
def isSl : D → Bool
 | .slice _ _ _ => true
 | _ => false
def Dz : List D → Nat
 | [] => 0
 | .slice _ _ xs :: r => xs.length + Dz r
 | _ :: r => Dz r
theorem catD_len : ∀ {L ys : List D}, EI L = some ys → ys.length = Dz L ∧ L.all isSl = true
 | [], ys, h => by simp only [EI, Option.some.injEq] at h; subst h; exact ⟨rfl, rfl⟩
 | x :: r, ys, h => by
  unfold EI at h
  split at h
  ·rename_i heq; cases heq
  ·rename_i nl t xs r' heq
   cases heq
   rw [Option.map_eq_some_iff] at h
   obtain ⟨zs, hz, rfl⟩ := h
   obtain ⟨h1, h2⟩ := catD_len hz
   exact ⟨by simp [Dz, h1], by simp [isSl, h2]⟩
  ·cases h
def szB (sz : Nat) (d : D) : Bool := d.cells.length == sz
theorem headSz_szB {sz : Nat} {ys : List D} (h : ys.all (szB sz) = true) : D.headSz ys sz = sz := by
 cases ys with
 | nil => rfl
 | cons y r =>
  have := List.all_eq_true.1 h y (List.mem_cons_self ..)
  simpa [D.headSz, szB] using this
theorem catB {n bytes : Nat} (hby : bytes ≤ 1000000) (hn : n ≤ 100000) : n * (bytes + 1) ≤ 140737488355328 := Nat.le_trans (Nat.mul_le_mul hn (Nat.succ_le_succ hby)) (by omega)
theorem growU_at {m : Mem} {e : Nat} {fr t : Id} {nl : Bool} {xs : List D} : Upd.app m (BL e fr (.slice nl t xs)) fr 0 = some (.tok (e + 1)) := by
 cases nl <;> simp [BL, Upd.app, Bd]
def dcCat0 (pt : Nat) : DC := (.seq (.row [⟨some 12, .bin .lss (.t 11) (.t 10), [], none⟩]) (.seq (.cond (.t 12) .skip (.exit 0)) (.seq (.block 1 (.seq (.row [⟨some 13, .iaddr 1 (.t 9) (.t 11), [], none⟩, ⟨some 14, .load none (.t 13), [], none⟩, ⟨some 5, .mv (.t 14), [], none⟩]) (.seq (.row [⟨some 15, .mv (.t 3), [], none⟩, ⟨some 16, .mv (.t 5), [], none⟩, ⟨some 17, .len false (.t 16), [], none⟩, ⟨some 18, .bin .add (.t 15) (.t 17), [], none⟩, ⟨some 3, .mv (.t 18), [], none⟩]) (.seq (.row [⟨some 19, .mv (.t 3), [], none⟩, ⟨some 20, .bin .lss (.t 19) (.c (.int .i64 0)), [], none⟩]) (.cond (.t 20) (.row [⟨some 21, .mkif pt (.c (.str [108, 101, 110, 32, 111, 117, 116, 32, 111, 102, 32, 114, 97, 110, 103, 101])), [], none⟩, ⟨none, .stop, [], none⟩]) .skip))))) (.row [⟨some 22, .bin .add (.t 11) (.c (.int .i64 1)), [], none⟩, ⟨some 11, .mv (.t 22), [], none⟩]))))
def dcCat1 (e sz bytes : Nat) : DC := (.seq (.row [⟨some 28, .bin .lss (.t 27) (.t 26), [], none⟩]) (.seq (.cond (.t 28) .skip (.exit 2)) (.seq (.block 3 (.seq (.row [⟨some 29, .iaddr 1 (.t 25) (.t 27), [], none⟩, ⟨some 30, .load none (.t 29), [], none⟩, ⟨some 8, .mv (.t 30), [], none⟩]) (.row [⟨some 31, .mv (.t 6), [], none⟩, ⟨some 32, .mv (.t 8), [], none⟩, ⟨some 33, .app e sz bytes (.t 31) (.t 32), [], none⟩, ⟨some 6, .mv (.t 33), [], none⟩]))) (.row [⟨some 34, .bin .add (.t 27) (.c (.int .i64 1)), [], none⟩, ⟨some 27, .mv (.t 34), [], none⟩]))))
def dcCat (pt e sz bytes gf : Nat) : DC := (.seq (.row [⟨some 2, .mv (.c (.slice true [] [])), [], none⟩]) (.seq (.row [⟨some 3, .mv (.c (.int .i64 0)), [], none⟩]) (.seq (.seq (.row [⟨some 9, .mv (.t 0), [], none⟩, ⟨some 10, .len false (.t 9), [], none⟩, ⟨some 11, .mv (.c (.int .i64 0)), [], none⟩]) (.block 0 (.loop (dcCat0 pt)))) (.seq (.row [⟨some 23, .mv (.t 3), [], none⟩, ⟨some 24, .call (.c (.fn gf [])) [(.c (.slice true [] [])), (.t 23)], [], none⟩, ⟨some 6, .mv (.t 24), [], none⟩]) (.seq (.seq (.row [⟨some 25, .mv (.t 0), [], none⟩, ⟨some 26, .len false (.t 25), [], none⟩, ⟨some 27, .mv (.c (.int .i64 0)), [], none⟩]) (.block 2 (.loop (dcCat1 e sz bytes)))) (.seq (.row [⟨some 35, .mv (.t 6), [], none⟩, ⟨some 2, .mv (.t 35), [], none⟩]) .ret))))))
theorem loopCat0 {pt : Nat} {S : Summs} {ns : Id} {L : List D} {nl : Bool} {t : Id} {Q : Ex → St → Prop} (hb : L.length ≤ 1000) (hall : L.all isSl = true)
  (hexit : ∀ (st : St), st.s 0 = .slice nl t L → st.s 3 = .int .i64 (Dz L : Nat) → Q (.exit 0) st) :
  ∀ (R : List D) (k a : Nat) st g, L.drop k = R → k ≤ L.length → a + Dz R = Dz L → Dz L ≤ 1000000 → st.s 0 = .slice nl t L → st.s 9 = .slice nl t L → st.s 10 = .int .i64 (L.length : Nat) → st.s 11 = .int .i64 (k : Nat) → st.s 3 = .int .i64 (a : Nat) →
   AV S ns (dcCat0 pt) Q st g := by
 intro R
 induction R with
 | nil =>
  intro k a st g hd hk ha hm h0 h9 h10 h11 h3
  refine Ad (dcCat0.eq_1 pt) ?_
  have hlen : L.length ≤ k := by simpa using hd
  have : ¬ ((k : Int) < L.length) := by omega
  simp only [↓go1, go2, go4, reduceIte, Nat.reduceAdd, h10, h11, this]
  refine hexit _ ?_ ?_
  ·simp only [↓go1, reduceIte, Nat.reduceEqDiff, h0]
  ·simp only [↓go1, reduceIte, Nat.reduceEqDiff, h3]
   simp only [Dz] at ha
   rw [← ha]; rfl
 | cons x R ih =>
  intro k a st g hd hk ha hm h0 h9 h10 h11 h3
  refine Ad (dcCat0.eq_1 pt) ?_
  have hkl : k < L.length := by
   rcases Nat.lt_or_ge k L.length with h | h
   ·exact h
   ·rw [List.drop_of_length_le h] at hd; cases hd
  have hxk : L[k]? = some x := by
   have := congrArg (·[0]?) hd
   simpa using this
  have hx : isSl x = true := List.all_eq_true.1 hall x (List.mem_of_getElem? hxk)
  have hdr : L.drop (k + 1) = R := by
   rw [← List.drop_drop, hd]; rfl
  match x, hx with
  | .slice nl' t' xs, _ =>
   have hlt : ((k : Int) < L.length) := by omega
   have hk0 : (0 : Int) ≤ (k : Int) := by omega
   have hxk' : L[(k : Int).toNat]? = some (.slice nl' t' xs) := by simpa using hxk
   simp only [Dz] at ha
   have w1 : IntKind.i64.wrap ((a : Int) + (xs.length : Int)) = ((a + xs.length : Nat) : Int) := by rw [IntWalk.i64_in _ ⟨by omega, by omega⟩]; simp
   have w2 : IntKind.i64.wrap ((k : Int) + 1) = ((k + 1 : Nat) : Int) := by rw [IntWalk.i64_in _ ⟨by omega, by omega⟩]; simp
   have hneg : ¬ (((a + xs.length : Nat) : Int) < 0) := by omega
   simp only [↓go1, go2, go3, go4, reduceIte, Nat.reduceEqDiff, Nat.reduceAdd, h9, h10, h11, h3, hlt, hk0, hxk', w1, w2, hneg]
   exact ih (k + 1) (a + xs.length) _ _ hdr (by omega) (by omega) hm h0 h9 h10 rfl rfl
theorem loopCat1 {e sz bytes : Nat} (hby : bytes ≤ 1000000) {S : Summs} {ns : Id} {L : List D} {nl0 : Bool} {t0 : Id} {Q : Ex → St → Prop} (hb : L.length ≤ 1000)
  (hexit : ∀ (st : St) (nl : Bool) (t : Id) (ys : List D), EI L = some ys → st.s 6 = .slice nl t ys → (nl = true → ys = []) → Grow st.m e (.slice nl t ys) → Q (.exit 2) st) :
  ∀ (R : List D) (k : Nat) (acc zs : List D) (nl : Bool) (t : Id) st g, L.drop k = R → k ≤ L.length → EI R = some zs → EI L = some (acc ++ zs) → (acc ++ zs).all (szB sz) = true → (acc ++ zs).length ≤ 100000 →
   (nl = true → acc = []) → Grow st.m e (.slice nl t acc) →
   st.s 6 = .slice nl t acc → st.s 25 = .slice nl0 t0 L → st.s 26 = .int .i64 (L.length : Nat) → st.s 27 = .int .i64 (k : Nat) →
   AV S ns (dcCat1 e sz bytes) Q st g := by
 intro R
 induction R with
 | nil =>
  intro k acc zs nl t st g hd hk hz hL hone hlen hnil hgrow h6 h25 h26 h27
  refine Ad (dcCat1.eq_1 e sz bytes) ?_
  have hlen' : L.length ≤ k := by simpa using hd
  have : ¬ ((k : Int) < L.length) := by omega
  simp only [EI, Option.some.injEq] at hz; subst hz
  simp only [↓go1, go2, go4, reduceIte, Nat.reduceAdd, h26, h27, this]
  refine hexit _ nl t acc (by simpa using hL) ?_ hnil hgrow
  simp only [↓go1, reduceIte, Nat.reduceEqDiff, h6]
 | cons x R ih =>
  intro k acc zs nl t st g hd hk hz hL hone hlen hnil hgrow h6 h25 h26 h27
  refine Ad (dcCat1.eq_1 e sz bytes) ?_
  have hkl : k < L.length := by
   rcases Nat.lt_or_ge k L.length with h | h
   ·exact h
   ·rw [List.drop_of_length_le h] at hd; cases hd
  have hxk : L[k]? = some x := by
   have := congrArg (·[0]?) hd
   simpa using this
  have hdr : L.drop (k + 1) = R := by
   rw [← List.drop_drop, hd]; rfl
  unfold EI at hz
  split at hz
  ·rename_i heq; cases heq
  ·rename_i nl' t' xs R' heq
   cases heq
   rw [Option.map_eq_some_iff] at hz
   obtain ⟨zs', hz', rfl⟩ := hz
   have hlt : ((k : Int) < L.length) := by omega
   have hk0 : (0 : Int) ≤ (k : Int) := by omega
   have hxk' : L[(k : Int).toNat]? = some (.slice nl' t' xs) := by simpa using hxk
   have w2 : IntKind.i64.wrap ((k : Int) + 1) = ((k + 1 : Nat) : Int) := by rw [IntWalk.i64_in _ ⟨by omega, by omega⟩]; simp
   simp only [↓go1, go2, go3, go4, reduceIte, Nat.reduceEqDiff, Nat.reduceAdd, h6, h25, h26, h27, hlt, hk0, hxk']
   have hacc : (if nl = true then xs else acc ++ xs) = acc ++ xs := C3 hnil
   refine ifQ.intro (fun hc => ?_) (fun hc => ?_)
   ·obtain ⟨rfl, rfl⟩ := hc
    obtain rfl := hnil rfl
    simp only [↓go1, go2, go3, reduceIte, Nat.reduceEqDiff, Nat.reduceAdd, h27, w2]
    exact ih (k + 1) [] zs' true [] _ _ hdr (by omega) hz' (by simpa using hL) (by simpa using hone) (by simpa using hlen) (fun _ => rfl) (.inl rfl) rfl h25 h26 rfl
   ·have hxs : xs.all (szB sz) = true := by
     rw [List.all_append, List.all_append] at hone
     simp only [Bool.and_eq_true] at hone
     exact hone.2.1
    refine AA.intro ⟨catB hby (by simp only [List.length_append] at hlen; omega), headSz_szB hxs, hgrow⟩ ?_
    rw [hacc]
    simp only [↓go1, go2, go3, reduceIte, Nat.reduceEqDiff, Nat.reduceAdd, h27, w2]
    refine ih (k + 1) (acc ++ xs) zs' false _ _ _ hdr (by omega) hz' (by simpa using hL) (by simpa using hone) (by simpa using hlen) (fun h => by cases h) (.inr ⟨growU_at, by simp⟩) rfl h25 h26 rfl
  ·cases hz
def FcatG (sz : Nat) : List D → Option (List D)
 | [.slice _ _ L] => match EI L with
  | some ys => if L.length ≤ 1000 ∧ 0 < ys.length ∧ ys.length ≤ 100000 ∧ ys.all (szB sz) = true then some ys else none
  | none => none
 | _ => none
theorem cat_wp {P : Program} {f gf pt e sz bytes : Nat} (hby : bytes ≤ 1000000) {S : Summs} (hS : S gf = some (DQ e)) {L ys : List D} {nl : Bool} {t : Id} (hys : EI L = some ys) (c1 : L.length ≤ 1000) (c2 : 0 < ys.length) (c3 : ys.length ≤ 100000) (c4 : ys.all (szB sz) = true)
  {R : D → Mem → Prop} (hR : ∀ t m, Grow m e (.slice false t ys) → R (.slice false t ys) m) : (dcCat pt e sz bytes gf).wp S [] (De [.t 2] R) ⟨Bi [.slice nl t L], fun _ _ => none, 0⟩ := by
 obtain ⟨hl, hall⟩ := catD_len hys
 unfold dcCat
 simp only [↓go1, go2, reduceIte, Nat.reduceEqDiff, Nat.reduceAdd]
 refine loopCat0 c1 hall (fun st h0 h3 => ?_) L 0 0 _ _ rfl (by omega) (by simp) (by omega) rfl rfl rfl rfl rfl
 simp only [↓go1, go2, go4, reduceIte, Nat.reduceAdd, h3]
 rw [AK hS]
 have hg : (DQ e).ex ([D.slice true [] [], D.int IntKind.i64 (Dz L : Nat)] ++ []) st.m [st.c + 1] = some (.slice false [0, st.c + 1] [], [([0, st.c + 1], 0, [.tok (e + 1)])]) := by
  simp only [DQ, List.append_nil]
  rw [if_pos ⟨by omega, by omega⟩]
 refine Got.intro hg ?_
 simp only [↓go1, go2, reduceIte, Nat.reduceEqDiff, Nat.reduceAdd, h0]
 refine loopCat1 hby c1 (fun st' nl' t' zs hz h6 hn hgr => ?_) L 0 [] ys false _ _ _ rfl (by omega) hys (by simpa using hys) (by simpa using c4) (by simpa using c3) (fun h => by cases h) (.inr ⟨?_, by simp⟩) rfl h0 rfl rfl
 ·rw [hys] at hz
  simp only [Option.some.injEq] at hz; subst hz
  have hnl : nl' = false := by
   cases nl' with
   | false => rfl
   | true => have := hn rfl; subst this; simp at c2
  subst hnl
  simp only [↓go1, go2, reduceIte, Nat.reduceEqDiff, Nat.reduceAdd, h6]
  exact hR _ _ hgr
 ·simp [Bd]
section
variable {P : Program} {f gf pt e sz bytes : Nat}
theorem FcatG_some {ds ys : List D} (h : FcatG sz ds = some ys) : ∃ nl t L, ds = [.slice nl t L] ∧ EI L = some ys ∧ L.length ≤ 1000 ∧ 0 < ys.length ∧ ys.length ≤ 100000 ∧ ys.all (szB sz) = true := by
 unfold FcatG at h; split at h
 ·rename_i nl t L
  split at h
  ·rename_i ys' hys
   split at h
   ·rename_i hc
    simp only [Option.some.injEq] at h; subst h
    exact ⟨nl, t, L, rfl, hys, hc⟩
   ·cases h
  ·cases h
 ·cases h
def gS (gf e : Nat) : Summs := fun f => if f = gf then some (DQ e) else none
theorem gS_ok (hg : (DQ e).ok P gf) : Summs.ok P (gS gf e) := by
 intro f q h
 unfold gS at h
 split at h
 ·simp only [Option.some.injEq] at h; subst h; rename_i e; subst e; exact hg
 ·cases h
theorem cat_own (hf : Fn P f 36 (dcCat pt e sz bytes gf) [.t 2]) (hby : bytes ≤ 1000000) (hg : (DQ e).ok P gf) : (ownS fun ds => (FcatG sz ds).bind fun ys => if (flat ys).all D.plain = true then some ys else none).ok P f := by
 refine own_ok (gS_ok hg) hf (fun ds r h => ?_) (fun ds r h => ?_)
 ·rw [Option.bind_eq_some_iff] at h
  obtain ⟨ys, h, _⟩ := h
  obtain ⟨nl, t, L, rfl, _⟩ := FcatG_some h
  simp
 ·rw [Option.bind_eq_some_iff] at h
  obtain ⟨ys, h, h2⟩ := h
  split at h2
  ·rename_i hp
   simp only [Option.some.injEq] at h2; subst h2
   obtain ⟨nl, t, L, rfl, c0, c1, c2, c3, c4⟩ := FcatG_some h
   refine ⟨fun x hx => List.all_eq_true.1 hp x hx, cat_wp (P := P) (f := f) hby (by simp [gS]) c0 c1 c2 c3 c4 fun t m hgr => ?_⟩
   rcases hgr with h | ⟨h1, h2⟩
   ·cases h
   ·exact ⟨t, e, rfl, h2, h1⟩
  ·cases h2
theorem cat_fun (hf : Fn P f 36 (dcCat pt e sz bytes gf) [.t 2]) (hby : bytes ≤ 1000000) (hg : (DQ e).ok P gf) {F : List D → Option D}
  (hF : ∀ ds r, F ds = some r → ∃ nl t L ys, ds = [.slice nl t L] ∧ EI L = some ys ∧ L.length ≤ 1000 ∧ 0 < ys.length ∧ ys.length ≤ 100000 ∧ ys.all (szB sz) = true ∧ r = .slice false [] ys) : (Ai F).ok P f := by
 refine As (gS_ok hg) hf (fun ds r h => ?_) (fun ds r h => ?_)
 ·obtain ⟨nl, t, L, ys, rfl, _⟩ := hF ds r h
  simp
 ·obtain ⟨nl, t, L, ys, rfl, c0, c1, c2, c3, c4, rfl⟩ := hF ds r h
  exact cat_wp (P := P) (f := f) hby (by simp [gS]) c0 c1 c2 c3 c4 fun t m hgr => ⟨rfl, rfl⟩
end
end Go.Vd
namespace Go.Vd
open Go.Proofs Go.RowKit
abbrev sz3 : D → Bool := szB 3
def Fcat3 : List D → Option D
 | [.slice _ _ L] => match EI L with
  | some ys => if L.length ≤ 1000 ∧ 0 < ys.length ∧ ys.length ≤ 100000 ∧ ys.all sz3 = true then some (.slice false [] ys) else none
  | none => none
 | _ => none
set_option maxRecDepth 20000 in
theorem walkGrow315 (w : World) (k : Nat) (h0 : 0 < k) (hk : k ≤ 1000000) :
  Calls Tryz.prog 315 #[.slice none 0 0, .int .i64 (k : Int)] w fun e w' => e = .returned (.slice (some ⟨w.heap.size, 0, none⟩) 0 (grownCap w k 0 97)) ∧ w' = w.drew.alloc (.cells (Builtin.zeroCells #[.string .empty, .string .empty, .slice none 0 0] k ++ Builtin.zeroCells #[.string .empty, .string .empty, .slice none 0 0] (grownCap w k 0 97 - k)) 97) := by
 have happ := Lib.run_append_nil_zeros (P := Tryz.prog) w 53 3 53 97 Tryz.t97 (.agg #[.string .empty, .string .empty, .slice none 0 0]) .i64 .i64 Tryz.underlying53 Tryz.underlying3 (by kernel_rfl) (by kernel_rfl) k h0 (by decide) (by omega) (by show k * 56 ≤ _; omega)
 go_enter Tryz.func315, Tryz.ntmps315
 go_wp2_with (first | (at_builtin; refine Lib.wpList_append_run _ rfl _ _ _ _ rfl _ _ rfl rfl _ _ happ ?_))
 all_goals go_ret
 all_goals exact ⟨rfl, rfl⟩
theorem ok315 : (DQ 97).ok Tryz.prog 315 := by
 refine grow_ok (sz := 3) ⟨_, Tryz.func315, by kernel_rfl, by kernel_rfl⟩ (by decide) ⟨Tryz.t97, (.agg #[.string .empty, .string .empty, .slice none 0 0]), by kernel_rfl, by kernel_rfl, by kernel_rfl, by kernel_rfl⟩ (fun w k h0 hk => ?_)
 refine (walkGrow315 w k h0 hk).mono ?_
 rintro e w' ⟨rfl, rfl⟩
 refine ⟨_, _, grownCap_le_maxLen w k 0 97 (by unfold maxLen; omega), ?_, rfl, rfl⟩
 have hge := grownCap_ge w k 0 97
 simp only [Array.size_append, size_zeroCells]
 simp
 omega
theorem fcat3_get {ds : List D} {r : D} (h : Fcat3 ds = some r) : ∃ nl t L ys, ds = [.slice nl t L] ∧ EI L = some ys ∧ L.length ≤ 1000 ∧ 0 < ys.length ∧ ys.length ≤ 100000 ∧ ys.all (szB 3) = true ∧ r = .slice false [] ys := by
 unfold Fcat3 at h; split at h
 ·rename_i nl t L
  split at h
  ·rename_i ys hys
   split at h
   ·rename_i hc
    simp only [Option.some.injEq] at h; subst h
    exact ⟨nl, t, L, ys, rfl, hys, hc.1, hc.2.1, hc.2.2.1, hc.2.2.2, rfl⟩
   ·cases h
  ·cases h
 ·cases h
theorem ok216 (h315 : (DQ 97).ok Tryz.prog 315) : (Ai Fcat3).ok Tryz.prog 216 := cat_fun (pt := 9) (bytes := 56) fn216 (by omega) h315 fun _ _ h => fcat3_get h
set_option maxRecDepth 20000 in
theorem walkGrow207 (w : World) (k : Nat) (h0 : 0 < k) (hk : k ≤ 1000000) :
  Calls Tryz.prog 207 #[.slice none 0 0, .int .i64 (k : Int)] w fun e w' => e = .returned (.slice (some ⟨w.heap.size, 0, none⟩) 0 (grownCap w k 0 124)) ∧ w' = w.drew.alloc (.cells (Builtin.zeroCells #[.string .empty, .int .i64 0, .bool false] k ++ Builtin.zeroCells #[.string .empty, .int .i64 0, .bool false] (grownCap w k 0 124 - k)) 124) := by
 have happ := Lib.run_append_nil_zeros (P := Tryz.prog) w 50 3 50 124 Tryz.t124 (.agg #[.string .empty, .int .i64 0, .bool false]) .i64 .i64 Tryz.underlying50 Tryz.underlying3 (by kernel_rfl) (by kernel_rfl) k h0 (by decide) (by omega) (by show k * 32 ≤ _; omega)
 go_enter Tryz.func207, Tryz.ntmps207
 go_wp2_with (first | (at_builtin; refine Lib.wpList_append_run _ rfl _ _ _ _ rfl _ _ rfl rfl _ _ happ ?_))
 all_goals go_ret
 all_goals exact ⟨rfl, rfl⟩
theorem ok207 : (DQ 124).ok Tryz.prog 207 := by
 refine grow_ok (sz := 3) ⟨_, Tryz.func207, by kernel_rfl, by kernel_rfl⟩ (by decide) ⟨Tryz.t124, (.agg #[.string .empty, .int .i64 0, .bool false]), by kernel_rfl, by kernel_rfl, by kernel_rfl, by kernel_rfl⟩ (fun w k h0 hk => ?_)
 refine (walkGrow207 w k h0 hk).mono ?_
 rintro e w' ⟨rfl, rfl⟩
 refine ⟨_, _, grownCap_le_maxLen w k 0 124 (by unfold maxLen; omega), ?_, rfl, rfl⟩
 have hge := grownCap_ge w k 0 124
 simp only [Array.size_append, size_zeroCells]
 simp
 omega
def firstTk : Tk := ([114, 111, 111, 116], [], false, [([], 63)])
def F112 : List D → Option D
 | [] => some (tkD firstTk)
 | _ => none
theorem ok112 : (Ai F112).ok Tryz.prog 112 := by
 refine As (S := fun _ => none) Au fn112 (fun ds r h => ?_) (fun ds r h => ?_)
 ·unfold F112 at h; split at h
  ·simp
  ·cases h
 ·unfold F112 at h; split at h
  ·simp only [Option.some.injEq] at h
   subst h
   unfold dc112
   simp only [↓go1, gB0, reduceIte, Nat.reduceEqDiff, Nat.reduceAdd, Ac, Ag, Ah, Nat.reduceLT, Nat.reduceLeDiff, Option.bind_some, List.take_succ_cons, List.take_zero, Option.isSome_some, List.drop_zero, List.drop_succ_cons, List.cons.injEq, Nat.zero_ne_one, and_false, Nat.succ_ne_zero, AR, AE, A2, Bt, List.nil_append, reduceCtorEq, List.map_nil, List.all_nil, tkD, firstTk, Aj, rlD, List.map_cons, List.map_nil]
  ·cases h
def F48 : List D → Option D
 | [] => some (.agg [.slice false [] (AC [firstTk])])
 | _ => none
theorem ok48 : (Ai F48).ok Tryz.prog 48 := by
 obtain ⟨S, hS, hl⟩ := AJ (Ab ok112 Ae)
 have s112 := hl 112 _ rfl
 clear hl
 refine As (S := S) hS fn48 (fun ds r h => ?_) (fun ds r h => ?_)
 ·unfold F48 at h; split at h
  ·simp
  ·cases h
 ·unfold F48 at h; split at h
  ·simp only [Option.some.injEq] at h
   subst h
   have h112 : F112 [] = some (.agg [.str [114, 111, 111, 116], .str [], .slice false [] [.agg [.str [], .int .u8 63]]]) := rfl
   unfold dc48
   simp only [↓go1, gB1, reduceIte, Nat.reduceEqDiff, Nat.reduceAdd, Ac, Ag, Ah, Nat.zero_le, Nat.reduceLT, Nat.reduceLeDiff, Nat.sub_zero, List.getElem?_cons_zero, and_self, Option.bind_some, List.take_zero, Option.isSome_some, List.drop_zero, List.drop_succ_cons, List.cons.injEq, Nat.zero_ne_one, Nat.succ_ne_zero, AR, AE, A2, Bt, List.nil_append, reduceCtorEq, List.map_nil, List.all_nil, Aa s112, h112, AC, tkD, firstTk, Aj, rlD, List.map_cons, List.map_nil]
  ·cases h
def withT (l : List Tk) (k : Tk) : List Tk := l.take (bsE l k.1) ++ k :: l.drop (bsE l k.1)
open Classical in
noncomputable def F115 : List D → Option D
 | [.agg [.slice _ _ xs], .agg [.str n, .str p, .slice nl _ ys]] => if Df xs ∧ xs.length ≤ 90000 ∧ rlsOk nl ys then some (.agg [.slice false [] (AC (withT (BD xs) (n, p, nl, A0 ys)))]) else none
 | _ => none
open Classical in
theorem F115_eq {nl0 nl : Bool} {t0 t : Id} {l : List Tk} {n p : Bs} {rs : List Rl} (hl : l.length ≤ 90000) (hr : rs.length ≤ 1000000) (hn : nl = true → rs = []) :
  F115 [.agg [.slice nl0 t0 (AC l)], .agg [.str n, .str p, .slice nl t (Aj rs)]] = some (.agg [.slice false [] (AC (withT l (n, p, nl, rs)))]) := by
 have h : Df (AC l) ∧ (AC l).length ≤ 90000 ∧ rlsOk nl (Aj rs) := ⟨CX (by omega), by rw [AI]; exact hl, rlsOk_mk hr hn⟩
 show (if _ then _ else _) = _
 rw [if_pos h, A5, AN]
theorem ok115 : (Ai F115).ok Tryz.prog 115 := by
 obtain ⟨S, hS, hl⟩ := AJ (Ab ok93 (Ab ok94 (Ab (ok216 ok315) Ae)))
 have s93 := hl 93 _ rfl
 have s94 := hl 94 _ rfl
 have s216 := hl 216 _ rfl
 clear hl
 refine As (S := S) hS fn115 (fun ds r h => ?_) (fun ds r h => ?_)
 ·unfold F115 at h; split at h
  ·simp
  ·cases h
 ·unfold F115 at h; split at h
  ·rename_i nl0 t0 xs n p nl t ys
   split at h
   ·rename_i hc
    obtain ⟨hc, h9, hr⟩ := hc
    obtain ⟨l, rfl, hl, e⟩ := CO hc
    obtain ⟨rs, rfl, hrl, hrn, e2⟩ := Ef hr
    rw [e, e2] at h
    rw [AI] at h9
    simp only [Option.some.injEq] at h
    subst h
    have h93 := F93_eq (nl := nl0) (t := []) (s := n) hl
    have h94 := F94_eq (n := n) (p := p) (t := []) hrl hrn
    have hle : bsE l n ≤ l.length := bsR_le l n _ _ _ (by omega)
    unfold withT
    generalize bsE l n = i at h93 hle
    generalize A9 l n = fd at h93
    have hi0 : (0 : Int) ≤ (i : Int) := by omega
    have hil : (i : Int) ≤ (l.length : Int) := by omega
    have hll : l.length ≤ l.length := Nat.le_refl _
    have htk : (AC l).take i = AC (l.take i) := (List.map_take ..).symm
    have hdr : ((AC l).drop i).take (l.length - i) = AC (l.drop i) := by
     rw [List.take_of_length_le (by rw [List.length_drop, AI]; omega)]; exact (List.map_drop ..).symm
    have hcat : Fcat3 [.slice false [] [.slice nl0 [] (AC (l.take i)), .slice false [] [.agg [.str n, .str p, .slice nl [] (Aj rs)]], .slice nl0 [] (AC (l.drop i))]] = some (.slice false [] (AC (l.take i ++ (n, p, nl, rs) :: l.drop i))) := by
     have e1 : EI [.slice nl0 [] (AC (l.take i)), .slice false [] [.agg [.str n, .str p, .slice nl [] (Aj rs)]], .slice nl0 [] (AC (l.drop i))] = some (AC (l.take i ++ (n, p, nl, rs) :: l.drop i)) := by
      simp [EI, AC, tkD]
     simp only [Fcat3, e1]
     rw [if_pos]
     refine ⟨by simp, ?_, ?_, ?_⟩
     ·rw [AI]; simp only [List.length_append, List.length_cons]; omega
     ·rw [AI]; simp only [List.length_append, List.length_cons, List.length_take, List.length_drop]; omega
     ·rw [List.all_eq_true]; intro x hx
      obtain ⟨y, _, rfl⟩ := List.mem_map.1 hx
      rfl
    unfold dc115
    simp only [↓go1, gB0, reduceIte, Nat.reduceEqDiff, Nat.reduceAdd, Ac, Ag, Ah, Nat.reduceLT, Option.bind_some, List.take_zero, Option.isSome_some, List.drop_zero, List.drop_succ_cons, List.cons.injEq, Nat.zero_ne_one, and_false, Nat.succ_ne_zero, A2, Bt, tksD_head, List.nil_append, reduceCtorEq, List.map_nil, List.all_nil, Aa s93, h93, Aa s94, h94, Aa s216, hcat, AI, hi0, hil, htk, hdr, Int.toNat_natCast, Nat.le_refl]
    refine AA.intro (Al rfl) ?_
    simp only [↓go1, gB1, reduceIte, Nat.reduceEqDiff, Nat.reduceAdd, Ac, Ag, Ah, Nat.reduceLT, Nat.sub_zero, List.getElem?_cons_zero, and_self, Option.bind_some, List.drop_zero, List.cons.injEq, Nat.succ_ne_zero, AR, AE, List.map_nil, List.all_nil, htk, hdr, Nat.le_refl]
   ·cases h
  ·cases h
theorem loop114i {S : Summs} {ns : Id} {a b l : List Rl} {nl na nb : Bool} {t ta tb : Id} {Q : Ex → St → Prop} {e : Bool} {d19 : D} {i : Int} (s95 : S 95 = some (Ai F95)) (s215 : S 215 = some (Ai F215))
  (la : a.length ≤ 1000000) (lb : b.length ≤ 1000000) (pb : Bu b) (ca : Da a) (cb : Da b) (hb : l.length ≤ 1000000) (hpl : Bu l)
  (hret : ∀ st, e = false → st.s 4 = .bool false → Q .ret st) (hexit : ∀ st, e = true → st.s 0 = .slice na ta (Aj a) → st.s 1 = .slice nb tb (Aj b) → st.s 19 = d19 → st.s 20 = .int .i64 i → Q (.exit 2) st) :
  ∀ (f j : Nat) st g, l.length = j + f → CG a b l f j = e → st.s 0 = .slice na ta (Aj a) → st.s 1 = .slice nb tb (Aj b) → st.s 19 = d19 → st.s 20 = .int .i64 i → st.s 23 = .slice nl t (Aj l) → st.s 24 = .int .i64 (l.length : Int) → st.s 25 = .int .i64 (j : Int) → AV S ns dc114l0 Q st g := by
 intro f
 induction f with
 | zero =>
  intro j st g hf he h0 h1 h19 h20 h23 h24 h25
  refine Ad dc114l0.eq_1 ?_
  have : ¬ ((j : Int) < l.length) := by omega
  simp only [↓go1, go2, go4, reduceIte, Nat.reduceAdd, h24, h25, this]
  exact hexit _ he.symm h0 h1 h19 h20
 | succ f ih =>
  intro j st g hf he h0 h1 h19 h20 h23 h24 h25
  refine Ad dc114l0.eq_1 ?_
  unfold CG at he
  have hj : j < l.length := by omega
  have hlt : ((j : Int) < l.length) := by omega
  have hj0 : (0 : Int) ≤ (j : Int) := by omega
  have hw : IntKind.i64.wrap ((j : Int) + 1) = ((j + 1 : Nat) : Int) := w64 (by omega) (by omega)
  have hat : (Aj l)[j]? = some (.agg [.str (Bf l j).1, .int .u8 (Bf l j).2]) := CD hj
  have hq := prefB_at hpl hj
  unfold oneC at he
  generalize Bf l j = r at hat hq he
  obtain ⟨q, k⟩ := r
  simp only at hat hq he
  have e95 := F95_eq (nl := na) (t := []) (s := q) la
  have ba := capsP_b (s := q) ca
  have e215 := F215_eq (nl := nb) (t := []) (s := q) lb cb pb hq ba.1 ba.2
  unfold EJ at e215
  generalize hasB (BQ b q).toNat (BQ a q).toNat = hh at he e215
  obtain ⟨st_s, st_m, st_c⟩ := st
  simp only at h0 h1 h19 h20 h23 h24 h25
  cases hh with
  | true =>
   rw [if_pos rfl] at he
   simp only [↓go1, gB0, reduceIte, Nat.reduceEqDiff, Nat.reduceAdd, h0, h1, h23, h24, h25, hlt, hj0, Int.toNat_natCast, hat, Aa s95, e95, Aa s215, e215, Ac, Ag, Ah, Nat.reduceLT, Nat.reduceLeDiff, Option.bind_some, List.take_succ_cons, List.take_zero, Option.isSome_some]
   refine AA.intro (Al rfl) ?_
   simp only [↓go1, go2, go3, reduceIte, Nat.reduceEqDiff, Nat.reduceAdd, h25, hw]
   exact ih (j + 1) _ _ (by omega) he h0 h1 h19 h20 h23 h24 rfl
  | false =>
   rw [if_neg (by simp)] at he
   simp only [↓go1, gB0, reduceIte, Nat.reduceEqDiff, Nat.reduceAdd, h0, h1, h23, h24, h25, hlt, hj0, Int.toNat_natCast, hat, Aa s95, e95, Aa s215, e215, Ac, Ag, Ah, Nat.reduceLT, Nat.reduceLeDiff, Option.bind_some, List.take_succ_cons, List.take_zero, Option.isSome_some]
   refine AA.intro (Al rfl) ?_
   simp only [↓go1, go2, go3, reduceIte, Nat.reduceEqDiff, Nat.reduceAdd]
   exact hret _ he.symm rfl
theorem ok114 : (Ai F118).ok Tryz.prog 114 := by
 obtain ⟨S, hS, hl⟩ := AJ (Ab ok214 (Ab ok95 (Ab ok215 Ae)))
 have s214 := hl 214 _ rfl
 have s95 := hl 95 _ rfl
 have s215 := hl 215 _ rfl
 clear hl
 refine As (S := S) hS fn114 (fun ds r h => ?_) (fun ds r h => ?_)
 ·obtain ⟨na, ta, a, nb, tb, b, rfl, _⟩ := F118_inv h
  simp
 ·obtain ⟨na, ta, a, nb, tb, b, rfl, la, lb, pa, pb, ca, cb, rfl⟩ := F118_inv h
  have ea := Fpol_eq (nl := na) (t := []) la pa
  have eb := Fpol_eq (nl := nb) (t := []) lb pb
  have halla := Cw a
  have hallb := Cw b
  have huna := DL a
  have hunb := DL b
  unfold dc114 CV
  generalize Cm a = xa at *
  generalize Cm b = xb at *
  by_cases hxa : xa = 0
  ·by_cases hxb : xb = 0
   ·subst hxa hxb
    have z2 : ((2 : Nat) : Int) = 2 := rfl
    have w1 : IntKind.i64.wrap ((0 : Int) + 1) = 1 := w64 (by omega) (by omega)
    have w2 : IntKind.i64.wrap ((1 : Int) + 1) = 2 := w64 (by omega) (by omega)
    rw [List.all_append]
    have ha : a.all (oneC a b) = CG a b a a.length 0 := by rw [DV _ _ _ _ _ (by omega)]; rfl
    have hb : b.all (oneC a b) = CG a b b b.length 0 := by rw [DV _ _ _ _ _ (by omega)]; rfl
    rw [ha, hb]
    simp only [↓go1, gB1, reduceIte, Nat.reduceEqDiff, Nat.reduceAdd, Aa s214, ea, eb, A2, Bt, Nat.reduceLeDiff, and_self, List.take_succ_cons, List.take_zero, List.drop_zero, List.drop_succ_cons]
    refine Ad dc114l1.eq_1 ?_
    simp only [↓go1, go2, go4, reduceIte, Nat.reduceEqDiff, Nat.reduceAdd, An, z2, Int.reduceLT, Int.toNat_zero, Int.le_refl, List.getElem?_cons_zero, and_self]
    refine loop114i (a := a) (b := b) (l := a) (e := CG a b a a.length 0) s95 s215 la lb pb ca cb la pa (fun st h1 h2 => ?_) (fun st he h0 h1 h19 h20 => ?_) a.length 0 _ _ (by omega) rfl rfl rfl rfl rfl rfl rfl rfl
    ·simp only [↓go1, go2, go3, go4, h1, h2, Bool.false_and, Bool.and_false]
    ·simp only [↓go1, go2, go3, go4, reduceIte, Nat.reduceEqDiff, Nat.reduceAdd, h20, he, w1]
     refine Ad dc114l1.eq_1 ?_
     simp only [↓go1, go2, go4, reduceIte, Nat.reduceEqDiff, Nat.reduceAdd, h19, h20, An, z2, Int.reduceLT, Int.toNat_one, Int.reduceLE, List.getElem?_cons_zero, List.getElem?_cons_succ, and_self]
     refine loop114i (a := a) (b := b) (l := b) (e := CG a b b b.length 0) s95 s215 la lb pb ca cb lb pb (fun st h1 h2 => ?_) (fun st he2 h0 h1 h19 h20 => ?_) b.length 0 _ _ (by omega) rfl h0 h1 h19 rfl rfl rfl rfl
     ·simp only [↓go1, go2, go3, go4, h1, h2, he, Bool.and_false]
     ·simp only [↓go1, go2, go3, go4, reduceIte, Nat.reduceEqDiff, Nat.reduceAdd, h20, he, he2, w2]
      refine Ad dc114l1.eq_1 ?_
      simp only [↓go1, go2, go3, go4, reduceIte, Nat.reduceEqDiff, Nat.reduceAdd, h20, he, he2, Int.lt_irrefl]
   ·simp only [↓go1, go2, go3, go4, reduceIte, Nat.reduceEqDiff, Nat.reduceAdd, Aa s214, ea, eb, hxb, hxa]
    try simp
  ·simp only [↓go1, go2, go3, go4, reduceIte, Nat.reduceEqDiff, Nat.reduceAdd, Aa s214, ea, hxa]
   try simp
def El (l : List Tk) (k : Tk) : Option (List Tk) × Int :=
 if tokE k.1 k.2.1 k.2.2.2 ≠ 0 then (none, tokE k.1 k.2.1 k.2.2.2) else if k.2.1 = [] then (none, 2) else if A9 l k.1 = true then (none, 20) else if A9 l k.2.1 = false then (none, 6)
 else if CV k.2.2.2 (AO l (bsE l k.2.1)).2.2.2 = false then (none, 13) else (some (withT l k), 0)
def setD (nl : Bool) (l : List Tk) (o : Option (List Tk)) : D := match o with
 | none => .agg [.slice nl [] (AC l)]
 | some l' => .agg [.slice false [] (AC l')]
def DN (l : List Rl) : Prop := l.length ≤ 1000000 ∧ Bu l ∧ Da l
open Classical in
noncomputable def F50 : List D → Option D
 | [.agg [.slice nl0 _ xs], .agg [.str n, .str p, .slice nl _ ys]] => if (Df xs ∧ xs.length ≤ 90000 ∧ ∀ k ∈ BD xs, DN k.2.2.2) ∧ rlsOk nl ys ∧ DN (A0 ys) ∧ n.length ≤ 1000000 ∧ p.length ≤ 1000000
   then some (.tup [setD nl0 (BD xs) (El (BD xs) (n, p, nl, A0 ys)).1, .int .i64 (El (BD xs) (n, p, nl, A0 ys)).2]) else none
 | _ => none
theorem ok50 : (Ai F50).ok Tryz.prog 50 := by
 obtain ⟨S, hS, hl⟩ := AJ (Ab ok113 (Ab ok93 (Ab ok114 (Ab ok115 Ae))))
 have s113 := hl 113 _ rfl
 have s93 := hl 93 _ rfl
 have s114 := hl 114 _ rfl
 have s115 := hl 115 _ rfl
 clear hl
 refine As (S := S) hS fn50 (fun ds r h => ?_) (fun ds r h => ?_)
 ·unfold F50 at h; split at h
  ·simp
  ·cases h
 ·unfold F50 at h; split at h
  ·rename_i nl0 t0 xs n p nl t ys
   split at h
   ·rename_i hc
    obtain ⟨⟨hc, h9, hk⟩, hr, hpo, hn, hp⟩ := hc
    obtain ⟨l, rfl, hl, e⟩ := CO hc
    obtain ⟨rs, rfl, hrl, hrn, e2⟩ := Ef hr
    rw [e, e2] at h
    rw [e] at hk
    rw [e2] at hpo
    rw [AI] at h9
    simp only [Option.some.injEq] at h
    subst h
    have h113 := F113_eq (n := n) (p := p) (nl := nl) (t := []) hrl hpo.2.1 hn hp
    have h93n := F93_eq (nl := nl0) (t := []) (s := n) hl
    have h93p := F93_eq (nl := nl0) (t := []) (s := p) hl
    have h115 := F115_eq (nl0 := nl0) (t0 := []) (n := n) (p := p) (t := []) h9 hrl hrn
    unfold dc50 El
    simp only
    generalize tokE n p rs = e at *
    by_cases he : e = 0
    ·subst he
     by_cases hp0 : p = []
     ·subst hp0
      simp only [↓go1, gB0, reduceIte, Nat.reduceEqDiff, Nat.reduceAdd, Ac, Ag, Ah, Nat.reduceLT, Option.bind_some, Option.isSome_some, List.cons.injEq, Nat.zero_ne_one, and_false, Nat.succ_ne_zero, AE, A3, Nat.reduceEqDiff, Aa s113, h113, ne_eq]
      simp [setD]; rfl
     ·cases h1 : A9 l n with
      | true =>
       rw [h1] at h93n
       simp only [↓go1, gB0, reduceIte, Nat.reduceEqDiff, Nat.reduceAdd, Ac, Ag, Ah, Nat.reduceLT, Option.bind_some, Option.isSome_some, List.cons.injEq, Nat.zero_ne_one, and_false, Nat.succ_ne_zero, AE, A3, Nat.reduceEqDiff, Aa s113, h113, Aa s93, h93n, ne_eq, hp0]
       simp [setD]; rfl
      | false =>
       rw [h1] at h93n
       cases h2 : A9 l p with
       | false =>
        rw [h2] at h93p
        simp only [↓go1, gB0, reduceIte, Nat.reduceEqDiff, Nat.reduceAdd, Ac, Ag, Ah, Nat.reduceLT, Option.bind_some, Option.isSome_some, List.cons.injEq, Nat.zero_ne_one, and_false, Nat.succ_ne_zero, AE, A3, Nat.reduceEqDiff, Aa s113, h113, Aa s93, h93n, h93p, ne_eq, hp0]
        simp [setD]; rfl
       | true =>
        have hi : bsE l p < l.length := by
         unfold A9 at h2
         rw [Bool.and_eq_true, decide_eq_true_iff] at h2
         exact h2.1
        rw [h2] at h93p
        generalize bsE l p = i at h93p hi
        have hi0 : (0 : Int) ≤ (i : Int) := by omega
        have hat := CC (l := l) (j := i) hi
        have hm : AO l i ∈ l := by simp [AO, List.getElem?_eq_getElem hi]
        have hlk := hk _ hm
        generalize AO l i = k at hat hlk
        obtain ⟨n2, p2, nl2, rs2⟩ := k
        replace hat : (AC l)[i]? = some (.agg [.str n2, .str p2, .slice nl2 [] (Aj rs2)]) := hat
        have h114 := F118_eq (na := nl) (nb := nl2) (ta := []) (tb := []) hrl hlk.1 hpo.2.1 hlk.2.1 hpo.2.2 hlk.2.2
        simp only at h114
        cases h3 : CV rs rs2 with
        | false =>
         rw [h3] at h114
         simp only [↓go1, gB0, reduceIte, Nat.reduceEqDiff, Nat.reduceAdd, Ac, Ag, Ah, Nat.reduceLT, Nat.reduceLeDiff, Option.bind_some, List.drop_zero, List.drop_succ_cons, List.head?_cons, List.cons.injEq, Nat.zero_ne_one, and_false, Nat.succ_ne_zero, Nat.reduceEqDiff, Aa s113, h113, Aa s93, h93n, h93p, ne_eq, hp0, hi0, hat, Int.toNat_natCast, Aa s114, h114]
         refine AA.intro (Al rfl) ?_
         simp only [↓go1, gB1, reduceIte, Nat.reduceEqDiff, Nat.reduceAdd, Ac, Ag, Ah, Nat.zero_le, Nat.reduceLT, Nat.sub_zero, List.getElem?_cons_zero, and_self, Option.bind_some, Option.isSome_some, List.cons.injEq, Nat.zero_ne_one, Nat.succ_ne_zero, AE, A3, Nat.reduceEqDiff, hp0]
         simp [setD]; rfl
        | true =>
         rw [h3] at h114
         simp only [↓go1, gB0, reduceIte, Nat.reduceEqDiff, Nat.reduceAdd, Ac, Ag, Ah, Nat.reduceLT, Nat.reduceLeDiff, Option.bind_some, List.drop_zero, List.drop_succ_cons, List.head?_cons, List.cons.injEq, Nat.zero_ne_one, and_false, Nat.succ_ne_zero, Nat.reduceEqDiff, Aa s113, h113, Aa s93, h93n, h93p, ne_eq, hp0, hi0, hat, Int.toNat_natCast, Aa s114, h114]
         refine AA.intro (Al rfl) ?_
         simp only [↓go1, gB0, reduceIte, Nat.reduceEqDiff, Nat.reduceAdd, Ac, Ag, Ah, Nat.reduceLT, Option.bind_some, Option.isSome_some, List.cons.injEq, Nat.zero_ne_one, and_false, Nat.succ_ne_zero, AE, A3, Nat.reduceEqDiff, Aa s115, h115, hp0]
         simp [setD]; rfl
    ·simp only [↓go1, gB0, reduceIte, Nat.reduceEqDiff, Nat.reduceAdd, Ac, Ag, Ah, Nat.reduceLT, Option.bind_some, Option.isSome_some, List.cons.injEq, Nat.zero_ne_one, and_false, Nat.succ_ne_zero, AE, A3, Nat.reduceEqDiff, Aa s113, h113, ne_eq, he]
     simp [setD]; rfl
   ·cases h
  ·cases h
theorem loop129 {S : Summs} {l : List Tk} {nl0 : Bool} {t0 : Id} {Q : Ex → St → Prop} (hb : l.length ≤ 1000000)
  (hexit : ∀ st nl t, nl = decide (l.length = 0) → st.s 3 = .slice nl t (l.map fun k => .str k.1) → Q (.exit 0) st) :
  ∀ (f j : Nat) nl t st g, l.length = j + f → nl = decide (j = 0) → Gw st.m st.c 9 nl t → st.s 3 = .slice nl t ((l.take j).map fun k => .str k.1) → st.s 7 = .slice nl0 t0 (AC l) → st.s 8 = .int .i64 (l.length : Int) → st.s 9 = .int .i64 (j : Int) → AV S [] dc129l0 Q st g := by
 intro f
 induction f with
 | zero =>
  intro j nl t st g hf hn hG h3 h7 h8 h9
  refine Ad dc129l0.eq_1 ?_
  have : ¬ ((j : Int) < l.length) := by omega
  simp only [↓go1, go2, go4, reduceIte, Nat.reduceAdd, h8, h9, this]
  refine hexit _ nl t (by rw [hn, show j = l.length by omega]) ?_
  rw [show j = l.length by omega, List.take_length] at h3
  exact h3
 | succ f ih =>
  intro j nl t st g hf hn hG h3 h7 h8 h9
  refine Ad dc129l0.eq_1 ?_
  have hj : j < l.length := by omega
  have hlt : ((j : Int) < l.length) := by omega
  have hj0 : (0 : Int) ≤ (j : Int) := by omega
  have hw : IntKind.i64.wrap ((j : Int) + 1) = ((j + 1 : Nat) : Int) := w64 (by omega) (by omega)
  have hat := CC (l := l) (j := j) hj
  have htk : (l.take (j + 1)).map (fun k : Tk => D.str k.1) = (l.take j).map (fun k : Tk => D.str k.1) ++ [.str (AO l j).1] := by
   rw [List.take_succ_eq_append_getElem hj, List.map_append]; simp [AO, List.getElem?_eq_getElem hj]
  have hal : ((l.take j).map (fun k : Tk => D.str k.1)).length = j := by simp; omega
  have hnil : nl = true → (l.take j).map (fun k : Tk => D.str k.1) = [] := by
   rw [hn]; intro h; have : j = 0 := by simpa using h
   subst this; rfl
  generalize (l.take j).map (fun k : Tk => D.str k.1) = acc at h3 htk hal hnil
  generalize AO l j = k at hat htk
  obtain ⟨n, p, knl, rs⟩ := k
  replace hat : (AC l)[j]? = some (.agg [.str n, .str p, .slice knl [] (Aj rs)]) := hat
  obtain ⟨st_s, st_m, st_c⟩ := st
  simp only at h3 h7 h8 h9 hG htk
  simp only [↓go1, gB0, reduceIte, Nat.reduceEqDiff, Nat.reduceAdd, h3, h7, h8, h9, hlt, hj0, Int.toNat_natCast, hat, reduceCtorEq, Ac, Ag, Ah, Nat.reduceLT, Nat.reduceLeDiff, Option.bind_some, List.take_succ_cons, List.take_zero, Option.isSome_some, and_false]
  refine AA.intro ⟨by omega, rfl, ?_⟩ ?_
  ·first
    | exact (((hG.put (by omega)).put (by omega)).more (by omega)).grow (by omega)
    | exact (Gw.put (Gw.put hG (by omega)) (by omega)).grow (by omega)
  rw [C3 hnil, ← htk]
  simp only [↓go1, go2, go3, go4, reduceIte, Nat.reduceEqDiff, Nat.reduceAdd, h9, hw]
  refine ih (j + 1) false _ _ _ (by omega) (by simp) ?_ rfl h7 h8 rfl
  exact Gw.new (by simp only; omega)
open Classical in
noncomputable def F129 : List D → Option D
 | [.agg [.slice _ _ xs]] => if Df xs then some (.slice (decide ((BD xs).length = 0)) [] ((BD xs).map fun k => .str k.1)) else none
 | _ => none
theorem ok129 : (Ai F129).ok Tryz.prog 129 := by
 refine As (S := fun _ => none) Au fn129 (fun ds r h => ?_) (fun ds r h => ?_)
 ·unfold F129 at h; split at h
  ·simp
  ·cases h
 ·unfold F129 at h; split at h
  ·rename_i nl t xs
   split at h
   ·rename_i hc
    obtain ⟨l, rfl, hl, e⟩ := CO hc
    rw [e] at h
    simp only [Option.some.injEq] at h
    subst h
    unfold dc129
    simp only [↓go1, go2, go3, reduceIte, Nat.reduceEqDiff, Nat.reduceAdd, AI, Ac, Nat.zero_le, Nat.reduceLT, Nat.sub_zero, List.length_cons, List.length_nil, Nat.zero_add, List.getElem?_cons_zero, and_self]
    refine loop129 (l := l) (nl0 := nl) (t0 := t) hl (fun st nl' t' h1 h2 => ?_) l.length 0 true [] _ _ (by omega) (by simp) (.inl rfl) rfl rfl rfl rfl
    simp only [↓go1, go2, go3, go4, reduceIte, Nat.reduceEqDiff, Nat.reduceAdd, h2]
    rw [h1]
    first | done | rfl | exact ⟨rfl, rfl⟩
   ·cases h
  ·cases h
end Go.Vd
namespace Go.Vd
open Go.Proofs
def dc146 : DC := (sr [oo 1 (.box (.t 0)), oo 2 (.mv (.c (.slice true [] [])))] (sr [ff 3 0 1, ll 4 3, cc 5 253 [(.t 4)], mm 2 5] .ret))
theorem fn146 : Fn Tryz.prog 146 6 dc146 [.t 2] := Ao Tryz.func146
def dc253 : DC := (sr [oo 2 (.mv (.c (.slice true [] [])))] (.seq (sr [mm 3 0, oo 4 (.nileq false 0 (.t 3) (.c (.slice true [] [])))] (cd 4 (sr [oo 2 (.mv (.c (.slice true [] [])))] .ret) .skip)) (sr [oo 5 (.bslice 124 3 []), mm 6 0, oo 7 (.app 124 3 32 (.t 5) (.t 6)), mm 2 7] .ret)))
theorem fn253 : Fn Tryz.prog 253 8 dc253 [.t 2] := Ao Tryz.func253
def dc148l0 : DC := (sr [bt 10 .lss 9 8] (.seq (cd 10 .skip (.exit 0)) (.seq (.block 1 (sr [ii 11 3 7 9, lk 12 3 11, oo 5 (.alloc [(.str []), (.int .i64 0), (.bool false)]), oz (.store 3 (.t 5) (.t 12))] (.row [mm 13 3, ff 14 0 5, ll 15 14, nn 16 true 15, oo 17 (.bin .add (.c (.int .i64 4)) (.t 16)), bt 18 .add 13 17, mm 3 18]))) (.row [bi 19 .add 9 1, mm 9 19]))))
def dc148 : DC := (sr [oo 1 (.box (.t 0)), ci 2 0] (sr [ci 3 0] (.seq (sr [ff 6 0 1, ll 7 6, nn 8 false 7, ci 9 0] (.block 0 (.loop dc148l0))) (sr [mm 20 3, mm 2 20] .ret))))
theorem fn148 : Fn Tryz.prog 148 21 dc148 [.t 2] := Ao Tryz.func148
def dc158 : DC := (sr [oo 2 (.box (.t 0)), oo 4 (.alloc [(.str []), (.int .i64 0), (.bool false)]), ci 5 0] (sr [lk 7 1 2, mm 8 1, cc 9 103 [(.t 7), (.t 8)], mm 6 9] (.seq (sr [mm 10 6, bi 11 .lss 10 0] (cd 11 (sr [oo 12 (.build [(.str []), (.int .i64 0), (.bool false)] []), oz (.store 3 (.t 4) (.t 12)), ci 5 14] .ret) .skip)) (sr [ff 13 0 2, ll 14 13, mm 15 6, ii 16 3 14 15, lk 17 3 16, oz (.store 3 (.t 4) (.t 17)), ci 5 0] .ret))))
theorem fn158 : Fn Tryz.prog 158 18 dc158 [.cell (some 3) 4, .t 5] := Ao Tryz.func158
def dc344 : DC := (sr [cb 2 false] (sr [mm 3 0, cc 4 259 [(.t 3), (.c (.int .i64 1)), (.c (.int .i64 999))], oo 5 (.un .not (.t 4)), mm 2 5] .ret))
theorem fn344 : Fn Tryz.prog 344 6 dc344 [.t 2] := Ao Tryz.func344
def dc259 : DC := (sr [cb 6 false] (sr [mm 7 0, mm 8 1, bt 9 .geq 7 8, mm 10 9, og 11 (.mv (.t 0)) 3 true, og 12 (.mv (.t 2)) 3 true, og 13 (.bin .leq (.t 11) (.t 12)) 3 true, oo 14 (.pick (.t 10) (.t 13) (.c (.bool false))), mm 6 14] .ret))
theorem fn259 : Fn Tryz.prog 259 15 dc259 [.t 6] := Ao Tryz.func259
end Go.Vd
namespace Go.Vd
open Go.Proofs Go.RowKit
def F259 : List D → Option D
 | [.int .i64 n, .int .i64 lo, .int .i64 hi] => some (.bool (decide (lo ≤ n ∧ n ≤ hi)))
 | _ => none
theorem ok259 : (Ai F259).ok Tryz.prog 259 := by
 refine As (S := fun _ => none) Au fn259 (fun ds r h => ?_) (fun ds r h => ?_)
 ·unfold F259 at h; split at h
  ·simp
  ·cases h
 ·unfold F259 at h; split at h
  ·rename_i n lo hi
   simp only [Option.some.injEq] at h
   subst h
   unfold dc259
   simp only [↓go1, go2, reduceIte, Nat.reduceEqDiff, Nat.reduceAdd]
   repeat' (first | (refine ifQ.intro (fun h => ?_) (fun h => ?_) <;> try (exfalso; omega)) | (simp only [↓go1, go2, go3, go4, reduceIte, Nat.reduceEqDiff, Nat.reduceAdd, h, and_self, false_and]))
   all_goals (simp_all <;> omega)
  ·cases h
def K344 : D → D → Option D
 | .junk, .int .i64 x => some (.bool (!decide (1 ≤ x ∧ x ≤ 999)))
 | _, _ => none
theorem clo344 : (cloS K344).ok Tryz.prog 344 := by
 obtain ⟨S, hS, hl⟩ := AJ (Ab ok259 Ae)
 have s259 := hl 259 _ rfl
 clear hl
 refine clo_ok (S := S) hS fn344 (fun x caps m fr c d hcap hF hfr hl => ⟨by omega, ?_⟩)
 unfold K344 at hF
 split at hF
 ·rename_i n
  simp only [Option.some.injEq] at hF
  subst hF
  have h259 : ∀ n lo hi, F259 [.int .i64 n, .int .i64 lo, .int .i64 hi] = some (.bool (decide (lo ≤ n ∧ n ≤ hi))) := fun _ _ _ => rfl
  unfold dc344
  simp only [↓go1, go2, go3, go4, reduceIte, Nat.reduceEqDiff, Nat.reduceAdd, Aa s259, h259]
  try exact fun i o y h => h
 ·cases hF
theorem idx388 : (idxS 344 none K344).ok Tryz.prog 388 := idx_ok (by omega) fn388 rfl clo344
theorem cn343 : (cnS 344 none K344).ok Tryz.prog 343 := cn_ok (by omega) fn343 idx388
theorem mtsD_head (l : List Mt) : D.headSz (Ar l) 3 = 3 := by cases l <;> rfl
def mtsOk (nl : Bool) (xs : List D) : Prop := xs = Ar (Bw xs) ∧ xs.length ≤ 1000000 ∧ (nl = true → xs = [])
theorem mtsOk_mk {nl : Bool} {l : List Mt} (hl : l.length ≤ 1000000) (hn : nl = true → l = []) : mtsOk nl (Ar l) := ⟨by rw [AY], by rw [Aq]; exact hl, fun h => by rw [hn h]; rfl⟩
theorem mtsOk_get {nl : Bool} {xs : List D} (h : mtsOk nl xs) : ∃ l : List Mt, xs = Ar l ∧ l.length ≤ 1000000 ∧ (nl = true → l = []) ∧ Bw xs = l := by
 refine ⟨Bw xs, h.1, ?_, fun hn => ?_, rfl⟩
 ·have := h.2.1; rw [h.1, Aq] at this; exact this
 ·rw [h.2.2 hn]; rfl
open Classical in
noncomputable def F253 : List D → Option D
 | [.slice nl _ xs] => if mtsOk nl xs then some (.slice nl [] xs) else none
 | _ => none
open Classical in
theorem F253_eq {nl : Bool} {t : Id} {l : List Mt} (hl : l.length ≤ 1000000) (hn : nl = true → l = []) : F253 [.slice nl t (Ar l)] = some (.slice nl [] (Ar l)) := by
 show (if _ then _ else _) = _
 rw [if_pos (mtsOk_mk hl hn)]
theorem ok253 : (Ai F253).ok Tryz.prog 253 := by
 refine As (S := fun _ => none) Au fn253 (fun ds r h => ?_) (fun ds r h => ?_)
 ·unfold F253 at h; split at h
  ·simp
  ·cases h
 ·unfold F253 at h; split at h
  ·rename_i nl t xs
   split at h
   ·rename_i hc
    obtain ⟨l, rfl, hl, hn, e⟩ := mtsOk_get hc
    simp only [Option.some.injEq] at h
    subst h
    have n1 : (Ar l).length * 33 ≤ 140737488355328 := by rw [Aq]; omega
    unfold dc253
    cases nl with
    | true =>
     have := hn rfl
     subst this
     simp only [↓go1, go2, go3, go4, reduceIte, Nat.reduceEqDiff, Nat.reduceAdd, bne_tf, reduceCtorEq, nilEq]
     rfl
    | false => simp only [↓go1, gB1, reduceIte, Nat.reduceEqDiff, Nat.reduceAdd, Ac, Nat.zero_le, Nat.reduceLT, Nat.sub_zero, List.getElem?_cons_zero, and_self, false_and, bne_ff, n1, mtsD_head, DA, C_, false_or, List.nil_append, ne_eq, reduceCtorEq, List.map_nil, List.all_nil, nilEq]
   ·cases h
  ·cases h
open Classical in
noncomputable def F146 : List D → Option D
 | [.agg [.slice nl _ xs]] => if mtsOk nl xs then some (.slice nl [] xs) else none
 | _ => none
theorem ok146 : (Ai F146).ok Tryz.prog 146 := by
 obtain ⟨S, hS, hl⟩ := AJ (Ab ok253 Ae)
 have s253 := hl 253 _ rfl
 clear hl
 refine As (S := S) hS fn146 (fun ds r h => ?_) (fun ds r h => ?_)
 ·unfold F146 at h; split at h
  ·simp
  ·cases h
 ·unfold F146 at h; split at h
  ·rename_i nl t xs
   split at h
   ·rename_i hc
    obtain ⟨l, rfl, hl, hn, e⟩ := mtsOk_get hc
    simp only [Option.some.injEq] at h
    subst h
    have h253 := F253_eq (t := []) hl hn
    unfold dc146
    simp only [↓go1, gB1, reduceIte, Nat.reduceEqDiff, Nat.reduceAdd, Ac, Nat.zero_le, Nat.reduceLT, Nat.sub_zero, List.getElem?_cons_zero, and_self, Aa s253, h253]
   ·cases h
  ·cases h
theorem firstT_lt (bs : List Bool) : Bq bs < bs.length := by
 unfold Bq
 cases h : bs.findIdx? id with
 | none => simp only; omega
 | some k =>
  rw [List.findIdx?_eq_some_iff_getElem] at h
  obtain ⟨hk, _⟩ := h
  simp only; omega
theorem findE_lt (l : List Mt) (p : Bs) : Cg l p < l.length := by
 have := firstT_lt (l.map fun m => decide (m.1 = p))
 rw [List.length_map] at this; exact this
open Classical in
noncomputable def F158 : List D → Option D
 | [.agg [.slice _ _ xs], .str p] => if xs = Ar (Bw xs) ∧ xs.length ≤ 1000000 then some (.tup (if Cg (Bw xs) p < 0 then [mtD ([], 0, false), .int .i64 14] else [mtD (AQ (Bw xs) (Cg (Bw xs) p).toNat), .int .i64 0])) else none
 | _ => none
theorem ok158 : (Ai F158).ok Tryz.prog 158 := by
 obtain ⟨S, hS, hl⟩ := AJ (Ab ok103 Ae)
 have s103 := hl 103 _ rfl
 clear hl
 refine As (S := S) hS fn158 (fun ds r h => ?_) (fun ds r h => ?_)
 ·unfold F158 at h; split at h
  ·simp
  ·cases h
 ·unfold F158 at h; split at h
  ·rename_i nl t xs p
   split at h
   ·rename_i hc
    obtain ⟨hx, hl⟩ := hc
    simp only [Option.some.injEq] at h
    subst h
    generalize Bw xs = l at hx
    subst hx
    rw [Aq] at hl
    have h103 := F103_eq (nl := nl) (t := []) (p := p) hl
    have hlt := findE_lt l p
    unfold dc158
    generalize Cg l p = i at h103 hlt
    by_cases hi : i < 0
    ·simp only [↓go1, gB0, reduceIte, Nat.reduceEqDiff, Nat.reduceAdd, Ac, Ag, Ah, Nat.reduceLT, Option.bind_some, Option.isSome_some, List.cons.injEq, Nat.zero_ne_one, Nat.one_ne_zero, and_false, AE, A3, A2, Aa s103, h103, hi]
     simp [mtD]; rfl
    ·obtain ⟨j, rfl⟩ := Int.eq_ofNat_of_zero_le (show 0 ≤ i by omega)
     have hj : j < l.length := by omega
     have hj0 : (0 : Int) ≤ (j : Int) := by omega
     have hat : (Ar l)[j]? = some (.agg [.str (AQ l j).1, .int .i64 (AQ l j).2.1, .bool (AQ l j).2.2]) := Cp hj
     simp only [↓go1, gB0, reduceIte, Nat.reduceEqDiff, Nat.reduceAdd, Ac, Ag, Ah, Nat.reduceLT, Nat.reduceLeDiff, Option.bind_some, List.take_succ_cons, List.take_zero, Option.isSome_some, List.cons.injEq, Nat.zero_ne_one, Nat.one_ne_zero, and_false, AE, A3, Aa s103, h103, hi, hj0, hat, Int.toNat_natCast]
     simp [mtD]; rfl
   ·cases h
  ·cases h
def lenR (l : List Mt) : Nat → Nat → Nat → Nat
 | 0, _, a => a
 | f + 1, j, a => lenR l f (j + 1) (a + (4 + (AQ l j).1.length))
def lenM (l : List Mt) : Nat := lenR l l.length 0 0
theorem loop148 {S : Summs} {ns : Id} {l : List Mt} {nl : Bool} {t : Id} {Q : Ex → St → Prop} {e : Nat} (hb : l.length ≤ 1000) (hp : ∀ m ∈ l, m.1.length ≤ 1000000)
  (hexit : ∀ st, st.s 3 = .int .i64 (e : Int) → Q (.exit 0) st) :
  ∀ (f j a : Nat) st g, l.length = j + f → a ≤ j * 1000004 → lenR l f j a = e → st.s 3 = .int .i64 (a : Int) → st.s 7 = .slice nl t (Ar l) → st.s 8 = .int .i64 (l.length : Int) → st.s 9 = .int .i64 (j : Int) → AV S ns dc148l0 Q st g := by
 intro f
 induction f with
 | zero =>
  intro j a st g hf ha he h3 h7 h8 h9
  refine Ad dc148l0.eq_1 ?_
  have : ¬ ((j : Int) < l.length) := by omega
  simp only [↓go1, go2, go4, reduceIte, Nat.reduceAdd, h8, h9, this]
  exact hexit _ (by rw [← he]; exact h3)
 | succ f ih =>
  intro j a st g hf ha he h3 h7 h8 h9
  refine Ad dc148l0.eq_1 ?_
  unfold lenR at he
  have hj : j < l.length := by omega
  have hlt : ((j : Int) < l.length) := by omega
  have hj0 : (0 : Int) ≤ (j : Int) := by omega
  have hw : IntKind.i64.wrap ((j : Int) + 1) = ((j + 1 : Nat) : Int) := w64 (by omega) (by omega)
  have hat : (Ar l)[j]? = some (.agg [.str (AQ l j).1, .int .i64 (AQ l j).2.1, .bool (AQ l j).2.2]) := Cp hj
  have hm : AQ l j ∈ l := by simp [AQ, List.getElem?_eq_getElem hj]
  have hpl := hp _ hm
  generalize AQ l j = m at hat he hpl
  have hw2 : IntKind.i64.wrap ((4 : Int) + (m.1.length : Int)) = ((4 + m.1.length : Nat) : Int) := by rw [w64 (by omega) (by omega)]; omega
  have hw3 : IntKind.i64.wrap ((a : Int) + ((4 + m.1.length : Nat) : Int)) = ((a + (4 + m.1.length) : Nat) : Int) := by rw [w64 (by omega) (by omega)]; omega
  obtain ⟨st_s, st_m, st_c⟩ := st
  simp only at h3 h7 h8 h9
  simp only [↓go1, gB0, reduceIte, Nat.reduceEqDiff, Nat.reduceAdd, h3, h7, h8, h9, hlt, hj0, hw, hw2, hw3, Int.toNat_natCast, hat, Ac, Ag, Ah, Nat.reduceLT, Nat.reduceLeDiff, Option.bind_some, List.take_succ_cons, List.take_zero, Option.isSome_some]
  exact ih (j + 1) _ _ _ (by omega) (by omega) he rfl h7 h8 rfl
open Classical in
noncomputable def F148 : List D → Option D
 | [.agg [.slice _ _ xs]] => if xs = Ar (Bw xs) ∧ xs.length ≤ 1000 ∧ ∀ m ∈ Bw xs, m.1.length ≤ 1000000 then some (.int .i64 (lenM (Bw xs) : Int)) else none
 | _ => none
theorem ok148 : (Ai F148).ok Tryz.prog 148 := by
 refine As (S := fun _ => none) Au fn148 (fun ds r h => ?_) (fun ds r h => ?_)
 ·unfold F148 at h; split at h
  ·simp
  ·cases h
 ·unfold F148 at h; split at h
  ·rename_i nl t xs
   split at h
   ·rename_i hc
    obtain ⟨hx, hl, hp⟩ := hc
    simp only [Option.some.injEq] at h
    subst h
    generalize Bw xs = l at hx hp
    subst hx
    rw [Aq] at hl
    unfold dc148
    simp only [↓go1, go2, go3, reduceIte, Nat.reduceEqDiff, Nat.reduceAdd, Aq, Ac, Nat.zero_le, Nat.reduceLT, Nat.sub_zero, List.length_cons, List.length_nil, Nat.zero_add, List.getElem?_cons_zero, and_self]
    refine loop148 (l := l) (nl := nl) (t := t) (e := lenM l) hl hp (fun st h1 => ?_) l.length 0 0 _ _ (by omega) (by omega) rfl rfl rfl rfl rfl
    simp only [↓go1, go2, go3, go4, reduceIte, Nat.reduceEqDiff, Nat.reduceAdd, h1]
   ·cases h
  ·cases h
end Go.Vd
namespace Go.Vd
open Go.Proofs
def dc110 : DC := (sr [oo 1 (.box (.t 0)), ci 2 0] (sr [ff 4 0 1, ll 5 4, cc 6 211 [(.t 5)], mm 3 6] (.seq (sr [mm 7 3, bi 8 .neq 7 0] (cd 8 (sr [mm 9 3, mm 2 9] .ret) .skip)) (.seq (sr [ff 10 1 1, ff 11 0 10, ll 12 11, bi 13 .lss 12 1, mm 14 13, og 15 (.faddr 1 (.t 1)) 4 false, og 16 (.faddr 0 (.t 15)) 4 false, og 17 (.load none (.t 16)) 4 false, og 18 (.bin .gtr (.t 17) (.c (.int .i64 6))) 4 false, oo 19 (.pick (.t 14) (.c (.bool true)) (.t 18))] (cd 19 (sr [ci 2 2] .ret) .skip)) (sr [ci 2 0] .ret)))))
theorem fn110 : Fn Tryz.prog 110 20 dc110 [.t 2] := Ao Tryz.func110
def dc74l0 : DC := (.seq (sr [mm 6 5, mm 7 0, nn 8 false 7, bt 9 .lss 6 8] (cd 9 .skip (.exit 0))) (.seq (.block 1 (sr [mm 12 0, mm 13 5, ii 14 3 12 13, ff 15 0 14, ll 16 15, mm 17 1, bt 18 .eql 16 17] (cd 18 (sr [mm 19 5, mm 4 19] .ret) .skip))) (.row [mm 10 5, bi 11 .add 10 1, mm 5 11])))
def dc74 : DC := (sr [ci 4 0] (.seq (sr [ci 5 0] (.block 0 (.loop dc74l0))) (sr [oo 4 (.mv (.c (.int .i64 (-1))))] .ret)))
theorem fn74 : Fn Tryz.prog 74 20 dc74 [.t 4] := Ao Tryz.func74
def dc73l0 : DC := (.seq (sr [mm 6 5, mm 7 0, nn 8 false 7, bt 9 .lss 6 8] (cd 9 .skip (.exit 0))) (.seq (.block 1 (sr [mm 12 1, mm 13 0, mm 14 5, ii 15 3 13 14, ff 16 0 15, ll 17 16, cc 18 165 [(.t 12), (.t 17)]] (cd 18 (sr [mm 19 5, mm 4 19] .ret) .skip))) (.row [mm 10 5, bi 11 .add 10 1, mm 5 11])))
def dc73 : DC := (sr [ci 4 0] (.seq (sr [ci 5 0] (.block 0 (.loop dc73l0))) (sr [oo 4 (.mv (.c (.int .i64 (-1))))] .ret)))
theorem fn73 : Fn Tryz.prog 73 20 dc73 [.t 4] := Ao Tryz.func73
def dc116 : DC := (sr [oo 1 (.box (.t 0)), ci 2 0] (.seq (sr [ff 4 0 1, ll 5 4, cc 6 217 [(.t 5)], oo 7 (.un .not (.t 6))] (cd 7 (sr [ci 2 2] .ret) .skip)) (sr [ff 8 2 1, ll 9 8, cc 10 218 [(.t 9)], mm 3 10] (.seq (sr [mm 11 3, bi 12 .neq 11 0] (cd 12 (sr [mm 13 3, mm 2 13] .ret) .skip)) (.seq (sr [ff 14 1 1, ll 15 14, oo 16 (.bin .eql (.t 15) (.c (.str []))), mm 17 16, og 18 (.faddr 0 (.t 1)) 3 true, og 19 (.load none (.t 18)) 3 true, og 20 (.bin .eql (.t 19) (.c (.str [114, 111, 111, 116]))) 3 true, oo 21 (.pick (.t 17) (.t 20) (.c (.bool false))), mm 22 21, og 23 (.faddr 1 (.t 1)) 8 false, og 24 (.load none (.t 23)) 8 false, og 25 (.call (.c (.fn 217 [])) [(.t 24)]) 8 false, og 26 (.mv (.t 25)) 8 false, og 27 (.faddr 1 (.t 1)) 12 true, og 28 (.load none (.t 27)) 12 true, og 29 (.faddr 0 (.t 1)) 12 true, og 30 (.load none (.t 29)) 12 true, og 31 (.bin .neq (.t 28) (.t 30)) 12 true, og 32 (.pick (.t 26) (.t 31) (.c (.bool false))) 8 false, oo 33 (.pick (.t 22) (.c (.bool true)) (.t 32))] (cd 33 (sr [ci 2 0] .ret) .skip)) (sr [ci 2 2] .ret))))))
theorem fn116 : Fn Tryz.prog 116 34 dc116 [.t 2] := Ao Tryz.func116
def dc117l0 : DC := (.seq (sr [mm 6 5, mm 7 0, nn 8 false 7, bt 9 .lss 6 8] (cd 9 .skip (.exit 0))) (.seq (.block 1 (sr [mm 12 0, mm 13 5, ii 14 3 12 13, ff 15 0 14, ll 16 15, mm 17 1, bt 18 .eql 16 17] (cd 18 (sr [mm 19 5, mm 4 19] .ret) .skip))) (.row [mm 10 5, bi 11 .add 10 1, mm 5 11])))
def dc117 : DC := (sr [ci 4 0] (.seq (sr [ci 5 0] (.block 0 (.loop dc117l0))) (sr [oo 4 (.mv (.c (.int .i64 (-1))))] .ret)))
theorem fn117 : Fn Tryz.prog 117 20 dc117 [.t 4] := Ao Tryz.func117
end Go.Vd
namespace Go.Vd
open Go.Proofs Go.RowKit
def F110 : List D → Option D
 | [.agg [.str p, .int .i64 q, .bool b]] => if p.length ≤ 1000000 then some (.int .i64 (CT p q)) else none
 | _ => none
theorem ok110 : (Ai F110).ok Tryz.prog 110 := by
 obtain ⟨S, hS, hl⟩ := AJ (Ab ok211 Ae)
 have s211 := hl 211 _ rfl
 clear hl
 refine As (S := S) hS fn110 (fun ds r h => ?_) (fun ds r h => ?_)
 ·unfold F110 at h; split at h
  ·simp
  ·cases h
 ·unfold F110 at h; split at h
  ·rename_i p q b
   split at h
   ·rename_i hc
    simp only [Option.some.injEq] at h
    subst h
    unfold dc110
    have h211 : F211 [.str p] = some (.int .i64 (Be p)) := if_pos hc
    unfold CT
    generalize Be p = e at *
    simp only [↓go1, gB1, reduceIte, Nat.reduceEqDiff, Nat.reduceAdd, Ac, Nat.zero_le, Nat.reduceLT, Nat.sub_zero, List.getElem?_cons_zero, and_self, Aa s211, h211]
    repeat' (first | (refine ifQ.intro (fun h => ?_) (fun h => ?_) <;> try (exfalso; omega)) | (simp only [↓go1, gB0, reduceIte, Nat.reduceEqDiff, Nat.reduceAdd, h, Ac, Nat.reduceLT]))
    all_goals (first | rfl | (rw [D.int.injEq]; refine ⟨rfl, ?_⟩; (repeat' split) <;> first | rfl | (exfalso; simp_all; done) | (exfalso; simp_all; omega)))
   ·cases h
  ·cases h
theorem C0 {bs : List Bool} {j : Nat} (h : bs[j]? = some true) (hall : ∀ i, i < j → bs[i]? = some false) : Bq bs = j := by
 have hj : j < bs.length := (List.getElem?_eq_some_iff.1 h).1
 have : bs.findIdx? id = some j := by
  rw [List.findIdx?_eq_some_iff_getElem]
  refine ⟨hj, by rw [List.getElem?_eq_getElem hj] at h; simpa using h, fun i hi => ?_⟩
  have := hall i hi
  rw [List.getElem?_eq_getElem (by omega)] at this
  simp [Option.some.injEq] at this
  simp [this]
 simp only [Bq, this]
theorem DT {bs : List Bool} (hall : ∀ i, i < bs.length → bs[i]? = some false) : Bq bs = -1 := by
 have : bs.findIdx? id = none := List.findIdx?_eq_none_iff.2 fun b hb' => by
  obtain ⟨i, hi, rfl⟩ := List.getElem_of_mem hb'
  have := hall i hi
  rw [List.getElem?_eq_getElem hi] at this
  simpa using Option.some.inj this
 simp only [Bq, this]
theorem loop74 {S : Summs} {ns : Id} {l : List Mt} {p : Bs} {nl : Bool} {t : Id} {Q : Ex → St → Prop} (hb : l.length ≤ 1000000)
  (hret : ∀ st, st.s 4 = .int .i64 (Bq (l.map fun m => decide (m.1 = p))) → Q .ret st) (hexit : ∀ st, Bq (l.map fun m => decide (m.1 = p)) = -1 → Q (.exit 0) st) :
  ∀ (f j : Nat) st g, l.length = j + f → (∀ i, i < j → (l.map fun m => decide (m.1 = p))[i]? = some false) → st.s 0 = .slice nl t (Ar l) → st.s 1 = .str p → st.s 5 = .int .i64 (j : Int) → AV S ns dc74l0 Q st g := by
 intro f
 induction f with
 | zero =>
  intro j st g hf hall h0 h1 h5
  refine Ad dc74l0.eq_1 ?_
  have : ¬ ((j : Int) < l.length) := by omega
  simp only [↓go1, go2, go4, reduceIte, Nat.reduceEqDiff, Nat.reduceAdd, h0, h5, this, Aq]
  exact hexit _ (DT (by rw [List.length_map]; intro i hi; exact hall i (by omega)))
 | succ f ih =>
  intro j st g hf hall h0 h1 h5
  refine Ad dc74l0.eq_1 ?_
  have hj : j < l.length := by omega
  have hlt : ((j : Int) < l.length) := by omega
  have hj0 : (0 : Int) ≤ (j : Int) := by omega
  have hw : IntKind.i64.wrap ((j : Int) + 1) = ((j + 1 : Nat) : Int) := w64 (by omega) (by omega)
  have hat : (Ar l)[j]? = some (.agg [.str (AQ l j).1, .int .i64 (AQ l j).2.1, .bool (AQ l j).2.2]) := Cp hj
  have hbj : (l.map fun m => decide (m.1 = p))[j]? = some (decide ((AQ l j).1 = p)) := by simp [AQ, List.getElem?_eq_getElem hj]
  have hm : AQ l j ∈ l := by simp [AQ, List.getElem?_eq_getElem hj]
  generalize AQ l j = m at hat hbj
  obtain ⟨st_s, st_m, st_c⟩ := st
  simp only at h0 h1 h5
  by_cases hq : m.1 = p
  ·have hbt := hbj
   simp only [hq, decide_true] at hbt
   simp only [↓go1, gB1, reduceIte, Nat.reduceEqDiff, Nat.reduceAdd, h0, h1, h5, hlt, hj0, Int.toNat_natCast, hat, Aq, Nat.zero_le, List.drop_zero, List.head?_cons, hq]
   exact hret _ (by rw [C0 hbt hall]; rfl)
  ·have hbt := hbj
   simp only [hq, decide_false] at hbt
   simp only [↓go1, gB1, reduceIte, Nat.reduceEqDiff, Nat.reduceAdd, h0, h1, h5, hlt, hj0, hw, Int.toNat_natCast, hat, Aq, Nat.zero_le, List.drop_zero, List.head?_cons, hq]
   refine ih (j + 1) _ _ (by omega) (fun i hi => ?_) h0 h1 rfl
   rcases Nat.lt_or_eq_of_le (Nat.le_of_lt_succ hi) with hi | rfl
   ·exact hall i hi
   ·exact hbt
theorem loop73 {S : Summs} {ns : Id} {l : List Mt} {p : Bs} {nl : Bool} {t : Id} {Q : Ex → St → Prop} (hb : l.length ≤ 1000000) (s165 : S 165 = some (Ai F165)) (hp : ∀ m ∈ l, m.1.length ≤ 1000000) (hs : p.length ≤ 1000000)
  (hret : ∀ st, st.s 4 = .int .i64 (Bq (l.map fun m => Bx p m.1)) → Q .ret st) (hexit : ∀ st, Bq (l.map fun m => Bx p m.1) = -1 → Q (.exit 0) st) :
  ∀ (f j : Nat) st g, l.length = j + f → (∀ i, i < j → (l.map fun m => Bx p m.1)[i]? = some false) → st.s 0 = .slice nl t (Ar l) → st.s 1 = .str p → st.s 5 = .int .i64 (j : Int) → AV S ns dc73l0 Q st g := by
 intro f
 induction f with
 | zero =>
  intro j st g hf hall h0 h1 h5
  refine Ad dc73l0.eq_1 ?_
  have : ¬ ((j : Int) < l.length) := by omega
  simp only [↓go1, go2, go4, reduceIte, Nat.reduceEqDiff, Nat.reduceAdd, h0, h5, this, Aq]
  exact hexit _ (DT (by rw [List.length_map]; intro i hi; exact hall i (by omega)))
 | succ f ih =>
  intro j st g hf hall h0 h1 h5
  refine Ad dc73l0.eq_1 ?_
  have hj : j < l.length := by omega
  have hlt : ((j : Int) < l.length) := by omega
  have hj0 : (0 : Int) ≤ (j : Int) := by omega
  have hw : IntKind.i64.wrap ((j : Int) + 1) = ((j + 1 : Nat) : Int) := w64 (by omega) (by omega)
  have hat : (Ar l)[j]? = some (.agg [.str (AQ l j).1, .int .i64 (AQ l j).2.1, .bool (AQ l j).2.2]) := Cp hj
  have hbj : (l.map fun m => Bx p m.1)[j]? = some (Bx p (AQ l j).1) := by simp [AQ, List.getElem?_eq_getElem hj]
  have hm : AQ l j ∈ l := by simp [AQ, List.getElem?_eq_getElem hj]
  have h165 : F165 [.str p, .str (AQ l j).1] = some (.bool (Bx p (AQ l j).1)) := if_pos ⟨hs, hp _ hm⟩
  generalize AQ l j = m at hat hbj h165
  obtain ⟨st_s, st_m, st_c⟩ := st
  simp only at h0 h1 h5
  by_cases hq : Bx p m.1 = true
  ·have hbt := hbj
   simp only [hq] at hbt
   simp only [↓go1, gB1, reduceIte, Nat.reduceEqDiff, Nat.reduceAdd, h0, h1, h5, hlt, hj0, Int.toNat_natCast, hat, Aq, Nat.zero_le, List.drop_zero, List.head?_cons, Aa s165, h165, hq]
   exact hret _ (by rw [C0 hbt hall]; rfl)
  ·have hbt := hbj
   simp only [hq] at hbt
   simp only [↓go1, gB1, reduceIte, Nat.reduceEqDiff, Nat.reduceAdd, h0, h1, h5, hlt, hj0, hw, Int.toNat_natCast, hat, Aq, Nat.zero_le, List.drop_zero, List.head?_cons, Aa s165, h165, hq]
   refine ih (j + 1) _ _ (by omega) (fun i hi => ?_) h0 h1 rfl
   rcases Nat.lt_or_eq_of_le (Nat.le_of_lt_succ hi) with hi | rfl
   ·exact hall i hi
   ·exact hbt
open Classical in
noncomputable def F74 : List D → Option D
 | [.slice _ _ xs, .str p] => if xs = Ar (Bw xs) ∧ xs.length ≤ 1000000 then some (.int .i64 (Cg (Bw xs) p)) else none
 | _ => none
theorem ok74 : (Ai F74).ok Tryz.prog 74 := by
 refine As (S := fun _ => none) Au fn74 (fun ds r h => ?_) (fun ds r h => ?_)
 ·unfold F74 at h; split at h
  ·simp
  ·cases h
 ·unfold F74 at h; split at h
  ·rename_i nl t xs p
   split at h
   ·rename_i hc
    obtain ⟨hx, hl⟩ := hc
    simp only [Option.some.injEq] at h
    subst h
    generalize Bw xs = l at hx
    subst hx
    rw [Aq] at hl
    unfold dc74 Cg
    simp only [↓go1, go2, Nat.reduceAdd]
    refine loop74 (l := l) (p := p) (nl := nl) (t := t) hl (fun st h1 => ?_) (fun st h1 => ?_) l.length 0 _ _ (by omega) (by simp) rfl rfl rfl
    ·simp only [↓go1, go2, go3, go4, h1]
    ·simp only [↓go1, go2, go3, go4, reduceIte, Nat.reduceAdd, h1]
   ·cases h
  ·cases h
def BC (l : List Mt) (p : Bs) : Int := Bq (l.map fun m => Bx p m.1)
open Classical in
noncomputable def F73 : List D → Option D
 | [.slice _ _ xs, .str p] => if xs = Ar (Bw xs) ∧ xs.length ≤ 1000000 ∧ (∀ m ∈ Bw xs, m.1.length ≤ 1000000) ∧ p.length ≤ 1000000 then some (.int .i64 (BC (Bw xs) p)) else none
 | _ => none
theorem ok73 : (Ai F73).ok Tryz.prog 73 := by
 obtain ⟨S, hS, hl⟩ := AJ (Ab ok165 Ae)
 have s165 := hl 165 _ rfl
 clear hl
 refine As (S := S) hS fn73 (fun ds r h => ?_) (fun ds r h => ?_)
 ·unfold F73 at h; split at h
  ·simp
  ·cases h
 ·unfold F73 at h; split at h
  ·rename_i nl t xs p
   split at h
   ·rename_i hc
    obtain ⟨hx, hl, hm, hp⟩ := hc
    simp only [Option.some.injEq] at h
    subst h
    generalize Bw xs = l at hx hm
    subst hx
    rw [Aq] at hl
    unfold dc73 BC
    simp only [↓go1, go2, Nat.reduceAdd]
    refine loop73 (l := l) (p := p) (nl := nl) (t := t) hl s165 hm hp (fun st h1 => ?_) (fun st h1 => ?_) l.length 0 _ _ (by omega) (by simp) rfl rfl rfl
    ·simp only [↓go1, go2, go3, go4, h1]
    ·simp only [↓go1, go2, go3, go4, reduceIte, Nat.reduceAdd, h1]
   ·cases h
  ·cases h
theorem loop117 {S : Summs} {ns : Id} {l : List Tk} {p : Bs} {nl : Bool} {t : Id} {Q : Ex → St → Prop} (hb : l.length ≤ 1000000)
  (hret : ∀ st, st.s 4 = .int .i64 (Bq (l.map fun m => decide (m.1 = p))) → Q .ret st) (hexit : ∀ st, Bq (l.map fun m => decide (m.1 = p)) = -1 → Q (.exit 0) st) :
  ∀ (f j : Nat) st g, l.length = j + f → (∀ i, i < j → (l.map fun m => decide (m.1 = p))[i]? = some false) → st.s 0 = .slice nl t (AC l) → st.s 1 = .str p → st.s 5 = .int .i64 (j : Int) → AV S ns dc117l0 Q st g := by
 intro f
 induction f with
 | zero =>
  intro j st g hf hall h0 h1 h5
  refine Ad dc117l0.eq_1 ?_
  have : ¬ ((j : Int) < l.length) := by omega
  simp only [↓go1, go2, go4, reduceIte, Nat.reduceEqDiff, Nat.reduceAdd, h0, h5, this, AI]
  exact hexit _ (DT (by rw [List.length_map]; intro i hi; exact hall i (by omega)))
 | succ f ih =>
  intro j st g hf hall h0 h1 h5
  refine Ad dc117l0.eq_1 ?_
  have hj : j < l.length := by omega
  have hlt : ((j : Int) < l.length) := by omega
  have hj0 : (0 : Int) ≤ (j : Int) := by omega
  have hw : IntKind.i64.wrap ((j : Int) + 1) = ((j + 1 : Nat) : Int) := w64 (by omega) (by omega)
  have hat : (AC l)[j]? = some (.agg [.str (AO l j).1, .str (AO l j).2.1, .slice (AO l j).2.2.1 [] (Aj (AO l j).2.2.2)]) := CC hj
  have hbj : (l.map fun m => decide (m.1 = p))[j]? = some (decide ((AO l j).1 = p)) := by simp [AO, List.getElem?_eq_getElem hj]
  have hm : AO l j ∈ l := by simp [AO, List.getElem?_eq_getElem hj]
  generalize AO l j = m at hat hbj
  obtain ⟨st_s, st_m, st_c⟩ := st
  simp only at h0 h1 h5
  by_cases hq : m.1 = p
  ·have hbt := hbj
   simp only [hq, decide_true] at hbt
   simp only [↓go1, gB1, reduceIte, Nat.reduceEqDiff, Nat.reduceAdd, h0, h1, h5, hlt, hj0, Int.toNat_natCast, hat, AI, Nat.zero_le, List.drop_zero, List.head?_cons, hq]
   exact hret _ (by rw [C0 hbt hall]; rfl)
  ·have hbt := hbj
   simp only [hq, decide_false] at hbt
   simp only [↓go1, gB1, reduceIte, Nat.reduceEqDiff, Nat.reduceAdd, h0, h1, h5, hlt, hj0, hw, Int.toNat_natCast, hat, AI, Nat.zero_le, List.drop_zero, List.head?_cons, hq]
   refine ih (j + 1) _ _ (by omega) (fun i hi => ?_) h0 h1 rfl
   rcases Nat.lt_or_eq_of_le (Nat.le_of_lt_succ hi) with hi | rfl
   ·exact hall i hi
   ·exact hbt
def B8 (l : List Tk) (p : Bs) : Int := Bq (l.map fun m => decide (m.1 = p))
open Classical in
noncomputable def F117 : List D → Option D
 | [.slice _ _ xs, .str p] => if xs = AC (BD xs) ∧ xs.length ≤ 1000000 then some (.int .i64 (B8 (BD xs) p)) else none
 | _ => none
theorem ok117 : (Ai F117).ok Tryz.prog 117 := by
 refine As (S := fun _ => none) Au fn117 (fun ds r h => ?_) (fun ds r h => ?_)
 ·unfold F117 at h; split at h
  ·simp
  ·cases h
 ·unfold F117 at h; split at h
  ·rename_i nl t xs p
   split at h
   ·rename_i hc
    obtain ⟨hx, hl⟩ := hc
    simp only [Option.some.injEq] at h
    subst h
    generalize BD xs = l at hx
    subst hx
    rw [AI] at hl
    unfold dc117 B8
    simp only [↓go1, go2, Nat.reduceAdd]
    refine loop117 (l := l) (p := p) (nl := nl) (t := t) hl (fun st h1 => ?_) (fun st h1 => ?_) l.length 0 _ _ (by omega) (by simp) rfl rfl rfl
    ·simp only [↓go1, go2, go3, go4, h1]
    ·simp only [↓go1, go2, go3, go4, reduceIte, Nat.reduceAdd, h1]
   ·cases h
  ·cases h
theorem ok116 : (Ai F113).ok Tryz.prog 116 := by
 obtain ⟨S, hS, hl⟩ := AJ (Ab ok217 (Ab ok218 Ae))
 have s217 := hl 217 _ rfl
 have s218 := hl 218 _ rfl
 clear hl
 refine As (S := S) hS fn116 (fun ds r h => ?_) (fun ds r h => ?_)
 ·unfold F113 at h; split at h
  ·simp
  ·cases h
 ·unfold F113 at h; split at h
  ·rename_i n p nl t xs
   split at h
   ·rename_i hc
    obtain ⟨⟨hx, hl, hp⟩, hn, hpp⟩ := hc
    simp only [Option.some.injEq] at h
    subst h
    generalize A0 xs = l at hx hp
    subst hx
    rw [An] at hl
    have h217n : F217 [.str n] = some (.bool (BF n)) := rfl
    have h217p : F217 [.str p] = some (.bool (BF p)) := rfl
    have h218 := Fpol_eq (nl := nl) (t := []) hl hp
    have hu := DL l
    have hcl := Cw l
    unfold dc116 tokE
    generalize Cm l = e at *
    generalize BF p = bp at *
    generalize BF n = bn at *
    cases bn with
    | false => simp only [↓go1, gB1, reduceIte, Nat.reduceEqDiff, Nat.reduceAdd, Ac, Nat.zero_le, Nat.reduceLT, Nat.sub_zero, List.getElem?_cons_zero, and_self, Aa s217, h217n]
    | true =>
     simp only [↓go1, gB0, reduceIte, Nat.reduceEqDiff, Nat.reduceAdd, Ac, Nat.reduceLT, Aa s217, h217n, Aa s218, h218]
     repeat' (first | (refine ifQ.intro (fun h => ?_) (fun h => ?_) <;> try (exfalso; omega)) | (simp only [↓go1, gB0, reduceIte, Nat.reduceEqDiff, Nat.reduceAdd, h, Ac, Nat.reduceLT, false_and, and_false, Aa s217, h217p]))
     all_goals (try simp_all)
   ·cases h
  ·cases h
end Go.Vd
namespace Go.Vd
open Go.Proofs
def dc119l0 : DC := (.seq (.seq (.drawn [mm 6 5, mm 7 0, nn 8 false 7, bt 9 .lss 6 8, mm 10 9, og 11 (.mv (.t 0)) 4 true, og 12 (.mv (.t 5)) 4 true, og 13 (.iaddr 3 (.t 11) (.t 12)) 4 true, og 14 (.faddr 0 (.t 13)) 4 true, og 15 (.load none (.t 14)) 4 true, og 16 (.faddr 0 (.t 3)) 4 true, og 17 (.load none (.t 16)) 4 true, og 18 (.bin .lss (.t 15) (.t 17)) 4 true, oo 19 (.pick (.t 10) (.t 18) (.c (.bool false)))] []) (cd 19 .skip (.exit 0))) (.block 1 (.row [mm 20 5, bi 21 .add 20 1, mm 5 21])))
def dc119 : DC := (sr [oo 3 (.box (.t 1)), oo 4 (.mv (.c (.slice true [] [])))] (sr [ci 5 0] (.seq (.block 0 (.loop dc119l0)) (.seq (.drawn [oo 22 (.bslice 134 3 []), mm 23 0, mm 24 5, oo 25 (.cutl 3 (.t 23) none (some (.t 24))), oo 26 (.app 134 3 56 (.t 22) (.t 25)), lk 27 3 3, oo 28 (.bslice 134 3 [(.t 27)]), oo 29 (.app 134 3 56 (.t 26) (.t 28)), mm 30 0, mm 31 5, oo 32 (.cutl 3 (.t 30) (some (.t 31)) none), oo 33 (.app 134 3 56 (.t 29) (.t 32)), mm 4 33] [(0, 5), (4, 5), (4, 6), (6, 4)]) .ret))))
theorem fn119 : Fn Tryz.prog 119 34 dc119 [.t 4] := Ao Tryz.func119
def dc52 : DC := (sr [oo 3 (.box (.t 1)), oo 4 (.mv (.c (.slice true [] []))), ci 5 0] (sr [lk 8 3 3, cc 9 116 [(.t 8)], mm 6 9] (.seq (sr [mm 10 6, bi 11 .neq 10 0] (cd 11 (sr [mm 12 0, mm 13 6, mm 4 12, mm 5 13] .ret) .skip)) (.seq (sr [ff 14 1 3, ll 15 14, oo 16 (.bin .eql (.t 15) (.c (.str [])))] (cd 16 (sr [mm 17 0, mm 4 17, ci 5 2] .ret) .skip)) (.seq (sr [mm 18 0, ff 19 0 3, ll 20 19, cc 21 117 [(.t 18), (.t 20)], bi 22 .geq 21 0] (cd 22 (sr [mm 23 0, mm 4 23, ci 5 20] .ret) .skip)) (sr [mm 24 0, ff 25 1 3, ll 26 25, cc 27 117 [(.t 24), (.t 26)], mm 7 27] (.seq (sr [mm 28 7, bi 29 .lss 28 0] (cd 29 (sr [mm 30 0, mm 4 30, ci 5 6] .ret) .skip)) (.seq (.seq (.drawn [ff 31 2 3, ll 32 31, mm 33 0, mm 34 7, ii 35 3 33 34, ff 36 2 35, ll 37 36, cc 38 118 [(.t 32), (.t 37)], oo 39 (.un .not (.t 38))] []) (cd 39 (sr [mm 40 0, mm 4 40, ci 5 13] .ret) .skip)) (sr [mm 41 0, lk 42 3 3, cc 43 119 [(.t 41), (.t 42)], mm 4 43, ci 5 0] .ret)))))))))
theorem fn52 : Fn Tryz.prog 52 44 dc52 [.t 4, .t 5] := Ao Tryz.func52
def dc49 : DC := (sr [oo 0 (.mv (.c (.slice true [] [])))] (sr [oo 1 (.build [(.str []), (.int .u8 0)] [(1, 1, (.c (.int .u8 63)))]), oo 2 (.bslice 191 2 [(.t 1)]), oo 3 (.build [(.str []), (.str []), (.slice true [] [])] [(0, 1, (.c (.str [114, 111, 111, 116]))), (2, 1, (.t 2))]), oo 4 (.bslice 134 3 [(.t 3)]), mm 0 4] .ret))
theorem fn49 : Fn Tryz.prog 49 5 dc49 [.t 0] := Ao Tryz.func49
end Go.Vd
namespace Go.Vd
open Go.Proofs Go.RowKit
def F49 : List D → Option D
 | [] => some (.slice false [] (AC [firstTk]))
 | _ => none
theorem ok49 : (Ai F49).ok Tryz.prog 49 := by
 refine As (S := fun _ => none) Au fn49 (fun ds r h => ?_) (fun ds r h => ?_)
 ·unfold F49 at h; split at h
  ·simp
  ·cases h
 ·unfold F49 at h; split at h
  ·simp only [Option.some.injEq] at h
   subst h
   unfold dc49
   simp only [↓go1, gB1, reduceIte, Nat.reduceEqDiff, Nat.reduceAdd, Nat.reduceLeDiff, and_self, List.take_succ_cons, List.take_zero, List.drop_zero, List.drop_succ_cons, Nat.zero_ne_one, Nat.succ_ne_zero, A2, Bt, List.nil_append, reduceCtorEq, List.map_nil, List.all_nil, AC, tkD, firstTk, Aj, rlD, List.map_cons, List.map_nil]
  ·cases h
end Go.Vd
