/-
  A part of the proof: the layers over the model. Nothing in it is assumed.
-/
import Derived.Test.YtfocnoaoekkloaaGreatDoorNeedsP3
import Derived.Test.YtfocnoaoekkloaaGreatDoorProg
import Derived.Laws.CopyOwn
import Derived.Laws.MakeOwn
import Derived.WalkKit
import Derived.Lib.AppendZeros
import Derived.Deep.Slices
import Derived.Deep.Fields
import Derived.ChangeSame
import Derived.ChangeArms

set_option linter.unusedSimpArgs false
set_option linter.unusedVariables false
set_option linter.defProp false
set_option maxHeartbeats 4000000
set_option maxRecDepth 100000
open List.cons renaming injEq→Qa
open Go.Proofs.Tryz renaming prog→Qb
open List renaming getElem?_eq_getElem→Qc,getElem?_cons_zero→Qh,getElem?_eq_some_iff→Qk,length_append→Qm,length_cons→Qn,take_succ_cons→Qo,map_cons→Qp,getElem?_append_right→Qq,getElem?_cons_succ→Qr,getElem?_append_left→Qs,take_of_length_le→Qt,drop_zero→Qx,take_zero→Qy,getElem_mem→QC,length_take→QD,map_nil→QE,drop_succ_cons→QF,take_add_one→QK,append_assoc→QL,mem_cons_self→QN,getElem?_map→QP,head?_cons→QQ,nil_append→QR,all_eq_true→QS,length_nil→QT,foldl_cons→QU,mem_cons_of_mem→QV,any_eq_false→Q_,mem_map→Q0,any_eq_true→Q1,length_drop→Q2,foldl_append→Q5,getElem?_eq_none→Q6,isEmpty_iff→Q7,mem_cons→Q9,all_cons→Za,eq_nil_of_length_eq_zero→Zb,mem_append→Zd,map_append→Ze,getElem_of_mem→Zf,getD→Zg,mem_singleton→Zh,isEmpty_nil→Zk,suffix_cons→Zl,all_nil→Zm,any_append→Zn,mem_of_mem_take→Zp,mem_of_mem_drop→Zq
open Nat renaming succ_ne_zero→Qd,zero_ne_one→Qf,zero_add→Qi,zero_le→Ql,reduceEqDiff→Qw,le_refl→QG,reduceAdd→QI,sub_zero→QJ,le_succ_of_le→Q4,eq_zero_or_pos→Zi,not_lt_zero→Zo,add_zero→Zt
open Option renaming isSome_some→Qe,bind_some→Qg,map_eq_some_iff→QM,getD_some→Q8,map_some→Zc
open Int renaming toNat_natCast→Qj,toNat_of_nonneg→QX
open Bool renaming and_eq_true→Qu,false_and→Qv,true_or→Qz,or_true→QA,or_eq_false_iff→QB,and_false→QH,or_false→QW,false_or→QY,and_self→Zs
open Option.some renaming injEq→QO
open Prod.mk renaming injEq→QZ
open Prod renaming ext→Q3
open Array renaming getElem?_eq_some_iff→Zj,getElem?_push→Zr
open Go.Proofs.Tryz
noncomputable section
namespace Go.Vd
open Go.Proofs
def dc151:DC:=(sr [oo 2 (.alloc [(.str []),(.str [])])] (sr [oo 4 (.build [(.str []),(.str [])] [(0,1,(.c (.str [115,116,97,116,117,115]))),(1,1,(.c (.str [])))]),oo 5 (.build [(.str []),(.str [])] [(0,1,(.c (.str [117,110,115,101,97,108]))),(1,1,(.c (.str [107])))]),oo 6 (.build [(.str []),(.str [])] [(0,1,(.c (.str [115,101,97,108]))),(1,1,(.c (.str [116])))]),oo 7 (.build [(.str []),(.str [])] [(0,1,(.c (.str [114,111,116,97,116,101]))),(1,1,(.c (.str [116])))]),oo 8 (.build [(.str []),(.str [])] [(0,1,(.c (.str [109,111,117,110,116]))),(1,1,(.c (.str [116,112,110,102])))]),oo 9 (.build [(.str []),(.str [])] [(0,1,(.c (.str [117,110,109,111,117,110,116]))),(1,1,(.c (.str [116,112])))]),oo 10 (.build [(.str []),(.str [])] [(0,1,(.c (.str [109,97,107,101]))),(1,1,(.c (.str [116,109,114])))]),oo 11 (.build [(.str []),(.str [])] [(0,1,(.c (.str [114,101,118,111,107,101]))),(1,1,(.c (.str [116,109])))]),oo 12 (.build [(.str []),(.str [])] [(0,1,(.c (.str [114,101,97,100]))),(1,1,(.c (.str [116,112,110])))]),oo 13 (.build [(.str []),(.str [])] [(0,1,(.c (.str [119,114,105,116,101]))),(1,1,(.c (.str [116,112,99,100])))]),oo 14 (.build [(.str []),(.str [])] [(0,1,(.c (.str [100,101,108,101,116,101]))),(1,1,(.c (.str [116,112,108])))]),oo 15 (.build [(.str []),(.str [])] [(0,1,(.c (.str [117,110,100,101,108,101,116,101]))),(1,1,(.c (.str [116,112,108])))]),oo 16 (.build [(.str []),(.str [])] [(0,1,(.c (.str [100,101,115,116,114,111,121]))),(1,1,(.c (.str [116,112,108])))]),oo 17 (.build [(.str []),(.str [])] [(0,1,(.c (.str [109,101,116,97]))),(1,1,(.c (.str [116,112])))]),oo 18 (.build [(.str []),(.str [])] [(0,1,(.c (.str [99,111,110,102,105,103]))),(1,1,(.c (.str [116,112,110,102])))]),oo 19 (.build [(.str []),(.str [])] [(0,1,(.c (.str [112,117,114,103,101]))),(1,1,(.c (.str [116,112])))]),oo 20 (.build [(.str []),(.str [])] [(0,1,(.c (.str [108,105,115,116]))),(1,1,(.c (.str [116,112])))]),oo 21 (.build [(.str []),(.str [])] [(0,1,(.c (.str [99,111,112,121]))),(1,1,(.c (.str [116,112,113])))]),oo 22 (.build [(.str []),(.str []),(.str []),(.str []),(.str []),(.str []),(.str []),(.str []),(.str []),(.str []),(.str []),(.str []),(.str []),(.str []),(.str []),(.str []),(.str []),(.str []),(.str []),(.str []),(.str []),(.str []),(.str []),(.str []),(.str []),(.str []),(.str []),(.str []),(.str []),(.str []),(.str []),(.str []),(.str []),(.str []),(.str []),(.str []),(.str []),(.str [])] [(2,2,(.t 4)),(4,2,(.t 5)),(6,2,(.t 6)),(8,2,(.t 7)),(10,2,(.t 8)),(12,2,(.t 9)),(14,2,(.t 10)),(16,2,(.t 11)),(18,2,(.t 12)),(20,2,(.t 13)),(22,2,(.t 14)),(24,2,(.t 15)),(26,2,(.t 16)),(28,2,(.t 17)),(30,2,(.t 18)),(32,2,(.t 19)),(34,2,(.t 20)),(36,2,(.t 21))]),oo 3 (.alloc [(.str []),(.str []),(.str []),(.str []),(.str []),(.str []),(.str []),(.str []),(.str []),(.str []),(.str []),(.str []),(.str []),(.str []),(.str []),(.str []),(.str []),(.str []),(.str []),(.str []),(.str []),(.str []),(.str []),(.str []),(.str []),(.str []),(.str []),(.str []),(.str []),(.str []),(.str []),(.str []),(.str []),(.str []),(.str []),(.str []),(.str []),(.str [])]),oz (.store 38 (.t 3) (.t 22))] (.seq (sr [mm 23 0,oo 24 (.conv .i64 (.t 23)),bi 25 .geq 24 19] (cd 25 (sr [oo 26 (.build [(.str []),(.str [])] []),oz (.store 2 (.t 2) (.t 26))] .ret) .skip)) (sr [mm 27 0,oo 28 (.iadda 19 2 (.t 3) (.t 27)),lk 29 2 28,oz (.store 2 (.t 2) (.t 29))] .ret))))
theorem fn151:Fn Qb 151 30 dc151 [.cell (some 2) 2]:=Am func151
def dc152:DC:=(sr [oo 2 (.box (.t 0)),ci 4 0] (.seq (sr [mm 5 1] (.block 0 (sr [oo 7 (.bin .eql (.t 5) (.c (.int .i32 116))),mm 6 7] (cd 6 (sr [ff 8 1 2,ll 9 8,cc 10 258 [(.t 9)],cc 11 257 [(.t 10)],mm 4 11] .ret) (sr [oo 13 (.bin .eql (.t 5) (.c (.int .i32 109))),mm 12 13] (cd 12 (sr [ff 14 3 2,ll 15 14,cc 16 258 [(.t 15)],cc 17 257 [(.t 16)],mm 4 17] .ret) (sr [oo 19 (.bin .eql (.t 5) (.c (.int .i32 112))),mm 18 19] (cd 18 (sr [ff 20 2 2,ll 21 20,cc 22 201 [(.t 21)],mm 4 22] .ret) (sr [oo 24 (.bin .eql (.t 5) (.c (.int .i32 113))),mm 23 24] (cd 23 (sr [ff 25 3 2,ll 26 25,cc 27 201 [(.t 26)],mm 4 27] .ret) (sr [oo 29 (.bin .eql (.t 5) (.c (.int .i32 110))),mm 28 29] (cd 28 (sr [ff 30 4 2,ll 31 30,cc 32 259 [(.t 31),(.c (.int .i64 0)),(.c (.int .i64 999))],cc 33 257 [(.t 32)],mm 4 33] .ret) (sr [oo 35 (.bin .eql (.t 5) (.c (.int .i32 99))),mm 34 35] (cd 34 (sr [ff 36 5 2,ll 37 36,cc 38 259 [(.t 37),(.c (.int .i64 (-1))),(.c (.int .i64 999))],cc 39 257 [(.t 38)],mm 4 39] .ret) (sr [oo 41 (.bin .eql (.t 5) (.c (.int .i32 108))),mm 40 41] (cd 40 (sr [ff 42 7 2,ll 43 42,cc 44 260 [(.t 43)],cc 45 257 [(.t 44)],mm 4 45] .ret) (sr [oo 47 (.bin .eql (.t 5) (.c (.int .i32 114))),mm 46 47] (cd 46 (sr [ff 48 9 2,ll 49 48,cc 50 214 [(.t 49)],mm 4 50] .ret) (sr [oo 52 (.bin .eql (.t 5) (.c (.int .i32 107))),mm 51 52] (cd 51 (sr [ff 53 10 2,ll 54 53,nn 55 true 54,bi 56 .eql 55 16,cc 57 257 [(.t 56)],mm 4 57] .ret) .skip)))))))))))))))))))) (sr [ci 4 0] .ret)))
theorem fn152:Fn Qb 152 58 dc152 [.t 4]:=Am func152
def dc153:DC:=(sr [oo 2 (.box (.t 0)),oo 4 (.alloc [(.int .u8 0),(.str []),(.str []),(.str []),(.int .i64 0),(.int .i64 0),(.bool false),(.slice true [] []),(.str []),(.slice true [] []),(.str [])])] (.seq (sr [mm 5 1] (.block 0 (sr [oo 7 (.bin .eql (.t 5) (.c (.int .i32 116))),mm 6 7] (cd 6 (.row [ff 8 1 2,oz (.store 1 (.t 8) (.c (.str [])))]) (sr [oo 10 (.bin .eql (.t 5) (.c (.int .i32 112))),mm 9 10] (cd 9 (.row [ff 11 2 2,oz (.store 1 (.t 11) (.c (.str [])))]) (.seq (sr [oo 13 (.bin .eql (.t 5) (.c (.int .i32 109))),mm 12 13] (cd 12 .skip (.row [oo 14 (.bin .eql (.t 5) (.c (.int .i32 113))),mm 12 14]))) (cd 12 (.row [ff 15 3 2,oz (.store 1 (.t 15) (.c (.str [])))]) (sr [oo 17 (.bin .eql (.t 5) (.c (.int .i32 110))),mm 16 17] (cd 16 (.row [ff 18 4 2,oz (.store 1 (.t 18) (.c (.int .i64 0)))]) (sr [oo 20 (.bin .eql (.t 5) (.c (.int .i32 99))),mm 19 20] (cd 19 (.row [ff 21 5 2,oz (.store 1 (.t 21) (.c (.int .i64 0)))]) (sr [oo 23 (.bin .eql (.t 5) (.c (.int .i32 102))),mm 22 23] (cd 22 (.row [ff 24 6 2,oz (.store 1 (.t 24) (.c (.bool false)))]) (sr [oo 26 (.bin .eql (.t 5) (.c (.int .i32 108))),mm 25 26] (cd 25 (.row [ff 27 7 2,oz (.store 1 (.t 27) (.c (.slice true [] [])))]) (sr [oo 29 (.bin .eql (.t 5) (.c (.int .i32 100))),mm 28 29] (cd 28 (.row [ff 30 8 2,oz (.store 1 (.t 30) (.c (.str [])))]) (sr [oo 32 (.bin .eql (.t 5) (.c (.int .i32 114))),mm 31 32] (cd 31 (.row [ff 33 9 2,oz (.store 1 (.t 33) (.c (.slice true [] [])))]) (sr [oo 35 (.bin .eql (.t 5) (.c (.int .i32 107))),mm 34 35] (cd 34 (.row [ff 36 10 2,oz (.store 1 (.t 36) (.c (.str [])))]) .skip)))))))))))))))))))))) (sr [lk 37 11 2,oz (.store 11 (.t 4) (.t 37))] .ret)))
theorem fn153:Fn Qb 153 38 dc153 [.cell (some 11) 4]:=Am func153
def dc154:DC:=(sr [oo 2 (.box (.t 0)),oo 3 (.box (.t 1)),cb 4 false] (.seq (sr [ff 6 7 2,ll 7 6,ff 8 7 3,ll 9 8,cc 10 261 [(.t 7),(.t 9)],oo 11 (.un .not (.t 10)),mm 12 11,og 13 (.faddr 9 (.t 2)) 6 false,og 14 (.load none (.t 13)) 6 false,og 15 (.faddr 9 (.t 3)) 6 false,og 16 (.load none (.t 15)) 6 false,og 17 (.call (.c (.fn 262 [])) [(.t 14),(.t 16)]) 6 false,og 18 (.un .not (.t 17)) 6 false,oo 19 (.pick (.t 12) (.c (.bool true)) (.t 18))] (cd 19 (sr [cb 4 false] .ret) .skip)) (sr [ff 20 0 2,ll 21 20,ff 22 0 3,ll 23 22,bt 24 .eql 21 23,mm 25 24,og 26 (.faddr 1 (.t 2)) 5 true,og 27 (.load none (.t 26)) 5 true,og 28 (.faddr 1 (.t 3)) 5 true,og 29 (.load none (.t 28)) 5 true,og 30 (.bin .eql (.t 27) (.t 29)) 5 true,oo 31 (.pick (.t 25) (.t 30) (.c (.bool false))),mm 32 31,og 33 (.faddr 2 (.t 2)) 12 true,og 34 (.load none (.t 33)) 12 true,og 35 (.faddr 2 (.t 3)) 12 true,og 36 (.load none (.t 35)) 12 true,og 37 (.bin .eql (.t 34) (.t 36)) 12 true,oo 38 (.pick (.t 32) (.t 37) (.c (.bool false))),mm 39 38,og 40 (.faddr 3 (.t 2)) 19 true,og 41 (.load none (.t 40)) 19 true,og 42 (.faddr 3 (.t 3)) 19 true,og 43 (.load none (.t 42)) 19 true,og 44 (.bin .eql (.t 41) (.t 43)) 19 true,oo 45 (.pick (.t 39) (.t 44) (.c (.bool false))),mm 5 45] (sr [mm 46 5,mm 47 46,og 48 (.faddr 4 (.t 2)) 1 true,og 49 (.load none (.t 48)) 1 true,og 50 (.faddr 4 (.t 3)) 1 true,og 51 (.load none (.t 50)) 1 true,og 52 (.bin .eql (.t 49) (.t 51)) 1 true,oo 53 (.pick (.t 47) (.t 52) (.c (.bool false))),mm 54 53,og 55 (.faddr 5 (.t 2)) 8 true,og 56 (.load none (.t 55)) 8 true,og 57 (.faddr 5 (.t 3)) 8 true,og 58 (.load none (.t 57)) 8 true,og 59 (.bin .eql (.t 56) (.t 58)) 8 true,oo 60 (.pick (.t 54) (.t 59) (.c (.bool false))),mm 61 60,og 62 (.faddr 6 (.t 2)) 15 true,og 63 (.load none (.t 62)) 15 true,og 64 (.faddr 6 (.t 3)) 15 true,og 65 (.load none (.t 64)) 15 true,og 66 (.beq false (.t 63) (.t 65)) 15 true,oo 67 (.pick (.t 61) (.t 66) (.c (.bool false))),mm 68 67,og 69 (.faddr 8 (.t 2)) 22 true,og 70 (.load none (.t 69)) 22 true,og 71 (.faddr 8 (.t 3)) 22 true,og 72 (.load none (.t 71)) 22 true,og 73 (.bin .eql (.t 70) (.t 72)) 22 true,oo 74 (.pick (.t 68) (.t 73) (.c (.bool false))),mm 75 74,og 76 (.faddr 10 (.t 2)) 29 true,og 77 (.load none (.t 76)) 29 true,og 78 (.faddr 10 (.t 3)) 29 true,og 79 (.load none (.t 78)) 29 true,og 80 (.bin .eql (.t 77) (.t 79)) 29 true,oo 81 (.pick (.t 75) (.t 80) (.c (.bool false))),mm 4 81] .ret))))
theorem fn154:Fn Qb 154 82 dc154 [.t 4]:=Am func154
def dc155l0:DC:=(sr [oo 15 (.next (.t 14)),xx 16 0 15] (.seq (cd 16 .skip (.exit 0)) (.block 1 (sr [xx 17 2 15,mm 6 17] (.row [mm 18 4,lk 19 11 1,mm 20 6,cc 21 263 [(.t 19),(.t 20)],oo 22 (.bin .add (.c (.str [32])) (.t 21)),bt 23 .add 18 22,mm 4 23])))))
def dc155:DC:=(sr [oo 1 (.box (.t 0)),oo 2 (.mv (.c (.str [])))] (sr [ff 7 0 1,ll 8 7,cc 9 151 [(.t 8)],oo 3 (.alloc [(.str []),(.str [])]),oz (.store 2 (.t 3) (.t 9))] (sr [ff 10 0 3,ll 11 10,mm 4 11] (.seq (sr [ff 12 1 3,ll 13 12,oo 14 (.range (.t 13))] (.block 0 (.loop dc155l0))) (sr [mm 24 4,mm 2 24] .ret)))))
theorem fn155:Fn Qb 155 25 dc155 [.t 2]:=Am func155
def dc263:DC:=(sr [oo 2 (.box (.t 0)),oo 4 (.mv (.c (.str [])))] (.seq (sr [mm 7 1] (.block 0 (sr [oo 9 (.bin .eql (.t 7) (.c (.int .i32 116))),mm 8 9] (cd 8 (sr [ff 10 1 2,ll 11 10,mm 4 11] .ret) (sr [oo 13 (.bin .eql (.t 7) (.c (.int .i32 112))),mm 12 13] (cd 12 (sr [ff 14 2 2,ll 15 14,mm 4 15] .ret) (.seq (sr [oo 17 (.bin .eql (.t 7) (.c (.int .i32 109))),mm 16 17] (cd 16 .skip (.row [oo 18 (.bin .eql (.t 7) (.c (.int .i32 113))),mm 16 18]))) (cd 16 (sr [ff 19 3 2,ll 20 19,mm 4 20] .ret) (sr [oo 22 (.bin .eql (.t 7) (.c (.int .i32 110))),mm 21 22] (cd 21 (sr [ff 23 4 2,ll 24 23,cc 25 346 [(.t 24)],mm 4 25] .ret) (sr [oo 27 (.bin .eql (.t 7) (.c (.int .i32 99))),mm 26 27] (cd 26 (.seq (sr [ff 28 5 2,ll 29 28,oo 30 (.bin .eql (.t 29) (.c (.int .i64 (-1))))] (cd 30 (sr [oo 4 (.mv (.c (.str [45])))] .ret) .skip)) (sr [ff 31 5 2,ll 32 31,cc 33 346 [(.t 32)],mm 4 33] .ret)) (sr [oo 35 (.bin .eql (.t 7) (.c (.int .i32 102))),mm 34 35] (cd 34 (.seq (sr [ff 36 6 2,ll 37 36] (cd 37 (sr [oo 4 (.mv (.c (.str [49])))] .ret) .skip)) (sr [oo 4 (.mv (.c (.str [48])))] .ret)) (sr [oo 39 (.bin .eql (.t 7) (.c (.int .i32 108))),mm 38 39] (cd 38 (sr [ff 40 7 2,ll 41 40,cc 42 348 [(.t 41)],cc 43 347 [(.t 42)],mm 4 43] .ret) (sr [oo 45 (.bin .eql (.t 7) (.c (.int .i32 100))),mm 44 45] (cd 44 (sr [ff 46 8 2,ll 47 46,cc 48 317 [(.t 47)],cc 49 347 [(.t 48)],mm 4 49] .ret) (sr [oo 51 (.bin .eql (.t 7) (.c (.int .i32 114))),mm 50 51] (cd 50 (sr [ff 53 9 2,ll 54 53,cc 55 232 [(.t 54)],mm 52 55,xx 56 0 52,xx 57 1 52,mm 5 56,mm 6 57] (sr [mm 58 5,cc 59 347 [(.t 58)],mm 4 59] .ret)) .skip)))))))))))))))))))) (sr [ff 60 10 2,ll 61 60,cc 62 317 [(.t 61)],mm 4 62] .ret)))
theorem fn263:Fn Qb 263 63 dc263 [.t 4]:=Am func263
def dc68l0:DC:=(sr [oo 19 (.next (.t 18)),xx 20 0 19] (.seq (cd 20 .skip (.exit 0)) (.block 1 (sr [xx 21 2 19,mm 6 21] (.seq (sr [lk 22 11 1,mm 23 6,cc 24 152 [(.t 22),(.t 23)],mm 7 24] (sr [mm 25 7,bi 26 .neq 25 0] (cd 26 (sr [mm 27 7,mm 2 27] .ret) .skip))) (.row [lk 28 11 4,mm 29 6,cc 30 153 [(.t 28),(.t 29)],oz (.store 11 (.t 4) (.t 30))]))))))
def dc68:DC:=(sr [oo 1 (.box (.t 0)),ci 2 0] (sr [ff 8 0 1,ll 9 8,cc 10 151 [(.t 9)],oo 3 (.alloc [(.str []),(.str [])]),oz (.store 2 (.t 3) (.t 10))] (.seq (sr [ff 11 0 3,ll 12 11,oo 13 (.bin .eql (.t 12) (.c (.str [])))] (cd 13 (sr [ci 2 22] .ret) .skip)) (sr [lk 14 11 1,oo 4 (.alloc [(.int .u8 0),(.str []),(.str []),(.str []),(.int .i64 0),(.int .i64 0),(.bool false),(.slice true [] []),(.str []),(.slice true [] []),(.str [])]),oz (.store 11 (.t 4) (.t 14))] (sr [ff 15 0 4,oz (.store 1 (.t 15) (.c (.int .u8 0)))] (.seq (sr [ff 16 1 3,ll 17 16,oo 18 (.range (.t 17))] (.block 0 (.loop dc68l0))) (.seq (sr [lk 31 11 4,oo 32 (.build [(.int .u8 0),(.str []),(.str []),(.str []),(.int .i64 0),(.int .i64 0),(.bool false),(.slice true [] []),(.str []),(.slice true [] []),(.str [])] []),cc 33 154 [(.t 31),(.t 32)],oo 34 (.un .not (.t 33))] (cd 34 (sr [ci 2 2] .ret) .skip)) (.seq (sr [lk 35 11 1,cc 36 155 [(.t 35)],nn 37 true 36,bi 38 .gtr 37 400] (cd 38 (sr [ci 2 5] .ret) .skip)) (sr [ci 2 0] .ret)))))))))
theorem fn68:Fn Qb 68 39 dc68 [.t 2]:=Am func68
end Go.Vd
namespace Go.Vd
open Go.Proofs Go.RowKit
theorem ascii_dec{s:Bs}{p:Nat}{c:UInt8}(h:s[p]?=some c)(hc:c.toNat<128):Utf8.decode ⟨s.toArray⟩ p=(c.toNat,1):=by
 have hp:=(Qk.1 h).1;have ha:at' s p=c.toNat:=by simp[at',h]
 unfold Utf8.decode;simp only[get_at,Zt,ha,hc,if_true]
def forms:List (Bs×Bs):=[([],[]),([115,116,97,116,117,115],[]),([117,110,115,101,97,108],[107]),([115,101,97,108],[116]),([114,111,116,97,116,101],[116]),([109,111,117,110,116],[116,112,110,102]),([117,110,109,111,117,110,116],[116,112]),([109,97,107,101],[116,109,114]),([114,101,118,111,107,101],[116,109]),([114,101,97,100],[116,112,110]),([119,114,105,116,101],[116,112,99,100]),([100,101,108,101,116,101],[116,112,108]),([117,110,100,101,108,101,116,101],[116,112,108]),([100,101,115,116,114,111,121],[116,112,108]),([109,101,116,97],[116,112]),([99,111,110,102,105,103],[116,112,110,102]),([112,117,114,103,101],[116,112]),([108,105,115,116],[116,112]),([99,111,112,121],[116,112,113])]
def formW(op:Int):Bs:=(forms.getD op.toNat ([],[])).1
def CA(op:Int):Bs:=(forms.getD op.toNat ([],[])).2
def isForm(p:Bs×Bs):Option D->Bool
 |some (.agg [.str a,.str b])=>Go.Ve.eqBs a p.1&&Go.Ve.eqBs b p.2
 |_=>false
def R151:List D->Option D:=funRun (λ_=>none) 30 dc151 [.cell (some 2) 2] 60
theorem ok151:(Ac R151).ok Qb 151:=funRun_ok AL fn151 60
theorem R151_all:(List.range 256).all (λop=>isForm (forms.getD op ([],[])) (R151 [.int .u8 (op:Nat)]))=true:=by kernel_rfl
theorem R151_eq{op:Int}(h0:0<=op)(h:op<256):R151 [.int .u8 op]=some (.agg [.str (formW op),.str (CA op)]):=by
 have:=QS.1 R151_all op.toNat (by simp;omega);rw[QX h0]at this;unfold formW CA;generalize R151 [.int .u8 op]=r at this;unfold isForm at this;split at this
 ·rw[Qu]at this;rw[Go.Ve.eqBs_eq this.1,Go.Ve.eqBs_eq this.2]
 ·cases this
structure AkOk (a:Ak):Prop where
 op0:0<=a.op
 op:a.op<256
 tk:a.tk.length<=1000
 pa:a.pa.length<=1000
 ot:a.ot.length<=1000
 ns:a.ns.length<=1000
 da:a.da.length<=1000
 rl:a.rs.length<=1000
 rs:∀r∈a.rs,r.1.length<=1000∧0<=r.2
 key:a.key.length<=1000
def BO(a:Ak)(c:Int):Int:=if c=116 then EU (BC a.tk)else if c=109 then EU (BC a.ot)else if c=112 then AV a.pa else if c=113 then AV a.ot else if c=110 then EU (decide (0<=a.n∧a.n<=999))else if c=99 then EU (decide (-1<=a.cas∧a.cas<=999))else if c=108 then EU (countB a.ns)else if c=114 then Cq a.rs else if c=107 then EU (decide ((a.key.length:Int)=16))else 0
def F152:List D->Option D:=FX (λp:Ak×Int=>[akD p.1,.int .i32 p.2]) (λp=>AkOk p.1) (λp=> .int .i64 (BO p.1 p.2))
theorem F152_eq{a:Ak}{c:Int}(h:AkOk a):F152 [akD a,.int .i32 c]=some (.int .i64 (BO a c)):=
 BA (mk:=λp:Ak×Int=>[akD p.1,.int .i32 p.2]) (a:=(a,c)) (λx y e=>by
  simp only[Qa,D.int.injEq,true_and,and_true]at e;exact Q3 (Ed e.1) e.2) h
theorem ok152:(Ac F152).ok Qb 152:=by
 obtain⟨S,hS,hl⟩:=A5 (Ab ok258 (Ab ok257 (Ab ok201 (Ab ok259 (Ab ok260 (Ab ok214 Ad))))));have s258:=hl 258 _ rfl;have s257:=hl 257 _ rfl;have s201:=hl 201 _ rfl;have s259:=hl 259 _ rfl;have s260:=hl 260 _ rfl;have s214:=hl 214 _ rfl;clear hl;refine BI hS fn152 (λ_=>by simp) (λp hp=>?_);obtain⟨a,c⟩:=p;simp only at hp;have hT:=F258_eq (s:=a.tk) (by have:=hp.tk;omega);have hO:=F258_eq (s:=a.ot) (by have:=hp.ot;omega);have hP:F201 [.str a.pa]=some (.int .i64 (AV a.pa)):=if_pos (by have:=hp.pa;omega);have hQ:F201 [.str a.ot]=some (.int .i64 (AV a.ot)):=if_pos (by have:=hp.ot;omega);have hN:F259 [.int .i64 a.n,.int .i64 0,.int .i64 999]=some (.bool (decide (0<=a.n∧a.n<=999))):=rfl;have hC:F259 [.int .i64 a.cas,.int .i64 (-1),.int .i64 999]=some (.bool (decide (-1<=a.cas∧a.cas<=999))):=rfl;have hL:=F260_eq (nl:=a.nln) (l:=a.ns) (by have:=hp.ns;omega);have hR:=Fpol_eq' (nl:=a.nlr) (l:=a.rs) (by have:=hp.rl;omega) hp.rs;unfold BO dc152 akD akC;simp only;by_cases h116:c=116
 ·subst h116;simp only[↓go1,gB0,reduceIte,simprocAttr,Aa s258,hT,Aa s257,F257_eq,Ag]
  all_goals (first|rfl|exact⟨rfl,rfl⟩)
 have g116:decide (c=116)=false:=by simpa using h116
 by_cases h109:c=109
 ·subst h109;simp only[↓go1,gB0,reduceIte,simprocAttr,Aa s258,hO,Aa s257,F257_eq,Ag]
  all_goals (first|rfl|exact⟨rfl,rfl⟩)
 have g109:decide (c=109)=false:=by simpa using h109
 by_cases h112:c=112
 ·subst h112;simp only[↓go1,gB0,reduceIte,simprocAttr,Aa s201,hP,Ag]
  all_goals (first|rfl|exact⟨rfl,rfl⟩)
 have g112:decide (c=112)=false:=by simpa using h112
 by_cases h113:c=113
 ·subst h113;simp only[↓go1,gB0,reduceIte,simprocAttr,Aa s201,hQ,Ag]
  all_goals (first|rfl|exact⟨rfl,rfl⟩)
 have g113:decide (c=113)=false:=by simpa using h113
 by_cases h110:c=110
 ·subst h110;simp only[↓go1,gB0,reduceIte,simprocAttr,Aa s259,hN,Aa s257,F257_eq,Ag]
  all_goals (first|rfl|exact⟨rfl,rfl⟩)
 have g110:decide (c=110)=false:=by simpa using h110
 by_cases h99:c=99
 ·subst h99;simp only[↓go1,gB0,reduceIte,simprocAttr,Aa s259,hC,Aa s257,F257_eq,Ag]
  all_goals (first|rfl|exact⟨rfl,rfl⟩)
 have g99:decide (c=99)=false:=by simpa using h99
 by_cases h108:c=108
 ·subst h108;simp only[↓go1,gB0,reduceIte,simprocAttr,Aa s260,hL,Aa s257,F257_eq,Ag]
  all_goals (first|rfl|exact⟨rfl,rfl⟩)
 have g108:decide (c=108)=false:=by simpa using h108
 by_cases h114:c=114
 ·subst h114;simp only[↓go1,gB0,reduceIte,simprocAttr,Aa s214,hR,Ag]
  all_goals (first|rfl|exact⟨rfl,rfl⟩)
 have g114:decide (c=114)=false:=by simpa using h114
 by_cases h107:c=107
 ·subst h107;simp only[↓go1,gB0,reduceIte,simprocAttr,Aa s257,F257_eq,Ag]
  all_goals (first|rfl|exact⟨rfl,rfl⟩)
 have g107:decide (c=107)=false:=by simpa using h107
 simp only[↓go1,gB3,reduceIte,simprocAttr,h116,h109,h112,h113,h110,h99,h108,h114,h107,Qi,and_self]
 all_goals (first|rfl|exact⟨rfl,rfl⟩)
def DH(a:Ak)(c:Int):Ak:=if c=116 then {a with tk:=[]}else if c=112 then {a with pa:=[]}else if c=109∨c=113 then {a with ot:=[]}else if c=110 then {a with n:=0}else if c=99 then {a with cas:=0}else if c=102 then {a with fl:=false}else if c=108 then {a with nln:=true,ns:=[]}else if c=100 then {a with da:=[]}else if c=114 then {a with nlr:=true,rs:=[]}else if c=107 then {a with key:=[]}else a
def F153:List D->Option D:=FX (λp:Ak×Int=>[akD p.1,.int .i32 p.2]) (λp=>True) (λp=>akD (DH p.1 p.2))
theorem F153_eq{a:Ak}{c:Int}:F153 [akD a,.int .i32 c]=some (akD (DH a c)):=
 BA (mk:=λp:Ak×Int=>[akD p.1,.int .i32 p.2]) (a:=(a,c)) (λx y e=>by
  simp only[Qa,D.int.injEq,true_and,and_true]at e;exact Q3 (Ed e.1) e.2) trivial
theorem ok153:(Ac F153).ok Qb 153:=by
 refine BI (S:=λ_=>none) AL fn153 (λ_=>by simp) (λp hp=>?_);obtain⟨a,c⟩:=p;unfold DH dc153 akD akC;simp only;by_cases h116:c=116
 ·subst h116;simp only[↓go1,gB0,reduceIte,simprocAttr,or_self,Ag,Ao,Ap,Qg,Qe,Qa,Qf,and_false,Qd,Bg,AY]
  all_goals (first|rfl|exact⟨rfl,rfl⟩)
 by_cases h112:c=112
 ·subst h112;simp only[↓go1,gB0,reduceIte,simprocAttr,or_self,Ag,Ao,Ap,Qg,Qe,Qa,Qf,and_false,Qd,Bg,AY]
  all_goals (first|rfl|exact⟨rfl,rfl⟩)
 by_cases h109:c=109
 ·subst h109;simp only[↓go1,gB0,reduceIte,simprocAttr,true_or,Ag,Ao,Ap,Qg,Qe,Qa,Qf,and_false,Qd,Bg,AY]
  all_goals (first|rfl|exact⟨rfl,rfl⟩)
 by_cases h113:c=113
 ·subst h113;simp only[↓go1,gB0,reduceIte,simprocAttr,or_true,Ag,Ao,Ap,Qg,Qe,Qa,Qf,and_false,Qd,Bg,AY]
  all_goals (first|rfl|exact⟨rfl,rfl⟩)
 by_cases h110:c=110
 ·subst h110;simp only[↓go1,gB0,reduceIte,simprocAttr,or_self,Ag,Ao,Ap,Qg,Qe,Qa,Qf,and_false,Qd,Bg,AY]
  all_goals (first|rfl|exact⟨rfl,rfl⟩)
 by_cases h99:c=99
 ·subst h99;simp only[↓go1,gB0,reduceIte,simprocAttr,or_self,Ag,Ao,Ap,Qg,Qe,Qa,Qf,and_false,Qd,Bg,AY]
  all_goals (first|rfl|exact⟨rfl,rfl⟩)
 by_cases h102:c=102
 ·subst h102;simp only[↓go1,gB0,reduceIte,simprocAttr,or_self,Ag,Ao,Ap,Qg,Qe,Qa,Qf,and_false,Qd,Bg,AY]
  all_goals (first|rfl|exact⟨rfl,rfl⟩)
 by_cases h108:c=108
 ·subst h108;simp only[↓go1,gB0,reduceIte,simprocAttr,or_self,Ag,Ao,Ap,Qg,Qe,Qa,Qf,and_false,Qd,Bg,AY]
  all_goals (first|rfl|exact⟨rfl,rfl⟩)
 by_cases h100:c=100
 ·subst h100;simp only[↓go1,gB0,reduceIte,simprocAttr,or_self,Ag,Ao,Ap,Qg,Qe,Qa,Qf,and_false,Qd,Bg,AY]
  all_goals (first|rfl|exact⟨rfl,rfl⟩)
 by_cases h114:c=114
 ·subst h114;simp only[↓go1,gB0,reduceIte,simprocAttr,or_self,Ag,Ao,Ap,Qg,Qe,Qa,Qf,and_false,Qd,Bg,AY]
  all_goals (first|rfl|exact⟨rfl,rfl⟩)
 by_cases h107:c=107
 ·subst h107;simp only[↓go1,gB0,reduceIte,simprocAttr,or_self,Ag,Ao,Ap,Qg,Qe,Qa,Qf,and_false,Qd,Bg,AY]
  all_goals (first|rfl|exact⟨rfl,rfl⟩)
 simp only[↓go1,gB0,reduceIte,simprocAttr,h116,h112,h109,h113,h110,h99,h102,h108,h100,h114,h107,or_self,Ag,Ao,Ap,Qg,Qe,Qa,Qf,Qd,Bg,AY]
 all_goals (first|rfl|exact⟨rfl,rfl⟩)
def orN(s:Bs):Bs:=if s=[]then [45]else s
def layA(a:Ak)(c:Int):Bs:=if c=116 then a.tk else if c=112 then a.pa else if c=109∨c=113 then a.ot else if c=110 then Ft a.n.toNat else if c=99 then(if a.cas=-1 then [45]else Ft a.cas.toNat)
 else if c=102 then(if a.fl=true then [49]else [48])else if c=108 then orN (De (Fs a.ns))else if c=100 then orN (hexB a.da)else if c=114 then orN (if Cq a.rs=0 then De (B5 a.rs)else [])else hexB a.key
structure LayOk (a:Ak) (c:Int):Prop where
 n:c=110->0<=a.n∧a.n<1000
 cas:c=99->-1<=a.cas∧a.cas<1000
 ns:c=108->∀x∈a.ns,0<=x∧x<1000
def F263:List D->Option D:=FX (λp:Ak×Int=>[akD p.1,.int .i32 p.2]) (λp=>AkOk p.1∧LayOk p.1 p.2) (λp=> .str (layA p.1 p.2))
theorem F263_eq{a:Ak}{c:Int}(h:AkOk a)(h2:LayOk a c):F263 [akD a,.int .i32 c]=some (.str (layA a c)):=
 BA (mk:=λp:Ak×Int=>[akD p.1,.int .i32 p.2]) (a:=(a,c)) (λx y e=>by
  simp only[Qa,D.int.injEq,true_and,and_true]at e;exact Q3 (Ed e.1) e.2) ⟨h,h2⟩
theorem ok263:(Ac F263).ok Qb 263:=by
 obtain⟨S,hS,hl⟩:=A5 (Ab ok346 (Ab ok347 (Ab ok348 (Ab ok317 (Ab ok232 Ad)))));have s346:=hl 346 _ rfl;have s347:=hl 347 _ rfl;have s348:=hl 348 _ rfl;have s317:=hl 317 _ rfl;have s232:=hl 232 _ rfl;clear hl;refine BI hS fn263 (λ_=>by simp) (λp hp=>?_);obtain⟨a,c⟩:=p;obtain⟨hp,hN,hC,hL⟩:=hp;simp only at hp hN hC hL;unfold layA orN dc263 akD akC;simp only;by_cases h116:c=116
 ·subst h116;simp only[↓go1,gB0,reduceIte,simprocAttr,or_self,Ag]
  all_goals (first|rfl|exact⟨rfl,rfl⟩)
 by_cases h112:c=112
 ·subst h112;simp only[↓go1,gB0,reduceIte,simprocAttr,or_self,Ag]
  all_goals (first|rfl|exact⟨rfl,rfl⟩)
 by_cases h109:c=109
 ·subst h109;simp only[↓go1,gB0,reduceIte,simprocAttr,true_or,Ag]
  all_goals (first|rfl|exact⟨rfl,rfl⟩)
 by_cases h113:c=113
 ·subst h113;simp only[↓go1,gB0,reduceIte,simprocAttr,or_true,Ag]
  all_goals (first|rfl|exact⟨rfl,rfl⟩)
 by_cases h110:c=110
 ·subst h110;have hn:=hN rfl;obtain⟨n,hn'⟩:∃n:Nat,a.n=(n:Int):=⟨a.n.toNat,by omega⟩;have h346:=F346_eq (n:=n) (by omega);rw[hn'];simp only[↓go1,gB0,reduceIte,simprocAttr,Aa s346,h346,Qj,or_self,Ag]
  all_goals (first|rfl|exact⟨rfl,rfl⟩)
 by_cases h99:c=99
 ·subst h99;have hc:=hC rfl;by_cases h1:a.cas=-1
  ·rw[h1];simp only[↓go1,gB0,reduceIte,simprocAttr,or_self,Ag]
   all_goals (first|rfl|exact⟨rfl,rfl⟩)
  ·obtain⟨n,hn'⟩:∃n:Nat,a.cas=(n:Int):=⟨a.cas.toNat,by omega⟩;have h346:=F346_eq (n:=n) (by omega);rw[hn']at h1 ⊢;simp only[↓go1,gB0,reduceIte,simprocAttr,h1,Aa s346,h346,Qj,or_self,Ag]
   all_goals (first|rfl|exact⟨rfl,rfl⟩)
 by_cases h102:c=102
 ·subst h102;cases a.fl<;>simp only[↓go1,gB0,reduceIte,simprocAttr,or_self,Ag]
  all_goals (first|rfl|exact⟨rfl,rfl⟩)
 by_cases h108:c=108
 ·subst h108;have hl:=hL rfl;have h348:=F348_eq (nl:=a.nln) (l:=a.ns) hp.ns hl;simp only[↓go1,gB0,reduceIte,simprocAttr,Aa s348,h348,Aa s347,F347_eq,or_self,Ag]
  all_goals (first|rfl|exact⟨rfl,rfl⟩)
 by_cases h100:c=100
 ·subst h100;have h317:=F317_eq (s:=a.da) (by have:=hp.da;omega);simp only[↓go1,gB0,reduceIte,simprocAttr,Aa s317,h317,Aa s347,F347_eq,or_self,Ag]
  all_goals (first|rfl|exact⟨rfl,rfl⟩)
 by_cases h114:c=114
 ·subst h114;have h232:=F232_eq (nl:=a.nlr) (l:=a.rs) (by have:=hp.rl;omega) hp.rs;simp only[↓go1,gB0,reduceIte,simprocAttr,Aa s232,h232,Aa s347,F347_eq,or_self,Ag]
  all_goals (first|rfl|exact⟨rfl,rfl⟩)
 have h317:=F317_eq (s:=a.key) (by have:=hp.key;omega);simp only[↓go1,gB0,reduceIte,simprocAttr,Aa s317,h317,h116,h112,h109,h113,h110,h99,h102,h108,h100,h114,or_self,Ag]
 all_goals (first|rfl|exact⟨rfl,rfl⟩)
def zeroB(a:Ak):Bool:=a.ns.isEmpty&&(a.rs.isEmpty&&(decide (a.op=0)&&(decide (a.tk=[])&&(decide (a.pa=[])&&(decide (a.ot=[])&&(decide (a.n=0)&&(decide (a.cas=0)&&(!a.fl&&(decide (a.da=[])&&decide (a.key=[]))))))))))
def ak0:Ak:=⟨0,[],[],[],0,0,false,true,[],[],true,[],[]⟩
def F154:List D->Option D:=FX (λa:Ak=>[akD a,akD ak0]) (λa=>AkOk a) (λa=> .bool (zeroB a))
theorem F154_eq{a:Ak}(h:AkOk a):F154 [akD a,akD ak0]=some (.bool (zeroB a)):=
 BA (mk:=λa:Ak=>[akD a,akD ak0]) (λx y e=>by
  simp only[Qa,and_true]at e;exact Ed e) h
theorem ok262:(Ac F261).ok Qb 262:=by
 obtain⟨S,hS,hl⟩:=A5 (Ab ok345 Ad);have s345:=hl 345 _ rfl;clear hl;refine BI hS fn262 (λ_=>by simp) (λp hs=>?_);have h345:=F261_eq (nl:=p.1) (nl':=p.2.2) (l:=p.2.1) hs;unfold dc262;by_cases hcm:(([D.slice p.1 [] p.2.1,.slice p.2.2 [] []]:List D).map D.un).all D.calm=true
 ·simp only[↓go1,gB3,reduceIte,simprocAttr,Aa s345,h345,and_self]
  all_goals (first|rfl|exact⟨rfl,rfl⟩)
 ·exact absurd rfl hcm
theorem ok154 : (Ac F154).ok Qb 154 := by
  obtain ⟨S, hS, hl⟩ := A5 (Ab ok261 (Ab ok262 Ad))
  have s261 := hl 261 _ rfl
  have s262 := hl 262 _ rfl
  clear hl
  refine BI hS fn154 (fun _ => by simp) (fun a hp => ?_)
  have h261 := F261_eq (nl := a.nln) (nl' := true) (l := AR a.ns) (by rw [BY]; have := hp.ns; omega)
  have h262 := F261_eq (nl := a.nlr) (nl' := true) (l := Al a.rs) (by rw [Au]; have := hp.rl; omega)
  have e1 : (AR a.ns).isEmpty = a.ns.isEmpty := by cases a.ns <;> rfl
  have e2 : (Al a.rs).isEmpty = a.rs.isEmpty := by cases a.rs <;> rfl
  rw [e1] at h261
  rw [e2] at h262
  unfold zeroB dc154 akD akC ak0
  simp only
  generalize a.ns.isEmpty = b1 at h261
  generalize a.rs.isEmpty = b2 at h262
  have n1 : AR ([] : List Int) = [] := rfl
  have n2 : Al ([] : List Rl) = [] := rfl
  cases b1 with
  | false => simp only [↓go1, gB0, reduceIte, simprocAttr, n1, n2, Aa s261, h261, Qv, Ag, Qa, Qf, Qd]
             all_goals (first | rfl | exact ⟨rfl, rfl⟩)
  | true =>
    cases b2 with
    | false => simp only [↓go1, gB0, reduceIte, simprocAttr, n1, n2, Aa s261, h261, Aa s262, h262, Qv, QH, Ag, Qa, Qf, Qd]
               all_goals (first | rfl | exact ⟨rfl, rfl⟩)
    | true =>
      simp only [Bool.true_and]
      by_cases g1 : a.op = 0
      · by_cases g2 : a.tk = []
        · by_cases g3 : a.pa = []
          · by_cases g4 : a.ot = []
            · by_cases g5 : a.n = 0
              · by_cases g6 : a.cas = 0
                · cases g7 : a.fl with
                  | false =>
                    by_cases g8 : a.da = []
                    · simp only [↓go1, gB0, reduceIte, simprocAttr, n1, n2, Aa s261, h261, Aa s262, h262, Ag, Qa, Qf, Qd, g1, g2, g3, g4, g5, g6, g8]
                      trace_state
                      all_goals (first | rfl | exact ⟨rfl, rfl⟩)
                    · simp only [↓go1, gB0, reduceIte, simprocAttr, n1, n2, Aa s261, h261, Aa s262, h262, Qv, QH, Ag, Qa, Qf, Qd, g1, g2, g3, g4, g5, g6, g8]
                      all_goals (first | rfl | exact ⟨rfl, rfl⟩)
                  | true => simp only [↓go1, gB0, reduceIte, simprocAttr, n1, n2, Aa s261, h261, Aa s262, h262, Qv, QH, Ag, Qa, Qf, Qd, g1, g2, g3, g4, g5, g6]
                            all_goals (first | rfl | exact ⟨rfl, rfl⟩)
                · simp only [↓go1, gB0, reduceIte, simprocAttr, n1, n2, Aa s261, h261, Aa s262, h262, Qv, QH, Ag, Qa, Qf, Qd, g1, g2, g3, g4, g5, g6]
                  all_goals (first | rfl | exact ⟨rfl, rfl⟩)
              · simp only [↓go1, gB0, reduceIte, simprocAttr, n1, n2, Aa s261, h261, Aa s262, h262, Qv, QH, Ag, Qa, Qf, Qd, g1, g2, g3, g4, g5]
                all_goals (first | rfl | exact ⟨rfl, rfl⟩)
            · simp only [↓go1, gB0, reduceIte, simprocAttr, n1, n2, Aa s261, h261, Aa s262, h262, Qv, QH, Ag, Qa, Qf, Qd, g1, g2, g3, g4]
              all_goals (first | rfl | exact ⟨rfl, rfl⟩)
          · simp only [↓go1, gB0, reduceIte, simprocAttr, n1, n2, Aa s261, h261, Aa s262, h262, Qv, QH, Ag, Qa, Qf, Qd, g1, g2, g3]
            all_goals (first | rfl | exact ⟨rfl, rfl⟩)
        · simp only [↓go1, gB0, reduceIte, simprocAttr, n1, n2, Aa s261, h261, Aa s262, h262, Qv, QH, Ag, Qa, Qf, Qd, g1, g2]
          all_goals (first | rfl | exact ⟨rfl, rfl⟩)
      · simp only [↓go1, gB0, reduceIte, simprocAttr, n1, n2, Aa s261, h261, Aa s262, h262, Qv, Ag, Qa, Qf, Qd, g1]
        all_goals (first | rfl | exact ⟨rfl, rfl⟩)
theorem AG{m:Mem}{i j:Id}{o:Nat}{ds:List D}(h:j≠i):∀{n p:Nat},Ai (m.put i o ds) j p n=Ai m j p n
 |0,p=>rfl
 |n+1,p=>by
  simp only[Ai,Mem.put_other h];rw[AG h]
theorem rdC_aux{i:Id}:∀{ds:List D} {m:Mem} {p:Nat},(∀k d,ds[k]?=some d->m i (p+k)=some d)->Ai m i p ds.length=some ds
 |[],m,p,_=>rfl
 |d::r,m,p,h=>by
  have h0:=h 0 d rfl;rw[Zt]at h0;have hr:=rdC_aux (ds:=r) (m:=m) (p:=p+1) λk x hx=>by
   have:=h (k+1) x (by simpa using hx);rw[show p+1+k=p+(k+1)by omega];exact this
  simp only[Qn,Ai,h0,hr,Zc]
theorem AQ{m:Mem}{i:Id}{ds:List D}{n:Nat}(h:ds.length=n):Ai (m.put i 0 ds) i 0 n=some ds:=by
 subst h;exact rdC_aux λk d hd=>by
  have hk:=(Qk.1 hd).1;rw[Ag,if_pos ⟨rfl,Ql _,by omega⟩];simpa using hd
theorem rdC_one{m:Mem}{i:Id}{o:Nat}:Ai m i o 1=(m i o).map λd=>[d]:=by
 simp only[Ai];cases m i o<;>rfl
theorem Ca(a:Ak):(akC a).map D.un1=akC a:=rfl
theorem Cb(a:Ak):(akC a).all D.calm1=true:=rfl
theorem AK(a:Ak):D.cells (.agg (akC a))=akC a:=rfl
theorem Bd(a:Ak):(akC a).length=11:=rfl
theorem layA_len{a:Ak}{c:Int}(h:AkOk a):(layA a c).length<=100000:=by
 obtain⟨_,_,h1,h2,h3,h4,h5,h6,h7,h8⟩:=h;have n1:=numB_len a.n.toNat;have n2:=numB_len a.cas.toNat;have oN:∀s:Bs,s.length<=100000->(orN s).length<=100000:=by
  intro s hs;unfold orN;split
  ·simp
  ·exact hs
 have j1:(De (Fs a.ns)).length<=100000:=by
  have e1:=Fv (Fs a.ns);have e2:=sumL_le (l:=Fs a.ns) (b:=3) λx hx=>by
   obtain⟨y,_,rfl⟩:=Q0.1 hx;exact numB_len _
  rw[Dy]at e1 e2;omega
 have j2:(if Cq a.rs=0 then De (B5 a.rs)else []).length<=100000:=by
  split
  ·rename_i hz;have e0:=(polE_zero hz).1;have e1:=Fv (B5 a.rs);have e2:=sumL_le (l:=B5 a.rs) (b:=1007) λx hx=>by
    obtain⟨y,hy,rfl⟩:=Q0.1 hx;have h1:=(h7 y hy).1;have h2:=EP y.2.toNat;simp only[ruleB,Qm,Qn,QT];omega
   rw[Cp]at e1 e2;omega
  ·simp
 have x1:=hexB_len a.da;have x2:=hexB_len a.key;unfold layA;split
 ·omega
 ·split
  ·omega
  ·split
   ·omega
   ·split
    ·omega
    ·split
     ·split
      ·simp
      ·omega
     ·split
      ·split<;>simp
      ·split
       ·exact oN _ j1
       ·split
        ·exact oN _ (by omega)
        ·split
         ·exact oN _ j2
         ·omega
def lineA(a:Ak):Bs:=formW a.op++(CA a.op).flatMap λc=>32::layA a (c.toNat:Int)
theorem forms_ok:forms.all (λp=>decide (p.1.length<=20)&&(decide (p.2.length<=20)&&p.2.all λc=>decide (c.toNat<128)))=true:=by decide+kernel
theorem form_at(op:Int):(formW op).length<=20∧(CA op).length<=20∧∀c∈CA op,c.toNat<128:=by
 unfold formW CA;have:∀p:Bs×Bs,p=([],[])∨p∈forms->p.1.length<=20∧p.2.length<=20∧∀c∈p.2,c.toNat<128:=by
  intro p hp;rcases hp with rfl|hp
  ·simp
  ·have h:=QS.1 forms_ok p hp;simp only[Qu,decide_eq_true_eq,QS]at h;exact h
 refine this _ ?_;by_cases h:op.toNat<forms.length
 ·right;simp[Zg,Qc h]
 ·left;simp[Zg,Q6 (Nat.le_of_not_lt h)]
theorem loop155{S:Summs}{a:Ak}(ha:AkOk a)(s263:S 263=some (Ac F263)){ls:Bs}(hls:ls.length<=20)(has:∀c∈ls,c.toNat<128)(hlay:∀c∈ls,LayOk a (c.toNat:Int)){ki:Id}(hki:([0]:Id)≠ki){w0:Bs}(hw0:w0.length<=20){Q:Ex->St->Prop}
  (hexit:∀st,st.s 4= .str (w0++ls.flatMap λc=>32::layA a (c.toNat:Int))->Q (.exit 0) st):
  ∀(f p:Nat) st g,ls.length=p+f->st.s 1= .ptr [0] 0->st.s 4= .str (w0++(ls.take p).flatMap λc=>32::layA a (c.toNat:Int))->st.s 14= .itp ki->Ai st.m [0] 0 11=some (akC a)->st.m ki 1=some (.it ls p)->
   A6 S [] dc155l0 Q st g:=by
 intro f;induction f with
 |zero=>
  intro p st g hf h1 h4 h14 hm hit;refine Af dc155l0.eq_1 ?_;have hp:¬(p<ls.length):=by omega
  simp only[↓go1,go2,reduceIte,simprocAttr,h14,hp,hit,Qh];refine hexit _ ?_;simp only[↓go1,reduceIte,Qw,h4];rw[Qt (by omega)]
 |succ f ih=>
  intro p st g hf h1 h4 h14 hm hit;refine Af dc155l0.eq_1 ?_;have hp:p<ls.length:=by omega
  have hat:ls[p]?=some ls[p]:=Qc hp;have hmem:ls[p]∈ls:=QC hp;have hdec:=ascii_dec hat (has _ hmem);have h263:F263 [.agg (akC a),.int .i32 (ls[p].toNat:Int)]=some (.str (layA a (ls[p].toNat:Int))):=F263_eq ha (hlay _ hmem);have hll:=layA_len (c:=(ls[p].toNat:Int)) ha;have htk:ls.take (p+1)=ls.take p++[ls[p]]:=by rw[QK,hat];rfl
  have hacc:((ls.take p).flatMap λc=>32::layA a (c.toNat:Int)).length<=100001*20:=by
   have:∀(l:Bs),((l.flatMap λc=>32::layA a (c.toNat:Int))).length<=100001*l.length:=by
    intro l;induction l with
    |nil=>simp
    |cons x r ih=>
     have:=layA_len (c:=(x.toNat:Int)) ha;simp only[List.flatMap_cons,Qm,Qn,Nat.mul_add];omega
   have h:=this (ls.take p);have h':(ls.take p).length<=20:=by rw[QD];omega
   omega
  have hb1:(1+(layA a (ls[p].toNat:Int)).length<=9223372036854775807)=True:=eq_true (by omega);have hb2:(w0.length+((ls.take p).flatMap λc=>32::layA a (c.toNat:Int)).length+(1+(layA a (ls[p].toNat:Int)).length)<=9223372036854775807)=True:=eq_true (by omega);generalize ls[p]=c at hdec h263 htk hb1 hb2;obtain⟨st_s,st_m,st_c⟩:=st;simp only at h1 h4 h14 hm hit;simp only[↓go1,gB2,go4,reduceIte,simprocAttr,h1,h4,h14,hm,hdec,AG hki,Aa s263,h263,hb1,hb2,Ca,Cb,hp,hit,Qm,Qh,Qr];refine ih (p+1) _ _ (by omega) ?_ ?_ ?_ ?_ ?_
  ·exact h1
  ·simp only[↓go1,reduceIte,Qw];rw[htk];simp
  ·exact h14
  ·simp only[hm,AG hki]
  ·simp only[reduceIte,QI,Ag,QG,and_self,Qn,QT,Nat.lt_add_one,Nat.sub_self,Qh,hdec]
def F155:List D->Option D:=FX (λa:Ak=>[akD a]) (λa=>AkOk a∧∀c∈CA a.op,LayOk a (c.toNat:Int)) (λa=> .str (lineA a))
theorem F155_eq{a:Ak}(h:AkOk a)(h2:∀c∈CA a.op,LayOk a (c.toNat:Int)):F155 [akD a]=some (.str (lineA a)):=
 BA (mk:=λa:Ak=>[akD a]) (λx y e=>by
  simp only[Qa,and_true]at e;exact Ed e) ⟨h,h2⟩
theorem ok155:(Ac F155).ok Qb 155:=by
 obtain⟨S,hS,hl⟩:=A5 (Ab ok151 (Ab ok263 Ad));have s151:=hl 151 _ rfl;have s263:=hl 263 _ rfl;clear hl;refine BI hS fn155 (λ_=>by simp) (λa hp=>?_);obtain⟨ha,hlay⟩:=hp;have h151:=R151_eq ha.op0 ha.op;obtain⟨f1,f2,f3⟩:=form_at a.op;have hop:akC a= .int .u8 a.op::(akC a).tail:=rfl;unfold lineA dc155 akD;have hm0:∀m:Mem,m.put [0] 0 (akC a) [0] 0=some (.int .u8 a.op):=λm=>by
  rw[Ag,if_pos ⟨rfl,QG _,by rw[Bd];omega⟩];rfl
 simp only[↓go1,gB0,reduceIte,simprocAttr,Aa s151,h151,hm0,AK,Bd,Ag,Ao,Ap,Qg,Qe,Qa,Qd];refine loop155 (ls:=CA a.op) (w0:=formW a.op) ha s263 f2 f3 hlay (ki:=_) ?_ f1 (λst h4=>?_) (CA a.op).length 0 _ _ (by omega) rfl ?_ rfl ?_ ?_
 ·decide
 ·simp only[↓go1,gB3,reduceIte,simprocAttr,h4]
  all_goals (first|rfl|exact⟨rfl,rfl⟩)
 ·simp only[↓go1,go2,reduceIte,Qw,Qy,List.flatMap_nil,List.append_nil]
 ·simp only[AG (show([0]:Id)≠[12]by decide),AG (show([0]:Id)≠[5]by decide),AQ (Bd a)]
 ·simp only[go3,go4,reduceIte,simprocAttr,Ag,Ql,QJ,Qn,QT,Qi,Qh,Qr,and_self,Qa,false_and,Qd]
def chkR(a:Ak):Ak->Bs->Int×Ak
 |b,[]=>(0,b)
 |b,c::r=>if BO a (c.toNat:Int)≠0 then(BO a (c.toNat:Int),b)else chkR a (DH b (c.toNat:Int)) r
def bareA(a:Ak):Ak:={a with op:=0}
def B8(a:Ak):Int:=if formW a.op=[]then 22 else if(chkR a (bareA a) (CA a.op)).1≠0 then(chkR a (bareA a) (CA a.op)).1 else if zeroB (chkR a (bareA a) (CA a.op)).2=false then 2 else if 400<(lineA a).length then 5 else 0
theorem AkOk.without{a:Ak}(h:AkOk a)(c:Int):AkOk (DH a c):=by
 unfold DH;obtain⟨h0,h1,h2,h3,h4,h5,h6,h7,h8,h9⟩:=h
 repeat' split
 all_goals exact⟨by first|exact h0|simp,by first|exact h1|simp,by first|exact h2|simp,by first|exact h3|simp,by first|exact h4|simp,by first|exact h5|simp,by first|exact h6|simp,by first|exact h7|simp,by first|exact h8|simp,by first|exact h9|simp⟩
theorem rdC_bare{m:Mem}{i:Id}(a:Ak):Ai ((m.put i 0 (akC a)).put i 0 [.int .u8 0]) i 0 11=some (akC (bareA a)):=by
 have:=rdC_aux (i:=i) (ds:=akC (bareA a)) (m:=(m.put i 0 (akC a)).put i 0 [.int .u8 0]) (p:=0) λk d hd=>by
  have hk:=(Qk.1 hd).1;rw[Bd]at hk;rw[Qi];cases k with
  |zero=>
   rw[Ag,if_pos ⟨rfl,QG _,by simp⟩];exact hd
  |succ k=>
   rw[Ag,if_neg (by simp),Ag,if_pos ⟨rfl,Ql _,by rw[Bd];omega⟩];exact hd
 exact this
theorem loop68{S:Summs}{a:Ak}(ha:AkOk a)(s152:S 152=some (Ac F152))(s153:S 153=some (Ac F153)){ls:Bs}(has:∀c∈ls,c.toNat<128){r:Int×Ak}{Q:Ex->St->Prop}
  (hret:∀st,r.1≠0->st.s 2= .int .i64 r.1->Q .ret st)
  (hexit:∀st,r.1=0->(∀c∈ls,BO a (c.toNat:Int)=0)->AkOk r.2->st.s 1= .ptr [0] 0->st.s 4= .ptr [11] 0->Ai st.m [0] 0 11=some (akC a)->Ai st.m [11] 0 11=some (akC r.2)->Q (.exit 0) st):
  ∀(f p:Nat)(b:Ak) st g,ls.length=p+f->chkR a b (ls.drop p)=r->(∀c∈ls.take p,BO a (c.toNat:Int)=0)->AkOk b->st.s 1= .ptr [0] 0->st.s 4= .ptr [11] 0->st.s 18= .itp [17]->Ai st.m [0] 0 11=some (akC a)->Ai st.m [11] 0 11=some (akC b)->st.m [17] 1=some (.it ls p)->
   A6 S [] dc68l0 Q st g:=by
 have ne1:([0]:Id)≠[17]:=by decide
 have ne2:([11]:Id)≠[17]:=by decide
 have ne3:([0]:Id)≠[11]:=by decide
 have ne4:([17]:Id)≠[11]:=by decide
 intro f;induction f with
 |zero=>
  intro p b st g hf hr hz hb h1 h4 h18 hm hm2 hit;refine Af dc68l0.eq_1 ?_;have hp:¬(p<ls.length):=by omega
  simp only[↓go1,go2,reduceIte,simprocAttr,h18,hp,hit,Qh];rw[List.drop_of_length_le (by omega)]at hr;rw[Qt (by omega)]at hz;simp only[chkR]at hr;subst hr;exact hexit _ rfl hz hb h1 h4 hm hm2
 |succ f ih=>
  intro p b st g hf hr hz hb h1 h4 h18 hm hm2 hit;refine Af dc68l0.eq_1 ?_;have hp:p<ls.length:=by omega
  have hat:ls[p]?=some ls[p]:=Qc hp;have hmem:ls[p]∈ls:=QC hp;have hdec:=ascii_dec hat (has _ hmem);have h152:F152 [.agg (akC a),.int .i32 (ls[p].toNat:Int)]=some (.int .i64 (BO a (ls[p].toNat:Int))):=F152_eq ha;have h153:F153 [.agg (akC b),.int .i32 (ls[p].toNat:Int)]=some (.agg (akC (DH b (ls[p].toNat:Int)))):=F153_eq;have htk:ls.take (p+1)=ls.take p++[ls[p]]:=by rw[QK,hat];rfl
  have hdr:ls.drop p=ls[p]::ls.drop (p+1):=List.drop_eq_getElem_cons hp;have hb':=hb.without (ls[p].toNat:Int);rw[hdr]at hr;unfold chkR at hr;generalize ls[p]=c at hdec h152 h153 htk hr hb';obtain⟨st_s,st_m,st_c⟩:=st;simp only at h1 h4 h18 hm hm2 hit;by_cases he:BO a (c.toNat:Int)=0
  ·rw[if_neg (λh=>h he)]at hr;rw[he]at h152;simp only[↓go1,gB3,reduceIte,simprocAttr,h1,h4,h18,hm,hm2,hdec,AG ne1,AG ne2,Aa s152,h152,Aa s153,h153,Ca,Cb,AK,Bd,hp,hit,and_self,Qh,Qr,Qe];refine ih (p+1) _ _ _ (by omega) hr (λx hx=>?_) hb' ?_ ?_ ?_ ?_ ?_ ?_
   ·rw[htk]at hx;rcases Zd.1 hx with hx|hx
    ·exact hz x hx
    ·simp only[Q9,List.mem_nil_iff,or_false]at hx;rw[hx];exact he
   ·exact h1
   ·exact h4
   ·exact h18
   ·simp only[AG ne3,AG ne1,hm]
   ·simp only[AQ (Bd _)]
   ·simp only[reduceIte,QI,Mem.put_other ne4,Ag,QG,and_self,Qn,QT,Nat.lt_add_one,Nat.sub_self,Qh,hdec]
  ·rw[if_pos he]at hr;simp only[↓go1,gB3,reduceIte,simprocAttr,h1,h18,hm,hdec,AG ne1,Aa s152,h152,he,Ca,Cb,hp,hit,Qh,Qr];exact hret _ (by rw[←hr];exact he) (by rw[←hr];rfl)
theorem fineE_zero{b:Bool}(h:EU b=0):b=true:=by cases b with
 |true=>rfl
 |false=>cases h
theorem layOk_of{a:Ak}{c:Int}(h:BO a c=0):LayOk a c:=by
 refine⟨?_,?_,?_⟩
 ·rintro rfl;have e:BO a 110=EU (decide (0<=a.n∧a.n<=999)):=by simp[BO]
  rw[e]at h;have:=of_decide_eq_true (fineE_zero h);omega
 ·rintro rfl;have e:BO a 99=EU (decide (-1<=a.cas∧a.cas<=999)):=by simp[BO]
  rw[e]at h;have:=of_decide_eq_true (fineE_zero h);omega
 ·rintro rfl;have e:BO a 108=EU (countB a.ns):=by simp[BO]
  rw[e]at h;have h2:=fineE_zero h;unfold countB at h2;rw[Qu]at h2;intro x hx;have h3:(a.ns.any λx=>!decide (1<=x∧x<=999))=false:=by simpa using h2.2
  rw[Q_]at h3;have h4:=h3 x hx;have h5:1<=x∧x<=999:=by simpa using h4
  omega
def F68:List D->Option D:=FX (λa:Ak=>[akD a]) (λa=>AkOk a) (λa=> .int .i64 (B8 a))
theorem F68_eq{a:Ak}(h:AkOk a):F68 [akD a]=some (.int .i64 (B8 a)):=
 BA (mk:=λa:Ak=>[akD a]) (λx y e=>by
  simp only[Qa,and_true]at e;exact Ed e) h
theorem ok68:(Ac F68).ok Qb 68:=by
 obtain⟨S,hS,hl⟩:=A5 (Ab ok151 (Ab ok152 (Ab ok153 (Ab ok154 (Ab ok155 Ad)))));have s151:=hl 151 _ rfl;have s152:=hl 152 _ rfl;have s153:=hl 153 _ rfl;have s154:=hl 154 _ rfl;have s155:=hl 155 _ rfl;clear hl;refine BI hS fn68 (λ_=>by simp) (λa ha=>?_);have h151:=R151_eq ha.op0 ha.op;obtain⟨f1,f2,f3⟩:=form_at a.op;have hm0:∀m:Mem,m.put [0] 0 (akC a) [0] 0=some (.int .u8 a.op):=λm=>by
  rw[Ag,if_pos ⟨rfl,QG _,by rw[Bd];omega⟩];rfl
 have ne1:([0]:Id)≠[17]:=by decide
 have ne2:([11]:Id)≠[17]:=by decide
 have ne3:([0]:Id)≠[11]:=by decide
 have ne4:([0]:Id)≠[5]:=by decide
 have hm1:∀m:Mem,m.put [11] 0 (akC a) [11] 0=some (.int .u8 a.op):=λm=>by
  rw[Ag,if_pos ⟨rfl,QG _,by rw[Bd];omega⟩];rfl
 have hb0:AkOk (bareA a):=⟨by simp[bareA],by simp[bareA],ha.tk,ha.pa,ha.ot,ha.ns,ha.da,ha.rl,ha.rs,ha.key⟩;have hlay:(∀c∈CA a.op,BO a (c.toNat:Int)=0)->F155 [.agg (akC a)]=some (.str (lineA a)):=λh=>F155_eq ha λc hc=>layOk_of (h c hc)
 unfold B8 dc68 akD;by_cases hw:formW a.op=[]
 ·have hw':(formW a.op==([]:Bs))=true:=by rw[hw];rfl
  simp only[↓go1,gB2,go4,reduceIte,simprocAttr,AK,Bd,Aa s151,h151,hm0,AQ,Ag,Ql,QJ,Qh,and_self,Qe,Qa,Qd,hw]
  all_goals (first|rfl|exact⟨rfl,rfl⟩)
 ·have hw':(formW a.op==([]:Bs))=false:=by simpa using hw
  simp only[↓go1,gB0,reduceIte,simprocAttr,AK,Bd,Aa s151,h151,hm0,hm1,rdC_one,AQ,Ag,Qe,Qa,and_false,Qd,hw,AG ne4,AQ (Bd a)];generalize hr:chkR a (bareA a) (CA a.op)=r;refine loop68 (r:=r) ha s152 s153 f3 (λst h1 h2=>?_) (λst h1 hz hb h1' h4 hm hm2=>?_) (CA a.op).length 0 (bareA a) _ _ (by omega) hr (by simp) hb0 rfl rfl rfl ?_ ?_ ?_
  ·simp only[↓go1,gB3,reduceIte,h1,h2,ne_eq];rw[if_neg hw]
  ·have h155:=hlay hz;have h154:F154 [.agg (akC r.2),.agg [.int .u8 0,.str [],.str [],.str [],.int .i64 0,.int .i64 0,.bool false,.slice true [] [],.str [],.slice true [] [],.str []]]=some (.bool (zeroB r.2)):=F154_eq hb;cases hzb:zeroB r.2 with
   |false=>
    rw[hzb]at h154;simp only[↓go1,gB3,reduceIte,simprocAttr,Ca,Cb,ne_eq,Qp,QE,Za,Zm,Zs,h1,h4,hm2,Aa s154,h154,BH,D.un1,D.calm1,Zk];rw[if_neg hw]
   |true=>
    rw[hzb]at h154;by_cases hl:400<(lineA a).length
    ·have hl':((400:Int)<((lineA a).length:Int)):=by omega
     simp only[↓go1,gB3,reduceIte,simprocAttr,Ca,Cb,ne_eq,Qp,QE,Za,Zm,Zs,h1,h1',h4,hm,hm2,Aa s154,h154,Aa s155,h155,BH,hl,hl',D.un1,D.calm1,Zk];rw[if_neg hw]
    ·have hl':¬((400:Int)<((lineA a).length:Int)):=by omega
     simp only[↓go1,gB3,reduceIte,simprocAttr,Ca,Cb,ne_eq,Qp,QE,Za,Zm,Zs,h1,h1',h4,hm,hm2,Aa s154,h154,Aa s155,h155,BH,hl,hl',D.un1,D.calm1,Zk];rw[if_neg hw]
  ·simp only[AG ne1,AG ne3,AG ne4,AQ (Bd a)]
  ·simp only[AG ne2];exact rdC_bare a
  ·simp only[go3,go4,reduceIte,simprocAttr,Ag,Ql,QJ,Qn,QT,Qi,Qh,Qr,and_self,Qa,false_and,and_false,Qd]
end Go.Vd
namespace Go.Vd
open Go.Proofs
end Go.Vd
namespace Go.Vd
open Go.Proofs Go.RowKit
end Go.Vd
namespace Go.Vd
open Go.Proofs
end Go.Vd
namespace Go.Vd
open Go.Proofs Go.RowKit
theorem dec_em{b:Bool}:decide (b=true)=b:=by cases b<;>rfl
end Go.Vd
namespace Go.Vd
open Go.Proofs
def dc156:DC:=(sr [cb 2 false] (sr [mm 3 0,oo 4 (.bin .leq (.t 3) (.c (.int .u8 8))),mm 2 4] .ret))
theorem fn156:Fn Qb 156 5 dc156 [.t 2]:=Am func156
def dc157:DC:=(sr [oo 4 (.box (.t 0)),cb 8 false] (sr [ff 12 4 4,lk 13 1 12,mm 14 1,cc 15 35 [(.t 13),(.t 14)],mm 11 15,xx 16 0 11,xx 17 1 11,oo 9 (.alloc [(.str []),(.str []),(.slice true [] [])]),oz (.store 3 (.t 9) (.t 16)),mm 10 17] (sr [mm 18 10,mm 19 18,og 20 (.mv (.t 3)) 1 true,og 21 (.faddr 4 (.t 4)) 1 true,og 22 (.load (some 1) (.t 21)) 1 true,og 23 (.mv (.t 1)) 1 true,og 24 (.mv (.t 2)) 1 true,og 25 (.call (.c (.fn 36 [])) [(.t 22),(.t 23),(.t 24)]) 1 true,og 26 (.bin .andNot (.t 20) (.t 25)) 1 true,og 27 (.bin .eql (.t 26) (.c (.int .u8 0))) 1 true,oo 28 (.pick (.t 19) (.t 27) (.c (.bool false))),mm 8 28] .ret)))
theorem fn157:Fn Qb 157 29 dc157 [.t 8]:=Am func157
def dc69:DC:=(sr [oo 2 (.box (.t 0)),oo 3 (.box (.t 1)),cb 4 false] (sr [ff 6 2 3,ll 7 6,mm 5 7] (.seq (sr [ff 8 0 3,ll 9 8,cc 10 156 [(.t 9)]] (cd 10 (.row [oo 5 (.mv (.c (.str [115,121,115])))]) .skip)) (.seq (.drawn [lk 11 5 2,ff 12 1 3,ll 13 12,mm 14 5,ff 15 0 3,ll 16 15,cc 17 27 [(.t 16)],cc 18 157 [(.t 11),(.t 13),(.t 14),(.t 17)],mm 19 18,og 20 (.faddr 0 (.t 3)) 8 true,og 21 (.load none (.t 20)) 8 true,og 22 (.bin .neq (.t 21) (.c (.int .u8 18))) 8 true,og 23 (.mv (.t 22)) 8 true,og 24 (.load (some 5) (.t 2)) 12 false,og 25 (.faddr 1 (.t 3)) 12 false,og 26 (.load none (.t 25)) 12 false,og 27 (.faddr 3 (.t 3)) 12 false,og 28 (.load none (.t 27)) 12 false,og 29 (.call (.c (.fn 157 [])) [(.t 24),(.t 26),(.t 28),(.c (.int .u8 2))]) 12 false,og 30 (.pick (.t 23) (.c (.bool true)) (.t 29)) 8 true,oo 31 (.pick (.t 19) (.t 30) (.c (.bool false))),mm 4 31] [(6,0),(6,2)]) .ret))))
theorem fn69:Fn Qb 69 32 dc69 [.t 4]:=Am func69
def dc70:DC:=(sr [oo 2 (.box (.t 0)),oo 3 (.box (.t 1)),cb 4 false] (.seq (sr [ff 8 0 3,ll 9 8,cc 10 156 [(.t 9)]] (cd 10 (sr [cb 4 true] .ret) .skip)) (sr [ff 12 3 2,lk 13 1 12,ff 14 2 3,ll 15 14,cc 16 158 [(.t 13),(.t 15)],mm 11 16,xx 17 0 11,xx 18 1 11,oo 5 (.alloc [(.str []),(.int .i64 0),(.bool false)]),oz (.store 3 (.t 5) (.t 17)),mm 6 18] (sr [ff 19 0 3,ll 20 19,oo 21 (.bin .eql (.t 20) (.c (.int .u8 17))),mm 22 21,og 23 (.mv (.t 6)) 3 true,og 24 (.bin .eql (.t 23) (.c (.int .i64 0))) 3 true,oo 25 (.pick (.t 22) (.t 24) (.c (.bool false))),mm 7 25] (sr [mm 26 7,mm 27 26,og 28 (.load (some 5) (.t 2)) 1 false,og 29 (.faddr 2 (.t 3)) 1 false,og 30 (.load none (.t 29)) 1 false,og 31 (.call (.c (.fn 159 [])) [(.t 28),(.t 30)]) 1 false,oo 32 (.pick (.t 27) (.c (.bool true)) (.t 31)),mm 33 32,og 34 (.faddr 0 (.t 3)) 7 true,og 35 (.load none (.t 34)) 7 true,og 36 (.bin .neq (.t 35) (.c (.int .u8 18))) 7 true,og 37 (.mv (.t 36)) 7 true,og 38 (.load (some 5) (.t 2)) 11 false,og 39 (.faddr 3 (.t 3)) 11 false,og 40 (.load none (.t 39)) 11 false,og 41 (.call (.c (.fn 159 [])) [(.t 38),(.t 40)]) 11 false,og 42 (.pick (.t 37) (.c (.bool true)) (.t 41)) 7 true,oo 43 (.pick (.t 33) (.t 42) (.c (.bool false))),mm 4 43] .ret)))))
theorem fn70:Fn Qb 70 44 dc70 [.t 4]:=Am func70
def dc25:DC:=(sr [oo 2 (.box (.t 0)),oo 3 (.box (.t 1)),ci 4 0] (.seq (sr [lk 6 11 3,cc 7 68 [(.t 6)],mm 5 7] (sr [mm 8 5,bi 9 .neq 8 0] (cd 9 (sr [mm 10 5,mm 4 10] .ret) .skip))) (.seq (.block 0 (sr [ff 12 0 3,ll 13 12,oo 14 (.bin .eql (.t 13) (.c (.int .u8 1))),mm 11 14] (cd 11 (sr [ci 4 0] .ret) (sr [ff 16 0 3,ll 17 16,oo 18 (.bin .eql (.t 17) (.c (.int .u8 2))),mm 19 18,og 20 (.faddr 0 (.t 2)) 3 true,og 21 (.load none (.t 20)) 3 true,og 22 (.un .not (.t 21)) 3 true,oo 23 (.pick (.t 19) (.t 22) (.c (.bool false))),mm 15 23] (cd 15 (sr [ci 4 9] .ret) (sr [ff 25 0 3,ll 26 25,oo 27 (.bin .eql (.t 26) (.c (.int .u8 2))),mm 28 27,og 29 (.faddr 10 (.t 3)) 3 true,og 30 (.load none (.t 29)) 3 true,og 31 (.faddr 2 (.t 2)) 3 true,og 32 (.load none (.t 31)) 3 true,og 33 (.bin .neq (.t 30) (.t 32)) 3 true,oo 34 (.pick (.t 28) (.t 33) (.c (.bool false))),mm 24 34] (cd 24 (sr [ci 4 11] .ret) (sr [ff 36 0 3,ll 37 36,oo 38 (.bin .eql (.t 37) (.c (.int .u8 2))),mm 35 38] (cd 35 (sr [ci 4 0] .ret) (sr [ff 40 0 2,ll 41 40,mm 39 41] (cd 39 (sr [ci 4 12] .ret) (sr [lk 43 5 2,lk 44 11 3,cc 45 69 [(.t 43),(.t 44)],oo 46 (.un .not (.t 45)),mm 42 46] (cd 42 (sr [ci 4 13] .ret) (sr [lk 48 5 2,lk 49 11 3,cc 50 70 [(.t 48),(.t 49)],oo 51 (.un .not (.t 50)),mm 47 51] (cd 47 (sr [ci 4 14] .ret) .skip))))))))))))))) (sr [ci 4 0] .ret))))
theorem fn25:Fn Qb 25 52 dc25 [.t 4]:=Am func25
def dc23:DC:=(sr [oo 2 (.alloc [(.bool false),(.int .i64 0),(.str []),(.slice true [] []),(.slice true [] [])])] (sr [mm 3 0,cc 4 48 [],oo 5 (.build [(.bool false),(.int .i64 0),(.str []),(.slice true [] []),(.slice true [] [])] [(1,1,(.c (.int .i64 1))),(2,1,(.t 3)),(4,1,(.t 4))]),oz (.store 5 (.t 2) (.t 5))] .ret))
theorem fn23:Fn Qb 23 6 dc23 [.cell (some 5) 2]:=Am func23
end Go.Vd
namespace Go.Vd
open Go.Proofs Go.RowKit
structure Vw where
 se:Bool
 te:Int
 key:Bs
 nlm:Bool
 ms:List Mt
 nlt:Bool
 ks:List Tk
def vwC(v:Vw):List D:=[.bool v.se,.int .i64 v.te,.str v.key,.slice v.nlm [] (Ar v.ms),.slice v.nlt [] (Av v.ks)]
def vwD(v:Vw):D:= .agg (vwC v)
theorem vwD_inj{a b:Vw}(h:vwD a=vwD b):a=b:=by
 cases a;cases b;simp only[vwD,vwC,D.agg.injEq,Qa,D.int.injEq,D.str.injEq,D.bool.injEq,D.slice.injEq,true_and,and_true]at h;obtain⟨h1,h2,h3,⟨h4,h5⟩,h6,h7⟩:=h;have e5:=mtsD_inj h5;have e7:=tksD_inj h7;subst h1 h2 h3 h4 h6 e5 e7;rfl
theorem CD(v:Vw):(vwC v).map D.un1=vwC v:=rfl
theorem Co(v:Vw):(vwC v).all D.calm1=true:=rfl
theorem A_(v:Vw):D.cells (.agg (vwC v))=vwC v:=rfl
theorem BV(v:Vw):(vwC v).length=5:=rfl
structure VwOk (v:Vw):Prop where
 ml:v.ms.length<=1000
 mp:∀m∈v.ms,m.1.length<=1000
 kl:v.ks.length<=1000
 kp:∀k∈v.ks,tkOk k∧El k.2.2.2
theorem tkAt_mem{l:List Tk}{j:Nat}(h:j<l.length):A4 l j∈l:=by simp[A4,Qc h]
theorem VwOk.set{v:Vw}(h:VwOk v):DX (Av v.ks):=DJ (by have:=h.kl;omega)
def E9(ks:List Tk)(n p:Bs)(c:Int):Bool:=AW ks n&&hasB (B2 (A4 ks (bsE ks n)).2.2.2 p).toNat c.toNat
open Classical in
theorem F35_eq{nl:Bool}{l:List Tk}{s:Bs}(hl:l.length<=1000000)(hk:∀k∈l,tkOk k):F35 [.agg [.slice nl [] (Av l)],.str s]=some (.tup (if AW l s=true then [tkD (A4 l (bsE l s)),.bool true]else [.agg [.str [],.str [],.slice true [] []],.bool false])):=by
 have h:DX (Av l)∧∀k∈BS (Av l),tkOk k:=⟨DJ hl,by rw[Bb];exact hk⟩;show(if _ then _ else _)=_;rw[if_pos h,Bb]
open Classical in
theorem F36_eq{nl:Bool}{l:List Tk}{s p:Bs}(hl:l.length<=1000000)(hk:∀k∈l,k.2.2.2.length<=1000000):F36 [.agg [.slice nl [] (Av l)],.str s,.str p]=some (.int .u8 (if AW l s=true then B2 (A4 l (bsE l s)).2.2.2 p else 0)):=by
 have h:DX (Av l)∧∀k∈BS (Av l),k.2.2.2.length<=1000000:=⟨DJ hl,by rw[Bb];exact hk⟩;show(if _ then _ else _)=_;rw[if_pos h,Bb]
theorem caps_bd{l:List Rl}(h:DB l)(s:Bs):0<=B2 l s∧B2 l s<256:=by
 unfold B2;split
 ·omega
 ·generalize (Ep s (l.map (·.1))).toNat=j;by_cases hj:j<l.length
  ·have:Bl l j=l[j]:=by simp[Bl,Qc hj]
   rw[this];exact h _ (QC hj)
  ·have:Bl l j=([],0):=by simp[Bl,Zg,Q6 (Nat.le_of_not_lt hj)]
   rw[this];decide
def mkAl(p:Vw×Bs×Bs×Int):List D:=[vwD p.1,.str p.2.1,.str p.2.2.1,.int .u8 p.2.2.2]
theorem mkAl_inj(x y:Vw×Bs×Bs×Int)(e:mkAl x=mkAl y):x=y:=by
 simp only[mkAl,Qa,D.int.injEq,D.str.injEq,true_and,and_true]at e;exact Q3 (vwD_inj e.1) (Q3 e.2.1 (Q3 e.2.2.1 e.2.2.2))
def F157:List D->Option D:=FX mkAl (λp=>VwOk p.1∧0<=p.2.2.2∧p.2.2.2<256) (λp=> .bool (E9 p.1.ks p.2.1 p.2.2.1 p.2.2.2))
theorem F157_eq{v:Vw}{n p:Bs}{c:Int}(h:VwOk v)(h1:0<=c∧c<256):F157 [vwD v,.str n,.str p,.int .u8 c]=some (.bool (E9 v.ks n p c)):=BA (mk:=mkAl) (a:=(v,n,p,c)) mkAl_inj ⟨h,h1⟩
theorem ok157:(Ac F157).ok Qb 157:=by
 obtain⟨S,hS,hl⟩:=A5 (Ab ok35 (Ab ok36 Ad));have s35:=hl 35 _ rfl;have s36:=hl 36 _ rfl;clear hl;refine BI hS fn157 (λ_=>by simp[mkAl]) (λp hp=>?_);obtain⟨v,n,q,c⟩:=p;obtain⟨hv,hc⟩:=hp;simp only at hv hc;have hkl:=hv.kl;have h35:=F35_eq (nl:=v.nlt) (l:=v.ks) (s:=n) (by omega) (λk hk=>(hv.kp k hk).1);have h36:=F36_eq (nl:=v.nlt) (l:=v.ks) (s:=n) (p:=q) (by omega) (λk hk=>(hv.kp k hk).2.1);unfold dc157 mkAl vwD vwC E9;simp only;cases hf:AW v.ks n with
 |false=>
  rw[hf]at h35;simp only[Bool.false_eq_true,if_false]at h35;simp only[↓go1,gB0,reduceIte,simprocAttr,Aa s35,h35,Qv,Ag,Ao,Ap,Qg,Qe,Qa,Qd]
  all_goals (first|rfl|exact⟨rfl,rfl⟩)
 |true=>
  rw[hf]at h35 h36;simp only[if_true]at h35 h36;have hb:bsE v.ks n<v.ks.length:=by
   unfold AW at hf;rw[Qu,decide_eq_true_iff]at hf;exact hf.1
  have hcap:=(hv.kp _ (tkAt_mem hb)).2.2.2;generalize A4 v.ks (bsE v.ks n)=k at h35 h36 hcap;have hbd:=caps_bd hcap q;generalize B2 k.2.2.2 q=cp at h36 hbd;have hbit:=andNot_nat (a:=cp.toNat) (c:=c.toNat) (by omega) (by omega);rw[QX hc.1,QX hbd.1]at hbit;have hz:(((Nat.land c.toNat (255-cp.toNat):Nat):Int)=0)=(hasB cp.toNat c.toNat=true):=by
   unfold hasB;rw[Nat.beq_eq];exact propext ⟨λh=>by omega,λh=>by omega⟩
  simp only[tkD]at h35;simp only[↓go1,gB0,reduceIte,simprocAttr,Aa s35,h35,Aa s36,h36,v_andNot,hbit,hz,dec_em,Ag,Ao,Ap,Qg,Qe,Qa,and_false,Qd]
  all_goals (first|rfl|exact⟨rfl,rfl⟩)
def sysB:Bs:=[115,121,115]
def atA(a:Ak):Bs:=if a.op<=8 then sysB else a.pa
def permA(v:Vw)(a:Ak):Bool:=E9 v.ks a.tk (atA a) (capsF a.op)&&(decide (a.op≠18)||E9 v.ks a.tk a.ot 2)
def mkVa(p:Vw×Ak):List D:=[vwD p.1,akD p.2]
theorem mkVa_inj(x y:Vw×Ak)(e:mkVa x=mkVa y):x=y:=by
 simp only[mkVa,Qa,and_true]at e;exact Q3 (vwD_inj e.1) (Ed e.2)
theorem capsF_bd(op:Int):0<=capsF op∧capsF op<256:=by
 unfold capsF
 repeat' split
 all_goals omega
def F156:List D->Option D
 |[.int .u8 op]=>some (.bool (decide (op<=8)))
 |_=>none
theorem ok156:(Ac F156).ok Qb 156:=by
 refine Ay (S:=λ_=>none) AL fn156 (λds r h=>?_) (λds r h=>?_)
 ·unfold F156 at h;split at h
  ·simp
  ·cases h
 ·unfold F156 at h;split at h
  ·simp only[QO]at h;subst h;unfold dc156;simp only[↓go1,gB3,reduceIte,simprocAttr]
   all_goals (first|rfl|exact⟨rfl,rfl⟩)
  ·cases h
def F69:List D->Option D:=FX mkVa (λp=>VwOk p.1) (λp=> .bool (permA p.1 p.2))
theorem F69_eq{v:Vw}{a:Ak}(h:VwOk v):F69 [vwD v,akD a]=some (.bool (permA v a)):=BA (mk:=mkVa) (a:=(v,a)) mkVa_inj h
theorem ok69:(Ac F69).ok Qb 69:=by
 obtain⟨S,hS,hl⟩:=A5 (Ab ok156 (Ab ok27 (Ab ok157 Ad)));have s156:=hl 156 _ rfl;have s27:=hl 27 _ rfl;have s157:=hl 157 _ rfl;clear hl;refine BI hS fn69 (λ_=>by simp[mkVa]) (λp hv=>?_);obtain⟨v,a⟩:=p;simp only at hv;have h156:F156 [.int .u8 a.op]=some (.bool (decide (a.op<=8))):=rfl;have h27:F27 [.int .u8 a.op]=some (.int .u8 (capsF a.op)):=rfl;have h157:∀q,F157 [.agg (vwC v),.str a.tk,.str q,.int .u8 (capsF a.op)]=some (.bool (E9 v.ks a.tk q (capsF a.op))):=λq=>F157_eq hv (capsF_bd _)
 have h157':F157 [.agg (vwC v),.str a.tk,.str a.ot,.int .u8 2]=some (.bool (E9 v.ks a.tk a.ot 2)):=F157_eq hv (by omega);have hv0:∀m:Mem,Ai (m.put [1] 0 (akC a)) [0] 0 5=Ai m [0] 0 5:=λm=>AG (by decide)
 have hv1:Ai (Mem.put (λ_ _=>none) [0] 0 (vwC v)) [0] 0 5=some (vwC v):=AQ (BV v);have hm:∀m:Mem,∀k d,(akC a)[k]?=some d->(m.put [1] 0 (akC a)) [1] k=some d:=λm k d hd=>by
  have hk:=(Qk.1 hd).1;rw[Ag,if_pos ⟨rfl,Ql _,by omega⟩];exact hd
 have m0:=λm=>hm m 0 _ rfl
 have m1:=λm=>hm m 1 _ rfl
 have m2:=λm=>hm m 2 _ rfl
 have m3:=λm=>hm m 3 _ rfl
 unfold dc69 mkVa vwD akD permA atA;simp only;by_cases h8:a.op<=8
 ·have h18:¬a.op=18:=by omega
  rw[decide_eq_true h8]at h156;have hh:=h157 sysB;simp only[h8,if_true];generalize E9 v.ks a.tk sysB (capsF a.op)=b at hh;unfold sysB at hh;cases b<;>simp only[↓go1,gB3,reduceIte,simprocAttr,m0,m1,m2,hv0,hv1,CD,Co,A_,AK,Qi,ne_eq,h18,Aa s156,h156,Aa s27,h27,Aa s157,hh]<;>refine An.intro (Aj rfl) ?_<;>simp only[↓go1,gB3,reduceIte,Qw,Qz,h18]
  all_goals (first|rfl|exact⟨rfl,rfl⟩)
 ·rw[decide_eq_false h8]at h156;have hh:=h157 a.pa;simp only[h8,if_false];generalize E9 v.ks a.tk a.pa (capsF a.op)=b at hh;generalize E9 v.ks a.tk a.ot 2=b2 at h157';by_cases h18:a.op=18
  ·have h18':(a.op=18)=True:=eq_true h18;clear h18;cases b<;>cases b2<;>simp only[↓go1,gB3,reduceIte,simprocAttr,m0,m1,m2,m3,hv0,hv1,CD,Co,A_,AK,Qi,ne_eq,Aa s156,h156,Aa s27,h27,Aa s157,hh,h157',h18']<;>refine An.intro (Aj rfl) ?_<;>simp only[↓go1,gB3,reduceIte,Qw,QY,QH,h18']
   all_goals (first|rfl|exact⟨rfl,rfl⟩)
  ·cases b<;>simp only[↓go1,gB3,reduceIte,simprocAttr,m0,m1,m2,hv0,hv1,CD,Co,A_,AK,Qi,ne_eq,h18,Aa s156,h156,Aa s27,h27,Aa s157,hh]<;>refine An.intro (Aj rfl) ?_<;>simp only[↓go1,gB3,reduceIte,Qw,Qz,h18]
   all_goals (first|rfl|exact⟨rfl,rfl⟩)
theorem ak_g0(a:Ak):(akC a)[0]?=some (.int .u8 a.op):=rfl
theorem ak_g2(a:Ak):(akC a)[2]?=some (.str a.pa):=rfl
theorem ak_g3(a:Ak):(akC a)[3]?=some (.str a.ot):=rfl
theorem ak_g10(a:Ak):(akC a)[10]?=some (.str a.key):=rfl
theorem vw_g0(v:Vw):(vwC v)[0]?=some (.bool v.se):=rfl
theorem vw_g2(v:Vw):(vwC v)[2]?=some (.str v.key):=rfl
theorem vw_g3(v:Vw):(vwC v)[3]?=some (.slice v.nlm [] (Ar v.ms)):=rfl
theorem rdC0{m:Mem}{v:Vw}{a:Ak}:Ai ((m.put [0] 0 (vwC v)).put [1] 0 (akC a)) [0] 0 5=some (vwC v):=by
 rw[AG (by decide),AQ (BV v)]
theorem rdCA{m:Mem}{a:Ak}:Ai (m.put [1] 0 (akC a)) [1] 0 11=some (akC a):=AQ (Bd a)
theorem rdP0{m:Mem}{x:List D}{n:Nat}:Ai (m.put [14] 0 x) [0] 0 n=Ai m [0] 0 n:=AG (by decide)
open Classical in
theorem F158_eq{nl:Bool}{l:List Mt}{p:Bs}(hl:l.length<=1000000):F158 [.agg [.slice nl [] (Ar l)],.str p]=some (.tup (if BR l p<0 then [mtD ([],0,false),.int .i64 14]else [mtD (Bk l (BR l p).toNat),.int .i64 0])):=by
 have h:Ar l=Ar (B7 (Ar l))∧(Ar l).length<=1000000:=by rw[Bf,Aw];exact⟨rfl,hl⟩
 show(if _ then _ else _)=_;rw[if_pos h,Bf]
open Classical in
theorem F159_eq{v:Vw}{p:Bs}(hl:v.ms.length<=1000000):F159 [vwD v,.str p]=some (.bool (decide (Ch v.ms p≠-1))):=by
 have h:Ar v.ms=Ar (B7 (Ar v.ms))∧(Ar v.ms).length<=1000000:=by rw[Bf,Aw];exact⟨rfl,hl⟩
 show(if _ then _ else _)=_;rw[if_pos h,Bf]
def mountA(v:Vw)(a:Ak):Bool:=decide (a.op<=8)||(((decide (a.op=17)&&decide (0<=BR v.ms a.pa))||decide (Ch v.ms a.pa≠-1))&&(decide (a.op≠18)||decide (Ch v.ms a.ot≠-1)))
def F70:List D->Option D:=FX mkVa (λp=>VwOk p.1) (λp=> .bool (mountA p.1 p.2))
theorem F70_eq{v:Vw}{a:Ak}(h:VwOk v):F70 [vwD v,akD a]=some (.bool (mountA v a)):=BA (mk:=mkVa) (a:=(v,a)) mkVa_inj h
theorem ok70:(Ac F70).ok Qb 70:=by
 obtain⟨S,hS,hl⟩:=A5 (Ab ok156 (Ab ok158 (Ab ok159 Ad)));have s156:=hl 156 _ rfl;have s158:=hl 158 _ rfl;have s159:=hl 159 _ rfl;clear hl;refine BI hS fn70 (λ_=>by simp[mkVa]) (λp hv=>?_);obtain⟨v,a⟩:=p;simp only at hv;have hml:=hv.ml;have h156:F156 [.int .u8 a.op]=some (.bool (decide (a.op<=8))):=rfl;have h158:=F158_eq (nl:=v.nlm) (l:=v.ms) (p:=a.pa) (by omega);have h159:∀q,F159 [.agg (vwC v),.str q]=some (.bool (decide (Ch v.ms q≠-1))):=λq=>F159_eq (by omega)
 have h159a:=h159 a.pa;have h159b:=h159 a.ot;unfold dc70 mkVa vwD akD mountA;simp only;by_cases h8:a.op<=8
 ·rw[decide_eq_true h8]at h156;simp only[↓go1,gB3,reduceIte,simprocAttr,ak_g0,vw_g0,A_,BV,AK,Bd,Qi,ne_eq,Qz,Ag,Ql,QJ,Qi,and_self,Qa,Qd,h8,Aa s156,h156]
 ·rw[decide_eq_false h8]at h156;generalize decide (Ch v.ms a.pa≠-1)=b1 at h159a ⊢;generalize decide (Ch v.ms a.ot≠-1)=b2 at h159b ⊢;generalize BR v.ms a.pa=fi at h158 ⊢;clear h159;by_cases h17:a.op=17
  ·have h17':(a.op=17)=True:=eq_true h17;have h18':(a.op=18)=False:=eq_false (by omega);clear h17;by_cases hf:fi<0
   ·have hf':¬0<=fi:=by omega
    rw[if_pos hf]at h158;cases b1<;>simp only[↓go1,gB0,reduceIte,simprocAttr,ak_g0,ak_g2,ak_g3,vw_g0,vw_g2,vw_g3,rdC_one,rdP0,AQ,rdC0,CD,Co,A_,BV,AK,Bd,ne_eq,Qz,QY,QA,QH,Ag,Qe,Qa,Qf,Qd,h8,hf',h17',h18',Aa s156,h156,Aa s158,h158,Aa s159,h159a,mtD]
   ·have hf':0<=fi:=by omega
    rw[if_neg hf]at h158;generalize Bk v.ms fi.toNat=mt at h158;simp only[↓go1,gB0,reduceIte,simprocAttr,ak_g0,ak_g2,ak_g3,vw_g0,vw_g2,vw_g3,rdC_one,AQ,A_,BV,AK,Bd,ne_eq,Qz,QA,Ag,Qe,Qa,Qf,Qd,h8,hf',h17',h18',Aa s156,h156,Aa s158,h158,mtD]
  ·have h17':(a.op=17)=False:=eq_false h17;obtain⟨mt,e,he⟩:∃(mt:Mt)(e:Int),F158 [.agg [.slice v.nlm [] (Ar v.ms)],.str a.pa]=some (.tup [mtD mt,.int .i64 e]):=by
    rw[h158];split
    ·exact⟨_,_,rfl⟩
    ·exact⟨_,_,rfl⟩
   clear h158;by_cases h18:a.op=18
   ·have h18':(a.op=18)=True:=eq_true h18;clear h18 h17;cases b1<;>cases b2<;>simp only[↓go1,gB0,reduceIte,simprocAttr,ak_g0,ak_g2,ak_g3,vw_g0,vw_g2,vw_g3,rdC_one,rdP0,AQ,rdC0,CD,Co,A_,BV,AK,Bd,ne_eq,Qv,QY,QA,QH,Ag,Qe,Qa,Qf,and_false,Qd,h8,h17',h18',Aa s156,h156,Aa s158,he,Aa s159,h159a,h159b,mtD]
   ·have h18':(a.op=18)=False:=eq_false h18;clear h18 h17;cases b1<;>simp only[↓go1,gB0,reduceIte,simprocAttr,ak_g0,ak_g2,ak_g3,vw_g0,vw_g2,vw_g3,rdC_one,rdP0,AQ,rdC0,CD,Co,A_,BV,AK,Bd,ne_eq,Qv,Qz,QY,QA,Ag,Qe,Qa,Qf,Qd,h8,h17',h18',Aa s156,h156,Aa s158,he,Aa s159,h159a,mtD]
def refA(v:Vw)(a:Ak):Int:=if B8 a≠0 then B8 a else if a.op=1 then 0 else if a.op=2 then(if v.se=false then 9 else if a.key≠v.key then 11 else 0)else if v.se=true then 12 else if permA v a=false then 13 else if mountA v a=false then 14 else 0
def F25:List D->Option D:=FX mkVa (λp=>VwOk p.1∧AkOk p.2) (λp=> .int .i64 (refA p.1 p.2))
theorem F25_eq{v:Vw}{a:Ak}(h:VwOk v)(h2:AkOk a):F25 [vwD v,akD a]=some (.int .i64 (refA v a)):=BA (mk:=mkVa) (a:=(v,a)) mkVa_inj ⟨h,h2⟩
theorem ok25:(Ac F25).ok Qb 25:=by
 obtain⟨S,hS,hl⟩:=A5 (Ab ok68 (Ab ok69 (Ab ok70 Ad)));have s68:=hl 68 _ rfl;have s69:=hl 69 _ rfl;have s70:=hl 70 _ rfl;clear hl;refine BI hS fn25 (λ_=>by simp[mkVa]) (λp hp=>?_);obtain⟨v,a⟩:=p;obtain⟨hv,ha⟩:=hp;simp only at hv ha;have h68:F68 [.agg (akC a)]=some (.int .i64 (B8 a)):=F68_eq ha;have h69:F69 [.agg (vwC v),.agg (akC a)]=some (.bool (permA v a)):=F69_eq hv;have h70:F70 [.agg (vwC v),.agg (akC a)]=some (.bool (mountA v a)):=F70_eq hv;unfold dc25 mkVa vwD akD refA;simp only;generalize B8 a=e at h68 ⊢;generalize permA v a=b1 at h69 ⊢;generalize mountA v a=b2 at h70 ⊢;by_cases he:e=0
 ·subst he;by_cases h1:a.op=1
  ·have h1':(a.op=1)=True:=eq_true h1;clear h1;simp only[↓go1,gB3,reduceIte,simprocAttr,ak_g0,vw_g0,rdCA,A_,BV,Ca,Cb,AK,Bd,Qi,ne_eq,Ag,Ql,QJ,Qi,and_self,Qa,Qd,h1',Aa s68,h68]
  ·have h1':(a.op=1)=False:=eq_false h1;by_cases h2:a.op=2
   ·have h2':(a.op=2)=True:=eq_true h2;clear h1 h2;cases hse:v.se with
    |false=>
     simp only[↓go1,gB3,reduceIte,simprocAttr,ak_g0,vw_g0,rdCA,A_,BV,Ca,Cb,AK,Bd,Qi,ne_eq,Ag,Ql,QJ,Qi,and_self,Qa,Qf,Qd,h1',h2',hse,Aa s68,h68]
    |true=>
     by_cases hk:a.key=v.key
     ·have hk':(a.key=v.key)=True:=eq_true hk;have hk2:(a.key==v.key)=true:=by rw[hk];simp
      clear hk;simp only[↓go1,gB3,reduceIte,simprocAttr,ak_g0,ak_g2,ak_g10,vw_g0,vw_g2,rdCA,A_,BV,Ca,Cb,AK,Bd,Qi,ne_eq,Ag,Ql,QJ,Qi,and_self,Qa,Qf,and_false,Qd,h1',h2',hse,hk',Aa s68,h68]
     ·have hk':(a.key=v.key)=False:=eq_false hk;have hk2:(a.key==v.key)=false:=by simpa using hk
      clear hk;simp only[↓go1,gB3,reduceIte,simprocAttr,ak_g0,ak_g2,ak_g10,vw_g0,vw_g2,rdCA,A_,BV,Ca,Cb,AK,Bd,Qi,ne_eq,Ag,Ql,QJ,Qi,and_self,Qa,Qf,and_false,Qd,h1',h2',hse,hk',Aa s68,h68]
   ·have h2':(a.op=2)=False:=eq_false h2;clear h1 h2;cases hse:v.se with
    |true=>
     simp only[↓go1,gB3,reduceIte,simprocAttr,ak_g0,vw_g0,rdCA,A_,BV,Ca,Cb,AK,Bd,Qi,ne_eq,Ag,Ql,QJ,Qi,and_self,Qa,Qf,Qd,h1',h2',hse,Aa s68,h68]
    |false=>
     cases b1 with
     |false=>
      simp only[↓go1,gB3,reduceIte,simprocAttr,ak_g0,vw_g0,rdCA,rdC0,CD,Co,A_,BV,Ca,Cb,AK,Bd,Qi,ne_eq,Ag,Ql,QJ,Qi,and_self,Qa,Qf,Qd,h1',h2',hse,Aa s68,h68,Aa s69,h69]
     |true=>
      cases b2<;>simp only[↓go1,gB3,reduceIte,simprocAttr,ak_g0,vw_g0,rdCA,rdC0,CD,Co,A_,BV,Ca,Cb,AK,Bd,Qi,ne_eq,Ag,Ql,QJ,Qi,and_self,Qa,Qf,Qd,h1',h2',hse,Aa s68,h68,Aa s69,h69,Aa s70,h70]
 ·simp only[↓go1,gB3,reduceIte,simprocAttr,rdCA,A_,Ca,Cb,AK,Qi,ne_eq,Qi,and_self,he,Aa s68,h68]
end Go.Vd
namespace Go.Vd
open Go.Proofs
def dc43l0:DC:=(.seq (sr [mm 7 3,mm 8 0,nn 9 false 8,bt 10 .lss 7 9] (cd 10 .skip (.exit 0))) (.seq (.block 1 (sr [mm 13 0,mm 14 3,ii 15 3 13 14,ff 16 0 15,ll 17 16,nn 18 true 17,bi 19 .gtr 18 40,mm 20 19,og 21 (.mv (.t 0)) 7 false,og 22 (.mv (.t 3)) 7 false,og 23 (.iaddr 3 (.t 21) (.t 22)) 7 false,og 24 (.faddr 1 (.t 23)) 7 false,og 25 (.load none (.t 24)) 7 false,og 26 (.len true (.t 25)) 7 false,og 27 (.bin .gtr (.t 26) (.c (.int .i64 40))) 7 false,oo 28 (.pick (.t 20) (.c (.bool true)) (.t 27)),mm 29 28,og 30 (.mv (.t 0)) 16 false,og 31 (.mv (.t 3)) 16 false,og 32 (.iaddr 3 (.t 30) (.t 31)) 16 false,og 33 (.faddr 2 (.t 32)) 16 false,og 34 (.load none (.t 33)) 16 false,og 35 (.call (.c (.fn 44 [])) [(.t 34)]) 16 false,og 36 (.bin .gtr (.t 35) (.c (.int .i64 0))) 16 false,oo 37 (.pick (.t 29) (.c (.bool true)) (.t 36))] (cd 37 (sr [ci 2 1] .ret) .skip))) (.row [mm 11 3,bi 12 .add 11 1,mm 3 12])))
def dc43:DC:=(sr [ci 2 0] (.seq (sr [mm 4 0,nn 5 false 4,bi 6 .gtr 5 12] (cd 6 (sr [ci 2 1] .ret) .skip)) (.seq (sr [ci 3 0] (.block 0 (.loop dc43l0))) (sr [ci 2 0] .ret))))
theorem fn43:Fn Qb 43 38 dc43 [.t 2]:=Am func43
def dc15l0:DC:=(.seq (sr [mm 20 3,ff 21 3 1,ll 22 21,nn 23 false 22,bt 24 .lss 20 23] (cd 24 .skip (.exit 0))) (.seq (.block 1 (sr [ff 27 3 1,ll 28 27,mm 29 3,ii 30 3 28 29,ff 31 0 30,ll 32 31,nn 33 true 32,bi 34 .gtr 33 200] (cd 34 (sr [ci 2 1] .ret) .skip))) (.row [mm 25 3,bi 26 .add 25 1,mm 3 26])))
def dc15:DC:=(sr [oo 1 (.box (.t 0)),ci 2 0] (.seq (sr [ff 4 2 1,ll 5 4,nn 6 true 5,bi 7 .gtr 6 40,mm 8 7,og 9 (.faddr 3 (.t 1)) 4 false,og 10 (.load none (.t 9)) 4 false,og 11 (.len false (.t 10)) 4 false,og 12 (.bin .gtr (.t 11) (.c (.int .i64 8))) 4 false,oo 13 (.pick (.t 8) (.c (.bool true)) (.t 12)),mm 14 13,og 15 (.faddr 4 (.t 1)) 10 false,og 16 (.load none (.t 15)) 10 false,og 17 (.call (.c (.fn 43 [])) [(.t 16)]) 10 false,og 18 (.bin .gtr (.t 17) (.c (.int .i64 0))) 10 false,oo 19 (.pick (.t 14) (.c (.bool true)) (.t 18))] (cd 19 (sr [ci 2 1] .ret) .skip)) (.seq (sr [ci 3 0] (.block 0 (.loop dc15l0))) (sr [ci 2 0] .ret))))
theorem fn15:Fn Qb 15 35 dc15 [.t 2]:=Am func15
def dc16:DC:=(sr [oo 1 (.box (.t 0)),ci 2 0] (.seq (sr [ff 3 1 1,ll 4 3,nn 5 true 4,bi 6 .gtr 5 100,mm 7 6,og 8 (.faddr 2 (.t 1)) 4 false,og 9 (.load none (.t 8)) 4 false,og 10 (.len true (.t 9)) 4 false,og 11 (.bin .gtr (.t 10) (.c (.int .i64 200))) 4 false,oo 12 (.pick (.t 7) (.c (.bool true)) (.t 11)),mm 13 12,og 14 (.faddr 3 (.t 1)) 10 false,og 15 (.load none (.t 14)) 10 false,og 16 (.len true (.t 15)) 10 false,og 17 (.bin .gtr (.t 16) (.c (.int .i64 200))) 10 false,oo 18 (.pick (.t 13) (.c (.bool true)) (.t 17)),mm 19 18,og 20 (.faddr 7 (.t 1)) 16 false,og 21 (.load none (.t 20)) 16 false,og 22 (.len false (.t 21)) 16 false,og 23 (.bin .gtr (.t 22) (.c (.int .i64 20))) 16 false,oo 24 (.pick (.t 19) (.c (.bool true)) (.t 23)),mm 25 24,og 26 (.faddr 8 (.t 1)) 22 false,og 27 (.load none (.t 26)) 22 false,og 28 (.len true (.t 27)) 22 false,og 29 (.bin .gtr (.t 28) (.c (.int .i64 300))) 22 false,oo 30 (.pick (.t 25) (.c (.bool true)) (.t 29)),mm 31 30,og 32 (.faddr 9 (.t 1)) 28 false,og 33 (.load none (.t 32)) 28 false,og 34 (.call (.c (.fn 44 [])) [(.t 33)]) 28 false,og 35 (.bin .gtr (.t 34) (.c (.int .i64 0))) 28 false,oo 36 (.pick (.t 31) (.c (.bool true)) (.t 35)),mm 37 36,og 38 (.faddr 10 (.t 1)) 34 false,og 39 (.load none (.t 38)) 34 false,og 40 (.len true (.t 39)) 34 false,og 41 (.bin .gtr (.t 40) (.c (.int .i64 100))) 34 false,oo 42 (.pick (.t 37) (.c (.bool true)) (.t 41))] (cd 42 (sr [ci 2 1] .ret) .skip)) (sr [ci 2 0] .ret)))
theorem fn16:Fn Qb 16 43 dc16 [.t 2]:=Am func16
def dc53l0:DC:=(.seq (sr [mm 5 4,mm 6 0,nn 7 false 6,bt 8 .lss 5 7] (cd 8 .skip (.exit 0))) (.seq (.block 1 (.row [mm 11 3,mm 12 0,mm 13 4,ii 14 2 12 13,lk 15 2 14,oo 16 (.bslice 209 2 [(.t 15)]),oo 17 (.app 209 2 24 (.t 11) (.t 16)),mm 3 17])) (.row [mm 9 4,bi 10 .add 9 1,mm 4 10])))
def dc53:DC:=(sr [oo 2 (.mv (.c (.slice true [] [])))] (sr [oo 3 (.mv (.c (.slice true [] [])))] (.seq (sr [ci 4 0] (.block 0 (.loop dc53l0))) (sr [mm 18 3,mm 2 18] .ret))))
theorem fn53:Fn Qb 53 19 dc53 [.t 2]:=Am func53
def dc51:DC:=(sr [oo 1 (.box (.t 0)),oo 2 (.alloc [(.str []),(.str []),(.slice true [] [])])] (.seq (.drawn [ff 3 0 1,ll 4 3,ff 5 1 1,ll 6 5,ff 7 2 1,ll 8 7,cc 9 53 [(.t 8)],oo 10 (.build [(.str []),(.str []),(.slice true [] [])] [(0,1,(.t 4)),(1,1,(.t 6)),(2,1,(.t 9))]),oz (.store 3 (.t 2) (.t 10))] [(6,1),(6,3)]) .ret))
theorem fn51:Fn Qb 51 11 dc51 [.cell (some 3) 2]:=Am func51
def dc46:DC:=(sr [oo 1 (.box (.t 0)),oo 2 (.alloc [(.str []),(.int .i64 0),(.bool false)])] (sr [ff 3 0 1,ll 4 3,ff 5 1 1,lk 6 2 5,oo 7 (.build [(.str []),(.int .i64 0),(.bool false)] [(0,1,(.t 4)),(1,2,(.t 6))]),oz (.store 3 (.t 2) (.t 7))] .ret))
theorem fn46:Fn Qb 46 8 dc46 [.cell (some 3) 2]:=Am func46
def dc18:DC:=(sr [oo 1 (.box (.t 0)),oo 2 (.alloc [(.int .u8 0),(.str []),(.str []),(.str []),(.int .i64 0),(.int .i64 0),(.bool false),(.slice true [] []),(.str []),(.slice true [] []),(.str [])])] (.seq (.drawn [ff 3 0 1,ll 4 3,ff 5 1 1,ll 6 5,ff 7 2 1,ll 8 7,ff 9 3 1,ll 10 9,ff 11 4 1,ll 12 11,ff 13 5 1,ll 14 13,ff 15 6 1,ll 16 15,ff 17 7 1,ll 18 17,ff 19 8 1,ll 20 19,ff 21 9 1,ll 22 21,cc 23 53 [(.t 22)],ff 24 10 1,ll 25 24,oo 26 (.build [(.int .u8 0),(.str []),(.str []),(.str []),(.int .i64 0),(.int .i64 0),(.bool false),(.slice true [] []),(.str []),(.slice true [] []),(.str [])] [(0,1,(.t 4)),(1,1,(.t 6)),(2,1,(.t 8)),(3,1,(.t 10)),(4,1,(.t 12)),(5,1,(.t 14)),(6,1,(.t 16)),(7,1,(.t 18)),(8,1,(.t 20)),(9,1,(.t 23)),(10,1,(.t 25))]),oz (.store 11 (.t 2) (.t 26))] [(20,1),(20,3),(20,5),(20,7),(20,9),(20,11),(20,13),(20,15),(20,17),(20,22)]) .ret))
theorem fn18:Fn Qb 18 27 dc18 [.cell (some 11) 2]:=Am func18
def dc17l0:DC:=(.seq (sr [mm 11 6,ff 12 3 1,ll 13 12,nn 14 false 13,bt 15 .lss 11 14] (cd 15 .skip (.exit 0))) (.seq (.block 1 (.seq (.drawn [lk 19 1 4,ff 20 3 1,ll 21 20,mm 22 6,ii 23 3 21 22,lk 24 3 23,cc 25 46 [(.t 24)],cc 26 45 [(.t 19),(.t 25)],mm 18 26,xx 27 0 18,xx 28 1 18,oz (.store 1 (.t 4) (.t 27))] [(6,0)]) (.row [mm 30 5,ff 31 3 1,ll 32 31,mm 33 6,ii 34 3 32 33,lk 35 3 34,cc 36 47 [(.t 30),(.t 35)],mm 29 36,xx 37 0 29,xx 38 1 29,mm 5 37]))) (.row [mm 16 6,bi 17 .add 16 1,mm 6 17])))
def dc17l1:DC:=(.seq (sr [mm 41 9,ff 42 4 1,ll 43 42,nn 44 false 43,bt 45 .lss 41 44] (cd 45 .skip (.exit 2))) (.seq (.block 3 (.seq (.drawn [lk 49 1 7,ff 50 4 1,ll 51 50,mm 52 9,ii 53 3 51 52,lk 54 3 53,cc 55 51 [(.t 54)],cc 56 50 [(.t 49),(.t 55)],mm 48 56,xx 57 0 48,xx 58 1 48,oz (.store 1 (.t 7) (.t 57))] [(6,0)]) (.row [mm 60 8,ff 61 4 1,ll 62 61,mm 63 9,ii 64 3 62 63,lk 65 3 64,cc 66 52 [(.t 60),(.t 65)],mm 59 66,xx 67 0 59,xx 68 1 59,mm 8 67]))) (.row [mm 46 9,bi 47 .add 46 1,mm 9 47])))
def dc17:DC:=(sr [oo 1 (.box (.t 0)),oo 2 (.alloc [(.bool false),(.int .i64 0),(.str []),(.slice true [] []),(.slice true [] [])]),oo 3 (.alloc [(.bool false),(.int .i64 0),(.str []),(.slice true [] []),(.slice true [] [])])] (sr [oo 4 (.alloc [(.slice true [] [])])] (sr [oo 5 (.mv (.c (.slice true [] [])))] (.seq (sr [ci 6 0] (.block 0 (.loop dc17l0))) (sr [cc 39 48 [],cc 40 49 [],oo 7 (.alloc [(.slice true [] [])]),oz (.store 1 (.t 7) (.t 39)),mm 8 40] (.seq (sr [ci 9 0] (.block 2 (.loop dc17l1))) (sr [ff 69 1 1,ll 70 69,oo 71 (.conv .u64 (.t 70)),oo 72 (.bin .rem (.t 71) (.c (.int .u64 6))),oo 73 (.conv .i64 (.t 72)),oo 74 (.bin .add (.c (.int .i64 1)) (.t 73)),mm 10 74] (.seq (.drawn [ff 75 0 1,ll 76 75,mm 77 10,ff 78 2 1,ll 79 78,lk 80 1 4,lk 81 1 7,oo 82 (.build [(.bool false),(.int .i64 0),(.str []),(.slice true [] []),(.slice true [] [])] [(0,1,(.t 76)),(1,1,(.t 77)),(2,1,(.t 79)),(3,1,(.t 80)),(4,1,(.t 81))]),ff 83 0 1,ll 84 83,mm 85 10,ff 86 2 1,ll 87 86,mm 88 5,mm 89 8,oo 90 (.build [(.bool false),(.int .i64 0),(.str []),(.slice true [] []),(.slice true [] [])] [(0,1,(.t 84)),(1,1,(.t 85)),(2,1,(.t 87)),(3,1,(.t 88)),(4,1,(.t 89))]),oz (.store 5 (.t 2) (.t 82)),oz (.store 5 (.t 3) (.t 90))] [(16,9),(16,12)]) .ret))))))))
theorem fn17:Fn Qb 17 91 dc17 [.cell (some 5) 2,.cell (some 5) 3]:=Am func17
end Go.Vd
namespace Go.Vd
open Go.Proofs Go.RowKit
def bigR(r:Rl):Bool:=decide (100<r.1.length)
def overR(l:List Rl):Bool:=decide (8<l.length)||l.any bigR
def mkRl(p:Bool×List Rl):List D:=[.slice p.1 [] (Al p.2)]
theorem mkRl_inj(x y:Bool×List Rl)(e:mkRl x=mkRl y):x=y:=by
 simp only[mkRl,Qa,D.slice.injEq,true_and,and_true]at e;exact Q3 e.1 (rlsD_inj e.2)
def oneI(b:Bool):D:= .int .i64 (if b=true then 1 else 0)
def F44:List D->Option D:=FX mkRl (λ_=>True) (λp=>oneI (overR p.2))
theorem F44_eq{nl:Bool}{l:List Rl}:F44 [.slice nl [] (Al l)]=some (oneI (overR l)):=BA (mk:=mkRl) (a:=(nl,l)) mkRl_inj trivial
theorem loop44{S:Summs}{l:List Rl}{nl:Bool}{Q:Ex->St->Prop}(hb:l.length<=8)
  (hret:∀st,l.any bigR=true->st.s 2= .int .i64 1->Q .ret st) (hexit:∀st,l.any bigR=false->Q (.exit 0) st):
  ∀(f j:Nat) st g,l.length=j+f->(l.take j).any bigR=false->st.s 0= .slice nl [] (Al l)->st.s 3= .int .i64 (j:Int)->A6 S [] dc44l0 Q st g:=by
 intro f;induction f with
 |zero=>
  intro j st g hf ha h0 h3;refine Af dc44l0.eq_1 ?_;have:¬((j:Int)<l.length):=by omega
  simp only[↓go1,go2,go4,reduceIte,simprocAttr,h0,h3,this,Au];rw[Qt (by omega)]at ha;exact hexit _ ha
 |succ f ih=>
  intro j st g hf ha h0 h3;refine Af dc44l0.eq_1 ?_;have hj:j<l.length:=by omega
  have hlt:((j:Int)<l.length):=by omega
  have hj0:(0:Int)<=(j:Int):=by omega
  have hw:IntKind.i64.wrap ((j:Int)+1)=((j+1:Nat):Int):=w64 (by omega) (by omega);have hat:(Al l)[j]?=some (.agg [.str l[j].1,.int .u8 l[j].2]):=by simp[Al,Qc hj,rlD]
  have htk:l.take (j+1)=l.take j++[l[j]]:=by rw[QK,Qc hj];rfl
  have hmem:l[j]∈l:=QC hj;generalize l[j]=x at hat htk hmem;obtain⟨st_s,st_m,st_c⟩:=st;simp only at h0 h3;by_cases hx:100<x.1.length
  ·have hx':(100:Int)<(x.1.length:Int):=by omega
   simp only[↓go1,gB2,go4,reduceIte,simprocAttr,h0,h3,hlt,hj0,Qj,hat,Au,hx',Ql,Qx,QQ];refine hret _ ?_ rfl;rw[Q1];exact⟨x,hmem,by simp[bigR,hx]⟩
  ·have hx':¬(100:Int)<(x.1.length:Int):=by omega
   simp only[↓go1,gB2,go4,reduceIte,simprocAttr,h0,h3,hlt,hj0,hw,Qj,hat,Au,hx',Ql,Qx,QQ];refine ih (j+1) _ _ (by omega) ?_ h0 rfl;rw[htk,Zn,ha];simp[bigR,hx]
theorem ok44:(Ac F44).ok Qb 44:=by
 refine BI (S:=λ_=>none) AL fn44 (λ_=>by simp[mkRl]) (λp _=>?_);obtain⟨nl,l⟩:=p;unfold dc44 overR mkRl;simp only;by_cases h8:8<l.length
 ·have h8':(8:Int)<(l.length:Int):=by omega
  simp only[↓go1,gB3,reduceIte,simprocAttr,h8',Au];exact⟨by simp[oneI,h8],rfl⟩
 ·have h8':¬(8:Int)<(l.length:Int):=by omega
  simp only[↓go1,go2,go4,reduceIte,simprocAttr,h8',Au];refine loop44 (l:=l) (nl:=nl) (by omega) (λst h1 h2=>?_) (λst h1=>?_) l.length 0 _ _ (by omega) (by simp) rfl rfl
  ·simp only[↓go1,go2,go3,h1,h2,QA]
   all_goals (first|rfl|exact⟨rfl,rfl⟩)
  ·simp only[↓go1,gB3,reduceIte,QI,h1,h8,QY]
   all_goals (first|rfl|exact⟨rfl,rfl⟩)
def bigT(k:Tk):Bool:=decide (40<k.1.length)||decide (40<k.2.1.length)||overR k.2.2.2
def overT(l:List Tk):Bool:=decide (12<l.length)||l.any bigT
def mkTl(p:Bool×List Tk):List D:=[.slice p.1 [] (Av p.2)]
theorem mkTl_inj(x y:Bool×List Tk)(e:mkTl x=mkTl y):x=y:=by
 simp only[mkTl,Qa,D.slice.injEq,true_and,and_true]at e;exact Q3 e.1 (tksD_inj e.2)
def F43:List D->Option D:=FX mkTl (λ_=>True) (λp=>oneI (overT p.2))
theorem F43_eq{nl:Bool}{l:List Tk}:F43 [.slice nl [] (Av l)]=some (oneI (overT l)):=BA (mk:=mkTl) (a:=(nl,l)) mkTl_inj trivial
theorem Dx:oneI true= .int .i64 1:=rfl
theorem oneI_f:oneI false= .int .i64 0:=rfl
theorem loop43{S:Summs}{l:List Tk}{nl:Bool}{Q:Ex->St->Prop}(s44:S 44=some (Ac F44))(hb:l.length<=12)
  (hret:∀st,l.any bigT=true->st.s 2= .int .i64 1->Q .ret st) (hexit:∀st,l.any bigT=false->Q (.exit 0) st):
  ∀(f j:Nat) st g,l.length=j+f->(l.take j).any bigT=false->st.s 0= .slice nl [] (Av l)->st.s 3= .int .i64 (j:Int)->A6 S [] dc43l0 Q st g:=by
 intro f;induction f with
 |zero=>
  intro j st g hf ha h0 h3;refine Af dc43l0.eq_1 ?_;have:¬((j:Int)<l.length):=by omega
  simp only[↓go1,go2,go4,reduceIte,simprocAttr,h0,h3,this,AP];rw[Qt (by omega)]at ha;exact hexit _ ha
 |succ f ih=>
  intro j st g hf ha h0 h3;refine Af dc43l0.eq_1 ?_;have hj:j<l.length:=by omega
  have hlt:((j:Int)<l.length):=by omega
  have hj0:(0:Int)<=(j:Int):=by omega
  have hw:IntKind.i64.wrap ((j:Int)+1)=((j+1:Nat):Int):=w64 (by omega) (by omega);have hat:(Av l)[j]?=some (.agg [.str l[j].1,.str l[j].2.1,.slice l[j].2.2.1 [] (Al l[j].2.2.2)]):=by simp[Av,Qc hj,tkD]
  have htk:l.take (j+1)=l.take j++[l[j]]:=by rw[QK,Qc hj];rfl
  have hmem:l[j]∈l:=QC hj;generalize l[j]=x at hat htk hmem;obtain⟨x1,x2,x3,x4⟩:=x;simp only at hat;have hx4:(bigT (x1,x2,x3,x4))=(decide (40<x1.length)||decide (40<x2.length)||overR x4):=rfl;have h44:=F44_eq (nl:=x3) (l:=x4);generalize overR x4=b at h44 hx4;obtain⟨st_s,st_m,st_c⟩:=st;simp only at h0 h3;by_cases hx:40<x1.length
  ·have hx':(40:Int)<(x1.length:Int):=by omega
   simp only[↓go1,gB2,go4,reduceIte,simprocAttr,h0,h3,hlt,hj0,Qj,hat,AP,Ql,Qx,QQ,hx'];refine hret _ ?_ rfl;rw[Q1];exact⟨_,hmem,by rw[hx4,decide_eq_true hx];rfl⟩
  ·have hx':¬(40:Int)<(x1.length:Int):=by omega
   by_cases hy:40<x2.length
   ·have hy':(40:Int)<(x2.length:Int):=by omega
    simp only[↓go1,gB2,go4,reduceIte,simprocAttr,h0,h3,hlt,hj0,Qj,hat,AP,Ql,Qx,QF,QQ,hx',hy'];refine hret _ ?_ rfl;rw[Q1];exact⟨_,hmem,by rw[hx4,decide_eq_true hy];simp⟩
   ·have hy':¬(40:Int)<(x2.length:Int):=by omega
    cases b with
    |true=>
     simp only[↓go1,gB2,go4,reduceIte,simprocAttr,h0,h3,hlt,hj0,Qj,hat,AP,Aa s44,h44,Dx,Ql,Qx,QF,QQ,hx',hy'];refine hret _ ?_ rfl;rw[Q1];exact⟨_,hmem,by rw[hx4];simp⟩
    |false=>
     simp only[↓go1,gB2,go4,reduceIte,simprocAttr,h0,h3,hlt,hj0,hw,Qj,hat,AP,Aa s44,h44,oneI_f,Ql,Qx,QF,QQ,hx',hy'];refine ih (j+1) _ _ (by omega) ?_ h0 rfl;rw[htk,Zn,ha,List.any_cons,hx4,decide_eq_false hx,decide_eq_false hy];rfl
theorem ok43:(Ac F43).ok Qb 43:=by
 obtain⟨S,hS,hl⟩:=A5 (Ab ok44 Ad);have s44:=hl 44 _ rfl;clear hl;refine BI hS fn43 (λ_=>by simp[mkTl]) (λp _=>?_);obtain⟨nl,l⟩:=p;unfold dc43 overT mkTl;simp only;by_cases h8:12<l.length
 ·have h8':(12:Int)<(l.length:Int):=by omega
  simp only[↓go1,gB3,reduceIte,simprocAttr,h8',AP];exact⟨by simp[oneI,h8],rfl⟩
 ·have h8':¬(12:Int)<(l.length:Int):=by omega
  simp only[↓go1,go2,go4,reduceIte,simprocAttr,h8',AP];refine loop43 (l:=l) (nl:=nl) s44 (by omega) (λst h1 h2=>?_) (λst h1=>?_) l.length 0 _ _ (by omega) (by simp) rfl rfl
  ·simp only[↓go1,go2,go3,h1,h2,QA]
   all_goals (first|rfl|exact⟨rfl,rfl⟩)
  ·simp only[↓go1,gB3,reduceIte,QI,h1,h8,QY]
   all_goals (first|rfl|exact⟨rfl,rfl⟩)
def bigM(m:Mt):Bool:=decide (200<m.1.length)
def overS(v:Vw):Bool:=decide (40<v.key.length)||decide (8<v.ms.length)||overT v.ks||v.ms.any bigM
def mkV(v:Vw):List D:=[vwD v]
theorem mkV_inj(x y:Vw)(e:mkV x=mkV y):x=y:=by
 simp only[mkV,Qa,and_true]at e;exact vwD_inj e
def F15:List D->Option D:=FX mkV (λ_=>True) (λv=>oneI (overS v))
theorem F15_eq{v:Vw}:F15 [vwD v]=some (oneI (overS v)):=BA (mk:=mkV) (a:=v) mkV_inj trivial
theorem vwP{m:Mem}{v:Vw}{k:Nat}{d:D}(hd:(vwC v)[k]?=some d):(m.put [0] 0 (vwC v)) [0] k=some d:=by
 have hk:=(Qk.1 hd).1;rw[Ag,if_pos ⟨rfl,Ql _,by omega⟩];exact hd
theorem loop15{S:Summs}{v:Vw}{Q:Ex->St->Prop}(hb:v.ms.length<=8)
  (hret:∀st,v.ms.any bigM=true->st.s 2= .int .i64 1->Q .ret st) (hexit:∀st,v.ms.any bigM=false->Q (.exit 0) st):
  ∀(f j:Nat) st g,v.ms.length=j+f->(v.ms.take j).any bigM=false->st.s 1= .ptr [0] 0->st.m [0] 3=some (.slice v.nlm [] (Ar v.ms))->st.s 3= .int .i64 (j:Int)->A6 S [] dc15l0 Q st g:=by
 intro f;induction f with
 |zero=>
  intro j st g hf ha h1 hm h3;refine Af dc15l0.eq_1 ?_;have:¬((j:Int)<v.ms.length):=by omega
  simp only[↓go1,go2,go4,reduceIte,simprocAttr,h1,hm,h3,this,Aw];rw[Qt (by omega)]at ha;exact hexit _ ha
 |succ f ih=>
  intro j st g hf ha h1 hm h3;refine Af dc15l0.eq_1 ?_;have hj:j<v.ms.length:=by omega
  have hlt:((j:Int)<v.ms.length):=by omega
  have hj0:(0:Int)<=(j:Int):=by omega
  have hw:IntKind.i64.wrap ((j:Int)+1)=((j+1:Nat):Int):=w64 (by omega) (by omega);have hat:(Ar v.ms)[j]?=some (.agg [.str v.ms[j].1,.int .i64 v.ms[j].2.1,.bool v.ms[j].2.2]):=by simp[Ar,Qc hj,mtD]
  have htk:v.ms.take (j+1)=v.ms.take j++[v.ms[j]]:=by rw[QK,Qc hj];rfl
  have hmem:v.ms[j]∈v.ms:=QC hj;generalize v.ms[j]=x at hat htk hmem;obtain⟨st_s,st_m,st_c⟩:=st;simp only at h1 hm h3;by_cases hx:200<x.1.length
  ·have hx':(200:Int)<(x.1.length:Int):=by omega
   simp only[↓go1,gB2,go4,reduceIte,simprocAttr,h1,hm,h3,hlt,hj0,Qj,hat,Aw,hx',Ql,Qx,QQ];refine hret _ ?_ rfl;rw[Q1];exact⟨x,hmem,by simp[bigM,hx]⟩
  ·have hx':¬(200:Int)<(x.1.length:Int):=by omega
   simp only[↓go1,gB2,go4,reduceIte,simprocAttr,h1,hm,h3,hlt,hj0,hw,Qj,hat,Aw,hx',Ql,Qx,QQ];refine ih (j+1) _ _ (by omega) ?_ h1 hm rfl;rw[htk,Zn,ha];simp[bigM,hx]
theorem ok15:(Ac F15).ok Qb 15:=by
 obtain⟨S,hS,hl⟩:=A5 (Ab ok43 Ad);have s43:=hl 43 _ rfl;clear hl;refine BI hS fn15 (λ_=>by simp[mkV]) (λv _=>?_);have h43:=F43_eq (nl:=v.nlt) (l:=v.ks);have m2:=λm:Mem=>vwP (m:=m) (v:=v) (k:=2) rfl
 have m3:=λm:Mem=>vwP (m:=m) (v:=v) (k:=3) rfl
 have m4:=λm:Mem=>vwP (m:=m) (v:=v) (k:=4) rfl
 unfold dc15 overS mkV vwD;generalize overT v.ks=b at h43;by_cases h1:40<v.key.length
 ·have h1':(40:Int)<(v.key.length:Int):=by omega
  simp only[↓go1,gB3,reduceIte,simprocAttr,m2,A_,Dx,Qz,h1',h1]
  all_goals (first|rfl|exact⟨rfl,rfl⟩)
 ·have h1':¬(40:Int)<(v.key.length:Int):=by omega
  by_cases h2:8<v.ms.length
  ·have h2':(8:Int)<(v.ms.length:Int):=by omega
   simp only[↓go1,gB3,reduceIte,simprocAttr,m2,m3,Aw,A_,Dx,Qz,QA,h1',h1,h2',h2]
   all_goals (first|rfl|exact⟨rfl,rfl⟩)
  ·have h2':¬(8:Int)<(v.ms.length:Int):=by omega
   cases b with
   |true=>
    simp only[↓go1,gB3,reduceIte,simprocAttr,m2,m3,m4,h43,Aa s43,Aw,A_,Dx,Qz,QA,QW,h1',h1,h2',h2]
    all_goals (first|rfl|exact⟨rfl,rfl⟩)
   |false=>
    simp only[↓go1,gB3,reduceIte,simprocAttr,m2,m3,m4,h43,Aa s43,Aw,A_,oneI_f,h1',h2'];refine loop15 (v:=v) (by omega) (λst h3 h4=>?_) (λst h3=>?_) v.ms.length 0 _ _ (by omega) (by simp) rfl (m3 (λ_ _=>none)) rfl
    ·simp only[↓go1,go2,go3,h3,h4,QA]
     all_goals (first|rfl|exact⟨rfl,rfl⟩)
    ·simp only[↓go1,gB3,reduceIte,QI,h3,h1,h2,QY]
     all_goals (first|rfl|exact⟨rfl,rfl⟩)
def overA(a:Ak):Bool:=decide (100<a.tk.length)||decide (200<a.pa.length)||decide (200<a.ot.length)||decide (20<a.ns.length)||decide (300<a.da.length)||overR a.rs||decide (100<a.key.length)
def mkA(a:Ak):List D:=[akD a]
theorem mkA_inj(x y:Ak)(e:mkA x=mkA y):x=y:=by
 simp only[mkA,Qa,and_true]at e;exact Ed e
theorem akP{m:Mem}{a:Ak}{k:Nat}{d:D}(hd:(akC a)[k]?=some d):(m.put [0] 0 (akC a)) [0] k=some d:=by
 have hk:=(Qk.1 hd).1;rw[Ag,if_pos ⟨rfl,Ql _,by omega⟩];exact hd
def F16:List D->Option D:=FX mkA (λ_=>True) (λa=>oneI (overA a))
theorem F16_eq{a:Ak}:F16 [akD a]=some (oneI (overA a)):=BA (mk:=mkA) (a:=a) mkA_inj trivial
theorem ok16:(Ac F16).ok Qb 16:=by
 obtain⟨S,hS,hl⟩:=A5 (Ab ok44 Ad);have s44:=hl 44 _ rfl;clear hl;refine BI hS fn16 (λ_=>by simp[mkA]) (λa _=>?_);have h44:=F44_eq (nl:=a.nlr) (l:=a.rs);have m1:=λm:Mem=>akP (m:=m) (a:=a) (k:=1) rfl
 have m2:=λm:Mem=>akP (m:=m) (a:=a) (k:=2) rfl
 have m3:=λm:Mem=>akP (m:=m) (a:=a) (k:=3) rfl
 have m7:=λm:Mem=>akP (m:=m) (a:=a) (k:=7) rfl
 have m8:=λm:Mem=>akP (m:=m) (a:=a) (k:=8) rfl
 have m9:=λm:Mem=>akP (m:=m) (a:=a) (k:=9) rfl
 have m10:=λm:Mem=>akP (m:=m) (a:=a) (k:=10) rfl
 have q1:((100:Int)<(a.tk.length:Int))=(100<a.tk.length):=propext (by omega);have q2:((200:Int)<(a.pa.length:Int))=(200<a.pa.length):=propext (by omega);have q3:((200:Int)<(a.ot.length:Int))=(200<a.ot.length):=propext (by omega);have q4:((20:Int)<(a.ns.length:Int))=(20<a.ns.length):=propext (by omega);have q5:((300:Int)<(a.da.length:Int))=(300<a.da.length):=propext (by omega);have q6:((100:Int)<(a.key.length:Int))=(100<a.key.length):=propext (by omega);unfold dc16 overA mkA akD;generalize overR a.rs=b at h44;by_cases h1:100<a.tk.length
 ·simp only[↓go1,gB3,reduceIte,simprocAttr,m1,q1,AK,Dx,Qz,h1]
  all_goals (first|rfl|exact⟨rfl,rfl⟩)
 by_cases h2:200<a.pa.length
 ·simp only[↓go1,gB3,reduceIte,simprocAttr,m1,m2,q1,q2,AK,Dx,Qz,QA,h1,h2]
  all_goals (first|rfl|exact⟨rfl,rfl⟩)
 by_cases h3:200<a.ot.length
 ·simp only[↓go1,gB3,reduceIte,simprocAttr,m1,m2,m3,q1,q2,q3,AK,Dx,Qz,QA,QW,h1,h2,h3]
  all_goals (first|rfl|exact⟨rfl,rfl⟩)
 by_cases h4:20<a.ns.length
 ·simp only[↓go1,gB3,reduceIte,simprocAttr,m1,m2,m3,m7,q1,q2,q3,q4,BY,AK,Dx,Qz,QA,QW,h1,h2,h3,h4]
  all_goals (first|rfl|exact⟨rfl,rfl⟩)
 by_cases h5:300<a.da.length
 ·simp only[↓go1,gB3,reduceIte,simprocAttr,m1,m2,m3,m7,m8,q1,q2,q3,q4,q5,BY,AK,Dx,Qz,QA,QW,h1,h2,h3,h4,h5]
  all_goals (first|rfl|exact⟨rfl,rfl⟩)
 cases b with
 |true=>
  simp only[↓go1,gB3,reduceIte,simprocAttr,m1,m2,m3,m7,m8,m9,q1,q2,q3,q4,q5,h44,Aa s44,BY,AK,Dx,Qz,QA,QW,h1,h2,h3,h4,h5]
  all_goals (first|rfl|exact⟨rfl,rfl⟩)
 |false=>
  by_cases h6:100<a.key.length
  ·simp only[↓go1,gB3,reduceIte,simprocAttr,m1,m2,m3,m7,m8,m9,m10,q1,q2,q3,q4,q5,q6,h44,Aa s44,BY,AK,Dx,oneI_f,QA,QW,h1,h2,h3,h4,h5,h6]
   all_goals (first|rfl|exact⟨rfl,rfl⟩)
  ·simp only[↓go1,gB3,reduceIte,simprocAttr,m1,m2,m3,m7,m8,m9,m10,q1,q2,q3,q4,q5,q6,h44,Aa s44,BY,AK,oneI_f,QW,h1,h2,h3,h4,h5,h6]
   all_goals (first|rfl|exact⟨rfl,rfl⟩)
def F53:List D->Option D:=FX mkRl (λp=>p.2.length<=1000) (λp=> .slice p.2.isEmpty [] (Al p.2))
theorem F53_eq{nl:Bool}{l:List Rl}(h:l.length<=1000):F53 [.slice nl [] (Al l)]=some (.slice l.isEmpty [] (Al l)):=BA (mk:=mkRl) (a:=(nl,l)) mkRl_inj h
theorem isE_take{l:List Rl}{j:Nat}(h:j<l.length):(l.take (j+1)).isEmpty=false:=by
 cases l with
 |nil=>simp at h
 |cons x r=>rfl
theorem loop53{S:Summs}{l:List Rl}{nl:Bool}{Q:Ex->St->Prop}(hb:l.length<=1000)
  (hexit:∀st t,st.s 3= .slice l.isEmpty t (Al l)->Q (.exit 0) st):
  ∀(f j:Nat)(t:Id) st g,l.length=j+f->st.s 0= .slice nl [] (Al l)->st.s 3= .slice (l.take j).isEmpty t (Al (l.take j))->Gw st.m st.c 209 (l.take j).isEmpty t->st.s 4= .int .i64 (j:Int)->A6 S [] dc53l0 Q st g:=by
 intro f;induction f with
 |zero=>
  intro j t st g hf h0 h3 hg h4;refine Af dc53l0.eq_1 ?_;have:¬((j:Int)<l.length):=by omega
  simp only[↓go1,go2,go4,reduceIte,simprocAttr,h0,h4,this,Au];rw[Qt (by omega)]at h3;exact hexit _ t h3
 |succ f ih=>
  intro j t st g hf h0 h3 hg h4;refine Af dc53l0.eq_1 ?_;have hj:j<l.length:=by omega
  have hlt:((j:Int)<l.length):=by omega
  have hj0:(0:Int)<=(j:Int):=by omega
  have hw:IntKind.i64.wrap ((j:Int)+1)=((j+1:Nat):Int):=w64 (by omega) (by omega);have hat:(Al l)[j]?=some (.agg [.str l[j].1,.int .u8 l[j].2]):=by simp[Al,Qc hj,rlD]
  have htk:Al (l.take (j+1))=Al (l.take j)++[.agg [.str l[j].1,.int .u8 l[j].2]]:=by
   have e:l.take (j+1)=l.take j++[l[j]]:=by rw[QK,Qc hj];rfl
   rw[e];unfold Al;rw[Ze];rfl
  have hn:(l.take j).isEmpty=true->Al (l.take j)=[]:=λh=>by rw[Q7.1 h];rfl
  have hlen:(Al (l.take j)).length<=1000:=by rw[Au,QD];omega
  have hlen2:(l.take j).length<=1000:=by rw[QD];omega
  have hem:=isE_take hj;obtain⟨st_s,st_m,st_c⟩:=st;simp only at h0 h3 hg h4;simp only[↓go1,gB2,go4,reduceIte,simprocAttr,h0,h3,h4,hlt,hj0,Qj,hat,Au,and_false,Qo,Qy,and_false];refine An.intro ⟨by omega,rfl,hg.grow (by omega)⟩ ?_;rw[BK hn];simp only[↓go1,gB3,reduceIte,simprocAttr,h4,hw];refine ih (j+1) [st_c+4+6] _ _ (by omega) h0 ?_ ?_ rfl
  ·rw[hem,htk];rfl
  ·rw[hem];exact Gw.new (by simp only;omega)
theorem ok53:(Ac F53).ok Qb 53:=by
 refine BI (S:=λ_=>none) AL fn53 (λ_=>by simp[mkRl]) (λp hp=>?_);obtain⟨nl,l⟩:=p;simp only at hp;unfold dc53 mkRl;simp only[↓go1,go2,QI];refine loop53 (l:=l) (nl:=nl) hp (λst t h=>?_) l.length 0 [] _ _ (by omega) rfl rfl (.inl rfl) rfl;simp only[↓go1,gB3,reduceIte,simprocAttr,h]
def ownT(k:Tk):Tk:=(k.1,k.2.1,k.2.2.2.isEmpty,k.2.2.2)
def F51:List D->Option D:=FX (λk:Tk=>[tkD k]) (λk=>k.2.2.2.length<=1000) (λk=>tkD (ownT k))
theorem tkD_inj1(x y:Tk)(e:[tkD x]=[tkD y]):x=y:=by
 simp only[Qa,and_true]at e;have:Av [x]=Av [y]:=by simp[Av,e]
 simpa using tksD_inj this
theorem F51_eq{k:Tk}(h:k.2.2.2.length<=1000):F51 [tkD k]=some (tkD (ownT k)):=BA (mk:=λk:Tk=>[tkD k]) (a:=k) tkD_inj1 h
theorem ok51:(Ac F51).ok Qb 51:=by
 obtain⟨S,hS,hl⟩:=A5 (Ab ok53 Ad);have s53:=hl 53 _ rfl;clear hl;refine BI hS fn51 (λ_=>by simp) (λk hk=>?_);obtain⟨x1,x2,x3,x4⟩:=k;simp only at hk;have h53:=F53_eq (nl:=x3) (l:=x4) hk;unfold dc51 tkD ownT;simp only;simp only[↓go1,gB0,reduceIte,simprocAttr,BH,CW,QR,Qp,QE,Aa s53,h53,Ag,Ao,Ap,Qg,Qo,Qy,Qe,Qx,QF,Qa,Qf,Qd];refine An.intro (Aj rfl) ?_;simp only[↓go1,gB0,reduceIte,simprocAttr,Qp,QE,Ag,Ao,Ap,Qg,Qa,Qd,Bg,AY]
 all_goals (first|rfl|exact⟨rfl,rfl⟩)
def F46:List D->Option D:=FX (λm:Mt=>[mtD m]) (λ_=>True) (λm=>mtD m)
theorem mtD_inj1(x y:Mt)(e:[mtD x]=[mtD y]):x=y:=by
 simp only[Qa,and_true]at e;have:Ar [x]=Ar [y]:=by simp[Ar,e]
 simpa using mtsD_inj this
theorem F46_eq{m:Mt}:F46 [mtD m]=some (mtD m):=BA (mk:=λm:Mt=>[mtD m]) (a:=m) mtD_inj1 trivial
theorem ok46:(Ac F46).ok Qb 46:=by
 refine BI (S:=λ_=>none) AL fn46 (λ_=>by simp) (λm _=>?_);obtain⟨x1,x2,x3⟩:=m;unfold dc46 mtD;simp only;simp only[↓go1,gB0,reduceIte,simprocAttr,BH,CW,QR,Qp,QE,Ag,Ao,Ap,Qg,Qo,Qy,Qe,Qx,QF,Qa,Qf,Qd,Bg,AY]
 all_goals (first|rfl|exact⟨rfl,rfl⟩)
def ownA(a:Ak):Ak:={a with nlr:=a.rs.isEmpty}
def F18:List D->Option D:=FX mkA (λa=>a.rs.length<=1000) (λa=>akD (ownA a))
theorem F18_eq{a:Ak}(h:a.rs.length<=1000):F18 [akD a]=some (akD (ownA a)):=BA (mk:=mkA) (a:=a) mkA_inj h
theorem ok18:(Ac F18).ok Qb 18:=by
 obtain⟨S,hS,hl⟩:=A5 (Ab ok53 Ad);have s53:=hl 53 _ rfl;clear hl;refine BI hS fn18 (λ_=>by simp[mkA]) (λa ha=>?_);have h53:=F53_eq (nl:=a.nlr) (l:=a.rs) ha;unfold dc18 mkA akD akC ownA;simp only[↓go1,gB0,reduceIte,simprocAttr,BH,CW,QR,Qp,QE,Aa s53,h53,Ag,Ao,Ap,Qg,Qo,Qy,Qe,Qx,QF,Qa,Qf,Qd];refine An.intro (Aj rfl) ?_;simp only[↓go1,gB0,reduceIte,simprocAttr,Qp,QE,Ag,Ao,Ap,Qg,Qa,Qd,Bg,AY]
 all_goals (first|rfl|exact⟨rfl,rfl⟩)
def keyV(k:Bs)(nl:Bool):Vw:=⟨false,1,k,true,[],nl,[firstTk]⟩
def F23:List D->Option D
 |[.str k]=>some (vwD (keyV k false))
 |_=>none
theorem ok23:(Ac F23).ok Qb 23:=by
 obtain⟨S,hS,hl⟩:=A5 (Ab ok48 Ad);have s48:=hl 48 _ rfl;clear hl;refine Ay (S:=S) hS fn23 (λds r h=>?_) (λds r h=>?_)
 ·unfold F23 at h;split at h
  ·simp
  ·cases h
 ·unfold F23 at h;split at h
  ·simp only[QO]at h;subst h;have h48:F48 []=some (.agg [.slice false [] (Av [firstTk])]):=rfl;unfold dc23;simp only[↓go1,gB0,reduceIte,simprocAttr,BH,CW,QR,Qp,QE,Aa s48,h48,Ag,Ao,Ap,Qg,Qo,Qy,Qe,Qx,QF,Bg,AY]
   all_goals (first|rfl|exact⟨rfl,rfl⟩)
  ·cases h
theorem putS{m:Mem}{i:Id}{x y:D}:(m.put i 0 [x]).put i 0 [y]=m.put i 0 [y]:=by
 funext j p;rw[Ag,Ag,Ag];by_cases h:j=i∧0<=p∧p<0+[y].length
 ·rw[if_pos h,if_pos h]
 ·rw[if_neg h,if_neg h];exact if_neg h
def BM(s:Bool×List Mt)(m:Mt):Bool×List Mt:=match (Fb s.2 m).1 with
 |none=>s
 |some l=>(false,l)
def BU(s:Bool×List Mt)(m:Mt):Bool×List Mt:=match (addR s.2 m).1 with
 |none=>s
 |some l=>(false,l)
theorem tabD_st(s:Bool×List Mt)(m:Mt):tabD s.1 s.2 (Fb s.2 m).1= .agg [.slice (BM s m).1 [] (Ar (BM s m).2)]:=by
 unfold BM;cases(Fb s.2 m).1<;>rfl
theorem tabR_st(s:Bool×List Mt)(m:Mt):tabR s.1 s.2 (addR s.2 m).1= .slice (BU s m).1 [] (Ar (BU s m).2):=by
 unfold BU;cases(addR s.2 m).1<;>rfl
def MtOk(s:Bool×List Mt)(n:Nat):Prop:=s.2.length<=n∧(s.1=true->s.2=[])
theorem addSt_ok{s:Bool×List Mt}{m:Mt}{n:Nat}(h:MtOk s n):MtOk (BM s m) (n+1):=by
 unfold BM Fb
 repeat' split
 all_goals first|exact⟨Q4 h.1,h.2⟩|skip
 all_goals (rename_i he;revert he;repeat' split)
 all_goals intro he
 all_goals (cases he)
 all_goals exact⟨by rw[FO,Qm];exact Nat.succ_le_succ h.1,λh=>by cases h⟩
theorem addRt_ok{s:Bool×List Mt}{m:Mt}{n:Nat}(h:MtOk s n)(hp:∀x∈s.2,x.1.length<=1000)(hm:m.1.length<=1000):MtOk (BU s m) (n+1)∧∀x∈(BU s m).2,x.1.length<=1000:=by
 unfold BU addR
 repeat' split
 all_goals first|exact⟨⟨Q4 h.1,h.2⟩,hp⟩|skip
 all_goals (rename_i he;revert he;repeat' split)
 all_goals intro he
 all_goals (cases he)
 all_goals
  refine⟨⟨?_,λh=>by cases h⟩,λx hx=>?_⟩
  ·have:=h.1;simp only[Qm,Qn,QD,Q2];omega
  ·rcases Zd.1 hx with h1|h1
   ·exact hp x (Zp h1)
   ·rcases Q9.1 h1 with rfl|h1
    ·exact hm
    ·exact hp x (Zq h1)
def Bh(s:Bool×List Tk)(k:Tk):Bool×List Tk:=match (Ds s.2 (ownT k)).1 with
 |none=>s
 |some l=>(false,l)
def BT(s:Bool×List Tk)(k:Tk):Bool×List Tk:=match (makeR s.2 k).1 with
 |none=>s
 |some l=>(false,l)
theorem setD_st(s:Bool×List Tk)(k:Tk):setD s.1 s.2 (Ds s.2 (ownT k)).1= .agg [.slice (Bh s k).1 [] (Av (Bh s k).2)]:=by
 unfold Bh;cases(Ds s.2 (ownT k)).1<;>rfl
theorem setR_st(s:Bool×List Tk)(k:Tk):setR s.1 s.2 (makeR s.2 k).1= .slice (BT s k).1 [] (Av (BT s k).2):=by
 unfold BT;cases(makeR s.2 k).1<;>rfl
def TkG(k:Tk):Prop:=k.1.length<=1000∧k.2.1.length<=1000∧tkOk k∧El k.2.2.2
def TksOk(s:Bool×List Tk)(n:Nat):Prop:=s.2.length<=n∧∀k∈s.2,TkG k
theorem ownT_ok{k:Tk}(h:TkG k):TkG (ownT k):=⟨h.1,h.2.1,⟨h.2.2.1.1,λe=>Q7.1 e⟩,h.2.2.2⟩
theorem mid_ok{l:List Tk}{k:Tk}{j n:Nat}(h:l.length<=n)(hl:∀k∈l,TkG k)(hk:TkG k):TksOk (false,l.take j++k::l.drop j) (n+1):=by
 refine⟨?_,λx hx=>?_⟩
 ·simp only[Qm,Qn,QD,Q2];omega
 ·rcases Zd.1 hx with h1|h1
  ·exact hl x (Zp h1)
  ·rcases Q9.1 h1 with rfl|h1
   ·exact hk
   ·exact hl x (Zq h1)
theorem makeSt_ok{s:Bool×List Tk}{k:Tk}{n:Nat}(h:TksOk s n)(hk:TkG k):TksOk (Bh s k) (n+1):=by
 unfold Bh Ds
 repeat' split
 all_goals first|exact⟨Q4 h.1,h.2⟩|skip
 all_goals (rename_i he;revert he;repeat' split)
 all_goals intro he
 all_goals (cases he)
 all_goals exact mid_ok h.1 h.2 (ownT_ok hk)
theorem makeRt_ok{s:Bool×List Tk}{k:Tk}{n:Nat}(h:TksOk s n)(hk:TkG k):TksOk (BT s k) (n+1):=by
 unfold BT makeR
 repeat' split
 all_goals first|exact⟨Q4 h.1,h.2⟩|skip
 all_goals (rename_i he;revert he;repeat' split)
 all_goals intro he
 all_goals (cases he)
 all_goals exact mid_ok h.1 h.2 hk
open Classical in
theorem F50_eq{nl0 nl:Bool}{l:List Tk}{n p:Bs}{rs:List Rl}(hl:l.length<=90000)(hk:∀k∈l,El k.2.2.2)(hn:nl=true->rs=[])(hr:El rs)(h1:n.length<=1000000)(h2:p.length<=1000000):
  F50 [.agg [.slice nl0 [] (Av l)],.agg [.str n,.str p,.slice nl [] (Al rs)]]=some (.tup [setD nl0 l (Ds l (n,p,nl,rs)).1,.int .i64 (Ds l (n,p,nl,rs)).2]):=by
 have h:(DX (Av l)∧(Av l).length<=90000∧∀k∈BS (Av l),El k.2.2.2)∧rlsOk nl (Al rs)∧El (A7 (Al rs))∧n.length<=1000000∧p.length<=1000000:=
  ⟨⟨DJ (by omega),by rw[AP];exact hl,by rw[Bb];exact hk⟩,rlsOk_mk hr.1 hn,by rw[AN];exact hr,h1,h2⟩
 show(if _ then _ else _)=_;rw[if_pos h,Bb,AN]
open Classical in
theorem F52_eq{nl0 nl:Bool}{l:List Tk}{n p:Bs}{rs:List Rl}(hl:l.length<=90000)(hk:∀k∈l,El k.2.2.2)(hn:nl=true->rs=[])(hr:El rs)(h1:n.length<=1000000)(h2:p.length<=1000000):
  F52 [.slice nl0 [] (Av l),.agg [.str n,.str p,.slice nl [] (Al rs)]]=some (.tup [setR nl0 l (makeR l (n,p,nl,rs)).1,.int .i64 (makeR l (n,p,nl,rs)).2]):=by
 have h:(DX (Av l)∧(Av l).length<=90000∧∀k∈BS (Av l),El k.2.2.2)∧rlsOk nl (Al rs)∧El (A7 (Al rs))∧n.length<=1000000∧p.length<=1000000:=
  ⟨⟨DJ (by omega),by rw[AP];exact hl,by rw[Bb];exact hk⟩,rlsOk_mk hr.1 hn,by rw[AN];exact hr,h1,h2⟩
 show(if _ then _ else _)=_;rw[if_pos h,Bb,AN]
structure SeenOk (v:Vw):Prop where
 ml:v.ms.length<=8
 mp:∀m∈v.ms,m.1.length<=1000
 kl:v.ks.length<=12
 kp:∀k∈v.ks,TkG k
 kr:∀k∈v.ks,k.2.2.2.length<=1000
def z5:List D:=[.bool false,.int .i64 0,.str [],.slice true [] [],.slice true [] []]
def FF(v:Vw):Mem:=(((Mem.put (λ_ _=>none) [0] 0 (vwC v)).put [1] 0 z5).put [2] 0 z5)
theorem vM0{v:Vw}{k:Nat}{d:D}(hd:(vwC v)[k]?=some d):FF v [0] k=some d:=by
 unfold FF;rw[Mem.put_other (by decide),Mem.put_other (by decide)];have hk:=(Qk.1 hd).1;rw[Ag,if_pos ⟨rfl,Ql _,by omega⟩];exact hd
theorem loop17a{S:Summs}{v:Vw}{Q:Ex->St->Prop}(s46:S 46=some (Ac F46))(s45:S 45=some (Ac F45))(s47:S 47=some (Ac F47))(hv:SeenOk v)
  (hexit:∀st:St,6<=st.c->st.s 1= .ptr [0] 0->st.s 2= .ptr [1] 0->st.s 3= .ptr [2] 0->st.s 4= .ptr [3] 0->st.s 5= .slice (v.ms.foldl BU (true,[])).1 [] (Ar (v.ms.foldl BU (true,[])).2)->st.m=(FF v).put [3] 0 [.slice (v.ms.foldl BM (true,[])).1 [] (Ar (v.ms.foldl BM (true,[])).2)]->Q (.exit 0) st):
  ∀(f j:Nat)(a r:Bool×List Mt)(st:St) g,v.ms.length=j+f->a=(v.ms.take j).foldl BM (true,[])->r=(v.ms.take j).foldl BU (true,[])->MtOk a j->MtOk r j->(∀x∈r.2,x.1.length<=1000)->
   6<=st.c->st.s 1= .ptr [0] 0->st.s 2= .ptr [1] 0->st.s 3= .ptr [2] 0->st.s 4= .ptr [3] 0->st.s 5= .slice r.1 [] (Ar r.2)->st.s 6= .int .i64 (j:Int)->st.m=(FF v).put [3] 0 [.slice a.1 [] (Ar a.2)]->A6 S [] dc17l0 Q st g:=by
 have hml:=hv.ml;have m3:∀x,(FF v).put [3] 0 [x] [0] 3=some (.slice v.nlm [] (Ar v.ms)):=λx=>by rw[Mem.put_other (by decide)];exact vM0 rfl
 intro f;induction f with
 |zero=>
  intro j a r st g hf ha hr oa or hp hc h1 h2 h3 h4 h5 h6 hm;refine Af dc17l0.eq_1 ?_;have:¬((j:Int)<v.ms.length):=by omega
  rw[Qt (by omega)]at ha hr;subst ha hr;simp only[↓go1,go2,go4,reduceIte,simprocAttr,h1,h6,hm,m3,Aw,this];exact hexit _ (by simp only;omega) h1 h2 h3 h4 h5 rfl
 |succ f ih=>
  intro j a r st g hf ha hr oa or hp hc h1 h2 h3 h4 h5 h6 hm;refine Af dc17l0.eq_1 ?_;have hj:j<v.ms.length:=by omega
  have hlt:((j:Int)<v.ms.length):=by omega
  have hj0:(0:Int)<=(j:Int):=by omega
  have hw:IntKind.i64.wrap ((j:Int)+1)=((j+1:Nat):Int):=w64 (by omega) (by omega);have hat:(Ar v.ms)[j]?=some (.agg [.str v.ms[j].1,.int .i64 v.ms[j].2.1,.bool v.ms[j].2.2]):=by simp[Ar,Qc hj,mtD]
  have htk:v.ms.take (j+1)=v.ms.take j++[v.ms[j]]:=by rw[QK,Qc hj];rfl
  have hmem:=hv.mp _ (QC hj);generalize v.ms[j]=x at hat htk hmem;have ha':BM a x=(v.ms.take (j+1)).foldl BM (true,[]):=by rw[htk,Q5,←ha];rfl
  have hr':BU r x=(v.ms.take (j+1)).foldl BU (true,[]):=by rw[htk,Q5,←hr];rfl
  have oa':=addSt_ok (m:=x) oa;have or':=addRt_ok or hp hmem;have h46:F46 [.agg [.str x.1,.int .i64 x.2.1,.bool x.2.2]]=some (.agg [.str x.1,.int .i64 x.2.1,.bool x.2.2]):=F46_eq (m:=x);have l1:=oa.1;have l2:=or.1;have h45:F45 [.agg [.slice a.1 [] (Ar a.2)],.agg [.str x.1,.int .i64 x.2.1,.bool x.2.2]]=some (.tup [.agg [.slice (BM a x).1 [] (Ar (BM a x).2)],.int .i64 (Fb a.2 x).2]):=by
   rw[←tabD_st];exact F45_eq (m:=x) (by omega) oa.2 (by omega)
  have h47:F47 [.slice r.1 [] (Ar r.2),.agg [.str x.1,.int .i64 x.2.1,.bool x.2.2]]=some (.tup [.slice (BU r x).1 [] (Ar (BU r x).2),.int .i64 (addR r.2 x).2]):=by
   rw[←tabR_st];exact F47_eq (m:=x) (by omega) or.2 (by omega) (λy hy=>Nat.le_trans (hp y hy) (by omega))
  generalize (Fb a.2 x).2=e1 at h45;generalize (addR r.2 x).2=e2 at h47;generalize BM a x=a' at ha' oa' h45;generalize BU r x=r' at hr' or' h47;obtain⟨st_s,st_m,st_c⟩:=st;simp only at hc h1 h2 h3 h4 h5 h6 hm;subst hm;simp only[↓go1,gB0,reduceIte,simprocAttr,h1,h4,h6,m3,Aw,hlt,hj0,Qj,hat,Aa s46,h46,Aa s45,h45,Ag,Ao,Ap,Qg,Qo,Qy,Qe];refine An.intro (Aj (by simp[Ax,Aq,rds,Ae];done)) ?_;simp only[↓go1,gB2,go4,reduceIte,simprocAttr,h1,h5,h6,m3,hj0,hw,Qj,hat,Aa s47,h47,putS,Qh,Qr,Qo,Qy];exact ih (j+1) a' r' _ _ (by omega) ha' hr' oa' or'.1 or'.2 (by simp only;omega) h1 h2 h3 h4 rfl rfl putS
theorem loop17b{S:Summs}{v:Vw}{M:Mem}{q:Nat}{s5:D}{Q:Ex->St->Prop}(s51:S 51=some (Ac F51))(s50:S 50=some (Ac F50))(s52:S 52=some (Ac F52))(hv:SeenOk v)(hq:4<=q)(hM:∀k d,(vwC v)[k]?=some d->M [0] k=some d)
  (hexit:∀st:St,q<st.c->st.s 1= .ptr [0] 0->st.s 2= .ptr [1] 0->st.s 3= .ptr [2] 0->st.s 4= .ptr [3] 0->st.s 7= .ptr [q] 0->st.s 8= .slice (v.ks.foldl BT (false,[firstTk])).1 [] (Av (v.ks.foldl BT (false,[firstTk])).2)->st.s 5=s5->st.m=M.put [q] 0 [.slice (v.ks.foldl Bh (false,[firstTk])).1 [] (Av (v.ks.foldl Bh (false,[firstTk])).2)]->Q (.exit 2) st):
  ∀(f j:Nat)(a r:Bool×List Tk)(st:St) g,v.ks.length=j+f->a=(v.ks.take j).foldl Bh (false,[firstTk])->r=(v.ks.take j).foldl BT (false,[firstTk])->TksOk a (j+1)->TksOk r (j+1)->
   q<st.c->st.s 1= .ptr [0] 0->st.s 2= .ptr [1] 0->st.s 3= .ptr [2] 0->st.s 4= .ptr [3] 0->st.s 5=s5->st.s 7= .ptr [q] 0->st.s 8= .slice r.1 [] (Av r.2)->st.s 9= .int .i64 (j:Int)->st.m=M.put [q] 0 [.slice a.1 [] (Av a.2)]->A6 S [] dc17l1 Q st g:=by
 have hkl:=hv.kl;have m4:∀x,M.put [q] 0 [x] [0] 4=some (.slice v.nlt [] (Av v.ks)):=λx=>by rw[Mem.put_other (by simp;omega)];exact hM _ _ rfl
 intro f;induction f with
 |zero=>
  intro j a r st g hf ha hr oa or hc h1 h2 h3 h4 h5 h7 h8 h9 hm;refine Af dc17l1.eq_1 ?_;have:¬((j:Int)<v.ks.length):=by omega
  rw[Qt (by omega)]at ha hr;subst ha hr;simp only[↓go1,go2,go4,reduceIte,simprocAttr,h1,h9,hm,m4,AP,this];exact hexit _ (by simp only;omega) h1 h2 h3 h4 h7 h8 h5 rfl
 |succ f ih=>
  intro j a r st g hf ha hr oa or hc h1 h2 h3 h4 h5 h7 h8 h9 hm;refine Af dc17l1.eq_1 ?_;have hj:j<v.ks.length:=by omega
  have hlt:((j:Int)<v.ks.length):=by omega
  have hj0:(0:Int)<=(j:Int):=by omega
  have hw:IntKind.i64.wrap ((j:Int)+1)=((j+1:Nat):Int):=w64 (by omega) (by omega);have hat:(Av v.ks)[j]?=some (.agg [.str v.ks[j].1,.str v.ks[j].2.1,.slice v.ks[j].2.2.1 [] (Al v.ks[j].2.2.2)]):=by simp[Av,Qc hj,tkD]
  have htk:v.ks.take (j+1)=v.ks.take j++[v.ks[j]]:=by rw[QK,Qc hj];rfl
  have hmem:=hv.kp _ (QC hj);have hx4:=hv.kr _ (QC hj);generalize v.ks[j]=x at hat htk hmem hx4;have ha':Bh a x=(v.ks.take (j+1)).foldl Bh (false,[firstTk]):=by rw[htk,Q5,←ha];rfl
  have hr':BT r x=(v.ks.take (j+1)).foldl BT (false,[firstTk]):=by rw[htk,Q5,←hr];rfl
  have oa':=makeSt_ok oa hmem;have or':=makeRt_ok or hmem;obtain⟨x1,x2,x3,x4⟩:=x;obtain⟨p1,p2,⟨p3,p4⟩,p5⟩:=hmem;simp only at p1 p2 p3 p4 p5;simp only at hat;simp only at hx4;have h51:F51 [.agg [.str x1,.str x2,.slice x3 [] (Al x4)]]=some (.agg [.str x1,.str x2,.slice x4.isEmpty [] (Al x4)]):=F51_eq (k:=(x1,x2,x3,x4)) hx4;have l1:=oa.1;have l2:=or.1;have h50:F50 [.agg [.slice a.1 [] (Av a.2)],.agg [.str x1,.str x2,.slice x4.isEmpty [] (Al x4)]]=some (.tup [.agg [.slice (Bh a (x1,x2,x3,x4)).1 [] (Av (Bh a (x1,x2,x3,x4)).2)],.int .i64 (Ds a.2 (x1,x2,x4.isEmpty,x4)).2]):=by
   rw[←setD_st];exact F50_eq (by omega) (λk hk=>(oa.2 k hk).2.2.2) (λe=>Q7.1 e) p5 (by omega) (by omega)
  have h52:F52 [.slice r.1 [] (Av r.2),.agg [.str x1,.str x2,.slice x3 [] (Al x4)]]=some (.tup [.slice (BT r (x1,x2,x3,x4)).1 [] (Av (BT r (x1,x2,x3,x4)).2),.int .i64 (makeR r.2 (x1,x2,x3,x4)).2]):=by
   rw[←setR_st];exact F52_eq (by omega) (λk hk=>(or.2 k hk).2.2.2) p4 p5 (by omega) (by omega)
  generalize (Ds a.2 (x1,x2,x4.isEmpty,x4)).2=e1 at h50;generalize (makeR r.2 (x1,x2,x3,x4)).2=e2 at h52;generalize Bh a (x1,x2,x3,x4)=a' at ha' oa' h50;generalize BT r (x1,x2,x3,x4)=r' at hr' or' h52;obtain⟨st_s,st_m,st_c⟩:=st;simp only at hc h1 h2 h3 h4 h5 h7 h8 h9 hm;subst hm;simp only[↓go1,gB0,reduceIte,simprocAttr,h1,h7,h9,m4,AP,hlt,hj0,Qj,hat,Aa s51,h51,Aa s50,h50,Ag,Ao,Ap,Qg,Qo,Qy,Qe];refine An.intro (Aj (by simp[Ax,Aq,rds,Ae];done)) ?_;simp only[↓go1,gB2,go4,reduceIte,simprocAttr,h1,h8,h9,m4,hj0,hw,Qj,hat,Aa s52,h52,putS,Qh,Qr,Qo,Qy];exact ih (j+1) a' r' _ _ (by omega) ha' hr' oa' or' (by simp only;omega) h1 h2 h3 h4 h5 h7 rfl rfl putS
theorem res_cells{s:Nat->D}{m:Mem}{k k':Option Nat}{a b:Nat}:Cm [.cell k a,.cell k' b] s m=(ldD m k (s a)).bind λd=>(ldD m k' (s b)).map λd'=> .tup [d,d']:=by
 simp only[Cm,Fk,RV.of];cases ldD m k (s a)<;>cases ldD m k' (s b)<;>rfl
def teV(n:Int):Int:=IntKind.i64.wrap (1+IntKind.i64.wrap ((IntKind.u64.wrap n).tmod 6))
def seeV(v:Vw):Vw:=⟨v.se,teV v.te,v.key,(v.ms.foldl BM (true,[])).1,(v.ms.foldl BM (true,[])).2,(v.ks.foldl Bh (false,[firstTk])).1,(v.ks.foldl Bh (false,[firstTk])).2⟩
def docV(v:Vw):Vw:=⟨v.se,teV v.te,v.key,(v.ms.foldl BU (true,[])).1,(v.ms.foldl BU (true,[])).2,(v.ks.foldl BT (false,[firstTk])).1,(v.ks.foldl BT (false,[firstTk])).2⟩
def F17:List D->Option D:=FX mkV SeenOk (λv=> .tup [vwD (seeV v),vwD (docV v)])
theorem F17_eq{v:Vw}(h:SeenOk v):F17 [vwD v]=some (.tup [vwD (seeV v),vwD (docV v)]):=BA (mk:=mkV) (a:=v) mkV_inj h
theorem first_ok:TksOk (false,[firstTk]) 1:=⟨by decide,λk hk=>by
 rw[Zh.1 hk];refine⟨by decide,by decide,⟨by decide,by decide⟩,⟨by decide,λr hr=>?_,λr hr=>?_⟩⟩
 ·rw[Zh.1 hr];decide
 ·rw[Zh.1 hr];decide⟩
theorem ok17:(Ac F17).ok Qb 17:=by
 obtain⟨S,hS,hl⟩:=A5 (Ab ok46 (Ab ok45 (Ab ok47 (Ab ok48 (Ab ok49 (Ab ok51 (Ab ok50 (Ab ok52 Ad))))))));have s46:=hl 46 _ rfl;have s45:=hl 45 _ rfl;have s47:=hl 47 _ rfl;have s48:=hl 48 _ rfl;have s49:=hl 49 _ rfl;have s51:=hl 51 _ rfl;have s50:=hl 50 _ rfl;have s52:=hl 52 _ rfl;clear hl;refine BI hS fn17 (λ_=>by simp[mkV]) (λv hv=>?_);have h48:F48 []=some (.agg [.slice false [] (Av [firstTk])]):=rfl;have h49:F49 []=some (.slice false [] (Av [firstTk])):=rfl;unfold dc17 mkV vwD;simp only[↓go1,go2,go3,QI,A_];refine loop17a (v:=v) s46 s45 s47 hv (λst hc h1 h2 h3 h4 h5 hm=>?_) v.ms.length 0 (true,[]) (true,[]) _ _ (by omega) rfl rfl ⟨QG _,λ_=>rfl⟩ ⟨QG _,λ_=>rfl⟩ (λx hx=>by cases hx) (by simp only;omega) rfl rfl rfl rfl rfl rfl rfl;obtain⟨st_s,st_m,st_c⟩:=st;simp only at hc h1 h2 h3 h4 h5 hm;subst hm;have hM:∀x k d,(vwC v)[k]?=some d->(FF v).put [3] 0 [x] [0] k=some d:=λx k d hd=>by rw[Mem.put_other (by decide)];exact vM0 hd
 generalize hA:v.ms.foldl BM (true,[])=A;generalize hR:v.ms.foldl BU (true,[])=R at h5;simp only[↓go1,gB2,go4,reduceIte,Qw,QI,Aa s48,h48,Aa s49,h49,Ag,Ao,Ap,Ql,Nat.reduceLT,QJ,Qh,and_self,Qg,Qe,Qa];refine loop17b (v:=v) (M:=(FF v).put [3] 0 [.slice A.1 [] (Ar A.2)]) (q:=st_c+2) (s5:= .slice R.1 [] (Ar R.2)) s51 s50 s52 hv (by omega) (hM _) (λst hc1 h1 h2 h3 h4 h7 h8 h5 hm=>?_) v.ks.length 0 (false,[firstTk]) (false,[firstTk]) _ _ (by omega) rfl rfl first_ok first_ok (by simp only;omega) h1 h2 h3 h4 h5 rfl rfl rfl putS;obtain⟨u_s,u_m,u_c⟩:=st;simp only at hc1 h1 h2 h3 h4 h5 h7 h8 hm;have hA1:Ai u_m [3] 0 1=some [.slice A.1 [] (Ar A.2)]:=by rw[hm,AG (by simp<;>omega)];exact AQ rfl
 have hT1:Ai u_m [st_c+2] 0 1=some [.slice (seeV v).nlt [] (Av (seeV v).ks)]:=by rw[hm];exact AQ rfl
 have k0:u_m [0] 0=some (.bool v.se):=by rw[hm,Mem.put_other (by simp<;>omega)]<;>exact hM _ _ _ rfl
 have k1:u_m [0] 1=some (.int .i64 v.te):=by rw[hm,Mem.put_other (by simp<;>omega)]<;>exact hM _ _ _ rfl
 have k2:u_m [0] 2=some (.str v.key):=by rw[hm,Mem.put_other (by simp<;>omega)]<;>exact hM _ _ _ rfl
 have z1:Ai u_m [1] 0 5=some z5:=by rw[hm,AG (by simp<;>omega),AG (by decide)];unfold FF;rw[AG (by decide)];exact AQ rfl
 have z2:Ai u_m [2] 0 5=some z5:=by rw[hm,AG (by simp<;>omega),AG (by decide)];unfold FF;exact AQ rfl
 have o1:∀x,Ai (u_m.put [1] 0 x) [2] 0 5=some z5:=λx=>by rw[AG (by decide)];exact z2
 have e1:∀x y,x.length=5->Ai ((u_m.put [1] 0 x).put [2] 0 y) [1] 0 5=some x:=λx y hx=>by rw[AG (by decide),AQ hx]
 have e2:∀x y,y.length=5->Ai ((u_m.put [1] 0 x).put [2] 0 y) [2] 0 5=some y:=λx y hy=>by rw[AQ hy]
 have hA2:A.1=(seeV v).nlm∧A.2=(seeV v).ms:=by subst hA;exact⟨rfl,rfl⟩
 have hR2:R.1=(docV v).nlm∧R.2=(docV v).ms:=by subst hR;exact⟨rfl,rfl⟩
 rw[hA2.1,hA2.2]at hA1;rw[hR2.1,hR2.2]at h5;have hU:st_c+2≠1∧st_c+2≠2:=by omega
 replace h8:u_s 8= .slice (docV v).nlt [] (Av (docV v).ks):=h8;clear hm hA2 hR2 hA hR hM;simp only[↓go1,go2,reduceIte,Qw,QI,h1,k1,Qi];refine An.intro (by decide) ?_;simp only[↓go1,gB2,go4,reduceIte,Qw,QI,h1,h2,h3,h4,h5,h7,h8,hA1,hT1,k0,k2,z1,o1,BH,CW,QR,Qp,QE,Nat.reduceLeDiff,and_self,Qo,Qy,Qe,Qx,QF];refine An.intro (Aj ?_) ?_
 ·simp only[Ax,Za,Zm,Zg,Qh,Qr,Q8,Aq,Qn,QT,List.flatMap_cons,List.flatMap_nil,rds,↓go1,reduceIte,Qw,h2,h3,h4,h7];simp[Ae]
  try omega
 simp only[↓go1,gB2,go4,reduceIte,Qw,QI,h2,h3,e1,e2,Co,res_cells,ldD,Qp,QE,Qg];rfl
end Go.Vd
namespace Go.Vd
open Go.Proofs
end Go.Vd
namespace Go.Vd
open Go.Proofs Go.RowKit
open Classical in
theorem F129_eq{nl:Bool}{l:List Tk}(hl:l.length<=1000000):F129 [.agg [.slice nl [] (Av l)]]=some (.slice (decide (l.length=0)) [] (l.map λk=> .str k.1)):=by
 have h:DX (Av l):=DJ hl;show(if _ then _ else _)=_;rw[if_pos h,Bb]
theorem bl_irr:∀a:Bs,Op.bytesLess a a=false
 |[]=>rfl
 |x::r=>by simp[Op.bytesLess,bl_irr r]
theorem bl_tri:∀{a b:Bs},a≠b->Op.bytesLess a b=!Op.bytesLess b a
 |[],[],h=>absurd rfl h
 |[],y::s,_=>rfl
 |x::r,[],_=>rfl
 |x::r,y::s,h=>by
  simp only[Op.bytesLess];by_cases hxy:x=y
  ·subst hxy;have hrs:r≠s:=λe=>h (by rw[e])
   have:=bl_tri hrs;simp[this]
  ·have hyx:¬y=x:=λe=>hxy e.symm
   have h1:(x==y)=false:=by simpa using hxy
   have h2:(y==x)=false:=by simpa using hyx
   rw[h1,h2];simp only[Qv,QW];have hn:x.toNat≠y.toNat:=λe=>hxy (UInt8.toNat_inj.1 e)
   by_cases hlt:x<y
   ·have h3:¬y<x:=by rw[UInt8.lt_iff_toNat_lt]at hlt ⊢;omega
    simp[hlt,h3]
   ·have h3:y<x:=by rw[UInt8.lt_iff_toNat_lt]at hlt ⊢;omega
    simp[hlt,h3]
theorem bl_trans:∀{a b c:Bs},Op.bytesLess a b=true->Op.bytesLess b c=true->Op.bytesLess a c=true
 |a,b,[],h1,h2=>by simp[Op.bytesLess]at h2
 |a,[],z::t,h1,h2=>by cases a<;>simp[Op.bytesLess]at h1
 |[],y::s,z::t,h1,h2=>rfl
 |x::r,y::s,z::t,h1,h2=>by
  simp only[Op.bytesLess,Bool.or_eq_true,Qu,decide_eq_true_eq,beq_iff_eq]at h1 h2 ⊢;rcases h1 with h1|⟨rfl,h1⟩
  ·rcases h2 with h2|⟨rfl,h2⟩
   ·left;rw[UInt8.lt_iff_toNat_lt]at h1 h2 ⊢;omega
   ·left;exact h1
  ·rcases h2 with h2|⟨rfl,h2⟩
   ·left;exact h2
   ·right;exact⟨rfl,bl_trans h1 h2⟩
def SortM(l:List Mt):Prop:=∀i j,i<j->j<l.length->Op.bytesLess (l.getD i m0t).1 (l.getD j m0t).1=true
theorem cmpS_lt{a b:Bs}:decide (FA a b<0)=Op.bytesLess a b:=by
 unfold FA;split
 ·rename_i h;rw[h];rfl
 ·rename_i h;have:Op.bytesLess a b=false:=by simpa using h
  rw[this];split<;>rfl
theorem kFr_kR{l:List Mt}{m:Mt}(hn:∀i,i<l.length->(l.getD i m0t).1≠m.1):∀j,j<=l.length->kR ltM m0t l m j=kFr l m.1 j
 |0,_=>rfl
 |j+1,hj=>by
  have ih:=kFr_kR hn j (by omega);have ht:=bl_tri (hn j (by omega));have hlt:ltM m (l.getD j m0t)=Op.bytesLess m.1 (l.getD j m0t).1:=cmpS_lt;unfold kR kFr;rw[hlt,show Bk l j=l.getD j m0t from rfl,ht];cases Op.bytesLess m.1 (l.getD j m0t).1
  ·simp
  ·simpa using ih
theorem find_none{l:List Mt}{p:Bs}(h:¬0<=BR l p):∀i,i<l.length->(l.getD i m0t).1≠p:=by
 have h1:=FU (l.map λm=>decide (m.1=p));have h2:decide (0<=A9 (l.map λm=>decide (m.1=p)))=false:=decide_eq_false h;rw[h2]at h1;intro i hi e;have h3:=Q_.1 h1.symm (decide ((l.getD i m0t).1=p)) (Q0.2 ⟨l[i],QC hi,by simp[Zg,hi]⟩);exact h3 (decide_eq_true e)
theorem addE_addR{l:List Mt}{m:Mt}(h:SortM l):Fb l m=addR l m:=by
 unfold Fb addR;split
 ·rfl
 split
 ·rfl
 rename_i hf;split
 ·rfl
 split
 ·rfl
 have hs:∀i,i+1<l.length->ltM (l.getD (i+1) m0t) (l.getD i m0t)=false:=λi hi=>by
  have h1:=h i (i+1) (by omega) hi;unfold ltM;rw[cmpS_lt];have hne:(l.getD (i+1) m0t).1≠(l.getD i m0t).1:=λe=>by rw[e,bl_irr]at h1;cases h1
  rw[bl_tri hne,h1];rfl
 have hi:=isort_app ltM m0t l m hs l.length 1 (QG _) (by omega);rw[hi,kFr_kR (find_none hf) l.length (QG _)];split
 ·rename_i h0;have:l=[]:=Zb h0;subst this;rfl
 ·rfl
theorem kFr_in{l:List Mt}{p:Bs}:∀j,kFr l p j=0∨Op.bytesLess (l.getD (kFr l p j-1) m0t).1 p=true
 |0=> .inl rfl
 |j+1=>by
  unfold kFr;split
  ·rename_i h;right;exact h
  ·exact kFr_in j
theorem kFr_out{l:List Mt}{p:Bs}:∀j i,kFr l p j<=i->i<j->Op.bytesLess (l.getD i m0t).1 p=false
 |0,i,_,h=>by omega
 |j+1,i,h1,h2=>by
  unfold kFr at h1;split at h1
  ·omega
  ·rename_i h;by_cases e:i=j
   ·subst e;exact Bool.eq_false_iff.2 h
   ·exact kFr_out j i h1 (by omega)
theorem mid_getD{α:Type}{l:List α}{m d:α}{k i:Nat}(hk:k<=l.length):(l.take k++m::l.drop k).getD i d=if i<k then l.getD i d else if i=k then m else l.getD (i-1) d:=by
 have ht:(l.take k).length=k:=by rw[QD];omega
 simp only[Zg];split
 ·rename_i h;rw[Qs (by omega),List.getElem?_take,if_pos h]
 ·rename_i h;rw[Qq (by omega),ht];split
  ·rename_i e;subst e;simp
  ·rename_i e;obtain⟨q,hq⟩:∃q,i-k=q+1:=⟨i-k-1,by omega⟩;rw[hq,Qr,List.getElem?_drop];congr 2;omega
theorem sort_mid{l:List Mt}{m:Mt}(h:SortM l)(hn:∀i,i<l.length->(l.getD i m0t).1≠m.1):SortM (l.take (kFr l m.1 l.length)++m::l.drop (kFr l m.1 l.length)):=by
 have hk:=kFr_le l m.1 l.length;have h1:=kFr_in (l:=l) (p:=m.1) l.length;have h2:=kFr_out (l:=l) (p:=m.1) l.length;generalize kFr l m.1 l.length=k at hk h1 h2;have lo:∀i,i<k->Op.bytesLess (l.getD i m0t).1 m.1=true:=λi hi=>by
  rcases h1 with h1|h1
  ·omega
  ·by_cases e:i=k-1
   ·rw[e];exact h1
   ·exact bl_trans (h i (k-1) (by omega) (by omega)) h1
 have hi:∀i,k<=i->i<l.length->Op.bytesLess m.1 (l.getD i m0t).1=true:=λi h3 h4=>by
  rw[bl_tri (λe=>hn i h4 e.symm),h2 i h3 h4];rfl
 intro i j hij hj;have hlen:(l.take k++m::l.drop k).length=l.length+1:=by
  simp only[Qm,Qn,QD,Q2];omega
 rw[hlen]at hj;rw[mid_getD hk,mid_getD hk];by_cases a1:i<k
 ·rw[if_pos a1];by_cases b1:j<k
  ·rw[if_pos b1];exact h i j hij (by omega)
  ·rw[if_neg b1];by_cases b2:j=k
   ·rw[if_pos b2];exact lo i a1
   ·rw[if_neg b2];exact h i (j-1) (by omega) (by omega)
 ·rw[if_neg a1];have b1:¬j<k:=by omega
  have b2:¬j=k:=by omega
  rw[if_neg b1,if_neg b2];by_cases a2:i=k
  ·rw[if_pos a2];exact hi (j-1) (by omega) (by omega)
  ·rw[if_neg a2];exact h (i-1) (j-1) (by omega) (by omega)
theorem addRt_sort{s:Bool×List Mt}{m:Mt}(h:SortM s.2):SortM (BU s m).2:=by
 unfold BU addR;by_cases h1:CR m.1 m.2.1≠0
 ·rw[if_pos h1];exact h
 ·rw[if_neg h1];by_cases h2:0<=BR s.2 m.1
  ·rw[if_pos h2];exact h
  ·rw[if_neg h2];by_cases h3:En m.1 (s.2.map (·.1))=true
   ·rw[if_pos h3];exact h
   ·rw[if_neg h3];by_cases h4:4<=s.2.length
    ·rw[if_pos h4];exact h
    ·rw[if_neg h4];exact sort_mid h (find_none h2)
theorem addSt_addRt{s:Bool×List Mt}{m:Mt}(h:SortM s.2):BM s m=BU s m:=by
 unfold BM BU;rw[addE_addR h]
theorem fold_mounts(ms:List Mt):∀s:Bool×List Mt,SortM s.2->ms.foldl BM s=ms.foldl BU s∧SortM (ms.foldl BU s).2:=by
 induction ms with
 |nil=>exact λs h=>⟨rfl,h⟩
 |cons m r ih=>
  intro s h;rw[QU,QU,addSt_addRt h];exact ih _ (addRt_sort h)
theorem view_mounts(ms:List Mt):ms.foldl BM (true,[])=ms.foldl BU (true,[])∧SortM (ms.foldl BU (true,[])).2:=fold_mounts ms _ (λi j _ h=>absurd h (Zo _))
def CN(l:List Tk):Prop:=∀i j,i<j->j<l.length->Op.bytesLess (A4 l i).1 (A4 l j).1=true
def AtT(l:List Tk)(s:Bs)(r:Nat):Prop:=r<=l.length∧(∀i,i<r->Op.bytesLess (A4 l i).1 s=true)∧∀i,r<=i->i<l.length->Op.bytesLess (A4 l i).1 s=false
theorem AtT.uniq{l:List Tk}{s:Bs}{r q:Nat}(h:AtT l s r)(k:AtT l s q):r=q:=by
 rcases Nat.lt_trichotomy r q with e|e|e
 ·have h1:=h.2.2 r (QG _) (by have:=k.1;omega);rw[k.2.1 r e]at h1;cases h1
 ·exact e
 ·have h1:=k.2.2 q (QG _) (by have:=h.1;omega);rw[h.2.1 q e]at h1;cases h1
theorem less_down{l:List Tk}(h:CN l){s:Bs}{i j:Nat}(hij:i<=j)(hj:j<l.length)(hl:Op.bytesLess (A4 l j).1 s=true):Op.bytesLess (A4 l i).1 s=true:=by
 by_cases e:i=j
 ·rw[e];exact hl
 ·exact bl_trans (h i j (by omega) hj) hl
theorem bsR_at{l:List Tk}(h:CN l){s:Bs}:∀(f lo hi:Nat),hi-lo<=f->lo<=hi->hi<=l.length->(∀i,i<lo->Op.bytesLess (A4 l i).1 s=true)->(∀i,hi<=i->i<l.length->Op.bytesLess (A4 l i).1 s=false)->AtT l s (bsR l s f lo hi)
 |0,lo,hi,hf,h1,h2,h3,h4=>by
  have:lo=hi:=by omega
  subst this;exact⟨h2,h3,h4⟩
 |f+1,lo,hi,hf,h1,h2,h3,h4=>by
  unfold bsR;split
  ·rename_i hlt;have hm:(lo+hi) / 2<hi:=by omega
   have hm2:lo<=(lo+hi) / 2:=by omega
   split
   ·rename_i hc;have hc':Op.bytesLess (A4 l ((lo+hi) / 2)).1 s=true:=by rw[←cmpS_lt];exact decide_eq_true hc
    exact bsR_at h f _ hi (by omega) (by omega) h2 (λi hi'=>less_down h (show i<=(lo+hi) / 2 by omega) (by omega) hc') h4
   ·rename_i hc;have hc':Op.bytesLess (A4 l ((lo+hi) / 2)).1 s=false:=by rw[←cmpS_lt];exact decide_eq_false hc
    refine bsR_at h f lo _ (by omega) hm2 (by omega) h3 (λi h5 h6=>?_);by_cases e:Op.bytesLess (A4 l i).1 s=true
    ·rw[less_down h h5 h6 e]at hc';cases hc'
    ·simpa using e
  ·have:lo=hi:=by omega
   subst this;exact⟨h2,h3,h4⟩
theorem bsE_at{l:List Tk}(h:CN l)(s:Bs):AtT l s (bsE l s):=bsR_at h l.length 0 l.length (by omega) (by omega) (QG _) (λi hi=>absurd hi (Zo _)) (λi h1 h2=>by omega)
theorem into_at{l:List Tk}(h:CN l){s:Bs}:∀(f j:Nat),l.length=j+f->(∀i,i<j->Op.bytesLess (A4 l i).1 s=true)->AtT l s (DM l s f j)
 |0,j,hj,h1=>⟨by unfold DM;omega,h1,λi h2 h3=>by unfold DM at h2;omega⟩
 |f+1,j,hj,h1=>by
  unfold DM;split
  ·rename_i hc;refine into_at h f (j+1) (by omega) (λi hi=>?_);by_cases e:i=j
   ·rw[e];exact hc
   ·exact h1 i (by omega)
  ·rename_i hc;refine⟨by omega,h1,λi h2 h3=>?_⟩;by_cases e:Op.bytesLess (A4 l i).1 s=true
   ·exact absurd (less_down h h2 h3 e) hc
   ·simpa using e
theorem bsE_into{l:List Tk}(h:CN l)(s:Bs):bsE l s=DM l s l.length 0:=(bsE_at h s).uniq (into_at h l.length 0 (by omega) (λi hi=>absurd hi (Zo _)))
theorem cmpS_zero{a b:Bs}:decide (FA a b=0)=decide (a=b):=by
 unfold FA;split
 ·rename_i h;have:a≠b:=λe=>by rw[e,bl_irr]at h;cases h
  simp[this]
 ·split
  ·rename_i h;simp[h]
  ·rename_i h;simp[h]
theorem found_at{l:List Tk}(h:CN l){j:Nat}(hj:j<l.length):bsE l (A4 l j).1=j∧AW l (A4 l j).1=true:=by
 have e:bsE l (A4 l j).1=j:=(bsE_at h _).uniq ⟨by omega,λi hi=>h i j hi hj,λi h1 h2=>by
  by_cases e:i=j
  ·rw[e];exact bl_irr _
  ·have h3:=h j i (by omega) h2;have hne:(A4 l i).1≠(A4 l j).1:=λe=>by rw[e,bl_irr]at h3;cases h3
   rw[bl_tri hne,h3];rfl⟩
 refine⟨e,?_⟩;unfold AW;rw[e,cmpS_zero];simp[hj]
theorem tkAt_get{l:List Tk}{j:Nat}(h:j<l.length):A4 l j=l[j]:=by simp[A4,Qc h]
theorem find_found{l:List Tk}(h:CN l)(s:Bs):(AW l s=true∧C0 l s=(bsE l s:Int)∧bsE l s<l.length)∨(AW l s=false∧C0 l s=-1):=by
 by_cases hf:AW l s=true
 ·left;have h1:=hf;unfold AW at h1;rw[cmpS_zero,Qu,decide_eq_true_eq,decide_eq_true_eq]at h1;obtain⟨hl,hn⟩:=h1;refine⟨hf,?_,hl⟩;unfold C0;refine ET ?_ (λi hi=>?_)
  ·rw[QP,Qc hl,Zc];rw[tkAt_get hl]at hn;rw[decide_eq_true hn]
  ·have hil:i<l.length:=by omega
   rw[QP,Qc hil,Zc];have h3:=(bsE_at h s).2.1 i hi;rw[tkAt_get hil]at h3;have hne:l[i].1≠s:=λe=>by rw[e,bl_irr]at h3;cases h3
   rw[decide_eq_false hne]
 ·right;have hf':AW l s=false:=by simpa using hf
  refine⟨hf',?_⟩;have hall:∀j,j<l.length->(A4 l j).1≠s:=λj hj e=>by
   have:=(found_at h hj).2;rw[e,hf']at this;cases this
  unfold C0 A9;cases hx:(l.map λm=>decide (m.1=s)).findIdx? id with
  |none=>rfl
  |some k=>
   obtain⟨hk,hp,_⟩:=List.findIdx?_eq_some_iff_getElem.1 hx;rw[List.length_map]at hk;simp only[List.getElem_map,id_eq,decide_eq_true_eq]at hp;exact absurd (by rw[tkAt_get hk];exact hp) (hall k hk)
def strT(k:Tk):Bs×Bs×List Rl:=(k.1,k.2.1,k.2.2.2)
def CB(L M:List Tk):Prop:=L.map strT=M.map strT
theorem CB.len{L M:List Tk}(h:CB L M):L.length=M.length:=by have:=congrArg List.length h;simpa using this
theorem CB.at{L M:List Tk}(h:CB L M)(j:Nat):(A4 L j).1=(A4 M j).1∧(A4 L j).2.1=(A4 M j).2.1∧(A4 L j).2.2.2=(A4 M j).2.2.2:=by
 have h1:(L.map strT)[j]?=(M.map strT)[j]?:=by rw[h]
 rw[QP,QP]at h1;unfold A4;simp only[Zg];cases hL:L[j]?<;>cases hM:M[j]?<;>rw[hL,hM]at h1<;>simp[strT]at h1<;>simp[h1]
theorem CB.sort{L M:List Tk}(h:CB L M)(hs:CN L):CN M:=λi j hij hj=>by
 rw[←(h.at i).1,←(h.at j).1];exact hs i j hij (by rw[h.len];exact hj)
theorem CB.into{L M:List Tk}(h:CB L M)(s:Bs):∀f j,DM L s f j=DM M s f j
 |0,_=>rfl
 |f+1,j=>by
  unfold DM;rw[(h.at j).1,CB.into h s f (j+1)]
theorem CB.find{L M:List Tk}(h:CB L M)(s:Bs):C0 L s=C0 M s:=by
 unfold C0;have e:∀K:List Tk,(K.map λm=>decide (m.1=s))=(K.map strT).map λx=>decide (x.1=s):=λK=>by rw[List.map_map];rfl
 rw[e,e,h]
theorem CB.mid{L M:List Tk}(h:CB L M){k k':Tk}(hk:strT k=strT k')(j:Nat):CB (L.take j++k::L.drop j) (M.take j++k'::M.drop j):=by
 unfold CB at h ⊢;rw[Ze,Ze,Qp,Qp,List.map_take,List.map_take,List.map_drop,List.map_drop,h,hk]
theorem sortT_mid{l:List Tk}{k:Tk}(h:CN l)(hf:AW l k.1=false):CN (Eg l k):=by
 have hat:=bsE_at h k.1;have hne:∀i,i<l.length->(A4 l i).1≠k.1:=λi hi e=>by
  have:=(found_at h hi).2;rw[e,hf]at this;cases this
 unfold Eg;generalize bsE l k.1=q at hat;obtain⟨hq,lo,hi⟩:=hat;have hi':∀i,q<=i->i<l.length->Op.bytesLess k.1 (A4 l i).1=true:=λi h1 h2=>by
  rw[bl_tri (λe=>hne i h2 e.symm),hi i h1 h2];rfl
 intro i j hij hj;have hlen:(l.take q++k::l.drop q).length=l.length+1:=by
  simp only[Qm,Qn,QD,Q2];omega
 rw[hlen]at hj;have em:∀i,A4 (l.take q++k::l.drop q) i=if i<q then A4 l i else if i=q then k else A4 l (i-1):=λi=>mid_getD hq
 rw[em,em];by_cases a1:i<q
 ·rw[if_pos a1];by_cases b1:j<q
  ·rw[if_pos b1];exact h i j hij (by omega)
  ·rw[if_neg b1];by_cases b2:j=q
   ·rw[if_pos b2];exact lo i a1
   ·rw[if_neg b2];exact h i (j-1) (by omega) (by omega)
 ·rw[if_neg a1];have b1:¬j<q:=by omega
  have b2:¬j=q:=by omega
  rw[if_neg b1,if_neg b2];by_cases a2:i=q
  ·rw[if_pos a2];exact hi' (j-1) (by omega) (by omega)
  ·rw[if_neg a2];exact h (i-1) (j-1) (by omega) (by omega)
theorem make_same{s r:Bool×List Tk}{k:Tk}(h:CB s.2 r.2)(hs:CN s.2):CB (Bh s k).2 (BT r k).2∧CN (Bh s k).2:=by
 unfold Bh BT Ds makeR;have e1:(ownT k).1=k.1:=rfl;have e2:(ownT k).2.1=k.2.1:=rfl;have e3:(ownT k).2.2.2=k.2.2.2:=rfl;rw[e1,e2,e3,←h.find,←h.find];by_cases h1:FG k.1 k.2.1 k.2.2.2≠0
 ·rw[if_pos h1,if_pos h1];exact⟨h,hs⟩
 rw[if_neg h1,if_neg h1];by_cases h2:k.2.1=[]
 ·rw[if_pos h2,if_pos h2];exact⟨h,hs⟩
 rw[if_neg h2,if_neg h2];rcases find_found hs k.1 with ⟨f1,f2,f3⟩|⟨f1,f2⟩
 ·have n2:0<=C0 s.2 k.1:=by rw[f2];omega
  rw[if_pos f1,if_pos n2];exact⟨h,hs⟩
 have n1:¬AW s.2 k.1=true:=by rw[f1];decide
 have n2:¬0<=C0 s.2 k.1:=by rw[f2];decide
 rw[if_neg n1,if_neg n2];rcases find_found hs k.2.1 with ⟨g1,g2,g3⟩|⟨g1,g2⟩
 ·have p1:¬AW s.2 k.2.1=false:=by rw[g1];decide
  have p2:¬C0 s.2 k.2.1<0:=by rw[g2];omega
  rw[if_neg p1,if_neg p2,g2,Qj,←(h.at _).2.2];by_cases h5:Dj k.2.2.2 (A4 s.2 (bsE s.2 k.2.1)).2.2.2=false
  ·rw[if_pos h5,if_pos h5];exact⟨h,hs⟩
  rw[if_neg h5,if_neg h5];refine⟨?_,sortT_mid (k:=ownT k) hs f1⟩;show CB (Eg s.2 (ownT k)) (withR r.2 k);unfold Eg withR;rw[e1,bsE_into hs,h.into,h.len];exact h.mid (k:=ownT k) (k':=k) (show strT (ownT k)=strT k from rfl) _
 ·have p2:C0 s.2 k.2.1<0:=by rw[g2];decide
  rw[if_pos g1,if_pos p2];exact⟨h,hs⟩
theorem fold_tokens(ks:List Tk):∀s r:Bool×List Tk,CB s.2 r.2->CN s.2->CB (ks.foldl Bh s).2 (ks.foldl BT r).2∧CN (ks.foldl Bh s).2:=by
 induction ks with
 |nil=>exact λs r h hs=>⟨h,hs⟩
 |cons k t ih=>
  intro s r h hs;rw[QU,QU];obtain⟨h1,h2⟩:=make_same (k:=k) h hs;exact ih _ _ h1 h2
theorem view_tokens(ks:List Tk):CB (ks.foldl Bh (false,[firstTk])).2 (ks.foldl BT (false,[firstTk])).2∧CN (ks.foldl Bh (false,[firstTk])).2:=
 fold_tokens ks _ _ rfl (λi j h1 h2=>by simp at h2;omega)
structure LikeV (v r:Vw):Prop where
 se:v.se=r.se
 te:v.te=r.te
 key:v.key=r.key
 ms:v.ms=r.ms
 ks:CB v.ks r.ks
 sort:CN v.ks
theorem view_like{v:Vw}:LikeV (seeV v) (docV v):=⟨rfl,rfl,rfl,by show(v.ms.foldl BM (true,[])).2=_;rw[(view_mounts v.ms).1];rfl,(view_tokens v.ks).1,(view_tokens v.ks).2⟩
theorem foldR_ok:∀(ms:List Mt)(s:Bool×List Mt)(n:Nat),MtOk s n->(∀x∈s.2,x.1.length<=1000)->(∀m∈ms,m.1.length<=1000)->MtOk (ms.foldl BU s) (n+ms.length)∧∀x∈(ms.foldl BU s).2,x.1.length<=1000
 |[],s,n,h,h',_=>⟨h,h'⟩
 |m::r,s,n,h,h',hm=>by
  obtain⟨h1,h2⟩:=addRt_ok h h' (hm m (QN ..));rw[QU,Qn,show n+(r.length+1)=n+1+r.length by omega];exact foldR_ok r _ _ h1 h2 (λx hx=>hm x (QV _ hx))
theorem foldS_ok:∀(ks:List Tk)(s:Bool×List Tk)(n:Nat),TksOk s n->(∀k∈ks,TkG k)->TksOk (ks.foldl Bh s) (n+ks.length)
 |[],s,n,h,_=>h
 |k::r,s,n,h,hk=>by
  rw[QU,Qn,show n+(r.length+1)=n+1+r.length by omega];exact foldS_ok r _ _ (makeSt_ok h (hk k (QN ..))) (λx hx=>hk x (QV _ hx))
theorem foldT_ok:∀(ks:List Tk)(s:Bool×List Tk)(n:Nat),TksOk s n->(∀k∈ks,TkG k)->TksOk (ks.foldl BT s) (n+ks.length)
 |[],s,n,h,_=>h
 |k::r,s,n,h,hk=>by
  rw[QU,Qn,show n+(r.length+1)=n+1+r.length by omega];exact foldT_ok r _ _ (makeRt_ok h (hk k (QN ..))) (λx hx=>hk x (QV _ hx))
theorem doc_ok{v:Vw}(h:SeenOk v):VwOk (docV v):=by
 obtain⟨h1,h2⟩:=foldR_ok v.ms (true,[]) 0 ⟨QG _,λ_=>rfl⟩ (λx hx=>by cases hx) h.mp;have h3:=foldT_ok v.ks (false,[firstTk]) 1 first_ok h.kp;have hm:=h.ml;have hk:=h.kl;refine⟨?_,h2,?_,λk hk=>⟨(h3.2 k hk).2.2.1,(h3.2 k hk).2.2.2⟩⟩
 ·have:=h1.1;show(v.ms.foldl BU (true,[])).2.length<=1000;omega
 ·have:=h3.1;show(v.ks.foldl BT (false,[firstTk])).2.length<=1000;omega
theorem see_ok{v:Vw}(h:SeenOk v):VwOk (seeV v):=by
 have hd:=doc_ok h;have h3:=foldS_ok v.ks (false,[firstTk]) 1 first_ok h.kp;have hk:=h.kl;have e:(seeV v).ms=(docV v).ms:=view_like.ms;refine⟨by rw[e];exact hd.ml,by rw[e];exact hd.mp,?_,λk hk=>⟨(h3.2 k hk).2.2.1,(h3.2 k hk).2.2.2⟩⟩;have:=h3.1;show(v.ks.foldl Bh (false,[firstTk])).2.length<=1000;omega
def rawT(k:Tk):Prop:=(k.2.2.1=true->k.2.2.2=[])∧DB k.2.2.2
theorem overR_false{l:List Rl}(h:overR l=false):l.length<=8∧∀r∈l,r.1.length<=100:=by
 unfold overR at h;rw[QB]at h;refine⟨by have:=of_decide_eq_false h.1;omega,λr hr=>?_⟩;have h2:=Q_.1 h.2 r hr;unfold bigR at h2;simp only[decide_eq_true_eq]at h2;omega
theorem seen_of{v:Vw}(h:overS v=false)(hr:∀k∈v.ks,rawT k):SeenOk v:=by
 unfold overS at h;rw[QB,QB,QB]at h;obtain⟨⟨⟨h1,h2⟩,h3⟩,h4⟩:=h;unfold overT at h3;rw[QB]at h3;have hk:∀k∈v.ks,k.1.length<=40∧k.2.1.length<=40∧overR k.2.2.2=false:=λk hk=>by
  have h5:=Q_.1 h3.2 k hk;unfold bigT at h5;rw[Bool.not_eq_true,QB,QB]at h5;exact⟨by have:=of_decide_eq_false h5.1.1;omega,by have:=of_decide_eq_false h5.1.2;omega,h5.2⟩
 refine⟨by have:=of_decide_eq_false h2;omega,λm hm=>?_,by have:=of_decide_eq_false h3.1;omega,λk hk'=>?_,λk hk'=>?_⟩
 ·have h5:=Q_.1 h4 m hm;unfold bigM at h5;simp only[decide_eq_true_eq]at h5;omega
 ·obtain⟨a1,a2,a3⟩:=hk k hk';obtain⟨b1,b2⟩:=overR_false a3;obtain⟨c1,c2⟩:=hr k hk';exact⟨by omega,by omega,⟨by omega,c1⟩,⟨by omega,λr hr=>by have:=b2 r hr;omega,c2⟩⟩
 ·obtain⟨_,_,a3⟩:=hk k hk';have:=(overR_false a3).1;omega
theorem ask_of{a:Ak}(h:overA a=false)(h0:0<=a.op)(h1:a.op<256)(hr:DB a.rs):AkOk a:=by
 unfold overA at h;simp only[QB,decide_eq_false_iff_not]at h;obtain⟨⟨⟨⟨⟨⟨e1,e2⟩,e3⟩,e4⟩,e5⟩,e6⟩,e7⟩:=h;obtain⟨b1,b2⟩:=overR_false e6;exact⟨h0,h1,by omega,by omega,by omega,by omega,by omega,by omega,λr hr'=>⟨by have:=b2 r hr';omega,(hr r hr').1⟩,by omega⟩
def MsOk(l:List Mt):Prop:=l.length<=1000∧∀m∈l,m.1.length<=1000
end Go.Vd
namespace Go.Vd
open Go.Proofs
end Go.Vd
namespace Go.Vd
open Go.Proofs Go.RowKit
theorem rE{m:Mem}{i j:Nat}{x:List D}{n:Nat}(h:j≠i):Ai (m.put [i] 0 x) [j] 0 n=Ai m [j] 0 n:=AG (by simp[h])
theorem e1{m:Mem}{x:List D}{n:Nat}:Ai (m.put [16] 0 x) [0] 0 n=Ai m [0] 0 n:=rE (by decide)
theorem e2{m:Mem}{x:List D}{n:Nat}:Ai (m.put [17] 0 x) [0] 0 n=Ai m [0] 0 n:=rE (by decide)
theorem e3{m:Mem}{x:List D}{n:Nat}:Ai (m.put [16] 0 x) [1] 0 n=Ai m [1] 0 n:=rE (by decide)
theorem e4{m:Mem}{x:List D}{n:Nat}:Ai (m.put [17] 0 x) [1] 0 n=Ai m [1] 0 n:=rE (by decide)
theorem e5{m:Mem}{x:List D}{n:Nat}:Ai (m.put [17] 0 x) [16] 0 n=Ai m [16] 0 n:=rE (by decide)
theorem e6{m:Mem}{x:List D}{n:Nat}:Ai (m.put [16] 0 x) [17] 0 n=Ai m [17] 0 n:=rE (by decide)
theorem e7{m:Mem}{v:Vw}{i:Id}:Ai (m.put i 0 (vwC v)) i 0 5=some (vwC v):=AQ rfl
end Go.Vd
namespace Go.Vd
open Go.RowKit
section
variable{P:Program}{B:Nat}{w0:World}{N:Nat}{ns:Id}{S:Summs}{t:Nat}
end
section
variable{P:Program}{S:Summs}{f:FuncId}{N:Nat}{dc a b:DC}{rs:List RV}{code:Code}
end
section
variable{P:Program}{B:Nat}{w0 w:World}{m:Mem}{g g0:Gh}{N:Nat}
end
section
variable{P:Program}{B:Nat}{w0:World}{N:Nat}{S:Summs}
end
def BG(m:Mem)(e:Nat)(nl:Bool)(t:Id)(emp:Bool):Bool:=
 if nl=true then emp else match m t 0 with
  |some (.tok k)=>k==e+1&&!t.isEmpty
  |_=>false
theorem growT_grow{m:Mem}{e:Nat}{nl:Bool}{t:Id}{emp:Bool}{xs:List D}(h:BG m e nl t emp=true):Grow m e (.slice nl t xs):=by
 unfold BG at h;split at h
 ·rename_i h0;exact .inl h0
 ·split at h
  ·rename_i k hm;simp only[Qu,beq_iff_eq]at h;rw[h.1]at hm;exact .inr ⟨hm,by intro e;rw[e]at h;simp at h⟩
  ·cases h
theorem DN{m m':Mem}{e:Nat}{nl:Bool}{t:Id}{emp:Bool}(h:m t 0=m' t 0):BG m e nl t emp=BG m' e nl t emp:=by
 unfold BG;rw[h]
theorem growT_grow'{m m':Mem}{e:Nat}{nl:Bool}{t:Id}{emp:Bool}{xs:List D}(h:BG m e nl t emp=true)(hm:nl=false->m t 0=some (.tok (e+1))->m' t 0=m t 0):Grow m' e (.slice nl t xs):=by
 rcases growT_grow (xs:=xs) h with h0|⟨h1,h2⟩
 ·exact .inl h0
 ·cases nl with
  |true=>exact .inl rfl
  |false=>exact .inr ⟨by rw[hm rfl h1];exact h1,h2⟩
theorem Ef{m:Mem}{e:Nat}{nl:Bool}{t:Id}{emp:Bool}(h:BG m e nl t emp=true):nl=false->m t 0=some (.tok (e+1)):=by
 rintro rfl;rcases growT_grow (xs:=[]) h with h0|⟨h1,h2⟩
 ·cases h0
 ·exact h1
theorem CM{m:Mem}{e:Nat}{f t i:Id}{nl:Bool}{xs:List D}{o:Nat}:Upd.app m (Be e f (.slice nl t xs)) i o=if i=f∧o=0 then some (.tok (e+1))else if nl=false∧i=t∧o=0 then some (.tok 0)else m i o:=by
 cases nl<;>simp[Be,Upd.app,Bq]
theorem toNat_ofNat{n:Nat}(h:n<256):(UInt8.ofNat n).toNat=n:=by simp[UInt8.toNat_ofNat'];omega
theorem u8_wrap(n:Int):IntKind.u8.wrap n=(((n % 256).toNat:Nat):Int):=by
 have h1:IntKind.u8.wrap n=n % 256:=by simp[IntKind.wrap,IntKind.bits,IntKind.signed]
 rw[h1];omega
structure Gd (e:Nat) (fr:Id) (m0:Mem) (nl0:Bool) (t0:Id) (m:Mem) (c:Nat) (t:Id):Prop where
 name:∃l j,t=l++j::fr∧j<c
 tok:m t 0=some (.tok (e+1))
 out:∀i o,¬fr<:+i->m i o=(if nl0=true then m0 else m0.put t0 0 [.tok 0]) i o
def Gs(e:Nat)(fr:Id)(m0:Mem)(nl0:Bool)(t0:Id)(m:Mem)(c:Nat)(nl:Bool)(t:Id):Prop:=
 (nl=nl0∧t=t0∧∀i o,¬fr<:+i->m i o=m0 i o)∨(nl=false∧Gd e fr m0 nl0 t0 m c t)
theorem suf_mk(l:List Nat)(j:Nat)(fr:Id):fr<:+l++j::fr:=⟨l++[j],by simp⟩
theorem mk_ne{l l':List Nat}{j k:Nat}{fr:Id}(h:j≠k):l++j::fr≠l'++k::fr:=by
 intro e;have e':=congrArg List.reverse e;simp only[List.reverse_append,List.reverse_cons,QL,List.append_cancel_left_eq]at e';simp only[List.cons_append,QR,Qa]at e';exact h e'.1
section
variable{e:Nat}{fr:Id}{m0 m:Mem}{nl0 nl:Bool}{t0 t:Id}{c c' k o:Nat}{l:List Nat}{xs ds:List D}{emp:Bool}
theorem Gs.start:Gs e fr m0 nl0 t0 m0 c nl0 t0:= .inl ⟨rfl,rfl,λ_ _ _=>rfl⟩
theorem Gd.gs(h:Gd e fr m0 nl0 t0 m c t):Gs e fr m0 nl0 t0 m c false t:= .inr ⟨rfl,h⟩
theorem Gd.more(h:Gd e fr m0 nl0 t0 m c t)(hc:c<=c'):Gd e fr m0 nl0 t0 m c' t:=⟨by obtain⟨l,j,b,b'⟩:=h.name;exact⟨l,j,b,by omega⟩,h.tok,h.out⟩
theorem Gs.more(h:Gs e fr m0 nl0 t0 m c nl t)(hc:c<=c'):Gs e fr m0 nl0 t0 m c' nl t:=h.imp id (λ⟨a,b⟩=>⟨a,b.more hc⟩)
theorem old_out(hfr:∀i o,fr<:+i->m0 i o=none)(h:m0 t0 0=some (.tok (e+1))):¬fr<:+t0:=λhs=>by rw[hfr _ _ hs]at h;cases h
theorem out_put(i:Id)(o':Nat)(hi:¬fr<:+i):m.put (l++k::fr) o ds i o'=m i o':=Mem.put_other (λe=>hi (e▸suf_mk l k fr))
theorem Gd.put(h:Gd e fr m0 nl0 t0 m c t)(hk:c<=k):Gd e fr m0 nl0 t0 (m.put (l++k::fr) o ds) c t:=by
 refine⟨h.name,?_,λi o' hi=>(out_put i o' hi).trans (h.out i o' hi)⟩;obtain⟨l',j,b,b'⟩:=h.name;rw[Mem.put_other]
 ·exact h.tok
 ·rw[b];exact mk_ne (by omega)
theorem Gs.put(h:Gs e fr m0 nl0 t0 m c nl t)(hk:c<=k):Gs e fr m0 nl0 t0 (m.put (l++k::fr) o ds) c nl t:=by
 rcases h with ⟨a,b,d⟩|⟨a,h⟩
 ·exact .inl ⟨a,b,λi o' hi=>(out_put i o' hi).trans (d i o' hi)⟩
 ·exact .inr ⟨a,h.put hk⟩
theorem Gs.grow(h:Gs e fr m0 nl0 t0 m c nl t)(hfr:∀i o,fr<:+i->m0 i o=none)(h0:BG m0 e nl0 t0 emp=true):Grow m e (.slice nl t xs):=by
 rcases h with ⟨rfl,rfl,d⟩|⟨a,h⟩
 ·exact growT_grow' h0 (λe1 e2=>d _ _ (old_out hfr e2))
 ·obtain⟨l',j,b,b'⟩:=h.name;exact .inr ⟨h.tok,by rw[b];simp⟩
theorem Gs.nil(h:Gs e fr m0 nl0 t0 m c nl t)(h0:BG m0 e nl0 t0 emp=true):nl=true->emp=true:=by
 rcases h with ⟨rfl,rfl,d⟩|⟨a,_⟩
 ·rintro rfl;unfold BG at h0;rw[if_pos rfl]at h0;exact h0
 ·rw[a];intro h;cases h
theorem Gs.app(h:Gs e fr m0 nl0 t0 m c nl t)(hk:c<=k)(hk':k<c'):Gd e fr m0 nl0 t0 (Upd.app m (Be e (l++k::fr) (.slice nl t xs))) c' (l++k::fr):=by
 refine⟨⟨l,k,rfl,hk'⟩,by rw[CM,if_pos ⟨rfl,rfl⟩],λi o hi=>?_⟩;have hne:i≠l++k::fr:=λe=>hi (e▸suf_mk l k fr)
 rw[CM,if_neg (λx=>hne x.1)];rcases h with ⟨rfl,rfl,d⟩|⟨rfl,h⟩
 ·cases nl with
  |true=>rw[if_neg (λx=>by simp at x),d i o hi];rfl
  |false=>rw[d i o hi];simp[Bq]
 ·obtain⟨l',j,b,b'⟩:=h.name;have hni:i≠t:=λe=>hi (by rw[e,b];exact suf_mk l' j fr)
  rw[if_neg (λx=>hni x.2.1)];exact h.out i o hi
theorem Gd.fin(h:Gd e fr m0 nl0 t0 m c t)(hfr:∀i o,fr<:+i->m0 i o=none)(h0:BG m0 e nl0 t0 emp=true):∀i o x,Upd.app m0 (Be e t (.slice nl0 t0 xs)) i o=some x->m i o=some x:=by
 intro i o x hx;rw[CM]at hx;by_cases h1:i=t∧o=0
 ·rw[if_pos h1]at hx;rw[h1.1,h1.2,h.tok];exact hx
 ·rw[if_neg h1]at hx;by_cases h2:nl0=false∧i=t0∧o=0
  ·obtain⟨rfl,rfl,rfl⟩:=h2;rw[if_pos ⟨rfl,rfl,rfl⟩]at hx;rw[h.out _ _ (old_out hfr (Ef h0 rfl)),if_neg (by simp),Bq,if_pos ⟨rfl,rfl⟩];exact hx
  ·rw[if_neg h2]at hx;by_cases hi:fr<:+i
   ·rw[hfr i o hi]at hx;cases hx
   ·rw[h.out i o hi];cases nl0 with
    |true=>exact hx
    |false=>simp only[Bool.false_eq_true,if_false,Bq];rw[if_neg (λx=>h2 ⟨rfl,x⟩)];exact hx
end
theorem opn_ok2{P:Program}{S:Summs}{f:FuncId}{N:Nat}{dc:DC}{rs:List RV}(hS:Summs.ok P S)(hf:Fn P f N dc rs){q:Summ}(hloc:∀ds m m' fr,(∀l∈q.rd ds m,m l.1 l.2=m' l.1 l.2)->q.ex ds m fr=q.ex ds m' fr)
  (hq:∀ds m fr r u,q.ex ds m fr=some (r,u)->(∀i o,fr<:+i->m i o=none)->ds.length<=N∧dc.wp S fr (DE rs λd m'=>d=r∧∀i o x,Upd.app m u i o=some x->m' i o=some x) ⟨Bx ds,m,0⟩):q.ok P f:=by
 obtain⟨fn,code,h1,h2,h3,h4,h5,h6⟩:=hf.is;refine⟨⟨fn,h1,by rw[h2];rfl,h3⟩,hloc,?_⟩;intro B w0 w m g fr ds vs r u hi hfresh hl hrep hex;have hfr:∀k i,(k::fr)<:+i->BL m g i:=λk i h=>hfresh i ((Zl k fr).trans h)
 obtain⟨hN,hwp⟩:=hq ds m fr r u hex (λi o h=>(hfresh i h).1 o);have hcalls:=FB (ns:=fr) hS hf hN hi hfr hl hrep hwp;refine hcalls.mono ?_;rintro e w' ⟨v,d,m',g',rfl,hinv,hext,hkeep,hrd,rfl,hle⟩;refine⟨v,g',rfl,hinv.less hle,hext,hrd,λi hf hn=>?_⟩;obtain⟨k1,k2,k3⟩:=hkeep i hf hn;refine⟨λo=>?_,k2,k3⟩;cases hx:Upd.app m u i o with
 |none=>rfl
 |some x=>exact absurd (k1 o) (by rw[hle i o x hx];simp)
def gQ(e:Nat)(F:List D->Option (List D×List Nat)):Summ where
 rd:=λds _=>match ds with
  | .slice _ t _::_=>[(t,0)]
  |_=>[]
 ex:=λds m fr=>match ds with
  | .slice nl t xs::rest=>if BG m e nl t xs.isEmpty=true∧xs.length<=100000000 then(F rest).map λy=>(.slice false (y.2++fr) (xs++y.1),Be e (y.2++fr) (.slice nl t xs))else none
  |_=>none
theorem gQ_loc{e:Nat}{F:List D->Option (List D×List Nat)}(ds:List D)(m m':Mem)(fr:Id)(h:∀l∈(gQ e F).rd ds m,m l.1 l.2=m' l.1 l.2):(gQ e F).ex ds m fr=(gQ e F).ex ds m' fr:=by
 simp only[gQ]at h ⊢;split
 ·rename_i nl t xs rest;rw[DN (h (t,0) (by simp))]
 ·rfl
theorem gQ_inv{e:Nat}{F:List D->Option (List D×List Nat)}{ds:List D}{m:Mem}{fr:Id}{d:D}{u:Upd}(h:(gQ e F).ex ds m fr=some (d,u)):
  ∃nl t xs rest ys l,ds= .slice nl t xs::rest∧BG m e nl t xs.isEmpty=true∧xs.length<=100000000∧F rest=some (ys,l)∧d= .slice false (l++fr) (xs++ys)∧u=Be e (l++fr) (.slice nl t xs):=by
 simp only[gQ]at h;split at h
 ·rename_i nl t xs rest;split at h
  ·rename_i hk;rw[QM]at h;obtain⟨⟨ys,l⟩,hF,h⟩:=h;simp only[QZ]at h;exact⟨nl,t,xs,rest,ys,l,rfl,hk.1,hk.2,hF,h.1.symm,h.2.symm⟩
  ·cases h
 ·cases h
theorem got_g{e:Nat}{F:List D->Option (List D×List Nat)}{m:Mem}{fr:Id}{nl:Bool}{t:Id}{xs rest ys:List D}{l:List Nat}{K:D×Upd->Prop}{g}(h0:Grow m e (.slice nl t xs))(hn:nl=true->xs=[])(hl:xs.length<=100000000)(hF:F rest=some (ys,l))
  (h:K (.slice false (l++fr) (xs++ys),Be e (l++fr) (.slice nl t xs))):Got ((gQ e F).ex (.slice nl t xs::rest) m fr) K g:=by
 refine Got.intro ?_ h;have hg:BG m e nl t xs.isEmpty=true:=by
  unfold BG;cases nl with
  |true=>rw[if_pos rfl,hn rfl];rfl
  |false=>
   rcases h0 with h0|⟨h1,h2⟩
   ·cases h0
   ·rw[if_neg (by simp),h1];cases t with
    |nil=>exact absurd rfl h2
    |cons a b=>simp
 simp only[gQ];rw[if_pos ⟨hg,hl⟩,hF];rfl
def beB:Nat->Int->List UInt8
 |0,_=>[]
 |k+1,n=>UInt8.ofNat ((n.fdiv (2 ^ (8*k))) % 256).toNat::beB k n
theorem beB_len:∀k n,(beB k n).length=k
 |0,_=>rfl
 |k+1,n=>by simp[beB,beB_len k n]
def FQ:D->Bool
 | .int .u8 _=>true
 |_=>false
def grownQ:Summ where
 rd:=λ_ _=>[]
 ex:=λds _ fr=>match ds with
  |[.slice _ _ xs,.int .i64 k]=>if 0<=k∧xs.all FQ=true∧(xs.length:Int)+k<=140737488355328 then some (.slice false (0::fr) xs,[(0::fr,0,[.tok 6])])else none
  |_=>none
def cQ(e:Nat)(wr:D->D)(F:List D->Option (List D×List Nat)):Summ where
 rd:=λ_ _=>[]
 ex:=λds _ fr=>match ds with
  | .slice _ _ xs::rest=>if xs.all FQ=true∧xs.length<=100000000 then(F rest).map λy=>(wr (.slice false (y.2++fr) (xs++y.1)),[(y.2++fr,0,[.tok (e+1)])])else none
  |_=>none
theorem cQ_inv{e:Nat}{wr:D->D}{F:List D->Option (List D×List Nat)}{ds:List D}{m:Mem}{fr:Id}{d:D}{u:Upd}(h:(cQ e wr F).ex ds m fr=some (d,u)):
  ∃nl t xs rest ys l,ds= .slice nl t xs::rest∧xs.all FQ=true∧xs.length<=100000000∧F rest=some (ys,l)∧d=wr (.slice false (l++fr) (xs++ys))∧u=[(l++fr,0,[.tok (e+1)])]:=by
 simp only[cQ]at h;split at h
 ·rename_i nl t xs rest;split at h
  ·rename_i hk;rw[QM]at h;obtain⟨⟨ys,l⟩,hF,h⟩:=h;simp only[QZ]at h;exact⟨nl,t,xs,rest,ys,l,rfl,hk.1,hk.2,hF,h.1.symm,h.2.symm⟩
  ·cases h
 ·cases h
theorem got_c{e:Nat}{wr:D->D}{F:List D->Option (List D×List Nat)}{m:Mem}{fr:Id}{nl:Bool}{t:Id}{xs rest ys:List D}{l:List Nat}{K:D×Upd->Prop}{g}(ha:xs.all FQ=true)(hl:xs.length<=100000000)(hF:F rest=some (ys,l))
  (h:K (wr (.slice false (l++fr) (xs++ys)),[(l++fr,0,[.tok (e+1)])])):Got ((cQ e wr F).ex (.slice nl t xs::rest) m fr) K g:=by
 refine Got.intro ?_ h;simp only[cQ];rw[if_pos ⟨ha,hl⟩,hF];rfl
theorem bytes_all(a:List UInt8):(AI a).all FQ=true:=by
 rw[QS];intro x hx;obtain⟨c,_,rfl⟩:=Q0.1 hx;rfl
theorem Gd.finc{e:Nat}{fr:Id}{m0 m:Mem}{t0 t:Id}{c:Nat}(h:Gd e fr m0 true t0 m c t)(hfr:∀i o,fr<:+i->m0 i o=none):∀i o x,Upd.app m0 [(t,0,[.tok (e+1)])] i o=some x->m i o=some x:=
 h.fin (emp:=true) (xs:=[]) hfr (by unfold BG;rfl)
theorem grown_ex{m:Mem}{fr:Id}{nl:Bool}{t:Id}{xs:List D}{k:Int}(hk:0<=k)(ha:xs.all FQ=true)(hl:(xs.length:Int)+k<=140737488355328):grownQ.ex [.slice nl t xs,.int .i64 k] m fr=some (.slice false (0::fr) xs,[(0::fr,0,[.tok 6])]):=by
 simp only[grownQ];exact if_pos ⟨hk,ha,hl⟩
theorem u64_small{n:Int}(h:0<=n)(h':n<18446744073709551616):IntKind.u64.wrap n=n:=by
 have:IntKind.u64.wrap n=n % 18446744073709551616:=by simp[IntKind.wrap,IntKind.bits,IntKind.signed]
 rw[this];omega
def rowW(d:D):D:= .tup [d,.int .i64 0]
end Go.Vd
namespace Go.Vd
open Go.Proofs Go.RowKit
def rowB(s:Bs):Bs:=beB 2 s.length++s
def mtB(m:Mt):Bs:=rowB m.1++[UInt8.ofNat (m.2.1 % 256).toNat,if m.2.2 then 1 else 0]
def E5(l:List Mt):Bs:=l.flatMap mtB
theorem rowB_len(s:Bs):(rowB s).length=2+s.length:=by simp[rowB,beB_len]
theorem mtB_len(m:Mt):(mtB m).length=4+m.1.length:=by simp[mtB,rowB_len];omega
theorem tabB_take{l:List Mt}{j:Nat}(h:j<l.length):E5 (l.take (j+1))=E5 (l.take j)++mtB (Bk l j):=by
 have e:Bk l j=l[j]:=by simp[Bk,Qc h]
 rw[e,E5,E5,←List.take_append_getElem h,List.flatMap_append];simp
theorem mtAt_mem{l:List Mt}{j:Nat}(h:j<l.length):Bk l j∈l:=by simp[Bk,Qc h]
theorem tabB_le{l:List Mt}(h:MsOk l):∀j,j<=l.length->(E5 (l.take j)).length<=1004*j
 |0,_=>by simp[E5]
 |j+1,hj=>by
  have h1:=tabB_le h j (by omega);have h2:=h.2 _ (mtAt_mem (show j<l.length by omega));rw[tabB_take (by omega),Qm,mtB_len];omega
end Go.Vd
namespace Go.Vd
open Go.Proofs
def dc126l0:DC:=(sr [bt 11 .lss 10 9] (.seq (cd 11 .skip (.exit 0)) (.seq (.block 1 (sr [ii 12 3 8 10,lk 13 3 12,oo 5 (.alloc [(.str []),(.int .i64 0),(.bool false)]),oz (.store 3 (.t 5) (.t 13))] (sr [mm 15 3,ff 16 0 5,ll 17 16,cc 18 231 [(.t 15),(.t 17)],mm 14 18,xx 19 0 14,xx 20 1 14,mm 3 19] (sr [oo 6 (.mv (.c (.int .u8 0)))] (.seq (sr [ff 21 1 5,ff 22 1 21,ll 23 22] (cd 23 (.row [oo 6 (.mv (.c (.int .u8 1)))]) .skip)) (.row [mm 24 3,ff 25 1 5,ff 26 0 25,ll 27 26,oo 28 (.conv .u8 (.t 27)),mm 29 6,oo 30 (.bslice 5 1 [(.t 28),(.t 29)]),oo 31 (.app 5 1 1 (.t 24) (.t 30)),mm 3 31])))))) (.row [bi 32 .add 10 1,mm 10 32]))))
def dc126:DC:=(sr [oo 1 (.box (.t 0)),oo 2 (.mv (.c (.str [])))] (sr [oo 3 (.mv (.c (.slice true [] [])))] (.seq (sr [ff 7 0 1,ll 8 7,nn 9 false 8,ci 10 0] (.block 0 (.loop dc126l0))) (sr [mm 33 3,oo 34 (.b2s (.t 33)),mm 2 34] .ret))))
theorem fn126:Fn Qb 126 35 dc126 [.t 2]:=Am func126
def dc231:DC:=(sr [oo 4 (.mv (.c (.slice true [] []))),ci 5 0] (.seq (sr [mm 7 1,nn 8 true 7,bi 9 .gtr 8 65535] (cd 9 (sr [oo 4 (.mv (.c (.slice true [] []))),ci 5 5] .ret) .skip)) (sr [mm 10 0,mm 11 1,nn 12 true 11,oo 13 (.bin .add (.c (.int .i64 2)) (.t 12)),cc 14 327 [(.t 10),(.t 13)],mm 15 1,nn 16 true 15,oo 17 (.conv .u64 (.t 16)),cc 18 326 [(.t 14),(.c (.int .i64 2)),(.t 17)],mm 6 18] (sr [mm 19 6,mm 20 1,oo 21 (.app 5 1 1 (.t 19) (.t 20)),mm 4 21,ci 5 0] .ret))))
theorem fn231:Fn Qb 231 22 dc231 [.t 4,.t 5]:=Am func231
def dc326l0:DC:=(.seq (sr [mm 11 7,bi 12 .geq 11 0] (cd 12 .skip (.exit 0))) (.seq (.block 1 (.row [mm 15 0,mm 16 2,mm 17 7,bt 18 .shr 16 17,oo 19 (.conv .u8 (.t 18)),oo 20 (.bslice 5 1 [(.t 19)]),oo 21 (.app 5 1 1 (.t 15) (.t 20)),mm 0 21])) (.row [mm 13 7,bi 14 .sub 13 8,mm 7 14])))
def dc326:DC:=(sr [oo 6 (.mv (.c (.slice true [] [])))] (.seq (sr [mm 8 1,bi 9 .sub 8 1,oo 10 (.bin .mul (.c (.int .i64 8)) (.t 9)),mm 7 10] (.block 0 (.loop dc326l0))) (sr [mm 22 0,mm 6 22] .ret)))
theorem fn326:Fn Qb 326 23 dc326 [.t 6]:=Am func326
end Go.Vd
namespace Go.Vd
open Go.Proofs Go.RowKit
def F326:List D->Option (List D×List Nat)
 |[.int .i64 s,.int .u64 n]=>if 1<=s∧s<=8∧0<=n then some (AI (beB s.toNat n),[13*s.toNat])else none
 |_=>none
set_option maxHeartbeats 1000000 in
theorem loop326{S:Summs}{fr:Id}{m0:Mem}{nl0:Bool}{t0:Id}{emp:Bool}{n:Int}{sz:Nat}{Q:Ex->St->Prop}(hsz:sz<=8)(hn0:0<=n)(hfr:∀i o,fr<:+i->m0 i o=none)(hg0:BG m0 5 nl0 t0 emp=true):
  ∀(k:Nat)(st:St)(nl:Bool)(t:Id)(xs:List D) g,k<=sz->xs.length+k<=200000000->(nl=true->xs=[])->st.c=5+13*(sz-k)->Gs 5 fr m0 nl0 t0 st.m st.c nl t->
   st.s 7= .int .i64 (8*(k:Int)-8)->st.s 0= .slice nl t xs->st.s 2= .int .u64 n->
   (∀st' nl' t',st'.s 0= .slice nl' t' (xs++AI (beB k n))->(k=0->nl'=nl∧t'=t∧st'.m=st.m∧st.c<=st'.c)->(0<k->nl'=false∧t'=[13*sz]++fr∧Gd 5 fr m0 nl0 t0 st'.m st'.c t')->Q (.exit 0) st')->A6 S fr dc326l0 Q st g:=by
 intro k;induction k with
 |zero=>
  intro st nl t xs g _ _ _ _ hG h7 h0 h2 hexit;refine Af dc326l0.eq_1 ?_;have hn:((0:Int)<=8*((0:Nat):Int)-8)=False:=eq_false (by decide);simp only[↓go1,go2,go4,reduceIte,simprocAttr,h7,hn];exact hexit _ nl t (by simp only[↓go1,reduceIte,Qw,h0,beB,AI,QE,List.append_nil]) (λ_=>⟨rfl,rfl,rfl,by simp only;omega⟩) (λh=>absurd h (by omega))
 |succ k ih=>
  intro st nl t xs g hk hlen hnil hc hG h7 h0 h2 hexit;refine Af dc326l0.eq_1 ?_;have hn:((0:Int)<=8*((k+1:Nat):Int)-8)=True:=eq_true (by omega);have hb:((0:Int)<=8*((k+1:Nat):Int)-8):=by omega
  have hmin:min (8*((k+1:Nat):Int)-8).toNat IntKind.u64.bits=8*k:=by
   have:IntKind.u64.bits=64:=rfl;omega
  have hw:IntKind.i64.wrap (8*((k+1:Nat):Int)-8-8)=8*(k:Int)-8:=by rw[IntWalk.i64_in _ ⟨by omega,by omega⟩];omega
  simp only[↓go1,gB3,reduceIte,simprocAttr,Qn,QT,h7,h0,h2,hn,hmin,u8_wrap,and_false];refine An.intro ⟨by omega,rfl,Gs.grow (hG.put (l:=[]) (k:=st.c+2+5) (by omega)) hfr hg0⟩ ?_;rw[BK hnil];simp only[↓go1,gB3,reduceIte,simprocAttr,h7,hw];have hd:Gd 5 fr m0 nl0 t0 (Upd.app (st.m.put ((st.c+2+5)::fr) 0 [D.tok 6]) (Be 5 ((st.c+2+6)::fr) (.slice nl t xs))) (st.c+2+8+3) ((st.c+2+6)::fr):=
   Gs.app (l:=[]) (hG.put (l:=[]) (k:=st.c+2+5) (by omega)) (by omega) (by omega)
  refine ih _ false ((st.c+2+6)::fr) (xs++[.int .u8 ((((n.fdiv (2 ^ (8*k))) % 256).toNat:Nat):Int)]) _ (by omega) (by simp;omega) (by simp) (by simp only;omega) hd.gs rfl rfl h2 (λst' nl' t' e1 e2 e3=>?_);refine hexit st' nl' t' ?_ (λh=>absurd h (by omega)) (λ_=>?_)
  ·rw[e1,QL];simp only[beB,AI,Qp];rw[toNat_ofNat (by omega)];rfl
  ·by_cases hk0:k=0
   ·obtain⟨a,b,c,d⟩:=e2 hk0;refine⟨a,?_,?_⟩
    ·rw[b];simp only[List.cons_append,QR,Qa,and_true];omega
    ·rw[b,c];exact hd.more d
   ·exact e3 (by omega)
theorem ok326:(gQ 5 F326).ok Qb 326:=by
 refine opn_ok2 (S:=λ_=>none) AL fn326 gQ_loc (λds m fr d u h hfr=>?_);obtain⟨nl,t,xs,rest,ys,l,rfl,hg,hx,hF,rfl,rfl⟩:=gQ_inv h;unfold F326 at hF;split at hF
 ·rename_i s n;split at hF
  ·rename_i hc;obtain⟨hc1,hc2,hc3⟩:=hc;simp only[QO,QZ]at hF;obtain⟨rfl,rfl⟩:=hF;refine⟨by simp,?_⟩;clear h;have hs:((s.toNat:Nat):Int)=s:=QX (by omega);have w1:IntKind.i64.wrap (s-1)=s-1:=IntWalk.i64_in _ ⟨by omega,by omega⟩;have w2:IntKind.i64.wrap (8*(s-1))=8*(s.toNat:Int)-8:=by rw[IntWalk.i64_in _ ⟨by omega,by omega⟩];omega
   unfold dc326;simp only[↓go1,go2,reduceIte,simprocAttr,w1,w2];refine loop326 (sz:=s.toNat) (by omega) hc3 hfr hg s.toNat _ nl t xs _ (by omega) (by omega) (λh=>?_) (by simp only;omega) Gs.start rfl rfl rfl (λst nl' t' e1 _ e3=>?_)
   ·subst h;unfold BG at hg;rw[if_pos rfl,Q7]at hg;exact hg
   ·obtain⟨rfl,rfl,hd⟩:=e3 (by omega);simp only[↓go1,go2,go4,reduceIte,simprocAttr,e1];exact hd.fin hfr hg
  ·cases hF
 ·cases hF
def F231:List D->Option (List D×List Nat)
 |[.str s]=>if s.length<=65535 then some (AI (beB 2 s.length++s),[17])else none
 |_=>none
set_option maxHeartbeats 1000000 in
theorem ok231(h327:grownQ.ok Qb 327):(cQ 5 rowW F231).ok Qb 231:=by
 have hS:Summs.ok Qb (AF [(327,grownQ),(326,gQ 5 F326)]):=Ab h327 (Ab (ok326) Ad);have s327:AF [(327,grownQ),(326,gQ 5 F326)] 327=some grownQ:=rfl;have s326:AF [(327,grownQ),(326,gQ 5 F326)] 326=some (gQ 5 F326):=rfl;generalize AF [(327,grownQ),(326,gQ 5 F326)]=S at hS s327 s326;refine opn_ok2 (S:=S) hS fn231 (λds m m' fr _=>rfl) (λds m fr d u h hfr=>?_);obtain⟨nl,t,xs,rest,ys,l,rfl,ha,hx,hF,rfl,rfl⟩:=cQ_inv h;unfold F231 at hF;split at hF
 ·rename_i s;split at hF
  ·rename_i hc;simp only[QO,QZ]at hF;obtain⟨rfl,rfl⟩:=hF;refine⟨by simp,?_⟩;clear h;have g1:((65535:Int)<(s.length:Int))=False:=eq_false (by omega);have w1:IntKind.i64.wrap (2+(s.length:Int))=2+(s.length:Int):=IntWalk.i64_in _ ⟨by omega,by omega⟩;have w2:IntKind.u64.wrap (s.length:Int)=(s.length:Int):=u64_small (by omega) (by omega);have f326:F326 [.int .i64 2,.int .u64 (s.length:Int)]=some (AI (beB 2 s.length),[26]):=by
    show(if(1:Int)<=2∧(2:Int)<=8∧0<=(s.length:Int)then some (AI (beB (2:Int).toNat (s.length:Int)),[13*(2:Int).toNat])else none)=_;rw[if_pos ⟨by omega,by omega,by omega⟩];rfl
   have g327:∀m fr,grownQ.ex [.slice nl t xs,.int .i64 (2+(s.length:Int))] m fr=some (.slice false (0::fr) xs,[(0::fr,0,[.tok 6])]):=λm fr=>grown_ex (by omega) ha (by omega)
   unfold dc231;simp only[↓go1,go2,go4,reduceIte,simprocAttr,Ah s327,Ah s326,g327,g1,w1,w2];have hd:Gd 5 fr m true [] (m.put ([0]++9::fr) 0 [.tok 6]) 10 ([0]++9::fr):=
    ⟨⟨[0],9,rfl,by omega⟩,by rw[Bq,if_pos ⟨rfl,rfl⟩],λi o hi=>out_put i o hi⟩
   refine got_g (.inr ⟨hd.tok,by simp⟩) (by simp) hx f326 ?_;have hd2:Gd 5 fr m true [] (Upd.app (m.put (0::9::fr) 0 [.tok 6]) (Be 5 ([26]++13::fr) (.slice false (0::9::fr) xs))) 14 ([26]++13::fr):=
    Gs.app (l:=[26]) (k:=13) hd.gs (by omega) (by omega)
   simp only[↓go1,go2,reduceIte,simprocAttr,false_and,Ct];refine An.intro ⟨by simp only[Qm,Ct,beB_len];omega,?_,.inr ⟨hd2.tok,by simp⟩⟩ ?_
   ·cases s<;>rfl
   simp only[↓go1,go2,reduceIte,simprocAttr];refine⟨by rw[FV,QL];rfl,?_⟩;exact(Gs.app (c':=18) (l:=[]) (k:=17) hd2.gs (by omega) (by omega)).finc hfr
  ·cases hF
 ·cases hF
set_option maxRecDepth 20000 in
theorem walk327(w:World)(sp:Option Addr)(n c k:Nat)(cs:List Value)(hl:cs.length=n)(h1:∀v∈cs,v.oneCell'=true)(hk:n+k<=140737488355328)
  (hsrc:0<n->∃ad,sp=some ad∧∀(j:Nat) v,cs[j]?=some v->w.cell? (ad.add j)=some v):
  Calls Qb 327 #[.slice sp n c,.int .i64 (k:Int)] w λe w'=>e= .returned (.slice (some ⟨w.heap.size,0,none⟩) n (n+k))∧w'=(w.alloc (.cells (madeCells #[.int .u8 0] (n+k)) 5)).setRow w.heap.size (cs++(madeCells #[.int .u8 0] (n+k)).toList.drop n).toArray:=by
 have hw:IntKind.i64.wrap ((n:Int)+(k:Int))=(n:Int)+(k:Int):=IntWalk.i64_in _ ⟨by omega,by omega⟩;have hmk:∀u:World,(Instr.makeSlice 264 (.int .i64 (n:Int)) (.int .i64 ((n:Int)+(k:Int)))).run Qb u= .ok (.slice (some ⟨u.heap.size,0,none⟩) n (n+k)) (u.alloc (.cells (madeCells #[.int .u8 0] (n+k)) 5)):=λu=>by
  have e1:((n:Int)+(k:Int)).toNat=n+k:=by omega
  have:=run_make (P:=Qb) u 264 5 t5 (.int .u8 0) underlying264 (by kernel_rfl) (by kernel_rfl) .i64 .i64 (n:Int) ((n:Int)+(k:Int)) (by omega) (by omega) (by show((1:Nat):Int)*_<=_;omega) (by omega);simpa[show t5.size=1 from rfl,Value.cells,e1]using this
 have hcp:(Builtin.copy_ #[264,264] 3 #[.slice (some ⟨w.heap.size,0,none⟩) n (n+k),.slice sp n c]).run Qb (w.alloc (.cells (madeCells #[.int .u8 0] (n+k)) 5))= .ok (goInt n) ((w.alloc (.cells (madeCells #[.int .u8 0] (n+k)) 5)).setRow w.heap.size (cs++(madeCells #[.int .u8 0] (n+k)).toList.drop n).toArray):=by
  have hg:(w.alloc (.cells (madeCells #[.int .u8 0] (n+k)) 5)).heap[w.heap.size]?=some (.cells (madeCells #[.int .u8 0] (n+k)) 5 (0,0)):=heap_alloc_new w _;rcases Zi n with h0|h0
  ·have hc0:cs=[]:=Zb (by omega);subst hc0;have:=run_copy_none (P:=Qb) (w.alloc (.cells (madeCells #[.int .u8 0] (n+k)) 5)) 264 264 3 5 (some ⟨w.heap.size,0,none⟩) sp n (n+k) n c underlying264 (by kernel_rfl) (by rw[h0];rfl);rw[this,h0];simp only[QR,Qx,Array.toArray_toList];rw[setRow_self _ _ _ 5 (0,0) (by rw[h0]at hg;exact hg)];rfl
  ·obtain⟨ad,rfl,hs⟩:=hsrc h0;have:=run_copy_row (P:=Qb) (w.alloc (.cells (madeCells #[.int .u8 0] (n+k)) 5)) 264 264 3 5 w.heap.size 0 n (n+k) ad n c (madeCells #[.int .u8 0] (n+k)) 5 cs underlying264 (by kernel_rfl) hg (by rw[hl];simp) (λj v hv=>by rw[World.cell?_alloc_old _ _ _ (Nat.ne_of_lt (World.block_lt_of_cell? _ _ (hs j v hv)))];exact hs j v hv) (by simp[madeCells];omega) h1;rw[this,hl];simp[]
 go_enter func327,ntmps327
 go_wp2
 go_ret
 exact⟨rfl,rfl⟩
theorem alloc_setRow(w:World)(a b:Array Value)(e:TypeId):(w.alloc (.cells a e)).setRow w.heap.size b=w.alloc (.cells b e):=by
 have h:∀(F:Obj->Obj),(w.heap.push (.cells a e)).modify w.heap.size F=w.heap.push (F (.cells a e)):=by
  intro F;apply Array.ext_getElem?;intro i;rw[Array.getElem?_modify];by_cases hi:w.heap.size=i
  ·subst hi;simp
  ·rw[if_neg hi];rcases Nat.lt_or_ge i w.heap.size with hlt|hge
   ·simp[Zr,Ne.symm hi]
   ·simp[Zr,show i≠w.heap.size from Ne.symm hi]
 unfold World.setRow World.alloc;simp only[h]
theorem ok327:grownQ.ok Qb 327:=by
 refine⟨⟨f327,func327,rfl,by kernel_rfl⟩,λds m m' fr _=>rfl,?_⟩;intro B w0 w m g fr ds vs r u hi hfresh hl hrep hex;simp only[grownQ]at hex;split at hex
 ·rename_i nl t xs k;split at hex
  ·rename_i hc;obtain⟨hk0,hall,hk⟩:=hc;simp only[QO,QZ]at hex;obtain⟨rfl,rfl⟩:=hex
   match vs,hl with
   |[v0,v1],_=>
    have hr0:=hrep 0 _ v0 rfl rfl;have hr1:=(hrep 1 _ v1 rfl rfl).int_inv;subst hr1;have hcell:∀d∈xs,d.cells.length=1∧d.calm=true:=by
     intro d hd;have:=QS.1 hall d hd;unfold FQ at this;split at this
     ·exact⟨rfl,rfl⟩
     ·cases this
    obtain⟨sp,c,cs,e0,hcl,hreps,hsrc⟩:∃(sp:Option Addr)(c:Nat)(cs:List Value),v0= .slice sp xs.length c∧cs.length=xs.length∧A1 w g (flat xs) cs∧
      (0<xs.length->∃ad,sp=some ad∧∀(j:Nat) v,cs[j]?=some v->w.cell? (ad.add j)=some v):=by
     cases nl with
     |true=>
      rcases hr0.slice_inv with ⟨_,rfl,e⟩|⟨h,_⟩
      ·exact⟨none,0,[],e,rfl,A1.nil w g,λh=>by simp at h⟩
      ·cases h
     |false=>
      obtain⟨ad,n,c,sz,ws,ev,hn,hnc,hsz,hwl,hrp,hcl,_⟩:=hr0.slice_list;subst hn;refine⟨some ad,c,ws,ev,?_,hrp,λ_=>⟨ad,rfl,hcl⟩⟩;rw[hwl];cases xs with
      |nil=>simp
      |cons x r=>
       have h1:=hsz x (QN ..);rw[(hcell x (QN ..)).1]at h1;rw[←h1,Nat.mul_one]
    subst e0;have hkn:((k.toNat:Nat):Int)=k:=QX hk0;have hw:=walk327 w sp xs.length c k.toNat cs hcl hreps.2.1 (by omega) hsrc;rw[hkn]at hw;refine hw.mono ?_;rintro e w' ⟨rfl,rfl⟩;rw[alloc_setRow];have hsz:(cs++(madeCells #[Value.int .u8 0] (xs.length+k.toNat)).toList.drop xs.length).toArray.size=(xs.length+k.toNat)*1:=by simp[madeCells,hcl]
    have hinfo:∃ti z,Tryz.prog.info? 5=some ti∧ti.size=1∧ti.zero=some z∧z.cells.size=1:=⟨t5,.int .u8 0,by kernel_rfl,by kernel_rfl,by kernel_rfl,by kernel_rfl⟩;have hf0:=hfresh (0::fr) (Zl 0 fr);have hinv:=hi.newTok hf0 (e:=5) (n:=xs.length) (c:=xs.length+k.toNat) (sz:=1) (cur:=(cs++(madeCells #[Value.int .u8 0] (xs.length+k.toNat)).toList.drop xs.length).toArray) (by decide) hinfo (by omega) (by unfold maxLen;omega) hsz;have hext:=Ext.newTok (w:=w) (t:=0::fr) (n:=xs.length) (c:=xs.length+k.toNat) (sz:=1) (Obj.cells (cs++(madeCells #[Value.int .u8 0] (xs.length+k.toNat)).toList.drop xs.length).toArray 5) hi.gz hf0.2.2 rfl;refine⟨_,_,rfl,hinv,hext,?_,λi hf hn=>Cx hf (λh=>hn ((Zl 0 fr).trans h)) _ _ _ _ _⟩;refine Rep.ofRow (sz:=1) (cur:=(cs++(madeCells #[Value.int .u8 0] (xs.length+k.toNat)).toList.drop xs.length).toArray) (T:=5) (fz:=(0,0)) (heap_alloc_new w _) rfl (by omega) (λd hd=>(hcell d hd).1) (hreps.ext hext) (λj v hv=>?_) (by simp[Gh.tok]) (λ_=>by simp[Gh.tok]) (λd hd=>(hcell d hd).2);rw[List.getElem?_toArray,Qs (Qk.1 hv).1];exact hv
  ·cases hex
 ·cases hex
theorem sl_of{d:D}{n:Bool}{t:Id}{xs ys:List D}(h:d= .slice n t xs)(e:xs=ys):d= .slice n t ys:=e▸h
theorem loop126{S:Summs}(s231:S 231=some (cQ 5 rowW F231)){l:List Mt}{nl:Bool}{Q:Ex->St->Prop}(hl:MsOk l)
  (hexit:∀st n t,st.s 3= .slice n t (AI (E5 l))->Q (.exit 0) st):
  ∀(f j:Nat)(n:Bool)(t:Id)(st:St) g,l.length=j+f->st.s 3= .slice n t (AI (E5 (l.take j)))->st.s 8= .slice nl [] (Ar l)->st.s 9= .int .i64 (l.length:Int)->st.s 10= .int .i64 (j:Int)->A6 S [] dc126l0 Q st g:=by
 intro f;induction f with
 |zero=>
  intro j n t st g hf h3 h8 h9 h10;refine Af dc126l0.eq_1 ?_;have:¬((j:Int)<l.length):=by omega
  simp only[↓go1,go2,go4,reduceIte,QI,h9,h10,this];rw[Qt (by omega)]at h3;exact hexit _ n t h3
 |succ f ih=>
  intro j n t st g hf h3 h8 h9 h10;refine Af dc126l0.eq_1 ?_;have hj:j<l.length:=by omega
  have hlt:((j:Int)<l.length):=by omega
  have hj0:(0:Int)<=(j:Int):=by omega
  have hl0:=hl.1;have hb:=tabB_le hl j (by omega);have hp:=hl.2 _ (mtAt_mem hj);have hw:IntKind.i64.wrap ((j:Int)+1)=((j+1:Nat):Int):=w64 (by omega) (by omega);have hat:(Ar l)[j]?=some (.agg [.str (Bk l j).1,.int .i64 (Bk l j).2.1,.bool (Bk l j).2.2]):=mtsD_at hj;have htk:=tabB_take hj;generalize Bk l j=m at hat hp htk;obtain⟨p,k,b⟩:=m;simp only at hp hat;have hF:F231 [.str p]=some (AI (rowB p),[17]):=if_pos (by omega);obtain⟨st_s,st_m,st_c⟩:=st;simp only at h3 h8 h9 h10;cases b with
  |true=>
   simp only[↓go1,gB0,reduceIte,simprocAttr,h8,h9,h10,h3,hlt,hj0,Qj,hat,Ah s231,Ag,Ao,Ap,Qg,Qo,Qy,Qe];refine got_c (bytes_all _) (by rw[Ct];omega) hF ?_;simp only[↓go1,gB0,reduceIte,simprocAttr,rowW,h3,and_false,u8_wrap,Ag,and_false];refine An.intro ⟨by simp only[Qm,Ct,rowB_len];omega,rfl,.inr ⟨by simp[Bq],by simp⟩⟩ ?_;simp only[↓go1,gB3,reduceIte,simprocAttr,h10,hw];refine ih (j+1) false _ _ _ (by omega) (sl_of rfl ?_) h8 h9 rfl;rw[htk];simp only[mtB,FV,QL];simp only[AI,Qp,QE];rw[toNat_ofNat (by omega)];rfl
  |false=>
   simp only[↓go1,gB0,reduceIte,simprocAttr,h8,h9,h10,h3,hlt,hj0,Qj,hat,Ah s231,Ag,Ao,Ap,Qg,Qo,Qy,Qe];refine got_c (bytes_all _) (by rw[Ct];omega) hF ?_;simp only[↓go1,gB0,reduceIte,simprocAttr,rowW,h3,and_false,u8_wrap,Ag,and_false];refine An.intro ⟨by simp only[Qm,Ct,rowB_len];omega,rfl,.inr ⟨by simp[Bq],by simp⟩⟩ ?_;simp only[↓go1,gB3,reduceIte,simprocAttr,h10,hw];refine ih (j+1) false _ _ _ (by omega) (sl_of rfl ?_) h8 h9 rfl;rw[htk];simp only[mtB,FV,QL];simp only[AI,Qp,QE];rw[toNat_ofNat (by omega)];rfl
def mk126(p:Bool×List Mt):List D:=[.agg [.slice p.1 [] (Ar p.2)]]
theorem mk126_inj(x y:Bool×List Mt)(e:mk126 x=mk126 y):x=y:=by
 simp only[mk126,Qa,D.agg.injEq,D.slice.injEq,true_and,and_true]at e;exact Q3 e.1 (mtsD_inj e.2)
def F126:List D->Option D:=FX mk126 (λp=>MsOk p.2) (λp=> .str (E5 p.2))
theorem F126_eq{n:Bool}{l:List Mt}(h:MsOk l):F126 [.agg [.slice n [] (Ar l)]]=some (.str (E5 l)):=BA (mk:=mk126) (a:=(n,l)) mk126_inj h
theorem ok126:(Ac F126).ok Qb 126:=by
 obtain⟨S,hS,hl⟩:=A5 (Ab (ok231 ok327) Ad);have s231:=hl 231 _ rfl;clear hl;refine BI hS fn126 (λ_=>by simp[mk126]) (λp hp=>?_);obtain⟨n,l⟩:=p;have hl:MsOk l:=hp;unfold dc126 mk126;simp only[↓go1,gB2,reduceIte,simprocAttr,Aw,Ag,Ql,QJ,Qh,and_self];refine loop126 s231 hl (λst n' t' e=>?_) l.length 0 true [] _ _ (by omega) rfl rfl rfl rfl;simp only[↓go1,go2,go3,reduceIte,simprocAttr,e,b2sV,DF,and_self]
end Go.Vd
namespace Go.Vd
open Go.RowKit
section
variable{P:Program}{B:Nat}{w0:World}{N:Nat}{S:Summs}
end
end Go.Vd
namespace Go.Vd
open Go.Proofs Go.RowKit
section
variable{S:Summs}{l:List Mt}{n1:Bool}{j:Nat}{st:St}{n:Bool}{t:Id}{bs:Bs}
end
end Go.Vd
namespace Go.Vd
open Go.Proofs
def dc384:DC:=(sr [oo 1 (.box (.t 0)),cb 2 false] (sr [ff 3 1 1,ll 4 3,bi 5 .geq 4 0,mm 6 5,og 7 (.faddr 1 (.t 1)) 3 true,og 8 (.load none (.t 7)) 3 true,og 9 (.faddr 0 (.t 1)) 3 true,og 10 (.load none (.t 9)) 3 true,og 11 (.len true (.t 10)) 3 true,og 12 (.bin .leq (.t 8) (.t 11)) 3 true,oo 13 (.pick (.t 6) (.t 12) (.c (.bool false))),mm 2 13] .ret))
theorem fn384:Fn Qb 384 14 dc384 [.t 2]:=Am func384
def dc385:DC:=(sr [oo 1 (.box (.t 0)),ci 2 0] (sr [ff 3 0 1,ll 4 3,nn 5 true 4,ff 6 1 1,ll 7 6,bt 8 .sub 5 7,mm 2 8] .ret))
theorem fn385:Fn Qb 385 9 dc385 [.t 2]:=Am func385
def dc404:DC:=(sr [cb 2 false] (sr [mm 3 0,bi 4 .geq 3 1,mm 5 4,og 6 (.mv (.t 0)) 2 true,og 7 (.bin .leq (.t 6) (.c (.int .i64 8))) 2 true,oo 8 (.pick (.t 5) (.t 7) (.c (.bool false))),mm 2 8] .ret))
theorem fn404:Fn Qb 404 9 dc404 [.t 2]:=Am func404
def dc405:DC:=(sr [oo 2 (.box (.t 0)),oo 4 (.alloc [(.str []),(.int .i64 0),(.int .i64 0)])] (sr [mm 5 1,ff 6 2 2,oz (.store 1 (.t 6) (.t 5))] (sr [lk 7 3 2,oz (.store 3 (.t 4) (.t 7))] .ret)))
theorem fn405:Fn Qb 405 8 dc405 [.cell (some 3) 4]:=Am func405
def dc383l0:DC:=(sr [bt 44 .lss 43 42] (.seq (cd 44 .skip (.exit 1)) (.seq (.block 2 (sr [ii 45 1 41 43,ll 46 45,mm 8 46] (.row [mm 47 6,oo 48 (.bin .shl (.t 47) (.c (.int .u64 8))),mm 49 8,oo 50 (.conv .u64 (.t 49)),bt 51 .or 48 50,mm 6 51]))) (.row [bi 52 .add 43 1,mm 43 52]))))
def dc383:DC:=(sr [oo 2 (.box (.t 0)),oo 4 (.mv (.c (.int .u64 0))),oo 5 (.alloc [(.str []),(.int .i64 0),(.int .i64 0)])] (.seq (.block 0 (sr [ff 10 2 2,ll 11 10,bi 12 .neq 11 0,mm 9 12] (cd 9 (.seq (.drawn [lk 13 3 2,oo 4 (.mv (.c (.int .u64 0))),oz (.store 3 (.t 5) (.t 13))] []) .ret) (sr [lk 15 3 2,cc 16 384 [(.t 15)],oo 17 (.un .not (.t 16)),mm 18 17,og 19 (.mv (.t 1)) 3 false,og 20 (.call (.c (.fn 404 [])) [(.t 19)]) 3 false,og 21 (.un .not (.t 20)) 3 false,oo 22 (.pick (.t 18) (.c (.bool true)) (.t 21)),mm 14 22] (cd 14 (sr [lk 23 3 2,cc 24 405 [(.t 23),(.c (.int .i64 2))],oo 4 (.mv (.c (.int .u64 0))),oz (.store 3 (.t 5) (.t 24))] .ret) (sr [lk 26 3 2,cc 27 385 [(.t 26)],mm 28 1,bt 29 .lss 27 28,mm 25 29] (cd 25 (sr [lk 30 3 2,cc 31 405 [(.t 30),(.c (.int .i64 3))],oo 4 (.mv (.c (.int .u64 0))),oz (.store 3 (.t 5) (.t 31))] .ret) .skip))))))) (sr [oo 6 (.mv (.c (.int .u64 0)))] (.seq (sr [ff 32 0 2,ll 33 32,ff 34 1 2,ll 35 34,ff 36 1 2,ll 37 36,mm 38 1,bt 39 .add 37 38,oo 40 (.cuts (.t 33) (some (.t 35)) (some (.t 39))),oo 41 (.s2b (.t 40)),nn 42 false 41,ci 43 0] (.block 1 (.loop dc383l0))) (sr [ff 53 1 2,ll 54 53,mm 55 1,bt 56 .add 54 55,ff 57 1 2,oz (.store 1 (.t 57) (.t 56))] (.seq (.drawn [mm 58 6,lk 59 3 2,mm 4 58,oz (.store 3 (.t 5) (.t 59))] []) .ret))))))
theorem fn383:Fn Qb 383 60 dc383 [.t 4,.cell (some 3) 5]:=Am func383
def dc333:DC:=(sr [ci 2 0] (sr [mm 6 0,nk 7 6,lk 8 3 7,cc 9 383 [(.t 8),(.c (.int .i64 1))],mm 5 9,xx 10 0 5,xx 11 1 5,oo 4 (.alloc [(.str []),(.int .i64 0),(.int .i64 0)]),mm 3 10,oz (.store 3 (.t 4) (.t 11))] (sr [mm 12 0,lk 13 3 4,nk 14 12,oz (.store 3 (.t 14) (.t 13))] (sr [mm 15 3,oo 16 (.conv .i64 (.t 15)),mm 2 16] .ret))))
theorem fn333:Fn Qb 333 17 dc333 [.t 2]:=Am func333
def dc334:DC:=(sr [oo 1 (.box (.t 0)),ci 2 0] (.seq (.block 0 (sr [ff 4 2 1,ll 5 4,bi 6 .neq 5 0,mm 3 6] (cd 3 (sr [ff 7 2 1,ll 8 7,mm 2 8] .ret) (sr [lk 10 3 1,cc 11 384 [(.t 10)],oo 12 (.un .not (.t 11)),mm 9 12] (cd 9 (sr [ci 2 2] .ret) (sr [lk 14 3 1,cc 15 385 [(.t 14)],bi 16 .gtr 15 0,mm 13 16] (cd 13 (sr [ci 2 4] .ret) .skip))))))) (sr [ci 2 0] .ret)))
theorem fn334:Fn Qb 334 17 dc334 [.t 2]:=Am func334
def dc240l0:DC:=(sr [bt 30 .lss 29 28] (.seq (cd 30 .skip (.exit 0)) (.seq (.block 1 (sr [mm 31 4,cc 32 333 [(.t 31)],mm 33 4,cc 34 333 [(.t 33)],mm 8 32,mm 9 34] (sr [mm 35 7,mm 36 35,og 37 (.mv (.t 9)) 1 false,og 38 (.bin .gtr (.t 37) (.c (.int .i64 3))) 1 false,oo 39 (.pick (.t 36) (.c (.bool true)) (.t 38)),mm 7 39] (.row [ff 40 3 5,ll 41 40,mm 42 8,mm 43 9,bi 44 .and 43 1,bi 45 .neq 44 0,mm 46 9,bi 47 .and 46 2,bi 48 .neq 47 0,oo 49 (.build [(.int .i64 0),(.bool false),(.bool false)] [(0,1,(.t 42)),(1,1,(.t 45)),(2,1,(.t 48))]),oo 50 (.bslice 228 3 [(.t 49)]),oo 51 (.app 228 3 16 (.t 41) (.t 50)),ff 52 3 5,oz (.store 1 (.t 52) (.t 51))])))) (.row [bi 53 .add 29 1,mm 29 53]))))
def dc240:DC:=(sr [oo 2 (.alloc [(.int .i64 0),(.bool false),(.int .i64 0),(.slice true [] [])]),ci 3 0] (sr [mm 11 0,oo 12 (.build [(.str []),(.int .i64 0),(.int .i64 0)] [(0,1,(.t 11))]),oo 13 (.box (.t 12)),mm 4 13] (sr [mm 14 4,cc 15 333 [(.t 14)],oo 16 (.build [(.int .i64 0),(.bool false),(.int .i64 0),(.slice true [] [])] [(0,1,(.t 15))]),oo 5 (.alloc [(.int .i64 0),(.bool false),(.int .i64 0),(.slice true [] [])]),oz (.store 4 (.t 5) (.t 16))] (sr [mm 17 4,cc 18 333 [(.t 17)],mm 6 18] (sr [mm 19 6,bi 20 .eql 19 1,mm 21 4,cc 22 333 [(.t 21)],ff 23 1 5,oz (.store 1 (.t 23) (.t 20)),ff 24 2 5,oz (.store 1 (.t 24) (.t 22))] (sr [mm 25 6,bi 26 .gtr 25 1,mm 7 26] (.seq (sr [mm 27 4,cc 28 333 [(.t 27)],ci 29 0] (.block 0 (.loop dc240l0))) (.seq (sr [mm 54 4,nk 55 54,lk 56 3 55,cc 57 334 [(.t 56)],mm 10 57] (.block 2 (sr [mm 59 10,bi 60 .eql 59 3,mm 58 60] (cd 58 (sr [oo 61 (.build [(.int .i64 0),(.bool false),(.int .i64 0),(.slice true [] [])] []),mm 62 10,oz (.store 4 (.t 2) (.t 61)),mm 3 62] .ret) (.seq (.drawn [mm 64 10,bi 65 .neq 64 0,mm 66 65,og 67 (.mv (.t 7)) 2 false,oo 68 (.pick (.t 66) (.c (.bool true)) (.t 67)),mm 69 68,og 70 (.load (some 4) (.t 5)) 5 false,og 71 (.call (.c (.fn 335 [])) []) 5 false,og 72 (.call (.c (.fn 191 [])) [(.t 70),(.t 71)]) 5 false,og 73 (.bin .neq (.t 72) (.c (.int .i64 0))) 5 false,oo 74 (.pick (.t 69) (.c (.bool true)) (.t 73)),mm 63 74] [(7,6)]) (cd 63 (sr [oo 75 (.build [(.int .i64 0),(.bool false),(.int .i64 0),(.slice true [] [])] []),oz (.store 4 (.t 2) (.t 75)),ci 3 4] .ret) .skip)))))) (sr [lk 76 4 5,oz (.store 4 (.t 2) (.t 76)),ci 3 0] .ret)))))))))
theorem fn240:Fn Qb 240 77 dc240 [.cell (some 4) 2,.t 3]:=Am func240
def dc292l0:DC:=(sr [bt 14 .lss 13 12] (.seq (cd 14 .skip (.exit 0)) (.seq (.block 1 (sr [mm 15 13,mm 5 15] (.seq (.drawn [mm 16 0,mm 17 5,ii 18 1 16 17,ll 19 18,mm 20 1,mm 21 5,ii 22 1 20 21,ll 23 22,bt 24 .neq 19 23] []) (cd 24 (sr [cb 4 false] .ret) .skip)))) (.row [bi 25 .add 13 1,mm 13 25]))))
def dc292:DC:=(sr [cb 4 false] (.seq (sr [mm 6 0,nn 7 false 6,mm 8 1,nn 9 false 8,bt 10 .neq 7 9] (cd 10 (sr [cb 4 false] .ret) .skip)) (.seq (sr [mm 11 0,nn 12 false 11,ci 13 0] (.block 0 (.loop dc292l0))) (sr [cb 4 true] .ret))))
theorem fn292:Fn Qb 292 26 dc292 [.t 4]:=Am func292
def dc359l0:DC:=(sr [bt 14 .lss 13 12] (.seq (cd 14 .skip (.exit 0)) (.seq (.block 1 (sr [mm 15 13,mm 5 15] (.seq (.drawn [mm 16 0,mm 17 5,ii 18 3 16 17,lk 19 3 18,mm 20 1,mm 21 5,ii 22 3 20 21,lk 23 3 22,oo 24 (.seq true [(0,0),(1,1),(1,2)] (.t 19) (.t 23))] []) (cd 24 (sr [cb 4 false] .ret) .skip)))) (.row [bi 25 .add 13 1,mm 13 25]))))
def dc359:DC:=(sr [cb 4 false] (.seq (sr [mm 6 0,nn 7 false 6,mm 8 1,nn 9 false 8,bt 10 .neq 7 9] (cd 10 (sr [cb 4 false] .ret) .skip)) (.seq (sr [mm 11 0,nn 12 false 11,ci 13 0] (.block 0 (.loop dc359l0))) (sr [cb 4 true] .ret))))
theorem fn359:Fn Qb 359 26 dc359 [.t 4]:=Am func359
def dc293:DC:=(sr [oo 2 (.box (.t 0)),oo 3 (.box (.t 1)),cb 4 false] (sr [ff 5 0 2,ll 6 5,ff 7 0 3,ll 8 7,bt 9 .eql 6 8,mm 10 9,og 11 (.faddr 1 (.t 2)) 5 true,og 12 (.load none (.t 11)) 5 true,og 13 (.faddr 1 (.t 3)) 5 true,og 14 (.load none (.t 13)) 5 true,og 15 (.beq false (.t 12) (.t 14)) 5 true,oo 16 (.pick (.t 10) (.t 15) (.c (.bool false))),mm 17 16,og 18 (.faddr 2 (.t 2)) 12 true,og 19 (.load none (.t 18)) 12 true,og 20 (.faddr 2 (.t 3)) 12 true,og 21 (.load none (.t 20)) 12 true,og 22 (.bin .eql (.t 19) (.t 21)) 12 true,oo 23 (.pick (.t 17) (.t 22) (.c (.bool false))),mm 24 23,og 25 (.faddr 3 (.t 2)) 19 true,og 26 (.load none (.t 25)) 19 true,og 27 (.faddr 3 (.t 3)) 19 true,og 28 (.load none (.t 27)) 19 true,og 29 (.call (.c (.fn 359 [])) [(.t 26),(.t 28)]) 19 true,oo 30 (.pick (.t 24) (.t 29) (.c (.bool false))),mm 4 30] .ret))
theorem fn293:Fn Qb 293 31 dc293 [.t 4]:=Am func293
def dc189:DC:=(sr [oo 2 (.box (.t 0)),oo 3 (.box (.t 1)),cb 4 false] (.seq (sr [ff 5 4 2,ll 6 5,ff 7 4 3,ll 8 7,cc 9 292 [(.t 6),(.t 8)],oo 10 (.un .not (.t 9)),mm 11 10,og 12 (.faddr 5 (.t 2)) 6 false,og 13 (.load (some 4) (.t 12)) 6 false,og 14 (.faddr 5 (.t 3)) 6 false,og 15 (.load (some 4) (.t 14)) 6 false,og 16 (.call (.c (.fn 293 [])) [(.t 13),(.t 15)]) 6 false,og 17 (.un .not (.t 16)) 6 false,oo 18 (.pick (.t 11) (.c (.bool true)) (.t 17))] (cd 18 (sr [cb 4 false] .ret) .skip)) (sr [ff 19 0 2,ll 20 19,ff 21 0 3,ll 22 21,bt 23 .eql 20 22,mm 24 23,og 25 (.faddr 1 (.t 2)) 5 true,og 26 (.load none (.t 25)) 5 true,og 27 (.faddr 1 (.t 3)) 5 true,og 28 (.load none (.t 27)) 5 true,og 29 (.bin .eql (.t 26) (.t 28)) 5 true,oo 30 (.pick (.t 24) (.t 29) (.c (.bool false))),mm 31 30,og 32 (.faddr 2 (.t 2)) 12 true,og 33 (.load none (.t 32)) 12 true,og 34 (.faddr 2 (.t 3)) 12 true,og 35 (.load none (.t 34)) 12 true,og 36 (.bin .eql (.t 33) (.t 35)) 12 true,oo 37 (.pick (.t 31) (.t 36) (.c (.bool false))),mm 38 37,og 39 (.faddr 3 (.t 2)) 19 true,og 40 (.load none (.t 39)) 19 true,og 41 (.faddr 3 (.t 3)) 19 true,og 42 (.load none (.t 41)) 19 true,og 43 (.bin .eql (.t 40) (.t 42)) 19 true,oo 44 (.pick (.t 38) (.t 43) (.c (.bool false))),mm 45 44,og 46 (.faddr 9 (.t 2)) 26 true,og 47 (.load none (.t 46)) 26 true,og 48 (.faddr 9 (.t 3)) 26 true,og 49 (.load none (.t 48)) 26 true,og 50 (.beq false (.t 47) (.t 49)) 26 true,oo 51 (.pick (.t 45) (.t 50) (.c (.bool false))),mm 4 51] .ret)))
theorem fn189:Fn Qb 189 52 dc189 [.t 4]:=Am func189
def dc190:DC:=(sr [oo 1 (.box (.t 0)),oo 2 (.alloc [(.int .u8 0),(.int .i64 0),(.int .i64 0),(.str []),(.slice true [] []),(.int .i64 0),(.bool false),(.int .i64 0),(.slice true [] []),(.bool false)])] (.seq (sr [ff 3 0 1,ll 4 3] (.block 0 (sr [oo 6 (.bin .eql (.t 4) (.c (.int .u8 0))),mm 5 6] (cd 5 (sr [ff 7 0 1,ll 8 7,ff 9 1 1,ll 10 9,oo 11 (.build [(.int .u8 0),(.int .i64 0),(.int .i64 0),(.str []),(.slice true [] []),(.int .i64 0),(.bool false),(.int .i64 0),(.slice true [] []),(.bool false)] [(0,1,(.t 8)),(1,1,(.t 10))]),oz (.store 10 (.t 2) (.t 11))] .ret) (sr [oo 13 (.bin .eql (.t 4) (.c (.int .u8 2))),mm 12 13] (cd 12 (sr [ff 14 0 1,ll 15 14,ff 16 2 1,ll 17 16,oo 18 (.build [(.int .u8 0),(.int .i64 0),(.int .i64 0),(.str []),(.slice true [] []),(.int .i64 0),(.bool false),(.int .i64 0),(.slice true [] []),(.bool false)] [(0,1,(.t 15)),(2,1,(.t 17))]),oz (.store 10 (.t 2) (.t 18))] .ret) (sr [oo 20 (.bin .eql (.t 4) (.c (.int .u8 3))),mm 19 20] (cd 19 (sr [ff 21 0 1,ll 22 21,ff 23 2 1,ll 24 23,ff 25 3 1,ll 26 25,oo 27 (.build [(.int .u8 0),(.int .i64 0),(.int .i64 0),(.str []),(.slice true [] []),(.int .i64 0),(.bool false),(.int .i64 0),(.slice true [] []),(.bool false)] [(0,1,(.t 22)),(2,1,(.t 24)),(3,1,(.t 26))]),oz (.store 10 (.t 2) (.t 27))] .ret) (sr [oo 29 (.bin .eql (.t 4) (.c (.int .u8 4))),mm 28 29] (cd 28 (sr [ff 30 0 1,ll 31 30,ff 32 5 1,lk 33 4 32,oo 34 (.build [(.int .u8 0),(.int .i64 0),(.int .i64 0),(.str []),(.slice true [] []),(.int .i64 0),(.bool false),(.int .i64 0),(.slice true [] []),(.bool false)] [(0,1,(.t 31)),(5,4,(.t 33))]),oz (.store 10 (.t 2) (.t 34))] .ret) (sr [oo 36 (.bin .eql (.t 4) (.c (.int .u8 5))),mm 35 36] (cd 35 (sr [ff 37 0 1,ll 38 37,ff 39 4 1,ll 40 39,oo 41 (.build [(.int .u8 0),(.int .i64 0),(.int .i64 0),(.str []),(.slice true [] []),(.int .i64 0),(.bool false),(.int .i64 0),(.slice true [] []),(.bool false)] [(0,1,(.t 38)),(4,1,(.t 40))]),oz (.store 10 (.t 2) (.t 41))] .ret) (sr [oo 43 (.bin .eql (.t 4) (.c (.int .u8 6))),mm 42 43] (cd 42 (sr [ff 44 0 1,ll 45 44,ff 46 9 1,ll 47 46,oo 48 (.build [(.int .u8 0),(.int .i64 0),(.int .i64 0),(.str []),(.slice true [] []),(.int .i64 0),(.bool false),(.int .i64 0),(.slice true [] []),(.bool false)] [(0,1,(.t 45)),(9,1,(.t 47))]),oz (.store 10 (.t 2) (.t 48))] .ret) .skip)))))))))))))) (sr [ff 49 0 1,ll 50 49,oo 51 (.build [(.int .u8 0),(.int .i64 0),(.int .i64 0),(.str []),(.slice true [] []),(.int .i64 0),(.bool false),(.int .i64 0),(.slice true [] []),(.bool false)] [(0,1,(.t 50))]),oz (.store 10 (.t 2) (.t 51))] .ret)))
theorem fn190:Fn Qb 190 52 dc190 [.cell (some 10) 2]:=Am func190
end Go.Vd
namespace Go.Vd
open Go.RowKit
def mQ(n:Nat)(F:List D->List D->Option (D×List D)):Summ where
 rd:=λds _=>match ds with
  | .ptr i 0::_=>Ae i 0 n
  |_=>[]
 ex:=λds m _=>match ds with
  | .ptr i 0::rest=>match Ai m i 0 n with
   |some cs=>(F cs rest).map λy=>(y.1,[(i,0,y.2)])
   |none=>none
  |_=>none
theorem mQ_loc{n:Nat}{F:List D->List D->Option (D×List D)}(ds:List D)(m m':Mem)(fr:Id)(h:∀l∈(mQ n F).rd ds m,m l.1 l.2=m' l.1 l.2):(mQ n F).ex ds m fr=(mQ n F).ex ds m' fr:=by
 simp only[mQ]at h ⊢;split
 ·rename_i i rest;rw[Bu (m:=m) (m':=m') h]
 ·rfl
theorem mQ_run{n:Nat}{F:List D->List D->Option (D×List D)}{i:Id}{m:Mem}{rest:List D}{fr:Id}:(mQ n F).ex (.ptr i 0::rest) m fr=(Ai m i 0 n).bind λcs=>(F cs rest).map λy=>(y.1,[(i,0,y.2)]):=by
 simp only[mQ];cases Ai m i 0 n<;>rfl
theorem mQ_inv{n:Nat}{F:List D->List D->Option (D×List D)}{ds:List D}{m:Mem}{fr:Id}{r:D}{u:Upd}(h:(mQ n F).ex ds m fr=some (r,u)):
  ∃i rest cs cs',ds= .ptr i 0::rest∧Ai m i 0 n=some cs∧F cs rest=some (r,cs')∧u=[(i,0,cs')]:=by
 simp only[mQ]at h;split at h
 ·rename_i i rest;split at h
  ·rename_i cs hcs;rw[QM]at h;obtain⟨y,hF,h⟩:=h;simp only[QZ]at h;obtain⟨rfl,rfl⟩:=h;exact⟨i,rest,cs,y.2,rfl,hcs,hF,rfl⟩
  ·cases h
 ·cases h
section
variable{m m':Mem}{i j:Id}{n o k:Nat}{cs ys:List D}{d:D}{fr:Id}
theorem Bp(h:Ai m i 0 n=some cs)(hd:cs[k]?=some d):m i k=some d:=by
 obtain⟨h1,h2⟩:=BF h;have hk:k<n:=by rw[←h1];exact(Qk.1 hd).1
 have:=h2 k hk;rw[Qi]at this;rw[this,hd]
theorem rd_aux:∀{ds:List D} {m:Mem} {p:Nat},(∀k d,ds[k]?=some d->m i (p+k)=some d)->Ai m i p ds.length=some ds
 |[],m,p,_=>rfl
 |x::r,m,p,h=>by
  have h0:=h 0 x rfl;rw[Zt]at h0;have h1:=rd_aux (ds:=r) (m:=m) (p:=p+1) (λk d hd=>by
   have:=h (k+1) d (by simpa using hd);rw[show p+(k+1)=p+1+k by omega]at this;exact this)
  simp only[Ai,Qn,h0,h1,Zc]
theorem rd_put(h:Ai m i 0 n=some cs)(hk:o+ys.length<=n):Ai (m.put i o ys) i 0 n=some (cs.take o++ys++cs.drop (o+ys.length)):=by
 obtain⟨h1,h2⟩:=BF h;have hl:(cs.take o++ys++cs.drop (o+ys.length)).length=n:=by simp only[Qm,QD,Q2];omega
 have:=rd_aux (i:=i) (m:=m.put i o ys) (p:=0) (ds:=cs.take o++ys++cs.drop (o+ys.length)) (λq d hd=>by
  rw[Qi];simp only[Mem.put];have hto:(cs.take o).length=o:=by rw[QD];omega
  by_cases hq:q<o
  ·have hc:¬(True∧o<=q∧q<o+ys.length):=by omega
   first
    |rw[if_neg (by simp;omega)]
    |skip
   rw[QL,Qs (by omega),List.getElem?_take,if_pos hq]at hd;exact Bp h hd
  ·by_cases hq2:q<o+ys.length
   ·rw[if_pos (by simp;omega)];rw[QL,Qq (by omega),hto,Qs (by omega)]at hd;exact hd
   ·rw[if_neg (by simp;omega)];rw[QL,Qq (by omega),hto,Qq (by omega),List.getElem?_drop]at hd;rw[show o+ys.length+(q-o-ys.length)=q by omega]at hd;exact Bp h hd)
 rw[hl]at this;exact this
def EE(n:Nat)(i:Id)(m m':Mem):Prop:=∀(j:Id)(o:Nat)(x:D),(j≠i∨n<=o)->m j o=some x->m' j o=some x
theorem EE.refl:EE n i m m:=λ_ _ _ _ h=>h
theorem EE.own(h:EE n i m m')(ho:o+ys.length<=n):EE n i m (m'.put i o ys):=λj p x hj hx=>by
 have h1:=h j p x hj hx;simp only[Mem.put];split
 ·rename_i hc;exfalso;rcases hj with hj|hj
  ·exact hj (by first|exact hc.1|(simp at hc;exact hc.1))
  ·omega
 ·exact h1
theorem EE.new(hfr:∀i o,fr<:+i->m i o=none)(l:List Nat)(h:EE n i m m'):EE n i m (m'.put (l++k::fr) o ys):=λj p x hj hx=>by
 have h1:=h j p x hj hx;have hne:j≠l++k::fr:=λe=>by
  rw[e,hfr _ _ ⟨l++[k],by simp⟩]at hx;cases hx
 rw[Mem.put_other hne];exact h1
theorem EE.new0(hfr:∀i o,fr<:+i->m i o=none)(h:EE n i m m'):EE n i m (m'.put (k::fr) o ys):=EE.new hfr [] h
end
theorem m_ok {P : Program} {S : Summs} {f : FuncId} {N : Nat} {dc : DC} {rs : List RV} (hS : Summs.ok P S) (hf : Fn P f N dc rs) {n : Nat} {F : List D → List D → Option (D × List D)} (hn : 0 < n) (hN : ∀ cs rest y, F cs rest = some y → rest.length + 1 ≤ N)
  (h : ∀ (i : Id) (m : Mem) (fr : Id) (cs rest : List D) (r : D) (cs' : List D), Ai m i 0 n = some cs → F cs rest = some (r, cs') → (∀ j o, fr <:+ j → m j o = none) → (∀ k l, (i = l ++ k :: fr) = False) → (∀ k, (i = k :: fr) = False) →
   dc.wp S fr (DE rs fun d m' => d = r ∧ Ai m' i 0 n = some cs' ∧ EE n i m m') ⟨Bx (.ptr i 0 :: rest), m, 0⟩) : (mQ n F).ok P f := by
 refine opn_ok2 hS hf mQ_loc (fun ds m fr r u hex hfr => ?_)
 obtain ⟨i, rest, cs, cs', rfl, hcs, hF, rfl⟩ := mQ_inv hex
 have hi0 : ∃ x, m i 0 = some x := by
  obtain ⟨h1, h2⟩ := BF hcs
  have := h2 0 hn
  rw [Qc (by omega)] at this
  exact ⟨_, this⟩
 obtain ⟨x0, hx0⟩ := hi0
 have hni : ∀ k l, (i = l ++ k :: fr) = False := fun k l => eq_false (fun e => by
  rw [e, hfr _ _ ⟨l ++ [k], by simp⟩] at hx0
  cases hx0)
 refine ⟨hN _ _ _ hF, ?_⟩
 have hw := h i m fr cs rest r cs' hcs hF hfr hni (fun k => hni k [])
 refine wp_mono' hw (fun e st' he => ?_)
 obtain ⟨he1, d, he2, rfl, hc', ho⟩ := he
 refine ⟨he1, d, he2, rfl, fun j o x hx => ?_⟩
 obtain ⟨h1, h2⟩ := BF hc'
 have hx' : (m.put i 0 cs') j o = some x := hx
 by_cases hj : j = i
 ·subst hj
  by_cases ho' : o < n
  ·have := h2 o ho'
   rw [Qi] at this
   rw [this]
   simp only [Mem.put] at hx'
   rw [if_pos (by simp; omega)] at hx'
   simpa using hx'
  ·have hx2 : m j o = some x := by
    simp only [Mem.put] at hx'
    rw [if_neg (by simp; omega)] at hx'
    exact hx'
   exact ho j o x (.inr (by omega)) hx2
 ·rw [Mem.put_other hj] at hx'
  exact ho j o x (.inl hj) hx'
def mkJ(p:List (List UInt8)×List UInt8):List D:=[.slice false [] (p.1.map .str),.str p.2]
theorem mkJ_inj(x y:List (List UInt8)×List UInt8)(e:mkJ x=mkJ y):x=y:=by
 simp only[mkJ,Qa,D.slice.injEq,D.str.injEq,true_and,and_true]at e;exact Q3 ((List.map_inj_right (λa b h=>by simpa using h)).1 e.1) e.2
theorem flatS:∀l:List (List UInt8),flat (l.map D.str)=l.map D.str
 |[]=>rfl
 |x::r=>by
  have ih:=flatS r;simp only[Qp,flat,ih];rfl
def joinF:List D->Option D:=FX mkJ (λp=>p.1≠[]∧p.1.length<=1000∧Cw p.1<=1000000∧p.2.length<=1000∧(Lib.join p.1 p.2).length<=10000000) (λp=> .str (Lib.join p.1 p.2))
theorem joinF_ok {P:Program} {ρ:Go.Shelf.Ren} (L:Go.Proofs.Lays.n156 P ρ) (X:Go.Proofs.Builder.Extra P ρ) (ent:∃fn,P.funcs[ρ.f 156]?=some fn∧fn.body.isSome=true∧(fn.name== "runtime.NumGoroutine")=false):(Ac joinF).ok P (ρ.f 156):=by
 refine⟨ent,λds m m' fr _=>rfl,?_⟩;intro B w0 w m g fr ds vs r u hi hfresh hl hrep hex;simp only[Ac]at hex;split at hex
 ·rename_i hcalm;rw[QM]at hex;obtain⟨r',hr,hex⟩:=hex;simp only[QZ]at hex;obtain⟨rfl,rfl⟩:=hex;obtain⟨⟨l,s⟩,⟨h1,h2,h3,h4,h5⟩,hmk,rfl⟩:=F6 hr;simp only at h1 h2 h3 h4 h5;have hrep0:∀(j:Nat) d v,(mkJ (l,s))[j]?=some d->vs[j]?=some v->Rep w g d v:=by
   intro j d v hd hv;rw[hmk,QP,QM]at hd;obtain⟨d',hd',rfl⟩:=hd;exact(hrep j d' v hd' hv).un
  have hlen:ds.length=2:=by
   have:=congrArg List.length hmk;simpa[mkJ]using this.symm
  match vs,hl.trans hlen with
  |[v,v1],_=>
   have r0:=hrep0 0 _ v rfl rfl;have r1:=hrep0 1 _ v1 rfl rfl;rw[r1.str_inv];obtain⟨ad,n,c,sz,ws,rfl,hn,hnc,hsz,hwl,hrp,hcl,_⟩:=r0.slice_list;have hn':n=l.length:=by simpa using hn
   subst hn';have hsz1:sz=1:=by
    cases l with
    |nil=>exact absurd rfl h1
    |cons x r=>exact(hsz (.str x) (by simp)).symm
   subst hsz1;have hflat:=flatS l;rw[hflat]at hrp;have hcell:∀(j:Nat) z,l[j]?=some z->w.cell? (ad.add j)=some (.string ⟨z.toArray⟩):=by
    intro j z hz;have hj:j<l.length:=(Qk.1 hz).1;have hjw:j<ws.length:=by rw[hwl];omega
    have hd:(l.map D.str)[j]?=some (.str z):=by rw[QP,hz];rfl
    have:=hrp.2.2 j (.str z) ws[j] hd (Qc hjw);rw[hcl j ws[j] (Qc hjw),this.str_inv]
   obtain⟨b,off,spot⟩:=ad;have hpos:0<l.length:=List.length_pos_iff.2 h1;have hc0:=hcell 0 _ (Qc hpos);have hspot:spot=none:=by simpa[Addr.add]using World.cell?_spot hc0
   subst hspot;have hblt:b<w.heap.size:=by simpa[Addr.add]using World.block_lt_of_cell? _ _ hc0
   have hmap:(l.map λx=>(⟨x.toArray⟩:ByteArray)).map (·.data.toList)=l:=by simp[List.map_map,Function.comp_def]
   have hj:(⟨s.toArray⟩:ByteArray).data.toList=s:=rfl;have:=Go.Proofs.Any.strings_Join L X b off c (l.map λx=>(⟨x.toArray⟩:ByteArray)) ⟨s.toArray⟩ w (λj x hx=>by
    rw[QP,QM]at hx;obtain⟨z,hz,rfl⟩:=hx;have:=hcell j z hz;rw[FM]at this;exact this) hblt (by simp;omega) (by simp;omega) (by rw[hmap,hj];omega)
   rw[hmap,hj,List.length_map]at this;refine this.mono ?_;rintro ev w' ⟨rfl,hb⟩;exact⟨_,g.over w w',rfl,hi.over hb,Ext.over hi.gz hb,.str _,λi hf _=>hf⟩
 ·cases hex
section
variable{α:Type}{mk:α->List D×List D}{ok:α->Prop}{res:α->D×List D}
end
end Go.Vd
namespace Go.Vd
open Go.Proofs Go.RowKit
end Go.Vd
namespace Go.Vd
open Go.Proofs
def dc92:DC:=(sr [oo 1 (.box (.t 0)),ci 2 0] (.seq (sr [ff 4 0 1,ll 5 4,oo 6 (.bin .gtr (.t 5) (.c (.int .u8 6)))] (cd 6 (sr [ci 2 22] .ret) .skip)) (.seq (.drawn [lk 7 10 1,lk 8 10 1,cc 9 190 [(.t 8)],cc 10 189 [(.t 7),(.t 9)],mm 3 10] [(2,0)]) (.seq (sr [ff 11 0 1,ll 12 11] (.block 0 (sr [oo 14 (.bin .eql (.t 12) (.c (.int .u8 0))),mm 13 14] (cd 13 (.row [mm 15 3,mm 16 15,og 17 (.faddr 1 (.t 1)) 1 true,og 18 (.load none (.t 17)) 1 true,og 19 (.bin .geq (.t 18) (.c (.int .i64 1))) 1 true,oo 20 (.pick (.t 16) (.t 19) (.c (.bool false))),mm 21 20,og 22 (.faddr 1 (.t 1)) 6 true,og 23 (.load none (.t 22)) 6 true,og 24 (.bin .leq (.t 23) (.c (.int .i64 99))) 6 true,oo 25 (.pick (.t 21) (.t 24) (.c (.bool false))),mm 3 25]) (.seq (sr [oo 27 (.bin .eql (.t 12) (.c (.int .u8 2))),mm 26 27] (cd 26 .skip (.row [oo 28 (.bin .eql (.t 12) (.c (.int .u8 3))),mm 26 28]))) (cd 26 (.row [mm 29 3,mm 30 29,og 31 (.faddr 2 (.t 1)) 1 true,og 32 (.load none (.t 31)) 1 true,og 33 (.bin .geq (.t 32) (.c (.int .i64 0))) 1 true,oo 34 (.pick (.t 30) (.t 33) (.c (.bool false))),mm 35 34,og 36 (.faddr 2 (.t 1)) 6 true,og 37 (.load none (.t 36)) 6 true,og 38 (.bin .leq (.t 37) (.c (.int .i64 999))) 6 true,oo 39 (.pick (.t 35) (.t 38) (.c (.bool false))),mm 40 39,og 41 (.faddr 3 (.t 1)) 11 true,og 42 (.load none (.t 41)) 11 true,og 43 (.len true (.t 42)) 11 true,og 44 (.bin .leq (.t 43) (.c (.int .i64 400))) 11 true,oo 45 (.pick (.t 40) (.t 44) (.c (.bool false))),mm 3 45]) (sr [oo 47 (.bin .eql (.t 12) (.c (.int .u8 4))),mm 46 47] (cd 46 (.row [mm 48 3,mm 49 48,og 50 (.faddr 5 (.t 1)) 1 true,og 51 (.load (some 4) (.t 50)) 1 true,og 52 (.build [(.int .i64 0),(.bool false)] [(0,1,(.c (.int .i64 6)))]) 1 true,og 53 (.call (.c (.fn 191 [])) [(.t 51),(.t 52)]) 1 true,og 54 (.bin .eql (.t 53) (.c (.int .i64 0))) 1 true,oo 55 (.pick (.t 49) (.t 54) (.c (.bool false))),mm 3 55]) (sr [oo 57 (.bin .eql (.t 12) (.c (.int .u8 5))),mm 56 57] (cd 56 (.row [mm 58 3,mm 59 58,og 60 (.faddr 4 (.t 1)) 1 true,og 61 (.load none (.t 60)) 1 true,og 62 (.len false (.t 61)) 1 true,og 63 (.bin .leq (.t 62) (.c (.int .i64 64))) 1 true,oo 64 (.pick (.t 59) (.t 63) (.c (.bool false))),mm 65 64,og 66 (.faddr 4 (.t 1)) 7 true,og 67 (.load none (.t 66)) 7 true,og 68 (.call (.c (.fn 192 [])) [(.t 67),(.c (.fn 193 []))]) 7 true,og 69 (.un .not (.t 68)) 7 true,oo 70 (.pick (.t 65) (.t 69) (.c (.bool false))),mm 3 70]) .skip)))))))))) (.seq (sr [mm 71 3,oo 72 (.un .not (.t 71))] (cd 72 (sr [ci 2 2] .ret) .skip)) (sr [ci 2 0] .ret))))))
theorem fn92:Fn Qb 92 73 dc92 [.t 2]:=Am func92
def dc316l0:DC:=(.block 1 (sr [mm 4 0,bi 5 .rem 4 10,oo 6 (.bin .add (.c (.int .i64 48)) (.t 5)),oo 7 (.conv .u8 (.t 6)),oo 8 (.bslice 5 1 [(.t 7)]),oo 9 (.b2s (.t 8)),mm 10 3,bt 11 .add 9 10,mm 3 11] (sr [mm 12 0,bi 13 .quo 12 10,mm 0 13] (sr [mm 14 0,bi 15 .eql 14 0] (cd 15 (sr [mm 16 3,mm 2 16] .ret) .skip)))))
def dc316:DC:=(sr [oo 2 (.mv (.c (.str [])))] (sr [oo 3 (.mv (.c (.str [])))] (.block 0 (.loop dc316l0))))
theorem fn316:Fn Qb 316 17 dc316 [.t 2]:=Am func316
def dc222l0:DC:=(sr [bt 41 .lss 40 39] (.seq (cd 41 .skip (.exit 1)) (.seq (.block 2 (sr [ii 42 3 38 40,lk 43 3 42,oo 6 (.alloc [(.int .i64 0),(.bool false),(.bool false)]),oz (.store 3 (.t 6) (.t 43))] (.row [mm 44 4,lk 45 3 6,cc 46 318 [(.t 45)],oo 47 (.bslice 9 1 [(.t 46)]),oo 48 (.app 9 1 16 (.t 44) (.t 47)),mm 4 48]))) (.row [bi 49 .add 40 1,mm 40 49]))))
def dc222:DC:=(sr [oo 1 (.box (.t 0)),oo 2 (.mv (.c (.slice true [] [])))] (.seq (sr [ff 7 0 1,ll 8 7] (.block 0 (sr [oo 10 (.bin .eql (.t 8) (.c (.int .u8 0))),mm 9 10] (cd 9 (sr [ff 11 1 1,ll 12 11,cc 13 316 [(.t 12)],oo 14 (.bslice 9 1 [(.c (.str [101,114,114,111,114])),(.t 13)]),mm 2 14] .ret) (sr [oo 16 (.bin .eql (.t 8) (.c (.int .u8 2))),mm 15 16] (cd 15 (sr [ff 17 2 1,ll 18 17,cc 19 316 [(.t 18)],oo 20 (.bslice 9 1 [(.c (.str [111,107])),(.c (.str [110,117,109,98,101,114])),(.t 19)]),mm 2 20] .ret) (sr [oo 22 (.bin .eql (.t 8) (.c (.int .u8 3))),mm 21 22] (cd 21 (sr [oo 3 (.mv (.c (.str [45])))] (.seq (sr [ff 23 3 1,ll 24 23,oo 25 (.bin .neq (.t 24) (.c (.str [])))] (cd 25 (.row [ff 26 3 1,ll 27 26,cc 28 317 [(.t 27)],mm 3 28]) .skip)) (sr [ff 29 2 1,ll 30 29,cc 31 316 [(.t 30)],mm 32 3,oo 33 (.bslice 9 1 [(.c (.str [111,107])),(.c (.str [102,111,117,110,100])),(.t 31),(.t 32)]),mm 2 33] .ret))) (sr [oo 35 (.bin .eql (.t 8) (.c (.int .u8 4))),mm 34 35] (cd 34 (sr [oo 4 (.mv (.c (.slice true [] [])))] (.seq (sr [ff 36 5 1,ff 37 3 36,ll 38 37,nn 39 false 38,ci 40 0] (.block 1 (.loop dc222l0))) (.seq (.drawn [ff 50 5 1,ff 51 0 50,ll 52 51,cc 53 316 [(.t 52)],ff 54 5 1,ff 55 1 54,ll 56 55,cc 57 319 [(.t 56)],ff 58 5 1,ff 59 2 58,ll 60 59,cc 61 316 [(.t 60)],mm 62 4,cc 63 320 [(.t 62)],oo 64 (.bslice 9 1 [(.c (.str [111,107])),(.c (.str [97,98,111,117,116])),(.t 53),(.t 57),(.t 61),(.t 63)]),mm 2 64] [(3,6),(3,10),(7,10)]) .ret))) (sr [oo 66 (.bin .eql (.t 8) (.c (.int .u8 5))),mm 65 66] (cd 65 (sr [ff 67 4 1,ll 68 67,cc 69 320 [(.t 68)],oo 70 (.bslice 9 1 [(.c (.str [111,107])),(.c (.str [110,97,109,101,115])),(.t 69)]),mm 2 70] .ret) (sr [oo 72 (.bin .eql (.t 8) (.c (.int .u8 6))),mm 71 72] (cd 71 (.seq (sr [ff 73 9 1,ll 74 73] (cd 74 (sr [oo 75 (.bslice 9 1 [(.c (.str [111,107])),(.c (.str [115,101,97,108,101,100]))]),mm 2 75] .ret) .skip)) (sr [oo 76 (.bslice 9 1 [(.c (.str [111,107])),(.c (.str [111,112,101,110]))]),mm 2 76] .ret)) .skip)))))))))))))) (sr [oo 77 (.bslice 9 1 [(.c (.str [111,107]))]),mm 2 77] .ret)))
theorem fn222:Fn Qb 222 78 dc222 [.t 2]:=Am func222
def dc121:DC:=(sr [oo 1 (.box (.t 0)),oo 2 (.mv (.c (.str []))),ci 3 0] (.seq (sr [lk 5 10 1,cc 6 92 [(.t 5)],mm 4 6] (sr [mm 7 4,bi 8 .neq 7 0] (cd 8 (sr [mm 9 4,oo 2 (.mv (.c (.str []))),mm 3 9] .ret) .skip))) (sr [lk 10 10 1,cc 11 222 [(.t 10)],cc 12 221 [(.t 11),(.c (.str [32]))],mm 2 12,ci 3 0] .ret)))
theorem fn121:Fn Qb 121 13 dc121 [.t 2,.t 3]:=Am func121
def dc120:DC:=(sr [oo 2 (.mv (.c (.str [])))] (sr [mm 6 0,oo 7 (.build [(.int .u8 0),(.int .i64 0),(.int .i64 0),(.str []),(.slice true [] []),(.int .i64 0),(.bool false),(.int .i64 0),(.slice true [] []),(.bool false)] [(1,1,(.t 6))]),oo 3 (.alloc [(.int .u8 0),(.int .i64 0),(.int .i64 0),(.str []),(.slice true [] []),(.int .i64 0),(.bool false),(.int .i64 0),(.slice true [] []),(.bool false)]),oz (.store 10 (.t 3) (.t 7))] (.seq (sr [mm 8 0,bi 9 .eql 8 0] (cd 9 (.row [ff 10 0 3,oz (.store 1 (.t 10) (.c (.int .u8 1)))]) .skip)) (sr [lk 12 10 3,cc 13 121 [(.t 12)],mm 11 13,xx 14 0 11,xx 15 1 11,mm 4 14,mm 5 15] (sr [mm 16 4,mm 2 16] .ret)))))
theorem fn120:Fn Qb 120 17 dc120 [.t 2]:=Am func120
def dc223:DC:=(sr [oo 1 (.box (.t 0)),oo 2 (.mv (.c (.str []))),ci 3 0] (.seq (sr [lk 5 3 1,cc 6 98 [(.t 5)],mm 4 6] (sr [mm 7 4,bi 8 .neq 7 0] (cd 8 (sr [mm 9 4,oo 2 (.mv (.c (.str []))),mm 3 9] .ret) .skip))) (.seq (sr [ff 10 0 1,ll 11 10] (.block 0 (sr [oo 13 (.bin .eql (.t 11) (.c (.int .u8 1))),mm 12 13] (cd 12 (sr [ff 14 1 1,ll 15 14,oo 16 (.bin .add (.c (.str [109,47])) (.t 15)),mm 2 16,ci 3 0] .ret) (sr [oo 18 (.bin .eql (.t 11) (.c (.int .u8 2))),mm 17 18] (cd 17 (sr [ff 19 1 1,ll 20 19,oo 21 (.bin .add (.c (.str [100,47])) (.t 20)),ff 22 2 1,ll 23 22,oo 24 (.conv .u8 (.t 23)),oo 25 (.bslice 5 1 [(.c (.int .u8 0)),(.t 24)]),oo 26 (.b2s (.t 25)),bt 27 .add 21 26,mm 2 27,ci 3 0] .ret) (sr [oo 29 (.bin .eql (.t 11) (.c (.int .u8 3))),mm 28 29] (cd 28 (sr [ff 30 1 1,ll 31 30,oo 32 (.bin .add (.c (.str [116,47])) (.t 31)),mm 2 32,ci 3 0] .ret) (sr [oo 34 (.bin .eql (.t 11) (.c (.int .u8 4))),mm 33 34] (cd 33 (sr [oo 2 (.mv (.c (.str [115,47,109,111,117,110,116,115]))),ci 3 0] .ret) .skip)))))))))) (sr [oo 2 (.mv (.c (.str [115,47,114,105,110,103]))),ci 3 0] .ret))))
theorem fn223:Fn Qb 223 35 dc223 [.t 2,.t 3]:=Am func223
def dc123:DC:=(sr [oo 6 (.mv (.c (.str [])))] (sr [mm 10 0,mm 11 1,mm 12 2,oo 13 (.build [(.int .u8 0),(.str []),(.int .i64 0)] [(0,1,(.t 10)),(1,1,(.t 11)),(2,1,(.t 12))]),cc 14 223 [(.t 13)],mm 9 14,xx 15 0 9,xx 16 1 9,mm 7 15,mm 8 16] (sr [mm 17 7,mm 6 17] .ret)))
theorem fn123:Fn Qb 123 18 dc123 [.t 6]:=Am func123
def dc122:DC:=(.row [mm 8 0,mm 9 0,nk 10 9,ff 11 21 10,ff 12 3 11,ll 13 12,mm 14 1,mm 15 2,mm 16 3,oo 17 (.build [(.int .u8 0),(.str []),(.str [])] [(0,1,(.t 14)),(1,1,(.t 15)),(2,1,(.t 16))]),oo 18 (.bslice 107 3 [(.t 17)]),oo 19 (.app 107 3 40 (.t 13) (.t 18)),nk 20 8,ff 21 21 20,ff 22 3 21,oz (.store 1 (.t 22) (.t 19))])
theorem fn122:Fn Qb 122 23 dc122 []:=Am func122
def dc237l0:DC:=(.seq (sr [mm 9 5,bi 10 .geq 9 0] (cd 10 .skip (.exit 0))) (.seq (.block 1 (sr [mm 13 0,mm 14 5,ii 15 1 13 14,ll 16 15,mm 17 1,bt 18 .eql 16 17] (cd 18 (sr [mm 19 5,mm 4 19] .ret) .skip))) (.row [mm 11 5,bi 12 .sub 11 1,mm 5 12])))
def dc237:DC:=(sr [ci 4 0] (.seq (sr [mm 6 0,nn 7 false 6,bi 8 .sub 7 1,mm 5 8] (.block 0 (.loop dc237l0))) (sr [oo 4 (.mv (.c (.int .i64 (-1))))] .ret)))
theorem fn237:Fn Qb 237 20 dc237 [.t 4]:=Am func237
def dc137:DC:=(sr [oo 2 (.box (.t 0)),oo 4 (.mv (.c (.str []))),cb 5 false,cb 6 false] (sr [ff 8 0 2,ll 9 8,mm 10 1,cc 11 237 [(.t 9),(.t 10)],mm 7 11] (.seq (sr [mm 12 7,bi 13 .lss 12 0] (cd 13 (sr [oo 4 (.mv (.c (.str []))),cb 5 false,cb 6 false] .ret) .skip)) (.seq (sr [mm 14 7,ff 15 1 2,ll 16 15,nn 17 false 16,bt 18 .lss 14 17] (cd 18 (.row [ff 19 1 2,ll 20 19,mm 21 7,ii 22 1 20 21,ll 23 22,mm 4 23]) .skip)) (.seq (.drawn [mm 24 4,mm 25 7,ff 26 2 2,ll 27 26,nn 28 false 27,bt 29 .lss 25 28,mm 30 29,og 31 (.faddr 2 (.t 2)) 6 true,og 32 (.load none (.t 31)) 6 true,og 33 (.mv (.t 7)) 6 true,og 34 (.iaddr 1 (.t 32) (.t 33)) 6 true,og 35 (.load none (.t 34)) 6 true,oo 36 (.pick (.t 30) (.t 35) (.c (.bool false))),mm 4 24,mm 5 36,cb 6 true] []) .ret)))))
theorem fn137:Fn Qb 137 37 dc137 [.t 4,.t 5,.t 6]:=Am func137
def dc12:DC:=(sr [oo 4 (.box (.t 0)),oo 8 (.alloc [(.slice true [] []),(.slice true [] []),(.slice true [] []),(.slice true [] []),(.slice true [] [])])] (sr [ff 9 0 4,ll 10 9,mm 11 1,oo 12 (.bslice 9 1 [(.t 11)]),oo 13 (.bslice 28 1 [(.t 10),(.t 12)]),cc 14 39 [(.t 13)],ff 15 0 4,oz (.store 1 (.t 15) (.t 14))] (sr [ff 16 1 4,ll 17 16,mm 18 2,oo 19 (.bslice 9 1 [(.t 18)]),oo 20 (.bslice 28 1 [(.t 17),(.t 19)]),cc 21 39 [(.t 20)],ff 22 1 4,oz (.store 1 (.t 22) (.t 21))] (sr [ff 23 2 4,ll 24 23,mm 25 3,oo 26 (.bslice 4 1 [(.t 25)]),oo 27 (.bslice 29 1 [(.t 24),(.t 26)]),cc 28 40 [(.t 27)],ff 29 2 4,oz (.store 1 (.t 29) (.t 28))] (sr [lk 30 5 4,oz (.store 5 (.t 8) (.t 30))] .ret)))))
theorem fn12:Fn Qb 12 31 dc12 [.cell (some 5) 8]:=Am func12
end Go.Vd
namespace Go.Vd
open Go.Proofs Go.RowKit
end Go.Vd
namespace Go.Vd
open Go.Proofs
def dc54:DC:=(.drawn [mm 4 0,mm 5 1,cc 6 120 [(.t 5)],mm 7 0,nk 8 7,ff 9 0 8,lk 10 5 9,oo 11 (.build [(.str []),(.bool false),(.str []),(.slice true [] []),(.bool false),(.int .i64 0),(.str []),(.slice true [] []),(.slice true [] [])] [(2,1,(.t 6)),(4,5,(.t 10))]),nk 12 4,ff 13 21 12,oz (.store 9 (.t 13) (.t 11))] [(2,6)])
theorem fn54:Fn Qb 54 14 dc54 []:=Am func54
def dc55:DC:=(sr [oo 3 (.box (.t 1))] (.row [mm 5 0,lk 6 10 3,cc 7 121 [(.t 6)],mm 4 7,xx 8 0 4,xx 9 1 4,nk 10 5,ff 11 21 10,ff 12 2 11,oz (.store 1 (.t 12) (.t 8))]))
theorem fn55:Fn Qb 55 13 dc55 []:=Am func55
def dc56:DC:=(.row [mm 2 0,oo 3 (.build [(.int .u8 0),(.int .i64 0),(.int .i64 0),(.str []),(.slice true [] []),(.int .i64 0),(.bool false),(.int .i64 0),(.slice true [] []),(.bool false)] [(0,1,(.c (.int .u8 1)))]),cc 4 55 [(.t 2),(.t 3)]])
theorem fn56:Fn Qb 56 5 dc56 []:=Am func56
def dc133:DC:=(.row [mm 6 0,mm 7 1,mm 8 2,mm 9 0,nk 10 9,ff 11 0 10,lk 12 5 11,oo 13 (.build [(.str []),(.bool false),(.str []),(.slice true [] []),(.bool false),(.int .i64 0),(.str []),(.slice true [] []),(.slice true [] [])] [(0,1,(.t 7)),(1,1,(.t 8)),(4,5,(.t 12))]),nk 14 6,ff 15 21 14,oz (.store 9 (.t 15) (.t 13))])
theorem fn133:Fn Qb 133 16 dc133 []:=Am func133
def dc135:DC:=(sr [oo 4 (.alloc [(.int .i64 0),(.bool false),(.int .i64 0),(.slice true [] [])]),cb 5 false,cb 6 false] (sr [mm 11 1,cc 12 123 [(.c (.int .u8 1)),(.t 11),(.c (.int .i64 0))],mm 7 12] (sr [mm 14 0,nk 15 14,ff 16 16 15,lk 17 5 16,mm 18 7,cc 19 137 [(.t 17),(.t 18)],mm 13 19,xx 20 0 13,xx 21 1 13,xx 22 2 13,mm 8 20,mm 9 21,mm 6 22] (.seq (sr [mm 23 6,oo 24 (.un .not (.t 23))] (cd 24 (sr [mm 25 0,mm 26 7,cc 27 133 [(.t 25),(.t 26),(.c (.bool false))]] (sr [oo 28 (.build [(.int .i64 0),(.bool false),(.int .i64 0),(.slice true [] [])] []),oz (.store 4 (.t 4) (.t 28)),cb 5 false,cb 6 false] .ret)) .skip)) (sr [mm 30 8,cc 31 240 [(.t 30)],mm 29 31,xx 32 0 29,xx 33 1 29,oz (.store 4 (.t 4) (.t 32)),mm 10 33] (.seq (sr [mm 34 9,oo 35 (.un .not (.t 34)),mm 36 35,og 37 (.mv (.t 10)) 2 false,og 38 (.bin .neq (.t 37) (.c (.int .i64 0))) 2 false,oo 39 (.pick (.t 36) (.c (.bool true)) (.t 38))] (cd 39 (sr [oo 40 (.build [(.int .i64 0),(.bool false),(.int .i64 0),(.slice true [] [])] []),oz (.store 4 (.t 4) (.t 40)),cb 5 false,cb 6 true] .ret) .skip)) (sr [lk 41 4 4,oz (.store 4 (.t 4) (.t 41)),cb 5 true,cb 6 true] .ret)))))))
theorem fn135:Fn Qb 135 42 dc135 [.cell (some 4) 4,.t 5,.t 6]:=Am func135
def dc58:DC:=(.seq (.drawn [mm 5 0,nk 6 5,ff 7 0 6,ff 8 3 7,lk 9 1 8,mm 10 0,nk 11 10,ff 12 5 11,ff 13 2 12,ll 14 13,mm 15 0,nk 16 15,ff 17 5 16,ff 18 4 17,ll 19 18,mm 20 0,nk 21 20,ff 22 5 21,ff 23 6 22,ll 24 23,oo 25 (.build [(.int .i64 0),(.bool false)] [(0,1,(.t 19)),(1,1,(.t 24))]),oo 26 (.build [(.str []),(.int .i64 0),(.bool false)] [(0,1,(.t 14)),(1,2,(.t 25))]),cc 27 45 [(.t 9),(.t 26)],mm 4 27,xx 28 0 4,xx 29 1 4,oo 2 (.alloc [(.slice true [] [])]),oz (.store 1 (.t 2) (.t 28)),mm 3 29] [(22,26),(26,4),(26,9),(26,14),(26,19),(26,22)]) (.seq (sr [mm 30 3,bi 31 .neq 30 0] (cd 31 (sr [mm 32 0,mm 33 3,cc 34 54 [(.t 32),(.t 33)]] .ret) .skip)) (sr [mm 35 0,lk 36 1 2,nk 37 35,ff 38 21 37,ff 39 4 38,ff 40 3 39,oz (.store 1 (.t 40) (.t 36))] (.seq (.drawn [mm 41 0,cc 42 123 [(.c (.int .u8 4)),(.c (.str [])),(.c (.int .i64 0))],lk 43 1 2,cc 44 126 [(.t 43)],cc 45 122 [(.t 41),(.c (.int .u8 1)),(.t 42),(.t 44)]] [(1,2)]) (.row [mm 46 0,cc 47 56 [(.t 46)]])))))
theorem fn58:Fn Qb 58 48 dc58 []:=Am func58
def dc63:DC:=(sr [mm 15 0,mm 16 0,nk 17 16,ff 18 5 17,ff 19 2 18,ll 20 19,cc 21 135 [(.t 15),(.t 20)],mm 14 21,xx 22 0 14,xx 23 1 14,xx 24 2 14,oo 2 (.alloc [(.int .i64 0),(.bool false),(.int .i64 0),(.slice true [] [])]),oz (.store 4 (.t 2) (.t 22)),mm 3 23,mm 4 24] (.seq (sr [mm 25 4,oo 26 (.un .not (.t 25))] (cd 26 .ret .skip)) (.seq (sr [mm 27 3,oo 28 (.un .not (.t 27))] (cd 28 (sr [mm 29 0,cc 30 54 [(.t 29),(.c (.int .i64 6))]] .ret) .skip)) (sr [mm 31 0,nk 32 31,ff 33 5 32,ff 34 4 33,ll 35 34,mm 5 35] (.seq (sr [mm 36 0,nk 37 36,ff 38 5 37,ff 39 0 38,ll 40 39,oo 41 (.bin .eql (.t 40) (.c (.int .u8 18)))] (cd 41 (.row [ci 5 0]) .skip)) (sr [lk 43 4 2,mm 44 5,cc 45 136 [(.t 43),(.t 44)],mm 42 45,xx 46 0 42,xx 47 1 42,oo 6 (.alloc [(.int .i64 0),(.bool false),(.bool false)]),oz (.store 3 (.t 6) (.t 46)),mm 7 47] (.seq (sr [mm 48 7,bi 49 .neq 48 0] (cd 49 (sr [mm 50 0,mm 51 7,cc 52 54 [(.t 50),(.t 51)]] .ret) .skip)) (.seq (.drawn [mm 53 0,nk 54 53,ff 55 5 54,ff 56 2 55,ll 57 56,ff 58 0 6,ll 59 58,cc 60 123 [(.c (.int .u8 2)),(.t 57),(.t 59)],mm 8 60] []) (sr [mm 62 0,nk 63 62,ff 64 16 63,lk 65 5 64,mm 66 8,cc 67 137 [(.t 65),(.t 66)],mm 61 67,xx 68 0 61,xx 69 1 61,xx 70 2 61,mm 9 68,mm 10 69,mm 4 70] (.seq (.block 0 (sr [mm 72 4,oo 73 (.un .not (.t 72)),mm 71 73] (cd 71 (sr [mm 74 0,mm 75 8,cc 76 133 [(.t 74),(.t 75),(.c (.bool false))]] .ret) (sr [mm 78 10,oo 79 (.un .not (.t 78)),mm 77 79] (cd 77 (.row [oo 9 (.mv (.c (.str [])))]) .skip))))) (.seq (sr [mm 80 0,nk 81 80,ff 82 5 81,ff 83 0 82,ll 84 83,oo 85 (.bin .eql (.t 84) (.c (.int .u8 9)))] (cd 85 (sr [mm 86 0,ff 87 0 6,ll 88 87,mm 89 9,oo 90 (.build [(.int .u8 0),(.int .i64 0),(.int .i64 0),(.str []),(.slice true [] []),(.int .i64 0),(.bool false),(.int .i64 0),(.slice true [] []),(.bool false)] [(0,1,(.c (.int .u8 3))),(2,1,(.t 88)),(3,1,(.t 89))]),cc 91 55 [(.t 86),(.t 90)]] .ret) .skip)) (sr [mm 93 0,mm 94 0,nk 95 94,ff 96 5 95,ff 97 3 96,ll 98 97,cc 99 135 [(.t 93),(.t 98)],mm 92 99,xx 100 0 92,xx 101 1 92,xx 102 2 92,oo 11 (.alloc [(.int .i64 0),(.bool false),(.int .i64 0),(.slice true [] [])]),oz (.store 4 (.t 11) (.t 100)),mm 12 101,mm 13 102] (sr [mm 103 13] (cd 103 (.drawn [mm 104 0,mm 105 0,nk 106 105,ff 107 5 106,ff 108 3 107,ll 109 108,lk 110 4 11,mm 111 9,cc 112 138 [(.t 104),(.t 109),(.t 110),(.c (.int .i64 (-1))),(.t 111)]] []) .skip))))))))))))))
theorem fn63:Fn Qb 63 113 dc63 []:=Am func63
def dc19:DC:=(sr [oo 3 (.box (.t 0)),oo 4 (.box (.t 1)),oo 5 (.box (.t 2)),oo 6 (.alloc [(.str []),(.bool false),(.str []),(.slice true [] []),(.bool false),(.int .i64 0),(.str []),(.slice true [] []),(.slice true [] [])])] (sr [lk 9 5 3,lk 10 11 4,lk 11 5 5,lk 12 5 3,oo 13 (.build [(.str []),(.bool false),(.str []),(.slice true [] []),(.bool false),(.int .i64 0),(.str []),(.slice true [] []),(.slice true [] [])] [(4,5,(.t 12))]),oo 14 (.build [(.bool false),(.int .i64 0),(.str []),(.slice true [] []),(.slice true [] []),(.int .u8 0),(.str []),(.str []),(.str []),(.int .i64 0),(.int .i64 0),(.bool false),(.slice true [] []),(.str []),(.slice true [] []),(.str []),(.slice true [] []),(.slice true [] []),(.slice true [] []),(.slice true [] []),(.slice true [] []),(.str []),(.bool false),(.str []),(.slice true [] []),(.bool false),(.int .i64 0),(.str []),(.slice true [] []),(.slice true [] [])] [(0,5,(.t 9)),(5,11,(.t 10)),(16,5,(.t 11)),(21,9,(.t 13))]),oo 15 (.box (.t 14)),mm 7 15] (.seq (sr [lk 16 5 3,lk 17 11 4,cc 18 25 [(.t 16),(.t 17)],mm 8 18] (sr [mm 19 8,bi 20 .neq 19 0] (cd 20 (sr [mm 21 7,mm 22 8,cc 23 54 [(.t 21),(.t 22)]] (sr [mm 24 7,nk 25 24,ff 26 21 25,lk 27 9 26,oz (.store 9 (.t 6) (.t 27))] .ret)) .skip))) (.seq (sr [ff 28 0 4,ll 29 28] (.block 0 (sr [oo 33 (.bin .eql (.t 29) (.c (.int .u8 1))),mm 32 33] (cd 32 (.row [mm 34 7,mm 35 7,nk 36 35,ff 37 0 36,ff 38 0 37,ll 39 38,oo 40 (.build [(.int .u8 0),(.int .i64 0),(.int .i64 0),(.str []),(.slice true [] []),(.int .i64 0),(.bool false),(.int .i64 0),(.slice true [] []),(.bool false)] [(0,1,(.c (.int .u8 6))),(9,1,(.t 39))]),cc 41 55 [(.t 34),(.t 40)]]) (.seq (sr [oo 43 (.bin .eql (.t 29) (.c (.int .u8 2))),mm 42 43] (cd 42 .skip (.row [oo 44 (.bin .eql (.t 29) (.c (.int .u8 3))),mm 42 44]))) (cd 42 (sr [mm 45 7,ff 46 0 4,ll 47 46,oo 48 (.bin .eql (.t 47) (.c (.int .u8 3))),nk 49 45,ff 50 21 49,ff 51 4 50,ff 52 0 51,oz (.store 1 (.t 52) (.t 48))] (.row [mm 53 7,cc 54 56 [(.t 53)]])) (sr [oo 56 (.bin .eql (.t 29) (.c (.int .u8 4))),mm 55 56] (cd 55 (.row [mm 57 7,cc 58 57 [(.t 57)]]) (sr [oo 60 (.bin .eql (.t 29) (.c (.int .u8 5))),mm 59 60] (cd 59 (.row [mm 61 7,cc 62 58 [(.t 61)]]) (sr [oo 64 (.bin .eql (.t 29) (.c (.int .u8 6))),mm 63 64] (cd 63 (.row [mm 65 7,cc 66 59 [(.t 65)]]) (sr [oo 68 (.bin .eql (.t 29) (.c (.int .u8 7))),mm 67 68] (cd 67 (.row [mm 69 7,cc 70 60 [(.t 69)]]) (sr [oo 72 (.bin .eql (.t 29) (.c (.int .u8 8))),mm 71 72] (cd 71 (.row [mm 73 7,cc 74 61 [(.t 73)]]) (sr [oo 76 (.bin .eql (.t 29) (.c (.int .u8 17))),mm 75 76] (cd 75 (.row [mm 77 7,cc 78 62 [(.t 77)]]) (.seq (sr [oo 80 (.bin .eql (.t 29) (.c (.int .u8 9))),mm 79 80] (cd 79 .skip (.row [oo 81 (.bin .eql (.t 29) (.c (.int .u8 18))),mm 79 81]))) (cd 79 (.row [mm 82 7,cc 83 63 [(.t 82)]]) (.row [mm 30 7,cc 31 64 [(.t 30)]]))))))))))))))))))))) (sr [mm 84 7,nk 85 84,ff 86 21 85,lk 87 9 86,oz (.store 9 (.t 6) (.t 87))] .ret)))))
theorem fn19:Fn Qb 19 88 dc19 [.cell (some 9) 6]:=Am func19
def dc10:DC:=(sr [cb 0 false] (sr [cc 7 23 [(.c (.str [107]))],oo 1 (.alloc [(.bool false),(.int .i64 0),(.str []),(.slice true [] []),(.slice true [] [])]),oz (.store 5 (.t 1) (.t 7))] (sr [lk 8 5 1,oo 9 (.build [(.int .u8 0),(.str []),(.str []),(.str []),(.int .i64 0),(.int .i64 0),(.bool false),(.slice true [] []),(.str []),(.slice true [] []),(.str [])] [(0,1,(.c (.int .u8 1)))]),oo 10 (.build [(.slice true [] []),(.slice true [] []),(.slice true [] []),(.slice true [] []),(.slice true [] [])] []),cc 11 19 [(.t 8),(.t 9),(.t 10)],oo 2 (.alloc [(.str []),(.bool false),(.str []),(.slice true [] []),(.bool false),(.int .i64 0),(.str []),(.slice true [] []),(.slice true [] [])]),oz (.store 9 (.t 2) (.t 11))] (sr [lk 12 5 1,oo 13 (.build [(.int .u8 0),(.str []),(.str []),(.str []),(.int .i64 0),(.int .i64 0),(.bool false),(.slice true [] []),(.str []),(.slice true [] []),(.str [])] [(0,1,(.c (.int .u8 9))),(1,1,(.c (.str [114,111,111,116]))),(2,1,(.c (.str [97,47,98])))]),oo 14 (.build [(.slice true [] []),(.slice true [] []),(.slice true [] []),(.slice true [] []),(.slice true [] [])] []),cc 15 19 [(.t 12),(.t 13),(.t 14)],oo 3 (.alloc [(.str []),(.bool false),(.str []),(.slice true [] []),(.bool false),(.int .i64 0),(.str []),(.slice true [] []),(.slice true [] [])]),oz (.store 9 (.t 3) (.t 15))] (sr [lk 16 5 1,oo 17 (.build [(.int .u8 0),(.str []),(.str []),(.str []),(.int .i64 0),(.int .i64 0),(.bool false),(.slice true [] []),(.str []),(.slice true [] []),(.str [])] [(0,1,(.c (.int .u8 5))),(1,1,(.c (.str [114,111,111,116]))),(2,1,(.c (.str [97]))),(4,1,(.c (.int .i64 2)))]),oo 18 (.build [(.slice true [] []),(.slice true [] []),(.slice true [] []),(.slice true [] []),(.slice true [] [])] []),cc 19 19 [(.t 16),(.t 17),(.t 18)],oo 4 (.alloc [(.str []),(.bool false),(.str []),(.slice true [] []),(.bool false),(.int .i64 0),(.str []),(.slice true [] []),(.slice true [] [])]),oz (.store 9 (.t 4) (.t 19))] (sr [ff 20 4 4,lk 21 5 20,oo 22 (.build [(.int .u8 0),(.str []),(.str []),(.str []),(.int .i64 0),(.int .i64 0),(.bool false),(.slice true [] []),(.str []),(.slice true [] []),(.str [])] [(0,1,(.c (.int .u8 9))),(1,1,(.c (.str [114,111,111,116]))),(2,1,(.c (.str [97,47,98])))]),oo 23 (.build [(.slice true [] []),(.slice true [] []),(.slice true [] []),(.slice true [] []),(.slice true [] [])] []),cc 24 19 [(.t 21),(.t 22),(.t 23)],oo 5 (.alloc [(.str []),(.bool false),(.str []),(.slice true [] []),(.bool false),(.int .i64 0),(.str []),(.slice true [] []),(.slice true [] [])]),oz (.store 9 (.t 5) (.t 24))] (.seq (.drawn [ff 25 4 4,lk 26 5 25,oo 27 (.build [(.int .u8 0),(.str []),(.str []),(.str []),(.int .i64 0),(.int .i64 0),(.bool false),(.slice true [] []),(.str []),(.slice true [] []),(.str [])] [(0,1,(.c (.int .u8 9))),(1,1,(.c (.str [114,111,111,116]))),(2,1,(.c (.str [97,47,98])))]),oo 28 (.build [(.slice true [] []),(.slice true [] []),(.slice true [] []),(.slice true [] []),(.slice true [] [])] []),cc 29 12 [(.t 28),(.c (.str [109,47,97,47,98])),(.c (.str [])),(.c (.bool false))],cc 30 19 [(.t 26),(.t 27),(.t 29)],oo 6 (.alloc [(.str []),(.bool false),(.str []),(.slice true [] []),(.bool false),(.int .i64 0),(.str []),(.slice true [] []),(.slice true [] [])]),oz (.store 9 (.t 6) (.t 30))] [(4,1),(4,6),(5,6),(6,1),(6,4),(6,5)]) (sr [ff 31 2 2,ll 32 31,oo 33 (.bin .eql (.t 32) (.c (.str [111,107,32,111,112,101,110]))),mm 34 33,og 35 (.faddr 2 (.t 3)) 3 true,og 36 (.load none (.t 35)) 3 true,og 37 (.bin .eql (.t 36) (.c (.str [101,114,114,111,114,32,49,52]))) 3 true,oo 38 (.pick (.t 34) (.t 37) (.c (.bool false))),mm 39 38,og 40 (.faddr 2 (.t 4)) 8 true,og 41 (.load none (.t 40)) 8 true,og 42 (.bin .eql (.t 41) (.c (.str [111,107]))) 8 true,oo 43 (.pick (.t 39) (.t 42) (.c (.bool false))),mm 44 43,og 45 (.faddr 3 (.t 4)) 13 true,og 46 (.load none (.t 45)) 13 true,og 47 (.len false (.t 46)) 13 true,og 48 (.bin .eql (.t 47) (.c (.int .i64 1))) 13 true,oo 49 (.pick (.t 44) (.t 48) (.c (.bool false))),mm 50 49,og 51 (.faddr 3 (.t 4)) 19 true,og 52 (.load none (.t 51)) 19 true,og 53 (.iaddr 3 (.t 52) (.c (.int .i64 0))) 19 true,og 54 (.faddr 1 (.t 53)) 19 true,og 55 (.load none (.t 54)) 19 true,og 56 (.bin .eql (.t 55) (.c (.str [115,47,109,111,117,110,116,115]))) 19 true,oo 57 (.pick (.t 50) (.t 56) (.c (.bool false))),mm 58 57,og 59 (.faddr 0 (.t 5)) 27 true,og 60 (.load none (.t 59)) 27 true,og 61 (.bin .eql (.t 60) (.c (.str [109,47,97,47,98]))) 27 true,oo 62 (.pick (.t 58) (.t 61) (.c (.bool false))),mm 63 62,og 64 (.faddr 1 (.t 5)) 32 true,og 65 (.load none (.t 64)) 32 true,og 66 (.un .not (.t 65)) 32 true,oo 67 (.pick (.t 63) (.t 66) (.c (.bool false))),mm 68 67,og 69 (.faddr 2 (.t 5)) 37 true,og 70 (.load none (.t 69)) 37 true,og 71 (.bin .eql (.t 70) (.c (.str []))) 37 true,oo 72 (.pick (.t 68) (.t 71) (.c (.bool false))),mm 73 72,og 74 (.faddr 2 (.t 6)) 42 true,og 75 (.load none (.t 74)) 42 true,og 76 (.bin .eql (.t 75) (.c (.str [101,114,114,111,114,32,54]))) 42 true,oo 77 (.pick (.t 73) (.t 76) (.c (.bool false))),mm 78 77,og 79 (.call (.c (.fn 27 [])) [(.c (.int .u8 10))]) 47 true,og 80 (.bin .eql (.t 79) (.c (.int .u8 2))) 47 true,oo 81 (.pick (.t 78) (.t 80) (.c (.bool false))),mm 82 81,og 83 (.call (.c (.fn 29 [])) [(.c (.int .u8 18))]) 51 true,oo 84 (.pick (.t 82) (.t 83) (.c (.bool false))),mm 85 84,og 86 (.call (.c (.fn 29 [])) [(.c (.int .u8 9))]) 54 true,og 87 (.un .not (.t 86)) 54 true,oo 88 (.pick (.t 85) (.t 87) (.c (.bool false))),mm 89 88,og 90 (.load (some 5) (.t 1)) 58 true,og 91 (.build [(.int .u8 0),(.str []),(.str []),(.str []),(.int .i64 0),(.int .i64 0),(.bool false),(.slice true [] []),(.str []),(.slice true [] []),(.str [])] []) 58 true,og 92 (.call (.c (.fn 25 [])) [(.t 90),(.t 91)]) 58 true,og 93 (.bin .eql (.t 92) (.c (.int .i64 22))) 58 true,oo 94 (.pick (.t 89) (.t 93) (.c (.bool false))),mm 95 94,oo 96 (.pick (.t 95) (.c (.bool true)) (.c (.bool false))),mm 97 96,oo 98 (.pick (.t 97) (.c (.bool true)) (.c (.bool false))),mm 99 98,oo 100 (.pick (.t 99) (.c (.bool true)) (.c (.bool false))),mm 0 100] .ret))))))))
theorem fn10:Fn Qb 10 101 dc10 [.t 0]:=Am func10
end Go.Vd
namespace Go.Vd
open Go.Proofs Go.RowKit
end Go.Vd
namespace Go.Vd
open Go.RowKit
section
variable{α:Type}{mk:α->List D×List D}{ok:α->Prop}{res:α->D×Id×(Id->List D)}
end
end Go.Vd
namespace Go.Vd
open Go.Proofs Go.RowKit
def v0:Vw:=keyV [107] false
def t1:List Mt:=[([97],2,false)]
def v1:Vw:=⟨false,1,[107],false,t1,false,[firstTk]⟩
end Go.Vd
namespace Go.Vd
open Go.RowKit Go.ChangeShapes Go.WideShapes Go.Deep
def allG(w:World)(b:Nat):Nat:=match w.heap[b]? with
 |some (.cells c _ _)=>c.size
 |_=>0
theorem allG_out(w:World)(b:Nat)(h:w.heap.size<=b):allG w b=0:=by
 simp[allG,Array.getElem?_eq_none h]
theorem cell_in{w:World}{p:Addr}{v:Value}(h:w.cell? p=some v):p.off<allG w p.block:=by
 unfold World.cell? at h;unfold allG;split at h
 ·rename_i c e fz hh;split at h
  ·cases h
  ·rw[hh];exact(Zj.1 h).1
 ·cases h
theorem exists_list{α:Type}{p:Nat->α->Prop}:∀n,(∀i,i<n->∃x,p i x)->∃l:List α,l.length=n∧∀i x,l[i]?=some x->p i x
 |0,_=>⟨[],rfl,by simp⟩
 |n+1,h=>by
  obtain⟨l,h1,h2⟩:=exists_list n (λi hi=>h i (by omega));obtain⟨x,hx⟩:=h n (by omega);refine⟨l++[x],by simp[h1],λi y hy=>?_⟩;by_cases hi:i<l.length
  ·rw[Qs hi]at hy;exact h2 i y hy
  ·rw[Qq (by omega)]at hy;have hi0:i-l.length=0:=by
    rcases Zi (i-l.length)with e|e
    ·exact e
    ·rw[Q6 (by simp;omega)]at hy;cases hy
   rw[hi0]at hy;simp only[Qh,QO]at hy;subst hy;have:i=n:=by omega
   subst this;exact hx
def isSt(P:Program)(t:TypeId):Bool:=match P.underlying t with
 |some (.struct _)=>true
 |_=>false
def wrapD:Bool->List D->D
 |true,cs=> .agg cs
 |false,[d]=>d
 |false,_=> .junk
def FitL(F:TypeId->List D->Prop):List TypeId->List D->Prop
 |[],ds=>ds=[]
 |t::r,ds=>∃a b,ds=a++b∧F t a∧FitL F r b
def Fit(P:Program):Nat->TypeId->List D->Prop
 |0,_,_=>False
 |n+1,t,ds=>match P.underlying t with
  |some .string=>∃s,ds=[.str s]
  |some .bool=>∃b,ds=[.bool b]
  |some (.int k)=>∃x,ds=[.int k x]∧(Lit.int k x).wf=true
  |some (.struct fs)=>FitL (Fit P n) (fs.toList.map (·.type)) ds
  |some (.slice e)=>∃nl xs,ds=[.slice nl [] xs]∧(nl=true->xs=[])∧∀x∈xs,∃cs,x=wrapD (isSt P e) cs∧Fit P n e cs
  |_=>False
def tile(P:Program)(c:Nat):List Field->Nat->Bool
 |[],o=>o==c
 |f::r,o=>f.offset==o&&tile P c r (o+P.cellsOf f.type)
def plainT(P:Program):Nat->TypeId->Bool
 |0,_=>false
 |n+1,t=>match P.underlying t with
  |some .string=>P.cellsOf t==1
  |some .bool=>P.cellsOf t==1
  |some (.int _)=>P.cellsOf t==1
  |some (.struct fs)=>tile P (P.cellsOf t) fs.toList 0&&fs.toList.all λf=>plainT P n f.type
  |some (.slice e)=>P.cellsOf t==1&&plainT P n e
  |_=>false
structure Says (w:World) (ds:List D) (cs:List Value):Prop where
 len:ds.length=cs.length
 calm:∀d∈ds,d.calm1=true
 un:ds.map D.un1=ds
 rep:∀(j:Nat) d v,ds[j]?=some d->cs[j]?=some v->Rep w (CE (allG w)) d v∧v.oneCell'=true
theorem Says.one {w : World} {d : D} {v : Value} (h1 : d.calm1 = true) (h2 : d.un1 = d) (h3 : Rep w (CE (allG w)) d v) (h4 : v.oneCell' = true) : Says w [d] [v] :=
 ⟨rfl, fun x hx => by simp only [Q9, List.mem_nil_iff, or_false] at hx; subst hx; exact h1, by simp [h2], fun j x y hx hy => by
  match j with
  | 0 => simp only [Qh, QO] at hx hy; subst hx hy; exact ⟨h3, h4⟩
  | j + 1 => simp at hx⟩
theorem flat_wrap{c:Nat}{b:Bool}:∀(l:List (List D))(j:Nat)(d:D),(∀ds∈l,ds.length=c∧(wrapD b ds).cells=ds)->(flat (l.map (wrapD b)))[j]?=some d->∃i k ds,l[i]?=some ds∧ds[k]?=some d∧j=i*c+k
 |[],j,d,_,h=>by simp[flat]at h
 |x::r,j,d,hl,h=>by
  obtain⟨h1,h2⟩:=hl x (QN ..);simp only[Qp,flat,h2]at h;by_cases hj:j<x.length
  ·rw[Qs hj]at h;exact⟨0,j,x,rfl,h,by omega⟩
  ·rw[Qq (by omega)]at h;obtain⟨i,k,ds,e1,e2,e3⟩:=flat_wrap r _ d (λds hd=>hl ds (QV _ hd)) h;refine⟨i+1,k,ds,by simpa using e1,e2,?_⟩;rw[Nat.succ_mul];omega
section
variable{H:Type}{enc:TypeId×Value->H}{P:Program}{w:World}{base:Nat}{spare:Nat->Bool}{held:Bool}
theorem read_fields{n:Nat}{cs:List Value}{fuel:Nat}(ih:∀t,plainT P n t=true->∀(fuel:Nat)(cs:List Value) x,DataW.trod enc P w base spare held fuel t cs=some x->cs.length=P.cellsOf t∧∃ds,Fit P n t ds∧Says w ds cs):
  ∀(fs:List Field)(o:Nat),tile P cs.length fs o=true->(fs.all λf=>plainT P n f.type)=true->(∀(j:Nat) f,fs[j]?=some f->∃y,DataW.trod enc P w base spare held fuel f.type ((cs.drop f.offset).take (P.cellsOf f.type))=some y)->
   o<=cs.length∧∃ds,FitL (Fit P n) (fs.map (·.type)) ds∧Says w ds (cs.drop o)
 |[],o,ht,_,_=>by
  simp only[tile,beq_iff_eq]at ht;subst ht;refine⟨QG _,[],rfl,by simp,by simp,rfl,by simp⟩
 |f::r,o,ht,hp,hf=>by
  simp only[tile,Qu,beq_iff_eq]at ht;obtain⟨rfl,ht⟩:=ht;simp only[Za,Qu]at hp;obtain⟨y,hy⟩:=hf 0 f rfl;obtain⟨h1,a,fa,sa⟩:=ih _ hp.1 _ _ _ hy;obtain⟨h2,b,fb,sb⟩:=read_fields ih r _ ht hp.2 (λj g hg=>hf (j+1) g (by simpa using hg));have hsplit:cs.drop f.offset=(cs.drop f.offset).take (P.cellsOf f.type)++cs.drop (f.offset+P.cellsOf f.type):=by
   rw[←List.drop_drop,List.take_append_drop]
  refine⟨by omega,a++b,⟨a,b,rfl,fa,fb⟩,?_⟩;rw[hsplit];refine⟨by rw[Qm,Qm,sa.len,sb.len],λd hd=>?_,by rw[Ze,sa.un,sb.un],λj d v hd hv=>?_⟩
  ·rcases Zd.1 hd with h|h
   ·exact sa.calm d h
   ·exact sb.calm d h
  ·have hl:=sa.len;by_cases hj:j<a.length
   ·rw[Qs hj]at hd;rw[Qs (by omega)]at hv;exact sa.rep j d v hd hv
   ·rw[Qq (by omega)]at hd;rw[Qq (by omega),←hl]at hv;exact sb.rep _ d v hd hv
theorem wrap_cells{n:Nat}{e:TypeId}{ds:List D}(h:Fit P n e ds):(wrapD (isSt P e) ds).cells=ds∧(ds.all D.calm1=true->(wrapD (isSt P e) ds).calm=true):=by
 cases n with
 |zero=>exact h.elim
 |succ n=>
  unfold Fit at h;unfold isSt;split at h
  ·rename_i he;rw[he];obtain⟨s,rfl⟩:=h;exact⟨rfl,λ_=>rfl⟩
  ·rename_i he;rw[he];obtain⟨s,rfl⟩:=h;exact⟨rfl,λ_=>rfl⟩
  ·rename_i he;rw[he];obtain⟨s,rfl,_⟩:=h;exact⟨rfl,λ_=>rfl⟩
  ·rename_i fs he;rw[he];exact⟨rfl,λhc=>by simpa[wrapD,D.calm]using hc⟩
  ·rename_i he;rw[he];obtain⟨nl,xs,rfl,_⟩:=h;exact⟨rfl,λ_=>rfl⟩
  ·exact h.elim
theorem read_fit:∀(n:Nat)(t:TypeId),plainT P n t=true->∀(fuel:Nat)(cs:List Value) x,DataW.trod enc P w base spare held fuel t cs=some x->cs.length=P.cellsOf t∧∃ds,Fit P n t ds∧Says w ds cs
 |0,t,hp=>by simp[plainT]at hp
 |n+1,t,hp=>by
  intro fuel cs x h;unfold plainT at hp;unfold Fit;split at hp
  ·rename_i ht;simp only[beq_iff_eq]at hp;obtain⟨s,rfl,_⟩:=DataW.trod_string ht h;exact⟨hp.symm,_,⟨s.data.toList,rfl⟩,Says.one rfl rfl (.str _) rfl⟩
  ·rename_i ht;simp only[beq_iff_eq]at hp;obtain⟨b,rfl,_⟩:=DataW.trod_bool ht h;exact⟨hp.symm,_,⟨b,rfl⟩,Says.one rfl rfl (.bool _) rfl⟩
  ·rename_i k ht;simp only[beq_iff_eq]at hp;obtain⟨b,rfl,_,hw⟩:=DataW.trod_int ht h;exact⟨hp.symm,_,⟨b,rfl,hw⟩,Says.one rfl rfl (.int _ _) rfl⟩
  ·rename_i fs ht;simp only[Qu]at hp;obtain⟨ys,n',_,_,hl,hyl,hf⟩:=DataW.trod_struct ht h;rw[←hl]at hp;have:=read_fields (fuel:=n') (read_fit n) fs.toList 0 hp.1 hp.2 (λj f hj=>by
    have hj':fs[j]?=some f:=by simpa using hj
    have hjl:j<fs.size:=(Zj.1 hj').1;have hys:ys[j]?=some (ys[j]'(by omega)):=Qc (by omega);exact⟨_,(hf j f hj').trans hys⟩)
   obtain⟨_,ds,h1,h2⟩:=this;exact⟨hl,ds,h1,by simpa using h2⟩
  ·rename_i e ht;simp only[Qu,beq_iff_eq]at hp;rcases open_slice ht h with ⟨rfl,_⟩|⟨a,len,cap,m,n',D',Pl,rfl,_,hl,_,hm,_,hi⟩
   ·exact⟨hp.1.symm,_,⟨true,[],rfl,(λ_=>rfl),(λx hx=>by cases hx)⟩,Says.one rfl rfl (.nils []) rfl⟩
   ·have hlm:len<=m:=by rw[hm];split<;>omega
    have hc:=exists_list (p:=λi (ds:List D)=>Fit P n e ds∧ds.length=P.cellsOf e∧ds.all D.calm1=true∧∀(j:Nat) d,ds[j]?=some d->∃v,w.cell? (a.add (i*P.cellsOf e+j))=some v∧Rep w (CE (allG w)) d v∧v.oneCell'=true) len (λi hil=>by
     obtain⟨cs',h1,h2⟩:=hi i (by omega);obtain⟨h3,ds,h4,h5⟩:=read_fit n e hp.2 _ _ _ h2;refine⟨ds,h4,h5.len.trans h3,QS.2 h5.calm,λj d hd=>?_⟩;have hj:j<ds.length:=(Qk.1 hd).1;have hjc:j<cs'.length:=by rw[←h5.len];exact hj
     obtain⟨_,_,hat⟩:=World.cells?_some h1;obtain⟨r1,r2⟩:=h5.rep j d _ hd (Qc hjc);refine⟨_,?_,r1,r2⟩;rw[←Go.Deep.add_add,hat j (by omega),Qc hjc])
    obtain⟨l,hll,hlp⟩:=hc;have key:∀j,j<len*P.cellsOf e->∃v,w.cell? (a.add j)=some v∧v.oneCell'=true:=by
     intro j hj;have hc0:0<P.cellsOf e:=by
      rcases Zi (P.cellsOf e)with h0|h0
      ·rw[h0]at hj;simp at hj
      ·exact h0
     have hi:j / P.cellsOf e<l.length:=by rw[hll];exact Nat.div_lt_of_lt_mul (by rw[Nat.mul_comm];exact hj)
     obtain⟨_,q2,_,q4⟩:=hlp _ _ (Qc hi);have hk:j % P.cellsOf e<(l[j / P.cellsOf e]).length:=by rw[q2];exact Nat.mod_lt _ hc0
     obtain⟨v,h1,_,h3⟩:=q4 _ _ (Qc hk);rw[Nat.mul_comm,Nat.div_add_mod]at h1;exact⟨v,h1,h3⟩
    have hall:∀ds∈l,ds.length=P.cellsOf e∧(wrapD (isSt P e) ds).cells=ds∧(wrapD (isSt P e) ds).calm=true:=λds hd=>by
     obtain⟨i,hi,rfl⟩:=Zf hd;obtain⟨q1,q2,q3,_⟩:=hlp i _ (Qc hi);exact⟨q2,(wrap_cells q1).1,(wrap_cells q1).2 q3⟩
    refine⟨hp.1.symm,[.slice false [] (l.map (wrapD (isSt P e)))],⟨false,_,rfl,(λh0=>by cases h0),λx hx=>?_⟩,Says.one rfl rfl ?_ rfl⟩
    ·obtain⟨ds,hd,rfl⟩:=Q0.1 hx;obtain⟨i,hi,rfl⟩:=Zf hd;exact⟨_,rfl,(hlp i _ (Qc hi)).1⟩
    ·refine .slice [] _ a len cap (P.cellsOf e) (λj=>(w.cell? (a.add j)).getD undef) (by simp[hll]) hl (λd hd=>?_) (λj hj=>?_) (λj hj=>?_) (λj d hd=>?_) (λh0=>?_) (λh=>absurd rfl h) (λd hd=>?_)
     ·obtain⟨ds,hds,rfl⟩:=Q0.1 hd;obtain⟨q1,q2,_⟩:=hall ds hds;rw[q2,q1]
     ·obtain⟨v,hv,_⟩:=key j hj;simp only[hv,Q8]
     ·obtain⟨v,hv,ho⟩:=key j hj;simp only[hv,Q8,ho]
     ·obtain⟨i,k,ds,e1,e2,rfl⟩:=flat_wrap (c:=P.cellsOf e) l j d (λds hds=>⟨(hall ds hds).1,(hall ds hds).2.1⟩) hd;obtain⟨_,_,_,q4⟩:=hlp i ds e1;obtain⟨v,h1,h2,_⟩:=q4 k d e2;simp only[h1,Q8];exact h2
     ·obtain⟨v,hv,_⟩:=key (len*P.cellsOf e-1) (by omega);have:=cell_in hv;rw[FY,DD]at this;show a.off+len*P.cellsOf e<=allG w a.block;omega
     ·obtain⟨ds,hds,rfl⟩:=Q0.1 hd;exact(hall ds hds).2.2
  ·cases hp
theorem agg_fit{n:Nat}{r:Reach}{b0:Nat}{t:TypeId}{fs:Array Field}{v:Value}{d:DataW H}{p:List MemPlace}(ht:P.underlying t=some (.struct fs))(hp:plainT P n t=true)(hv:Value.okWide P w r b0 t v)(h:DataW.Trod enc P w base spare held t v d p):
  ∃ds,Fit P n t ds∧Rep w (CE (allG w)) (.agg ds) v∧(D.agg ds).un= .agg ds∧(D.agg ds).calm=true:=by
 obtain⟨cs,rfl,hsz⟩:=okWide_struct ht hv;obtain⟨fuel,hf⟩:=h;obtain⟨_,ds,h1,h2⟩:=read_fit n t hp _ _ _ hf;have hl:ds.length=cs.toList.length:=h2.len;refine⟨ds,h1,.agg ds cs.toList hl.symm (λv hv=>?_) (λj d v hd hv=>(h2.rep j d v hd hv).1),?_,?_⟩
 ·obtain⟨j,hj,rfl⟩:=Zf hv;exact(h2.rep j _ _ (Qc (by omega)) (Qc hj)).2
 ·have:=h2.un;show D.agg _=_
  first|exact congrArg D.agg this|rfl
 ·exact QS.2 h2.calm
end
end Go.Vd
namespace Go.Vd
open Go.Proofs Go.RowKit
section
variable{P:Program}{n:Nat}{t:TypeId}{ds:List D}
theorem Fit.str(hu:P.underlying t=some .string)(h:Fit P (n+1) t ds):∃s,ds=[.str s]:=by unfold Fit at h;rw[hu]at h;exact h
theorem Fit.bool(hu:P.underlying t=some .bool)(h:Fit P (n+1) t ds):∃b,ds=[.bool b]:=by unfold Fit at h;rw[hu]at h;exact h
theorem Fit.int{k:IntKind}(hu:P.underlying t=some (.int k))(h:Fit P (n+1) t ds):∃x,ds=[.int k x]∧(Lit.int k x).wf=true:=by unfold Fit at h;rw[hu]at h;exact h
theorem Fit.struct{fs:Array Field}(hu:P.underlying t=some (.struct fs))(h:Fit P (n+1) t ds):FitL (Fit P n) (fs.toList.map (·.type)) ds:=by unfold Fit at h;rw[hu]at h;exact h
theorem Fit.slice{e:TypeId}(hu:P.underlying t=some (.slice e))(h:Fit P (n+1) t ds):∃nl xs,ds=[.slice nl [] xs]∧(nl=true->xs=[])∧∀x∈xs,∃cs,x=wrapD (isSt P e) cs∧Fit P n e cs:=by unfold Fit at h;rw[hu]at h;exact h
end
theorem all_map{α:Type}{f:α->D}{p:α->Prop}:∀{xs:List D},(∀x∈xs,∃y,x=f y∧p y)->∃l:List α,xs=l.map f∧∀y∈l,p y
 |[],_=>⟨[],rfl,λy hy=>by cases hy⟩
 |x::r,h=>by
  obtain⟨y,rfl,hp⟩:=h x (QN ..);obtain⟨l,rfl,hl⟩:=all_map (f:=f) (p:=p) (xs:=r) (λz hz=>h z (QV _ hz));exact⟨y::l,rfl,λz hz=>by
   rcases Q9.1 hz with rfl|hz
   ·exact hp
   ·exact hl z hz⟩
theorem wf_u8{x:Int}(h:(Lit.int .u8 x).wf=true):0<=x∧x<256:=by
 simp only[Lit.wf,Qu,decide_eq_true_eq]at h;have h1:=h.1;have h2:=h.2;simp[IntKind.min,IntKind.max,IntKind.bits,IntKind.signed]at h1 h2;omega
section
variable{n:Nat}{ds:List D}
theorem fit_rules(h:Fit Qb (n+3) 45 ds):∃nl l,ds=[.slice nl [] (Al l)]∧(nl=true->l=[])∧DB l:=by
 obtain⟨nl,xs,rfl,hn,hx⟩:=Fit.slice underlying45 h;obtain⟨l,rfl,hl⟩:=all_map (f:=rlD) (p:=λr=>0<=r.2∧r.2<256) (xs:=xs) (λx hxx=>by
  obtain⟨cs,rfl,hf⟩:=hx x hxx;rw[show isSt Qb 191=true by kernel_rfl];have hf:=Fit.struct underlying191 hf;obtain⟨a,b,rfl,f1,a2,b2,rfl,f2,rfl⟩:=hf;obtain⟨s,rfl⟩:=Fit.str underlying9 f1;obtain⟨x,rfl,hw⟩:=Fit.int underlying5 f2;exact⟨(s,x),rfl,wf_u8 hw⟩)
 exact⟨nl,l,rfl,λe=>by simpa using hn e,hl⟩
theorem fit_mounts(h:Fit Qb (n+4) 40 ds):∃nl l,ds=[.slice nl [] (Ar l)]:=by
 obtain⟨nl,xs,rfl,hn,hx⟩:=Fit.slice underlying40 h;obtain⟨l,rfl,hl⟩:=all_map (f:=mtD) (p:=λ_=>True) (xs:=xs) (λx hxx=>by
  obtain⟨cs,rfl,hf⟩:=hx x hxx;rw[show isSt Qb 118=true by kernel_rfl];have hf:=Fit.struct underlying118 hf;obtain⟨a,b,rfl,f1,a2,b2,rfl,f2,rfl⟩:=hf;obtain⟨s,rfl⟩:=Fit.str underlying9 f1;have g:=Fit.struct underlying116 f2;obtain⟨a',b',rfl,g1,a2',b2',rfl,g2,rfl⟩:=g;obtain⟨x,rfl,_⟩:=Fit.int underlying3 g1;obtain⟨c,rfl⟩:=Fit.bool underlying4 g2;exact⟨(s,x,c),rfl,trivial⟩)
 exact⟨nl,l,rfl⟩
theorem fit_tokens(h:Fit Qb (n+6) 41 ds):∃nl l,ds=[.slice nl [] (Av l)]∧∀k∈l,rawT k:=by
 obtain⟨nl,xs,rfl,hn,hx⟩:=Fit.slice underlying41 h;obtain⟨l,rfl,hl⟩:=all_map (f:=tkD) (p:=rawT) (xs:=xs) (λx hxx=>by
  obtain⟨cs,rfl,hf⟩:=hx x hxx;rw[show isSt Qb 134=true by kernel_rfl];have hf:=Fit.struct underlying134 hf;obtain⟨a,b,rfl,f1,a2,b2,rfl,f2,a3,b3,rfl,f3,rfl⟩:=hf;obtain⟨s,rfl⟩:=Fit.str underlying9 f1;obtain⟨s2,rfl⟩:=Fit.str underlying9 f2;obtain⟨nr,lr,rfl,h1,h2⟩:=fit_rules f3;exact⟨(s,s2,nr,lr),rfl,h1,h2⟩)
 exact⟨nl,l,rfl,hl⟩
theorem fit_ints(h:Fit Qb (n+2) 44 ds):∃nl l,ds=[.slice nl [] (AR l)]:=by
 obtain⟨nl,xs,rfl,hn,hx⟩:=Fit.slice underlying44 h;obtain⟨l,rfl,hl⟩:=all_map (f:=λx=>D.int .i64 x) (p:=λ_=>True) (xs:=xs) (λx hxx=>by
  obtain⟨cs,rfl,hf⟩:=hx x hxx;rw[show isSt Qb 3=false by kernel_rfl];obtain⟨x,rfl,_⟩:=Fit.int underlying3 hf;exact⟨x,rfl,trivial⟩)
 exact⟨nl,l,rfl⟩
theorem fit_sight(h:Fit Qb 8 43 ds):∃v:Vw,ds=vwC v∧∀k∈v.ks,rawT k:=by
 have h:=Fit.struct underlying43 h;obtain⟨a1,b1,rfl,f1,a2,b2,rfl,f2,a3,b3,rfl,f3,a4,b4,rfl,f4,a5,b5,rfl,f5,rfl⟩:=h;obtain⟨x1,rfl⟩:=Fit.bool underlying4 f1;obtain⟨x2,rfl,_⟩:=Fit.int underlying3 f2;obtain⟨x3,rfl⟩:=Fit.str underlying9 f3;obtain⟨n4,x4,rfl⟩:=fit_mounts f4;obtain⟨n5,x5,rfl,h5⟩:=fit_tokens f5;exact⟨⟨x1,x2,x3,n4,x4,n5,x5⟩,rfl,h5⟩
theorem fit_ask(h:Fit Qb 8 47 ds):∃a:Ak,ds=akC a∧DB a.rs∧0<=a.op∧a.op<256:=by
 have h:=Fit.struct underlying47 h;obtain⟨a1,b1,rfl,f1,a2,b2,rfl,f2,a3,b3,rfl,f3,a4,b4,rfl,f4,a5,b5,rfl,f5,a6,b6,rfl,f6,a7,b7,rfl,f7,a8,b8,rfl,f8,a9,b9,rfl,f9,a10,b10,rfl,f10,a11,b11,rfl,f11,rfl⟩:=h;obtain⟨x1,rfl,w1⟩:=Fit.int underlying5 f1;obtain⟨x2,rfl⟩:=Fit.str underlying9 f2;obtain⟨x3,rfl⟩:=Fit.str underlying9 f3;obtain⟨x4,rfl⟩:=Fit.str underlying9 f4;obtain⟨x5,rfl,_⟩:=Fit.int underlying3 f5;obtain⟨x6,rfl,_⟩:=Fit.int underlying3 f6;obtain⟨x7,rfl⟩:=Fit.bool underlying4 f7;obtain⟨n8,x8,rfl⟩:=fit_ints f8;obtain⟨x9,rfl⟩:=Fit.str underlying9 f9;obtain⟨n10,x10,rfl,_,h10⟩:=fit_rules f10;obtain⟨x11,rfl⟩:=Fit.str underlying9 f11;obtain⟨w2,w3⟩:=wf_u8 w1;exact⟨⟨x1,x2,x3,x4,x5,x6,x7,n8,x8,x9,n10,x10,x11⟩,rfl,h10,w2,w3⟩
end
end Go.Vd
namespace Go.Vd
open Go.Proofs
def dc296:DC:=(sr [oo 1 (.box (.t 0)),ci 2 0] (sr [ff 3 0 1,ll 4 3,mm 2 4] .ret))
theorem fn296:Fn Qb 296 5 dc296 [.t 2]:=Am func296
def dc335:DC:=(sr [oo 0 (.alloc [(.int .i64 0),(.bool false)])] (sr [oo 1 (.build [(.int .i64 0),(.bool false)] [(0,1,(.c (.int .i64 6)))]),oz (.store 2 (.t 0) (.t 1))] .ret))
theorem fn335:Fn Qb 335 2 dc335 [.cell (some 2) 0]:=Am func335
def dc241:DC:=(sr [oo 0 (.alloc [(.int .i64 0),(.bool false)])] (sr [oo 1 (.build [(.int .i64 0),(.bool false)] [(0,1,(.c (.int .i64 6)))]),oz (.store 2 (.t 0) (.t 1))] .ret))
theorem fn241:Fn Qb 241 2 dc241 [.cell (some 2) 0]:=Am func241
def dc136:DC:=(sr [oo 2 (.box (.t 0)),oo 4 (.alloc [(.int .i64 0),(.bool false),(.bool false)]),ci 5 0] (.seq (.seq (.drawn [lk 8 4 2,cc 9 241 [],cc 10 191 [(.t 8),(.t 9)],bi 11 .neq 10 0] [(1,0)]) (cd 11 (sr [oo 12 (.build [(.int .i64 0),(.bool false),(.bool false)] []),oz (.store 3 (.t 4) (.t 12)),ci 5 2] .ret) .skip)) (sr [lk 13 4 2,mm 14 1,cc 15 242 [(.t 13),(.t 14)],mm 6 15] (.seq (sr [mm 16 6,bi 17 .lss 16 0] (cd 17 (sr [oo 18 (.build [(.int .i64 0),(.bool false),(.bool false)] []),oz (.store 3 (.t 4) (.t 18)),ci 5 6] .ret) .skip)) (sr [ff 19 3 2,ll 20 19,mm 21 6,ii 22 3 20 21,lk 23 3 22,oo 7 (.alloc [(.int .i64 0),(.bool false),(.bool false)]),oz (.store 3 (.t 7) (.t 23))] (.seq (sr [ff 24 1 7,ll 25 24,mm 26 25,og 27 (.faddr 2 (.t 7)) 2 false,og 28 (.load none (.t 27)) 2 false,oo 29 (.pick (.t 26) (.c (.bool true)) (.t 28))] (cd 29 (sr [lk 30 3 7,oz (.store 3 (.t 4) (.t 30)),ci 5 21] .ret) .skip)) (sr [lk 31 3 7,oz (.store 3 (.t 4) (.t 31)),ci 5 0] .ret)))))))
theorem fn136:Fn Qb 136 32 dc136 [.cell (some 3) 4,.t 5]:=Am func136
def dc242:DC:=(sr [oo 2 (.box (.t 0)),oo 3 (.box (.t 1)),ci 4 0] (.seq (sr [ll 5 3,bi 6 .eql 5 0] (cd 6 (sr [ff 7 3 2,ll 8 7,nn 9 false 8,bi 10 .sub 9 1,mm 4 10] .ret) .skip)) (sr [ff 11 3 2,ll 12 11,oo 13 (.mkfn 337 [(.t 3)]),cc 14 336 [(.t 12),(.t 13)],mm 4 14] .ret)))
theorem fn242:Fn Qb 242 15 dc242 [.t 4]:=Am func242
def dc337:DC:=(sr [oo 2 (.box (.t 0)),cb 3 false] (sr [ff 4 0 2,ll 5 4,ll 6 1,bt 7 .eql 5 6,mm 3 7] .ret))
theorem fn337:Fn Qb 337 8 dc337 [.t 3]:=Am func337
def dc243:DC:=(sr [oo 4 (.box (.t 0)),oo 5 (.box (.t 1)),oo 8 (.alloc [(.int .i64 0),(.bool false),(.int .i64 0),(.slice true [] [])]),ci 9 0,oo 10 (.mv (.c (.slice true [] []))),ci 11 0] (.seq (sr [lk 15 4 4,lk 16 2 5,mm 17 2,mm 18 3,cc 19 338 [(.t 15),(.t 16),(.t 17),(.t 18)],mm 12 19] (sr [mm 20 12,bi 21 .neq 20 0] (cd 21 (sr [lk 22 4 4,mm 23 12,oz (.store 4 (.t 8) (.t 22)),ci 9 0,oo 10 (.mv (.c (.slice true [] []))),mm 11 23] .ret) .skip))) (sr [ff 24 2 4,ll 25 24,bi 26 .add 25 1,ff 27 2 4,oz (.store 1 (.t 27) (.t 26))] (.seq (.drawn [ff 28 3 4,ll 29 28,cc 30 339 [(.t 29)],ff 31 2 4,ll 32 31,oo 33 (.build [(.int .i64 0),(.bool false),(.bool false)] [(0,1,(.t 32))]),oo 34 (.bslice 228 3 [(.t 33)]),oo 35 (.app 228 3 16 (.t 30) (.t 34)),ff 36 3 4,oz (.store 1 (.t 36) (.t 35))] [(2,4),(2,6),(6,1),(6,2)]) (sr [lk 38 4 4,lk 39 2 5,cc 40 247 [(.t 38),(.t 39)],mm 37 40,xx 41 0 37,xx 42 1 37,oo 13 (.alloc [(.int .i64 0),(.bool false),(.int .i64 0),(.slice true [] [])]),oz (.store 4 (.t 13) (.t 41)),mm 14 42] (.seq (.drawn [lk 43 4 13,ff 44 2 13,ll 45 44,mm 46 14,oz (.store 4 (.t 8) (.t 43)),mm 9 45,mm 10 46,ci 11 0] [(4,2)]) .ret))))))
theorem fn243:Fn Qb 243 47 dc243 [.cell (some 4) 8,.t 9,.t 10,.t 11]:=Am func243
def dc338:DC:=(sr [oo 4 (.box (.t 0)),oo 5 (.box (.t 1)),ci 8 0] (.seq (.block 0 (sr [lk 10 4 4,lk 11 2 5,cc 12 191 [(.t 10),(.t 11)],bi 13 .neq 12 0,mm 14 13,og 15 (.mv (.t 2)) 4 false,og 16 (.bin .lss (.t 15) (.c (.int .i64 (-1)))) 4 false,oo 17 (.pick (.t 14) (.c (.bool true)) (.t 16)),mm 18 17,og 19 (.mv (.t 3)) 8 false,og 20 (.bin .lss (.t 19) (.c (.int .i64 0))) 8 false,oo 21 (.pick (.t 18) (.c (.bool true)) (.t 20)),mm 9 21] (cd 9 (sr [ci 8 2] .ret) (sr [mm 23 3,bi 24 .gtr 23 96,mm 22 24] (cd 22 (sr [ci 8 18] .ret) (sr [mm 26 2,oo 27 (.bin .eql (.t 26) (.c (.int .i64 (-1)))),mm 28 27,og 29 (.faddr 1 (.t 4)) 2 true,og 30 (.load none (.t 29)) 2 true,og 31 (.mv (.t 30)) 2 true,og 32 (.faddr 1 (.t 5)) 5 false,og 33 (.load none (.t 32)) 5 false,og 34 (.pick (.t 31) (.c (.bool true)) (.t 33)) 2 true,oo 35 (.pick (.t 28) (.t 34) (.c (.bool false))),mm 25 35] (cd 25 (sr [ci 8 17] .ret) (sr [mm 37 2,oo 38 (.bin .neq (.t 37) (.c (.int .i64 (-1)))),mm 39 38,og 40 (.mv (.t 2)) 2 true,og 41 (.faddr 2 (.t 4)) 2 true,og 42 (.load none (.t 41)) 2 true,og 43 (.bin .neq (.t 40) (.t 42)) 2 true,oo 44 (.pick (.t 39) (.t 43) (.c (.bool false))),mm 36 44] (cd 36 (sr [ci 8 16] .ret) (sr [ff 46 2 4,ll 47 46,bi 48 .eql 47 30,mm 45 48] (cd 45 (sr [ci 8 19] .ret) .skip))))))))))) (sr [ci 8 0] .ret)))
theorem fn338:Fn Qb 338 49 dc338 [.t 8]:=Am func338
def dc247l0:DC:=(sr [bt 24 .lss 23 22] (.seq (cd 24 .skip (.exit 0)) (.seq (.block 1 (sr [ii 25 3 21 23,lk 26 3 25,oo 9 (.alloc [(.int .i64 0),(.bool false),(.bool false)]),oz (.store 3 (.t 9) (.t 26))] (.row [mm 27 7,ff 28 0 9,ll 29 28,oo 30 (.bslice 3 1 [(.t 29)]),oo 31 (.app 3 1 8 (.t 27) (.t 30)),mm 7 31]))) (.row [bi 32 .add 23 1,mm 23 32]))))
def dc247:DC:=(sr [oo 2 (.box (.t 0)),oo 3 (.box (.t 1)),oo 4 (.alloc [(.int .i64 0),(.bool false),(.int .i64 0),(.slice true [] [])]),oo 5 (.mv (.c (.slice true [] [])))] (.seq (.drawn [ff 10 3 2,ll 11 10,nn 12 false 11,lk 13 4 2,lk 14 2 3,cc 15 294 [(.t 13),(.t 14)],bt 16 .sub 12 15,oo 17 (.mxm true (.c (.int .i64 0)) (.t 16)),mm 6 17] [(5,1)]) (sr [oo 7 (.mv (.c (.slice true [] [])))] (.seq (sr [ff 18 3 2,ll 19 18,mm 20 6,oo 21 (.cutl 3 (.t 19) none (some (.t 20))),nn 22 false 21,ci 23 0] (.block 0 (.loop dc247l0))) (sr [ff 33 3 2,ll 34 33,mm 35 6,oo 36 (.cutl 3 (.t 34) (some (.t 35)) none),cc 37 339 [(.t 36)],ff 38 3 2,oz (.store 1 (.t 38) (.t 37))] (sr [lk 39 4 2,mm 40 7,oz (.store 4 (.t 4) (.t 39)),mm 5 40] .ret))))))
theorem fn247:Fn Qb 247 41 dc247 [.cell (some 4) 4,.t 5]:=Am func247
def dc339:DC:=(sr [oo 2 (.mv (.c (.slice true [] [])))] (.seq (sr [mm 3 0,oo 4 (.nileq false 0 (.t 3) (.c (.slice true [] [])))] (cd 4 (sr [oo 2 (.mv (.c (.slice true [] [])))] .ret) .skip)) (sr [oo 5 (.bslice 228 3 []),mm 6 0,oo 7 (.app 228 3 16 (.t 5) (.t 6)),mm 2 7] .ret)))
theorem fn339:Fn Qb 339 8 dc339 [.t 2]:=Am func339
def dc139:DC:=(sr [oo 4 (.box (.t 0)),oo 5 (.box (.t 1)),oo 8 (.alloc [(.int .i64 0),(.bool false),(.int .i64 0),(.slice true [] [])]),oo 9 (.mv (.c (.slice true [] []))),ci 10 0] (.seq (sr [lk 13 4 4,lk 14 2 5,cc 15 191 [(.t 13),(.t 14)],bi 16 .neq 15 0,mm 17 16,og 18 (.mv (.t 2)) 4 false,og 19 (.call (.c (.fn 246 [])) [(.t 18),(.c (.int .i64 0)),(.c (.int .i64 6))]) 4 false,og 20 (.un .not (.t 19)) 4 false,oo 21 (.pick (.t 17) (.c (.bool true)) (.t 20))] (cd 21 (sr [lk 22 4 4,oz (.store 4 (.t 8) (.t 22)),oo 9 (.mv (.c (.slice true [] []))),ci 10 2] .ret) .skip)) (sr [mm 23 2,mm 24 3,ff 25 0 4,oz (.store 1 (.t 25) (.t 23)),ff 26 1 4,oz (.store 1 (.t 26) (.t 24))] (sr [lk 28 4 4,lk 29 2 5,cc 30 247 [(.t 28),(.t 29)],mm 27 30,xx 31 0 27,xx 32 1 27,oo 11 (.alloc [(.int .i64 0),(.bool false),(.int .i64 0),(.slice true [] [])]),oz (.store 4 (.t 11) (.t 31)),mm 12 32] (sr [lk 33 4 11,mm 34 12,oz (.store 4 (.t 8) (.t 33)),mm 9 34,ci 10 0] .ret)))))
theorem fn139:Fn Qb 139 35 dc139 [.cell (some 4) 8,.t 9,.t 10]:=Am func139
def dc249l0:DC:=(sr [bt 30 .lss 29 28] (.seq (cd 30 .skip (.exit 0)) (.seq (.block 1 (sr [mm 31 29,ii 32 3 27 29,lk 33 3 32,oo 12 (.alloc [(.int .i64 0),(.bool false),(.bool false)]),mm 11 31,oz (.store 3 (.t 12) (.t 33))] (sr [mm 34 1,ff 35 0 12,ll 36 35,cc 37 341 [(.t 34),(.t 36)],mm 38 37,og 39 (.mv (.t 1)) 4 false,og 40 (.len false (.t 39)) 4 false,og 41 (.bin .eql (.t 40) (.c (.int .i64 0))) 4 false,og 42 (.mv (.t 41)) 4 false,og 43 (.mv (.t 11)) 8 true,og 44 (.mv (.t 9)) 8 true,og 45 (.len false (.t 44)) 8 true,og 46 (.bin .sub (.t 45) (.c (.int .i64 1))) 8 true,og 47 (.bin .eql (.t 43) (.t 46)) 8 true,og 48 (.pick (.t 42) (.t 47) (.c (.bool false))) 4 false,oo 49 (.pick (.t 38) (.c (.bool true)) (.t 48)),mm 13 49] (sr [mm 50 13,mm 51 50,og 52 (.faddr 2 (.t 12)) 1 true,og 53 (.load none (.t 52)) 1 true,og 54 (.un .not (.t 53)) 1 true,oo 55 (.pick (.t 51) (.t 54) (.c (.bool false)))] (cd 55 (sr [mm 56 9,mm 57 11,mm 58 2,lk 59 3 12,oo 60 (.call (.t 58) [(.t 59)]),ii 61 3 56 57,oz (.store 3 (.t 61) (.t 60))] (.row [mm 62 10,ff 63 0 12,ll 64 63,oo 65 (.bslice 3 1 [(.t 64)]),oo 66 (.app 3 1 8 (.t 62) (.t 65)),mm 10 66])) .skip))))) (.row [bi 67 .add 29 1,mm 29 67]))))
def dc249:DC:=(sr [oo 3 (.box (.t 0)),oo 6 (.alloc [(.int .i64 0),(.bool false),(.int .i64 0),(.slice true [] [])]),oo 7 (.mv (.c (.slice true [] []))),ci 8 0] (.seq (.seq (.drawn [lk 14 4 3,cc 15 241 [],cc 16 191 [(.t 14),(.t 15)],bi 17 .neq 16 0] [(1,0)]) (cd 17 (sr [lk 18 4 3,oz (.store 4 (.t 6) (.t 18)),oo 7 (.mv (.c (.slice true [] []))),ci 8 2] .ret) .skip)) (.seq (sr [ff 19 3 3,ll 20 19,nn 21 false 20,bi 22 .eql 21 0] (cd 22 (sr [lk 23 4 3,oz (.store 4 (.t 6) (.t 23)),oo 7 (.mv (.c (.slice true [] []))),ci 8 6] .ret) .skip)) (sr [ff 24 3 3,ll 25 24,cc 26 339 [(.t 25)],mm 9 26] (sr [oo 10 (.mv (.c (.slice true [] [])))] (.seq (sr [mm 27 9,nn 28 false 27,ci 29 0] (.block 0 (.loop dc249l0))) (sr [mm 68 9,ff 69 3 3,oz (.store 1 (.t 69) (.t 68))] (sr [lk 70 4 3,mm 71 10,oz (.store 4 (.t 6) (.t 70)),mm 7 71,ci 8 0] .ret))))))))
theorem fn249:Fn Qb 249 72 dc249 [.cell (some 4) 6,.t 7,.t 8]:=Am func249
def dc250:DC:=(sr [oo 1 (.box (.t 0)),oo 2 (.alloc [(.int .i64 0),(.bool false),(.bool false)])] (sr [ff 3 0 1,ll 4 3,oo 5 (.build [(.int .i64 0),(.bool false),(.bool false)] [(0,1,(.t 4)),(1,1,(.c (.bool true)))]),oz (.store 3 (.t 2) (.t 5))] .ret))
theorem fn250:Fn Qb 250 6 dc250 [.cell (some 3) 2]:=Am func250
def dc251:DC:=(sr [oo 1 (.box (.t 0)),oo 2 (.alloc [(.int .i64 0),(.bool false),(.bool false)])] (sr [ff 3 0 1,ll 4 3,oo 5 (.build [(.int .i64 0),(.bool false),(.bool false)] [(0,1,(.t 4))]),oz (.store 3 (.t 2) (.t 5))] .ret))
theorem fn251:Fn Qb 251 6 dc251 [.cell (some 3) 2]:=Am func251
def dc252:DC:=(sr [oo 1 (.box (.t 0)),oo 2 (.alloc [(.int .i64 0),(.bool false),(.bool false)])] (sr [ff 3 0 1,ll 4 3,oo 5 (.build [(.int .i64 0),(.bool false),(.bool false)] [(0,1,(.t 4)),(2,1,(.c (.bool true)))]),oz (.store 3 (.t 2) (.t 5))] .ret))
theorem fn252:Fn Qb 252 6 dc252 [.cell (some 3) 2]:=Am func252
def dc143:DC:=(sr [oo 2 (.box (.t 0)),oo 4 (.alloc [(.int .i64 0),(.bool false),(.int .i64 0),(.slice true [] [])]),ci 5 0] (sr [lk 10 4 2,mm 11 1,cc 12 249 [(.t 10),(.t 11),(.c (.fn 250 []))],mm 9 12,xx 13 0 9,xx 14 1 9,xx 15 2 9,oo 6 (.alloc [(.int .i64 0),(.bool false),(.int .i64 0),(.slice true [] [])]),oz (.store 4 (.t 6) (.t 13)),mm 7 14,mm 8 15] (sr [lk 16 4 6,mm 17 8,oz (.store 4 (.t 4) (.t 16)),mm 5 17] .ret)))
theorem fn143:Fn Qb 143 18 dc143 [.cell (some 4) 4,.t 5]:=Am func143
def dc144:DC:=(sr [oo 2 (.box (.t 0)),oo 4 (.alloc [(.int .i64 0),(.bool false),(.int .i64 0),(.slice true [] [])]),ci 5 0] (sr [lk 10 4 2,mm 11 1,cc 12 249 [(.t 10),(.t 11),(.c (.fn 251 []))],mm 9 12,xx 13 0 9,xx 14 1 9,xx 15 2 9,oo 6 (.alloc [(.int .i64 0),(.bool false),(.int .i64 0),(.slice true [] [])]),oz (.store 4 (.t 6) (.t 13)),mm 7 14,mm 8 15] (sr [lk 16 4 6,mm 17 8,oz (.store 4 (.t 4) (.t 16)),mm 5 17] .ret)))
theorem fn144:Fn Qb 144 18 dc144 [.cell (some 4) 4,.t 5]:=Am func144
def dc145:DC:=(sr [oo 2 (.box (.t 0)),oo 4 (.alloc [(.int .i64 0),(.bool false),(.int .i64 0),(.slice true [] [])]),oo 5 (.mv (.c (.slice true [] []))),ci 6 0] (sr [lk 7 4 2,mm 8 1,cc 9 249 [(.t 7),(.t 8),(.c (.fn 252 []))],xx 10 0 9,xx 11 1 9,xx 12 2 9,oz (.store 4 (.t 4) (.t 10)),mm 5 11,mm 6 12] .ret))
theorem fn145:Fn Qb 145 13 dc145 [.cell (some 4) 4,.t 5,.t 6]:=Am func145
def dc341:DC:=(sr [cb 4 false] (sr [mm 5 0,mm 6 1,cc 7 387 [(.t 5),(.t 6)],bi 8 .geq 7 0,mm 4 8] .ret))
theorem fn341:Fn Qb 341 9 dc341 [.t 4]:=Am func341
def dc387l0:DC:=(sr [bt 9 .lss 8 7] (.seq (cd 9 .skip (.exit 0)) (.seq (.block 1 (sr [mm 10 8,mm 5 10] (sr [mm 11 1,mm 12 0,mm 13 5,ii 14 1 12 13,ll 15 14,bt 16 .eql 11 15] (cd 16 (sr [mm 17 5,mm 4 17] .ret) .skip)))) (.row [bi 18 .add 8 1,mm 8 18]))))
def dc387:DC:=(sr [ci 4 0] (.seq (sr [mm 6 0,nn 7 false 6,ci 8 0] (.block 0 (.loop dc387l0))) (sr [oo 4 (.mv (.c (.int .i64 (-1))))] .ret)))
theorem fn387:Fn Qb 387 19 dc387 [.t 4]:=Am func387
def dc340l0:DC:=(sr [bt 29 .lss 28 27] (.seq (cd 29 .skip (.exit 0)) (.seq (.block 1 (sr [ii 30 3 26 28,lk 31 3 30,oo 6 (.alloc [(.int .i64 0),(.bool false),(.bool false)]),oz (.store 3 (.t 6) (.t 31))] (.drawn [mm 32 4,ff 33 0 6,ll 34 33,oo 35 (.conv .u8 (.t 34)),ff 36 1 6,ll 37 36,cc 38 386 [(.t 37)],ff 39 2 6,ll 40 39,cc 41 386 [(.t 40)],oo 42 (.bin .shl (.t 41) (.c (.int .u64 1))),bt 43 .or 38 42,oo 44 (.bslice 5 1 [(.t 35),(.t 43)]),oo 45 (.app 5 1 1 (.t 32) (.t 44)),mm 4 45] [(6,2),(6,8),(9,2)]))) (.row [bi 46 .add 28 1,mm 28 46]))))
def dc340:DC:=(sr [oo 1 (.box (.t 0)),oo 2 (.mv (.c (.str []))),ci 3 0] (.seq (.seq (.drawn [lk 7 4 1,cc 8 335 [],cc 9 191 [(.t 7),(.t 8)],bi 10 .neq 9 0] [(1,0)]) (cd 10 (sr [oo 2 (.mv (.c (.str []))),ci 3 2] .ret) .skip)) (.seq (.drawn [ff 11 0 1,ll 12 11,oo 13 (.conv .u8 (.t 12)),ff 14 1 1,ll 15 14,cc 16 386 [(.t 15)],ff 17 2 1,ll 18 17,oo 19 (.conv .u8 (.t 18)),ff 20 3 1,ll 21 20,nn 22 false 21,oo 23 (.conv .u8 (.t 22)),oo 24 (.bslice 5 1 [(.t 13),(.t 16),(.t 19),(.t 23)]),mm 4 24] [(5,1),(5,7),(5,10)]) (.seq (sr [ff 25 3 1,ll 26 25,nn 27 false 26,ci 28 0] (.block 0 (.loop dc340l0))) (sr [mm 47 4,oo 48 (.b2s (.t 47)),mm 2 48,ci 3 0] .ret)))))
theorem fn340:Fn Qb 340 49 dc340 [.t 2,.t 3]:=Am func340
def dc386:DC:=(sr [oo 2 (.mv (.c (.int .u8 0)))] (.seq (sr [mm 3 0] (cd 3 (sr [oo 2 (.mv (.c (.int .u8 1)))] .ret) .skip)) (sr [oo 2 (.mv (.c (.int .u8 0)))] .ret)))
theorem fn386:Fn Qb 386 4 dc386 [.t 2]:=Am func386
end Go.Vd
end
