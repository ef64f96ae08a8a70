/- Part 5 of what YtlnejpgfiopjjaaGreatOutcomes leans on. -/
import Derived.Test.YtlnejpgfiopjjaaGreatOutcomesL1
import Derived.Test.YtlnejpgfiopjjaaGreatOutcomesL2
import Derived.Test.YtlnejpgfiopjjaaGreatOutcomesL3
import Derived.Test.YtlnejpgfiopjjaaGreatOutcomes1
set_option linter.all false
namespace LM.GZ
open Go LM
@[simp] def c244_n3 : SCode := (.region [.op 36 (.call false (.k (.c (.func 281 [] []))) [(.t 3)]), .op 37 (.move (.t 5)), .op 38 (.bin .sub (.t 0) (.k (.c (.int .u64 1)))), .op 39 (.bin .and (.t 2) (.t 0)), .op 40 (.conv .i64 (.t 0)), .op 10 (.move (.t 0))] [6, 7, 8, 9, 10, 11, 0])
@[simp] def c244_n5 : SCode := (.seq (.region [.op 41 (.move (.t 6)), .op 42 (.move (.t 3)), .op 43 (.bin .geq (.t 1) (.t 0))] [3, 4, 5, 6, 7, 8, 9, 0]) (.cond (.t 7) (.region [.op 44 (.move (.t 6)), .op 45 (.move (.t 3)), .op 46 (.bin .sub (.t 1) (.t 0)), .op 10 (.move (.t 0))] [4, 5, 6, 7, 8, 9, 0]) (.pre [0, 1, 2, 3, 4, 5, 6] .skip)))
@[simp] def c244_n6 : SCode := (.draw 0 [.op 47 (.move (.t 0)), .op 48 (.move (.t 6)), .op 49 (.move (.t 2)), .op 50 (.move (.t 4)), .op 51 (.move (.t 10)), .op 52 (.bin .add (.t 1) (.t 0)), .op 53 (.move (.t 6)), .op 54 (.move (.t 8)), .op 55 (.move (.t 14)), .op 56 (.bin .add (.t 1) (.t 0)), .op 57 (.idxSlice 1 (.t 3) (.t 0)), .op 58 (.load none (.t 0)) none .old, .op 59 (.move (.t 12)), .op 60 (.move (.t 18)), .op 61 (.idxSlice 1 (.t 1) (.t 0)), .op 62 (.load none (.t 0)) none .old, .op 63 (.idxSlice 1 (.t 15) (.t 14)), .eff (.store 1 (.t 0) (.t 5)) none .old, .op 64 (.idxSlice 1 (.t 14) (.t 11)), .eff (.store 1 (.t 0) (.t 2)) none .old] [18, 19, 20, 21, 22, 23])
def c244_n4 : SCode := .seq c244_n5 c244_n6
def c244_n2 : SCode := .seq c244_n3 c244_n4
def c244_n1 : SCode := .seq (.block 1 [some 0, some 1, some 6, some 7, some 8, some 9] c244_n2) (.region [.op 34 (.move (.t 5)), .op 35 (.bin .add (.t 0) (.k (.c (.int .i64 1)))), .op 9 (.move (.t 0))] [3, 4, 5, 6, 7, 0])
def c244_l0b : SCode := (.seq (.seq (.region [.op 26 (.move (.t 5)), .op 27 (.move (.t 2)), .op 28 (.move (.t 4)), .op 29 (.bin .quo (.t 0) (.k (.c (.int .i64 4)))), .op 30 (.bin .mul (.t 0) (.k (.c (.int .i64 2)))), .op 31 (.bin .add (.t 3) (.t 0)), .op 32 (.bin .add (.t 0) (.k (.c (.int .i64 1)))), .op 33 (.bin .leq (.t 6) (.t 0))] [8, 9, 10, 11, 12, 13, 0]) (.cond (.t 6) (.pre [0, 1, 2, 3, 4, 5] .skip) (.pre [] (.exit 0)))) c244_n1)
def c244_l0 : SCode := .loop true c244_l0b
@[simp] def c244_n8 : SCode := (.region [.op 14 (.move (.t 2)), .op 15 (.bin .geq (.t 0) (.k (.c (.int .i64 8))))] [2, 3, 4, 0])
@[simp] def c244_n11 : SCode := (.region [.op 16 (.move (.t 2)), .op 17 (.conv .u64 (.t 0)), .op 7 (.new [(.c (.int .u64 0))]), .eff (.store 1 (.t 0) (.t 1))] [3, 4, 5, 0])
@[simp] def c244_n13 : SCode := (.region [.op 18 (.move (.t 2)), .op 19 (.call false (.k (.c (.func 280 [] []))) [(.t 0)]), .op 8 (.move (.t 0))] [3, 4, 5, 6, 0])
def c244_n12 : SCode := .seq c244_n13 (.seq (.region [.op 20 (.move (.t 1)), .op 21 (.move (.t 3)), .op 22 (.bin .quo (.t 0) (.k (.c (.int .i64 4)))), .op 23 (.bin .mul (.t 0) (.k (.c (.int .i64 2)))), .op 24 (.bin .add (.t 3) (.t 0)), .op 25 (.bin .sub (.t 0) (.k (.c (.int .i64 1)))), .op 9 (.move (.t 0))] [7, 8, 9, 10, 11, 0]) (.block 0 [] c244_l0))
def c244_n10 : SCode := .seq c244_n11 c244_n12
def c244_n9 : SCode := .cond (.t 3) c244_n10 (.pre [] .skip)
def c244_n7 : SCode := .seq c244_n8 c244_n9
def c244 : SCode := (.seq (.region [.op 11 (.move (.t 2)), .op 12 (.move (.t 2)), .op 13 (.bin .sub (.t 1) (.t 0)), .op 6 (.move (.t 0))] [4, 5, 0]) c244_n7)
def F244 : SFunc := .code .pure 65 3 [] [] c244
@[simp] def c245_n2 : SCode := (.region [.op 13 (.move (.t 2)), .op 14 (.move (.t 2)), .op 15 (.bin .sub (.t 1) (.t 0)), .op 8 (.move (.t 0))] [4, 5, 0])
@[simp] def c245_n5 : SCode := (.region [.op 16 (.move (.t 1)), .op 17 (.move (.t 3)), .op 18 (.bin .quo (.t 0) (.k (.c (.int .i64 4)))), .op 19 (.bin .mul (.t 0) (.k (.c (.int .i64 1)))), .op 20 (.bin .add (.t 3) (.t 0)), .op 10 (.move (.t 0))] [6, 7, 8, 9, 0])
@[simp] def c245_n7 : SCode := (.region [.op 21 (.move (.t 1)), .op 22 (.move (.t 3)), .op 23 (.bin .quo (.t 0) (.k (.c (.int .i64 4)))), .op 24 (.bin .mul (.t 0) (.k (.c (.int .i64 2)))), .op 25 (.bin .add (.t 3) (.t 0)), .op 11 (.move (.t 0))] [6, 7, 8, 9, 10, 0])
@[simp] def c245_n9 : SCode := (.region [.op 26 (.move (.t 1)), .op 27 (.move (.t 3)), .op 28 (.bin .quo (.t 0) (.k (.c (.int .i64 4)))), .op 29 (.bin .mul (.t 0) (.k (.c (.int .i64 3)))), .op 30 (.bin .add (.t 3) (.t 0)), .op 12 (.move (.t 0))] [6, 8, 9, 10, 11, 0])
@[simp] def c245_n15 : SCode := (.region [.op 35 (.move (.t 0)), .op 36 (.move (.t 3)), .op 37 (.call false (.k (.c (.func 282 [] []))) [(.t 1), (.t 0), (.t 3)]), .op 10 (.move (.t 0))] [4, 5, 0, 7, 8])
def c245_n14 : SCode := .seq c245_n15 (.seq (.region [.op 38 (.move (.t 0)), .op 39 (.move (.t 4)), .op 40 (.call false (.k (.c (.func 282 [] []))) [(.t 1), (.t 0), (.t 3)]), .op 11 (.move (.t 0))] [4, 5, 6, 0, 8]) (.region [.op 41 (.move (.t 0)), .op 42 (.move (.t 5)), .op 43 (.call false (.k (.c (.func 282 [] []))) [(.t 1), (.t 0), (.t 3)]), .op 12 (.move (.t 0))] [4, 5, 6, 7, 0]))
def c245_n13 : SCode := .cond (.t 5) c245_n14 (.pre [0, 1, 2, 3, 4] .skip)
@[simp] def c245_n16 : SCode := (.seq (.region [.op 33 (.move (.t 1)), .op 34 (.bin .geq (.t 0) (.k (.c (.int .i64 50))))] [2, 4, 5, 6, 7, 0]) c245_n13)
def c245_n12 : SCode := .seq c245_n16 (.region [.op 44 (.move (.t 0)), .op 45 (.move (.t 3)), .op 46 (.move (.t 5)), .op 47 (.move (.t 7)), .op 48 (.call false (.k (.c (.func 283 [] []))) [(.t 3), (.t 2), (.t 1), (.t 0), (.t 5)]), .op 11 (.move (.t 0))] [7, 0])
def c245_n11 : SCode := .cond (.t 6) c245_n12 (.pre [2, 4] .skip)
@[simp] def c245_n17 : SCode := (.seq (.region [.op 31 (.move (.t 1)), .op 32 (.bin .geq (.t 0) (.k (.c (.int .i64 8))))] [2, 3, 4, 5, 6, 7, 0]) c245_n11)
@[simp] def c245_n21 : SCode := (.region [.op 52 (.bin .eql (.t 1) (.k (.c (.int .i64 0)))), .op 51 (.move (.t 0))] [2, 3, 0])
def c245_n22 : SCode := .cond (.t 2) (.seq (.region [.op 53 (.move (.t 0)), .op 6 (.move (.t 0)), .op 7 (.move (.k (.c (.int .i64 1))))] [1, 0]) .ret) (.seq (.region [.op 55 (.bin .eql (.t 1) (.k (.c (.int .i64 12)))), .op 54 (.move (.t 0))] [2, 0]) (.cond (.t 1) (.seq (.region [.op 56 (.move (.t 0)), .op 6 (.move (.t 0)), .op 7 (.move (.k (.c (.int .i64 2))))] [1, 0]) .ret) (.seq (.region [.op 50 (.move (.t 0)), .op 6 (.move (.t 0)), .op 7 (.move (.k (.c (.int .i64 0))))] [1, 0]) .ret)))
def c245_n20 : SCode := .seq c245_n21 c245_n22
def c245_n19 : SCode := .block 0 [some 6, some 7] c245_n20
instance : IsBlock c245_n19 0 [some 6, some 7] c245_n20 := ⟨rfl⟩
def c245_n18 : SCode := .seq (.region [.op 49 (.load none (.t 0))] [2, 0]) c245_n19
def c245_n10 : SCode := .seq c245_n17 c245_n18
def c245_n8 : SCode := .seq c245_n9 c245_n10
def c245_n6 : SCode := .seq c245_n7 c245_n8
def c245_n4 : SCode := .seq c245_n5 c245_n6
def c245_n3 : SCode := .seq (.region [.op 9 (.new [(.c (.int .i64 0))])] [1, 2, 3, 0]) c245_n4
def c245_n1 : SCode := .seq c245_n2 c245_n3
def c245 : SCode := (.seq (.region [.op 6 (.move (.k (.c (.int .i64 0)))), .op 7 (.move (.k (.c (.int .i64 0))))] [2, 3, 4]) c245_n1)
def F245 : SFunc := .code .pure 57 3 [some 6, some 7] [.tmp 0, .tmp 1] c245
@[simp] def c246_n3 : SCode := (.draw 0 [.op 14 (.move (.t 0)), .op 15 (.move (.t 2)), .op 16 (.move (.t 2)), .op 17 (.move (.t 5)), .op 18 (.move (.t 4)), .op 19 (.move (.t 7)), .op 20 (.idxSlice 1 (.t 1) (.t 0)), .op 21 (.load none (.t 0)) none .old, .op 22 (.move (.t 8)), .op 23 (.move (.t 10)), .op 24 (.idxSlice 1 (.t 1) (.t 0)), .op 25 (.load none (.t 0)) none .old, .op 26 (.idxSlice 1 (.t 11) (.t 10)), .eff (.store 1 (.t 0) (.t 5)) none .old, .op 27 (.idxSlice 1 (.t 10) (.t 9)), .eff (.store 1 (.t 0) (.t 2)) none .old] [14, 15, 16])
def c246_n2 : SCode := .seq c246_n3 (.seq (.region [.op 28 (.move (.t 1)), .op 29 (.bin .add (.t 0) (.k (.c (.int .i64 1)))), .op 6 (.move (.t 0))] [3, 0, 5]) (.region [.op 30 (.move (.t 2)), .op 31 (.bin .sub (.t 0) (.k (.c (.int .i64 1)))), .op 7 (.move (.t 0))] [3, 4, 0]))
def c246_n1 : SCode := .block 1 [some 0, some 6, some 7] c246_n2
instance : IsBlock c246_n1 1 [some 0, some 6, some 7] c246_n2 := ⟨rfl⟩
def c246_l0b : SCode := (.seq (.seq (.region [.op 11 (.move (.t 1)), .op 12 (.move (.t 3)), .op 13 (.bin .lss (.t 1) (.t 0))] [3, 4, 5, 0]) (.cond (.t 3) (.pre [0, 1, 2] .skip) (.pre [] (.exit 0)))) c246_n1)
def c246_l0 : SCode := .loop true c246_l0b
def c246 : SCode := (.seq (.region [.op 8 (.move (.t 1)), .op 6 (.move (.t 0))] [2, 4, 0]) (.seq (.region [.op 9 (.move (.t 1)), .op 10 (.bin .sub (.t 0) (.k (.c (.int .i64 1)))), .op 7 (.move (.t 0))] [3, 5, 0]) (.block 0 [] c246_l0)))
def F246 : SFunc := .code .pure 32 3 [] [] c246
def c247_l0b : SCode := (.seq (.seq (.draw 0 [.op 17 (.move (.t 3)), .op 18 (.move (.t 3)), .op 19 (.bin .lss (.t 1) (.t 0)), .op 20 (.move (.t 0)), .andN 32 0 [.op 21 (.move (.t 4)), .op 22 (.move (.t 8)), .op 23 (.idxSlice 1 (.t 1) (.t 0)), .op 24 (.load none (.t 0)) none .old, .op 25 (.move (.t 8)), .op 26 (.move (.t 12)), .op 27 (.bin .sub (.t 0) (.k (.c (.int .i64 1)))), .op 28 (.idxSlice 1 (.t 2) (.t 0)), .op 29 (.load none (.t 0)) none .old, .op 30 (.call false (.k (.c (.func 248 [] []))) [(.t 5), (.t 0)]), .op 31 (.not (.t 0))] (.t 0)] [5, 6, 7, 8, 9, 0]) (.cond (.t 5) (.pre [0, 1, 2, 3, 4] .skip) (.pre [0, 1, 2, 3, 4] (.exit 2)))) (.block 3 [some 0, some 1, some 2, some 7, some 8] (.region [.op 33 (.move (.t 3)), .op 34 (.bin .add (.t 0) (.k (.c (.int .i64 1)))), .op 7 (.move (.t 0))] [3, 4, 5, 0, 7])))
def c247_l0 : SCode := .loop true c247_l0b
@[simp] def c247_n3 : SCode := (.seq (.draw 0 [.op 68 (.move (.t 0)), .op 69 (.move (.t 6)), .op 70 (.idxSlice 1 (.t 1) (.t 0)), .op 71 (.load none (.t 0)) none .old, .op 72 (.move (.t 4)), .op 73 (.move (.t 10)), .op 74 (.bin .sub (.t 0) (.k (.c (.int .i64 1)))), .op 75 (.idxSlice 1 (.t 2) (.t 0)), .op 76 (.load none (.t 0)) none .old, .op 77 (.call false (.k (.c (.func 248 [] []))) [(.t 5), (.t 0)]), .op 78 (.not (.t 0))] [11, 12, 13, 14, 15, 16, 0]) (.cond (.t 6) (.pre [0, 1, 2, 3, 4] (.exit 4)) (.pre [0, 1, 2, 3, 4, 5] .skip)))
@[simp] def c247_n4 : SCode := (.draw 0 [.op 79 (.move (.t 0)), .op 80 (.move (.t 6)), .op 81 (.move (.t 2)), .op 82 (.move (.t 8)), .op 83 (.bin .sub (.t 0) (.k (.c (.int .i64 1)))), .op 84 (.move (.t 5)), .op 85 (.move (.t 11)), .op 86 (.bin .sub (.t 0) (.k (.c (.int .i64 1)))), .op 87 (.idxSlice 1 (.t 2) (.t 0)), .op 88 (.load none (.t 0)) none .old, .op 89 (.move (.t 10)), .op 90 (.move (.t 16)), .op 91 (.idxSlice 1 (.t 1) (.t 0)), .op 92 (.load none (.t 0)) none .old, .op 93 (.idxSlice 1 (.t 13) (.t 12)), .eff (.store 1 (.t 0) (.t 5)) none .old, .op 94 (.idxSlice 1 (.t 12) (.t 10)), .eff (.store 1 (.t 0) (.t 2)) none .old] [16, 17, 18, 19, 20, 21])
def c247_n2 : SCode := .seq c247_n3 c247_n4
def c247_n1 : SCode := .seq (.block 5 [some 0, some 1, some 2, some 7, some 8, some 9] c247_n2) (.region [.op 66 (.move (.t 5)), .op 67 (.bin .sub (.t 0) (.k (.c (.int .i64 1)))), .op 9 (.move (.t 0))] [3, 4, 5, 6, 7, 0])
def c247_l1b : SCode := (.seq (.seq (.region [.op 64 (.move (.t 5)), .op 65 (.bin .geq (.t 0) (.k (.c (.int .i64 1))))] [2, 3, 4, 5, 6, 7, 0]) (.cond (.t 6) (.pre [0, 1, 2, 3, 4, 5] .skip) (.pre [0, 1, 2, 3, 4] (.exit 4)))) c247_n1)
def c247_l1 : SCode := .loop true c247_l1b
@[simp] def c247_n7 : SCode := (.seq (.draw 0 [.op 106 (.move (.t 0)), .op 107 (.move (.t 6)), .op 108 (.idxSlice 1 (.t 1) (.t 0)), .op 109 (.load none (.t 0)) none .old, .op 110 (.move (.t 4)), .op 111 (.move (.t 10)), .op 112 (.bin .sub (.t 0) (.k (.c (.int .i64 1)))), .op 113 (.idxSlice 1 (.t 2) (.t 0)), .op 114 (.load none (.t 0)) none .old, .op 115 (.call false (.k (.c (.func 248 [] []))) [(.t 5), (.t 0)]), .op 116 (.not (.t 0))] [11, 12, 13, 14, 15, 16, 0]) (.cond (.t 6) (.pre [0, 1, 2, 3, 4] (.exit 6)) (.pre [0, 1, 2, 3, 4, 5] .skip)))
@[simp] def c247_n8 : SCode := (.draw 0 [.op 117 (.move (.t 0)), .op 118 (.move (.t 6)), .op 119 (.move (.t 2)), .op 120 (.move (.t 8)), .op 121 (.bin .sub (.t 0) (.k (.c (.int .i64 1)))), .op 122 (.move (.t 5)), .op 123 (.move (.t 11)), .op 124 (.bin .sub (.t 0) (.k (.c (.int .i64 1)))), .op 125 (.idxSlice 1 (.t 2) (.t 0)), .op 126 (.load none (.t 0)) none .old, .op 127 (.move (.t 10)), .op 128 (.move (.t 16)), .op 129 (.idxSlice 1 (.t 1) (.t 0)), .op 130 (.load none (.t 0)) none .old, .op 131 (.idxSlice 1 (.t 13) (.t 12)), .eff (.store 1 (.t 0) (.t 5)) none .old, .op 132 (.idxSlice 1 (.t 12) (.t 10)), .eff (.store 1 (.t 0) (.t 2)) none .old] [16, 17, 18, 19, 20, 21])
def c247_n6 : SCode := .seq c247_n7 c247_n8
def c247_n5 : SCode := .seq (.block 7 [some 0, some 1, some 2, some 7, some 8, some 10] c247_n6) (.region [.op 104 (.move (.t 5)), .op 105 (.bin .add (.t 0) (.k (.c (.int .i64 1)))), .op 10 (.move (.t 0))] [3, 4, 5, 6, 7, 0])
def c247_l2b : SCode := (.seq (.seq (.region [.op 101 (.move (.t 5)), .op 102 (.move (.t 3)), .op 103 (.bin .lss (.t 1) (.t 0))] [3, 4, 5, 6, 7, 8, 0]) (.cond (.t 6) (.pre [0, 1, 2, 3, 4, 5] .skip) (.pre [0, 1, 2, 3, 4] (.exit 6)))) c247_n5)
def c247_l2 : SCode := .loop true c247_l2b
@[simp] def c247_n12 : SCode := (.seq (.region [.op 35 (.move (.t 3)), .op 36 (.move (.t 3)), .op 37 (.bin .eql (.t 1) (.t 0))] [3, 4, 5, 6, 7, 0]) (.cond (.t 5) (.seq (.region [.op 6 (.move (.k (.c (.bool true))))] [0]) .ret) (.pre [0, 1, 2, 3, 4] .skip)))
@[simp] def c247_n14 : SCode := (.seq (.region [.op 38 (.move (.t 2)), .op 39 (.move (.t 2)), .op 40 (.bin .sub (.t 1) (.t 0)), .op 41 (.bin .lss (.t 0) (.k (.c (.int .i64 50))))] [4, 5, 6, 7, 8, 0]) (.cond (.t 5) (.seq (.region [.op 6 (.move (.k (.c (.bool false))))] [0]) .ret) (.pre [0, 1, 2, 3, 4] .skip)))
@[simp] def c247_n16 : SCode := (.draw 0 [.op 42 (.move (.t 0)), .op 43 (.move (.t 4)), .op 44 (.move (.t 2)), .op 45 (.move (.t 6)), .op 46 (.bin .sub (.t 0) (.k (.c (.int .i64 1)))), .op 47 (.move (.t 5)), .op 48 (.move (.t 9)), .op 49 (.bin .sub (.t 0) (.k (.c (.int .i64 1)))), .op 50 (.idxSlice 1 (.t 2) (.t 0)), .op 51 (.load none (.t 0)) none .old, .op 52 (.move (.t 10)), .op 53 (.move (.t 14)), .op 54 (.idxSlice 1 (.t 1) (.t 0)), .op 55 (.load none (.t 0)) none .old, .op 56 (.idxSlice 1 (.t 13) (.t 12)), .eff (.store 1 (.t 0) (.t 5)) none .old, .op 57 (.idxSlice 1 (.t 12) (.t 10)), .eff (.store 1 (.t 0) (.t 2)) none .old] [16, 17, 18, 19, 20])
@[simp] def c247_n18 : SCode := (.seq (.region [.op 58 (.move (.t 3)), .op 59 (.move (.t 2)), .op 60 (.bin .sub (.t 1) (.t 0)), .op 61 (.bin .geq (.t 0) (.k (.c (.int .i64 2))))] [4, 5, 6, 7, 8, 0]) (.cond (.t 5) (.seq (.region [.op 62 (.move (.t 3)), .op 63 (.bin .sub (.t 0) (.k (.c (.int .i64 1)))), .op 9 (.move (.t 0))] [3, 4, 5, 6, 7, 0]) (.block 4 [some 0, some 1, some 2, some 7, some 8] c247_l1)) (.pre [0, 1, 2, 3, 4] .skip)))
@[simp] def c247_n20 : SCode := (.region [.op 95 (.move (.t 2)), .op 96 (.move (.t 4)), .op 97 (.bin .sub (.t 1) (.t 0)), .op 98 (.bin .geq (.t 0) (.k (.c (.int .i64 2))))] [4, 5, 6, 7, 8, 0])
def c247_n19 : SCode := .seq c247_n20 (.cond (.t 5) (.seq (.region [.op 99 (.move (.t 3)), .op 100 (.bin .add (.t 0) (.k (.c (.int .i64 1)))), .op 10 (.move (.t 0))] [3, 4, 5, 6, 7, 0]) (.block 6 [some 0, some 1, some 2, some 7, some 8] c247_l2)) (.pre [0, 1, 2, 3, 4] .skip))
def c247_n17 : SCode := .seq c247_n18 c247_n19
def c247_n15 : SCode := .seq c247_n16 c247_n17
def c247_n13 : SCode := .seq c247_n14 c247_n15
def c247_n11 : SCode := .seq c247_n12 c247_n13
def c247_n10 : SCode := .seq (.block 2 [some 0, some 1, some 2, some 7, some 8] c247_l0) c247_n11
def c247_n9 : SCode := .seq (.block 1 [some 0, some 1, some 2, some 7, some 8] c247_n10) (.region [.op 15 (.move (.t 4)), .op 16 (.bin .add (.t 0) (.k (.c (.int .i64 1)))), .op 8 (.move (.t 0))] [3, 4, 5, 6, 0])
def c247_l3b : SCode := (.seq (.seq (.region [.op 13 (.move (.t 4)), .op 14 (.bin .lss (.t 0) (.k (.c (.int .i64 5))))] [2, 3, 4, 5, 6, 0]) (.cond (.t 5) (.pre [0, 1, 2, 3, 4] .skip) (.pre [] (.exit 0)))) c247_n9)
def c247_l3 : SCode := .loop true c247_l3b
def c247 : SCode := (.seq (.region [.op 6 (.move (.k (.c (.bool false))))] [1, 2, 3]) (.seq (.region [.op 11 (.move (.t 1)), .op 12 (.bin .add (.t 0) (.k (.c (.int .i64 1)))), .op 7 (.move (.t 0))] [3, 4, 5, 0]) (.seq (.seq (.region [.op 8 (.move (.k (.c (.int .i64 0))))] [1, 2, 3, 4, 0]) (.block 0 [] c247_l3)) (.seq (.region [.op 6 (.move (.k (.c (.bool false))))] [0]) .ret))))
def F247 : SFunc := .code .pure 133 3 [some 6] [.tmp 0] c247
@[simp] def c248_n2 : SCode := (.region [.op 5 (.move (.t 0)), .op 6 (.call false (.k (.c (.func 133 [] []))) [(.t 0)]), .op 7 (.move (.t 0)), .andN 11 0 [.op 8 (.move (.t 4)), .op 9 (.call false (.k (.c (.func 133 [] []))) [(.t 0)]), .op 10 (.not (.t 0))] (.t 0), .op 12 (.move (.t 0)), .orN 16 0 [.op 13 (.move (.t 5)), .op 14 (.move (.t 7)), .op 15 (.bin .lss (.t 1) (.t 0))] (.t 0), .op 4 (.move (.t 0))] [0])
def c248_n1 : SCode := .seq c248_n2 .ret
def c248 : SCode := (.seq (.region [.op 4 (.move (.k (.c (.bool false))))] [1, 2]) c248_n1)
def F248 : SFunc := .code .pure 17 2 [some 4] [.tmp 0] c248
def c249_l0b : SCode := (.seq (.seq (.draw 0 [.op 29 (.move (.t 2)), .op 30 (.move (.t 4)), .op 31 (.bin .leq (.t 1) (.t 0)), .op 32 (.move (.t 0)), .andN 43 0 [.op 33 (.move (.t 4)), .op 34 (.move (.t 6)), .op 35 (.idxSlice 1 (.t 1) (.t 0)), .op 36 (.load none (.t 0)) none .old, .op 37 (.move (.t 8)), .op 38 (.move (.t 11)), .op 39 (.idxSlice 1 (.t 1) (.t 0)), .op 40 (.load none (.t 0)) none .old, .op 41 (.call false (.k (.c (.func 248 [] []))) [(.t 4), (.t 0)]), .op 42 (.not (.t 0))] (.t 0)] [5, 6, 7, 8, 0]) (.cond (.t 4) (.pre [0, 1, 2, 3] .skip) (.pre [0, 1, 2, 3] (.exit 2)))) (.block 3 [some 0, some 1, some 9, some 10] (.region [.op 44 (.move (.t 2)), .op 45 (.bin .add (.t 0) (.k (.c (.int .i64 1)))), .op 9 (.move (.t 0))] [3, 4, 0, 6])))
def c249_l0 : SCode := .loop true c249_l0b
def c249_l1b : SCode := (.seq (.seq (.draw 0 [.op 46 (.move (.t 2)), .op 47 (.move (.t 4)), .op 48 (.bin .leq (.t 1) (.t 0)), .op 49 (.move (.t 0)), .andN 59 0 [.op 50 (.move (.t 4)), .op 51 (.move (.t 6)), .op 52 (.idxSlice 1 (.t 1) (.t 0)), .op 53 (.load none (.t 0)) none .old, .op 54 (.move (.t 8)), .op 55 (.move (.t 12)), .op 56 (.idxSlice 1 (.t 1) (.t 0)), .op 57 (.load none (.t 0)) none .old, .op 58 (.call false (.k (.c (.func 248 [] []))) [(.t 4), (.t 0)])] (.t 0)] [5, 6, 7, 8, 0]) (.cond (.t 4) (.pre [0, 1, 2, 3] .skip) (.pre [0, 1, 2, 3] (.exit 4)))) (.block 5 [some 0, some 1, some 9, some 10] (.region [.op 60 (.move (.t 3)), .op 61 (.bin .sub (.t 0) (.k (.c (.int .i64 1)))), .op 10 (.move (.t 0))] [3, 4, 5, 0])))
def c249_l1 : SCode := .loop true c249_l1b
@[simp] def c249_n4 : SCode := (.seq (.region [.op 62 (.move (.t 2)), .op 63 (.move (.t 4)), .op 64 (.bin .gtr (.t 1) (.t 0))] [3, 4, 5, 6, 0]) (.cond (.t 4) (.pre [2] (.exit 0)) (.pre [0, 1, 2, 3] .skip)))
@[simp] def c249_n6 : SCode := (.draw 0 [.op 65 (.move (.t 0)), .op 66 (.move (.t 3)), .op 67 (.move (.t 2)), .op 68 (.move (.t 6)), .op 69 (.move (.t 4)), .op 70 (.move (.t 8)), .op 71 (.idxSlice 1 (.t 1) (.t 0)), .op 72 (.load none (.t 0)) none .old, .op 73 (.move (.t 8)), .op 74 (.move (.t 11)), .op 75 (.idxSlice 1 (.t 1) (.t 0)), .op 76 (.load none (.t 0)) none .old, .op 77 (.idxSlice 1 (.t 11) (.t 10)), .eff (.store 1 (.t 0) (.t 5)) none .old, .op 78 (.idxSlice 1 (.t 10) (.t 9)), .eff (.store 1 (.t 0) (.t 2)) none .old] [14, 15, 16, 17])
def c249_n5 : SCode := .seq c249_n6 (.seq (.region [.op 79 (.move (.t 2)), .op 80 (.bin .add (.t 0) (.k (.c (.int .i64 1)))), .op 9 (.move (.t 0))] [3, 4, 0, 6]) (.region [.op 81 (.move (.t 3)), .op 82 (.bin .sub (.t 0) (.k (.c (.int .i64 1)))), .op 10 (.move (.t 0))] [3, 4, 5, 0]))
def c249_n3 : SCode := .seq c249_n4 c249_n5
def c249_n2 : SCode := .seq (.block 4 [some 0, some 1, some 9, some 10] c249_l1) c249_n3
def c249_n1 : SCode := .seq (.block 2 [some 0, some 1, some 9, some 10] c249_l0) c249_n2
def c249_l2b : SCode := (.block 1 [some 0, some 1, some 9, some 10] c249_n1)
def c249_l2 : SCode := .loop true c249_l2b
@[simp] def c249_n8 : SCode := (.draw 0 [.op 11 (.move (.t 0)), .op 12 (.move (.t 2)), .op 13 (.move (.t 2)), .op 14 (.move (.t 6)), .op 15 (.move (.t 4)), .op 16 (.move (.t 8)), .op 17 (.idxSlice 1 (.t 1) (.t 0)), .op 18 (.load none (.t 0)) none .old, .op 19 (.move (.t 8)), .op 20 (.move (.t 10)), .op 21 (.idxSlice 1 (.t 1) (.t 0)), .op 22 (.load none (.t 0)) none .old, .op 23 (.idxSlice 1 (.t 11) (.t 10)), .eff (.store 1 (.t 0) (.t 5)) none .old, .op 24 (.idxSlice 1 (.t 10) (.t 9)), .eff (.store 1 (.t 0) (.t 2)) none .old] [14, 15, 16])
def c249_n7 : SCode := .seq c249_n8 (.seq (.region [.op 25 (.move (.t 1)), .op 26 (.bin .add (.t 0) (.k (.c (.int .i64 1)))), .op 27 (.move (.t 4)), .op 28 (.bin .sub (.t 0) (.k (.c (.int .i64 1)))), .op 9 (.move (.t 2)), .op 10 (.move (.t 1))] [6, 7, 1, 0]) (.seq (.block 0 [some 9] c249_l2) (.seq (.region [.op 83 (.move (.t 0)), .op 8 (.move (.t 0))] [0]) .ret)))
def c249 : SCode := (.seq (.region [.op 8 (.move (.k (.c (.int .i64 0))))] [1, 2, 3, 4]) c249_n7)
def F249 : SFunc := .code .pure 84 4 [some 8] [.tmp 0] c249
def c250_l0b : SCode := (.seq (.seq (.draw 0 [.op 30 (.move (.t 2)), .op 31 (.move (.t 4)), .op 32 (.bin .leq (.t 1) (.t 0)), .op 33 (.move (.t 0)), .andN 43 0 [.op 34 (.move (.t 4)), .op 35 (.move (.t 7)), .op 36 (.idxSlice 1 (.t 1) (.t 0)), .op 37 (.load none (.t 0)) none .old, .op 38 (.move (.t 8)), .op 39 (.move (.t 10)), .op 40 (.idxSlice 1 (.t 1) (.t 0)), .op 41 (.load none (.t 0)) none .old, .op 42 (.call false (.k (.c (.func 248 [] []))) [(.t 4), (.t 0)])] (.t 0)] [5, 6, 7, 8, 0]) (.cond (.t 4) (.pre [0, 1, 2, 3] .skip) (.pre [0, 1, 2, 3] (.exit 0)))) (.block 1 [some 0, some 1, some 10, some 11] (.region [.op 44 (.move (.t 2)), .op 45 (.bin .add (.t 0) (.k (.c (.int .i64 1)))), .op 10 (.move (.t 0))] [3, 4, 0, 6])))
def c250_l0 : SCode := .loop true c250_l0b
def c250_l1b : SCode := (.seq (.seq (.draw 0 [.op 46 (.move (.t 2)), .op 47 (.move (.t 4)), .op 48 (.bin .leq (.t 1) (.t 0)), .op 49 (.move (.t 0)), .andN 60 0 [.op 50 (.move (.t 4)), .op 51 (.move (.t 8)), .op 52 (.idxSlice 1 (.t 1) (.t 0)), .op 53 (.load none (.t 0)) none .old, .op 54 (.move (.t 8)), .op 55 (.move (.t 10)), .op 56 (.idxSlice 1 (.t 1) (.t 0)), .op 57 (.load none (.t 0)) none .old, .op 58 (.call false (.k (.c (.func 248 [] []))) [(.t 4), (.t 0)]), .op 59 (.not (.t 0))] (.t 0)] [5, 6, 7, 8, 0]) (.cond (.t 4) (.pre [0, 1, 2, 3] .skip) (.pre [0, 1, 2, 3] (.exit 2)))) (.block 3 [some 0, some 1, some 10, some 11] (.region [.op 61 (.move (.t 3)), .op 62 (.bin .sub (.t 0) (.k (.c (.int .i64 1)))), .op 11 (.move (.t 0))] [3, 4, 5, 0])))
def c250_l1 : SCode := .loop true c250_l1b
def c250_l2b : SCode := (.seq (.seq (.draw 0 [.op 99 (.move (.t 2)), .op 100 (.move (.t 4)), .op 101 (.bin .leq (.t 1) (.t 0)), .op 102 (.move (.t 0)), .andN 112 0 [.op 103 (.move (.t 4)), .op 104 (.move (.t 7)), .op 105 (.idxSlice 1 (.t 1) (.t 0)), .op 106 (.load none (.t 0)) none .old, .op 107 (.move (.t 8)), .op 108 (.move (.t 10)), .op 109 (.idxSlice 1 (.t 1) (.t 0)), .op 110 (.load none (.t 0)) none .old, .op 111 (.call false (.k (.c (.func 248 [] []))) [(.t 4), (.t 0)])] (.t 0)] [5, 6, 7, 8, 0]) (.cond (.t 4) (.pre [0, 1, 2, 3] .skip) (.pre [0, 1, 2, 3] (.exit 6)))) (.block 7 [some 0, some 1, some 10, some 11] (.region [.op 113 (.move (.t 2)), .op 114 (.bin .add (.t 0) (.k (.c (.int .i64 1)))), .op 10 (.move (.t 0))] [3, 4, 0, 6])))
def c250_l2 : SCode := .loop true c250_l2b
def c250_l3b : SCode := (.seq (.seq (.draw 0 [.op 115 (.move (.t 2)), .op 116 (.move (.t 4)), .op 117 (.bin .leq (.t 1) (.t 0)), .op 118 (.move (.t 0)), .andN 129 0 [.op 119 (.move (.t 4)), .op 120 (.move (.t 8)), .op 121 (.idxSlice 1 (.t 1) (.t 0)), .op 122 (.load none (.t 0)) none .old, .op 123 (.move (.t 8)), .op 124 (.move (.t 10)), .op 125 (.idxSlice 1 (.t 1) (.t 0)), .op 126 (.load none (.t 0)) none .old, .op 127 (.call false (.k (.c (.func 248 [] []))) [(.t 4), (.t 0)]), .op 128 (.not (.t 0))] (.t 0)] [5, 6, 7, 8, 0]) (.cond (.t 4) (.pre [0, 1, 2, 3] .skip) (.pre [0, 1, 2, 3] (.exit 8)))) (.block 9 [some 0, some 1, some 10, some 11] (.region [.op 130 (.move (.t 3)), .op 131 (.bin .sub (.t 0) (.k (.c (.int .i64 1)))), .op 11 (.move (.t 0))] [3, 4, 5, 0])))
def c250_l3 : SCode := .loop true c250_l3b
@[simp] def c250_n4 : SCode := (.seq (.region [.op 132 (.move (.t 2)), .op 133 (.move (.t 4)), .op 134 (.bin .gtr (.t 1) (.t 0))] [3, 4, 5, 6, 0]) (.cond (.t 4) (.pre [0, 1, 3] (.exit 4)) (.pre [0, 1, 2, 3] .skip)))
@[simp] def c250_n6 : SCode := (.draw 0 [.op 135 (.move (.t 0)), .op 136 (.move (.t 3)), .op 137 (.move (.t 2)), .op 138 (.move (.t 6)), .op 139 (.move (.t 4)), .op 140 (.move (.t 8)), .op 141 (.idxSlice 1 (.t 1) (.t 0)), .op 142 (.load none (.t 0)) none .old, .op 143 (.move (.t 8)), .op 144 (.move (.t 11)), .op 145 (.idxSlice 1 (.t 1) (.t 0)), .op 146 (.load none (.t 0)) none .old, .op 147 (.idxSlice 1 (.t 11) (.t 10)), .eff (.store 1 (.t 0) (.t 5)) none .old, .op 148 (.idxSlice 1 (.t 10) (.t 9)), .eff (.store 1 (.t 0) (.t 2)) none .old] [14, 15, 16, 17])
def c250_n5 : SCode := .seq c250_n6 (.seq (.region [.op 149 (.move (.t 2)), .op 150 (.bin .add (.t 0) (.k (.c (.int .i64 1)))), .op 10 (.move (.t 0))] [3, 4, 0, 6]) (.region [.op 151 (.move (.t 3)), .op 152 (.bin .sub (.t 0) (.k (.c (.int .i64 1)))), .op 11 (.move (.t 0))] [3, 4, 5, 0]))
def c250_n3 : SCode := .seq c250_n4 c250_n5
def c250_n2 : SCode := .seq (.block 8 [some 0, some 1, some 10, some 11] c250_l3) c250_n3
def c250_n1 : SCode := .seq (.block 6 [some 0, some 1, some 10, some 11] c250_l2) c250_n2
def c250_l4b : SCode := (.block 5 [some 0, some 1, some 10, some 11] c250_n1)
def c250_l4 : SCode := .loop true c250_l4b
@[simp] def c250_n8 : SCode := (.draw 0 [.op 12 (.move (.t 0)), .op 13 (.move (.t 2)), .op 14 (.move (.t 2)), .op 15 (.move (.t 6)), .op 16 (.move (.t 4)), .op 17 (.move (.t 8)), .op 18 (.idxSlice 1 (.t 1) (.t 0)), .op 19 (.load none (.t 0)) none .old, .op 20 (.move (.t 8)), .op 21 (.move (.t 10)), .op 22 (.idxSlice 1 (.t 1) (.t 0)), .op 23 (.load none (.t 0)) none .old, .op 24 (.idxSlice 1 (.t 11) (.t 10)), .eff (.store 1 (.t 0) (.t 5)) none .old, .op 25 (.idxSlice 1 (.t 10) (.t 9)), .eff (.store 1 (.t 0) (.t 2)) none .old] [14, 15, 16])
@[simp] def c250_n10 : SCode := (.region [.op 26 (.move (.t 1)), .op 27 (.bin .add (.t 0) (.k (.c (.int .i64 1)))), .op 28 (.move (.t 4)), .op 29 (.bin .sub (.t 0) (.k (.c (.int .i64 1)))), .op 10 (.move (.t 2)), .op 11 (.move (.t 1))] [6, 7, 1, 0])
@[simp] def c250_n16 : SCode := (.draw 0 [.op 66 (.move (.t 0)), .op 67 (.move (.t 4)), .op 68 (.move (.t 2)), .op 69 (.move (.t 4)), .op 70 (.move (.t 4)), .op 71 (.move (.t 6)), .op 72 (.idxSlice 1 (.t 1) (.t 0)), .op 73 (.load none (.t 0)) none .old, .op 74 (.move (.t 8)), .op 75 (.move (.t 12)), .op 76 (.idxSlice 1 (.t 1) (.t 0)), .op 77 (.load none (.t 0)) none .old, .op 78 (.idxSlice 1 (.t 11) (.t 10)), .eff (.store 1 (.t 0) (.t 5)) none .old, .op 79 (.idxSlice 1 (.t 10) (.t 9)), .eff (.store 1 (.t 0) (.t 2)) none .old] [17])
def c250_n15 : SCode := .seq c250_n16 (.seq (.region [.op 80 (.move (.t 0)), .op 8 (.move (.t 0)), .op 9 (.move (.k (.c (.bool true))))] [1, 0]) .ret)
def c250_n14 : SCode := .cond (.t 4) c250_n15 (.pre [0, 1, 2, 3] .skip)
@[simp] def c250_n17 : SCode := (.seq (.region [.op 63 (.move (.t 2)), .op 64 (.move (.t 4)), .op 65 (.bin .gtr (.t 1) (.t 0))] [3, 4, 5, 6, 0]) c250_n14)
@[simp] def c250_n19 : SCode := (.draw 0 [.op 81 (.move (.t 0)), .op 82 (.move (.t 3)), .op 83 (.move (.t 2)), .op 84 (.move (.t 6)), .op 85 (.move (.t 4)), .op 86 (.move (.t 8)), .op 87 (.idxSlice 1 (.t 1) (.t 0)), .op 88 (.load none (.t 0)) none .old, .op 89 (.move (.t 8)), .op 90 (.move (.t 11)), .op 91 (.idxSlice 1 (.t 1) (.t 0)), .op 92 (.load none (.t 0)) none .old, .op 93 (.idxSlice 1 (.t 11) (.t 10)), .eff (.store 1 (.t 0) (.t 5)) none .old, .op 94 (.idxSlice 1 (.t 10) (.t 9)), .eff (.store 1 (.t 0) (.t 2)) none .old] [14, 15, 16, 17])
@[simp] def c250_n21 : SCode := (.region [.op 95 (.move (.t 2)), .op 96 (.bin .add (.t 0) (.k (.c (.int .i64 1)))), .op 10 (.move (.t 0))] [3, 4, 0, 6])
@[simp] def c250_n23 : SCode := (.region [.op 97 (.move (.t 3)), .op 98 (.bin .sub (.t 0) (.k (.c (.int .i64 1)))), .op 11 (.move (.t 0))] [3, 4, 5, 0])
@[simp] def c250_n26 : SCode := (.draw 0 [.op 153 (.move (.t 0)), .op 154 (.move (.t 3)), .op 155 (.move (.t 2)), .op 156 (.move (.t 4)), .op 157 (.move (.t 4)), .op 158 (.move (.t 6)), .op 159 (.idxSlice 1 (.t 1) (.t 0)), .op 160 (.load none (.t 0)) none .old, .op 161 (.move (.t 8)), .op 162 (.move (.t 11)), .op 163 (.idxSlice 1 (.t 1) (.t 0)), .op 164 (.load none (.t 0)) none .old, .op 165 (.idxSlice 1 (.t 11) (.t 10)), .eff (.store 1 (.t 0) (.t 5)) none .old, .op 166 (.idxSlice 1 (.t 10) (.t 9)), .eff (.store 1 (.t 0) (.t 2)) none .old] [16])
def c250_n25 : SCode := .seq c250_n26 (.seq (.region [.op 167 (.move (.t 0)), .op 8 (.move (.t 0)), .op 9 (.move (.k (.c (.bool false))))] [1, 0]) .ret)
def c250_n24 : SCode := .seq (.block 4 [some 0, some 1, some 11] c250_l4) c250_n25
def c250_n22 : SCode := .seq c250_n23 c250_n24
def c250_n20 : SCode := .seq c250_n21 c250_n22
def c250_n18 : SCode := .seq c250_n19 c250_n20
def c250_n13 : SCode := .seq c250_n17 c250_n18
def c250_n12 : SCode := .seq (.block 2 [some 0, some 1, some 10, some 11] c250_l1) c250_n13
def c250_n11 : SCode := .seq (.block 0 [some 0, some 1, some 10, some 11] c250_l0) c250_n12
def c250_n9 : SCode := .seq c250_n10 c250_n11
def c250_n7 : SCode := .seq c250_n8 c250_n9
def c250 : SCode := (.seq (.region [.op 8 (.move (.k (.c (.int .i64 0)))), .op 9 (.move (.k (.c (.bool false))))] [2, 3, 4, 5]) c250_n7)
def F250 : SFunc := .code .pure 168 4 [some 8, some 9] [.tmp 0, .tmp 1] c250
@[simp] def c251_n2 : SCode := (.seq (.region [.op 3 (.move (.t 0)), .op 4 (.bin .geq (.t 0) (.k (.c (.int .u32 65536))))] [2, 3, 0]) (.cond (.t 2) (.seq (.region [.op 5 (.move (.t 0)), .op 6 (.bin .shr (.t 0) (.k (.c (.int .u64 16)))), .op 0 (.move (.t 0))] [0]) (.region [.op 2 (.move (.k (.c (.int .i64 16))))] [1, 0])) (.pre [0, 1] .skip)))
@[simp] def c251_n4 : SCode := (.seq (.region [.op 7 (.move (.t 0)), .op 8 (.bin .geq (.t 0) (.k (.c (.int .u32 256))))] [2, 3, 0]) (.cond (.t 2) (.seq (.region [.op 9 (.move (.t 0)), .op 10 (.bin .shr (.t 0) (.k (.c (.int .u64 8)))), .op 0 (.move (.t 0))] [0, 4]) (.region [.op 11 (.move (.t 1)), .op 12 (.bin .add (.t 0) (.k (.c (.int .i64 8)))), .op 2 (.move (.t 0))] [3, 0])) (.pre [0, 1] .skip)))
@[simp] def c251_n6 : SCode := (.region [.op 13 (.move (.t 1)), .op 14 (.move (.t 1)), .op 15 (.conv .u8 (.t 0)), .op 16 (.indexStr (.k (.c (.str [0, 1, 2, 2, 3, 3, 3, 3, 4, 4, 4, 4, 4, 4, 4, 4, 5, 5, 5, 5, 5, 5, 5, 5, 5, 5, 5, 5, 5, 5, 5, 5, 6, 6, 6, 6, 6, 6, 6, 6, 6, 6, 6, 6, 6, 6, 6, 6, 6, 6, 6, 6, 6, 6, 6, 6, 6, 6, 6, 6, 6, 6, 6, 6, 7, 7, 7, 7, 7, 7, 7, 7, 7, 7, 7, 7, 7, 7, 7, 7, 7, 7, 7, 7, 7, 7, 7, 7, 7, 7, 7, 7, 7, 7, 7, 7, 7, 7, 7, 7, 7, 7, 7, 7, 7, 7, 7, 7, 7, 7, 7, 7, 7, 7, 7, 7, 7, 7, 7, 7, 7, 7, 7, 7, 7, 7, 7, 7, 8, 8, 8, 8, 8, 8, 8, 8, 8, 8, 8, 8, 8, 8, 8, 8, 8, 8, 8, 8, 8, 8, 8, 8, 8, 8, 8, 8, 8, 8, 8, 8, 8, 8, 8, 8, 8, 8, 8, 8, 8, 8, 8, 8, 8, 8, 8, 8, 8, 8, 8, 8, 8, 8, 8, 8, 8, 8, 8, 8, 8, 8, 8, 8, 8, 8, 8, 8, 8, 8, 8, 8, 8, 8, 8, 8, 8, 8, 8, 8, 8, 8, 8, 8, 8, 8, 8, 8, 8, 8, 8, 8, 8, 8, 8, 8, 8, 8, 8, 8, 8, 8, 8, 8, 8, 8, 8, 8, 8, 8, 8, 8, 8, 8, 8, 8, 8, 8, 8, 8, 8, 8, 8, 8, 8, 8, 8, 8]))) (.t 0)), .op 17 (.conv .i64 (.t 0)), .op 18 (.bin .add (.t 4) (.t 0)), .op 2 (.move (.t 0))] [0])
def c251_n5 : SCode := .seq c251_n6 .ret
def c251_n3 : SCode := .seq c251_n4 c251_n5
def c251_n1 : SCode := .seq c251_n2 c251_n3
def c251 : SCode := (.seq (.region [.op 2 (.move (.k (.c (.int .i64 0))))] [1, 0]) c251_n1)
def F251 : SFunc := .code .pure 19 1 [some 2] [.tmp 0] c251
@[simp] def c252_n2 : SCode := (.seq (.region [.op 3 (.move (.t 0)), .op 4 (.bin .geq (.t 0) (.k (.c (.int .u64 4294967296))))] [2, 3, 0]) (.cond (.t 2) (.seq (.region [.op 5 (.move (.t 0)), .op 6 (.bin .shr (.t 0) (.k (.c (.int .u64 32)))), .op 0 (.move (.t 0))] [0]) (.region [.op 2 (.move (.k (.c (.int .i64 32))))] [1, 0])) (.pre [0, 1] .skip)))
@[simp] def c252_n4 : SCode := (.seq (.region [.op 7 (.move (.t 0)), .op 8 (.bin .geq (.t 0) (.k (.c (.int .u64 65536))))] [2, 3, 0]) (.cond (.t 2) (.seq (.region [.op 9 (.move (.t 0)), .op 10 (.bin .shr (.t 0) (.k (.c (.int .u64 16)))), .op 0 (.move (.t 0))] [0, 4]) (.region [.op 11 (.move (.t 1)), .op 12 (.bin .add (.t 0) (.k (.c (.int .i64 16)))), .op 2 (.move (.t 0))] [3, 0])) (.pre [0, 1] .skip)))
@[simp] def c252_n6 : SCode := (.seq (.region [.op 13 (.move (.t 0)), .op 14 (.bin .geq (.t 0) (.k (.c (.int .u64 256))))] [2, 3, 0]) (.cond (.t 2) (.seq (.region [.op 15 (.move (.t 0)), .op 16 (.bin .shr (.t 0) (.k (.c (.int .u64 8)))), .op 0 (.move (.t 0))] [0, 4]) (.region [.op 17 (.move (.t 1)), .op 18 (.bin .add (.t 0) (.k (.c (.int .i64 8)))), .op 2 (.move (.t 0))] [3, 0])) (.pre [0, 1] .skip)))
@[simp] def c252_n8 : SCode := (.region [.op 19 (.move (.t 1)), .op 20 (.move (.t 1)), .op 21 (.conv .u8 (.t 0)), .op 22 (.indexStr (.k (.c (.str [0, 1, 2, 2, 3, 3, 3, 3, 4, 4, 4, 4, 4, 4, 4, 4, 5, 5, 5, 5, 5, 5, 5, 5, 5, 5, 5, 5, 5, 5, 5, 5, 6, 6, 6, 6, 6, 6, 6, 6, 6, 6, 6, 6, 6, 6, 6, 6, 6, 6, 6, 6, 6, 6, 6, 6, 6, 6, 6, 6, 6, 6, 6, 6, 7, 7, 7, 7, 7, 7, 7, 7, 7, 7, 7, 7, 7, 7, 7, 7, 7, 7, 7, 7, 7, 7, 7, 7, 7, 7, 7, 7, 7, 7, 7, 7, 7, 7, 7, 7, 7, 7, 7, 7, 7, 7, 7, 7, 7, 7, 7, 7, 7, 7, 7, 7, 7, 7, 7, 7, 7, 7, 7, 7, 7, 7, 7, 7, 8, 8, 8, 8, 8, 8, 8, 8, 8, 8, 8, 8, 8, 8, 8, 8, 8, 8, 8, 8, 8, 8, 8, 8, 8, 8, 8, 8, 8, 8, 8, 8, 8, 8, 8, 8, 8, 8, 8, 8, 8, 8, 8, 8, 8, 8, 8, 8, 8, 8, 8, 8, 8, 8, 8, 8, 8, 8, 8, 8, 8, 8, 8, 8, 8, 8, 8, 8, 8, 8, 8, 8, 8, 8, 8, 8, 8, 8, 8, 8, 8, 8, 8, 8, 8, 8, 8, 8, 8, 8, 8, 8, 8, 8, 8, 8, 8, 8, 8, 8, 8, 8, 8, 8, 8, 8, 8, 8, 8, 8, 8, 8, 8, 8, 8, 8, 8, 8, 8, 8, 8, 8, 8, 8, 8, 8, 8, 8]))) (.t 0)), .op 23 (.conv .i64 (.t 0)), .op 24 (.bin .add (.t 4) (.t 0)), .op 2 (.move (.t 0))] [0])
def c252_n7 : SCode := .seq c252_n8 .ret
def c252_n5 : SCode := .seq c252_n6 c252_n7
def c252_n3 : SCode := .seq c252_n4 c252_n5
def c252_n1 : SCode := .seq c252_n2 c252_n3
def c252 : SCode := (.seq (.region [.op 2 (.move (.k (.c (.int .i64 0))))] [1, 0]) c252_n1)
def F252 : SFunc := .code .pure 25 1 [some 2] [.tmp 0] c252
@[simp] def c258_n2 : SCode := (.draw 0 [.op 6 (.move (.t 1)), .op 7 (.move (.t 2)), .op 8 (.move (.t 3)), .op 9 (.fieldAddr 2 (.t 5)), .op 10 (.load none (.t 0)) none .var, .op 11 (.fieldAddr 3 (.t 7)), .op 12 (.load none (.t 0)) none .var, .op 13 (.nilCheck (.t 6)), .op 14 (.fieldAddr 0 (.t 0)), .eff (.store 1 (.t 0) (.k (.c (.str [111, 110])))) none .row, .op 15 (.nilCheck (.t 7)), .op 16 (.fieldAddr 2 (.t 0)), .eff (.store 1 (.t 0) (.t 6)) none .row, .op 17 (.nilCheck (.t 8)), .op 18 (.fieldAddr 3 (.t 0)), .eff (.store 1 (.t 0) (.t 6)) none .row] [13, 14])
@[simp] def c258_n4 : SCode := (.region [.op 19 (.move (.t 0)), .op 20 (.nilCheck (.t 0)), .op 21 (.fieldAddr 0 (.t 0)), .op 22 (.fieldAddr 0 (.t 0)), .op 23 (.load none (.t 0)), .op 24 (.bin .eql (.t 0) (.k (.c (.str [98, 111, 117, 108, 100, 101, 114]))))] [7, 0])
def c258_n3 : SCode := .seq c258_n4 (.cond (.t 1) (.region [.op 25 (.move (.t 0)), .op 26 (.call false (.k (.c (.func 216 [] []))) [(.t 0)]), .op 27 (.nilCheck (.t 0)), .op 28 (.fieldAddr 3 (.t 0)), .eff (.store 1 (.t 0) (.k (.c (.bool true))))] []) (.pre [] .skip))
def c258_n1 : SCode := .seq c258_n2 c258_n3
def c258 : SCode := (.seq (.region [.op 5 (.box (.t 2))] [1, 2, 0]) c258_n1)
def F258 : SFunc := .code .shared 29 3 [] [] c258
def c259 : SCode := (.seq (.region [.op 5 (.box (.t 2))] [2, 0]) (.region [.op 6 (.move (.t 0)), .op 7 (.move (.t 1)), .op 8 (.fieldAddr 2 (.t 3)), .op 9 (.load none (.t 0)), .op 10 (.nilCheck (.t 3)), .op 11 (.fieldAddr 5 (.t 0)), .eff (.store 1 (.t 0) (.t 2)), .op 12 (.nilCheck (.t 4)), .op 13 (.fieldAddr 6 (.t 0)), .eff (.store 1 (.t 0) (.k (.c (.bool false))))] []))
def F259 : SFunc := .code .shared 14 3 [] [] c259
def c260 : SCode := (.seq (.region [.op 5 (.box (.t 2))] [2]) (.region [.op 6 (.move (.t 0)), .op 7 (.nilCheck (.t 0)), .op 8 (.fieldAddr 6 (.t 0)), .eff (.store 1 (.t 0) (.k (.c (.bool true))))] []))
def F260 : SFunc := .code .shared 9 3 [] [] c260
@[simp] def c261_n2 : SCode := (.region [.op 6 (.move (.t 0)), .op 7 (.nilCheck (.t 0)), .op 8 (.fieldAddr 8 (.t 0)), .eff (.store 1 (.t 0) (.k (.c (.bool true))))] [3])
def c261_n1 : SCode := .seq c261_n2 (.region [.op 9 (.move (.t 0)), .op 10 (.call false (.k (.c (.func 216 [] []))) [(.t 0)]), .op 11 (.nilCheck (.t 0)), .op 12 (.fieldAddr 0 (.t 0)), .op 13 (.load none (.t 0)), .op 14 (.bin .add (.t 0) (.k (.c (.int .i64 1)))), .op 15 (.nilCheck (.t 4)), .op 16 (.fieldAddr 0 (.t 0)), .eff (.store 1 (.t 0) (.t 2))] [])
def c261 : SCode := (.seq (.region [.op 5 (.box (.t 2))] [2]) c261_n1)
def F261 : SFunc := .code .shared 17 3 [] [] c261
def c262 : SCode := (.seq (.region [.op 5 (.box (.t 2))] [2]) (.region [.op 6 (.move (.t 0)), .op 7 (.call false (.k (.c (.func 216 [] []))) [(.t 0)]), .op 8 (.move (.t 2)), .op 9 (.call false (.k (.c (.func 216 [] []))) [(.t 0)]), .op 10 (.nilCheck (.t 0)), .op 11 (.fieldAddr 0 (.t 0)), .op 12 (.load none (.t 0)), .op 13 (.nilCheck (.t 5)), .op 14 (.fieldAddr 1 (.t 0)), .eff (.store 1 (.t 0) (.t 2))] []))
def F262 : SFunc := .code .shared 15 3 [] [] c262
def c263_n2 : SCode := .cond (.t 3) (.seq (.region [.op 13 (.move (.t 1)), .op 14 (.nilCheck (.t 0)), .op 15 (.fieldAddr 7 (.t 0)), .eff (.store 1 (.t 0) (.k (.c (.bool true))))] [3, 4, 5]) (.seq (.region [.op 16 (.move (.t 0)), .op 17 (.move (.t 2)), .op 18 (.load (some 4) (.t 4)), .op 19 (.call false (.k (.c (.func 294 [] []))) [(.t 2), (.t 1), (.t 0)])] []) .ret)) (.pre [1] .skip)
@[simp] def c263_n3 : SCode := (.seq (.region [.op 7 (.move (.t 0)), .op 8 (.nilCheck (.t 0)), .op 9 (.fieldAddr 0 (.t 0)), .op 10 (.fieldAddr 0 (.t 0)), .op 11 (.load none (.t 0)), .op 12 (.bin .eql (.t 0) (.k (.c (.str [108, 101, 97, 100]))))] [6, 7, 8, 0]) c263_n2)
@[simp] def c263_n5 : SCode := (.region [.op 20 (.move (.t 0)), .op 21 (.call false (.k (.c (.func 216 [] []))) [(.t 0)]), .op 6 (.move (.t 0))] [3, 0])
@[simp] def c263_n7 : SCode := (.region [.op 22 (.move (.t 1)), .op 23 (.move (.t 2)), .op 24 (.nilCheck (.t 0)), .op 25 (.fieldAddr 0 (.t 0)), .op 26 (.load none (.t 0)), .op 27 (.nilCheck (.t 4)), .op 28 (.fieldAddr 2 (.t 0)), .eff (.store 1 (.t 0) (.t 2))] [7, 8])
@[simp] def c263_n9 : SCode := (.seq (.region [.op 29 (.move (.t 1)), .op 30 (.nilCheck (.t 0)), .op 31 (.fieldAddr 1 (.t 0)), .op 32 (.load none (.t 0)), .op 33 (.bin .eql (.t 0) (.k (.c (.int .i64 0))))] [5, 6, 0]) (.cond (.t 2) (.region [.op 34 (.move (.t 1)), .op 35 (.move (.t 2)), .op 36 (.nilCheck (.t 0)), .op 37 (.fieldAddr 0 (.t 0)), .op 38 (.load none (.t 0)), .op 39 (.nilCheck (.t 4)), .op 40 (.fieldAddr 1 (.t 0)), .eff (.store 1 (.t 0) (.t 2))] [7]) (.pre [0] .skip)))
def c263_n8 : SCode := .seq c263_n9 (.region [.op 41 (.move (.t 0)), .op 42 (.nilCheck (.t 0)), .op 43 (.fieldAddr 8 (.t 0)), .eff (.store 1 (.t 0) (.k (.c (.bool false))))] [])
def c263_n6 : SCode := .seq c263_n7 c263_n8
def c263_n4 : SCode := .seq c263_n5 c263_n6
def c263_n1 : SCode := .seq c263_n3 c263_n4
def c263 : SCode := (.seq (.region [.op 5 (.box (.t 2))] [1, 2, 0]) c263_n1)
def F263 : SFunc := .code .shared 44 3 [] [] c263
@[simp] def c264_n2 : SCode := (.region [.op 6 (.move (.t 0)), .op 7 (.nilCheck (.t 0)), .op 8 (.fieldAddr 0 (.t 0)), .op 9 (.fieldAddr 0 (.t 0)), .op 10 (.load none (.t 0))] [5, 6, 7, 0])
@[simp] def c264_n5 : SCode := (.region [.op 15 (.bin .eql (.t 3) (.k (.c (.str [108, 101, 97, 100])))), .op 14 (.move (.t 0))] [2, 3, 4, 5, 0])
@[simp] def c264_n8 : SCode := (.region [.op 21 (.bin .eql (.t 3) (.k (.c (.str [98, 111, 117, 108, 100, 101, 114])))), .op 20 (.move (.t 0))] [2, 3, 0])
def c264_n7 : SCode := .seq c264_n8 (.cond (.t 2) (.region [.op 22 (.move (.t 1)), .op 23 (.nilCheck (.t 0)), .op 24 (.fieldAddr 8 (.t 0)), .eff (.store 1 (.t 0) (.k (.c (.bool false))))] []) (.region [.op 11 (.move (.t 0)), .op 12 (.move (.t 2)), .op 13 (.call false (.k (.c (.func 269 [] []))) [(.t 1), (.t 0), (.k (.c (.int .i64 0)))])] []))
def c264_n6 : SCode := .cond (.t 4) (.region [.op 16 (.move (.t 0)), .op 17 (.move (.t 2)), .op 18 (.load (some 4) (.t 4)), .op 19 (.call false (.k (.c (.func 294 [] []))) [(.t 2), (.t 1), (.t 0)])] []) c264_n7
def c264_n4 : SCode := .seq c264_n5 c264_n6
def c264_n3 : SCode := .block 0 [] c264_n4
instance : IsBlock c264_n3 0 [] c264_n4 := ⟨rfl⟩
def c264_n1 : SCode := .seq c264_n2 c264_n3
def c264 : SCode := (.seq (.region [.op 5 (.box (.t 2))] [1, 2, 0]) c264_n1)
def F264 : SFunc := .code .shared 25 3 [] [] c264
def c265 : SCode := (.seq (.region [.op 5 (.box (.t 2))] [2]) (.region [.op 6 (.move (.t 0)), .op 7 (.call false (.k (.c (.func 266 [] []))) [(.t 0)])] []))
def F265 : SFunc := .code .shared 8 3 [] [] c265
@[simp] def c266_n2 : SCode := (.seq (.region [.op 8 (.move (.t 1))] [1, 0]) (.cond (.t 1) (.seq (.region [.op 9 (.move (.t 0)), .op 10 (.call false (.k (.c (.func 296 [] []))) [(.t 0), (.k (.c (.str [119, 97, 105, 116, 105, 110, 103])))])] []) .ret) (.pre [0] .skip)))
def c266_n1 : SCode := .seq c266_n2 (.region [.op 11 (.move (.t 0)), .op 12 (.call false (.k (.c (.func 296 [] []))) [(.t 0), (.k (.c (.str [100, 111, 110, 101])))])] [])
def c266 : SCode := (.seq (.region [.op 3 (.move (.t 0)), .op 4 (.nilCheck (.t 0)), .op 5 (.fieldAddr 9 (.t 0)), .op 6 (.load none (.t 0)), .op 7 (.call false (.k (.c (.func 277 [] []))) [(.t 0), (.k (.c (.func 295 [] [])))]), .op 2 (.move (.t 0))] [6, 0]) c266_n1)
def F266 : SFunc := .code .shared 13 1 [] [] c266
@[simp] def c267_n2 : SCode := (.seq (.region [.op 6 (.move (.t 0)), .op 7 (.nilCheck (.t 0)), .op 8 (.fieldAddr 0 (.t 0)), .op 9 (.fieldAddr 0 (.t 0)), .op 10 (.load none (.t 0)), .op 11 (.bin .eql (.t 0) (.k (.c (.str [108, 101, 97, 100]))))] [6, 7, 8, 0]) (.cond (.t 3) (.seq (.region [.op 12 (.move (.t 0)), .op 13 (.move (.t 2)), .op 14 (.load (some 4) (.t 4)), .op 15 (.call false (.k (.c (.func 294 [] []))) [(.t 2), (.t 1), (.t 0)])] []) .ret) (.pre [1] .skip)))
def c267_n1 : SCode := .seq c267_n2 (.region [.op 16 (.move (.t 0)), .op 17 (.call false (.k (.c (.func 266 [] []))) [(.t 0)])] [])
def c267 : SCode := (.seq (.region [.op 5 (.box (.t 2))] [1, 2, 0]) c267_n1)
def F267 : SFunc := .code .shared 18 3 [] [] c267
def c268 : SCode := (.seq (.region [.op 5 (.box (.t 2))] [1, 2, 0]) (.region [.op 6 (.move (.t 0)), .op 7 (.move (.t 2)), .op 8 (.fieldAddr 2 (.t 4)), .op 9 (.load none (.t 0)), .op 10 (.call false (.k (.c (.func 269 [] []))) [(.t 3), (.t 2), (.t 0)])] []))
def F268 : SFunc := .code .shared 11 3 [] [] c268
@[simp] def c269_n2 : SCode := (.region [.op 17 (.move (.t 1)), .op 18 (.call false (.k (.c (.func 296 [] []))) [(.t 0), (.k (.c (.str [119, 97, 105, 116, 105, 110, 103])))])] [2, 3])
@[simp] def c269_n4 : SCode := (.seq (.draw 0 [.op 19 (.move (.t 1)), .op 20 (.nilCheck (.t 0)), .op 21 (.fieldAddr 10 (.t 0)), .op 22 (.load none (.t 0)) none .row, .op 23 (.len 1 (.t 0)) none .old, .op 24 (.move (.t 5)), .op 25 (.nilCheck (.t 0)), .op 26 (.fieldAddr 0 (.t 0)), .op 27 (.fieldAddr 2 (.t 0)), .op 28 (.load none (.t 0)) none .var, .op 29 (.bin .lss (.t 5) (.t 0))] [12, 0]) (.cond (.t 1) (.pre [] .ret) (.pre [0] .skip)))
@[simp] def c269_n6 : SCode := (.region [.op 30 (.move (.t 0)), .op 31 (.call false (.k (.c (.func 296 [] []))) [(.t 0), (.k (.c (.str [100, 111, 110, 101])))])] [2])
@[simp] def c269_n8 : SCode := (.region [.op 32 (.move (.t 0)), .op 33 (.nilCheck (.t 0)), .op 34 (.fieldAddr 10 (.t 0)), .op 35 (.load none (.t 0)), .op 36 (.call false (.k (.c (.func 177 [] []))) [(.t 0)]), .op 37 (.bin .eql (.t 0) (.k (.c (.int .i64 0))))] [6, 0])
def c269_n7 : SCode := .seq c269_n8 (.cond (.t 1) (.region [.op 38 (.move (.t 0)), .op 39 (.nilCheck (.t 0)), .op 40 (.fieldAddr 1 (.t 0)), .eff (.store 1 (.t 0) (.k (.c (.str [100, 110, 102]))))] []) (.pre [] .skip))
def c269_n5 : SCode := .seq c269_n6 c269_n7
def c269_n3 : SCode := .seq c269_n4 c269_n5
def c269_n1 : SCode := .seq c269_n2 c269_n3
def c269 : SCode := (.seq (.region [.op 6 (.move (.t 1)), .op 7 (.move (.t 2)), .op 8 (.nilCheck (.t 0)), .op 9 (.fieldAddr 10 (.t 0)), .op 10 (.load none (.t 0)), .op 11 (.call false (.k (.c (.func 118 [] []))) [(.t 0)]), .op 12 (.move (.t 8)), .op 13 (.buildSlice 2 none 1 [(.c (.int .i64 0))] [(0, (.t 0))]), .op 14 (.append none 8 (.t 2) (.t 0)), .op 15 (.nilCheck (.t 8)), .op 16 (.fieldAddr 10 (.t 0)), .eff (.store 1 (.t 0) (.t 2))] [11, 12]) c269_n1)
def F269 : SFunc := .code .shared 41 3 [] [] c269
def c270 : SCode := (.seq (.region [.op 5 (.box (.t 2))] [2]) (.region [.op 6 (.move (.t 0)), .op 7 (.call false (.k (.c (.func 271 [] []))) [(.t 0), (.k (.c (.str [100, 115, 113])))])] []))
def F270 : SFunc := .code .shared 8 3 [] [] c270
def c271 : SCode := (.seq (.region [.op 4 (.move (.t 0)), .op 5 (.call false (.k (.c (.func 296 [] []))) [(.t 0), (.k (.c (.str [100, 111, 110, 101])))])] [2, 3]) (.region [.op 6 (.move (.t 0)), .op 7 (.move (.t 2)), .op 8 (.nilCheck (.t 1)), .op 9 (.fieldAddr 1 (.t 0)), .eff (.store 1 (.t 0) (.t 2))] []))
def F271 : SFunc := .code .shared 10 2 [] [] c271
@[simp] def c272_n4 : SCode := (.region [.op 13 (.move (.t 0)), .op 14 (.call false (.k (.c (.func 296 [] []))) [(.t 0), (.k (.c (.str [119, 97, 105, 116, 105, 110, 103])))])] [2])
def c272_n3 : SCode := .seq c272_n4 (.seq (.region [.op 15 (.move (.t 0)), .op 16 (.move (.t 1)), .op 17 (.nilCheck (.t 1)), .op 18 (.fieldAddr 5 (.t 0)), .eff (.store 1 (.t 0) (.k (.c (.int .i64 0)))), .op 19 (.nilCheck (.t 2)), .op 20 (.fieldAddr 6 (.t 0)), .eff (.store 1 (.t 0) (.k (.c (.bool false))))] []) .ret)
def c272_n2 : SCode := .cond (.t 1) c272_n3 (.pre [0] .skip)
@[simp] def c272_n5 : SCode := (.seq (.region [.op 7 (.move (.t 0)), .op 8 (.nilCheck (.t 0)), .op 9 (.fieldAddr 0 (.t 0)), .op 10 (.fieldAddr 0 (.t 0)), .op 11 (.load none (.t 0)), .op 12 (.bin .neq (.t 0) (.k (.c (.str [98, 111, 117, 108, 100, 101, 114]))))] [7, 0]) c272_n2)
@[simp] def c272_n7 : SCode := (.region [.op 21 (.move (.t 0)), .op 22 (.call false (.k (.c (.func 216 [] []))) [(.t 0)]), .op 6 (.move (.t 0))] [3, 0])
@[simp] def c272_n9 : SCode := (.seq (.draw 0 [.op 23 (.move (.t 1)), .op 24 (.nilCheck (.t 0)), .op 25 (.fieldAddr 1 (.t 0)), .op 26 (.load none (.t 0)) none .row, .op 27 (.move (.t 5)), .op 28 (.nilCheck (.t 0)), .op 29 (.fieldAddr 0 (.t 0)), .op 30 (.load none (.t 0)) none .row, .op 31 (.bin .eql (.t 4) (.t 0))] [9, 10, 0]) (.cond (.t 2) (.region [.op 32 (.move (.t 1)), .op 33 (.nilCheck (.t 0)), .op 34 (.fieldAddr 1 (.t 0)), .eff (.store 1 (.t 0) (.k (.c (.int .i64 0))))] [3, 4]) (.pre [0, 1] .skip)))
@[simp] def c272_n11 : SCode := (.region [.op 35 (.move (.t 1)), .op 36 (.nilCheck (.t 0)), .op 37 (.fieldAddr 0 (.t 0)), .op 38 (.load none (.t 0)), .op 39 (.bin .sub (.t 0) (.k (.c (.int .i64 1)))), .op 40 (.nilCheck (.t 4)), .op 41 (.fieldAddr 0 (.t 0)), .eff (.store 1 (.t 0) (.t 2))] [7])
def c272_n10 : SCode := .seq c272_n11 (.region [.op 42 (.move (.t 0)), .op 43 (.nilCheck (.t 0)), .op 44 (.fieldAddr 8 (.t 0)), .eff (.store 1 (.t 0) (.k (.c (.bool false))))] [])
def c272_n8 : SCode := .seq c272_n9 c272_n10
def c272_n6 : SCode := .seq c272_n7 c272_n8
def c272_n1 : SCode := .seq c272_n5 c272_n6
def c272 : SCode := (.seq (.region [.op 5 (.box (.t 2))] [1, 2]) c272_n1)
def F272 : SFunc := .code .shared 45 3 [] [] c272
def c273 : SCode := (.seq (.region [.op 5 (.box (.t 2))] [2]) (.region [.op 6 (.move (.t 0)), .op 7 (.call false (.k (.c (.func 271 [] []))) [(.t 0), (.k (.c (.str [100, 110, 115])))])] []))
def F273 : SFunc := .code .shared 8 3 [] [] c273
def c274 : SCode := (.seq (.region [.op 5 (.box (.t 2))] [2]) (.region [.op 6 (.move (.t 0)), .op 7 (.call false (.k (.c (.func 271 [] []))) [(.t 0), (.k (.c (.str [100, 115, 113])))])] []))
def F274 : SFunc := .code .shared 8 3 [] [] c274
def c275_n3 : SCode := .seq (.region [.op 10 (.move (.t 3)), .op 5 (.move (.t 0))] [2, 3, 0, 4, 5]) (.seq (.region [.op 11 (.move (.t 1)), .op 12 (.move (.t 1)), .op 13 (.move (.t 4)), .op 14 (.idxSlice 1 (.t 1) (.t 0)), .op 15 (.load none (.t 0)), .op 16 (.call false (.t 4) [(.t 0)])] [6, 7, 8, 9, 10, 0]) (.cond (.t 5) (.seq (.region [.op 17 (.move (.t 2)), .op 4 (.move (.t 0))] [0]) .ret) (.pre [0, 1, 3, 4] .skip)))
def c275_n2 : SCode := .seq (.block 1 [some 0, some 1, some 7, some 8] c275_n3) (.region [.op 18 (.bin .add (.t 3) (.k (.c (.int .i64 1)))), .op 8 (.move (.t 0))] [2, 3, 4, 0])
def c275_n1 : SCode := .seq (.cond (.t 4) (.pre [0, 1, 2, 3] .skip) (.pre [] (.exit 0))) c275_n2
def c275_l0b : SCode := (.seq (.region [.op 9 (.bin .lss (.t 3) (.t 2))] [1, 2, 3, 4, 0]) c275_n1)
def c275_l0 : SCode := .loop true c275_l0b
def c275 : SCode := (.seq (.region [.op 4 (.move (.k (.c (.int .i64 0))))] [1, 2]) (.seq (.seq (.region [.op 6 (.move (.t 0)), .op 7 (.len 1 (.t 0)), .op 8 (.move (.k (.c (.int .i64 0))))] [3, 4, 1, 0]) (.block 0 [] c275_l0)) (.seq (.region [.op 4 (.move (.k (.c (.int .i64 (-1)))))] [0]) .ret)))
def F275 : SFunc := .code .live 19 2 [some 4] [.tmp 0] c275
def c276 : SCode := (.seq (.region [.op 2 (.move (.k (.c (.bool false))))] [1]) (.seq (.region [.op 3 (.move (.t 0)), .op 4 (.call false (.t 0) []), .op 5 (.not (.t 0)), .op 2 (.move (.t 0))] [0]) .ret))
def F276 : SFunc := .code .live 6 1 [some 2] [.tmp 0] c276
def c277 : SCode := (.seq (.region [.op 4 (.move (.k (.c (.bool false))))] [1, 2]) (.seq (.region [.op 5 (.move (.t 0)), .op 6 (.move (.t 2)), .op 7 (.call false (.k (.c (.func 297 [] []))) [(.t 1), (.t 0)]), .op 8 (.bin .geq (.t 0) (.k (.c (.int .i64 0)))), .op 4 (.move (.t 0))] [0]) .ret))
def F277 : SFunc := .code .pure 9 2 [some 4] [.tmp 0] c277
def c278 : SCode := (.seq (.region [.op 1 (.box (.t 0)), .op 2 (.move (.k (.c (.bool false))))] [1]) (.seq (.region [.op 3 (.fieldAddr 3 (.t 0)), .op 4 (.load none (.t 0)), .op 2 (.move (.t 0))] [0]) .ret))
def F278 : SFunc := .code .pure 5 1 [some 2] [.tmp 0] c278
@[simp] def c279_n2 : SCode := (.region [.op 11 (.move (.t 3)), .op 12 (.bin .mul (.k (.c (.int .i64 2))) (.t 0)), .op 13 (.bin .add (.t 0) (.k (.c (.int .i64 1)))), .op 9 (.move (.t 0))] [4, 5, 6, 7, 0])
@[simp] def c279_n4 : SCode := (.seq (.region [.op 14 (.move (.t 4)), .op 15 (.move (.t 2)), .op 16 (.bin .geq (.t 1) (.t 0))] [3, 4, 5, 6, 7, 0]) (.cond (.t 5) (.pre [] (.exit 0)) (.pre [0, 1, 2, 3, 4] .skip)))
@[simp] def c279_n6 : SCode := (.seq (.draw 0 [.op 17 (.move (.t 4)), .op 18 (.bin .add (.t 0) (.k (.c (.int .i64 1)))), .op 19 (.move (.t 3)), .op 20 (.bin .lss (.t 1) (.t 0)), .op 21 (.move (.t 0)), .andN 36 0 [.op 22 (.move (.t 5)), .op 23 (.move (.t 8)), .op 24 (.move (.t 11)), .op 25 (.bin .add (.t 1) (.t 0)), .op 26 (.idxSlice 1 (.t 3) (.t 0)), .op 27 (.load none (.t 0)) none .old, .op 28 (.move (.t 11)), .op 29 (.move (.t 14)), .op 30 (.move (.t 17)), .op 31 (.bin .add (.t 1) (.t 0)), .op 32 (.bin .add (.t 0) (.k (.c (.int .i64 1)))), .op 33 (.idxSlice 1 (.t 4) (.t 0)), .op 34 (.load none (.t 0)) none .old, .op 35 (.call false (.k (.c (.func 248 [] []))) [(.t 7), (.t 0)])] (.t 0)] [6, 7, 8, 9, 10, 0]) (.cond (.t 5) (.region [.op 37 (.move (.t 4)), .op 38 (.bin .add (.t 0) (.k (.c (.int .i64 1)))), .op 9 (.move (.t 0))] [3, 4, 5, 6, 0]) (.pre [0, 1, 2, 3, 4] .skip)))
@[simp] def c279_n8 : SCode := (.seq (.draw 0 [.op 39 (.move (.t 0)), .op 40 (.move (.t 3)), .op 41 (.move (.t 5)), .op 42 (.bin .add (.t 1) (.t 0)), .op 43 (.idxSlice 1 (.t 3) (.t 0)), .op 44 (.load none (.t 0)) none .old, .op 45 (.move (.t 6)), .op 46 (.move (.t 9)), .op 47 (.move (.t 12)), .op 48 (.bin .add (.t 1) (.t 0)), .op 49 (.idxSlice 1 (.t 3) (.t 0)), .op 50 (.load none (.t 0)) none .old, .op 51 (.call false (.k (.c (.func 248 [] []))) [(.t 6), (.t 0)]), .op 52 (.not (.t 0))] [14, 15, 16, 17, 18, 0]) (.cond (.t 5) (.pre [] .ret) (.pre [0, 1, 2, 3, 4] .skip)))
@[simp] def c279_n10 : SCode := (.draw 0 [.op 53 (.move (.t 0)), .op 54 (.move (.t 3)), .op 55 (.move (.t 5)), .op 56 (.bin .add (.t 1) (.t 0)), .op 57 (.move (.t 4)), .op 58 (.move (.t 7)), .op 59 (.move (.t 10)), .op 60 (.bin .add (.t 1) (.t 0)), .op 61 (.move (.t 8)), .op 62 (.move (.t 11)), .op 63 (.move (.t 14)), .op 64 (.bin .add (.t 1) (.t 0)), .op 65 (.idxSlice 1 (.t 3) (.t 0)), .op 66 (.load none (.t 0)) none .old, .op 67 (.move (.t 14)), .op 68 (.move (.t 17)), .op 69 (.move (.t 19)), .op 70 (.bin .add (.t 1) (.t 0)), .op 71 (.idxSlice 1 (.t 3) (.t 0)), .op 72 (.load none (.t 0)) none .old, .op 73 (.idxSlice 1 (.t 19) (.t 16)), .eff (.store 1 (.t 0) (.t 7)) none .old, .op 74 (.idxSlice 1 (.t 16) (.t 13)), .eff (.store 1 (.t 0) (.t 2)) none .old] [22, 23, 24, 26])
def c279_n9 : SCode := .seq c279_n10 (.region [.op 75 (.move (.t 3)), .op 8 (.move (.t 0))] [2, 3, 4, 0])
def c279_n7 : SCode := .seq c279_n8 c279_n9
def c279_n5 : SCode := .seq c279_n6 c279_n7
def c279_n3 : SCode := .seq c279_n4 c279_n5
def c279_n1 : SCode := .seq c279_n2 c279_n3
def c279_l0b : SCode := (.block 1 [some 0, some 2, some 3, some 8] c279_n1)
def c279_l0 : SCode := .loop true c279_l0b
def c279 : SCode := (.seq (.region [.op 10 (.move (.t 1)), .op 8 (.move (.t 0))] [2, 4, 5, 0]) (.block 0 [] c279_l0))
def F279 : SFunc := .code .pure 76 4 [] [] c279
def c280 : SCode := (.seq (.region [.op 2 (.move (.k (.c (.int .u64 0))))] [1]) (.seq (.region [.op 3 (.move (.t 0)), .op 4 (.conv .u64 (.t 0)), .op 5 (.call false (.k (.c (.func 204 [] []))) [(.t 0)]), .op 6 (.bin .shl (.k (.c (.int .u64 1))) (.t 0)), .op 2 (.move (.t 0))] [0]) .ret))
def F280 : SFunc := .code .pure 7 1 [some 2] [.tmp 0] c280
@[simp] def c281_n2 : SCode := (.draw 0 [.op 3 (.move (.t 0)), .op 4 (.nilCheck (.t 0)), .op 5 (.load none (.t 0)) none .var, .op 6 (.move (.t 3)), .op 7 (.nilCheck (.t 0)), .op 8 (.load none (.t 0)) none .var, .op 9 (.bin .shl (.t 0) (.k (.c (.int .u64 13)))), .op 10 (.bin .xor (.t 4) (.t 0)), .op 11 (.nilCheck (.t 7)), .eff (.store 1 (.t 0) (.t 1)) none .var] [9])
@[simp] def c281_n4 : SCode := (.draw 0 [.op 12 (.move (.t 0)), .op 13 (.nilCheck (.t 0)), .op 14 (.load none (.t 0)) none .var, .op 15 (.move (.t 3)), .op 16 (.nilCheck (.t 0)), .op 17 (.load none (.t 0)) none .var, .op 18 (.bin .shr (.t 0) (.k (.c (.int .u64 7)))), .op 19 (.bin .xor (.t 4) (.t 0)), .op 20 (.nilCheck (.t 7)), .eff (.store 1 (.t 0) (.t 1)) none .var] [9])
@[simp] def c281_n6 : SCode := (.draw 0 [.op 21 (.move (.t 0)), .op 22 (.nilCheck (.t 0)), .op 23 (.load none (.t 0)) none .var, .op 24 (.move (.t 3)), .op 25 (.nilCheck (.t 0)), .op 26 (.load none (.t 0)) none .var, .op 27 (.bin .shl (.t 0) (.k (.c (.int .u64 17)))), .op 28 (.bin .xor (.t 4) (.t 0)), .op 29 (.nilCheck (.t 7)), .eff (.store 1 (.t 0) (.t 1)) none .var] [9])
def c281_n5 : SCode := .seq c281_n6 (.seq (.region [.op 30 (.move (.t 0)), .op 31 (.nilCheck (.t 0)), .op 32 (.load none (.t 0)), .op 2 (.move (.t 0))] [0]) .ret)
def c281_n3 : SCode := .seq c281_n4 c281_n5
def c281_n1 : SCode := .seq c281_n2 c281_n3
def c281 : SCode := (.seq (.region [.op 2 (.move (.k (.c (.int .u64 0))))] [1]) c281_n1)
def F281 : SFunc := .code .pure 33 1 [some 2] [.tmp 0] c281
@[simp] def c282_n2 : SCode := (.region [.op 7 (.move (.t 0)), .op 8 (.move (.t 2)), .op 9 (.bin .sub (.t 0) (.k (.c (.int .i64 1)))), .op 10 (.move (.t 4)), .op 11 (.move (.t 5)), .op 12 (.bin .add (.t 0) (.k (.c (.int .i64 1)))), .op 13 (.move (.t 8)), .op 14 (.call false (.k (.c (.func 283 [] []))) [(.t 6), (.t 4), (.t 3), (.t 1), (.t 0)]), .op 6 (.move (.t 0))] [0])
def c282_n1 : SCode := .seq c282_n2 .ret
def c282 : SCode := (.seq (.region [.op 6 (.move (.k (.c (.int .i64 0))))] [1, 2, 3]) c282_n1)
def F282 : SFunc := .code .pure 15 3 [some 6] [.tmp 0] c282
@[simp] def c283_n2 : SCode := (.region [.op 12 (.move (.t 0)), .op 13 (.move (.t 2)), .op 14 (.move (.t 4)), .op 15 (.move (.t 7)), .op 16 (.call false (.k (.c (.func 298 [] []))) [(.t 3), (.t 2), (.t 1), (.t 0)]), .op 11 (.move (.t 0)), .op 17 (.extract (.t 0) 0), .op 18 (.extract (.t 1) 1), .op 1 (.move (.t 1)), .op 2 (.move (.t 1))] [10, 1, 0, 13, 14])
@[simp] def c283_n4 : SCode := (.region [.op 20 (.move (.t 0)), .op 21 (.move (.t 3)), .op 22 (.move (.t 5)), .op 23 (.move (.t 7)), .op 24 (.call false (.k (.c (.func 298 [] []))) [(.t 3), (.t 2), (.t 1), (.t 0)]), .op 19 (.move (.t 0)), .op 25 (.extract (.t 0) 0), .op 26 (.extract (.t 1) 1), .op 2 (.move (.t 1)), .op 3 (.move (.t 1))] [10, 11, 1, 14])
@[simp] def c283_n6 : SCode := (.region [.op 28 (.move (.t 0)), .op 29 (.move (.t 2)), .op 30 (.move (.t 4)), .op 31 (.move (.t 6)), .op 32 (.call false (.k (.c (.func 298 [] []))) [(.t 3), (.t 2), (.t 1), (.t 0)]), .op 27 (.move (.t 0)), .op 33 (.extract (.t 0) 0), .op 34 (.extract (.t 1) 1), .op 1 (.move (.t 1)), .op 2 (.move (.t 1))] [0])
def c283_n5 : SCode := .seq c283_n6 (.seq (.region [.op 35 (.move (.t 0)), .op 10 (.move (.t 0))] [0]) .ret)
def c283_n3 : SCode := .seq c283_n4 c283_n5
def c283_n1 : SCode := .seq c283_n2 c283_n3
def c283 : SCode := (.seq (.region [.op 10 (.move (.k (.c (.int .i64 0))))] [1, 2, 3, 4, 5]) c283_n1)
def F283 : SFunc := .code .pure 36 5 [some 10] [.tmp 0] c283
@[simp] def c294_n2 : SCode := (.region [.op 6 (.move (.t 1)), .op 7 (.call false (.k (.c (.func 296 [] []))) [(.t 0), (.k (.c (.str [100, 111, 110, 101])))])] [2, 3, 4])
@[simp] def c294_n3 : SCode := (.draw 0 [.op 8 (.move (.t 1)), .op 9 (.fieldAddr 3 (.t 3)), .op 10 (.load none (.t 0)) none .var, .op 11 (.move (.t 4)), .op 12 (.nilCheck (.t 0)), .op 13 (.fieldAddr 3 (.t 0)), .op 14 (.load none (.t 0)) none .row, .op 15 (.bin .sub (.t 4) (.t 0)), .op 16 (.move (.t 8)), .op 17 (.nilCheck (.t 0)), .op 18 (.fieldAddr 0 (.t 0)), .op 19 (.fieldAddr 3 (.t 0)), .op 20 (.load none (.t 0)) none .var, .op 21 (.min (.t 5) [(.t 0)]), .op 22 (.nilCheck (.t 13)), .op 23 (.fieldAddr 4 (.t 0)), .eff (.store 1 (.t 0) (.t 2)) none .row] [])
def c294_n1 : SCode := .seq c294_n2 c294_n3
def c294 : SCode := (.seq (.region [.op 5 (.box (.t 2))] [1, 2, 0]) c294_n1)
def F294 : SFunc := .code .shared 24 3 [] [] c294
def c295 : SCode := (.seq (.region [.op 1 (.box (.t 0)), .op 2 (.move (.k (.c (.bool false))))] [1]) (.seq (.region [.op 3 (.fieldAddr 3 (.t 0)), .op 4 (.load none (.t 0)), .op 5 (.not (.t 0)), .op 2 (.move (.t 0))] [0]) .ret))
def F295 : SFunc := .code .pure 6 1 [some 2] [.tmp 0] c295
def c296 : SCode := (.region [.op 4 (.move (.t 0)), .op 5 (.move (.t 1)), .op 6 (.move (.t 2)), .op 7 (.move (.t 4)), .op 8 (.nilCheck (.t 3)), .op 9 (.fieldAddr 0 (.t 0)), .eff (.store 1 (.t 0) (.t 2)), .op 10 (.nilCheck (.t 4)), .op 11 (.fieldAddr 2 (.t 0)), .eff (.store 1 (.t 0) (.k (.c (.int .i64 0)))), .op 12 (.nilCheck (.t 5)), .op 13 (.fieldAddr 8 (.t 0)), .eff (.store 1 (.t 0) (.k (.c (.bool false))))] [])
def F296 : SFunc := .code .shared 14 2 [] [] c296
def c297_n3 : SCode := .seq (.region [.op 10 (.move (.t 3)), .op 5 (.move (.t 0))] [2, 3, 0, 4, 5]) (.seq (.region [.op 11 (.move (.t 1)), .op 12 (.move (.t 1)), .op 13 (.move (.t 4)), .op 14 (.idxSlice 4 (.t 1) (.t 0)), .op 15 (.load (some 4) (.t 0)), .op 16 (.call false (.t 4) [(.t 0)])] [6, 7, 8, 9, 10, 0]) (.cond (.t 5) (.seq (.region [.op 17 (.move (.t 2)), .op 4 (.move (.t 0))] [0]) .ret) (.pre [0, 1, 3, 4] .skip)))
def c297_n2 : SCode := .seq (.block 1 [some 0, some 1, some 7, some 8] c297_n3) (.region [.op 18 (.bin .add (.t 3) (.k (.c (.int .i64 1)))), .op 8 (.move (.t 0))] [2, 3, 4, 0])
def c297_n1 : SCode := .seq (.cond (.t 4) (.pre [0, 1, 2, 3] .skip) (.pre [] (.exit 0))) c297_n2
def c297_l0b : SCode := (.seq (.region [.op 9 (.bin .lss (.t 3) (.t 2))] [1, 2, 3, 4, 0]) c297_n1)
def c297_l0 : SCode := .loop true c297_l0b
def c297 : SCode := (.seq (.region [.op 4 (.move (.k (.c (.int .i64 0))))] [1, 2]) (.seq (.seq (.region [.op 6 (.move (.t 0)), .op 7 (.len 1 (.t 0)), .op 8 (.move (.k (.c (.int .i64 0))))] [3, 4, 1, 0]) (.block 0 [] c297_l0)) (.seq (.region [.op 4 (.move (.k (.c (.int .i64 (-1)))))] [0]) .ret)))
def F297 : SFunc := .code .pure 19 2 [some 4] [.tmp 0] c297
def c298_n2 : SCode := .cond (.t 3) (.seq (.region [.op 19 (.move (.t 2)), .op 20 (.nilCheck (.t 0)), .op 21 (.load none (.t 0)), .op 22 (.bin .add (.t 0) (.k (.c (.int .i64 1)))), .op 23 (.nilCheck (.t 3)), .eff (.store 1 (.t 0) (.t 1))] [5, 6]) (.seq (.region [.op 24 (.move (.t 1)), .op 25 (.move (.t 1)), .op 8 (.move (.t 1)), .op 9 (.move (.t 1))] [1, 0]) .ret)) (.pre [0, 1] .skip)
@[simp] def c298_n3 : SCode := (.seq (.draw 0 [.op 10 (.move (.t 0)), .op 11 (.move (.t 3)), .op 12 (.idxSlice 1 (.t 1) (.t 0)), .op 13 (.load none (.t 0)) none .old, .op 14 (.move (.t 4)), .op 15 (.move (.t 6)), .op 16 (.idxSlice 1 (.t 1) (.t 0)), .op 17 (.load none (.t 0)) none .old, .op 18 (.call false (.k (.c (.func 248 [] []))) [(.t 4), (.t 0)])] [10, 11, 12, 0]) c298_n2)
def c298_n1 : SCode := .seq c298_n3 (.seq (.region [.op 26 (.move (.t 0)), .op 27 (.move (.t 2)), .op 8 (.move (.t 1)), .op 9 (.move (.t 1))] [1, 0]) .ret)
def c298 : SCode := (.seq (.region [.op 8 (.move (.k (.c (.int .i64 0)))), .op 9 (.move (.k (.c (.int .i64 0))))] [2, 3, 4, 5]) c298_n1)
def F298 : SFunc := .code .pure 28 4 [some 8, some 9] [.tmp 0, .tmp 1] c298
end LM.GZ
namespace LM.GZ
open Go LM
def table0 : List (Nat × SFunc) := [(7, F7), (26, F26), (36, F36), (39, F39), (40, F40), (44, F44), (45, F45), (46, F46), (47, F47), (48, F48), (49, F49), (52, F52), (55, F55), (60, F60), (61, F61), (74, F74), (80, F80), (82, F82), (85, F85), (86, F86), (101, F101), (102, F102), (103, F103), (104, F104), (105, F105), (106, F106), (108, F108), (109, F109), (111, F111), (112, F112), (113, F113), (114, F114), (115, F115), (116, F116), (117, F117), (118, .fprim 1 (cloneP none 8)), (119, F119), (120, F120), (121, F121), (123, F123), (124, F124), (125, F125), (126, F126), (127, F127), (133, F133), (143, F143), (148, F148), (149, F149), (150, F150), (151, F151), (152, F152), (153, F153), (154, F154), (155, F155), (156, F156), (157, F157), (158, F158), (165, F165), (166, F166), (167, F167), (168, F168), (169, F169), (170, F170), (171, F171), (172, F172), (173, F173), (174, F174), (175, F175), (176, F176), (177, F177), (184, F184), (191, F191), (192, F192), (193, F193), (194, F194), (195, F195), (197, F197), (198, F198), (199, F199), (200, F200), (202, F202), (203, F203), (204, F204), (205, F205), (210, F210), (214, F214), (215, F215), (216, F216), (217, F217), (218, F218), (219, F219), (220, F220), (221, F221), (222, F222), (223, F223), (224, F224), (225, F225), (226, F226), (227, F227), (228, F228), (229, F229), (230, F230), (231, F231), (232, F232), (233, F233), (234, F234), (235, F235), (236, F236), (237, F237), (238, F238), (239, F239), (240, F240), (241, F241), (242, F242), (243, F243), (244, F244), (245, F245), (246, F246), (247, F247), (248, F248), (249, F249), (250, F250), (251, F251), (252, F252), (258, F258), (259, F259), (260, F260), (261, F261), (262, F262), (263, F263), (264, F264), (265, F265), (266, F266), (267, F267), (268, F268), (269, F269), (270, F270), (271, F271), (272, F272), (273, F273), (274, F274), (275, F275), (276, F276), (277, F277), (278, F278), (279, F279), (280, F280), (281, F281), (282, F282), (283, F283), (294, F294), (295, F295), (296, F296), (297, F297), (298, F298)]
class Has (P : Nat → Option SFunc) : Prop where
  h : ∀ f F, lookupPrim f table0 = some F → P f = some F
variable {P : Nat → Option SFunc} [Has P]
theorem p7 : P 7 = some F7 := Has.h 7 F7 rfl
theorem u7 : CodeEq P 7 [.tmp 0] c7 := fn_code p7
theorem r7_l0 : LoopT P c7_l0 c7_l0b := execS_loop true c7_l0b
theorem r7_l1 : LoopT P c7_l1 c7_l1b := execS_loop true c7_l1b
theorem r7_l2 : LoopT P c7_l2 c7_l2b := execS_loop true c7_l2b
theorem r7_l3 : LoopT P c7_l3 c7_l3b := execS_loop true c7_l3b
theorem r7_l4 : LoopT P c7_l4 c7_l4b := execS_loop true c7_l4b
theorem p36 : P 36 = some F36 := Has.h 36 F36 rfl
theorem u36 : CodeEq P 36 [.tmp 0] c36 := fn_code p36
@[simp] theorem call36 : CallP P 36 := callS_pure p36
theorem r36_l0 : LoopT P c36_l0 c36_l0b := execS_loop true c36_l0b
theorem p44 : P 44 = some F44 := Has.h 44 F44 rfl
theorem u44 : CodeEq P 44 [.tmp 0] c44 := fn_code p44
@[simp] theorem call44 : CallP P 44 := callS_pure p44
theorem r44_l0 : LoopT P c44_l0 c44_l0b := execS_loop true c44_l0b
theorem p45 : P 45 = some F45 := Has.h 45 F45 rfl
theorem u45 : CodeEq P 45 [.tmp 0] c45 := fn_code p45
@[simp] theorem call45 : CallP P 45 := callS_pure p45
theorem r45_l0 : LoopT P c45_l0 c45_l0b := execS_loop true c45_l0b
theorem r45_l1 : LoopT P c45_l1 c45_l1b := execS_loop true c45_l1b
theorem r45_l2 : LoopT P c45_l2 c45_l2b := execS_loop true c45_l2b
theorem p46 : P 46 = some F46 := Has.h 46 F46 rfl
theorem u46 : CodeEq P 46 [.tmp 0, .tmp 1] c46 := fn_code p46
@[simp] theorem call46 : CallP P 46 := callS_pure p46
theorem p47 : P 47 = some F47 := Has.h 47 F47 rfl
theorem u47 : CodeEq P 47 [.tmp 0, .tmp 1] c47 := fn_code p47
@[simp] theorem call47 : CallP P 47 := callS_pure p47
theorem r47_l0 : LoopT P c47_l0 c47_l0b := execS_loop true c47_l0b
theorem r47_l1 : LoopF P c47_l1 c47_l1b := execS_loop false c47_l1b
theorem p48 : P 48 = some F48 := Has.h 48 F48 rfl
theorem u48 : CodeEq P 48 [.tmp 0] c48 := fn_code p48
@[simp] theorem call48 : CallP P 48 := callS_pure p48
theorem r48_l0 : LoopT P c48_l0 c48_l0b := execS_loop true c48_l0b
theorem p49 : P 49 = some F49 := Has.h 49 F49 rfl
theorem u49 : CodeEq P 49 [.tmp 0] c49 := fn_code p49
@[simp] theorem call49 : CallP P 49 := callS_pure p49
theorem r49_l0 : LoopT P c49_l0 c49_l0b := execS_loop true c49_l0b
theorem p60 : P 60 = some F60 := Has.h 60 F60 rfl
theorem u60 : CodeEq P 60 [.tmp 0] c60 := fn_code p60
@[simp] theorem call60 : CallP P 60 := callS_pure p60
theorem p61 : P 61 = some F61 := Has.h 61 F61 rfl
theorem u61 : CodeEq P 61 [.tmp 0] c61 := fn_code p61
@[simp] theorem call61 : CallP P 61 := callS_pure p61
theorem r61_l0 : LoopT P c61_l0 c61_l0b := execS_loop true c61_l0b
theorem p74 : P 74 = some F74 := Has.h 74 F74 rfl
theorem u74 : CodeEq P 74 [.tmp 0] c74 := fn_code p74
@[simp] theorem call74 : CallP P 74 := callS_pure p74
theorem p85 : P 85 = some F85 := Has.h 85 F85 rfl
theorem u85 : CodeEq P 85 [.tmp 0] c85 := fn_code p85
@[simp] theorem call85 : CallP P 85 := callS_pure p85
theorem r85_l0 : LoopT P c85_l0 c85_l0b := execS_loop true c85_l0b
theorem p86 : P 86 = some F86 := Has.h 86 F86 rfl
theorem u86 : CodeEq P 86 [.tmp 0] c86 := fn_code p86
@[simp] theorem call86 : CallP P 86 := callS_pure p86
theorem p111 : P 111 = some F111 := Has.h 111 F111 rfl
theorem u111 : CodeEq P 111 [.tmp 0] c111 := fn_code p111
@[simp] theorem call111 : CallP P 111 := callS_pure p111
theorem r111_l0 : LoopT P c111_l0 c111_l0b := execS_loop true c111_l0b
theorem p112 : P 112 = some F112 := Has.h 112 F112 rfl
theorem u112 : CodeEq P 112 [.tmp 0] c112 := fn_code p112
@[simp] theorem call112 : CallP P 112 := callS_pure p112
theorem p113 : P 113 = some F113 := Has.h 113 F113 rfl
theorem u113 : CodeEq P 113 [.tmp 0] c113 := fn_code p113
@[simp] theorem call113 : CallP P 113 := callS_pure p113
theorem p114 : P 114 = some F114 := Has.h 114 F114 rfl
theorem u114 : CodeEq P 114 [.tmp 0, .tmp 1] c114 := fn_code p114
@[simp] theorem call114 : CallP P 114 := callS_pure p114
theorem r114_l0 : LoopT P c114_l0 c114_l0b := execS_loop true c114_l0b
theorem r114_l1 : LoopT P c114_l1 c114_l1b := execS_loop true c114_l1b
theorem r114_l2 : LoopT P c114_l2 c114_l2b := execS_loop true c114_l2b
theorem r114_l3 : LoopT P c114_l3 c114_l3b := execS_loop true c114_l3b
theorem p115 : P 115 = some F115 := Has.h 115 F115 rfl
theorem u115 : CodeEq P 115 [.tmp 0] c115 := fn_code p115
@[simp] theorem call115 : CallP P 115 := callS_pure p115
theorem p116 : P 116 = some F116 := Has.h 116 F116 rfl
theorem u116 : CodeEq P 116 [.tmp 0] c116 := fn_code p116
@[simp] theorem call116 : CallP P 116 := callS_pure p116
theorem r116_l0 : LoopT P c116_l0 c116_l0b := execS_loop true c116_l0b
theorem r116_l1 : LoopT P c116_l1 c116_l1b := execS_loop true c116_l1b
theorem p117 : P 117 = some F117 := Has.h 117 F117 rfl
theorem u117 : CodeEq P 117 [.tmp 0] c117 := fn_code p117
@[simp] theorem call117 : CallP P 117 := callS_pure p117
theorem r117_l0 : LoopT P c117_l0 c117_l0b := execS_loop true c117_l0b
theorem p119 : P 119 = some F119 := Has.h 119 F119 rfl
theorem u119 : CodeEq P 119 [.tmp 0] c119 := fn_code p119
@[simp] theorem call119 : CallP P 119 := callS_pure p119
theorem p120 : P 120 = some F120 := Has.h 120 F120 rfl
theorem u120 : CodeEq P 120 [.tmp 0] c120 := fn_code p120
@[simp] theorem call120 : CallP P 120 := callS_pure p120
theorem r120_l0 : LoopT P c120_l0 c120_l0b := execS_loop true c120_l0b
theorem p121 : P 121 = some F121 := Has.h 121 F121 rfl
theorem u121 : CodeEq P 121 [.tmp 0] c121 := fn_code p121
@[simp] theorem call121 : CallP P 121 := callS_pure p121
theorem p133 : P 133 = some F133 := Has.h 133 F133 rfl
theorem u133 : CodeEq P 133 [.tmp 0] c133 := fn_code p133
@[simp] theorem call133 : CallP P 133 := callS_pure p133
theorem p143 : P 143 = some F143 := Has.h 143 F143 rfl
theorem u143 : CodeEq P 143 [.tmp 0] c143 := fn_code p143
@[simp] theorem call143 : CallP P 143 := callS_pure p143
theorem r143_l0 : LoopT P c143_l0 c143_l0b := execS_loop true c143_l0b
theorem p157 : P 157 = some F157 := Has.h 157 F157 rfl
theorem u157 : CodeEq P 157 [.tmp 0] c157 := fn_code p157
@[simp] theorem call157 : CallP P 157 := callS_pure p157
theorem p158 : P 158 = some F158 := Has.h 158 F158 rfl
theorem u158 : CodeEq P 158 [.tmp 0] c158 := fn_code p158
@[simp] theorem call158 : CallP P 158 := callS_pure p158
theorem r158_l0 : LoopT P c158_l0 c158_l0b := execS_loop true c158_l0b
theorem p171 : P 171 = some F171 := Has.h 171 F171 rfl
theorem u171 : CodeEq P 171 [.tmp 0] c171 := fn_code p171
@[simp] theorem call171 : CallP P 171 := callS_pure p171
theorem r171_l0 : LoopT P c171_l0 c171_l0b := execS_loop true c171_l0b
theorem r171_l1 : LoopT P c171_l1 c171_l1b := execS_loop true c171_l1b
theorem p172 : P 172 = some F172 := Has.h 172 F172 rfl
theorem u172 : CodeEq P 172 [.tmp 0] c172 := fn_code p172
@[simp] theorem call172 : CallP P 172 := callS_pure p172
theorem r172_l0 : LoopT P c172_l0 c172_l0b := execS_loop true c172_l0b
theorem p173 : P 173 = some F173 := Has.h 173 F173 rfl
theorem u173 (args : List LV) (h : Heap) : sfn P 173 args h = resF [.tmp 0] (execS P (limS P) c173 ⟨args, h⟩) := sfn_code p173 args h
@[simp] theorem call173 (pos : Option Nat) (q : Bool) (args : List LV) (h : Heap) : callS P (limS P) pos q 173 args h = if q then none else bnd (frzFuncs args h) fun a => sfn P 173 a.1 a.2 := callS_shared p173 pos q args h
theorem r173_l0 : LoopT P c173_l0 c173_l0b := execS_loop true c173_l0b
theorem r173_l1 : LoopT P c173_l1 c173_l1b := execS_loop true c173_l1b
theorem p174 : P 174 = some F174 := Has.h 174 F174 rfl
@[simp] theorem call174 : CallP P 174 := callS_pure p174
theorem p175 : P 175 = some F175 := Has.h 175 F175 rfl
theorem u175 : CodeEq P 175 [.tmp 0] c175 := fn_code p175
@[simp] theorem call175 : CallP P 175 := callS_pure p175
theorem p184 : P 184 = some F184 := Has.h 184 F184 rfl
theorem u184 : CodeEq P 184 [.tmp 0] c184 := fn_code p184
@[simp] theorem call184 : CallP P 184 := callS_pure p184
theorem p205 : P 205 = some F205 := Has.h 205 F205 rfl
theorem u205 : CodeEq P 205 [.tmp 0] c205 := fn_code p205
@[simp] theorem call205 : CallP P 205 := callS_pure p205
theorem p210 : P 210 = some F210 := Has.h 210 F210 rfl
theorem u210 : CodeEq P 210 [.tmp 0] c210 := fn_code p210
@[simp] theorem call210 : CallP P 210 := callS_pure p210
theorem r210_l0 : LoopT P c210_l0 c210_l0b := execS_loop true c210_l0b
set_option maxRecDepth 10000 in
set_option maxRecDepth 10000 in
set_option maxRecDepth 10000 in
set_option maxRecDepth 10000 in
set_option maxRecDepth 10000 in
set_option maxRecDepth 10000 in
set_option maxRecDepth 10000 in
set_option maxRecDepth 10000 in
set_option maxRecDepth 10000 in
set_option maxRecDepth 10000 in
set_option maxRecDepth 10000 in
set_option maxRecDepth 10000 in
set_option maxRecDepth 10000 in
theorem p118 : P 118 = some (.fprim 1 (cloneP none 8)) := Has.h 118 _ rfl
theorem u118 (args : List CV) : ffn P 118 args = (cloneP none 8) args := by simp only [ffn, p118]
@[simp] theorem call118 (pos : Option Nat) (q : Bool) (args : List LV) (h : Heap) : callS P (limS P) pos q 118 args h = if q && pos.isNone then none else bnd (frzArgs q args h) fun a => bnd (ffn P 118 a.1) fun v => importB pos 1 v.1 v.2 a.2 := callS_fprim p118 pos q args h
class HasP (P : Nat → Option SFunc) : Prop where
  h : ∀ f, f ∈ [38, 81] → ∃ g, P f = some (.prim g)
@[simp] theorem call38 [HasP P] (pos : Option Nat) (q : Bool) (args : List LV) (h : Heap) : callS P (limS P) pos q 38 args h = bnd (frzArgs q args h) fun a => bnd (fn P 38 a.1) fun v => some (.c v, if scalarC v then h else a.2) := by
  obtain ⟨g, hg⟩ := HasP.h (P := P) 38 (by simp)
  exact callS_prim hg pos q args h
end LM.GZ
namespace LM.GZ
open Go LM
def lc81 : LCode := (.seq (.region [.mk (some 2) (.box (.t 0)) none none .any, .mk (some 4) (.new [(.c (.int .i64 0)), .nil] 1) none none .any, .mk (some 5) (.mkNil (some 2)) none none .any]) (.seq (.draw 0 [.mk (some 10) (.load (some 4) (.t 2)) none none .var, .mk (some 11) (.load (some 4) (.t 2)) none none .var, .mk (some 12) (.call false (.k (.c (.func 151 [] []))) [(.t 11)]) none none .any, .mk (some 13) (.call false (.k (.c (.func 150 [] []))) [(.t 10), (.t 12)]) none none .any, .mk (some 6) (.move (.t 13)) none none .any]) (.seq (.region [.mk (some 7) (.new [.nil]) none none .any]) (.seq (.seq (.region [.mk (some 14) (.move (.t 6)) none none .any, .mk (some 15) (.move (.t 1)) none none .any, .mk (some 16) (.call false (.k (.c (.func 152 [] []))) [(.t 14), (.t 15)]) none none .any]) (.block 0 (.rangeFn (.t 16) [17, 18] (.seq (.region [.mk (some 8) (.move (.t 17)) none none .any]) (.region [.mk (some 9) (.move (.t 18)) none none .any])) (.block 1 (.seq (.region [.mk (some 19) (.move (.t 9)) none none .any, .mk (some 20) (.bin .neq (.t 19) (.k (.c (.int .i64 0)))) none none .any]) (.cond (.t 20) (.region [.mk (some 21) (.load none (.t 7)) none none .any, .mk (some 22) (.move (.t 8)) none none .any, .mk (some 23) (.move (.t 9)) none none .any, .mk (some 24) (.build [(.c (.int .i64 0)), (.c (.int .i64 0))] [(0, 1, (.t 22)), (1, 1, (.t 23))]) none none .any, .mk (some 25) (.buildSlice 2 (some 2) 1 [(.c (.int .i64 0)), (.c (.int .i64 0))] [(0, (.t 24))]) none none .any, .mk (some 26) (.append (some 2) 16 (.t 21) (.t 25)) none none .any, .mk none (.store 1 (.t 7) (.t 26)) none none .any]) .skip)))))) (.seq (.draw 0 [.mk (some 27) (.move (.t 6)) none none .any, .mk (some 28) (.nilCheck (.t 27)) none none .any, .mk (some 29) (.fieldAddr 4 (.t 28)) none none .any, .mk (some 30) (.load (some 2) (.t 29)) none none .var, .mk (some 31) (.load none (.t 7)) none none .var, .mk none (.store 2 (.t 4) (.t 30)) none none .row, .mk (some 5) (.move (.t 31)) none none .any]) .ret)))))
def lf81 : LFunc := .code .pure 32 [.cell 4 (some 2), .tmp 5] lc81
def lc196 : LCode := (.seq (.region [.mk (some 7) (.load none (.t 1)) none none .any, .mk (some 8) (.len 1 (.t 7)) none none .any, .mk (some 9) (.move (.k (.c (.int .i64 0)))) none none .any]) (.block 0 (.loop true (.seq (.region [.mk (some 10) (.bin .lss (.t 9) (.t 8)) none none .any]) (.seq (.cond (.t 10) .skip (.exit 0)) (.seq (.block 1 (.seq (.region [.mk (some 11) (.move (.t 9)) none none .any, .mk (some 12) (.idxSlice 4 (.t 7) (.t 9)) none none .any, .mk (some 13) (.load (some 4) (.t 12)) none none .any, .mk (some 5) (.new [(.c (.int .i64 0)), (.c (.str [])), (.c (.int .i64 0)), (.c (.int .i64 0))]) none none .any, .mk (some 4) (.move (.t 11)) none none .any, .mk none (.store 4 (.t 5) (.t 13)) none none .any]) (.seq (.region [.mk (some 14) (.load none (.t 2)) none none .any, .mk (some 15) (.load (some 4) (.t 5)) none none .any, .mk (some 16) (.call false (.k (.c (.func 197 [] []))) [(.t 14), (.t 15)]) none none .any, .mk (some 6) (.move (.t 16)) none none .any]) (.seq (.seq (.region [.mk (some 17) (.move (.t 6)) none none .any, .mk (some 18) (.bin .eql (.t 17) (.k (.c (.int .i64 0)))) none none .any]) (.cond (.t 18) (.region [.mk (some 19) (.load none (.t 2)) none none .any, .mk (some 20) (.load (some 4) (.t 5)) none none .any, .mk (some 21) (.call false (.k (.c (.func 198 [] []))) [(.t 19), (.t 20)]) none none .any]) .skip)) (.seq (.region [.mk (some 22) (.move (.t 0)) none none .any, .mk (some 23) (.move (.t 4)) none none .any, .mk (some 24) (.bin .add (.t 23) (.k (.c (.int .i64 1)))) none none .any, .mk (some 25) (.move (.t 6)) none none .any, .mk (some 26) (.call false (.t 22) [(.t 24), (.t 25)]) none none .any, .mk (some 27) (.not (.t 26)) none none .any]) (.cond (.t 27) .ret .skip)))))) (.region [.mk (some 28) (.bin .add (.t 9) (.k (.c (.int .i64 1)))) none none .any, .mk (some 9) (.move (.t 28)) none none .any])))))))
def lf196 : LFunc := .code .shared 29 [] lc196
def lprog : List (Nat × LFunc) := [(81, lf81), (196, lf196)]
@[simp] def c38_n2 : SCode := (.region [.op 13 (.call false (.k (.c (.func 101 [] []))) []), .op 12 (.move (.t 0)), .op 14 (.extract (.t 0) 0), .op 15 (.extract (.t 1) 1), .op 1 (.new [(.c (.str [])), .nil, (.c (.int .i64 0)), (.c (.int .i64 0))]), .eff (.store 4 (.t 0) (.t 2)), .op 2 (.move (.t 1))] [1, 0])
@[simp] def c38_n4 : SCode := (.region [.op 17 (.load (some 4) (.t 0)), .op 18 (.move (.t 2)), .op 19 (.call false (.k (.c (.func 26 [] []))) [(.t 1), (.t 0)]), .op 16 (.move (.t 0)), .op 20 (.extract (.t 0) 0), .op 21 (.extract (.t 1) 1), .op 22 (.extract (.t 2) 2), .op 3 (.new [(.c (.int .i64 0)), .nil]), .eff (.store 2 (.t 0) (.t 3)), .op 4 (.move (.t 2)), .op 5 (.move (.t 2))] [10, 2, 0])
@[simp] def c38_n6 : SCode := (.region [.op 24 (.load (some 4) (.t 0)), .op 25 (.load (some 2) (.t 2)), .op 26 (.call false (.k (.c (.func 52 [] []))) [(.t 1), (.t 0)]), .op 23 (.move (.t 0)), .op 27 (.extract (.t 0) 0), .op 28 (.extract (.t 1) 1), .op 6 (.move (.t 1)), .op 7 (.move (.t 1))] [10, 1, 0])
@[simp] def c38_n8 : SCode := (.region [.op 30 (.move (.t 1)), .op 31 (.call false (.k (.c (.func 39 [] []))) [(.t 0)]), .op 29 (.move (.t 0)), .op 32 (.extract (.t 0) 0), .op 33 (.extract (.t 1) 1), .op 8 (.move (.t 1)), .op 9 (.move (.t 1))] [7, 9, 1, 0])
@[simp] def c38_n10 : SCode := (.region [.op 35 (.build [(.c (.str [])), (.c (.int .i64 0)), (.c (.int .i64 0))] [(0, 1, (.k (.c (.str [97, 110, 110])))), (1, 1, (.k (.c (.int .i64 1)))), (2, 1, (.k (.c (.int .i64 2))))]), .op 36 (.build [(.c (.str [])), (.c (.int .i64 0)), (.c (.int .i64 0))] [(0, 1, (.k (.c (.str [98, 101, 110])))), (1, 1, (.k (.c (.int .i64 1)))), (2, 1, (.k (.c (.int .i64 2))))]), .op 37 (.buildSlice 2 (some 3) 2 [(.c (.str [])), (.c (.int .i64 0)), (.c (.int .i64 0))] [(0, (.t 1)), (1, (.t 0))]), .op 38 (.call false (.k (.c (.func 40 [] []))) [(.t 0), (.k (.c (.int .i64 0)))]), .op 34 (.move (.t 0)), .op 39 (.extract (.t 0) 0), .op 40 (.extract (.t 1) 1), .op 10 (.move (.t 1)), .op 11 (.move (.t 1))] [9, 10, 11, 12, 1, 0])
@[simp] def c38_n12 : SCode := (.region [.op 41 (.move (.t 0)), .op 42 (.move (.t 2)), .op 43 (.bin .add (.t 1) (.t 0)), .op 44 (.move (.t 6)), .op 45 (.bin .add (.t 1) (.t 0)), .op 46 (.move (.t 10)), .op 47 (.bin .add (.t 1) (.t 0)), .op 48 (.bin .eql (.t 0) (.k (.c (.int .i64 0)))), .op 49 (.move (.t 0)), .andN 53 0 [.op 50 (.move (.t 11)), .op 51 (.buildSlice 2 none 2 [(.c (.int .i64 0))] [(0, (.k (.c (.int .i64 2)))), (1, (.k (.c (.int .i64 1))))]), .op 52 (.call false (.k (.c (.func 55 [] []))) [(.t 1), (.t 0)])] (.t 0), .op 54 (.move (.t 0)), .andN 58 0 [.op 55 (.move (.t 15)), .op 56 (.buildSlice 2 none 2 [(.c (.int .i64 0))] [(0, (.k (.c (.int .i64 1)))), (1, (.k (.c (.int .i64 2))))]), .op 57 (.call false (.k (.c (.func 55 [] []))) [(.t 1), (.t 0)])] (.t 0), .op 0 (.move (.t 0))] [0])
def c38_n11 : SCode := .seq c38_n12 .ret
def c38_n9 : SCode := .seq c38_n10 c38_n11
def c38_n7 : SCode := .seq c38_n8 c38_n9
def c38_n5 : SCode := .seq c38_n6 c38_n7
def c38_n3 : SCode := .seq c38_n4 c38_n5
def c38_n1 : SCode := .seq c38_n2 c38_n3
def c38 : SCode := (.seq (.region [.op 0 (.move (.k (.c (.bool false))))] []) c38_n1)
def F38 : SFunc := .code .pure 59 0 [some 0] [.tmp 0] c38
end LM.GZ
