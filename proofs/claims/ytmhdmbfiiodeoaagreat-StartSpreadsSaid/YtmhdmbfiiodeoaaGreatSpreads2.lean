/- Part 5 of what YtmhdmbfiiodeoaaGreatSpreads leans on. -/
import Derived.Test.YtmhdmbfiiodeoaaGreatSpreadsL1
import Derived.Test.YtmhdmbfiiodeoaaGreatSpreadsL2
import Derived.Test.YtmhdmbfiiodeoaaGreatSpreadsL3
import Derived.Test.YtmhdmbfiiodeoaaGreatSpreads1
set_option linter.all false
namespace LM.G6
open Go LM
def c160_n3 : SCode := .seq (.region [.op 10 (.move (.t 3)), .op 5 (.move (.t 0))] [2, 3, 0, 4, 5]) (.seq (.region [.op 11 (.move (.t 1)), .op 12 (.move (.t 1)), .op 13 (.move (.t 4)), .op 14 (.idxSlice 3 (.t 1) (.t 0)), .op 15 (.load (some 3) (.t 0)), .op 16 (.call false (.t 4) [(.t 0)])] [6, 7, 8, 9, 10, 0]) (.cond (.t 5) (.seq (.region [.op 17 (.move (.t 2)), .op 4 (.move (.t 0))] [0]) .ret) (.pre [0, 1, 3, 4] .skip)))
def c160_n2 : SCode := .seq (.block 1 [some 0, some 1, some 7, some 8] c160_n3) (.region [.op 18 (.bin .add (.t 3) (.k (.c (.int .i64 1)))), .op 8 (.move (.t 0))] [2, 3, 4, 0])
def c160_n1 : SCode := .seq (.cond (.t 4) (.pre [0, 1, 2, 3] .skip) (.pre [] (.exit 0))) c160_n2
def c160_l0b : SCode := (.seq (.region [.op 9 (.bin .lss (.t 3) (.t 2))] [1, 2, 3, 4, 0]) c160_n1)
def c160_l0 : SCode := .loop true c160_l0b
def c160 : SCode := (.seq (.region [.op 4 (.move (.k (.c (.int .i64 0))))] [1, 2]) (.seq (.seq (.region [.op 6 (.move (.t 0)), .op 7 (.len 1 (.t 0)), .op 8 (.move (.k (.c (.int .i64 0))))] [3, 4, 1, 0]) (.block 0 [] c160_l0)) (.seq (.region [.op 4 (.move (.k (.c (.int .i64 (-1)))))] [0]) .ret)))
def F160 : SFunc := .code .shared 19 2 [some 4] [.tmp 0] c160
def c161 : SCode := (.seq (.region [.op 1 (.box (.t 0)), .op 2 (.move (.k (.c (.bool false))))] [1]) (.seq (.region [.op 3 (.fieldAddr 1 (.t 0)), .op 4 (.load none (.t 0)), .op 5 (.bin .eql (.t 0) (.k (.c (.str [])))), .op 2 (.move (.t 0))] [0]) .ret))
def F161 : SFunc := .code .pure 6 1 [some 2] [.tmp 0] c161
def c162 : SCode := (.seq (.region [.op 1 (.box (.t 0)), .op 2 (.move (.k (.c (.bool false))))] [1]) (.seq (.region [.op 3 (.fieldAddr 1 (.t 0)), .op 4 (.load none (.t 0)), .op 5 (.bin .neq (.t 0) (.k (.c (.str [])))), .op 2 (.move (.t 0))] [0]) .ret))
def F162 : SFunc := .code .pure 6 1 [some 2] [.tmp 0] c162
def c163 : SCode := (.region [.op 4 (.move (.t 0)), .op 5 (.move (.t 1)), .op 6 (.len 1 (.t 0)), .op 7 (.move (.t 4)), .op 8 (.call false (.k (.c (.func 171 [] []))) [(.t 3), (.t 1), (.t 0)])] [])
def F163 : SFunc := .code .shared 9 2 [] [] c163
def c164 : SCode := (.seq (.region [.op 2 (.box (.t 0)), .op 3 (.box (.t 2)), .op 4 (.move (.k (.c (.int .i64 0))))] [2, 1]) (.seq (.region [.op 5 (.fieldAddr 2 (.t 1)), .op 6 (.load none (.t 0)), .op 7 (.fieldAddr 2 (.t 2)), .op 8 (.load none (.t 0)), .op 9 (.call false (.k (.c (.func 165 [] []))) [(.t 2), (.t 0)]), .op 4 (.move (.t 0))] [0]) .ret))
def F164 : SFunc := .code .pure 10 2 [some 4] [.tmp 0] c164
@[simp] def c165_n4 : SCode := (.region [.op 13 (.move (.t 4)), .op 14 (.idxSlice 1 (.t 3) (.t 5)), .op 15 (.load none (.t 0)), .op 5 (.move (.t 2)), .op 6 (.move (.t 1))] [5, 6, 1, 0, 7, 8, 9])
@[simp] def c165_n6 : SCode := (.seq (.region [.op 16 (.move (.t 2)), .op 17 (.move (.t 2)), .op 18 (.len 1 (.t 0)), .op 19 (.bin .geq (.t 2) (.t 0))] [4, 5, 6, 7, 8, 9, 10, 0]) (.cond (.t 7) (.seq (.region [.op 4 (.move (.k (.c (.int .i64 1))))] [0]) .ret) (.pre [0, 1, 2, 3, 4, 5, 6] .skip)))
@[simp] def c165_n8 : SCode := (.region [.op 20 (.move (.t 1)), .op 21 (.move (.t 3)), .op 22 (.idxSlice 1 (.t 1) (.t 0)), .op 23 (.load none (.t 0)), .op 7 (.move (.t 0))] [5, 6, 8, 0, 9, 10, 11])
@[simp] def c165_n10 : SCode := (.region [.op 24 (.move (.t 2)), .op 25 (.move (.t 4)), .op 26 (.call false (.k (.c (.func 96 [] []))) [(.t 1), (.t 0)]), .op 8 (.move (.t 0))] [4, 5, 0, 8, 9, 10])
def c165_n9 : SCode := .seq c165_n10 (.seq (.region [.op 27 (.move (.t 2)), .op 28 (.bin .neq (.t 0) (.k (.c (.int .i64 0))))] [2, 3, 4, 5, 6, 7, 0]) (.cond (.t 6) (.seq (.region [.op 29 (.move (.t 2)), .op 4 (.move (.t 0))] [0]) .ret) (.pre [0, 1, 3, 4, 5] .skip)))
def c165_n7 : SCode := .seq c165_n8 c165_n9
def c165_n5 : SCode := .seq c165_n6 c165_n7
def c165_n3 : SCode := .seq c165_n4 c165_n5
def c165_n2 : SCode := .seq (.block 1 [some 0, some 1, some 9, some 10, some 11] c165_n3) (.region [.op 30 (.bin .add (.t 4) (.k (.c (.int .i64 1)))), .op 11 (.move (.t 0))] [2, 3, 4, 5, 0])
def c165_n1 : SCode := .seq (.cond (.t 5) (.pre [0, 1, 2, 3, 4] .skip) (.pre [0, 1] (.exit 0))) c165_n2
def c165_l0b : SCode := (.seq (.region [.op 12 (.bin .lss (.t 4) (.t 3))] [1, 2, 3, 4, 5, 0]) c165_n1)
def c165_l0 : SCode := .loop true c165_l0b
@[simp] def c165_n12 : SCode := (.seq (.region [.op 9 (.move (.t 0)), .op 10 (.len 1 (.t 0)), .op 11 (.move (.k (.c (.int .i64 0))))] [3, 4, 2, 1, 0]) (.block 0 [some 0, some 1] c165_l0))
def c165_n11 : SCode := .seq c165_n12 (.seq (.seq (.region [.op 31 (.move (.t 0)), .op 32 (.len 1 (.t 0)), .op 33 (.move (.t 3)), .op 34 (.len 1 (.t 0)), .op 35 (.bin .lss (.t 2) (.t 0))] [0]) (.cond (.t 0) (.seq (.region [.op 4 (.move (.k (.c (.int .i64 (-1)))))] [0]) .ret) (.pre [] .skip))) (.seq (.region [.op 4 (.move (.k (.c (.int .i64 0))))] [0]) .ret))
def c165 : SCode := (.seq (.region [.op 4 (.move (.k (.c (.int .i64 0))))] [1, 2]) c165_n11)
def F165 : SFunc := .code .pure 36 2 [some 4] [.tmp 0] c165
@[simp] def c166_n5 : SCode := (.draw 0 [.op 16 (.move (.t 0)), .op 17 (.move (.t 3)), .op 18 (.idxSlice 1 (.t 1) (.t 0)), .op 19 (.load none (.t 0)) none .old, .op 20 (.move (.t 5)), .op 21 (.move (.t 7)), .op 22 (.idxSlice 1 (.t 1) (.t 0)), .op 23 (.load none (.t 0)) none .old, .op 24 (.bin .neq (.t 4) (.t 0))] [9, 10, 12, 13, 0])
def c166_n4 : SCode := .seq c166_n5 (.cond (.t 4) (.seq (.region [.op 4 (.move (.k (.c (.bool false))))] [0]) .ret) (.pre [0, 1, 2, 3] .skip))
def c166_n3 : SCode := .seq (.region [.op 15 (.move (.t 3)), .op 5 (.move (.t 0))] [2, 3, 0, 4, 5]) c166_n4
def c166_n2 : SCode := .seq (.block 1 [some 0, some 1, some 12, some 13] c166_n3) (.region [.op 25 (.bin .add (.t 3) (.k (.c (.int .i64 1)))), .op 13 (.move (.t 0))] [2, 3, 4, 0])
def c166_n1 : SCode := .seq (.cond (.t 4) (.pre [0, 1, 2, 3] .skip) (.pre [] (.exit 0))) c166_n2
def c166_l0b : SCode := (.seq (.region [.op 14 (.bin .lss (.t 3) (.t 2))] [1, 2, 3, 4, 0]) c166_n1)
def c166_l0 : SCode := .loop true c166_l0b
@[simp] def c166_n7 : SCode := (.seq (.region [.op 6 (.move (.t 0)), .op 7 (.len 1 (.t 0)), .op 8 (.move (.t 3)), .op 9 (.len 1 (.t 0)), .op 10 (.bin .neq (.t 2) (.t 0))] [5, 6, 0]) (.cond (.t 2) (.seq (.region [.op 4 (.move (.k (.c (.bool false))))] [0]) .ret) (.pre [0, 1] .skip)))
def c166_n6 : SCode := .seq c166_n7 (.seq (.seq (.region [.op 11 (.move (.t 0)), .op 12 (.len 1 (.t 0)), .op 13 (.move (.k (.c (.int .i64 0))))] [3, 4, 1, 0]) (.block 0 [] c166_l0)) (.seq (.region [.op 4 (.move (.k (.c (.bool true))))] [0]) .ret))
def c166 : SCode := (.seq (.region [.op 4 (.move (.k (.c (.bool false))))] [1, 2]) c166_n6)
def F166 : SFunc := .code .pure 26 2 [some 4] [.tmp 0] c166
@[simp] def c167_n2 : SCode := (.draw 0 [.op 37 (.move (.t 0)), .op 38 (.move (.t 6)), .op 39 (.move (.t 2)), .op 40 (.move (.t 8)), .op 41 (.bin .sub (.t 0) (.k (.c (.int .i64 1)))), .op 42 (.move (.t 5)), .op 43 (.move (.t 11)), .op 44 (.bin .sub (.t 0) (.k (.c (.int .i64 1)))), .op 45 (.idxSlice 1 (.t 2) (.t 0)), .op 46 (.load none (.t 0)) none .old, .op 47 (.move (.t 10)), .op 48 (.move (.t 16)), .op 49 (.idxSlice 1 (.t 1) (.t 0)), .op 50 (.load none (.t 0)) none .old, .op 51 (.idxSlice 1 (.t 13) (.t 12)), .eff (.store 1 (.t 0) (.t 5)) none .old, .op 52 (.idxSlice 1 (.t 12) (.t 10)), .eff (.store 1 (.t 0) (.t 2)) none .old] [16, 17, 18, 19, 20, 21])
def c167_n1 : SCode := .seq (.block 3 [some 0, some 1, some 2, some 3, some 8, some 9] c167_n2) (.region [.op 35 (.move (.t 5)), .op 36 (.bin .sub (.t 0) (.k (.c (.int .i64 1)))), .op 9 (.move (.t 0))] [3, 4, 5, 6, 7, 0])
instance : IsSeq c167_n1 (.block 3 [some 0, some 1, some 2, some 3, some 8, some 9] c167_n2) (.region [.op 35 (.move (.t 5)), .op 36 (.bin .sub (.t 0) (.k (.c (.int .i64 1)))), .op 9 (.move (.t 0))] [3, 4, 5, 6, 7, 0]) := ⟨rfl⟩
def c167_l0b : SCode := (.seq (.seq (.draw 0 [.op 18 (.move (.t 5)), .op 19 (.move (.t 2)), .op 20 (.bin .gtr (.t 1) (.t 0)), .op 21 (.move (.t 0)), .andN 34 0 [.op 22 (.move (.t 7)), .op 23 (.move (.t 5)), .op 24 (.move (.t 11)), .op 25 (.idxSlice 1 (.t 1) (.t 0)), .op 26 (.load none (.t 0)) none .old, .op 27 (.move (.t 9)), .op 28 (.move (.t 15)), .op 29 (.bin .sub (.t 0) (.k (.c (.int .i64 1)))), .op 30 (.idxSlice 1 (.t 2) (.t 0)), .op 31 (.load none (.t 0)) none .old, .op 32 (.call false (.t 9) [(.t 5), (.t 0)]), .op 33 (.bin .lss (.t 0) (.k (.c (.int .i64 0))))] (.t 0)] [5, 6, 7, 8, 9, 10, 0]) (.cond (.t 6) (.pre [0, 1, 2, 3, 4, 5] .skip) (.pre [0, 1, 2, 3, 4] (.exit 2)))) c167_n1)
def c167_l0 : SCode := .loop true c167_l0b
def c167_l1b : SCode := (.seq (.seq (.region [.op 12 (.move (.t 4)), .op 13 (.move (.t 3)), .op 14 (.bin .lss (.t 1) (.t 0))] [3, 4, 5, 6, 7, 0]) (.cond (.t 5) (.pre [0, 1, 2, 3, 4] .skip) (.pre [] (.exit 0)))) (.seq (.block 1 [some 0, some 1, some 2, some 3, some 8] (.seq (.region [.op 17 (.move (.t 4)), .op 9 (.move (.t 0))] [2, 3, 4, 5, 6, 0]) (.block 2 [some 0, some 1, some 2, some 3, some 8] c167_l0))) (.region [.op 15 (.move (.t 4)), .op 16 (.bin .add (.t 0) (.k (.c (.int .i64 1)))), .op 8 (.move (.t 0))] [3, 4, 5, 6, 0])))
def c167_l1 : SCode := .loop true c167_l1b
def c167 : SCode := (.seq (.region [.op 10 (.move (.t 1)), .op 11 (.bin .add (.t 0) (.k (.c (.int .i64 1)))), .op 8 (.move (.t 0))] [3, 4, 5, 6, 0]) (.block 0 [] c167_l1))
def F167 : SFunc := .code .shared 53 4 [] [] c167
@[simp] def c168_n3 : SCode := (.region [.op 34 (.move (.t 3)), .op 35 (.move (.t 5)), .op 36 (.bin .add (.t 1) (.t 0)), .op 37 (.conv .u64 (.t 0)), .op 38 (.bin .shr (.t 0) (.k (.c (.int .u64 1)))), .op 39 (.conv .i64 (.t 0)), .op 12 (.move (.t 0))] [7, 8, 9, 10, 11, 0])
@[simp] def c168_n5 : SCode := (.draw 0 [.op 40 (.move (.t 2)), .op 41 (.move (.t 1)), .op 42 (.move (.t 7)), .op 43 (.idxSlice 1 (.t 1) (.t 0)), .op 44 (.load none (.t 0)) none .old, .op 45 (.move (.t 5)), .op 46 (.move (.t 7)), .op 47 (.idxSlice 1 (.t 1) (.t 0)), .op 48 (.load none (.t 0)) none .old, .op 49 (.call false (.t 8) [(.t 4), (.t 0)]), .op 50 (.bin .lss (.t 0) (.k (.c (.int .i64 0))))] [11, 12, 13, 14, 15, 16, 0])
def c168_n4 : SCode := .seq c168_n5 (.cond (.t 6) (.region [.op 51 (.move (.t 5)), .op 52 (.bin .add (.t 0) (.k (.c (.int .i64 1)))), .op 10 (.move (.t 0))] [3, 4, 5, 0, 7]) (.region [.op 53 (.move (.t 5)), .op 11 (.move (.t 0))] [2, 3, 4, 5, 0]))
instance : IsSeq c168_n4 c168_n5 (.cond (.t 6) (.region [.op 51 (.move (.t 5)), .op 52 (.bin .add (.t 0) (.k (.c (.int .i64 1)))), .op 10 (.move (.t 0))] [3, 4, 5, 0, 7]) (.region [.op 53 (.move (.t 5)), .op 11 (.move (.t 0))] [2, 3, 4, 5, 0])) := ⟨rfl⟩
def c168_n2 : SCode := .seq c168_n3 c168_n4
instance : IsSeq c168_n2 c168_n3 c168_n4 := ⟨rfl⟩
def c168_n1 : SCode := .block 1 [some 0, some 1, some 4, some 10, some 11] c168_n2
instance : IsBlock c168_n1 1 [some 0, some 1, some 4, some 10, some 11] c168_n2 := ⟨rfl⟩
def c168_l0b : SCode := (.seq (.seq (.region [.op 31 (.move (.t 3)), .op 32 (.move (.t 5)), .op 33 (.bin .lss (.t 1) (.t 0))] [3, 4, 5, 6, 7, 0]) (.cond (.t 5) (.pre [0, 1, 2, 3, 4] .skip) (.pre [0, 1, 3] (.exit 0)))) c168_n1)
def c168_l0 : SCode := .loop true c168_l0b
@[simp] def c168_n7 : SCode := (.draw 0 [.op 61 (.move (.t 0)), .op 62 (.move (.t 3)), .op 63 (.move (.t 2)), .op 64 (.move (.t 5)), .op 65 (.bin .add (.t 0) (.k (.c (.int .i64 1)))), .op 66 (.move (.t 5)), .op 67 (.move (.t 8)), .op 68 (.bin .add (.t 0) (.k (.c (.int .i64 1)))), .op 69 (.idxSlice 1 (.t 2) (.t 0)), .op 70 (.load none (.t 0)) none .old, .op 71 (.move (.t 10)), .op 72 (.move (.t 13)), .op 73 (.idxSlice 1 (.t 1) (.t 0)), .op 74 (.load none (.t 0)) none .old, .op 75 (.idxSlice 1 (.t 13) (.t 12)), .eff (.store 1 (.t 0) (.t 5)) none .old, .op 76 (.idxSlice 1 (.t 12) (.t 10)), .eff (.store 1 (.t 0) (.t 2)) none .old] [16, 17, 18])
def c168_n6 : SCode := .seq (.block 3 [some 0, some 10, some 13] c168_n7) (.region [.op 59 (.move (.t 2)), .op 60 (.bin .add (.t 0) (.k (.c (.int .i64 1)))), .op 13 (.move (.t 0))] [3, 4, 0])
instance : IsSeq c168_n6 (.block 3 [some 0, some 10, some 13] c168_n7) (.region [.op 59 (.move (.t 2)), .op 60 (.bin .add (.t 0) (.k (.c (.int .i64 1)))), .op 13 (.move (.t 0))] [3, 4, 0]) := ⟨rfl⟩
def c168_l1b : SCode := (.seq (.seq (.region [.op 55 (.move (.t 2)), .op 56 (.move (.t 2)), .op 57 (.bin .sub (.t 0) (.k (.c (.int .i64 1)))), .op 58 (.bin .lss (.t 2) (.t 0))] [4, 5, 6, 0]) (.cond (.t 3) (.pre [0, 1, 2] .skip) (.pre [] (.exit 2)))) c168_n6)
def c168_l1 : SCode := .loop true c168_l1b
@[simp] def c168_n10 : SCode := (.region [.op 86 (.move (.t 3)), .op 87 (.move (.t 5)), .op 88 (.bin .add (.t 1) (.t 0)), .op 89 (.conv .u64 (.t 0)), .op 90 (.bin .shr (.t 0) (.k (.c (.int .u64 1)))), .op 91 (.conv .i64 (.t 0)), .op 16 (.move (.t 0))] [7, 8, 9, 10, 11, 0])
@[simp] def c168_n12 : SCode := (.draw 0 [.op 92 (.move (.t 2)), .op 93 (.move (.t 1)), .op 94 (.move (.t 3)), .op 95 (.idxSlice 1 (.t 1) (.t 0)), .op 96 (.load none (.t 0)) none .old, .op 97 (.move (.t 5)), .op 98 (.move (.t 11)), .op 99 (.idxSlice 1 (.t 1) (.t 0)), .op 100 (.load none (.t 0)) none .old, .op 101 (.call false (.t 8) [(.t 4), (.t 0)]), .op 102 (.bin .lss (.t 0) (.k (.c (.int .i64 0)))), .op 103 (.not (.t 0))] [12, 13, 14, 15, 16, 17, 0])
def c168_n11 : SCode := .seq c168_n12 (.cond (.t 6) (.region [.op 104 (.move (.t 5)), .op 105 (.bin .add (.t 0) (.k (.c (.int .i64 1)))), .op 14 (.move (.t 0))] [3, 4, 5, 0, 7]) (.region [.op 106 (.move (.t 5)), .op 15 (.move (.t 0))] [2, 3, 4, 5, 0]))
instance : IsSeq c168_n11 c168_n12 (.cond (.t 6) (.region [.op 104 (.move (.t 5)), .op 105 (.bin .add (.t 0) (.k (.c (.int .i64 1)))), .op 14 (.move (.t 0))] [3, 4, 5, 0, 7]) (.region [.op 106 (.move (.t 5)), .op 15 (.move (.t 0))] [2, 3, 4, 5, 0])) := ⟨rfl⟩
def c168_n9 : SCode := .seq c168_n10 c168_n11
instance : IsSeq c168_n9 c168_n10 c168_n11 := ⟨rfl⟩
def c168_n8 : SCode := .block 5 [some 0, some 2, some 4, some 14, some 15] c168_n9
instance : IsBlock c168_n8 5 [some 0, some 2, some 4, some 14, some 15] c168_n9 := ⟨rfl⟩
def c168_l2b : SCode := (.seq (.seq (.region [.op 83 (.move (.t 3)), .op 84 (.move (.t 5)), .op 85 (.bin .lss (.t 1) (.t 0))] [3, 4, 5, 6, 7, 0]) (.cond (.t 5) (.pre [0, 1, 2, 3, 4] .skip) (.pre [0, 1, 3] (.exit 4)))) c168_n8)
def c168_l2 : SCode := .loop true c168_l2b
@[simp] def c168_n14 : SCode := (.draw 0 [.op 113 (.move (.t 0)), .op 114 (.move (.t 3)), .op 115 (.move (.t 2)), .op 116 (.move (.t 5)), .op 117 (.bin .sub (.t 0) (.k (.c (.int .i64 1)))), .op 118 (.move (.t 5)), .op 119 (.move (.t 8)), .op 120 (.bin .sub (.t 0) (.k (.c (.int .i64 1)))), .op 121 (.idxSlice 1 (.t 2) (.t 0)), .op 122 (.load none (.t 0)) none .old, .op 123 (.move (.t 10)), .op 124 (.move (.t 13)), .op 125 (.idxSlice 1 (.t 1) (.t 0)), .op 126 (.load none (.t 0)) none .old, .op 127 (.idxSlice 1 (.t 13) (.t 12)), .eff (.store 1 (.t 0) (.t 5)) none .old, .op 128 (.idxSlice 1 (.t 12) (.t 10)), .eff (.store 1 (.t 0) (.t 2)) none .old] [16, 17, 18])
def c168_n13 : SCode := .seq (.block 7 [some 0, some 14, some 17] c168_n14) (.region [.op 111 (.move (.t 2)), .op 112 (.bin .sub (.t 0) (.k (.c (.int .i64 1)))), .op 17 (.move (.t 0))] [3, 4, 0])
instance : IsSeq c168_n13 (.block 7 [some 0, some 14, some 17] c168_n14) (.region [.op 111 (.move (.t 2)), .op 112 (.bin .sub (.t 0) (.k (.c (.int .i64 1)))), .op 17 (.move (.t 0))] [3, 4, 0]) := ⟨rfl⟩
def c168_l3b : SCode := (.seq (.seq (.region [.op 108 (.move (.t 2)), .op 109 (.move (.t 2)), .op 110 (.bin .gtr (.t 1) (.t 0))] [3, 4, 5, 0]) (.cond (.t 3) (.pre [0, 1, 2] .skip) (.pre [] (.exit 6)))) c168_n13)
def c168_l3 : SCode := .loop true c168_l3b
@[simp] def c168_n17 : SCode := (.region [.op 152 (.move (.t 7)), .op 153 (.move (.t 9)), .op 154 (.bin .add (.t 1) (.t 0)), .op 155 (.conv .u64 (.t 0)), .op 156 (.bin .shr (.t 0) (.k (.c (.int .u64 1)))), .op 157 (.conv .i64 (.t 0)), .op 23 (.move (.t 0))] [7, 8, 9, 10, 11, 12, 13, 14, 15, 16, 0])
@[simp] def c168_n19 : SCode := (.draw 0 [.op 158 (.move (.t 4)), .op 159 (.move (.t 1)), .op 160 (.move (.t 11)), .op 161 (.move (.t 13)), .op 162 (.bin .sub (.t 1) (.t 0)), .op 163 (.idxSlice 1 (.t 3) (.t 0)), .op 164 (.load none (.t 0)) none .old, .op 165 (.move (.t 7)), .op 166 (.move (.t 18)), .op 167 (.idxSlice 1 (.t 1) (.t 0)), .op 168 (.load none (.t 0)) none .old, .op 169 (.call false (.t 10) [(.t 4), (.t 0)]), .op 170 (.bin .lss (.t 0) (.k (.c (.int .i64 0)))), .op 171 (.not (.t 0))] [14, 15, 16, 17, 18, 19, 20, 21, 22, 23, 24, 0])
def c168_n18 : SCode := .seq c168_n19 (.cond (.t 11) (.region [.op 172 (.move (.t 10)), .op 173 (.bin .add (.t 0) (.k (.c (.int .i64 1)))), .op 20 (.move (.t 0))] [3, 4, 5, 6, 7, 8, 9, 0, 11, 12]) (.region [.op 174 (.move (.t 10)), .op 21 (.move (.t 0))] [2, 3, 4, 5, 6, 7, 8, 9, 0, 11]))
instance : IsSeq c168_n18 c168_n19 (.cond (.t 11) (.region [.op 172 (.move (.t 10)), .op 173 (.bin .add (.t 0) (.k (.c (.int .i64 1)))), .op 20 (.move (.t 0))] [3, 4, 5, 6, 7, 8, 9, 0, 11, 12]) (.region [.op 174 (.move (.t 10)), .op 21 (.move (.t 0))] [2, 3, 4, 5, 6, 7, 8, 9, 0, 11])) := ⟨rfl⟩
def c168_n16 : SCode := .seq c168_n17 c168_n18
instance : IsSeq c168_n16 c168_n17 c168_n18 := ⟨rfl⟩
def c168_n15 : SCode := .block 9 [some 0, some 1, some 2, some 3, some 4, some 18, some 19, some 20, some 21, some 22] c168_n16
instance : IsBlock c168_n15 9 [some 0, some 1, some 2, some 3, some 4, some 18, some 19, some 20, some 21, some 22] c168_n16 := ⟨rfl⟩
def c168_l4b : SCode := (.seq (.seq (.region [.op 149 (.move (.t 7)), .op 150 (.move (.t 9)), .op 151 (.bin .lss (.t 1) (.t 0))] [3, 4, 5, 6, 7, 8, 9, 10, 11, 12, 0]) (.cond (.t 10) (.pre [0, 1, 2, 3, 4, 5, 6, 7, 8, 9] .skip) (.pre [0, 1, 2, 3, 4, 5, 6, 7] (.exit 8)))) c168_n15)
def c168_l4 : SCode := .loop true c168_l4b
def c168_n20 : SCode := .cond (.t 5) (.seq (.region [.op 29 (.move (.t 2)), .op 10 (.move (.t 0))] [2, 3, 5, 6, 0]) (.seq (.region [.op 30 (.move (.t 2)), .op 11 (.move (.t 0))] [2, 3, 5, 6, 0]) (.seq (.block 0 [some 0, some 1, some 10] c168_l0) (.seq (.seq (.region [.op 54 (.move (.t 1)), .op 13 (.move (.t 0))] [2, 4, 0]) (.block 2 [] c168_l1)) .ret)))) (.pre [0, 1, 2, 3, 4] .skip)
instance : IsCond c168_n20 (.t 5) (.seq (.region [.op 29 (.move (.t 2)), .op 10 (.move (.t 0))] [2, 3, 5, 6, 0]) (.seq (.region [.op 30 (.move (.t 2)), .op 11 (.move (.t 0))] [2, 3, 5, 6, 0]) (.seq (.block 0 [some 0, some 1, some 10] c168_l0) (.seq (.seq (.region [.op 54 (.move (.t 1)), .op 13 (.move (.t 0))] [2, 4, 0]) (.block 2 [] c168_l1)) .ret)))) (.pre [0, 1, 2, 3, 4] .skip) := ⟨rfl⟩
def c168_n22 : SCode := .cond (.t 5) (.seq (.region [.op 81 (.move (.t 1)), .op 14 (.move (.t 0))] [2, 4, 6, 0]) (.seq (.region [.op 82 (.move (.t 1)), .op 15 (.move (.t 0))] [2, 3, 4, 5, 0]) (.seq (.block 4 [some 0, some 2, some 14] c168_l2) (.seq (.seq (.region [.op 107 (.move (.t 1)), .op 17 (.move (.t 0))] [2, 4, 0]) (.block 6 [] c168_l3)) .ret)))) (.pre [0, 1, 2, 3, 4] .skip)
instance : IsCond c168_n22 (.t 5) (.seq (.region [.op 81 (.move (.t 1)), .op 14 (.move (.t 0))] [2, 4, 6, 0]) (.seq (.region [.op 82 (.move (.t 1)), .op 15 (.move (.t 0))] [2, 3, 4, 5, 0]) (.seq (.block 4 [some 0, some 2, some 14] c168_l2) (.seq (.seq (.region [.op 107 (.move (.t 1)), .op 17 (.move (.t 0))] [2, 4, 0]) (.block 6 [] c168_l3)) .ret)))) (.pre [0, 1, 2, 3, 4] .skip) := ⟨rfl⟩
@[simp] def c168_n23 : SCode := (.seq (.region [.op 77 (.move (.t 3)), .op 78 (.move (.t 3)), .op 79 (.bin .sub (.t 1) (.t 0)), .op 80 (.bin .eql (.t 0) (.k (.c (.int .i64 1))))] [4, 5, 6, 7, 8, 0]) c168_n22)
@[simp] def c168_n25 : SCode := (.region [.op 129 (.move (.t 1)), .op 130 (.move (.t 4)), .op 131 (.bin .add (.t 1) (.t 0)), .op 132 (.conv .u64 (.t 0)), .op 133 (.bin .shr (.t 0) (.k (.c (.int .u64 1)))), .op 134 (.conv .i64 (.t 0)), .op 18 (.move (.t 0))] [7, 8, 9, 10, 11, 0])
@[simp] def c168_n27 : SCode := (.region [.op 135 (.move (.t 5)), .op 136 (.move (.t 3)), .op 137 (.bin .add (.t 1) (.t 0)), .op 19 (.move (.t 0))] [4, 5, 6, 7, 8, 9, 0])
@[simp] def c168_n29 : SCode := (.region [.op 20 (.move (.k (.c (.int .i64 0)))), .op 21 (.move (.k (.c (.int .i64 0))))] [2, 3, 4, 5, 6, 7, 8])
def c168_n31 : SCode := .cond (.t 7) (.seq (.region [.op 141 (.move (.t 6)), .op 142 (.move (.t 4)), .op 143 (.bin .sub (.t 1) (.t 0)), .op 20 (.move (.t 0))] [4, 5, 6, 7, 8, 9, 10, 0]) (.region [.op 144 (.move (.t 5)), .op 21 (.move (.t 0))] [2, 3, 4, 5, 6, 7, 8, 9, 0])) (.seq (.region [.op 145 (.move (.t 1)), .op 20 (.move (.t 0))] [2, 3, 4, 5, 6, 7, 8, 0]) (.region [.op 146 (.move (.t 2)), .op 21 (.move (.t 0))] [2, 3, 4, 5, 6, 7, 8, 9, 0]))
instance : IsCond c168_n31 (.t 7) (.seq (.region [.op 141 (.move (.t 6)), .op 142 (.move (.t 4)), .op 143 (.bin .sub (.t 1) (.t 0)), .op 20 (.move (.t 0))] [4, 5, 6, 7, 8, 9, 10, 0]) (.region [.op 144 (.move (.t 5)), .op 21 (.move (.t 0))] [2, 3, 4, 5, 6, 7, 8, 9, 0])) (.seq (.region [.op 145 (.move (.t 1)), .op 20 (.move (.t 0))] [2, 3, 4, 5, 6, 7, 8, 0]) (.region [.op 146 (.move (.t 2)), .op 21 (.move (.t 0))] [2, 3, 4, 5, 6, 7, 8, 9, 0])) := ⟨rfl⟩
@[simp] def c168_n32 : SCode := (.seq (.region [.op 138 (.move (.t 2)), .op 139 (.move (.t 6)), .op 140 (.bin .gtr (.t 1) (.t 0))] [3, 4, 5, 6, 7, 8, 9, 0]) c168_n31)
@[simp] def c168_n34 : SCode := (.region [.op 147 (.move (.t 6)), .op 148 (.bin .sub (.t 0) (.k (.c (.int .i64 1)))), .op 22 (.move (.t 0))] [3, 4, 5, 6, 7, 8, 9, 10, 11, 0])
@[simp] def c168_n36 : SCode := (.block 8 [some 0, some 1, some 2, some 3, some 4, some 18, some 19, some 20] c168_l4)
@[simp] def c168_n38 : SCode := (.region [.op 175 (.move (.t 6)), .op 176 (.move (.t 8)), .op 177 (.bin .sub (.t 1) (.t 0)), .op 24 (.move (.t 0))] [4, 5, 6, 7, 8, 9, 11, 0])
@[simp] def c168_n40 : SCode := (.seq (.region [.op 178 (.move (.t 6)), .op 179 (.move (.t 3)), .op 180 (.bin .lss (.t 1) (.t 0)), .op 181 (.move (.t 0)), .andN 185 0 [.op 182 (.move (.t 6)), .op 183 (.move (.t 12)), .op 184 (.bin .lss (.t 1) (.t 0))] (.t 0)] [5, 6, 7, 8, 9, 10, 11, 12, 0]) (.cond (.t 8) (.region [.op 186 (.move (.t 0)), .op 187 (.move (.t 7)), .op 188 (.move (.t 4)), .op 189 (.move (.t 10)), .op 190 (.move (.t 8)), .op 191 (.call false (.k (.c (.func 172 [] []))) [(.t 4), (.t 3), (.t 2), (.t 1), (.t 0)])] [6, 7, 9, 10, 11, 12, 13]) (.pre [0, 1, 3, 4, 5, 6, 7] .skip)))
@[simp] def c168_n42 : SCode := (.seq (.region [.op 192 (.move (.t 1)), .op 193 (.move (.t 6)), .op 194 (.bin .lss (.t 1) (.t 0)), .op 195 (.move (.t 0)), .andN 199 0 [.op 196 (.move (.t 9)), .op 197 (.move (.t 9)), .op 198 (.bin .lss (.t 1) (.t 0))] (.t 0)] [5, 6, 7, 8, 9, 10, 11, 0]) (.cond (.t 7) (.region [.op 200 (.move (.t 0)), .op 201 (.move (.t 2)), .op 202 (.move (.t 7)), .op 203 (.move (.t 7)), .op 204 (.move (.t 7)), .op 205 (.call false (.k (.c (.func 168 [] []))) [(.t 4), (.t 3), (.t 2), (.t 1), (.t 0)])] [6, 8, 9, 10, 12]) (.pre [0, 2, 3, 4, 6] .skip)))
@[simp] def c168_n44 : SCode := (.region [.op 206 (.move (.t 3)), .op 207 (.move (.t 5)), .op 208 (.bin .lss (.t 1) (.t 0)), .op 209 (.move (.t 0)), .andN 213 0 [.op 210 (.move (.t 8)), .op 211 (.move (.t 6)), .op 212 (.bin .lss (.t 1) (.t 0))] (.t 0)] [5, 6, 7, 8, 9, 0])
def c168_n43 : SCode := .seq c168_n44 (.cond (.t 5) (.region [.op 214 (.move (.t 0)), .op 215 (.move (.t 4)), .op 216 (.move (.t 6)), .op 217 (.move (.t 4)), .op 218 (.move (.t 6)), .op 219 (.call false (.k (.c (.func 168 [] []))) [(.t 4), (.t 3), (.t 2), (.t 1), (.t 0)])] []) (.pre [] .skip))
instance : IsSeq c168_n43 c168_n44 (.cond (.t 5) (.region [.op 214 (.move (.t 0)), .op 215 (.move (.t 4)), .op 216 (.move (.t 6)), .op 217 (.move (.t 4)), .op 218 (.move (.t 6)), .op 219 (.call false (.k (.c (.func 168 [] []))) [(.t 4), (.t 3), (.t 2), (.t 1), (.t 0)])] []) (.pre [] .skip)) := ⟨rfl⟩
def c168_n41 : SCode := .seq c168_n42 c168_n43
instance : IsSeq c168_n41 c168_n42 c168_n43 := ⟨rfl⟩
def c168_n39 : SCode := .seq c168_n40 c168_n41
instance : IsSeq c168_n39 c168_n40 c168_n41 := ⟨rfl⟩
def c168_n37 : SCode := .seq c168_n38 c168_n39
instance : IsSeq c168_n37 c168_n38 c168_n39 := ⟨rfl⟩
def c168_n35 : SCode := .seq c168_n36 c168_n37
instance : IsSeq c168_n35 c168_n36 c168_n37 := ⟨rfl⟩
def c168_n33 : SCode := .seq c168_n34 c168_n35
instance : IsSeq c168_n33 c168_n34 c168_n35 := ⟨rfl⟩
def c168_n30 : SCode := .seq c168_n32 c168_n33
instance : IsSeq c168_n30 c168_n32 c168_n33 := ⟨rfl⟩
def c168_n28 : SCode := .seq c168_n29 c168_n30
instance : IsSeq c168_n28 c168_n29 c168_n30 := ⟨rfl⟩
def c168_n26 : SCode := .seq c168_n27 c168_n28
instance : IsSeq c168_n26 c168_n27 c168_n28 := ⟨rfl⟩
def c168_n24 : SCode := .seq c168_n25 c168_n26
instance : IsSeq c168_n24 c168_n25 c168_n26 := ⟨rfl⟩
def c168_n21 : SCode := .seq c168_n23 c168_n24
instance : IsSeq c168_n21 c168_n23 c168_n24 := ⟨rfl⟩
def c168 : SCode := (.seq (.seq (.region [.op 25 (.move (.t 2)), .op 26 (.move (.t 2)), .op 27 (.bin .sub (.t 1) (.t 0)), .op 28 (.bin .eql (.t 0) (.k (.c (.int .i64 1))))] [4, 5, 6, 7, 8, 0]) c168_n20) c168_n21)
def F168 : SFunc := .code .shared 220 5 [] [] c168
def c169_n3 : SCode := .seq (.region [.op 10 (.move (.t 3)), .op 5 (.move (.t 0))] [2, 3, 0, 4, 5]) (.seq (.region [.op 11 (.move (.t 1)), .op 12 (.move (.t 1)), .op 13 (.move (.t 4)), .op 14 (.idxSlice 3 (.t 1) (.t 0)), .op 15 (.load (some 3) (.t 0)), .op 16 (.call false (.t 4) [(.t 0)])] [6, 7, 8, 9, 10, 0]) (.cond (.t 5) (.seq (.region [.op 17 (.move (.t 2)), .op 4 (.move (.t 0))] [0]) .ret) (.pre [0, 1, 3, 4] .skip)))
def c169_n2 : SCode := .seq (.block 1 [some 0, some 1, some 7, some 8] c169_n3) (.region [.op 18 (.bin .add (.t 3) (.k (.c (.int .i64 1)))), .op 8 (.move (.t 0))] [2, 3, 4, 0])
def c169_n1 : SCode := .seq (.cond (.t 4) (.pre [0, 1, 2, 3] .skip) (.pre [] (.exit 0))) c169_n2
def c169_l0b : SCode := (.seq (.region [.op 9 (.bin .lss (.t 3) (.t 2))] [1, 2, 3, 4, 0]) c169_n1)
def c169_l0 : SCode := .loop true c169_l0b
def c169 : SCode := (.seq (.region [.op 4 (.move (.k (.c (.int .i64 0))))] [1, 2]) (.seq (.seq (.region [.op 6 (.move (.t 0)), .op 7 (.len 1 (.t 0)), .op 8 (.move (.k (.c (.int .i64 0))))] [3, 4, 1, 0]) (.block 0 [] c169_l0)) (.seq (.region [.op 4 (.move (.k (.c (.int .i64 (-1)))))] [0]) .ret)))
def F169 : SFunc := .code .pure 19 2 [some 4] [.tmp 0] c169
def c170_n3 : SCode := .seq (.region [.op 10 (.move (.t 3)), .op 5 (.move (.t 0))] [2, 3, 0, 4, 5]) (.seq (.region [.op 11 (.move (.t 1)), .op 12 (.move (.t 1)), .op 13 (.move (.t 4)), .op 14 (.idxSlice 1 (.t 1) (.t 0)), .op 15 (.load none (.t 0)), .op 16 (.call false (.t 4) [(.t 0)])] [6, 7, 8, 9, 10, 0]) (.cond (.t 5) (.seq (.region [.op 17 (.move (.t 2)), .op 4 (.move (.t 0))] [0]) .ret) (.pre [0, 1, 3, 4] .skip)))
def c170_n2 : SCode := .seq (.block 1 [some 0, some 1, some 7, some 8] c170_n3) (.region [.op 18 (.bin .add (.t 3) (.k (.c (.int .i64 1)))), .op 8 (.move (.t 0))] [2, 3, 4, 0])
def c170_n1 : SCode := .seq (.cond (.t 4) (.pre [0, 1, 2, 3] .skip) (.pre [] (.exit 0))) c170_n2
def c170_l0b : SCode := (.seq (.region [.op 9 (.bin .lss (.t 3) (.t 2))] [1, 2, 3, 4, 0]) c170_n1)
def c170_l0 : SCode := .loop true c170_l0b
def c170 : SCode := (.seq (.region [.op 4 (.move (.k (.c (.int .i64 0))))] [1, 2]) (.seq (.seq (.region [.op 6 (.move (.t 0)), .op 7 (.len 1 (.t 0)), .op 8 (.move (.k (.c (.int .i64 0))))] [3, 4, 1, 0]) (.block 0 [] c170_l0)) (.seq (.region [.op 4 (.move (.k (.c (.int .i64 (-1)))))] [0]) .ret)))
def F170 : SFunc := .code .pure 19 2 [some 4] [.tmp 0] c170
@[simp] def c171_n3 : SCode := (.region [.op 14 (.move (.t 0)), .op 15 (.move (.t 5)), .op 16 (.move (.t 7)), .op 17 (.move (.t 5)), .op 18 (.call false (.k (.c (.func 173 [] []))) [(.t 3), (.t 2), (.t 1), (.t 0)])] [5, 6, 7, 8, 10])
def c171_n2 : SCode := .seq c171_n3 (.seq (.region [.op 19 (.move (.t 4)), .op 7 (.move (.t 0))] [2, 3, 4, 5, 0, 6]) (.region [.op 20 (.move (.t 5)), .op 21 (.move (.t 4)), .op 22 (.bin .add (.t 1) (.t 0)), .op 8 (.move (.t 0))] [4, 5, 6, 7, 8, 0]))
def c171_n1 : SCode := .block 1 [some 0, some 1, some 2, some 6, some 7, some 8] c171_n2
instance : IsBlock c171_n1 1 [some 0, some 1, some 2, some 6, some 7, some 8] c171_n2 := ⟨rfl⟩
def c171_l0b : SCode := (.seq (.seq (.region [.op 11 (.move (.t 5)), .op 12 (.move (.t 2)), .op 13 (.bin .leq (.t 1) (.t 0))] [3, 4, 5, 6, 7, 8, 0]) (.cond (.t 6) (.pre [0, 1, 2, 3, 4, 5] .skip) (.pre [0, 1, 2, 3, 4] (.exit 0)))) c171_n1)
def c171_l0 : SCode := .loop true c171_l0b
@[simp] def c171_n6 : SCode := (.region [.op 36 (.move (.t 0)), .op 37 (.move (.t 5)), .op 38 (.move (.t 6)), .op 39 (.move (.t 6)), .op 40 (.bin .add (.t 1) (.t 0)), .op 41 (.move (.t 10)), .op 42 (.move (.t 8)), .op 43 (.call false (.k (.c (.func 174 [] []))) [(.t 6), (.t 5), (.t 2), (.t 1), (.t 0)])] [8, 9, 10, 11, 13])
def c171_n5 : SCode := .seq c171_n6 (.seq (.region [.op 44 (.move (.t 4)), .op 7 (.move (.t 0))] [2, 3, 4, 5, 0, 6]) (.region [.op 45 (.move (.t 5)), .op 46 (.move (.t 4)), .op 47 (.bin .mul (.k (.c (.int .i64 2))) (.t 0)), .op 48 (.bin .add (.t 2) (.t 0)), .op 8 (.move (.t 0))] [5, 6, 7, 8, 9, 0]))
def c171_n4 : SCode := .block 5 [some 0, some 1, some 2, some 6, some 7, some 8] c171_n5
instance : IsBlock c171_n4 5 [some 0, some 1, some 2, some 6, some 7, some 8] c171_n5 := ⟨rfl⟩
def c171_l1b : SCode := (.seq (.seq (.region [.op 33 (.move (.t 5)), .op 34 (.move (.t 2)), .op 35 (.bin .leq (.t 1) (.t 0))] [3, 4, 5, 6, 7, 8, 0]) (.cond (.t 6) (.pre [0, 1, 2, 3, 4, 5] .skip) (.pre [0, 1, 2, 3, 4] (.exit 4)))) c171_n4)
def c171_l1 : SCode := .loop true c171_l1b
@[simp] def c171_n9 : SCode := (.region [.op 31 (.move (.t 3)), .op 32 (.bin .mul (.k (.c (.int .i64 2))) (.t 0)), .op 7 (.move (.k (.c (.int .i64 0)))), .op 8 (.move (.t 1))] [4, 5, 6, 7, 1, 0])
@[simp] def c171_n13 : SCode := (.region [.op 52 (.move (.t 5)), .op 53 (.move (.t 2)), .op 54 (.bin .lss (.t 1) (.t 0))] [3, 4, 5, 6, 7, 8, 0])
def c171_n12 : SCode := .seq c171_n13 (.cond (.t 6) (.region [.op 55 (.move (.t 0)), .op 56 (.move (.t 5)), .op 57 (.move (.t 7)), .op 58 (.move (.t 4)), .op 59 (.move (.t 6)), .op 60 (.call false (.k (.c (.func 174 [] []))) [(.t 4), (.t 3), (.t 2), (.t 1), (.t 0)])] [6, 7, 8, 9]) (.pre [0, 1, 2, 3] .skip))
@[simp] def c171_n14 : SCode := (.seq (.region [.op 49 (.move (.t 4)), .op 50 (.move (.t 4)), .op 51 (.bin .add (.t 1) (.t 0)), .op 9 (.move (.t 0))] [4, 5, 6, 7, 8, 0]) c171_n12)
def c171_n11 : SCode := .seq c171_n14 (.region [.op 61 (.move (.t 3)), .op 62 (.bin .mul (.t 0) (.k (.c (.int .i64 2)))), .op 6 (.move (.t 0))] [3, 4, 5, 0])
def c171_n10 : SCode := .seq (.block 4 [some 0, some 1, some 2, some 6, some 7] c171_l1) c171_n11
def c171_n8 : SCode := .seq c171_n9 c171_n10
def c171_n7 : SCode := .block 3 [some 0, some 1, some 2, some 6] c171_n8
instance : IsBlock c171_n7 3 [some 0, some 1, some 2, some 6] c171_n8 := ⟨rfl⟩
def c171_l2b : SCode := (.seq (.seq (.region [.op 28 (.move (.t 3)), .op 29 (.move (.t 2)), .op 30 (.bin .lss (.t 1) (.t 0))] [3, 4, 5, 6, 0]) (.cond (.t 4) (.pre [0, 1, 2, 3] .skip) (.pre [] (.exit 2)))) c171_n7)
def c171_l2 : SCode := .loop true c171_l2b
@[simp] def c171_n16 : SCode := (.region [.op 10 (.move (.t 3)), .op 7 (.move (.k (.c (.int .i64 0)))), .op 8 (.move (.t 1))] [3, 4, 5, 6, 1, 0])
def c171_n15 : SCode := .seq c171_n16 (.seq (.block 0 [some 0, some 1, some 2, some 6, some 7] c171_l0) (.seq (.region [.op 23 (.move (.t 0)), .op 24 (.move (.t 5)), .op 25 (.move (.t 3)), .op 26 (.move (.t 5)), .op 27 (.call false (.k (.c (.func 173 [] []))) [(.t 3), (.t 2), (.t 1), (.t 0)])] [5, 6, 7, 8]) (.block 2 [] c171_l2)))
def c171 : SCode := (.seq (.region [.op 6 (.move (.k (.c (.int .i64 20))))] [1, 2, 3, 0]) c171_n15)
def F171 : SFunc := .code .shared 63 3 [] [] c171
@[simp] def c172_n3 : SCode := (.region [.op 21 (.move (.t 3)), .op 22 (.move (.t 5)), .op 23 (.bin .gtr (.t 1) (.t 0))] [3, 4, 5, 6, 7, 0])
@[simp] def c172_n6 : SCode := (.region [.op 24 (.move (.t 0)), .op 25 (.move (.t 2)), .op 26 (.move (.t 5)), .op 27 (.bin .sub (.t 1) (.t 0)), .op 28 (.move (.t 5)), .op 29 (.move (.t 9)), .op 30 (.move (.t 8)), .op 31 (.call false (.k (.c (.func 175 [] []))) [(.t 6), (.t 3), (.t 2), (.t 1), (.t 0)])] [8, 9, 10, 11, 12])
def c172_n5 : SCode := .seq c172_n6 (.region [.op 32 (.move (.t 3)), .op 33 (.move (.t 5)), .op 34 (.bin .sub (.t 1) (.t 0)), .op 10 (.move (.t 0))] [4, 5, 6, 0, 8])
instance : IsSeq c172_n5 c172_n6 (.region [.op 32 (.move (.t 3)), .op 33 (.move (.t 5)), .op 34 (.bin .sub (.t 1) (.t 0)), .op 10 (.move (.t 0))] [4, 5, 6, 0, 8]) := ⟨rfl⟩
@[simp] def c172_n8 : SCode := (.region [.op 35 (.move (.t 0)), .op 36 (.move (.t 2)), .op 37 (.move (.t 5)), .op 38 (.bin .sub (.t 1) (.t 0)), .op 39 (.move (.t 5)), .op 40 (.move (.t 9)), .op 41 (.bin .add (.t 1) (.t 0)), .op 42 (.move (.t 10)), .op 43 (.bin .sub (.t 1) (.t 0)), .op 44 (.move (.t 12)), .op 45 (.move (.t 12)), .op 46 (.call false (.k (.c (.func 175 [] []))) [(.t 10), (.t 7), (.t 2), (.t 1), (.t 0)])] [12, 13, 14, 15, 16])
def c172_n7 : SCode := .seq c172_n8 (.region [.op 47 (.move (.t 4)), .op 48 (.move (.t 4)), .op 49 (.bin .sub (.t 1) (.t 0)), .op 11 (.move (.t 0))] [4, 5, 6, 7, 0])
instance : IsSeq c172_n7 c172_n8 (.region [.op 47 (.move (.t 4)), .op 48 (.move (.t 4)), .op 49 (.bin .sub (.t 1) (.t 0)), .op 11 (.move (.t 0))] [4, 5, 6, 7, 0]) := ⟨rfl⟩
def c172_n4 : SCode := .cond (.t 5) c172_n5 c172_n7
instance : IsCond c172_n4 (.t 5) c172_n5 c172_n7 := ⟨rfl⟩
def c172_n2 : SCode := .seq c172_n3 c172_n4
instance : IsSeq c172_n2 c172_n3 c172_n4 := ⟨rfl⟩
def c172_n1 : SCode := .block 1 [some 0, some 2, some 4, some 10, some 11] c172_n2
instance : IsBlock c172_n1 1 [some 0, some 2, some 4, some 10, some 11] c172_n2 := ⟨rfl⟩
def c172_l0b : SCode := (.seq (.seq (.region [.op 18 (.move (.t 3)), .op 19 (.move (.t 5)), .op 20 (.bin .neq (.t 1) (.t 0))] [3, 4, 5, 6, 7, 0]) (.cond (.t 5) (.pre [0, 1, 2, 3, 4] .skip) (.pre [0, 1, 2, 3] (.exit 0)))) c172_n1)
def c172_l0 : SCode := .loop true c172_l0b
@[simp] def c172_n10 : SCode := (.region [.op 15 (.move (.t 2)), .op 16 (.move (.t 2)), .op 17 (.bin .sub (.t 1) (.t 0)), .op 11 (.move (.t 0))] [4, 5, 7, 8, 0])
def c172_n9 : SCode := .seq c172_n10 (.seq (.block 0 [some 0, some 2, some 4, some 10] c172_l0) (.region [.op 50 (.move (.t 0)), .op 51 (.move (.t 2)), .op 52 (.move (.t 5)), .op 53 (.bin .sub (.t 1) (.t 0)), .op 54 (.move (.t 5)), .op 55 (.move (.t 8)), .op 56 (.move (.t 8)), .op 57 (.call false (.k (.c (.func 175 [] []))) [(.t 6), (.t 3), (.t 2), (.t 1), (.t 0)])] []))
instance : IsSeq c172_n9 c172_n10 (.seq (.block 0 [some 0, some 2, some 4, some 10] c172_l0) (.region [.op 50 (.move (.t 0)), .op 51 (.move (.t 2)), .op 52 (.move (.t 5)), .op 53 (.bin .sub (.t 1) (.t 0)), .op 54 (.move (.t 5)), .op 55 (.move (.t 8)), .op 56 (.move (.t 8)), .op 57 (.call false (.k (.c (.func 175 [] []))) [(.t 6), (.t 3), (.t 2), (.t 1), (.t 0)])] [])) := ⟨rfl⟩
def c172 : SCode := (.seq (.region [.op 12 (.move (.t 2)), .op 13 (.move (.t 2)), .op 14 (.bin .sub (.t 1) (.t 0)), .op 10 (.move (.t 0))] [4, 6, 7, 8, 0]) c172_n9)
def F172 : SFunc := .code .shared 58 5 [] [] c172
@[simp] def c173_n2 : SCode := (.draw 0 [.op 37 (.move (.t 0)), .op 38 (.move (.t 6)), .op 39 (.move (.t 2)), .op 40 (.move (.t 8)), .op 41 (.bin .sub (.t 0) (.k (.c (.int .i64 1)))), .op 42 (.move (.t 5)), .op 43 (.move (.t 11)), .op 44 (.bin .sub (.t 0) (.k (.c (.int .i64 1)))), .op 45 (.idxSlice 3 (.t 2) (.t 0)), .op 46 (.load (some 3) (.t 0)) none .old, .op 47 (.move (.t 10)), .op 48 (.move (.t 16)), .op 49 (.idxSlice 3 (.t 1) (.t 0)), .op 50 (.load (some 3) (.t 0)) none .old, .op 51 (.idxSlice 3 (.t 13) (.t 12)), .eff (.store 3 (.t 0) (.t 5)) none .old, .op 52 (.idxSlice 3 (.t 12) (.t 10)), .eff (.store 3 (.t 0) (.t 2)) none .old] [16, 17, 18, 19, 20, 21])
def c173_n1 : SCode := .seq (.block 3 [some 0, some 1, some 2, some 3, some 8, some 9] c173_n2) (.region [.op 35 (.move (.t 5)), .op 36 (.bin .sub (.t 0) (.k (.c (.int .i64 1)))), .op 9 (.move (.t 0))] [3, 4, 5, 6, 7, 0])
def c173_l0b : SCode := (.seq (.seq (.draw 0 [.op 18 (.move (.t 5)), .op 19 (.move (.t 2)), .op 20 (.bin .gtr (.t 1) (.t 0)), .op 21 (.move (.t 0)), .andN 34 0 [.op 22 (.move (.t 7)), .op 23 (.move (.t 5)), .op 24 (.move (.t 11)), .op 25 (.idxSlice 3 (.t 1) (.t 0)), .op 26 (.load (some 3) (.t 0)) none .old, .op 27 (.move (.t 9)), .op 28 (.move (.t 15)), .op 29 (.bin .sub (.t 0) (.k (.c (.int .i64 1)))), .op 30 (.idxSlice 3 (.t 2) (.t 0)), .op 31 (.load (some 3) (.t 0)) none .old, .op 32 (.call false (.t 9) [(.t 5), (.t 0)]), .op 33 (.bin .lss (.t 0) (.k (.c (.int .i64 0))))] (.t 0)] [5, 6, 7, 8, 9, 10, 0]) (.cond (.t 6) (.pre [0, 1, 2, 3, 4, 5] .skip) (.pre [0, 1, 2, 3, 4] (.exit 2)))) c173_n1)
def c173_l0 : SCode := .loop true c173_l0b
def c173_l1b : SCode := (.seq (.seq (.region [.op 12 (.move (.t 4)), .op 13 (.move (.t 3)), .op 14 (.bin .lss (.t 1) (.t 0))] [3, 4, 5, 6, 7, 0]) (.cond (.t 5) (.pre [0, 1, 2, 3, 4] .skip) (.pre [] (.exit 0)))) (.seq (.block 1 [some 0, some 1, some 2, some 3, some 8] (.seq (.region [.op 17 (.move (.t 4)), .op 9 (.move (.t 0))] [2, 3, 4, 5, 6, 0]) (.block 2 [some 0, some 1, some 2, some 3, some 8] c173_l0))) (.region [.op 15 (.move (.t 4)), .op 16 (.bin .add (.t 0) (.k (.c (.int .i64 1)))), .op 8 (.move (.t 0))] [3, 4, 5, 6, 0])))
def c173_l1 : SCode := .loop true c173_l1b
def c173 : SCode := (.seq (.region [.op 10 (.move (.t 1)), .op 11 (.bin .add (.t 0) (.k (.c (.int .i64 1)))), .op 8 (.move (.t 0))] [3, 4, 5, 6, 0]) (.block 0 [] c173_l1))
def F173 : SFunc := .code .shared 53 4 [] [] c173
@[simp] def c174_n3 : SCode := (.region [.op 34 (.move (.t 3)), .op 35 (.move (.t 5)), .op 36 (.bin .add (.t 1) (.t 0)), .op 37 (.conv .u64 (.t 0)), .op 38 (.bin .shr (.t 0) (.k (.c (.int .u64 1)))), .op 39 (.conv .i64 (.t 0)), .op 12 (.move (.t 0))] [7, 8, 9, 10, 11, 0])
@[simp] def c174_n5 : SCode := (.draw 0 [.op 40 (.move (.t 2)), .op 41 (.move (.t 1)), .op 42 (.move (.t 7)), .op 43 (.idxSlice 3 (.t 1) (.t 0)), .op 44 (.load (some 3) (.t 0)) none .old, .op 45 (.move (.t 5)), .op 46 (.move (.t 7)), .op 47 (.idxSlice 3 (.t 1) (.t 0)), .op 48 (.load (some 3) (.t 0)) none .old, .op 49 (.call false (.t 8) [(.t 4), (.t 0)]), .op 50 (.bin .lss (.t 0) (.k (.c (.int .i64 0))))] [11, 12, 13, 14, 15, 16, 0])
def c174_n4 : SCode := .seq c174_n5 (.cond (.t 6) (.region [.op 51 (.move (.t 5)), .op 52 (.bin .add (.t 0) (.k (.c (.int .i64 1)))), .op 10 (.move (.t 0))] [3, 4, 5, 0, 7]) (.region [.op 53 (.move (.t 5)), .op 11 (.move (.t 0))] [2, 3, 4, 5, 0]))
def c174_n2 : SCode := .seq c174_n3 c174_n4
def c174_n1 : SCode := .block 1 [some 0, some 1, some 4, some 10, some 11] c174_n2
instance : IsBlock c174_n1 1 [some 0, some 1, some 4, some 10, some 11] c174_n2 := ⟨rfl⟩
def c174_l0b : SCode := (.seq (.seq (.region [.op 31 (.move (.t 3)), .op 32 (.move (.t 5)), .op 33 (.bin .lss (.t 1) (.t 0))] [3, 4, 5, 6, 7, 0]) (.cond (.t 5) (.pre [0, 1, 2, 3, 4] .skip) (.pre [0, 1, 3] (.exit 0)))) c174_n1)
def c174_l0 : SCode := .loop true c174_l0b
@[simp] def c174_n7 : SCode := (.draw 0 [.op 61 (.move (.t 0)), .op 62 (.move (.t 3)), .op 63 (.move (.t 2)), .op 64 (.move (.t 5)), .op 65 (.bin .add (.t 0) (.k (.c (.int .i64 1)))), .op 66 (.move (.t 5)), .op 67 (.move (.t 8)), .op 68 (.bin .add (.t 0) (.k (.c (.int .i64 1)))), .op 69 (.idxSlice 3 (.t 2) (.t 0)), .op 70 (.load (some 3) (.t 0)) none .old, .op 71 (.move (.t 10)), .op 72 (.move (.t 13)), .op 73 (.idxSlice 3 (.t 1) (.t 0)), .op 74 (.load (some 3) (.t 0)) none .old, .op 75 (.idxSlice 3 (.t 13) (.t 12)), .eff (.store 3 (.t 0) (.t 5)) none .old, .op 76 (.idxSlice 3 (.t 12) (.t 10)), .eff (.store 3 (.t 0) (.t 2)) none .old] [16, 17, 18])
def c174_n6 : SCode := .seq (.block 3 [some 0, some 10, some 13] c174_n7) (.region [.op 59 (.move (.t 2)), .op 60 (.bin .add (.t 0) (.k (.c (.int .i64 1)))), .op 13 (.move (.t 0))] [3, 4, 0])
def c174_l1b : SCode := (.seq (.seq (.region [.op 55 (.move (.t 2)), .op 56 (.move (.t 2)), .op 57 (.bin .sub (.t 0) (.k (.c (.int .i64 1)))), .op 58 (.bin .lss (.t 2) (.t 0))] [4, 5, 6, 0]) (.cond (.t 3) (.pre [0, 1, 2] .skip) (.pre [] (.exit 2)))) c174_n6)
def c174_l1 : SCode := .loop true c174_l1b
@[simp] def c174_n10 : SCode := (.region [.op 86 (.move (.t 3)), .op 87 (.move (.t 5)), .op 88 (.bin .add (.t 1) (.t 0)), .op 89 (.conv .u64 (.t 0)), .op 90 (.bin .shr (.t 0) (.k (.c (.int .u64 1)))), .op 91 (.conv .i64 (.t 0)), .op 16 (.move (.t 0))] [7, 8, 9, 10, 11, 0])
@[simp] def c174_n12 : SCode := (.draw 0 [.op 92 (.move (.t 2)), .op 93 (.move (.t 1)), .op 94 (.move (.t 3)), .op 95 (.idxSlice 3 (.t 1) (.t 0)), .op 96 (.load (some 3) (.t 0)) none .old, .op 97 (.move (.t 5)), .op 98 (.move (.t 11)), .op 99 (.idxSlice 3 (.t 1) (.t 0)), .op 100 (.load (some 3) (.t 0)) none .old, .op 101 (.call false (.t 8) [(.t 4), (.t 0)]), .op 102 (.bin .lss (.t 0) (.k (.c (.int .i64 0)))), .op 103 (.not (.t 0))] [12, 13, 14, 15, 16, 17, 0])
def c174_n11 : SCode := .seq c174_n12 (.cond (.t 6) (.region [.op 104 (.move (.t 5)), .op 105 (.bin .add (.t 0) (.k (.c (.int .i64 1)))), .op 14 (.move (.t 0))] [3, 4, 5, 0, 7]) (.region [.op 106 (.move (.t 5)), .op 15 (.move (.t 0))] [2, 3, 4, 5, 0]))
def c174_n9 : SCode := .seq c174_n10 c174_n11
def c174_n8 : SCode := .block 5 [some 0, some 2, some 4, some 14, some 15] c174_n9
instance : IsBlock c174_n8 5 [some 0, some 2, some 4, some 14, some 15] c174_n9 := ⟨rfl⟩
def c174_l2b : SCode := (.seq (.seq (.region [.op 83 (.move (.t 3)), .op 84 (.move (.t 5)), .op 85 (.bin .lss (.t 1) (.t 0))] [3, 4, 5, 6, 7, 0]) (.cond (.t 5) (.pre [0, 1, 2, 3, 4] .skip) (.pre [0, 1, 3] (.exit 4)))) c174_n8)
def c174_l2 : SCode := .loop true c174_l2b
@[simp] def c174_n14 : SCode := (.draw 0 [.op 113 (.move (.t 0)), .op 114 (.move (.t 3)), .op 115 (.move (.t 2)), .op 116 (.move (.t 5)), .op 117 (.bin .sub (.t 0) (.k (.c (.int .i64 1)))), .op 118 (.move (.t 5)), .op 119 (.move (.t 8)), .op 120 (.bin .sub (.t 0) (.k (.c (.int .i64 1)))), .op 121 (.idxSlice 3 (.t 2) (.t 0)), .op 122 (.load (some 3) (.t 0)) none .old, .op 123 (.move (.t 10)), .op 124 (.move (.t 13)), .op 125 (.idxSlice 3 (.t 1) (.t 0)), .op 126 (.load (some 3) (.t 0)) none .old, .op 127 (.idxSlice 3 (.t 13) (.t 12)), .eff (.store 3 (.t 0) (.t 5)) none .old, .op 128 (.idxSlice 3 (.t 12) (.t 10)), .eff (.store 3 (.t 0) (.t 2)) none .old] [16, 17, 18])
def c174_n13 : SCode := .seq (.block 7 [some 0, some 14, some 17] c174_n14) (.region [.op 111 (.move (.t 2)), .op 112 (.bin .sub (.t 0) (.k (.c (.int .i64 1)))), .op 17 (.move (.t 0))] [3, 4, 0])
def c174_l3b : SCode := (.seq (.seq (.region [.op 108 (.move (.t 2)), .op 109 (.move (.t 2)), .op 110 (.bin .gtr (.t 1) (.t 0))] [3, 4, 5, 0]) (.cond (.t 3) (.pre [0, 1, 2] .skip) (.pre [] (.exit 6)))) c174_n13)
def c174_l3 : SCode := .loop true c174_l3b
@[simp] def c174_n17 : SCode := (.region [.op 152 (.move (.t 7)), .op 153 (.move (.t 9)), .op 154 (.bin .add (.t 1) (.t 0)), .op 155 (.conv .u64 (.t 0)), .op 156 (.bin .shr (.t 0) (.k (.c (.int .u64 1)))), .op 157 (.conv .i64 (.t 0)), .op 23 (.move (.t 0))] [7, 8, 9, 10, 11, 12, 13, 14, 15, 16, 0])
@[simp] def c174_n19 : SCode := (.draw 0 [.op 158 (.move (.t 4)), .op 159 (.move (.t 1)), .op 160 (.move (.t 11)), .op 161 (.move (.t 13)), .op 162 (.bin .sub (.t 1) (.t 0)), .op 163 (.idxSlice 3 (.t 3) (.t 0)), .op 164 (.load (some 3) (.t 0)) none .old, .op 165 (.move (.t 7)), .op 166 (.move (.t 18)), .op 167 (.idxSlice 3 (.t 1) (.t 0)), .op 168 (.load (some 3) (.t 0)) none .old, .op 169 (.call false (.t 10) [(.t 4), (.t 0)]), .op 170 (.bin .lss (.t 0) (.k (.c (.int .i64 0)))), .op 171 (.not (.t 0))] [14, 15, 16, 17, 18, 19, 20, 21, 22, 23, 24, 0])
def c174_n18 : SCode := .seq c174_n19 (.cond (.t 11) (.region [.op 172 (.move (.t 10)), .op 173 (.bin .add (.t 0) (.k (.c (.int .i64 1)))), .op 20 (.move (.t 0))] [3, 4, 5, 6, 7, 8, 9, 0, 11, 12]) (.region [.op 174 (.move (.t 10)), .op 21 (.move (.t 0))] [2, 3, 4, 5, 6, 7, 8, 9, 0, 11]))
def c174_n16 : SCode := .seq c174_n17 c174_n18
def c174_n15 : SCode := .block 9 [some 0, some 1, some 2, some 3, some 4, some 18, some 19, some 20, some 21, some 22] c174_n16
instance : IsBlock c174_n15 9 [some 0, some 1, some 2, some 3, some 4, some 18, some 19, some 20, some 21, some 22] c174_n16 := ⟨rfl⟩
def c174_l4b : SCode := (.seq (.seq (.region [.op 149 (.move (.t 7)), .op 150 (.move (.t 9)), .op 151 (.bin .lss (.t 1) (.t 0))] [3, 4, 5, 6, 7, 8, 9, 10, 11, 12, 0]) (.cond (.t 10) (.pre [0, 1, 2, 3, 4, 5, 6, 7, 8, 9] .skip) (.pre [0, 1, 2, 3, 4, 5, 6, 7] (.exit 8)))) c174_n15)
def c174_l4 : SCode := .loop true c174_l4b
def c174_n20 : SCode := .cond (.t 5) (.seq (.region [.op 29 (.move (.t 2)), .op 10 (.move (.t 0))] [2, 3, 5, 6, 0]) (.seq (.region [.op 30 (.move (.t 2)), .op 11 (.move (.t 0))] [2, 3, 5, 6, 0]) (.seq (.block 0 [some 0, some 1, some 10] c174_l0) (.seq (.seq (.region [.op 54 (.move (.t 1)), .op 13 (.move (.t 0))] [2, 4, 0]) (.block 2 [] c174_l1)) .ret)))) (.pre [0, 1, 2, 3, 4] .skip)
def c174_n22 : SCode := .cond (.t 5) (.seq (.region [.op 81 (.move (.t 1)), .op 14 (.move (.t 0))] [2, 4, 6, 0]) (.seq (.region [.op 82 (.move (.t 1)), .op 15 (.move (.t 0))] [2, 3, 4, 5, 0]) (.seq (.block 4 [some 0, some 2, some 14] c174_l2) (.seq (.seq (.region [.op 107 (.move (.t 1)), .op 17 (.move (.t 0))] [2, 4, 0]) (.block 6 [] c174_l3)) .ret)))) (.pre [0, 1, 2, 3, 4] .skip)
@[simp] def c174_n23 : SCode := (.seq (.region [.op 77 (.move (.t 3)), .op 78 (.move (.t 3)), .op 79 (.bin .sub (.t 1) (.t 0)), .op 80 (.bin .eql (.t 0) (.k (.c (.int .i64 1))))] [4, 5, 6, 7, 8, 0]) c174_n22)
@[simp] def c174_n25 : SCode := (.region [.op 129 (.move (.t 1)), .op 130 (.move (.t 4)), .op 131 (.bin .add (.t 1) (.t 0)), .op 132 (.conv .u64 (.t 0)), .op 133 (.bin .shr (.t 0) (.k (.c (.int .u64 1)))), .op 134 (.conv .i64 (.t 0)), .op 18 (.move (.t 0))] [7, 8, 9, 10, 11, 0])
@[simp] def c174_n27 : SCode := (.region [.op 135 (.move (.t 5)), .op 136 (.move (.t 3)), .op 137 (.bin .add (.t 1) (.t 0)), .op 19 (.move (.t 0))] [4, 5, 6, 7, 8, 9, 0])
@[simp] def c174_n29 : SCode := (.region [.op 20 (.move (.k (.c (.int .i64 0)))), .op 21 (.move (.k (.c (.int .i64 0))))] [2, 3, 4, 5, 6, 7, 8])
def c174_n31 : SCode := .cond (.t 7) (.seq (.region [.op 141 (.move (.t 6)), .op 142 (.move (.t 4)), .op 143 (.bin .sub (.t 1) (.t 0)), .op 20 (.move (.t 0))] [4, 5, 6, 7, 8, 9, 10, 0]) (.region [.op 144 (.move (.t 5)), .op 21 (.move (.t 0))] [2, 3, 4, 5, 6, 7, 8, 9, 0])) (.seq (.region [.op 145 (.move (.t 1)), .op 20 (.move (.t 0))] [2, 3, 4, 5, 6, 7, 8, 0]) (.region [.op 146 (.move (.t 2)), .op 21 (.move (.t 0))] [2, 3, 4, 5, 6, 7, 8, 9, 0]))
@[simp] def c174_n32 : SCode := (.seq (.region [.op 138 (.move (.t 2)), .op 139 (.move (.t 6)), .op 140 (.bin .gtr (.t 1) (.t 0))] [3, 4, 5, 6, 7, 8, 9, 0]) c174_n31)
@[simp] def c174_n34 : SCode := (.region [.op 147 (.move (.t 6)), .op 148 (.bin .sub (.t 0) (.k (.c (.int .i64 1)))), .op 22 (.move (.t 0))] [3, 4, 5, 6, 7, 8, 9, 10, 11, 0])
@[simp] def c174_n36 : SCode := (.block 8 [some 0, some 1, some 2, some 3, some 4, some 18, some 19, some 20] c174_l4)
@[simp] def c174_n38 : SCode := (.region [.op 175 (.move (.t 6)), .op 176 (.move (.t 8)), .op 177 (.bin .sub (.t 1) (.t 0)), .op 24 (.move (.t 0))] [4, 5, 6, 7, 8, 9, 11, 0])
@[simp] def c174_n40 : SCode := (.seq (.region [.op 178 (.move (.t 6)), .op 179 (.move (.t 3)), .op 180 (.bin .lss (.t 1) (.t 0)), .op 181 (.move (.t 0)), .andN 185 0 [.op 182 (.move (.t 6)), .op 183 (.move (.t 12)), .op 184 (.bin .lss (.t 1) (.t 0))] (.t 0)] [5, 6, 7, 8, 9, 10, 11, 12, 0]) (.cond (.t 8) (.region [.op 186 (.move (.t 0)), .op 187 (.move (.t 7)), .op 188 (.move (.t 4)), .op 189 (.move (.t 10)), .op 190 (.move (.t 8)), .op 191 (.call false (.k (.c (.func 176 [] []))) [(.t 4), (.t 3), (.t 2), (.t 1), (.t 0)])] [6, 7, 9, 10, 11, 12, 13]) (.pre [0, 1, 3, 4, 5, 6, 7] .skip)))
@[simp] def c174_n42 : SCode := (.seq (.region [.op 192 (.move (.t 1)), .op 193 (.move (.t 6)), .op 194 (.bin .lss (.t 1) (.t 0)), .op 195 (.move (.t 0)), .andN 199 0 [.op 196 (.move (.t 9)), .op 197 (.move (.t 9)), .op 198 (.bin .lss (.t 1) (.t 0))] (.t 0)] [5, 6, 7, 8, 9, 10, 11, 0]) (.cond (.t 7) (.region [.op 200 (.move (.t 0)), .op 201 (.move (.t 2)), .op 202 (.move (.t 7)), .op 203 (.move (.t 7)), .op 204 (.move (.t 7)), .op 205 (.call false (.k (.c (.func 174 [] []))) [(.t 4), (.t 3), (.t 2), (.t 1), (.t 0)])] [6, 8, 9, 10, 12]) (.pre [0, 2, 3, 4, 6] .skip)))
@[simp] def c174_n44 : SCode := (.region [.op 206 (.move (.t 3)), .op 207 (.move (.t 5)), .op 208 (.bin .lss (.t 1) (.t 0)), .op 209 (.move (.t 0)), .andN 213 0 [.op 210 (.move (.t 8)), .op 211 (.move (.t 6)), .op 212 (.bin .lss (.t 1) (.t 0))] (.t 0)] [5, 6, 7, 8, 9, 0])
def c174_n43 : SCode := .seq c174_n44 (.cond (.t 5) (.region [.op 214 (.move (.t 0)), .op 215 (.move (.t 4)), .op 216 (.move (.t 6)), .op 217 (.move (.t 4)), .op 218 (.move (.t 6)), .op 219 (.call false (.k (.c (.func 174 [] []))) [(.t 4), (.t 3), (.t 2), (.t 1), (.t 0)])] []) (.pre [] .skip))
def c174_n41 : SCode := .seq c174_n42 c174_n43
def c174_n39 : SCode := .seq c174_n40 c174_n41
def c174_n37 : SCode := .seq c174_n38 c174_n39
def c174_n35 : SCode := .seq c174_n36 c174_n37
def c174_n33 : SCode := .seq c174_n34 c174_n35
def c174_n30 : SCode := .seq c174_n32 c174_n33
def c174_n28 : SCode := .seq c174_n29 c174_n30
def c174_n26 : SCode := .seq c174_n27 c174_n28
def c174_n24 : SCode := .seq c174_n25 c174_n26
def c174_n21 : SCode := .seq c174_n23 c174_n24
def c174 : SCode := (.seq (.seq (.region [.op 25 (.move (.t 2)), .op 26 (.move (.t 2)), .op 27 (.bin .sub (.t 1) (.t 0)), .op 28 (.bin .eql (.t 0) (.k (.c (.int .i64 1))))] [4, 5, 6, 7, 8, 0]) c174_n20) c174_n21)
def F174 : SFunc := .code .shared 220 5 [] [] c174
@[simp] def c175_n2 : SCode := (.draw 0 [.op 16 (.move (.t 0)), .op 17 (.move (.t 2)), .op 18 (.move (.t 6)), .op 19 (.bin .add (.t 1) (.t 0)), .op 20 (.move (.t 4)), .op 21 (.move (.t 7)), .op 22 (.move (.t 10)), .op 23 (.bin .add (.t 1) (.t 0)), .op 24 (.move (.t 8)), .op 25 (.move (.t 11)), .op 26 (.move (.t 14)), .op 27 (.bin .add (.t 1) (.t 0)), .op 28 (.idxSlice 1 (.t 3) (.t 0)), .op 29 (.load none (.t 0)) none .old, .op 30 (.move (.t 14)), .op 31 (.move (.t 16)), .op 32 (.move (.t 20)), .op 33 (.bin .add (.t 1) (.t 0)), .op 34 (.idxSlice 1 (.t 3) (.t 0)), .op 35 (.load none (.t 0)) none .old, .op 36 (.idxSlice 1 (.t 19) (.t 16)), .eff (.store 1 (.t 0) (.t 7)) none .old, .op 37 (.idxSlice 1 (.t 16) (.t 13)), .eff (.store 1 (.t 0) (.t 2)) none .old] [22, 23, 24, 25, 26])
def c175_n1 : SCode := .seq (.block 1 [some 0, some 1, some 2, some 3, some 10] c175_n2) (.region [.op 14 (.move (.t 4)), .op 15 (.bin .add (.t 0) (.k (.c (.int .i64 1)))), .op 10 (.move (.t 0))] [3, 4, 5, 6, 0])
instance : IsSeq c175_n1 (.block 1 [some 0, some 1, some 2, some 3, some 10] c175_n2) (.region [.op 14 (.move (.t 4)), .op 15 (.bin .add (.t 0) (.k (.c (.int .i64 1)))), .op 10 (.move (.t 0))] [3, 4, 5, 6, 0]) := ⟨rfl⟩
def c175_l0b : SCode := (.seq (.seq (.region [.op 11 (.move (.t 4)), .op 12 (.move (.t 4)), .op 13 (.bin .lss (.t 1) (.t 0))] [3, 4, 5, 6, 7, 0]) (.cond (.t 5) (.pre [0, 1, 2, 3, 4] .skip) (.pre [] (.exit 0)))) c175_n1)
def c175_l0 : SCode := .loop true c175_l0b
def c175 : SCode := (.seq (.region [.op 10 (.move (.k (.c (.int .i64 0))))] [1, 2, 3, 4, 0]) (.block 0 [] c175_l0))
def F175 : SFunc := .code .shared 38 5 [] [] c175
@[simp] def c176_n3 : SCode := (.region [.op 21 (.move (.t 3)), .op 22 (.move (.t 5)), .op 23 (.bin .gtr (.t 1) (.t 0))] [3, 4, 5, 6, 7, 0])
@[simp] def c176_n6 : SCode := (.region [.op 24 (.move (.t 0)), .op 25 (.move (.t 2)), .op 26 (.move (.t 5)), .op 27 (.bin .sub (.t 1) (.t 0)), .op 28 (.move (.t 5)), .op 29 (.move (.t 9)), .op 30 (.move (.t 8)), .op 31 (.call false (.k (.c (.func 177 [] []))) [(.t 6), (.t 3), (.t 2), (.t 1), (.t 0)])] [8, 9, 10, 11, 12])
def c176_n5 : SCode := .seq c176_n6 (.region [.op 32 (.move (.t 3)), .op 33 (.move (.t 5)), .op 34 (.bin .sub (.t 1) (.t 0)), .op 10 (.move (.t 0))] [4, 5, 6, 0, 8])
@[simp] def c176_n8 : SCode := (.region [.op 35 (.move (.t 0)), .op 36 (.move (.t 2)), .op 37 (.move (.t 5)), .op 38 (.bin .sub (.t 1) (.t 0)), .op 39 (.move (.t 5)), .op 40 (.move (.t 9)), .op 41 (.bin .add (.t 1) (.t 0)), .op 42 (.move (.t 10)), .op 43 (.bin .sub (.t 1) (.t 0)), .op 44 (.move (.t 12)), .op 45 (.move (.t 12)), .op 46 (.call false (.k (.c (.func 177 [] []))) [(.t 10), (.t 7), (.t 2), (.t 1), (.t 0)])] [12, 13, 14, 15, 16])
def c176_n7 : SCode := .seq c176_n8 (.region [.op 47 (.move (.t 4)), .op 48 (.move (.t 4)), .op 49 (.bin .sub (.t 1) (.t 0)), .op 11 (.move (.t 0))] [4, 5, 6, 7, 0])
def c176_n4 : SCode := .cond (.t 5) c176_n5 c176_n7
def c176_n2 : SCode := .seq c176_n3 c176_n4
def c176_n1 : SCode := .block 1 [some 0, some 2, some 4, some 10, some 11] c176_n2
instance : IsBlock c176_n1 1 [some 0, some 2, some 4, some 10, some 11] c176_n2 := ⟨rfl⟩
def c176_l0b : SCode := (.seq (.seq (.region [.op 18 (.move (.t 3)), .op 19 (.move (.t 5)), .op 20 (.bin .neq (.t 1) (.t 0))] [3, 4, 5, 6, 7, 0]) (.cond (.t 5) (.pre [0, 1, 2, 3, 4] .skip) (.pre [0, 1, 2, 3] (.exit 0)))) c176_n1)
def c176_l0 : SCode := .loop true c176_l0b
@[simp] def c176_n10 : SCode := (.region [.op 15 (.move (.t 2)), .op 16 (.move (.t 2)), .op 17 (.bin .sub (.t 1) (.t 0)), .op 11 (.move (.t 0))] [4, 5, 7, 8, 0])
def c176_n9 : SCode := .seq c176_n10 (.seq (.block 0 [some 0, some 2, some 4, some 10] c176_l0) (.region [.op 50 (.move (.t 0)), .op 51 (.move (.t 2)), .op 52 (.move (.t 5)), .op 53 (.bin .sub (.t 1) (.t 0)), .op 54 (.move (.t 5)), .op 55 (.move (.t 8)), .op 56 (.move (.t 8)), .op 57 (.call false (.k (.c (.func 177 [] []))) [(.t 6), (.t 3), (.t 2), (.t 1), (.t 0)])] []))
def c176 : SCode := (.seq (.region [.op 12 (.move (.t 2)), .op 13 (.move (.t 2)), .op 14 (.bin .sub (.t 1) (.t 0)), .op 10 (.move (.t 0))] [4, 6, 7, 8, 0]) c176_n9)
def F176 : SFunc := .code .shared 58 5 [] [] c176
@[simp] def c177_n2 : SCode := (.draw 0 [.op 16 (.move (.t 0)), .op 17 (.move (.t 2)), .op 18 (.move (.t 6)), .op 19 (.bin .add (.t 1) (.t 0)), .op 20 (.move (.t 4)), .op 21 (.move (.t 7)), .op 22 (.move (.t 10)), .op 23 (.bin .add (.t 1) (.t 0)), .op 24 (.move (.t 8)), .op 25 (.move (.t 11)), .op 26 (.move (.t 14)), .op 27 (.bin .add (.t 1) (.t 0)), .op 28 (.idxSlice 3 (.t 3) (.t 0)), .op 29 (.load (some 3) (.t 0)) none .old, .op 30 (.move (.t 14)), .op 31 (.move (.t 16)), .op 32 (.move (.t 20)), .op 33 (.bin .add (.t 1) (.t 0)), .op 34 (.idxSlice 3 (.t 3) (.t 0)), .op 35 (.load (some 3) (.t 0)) none .old, .op 36 (.idxSlice 3 (.t 19) (.t 16)), .eff (.store 3 (.t 0) (.t 7)) none .old, .op 37 (.idxSlice 3 (.t 16) (.t 13)), .eff (.store 3 (.t 0) (.t 2)) none .old] [22, 23, 24, 25, 26])
def c177_n1 : SCode := .seq (.block 1 [some 0, some 1, some 2, some 3, some 10] c177_n2) (.region [.op 14 (.move (.t 4)), .op 15 (.bin .add (.t 0) (.k (.c (.int .i64 1)))), .op 10 (.move (.t 0))] [3, 4, 5, 6, 0])
def c177_l0b : SCode := (.seq (.seq (.region [.op 11 (.move (.t 4)), .op 12 (.move (.t 4)), .op 13 (.bin .lss (.t 1) (.t 0))] [3, 4, 5, 6, 7, 0]) (.cond (.t 5) (.pre [0, 1, 2, 3, 4] .skip) (.pre [] (.exit 0)))) c177_n1)
def c177_l0 : SCode := .loop true c177_l0b
def c177 : SCode := (.seq (.region [.op 10 (.move (.k (.c (.int .i64 0))))] [1, 2, 3, 4, 0]) (.block 0 [] c177_l0))
def F177 : SFunc := .code .shared 38 5 [] [] c177
end LM.G6
namespace LM.G6
open Go LM
def table0 : List (Nat × SFunc) := [(8, F8), (10, F10), (15, F15), (17, F17), (18, F18), (19, F19), (20, F20), (21, F21), (22, F22), (23, F23), (28, F28), (29, F29), (32, F32), (33, F33), (34, F34), (35, F35), (37, F37), (39, F39), (40, F40), (45, F45), (46, F46), (50, F50), (54, F54), (55, F55), (56, F56), (57, F57), (58, F58), (59, F59), (60, F60), (61, F61), (63, F63), (64, F64), (65, F65), (67, F67), (68, F68), (69, F69), (70, F70), (73, F73), (74, F74), (75, F75), (81, F81), (82, F82), (83, F83), (84, F84), (85, F85), (86, F86), (87, F87), (88, F88), (89, F89), (90, F90), (91, F91), (92, F92), (93, F93), (94, F94), (95, F95), (96, F96), (100, F100), (101, F101), (102, F102), (103, F103), (104, F104), (105, F105), (106, F106), (107, F107), (108, F108), (109, F109), (110, F110), (111, F111), (112, F112), (113, F113), (114, F114), (115, F115), (116, F116), (117, F117), (118, F118), (119, F119), (120, F120), (121, F121), (122, F122), (124, F124), (125, F125), (126, F126), (127, F127), (128, F128), (129, F129), (131, F131), (132, F132), (133, F133), (134, F134), (135, F135), (136, F136), (137, .fprim 1 (cloneP (some 3) 56)), (138, F138), (140, F140), (141, F141), (142, F142), (143, F143), (144, .fprim 1 (cloneP none 8)), (145, F145), (146, F146), (147, F147), (148, F148), (149, F149), (150, F150), (151, F151), (152, F152), (153, F153), (154, F154), (157, F157), (158, F158), (159, F159), (160, F160), (161, F161), (162, F162), (163, F163), (164, F164), (165, F165), (166, F166), (167, F167), (168, F168), (169, F169), (170, F170), (171, F171), (172, F172), (173, F173), (174, F174), (175, F175), (176, F176), (177, F177)]
/-- A program with these functions. -/
class Has (P : Nat → Option SFunc) : Prop where
  h : ∀ f F, lookupPrim f table0 = some F → P f = some F
variable {P : Nat → Option SFunc} [Has P]
theorem p8 : P 8 = some F8 := Has.h 8 F8 rfl
theorem u8 : CodeEq P 8 [.tmp 0] c8 := fn_code p8
theorem r8_l0 : LoopT P c8_l0 c8_l0b := execS_loop true c8_l0b
theorem p10 : P 10 = some F10 := Has.h 10 F10 rfl
theorem u10 : CodeEq P 10 [.tmp 0] c10 := fn_code p10
theorem r10_l0 : LoopT P c10_l0 c10_l0b := execS_loop true c10_l0b
theorem r10_l1 : LoopT P c10_l1 c10_l1b := execS_loop true c10_l1b
theorem r10_l2 : LoopT P c10_l2 c10_l2b := execS_loop true c10_l2b
theorem r10_l3 : LoopT P c10_l3 c10_l3b := execS_loop true c10_l3b
theorem p15 : P 15 = some F15 := Has.h 15 F15 rfl
theorem u15 : CodeEq P 15 [.tmp 0] c15 := fn_code p15
@[simp] theorem call15 : CallP P 15 := callS_pure p15
theorem r15_l0 : LoopT P c15_l0 c15_l0b := execS_loop true c15_l0b
theorem p17 : P 17 = some F17 := Has.h 17 F17 rfl
theorem u17 : CodeEq P 17 [.tmp 0] c17 := fn_code p17
@[simp] theorem call17 : CallP P 17 := callS_pure p17
theorem r17_l0 : LoopT P c17_l0 c17_l0b := execS_loop true c17_l0b
theorem p18 : P 18 = some F18 := Has.h 18 F18 rfl
theorem u18 : CodeEq P 18 [.tmp 0] c18 := fn_code p18
@[simp] theorem call18 : CallP P 18 := callS_pure p18
theorem r18_l0 : LoopT P c18_l0 c18_l0b := execS_loop true c18_l0b
theorem r18_l1 : LoopT P c18_l1 c18_l1b := execS_loop true c18_l1b
theorem p19 : P 19 = some F19 := Has.h 19 F19 rfl
theorem u19 : CodeEq P 19 [.tmp 0] c19 := fn_code p19
@[simp] theorem call19 : CallP P 19 := callS_pure p19
theorem r19_l0 : LoopT P c19_l0 c19_l0b := execS_loop true c19_l0b
theorem p20 : P 20 = some F20 := Has.h 20 F20 rfl
theorem u20 : CodeEq P 20 [.tmp 0, .tmp 1] c20 := fn_code p20
@[simp] theorem call20 : CallP P 20 := callS_pure p20
theorem p21 : P 21 = some F21 := Has.h 21 F21 rfl
theorem u21 : CodeEq P 21 [.tmp 0, .tmp 1] c21 := fn_code p21
@[simp] theorem call21 : CallP P 21 := callS_pure p21
theorem r21_l0 : LoopT P c21_l0 c21_l0b := execS_loop true c21_l0b
theorem p22 : P 22 = some F22 := Has.h 22 F22 rfl
theorem u22 : CodeEq P 22 [.tmp 0] c22 := fn_code p22
@[simp] theorem call22 : CallP P 22 := callS_pure p22
theorem r22_l0 : LoopT P c22_l0 c22_l0b := execS_loop true c22_l0b
theorem p23 : P 23 = some F23 := Has.h 23 F23 rfl
theorem u23 : CodeEq P 23 [.tmp 0] c23 := fn_code p23
@[simp] theorem call23 : CallP P 23 := callS_pure p23
theorem p32 : P 32 = some F32 := Has.h 32 F32 rfl
theorem u32 : CodeEq P 32 [.tmp 0, .tmp 1] c32 := fn_code p32
@[simp] theorem call32 : CallP P 32 := callS_pure p32
theorem r32_l0 : LoopT P c32_l0 c32_l0b := execS_loop true c32_l0b
theorem r32_l1 : LoopT P c32_l1 c32_l1b := execS_loop true c32_l1b
theorem p34 : P 34 = some F34 := Has.h 34 F34 rfl
theorem u34 : CodeEq P 34 [.tmp 0, .tmp 1] c34 := fn_code p34
@[simp] theorem call34 : CallP P 34 := callS_pure p34
theorem r34_l0 : LoopT P c34_l0 c34_l0b := execS_loop true c34_l0b
theorem r34_l1 : LoopT P c34_l1 c34_l1b := execS_loop true c34_l1b
theorem r34_l2 : LoopT P c34_l2 c34_l2b := execS_loop true c34_l2b
theorem p35 : P 35 = some F35 := Has.h 35 F35 rfl
@[simp] theorem call35 : CallP P 35 := callS_pure p35
theorem p37 : P 37 = some F37 := Has.h 37 F37 rfl
theorem u37 : CodeEq P 37 [.tmp 0] c37 := fn_code p37
@[simp] theorem call37 : CallP P 37 := callS_pure p37
theorem r37_l0 : LoopT P c37_l0 c37_l0b := execS_loop true c37_l0b
theorem p54 : P 54 = some F54 := Has.h 54 F54 rfl
@[simp] theorem call54 : CallP P 54 := callS_pure p54
theorem p55 : P 55 = some F55 := Has.h 55 F55 rfl
@[simp] theorem call55 : CallP P 55 := callS_pure p55
theorem p63 : P 63 = some F63 := Has.h 63 F63 rfl
@[simp] theorem call63 : CallP P 63 := callS_pure p63
theorem p64 : P 64 = some F64 := Has.h 64 F64 rfl
theorem u64 : CodeEq P 64 [.tmp 0] c64 := fn_code p64
@[simp] theorem call64 : CallP P 64 := callS_pure p64
theorem p65 : P 65 = some F65 := Has.h 65 F65 rfl
@[simp] theorem call65 : CallP P 65 := callS_pure p65
theorem p67 : P 67 = some F67 := Has.h 67 F67 rfl
@[simp] theorem call67 : CallP P 67 := callS_pure p67
theorem p68 : P 68 = some F68 := Has.h 68 F68 rfl
@[simp] theorem call68 : CallP P 68 := callS_pure p68
theorem p69 : P 69 = some F69 := Has.h 69 F69 rfl
@[simp] theorem call69 : CallP P 69 := callS_pure p69
theorem p70 : P 70 = some F70 := Has.h 70 F70 rfl
@[simp] theorem call70 : CallP P 70 := callS_pure p70
theorem p85 : P 85 = some F85 := Has.h 85 F85 rfl
theorem u85 : CodeEq P 85 [.tmp 0] c85 := fn_code p85
@[simp] theorem call85 : CallP P 85 := callS_pure p85
theorem r85_l0 : LoopT P c85_l0 c85_l0b := execS_loop true c85_l0b
theorem p86 : P 86 = some F86 := Has.h 86 F86 rfl
theorem u86 : CodeEq P 86 [.tmp 0] c86 := fn_code p86
@[simp] theorem call86 : CallP P 86 := callS_pure p86
theorem p87 : P 87 = some F87 := Has.h 87 F87 rfl
theorem u87 : CodeEq P 87 [.tmp 0] c87 := fn_code p87
@[simp] theorem call87 : CallP P 87 := callS_pure p87
theorem p88 : P 88 = some F88 := Has.h 88 F88 rfl
theorem u88 : CodeEq P 88 [.tmp 0] c88 := fn_code p88
@[simp] theorem call88 : CallP P 88 := callS_pure p88
theorem r88_l0 : LoopT P c88_l0 c88_l0b := execS_loop true c88_l0b
theorem p89 : P 89 = some F89 := Has.h 89 F89 rfl
theorem u89 : CodeEq P 89 [.tmp 0] c89 := fn_code p89
@[simp] theorem call89 : CallP P 89 := callS_pure p89
theorem p90 : P 90 = some F90 := Has.h 90 F90 rfl
theorem u90 : CodeEq P 90 [.tmp 0] c90 := fn_code p90
@[simp] theorem call90 : CallP P 90 := callS_pure p90
theorem r90_l0 : LoopT P c90_l0 c90_l0b := execS_loop true c90_l0b
theorem p91 : P 91 = some F91 := Has.h 91 F91 rfl
theorem u91 : CodeEq P 91 [.tmp 0] c91 := fn_code p91
@[simp] theorem call91 : CallP P 91 := callS_pure p91
theorem p92 : P 92 = some F92 := Has.h 92 F92 rfl
theorem u92 (args : List CV) : ffn P 92 args = resF [.tmp 0, .tmp 1] (execS P (limS P) c92 ⟨args.map .c, []⟩) := ffn_code p92 args
@[simp] theorem call92 (pos : Option Nat) (q : Bool) (args : List LV) (h : Heap) : callS P (limS P) pos q 92 args h = if q && pos.isNone then none else bnd (frzArgs q args h) fun a => bnd (ffn P 92 a.1) fun v => importB pos 2 v.1 v.2 a.2 := callS_fresh p92 pos q args h
theorem r92_l0 : LoopT P c92_l0 c92_l0b := execS_loop true c92_l0b
theorem r92_l1 : LoopT P c92_l1 c92_l1b := execS_loop true c92_l1b
theorem p93 : P 93 = some F93 := Has.h 93 F93 rfl
theorem u93 : CodeEq P 93 [.tmp 0] c93 := fn_code p93
@[simp] theorem call93 : CallP P 93 := callS_pure p93
theorem p94 : P 94 = some F94 := Has.h 94 F94 rfl
theorem u94 (args : List LV) (h : Heap) : sfn P 94 args h = resF [] (execS P (limS P) c94 ⟨args, h⟩) := sfn_code p94 args h
@[simp] theorem call94 (pos : Option Nat) (q : Bool) (args : List LV) (h : Heap) : callS P (limS P) pos q 94 args h = if q then none else bnd (frzFuncs args h) fun a => sfn P 94 a.1 a.2 := callS_shared p94 pos q args h
theorem p95 : P 95 = some F95 := Has.h 95 F95 rfl
theorem u95 : CodeEq P 95 [.tmp 0] c95 := fn_code p95
@[simp] theorem call95 : CallP P 95 := callS_pure p95
theorem p96 : P 96 = some F96 := Has.h 96 F96 rfl
theorem u96 : CodeEq P 96 [.tmp 0] c96 := fn_code p96
@[simp] theorem call96 : CallP P 96 := callS_pure p96
theorem p100 : P 100 = some F100 := Has.h 100 F100 rfl
theorem u100 : CodeEq P 100 [.tmp 0] c100 := fn_code p100
@[simp] theorem call100 : CallP P 100 := callS_pure p100
theorem p102 : P 102 = some F102 := Has.h 102 F102 rfl
theorem u102 : CodeEq P 102 [.tmp 0, .tmp 1] c102 := fn_code p102
@[simp] theorem call102 : CallP P 102 := callS_pure p102
theorem r102_l0 : LoopT P c102_l0 c102_l0b := execS_loop true c102_l0b
theorem p103 : P 103 = some F103 := Has.h 103 F103 rfl
theorem u103 : CodeEq P 103 [.tmp 0] c103 := fn_code p103
@[simp] theorem call103 : CallP P 103 := callS_pure p103
theorem p104 : P 104 = some F104 := Has.h 104 F104 rfl
theorem u104 : CodeEq P 104 [.tmp 0] c104 := fn_code p104
@[simp] theorem call104 : CallP P 104 := callS_pure p104
theorem r104_l0 : LoopT P c104_l0 c104_l0b := execS_loop true c104_l0b
theorem p105 : P 105 = some F105 := Has.h 105 F105 rfl
theorem u105 : CodeEq P 105 [.tmp 0] c105 := fn_code p105
@[simp] theorem call105 : CallP P 105 := callS_pure p105
theorem p106 : P 106 = some F106 := Has.h 106 F106 rfl
theorem u106 : CodeEq P 106 [.tmp 0] c106 := fn_code p106
@[simp] theorem call106 : CallP P 106 := callS_pure p106
theorem p107 : P 107 = some F107 := Has.h 107 F107 rfl
theorem u107 : CodeEq P 107 [.tmp 0] c107 := fn_code p107
@[simp] theorem call107 : CallP P 107 := callS_pure p107
theorem p112 : P 112 = some F112 := Has.h 112 F112 rfl
theorem u112 : CodeEq P 112 [.tmp 0] c112 := fn_code p112
@[simp] theorem call112 : CallP P 112 := callS_pure p112
theorem r112_l0 : LoopT P c112_l0 c112_l0b := execS_loop true c112_l0b
theorem p140 : P 140 = some F140 := Has.h 140 F140 rfl
theorem u140 : CodeEq P 140 [.tmp 0] c140 := fn_code p140
@[simp] theorem call140 : CallP P 140 := callS_pure p140
theorem r140_l0 : LoopT P c140_l0 c140_l0b := execS_loop true c140_l0b
theorem p141 : P 141 = some F141 := Has.h 141 F141 rfl
theorem u141 : CodeEq P 141 [.tmp 0] c141 := fn_code p141
@[simp] theorem call141 : CallP P 141 := callS_pure p141
theorem p142 : P 142 = some F142 := Has.h 142 F142 rfl
theorem u142 (args : List LV) (h : Heap) : sfn P 142 args h = resF [] (execS P (limS P) c142 ⟨args, h⟩) := sfn_code p142 args h
@[simp] theorem call142 (pos : Option Nat) (q : Bool) (args : List LV) (h : Heap) : callS P (limS P) pos q 142 args h = if q then none else bnd (frzFuncs args h) fun a => sfn P 142 a.1 a.2 := callS_shared p142 pos q args h
theorem r142_l0 : LoopT P c142_l0 c142_l0b := execS_loop true c142_l0b
theorem r142_l1 : LoopT P c142_l1 c142_l1b := execS_loop true c142_l1b
theorem r142_l2 : LoopT P c142_l2 c142_l2b := execS_loop true c142_l2b
theorem p143 : P 143 = some F143 := Has.h 143 F143 rfl
theorem u143 : CodeEq P 143 [.tmp 0] c143 := fn_code p143
@[simp] theorem call143 : CallP P 143 := callS_pure p143
theorem p145 : P 145 = some F145 := Has.h 145 F145 rfl
theorem u145 : CodeEq P 145 [.tmp 0] c145 := fn_code p145
@[simp] theorem call145 : CallP P 145 := callS_pure p145
theorem p167 : P 167 = some F167 := Has.h 167 F167 rfl
theorem u167 (args : List LV) (h : Heap) : sfn P 167 args h = resF [] (execS P (limS P) c167 ⟨args, h⟩) := sfn_code p167 args h
@[simp] theorem call167 (pos : Option Nat) (q : Bool) (args : List LV) (h : Heap) : callS P (limS P) pos q 167 args h = if q then none else bnd (frzFuncs args h) fun a => sfn P 167 a.1 a.2 := callS_shared p167 pos q args h
theorem r167_l0 : LoopT P c167_l0 c167_l0b := execS_loop true c167_l0b
theorem r167_l1 : LoopT P c167_l1 c167_l1b := execS_loop true c167_l1b
theorem p168 : P 168 = some F168 := Has.h 168 F168 rfl
theorem u168 (args : List LV) (h : Heap) : sfn P 168 args h = resF [] (execS P (limS P) c168 ⟨args, h⟩) := sfn_code p168 args h
@[simp] theorem call168 (pos : Option Nat) (q : Bool) (args : List LV) (h : Heap) : callS P (limS P) pos q 168 args h = if q then none else bnd (frzFuncs args h) fun a => sfn P 168 a.1 a.2 := callS_shared p168 pos q args h
theorem r168_l0 : LoopT P c168_l0 c168_l0b := execS_loop true c168_l0b
theorem r168_l1 : LoopT P c168_l1 c168_l1b := execS_loop true c168_l1b
theorem r168_l2 : LoopT P c168_l2 c168_l2b := execS_loop true c168_l2b
theorem r168_l3 : LoopT P c168_l3 c168_l3b := execS_loop true c168_l3b
theorem r168_l4 : LoopT P c168_l4 c168_l4b := execS_loop true c168_l4b
theorem p172 : P 172 = some F172 := Has.h 172 F172 rfl
theorem u172 (args : List LV) (h : Heap) : sfn P 172 args h = resF [] (execS P (limS P) c172 ⟨args, h⟩) := sfn_code p172 args h
@[simp] theorem call172 (pos : Option Nat) (q : Bool) (args : List LV) (h : Heap) : callS P (limS P) pos q 172 args h = if q then none else bnd (frzFuncs args h) fun a => sfn P 172 a.1 a.2 := callS_shared p172 pos q args h
theorem r172_l0 : LoopT P c172_l0 c172_l0b := execS_loop true c172_l0b
theorem p175 : P 175 = some F175 := Has.h 175 F175 rfl
theorem u175 (args : List LV) (h : Heap) : sfn P 175 args h = resF [] (execS P (limS P) c175 ⟨args, h⟩) := sfn_code p175 args h
@[simp] theorem call175 (pos : Option Nat) (q : Bool) (args : List LV) (h : Heap) : callS P (limS P) pos q 175 args h = if q then none else bnd (frzFuncs args h) fun a => sfn P 175 a.1 a.2 := callS_shared p175 pos q args h
theorem r175_l0 : LoopT P c175_l0 c175_l0b := execS_loop true c175_l0b
/-- A program in which some functions are primitives. -/
class HasP (P : Nat → Option SFunc) : Prop where
  h : ∀ f, f ∈ [16, 66] → ∃ g, P f = some (.prim g)
@[simp] theorem call16 [HasP P] (pos : Option Nat) (q : Bool) (args : List LV) (h : Heap) : callS P (limS P) pos q 16 args h = bnd (frzArgs q args h) fun a => bnd (fn P 16 a.1) fun v => some (.c v, if scalarC v then h else a.2) := by
  obtain ⟨g, hg⟩ := HasP.h (P := P) 16 (by simp)
  exact callS_prim hg pos q args h
@[simp] theorem call66 [HasP P] (pos : Option Nat) (q : Bool) (args : List LV) (h : Heap) : callS P (limS P) pos q 66 args h = bnd (frzArgs q args h) fun a => bnd (fn P 66 a.1) fun v => some (.c v, if scalarC v then h else a.2) := by
  obtain ⟨g, hg⟩ := HasP.h (P := P) 66 (by simp)
  exact callS_prim hg pos q args h
end LM.G6
namespace LM.G6
open Go LM
def lc66 : LCode := (.seq (.region [.mk (some 2) (.mkNil (some 2)) none none .any, .mk (some 3) (.move (.k (.c (.int .i64 0)))) none none .any]) (.seq (.seq (.region [.mk (some 10) (.move (.t 0)) none none .any, .mk (some 11) (.call false (.k (.c (.func 125 [] []))) [(.t 10)]) none none .any, .mk (some 4) (.move (.t 11)) none none .any]) (.seq (.region [.mk (some 12) (.move (.t 4)) none none .any, .mk (some 13) (.bin .neq (.t 12) (.k (.c (.int .i64 0)))) none none .any]) (.cond (.t 13) (.seq (.region [.mk (some 14) (.move (.t 4)) none none .any, .mk (some 2) (.mkNil (some 2)) none none .any, .mk (some 3) (.move (.t 14)) none none .any]) .ret) .skip))) (.seq (.region [.mk (some 5) (.new [.nil]) none none .any]) (.seq (.seq (.region [.mk (some 15) (.move (.t 0)) none none .any, .mk (some 16) (.move (.t 0)) none none .any, .mk (some 17) (.len 1 (.t 16)) none none .any, .mk (some 18) (.bin .sub (.t 17) (.k (.c (.int .i64 1)))) none none .any, .mk (some 19) (.idxSlice 1 (.t 15) (.t 18)) none none .any, .mk (some 20) (.load none (.t 19)) none none .any, .mk (some 21) (.idxSlice 3 (.t 20) (.k (.c (.int .i64 0)))) none none .any, .mk (some 22) (.load (some 3) (.t 21)) none none .any, .mk (some 23) (.call false (.k (.c (.func 126 [] []))) [(.t 22)]) none none .any, .mk (some 6) (.move (.t 23)) none none .any]) (.seq (.region [.mk (some 24) (.move (.t 6)) none none .any, .mk (some 25) (.bin .neq (.t 24) (.k (.c (.str [])))) none none .any]) (.cond (.t 25) (.region [.mk (some 26) (.load none (.t 5)) none none .any, .mk (some 27) (.move (.t 6)) none none .any, .mk (some 28) (.build [(.c (.str [])), (.c (.int .i64 0))] [(0, 1, (.t 27)), (1, 1, (.k (.c (.int .i64 1))))]) none none .any, .mk (some 29) (.buildSlice 2 (some 2) 1 [(.c (.str [])), (.c (.int .i64 0))] [(0, (.t 28))]) none none .any, .mk (some 30) (.append (some 2) 24 (.t 26) (.t 29)) none none .any, .mk none (.store 1 (.t 5) (.t 30)) none none .any]) .skip))) (.seq (.seq (.region [.mk (some 31) (.move (.t 0)) none none .any, .mk (some 32) (.call false (.k (.c (.func 127 [] []))) [(.t 31)]) none none .any]) (.block 0 (.rangeFn (.t 32) [33, 34] (.region [.mk (some 8) (.new [.nil]) none none .any, .mk none (.store 1 (.t 8) (.t 34)) none none .any]) (.block 1 (.seq (.region [.mk (some 35) (.load none (.t 8)) none none .any, .mk (some 36) (.call false (.k (.c (.func 128 [] []))) [(.t 35)]) none none .any]) (.block 2 (.rangeFn (.t 36) [37] (.region [.mk (some 9) (.move (.t 37)) none none .any]) (.block 3 (.region [.mk (some 38) (.load none (.t 5)) none none .any, .mk (some 39) (.move (.t 9)) none none .any, .mk (some 40) (.load none (.t 8)) none none .any, .mk (some 41) (.len 1 (.t 40)) none none .any, .mk (some 42) (.bin .add (.t 41) (.k (.c (.int .i64 1)))) none none .any, .mk (some 43) (.build [(.c (.str [])), (.c (.int .i64 0))] [(0, 1, (.t 39)), (1, 1, (.t 42))]) none none .any, .mk (some 44) (.buildSlice 2 (some 2) 1 [(.c (.str [])), (.c (.int .i64 0))] [(0, (.t 43))]) none none .any, .mk (some 45) (.append (some 2) 24 (.t 38) (.t 44)) none none .any, .mk none (.store 1 (.t 5) (.t 45)) none none .any]))))))))) (.seq (.region [.mk (some 46) (.load none (.t 5)) none none .any, .mk (some 2) (.move (.t 46)) none none .any, .mk (some 3) (.move (.k (.c (.int .i64 0)))) none none .any]) .ret))))))
def lf66 : LFunc := .code .pure 47 [.tmp 2, .tmp 3] lc66
def lc155 : LCode := (.seq (.region [.mk (some 4) (.load none (.t 1)) none none .any, .mk (some 5) (.len 1 (.t 4)) none none .any, .mk (some 6) (.bin .sub (.t 5) (.k (.c (.int .i64 1)))) none none .any, .mk (some 3) (.move (.t 6)) none none .any]) (.block 0 (.loop true (.seq (.seq (.region [.mk (some 7) (.move (.t 3)) none none .any, .mk (some 8) (.bin .geq (.t 7) (.k (.c (.int .i64 0)))) none none .any]) (.cond (.t 8) .skip (.exit 0))) (.seq (.block 1 (.seq (.region [.mk (some 11) (.move (.t 0)) none none .any, .mk (some 12) (.move (.t 3)) none none .any, .mk (some 13) (.load none (.t 1)) none none .any, .mk (some 14) (.move (.t 3)) none none .any, .mk (some 15) (.idxSlice 1 (.t 13) (.t 14)) none none .any, .mk (some 16) (.load none (.t 15)) none none .any, .mk (some 17) (.call false (.t 11) [(.t 12), (.t 16)]) none none .any, .mk (some 18) (.not (.t 17)) none none .any]) (.cond (.t 18) .ret .skip))) (.region [.mk (some 9) (.move (.t 3)) none none .any, .mk (some 10) (.bin .sub (.t 9) (.k (.c (.int .i64 1)))) none none .any, .mk (some 3) (.move (.t 10)) none none .any]))))))
def lf155 : LFunc := .code .shared 19 [] lc155
def lc156 : LCode := (.seq .skip (.seq (.region [.mk (some 7) (.load none (.t 1)) none none .any, .mk (some 8) (.len 1 (.t 7)) none none .any, .mk (some 9) (.move (.k (.c (.int .i64 0)))) none none .any]) (.block 0 (.loop true (.seq (.region [.mk (some 10) (.bin .lss (.t 9) (.t 8)) none none .any]) (.seq (.cond (.t 10) .skip (.exit 0)) (.seq (.block 1 (.seq (.region [.mk (some 11) (.idxSlice 3 (.t 7) (.t 9)) none none .any, .mk (some 12) (.load (some 3) (.t 11)) none none .any, .mk (some 4) (.new [(.c (.str [])), (.c (.str [])), (.c (.int .i64 0))]) none none .any, .mk none (.store 3 (.t 4) (.t 12)) none none .any]) (.seq (.region [.mk (some 13) (.fieldAddr 0 (.t 4)) none none .any, .mk (some 14) (.load none (.t 13)) none none .any, .mk (some 15) (.fieldAddr 1 (.t 4)) none none .any, .mk (some 16) (.load none (.t 15)) none none .any, .mk (some 17) (.build [(.c (.str [])), (.c (.str []))] [(0, 1, (.t 14)), (1, 1, (.t 16))]) none none .any, .mk (some 18) (.move (.k (.c (.int .i64 0)))) none none .any]) (.block 2 (.loop true (.seq (.region [.mk (some 19) (.bin .lss (.t 18) (.k (.c (.int .i64 2)))) none none .any]) (.seq (.cond (.t 19) .skip (.exit 2)) (.seq (.block 3 (.seq (.region [.mk (some 20) (.indexArr 2 none (.t 17) (.t 18)) none none .any, .mk (some 6) (.move (.t 20)) none none .any]) (.seq (.seq (.region [.mk (some 21) (.move (.t 6)) none none .any, .mk (some 22) (.bin .eql (.t 21) (.k (.c (.str [])))) none none .any, .mk (some 23) (.move (.t 22)) none none .any, .mk (some 24) (.move (.t 6)) (some (23, false)) none .any, .mk (some 25) (.load (some 3) (.t 4)) (some (23, false)) none .any, .mk (some 26) (.call false (.k (.c (.func 126 [] []))) [(.t 25)]) (some (23, false)) none .any, .mk (some 27) (.bin .eql (.t 24) (.t 26)) (some (23, false)) none .any, .mk (some 28) (.pick (.t 23) (.k (.c (.bool true))) (.t 27)) none none .any]) (.cond (.t 28) (.exit 3) .skip)) (.seq (.region [.mk (some 29) (.move (.t 0)) none none .any, .mk (some 30) (.move (.t 6)) none none .any, .mk (some 31) (.call false (.t 29) [(.t 30)]) none none .any, .mk (some 32) (.not (.t 31)) none none .any]) (.cond (.t 32) (.exit 0) .skip))))) (.region [.mk (some 33) (.bin .add (.t 18) (.k (.c (.int .i64 1)))) none none .any, .mk (some 18) (.move (.t 33)) none none .any]))))))))) (.region [.mk (some 34) (.bin .add (.t 9) (.k (.c (.int .i64 1)))) none none .any, .mk (some 9) (.move (.t 34)) none none .any]))))))))
def lf156 : LFunc := .code .shared 35 [] lc156
def lprog : List (Nat × LFunc) := [(66, lf66), (155, lf155), (156, lf156)]
@[simp] def c16_n2 : SCode := (.region [.op 38 (.call false (.k (.c (.func 83 [] []))) []), .op 39 (.call false (.k (.c (.func 20 [] []))) [(.t 0), (.k (.c (.int .i64 5)))]), .op 37 (.move (.t 0)), .op 40 (.extract (.t 0) 0), .op 41 (.extract (.t 1) 1), .op 1 (.move (.t 1)), .op 2 (.move (.t 1))] [1, 0])
@[simp] def c16_n4 : SCode := (.region [.op 43 (.call false (.k (.c (.func 83 [] []))) []), .op 44 (.call false (.k (.c (.func 21 [] []))) [(.t 0), (.k (.c (.int .i64 2))), (.k (.c (.int .i64 5)))]), .op 42 (.move (.t 0)), .op 45 (.extract (.t 0) 0), .op 46 (.extract (.t 1) 1), .op 3 (.move (.t 1)), .op 4 (.move (.t 1))] [7, 8, 1, 0])
@[simp] def c16_n6 : SCode := (.region [.op 48 (.buildSlice 2 none 4 [(.c (.int .i64 0))] [(0, (.k (.c (.int .i64 2)))), (1, (.k (.c (.int .i64 0)))), (2, (.k (.c (.int .i64 3)))), (3, (.k (.c (.int .i64 1))))]), .op 49 (.call false (.k (.c (.func 29 [] []))) [(.t 0)]), .op 47 (.move (.t 0)), .op 50 (.extract (.t 0) 0), .op 51 (.extract (.t 1) 1), .op 52 (.extract (.t 2) 2), .op 5 (.move (.t 2)), .op 6 (.move (.t 2)), .op 7 (.move (.t 2))] [9, 10, 11, 12, 1, 0])
@[simp] def c16_n8 : SCode := (.region [.op 54 (.call false (.k (.c (.func 83 [] []))) []), .op 55 (.buildSlice 2 none 4 [(.c (.int .i64 0))] [(0, (.k (.c (.int .i64 0)))), (1, (.k (.c (.int .i64 1)))), (2, (.k (.c (.int .i64 2)))), (3, (.k (.c (.int .i64 3))))]), .op 56 (.call false (.k (.c (.func 32 [] []))) [(.t 1), (.t 0)]), .op 53 (.move (.t 0)), .op 57 (.extract (.t 0) 0), .op 58 (.extract (.t 1) 1), .op 8 (.move (.t 1)), .op 9 (.move (.t 1))] [8, 9, 10, 11, 12, 13, 1, 0])
@[simp] def c16_n10 : SCode := (.region [.op 60 (.call false (.k (.c (.func 83 [] []))) []), .op 61 (.call false (.k (.c (.func 33 [] []))) [(.t 0)]), .op 59 (.move (.t 0)), .op 62 (.extract (.t 0) 0), .op 63 (.extract (.t 1) 1), .op 10 (.move (.t 1)), .op 11 (.move (.t 1))] [7, 8, 9, 10, 11, 12, 13, 14, 1, 0])
@[simp] def c16_n12 : SCode := (.region [.op 65 (.call false (.k (.c (.func 83 [] []))) []), .op 66 (.call false (.k (.c (.func 34 [] []))) [(.t 0)]), .op 64 (.move (.t 0)), .op 67 (.extract (.t 0) 0), .op 68 (.extract (.t 1) 1), .op 12 (.move (.t 1)), .op 13 (.move (.t 1))] [7, 8, 9, 10, 11, 12, 13, 14, 15, 16, 1, 0])
@[simp] def c16_n14 : SCode := (.region [.op 70 (.call false (.k (.c (.func 83 [] []))) []), .op 71 (.move (.t 11)), .op 72 (.call false (.k (.c (.func 32 [] []))) [(.t 1), (.t 0)]), .op 69 (.move (.t 0)), .op 73 (.extract (.t 0) 0), .op 74 (.extract (.t 1) 1), .op 14 (.move (.t 1)), .op 15 (.move (.t 1))] [8, 9, 10, 11, 12, 13, 14, 15, 16, 17, 19, 1, 0])
@[simp] def c16_n16 : SCode := (.region [.op 76 (.call false (.k (.c (.func 39 [] []))) [(.k (.c (.int .i64 3))), (.k (.c (.int .i64 60000))), (.k (.c (.int .i64 10000))), (.k (.c (.int .i64 65000)))]), .op 75 (.move (.t 0)), .op 77 (.extract (.t 0) 0), .op 78 (.extract (.t 1) 1), .op 16 (.move (.t 1)), .op 17 (.move (.t 1))] [6, 7, 8, 9, 10, 11, 12, 13, 14, 15, 16, 17, 18, 1, 0])
@[simp] def c16_n18 : SCode := (.region [.op 80 (.call false (.k (.c (.func 40 [] []))) [(.k (.c (.int .i64 3))), (.k (.c (.int .i64 60000))), (.k (.c (.int .i64 10000))), (.k (.c (.int .i64 0))), (.k (.c (.int .i64 70000)))]), .op 79 (.move (.t 0)), .op 81 (.extract (.t 0) 0), .op 82 (.extract (.t 1) 1), .op 18 (.move (.t 1)), .op 19 (.move (.t 1))] [6, 7, 8, 9, 10, 11, 12, 13, 14, 15, 16, 17, 18, 19, 20, 1, 0])
@[simp] def c16_n20 : SCode := (.region [.op 84 (.call false (.k (.c (.func 45 [] []))) [(.k (.c (.int .i64 5)))]), .op 83 (.move (.t 0)), .op 85 (.extract (.t 0) 0), .op 86 (.extract (.t 1) 1), .op 20 (.move (.t 1)), .op 21 (.move (.t 1))] [6, 7, 8, 9, 10, 11, 12, 13, 14, 15, 16, 17, 18, 19, 20, 21, 22, 1, 0])
@[simp] def c16_n22 : SCode := (.region [.op 88 (.call false (.k (.c (.func 46 [] []))) [(.k (.c (.int .i64 5))), (.k (.c (.int .i64 1))), (.k (.c (.int .i64 4)))]), .op 87 (.move (.t 0)), .op 89 (.extract (.t 0) 0), .op 90 (.extract (.t 1) 1), .op 22 (.move (.t 1)), .op 23 (.move (.t 1))] [6, 7, 8, 9, 10, 11, 12, 13, 14, 15, 16, 17, 18, 19, 20, 21, 22, 23, 24, 1, 0])
@[simp] def c16_n24 : SCode := (.region [.op 92 (.call false (.k (.c (.func 84 [] []))) []), .op 93 (.call false (.k (.c (.func 74 [] []))) [(.t 0), (.k (.c (.int .i64 2)))]), .op 91 (.move (.t 0)), .op 94 (.extract (.t 0) 0), .op 95 (.extract (.t 1) 1), .op 24 (.move (.t 1)), .op 25 (.move (.t 1))] [7, 8, 9, 10, 11, 12, 13, 14, 15, 16, 17, 18, 19, 20, 21, 22, 23, 24, 25, 26, 27, 1, 0])
@[simp] def c16_n26 : SCode := (.region [.op 97 (.call false (.k (.c (.func 84 [] []))) []), .op 98 (.buildSlice 2 none 2 [(.c (.str []))] [(0, (.k (.c (.str [98])))), (1, (.k (.c (.str [97]))))]), .op 99 (.call false (.k (.c (.func 75 [] []))) [(.t 1), (.k (.c (.int .i64 2))), (.t 0)]), .op 96 (.move (.t 0)), .op 100 (.extract (.t 0) 0), .op 101 (.extract (.t 1) 1), .op 26 (.move (.t 1)), .op 27 (.move (.t 1))] [8, 9, 10, 11, 12, 13, 14, 15, 16, 17, 18, 19, 20, 21, 22, 23, 24, 25, 26, 27, 28, 29, 30, 1, 0])
@[simp] def c16_n28 : SCode := (.seq (.region [.op 102 (.move (.t 1)), .op 103 (.move (.t 4)), .op 104 (.bin .add (.t 1) (.t 0)), .op 105 (.move (.t 8)), .op 106 (.bin .add (.t 1) (.t 0)), .op 107 (.move (.t 12)), .op 108 (.bin .add (.t 1) (.t 0)), .op 109 (.move (.t 16)), .op 110 (.bin .add (.t 1) (.t 0)), .op 111 (.move (.t 19)), .op 112 (.bin .add (.t 1) (.t 0)), .op 113 (.move (.t 23)), .op 114 (.bin .add (.t 1) (.t 0)), .op 115 (.move (.t 27)), .op 116 (.bin .add (.t 1) (.t 0)), .op 117 (.move (.t 31)), .op 118 (.bin .add (.t 1) (.t 0)), .op 119 (.move (.t 35)), .op 120 (.bin .add (.t 1) (.t 0)), .op 121 (.move (.t 39)), .op 122 (.bin .add (.t 1) (.t 0)), .op 123 (.move (.t 43)), .op 124 (.bin .add (.t 1) (.t 0)), .op 125 (.move (.t 47)), .op 126 (.bin .add (.t 1) (.t 0)), .op 127 (.bin .neq (.t 0) (.k (.c (.int .i64 0)))), .op 128 (.move (.t 0)), .orN 133 0 [.op 129 (.move (.t 27)), .op 130 (.buildSlice 2 none 4 [(.c (.int .i64 0))] [(0, (.k (.c (.int .i64 2)))), (1, (.k (.c (.int .i64 0)))), (2, (.k (.c (.int .i64 3)))), (3, (.k (.c (.int .i64 1))))]), .op 131 (.call false (.k (.c (.func 28 [] []))) [(.t 1), (.t 0)]), .op 132 (.not (.t 0))] (.t 0), .op 134 (.move (.t 0)), .orN 138 0 [.op 135 (.move (.t 31)), .op 136 (.len 1 (.t 0)), .op 137 (.bin .neq (.t 0) (.k (.c (.int .i64 2))))] (.t 0), .op 139 (.move (.t 0)), .orN 146 0 [.op 140 (.move (.t 33)), .op 141 (.idxSlice 1 (.t 0) (.k (.c (.int .i64 1)))), .op 142 (.load none (.t 0)), .op 143 (.buildSlice 2 none 2 [(.c (.int .i64 0))] [(0, (.k (.c (.int .i64 0)))), (1, (.k (.c (.int .i64 3))))]), .op 144 (.call false (.k (.c (.func 28 [] []))) [(.t 1), (.t 0)]), .op 145 (.not (.t 0))] (.t 0), .op 147 (.move (.t 0)), .orN 152 0 [.op 148 (.move (.t 37)), .op 149 (.buildSlice 2 none 4 [(.c (.int .i64 0))] [(0, (.k (.c (.int .i64 3)))), (1, (.k (.c (.int .i64 1)))), (2, (.k (.c (.int .i64 2)))), (3, (.k (.c (.int .i64 0))))]), .op 150 (.call false (.k (.c (.func 28 [] []))) [(.t 1), (.t 0)]), .op 151 (.not (.t 0))] (.t 0), .op 153 (.move (.t 0)), .orN 156 0 [.op 154 (.move (.t 41)), .op 155 (.bin .neq (.t 0) (.k (.c (.int .i64 1))))] (.t 0), .op 157 (.move (.t 0)), .orN 160 0 [.op 158 (.move (.t 45)), .op 159 (.bin .neq (.t 0) (.k (.c (.int .i64 1))))] (.t 0), .op 161 (.move (.t 0)), .orN 164 0 [.op 162 (.move (.t 50)), .op 163 (.bin .neq (.t 0) (.k (.c (.int .i64 1))))] (.t 0), .op 165 (.move (.t 0)), .orN 169 0 [.op 166 (.move (.t 54)), .op 167 (.len 1 (.t 0)), .op 168 (.bin .neq (.t 0) (.k (.c (.int .i64 3))))] (.t 0), .op 170 (.move (.t 0)), .orN 176 0 [.op 171 (.move (.t 56)), .op 172 (.idxSlice 2 (.t 0) (.k (.c (.int .i64 1)))), .op 173 (.load (some 2) (.t 0)), .op 174 (.build [(.c (.int .i64 0)), (.c (.int .i64 0))] [(0, 1, (.k (.c (.int .i64 5000)))), (1, 1, (.k (.c (.int .i64 70000))))]), .op 175 (.eqAgg (.many [0, 0]) true (.t 1) (.t 0))] (.t 0), .op 177 (.move (.t 0)), .orN 182 0 [.op 178 (.move (.t 60)), .op 179 (.buildSlice 2 none 1 [(.c (.int .i64 0))] [(0, (.k (.c (.int .i64 2))))]), .op 180 (.call false (.k (.c (.func 28 [] []))) [(.t 1), (.t 0)]), .op 181 (.not (.t 0))] (.t 0), .op 183 (.move (.t 0)), .orN 188 0 [.op 184 (.move (.t 64)), .op 185 (.buildSlice 2 none 8 [(.c (.int .i64 0))] [(0, (.k (.c (.int .i64 1)))), (1, (.k (.c (.int .i64 0)))), (2, (.k (.c (.int .i64 4)))), (3, (.k (.c (.int .i64 5)))), (4, (.k (.c (.int .i64 2)))), (5, (.k (.c (.int .i64 0)))), (6, (.k (.c (.int .i64 3)))), (7, (.k (.c (.int .i64 0))))]), .op 186 (.call false (.k (.c (.func 28 [] []))) [(.t 1), (.t 0)]), .op 187 (.not (.t 0))] (.t 0), .op 189 (.move (.t 0)), .orN 192 0 [.op 190 (.move (.t 68)), .op 191 (.bin .neq (.t 0) (.k (.c (.int .i64 2))))] (.t 0), .op 193 (.move (.t 0)), .orN 198 0 [.op 194 (.move (.t 72)), .op 195 (.buildSlice 2 none 3 [(.c (.str []))] [(0, (.k (.c (.str [97])))), (1, (.k (.c (.str [98])))), (2, (.k (.c (.str [99]))))]), .op 196 (.call false (.k (.c (.func 82 [] []))) [(.t 1), (.t 0)]), .op 197 (.not (.t 0))] (.t 0), .op 199 (.move (.t 0)), .orN 204 0 [.op 200 (.move (.t 76)), .op 201 (.buildSlice 2 none 2 [(.c (.str []))] [(0, (.k (.c (.str [99])))), (1, (.k (.c (.str [100]))))]), .op 202 (.call false (.k (.c (.func 82 [] []))) [(.t 1), (.t 0)]), .op 203 (.not (.t 0))] (.t 0)] [0]) (.cond (.t 0) (.seq (.region [.op 0 (.move (.k (.c (.bool false))))] [0]) .ret) (.pre [] .skip)))
@[simp] def c16_n30 : SCode := (.region [.op 206 (.buildSlice 2 none 5 [(.c (.str []))] [(0, (.k (.c (.str [97])))), (1, (.k (.c (.str [98])))), (2, (.k (.c (.str [99])))), (3, (.k (.c (.str [100])))), (4, (.k (.c (.str [101]))))]), .op 207 (.call false (.k (.c (.func 50 [] []))) [(.t 0)]), .op 205 (.move (.t 0)), .op 208 (.extract (.t 0) 0), .op 209 (.extract (.t 1) 1), .op 28 (.move (.t 1)), .op 2 (.move (.t 1))] [0, 1])
@[simp] def c16_n32 : SCode := (.seq (.region [.op 210 (.move (.t 0)), .op 211 (.bin .neq (.t 0) (.k (.c (.int .i64 0)))), .op 212 (.move (.t 0)), .orN 216 0 [.op 213 (.move (.t 4)), .op 214 (.len 1 (.t 0)), .op 215 (.bin .neq (.t 0) (.k (.c (.int .i64 4))))] (.t 0), .op 217 (.move (.t 0)), .orN 223 0 [.op 218 (.move (.t 6)), .op 219 (.idxSlice 3 (.t 0) (.k (.c (.int .i64 0)))), .op 220 (.load (some 3) (.t 0)), .op 221 (.build [(.c (.str [])), (.c (.str [])), (.c (.int .i64 0))] [(0, 1, (.k (.c (.str [97])))), (2, 1, (.k (.c (.int .i64 1))))]), .op 222 (.eqAgg (.many [1, 1, 0]) true (.t 1) (.t 0))] (.t 0), .op 224 (.move (.t 0)), .orN 230 0 [.op 225 (.move (.t 8)), .op 226 (.idxSlice 3 (.t 0) (.k (.c (.int .i64 1)))), .op 227 (.load (some 3) (.t 0)), .op 228 (.build [(.c (.str [])), (.c (.str [])), (.c (.int .i64 0))] [(0, 1, (.k (.c (.str [100])))), (1, 1, (.k (.c (.str [101]))))]), .op 229 (.eqAgg (.many [1, 1, 0]) true (.t 1) (.t 0))] (.t 0)] [9, 0]) (.cond (.t 1) (.seq (.region [.op 0 (.move (.k (.c (.bool false))))] [0]) .ret) (.pre [0] .skip)))
@[simp] def c16_n34 : SCode := (.region [.op 231 (.buildSlice 0 (some 3) 0 [(.c (.str [])), (.c (.str [])), (.c (.int .i64 0))] []), .op 232 (.move (.t 1)), .op 233 (.append (some 3) 40 (.t 1) (.t 0)), .op 29 (.move (.t 0))] [0])
@[simp] def c16_n36 : SCode := (.region [.op 234 (.move (.t 0)), .op 235 (.idxSlice 3 (.t 0) (.k (.c (.int .i64 1)))), .op 236 (.fieldAddr 2 (.t 0)), .eff (.store 1 (.t 0) (.k (.c (.int .i64 2))))] [3])
@[simp] def c16_n38 : SCode := (.region [.op 238 (.move (.t 0)), .op 239 (.call false (.k (.c (.func 58 [] []))) [(.t 0)]), .op 237 (.move (.t 0)), .op 240 (.extract (.t 0) 0), .op 241 (.extract (.t 1) 1), .op 30 (.move (.t 1)), .op 4 (.move (.t 1))] [0, 7, 1])
@[simp] def c16_n40 : SCode := (.seq (.region [.op 242 (.move (.t 0)), .op 243 (.bin .neq (.t 0) (.k (.c (.int .i64 0)))), .op 244 (.move (.t 0)), .orN 248 0 [.op 245 (.move (.t 5)), .op 246 (.len 1 (.t 0)), .op 247 (.bin .neq (.t 0) (.k (.c (.int .i64 2))))] (.t 0), .op 249 (.move (.t 0)), .orN 255 0 [.op 250 (.move (.t 7)), .op 251 (.idxSlice 3 (.t 0) (.k (.c (.int .i64 0)))), .op 252 (.load (some 3) (.t 0)), .op 253 (.build [(.c (.str [])), (.c (.str [])), (.c (.int .i64 0))] [(0, 1, (.k (.c (.str [97])))), (1, 1, (.k (.c (.str [101]))))]), .op 254 (.eqAgg (.many [1, 1, 0]) true (.t 1) (.t 0))] (.t 0)] [7, 8, 0]) (.cond (.t 2) (.seq (.region [.op 0 (.move (.k (.c (.bool false))))] [0]) .ret) (.pre [0, 1] .skip)))
@[simp] def c16_n42 : SCode := (.region [.op 256 (.buildSlice 0 (some 3) 0 [(.c (.str [])), (.c (.str [])), (.c (.int .i64 0))] []), .op 257 (.move (.t 2)), .op 258 (.append (some 3) 40 (.t 1) (.t 0)), .op 31 (.move (.t 0))] [4, 0])
@[simp] def c16_n44 : SCode := (.region [.op 259 (.move (.t 1)), .op 260 (.move (.t 2)), .op 261 (.idxSlice 3 (.t 1) (.k (.c (.int .i64 0)))), .op 262 (.fieldAddr 2 (.t 0)), .eff (.store 1 (.t 0) (.k (.c (.int .i64 1)))), .op 263 (.idxSlice 3 (.t 2) (.k (.c (.int .i64 1)))), .op 264 (.fieldAddr 2 (.t 0)), .eff (.store 1 (.t 0) (.k (.c (.int .i64 2))))] [6, 7])
@[simp] def c16_n46 : SCode := (.region [.op 266 (.move (.t 1)), .op 267 (.call false (.k (.c (.func 58 [] []))) [(.t 0)]), .op 265 (.move (.t 0)), .op 268 (.extract (.t 0) 0), .op 269 (.extract (.t 1) 1), .op 32 (.move (.t 1)), .op 7 (.move (.t 1))] [0, 7, 8, 1])
@[simp] def c16_n48 : SCode := (.region [.op 271 (.move (.t 2)), .op 272 (.call false (.k (.c (.func 59 [] []))) [(.t 0)]), .op 270 (.move (.t 0)), .op 273 (.extract (.t 0) 0), .op 274 (.extract (.t 1) 1), .op 33 (.new [(.c (.str [])), (.c (.str [])), (.c (.int .i64 0))]), .eff (.store 3 (.t 0) (.t 2)), .op 9 (.move (.t 1))] [7, 0, 8, 9, 10, 1])
@[simp] def c16_n50 : SCode := (.seq (.region [.op 275 (.move (.t 0)), .op 276 (.move (.t 2)), .op 277 (.bin .add (.t 1) (.t 0)), .op 278 (.bin .neq (.t 0) (.k (.c (.int .i64 0)))), .op 279 (.move (.t 0)), .orN 283 0 [.op 280 (.move (.t 9)), .op 281 (.len 1 (.t 0)), .op 282 (.bin .neq (.t 0) (.k (.c (.int .i64 1))))] (.t 0), .op 284 (.move (.t 0)), .orN 288 0 [.op 285 (.load (some 3) (.t 12)), .op 286 (.build [(.c (.str [])), (.c (.str [])), (.c (.int .i64 0))] [(0, 1, (.k (.c (.str [101])))), (1, 1, (.k (.c (.str [98]))))]), .op 287 (.eqAgg (.many [1, 1, 0]) true (.t 1) (.t 0))] (.t 0)] [10, 11, 12, 0]) (.cond (.t 3) (.seq (.region [.op 0 (.move (.k (.c (.bool false))))] [0]) .ret) (.pre [0, 1, 2] .skip)))
@[simp] def c16_n52 : SCode := (.region [.op 289 (.buildSlice 0 (some 3) 0 [(.c (.str [])), (.c (.str [])), (.c (.int .i64 0))] []), .op 290 (.move (.t 3)), .op 291 (.append (some 3) 40 (.t 1) (.t 0)), .op 34 (.move (.t 0))] [4, 5, 0])
@[simp] def c16_n54 : SCode := (.region [.op 292 (.move (.t 2)), .op 293 (.idxSlice 3 (.t 0) (.k (.c (.int .i64 0)))), .op 294 (.fieldAddr 2 (.t 0)), .eff (.store 1 (.t 0) (.k (.c (.int .i64 2))))] [3, 4, 5])
@[simp] def c16_n56 : SCode := (.region [.op 296 (.move (.t 0)), .op 297 (.move (.t 2)), .op 298 (.move (.t 4)), .op 299 (.buildSlice 2 none 3 [.nil] [(0, (.t 2)), (1, (.t 1)), (2, (.t 0))]), .op 300 (.call false (.k (.c (.func 66 [] []))) [(.t 0)]), .op 295 (.move (.t 0)), .op 301 (.extract (.t 0) 0), .op 302 (.extract (.t 1) 1), .op 35 (.move (.t 1)), .op 11 (.move (.t 1))] [0, 1])
@[simp] def c16_n58 : SCode := (.region [.op 304 (.build [(.c (.int .i64 0)), (.c (.int .i64 0))] [(0, 1, (.k (.c (.int .i64 120)))), (1, 1, (.k (.c (.int .i64 7000))))]), .op 305 (.build [(.c (.int .i64 0)), (.c (.int .i64 0))] [(0, 1, (.k (.c (.int .i64 130)))), (1, 1, (.k (.c (.int .i64 7000))))]), .op 306 (.call false (.k (.c (.func 63 [] []))) [(.t 1), (.t 0)]), .op 303 (.move (.t 0)), .op 307 (.extract (.t 0) 0), .op 308 (.extract (.t 1) 1), .op 36 (.move (.t 1)), .op 13 (.move (.t 1))] [8, 0, 9, 1])
@[simp] def c16_n60 : SCode := (.region [.op 309 (.move (.t 0)), .op 310 (.move (.t 2)), .op 311 (.bin .add (.t 1) (.t 0)), .op 312 (.bin .eql (.t 0) (.k (.c (.int .i64 0)))), .op 313 (.move (.t 0)), .andN 317 0 [.op 314 (.move (.t 7)), .op 315 (.len 1 (.t 0)), .op 316 (.bin .eql (.t 0) (.k (.c (.int .i64 5))))] (.t 0), .op 318 (.move (.t 0)), .andN 324 0 [.op 319 (.move (.t 9)), .op 320 (.idxSlice 2 (.t 0) (.k (.c (.int .i64 0)))), .op 321 (.load (some 2) (.t 0)), .op 322 (.build [(.c (.str [])), (.c (.int .i64 0))] [(0, 1, (.k (.c (.str [99])))), (1, 1, (.k (.c (.int .i64 1))))]), .op 323 (.eqAgg (.many [1, 0]) false (.t 1) (.t 0))] (.t 0), .op 325 (.move (.t 0)), .andN 331 0 [.op 326 (.move (.t 11)), .op 327 (.idxSlice 2 (.t 0) (.k (.c (.int .i64 4)))), .op 328 (.load (some 2) (.t 0)), .op 329 (.build [(.c (.str [])), (.c (.int .i64 0))] [(0, 1, (.k (.c (.str [100])))), (1, 1, (.k (.c (.int .i64 5))))]), .op 330 (.eqAgg (.many [1, 0]) false (.t 1) (.t 0))] (.t 0), .op 332 (.move (.t 0)), .andN 335 0 [.op 333 (.move (.t 14)), .op 334 (.bin .eql (.t 0) (.k (.c (.int .i64 1))))] (.t 0), .op 0 (.move (.t 0))] [0])
def c16_n59 : SCode := .seq c16_n60 .ret
def c16_n57 : SCode := .seq c16_n58 c16_n59
def c16_n55 : SCode := .seq c16_n56 c16_n57
def c16_n53 : SCode := .seq c16_n54 c16_n55
def c16_n51 : SCode := .seq c16_n52 c16_n53
def c16_n49 : SCode := .seq c16_n50 c16_n51
def c16_n47 : SCode := .seq c16_n48 c16_n49
def c16_n45 : SCode := .seq c16_n46 c16_n47
def c16_n43 : SCode := .seq c16_n44 c16_n45
def c16_n41 : SCode := .seq c16_n42 c16_n43
def c16_n39 : SCode := .seq c16_n40 c16_n41
def c16_n37 : SCode := .seq c16_n38 c16_n39
def c16_n35 : SCode := .seq c16_n36 c16_n37
def c16_n33 : SCode := .seq c16_n34 c16_n35
def c16_n31 : SCode := .seq c16_n32 c16_n33
def c16_n29 : SCode := .seq c16_n30 c16_n31
def c16_n27 : SCode := .seq c16_n28 c16_n29
def c16_n25 : SCode := .seq c16_n26 c16_n27
def c16_n23 : SCode := .seq c16_n24 c16_n25
def c16_n21 : SCode := .seq c16_n22 c16_n23
def c16_n19 : SCode := .seq c16_n20 c16_n21
def c16_n17 : SCode := .seq c16_n18 c16_n19
def c16_n15 : SCode := .seq c16_n16 c16_n17
def c16_n13 : SCode := .seq c16_n14 c16_n15
def c16_n11 : SCode := .seq c16_n12 c16_n13
def c16_n9 : SCode := .seq c16_n10 c16_n11
def c16_n7 : SCode := .seq c16_n8 c16_n9
def c16_n5 : SCode := .seq c16_n6 c16_n7
def c16_n3 : SCode := .seq c16_n4 c16_n5
def c16_n1 : SCode := .seq c16_n2 c16_n3
def c16 : SCode := (.seq (.region [.op 0 (.move (.k (.c (.bool false))))] []) c16_n1)
def F16 : SFunc := .code .pure 336 0 [some 0] [.tmp 0] c16
end LM.G6
