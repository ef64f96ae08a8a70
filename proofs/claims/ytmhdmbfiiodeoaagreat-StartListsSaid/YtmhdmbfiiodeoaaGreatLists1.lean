/- Part 4 of what YtmhdmbfiiodeoaaGreatLists leans on. -/
import Derived.Test.YtmhdmbfiiodeoaaGreatLib1
import Derived.Test.YtmhdmbfiiodeoaaGreatLib2
import Derived.Test.YtmhdmbfiiodeoaaGreatLib3
set_option linter.all false
namespace LM.G6
open Go LM
-- crux/cruxlaw06.StartLists
-- c3_l0: env [11, 15, 16]
@[simp] def c3_n3 : SCode := (.draw 0 [.op 115 (.move (.t 0)), .op 116 (.move (.t 3)), .op 117 (.idxSlice 1 (.t 1) (.t 0)), .op 118 (.load none (.t 0)) none .old, .op 119 (.move (.t 5)), .op 120 (.move (.t 7)), .op 121 (.idxSlice 1 (.t 1) (.t 0)), .op 122 (.load none (.t 0)) none .old, .op 123 (.call false (.k (.c (.func 28 [] []))) [(.t 4), (.t 0)]), .op 124 (.not (.t 0))] [10, 11, 12, 0])
def c3_n2 : SCode := .seq c3_n3 (.cond (.t 3) (.seq (.region [.op 6 (.move (.k (.c (.bool false))))] [0]) .ret) (.pre [0, 1, 2] .skip))
instance : IsSeq c3_n2 c3_n3 (.cond (.t 3) (.seq (.region [.op 6 (.move (.k (.c (.bool false))))] [0]) .ret) (.pre [0, 1, 2] .skip)) := ⟨rfl⟩
def c3_n1 : SCode := .seq (.block 1 [some 11, some 15, some 16] c3_n2) (.region [.op 113 (.move (.t 2)), .op 114 (.bin .add (.t 0) (.k (.c (.int .i64 1)))), .op 16 (.move (.t 0))] [3, 4, 0])
instance : IsSeq c3_n1 (.block 1 [some 11, some 15, some 16] c3_n2) (.region [.op 113 (.move (.t 2)), .op 114 (.bin .add (.t 0) (.k (.c (.int .i64 1)))), .op 16 (.move (.t 0))] [3, 4, 0]) := ⟨rfl⟩
def c3_l0b : SCode := (.seq (.seq (.region [.op 109 (.move (.t 2)), .op 110 (.move (.t 1)), .op 111 (.len 1 (.t 0)), .op 112 (.bin .lss (.t 2) (.t 0))] [4, 5, 6, 0]) (.cond (.t 3) (.pre [0, 1, 2] .skip) (.pre [] (.exit 0)))) c3_n1)
def c3_l0 : SCode := .loop true c3_l0b
@[simp] def c3_n5 : SCode := (.region [.op 17 (.move (.t 0)), .op 18 (.call false (.k (.c (.func 15 [] []))) [(.t 0)]), .op 7 (.move (.t 0))] [3, 4, 5, 0])
@[simp] def c3_n7 : SCode := (.seq (.region [.op 19 (.call false (.k (.c (.func 16 [] []))) []), .op 20 (.not (.t 0)), .op 21 (.move (.t 0)), .orN 25 0 [.op 22 (.move (.t 6)), .op 23 (.call false (.k (.c (.func 17 [] []))) [(.t 0), (.k (.c (.int .i64 24)))]), .op 24 (.not (.t 0))] (.t 0)] [4, 5, 6, 7, 0]) (.cond (.t 4) (.seq (.region [.op 26 (.call false (.k (.c (.func 16 [] []))) []), .op 6 (.move (.t 0))] [0]) .ret) (.pre [0, 1, 2, 3] .skip)))
@[simp] def c3_n9 : SCode := (.region [.op 27 (.move (.t 3)), .op 28 (.call false (.k (.c (.func 18 [] []))) [(.t 0)]), .op 8 (.move (.t 0))] [3, 4, 5, 6, 0])
@[simp] def c3_n11 : SCode := (.seq (.region [.op 29 (.move (.t 0)), .op 30 (.call false (.k (.c (.func 19 [] []))) [(.t 0)]), .op 31 (.move (.t 6)), .op 32 (.bin .neq (.t 1) (.t 0))] [4, 5, 6, 7, 8, 0]) (.cond (.t 5) (.seq (.region [.op 6 (.move (.k (.c (.bool false))))] [0]) .ret) (.pre [0, 1, 2, 3, 4] .skip)))
@[simp] def c3_n13 : SCode := (.region [.op 34 (.move (.t 0)), .op 35 (.move (.t 3)), .op 36 (.call false (.k (.c (.func 20 [] []))) [(.t 1), (.t 0)]), .op 33 (.move (.t 0)), .op 37 (.extract (.t 0) 0), .op 38 (.extract (.t 1) 1), .op 9 (.move (.t 1)), .op 10 (.move (.t 1))] [8, 9, 10, 11, 12, 1, 0])
@[simp] def c3_n15 : SCode := (.region [.op 40 (.move (.t 0)), .op 41 (.move (.t 2)), .op 42 (.move (.t 4)), .op 43 (.call false (.k (.c (.func 21 [] []))) [(.t 2), (.t 1), (.t 0)]), .op 39 (.move (.t 0)), .op 44 (.extract (.t 0) 0), .op 45 (.extract (.t 1) 1), .op 11 (.move (.t 1)), .op 12 (.move (.t 1))] [9, 10, 11, 12, 13, 14, 15, 1, 0])
@[simp] def c3_n17 : SCode := (.region [.op 46 (.move (.t 4)), .op 47 (.move (.t 5)), .op 48 (.move (.t 3)), .op 49 (.call false (.k (.c (.func 23 [] []))) [(.t 0), (.k (.c (.int .i64 1))), (.k (.c (.int .i64 16)))]), .op 50 (.buildSlice 2 none 2 [(.c (.int .i64 0))] [(0, (.t 2)), (1, (.t 0))]), .op 51 (.call false (.k (.c (.func 22 [] []))) [(.t 0)]), .op 13 (.move (.t 5)), .op 14 (.move (.t 1))] [8, 9, 10, 11, 13, 14, 15, 16, 1, 0])
@[simp] def c3_n19 : SCode := (.seq (.region [.op 52 (.move (.t 8)), .op 53 (.bin .eql (.t 0) (.k (.c (.int .i64 0))))] [2, 3, 4, 5, 6, 7, 8, 9, 10, 11, 0]) (.cond (.t 10) (.region [.op 54 (.move (.t 2)), .op 55 (.move (.t 1)), .op 56 (.len 1 (.t 0)), .op 57 (.call false (.k (.c (.func 24 [] []))) [(.t 2), (.t 0)]), .op 13 (.move (.t 0))] [5, 6, 7, 8, 9, 10, 11, 12, 0, 14]) (.pre [0, 1, 2, 3, 4, 5, 6, 7, 8, 9] .skip)))
@[simp] def c3_n21 : SCode := (.seq (.region [.op 58 (.move (.t 9)), .op 59 (.bin .eql (.t 0) (.k (.c (.int .i64 0))))] [2, 3, 4, 5, 6, 7, 8, 9, 10, 11, 0]) (.cond (.t 10) (.region [.op 60 (.move (.t 2)), .op 61 (.move (.t 1)), .op 62 (.len 1 (.t 0)), .op 63 (.call false (.k (.c (.func 24 [] []))) [(.t 2), (.t 0)]), .op 14 (.move (.t 0))] [6, 7, 8, 9, 10, 11, 12, 13, 0]) (.pre [1, 2, 3, 4, 5, 6, 7, 8, 9] .skip)))
@[simp] def c3_n23 : SCode := (.seq (.region [.op 64 (.move (.t 7)), .op 65 (.bin .neq (.t 0) (.k (.c (.int .i64 0)))), .op 66 (.move (.t 0)), .andN 72 0 [.op 67 (.move (.t 6)), .op 68 (.move (.t 8)), .op 69 (.move (.t 12)), .op 70 (.call false (.k (.c (.func 25 [] []))) [(.t 2), (.t 1), (.t 0), (.k .nil)]), .op 71 (.not (.t 0))] (.t 0), .op 73 (.move (.t 0)), .orN 85 0 [.op 74 (.move (.t 12)), .op 75 (.bin .eql (.t 0) (.k (.c (.int .i64 0)))), .op 76 (.move (.t 0)), .andN 84 0 [.op 77 (.move (.t 11)), .op 78 (.move (.t 13)), .op 79 (.move (.t 12)), .op 80 (.move (.t 12)), .op 81 (.call false (.k (.c (.func 26 [] []))) [(.t 1), (.t 0)]), .op 82 (.call false (.k (.c (.func 25 [] []))) [(.t 4), (.t 3), (.k (.c (.int .i64 0))), (.t 0)]), .op 83 (.not (.t 0))] (.t 0)] (.t 0)] [6, 7, 8, 11, 12, 14, 0]) (.cond (.t 6) (.seq (.region [.op 6 (.move (.k (.c (.bool false))))] [0]) .ret) (.pre [0, 1, 2, 3, 4, 5] .skip)))
@[simp] def c3_n25 : SCode := (.seq (.region [.op 86 (.move (.t 5)), .op 87 (.bin .neq (.t 0) (.k (.c (.int .i64 0))))] [2, 3, 4, 5, 6, 7, 0]) (.cond (.t 6) (.seq (.region [.op 88 (.move (.t 3)), .op 89 (.len 1 (.t 0)), .op 90 (.bin .eql (.t 0) (.k (.c (.int .i64 0)))), .op 91 (.move (.t 0)), .andN 95 0 [.op 92 (.move (.t 8)), .op 93 (.move (.t 10)), .op 94 (.bin .eql (.t 1) (.t 0))] (.t 0), .op 6 (.move (.t 0))] [0]) .ret) (.pre [0, 1, 2, 3, 4] .skip)))
@[simp] def c3_n27 : SCode := (.region [.op 96 (.move (.t 2)), .op 97 (.move (.t 1)), .op 98 (.move (.t 3)), .op 99 (.call false (.k (.c (.func 27 [] []))) [(.t 2), (.t 1), (.t 0)]), .op 15 (.move (.t 0))] [8, 9, 0])
@[simp] def c3_n29 : SCode := (.seq (.region [.op 100 (.move (.t 1)), .op 101 (.bin .neq (.t 0) (.k (.c (.int .i64 0)))), .op 102 (.move (.t 0)), .orN 108 0 [.op 103 (.move (.t 3)), .op 104 (.len 1 (.t 0)), .op 105 (.move (.t 7)), .op 106 (.len 1 (.t 0)), .op 107 (.bin .neq (.t 2) (.t 0))] (.t 0)] [4, 6, 0]) (.cond (.t 2) (.seq (.region [.op 6 (.move (.k (.c (.bool false))))] [0]) .ret) (.pre [0, 1] .skip)))
def c3_n28 : SCode := .seq c3_n29 (.seq (.seq (.region [.op 16 (.move (.k (.c (.int .i64 0))))] [1, 2, 0]) (.block 0 [] c3_l0)) (.seq (.region [.op 6 (.move (.k (.c (.bool true))))] [0]) .ret))
instance : IsSeq c3_n28 c3_n29 (.seq (.seq (.region [.op 16 (.move (.k (.c (.int .i64 0))))] [1, 2, 0]) (.block 0 [] c3_l0)) (.seq (.region [.op 6 (.move (.k (.c (.bool true))))] [0]) .ret)) := ⟨rfl⟩
def c3_n26 : SCode := .seq c3_n27 c3_n28
instance : IsSeq c3_n26 c3_n27 c3_n28 := ⟨rfl⟩
def c3_n24 : SCode := .seq c3_n25 c3_n26
instance : IsSeq c3_n24 c3_n25 c3_n26 := ⟨rfl⟩
def c3_n22 : SCode := .seq c3_n23 c3_n24
instance : IsSeq c3_n22 c3_n23 c3_n24 := ⟨rfl⟩
def c3_n20 : SCode := .seq c3_n21 c3_n22
instance : IsSeq c3_n20 c3_n21 c3_n22 := ⟨rfl⟩
def c3_n18 : SCode := .seq c3_n19 c3_n20
instance : IsSeq c3_n18 c3_n19 c3_n20 := ⟨rfl⟩
def c3_n16 : SCode := .seq c3_n17 c3_n18
instance : IsSeq c3_n16 c3_n17 c3_n18 := ⟨rfl⟩
def c3_n14 : SCode := .seq c3_n15 c3_n16
instance : IsSeq c3_n14 c3_n15 c3_n16 := ⟨rfl⟩
def c3_n12 : SCode := .seq c3_n13 c3_n14
instance : IsSeq c3_n12 c3_n13 c3_n14 := ⟨rfl⟩
def c3_n10 : SCode := .seq c3_n11 c3_n12
instance : IsSeq c3_n10 c3_n11 c3_n12 := ⟨rfl⟩
def c3_n8 : SCode := .seq c3_n9 c3_n10
instance : IsSeq c3_n8 c3_n9 c3_n10 := ⟨rfl⟩
def c3_n6 : SCode := .seq c3_n7 c3_n8
instance : IsSeq c3_n6 c3_n7 c3_n8 := ⟨rfl⟩
def c3_n4 : SCode := .seq c3_n5 c3_n6
instance : IsSeq c3_n4 c3_n5 c3_n6 := ⟨rfl⟩
def c3 : SCode := (.seq (.region [.op 6 (.move (.k (.c (.bool false))))] [1, 2, 3]) c3_n4)
def F3 : SFunc := .code .pure 125 3 [some 6] [.tmp 0] c3

-- crux/cruxlaw06.own
-- c15_l0: env [0, 3, 4]
@[simp] def c15_n2 : SCode := (.block 1 [some 0, some 3, some 4] (.region [.op 11 (.move (.t 1)), .op 12 (.move (.t 1)), .op 13 (.move (.t 4)), .op 14 (.idxSlice 3 (.t 1) (.t 0)), .op 15 (.load (some 3) (.t 0)), .op 16 (.buildSlice 2 (some 3) 1 [(.c (.str [])), (.c (.str [])), (.c (.int .i64 0))] [(0, (.t 0))]), .op 17 (.append (some 3) 40 (.t 5) (.t 0)), .op 3 (.move (.t 0))] [8, 0, 10]))
def c15_n1 : SCode := .seq c15_n2 (.region [.op 9 (.move (.t 2)), .op 10 (.bin .add (.t 0) (.k (.c (.int .i64 1)))), .op 4 (.move (.t 0))] [3, 4, 0])
instance : IsSeq c15_n1 c15_n2 (.region [.op 9 (.move (.t 2)), .op 10 (.bin .add (.t 0) (.k (.c (.int .i64 1)))), .op 4 (.move (.t 0))] [3, 4, 0]) := ⟨rfl⟩
def c15_l0b : SCode := (.seq (.seq (.region [.op 5 (.move (.t 2)), .op 6 (.move (.t 1)), .op 7 (.len 1 (.t 0)), .op 8 (.bin .lss (.t 2) (.t 0))] [4, 5, 6, 0]) (.cond (.t 3) (.pre [0, 1, 2] .skip) (.pre [1] (.exit 0)))) c15_n1)
def c15_l0 : SCode := .loop true c15_l0b
def c15 : SCode := (.seq (.region [.op 2 (.mkNil (some 3))] [1]) (.seq (.region [.op 3 (.mkNil (some 3))] [1, 0]) (.seq (.seq (.region [.op 4 (.move (.k (.c (.int .i64 0))))] [1, 2, 0]) (.block 0 [some 3] c15_l0)) (.seq (.region [.op 18 (.move (.t 0)), .op 2 (.move (.t 0))] [0]) .ret))))
def F15 : SFunc := .code .pure 19 1 [some 2] [.tmp 0] c15

-- crux/cruxref06.Short
-- c17_l0: env [0, 5]
@[simp] def c17_n3 : SCode := (.region [.op 26 (.move (.t 0)), .op 27 (.move (.t 2)), .op 28 (.idxSlice 3 (.t 1) (.t 0)), .op 29 (.fieldAddr 0 (.t 0)), .op 30 (.load none (.t 0)), .op 31 (.len 0 (.t 0)), .op 32 (.bin .gtr (.t 0) (.k (.c (.int .i64 40)))), .op 33 (.move (.t 0)), .orN 41 0 [.op 34 (.move (.t 8)), .op 35 (.move (.t 10)), .op 36 (.idxSlice 3 (.t 1) (.t 0)), .op 37 (.fieldAddr 1 (.t 0)), .op 38 (.load none (.t 0)), .op 39 (.len 0 (.t 0)), .op 40 (.bin .gtr (.t 0) (.k (.c (.int .i64 40))))] (.t 0)] [9, 10, 0])
def c17_n2 : SCode := .seq c17_n3 (.cond (.t 2) (.seq (.region [.op 4 (.move (.k (.c (.bool false))))] [0]) .ret) (.pre [0, 1] .skip))
instance : IsSeq c17_n2 c17_n3 (.cond (.t 2) (.seq (.region [.op 4 (.move (.k (.c (.bool false))))] [0]) .ret) (.pre [0, 1] .skip)) := ⟨rfl⟩
def c17_n1 : SCode := .seq (.block 1 [some 0, some 5] c17_n2) (.region [.op 24 (.move (.t 1)), .op 25 (.bin .add (.t 0) (.k (.c (.int .i64 1)))), .op 5 (.move (.t 0))] [3, 0])
instance : IsSeq c17_n1 (.block 1 [some 0, some 5] c17_n2) (.region [.op 24 (.move (.t 1)), .op 25 (.bin .add (.t 0) (.k (.c (.int .i64 1)))), .op 5 (.move (.t 0))] [3, 0]) := ⟨rfl⟩
def c17_l0b : SCode := (.seq (.seq (.region [.op 20 (.move (.t 1)), .op 21 (.move (.t 1)), .op 22 (.len 1 (.t 0)), .op 23 (.bin .lss (.t 2) (.t 0))] [4, 5, 0]) (.cond (.t 2) (.pre [0, 1] .skip) (.pre [] (.exit 0)))) c17_n1)
def c17_l0 : SCode := .loop true c17_l0b
@[simp] def c17_n5 : SCode := (.seq (.region [.op 6 (.move (.t 0)), .op 7 (.len 1 (.t 0)), .op 8 (.move (.t 3)), .op 9 (.bin .gtr (.t 1) (.t 0)), .op 10 (.move (.t 0)), .andN 14 0 [.op 11 (.move (.t 5)), .op 12 (.len 1 (.t 0)), .op 13 (.bin .leq (.t 0) (.k (.c (.int .i64 160))))] (.t 0), .op 15 (.move (.t 0)), .orN 19 0 [.op 16 (.move (.t 7)), .op 17 (.len 1 (.t 0)), .op 18 (.bin .gtr (.t 0) (.k (.c (.int .i64 162))))] (.t 0)] [8, 0]) (.cond (.t 1) (.seq (.region [.op 4 (.move (.k (.c (.bool false))))] [0]) .ret) (.pre [0] .skip)))
def c17_n4 : SCode := .seq c17_n5 (.seq (.seq (.region [.op 5 (.move (.k (.c (.int .i64 0))))] [1, 0]) (.block 0 [] c17_l0)) (.seq (.region [.op 4 (.move (.k (.c (.bool true))))] [0]) .ret))
instance : IsSeq c17_n4 c17_n5 (.seq (.seq (.region [.op 5 (.move (.k (.c (.int .i64 0))))] [1, 0]) (.block 0 [] c17_l0)) (.seq (.region [.op 4 (.move (.k (.c (.bool true))))] [0]) .ret)) := ⟨rfl⟩
def c17 : SCode := (.seq (.region [.op 4 (.move (.k (.c (.bool false))))] [1, 2]) c17_n4)
def F17 : SFunc := .code .pure 42 2 [some 4] [.tmp 0] c17

-- crux/cruxref06.CheckStarters
-- c18_l0: env [0, 3, 4]
-- c18_l1: env [0, 3]
@[simp] def c18_n3 : SCode := (.draw 0 [.op 26 (.move (.t 0)), .op 27 (.move (.t 3)), .op 28 (.idxSlice 3 (.t 1) (.t 0)), .op 29 (.fieldAddr 0 (.t 0)), .op 30 (.load none (.t 0)) none .old, .op 31 (.move (.t 5)), .op 32 (.move (.t 7)), .op 33 (.idxSlice 3 (.t 1) (.t 0)), .op 34 (.fieldAddr 0 (.t 0)), .op 35 (.load none (.t 0)) none .old, .op 36 (.bin .eql (.t 5) (.t 0))] [11, 12, 13, 0])
def c18_n2 : SCode := .seq c18_n3 (.cond (.t 3) (.seq (.region [.op 2 (.move (.k (.c (.int .i64 9))))] [0]) .ret) (.pre [0, 1, 2] .skip))
instance : IsSeq c18_n2 c18_n3 (.cond (.t 3) (.seq (.region [.op 2 (.move (.k (.c (.int .i64 9))))] [0]) .ret) (.pre [0, 1, 2] .skip)) := ⟨rfl⟩
def c18_n1 : SCode := .seq (.block 3 [some 0, some 3, some 4] c18_n2) (.region [.op 24 (.move (.t 2)), .op 25 (.bin .add (.t 0) (.k (.c (.int .i64 1)))), .op 4 (.move (.t 0))] [3, 4, 0])
instance : IsSeq c18_n1 (.block 3 [some 0, some 3, some 4] c18_n2) (.region [.op 24 (.move (.t 2)), .op 25 (.bin .add (.t 0) (.k (.c (.int .i64 1)))), .op 4 (.move (.t 0))] [3, 4, 0]) := ⟨rfl⟩
def c18_l0b : SCode := (.seq (.seq (.region [.op 21 (.move (.t 2)), .op 22 (.move (.t 2)), .op 23 (.bin .lss (.t 1) (.t 0))] [3, 4, 5, 0]) (.cond (.t 3) (.pre [0, 1, 2] .skip) (.pre [0, 1] (.exit 2)))) c18_n1)
def c18_l0 : SCode := .loop true c18_l0b
@[simp] def c18_n6 : SCode := (.seq (.region [.op 14 (.move (.t 0)), .op 15 (.move (.t 2)), .op 16 (.idxSlice 3 (.t 1) (.t 0)), .op 17 (.fieldAddr 0 (.t 0)), .op 18 (.load none (.t 0)), .op 19 (.call false (.k (.c (.func 85 [] []))) [(.t 0)]), .op 20 (.not (.t 0))] [7, 8, 0]) (.cond (.t 2) (.seq (.region [.op 2 (.move (.k (.c (.int .i64 8))))] [0]) .ret) (.pre [0, 1] .skip)))
@[simp] def c18_n8 : SCode := (.seq (.region [.op 4 (.move (.k (.c (.int .i64 0))))] [1, 2, 0]) (.block 2 [some 0, some 3] c18_l0))
@[simp] def c18_n10 : SCode := (.seq (.region [.op 37 (.move (.t 0)), .op 38 (.move (.t 2)), .op 39 (.idxSlice 3 (.t 1) (.t 0)), .op 40 (.fieldAddr 1 (.t 0)), .op 41 (.load none (.t 0)), .op 42 (.call false (.k (.c (.func 85 [] []))) [(.t 0)]), .op 43 (.not (.t 0))] [7, 8, 0]) (.cond (.t 2) (.seq (.region [.op 2 (.move (.k (.c (.int .i64 8))))] [0]) .ret) (.pre [0, 1] .skip)))
@[simp] def c18_n12 : SCode := (.region [.op 44 (.move (.t 0)), .op 45 (.move (.t 2)), .op 46 (.idxSlice 3 (.t 1) (.t 0)), .op 47 (.fieldAddr 2 (.t 0)), .op 48 (.load none (.t 0)), .op 49 (.call false (.k (.c (.func 23 [] []))) [(.t 0), (.k (.c (.int .i64 0))), (.k (.c (.int .i64 999999999)))]), .op 50 (.bin .neq (.t 0) (.k (.c (.int .i64 0))))] [7, 8, 0])
def c18_n11 : SCode := .seq c18_n12 (.cond (.t 2) (.seq (.region [.op 2 (.move (.k (.c (.int .i64 3))))] [0]) .ret) (.pre [0, 1] .skip))
instance : IsSeq c18_n11 c18_n12 (.cond (.t 2) (.seq (.region [.op 2 (.move (.k (.c (.int .i64 3))))] [0]) .ret) (.pre [0, 1] .skip)) := ⟨rfl⟩
def c18_n9 : SCode := .seq c18_n10 c18_n11
instance : IsSeq c18_n9 c18_n10 c18_n11 := ⟨rfl⟩
def c18_n7 : SCode := .seq c18_n8 c18_n9
instance : IsSeq c18_n7 c18_n8 c18_n9 := ⟨rfl⟩
def c18_n5 : SCode := .seq c18_n6 c18_n7
instance : IsSeq c18_n5 c18_n6 c18_n7 := ⟨rfl⟩
def c18_n4 : SCode := .seq (.block 1 [some 0, some 3] c18_n5) (.region [.op 12 (.move (.t 1)), .op 13 (.bin .add (.t 0) (.k (.c (.int .i64 1)))), .op 3 (.move (.t 0))] [3, 0])
instance : IsSeq c18_n4 (.block 1 [some 0, some 3] c18_n5) (.region [.op 12 (.move (.t 1)), .op 13 (.bin .add (.t 0) (.k (.c (.int .i64 1)))), .op 3 (.move (.t 0))] [3, 0]) := ⟨rfl⟩
def c18_l1b : SCode := (.seq (.seq (.region [.op 8 (.move (.t 1)), .op 9 (.move (.t 1)), .op 10 (.len 1 (.t 0)), .op 11 (.bin .lss (.t 2) (.t 0))] [4, 5, 0]) (.cond (.t 2) (.pre [0, 1] .skip) (.pre [] (.exit 0)))) c18_n4)
def c18_l1 : SCode := .loop true c18_l1b
@[simp] def c18_n14 : SCode := (.seq (.region [.op 5 (.move (.t 0)), .op 6 (.len 1 (.t 0)), .op 7 (.bin .gtr (.t 0) (.k (.c (.int .i64 160))))] [3, 0]) (.cond (.t 1) (.seq (.region [.op 2 (.move (.k (.c (.int .i64 5))))] [0]) .ret) (.pre [0] .skip)))
def c18_n13 : SCode := .seq c18_n14 (.seq (.seq (.region [.op 3 (.move (.k (.c (.int .i64 0))))] [1, 0]) (.block 0 [] c18_l1)) (.seq (.region [.op 2 (.move (.k (.c (.int .i64 0))))] [0]) .ret))
instance : IsSeq c18_n13 c18_n14 (.seq (.seq (.region [.op 3 (.move (.k (.c (.int .i64 0))))] [1, 0]) (.block 0 [] c18_l1)) (.seq (.region [.op 2 (.move (.k (.c (.int .i64 0))))] [0]) .ret)) := ⟨rfl⟩
def c18 : SCode := (.seq (.region [.op 2 (.move (.k (.c (.int .i64 0))))] [1]) c18_n13)
def F18 : SFunc := .code .pure 51 1 [some 2] [.tmp 0] c18

-- crux/start.CheckStarters
-- c19_l0: env [0, 10, 11, 12]
@[simp] def c19_n4 : SCode := (.region [.op 14 (.move (.t 3)), .op 15 (.idxSlice 3 (.t 2) (.t 4)), .op 16 (.load (some 3) (.t 0)), .op 4 (.new [(.c (.str [])), (.c (.str [])), (.c (.int .i64 0))]), .op 3 (.move (.t 3)), .eff (.store 3 (.t 1) (.t 2))] [5, 0, 1, 6, 7, 8])
@[simp] def c19_n6 : SCode := (.region [.op 17 (.move (.t 0)), .op 18 (.move (.t 2)), .op 19 (.sliceSl 3 (.t 1) none (some (.t 0)) none), .op 20 (.mkFunc 87 [] [(.t 5)]), .op 21 (.call false (.k (.c (.func 86 [] []))) [(.t 1), (.t 0)]), .op 5 (.move (.t 0))] [6, 8, 0, 9, 10, 11])
@[simp] def c19_n8 : SCode := (.draw 1 [.op 22 (.fieldAddr 0 (.t 1)), .op 23 (.load none (.t 0)) none .var, .op 24 (.call false (.k (.c (.func 90 [] []))) [(.t 0)]), .op 25 (.not (.t 0)), .op 26 (.call false (.k (.c (.func 89 [] []))) [(.t 0), (.k (.c (.int .i64 8)))]), .op 27 (.move (.t 7)), .op 28 (.call false (.k (.c (.func 89 [] []))) [(.t 0), (.k (.c (.int .i64 9)))]), .op 29 (.fieldAddr 1 (.t 8)), .op 30 (.load none (.t 0)) none .var, .op 31 (.call false (.k (.c (.func 90 [] []))) [(.t 0)]), .op 32 (.not (.t 0)), .op 33 (.call false (.k (.c (.func 89 [] []))) [(.t 0), (.k (.c (.int .i64 8)))]), .op 34 (.fieldAddr 2 (.t 13)), .op 35 (.load none (.t 0)) none .var, .op 36 (.call false (.k (.c (.func 91 [] []))) [(.t 0), (.k (.c (.int .i64 0))), (.k (.c (.int .i64 999999999)))]), .op 37 (.buildSlice 2 none 4 [(.c (.int .i64 0))] [(0, (.t 10)), (1, (.t 8)), (2, (.t 3)), (3, (.t 0))]) (some 0), .op 38 (.call false (.k (.c (.func 88 [] []))) [(.t 0)]), .op 6 (.move (.t 0))] [18, 0, 21, 22, 23])
def c19_n7 : SCode := .seq c19_n8 (.seq (.region [.op 39 (.move (.t 1)), .op 40 (.bin .neq (.t 0) (.k (.c (.int .i64 0))))] [2, 3, 4, 5, 6, 0]) (.cond (.t 5) (.seq (.region [.op 41 (.move (.t 1)), .op 2 (.move (.t 0))] [0]) .ret) (.pre [0, 2, 3, 4] .skip)))
instance : IsSeq c19_n7 c19_n8 (.seq (.region [.op 39 (.move (.t 1)), .op 40 (.bin .neq (.t 0) (.k (.c (.int .i64 0))))] [2, 3, 4, 5, 6, 0]) (.cond (.t 5) (.seq (.region [.op 41 (.move (.t 1)), .op 2 (.move (.t 0))] [0]) .ret) (.pre [0, 2, 3, 4] .skip))) := ⟨rfl⟩
def c19_n5 : SCode := .seq c19_n6 c19_n7
instance : IsSeq c19_n5 c19_n6 c19_n7 := ⟨rfl⟩
def c19_n3 : SCode := .seq c19_n4 c19_n5
instance : IsSeq c19_n3 c19_n4 c19_n5 := ⟨rfl⟩
def c19_n2 : SCode := .seq (.block 1 [some 0, some 10, some 11, some 12] c19_n3) (.region [.op 42 (.bin .add (.t 3) (.k (.c (.int .i64 1)))), .op 12 (.move (.t 0))] [2, 3, 4, 0])
instance : IsSeq c19_n2 (.block 1 [some 0, some 10, some 11, some 12] c19_n3) (.region [.op 42 (.bin .add (.t 3) (.k (.c (.int .i64 1)))), .op 12 (.move (.t 0))] [2, 3, 4, 0]) := ⟨rfl⟩
def c19_n1 : SCode := .seq (.cond (.t 4) (.pre [0, 1, 2, 3] .skip) (.pre [] (.exit 0))) c19_n2
instance : IsSeq c19_n1 (.cond (.t 4) (.pre [0, 1, 2, 3] .skip) (.pre [] (.exit 0))) c19_n2 := ⟨rfl⟩
def c19_l0b : SCode := (.seq (.region [.op 13 (.bin .lss (.t 3) (.t 2))] [1, 2, 3, 4, 0]) c19_n1)
def c19_l0 : SCode := .loop true c19_l0b
@[simp] def c19_n10 : SCode := (.seq (.region [.op 7 (.move (.t 0)), .op 8 (.len 1 (.t 0)), .op 9 (.bin .gtr (.t 0) (.k (.c (.int .i64 160))))] [3, 0]) (.cond (.t 1) (.seq (.region [.op 2 (.move (.k (.c (.int .i64 5))))] [0]) .ret) (.pre [0] .skip)))
def c19_n9 : SCode := .seq c19_n10 (.seq (.seq (.region [.op 10 (.move (.t 0)), .op 11 (.len 1 (.t 0)), .op 12 (.move (.k (.c (.int .i64 0))))] [3, 2, 1, 0]) (.block 0 [] c19_l0)) (.seq (.region [.op 2 (.move (.k (.c (.int .i64 0))))] [0]) .ret))
instance : IsSeq c19_n9 c19_n10 (.seq (.seq (.region [.op 10 (.move (.t 0)), .op 11 (.len 1 (.t 0)), .op 12 (.move (.k (.c (.int .i64 0))))] [3, 2, 1, 0]) (.block 0 [] c19_l0)) (.seq (.region [.op 2 (.move (.k (.c (.int .i64 0))))] [0]) .ret)) := ⟨rfl⟩
def c19 : SCode := (.seq (.region [.op 2 (.move (.k (.c (.int .i64 0))))] [1]) c19_n9)
def F19 : SFunc := .code .pure 43 1 [some 2] [.tmp 0] c19

-- crux/start.Seeded
@[simp] def c20_n2 : SCode := (.seq (.region [.op 10 (.load none (.t 1)), .op 11 (.call false (.k (.c (.func 19 [] []))) [(.t 0)]), .op 6 (.move (.t 0))] [3, 4, 0]) (.seq (.region [.op 12 (.move (.t 2)), .op 13 (.bin .neq (.t 0) (.k (.c (.int .i64 0))))] [2, 3, 4, 0]) (.cond (.t 3) (.seq (.region [.op 14 (.move (.t 2)), .op 4 (.mkNil none), .op 5 (.move (.t 1))] [1, 0]) .ret) (.pre [0, 1] .skip))))
@[simp] def c20_n4 : SCode := (.region [.op 16 (.move (.t 0)), .op 17 (.load none (.t 2)), .op 18 (.len 1 (.t 0)), .op 19 (.call false (.k (.c (.func 92 [] []))) [(.t 2), (.t 0)]), .op 15 (.move (.t 0)), .op 20 (.extract (.t 0) 0), .op 21 (.extract (.t 1) 1), .op 7 (.move (.t 1)), .op 8 (.move (.t 1))] [10, 1, 0])
@[simp] def c20_n6 : SCode := (.seq (.region [.op 22 (.move (.t 2)), .op 23 (.bin .neq (.t 0) (.k (.c (.int .i64 0))))] [2, 3, 4, 0]) (.cond (.t 3) (.seq (.region [.op 24 (.move (.t 2)), .op 4 (.mkNil none), .op 5 (.move (.t 1))] [1, 0]) .ret) (.pre [0, 1] .skip)))
@[simp] def c20_n8 : SCode := (.region [.op 25 (.mkFunc 93 [] [(.t 0)]), .op 9 (.new [(.c .nilfunc)]), .eff (.store 1 (.t 0) (.t 1))] [3, 0])
def c20_n7 : SCode := .seq c20_n8 (.seq (.region [.op 26 (.move (.t 0)), .op 27 (.mkFunc 95 [] [(.t 2)]), .op 28 (.call false (.k (.c (.func 94 [] []))) [(.t 1), (.t 0)])] [3]) (.seq (.region [.op 29 (.move (.t 0)), .op 4 (.move (.t 0)), .op 5 (.move (.k (.c (.int .i64 0))))] [1, 0]) .ret))
instance : IsSeq c20_n7 c20_n8 (.seq (.region [.op 26 (.move (.t 0)), .op 27 (.mkFunc 95 [] [(.t 2)]), .op 28 (.call false (.k (.c (.func 94 [] []))) [(.t 1), (.t 0)])] [3]) (.seq (.region [.op 29 (.move (.t 0)), .op 4 (.move (.t 0)), .op 5 (.move (.k (.c (.int .i64 0))))] [1, 0]) .ret)) := ⟨rfl⟩
def c20_n5 : SCode := .seq c20_n6 c20_n7
instance : IsSeq c20_n5 c20_n6 c20_n7 := ⟨rfl⟩
def c20_n3 : SCode := .seq c20_n4 c20_n5
instance : IsSeq c20_n3 c20_n4 c20_n5 := ⟨rfl⟩
def c20_n1 : SCode := .seq c20_n2 c20_n3
instance : IsSeq c20_n1 c20_n2 c20_n3 := ⟨rfl⟩
def c20 : SCode := (.seq (.region [.op 2 (.box (.t 0)), .op 4 (.mkNil none), .op 5 (.move (.k (.c (.int .i64 0))))] [4, 2]) c20_n1)
def F20 : SFunc := .code .pure 30 2 [some 4, some 5] [.tmp 0, .tmp 1] c20

-- crux/start.Groups
-- c21_l0: env [1, 11, 35, 36, 37]
@[simp] def c21_n4 : SCode := (.region [.op 39 (.move (.t 4)), .op 40 (.idxSlice 1 (.t 3) (.t 5)), .op 41 (.load none (.t 0)), .op 12 (.move (.t 2)), .op 13 (.move (.t 1))] [5, 6, 1, 0, 7, 8, 9])
@[simp] def c21_n6 : SCode := (.region [.op 42 (.move (.t 2)), .op 43 (.move (.t 1)), .op 44 (.bin .rem (.t 1) (.t 0)), .op 14 (.move (.t 0))] [4, 5, 6, 7, 0, 8, 9, 10])
@[simp] def c21_n8 : SCode := (.seq (.region [.op 45 (.move (.t 2)), .op 46 (.move (.t 1)), .op 47 (.bin .quo (.t 1) (.t 0)), .op 48 (.bin .rem (.t 0) (.k (.c (.int .i64 2)))), .op 49 (.bin .eql (.t 0) (.k (.c (.int .i64 1))))] [5, 6, 8, 9, 10, 11, 12, 0]) (.cond (.t 7) (.region [.op 50 (.move (.t 0)), .op 51 (.bin .sub (.t 0) (.k (.c (.int .i64 1)))), .op 52 (.move (.t 5)), .op 53 (.bin .sub (.t 1) (.t 0)), .op 14 (.move (.t 0))] [5, 6, 7, 0, 9, 10, 11]) (.pre [0, 1, 2, 3, 4, 5, 6] .skip)))
@[simp] def c21_n9 : SCode := (.region [.op 54 (.move (.t 1)), .op 55 (.move (.t 4)), .op 56 (.move (.t 3)), .op 57 (.move (.t 6)), .op 58 (.idxSlice 1 (.t 1) (.t 0)), .op 59 (.load none (.t 0)), .op 60 (.move (.t 8)), .op 61 (.buildSlice 2 none 1 [(.c (.int .i64 0))] [(0, (.t 0))]), .op 62 (.append none 8 (.t 2) (.t 0)), .op 63 (.idxSlice 1 (.t 8) (.t 7)), .eff (.store 1 (.t 0) (.t 1))] [10, 11, 14, 15, 16])
def c21_n7 : SCode := .seq c21_n8 c21_n9
instance : IsSeq c21_n7 c21_n8 c21_n9 := ⟨rfl⟩
def c21_n5 : SCode := .seq c21_n6 c21_n7
instance : IsSeq c21_n5 c21_n6 c21_n7 := ⟨rfl⟩
def c21_n3 : SCode := .seq c21_n4 c21_n5
instance : IsSeq c21_n3 c21_n4 c21_n5 := ⟨rfl⟩
def c21_n2 : SCode := .seq (.block 1 [some 1, some 11, some 35, some 36, some 37] c21_n3) (.region [.op 64 (.bin .add (.t 4) (.k (.c (.int .i64 1)))), .op 37 (.move (.t 0))] [2, 3, 4, 5, 0])
instance : IsSeq c21_n2 (.block 1 [some 1, some 11, some 35, some 36, some 37] c21_n3) (.region [.op 64 (.bin .add (.t 4) (.k (.c (.int .i64 1)))), .op 37 (.move (.t 0))] [2, 3, 4, 5, 0]) := ⟨rfl⟩
def c21_n1 : SCode := .seq (.cond (.t 5) (.pre [0, 1, 2, 3, 4] .skip) (.pre [1] (.exit 0))) c21_n2
instance : IsSeq c21_n1 (.cond (.t 5) (.pre [0, 1, 2, 3, 4] .skip) (.pre [1] (.exit 0))) c21_n2 := ⟨rfl⟩
def c21_l0b : SCode := (.seq (.region [.op 38 (.bin .lss (.t 4) (.t 3))] [1, 2, 3, 4, 5, 0]) c21_n1)
def c21_l0 : SCode := .loop true c21_l0b
@[simp] def c21_n11 : SCode := (.seq (.region [.op 15 (.move (.t 0)), .op 16 (.call false (.k (.c (.func 19 [] []))) [(.t 0)]), .op 17 (.move (.t 3)), .op 18 (.call false (.k (.c (.func 91 [] []))) [(.t 0), (.k (.c (.int .i64 1))), (.k (.c (.int .i64 16)))]), .op 19 (.buildSlice 2 none 2 [(.c (.int .i64 0))] [(0, (.t 2)), (1, (.t 0))]), .op 20 (.call false (.k (.c (.func 88 [] []))) [(.t 0)]), .op 8 (.move (.t 0))] [7, 8, 9, 0]) (.seq (.region [.op 21 (.move (.t 3)), .op 22 (.bin .neq (.t 0) (.k (.c (.int .i64 0))))] [2, 3, 4, 5, 0]) (.cond (.t 4) (.seq (.region [.op 23 (.move (.t 3)), .op 6 (.mkNil none), .op 7 (.move (.t 1))] [1, 0]) .ret) (.pre [0, 1, 2] .skip))))
@[simp] def c21_n13 : SCode := (.region [.op 25 (.move (.t 0)), .op 26 (.move (.t 3)), .op 27 (.call false (.k (.c (.func 20 [] []))) [(.t 1), (.t 0)]), .op 24 (.move (.t 0)), .op 28 (.extract (.t 0) 0), .op 29 (.extract (.t 1) 1), .op 9 (.move (.t 1)), .op 10 (.move (.t 1))] [9, 1, 0])
@[simp] def c21_n15 : SCode := (.seq (.region [.op 30 (.move (.t 2)), .op 31 (.bin .neq (.t 0) (.k (.c (.int .i64 0))))] [2, 3, 4, 0]) (.cond (.t 3) (.seq (.region [.op 32 (.move (.t 2)), .op 6 (.mkNil none), .op 7 (.move (.t 1))] [1, 0]) .ret) (.pre [0, 1] .skip)))
@[simp] def c21_n17 : SCode := (.region [.op 33 (.move (.t 0)), .op 34 (.makeSlice none 24 [.nil] (.t 0) (.t 0)), .op 11 (.move (.t 0))] [3, 4, 0])
def c21_n16 : SCode := .seq c21_n17 (.seq (.seq (.region [.op 35 (.move (.t 1)), .op 36 (.len 1 (.t 0)), .op 37 (.move (.k (.c (.int .i64 0))))] [3, 5, 2, 1, 0]) (.block 0 [some 11] c21_l0)) (.seq (.region [.op 65 (.move (.t 0)), .op 6 (.move (.t 0)), .op 7 (.move (.k (.c (.int .i64 0))))] [1, 0]) .ret))
instance : IsSeq c21_n16 c21_n17 (.seq (.seq (.region [.op 35 (.move (.t 1)), .op 36 (.len 1 (.t 0)), .op 37 (.move (.k (.c (.int .i64 0))))] [3, 5, 2, 1, 0]) (.block 0 [some 11] c21_l0)) (.seq (.region [.op 65 (.move (.t 0)), .op 6 (.move (.t 0)), .op 7 (.move (.k (.c (.int .i64 0))))] [1, 0]) .ret)) := ⟨rfl⟩
def c21_n14 : SCode := .seq c21_n15 c21_n16
instance : IsSeq c21_n14 c21_n15 c21_n16 := ⟨rfl⟩
def c21_n12 : SCode := .seq c21_n13 c21_n14
instance : IsSeq c21_n12 c21_n13 c21_n14 := ⟨rfl⟩
def c21_n10 : SCode := .seq c21_n11 c21_n12
instance : IsSeq c21_n10 c21_n11 c21_n12 := ⟨rfl⟩
def c21 : SCode := (.seq (.region [.op 6 (.mkNil none), .op 7 (.move (.k (.c (.int .i64 0))))] [2, 3, 4]) c21_n10)
def F21 : SFunc := .code .pure 66 3 [some 6, some 7] [.tmp 0, .tmp 1] c21

-- crux/cruxlaw06.first
-- c22_l0: env [0, 3]
@[simp] def c22_n3 : SCode := (.region [.op 10 (.move (.t 0)), .op 11 (.move (.t 2)), .op 12 (.idxSlice 1 (.t 1) (.t 0)), .op 13 (.load none (.t 0)), .op 14 (.bin .neq (.t 0) (.k (.c (.int .i64 0))))] [5, 6, 0])
def c22_n2 : SCode := .seq c22_n3 (.cond (.t 2) (.seq (.region [.op 15 (.move (.t 0)), .op 16 (.move (.t 2)), .op 17 (.idxSlice 1 (.t 1) (.t 0)), .op 18 (.load none (.t 0)), .op 2 (.move (.t 0))] [0]) .ret) (.pre [0, 1] .skip))
instance : IsSeq c22_n2 c22_n3 (.cond (.t 2) (.seq (.region [.op 15 (.move (.t 0)), .op 16 (.move (.t 2)), .op 17 (.idxSlice 1 (.t 1) (.t 0)), .op 18 (.load none (.t 0)), .op 2 (.move (.t 0))] [0]) .ret) (.pre [0, 1] .skip)) := ⟨rfl⟩
def c22_n1 : SCode := .seq (.block 1 [some 0, some 3] c22_n2) (.region [.op 8 (.move (.t 1)), .op 9 (.bin .add (.t 0) (.k (.c (.int .i64 1)))), .op 3 (.move (.t 0))] [3, 0])
instance : IsSeq c22_n1 (.block 1 [some 0, some 3] c22_n2) (.region [.op 8 (.move (.t 1)), .op 9 (.bin .add (.t 0) (.k (.c (.int .i64 1)))), .op 3 (.move (.t 0))] [3, 0]) := ⟨rfl⟩
def c22_l0b : SCode := (.seq (.seq (.region [.op 4 (.move (.t 1)), .op 5 (.move (.t 1)), .op 6 (.len 1 (.t 0)), .op 7 (.bin .lss (.t 2) (.t 0))] [4, 5, 0]) (.cond (.t 2) (.pre [0, 1] .skip) (.pre [] (.exit 0)))) c22_n1)
def c22_l0 : SCode := .loop true c22_l0b
def c22 : SCode := (.seq (.region [.op 2 (.move (.k (.c (.int .i64 0))))] [1]) (.seq (.seq (.region [.op 3 (.move (.k (.c (.int .i64 0))))] [1, 0]) (.block 0 [] c22_l0)) (.seq (.region [.op 2 (.move (.k (.c (.int .i64 0))))] [0]) .ret)))
def F22 : SFunc := .code .pure 19 1 [some 2] [.tmp 0] c22

-- crux/cruxref06.Outside
@[simp] def c23_n2 : SCode := (.seq (.region [.op 7 (.move (.t 0)), .op 8 (.move (.t 2)), .op 9 (.bin .lss (.t 1) (.t 0)), .op 10 (.move (.t 0)), .orN 14 0 [.op 11 (.move (.t 4)), .op 12 (.move (.t 7)), .op 13 (.bin .gtr (.t 1) (.t 0))] (.t 0)] [0]) (.cond (.t 0) (.seq (.region [.op 6 (.move (.k (.c (.int .i64 3))))] [0]) .ret) (.pre [] .skip)))
def c23_n1 : SCode := .seq c23_n2 (.seq (.region [.op 6 (.move (.k (.c (.int .i64 0))))] [0]) .ret)
instance : IsSeq c23_n1 c23_n2 (.seq (.region [.op 6 (.move (.k (.c (.int .i64 0))))] [0]) .ret) := ⟨rfl⟩
def c23 : SCode := (.seq (.region [.op 6 (.move (.k (.c (.int .i64 0))))] [1, 2, 3]) c23_n1)
def F23 : SFunc := .code .pure 15 3 [some 6] [.tmp 0] c23

-- crux/cruxref01.CheckDraw
@[simp] def c24_n2 : SCode := (.seq (.region [.op 5 (.move (.t 0)), .op 6 (.bin .lss (.t 0) (.k (.c (.int .i64 1)))), .op 7 (.move (.t 0)), .orN 10 0 [.op 8 (.move (.t 3)), .op 9 (.bin .gtr (.t 0) (.k (.c (.int .i64 2147483646))))] (.t 0), .op 11 (.move (.t 0)), .orN 14 0 [.op 12 (.move (.t 6)), .op 13 (.bin .lss (.t 0) (.k (.c (.int .i64 0))))] (.t 0), .op 15 (.move (.t 0)), .orN 18 0 [.op 16 (.move (.t 8)), .op 17 (.bin .gtr (.t 0) (.k (.c (.int .i64 256))))] (.t 0)] [0]) (.cond (.t 0) (.seq (.region [.op 4 (.move (.k (.c (.int .i64 3))))] [0]) .ret) (.pre [] .skip)))
def c24_n1 : SCode := .seq c24_n2 (.seq (.region [.op 4 (.move (.k (.c (.int .i64 0))))] [0]) .ret)
instance : IsSeq c24_n1 c24_n2 (.seq (.region [.op 4 (.move (.k (.c (.int .i64 0))))] [0]) .ret) := ⟨rfl⟩
def c24 : SCode := (.seq (.region [.op 4 (.move (.k (.c (.int .i64 0))))] [1, 2]) c24_n1)
def F24 : SFunc := .code .pure 19 2 [some 4] [.tmp 0] c24

-- crux/cruxlaw06.list
@[simp] def c25_n2 : SCode := (.seq (.region [.op 9 (.move (.t 2)), .op 10 (.bin .neq (.t 0) (.k (.c (.int .i64 0))))] [2, 3, 4, 5, 0]) (.cond (.t 4) (.seq (.region [.op 11 (.move (.t 0)), .op 12 (.len 1 (.t 0)), .op 13 (.bin .eql (.t 0) (.k (.c (.int .i64 0)))), .op 14 (.move (.t 0)), .andN 18 0 [.op 15 (.move (.t 5)), .op 16 (.move (.t 7)), .op 17 (.bin .eql (.t 1) (.t 0))] (.t 0), .op 8 (.move (.t 0))] [0]) .ret) (.pre [0, 1, 3] .skip)))
def c25_n1 : SCode := .seq c25_n2 (.seq (.region [.op 19 (.move (.t 1)), .op 20 (.bin .eql (.t 0) (.k (.c (.int .i64 0)))), .op 21 (.move (.t 0)), .andN 25 0 [.op 22 (.move (.t 3)), .op 23 (.move (.t 6)), .op 24 (.call false (.k (.c (.func 28 [] []))) [(.t 1), (.t 0)])] (.t 0), .op 8 (.move (.t 0))] [0]) .ret)
instance : IsSeq c25_n1 c25_n2 (.seq (.region [.op 19 (.move (.t 1)), .op 20 (.bin .eql (.t 0) (.k (.c (.int .i64 0)))), .op 21 (.move (.t 0)), .andN 25 0 [.op 22 (.move (.t 3)), .op 23 (.move (.t 6)), .op 24 (.call false (.k (.c (.func 28 [] []))) [(.t 1), (.t 0)])] (.t 0), .op 8 (.move (.t 0))] [0]) .ret) := ⟨rfl⟩
def c25 : SCode := (.seq (.region [.op 8 (.move (.k (.c (.bool false))))] [1, 2, 3, 4]) c25_n1)
def F25 : SFunc := .code .pure 26 4 [some 8] [.tmp 0] c25

-- crux/cruxref06.Seeded
-- c26_l0: env [0, 5, 6, 7, 8]
-- c26_l1: env [0, 5, 6, 7]
def c26_l0b : SCode := (.seq (.seq (.draw 0 [.op 21 (.move (.t 4)), .op 22 (.bin .gtr (.t 0) (.k (.c (.int .i64 0)))), .op 23 (.move (.t 0)), .andN 42 0 [.op 24 (.move (.t 3)), .op 25 (.move (.t 5)), .op 26 (.move (.t 8)), .op 27 (.idxSlice 1 (.t 1) (.t 0)), .op 28 (.load none (.t 0)) none .old, .op 29 (.idxSlice 3 (.t 4) (.t 0)), .op 30 (.fieldAddr 2 (.t 0)), .op 31 (.load none (.t 0)) none .old, .op 32 (.move (.t 11)), .op 33 (.move (.t 14)), .op 34 (.move (.t 17)), .op 35 (.bin .sub (.t 0) (.k (.c (.int .i64 1)))), .op 36 (.idxSlice 1 (.t 2) (.t 0)), .op 37 (.load none (.t 0)) none .old, .op 38 (.idxSlice 3 (.t 5) (.t 0)), .op 39 (.fieldAddr 2 (.t 0)), .op 40 (.load none (.t 0)) none .old, .op 41 (.call false (.k (.c (.func 98 [] []))) [(.t 9), (.t 0)])] (.t 0)] [4, 5, 6, 7, 8, 0]) (.cond (.t 5) (.pre [0, 1, 2, 3, 4] .skip) (.pre [0, 1, 2, 3, 4] (.exit 2)))) (.block 3 [some 0, some 5, some 6, some 7, some 8] (.region [.op 43 (.move (.t 4)), .op 44 (.bin .sub (.t 0) (.k (.c (.int .i64 1)))), .op 8 (.move (.t 0))] [3, 4, 5, 6, 0])))
def c26_l0 : SCode := .loop true c26_l0b
@[simp] def c26_n3 : SCode := (.region [.op 19 (.move (.t 2)), .op 20 (.len 1 (.t 0)), .op 8 (.move (.t 0))] [3, 4, 5, 6, 0])
def c26_n2 : SCode := .seq c26_n3 (.seq (.block 2 [some 0, some 5, some 6, some 7, some 8] c26_l0) (.region [.op 45 (.move (.t 2)), .op 46 (.move (.t 5)), .op 47 (.move (.t 3)), .op 48 (.move (.t 6)), .op 49 (.idxSlice 1 (.t 1) (.t 0)), .op 50 (.load none (.t 0)), .op 51 (.call false (.k (.c (.func 99 [] []))) [(.t 5), (.t 4), (.t 0)]), .op 6 (.move (.t 0))] [8, 9, 0, 11]))
instance : IsSeq c26_n2 c26_n3 (.seq (.block 2 [some 0, some 5, some 6, some 7, some 8] c26_l0) (.region [.op 45 (.move (.t 2)), .op 46 (.move (.t 5)), .op 47 (.move (.t 3)), .op 48 (.move (.t 6)), .op 49 (.idxSlice 1 (.t 1) (.t 0)), .op 50 (.load none (.t 0)), .op 51 (.call false (.k (.c (.func 99 [] []))) [(.t 5), (.t 4), (.t 0)]), .op 6 (.move (.t 0))] [8, 9, 0, 11])) := ⟨rfl⟩
def c26_n1 : SCode := .seq (.block 1 [some 0, some 5, some 6, some 7] c26_n2) (.region [.op 17 (.move (.t 3)), .op 18 (.bin .add (.t 0) (.k (.c (.int .i64 1)))), .op 7 (.move (.t 0))] [3, 4, 5, 0])
instance : IsSeq c26_n1 (.block 1 [some 0, some 5, some 6, some 7] c26_n2) (.region [.op 17 (.move (.t 3)), .op 18 (.bin .add (.t 0) (.k (.c (.int .i64 1)))), .op 7 (.move (.t 0))] [3, 4, 5, 0]) := ⟨rfl⟩
def c26_l1b : SCode := (.seq (.seq (.region [.op 13 (.move (.t 3)), .op 14 (.move (.t 2)), .op 15 (.len 1 (.t 0)), .op 16 (.bin .lss (.t 2) (.t 0))] [4, 5, 6, 7, 0]) (.cond (.t 4) (.pre [0, 1, 2, 3] .skip) (.pre [2] (.exit 0)))) c26_n1)
def c26_l1 : SCode := .loop true c26_l1b
@[simp] def c26_n5 : SCode := (.region [.op 9 (.move (.t 1)), .op 10 (.move (.t 1)), .op 11 (.len 1 (.t 0)), .op 12 (.call false (.k (.c (.func 97 [] []))) [(.t 2), (.t 0)]), .op 5 (.move (.t 0))] [5, 0])
def c26_n4 : SCode := .seq c26_n5 (.seq (.region [.op 6 (.mkNil none)] [1, 2, 0]) (.seq (.seq (.region [.op 7 (.move (.k (.c (.int .i64 0))))] [1, 2, 3, 0]) (.block 0 [some 6] c26_l1)) (.seq (.region [.op 52 (.move (.t 0)), .op 4 (.move (.t 0))] [0]) .ret)))
instance : IsSeq c26_n4 c26_n5 (.seq (.region [.op 6 (.mkNil none)] [1, 2, 0]) (.seq (.seq (.region [.op 7 (.move (.k (.c (.int .i64 0))))] [1, 2, 3, 0]) (.block 0 [some 6] c26_l1)) (.seq (.region [.op 52 (.move (.t 0)), .op 4 (.move (.t 0))] [0]) .ret))) := ⟨rfl⟩
def c26 : SCode := (.seq (.region [.op 4 (.mkNil none)] [1, 2]) c26_n4)
def F26 : SFunc := .code .pure 53 2 [some 4] [.tmp 0] c26

-- crux/cruxref06.Groups
-- c27_l0: env [1, 7, 8, 9]
@[simp] def c27_n3 : SCode := (.region [.op 22 (.move (.t 3)), .op 23 (.move (.t 1)), .op 24 (.bin .rem (.t 1) (.t 0)), .op 10 (.move (.t 0))] [4, 5, 6, 7, 0])
@[simp] def c27_n5 : SCode := (.seq (.region [.op 25 (.move (.t 3)), .op 26 (.move (.t 1)), .op 27 (.bin .quo (.t 1) (.t 0)), .op 28 (.bin .rem (.t 0) (.k (.c (.int .i64 2)))), .op 29 (.bin .eql (.t 0) (.k (.c (.int .i64 1))))] [5, 6, 7, 8, 9, 0]) (.cond (.t 5) (.region [.op 30 (.move (.t 0)), .op 31 (.bin .sub (.t 0) (.k (.c (.int .i64 1)))), .op 32 (.move (.t 6)), .op 33 (.bin .sub (.t 1) (.t 0)), .op 10 (.move (.t 0))] [5, 6, 7, 8, 0]) (.pre [0, 1, 2, 3, 4] .skip)))
@[simp] def c27_n6 : SCode := (.draw 2 [.op 34 (.move (.t 2)), .op 35 (.move (.t 5)), .op 36 (.move (.t 4)), .op 37 (.move (.t 7)), .op 38 (.idxSlice 1 (.t 1) (.t 0)), .op 39 (.load none (.t 0)) none .old, .op 40 (.move (.t 7)), .op 41 (.move (.t 10)), .op 42 (.idxSlice 1 (.t 1) (.t 0)), .op 43 (.load none (.t 0)) none .old, .op 44 (.buildSlice 2 none 1 [(.c (.int .i64 0))] [(0, (.t 0))]) (some 0), .op 45 (.append none 8 (.t 5) (.t 0)) (some 1) .row, .op 46 (.idxSlice 1 (.t 11) (.t 10)), .eff (.store 1 (.t 0) (.t 1)) none .old] [13, 14, 15, 16])
def c27_n4 : SCode := .seq c27_n5 c27_n6
instance : IsSeq c27_n4 c27_n5 c27_n6 := ⟨rfl⟩
def c27_n2 : SCode := .seq c27_n3 c27_n4
instance : IsSeq c27_n2 c27_n3 c27_n4 := ⟨rfl⟩
def c27_n1 : SCode := .seq (.block 1 [some 1, some 7, some 8, some 9] c27_n2) (.region [.op 20 (.move (.t 3)), .op 21 (.bin .add (.t 0) (.k (.c (.int .i64 1)))), .op 9 (.move (.t 0))] [3, 4, 5, 0])
instance : IsSeq c27_n1 (.block 1 [some 1, some 7, some 8, some 9] c27_n2) (.region [.op 20 (.move (.t 3)), .op 21 (.bin .add (.t 0) (.k (.c (.int .i64 1)))), .op 9 (.move (.t 0))] [3, 4, 5, 0]) := ⟨rfl⟩
def c27_l0b : SCode := (.seq (.seq (.region [.op 16 (.move (.t 3)), .op 17 (.move (.t 2)), .op 18 (.len 1 (.t 0)), .op 19 (.bin .lss (.t 2) (.t 0))] [4, 5, 6, 7, 0]) (.cond (.t 4) (.pre [0, 1, 2, 3] .skip) (.pre [2] (.exit 0)))) c27_n1)
def c27_l0 : SCode := .loop true c27_l0b
@[simp] def c27_n8 : SCode := (.region [.op 11 (.move (.t 0)), .op 12 (.move (.t 3)), .op 13 (.call false (.k (.c (.func 26 [] []))) [(.t 1), (.t 0)]), .op 7 (.move (.t 0))] [5, 0])
def c27_n7 : SCode := .seq c27_n8 (.seq (.region [.op 14 (.move (.t 0)), .op 15 (.makeSlice none 24 [.nil] (.t 0) (.t 0)), .op 8 (.move (.t 0))] [3, 4, 0]) (.seq (.seq (.region [.op 9 (.move (.k (.c (.int .i64 0))))] [1, 2, 3, 0]) (.block 0 [some 8] c27_l0)) (.seq (.region [.op 47 (.move (.t 0)), .op 6 (.move (.t 0))] [0]) .ret)))
instance : IsSeq c27_n7 c27_n8 (.seq (.region [.op 14 (.move (.t 0)), .op 15 (.makeSlice none 24 [.nil] (.t 0) (.t 0)), .op 8 (.move (.t 0))] [3, 4, 0]) (.seq (.seq (.region [.op 9 (.move (.k (.c (.int .i64 0))))] [1, 2, 3, 0]) (.block 0 [some 8] c27_l0)) (.seq (.region [.op 47 (.move (.t 0)), .op 6 (.move (.t 0))] [0]) .ret))) := ⟨rfl⟩
def c27 : SCode := (.seq (.region [.op 6 (.mkNil none)] [1, 2, 3]) c27_n7)
def F27 : SFunc := .code .pure 48 3 [some 6] [.tmp 0] c27

-- crux/cruxref01.SameInts
-- c28_l0: env [0, 1, 5]
@[simp] def c28_n3 : SCode := (.draw 0 [.op 17 (.move (.t 0)), .op 18 (.move (.t 3)), .op 19 (.idxSlice 1 (.t 1) (.t 0)), .op 20 (.load none (.t 0)) none .old, .op 21 (.move (.t 5)), .op 22 (.move (.t 7)), .op 23 (.idxSlice 1 (.t 1) (.t 0)), .op 24 (.load none (.t 0)) none .old, .op 25 (.bin .neq (.t 4) (.t 0))] [9, 10, 11, 0])
def c28_n2 : SCode := .seq c28_n3 (.cond (.t 3) (.seq (.region [.op 4 (.move (.k (.c (.bool false))))] [0]) .ret) (.pre [0, 1, 2] .skip))
instance : IsSeq c28_n2 c28_n3 (.cond (.t 3) (.seq (.region [.op 4 (.move (.k (.c (.bool false))))] [0]) .ret) (.pre [0, 1, 2] .skip)) := ⟨rfl⟩
def c28_n1 : SCode := .seq (.block 1 [some 0, some 1, some 5] c28_n2) (.region [.op 15 (.move (.t 2)), .op 16 (.bin .add (.t 0) (.k (.c (.int .i64 1)))), .op 5 (.move (.t 0))] [3, 4, 0])
instance : IsSeq c28_n1 (.block 1 [some 0, some 1, some 5] c28_n2) (.region [.op 15 (.move (.t 2)), .op 16 (.bin .add (.t 0) (.k (.c (.int .i64 1)))), .op 5 (.move (.t 0))] [3, 4, 0]) := ⟨rfl⟩
def c28_l0b : SCode := (.seq (.seq (.region [.op 11 (.move (.t 2)), .op 12 (.move (.t 1)), .op 13 (.len 1 (.t 0)), .op 14 (.bin .lss (.t 2) (.t 0))] [4, 5, 6, 0]) (.cond (.t 3) (.pre [0, 1, 2] .skip) (.pre [] (.exit 0)))) c28_n1)
def c28_l0 : SCode := .loop true c28_l0b
@[simp] def c28_n5 : SCode := (.seq (.region [.op 6 (.move (.t 0)), .op 7 (.len 1 (.t 0)), .op 8 (.move (.t 3)), .op 9 (.len 1 (.t 0)), .op 10 (.bin .neq (.t 2) (.t 0))] [5, 6, 0]) (.cond (.t 2) (.seq (.region [.op 4 (.move (.k (.c (.bool false))))] [0]) .ret) (.pre [0, 1] .skip)))
def c28_n4 : SCode := .seq c28_n5 (.seq (.seq (.region [.op 5 (.move (.k (.c (.int .i64 0))))] [1, 2, 0]) (.block 0 [] c28_l0)) (.seq (.region [.op 4 (.move (.k (.c (.bool true))))] [0]) .ret))
instance : IsSeq c28_n4 c28_n5 (.seq (.seq (.region [.op 5 (.move (.k (.c (.int .i64 0))))] [1, 2, 0]) (.block 0 [] c28_l0)) (.seq (.region [.op 4 (.move (.k (.c (.bool true))))] [0]) .ret)) := ⟨rfl⟩
def c28 : SCode := (.seq (.region [.op 4 (.move (.k (.c (.bool false))))] [1, 2]) c28_n4)
def F28 : SFunc := .code .pure 26 2 [some 4] [.tmp 0] c28

-- crux/start.Routes
-- c29_l0: env [0, 11, 12, 13]
@[simp] def c29_n4 : SCode := (.region [.op 15 (.move (.t 3)), .op 16 (.idxSlice 1 (.t 2) (.t 4)), .op 17 (.load none (.t 0)), .op 5 (.move (.t 2)), .op 6 (.move (.t 1))] [5, 1, 0, 6, 7, 8])
@[simp] def c29_n6 : SCode := (.draw 1 [.op 18 (.move (.t 2)), .op 19 (.call false (.k (.c (.func 91 [] []))) [(.t 0), (.k (.c (.int .i64 0))), (.k (.c (.int .i64 999999999)))]), .op 20 (.move (.t 2)), .op 21 (.move (.t 4)), .op 22 (.sliceSl 1 (.t 1) none (some (.t 0)) none), .op 23 (.move (.t 7)), .op 24 (.call false (.k (.c (.func 100 [] []))) [(.t 1), (.t 0)]), .op 25 (.call false (.k (.c (.func 89 [] []))) [(.t 0), (.k (.c (.int .i64 9)))]), .op 26 (.buildSlice 2 none 2 [(.c (.int .i64 0))] [(0, (.t 6)), (1, (.t 0))]) (some 0), .op 27 (.call false (.k (.c (.func 88 [] []))) [(.t 0)]), .op 7 (.move (.t 0))] [11, 0, 14, 15, 16])
def c29_n5 : SCode := .seq c29_n6 (.seq (.region [.op 28 (.move (.t 1)), .op 29 (.bin .neq (.t 0) (.k (.c (.int .i64 0))))] [2, 3, 4, 5, 6, 0]) (.cond (.t 5) (.seq (.region [.op 30 (.move (.t 1)), .op 2 (.mkNil none), .op 3 (.mkNil none), .op 4 (.move (.t 2))] [2, 1, 0]) .ret) (.pre [0, 2, 3, 4] .skip)))
instance : IsSeq c29_n5 c29_n6 (.seq (.region [.op 28 (.move (.t 1)), .op 29 (.bin .neq (.t 0) (.k (.c (.int .i64 0))))] [2, 3, 4, 5, 6, 0]) (.cond (.t 5) (.seq (.region [.op 30 (.move (.t 1)), .op 2 (.mkNil none), .op 3 (.mkNil none), .op 4 (.move (.t 2))] [2, 1, 0]) .ret) (.pre [0, 2, 3, 4] .skip))) := ⟨rfl⟩
def c29_n3 : SCode := .seq c29_n4 c29_n5
instance : IsSeq c29_n3 c29_n4 c29_n5 := ⟨rfl⟩
def c29_n2 : SCode := .seq (.block 1 [some 0, some 11, some 12, some 13] c29_n3) (.region [.op 31 (.bin .add (.t 3) (.k (.c (.int .i64 1)))), .op 13 (.move (.t 0))] [2, 3, 4, 0])
instance : IsSeq c29_n2 (.block 1 [some 0, some 11, some 12, some 13] c29_n3) (.region [.op 31 (.bin .add (.t 3) (.k (.c (.int .i64 1)))), .op 13 (.move (.t 0))] [2, 3, 4, 0]) := ⟨rfl⟩
def c29_n1 : SCode := .seq (.cond (.t 4) (.pre [0, 1, 2, 3] .skip) (.pre [0] (.exit 0))) c29_n2
instance : IsSeq c29_n1 (.cond (.t 4) (.pre [0, 1, 2, 3] .skip) (.pre [0] (.exit 0))) c29_n2 := ⟨rfl⟩
def c29_l0b : SCode := (.seq (.region [.op 14 (.bin .lss (.t 3) (.t 2))] [1, 2, 3, 4, 0]) c29_n1)
def c29_l0 : SCode := .loop true c29_l0b
@[simp] def c29_n8 : SCode := (.seq (.region [.op 8 (.move (.t 0)), .op 9 (.len 1 (.t 0)), .op 10 (.bin .gtr (.t 0) (.k (.c (.int .i64 160))))] [3, 0]) (.cond (.t 1) (.seq (.region [.op 2 (.mkNil none), .op 3 (.mkNil none), .op 4 (.move (.k (.c (.int .i64 5))))] [2, 1, 0]) .ret) (.pre [0] .skip)))
@[simp] def c29_n10 : SCode := (.seq (.region [.op 11 (.move (.t 0)), .op 12 (.len 1 (.t 0)), .op 13 (.move (.k (.c (.int .i64 0))))] [3, 2, 1, 0]) (.block 0 [some 0] c29_l0))
@[simp] def c29_n12 : SCode := (.region [.op 32 (.move (.t 0)), .op 33 (.call false (.k (.c (.func 101 [] []))) [(.t 0), (.k (.c (.int .i64 0)))]), .op 34 (.move (.t 2)), .op 35 (.move (.t 3)), .op 36 (.len 1 (.t 0)), .op 37 (.bin .add (.t 0) (.k (.c (.int .i64 1)))), .op 38 (.bin .quo (.t 0) (.k (.c (.int .i64 2)))), .op 39 (.call false (.k (.c (.func 101 [] []))) [(.t 4), (.t 0)]), .op 2 (.move (.t 6)), .op 3 (.move (.t 1)), .op 4 (.move (.k (.c (.int .i64 0))))] [2, 1, 0])
def c29_n11 : SCode := .seq c29_n12 .ret
instance : IsSeq c29_n11 c29_n12 .ret := ⟨rfl⟩
def c29_n9 : SCode := .seq c29_n10 c29_n11
instance : IsSeq c29_n9 c29_n10 c29_n11 := ⟨rfl⟩
def c29_n7 : SCode := .seq c29_n8 c29_n9
instance : IsSeq c29_n7 c29_n8 c29_n9 := ⟨rfl⟩
def c29 : SCode := (.seq (.region [.op 2 (.mkNil none), .op 3 (.mkNil none), .op 4 (.move (.k (.c (.int .i64 0))))] [3]) c29_n7)
def F29 : SFunc := .code .pure 40 1 [some 2, some 3, some 4] [.tmp 0, .tmp 1, .tmp 2] c29

-- crux/start.Neighbours
-- c32_l0: env [0, 1, 17, 18, 19]
-- c32_l1: env [0, 1, 10, 11]
@[simp] def c32_n4 : SCode := (.region [.op 21 (.move (.t 4)), .op 22 (.idxSlice 1 (.t 3) (.t 5)), .op 23 (.load none (.t 0)), .op 7 (.move (.t 2)), .op 8 (.move (.t 1))] [5, 6, 1, 0, 7, 8, 9])
@[simp] def c32_n6 : SCode := (.draw 1 [.op 24 (.move (.t 3)), .op 25 (.bin .lss (.t 0) (.k (.c (.int .i64 0)))), .op 26 (.move (.t 0)), .orN 31 0 [.op 27 (.move (.t 6)), .op 28 (.move (.t 4)), .op 29 (.len 1 (.t 0)) none .old, .op 30 (.bin .geq (.t 2) (.t 0))] (.t 0), .op 32 (.call false (.k (.c (.func 89 [] []))) [(.t 0), (.k (.c (.int .i64 10)))]), .op 33 (.move (.t 6)), .op 34 (.move (.t 8)), .op 35 (.sliceSl 1 (.t 1) none (some (.t 0)) none), .op 36 (.move (.t 11)), .op 37 (.call false (.k (.c (.func 100 [] []))) [(.t 1), (.t 0)]), .op 38 (.call false (.k (.c (.func 89 [] []))) [(.t 0), (.k (.c (.int .i64 9)))]), .op 39 (.buildSlice 2 none 2 [(.c (.int .i64 0))] [(0, (.t 6)), (1, (.t 0))]) (some 0), .op 40 (.call false (.k (.c (.func 88 [] []))) [(.t 0)]), .op 9 (.move (.t 0))] [14, 15, 0, 18, 19, 20])
def c32_n5 : SCode := .seq c32_n6 (.seq (.region [.op 41 (.move (.t 2)), .op 42 (.bin .neq (.t 0) (.k (.c (.int .i64 0))))] [2, 3, 4, 5, 6, 7, 0]) (.cond (.t 6) (.seq (.region [.op 43 (.move (.t 2)), .op 4 (.move (.k (.c (.int .i64 0)))), .op 5 (.move (.t 1))] [1, 0]) .ret) (.pre [0, 1, 3, 4, 5] .skip)))
instance : IsSeq c32_n5 c32_n6 (.seq (.region [.op 41 (.move (.t 2)), .op 42 (.bin .neq (.t 0) (.k (.c (.int .i64 0))))] [2, 3, 4, 5, 6, 7, 0]) (.cond (.t 6) (.seq (.region [.op 43 (.move (.t 2)), .op 4 (.move (.k (.c (.int .i64 0)))), .op 5 (.move (.t 1))] [1, 0]) .ret) (.pre [0, 1, 3, 4, 5] .skip))) := ⟨rfl⟩
def c32_n3 : SCode := .seq c32_n4 c32_n5
instance : IsSeq c32_n3 c32_n4 c32_n5 := ⟨rfl⟩
def c32_n2 : SCode := .seq (.block 1 [some 0, some 1, some 17, some 18, some 19] c32_n3) (.region [.op 44 (.bin .add (.t 4) (.k (.c (.int .i64 1)))), .op 19 (.move (.t 0))] [2, 3, 4, 5, 0])
instance : IsSeq c32_n2 (.block 1 [some 0, some 1, some 17, some 18, some 19] c32_n3) (.region [.op 44 (.bin .add (.t 4) (.k (.c (.int .i64 1)))), .op 19 (.move (.t 0))] [2, 3, 4, 5, 0]) := ⟨rfl⟩
def c32_n1 : SCode := .seq (.cond (.t 5) (.pre [0, 1, 2, 3, 4] .skip) (.pre [0, 1] (.exit 0))) c32_n2
instance : IsSeq c32_n1 (.cond (.t 5) (.pre [0, 1, 2, 3, 4] .skip) (.pre [0, 1] (.exit 0))) c32_n2 := ⟨rfl⟩
def c32_l0b : SCode := (.seq (.region [.op 20 (.bin .lss (.t 4) (.t 3))] [1, 2, 3, 4, 5, 0]) c32_n1)
def c32_l0 : SCode := .loop true c32_l0b
@[simp] def c32_n9 : SCode := (.draw 0 [.op 56 (.move (.t 0)), .op 57 (.move (.t 2)), .op 58 (.move (.t 5)), .op 59 (.idxSlice 1 (.t 1) (.t 0)), .op 60 (.load none (.t 0)) none .old, .op 61 (.idxSlice 3 (.t 4) (.t 0)), .op 62 (.fieldAddr 1 (.t 0)), .op 63 (.load none (.t 0)) none .old, .op 64 (.move (.t 8)), .op 65 (.move (.t 10)), .op 66 (.move (.t 13)), .op 67 (.bin .sub (.t 0) (.k (.c (.int .i64 1)))), .op 68 (.idxSlice 1 (.t 2) (.t 0)), .op 69 (.load none (.t 0)) none .old, .op 70 (.idxSlice 3 (.t 5) (.t 0)), .op 71 (.fieldAddr 1 (.t 0)), .op 72 (.load none (.t 0)) none .old, .op 73 (.bin .eql (.t 9) (.t 0))] [18, 19, 20, 21, 0])
def c32_n8 : SCode := .seq c32_n9 (.cond (.t 4) (.region [.op 74 (.move (.t 2)), .op 75 (.bin .add (.t 0) (.k (.c (.int .i64 1)))), .op 10 (.move (.t 0))] [3, 4, 0, 6]) (.pre [0, 1, 2, 3] .skip))
instance : IsSeq c32_n8 c32_n9 (.cond (.t 4) (.region [.op 74 (.move (.t 2)), .op 75 (.bin .add (.t 0) (.k (.c (.int .i64 1)))), .op 10 (.move (.t 0))] [3, 4, 0, 6]) (.pre [0, 1, 2, 3] .skip)) := ⟨rfl⟩
def c32_n7 : SCode := .seq (.block 3 [some 0, some 1, some 10, some 11] c32_n8) (.region [.op 54 (.move (.t 3)), .op 55 (.bin .add (.t 0) (.k (.c (.int .i64 1)))), .op 11 (.move (.t 0))] [3, 4, 5, 0])
instance : IsSeq c32_n7 (.block 3 [some 0, some 1, some 10, some 11] c32_n8) (.region [.op 54 (.move (.t 3)), .op 55 (.bin .add (.t 0) (.k (.c (.int .i64 1)))), .op 11 (.move (.t 0))] [3, 4, 5, 0]) := ⟨rfl⟩
def c32_l1b : SCode := (.seq (.seq (.region [.op 50 (.move (.t 3)), .op 51 (.move (.t 2)), .op 52 (.len 1 (.t 0)), .op 53 (.bin .lss (.t 2) (.t 0))] [4, 5, 6, 7, 0]) (.cond (.t 4) (.pre [0, 1, 2, 3] .skip) (.pre [2] (.exit 2)))) c32_n7)
def c32_l1 : SCode := .loop true c32_l1b
@[simp] def c32_n11 : SCode := (.seq (.region [.op 12 (.move (.t 0)), .op 13 (.call false (.k (.c (.func 19 [] []))) [(.t 0)]), .op 6 (.move (.t 0))] [3, 4, 0]) (.seq (.region [.op 14 (.move (.t 2)), .op 15 (.bin .neq (.t 0) (.k (.c (.int .i64 0))))] [2, 3, 4, 0]) (.cond (.t 3) (.seq (.region [.op 16 (.move (.t 2)), .op 4 (.move (.k (.c (.int .i64 0)))), .op 5 (.move (.t 1))] [1, 0]) .ret) (.pre [0, 1] .skip))))
@[simp] def c32_n13 : SCode := (.seq (.region [.op 17 (.move (.t 1)), .op 18 (.len 1 (.t 0)), .op 19 (.move (.k (.c (.int .i64 0))))] [3, 4, 2, 1, 0]) (.block 0 [some 0, some 1] c32_l0))
@[simp] def c32_n15 : SCode := (.seq (.region [.op 45 (.move (.t 1)), .op 46 (.len 1 (.t 0)), .op 47 (.move (.t 2)), .op 48 (.len 1 (.t 0)), .op 49 (.bin .lss (.t 2) (.t 0))] [5, 6, 0]) (.cond (.t 2) (.seq (.region [.op 4 (.move (.k (.c (.int .i64 0)))), .op 5 (.move (.k (.c (.int .i64 7))))] [1, 0]) .ret) (.pre [0, 1] .skip)))
def c32_n14 : SCode := .seq c32_n15 (.seq (.region [.op 10 (.move (.k (.c (.int .i64 0))))] [1, 2, 0]) (.seq (.seq (.region [.op 11 (.move (.k (.c (.int .i64 1))))] [1, 2, 3, 0]) (.block 2 [some 10] c32_l1)) (.seq (.region [.op 76 (.move (.t 0)), .op 4 (.move (.t 0)), .op 5 (.move (.k (.c (.int .i64 0))))] [1, 0]) .ret)))
instance : IsSeq c32_n14 c32_n15 (.seq (.region [.op 10 (.move (.k (.c (.int .i64 0))))] [1, 2, 0]) (.seq (.seq (.region [.op 11 (.move (.k (.c (.int .i64 1))))] [1, 2, 3, 0]) (.block 2 [some 10] c32_l1)) (.seq (.region [.op 76 (.move (.t 0)), .op 4 (.move (.t 0)), .op 5 (.move (.k (.c (.int .i64 0))))] [1, 0]) .ret))) := ⟨rfl⟩
def c32_n12 : SCode := .seq c32_n13 c32_n14
instance : IsSeq c32_n12 c32_n13 c32_n14 := ⟨rfl⟩
def c32_n10 : SCode := .seq c32_n11 c32_n12
instance : IsSeq c32_n10 c32_n11 c32_n12 := ⟨rfl⟩
def c32 : SCode := (.seq (.region [.op 4 (.move (.k (.c (.int .i64 0)))), .op 5 (.move (.k (.c (.int .i64 0))))] [2, 3]) c32_n10)
def F32 : SFunc := .code .pure 77 2 [some 4, some 5] [.tmp 0, .tmp 1] c32

-- crux/start.Fewest
@[simp] def c33_n2 : SCode := (.seq (.region [.op 7 (.move (.t 0)), .op 8 (.call false (.k (.c (.func 19 [] []))) [(.t 0)]), .op 4 (.move (.t 0))] [3, 0]) (.seq (.region [.op 9 (.move (.t 1)), .op 10 (.bin .neq (.t 0) (.k (.c (.int .i64 0))))] [2, 3, 0]) (.cond (.t 2) (.seq (.region [.op 11 (.move (.t 1)), .op 2 (.move (.k (.c (.int .i64 0)))), .op 3 (.move (.t 1))] [1, 0]) .ret) (.pre [0] .skip))))
@[simp] def c33_n4 : SCode := (.region [.op 13 (.move (.t 0)), .op 14 (.call false (.k (.c (.func 102 [] []))) [(.t 0)]), .op 12 (.move (.t 0)), .op 15 (.extract (.t 0) 0), .op 16 (.extract (.t 1) 1), .op 5 (.move (.t 1)), .op 6 (.move (.t 1))] [7, 1, 0])
@[simp] def c33_n6 : SCode := (.region [.op 17 (.move (.t 2)), .op 18 (.move (.t 2)), .op 19 (.lookup (.one 1) (.c (.int .i64 0)) false (.t 1) (.t 0)), .op 20 (.bin .mul (.k (.c (.int .i64 2))) (.t 0)), .op 21 (.move (.t 4)), .op 22 (.len 1 (.t 0)), .op 23 (.bin .sub (.t 2) (.t 0)), .op 24 (.bin .sub (.t 0) (.k (.c (.int .i64 1)))), .op 25 (.max (.k (.c (.int .i64 0))) [(.t 0)]), .op 2 (.move (.t 0)), .op 3 (.move (.k (.c (.int .i64 0))))] [1, 0])
def c33_n5 : SCode := .seq c33_n6 .ret
instance : IsSeq c33_n5 c33_n6 .ret := ⟨rfl⟩
def c33_n3 : SCode := .seq c33_n4 c33_n5
instance : IsSeq c33_n3 c33_n4 c33_n5 := ⟨rfl⟩
def c33_n1 : SCode := .seq c33_n2 c33_n3
instance : IsSeq c33_n1 c33_n2 c33_n3 := ⟨rfl⟩
def c33 : SCode := (.seq (.region [.op 2 (.move (.k (.c (.int .i64 0)))), .op 3 (.move (.k (.c (.int .i64 0))))] [2]) c33_n1)
def F33 : SFunc := .code .pure 26 1 [some 2, some 3] [.tmp 0, .tmp 1] c33

-- crux/start.Apart
-- c34_l0: env [1, 5, 6, 7, 25, 26]
-- c34_l1: env [1, 7, 9, 10, 52, 53]
-- c34_l2: env [1, 7, 9, 12, 84, 85]
@[simp] def c34_n3 : SCode := (.block 1 [some 1, some 5, some 6, some 7, some 25, some 26] (.seq (.region [.op 28 (.move (.t 5)), .op 8 (.move (.t 0))] [2, 3, 4, 5, 0, 6, 7]) (.region [.op 29 (.move (.t 3)), .op 30 (.move (.t 5)), .op 31 (.buildSlice 2 none 1 [(.c (.int .i64 0))] [(0, (.t 0))]), .op 32 (.append none 8 (.t 2) (.t 0)), .op 7 (.move (.t 0))] [5, 6, 7, 0, 10, 11])))
def c34_n2 : SCode := .seq c34_n3 (.region [.op 33 (.bin .add (.t 5) (.k (.c (.int .i64 1)))), .op 26 (.move (.t 0))] [2, 3, 4, 5, 6, 0])
instance : IsSeq c34_n2 c34_n3 (.region [.op 33 (.bin .add (.t 5) (.k (.c (.int .i64 1)))), .op 26 (.move (.t 0))] [2, 3, 4, 5, 6, 0]) := ⟨rfl⟩
def c34_n1 : SCode := .seq (.cond (.t 6) (.pre [0, 1, 2, 3, 4, 5] .skip) (.pre [0, 1, 2, 3] (.exit 0))) c34_n2
instance : IsSeq c34_n1 (.cond (.t 6) (.pre [0, 1, 2, 3, 4, 5] .skip) (.pre [0, 1, 2, 3] (.exit 0))) c34_n2 := ⟨rfl⟩
def c34_l0b : SCode := (.seq (.region [.op 27 (.bin .lss (.t 5) (.t 4))] [1, 2, 3, 4, 5, 6, 0]) c34_n1)
def c34_l0 : SCode := .loop true c34_l0b
@[simp] def c34_n8 : SCode := (.region [.op 56 (.move (.t 2)), .op 57 (.move (.t 2)), .op 58 (.move (.t 6)), .op 59 (.idxSlice 1 (.t 1) (.t 0)), .op 60 (.load none (.t 0)), .op 61 (.buildSlice 2 none 1 [(.c (.int .i64 0))] [(0, (.t 0))]), .op 62 (.append none 8 (.t 5) (.t 0)), .op 9 (.move (.t 0))] [8, 9, 0, 11, 12, 13, 14])
@[simp] def c34_n10 : SCode := (.region [.op 63 (.move (.t 3)), .op 64 (.move (.t 5)), .op 65 (.bin .add (.t 1) (.t 0)), .op 66 (.load none (.t 3)), .op 67 (.len 1 (.t 0)), .op 68 (.bin .lss (.t 2) (.t 0))] [6, 7, 8, 9, 10, 11, 12, 0])
@[simp] def c34_n12 : SCode := (.region [.op 69 (.move (.t 2)), .op 70 (.move (.t 2)), .op 71 (.move (.t 5)), .op 72 (.move (.t 7)), .op 73 (.bin .add (.t 1) (.t 0)), .op 74 (.idxSlice 1 (.t 3) (.t 0)), .op 75 (.load none (.t 0)), .op 76 (.buildSlice 2 none 1 [(.c (.int .i64 0))] [(0, (.t 0))]), .op 77 (.append none 8 (.t 7) (.t 0)), .op 9 (.move (.t 0))] [10, 11, 0, 13, 15, 16])
def c34_n11 : SCode := .cond (.t 7) c34_n12 (.pre [0, 1, 2, 3, 5, 6] .skip)
instance : IsCond c34_n11 (.t 7) c34_n12 (.pre [0, 1, 2, 3, 5, 6] .skip) := ⟨rfl⟩
def c34_n9 : SCode := .seq c34_n10 c34_n11
instance : IsSeq c34_n9 c34_n10 c34_n11 := ⟨rfl⟩
def c34_n7 : SCode := .seq c34_n8 c34_n9
instance : IsSeq c34_n7 c34_n8 c34_n9 := ⟨rfl⟩
def c34_n6 : SCode := .seq (.region [.op 55 (.move (.t 5)), .op 11 (.move (.t 0))] [2, 3, 4, 5, 0, 6, 7]) c34_n7
instance : IsSeq c34_n6 (.region [.op 55 (.move (.t 5)), .op 11 (.move (.t 0))] [2, 3, 4, 5, 0, 6, 7]) c34_n7 := ⟨rfl⟩
def c34_n5 : SCode := .seq (.block 3 [some 1, some 7, some 9, some 10, some 52, some 53] c34_n6) (.region [.op 78 (.bin .add (.t 5) (.k (.c (.int .i64 1)))), .op 53 (.move (.t 0))] [2, 3, 4, 5, 6, 0])
instance : IsSeq c34_n5 (.block 3 [some 1, some 7, some 9, some 10, some 52, some 53] c34_n6) (.region [.op 78 (.bin .add (.t 5) (.k (.c (.int .i64 1)))), .op 53 (.move (.t 0))] [2, 3, 4, 5, 6, 0]) := ⟨rfl⟩
def c34_n4 : SCode := .seq (.cond (.t 6) (.pre [0, 1, 2, 3, 4, 5] .skip) (.pre [2] (.exit 2))) c34_n5
instance : IsSeq c34_n4 (.cond (.t 6) (.pre [0, 1, 2, 3, 4, 5] .skip) (.pre [2] (.exit 2))) c34_n5 := ⟨rfl⟩
def c34_l1b : SCode := (.seq (.region [.op 54 (.bin .lss (.t 5) (.t 4))] [1, 2, 3, 4, 5, 6, 0]) c34_n4)
def c34_l1 : SCode := .loop true c34_l1b
@[simp] def c34_n17 : SCode := (.region [.op 88 (.move (.t 2)), .op 89 (.move (.t 2)), .op 90 (.move (.t 6)), .op 91 (.idxSlice 1 (.t 1) (.t 0)), .op 92 (.load none (.t 0)), .op 93 (.buildSlice 2 none 1 [(.c (.int .i64 0))] [(0, (.t 0))]), .op 94 (.append none 8 (.t 5) (.t 0)), .op 9 (.move (.t 0))] [8, 9, 0, 11, 12, 13, 14])
@[simp] def c34_n19 : SCode := (.region [.op 95 (.move (.t 3)), .op 96 (.move (.t 5)), .op 97 (.bin .add (.t 1) (.t 0)), .op 98 (.load none (.t 3)), .op 99 (.len 1 (.t 0)), .op 100 (.bin .lss (.t 2) (.t 0))] [6, 7, 8, 9, 10, 11, 12, 0])
@[simp] def c34_n21 : SCode := (.region [.op 101 (.move (.t 2)), .op 102 (.move (.t 2)), .op 103 (.move (.t 5)), .op 104 (.move (.t 7)), .op 105 (.bin .add (.t 1) (.t 0)), .op 106 (.idxSlice 1 (.t 3) (.t 0)), .op 107 (.load none (.t 0)), .op 108 (.buildSlice 2 none 1 [(.c (.int .i64 0))] [(0, (.t 0))]), .op 109 (.append none 8 (.t 7) (.t 0)), .op 9 (.move (.t 0))] [10, 11, 0, 13, 15, 16])
def c34_n20 : SCode := .cond (.t 7) c34_n21 (.pre [0, 1, 2, 3, 5, 6] .skip)
instance : IsCond c34_n20 (.t 7) c34_n21 (.pre [0, 1, 2, 3, 5, 6] .skip) := ⟨rfl⟩
def c34_n18 : SCode := .seq c34_n19 c34_n20
instance : IsSeq c34_n18 c34_n19 c34_n20 := ⟨rfl⟩
def c34_n16 : SCode := .seq c34_n17 c34_n18
instance : IsSeq c34_n16 c34_n17 c34_n18 := ⟨rfl⟩
def c34_n15 : SCode := .seq (.region [.op 87 (.move (.t 5)), .op 13 (.move (.t 0))] [2, 3, 4, 5, 0, 6, 7]) c34_n16
instance : IsSeq c34_n15 (.region [.op 87 (.move (.t 5)), .op 13 (.move (.t 0))] [2, 3, 4, 5, 0, 6, 7]) c34_n16 := ⟨rfl⟩
def c34_n14 : SCode := .seq (.block 5 [some 1, some 7, some 9, some 12, some 84, some 85] c34_n15) (.region [.op 110 (.bin .add (.t 5) (.k (.c (.int .i64 1)))), .op 85 (.move (.t 0))] [2, 3, 4, 5, 6, 0])
instance : IsSeq c34_n14 (.block 5 [some 1, some 7, some 9, some 12, some 84, some 85] c34_n15) (.region [.op 110 (.bin .add (.t 5) (.k (.c (.int .i64 1)))), .op 85 (.move (.t 0))] [2, 3, 4, 5, 6, 0]) := ⟨rfl⟩
def c34_n13 : SCode := .seq (.cond (.t 6) (.pre [0, 1, 2, 3, 4, 5] .skip) (.pre [2] (.exit 4))) c34_n14
instance : IsSeq c34_n13 (.cond (.t 6) (.pre [0, 1, 2, 3, 4, 5] .skip) (.pre [2] (.exit 4))) c34_n14 := ⟨rfl⟩
def c34_l2b : SCode := (.seq (.region [.op 86 (.bin .lss (.t 5) (.t 4))] [1, 2, 3, 4, 5, 6, 0]) c34_n13)
def c34_l2 : SCode := .loop true c34_l2b
@[simp] def c34_n23 : SCode := (.seq (.region [.op 14 (.load none (.t 0)), .op 15 (.call false (.k (.c (.func 19 [] []))) [(.t 0)]), .op 4 (.move (.t 0))] [3, 0]) (.seq (.region [.op 16 (.move (.t 1)), .op 17 (.bin .neq (.t 0) (.k (.c (.int .i64 0))))] [2, 3, 0]) (.cond (.t 2) (.seq (.region [.op 18 (.move (.t 1)), .op 2 (.mkNil none), .op 3 (.move (.t 1))] [1, 0]) .ret) (.pre [0] .skip))))
@[simp] def c34_n25 : SCode := (.region [.op 20 (.load none (.t 0)), .op 21 (.call false (.k (.c (.func 102 [] []))) [(.t 0)]), .op 19 (.move (.t 0)), .op 22 (.extract (.t 0) 0), .op 23 (.extract (.t 1) 1), .op 5 (.new [(.c (.str []))]), .op 6 (.new [(.c (.map [] []))]), .eff (.store 1 (.t 1) (.t 3)), .eff (.store 1 (.t 0) (.t 2))] [7, 1, 0])
@[simp] def c34_n28 : SCode := (.seq (.region [.op 24 (.load none (.t 0)), .op 25 (.len 1 (.t 0)), .op 26 (.move (.k (.c (.int .i64 0))))] [3, 4, 5, 6, 1, 0]) (.block 0 [some 1, some 5, some 6, some 7] c34_l0))
@[simp] def c34_n30 : SCode := (.region [.op 34 (.move (.t 3)), .op 35 (.mkFunc 103 [] [(.t 1), (.t 3)]), .op 36 (.call false (.k (.c (.func 94 [] []))) [(.t 1), (.t 0)])] [3, 4, 5, 6])
@[simp] def c34_n32 : SCode := (.region [.op 37 (.move (.t 3)), .op 38 (.mkFunc 106 [] [(.t 1), (.t 2)]), .op 39 (.call false (.k (.c (.func 94 [] []))) [(.t 1), (.t 0)])] [3, 4, 5, 6])
@[simp] def c34_n34 : SCode := (.region [.op 40 (.load none (.t 0)), .op 41 (.len 1 (.t 0)), .op 42 (.makeSlice none 8 [(.c (.int .i64 0))] (.k (.c (.int .i64 0))) (.t 0)), .op 9 (.move (.t 0))] [4, 5, 6, 7, 0])
@[simp] def c34_n37 : SCode := (.region [.op 46 (.move (.t 3)), .op 47 (.bin .mul (.k (.c (.int .i64 2))) (.t 0)), .op 48 (.load none (.t 2)), .op 49 (.len 1 (.t 0)), .op 50 (.bin .add (.t 0) (.k (.c (.int .i64 1)))), .op 51 (.bin .gtr (.t 3) (.t 0))] [6, 7, 8, 9, 0])
def c34_n36 : SCode := .seq c34_n37 (.cond (.t 4) (.seq (.seq (.region [.op 52 (.move (.t 3)), .op 53 (.move (.k (.c (.int .i64 0))))] [2, 3, 4, 5, 1, 0]) (.block 2 [some 9] c34_l1)) (.seq (.region [.op 79 (.move (.t 0)), .op 2 (.move (.t 0)), .op 3 (.move (.k (.c (.int .i64 0))))] [1, 0]) .ret)) (.pre [0, 1, 2] .skip))
instance : IsSeq c34_n36 c34_n37 (.cond (.t 4) (.seq (.seq (.region [.op 52 (.move (.t 3)), .op 53 (.move (.k (.c (.int .i64 0))))] [2, 3, 4, 5, 1, 0]) (.block 2 [some 9] c34_l1)) (.seq (.region [.op 79 (.move (.t 0)), .op 2 (.move (.t 0)), .op 3 (.move (.k (.c (.int .i64 0))))] [1, 0]) .ret)) (.pre [0, 1, 2] .skip)) := ⟨rfl⟩
@[simp] def c34_n38 : SCode := (.seq (.region [.op 43 (.load none (.t 2)), .op 44 (.load none (.t 2)), .op 45 (.lookup (.one 1) (.c (.int .i64 0)) false (.t 1) (.t 0)), .op 10 (.move (.t 0))] [4, 7, 8, 0]) c34_n36)
@[simp] def c34_n40 : SCode := (.region [.op 80 (.load none (.t 0)), .op 81 (.len 1 (.t 0)), .op 82 (.bin .add (.t 0) (.k (.c (.int .i64 1)))), .op 83 (.bin .quo (.t 0) (.k (.c (.int .i64 2)))), .op 12 (.move (.t 0))] [5, 6, 7, 0])
def c34_n39 : SCode := .seq c34_n40 (.seq (.seq (.region [.op 84 (.move (.t 3)), .op 85 (.move (.k (.c (.int .i64 0))))] [2, 3, 4, 5, 1, 0]) (.block 4 [some 9] c34_l2)) (.seq (.region [.op 111 (.move (.t 0)), .op 2 (.move (.t 0)), .op 3 (.move (.k (.c (.int .i64 0))))] [1, 0]) .ret))
instance : IsSeq c34_n39 c34_n40 (.seq (.seq (.region [.op 84 (.move (.t 3)), .op 85 (.move (.k (.c (.int .i64 0))))] [2, 3, 4, 5, 1, 0]) (.block 4 [some 9] c34_l2)) (.seq (.region [.op 111 (.move (.t 0)), .op 2 (.move (.t 0)), .op 3 (.move (.k (.c (.int .i64 0))))] [1, 0]) .ret)) := ⟨rfl⟩
def c34_n35 : SCode := .seq c34_n38 c34_n39
instance : IsSeq c34_n35 c34_n38 c34_n39 := ⟨rfl⟩
def c34_n33 : SCode := .seq c34_n34 c34_n35
instance : IsSeq c34_n33 c34_n34 c34_n35 := ⟨rfl⟩
def c34_n31 : SCode := .seq c34_n32 c34_n33
instance : IsSeq c34_n31 c34_n32 c34_n33 := ⟨rfl⟩
def c34_n29 : SCode := .seq c34_n30 c34_n31
instance : IsSeq c34_n29 c34_n30 c34_n31 := ⟨rfl⟩
def c34_n27 : SCode := .seq c34_n28 c34_n29
instance : IsSeq c34_n27 c34_n28 c34_n29 := ⟨rfl⟩
def c34_n26 : SCode := .seq (.region [.op 7 (.mkNil none)] [1, 2, 3, 0]) c34_n27
instance : IsSeq c34_n26 (.region [.op 7 (.mkNil none)] [1, 2, 3, 0]) c34_n27 := ⟨rfl⟩
def c34_n24 : SCode := .seq c34_n25 c34_n26
instance : IsSeq c34_n24 c34_n25 c34_n26 := ⟨rfl⟩
def c34_n22 : SCode := .seq c34_n23 c34_n24
instance : IsSeq c34_n22 c34_n23 c34_n24 := ⟨rfl⟩
def c34 : SCode := (.seq (.region [.op 1 (.box (.t 0)), .op 2 (.mkNil none), .op 3 (.move (.k (.c (.int .i64 0))))] [2]) c34_n22)
def F34 : SFunc := .code .pure 112 1 [some 2, some 3] [.tmp 0, .tmp 1] c34

-- crux/start.Calls
-- c39_l0: env [1, 2, 3, 11, 23, 24]
@[simp] def c39_n5 : SCode := (.region [.op 27 (.move (.t 0)), .op 28 (.move (.t 5)), .op 29 (.move (.t 3)), .op 30 (.bin .mul (.t 1) (.t 0)), .op 31 (.bin .add (.t 3) (.t 0)), .op 13 (.move (.t 0))] [6, 7, 8, 9, 0, 11, 12])
@[simp] def c39_n6 : SCode := (.region [.op 32 (.move (.t 3)), .op 33 (.move (.t 5)), .op 34 (.move (.t 4)), .op 35 (.bin .sub (.t 1) (.t 0)), .op 36 (.max (.k (.c (.int .i64 0))) [(.t 0)]), .op 37 (.move (.t 9)), .op 38 (.build [(.c (.int .i64 0)), (.c (.int .i64 0))] [(0, 1, (.t 1)), (1, 1, (.t 0))]), .op 39 (.buildSlice 2 (some 2) 1 [(.c (.int .i64 0)), (.c (.int .i64 0))] [(0, (.t 0))]), .op 40 (.append (some 2) 16 (.t 7) (.t 0)), .op 11 (.move (.t 0))] [10, 11, 12, 0, 15, 16])
def c39_n4 : SCode := .seq c39_n5 c39_n6
instance : IsSeq c39_n4 c39_n5 c39_n6 := ⟨rfl⟩
def c39_n3 : SCode := .seq (.region [.op 26 (.move (.t 5)), .op 12 (.move (.t 0))] [2, 3, 4, 5, 0, 6, 7]) c39_n4
instance : IsSeq c39_n3 (.region [.op 26 (.move (.t 5)), .op 12 (.move (.t 0))] [2, 3, 4, 5, 0, 6, 7]) c39_n4 := ⟨rfl⟩
def c39_n2 : SCode := .seq (.block 1 [some 1, some 2, some 3, some 11, some 23, some 24] c39_n3) (.region [.op 41 (.bin .add (.t 5) (.k (.c (.int .i64 1)))), .op 24 (.move (.t 0))] [2, 3, 4, 5, 6, 0])
instance : IsSeq c39_n2 (.block 1 [some 1, some 2, some 3, some 11, some 23, some 24] c39_n3) (.region [.op 41 (.bin .add (.t 5) (.k (.c (.int .i64 1)))), .op 24 (.move (.t 0))] [2, 3, 4, 5, 6, 0]) := ⟨rfl⟩
def c39_n1 : SCode := .seq (.cond (.t 6) (.pre [0, 1, 2, 3, 4, 5] .skip) (.pre [3] (.exit 0))) c39_n2
instance : IsSeq c39_n1 (.cond (.t 6) (.pre [0, 1, 2, 3, 4, 5] .skip) (.pre [3] (.exit 0))) c39_n2 := ⟨rfl⟩
def c39_l0b : SCode := (.seq (.region [.op 25 (.bin .lss (.t 5) (.t 4))] [1, 2, 3, 4, 5, 6, 0]) c39_n1)
def c39_l0 : SCode := .loop true c39_l0b
@[simp] def c39_n8 : SCode := (.seq (.region [.op 14 (.move (.t 0)), .op 15 (.move (.t 2)), .op 16 (.move (.t 4)), .op 17 (.move (.t 6)), .op 18 (.buildSlice 0 none 1 [(.c (.int .i64 0))] [(0, (.t 0))]), .op 19 (.call false (.k (.c (.func 108 [] []))) [(.t 4), (.t 3), (.t 2), (.t 0)]), .op 10 (.move (.t 0))] [7, 8, 9, 10, 0]) (.seq (.region [.op 20 (.move (.t 4)), .op 21 (.bin .neq (.t 0) (.k (.c (.int .i64 0))))] [2, 3, 4, 5, 6, 0]) (.cond (.t 5) (.seq (.region [.op 22 (.move (.t 4)), .op 8 (.mkNil (some 2)), .op 9 (.move (.t 1))] [1, 0]) .ret) (.pre [0, 1, 2, 3] .skip))))
def c39_n7 : SCode := .seq c39_n8 (.seq (.region [.op 11 (.mkNil (some 2))] [1, 2, 3, 4, 0]) (.seq (.seq (.region [.op 23 (.move (.t 0)), .op 24 (.move (.k (.c (.int .i64 0))))] [3, 4, 5, 6, 1, 0]) (.block 0 [some 11] c39_l0)) (.seq (.region [.op 42 (.move (.t 0)), .op 8 (.move (.t 0)), .op 9 (.move (.k (.c (.int .i64 0))))] [1, 0]) .ret)))
instance : IsSeq c39_n7 c39_n8 (.seq (.region [.op 11 (.mkNil (some 2))] [1, 2, 3, 4, 0]) (.seq (.seq (.region [.op 23 (.move (.t 0)), .op 24 (.move (.k (.c (.int .i64 0))))] [3, 4, 5, 6, 1, 0]) (.block 0 [some 11] c39_l0)) (.seq (.region [.op 42 (.move (.t 0)), .op 8 (.move (.t 0)), .op 9 (.move (.k (.c (.int .i64 0))))] [1, 0]) .ret))) := ⟨rfl⟩
def c39 : SCode := (.seq (.region [.op 8 (.mkNil (some 2)), .op 9 (.move (.k (.c (.int .i64 0))))] [2, 3, 4, 5]) c39_n7)
def F39 : SFunc := .code .pure 43 4 [some 8, some 9] [.tmp 0, .tmp 1] c39

-- crux/start.Isolated
-- c40_l0: env [1, 2, 3, 4, 13, 25, 26]
@[simp] def c40_n4 : SCode := (.region [.op 28 (.move (.t 6)), .op 14 (.move (.t 0))] [2, 3, 4, 5, 6, 0, 7, 8])
@[simp] def c40_n6 : SCode := (.region [.op 29 (.move (.t 3)), .op 30 (.move (.t 3)), .op 31 (.bin .geq (.t 1) (.t 0)), .op 32 (.move (.t 0)), .andN 40 0 [.op 33 (.move (.t 4)), .op 34 (.move (.t 10)), .op 35 (.move (.t 7)), .op 36 (.bin .mul (.t 1) (.t 0)), .op 37 (.bin .add (.t 3) (.t 0)), .op 38 (.move (.t 12)), .op 39 (.bin .gtr (.t 1) (.t 0))] (.t 0)] [5, 6, 7, 8, 9, 10, 11, 12, 0])
def c40_n5 : SCode := .seq c40_n6 (.cond (.t 8) (.region [.op 41 (.move (.t 4)), .op 42 (.move (.t 6)), .op 43 (.buildSlice 2 none 1 [(.c (.int .i64 0))] [(0, (.t 0))]), .op 44 (.append none 8 (.t 2) (.t 0)), .op 13 (.move (.t 0))] [5, 6, 7, 8, 0, 11, 12]) (.pre [0, 1, 2, 3, 4, 6, 7] .skip))
instance : IsSeq c40_n5 c40_n6 (.cond (.t 8) (.region [.op 41 (.move (.t 4)), .op 42 (.move (.t 6)), .op 43 (.buildSlice 2 none 1 [(.c (.int .i64 0))] [(0, (.t 0))]), .op 44 (.append none 8 (.t 2) (.t 0)), .op 13 (.move (.t 0))] [5, 6, 7, 8, 0, 11, 12]) (.pre [0, 1, 2, 3, 4, 6, 7] .skip)) := ⟨rfl⟩
def c40_n3 : SCode := .seq c40_n4 c40_n5
instance : IsSeq c40_n3 c40_n4 c40_n5 := ⟨rfl⟩
def c40_n2 : SCode := .seq (.block 1 [some 1, some 2, some 3, some 4, some 13, some 25, some 26] c40_n3) (.region [.op 45 (.bin .add (.t 6) (.k (.c (.int .i64 1)))), .op 26 (.move (.t 0))] [2, 3, 4, 5, 6, 7, 0])
instance : IsSeq c40_n2 (.block 1 [some 1, some 2, some 3, some 4, some 13, some 25, some 26] c40_n3) (.region [.op 45 (.bin .add (.t 6) (.k (.c (.int .i64 1)))), .op 26 (.move (.t 0))] [2, 3, 4, 5, 6, 7, 0]) := ⟨rfl⟩
def c40_n1 : SCode := .seq (.cond (.t 7) (.pre [0, 1, 2, 3, 4, 5, 6] .skip) (.pre [4] (.exit 0))) c40_n2
instance : IsSeq c40_n1 (.cond (.t 7) (.pre [0, 1, 2, 3, 4, 5, 6] .skip) (.pre [4] (.exit 0))) c40_n2 := ⟨rfl⟩
def c40_l0b : SCode := (.seq (.region [.op 27 (.bin .lss (.t 6) (.t 5))] [1, 2, 3, 4, 5, 6, 7, 0]) c40_n1)
def c40_l0 : SCode := .loop true c40_l0b
@[simp] def c40_n8 : SCode := (.seq (.region [.op 15 (.move (.t 0)), .op 16 (.move (.t 2)), .op 17 (.move (.t 4)), .op 18 (.move (.t 6)), .op 19 (.move (.t 8)), .op 20 (.buildSlice 0 none 2 [(.c (.int .i64 0))] [(0, (.t 1)), (1, (.t 0))]), .op 21 (.call false (.k (.c (.func 108 [] []))) [(.t 5), (.t 4), (.t 3), (.t 0)]), .op 12 (.move (.t 0))] [8, 9, 10, 11, 12, 0]) (.seq (.region [.op 22 (.move (.t 5)), .op 23 (.bin .neq (.t 0) (.k (.c (.int .i64 0))))] [2, 3, 4, 5, 6, 7, 0]) (.cond (.t 6) (.seq (.region [.op 24 (.move (.t 5)), .op 10 (.mkNil none), .op 11 (.move (.t 1))] [1, 0]) .ret) (.pre [0, 1, 2, 3, 4] .skip))))
def c40_n7 : SCode := .seq c40_n8 (.seq (.region [.op 13 (.mkNil none)] [1, 2, 3, 4, 5, 0]) (.seq (.seq (.region [.op 25 (.move (.t 0)), .op 26 (.move (.k (.c (.int .i64 0))))] [3, 4, 5, 6, 7, 1, 0]) (.block 0 [some 13] c40_l0)) (.seq (.region [.op 46 (.move (.t 0)), .op 10 (.move (.t 0)), .op 11 (.move (.k (.c (.int .i64 0))))] [1, 0]) .ret)))
instance : IsSeq c40_n7 c40_n8 (.seq (.region [.op 13 (.mkNil none)] [1, 2, 3, 4, 5, 0]) (.seq (.seq (.region [.op 25 (.move (.t 0)), .op 26 (.move (.k (.c (.int .i64 0))))] [3, 4, 5, 6, 7, 1, 0]) (.block 0 [some 13] c40_l0)) (.seq (.region [.op 46 (.move (.t 0)), .op 10 (.move (.t 0)), .op 11 (.move (.k (.c (.int .i64 0))))] [1, 0]) .ret))) := ⟨rfl⟩
def c40 : SCode := (.seq (.region [.op 10 (.mkNil none), .op 11 (.move (.k (.c (.int .i64 0))))] [2, 3, 4, 5, 6]) c40_n7)
def F40 : SFunc := .code .pure 47 5 [some 10, some 11] [.tmp 0, .tmp 1] c40

-- crux/cruxref06.CheckCalls
@[simp] def c41_n2 : SCode := (.seq (.region [.op 7 (.move (.t 0)), .op 8 (.call false (.k (.c (.func 23 [] []))) [(.t 0), (.k (.c (.int .i64 0))), (.k (.c (.int .i64 160)))]), .op 9 (.move (.t 3)), .op 10 (.call false (.k (.c (.func 23 [] []))) [(.t 0), (.k (.c (.int .i64 0))), (.k (.c (.int .i64 86399999)))]), .op 11 (.bin .add (.t 2) (.t 0)), .op 12 (.move (.t 7)), .op 13 (.call false (.k (.c (.func 23 [] []))) [(.t 0), (.k (.c (.int .i64 0))), (.k (.c (.int .i64 86399999)))]), .op 14 (.bin .add (.t 2) (.t 0)), .op 15 (.bin .neq (.t 0) (.k (.c (.int .i64 0))))] [0]) (.cond (.t 0) (.seq (.region [.op 6 (.move (.k (.c (.int .i64 3))))] [0]) .ret) (.pre [] .skip)))
def c41_n1 : SCode := .seq c41_n2 (.seq (.region [.op 6 (.move (.k (.c (.int .i64 0))))] [0]) .ret)
instance : IsSeq c41_n1 c41_n2 (.seq (.region [.op 6 (.move (.k (.c (.int .i64 0))))] [0]) .ret) := ⟨rfl⟩
def c41 : SCode := (.seq (.region [.op 6 (.move (.k (.c (.int .i64 0))))] [1, 2, 3]) c41_n1)
def F41 : SFunc := .code .pure 16 3 [some 6] [.tmp 0] c41

-- crux/cruxref06.Late
@[simp] def c42_n2 : SCode := (.seq (.region [.op 7 (.move (.t 0)), .op 8 (.bin .gtr (.t 0) (.k (.c (.int .i64 0)))), .op 9 (.move (.t 0)), .andN 17 0 [.op 10 (.move (.t 4)), .op 11 (.move (.t 4)), .op 12 (.bin .sub (.t 0) (.k (.c (.int .i64 1)))), .op 13 (.move (.t 8)), .op 14 (.bin .mul (.t 1) (.t 0)), .op 15 (.bin .add (.t 4) (.t 0)), .op 16 (.bin .gtr (.t 0) (.k (.c (.int .i64 86399999))))] (.t 0)] [0]) (.cond (.t 0) (.seq (.region [.op 6 (.move (.k (.c (.int .i64 4))))] [0]) .ret) (.pre [] .skip)))
def c42_n1 : SCode := .seq c42_n2 (.seq (.region [.op 6 (.move (.k (.c (.int .i64 0))))] [0]) .ret)
instance : IsSeq c42_n1 c42_n2 (.seq (.region [.op 6 (.move (.k (.c (.int .i64 0))))] [0]) .ret) := ⟨rfl⟩
def c42 : SCode := (.seq (.region [.op 6 (.move (.k (.c (.int .i64 0))))] [1, 2, 3]) c42_n1)
def F42 : SFunc := .code .pure 18 3 [some 6] [.tmp 0] c42

-- crux/cruxref06.Isolated
-- c43_l0: env [0, 1, 2, 3, 4, 11, 12]
@[simp] def c43_n3 : SCode := (.region [.op 18 (.move (.t 4)), .op 19 (.move (.t 4)), .op 20 (.bin .geq (.t 1) (.t 0)), .op 21 (.move (.t 0)), .andN 29 0 [.op 22 (.move (.t 5)), .op 23 (.move (.t 11)), .op 24 (.move (.t 8)), .op 25 (.bin .mul (.t 1) (.t 0)), .op 26 (.bin .add (.t 3) (.t 0)), .op 27 (.move (.t 13)), .op 28 (.bin .gtr (.t 1) (.t 0))] (.t 0)] [5, 6, 7, 8, 9, 10, 11, 0])
def c43_n2 : SCode := .seq c43_n3 (.cond (.t 7) (.region [.op 30 (.move (.t 5)), .op 31 (.move (.t 7)), .op 32 (.buildSlice 2 none 1 [(.c (.int .i64 0))] [(0, (.t 0))]), .op 33 (.append none 8 (.t 2) (.t 0)), .op 11 (.move (.t 0))] [5, 6, 7, 8, 9, 0, 11]) (.pre [0, 1, 2, 3, 4, 5, 6] .skip))
instance : IsSeq c43_n2 c43_n3 (.cond (.t 7) (.region [.op 30 (.move (.t 5)), .op 31 (.move (.t 7)), .op 32 (.buildSlice 2 none 1 [(.c (.int .i64 0))] [(0, (.t 0))]), .op 33 (.append none 8 (.t 2) (.t 0)), .op 11 (.move (.t 0))] [5, 6, 7, 8, 9, 0, 11]) (.pre [0, 1, 2, 3, 4, 5, 6] .skip)) := ⟨rfl⟩
def c43_n1 : SCode := .seq (.block 1 [some 0, some 1, some 2, some 3, some 4, some 11, some 12] c43_n2) (.region [.op 16 (.move (.t 6)), .op 17 (.bin .add (.t 0) (.k (.c (.int .i64 1)))), .op 12 (.move (.t 0))] [3, 4, 5, 6, 7, 8, 0])
instance : IsSeq c43_n1 (.block 1 [some 0, some 1, some 2, some 3, some 4, some 11, some 12] c43_n2) (.region [.op 16 (.move (.t 6)), .op 17 (.bin .add (.t 0) (.k (.c (.int .i64 1)))), .op 12 (.move (.t 0))] [3, 4, 5, 6, 7, 8, 0]) := ⟨rfl⟩
def c43_l0b : SCode := (.seq (.seq (.region [.op 13 (.move (.t 6)), .op 14 (.move (.t 1)), .op 15 (.bin .lss (.t 1) (.t 0))] [3, 4, 5, 6, 7, 8, 9, 0]) (.cond (.t 7) (.pre [0, 1, 2, 3, 4, 5, 6] .skip) (.pre [5] (.exit 0)))) c43_n1)
def c43_l0 : SCode := .loop true c43_l0b
def c43 : SCode := (.seq (.region [.op 10 (.mkNil none)] [1, 2, 3, 4, 5]) (.seq (.region [.op 11 (.mkNil none)] [1, 2, 3, 4, 5, 0]) (.seq (.seq (.region [.op 12 (.move (.k (.c (.int .i64 0))))] [1, 2, 3, 4, 5, 6, 0]) (.block 0 [some 11] c43_l0)) (.seq (.region [.op 34 (.move (.t 0)), .op 10 (.move (.t 0))] [0]) .ret))))
def F43 : SFunc := .code .pure 35 5 [some 10] [.tmp 0] c43

-- crux/cruxref06.Calls
-- c44_l0: env [0, 1, 2, 3, 9, 10]
@[simp] def c44_n3 : SCode := (.region [.op 17 (.move (.t 1)), .op 18 (.move (.t 6)), .op 19 (.move (.t 4)), .op 20 (.bin .mul (.t 1) (.t 0)), .op 21 (.bin .add (.t 3) (.t 0)), .op 11 (.move (.t 0))] [6, 7, 8, 9, 10, 11, 0])
@[simp] def c44_n4 : SCode := (.region [.op 22 (.move (.t 4)), .op 23 (.move (.t 7)), .op 24 (.move (.t 5)), .op 25 (.bin .sub (.t 1) (.t 0)), .op 26 (.max (.k (.c (.int .i64 0))) [(.t 0)]), .op 27 (.move (.t 11)), .op 28 (.build [(.c (.int .i64 0)), (.c (.int .i64 0))] [(0, 1, (.t 1)), (1, 1, (.t 0))]), .op 29 (.buildSlice 2 (some 2) 1 [(.c (.int .i64 0)), (.c (.int .i64 0))] [(0, (.t 0))]), .op 30 (.append (some 2) 16 (.t 7) (.t 0)), .op 9 (.move (.t 0))] [10, 11, 12, 13, 0, 15])
def c44_n2 : SCode := .seq c44_n3 c44_n4
instance : IsSeq c44_n2 c44_n3 c44_n4 := ⟨rfl⟩
def c44_n1 : SCode := .seq (.block 1 [some 0, some 1, some 2, some 3, some 9, some 10] c44_n2) (.region [.op 15 (.move (.t 5)), .op 16 (.bin .add (.t 0) (.k (.c (.int .i64 1)))), .op 10 (.move (.t 0))] [3, 4, 5, 6, 7, 0])
instance : IsSeq c44_n1 (.block 1 [some 0, some 1, some 2, some 3, some 9, some 10] c44_n2) (.region [.op 15 (.move (.t 5)), .op 16 (.bin .add (.t 0) (.k (.c (.int .i64 1)))), .op 10 (.move (.t 0))] [3, 4, 5, 6, 7, 0]) := ⟨rfl⟩
def c44_l0b : SCode := (.seq (.seq (.region [.op 12 (.move (.t 5)), .op 13 (.move (.t 1)), .op 14 (.bin .lss (.t 1) (.t 0))] [3, 4, 5, 6, 7, 8, 0]) (.cond (.t 6) (.pre [0, 1, 2, 3, 4, 5] .skip) (.pre [4] (.exit 0)))) c44_n1)
def c44_l0 : SCode := .loop true c44_l0b
def c44 : SCode := (.seq (.region [.op 8 (.mkNil (some 2))] [1, 2, 3, 4]) (.seq (.region [.op 9 (.mkNil (some 2))] [1, 2, 3, 4, 0]) (.seq (.seq (.region [.op 10 (.move (.k (.c (.int .i64 0))))] [1, 2, 3, 4, 5, 0]) (.block 0 [some 9] c44_l0)) (.seq (.region [.op 31 (.move (.t 0)), .op 8 (.move (.t 0))] [0]) .ret))))
def F44 : SFunc := .code .pure 32 4 [some 8] [.tmp 0] c44

-- crux/start.Bracket
@[simp] def c45_n2 : SCode := (.seq (.region [.op 5 (.move (.t 0)), .op 6 (.call false (.k (.c (.func 109 [] []))) [(.t 0)]), .op 4 (.move (.t 0))] [3, 0]) (.seq (.region [.op 7 (.move (.t 1)), .op 8 (.bin .neq (.t 0) (.k (.c (.int .i64 0))))] [2, 3, 0]) (.cond (.t 2) (.seq (.region [.op 9 (.move (.t 1)), .op 2 (.mkNil none), .op 3 (.move (.t 1))] [1, 0]) .ret) (.pre [0] .skip))))
def c45_n1 : SCode := .seq c45_n2 (.seq (.region [.op 10 (.move (.t 0)), .op 11 (.call false (.k (.c (.func 110 [] []))) [(.t 0)]), .op 2 (.move (.t 0)), .op 3 (.move (.k (.c (.int .i64 0))))] [1, 0]) .ret)
instance : IsSeq c45_n1 c45_n2 (.seq (.region [.op 10 (.move (.t 0)), .op 11 (.call false (.k (.c (.func 110 [] []))) [(.t 0)]), .op 2 (.move (.t 0)), .op 3 (.move (.k (.c (.int .i64 0))))] [1, 0]) .ret) := ⟨rfl⟩
def c45 : SCode := (.seq (.region [.op 2 (.mkNil none), .op 3 (.move (.k (.c (.int .i64 0))))] [2]) c45_n1)
def F45 : SFunc := .code .pure 12 1 [some 2, some 3] [.tmp 0, .tmp 1] c45

-- crux/start.Meet
@[simp] def c46_n2 : SCode := (.seq (.region [.op 10 (.move (.t 0)), .op 11 (.call false (.k (.c (.func 109 [] []))) [(.t 0)]), .op 12 (.move (.t 3)), .op 13 (.move (.t 5)), .op 14 (.min (.t 1) [(.t 0)]), .op 15 (.bin .lss (.t 0) (.k (.c (.int .i64 1)))), .op 16 (.move (.t 0)), .orN 22 0 [.op 17 (.move (.t 8)), .op 18 (.move (.t 10)), .op 19 (.max (.t 1) [(.t 0)]), .op 20 (.move (.t 10)), .op 21 (.bin .gtr (.t 1) (.t 0))] (.t 0), .op 23 (.call false (.k (.c (.func 89 [] []))) [(.t 0), (.k (.c (.int .i64 10)))]), .op 24 (.move (.t 10)), .op 25 (.move (.t 12)), .op 26 (.bin .eql (.t 1) (.t 0)), .op 27 (.call false (.k (.c (.func 89 [] []))) [(.t 0), (.k (.c (.int .i64 9)))]), .op 28 (.buildSlice 2 none 3 [(.c (.int .i64 0))] [(0, (.t 11)), (1, (.t 4)), (2, (.t 0))]), .op 29 (.call false (.k (.c (.func 88 [] []))) [(.t 0)]), .op 8 (.move (.t 0))] [16, 17, 18, 0]) (.seq (.region [.op 30 (.move (.t 3)), .op 31 (.bin .neq (.t 0) (.k (.c (.int .i64 0))))] [2, 3, 4, 5, 0]) (.cond (.t 4) (.seq (.region [.op 32 (.move (.t 3)), .op 6 (.move (.k (.c (.int .i64 0)))), .op 7 (.move (.t 1))] [1, 0]) .ret) (.pre [0, 1, 2] .skip))))
@[simp] def c46_n4 : SCode := (.region [.op 33 (.move (.t 0)), .op 34 (.call false (.k (.c (.func 110 [] []))) [(.t 0)]), .op 9 (.move (.t 0))] [4, 5, 0])
@[simp] def c46_n6 : SCode := (.region [.op 35 (.move (.t 2)), .op 36 (.move (.t 1)), .op 37 (.call false (.k (.c (.func 112 [] []))) [(.t 1), (.t 0)]), .op 38 (.move (.t 5)), .op 39 (.move (.t 5)), .op 40 (.call false (.k (.c (.func 112 [] []))) [(.t 1), (.t 0)]), .op 41 (.bin .xor (.t 3) (.t 0)), .op 42 (.conv .u64 (.t 0)), .op 43 (.call false (.k (.c (.func 111 [] []))) [(.t 0)]), .op 6 (.move (.t 0)), .op 7 (.move (.k (.c (.int .i64 0))))] [1, 0])
def c46_n5 : SCode := .seq c46_n6 .ret
instance : IsSeq c46_n5 c46_n6 .ret := ⟨rfl⟩
def c46_n3 : SCode := .seq c46_n4 c46_n5
instance : IsSeq c46_n3 c46_n4 c46_n5 := ⟨rfl⟩
def c46_n1 : SCode := .seq c46_n2 c46_n3
instance : IsSeq c46_n1 c46_n2 c46_n3 := ⟨rfl⟩
def c46 : SCode := (.seq (.region [.op 6 (.move (.k (.c (.int .i64 0)))), .op 7 (.move (.k (.c (.int .i64 0))))] [2, 3, 4]) c46_n1)
def F46 : SFunc := .code .pure 44 3 [some 6, some 7] [.tmp 0, .tmp 1] c46

-- crux/cruxlaw06.when
def c47 : SCode := (.seq (.region [.op 4 (.move (.k (.c (.int .i64 0))))] [1, 2]) (.seq (.seq (.region [.op 5 (.move (.t 0))] [2, 0]) (.cond (.t 1) (.seq (.region [.op 6 (.move (.t 0)), .op 4 (.move (.t 0))] [0]) .ret) (.pre [] .skip))) (.seq (.region [.op 4 (.move (.k (.c (.int .i64 0))))] [0]) .ret)))
def F47 : SFunc := .code .pure 7 2 [some 4] [.tmp 0] c47

-- crux/start.Races
-- c50_l0: env [0, 24, 25, 26]
-- c50_l1: env [0, 8, 49, 50, 51]
@[simp] def c50_n4 : SCode := (.region [.op 28 (.move (.t 3)), .op 29 (.idxSlice 1 (.t 2) (.t 4)), .op 30 (.load none (.t 0)), .op 5 (.move (.t 2)), .op 6 (.move (.t 1))] [5, 1, 0, 6, 7, 8])
@[simp] def c50_n6 : SCode := (.draw 1 [.op 31 (.move (.t 2)), .op 32 (.call false (.k (.c (.func 90 [] []))) [(.t 0)]), .op 33 (.not (.t 0)), .op 34 (.call false (.k (.c (.func 89 [] []))) [(.t 0), (.k (.c (.int .i64 8)))]), .op 35 (.move (.t 4)), .op 36 (.move (.t 6)), .op 37 (.sliceSl 1 (.t 1) none (some (.t 0)) none), .op 38 (.move (.t 9)), .op 39 (.call false (.k (.c (.func 113 [] []))) [(.t 1), (.t 0)]), .op 40 (.call false (.k (.c (.func 89 [] []))) [(.t 0), (.k (.c (.int .i64 9)))]), .op 41 (.buildSlice 2 none 2 [(.c (.int .i64 0))] [(0, (.t 6)), (1, (.t 0))]) (some 0), .op 42 (.call false (.k (.c (.func 88 [] []))) [(.t 0)]), .op 7 (.move (.t 0))] [13, 0, 16, 17, 18])
def c50_n5 : SCode := .seq c50_n6 (.seq (.region [.op 43 (.move (.t 1)), .op 44 (.bin .neq (.t 0) (.k (.c (.int .i64 0))))] [2, 3, 4, 5, 6, 0]) (.cond (.t 5) (.seq (.region [.op 45 (.move (.t 1)), .op 2 (.mkNil (some 3)), .op 3 (.move (.t 1))] [1, 0]) .ret) (.pre [0, 2, 3, 4] .skip)))
instance : IsSeq c50_n5 c50_n6 (.seq (.region [.op 43 (.move (.t 1)), .op 44 (.bin .neq (.t 0) (.k (.c (.int .i64 0))))] [2, 3, 4, 5, 6, 0]) (.cond (.t 5) (.seq (.region [.op 45 (.move (.t 1)), .op 2 (.mkNil (some 3)), .op 3 (.move (.t 1))] [1, 0]) .ret) (.pre [0, 2, 3, 4] .skip))) := ⟨rfl⟩
def c50_n3 : SCode := .seq c50_n4 c50_n5
instance : IsSeq c50_n3 c50_n4 c50_n5 := ⟨rfl⟩
def c50_n2 : SCode := .seq (.block 1 [some 0, some 24, some 25, some 26] c50_n3) (.region [.op 46 (.bin .add (.t 3) (.k (.c (.int .i64 1)))), .op 26 (.move (.t 0))] [2, 3, 4, 0])
instance : IsSeq c50_n2 (.block 1 [some 0, some 24, some 25, some 26] c50_n3) (.region [.op 46 (.bin .add (.t 3) (.k (.c (.int .i64 1)))), .op 26 (.move (.t 0))] [2, 3, 4, 0]) := ⟨rfl⟩
def c50_n1 : SCode := .seq (.cond (.t 4) (.pre [0, 1, 2, 3] .skip) (.pre [0] (.exit 0))) c50_n2
instance : IsSeq c50_n1 (.cond (.t 4) (.pre [0, 1, 2, 3] .skip) (.pre [0] (.exit 0))) c50_n2 := ⟨rfl⟩
def c50_l0b : SCode := (.seq (.region [.op 27 (.bin .lss (.t 3) (.t 2))] [1, 2, 3, 4, 0]) c50_n1)
def c50_l0 : SCode := .loop true c50_l0b
@[simp] def c50_n10 : SCode := (.region [.op 53 (.idxSlice 1 (.t 2) (.t 4)), .op 54 (.load none (.t 0)), .op 10 (.move (.t 0))] [3, 4, 0, 5, 6, 7])
@[simp] def c50_n12 : SCode := (.region [.op 55 (.move (.t 2)), .op 56 (.bin .eql (.t 0) (.k (.c (.int .i64 0))))] [2, 3, 4, 5, 6, 7, 0])
def c50_n13 : SCode := .cond (.t 6) (.region [.op 57 (.move (.t 1)), .op 58 (.buildSlice 2 none 1 [(.c (.str []))] [(0, (.k (.c (.str []))))]), .op 59 (.append none 16 (.t 1) (.t 0)), .op 8 (.move (.t 0))] [4, 0, 7, 8, 9]) (.region [.op 60 (.move (.t 1)), .op 61 (.move (.t 1)), .op 62 (.move (.t 4)), .op 63 (.bin .sub (.t 0) (.k (.c (.int .i64 1)))), .op 64 (.idxSlice 1 (.t 2) (.t 0)), .op 65 (.load none (.t 0)), .op 66 (.buildSlice 2 none 1 [(.c (.str []))] [(0, (.t 0))]), .op 67 (.append none 16 (.t 6) (.t 0)), .op 8 (.move (.t 0))] [9, 0, 12, 13, 14])
instance : IsCond c50_n13 (.t 6) (.region [.op 57 (.move (.t 1)), .op 58 (.buildSlice 2 none 1 [(.c (.str []))] [(0, (.k (.c (.str []))))]), .op 59 (.append none 16 (.t 1) (.t 0)), .op 8 (.move (.t 0))] [4, 0, 7, 8, 9]) (.region [.op 60 (.move (.t 1)), .op 61 (.move (.t 1)), .op 62 (.move (.t 4)), .op 63 (.bin .sub (.t 0) (.k (.c (.int .i64 1)))), .op 64 (.idxSlice 1 (.t 2) (.t 0)), .op 65 (.load none (.t 0)), .op 66 (.buildSlice 2 none 1 [(.c (.str []))] [(0, (.t 0))]), .op 67 (.append none 16 (.t 6) (.t 0)), .op 8 (.move (.t 0))] [9, 0, 12, 13, 14]) := ⟨rfl⟩
def c50_n11 : SCode := .seq c50_n12 c50_n13
instance : IsSeq c50_n11 c50_n12 c50_n13 := ⟨rfl⟩
def c50_n9 : SCode := .seq c50_n10 c50_n11
instance : IsSeq c50_n9 c50_n10 c50_n11 := ⟨rfl⟩
def c50_n8 : SCode := .seq (.block 3 [some 0, some 8, some 49, some 50, some 51] c50_n9) (.region [.op 68 (.bin .add (.t 4) (.k (.c (.int .i64 1)))), .op 51 (.move (.t 0))] [2, 3, 4, 5, 0])
instance : IsSeq c50_n8 (.block 3 [some 0, some 8, some 49, some 50, some 51] c50_n9) (.region [.op 68 (.bin .add (.t 4) (.k (.c (.int .i64 1)))), .op 51 (.move (.t 0))] [2, 3, 4, 5, 0]) := ⟨rfl⟩
def c50_n7 : SCode := .seq (.cond (.t 5) (.pre [0, 1, 2, 3, 4] .skip) (.pre [1] (.exit 2))) c50_n8
instance : IsSeq c50_n7 (.cond (.t 5) (.pre [0, 1, 2, 3, 4] .skip) (.pre [1] (.exit 2))) c50_n8 := ⟨rfl⟩
def c50_l1b : SCode := (.seq (.region [.op 52 (.bin .lss (.t 4) (.t 3))] [1, 2, 3, 4, 5, 0]) c50_n7)
def c50_l1 : SCode := .loop true c50_l1b
@[simp] def c50_n15 : SCode := (.seq (.region [.op 11 (.move (.t 0)), .op 12 (.len 1 (.t 0)), .op 13 (.bin .eql (.t 0) (.k (.c (.int .i64 0)))), .op 14 (.call false (.k (.c (.func 89 [] []))) [(.t 0), (.k (.c (.int .i64 12)))]), .op 15 (.move (.t 4)), .op 16 (.len 1 (.t 0)), .op 17 (.bin .gtr (.t 0) (.k (.c (.int .i64 64)))), .op 18 (.call false (.k (.c (.func 89 [] []))) [(.t 0), (.k (.c (.int .i64 5)))]), .op 19 (.buildSlice 2 none 2 [(.c (.int .i64 0))] [(0, (.t 4)), (1, (.t 0))]), .op 20 (.call false (.k (.c (.func 88 [] []))) [(.t 0)]), .op 4 (.move (.t 0))] [11, 0]) (.seq (.region [.op 21 (.move (.t 1)), .op 22 (.bin .neq (.t 0) (.k (.c (.int .i64 0))))] [2, 3, 0]) (.cond (.t 2) (.seq (.region [.op 23 (.move (.t 1)), .op 2 (.mkNil (some 3)), .op 3 (.move (.t 1))] [1, 0]) .ret) (.pre [0] .skip))))
@[simp] def c50_n17 : SCode := (.seq (.region [.op 24 (.move (.t 0)), .op 25 (.len 1 (.t 0)), .op 26 (.move (.k (.c (.int .i64 0))))] [3, 2, 1, 0]) (.block 0 [some 0] c50_l0))
@[simp] def c50_n20 : SCode := (.seq (.region [.op 47 (.move (.t 0)), .op 48 (.len 1 (.t 0)), .op 49 (.call false (.k (.c (.func 110 [] []))) [(.t 0)]), .op 50 (.len 1 (.t 0)), .op 51 (.move (.k (.c (.int .i64 0))))] [5, 6, 2, 1, 0]) (.block 2 [some 8] c50_l1))
@[simp] def c50_n22 : SCode := (.seq (.region [.op 69 (.move (.t 0)), .op 70 (.len 1 (.t 0)), .op 71 (.bin .eql (.t 0) (.k (.c (.int .i64 1))))] [3, 0]) (.cond (.t 1) (.region [.op 72 (.move (.t 0)), .op 73 (.buildSlice 2 none 1 [(.c (.str []))] [(0, (.k (.c (.str []))))]), .op 74 (.append none 16 (.t 1) (.t 0)), .op 8 (.move (.t 0))] [0]) (.pre [0] .skip)))
def c50_n21 : SCode := .seq c50_n22 (.seq (.region [.op 75 (.move (.t 0)), .op 76 (.call false (.k (.c (.func 114 [] []))) [(.t 0)]), .op 2 (.move (.t 0)), .op 3 (.move (.k (.c (.int .i64 0))))] [1, 0]) .ret)
instance : IsSeq c50_n21 c50_n22 (.seq (.region [.op 75 (.move (.t 0)), .op 76 (.call false (.k (.c (.func 114 [] []))) [(.t 0)]), .op 2 (.move (.t 0)), .op 3 (.move (.k (.c (.int .i64 0))))] [1, 0]) .ret) := ⟨rfl⟩
def c50_n19 : SCode := .seq c50_n20 c50_n21
instance : IsSeq c50_n19 c50_n20 c50_n21 := ⟨rfl⟩
def c50_n18 : SCode := .seq (.region [.op 8 (.mkNil none)] [1, 0]) c50_n19
instance : IsSeq c50_n18 (.region [.op 8 (.mkNil none)] [1, 0]) c50_n19 := ⟨rfl⟩
def c50_n16 : SCode := .seq c50_n17 c50_n18
instance : IsSeq c50_n16 c50_n17 c50_n18 := ⟨rfl⟩
def c50_n14 : SCode := .seq c50_n15 c50_n16
instance : IsSeq c50_n14 c50_n15 c50_n16 := ⟨rfl⟩
def c50 : SCode := (.seq (.region [.op 2 (.mkNil (some 3)), .op 3 (.move (.k (.c (.int .i64 0))))] [2]) c50_n14)
def F50 : SFunc := .code .pure 77 1 [some 2, some 3] [.tmp 0, .tmp 1] c50

-- crux/start.CheckRaces
-- c57_l0: env [3, 26, 27, 28]
@[simp] def c57_n4 : SCode := (.region [.op 30 (.idxSlice 3 (.t 1) (.t 3)), .op 31 (.load (some 3) (.t 0)), .op 5 (.new [(.c (.str [])), (.c (.str [])), (.c (.int .i64 0))]), .eff (.store 3 (.t 0) (.t 1))] [3, 0, 4, 5, 6])
@[simp] def c57_n6 : SCode := (.region [.op 32 (.fieldAddr 0 (.t 1)), .op 33 (.load none (.t 0)), .op 34 (.bin .neq (.t 0) (.k (.c (.str [])))), .op 35 (.move (.t 0)), .andN 40 0 [.op 36 (.fieldAddr 0 (.t 5)), .op 37 (.load none (.t 0)), .op 38 (.call false (.k (.c (.func 90 [] []))) [(.t 0)]), .op 39 (.not (.t 0))] (.t 0), .op 41 (.move (.t 0)), .orN 51 0 [.op 42 (.fieldAddr 1 (.t 7)), .op 43 (.load none (.t 0)), .op 44 (.bin .neq (.t 0) (.k (.c (.str [])))), .op 45 (.move (.t 0)), .andN 50 0 [.op 46 (.fieldAddr 1 (.t 11)), .op 47 (.load none (.t 0)), .op 48 (.call false (.k (.c (.func 90 [] []))) [(.t 0)]), .op 49 (.not (.t 0))] (.t 0)] (.t 0), .op 6 (.move (.t 0))] [8, 9, 0, 10, 11, 12])
@[simp] def c57_n8 : SCode := (.region [.op 52 (.move (.t 0)), .op 53 (.fieldAddr 0 (.t 2)), .op 54 (.load none (.t 0)), .op 55 (.lookup (.one 1) (.c (.bool false)) false (.t 2) (.t 0)), .op 56 (.move (.t 0)), .orN 61 0 [.op 57 (.move (.t 5)), .op 58 (.fieldAddr 1 (.t 7)), .op 59 (.load none (.t 0)), .op 60 (.lookup (.one 1) (.c (.bool false)) false (.t 2) (.t 0))] (.t 0), .op 62 (.move (.t 0)), .orN 73 0 [.op 63 (.fieldAddr 0 (.t 8)), .op 64 (.load none (.t 0)), .op 65 (.bin .neq (.t 0) (.k (.c (.str [])))), .op 66 (.move (.t 0)), .andN 72 0 [.op 67 (.fieldAddr 0 (.t 12)), .op 68 (.load none (.t 0)), .op 69 (.fieldAddr 1 (.t 14)), .op 70 (.load none (.t 0)), .op 71 (.bin .eql (.t 2) (.t 0))] (.t 0)] (.t 0), .op 7 (.move (.t 0))] [9, 10, 11, 0, 12, 13, 14])
@[simp] def c57_n10 : SCode := (.region [.op 74 (.fieldAddr 0 (.t 1)), .op 75 (.load none (.t 0)), .op 76 (.fieldAddr 1 (.t 3)), .op 77 (.load none (.t 0)), .op 78 (.call false (.k (.c (.func 118 [] []))) [(.t 2), (.t 0)]), .op 8 (.new [(.c (.str [])), (.c (.str [])), (.c (.int .i64 0))]), .eff (.store 3 (.t 0) (.t 1))] [6, 7, 8, 9, 0, 10, 11, 12])
@[simp] def c57_n12 : SCode := (.seq (.draw 1 [.op 79 (.move (.t 2)), .op 80 (.call false (.k (.c (.func 89 [] []))) [(.t 0), (.k (.c (.int .i64 8)))]), .op 81 (.move (.t 5)), .op 82 (.call false (.k (.c (.func 89 [] []))) [(.t 0), (.k (.c (.int .i64 9)))]), .op 83 (.fieldAddr 2 (.t 5)), .op 84 (.load none (.t 0)) none .var, .op 85 (.call false (.k (.c (.func 91 [] []))) [(.t 0), (.k (.c (.int .i64 0))), (.k (.c (.int .i64 3)))]), .op 86 (.fieldAddr 2 (.t 11)), .op 87 (.load none (.t 0)) none .var, .op 88 (.bin .gtr (.t 0) (.k (.c (.int .i64 0)))), .op 89 (.move (.t 0)), .andN 93 0 [.op 90 (.load (some 3) (.t 12)) none .var, .op 91 (.load (some 3) (.t 16)) none .var, .op 92 (.eqAgg (.many [1, 1, 0]) true (.t 1) (.t 0))] (.t 0), .op 94 (.call false (.k (.c (.func 89 [] []))) [(.t 0), (.k (.c (.int .i64 19)))]), .op 95 (.buildSlice 2 none 4 [(.c (.int .i64 0))] [(0, (.t 11)), (1, (.t 9)), (2, (.t 6)), (3, (.t 0))]) (some 0), .op 96 (.call false (.k (.c (.func 88 [] []))) [(.t 0)]), .op 9 (.move (.t 0))] [16, 17, 0, 21, 22, 23]) (.seq (.region [.op 97 (.move (.t 2)), .op 98 (.bin .neq (.t 0) (.k (.c (.int .i64 0))))] [2, 3, 4, 5, 6, 7, 0]) (.cond (.t 6) (.seq (.region [.op 99 (.move (.t 2)), .op 2 (.move (.t 0))] [0]) .ret) (.pre [0, 1, 3, 4, 5] .skip))))
@[simp] def c57_n13 : SCode := (.draw 0 [.op 100 (.move (.t 0)), .op 101 (.fieldAddr 0 (.t 2)), .op 102 (.load none (.t 0)) none .var, .op 103 (.move (.t 3)), .op 104 (.fieldAddr 1 (.t 5)), .op 105 (.load none (.t 0)) none .var, .op 106 (.fieldAddr 0 (.t 7)), .op 107 (.load none (.t 0)) none .var, .op 108 (.bin .neq (.t 0) (.k (.c (.str [])))), .op 109 (.fieldAddr 1 (.t 10)), .op 110 (.load none (.t 0)) none .var, .op 111 (.bin .neq (.t 0) (.k (.c (.str [])))), .eff (.mapUpdate (.one 1) (.t 11) (.t 9) (.t 3)) none .old, .eff (.mapUpdate (.one 1) (.t 8) (.t 6) (.t 0)) none .old] [12, 14, 15, 16])
def c57_n11 : SCode := .seq c57_n12 c57_n13
instance : IsSeq c57_n11 c57_n12 c57_n13 := ⟨rfl⟩
def c57_n9 : SCode := .seq c57_n10 c57_n11
instance : IsSeq c57_n9 c57_n10 c57_n11 := ⟨rfl⟩
def c57_n7 : SCode := .seq c57_n8 c57_n9
instance : IsSeq c57_n7 c57_n8 c57_n9 := ⟨rfl⟩
def c57_n5 : SCode := .seq c57_n6 c57_n7
instance : IsSeq c57_n5 c57_n6 c57_n7 := ⟨rfl⟩
def c57_n3 : SCode := .seq c57_n4 c57_n5
instance : IsSeq c57_n3 c57_n4 c57_n5 := ⟨rfl⟩
def c57_n2 : SCode := .seq (.block 1 [some 3, some 26, some 27, some 28] c57_n3) (.region [.op 112 (.bin .add (.t 3) (.k (.c (.int .i64 1)))), .op 28 (.move (.t 0))] [2, 3, 4, 0])
instance : IsSeq c57_n2 (.block 1 [some 3, some 26, some 27, some 28] c57_n3) (.region [.op 112 (.bin .add (.t 3) (.k (.c (.int .i64 1)))), .op 28 (.move (.t 0))] [2, 3, 4, 0]) := ⟨rfl⟩
def c57_n1 : SCode := .seq (.cond (.t 4) (.pre [0, 1, 2, 3] .skip) (.pre [] (.exit 0))) c57_n2
instance : IsSeq c57_n1 (.cond (.t 4) (.pre [0, 1, 2, 3] .skip) (.pre [] (.exit 0))) c57_n2 := ⟨rfl⟩
def c57_l0b : SCode := (.seq (.region [.op 29 (.bin .lss (.t 3) (.t 2))] [1, 2, 3, 4, 0]) c57_n1)
def c57_l0 : SCode := .loop true c57_l0b
@[simp] def c57_n15 : SCode := (.seq (.region [.op 10 (.move (.t 0)), .op 11 (.len 1 (.t 0)), .op 12 (.bin .lss (.t 0) (.k (.c (.int .i64 1)))), .op 13 (.move (.t 0)), .orN 17 0 [.op 14 (.move (.t 4)), .op 15 (.len 1 (.t 0)), .op 16 (.bin .gtr (.t 0) (.k (.c (.int .i64 32))))] (.t 0), .op 18 (.move (.t 0)), .orN 24 0 [.op 19 (.move (.t 6)), .op 20 (.len 1 (.t 0)), .op 21 (.conv .u64 (.t 0)), .op 22 (.call false (.k (.c (.func 117 [] []))) [(.t 0)]), .op 23 (.bin .neq (.t 0) (.k (.c (.int .i64 1))))] (.t 0)] [7, 0]) (.cond (.t 1) (.seq (.region [.op 2 (.move (.k (.c (.int .i64 2))))] [0]) .ret) (.pre [0] .skip)))
def c57_n14 : SCode := .seq c57_n15 (.seq (.region [.op 25 (.makeMap), .op 3 (.move (.t 0))] [2, 0]) (.seq (.seq (.region [.op 26 (.move (.t 0)), .op 27 (.len 1 (.t 0)), .op 28 (.move (.k (.c (.int .i64 0))))] [4, 2, 1, 0]) (.block 0 [] c57_l0)) (.seq (.region [.op 2 (.move (.k (.c (.int .i64 0))))] [0]) .ret)))
instance : IsSeq c57_n14 c57_n15 (.seq (.region [.op 25 (.makeMap), .op 3 (.move (.t 0))] [2, 0]) (.seq (.seq (.region [.op 26 (.move (.t 0)), .op 27 (.len 1 (.t 0)), .op 28 (.move (.k (.c (.int .i64 0))))] [4, 2, 1, 0]) (.block 0 [] c57_l0)) (.seq (.region [.op 2 (.move (.k (.c (.int .i64 0))))] [0]) .ret))) := ⟨rfl⟩
def c57 : SCode := (.seq (.region [.op 2 (.move (.k (.c (.int .i64 0))))] [1]) c57_n14)
def F57 : SFunc := .code .pure 113 1 [some 2] [.tmp 0] c57

-- crux/start.Next
@[simp] def c58_n2 : SCode := (.seq (.region [.op 5 (.move (.t 0)), .op 6 (.call false (.k (.c (.func 57 [] []))) [(.t 0)]), .op 7 (.move (.t 2)), .op 8 (.len 1 (.t 0)), .op 9 (.bin .eql (.t 0) (.k (.c (.int .i64 1)))), .op 10 (.call false (.k (.c (.func 89 [] []))) [(.t 0), (.k (.c (.int .i64 20)))]), .op 11 (.move (.t 6)), .op 12 (.call false (.k (.c (.func 119 [] []))) [(.t 0)]), .op 13 (.call false (.k (.c (.func 89 [] []))) [(.t 0), (.k (.c (.int .i64 24)))]), .op 14 (.buildSlice 2 none 3 [(.c (.int .i64 0))] [(0, (.t 7)), (1, (.t 3)), (2, (.t 0))]), .op 15 (.call false (.k (.c (.func 88 [] []))) [(.t 0)]), .op 4 (.move (.t 0))] [12, 0]) (.seq (.region [.op 16 (.move (.t 1)), .op 17 (.bin .neq (.t 0) (.k (.c (.int .i64 0))))] [2, 3, 0]) (.cond (.t 2) (.seq (.region [.op 18 (.move (.t 1)), .op 2 (.mkNil (some 3)), .op 3 (.move (.t 1))] [1, 0]) .ret) (.pre [0] .skip))))
def c58_n1 : SCode := .seq c58_n2 (.seq (.region [.op 19 (.move (.t 0)), .op 20 (.call false (.k (.c (.func 120 [] []))) [(.t 0)]), .op 2 (.move (.t 0)), .op 3 (.move (.k (.c (.int .i64 0))))] [1, 0]) .ret)
instance : IsSeq c58_n1 c58_n2 (.seq (.region [.op 19 (.move (.t 0)), .op 20 (.call false (.k (.c (.func 120 [] []))) [(.t 0)]), .op 2 (.move (.t 0)), .op 3 (.move (.k (.c (.int .i64 0))))] [1, 0]) .ret) := ⟨rfl⟩
def c58 : SCode := (.seq (.region [.op 2 (.mkNil (some 3)), .op 3 (.move (.k (.c (.int .i64 0))))] [2]) c58_n1)
def F58 : SFunc := .code .pure 21 1 [some 2, some 3] [.tmp 0, .tmp 1] c58

-- crux/start.Small
@[simp] def c59_n2 : SCode := (.seq (.region [.op 5 (.move (.t 0)), .op 6 (.call false (.k (.c (.func 57 [] []))) [(.t 0)]), .op 7 (.move (.t 2)), .op 8 (.len 1 (.t 0)), .op 9 (.bin .neq (.t 0) (.k (.c (.int .i64 2)))), .op 10 (.call false (.k (.c (.func 89 [] []))) [(.t 0), (.k (.c (.int .i64 2)))]), .op 11 (.move (.t 6)), .op 12 (.call false (.k (.c (.func 119 [] []))) [(.t 0)]), .op 13 (.call false (.k (.c (.func 89 [] []))) [(.t 0), (.k (.c (.int .i64 24)))]), .op 14 (.buildSlice 2 none 3 [(.c (.int .i64 0))] [(0, (.t 7)), (1, (.t 3)), (2, (.t 0))]), .op 15 (.call false (.k (.c (.func 88 [] []))) [(.t 0)]), .op 4 (.move (.t 0))] [12, 13, 0]) (.seq (.region [.op 16 (.move (.t 2)), .op 17 (.bin .neq (.t 0) (.k (.c (.int .i64 0))))] [2, 3, 4, 0]) (.cond (.t 3) (.seq (.region [.op 18 (.build [(.c (.str [])), (.c (.str [])), (.c (.int .i64 0))] []), .op 19 (.move (.t 3)), .eff (.store 3 (.t 3) (.t 1)), .op 3 (.move (.t 0))] [4, 0]) .ret) (.pre [0, 1] .skip))))
@[simp] def c59_n4 : SCode := (.draw 0 [.op 20 (.move (.t 0)), .op 21 (.idxSlice 3 (.t 0) (.k (.c (.int .i64 0)))), .op 22 (.load (some 3) (.t 0)) none .old, .op 23 (.call false (.k (.c (.func 121 [] []))) [(.t 0)]), .op 24 (.move (.t 4)), .op 25 (.idxSlice 3 (.t 0) (.k (.c (.int .i64 1)))), .op 26 (.load (some 3) (.t 0)) none .old, .op 27 (.call false (.k (.c (.func 121 [] []))) [(.t 0)]), .op 28 (.call false (.k (.c (.func 118 [] []))) [(.t 4), (.t 0)]), .eff (.store 3 (.t 10) (.t 0)) none .var, .op 3 (.move (.k (.c (.int .i64 0))))] [11, 0])
def c59_n3 : SCode := .seq c59_n4 .ret
instance : IsSeq c59_n3 c59_n4 .ret := ⟨rfl⟩
def c59_n1 : SCode := .seq c59_n2 c59_n3
instance : IsSeq c59_n1 c59_n2 c59_n3 := ⟨rfl⟩
def c59 : SCode := (.seq (.region [.op 2 (.new [(.c (.str [])), (.c (.str [])), (.c (.int .i64 0))]), .op 3 (.move (.k (.c (.int .i64 0))))] [2, 1]) c59_n1)
def F59 : SFunc := .code .pure 29 1 [some 2, some 3] [.cell 0 (some 3), .tmp 1] c59

-- crux/start.Duel
@[simp] def c63_n2 : SCode := (.seq (.draw 0 [.op 9 (.fieldAddr 0 (.t 0)), .op 10 (.load none (.t 0)) none .var, .op 11 (.fieldAddr 1 (.t 2)), .op 12 (.load none (.t 0)) none .var, .op 13 (.buildSlice 1 none 2 [(.c (.int .i64 0))] [(0, (.t 2)), (1, (.t 0))]), .op 14 (.call true (.k (.c (.func 124 [] []))) [(.t 0)]), .op 15 (.fieldAddr 0 (.t 7)), .op 16 (.load none (.t 0)) none .var, .op 17 (.fieldAddr 1 (.t 9)), .op 18 (.load none (.t 0)) none .var, .op 19 (.buildSlice 1 none 2 [(.c (.int .i64 0))] [(0, (.t 2)), (1, (.t 0))]), .op 20 (.call true (.k (.c (.func 124 [] []))) [(.t 0)]), .op 21 (.buildSlice 1 none 2 [(.c (.int .i64 0))] [(0, (.t 6)), (1, (.t 0))]), .op 22 (.call true (.k (.c (.func 88 [] []))) [(.t 0)]), .op 6 (.move (.t 0))] [15, 16, 0]) (.seq (.region [.op 23 (.move (.t 2)), .op 24 (.bin .neq (.t 0) (.k (.c (.int .i64 0))))] [2, 3, 4, 0]) (.cond (.t 3) (.seq (.region [.op 25 (.move (.t 2)), .op 4 (.move (.k (.c (.int .i64 0)))), .op 5 (.move (.t 1))] [1, 0]) .ret) (.pre [0, 1] .skip))))
@[simp] def c63_n4 : SCode := (.draw 0 [.op 26 (.fieldAddr 0 (.t 0)), .op 27 (.load none (.t 0)) none .var, .op 28 (.bin .lss (.t 0) (.k (.c (.int .i64 100)))), .op 29 (.fieldAddr 0 (.t 4)), .op 30 (.load none (.t 0)) none .var, .op 31 (.bin .lss (.t 0) (.k (.c (.int .i64 100)))), .op 7 (.move (.t 3)), .op 8 (.move (.t 1))] [8, 9, 1, 0])
@[simp] def c63_n7 : SCode := (.region [.op 33 (.move (.t 2)), .op 34 (.move (.t 0)), .andN 36 0 [.op 35 (.move (.t 5))] (.t 0), .op 32 (.move (.t 0))] [4, 5, 6, 7, 0])
@[simp] def c63_n14 : SCode := (.region [.op 42 (.fieldAddr 1 (.t 0)), .op 43 (.load none (.t 0)), .op 44 (.bin .eql (.t 0) (.k (.c (.int .i64 0)))), .op 45 (.move (.t 0)), .andN 49 0 [.op 46 (.fieldAddr 1 (.t 5)), .op 47 (.load none (.t 0)), .op 48 (.bin .eql (.t 0) (.k (.c (.int .i64 0))))] (.t 0), .op 41 (.move (.t 0))] [6, 7, 0])
@[simp] def c63_n17 : SCode := (.region [.op 51 (.fieldAddr 1 (.t 0)), .op 52 (.load none (.t 0)), .op 53 (.bin .eql (.t 0) (.k (.c (.int .i64 0)))), .op 50 (.move (.t 0))] [4, 5, 0])
def c63_n18 : SCode := .cond (.t 2) (.seq (.region [.op 4 (.move (.k (.c (.int .i64 2)))), .op 5 (.move (.k (.c (.int .i64 0))))] [1, 0]) .ret) (.seq (.region [.op 55 (.fieldAddr 1 (.t 1)), .op 56 (.load none (.t 0)), .op 57 (.bin .eql (.t 0) (.k (.c (.int .i64 0)))), .op 54 (.move (.t 0))] [4, 5, 0]) (.cond (.t 2) (.seq (.region [.op 4 (.move (.k (.c (.int .i64 1)))), .op 5 (.move (.k (.c (.int .i64 0))))] [1, 0]) .ret) (.pre [0, 1] .skip)))
instance : IsCond c63_n18 (.t 2) (.seq (.region [.op 4 (.move (.k (.c (.int .i64 2)))), .op 5 (.move (.k (.c (.int .i64 0))))] [1, 0]) .ret) (.seq (.region [.op 55 (.fieldAddr 1 (.t 1)), .op 56 (.load none (.t 0)), .op 57 (.bin .eql (.t 0) (.k (.c (.int .i64 0)))), .op 54 (.move (.t 0))] [4, 5, 0]) (.cond (.t 2) (.seq (.region [.op 4 (.move (.k (.c (.int .i64 1)))), .op 5 (.move (.k (.c (.int .i64 0))))] [1, 0]) .ret) (.pre [0, 1] .skip))) := ⟨rfl⟩
def c63_n16 : SCode := .seq c63_n17 c63_n18
instance : IsSeq c63_n16 c63_n17 c63_n18 := ⟨rfl⟩
def c63_n15 : SCode := .cond (.t 2) (.seq (.region [.op 4 (.move (.k (.c (.int .i64 0)))), .op 5 (.move (.k (.c (.int .i64 0))))] [1, 0]) .ret) c63_n16
instance : IsCond c63_n15 (.t 2) (.seq (.region [.op 4 (.move (.k (.c (.int .i64 0)))), .op 5 (.move (.k (.c (.int .i64 0))))] [1, 0]) .ret) c63_n16 := ⟨rfl⟩
def c63_n13 : SCode := .seq c63_n14 c63_n15
instance : IsSeq c63_n13 c63_n14 c63_n15 := ⟨rfl⟩
def c63_n12 : SCode := .cond (.t 2) (.seq (.region [.op 4 (.move (.k (.c (.int .i64 1)))), .op 5 (.move (.k (.c (.int .i64 0))))] [1, 0]) .ret) c63_n13
instance : IsCond c63_n12 (.t 2) (.seq (.region [.op 4 (.move (.k (.c (.int .i64 1)))), .op 5 (.move (.k (.c (.int .i64 0))))] [1, 0]) .ret) c63_n13 := ⟨rfl⟩
def c63_n11 : SCode := .seq (.region [.op 40 (.move (.t 2)), .op 39 (.move (.t 0))] [2, 3, 0]) c63_n12
instance : IsSeq c63_n11 (.region [.op 40 (.move (.t 2)), .op 39 (.move (.t 0))] [2, 3, 0]) c63_n12 := ⟨rfl⟩
def c63_n10 : SCode := .cond (.t 3) (.seq (.region [.op 4 (.move (.k (.c (.int .i64 2)))), .op 5 (.move (.k (.c (.int .i64 0))))] [1, 0]) .ret) c63_n11
instance : IsCond c63_n10 (.t 3) (.seq (.region [.op 4 (.move (.k (.c (.int .i64 2)))), .op 5 (.move (.k (.c (.int .i64 0))))] [1, 0]) .ret) c63_n11 := ⟨rfl⟩
def c63_n9 : SCode := .seq (.region [.op 38 (.move (.t 2)), .op 37 (.move (.t 0))] [2, 3, 5, 0]) c63_n10
instance : IsSeq c63_n9 (.region [.op 38 (.move (.t 2)), .op 37 (.move (.t 0))] [2, 3, 5, 0]) c63_n10 := ⟨rfl⟩
def c63_n8 : SCode := .cond (.t 4) (.seq (.region [.op 4 (.move (.k (.c (.int .i64 3)))), .op 5 (.move (.k (.c (.int .i64 0))))] [1, 0]) .ret) c63_n9
instance : IsCond c63_n8 (.t 4) (.seq (.region [.op 4 (.move (.k (.c (.int .i64 3)))), .op 5 (.move (.k (.c (.int .i64 0))))] [1, 0]) .ret) c63_n9 := ⟨rfl⟩
def c63_n6 : SCode := .seq c63_n7 c63_n8
instance : IsSeq c63_n6 c63_n7 c63_n8 := ⟨rfl⟩
@[simp] def c63_n22 : SCode := (.region [.op 71 (.bin .eql (.t 0) (.k (.c (.int .i64 (-1))))), .op 70 (.move (.t 0))] [2, 0])
def c63_n23 : SCode := .cond (.t 1) (.seq (.region [.op 4 (.move (.k (.c (.int .i64 1)))), .op 5 (.move (.k (.c (.int .i64 0))))] [1, 0]) .ret) (.seq (.region [.op 73 (.bin .eql (.t 0) (.k (.c (.int .i64 1)))), .op 72 (.move (.t 0))] [0]) (.cond (.t 0) (.seq (.region [.op 4 (.move (.k (.c (.int .i64 2)))), .op 5 (.move (.k (.c (.int .i64 0))))] [1, 0]) .ret) (.pre [] .skip)))
instance : IsCond c63_n23 (.t 1) (.seq (.region [.op 4 (.move (.k (.c (.int .i64 1)))), .op 5 (.move (.k (.c (.int .i64 0))))] [1, 0]) .ret) (.seq (.region [.op 73 (.bin .eql (.t 0) (.k (.c (.int .i64 1)))), .op 72 (.move (.t 0))] [0]) (.cond (.t 0) (.seq (.region [.op 4 (.move (.k (.c (.int .i64 2)))), .op 5 (.move (.k (.c (.int .i64 0))))] [1, 0]) .ret) (.pre [] .skip))) := ⟨rfl⟩
def c63_n21 : SCode := .seq c63_n22 c63_n23
instance : IsSeq c63_n21 c63_n22 c63_n23 := ⟨rfl⟩
def c63_n20 : SCode := .block 1 [] c63_n21
instance : IsBlock c63_n20 1 [] c63_n21 := ⟨rfl⟩
@[simp] def c63_n24 : SCode := (.seq (.draw 1 [.op 58 (.fieldAddr 1 (.t 0)), .op 59 (.load none (.t 0)) none .var, .op 60 (.fieldAddr 1 (.t 3)), .op 61 (.load none (.t 0)) none .var, .op 62 (.call false (.k (.c (.func 96 [] []))) [(.t 2), (.t 0)]), .op 63 (.fieldAddr 0 (.t 5)), .op 64 (.load none (.t 0)) none .var, .op 65 (.fieldAddr 0 (.t 8)), .op 66 (.load none (.t 0)) none .var, .op 67 (.call false (.k (.c (.func 96 [] []))) [(.t 2), (.t 0)]), .op 68 (.buildSlice 2 none 2 [(.c (.int .i64 0))] [(0, (.t 5)), (1, (.t 0))]) (some 0), .op 69 (.call false (.k (.c (.func 104 [] []))) [(.t 0)])] [0]) c63_n20)
def c63_n19 : SCode := .seq c63_n24 (.seq (.region [.op 4 (.move (.k (.c (.int .i64 0)))), .op 5 (.move (.k (.c (.int .i64 0))))] [1, 0]) .ret)
instance : IsSeq c63_n19 c63_n24 (.seq (.region [.op 4 (.move (.k (.c (.int .i64 0)))), .op 5 (.move (.k (.c (.int .i64 0))))] [1, 0]) .ret) := ⟨rfl⟩
def c63_n5 : SCode := .seq (.block 0 [some 2, some 3] c63_n6) c63_n19
instance : IsSeq c63_n5 (.block 0 [some 2, some 3] c63_n6) c63_n19 := ⟨rfl⟩
def c63_n3 : SCode := .seq c63_n4 c63_n5
instance : IsSeq c63_n3 c63_n4 c63_n5 := ⟨rfl⟩
def c63_n1 : SCode := .seq c63_n2 c63_n3
instance : IsSeq c63_n1 c63_n2 c63_n3 := ⟨rfl⟩
def c63 : SCode := (.seq (.region [.op 2 (.box (.t 0)), .op 3 (.box (.t 2)), .op 4 (.move (.k (.c (.int .i64 0)))), .op 5 (.move (.k (.c (.int .i64 0))))] [3, 2]) c63_n1)
def F63 : SFunc := .code .pure 74 2 [some 4, some 5] [.tmp 0, .tmp 1] c63

-- crux/start.CheckResults
-- c73_l0: env [0, 9, 10, 11]
@[simp] def c73_n4 : SCode := (.region [.op 13 (.move (.t 3)), .op 14 (.idxSlice 3 (.t 2) (.t 4)), .op 15 (.load (some 3) (.t 0)), .op 4 (.new [(.c (.str [])), (.c (.str [])), .nil]), .op 3 (.move (.t 3)), .eff (.store 3 (.t 1) (.t 2))] [5, 0, 1, 6, 7, 8])
@[simp] def c73_n6 : SCode := (.draw 0 [.op 16 (.load (some 3) (.t 2)) none .var, .op 17 (.move (.t 1)), .op 18 (.move (.t 3)), .op 19 (.sliceSl 3 (.t 1) none (some (.t 0)) none), .op 20 (.call false (.k (.c (.func 131 [] []))) [(.t 3), (.t 0)]), .op 5 (.move (.t 0))] [6, 0, 9, 10, 11])
def c73_n5 : SCode := .seq c73_n6 (.seq (.region [.op 21 (.move (.t 1)), .op 22 (.bin .neq (.t 0) (.k (.c (.int .i64 0))))] [2, 3, 4, 5, 6, 0]) (.cond (.t 5) (.seq (.region [.op 23 (.move (.t 1)), .op 2 (.move (.t 0))] [0]) .ret) (.pre [0, 2, 3, 4] .skip)))
instance : IsSeq c73_n5 c73_n6 (.seq (.region [.op 21 (.move (.t 1)), .op 22 (.bin .neq (.t 0) (.k (.c (.int .i64 0))))] [2, 3, 4, 5, 6, 0]) (.cond (.t 5) (.seq (.region [.op 23 (.move (.t 1)), .op 2 (.move (.t 0))] [0]) .ret) (.pre [0, 2, 3, 4] .skip))) := ⟨rfl⟩
def c73_n3 : SCode := .seq c73_n4 c73_n5
instance : IsSeq c73_n3 c73_n4 c73_n5 := ⟨rfl⟩
def c73_n2 : SCode := .seq (.block 1 [some 0, some 9, some 10, some 11] c73_n3) (.region [.op 24 (.bin .add (.t 3) (.k (.c (.int .i64 1)))), .op 11 (.move (.t 0))] [2, 3, 4, 0])
instance : IsSeq c73_n2 (.block 1 [some 0, some 9, some 10, some 11] c73_n3) (.region [.op 24 (.bin .add (.t 3) (.k (.c (.int .i64 1)))), .op 11 (.move (.t 0))] [2, 3, 4, 0]) := ⟨rfl⟩
def c73_n1 : SCode := .seq (.cond (.t 4) (.pre [0, 1, 2, 3] .skip) (.pre [] (.exit 0))) c73_n2
instance : IsSeq c73_n1 (.cond (.t 4) (.pre [0, 1, 2, 3] .skip) (.pre [] (.exit 0))) c73_n2 := ⟨rfl⟩
def c73_l0b : SCode := (.seq (.region [.op 12 (.bin .lss (.t 3) (.t 2))] [1, 2, 3, 4, 0]) c73_n1)
def c73_l0 : SCode := .loop true c73_l0b
@[simp] def c73_n8 : SCode := (.seq (.region [.op 6 (.move (.t 0)), .op 7 (.len 1 (.t 0)), .op 8 (.bin .gtr (.t 0) (.k (.c (.int .i64 160))))] [3, 0]) (.cond (.t 1) (.seq (.region [.op 2 (.move (.k (.c (.int .i64 5))))] [0]) .ret) (.pre [0] .skip)))
def c73_n7 : SCode := .seq c73_n8 (.seq (.seq (.region [.op 9 (.move (.t 0)), .op 10 (.len 1 (.t 0)), .op 11 (.move (.k (.c (.int .i64 0))))] [3, 2, 1, 0]) (.block 0 [] c73_l0)) (.seq (.region [.op 2 (.move (.k (.c (.int .i64 0))))] [0]) .ret))
instance : IsSeq c73_n7 c73_n8 (.seq (.seq (.region [.op 9 (.move (.t 0)), .op 10 (.len 1 (.t 0)), .op 11 (.move (.k (.c (.int .i64 0))))] [3, 2, 1, 0]) (.block 0 [] c73_l0)) (.seq (.region [.op 2 (.move (.k (.c (.int .i64 0))))] [0]) .ret)) := ⟨rfl⟩
def c73 : SCode := (.seq (.region [.op 2 (.move (.k (.c (.int .i64 0))))] [1]) c73_n7)
def F73 : SFunc := .code .pure 25 1 [some 2] [.tmp 0] c73

-- crux/start.Forward
@[simp] def c74_n2 : SCode := (.seq (.region [.op 7 (.move (.t 0)), .op 8 (.call false (.k (.c (.func 73 [] []))) [(.t 0)]), .op 9 (.move (.t 3)), .op 10 (.call false (.k (.c (.func 132 [] []))) [(.t 0)]), .op 11 (.buildSlice 2 none 2 [(.c (.int .i64 0))] [(0, (.t 2)), (1, (.t 0))]), .op 12 (.call false (.k (.c (.func 88 [] []))) [(.t 0)]), .op 6 (.move (.t 0))] [7, 8, 0]) (.seq (.region [.op 13 (.move (.t 2)), .op 14 (.bin .neq (.t 0) (.k (.c (.int .i64 0))))] [2, 3, 4, 0]) (.cond (.t 3) (.seq (.region [.op 15 (.move (.t 2)), .op 4 (.mkNil none), .op 5 (.move (.t 1))] [1, 0]) .ret) (.pre [0, 1] .skip))))
def c74_n1 : SCode := .seq c74_n2 (.seq (.region [.op 16 (.move (.t 0)), .op 17 (.move (.t 2)), .op 18 (.call false (.k (.c (.func 133 [] []))) [(.t 1), (.t 0)]), .op 4 (.move (.t 0)), .op 5 (.move (.k (.c (.int .i64 0))))] [1, 0]) .ret)
instance : IsSeq c74_n1 c74_n2 (.seq (.region [.op 16 (.move (.t 0)), .op 17 (.move (.t 2)), .op 18 (.call false (.k (.c (.func 133 [] []))) [(.t 1), (.t 0)]), .op 4 (.move (.t 0)), .op 5 (.move (.k (.c (.int .i64 0))))] [1, 0]) .ret) := ⟨rfl⟩
def c74 : SCode := (.seq (.region [.op 4 (.mkNil none), .op 5 (.move (.k (.c (.int .i64 0))))] [2, 3]) c74_n1)
def F74 : SFunc := .code .pure 19 2 [some 4, some 5] [.tmp 0, .tmp 1] c74

-- crux/start.Replace
-- c75_l0: env [0, 1, 5, 27, 28, 29]
@[simp] def c75_n4 : SCode := (.region [.op 31 (.move (.t 5)), .op 32 (.idxSlice 1 (.t 4) (.t 6)), .op 33 (.load none (.t 0)), .op 10 (.new [(.c (.str []))]), .op 9 (.move (.t 3)), .eff (.store 1 (.t 1) (.t 2))] [5, 6, 7, 0, 1, 8, 9, 10])
@[simp] def c75_n6 : SCode := (.region [.op 34 (.move (.t 0)), .op 35 (.mkFunc 135 [] [(.t 5)]), .op 36 (.call false (.k (.c (.func 134 [] []))) [(.t 1), (.t 0)]), .op 11 (.move (.t 0))] [4, 5, 6, 7, 8, 0, 9, 10, 11])
@[simp] def c75_n8 : SCode := (.draw 1 [.op 37 (.move (.t 5)), .op 38 (.not (.t 0)), .op 39 (.call false (.k (.c (.func 89 [] []))) [(.t 0), (.k (.c (.int .i64 10)))]), .op 40 (.load none (.t 5)) none .var, .op 41 (.move (.t 7)), .op 42 (.sliceSl 1 (.t 1) none (some (.t 0)) none), .op 43 (.load none (.t 10)) none .var, .op 44 (.call false (.k (.c (.func 113 [] []))) [(.t 1), (.t 0)]), .op 45 (.call false (.k (.c (.func 89 [] []))) [(.t 0), (.k (.c (.int .i64 9)))]), .op 46 (.buildSlice 2 none 2 [(.c (.int .i64 0))] [(0, (.t 6)), (1, (.t 0))]) (some 0), .op 47 (.call false (.k (.c (.func 88 [] []))) [(.t 0)]), .op 12 (.move (.t 0))] [12, 13, 14, 0, 18, 19, 20])
def c75_n7 : SCode := .seq c75_n8 (.seq (.region [.op 48 (.move (.t 3)), .op 49 (.bin .neq (.t 0) (.k (.c (.int .i64 0))))] [2, 3, 4, 5, 6, 7, 8, 0]) (.cond (.t 7) (.seq (.region [.op 50 (.move (.t 3)), .op 6 (.mkNil none), .op 7 (.move (.t 1))] [1, 0]) .ret) (.pre [0, 1, 2, 4, 5, 6] .skip)))
instance : IsSeq c75_n7 c75_n8 (.seq (.region [.op 48 (.move (.t 3)), .op 49 (.bin .neq (.t 0) (.k (.c (.int .i64 0))))] [2, 3, 4, 5, 6, 7, 8, 0]) (.cond (.t 7) (.seq (.region [.op 50 (.move (.t 3)), .op 6 (.mkNil none), .op 7 (.move (.t 1))] [1, 0]) .ret) (.pre [0, 1, 2, 4, 5, 6] .skip))) := ⟨rfl⟩
def c75_n5 : SCode := .seq c75_n6 c75_n7
instance : IsSeq c75_n5 c75_n6 c75_n7 := ⟨rfl⟩
def c75_n3 : SCode := .seq c75_n4 c75_n5
instance : IsSeq c75_n3 c75_n4 c75_n5 := ⟨rfl⟩
def c75_n2 : SCode := .seq (.block 1 [some 0, some 1, some 5, some 27, some 28, some 29] c75_n3) (.region [.op 51 (.bin .add (.t 5) (.k (.c (.int .i64 1)))), .op 29 (.move (.t 0))] [2, 3, 4, 5, 6, 0])
instance : IsSeq c75_n2 (.block 1 [some 0, some 1, some 5, some 27, some 28, some 29] c75_n3) (.region [.op 51 (.bin .add (.t 5) (.k (.c (.int .i64 1)))), .op 29 (.move (.t 0))] [2, 3, 4, 5, 6, 0]) := ⟨rfl⟩
def c75_n1 : SCode := .seq (.cond (.t 6) (.pre [0, 1, 2, 3, 4, 5] .skip) (.pre [0, 1, 2] (.exit 0))) c75_n2
instance : IsSeq c75_n1 (.cond (.t 6) (.pre [0, 1, 2, 3, 4, 5] .skip) (.pre [0, 1, 2] (.exit 0))) c75_n2 := ⟨rfl⟩
def c75_l0b : SCode := (.seq (.region [.op 30 (.bin .lss (.t 5) (.t 4))] [1, 2, 3, 4, 5, 6, 0]) c75_n1)
def c75_l0 : SCode := .loop true c75_l0b
@[simp] def c75_n10 : SCode := (.seq (.draw 1 [.op 14 (.move (.t 0)), .op 15 (.call false (.k (.c (.func 73 [] []))) [(.t 0)]), .op 16 (.move (.t 3)), .op 17 (.call false (.k (.c (.func 132 [] []))) [(.t 0)]), .op 18 (.load none (.t 6)) none .var, .op 19 (.len 1 (.t 0)) none .old, .op 20 (.bin .gtr (.t 0) (.k (.c (.int .i64 160)))), .op 21 (.call false (.k (.c (.func 89 [] []))) [(.t 0), (.k (.c (.int .i64 5)))]), .op 22 (.buildSlice 2 none 3 [(.c (.int .i64 0))] [(0, (.t 6)), (1, (.t 4)), (2, (.t 0))]) (some 0), .op 23 (.call false (.k (.c (.func 88 [] []))) [(.t 0)]), .op 8 (.move (.t 0))] [11, 12, 13, 0]) (.seq (.region [.op 24 (.move (.t 3)), .op 25 (.bin .neq (.t 0) (.k (.c (.int .i64 0))))] [2, 3, 4, 5, 0]) (.cond (.t 4) (.seq (.region [.op 26 (.move (.t 3)), .op 6 (.mkNil none), .op 7 (.move (.t 1))] [1, 0]) .ret) (.pre [0, 1, 2] .skip))))
@[simp] def c75_n12 : SCode := (.seq (.region [.op 27 (.load none (.t 2)), .op 28 (.len 1 (.t 0)), .op 29 (.move (.k (.c (.int .i64 0))))] [3, 4, 5, 2, 1, 0]) (.block 0 [some 0, some 1, some 5] c75_l0))
@[simp] def c75_n14 : SCode := (.region [.op 52 (.move (.t 0)), .op 53 (.call false (.k (.c (.func 137 [] []))) [(.t 0)]), .op 54 (.mkFunc 138 [] [(.t 4)]), .op 55 (.call false (.k (.c (.func 136 [] []))) [(.t 1), (.t 0)]), .op 13 (.move (.t 0))] [6, 0])
def c75_n13 : SCode := .seq c75_n14 (.seq (.region [.op 56 (.move (.t 1)), .op 57 (.move (.t 1)), .op 58 (.call false (.k (.c (.func 133 [] []))) [(.t 1), (.t 0)]), .op 6 (.move (.t 0)), .op 7 (.move (.k (.c (.int .i64 0))))] [1, 0]) .ret)
instance : IsSeq c75_n13 c75_n14 (.seq (.region [.op 56 (.move (.t 1)), .op 57 (.move (.t 1)), .op 58 (.call false (.k (.c (.func 133 [] []))) [(.t 1), (.t 0)]), .op 6 (.move (.t 0)), .op 7 (.move (.k (.c (.int .i64 0))))] [1, 0]) .ret) := ⟨rfl⟩
def c75_n11 : SCode := .seq c75_n12 c75_n13
instance : IsSeq c75_n11 c75_n12 c75_n13 := ⟨rfl⟩
def c75_n9 : SCode := .seq c75_n10 c75_n11
instance : IsSeq c75_n9 c75_n10 c75_n11 := ⟨rfl⟩
def c75 : SCode := (.seq (.region [.op 5 (.box (.t 2)), .op 6 (.mkNil none), .op 7 (.move (.k (.c (.int .i64 0))))] [3, 4, 2]) c75_n9)
def F75 : SFunc := .code .pure 59 3 [some 6, some 7] [.tmp 0, .tmp 1] c75

-- crux/cruxref01.HasWord
-- c81_l0: env [0, 1, 5]
@[simp] def c81_n2 : SCode := (.block 1 [some 0, some 1, some 5] (.seq (.region [.op 12 (.move (.t 0)), .op 13 (.move (.t 3)), .op 14 (.idxSlice 1 (.t 1) (.t 0)), .op 15 (.load none (.t 0)), .op 16 (.move (.t 5)), .op 17 (.bin .eql (.t 1) (.t 0))] [6, 7, 8, 0]) (.cond (.t 3) (.seq (.region [.op 4 (.move (.k (.c (.bool true))))] [0]) .ret) (.pre [0, 1, 2] .skip))))
def c81_n1 : SCode := .seq c81_n2 (.region [.op 10 (.move (.t 2)), .op 11 (.bin .add (.t 0) (.k (.c (.int .i64 1)))), .op 5 (.move (.t 0))] [3, 4, 0])
instance : IsSeq c81_n1 c81_n2 (.region [.op 10 (.move (.t 2)), .op 11 (.bin .add (.t 0) (.k (.c (.int .i64 1)))), .op 5 (.move (.t 0))] [3, 4, 0]) := ⟨rfl⟩
def c81_l0b : SCode := (.seq (.seq (.region [.op 6 (.move (.t 2)), .op 7 (.move (.t 1)), .op 8 (.len 1 (.t 0)), .op 9 (.bin .lss (.t 2) (.t 0))] [4, 5, 6, 0]) (.cond (.t 3) (.pre [0, 1, 2] .skip) (.pre [] (.exit 0)))) c81_n1)
def c81_l0 : SCode := .loop true c81_l0b
def c81 : SCode := (.seq (.region [.op 4 (.move (.k (.c (.bool false))))] [1, 2]) (.seq (.seq (.region [.op 5 (.move (.k (.c (.int .i64 0))))] [1, 2, 0]) (.block 0 [] c81_l0)) (.seq (.region [.op 4 (.move (.k (.c (.bool false))))] [0]) .ret)))
def F81 : SFunc := .code .pure 18 2 [some 4] [.tmp 0] c81

-- crux/cruxref01.SameWords
-- c82_l0: env [0, 1, 5]
@[simp] def c82_n3 : SCode := (.draw 0 [.op 17 (.move (.t 0)), .op 18 (.move (.t 3)), .op 19 (.idxSlice 1 (.t 1) (.t 0)), .op 20 (.load none (.t 0)) none .old, .op 21 (.move (.t 5)), .op 22 (.move (.t 7)), .op 23 (.idxSlice 1 (.t 1) (.t 0)), .op 24 (.load none (.t 0)) none .old, .op 25 (.bin .neq (.t 4) (.t 0))] [9, 10, 11, 0])
def c82_n2 : SCode := .seq c82_n3 (.cond (.t 3) (.seq (.region [.op 4 (.move (.k (.c (.bool false))))] [0]) .ret) (.pre [0, 1, 2] .skip))
instance : IsSeq c82_n2 c82_n3 (.cond (.t 3) (.seq (.region [.op 4 (.move (.k (.c (.bool false))))] [0]) .ret) (.pre [0, 1, 2] .skip)) := ⟨rfl⟩
def c82_n1 : SCode := .seq (.block 1 [some 0, some 1, some 5] c82_n2) (.region [.op 15 (.move (.t 2)), .op 16 (.bin .add (.t 0) (.k (.c (.int .i64 1)))), .op 5 (.move (.t 0))] [3, 4, 0])
instance : IsSeq c82_n1 (.block 1 [some 0, some 1, some 5] c82_n2) (.region [.op 15 (.move (.t 2)), .op 16 (.bin .add (.t 0) (.k (.c (.int .i64 1)))), .op 5 (.move (.t 0))] [3, 4, 0]) := ⟨rfl⟩
def c82_l0b : SCode := (.seq (.seq (.region [.op 11 (.move (.t 2)), .op 12 (.move (.t 1)), .op 13 (.len 1 (.t 0)), .op 14 (.bin .lss (.t 2) (.t 0))] [4, 5, 6, 0]) (.cond (.t 3) (.pre [0, 1, 2] .skip) (.pre [] (.exit 0)))) c82_n1)
def c82_l0 : SCode := .loop true c82_l0b
@[simp] def c82_n5 : SCode := (.seq (.region [.op 6 (.move (.t 0)), .op 7 (.len 1 (.t 0)), .op 8 (.move (.t 3)), .op 9 (.len 1 (.t 0)), .op 10 (.bin .neq (.t 2) (.t 0))] [5, 6, 0]) (.cond (.t 2) (.seq (.region [.op 4 (.move (.k (.c (.bool false))))] [0]) .ret) (.pre [0, 1] .skip)))
def c82_n4 : SCode := .seq c82_n5 (.seq (.seq (.region [.op 5 (.move (.k (.c (.int .i64 0))))] [1, 2, 0]) (.block 0 [] c82_l0)) (.seq (.region [.op 4 (.move (.k (.c (.bool true))))] [0]) .ret))
instance : IsSeq c82_n4 c82_n5 (.seq (.seq (.region [.op 5 (.move (.k (.c (.int .i64 0))))] [1, 2, 0]) (.block 0 [] c82_l0)) (.seq (.region [.op 4 (.move (.k (.c (.bool true))))] [0]) .ret)) := ⟨rfl⟩
def c82 : SCode := (.seq (.region [.op 4 (.move (.k (.c (.bool false))))] [1, 2]) c82_n4)
def F82 : SFunc := .code .pure 26 2 [some 4] [.tmp 0] c82

-- crux/cruxlaw06.sample
@[simp] def c83_n2 : SCode := (.region [.op 1 (.build [(.c (.str [])), (.c (.str [])), (.c (.int .i64 0))] [(0, 1, (.k (.c (.str [97, 110, 110])))), (1, 1, (.k (.c (.str [110, 111, 114, 116, 104])))), (2, 1, (.k (.c (.int .i64 2))))]), .op 2 (.build [(.c (.str [])), (.c (.str [])), (.c (.int .i64 0))] [(0, 1, (.k (.c (.str [98, 101, 110])))), (1, 1, (.k (.c (.str [110, 111, 114, 116, 104]))))]), .op 3 (.build [(.c (.str [])), (.c (.str [])), (.c (.int .i64 0))] [(0, 1, (.k (.c (.str [99, 105, 97])))), (1, 1, (.k (.c (.str [115, 111, 117, 116, 104])))), (2, 1, (.k (.c (.int .i64 1))))]), .op 4 (.build [(.c (.str [])), (.c (.str [])), (.c (.int .i64 0))] [(0, 1, (.k (.c (.str [100, 97, 110])))), (1, 1, (.k (.c (.str [110, 111, 114, 116, 104])))), (2, 1, (.k (.c (.int .i64 3))))]), .op 5 (.buildSlice 0 (some 3) 4 [(.c (.str [])), (.c (.str [])), (.c (.int .i64 0))] [(0, (.t 3)), (1, (.t 2)), (2, (.t 1)), (3, (.t 0))]), .op 0 (.move (.t 0))] [0])
def c83_n1 : SCode := .seq c83_n2 .ret
instance : IsSeq c83_n1 c83_n2 .ret := ⟨rfl⟩
def c83 : SCode := (.seq (.region [.op 0 (.mkNil (some 3))] []) c83_n1)
def F83 : SFunc := .code .pure 6 0 [some 0] [.tmp 0] c83

-- crux/cruxlaw06.results
@[simp] def c84_n2 : SCode := (.region [.op 1 (.buildSlice 0 none 1 [(.c (.int .i64 0))] [(0, (.k (.c (.int .i64 3))))]), .op 2 (.build [(.c (.str [])), (.c (.str [])), .nil] [(0, 1, (.k (.c (.str [97])))), (2, 1, (.t 0))]), .op 3 (.buildSlice 0 none 1 [(.c (.int .i64 0))] [(0, (.k (.c (.int .i64 2))))]), .op 4 (.build [(.c (.str [])), (.c (.str [])), .nil] [(0, 1, (.k (.c (.str [98])))), (2, 1, (.t 0))]), .op 5 (.buildSlice 0 none 1 [(.c (.int .i64 0))] [(0, (.k (.c (.int .i64 2))))]), .op 6 (.build [(.c (.str [])), (.c (.str [])), .nil] [(0, 1, (.k (.c (.str [99])))), (2, 1, (.t 0))]), .op 7 (.buildSlice 0 none 1 [(.c (.int .i64 0))] [(0, (.k (.c (.int .i64 1))))]), .op 8 (.build [(.c (.str [])), (.c (.str [])), .nil] [(0, 1, (.k (.c (.str [100])))), (2, 1, (.t 0))]), .op 9 (.build [(.c (.str [])), (.c (.str [])), .nil] [(0, 1, (.k (.c (.str [101])))), (1, 1, (.k (.c (.str [100, 110, 102]))))]), .op 10 (.buildSlice 0 (some 3) 5 [(.c (.str [])), (.c (.str [])), .nil] [(0, (.t 7)), (1, (.t 5)), (2, (.t 3)), (3, (.t 1)), (4, (.t 0))]), .op 0 (.move (.t 0))] [0])
def c84_n1 : SCode := .seq c84_n2 .ret
instance : IsSeq c84_n1 c84_n2 .ret := ⟨rfl⟩
def c84 : SCode := (.seq (.region [.op 0 (.mkNil (some 3))] []) c84_n1)
def F84 : SFunc := .code .pure 11 0 [some 0] [.tmp 0] c84

-- crux/cruxref01.IsName
-- c85_l0: env [0, 3]
@[simp] def c85_n3 : SCode := (.region [.op 20 (.move (.t 0)), .op 21 (.move (.t 2)), .op 22 (.indexStr (.t 1) (.t 0)), .op 4 (.move (.t 0))] [4, 5, 0])
@[simp] def c85_n5 : SCode := (.region [.op 23 (.move (.t 2)), .op 24 (.bin .geq (.t 0) (.k (.c (.int .u8 97)))), .op 25 (.move (.t 0)), .andN 28 0 [.op 26 (.move (.t 5)), .op 27 (.bin .leq (.t 0) (.k (.c (.int .u8 122))))] (.t 0), .op 29 (.move (.t 0)), .orN 36 0 [.op 30 (.move (.t 7)), .op 31 (.bin .geq (.t 0) (.k (.c (.int .u8 65)))), .op 32 (.move (.t 0)), .andN 35 0 [.op 33 (.move (.t 10)), .op 34 (.bin .leq (.t 0) (.k (.c (.int .u8 90))))] (.t 0)] (.t 0), .op 5 (.move (.t 0))] [7, 8, 9, 0])
@[simp] def c85_n7 : SCode := (.region [.op 37 (.move (.t 3)), .op 38 (.not (.t 0)), .op 39 (.move (.t 0)), .andN 55 0 [.op 40 (.move (.t 4)), .op 41 (.bin .eql (.t 0) (.k (.c (.int .i64 0)))), .op 42 (.move (.t 0)), .orN 54 0 [.op 43 (.move (.t 8)), .op 44 (.bin .geq (.t 0) (.k (.c (.int .u8 48)))), .op 45 (.move (.t 0)), .andN 48 0 [.op 46 (.move (.t 11)), .op 47 (.bin .leq (.t 0) (.k (.c (.int .u8 57))))] (.t 0), .op 49 (.move (.t 0)), .orN 52 0 [.op 50 (.move (.t 13)), .op 51 (.bin .eql (.t 0) (.k (.c (.int .u8 95))))] (.t 0), .op 53 (.not (.t 0))] (.t 0)] (.t 0)] [4, 5, 0])
def c85_n6 : SCode := .seq c85_n7 (.cond (.t 2) (.seq (.region [.op 2 (.move (.k (.c (.bool false))))] [0]) .ret) (.pre [0, 1] .skip))
instance : IsSeq c85_n6 c85_n7 (.cond (.t 2) (.seq (.region [.op 2 (.move (.k (.c (.bool false))))] [0]) .ret) (.pre [0, 1] .skip)) := ⟨rfl⟩
def c85_n4 : SCode := .seq c85_n5 c85_n6
instance : IsSeq c85_n4 c85_n5 c85_n6 := ⟨rfl⟩
def c85_n2 : SCode := .seq c85_n3 c85_n4
instance : IsSeq c85_n2 c85_n3 c85_n4 := ⟨rfl⟩
def c85_n1 : SCode := .seq (.block 1 [some 0, some 3] c85_n2) (.region [.op 18 (.move (.t 1)), .op 19 (.bin .add (.t 0) (.k (.c (.int .i64 1)))), .op 3 (.move (.t 0))] [3, 0])
instance : IsSeq c85_n1 (.block 1 [some 0, some 3] c85_n2) (.region [.op 18 (.move (.t 1)), .op 19 (.bin .add (.t 0) (.k (.c (.int .i64 1)))), .op 3 (.move (.t 0))] [3, 0]) := ⟨rfl⟩
def c85_l0b : SCode := (.seq (.seq (.region [.op 14 (.move (.t 1)), .op 15 (.move (.t 1)), .op 16 (.len 0 (.t 0)), .op 17 (.bin .lss (.t 2) (.t 0))] [4, 5, 0]) (.cond (.t 2) (.pre [0, 1] .skip) (.pre [] (.exit 0)))) c85_n1)
def c85_l0 : SCode := .loop true c85_l0b
@[simp] def c85_n9 : SCode := (.seq (.region [.op 6 (.move (.t 0)), .op 7 (.len 0 (.t 0)), .op 8 (.bin .lss (.t 0) (.k (.c (.int .i64 1)))), .op 9 (.move (.t 0)), .orN 13 0 [.op 10 (.move (.t 4)), .op 11 (.len 0 (.t 0)), .op 12 (.bin .gtr (.t 0) (.k (.c (.int .i64 24))))] (.t 0)] [5, 0]) (.cond (.t 1) (.seq (.region [.op 2 (.move (.k (.c (.bool false))))] [0]) .ret) (.pre [0] .skip)))
def c85_n8 : SCode := .seq c85_n9 (.seq (.seq (.region [.op 3 (.move (.k (.c (.int .i64 0))))] [1, 0]) (.block 0 [] c85_l0)) (.seq (.region [.op 2 (.move (.k (.c (.bool true))))] [0]) .ret))
instance : IsSeq c85_n8 c85_n9 (.seq (.seq (.region [.op 3 (.move (.k (.c (.int .i64 0))))] [1, 0]) (.block 0 [] c85_l0)) (.seq (.region [.op 2 (.move (.k (.c (.bool true))))] [0]) .ret)) := ⟨rfl⟩
def c85 : SCode := (.seq (.region [.op 2 (.move (.k (.c (.bool false))))] [1]) c85_n8)
def F85 : SFunc := .code .pure 56 1 [some 2] [.tmp 0] c85

-- slices.ContainsFunc[[]crux/start.Starter,crux/start.Starter]
def c86 : SCode := (.seq (.region [.op 4 (.move (.k (.c (.bool false))))] [1, 2]) (.seq (.region [.op 5 (.move (.t 0)), .op 6 (.move (.t 2)), .op 7 (.call false (.k (.c (.func 140 [] []))) [(.t 1), (.t 0)]), .op 8 (.bin .geq (.t 0) (.k (.c (.int .i64 0)))), .op 4 (.move (.t 0))] [0]) .ret))
def F86 : SFunc := .code .pure 9 2 [some 4] [.tmp 0] c86

-- crux/start.CheckStarters$1
def c87 : SCode := (.seq (.region [.op 2 (.box (.t 0)), .op 3 (.move (.k (.c (.bool false))))] [3, 1]) (.seq (.region [.op 4 (.fieldAddr 0 (.t 1)), .op 5 (.load none (.t 0)), .op 6 (.fieldAddr 0 (.t 2)), .op 7 (.load none (.t 0)), .op 8 (.bin .eql (.t 2) (.t 0)), .op 3 (.move (.t 0))] [0]) .ret))
def F87 : SFunc := .code .pure 9 2 [some 3] [.tmp 0] c87

-- crux/start.first
-- c88_l0: env [5, 6, 7]
@[simp] def c88_n3 : SCode := (.block 1 [some 5, some 6, some 7] (.seq (.region [.op 9 (.idxSlice 1 (.t 0) (.t 2)), .op 10 (.load none (.t 0)), .op 4 (.move (.t 0))] [0, 3, 4, 5]) (.seq (.region [.op 11 (.move (.t 0)), .op 12 (.bin .neq (.t 0) (.k (.c (.int .i64 0))))] [2, 3, 4, 5, 0]) (.cond (.t 4) (.seq (.region [.op 13 (.move (.t 0)), .op 2 (.move (.t 0))] [0]) .ret) (.pre [1, 2, 3] .skip)))))
def c88_n2 : SCode := .seq c88_n3 (.region [.op 14 (.bin .add (.t 2) (.k (.c (.int .i64 1)))), .op 7 (.move (.t 0))] [2, 3, 0])
instance : IsSeq c88_n2 c88_n3 (.region [.op 14 (.bin .add (.t 2) (.k (.c (.int .i64 1)))), .op 7 (.move (.t 0))] [2, 3, 0]) := ⟨rfl⟩
def c88_n1 : SCode := .seq (.cond (.t 3) (.pre [0, 1, 2] .skip) (.pre [] (.exit 0))) c88_n2
instance : IsSeq c88_n1 (.cond (.t 3) (.pre [0, 1, 2] .skip) (.pre [] (.exit 0))) c88_n2 := ⟨rfl⟩
def c88_l0b : SCode := (.seq (.region [.op 8 (.bin .lss (.t 2) (.t 1))] [1, 2, 3, 0]) c88_n1)
def c88_l0 : SCode := .loop true c88_l0b
def c88 : SCode := (.seq (.region [.op 2 (.move (.k (.c (.int .i64 0))))] [1]) (.seq (.seq (.region [.op 5 (.move (.t 0)), .op 6 (.len 1 (.t 0)), .op 7 (.move (.k (.c (.int .i64 0))))] [2, 1, 0]) (.block 0 [] c88_l0)) (.seq (.region [.op 2 (.move (.k (.c (.int .i64 0))))] [0]) .ret)))
def F88 : SFunc := .code .pure 15 1 [some 2] [.tmp 0] c88

-- crux/start.when
def c89 : SCode := (.seq (.region [.op 4 (.move (.k (.c (.int .i64 0))))] [1, 2]) (.seq (.seq (.region [.op 5 (.move (.t 0))] [2, 0]) (.cond (.t 1) (.seq (.region [.op 6 (.move (.t 0)), .op 4 (.move (.t 0))] [0]) .ret) (.pre [] .skip))) (.seq (.region [.op 4 (.move (.k (.c (.int .i64 0))))] [0]) .ret)))
def F89 : SFunc := .code .pure 7 2 [some 4] [.tmp 0] c89

-- crux/number.IsName
-- c90_l0: env [0, 6]
@[simp] def c90_n4 : SCode := (.region [.op 9 (.extract (.t 2) 1), .op 10 (.extract (.t 3) 2), .op 3 (.move (.t 1)), .op 4 (.move (.t 1))] [4, 1, 0, 5])
@[simp] def c90_n6 : SCode := (.region [.op 11 (.move (.t 2)), .op 12 (.call false (.k (.c (.func 141 [] []))) [(.t 0)]), .op 13 (.not (.t 0)), .op 14 (.move (.t 0)), .andN 29 0 [.op 15 (.move (.t 5)), .op 16 (.bin .eql (.t 0) (.k (.c (.int .i64 0)))), .op 17 (.move (.t 0)), .orN 28 0 [.op 18 (.move (.t 9)), .op 19 (.bin .neq (.t 0) (.k (.c (.int .i32 95)))), .op 20 (.move (.t 0)), .andN 27 0 [.op 21 (.move (.t 12)), .op 22 (.bin .lss (.t 0) (.k (.c (.int .i32 48)))), .op 23 (.move (.t 0)), .orN 26 0 [.op 24 (.move (.t 15)), .op 25 (.bin .gtr (.t 0) (.k (.c (.int .i32 57))))] (.t 0)] (.t 0)] (.t 0)] (.t 0)] [5, 8, 0])
def c90_n5 : SCode := .seq c90_n6 (.cond (.t 2) (.seq (.region [.op 2 (.move (.k (.c (.bool false))))] [0]) .ret) (.pre [0, 1] .skip))
instance : IsSeq c90_n5 c90_n6 (.cond (.t 2) (.seq (.region [.op 2 (.move (.k (.c (.bool false))))] [0]) .ret) (.pre [0, 1] .skip)) := ⟨rfl⟩
def c90_n3 : SCode := .seq c90_n4 c90_n5
instance : IsSeq c90_n3 c90_n4 c90_n5 := ⟨rfl⟩
def c90_n2 : SCode := .block 1 [some 0, some 6] c90_n3
instance : IsBlock c90_n2 1 [some 0, some 6] c90_n3 := ⟨rfl⟩
def c90_n1 : SCode := .seq (.cond (.t 3) (.pre [0, 1, 2] .skip) (.pre [0] (.exit 0))) c90_n2
instance : IsSeq c90_n1 (.cond (.t 3) (.pre [0, 1, 2] .skip) (.pre [0] (.exit 0))) c90_n2 := ⟨rfl⟩
def c90_l0b : SCode := (.seq (.region [.op 7 (.next (.t 1)), .op 8 (.extract (.t 0) 0)] [2, 3, 1, 0]) c90_n1)
def c90_l0 : SCode := .loop true c90_l0b
@[simp] def c90_n8 : SCode := (.seq (.region [.op 5 (.move (.t 0)), .op 6 (.range (.t 0))] [2, 0]) (.block 0 [some 0] c90_l0))
def c90_n7 : SCode := .seq c90_n8 (.seq (.region [.op 30 (.move (.t 0)), .op 31 (.bin .neq (.t 0) (.k (.c (.str [])))), .op 32 (.move (.t 0)), .andN 36 0 [.op 33 (.move (.t 3)), .op 34 (.len 0 (.t 0)), .op 35 (.bin .leq (.t 0) (.k (.c (.int .i64 24))))] (.t 0), .op 2 (.move (.t 0))] [0]) .ret)
instance : IsSeq c90_n7 c90_n8 (.seq (.region [.op 30 (.move (.t 0)), .op 31 (.bin .neq (.t 0) (.k (.c (.str [])))), .op 32 (.move (.t 0)), .andN 36 0 [.op 33 (.move (.t 3)), .op 34 (.len 0 (.t 0)), .op 35 (.bin .leq (.t 0) (.k (.c (.int .i64 24))))] (.t 0), .op 2 (.move (.t 0))] [0]) .ret) := ⟨rfl⟩
def c90 : SCode := (.seq (.region [.op 2 (.move (.k (.c (.bool false))))] [1]) c90_n7)
def F90 : SFunc := .code .pure 37 1 [some 2] [.tmp 0] c90

-- crux/start.within
def c91 : SCode := (.seq (.region [.op 6 (.move (.k (.c (.int .i64 0))))] [1, 2, 3]) (.seq (.region [.op 7 (.move (.t 0)), .op 8 (.move (.t 2)), .op 9 (.bin .lss (.t 1) (.t 0)), .op 10 (.move (.t 0)), .orN 14 0 [.op 11 (.move (.t 4)), .op 12 (.move (.t 7)), .op 13 (.bin .gtr (.t 1) (.t 0))] (.t 0), .op 15 (.call false (.k (.c (.func 89 [] []))) [(.t 0), (.k (.c (.int .i64 3)))]), .op 6 (.move (.t 0))] [0]) .ret))
def F91 : SFunc := .code .pure 16 3 [some 6] [.tmp 0] c91

-- crux/number.Draw
-- c92_l0: env [0, 1, 6, 28, 29]
-- c92_l1: env [1, 6, 8, 9]
@[simp] def c92_n3 : SCode := (.block 1 [some 0, some 1, some 6, some 28, some 29] (.seq (.region [.op 31 (.move (.t 4)), .op 7 (.move (.t 0))] [2, 3, 4, 0, 5, 6]) (.region [.op 32 (.move (.t 2)), .op 33 (.move (.t 4)), .op 34 (.move (.t 5)), .op 35 (.idxSlice 1 (.t 2) (.t 1)), .eff (.store 1 (.t 0) (.t 1))] [4, 5, 6, 8, 9])))
def c92_n2 : SCode := .seq c92_n3 (.region [.op 36 (.bin .add (.t 4) (.k (.c (.int .i64 1)))), .op 29 (.move (.t 0))] [2, 3, 4, 5, 0])
instance : IsSeq c92_n2 c92_n3 (.region [.op 36 (.bin .add (.t 4) (.k (.c (.int .i64 1)))), .op 29 (.move (.t 0))] [2, 3, 4, 5, 0]) := ⟨rfl⟩
def c92_n1 : SCode := .seq (.cond (.t 5) (.pre [0, 1, 2, 3, 4] .skip) (.pre [0, 1, 2] (.exit 0))) c92_n2
instance : IsSeq c92_n1 (.cond (.t 5) (.pre [0, 1, 2, 3, 4] .skip) (.pre [0, 1, 2] (.exit 0))) c92_n2 := ⟨rfl⟩
def c92_l0b : SCode := (.seq (.region [.op 30 (.bin .lss (.t 4) (.t 3))] [1, 2, 3, 4, 5, 0]) c92_n1)
def c92_l0 : SCode := .loop true c92_l0b
@[simp] def c92_n6 : SCode := (.region [.op 44 (.move (.t 2)), .op 45 (.bin .mul (.k (.c (.int .i64 48271))) (.t 0)), .op 46 (.bin .rem (.t 0) (.k (.c (.int .i64 2147483647)))), .op 8 (.move (.t 0))] [4, 5, 0, 7])
@[simp] def c92_n8 : SCode := (.region [.op 47 (.move (.t 3)), .op 48 (.move (.t 3)), .op 49 (.move (.t 2)), .op 50 (.move (.t 6)), .op 51 (.bin .sub (.t 1) (.t 0)), .op 52 (.bin .rem (.t 3) (.t 0)), .op 53 (.bin .add (.t 5) (.t 0)), .op 10 (.move (.t 0))] [8, 9, 10, 11, 0])
@[simp] def c92_n9 : SCode := (.draw 0 [.op 54 (.move (.t 1)), .op 55 (.move (.t 4)), .op 56 (.move (.t 3)), .op 57 (.move (.t 7)), .op 58 (.move (.t 5)), .op 59 (.move (.t 9)), .op 60 (.idxSlice 1 (.t 1) (.t 0)), .op 61 (.load none (.t 0)) none .old, .op 62 (.move (.t 9)), .op 63 (.move (.t 12)), .op 64 (.idxSlice 1 (.t 1) (.t 0)), .op 65 (.load none (.t 0)) none .old, .op 66 (.idxSlice 1 (.t 11) (.t 10)), .eff (.store 1 (.t 0) (.t 5)) none .old, .op 67 (.idxSlice 1 (.t 10) (.t 9)), .eff (.store 1 (.t 0) (.t 2)) none .old] [14, 15, 16, 17])
def c92_n7 : SCode := .seq c92_n8 c92_n9
instance : IsSeq c92_n7 c92_n8 c92_n9 := ⟨rfl⟩
def c92_n5 : SCode := .seq c92_n6 c92_n7
instance : IsSeq c92_n5 c92_n6 c92_n7 := ⟨rfl⟩
def c92_n4 : SCode := .seq (.block 3 [some 1, some 6, some 8, some 9] c92_n5) (.region [.op 42 (.move (.t 3)), .op 43 (.bin .add (.t 0) (.k (.c (.int .i64 1)))), .op 9 (.move (.t 0))] [3, 4, 5, 0])
instance : IsSeq c92_n4 (.block 3 [some 1, some 6, some 8, some 9] c92_n5) (.region [.op 42 (.move (.t 3)), .op 43 (.bin .add (.t 0) (.k (.c (.int .i64 1)))), .op 9 (.move (.t 0))] [3, 4, 5, 0]) := ⟨rfl⟩
def c92_l1b : SCode := (.seq (.seq (.region [.op 38 (.move (.t 3)), .op 39 (.move (.t 1)), .op 40 (.bin .sub (.t 0) (.k (.c (.int .i64 1)))), .op 41 (.bin .lss (.t 2) (.t 0))] [4, 5, 6, 7, 0]) (.cond (.t 4) (.pre [0, 1, 2, 3] .skip) (.pre [1] (.exit 2)))) c92_n4)
def c92_l1 : SCode := .loop true c92_l1b
@[simp] def c92_n11 : SCode := (.seq (.region [.op 11 (.move (.t 0)), .op 12 (.bin .lss (.t 0) (.k (.c (.int .i64 1)))), .op 13 (.move (.t 0)), .orN 16 0 [.op 14 (.move (.t 3)), .op 15 (.bin .gtr (.t 0) (.k (.c (.int .i64 2147483646))))] (.t 0), .op 17 (.move (.t 0)), .orN 20 0 [.op 18 (.move (.t 6)), .op 19 (.bin .lss (.t 0) (.k (.c (.int .i64 0))))] (.t 0), .op 21 (.move (.t 0)), .orN 24 0 [.op 22 (.move (.t 8)), .op 23 (.bin .gtr (.t 0) (.k (.c (.int .i64 256))))] (.t 0)] [8, 9, 0]) (.cond (.t 2) (.seq (.region [.op 4 (.mkNil none), .op 5 (.move (.k (.c (.int .i64 3))))] [1, 0]) .ret) (.pre [0, 1] .skip)))
@[simp] def c92_n13 : SCode := (.region [.op 25 (.move (.t 1)), .op 26 (.makeSlice none 8 [(.c (.int .i64 0))] (.t 0) (.t 0)), .op 6 (.move (.t 0))] [3, 4, 0])
@[simp] def c92_n15 : SCode := (.seq (.region [.op 27 (.move (.t 2)), .op 28 (.len 1 (.t 0)), .op 29 (.move (.k (.c (.int .i64 0))))] [3, 4, 5, 1, 0]) (.block 0 [some 0, some 1, some 6] c92_l0))
def c92_n14 : SCode := .seq c92_n15 (.seq (.region [.op 37 (.move (.t 0)), .op 8 (.move (.t 0))] [3, 4, 0]) (.seq (.seq (.region [.op 9 (.move (.k (.c (.int .i64 0))))] [1, 2, 3, 0]) (.block 2 [some 6] c92_l1)) (.seq (.region [.op 68 (.move (.t 0)), .op 4 (.move (.t 0)), .op 5 (.move (.k (.c (.int .i64 0))))] [1, 0]) .ret)))
instance : IsSeq c92_n14 c92_n15 (.seq (.region [.op 37 (.move (.t 0)), .op 8 (.move (.t 0))] [3, 4, 0]) (.seq (.seq (.region [.op 9 (.move (.k (.c (.int .i64 0))))] [1, 2, 3, 0]) (.block 2 [some 6] c92_l1)) (.seq (.region [.op 68 (.move (.t 0)), .op 4 (.move (.t 0)), .op 5 (.move (.k (.c (.int .i64 0))))] [1, 0]) .ret))) := ⟨rfl⟩
def c92_n12 : SCode := .seq c92_n13 c92_n14
instance : IsSeq c92_n12 c92_n13 c92_n14 := ⟨rfl⟩
def c92_n10 : SCode := .seq c92_n11 c92_n12
instance : IsSeq c92_n10 c92_n11 c92_n12 := ⟨rfl⟩
def c92 : SCode := (.seq (.region [.op 4 (.mkNil none), .op 5 (.move (.k (.c (.int .i64 0))))] [2, 3]) c92_n10)
def F92 : SFunc := .code (.fresh 2) 69 2 [some 4, some 5] [.tmp 0, .tmp 1] c92

-- crux/start.Seeded$1
@[simp] def c93_n2 : SCode := (.seq (.region [.op 4 (.load none (.t 1)), .op 5 (.move (.t 1)), .op 6 (.idxSlice 3 (.t 1) (.t 0)), .op 7 (.fieldAddr 2 (.t 0)), .op 8 (.load none (.t 0)), .op 9 (.bin .eql (.t 0) (.k (.c (.int .i64 0))))] [6, 7, 0]) (.cond (.t 2) (.seq (.region [.op 3 (.move (.k (.c (.int .i64 1000000000))))] [0]) .ret) (.pre [0, 1] .skip)))
def c93_n1 : SCode := .seq c93_n2 (.seq (.region [.op 10 (.load none (.t 1)), .op 11 (.move (.t 1)), .op 12 (.idxSlice 3 (.t 1) (.t 0)), .op 13 (.fieldAddr 2 (.t 0)), .op 14 (.load none (.t 0)), .op 3 (.move (.t 0))] [0]) .ret)
instance : IsSeq c93_n1 c93_n2 (.seq (.region [.op 10 (.load none (.t 1)), .op 11 (.move (.t 1)), .op 12 (.idxSlice 3 (.t 1) (.t 0)), .op 13 (.fieldAddr 2 (.t 0)), .op 14 (.load none (.t 0)), .op 3 (.move (.t 0))] [0]) .ret) := ⟨rfl⟩
def c93 : SCode := (.seq (.region [.op 3 (.move (.k (.c (.int .i64 0))))] [1, 2]) c93_n1)
def F93 : SFunc := .code .pure 15 2 [some 3] [.tmp 0] c93

-- slices.SortStableFunc[[]int,int]
def c94 : SCode := (.region [.op 4 (.move (.t 0)), .op 5 (.move (.t 1)), .op 6 (.len 1 (.t 0)), .op 7 (.move (.t 4)), .op 8 (.call false (.k (.c (.func 142 [] []))) [(.t 3), (.t 1), (.t 0)])] [])
def F94 : SFunc := .code .shared 9 2 [] [] c94

-- crux/start.Seeded$2
def c95 : SCode := (.seq (.region [.op 5 (.move (.k (.c (.int .i64 0))))] [1, 2, 3]) (.seq (.draw 0 [.op 6 (.load none (.t 2)) none .var, .op 7 (.move (.t 1)), .op 8 (.call true (.t 1) [(.t 0)]), .op 9 (.load none (.t 5)) none .var, .op 10 (.move (.t 5)), .op 11 (.call true (.t 1) [(.t 0)]), .op 12 (.call true (.k (.c (.func 96 [] []))) [(.t 3), (.t 0)]), .op 5 (.move (.t 0))] [0]) .ret))
def F95 : SFunc := .code .pure 13 3 [some 5] [.tmp 0] c95

-- cmp.Compare[int]
@[simp] def c96_n2 : SCode := (.region [.op 7 (.move (.t 0)), .op 8 (.call false (.k (.c (.func 143 [] []))) [(.t 0)]), .op 5 (.move (.t 0))] [3, 4, 0])
@[simp] def c96_n4 : SCode := (.region [.op 9 (.move (.t 1)), .op 10 (.call false (.k (.c (.func 143 [] []))) [(.t 0)]), .op 6 (.move (.t 0))] [3, 4, 5, 0])
@[simp] def c96_n6 : SCode := (.seq (.region [.op 11 (.move (.t 2))] [1, 2, 4, 0]) (.cond (.t 3) (.seq (.seq (.region [.op 12 (.move (.t 2))] [0]) (.cond (.t 0) (.seq (.region [.op 4 (.move (.k (.c (.int .i64 0))))] [0]) .ret) (.pre [] .skip))) (.seq (.region [.op 4 (.move (.k (.c (.int .i64 (-1)))))] [0]) .ret)) (.pre [0, 1, 2] .skip)))
@[simp] def c96_n8 : SCode := (.seq (.region [.op 13 (.move (.t 2))] [1, 2, 0]) (.cond (.t 2) (.seq (.region [.op 4 (.move (.k (.c (.int .i64 1))))] [0]) .ret) (.pre [0, 1] .skip)))
@[simp] def c96_n10 : SCode := (.seq (.region [.op 14 (.move (.t 0)), .op 15 (.move (.t 2)), .op 16 (.bin .lss (.t 1) (.t 0))] [3, 4, 0]) (.cond (.t 2) (.seq (.region [.op 4 (.move (.k (.c (.int .i64 (-1)))))] [0]) .ret) (.pre [0, 1] .skip)))
def c96_n9 : SCode := .seq c96_n10 (.seq (.seq (.region [.op 17 (.move (.t 0)), .op 18 (.move (.t 2)), .op 19 (.bin .gtr (.t 1) (.t 0))] [0]) (.cond (.t 0) (.seq (.region [.op 4 (.move (.k (.c (.int .i64 1))))] [0]) .ret) (.pre [] .skip))) (.seq (.region [.op 4 (.move (.k (.c (.int .i64 0))))] [0]) .ret))
instance : IsSeq c96_n9 c96_n10 (.seq (.seq (.region [.op 17 (.move (.t 0)), .op 18 (.move (.t 2)), .op 19 (.bin .gtr (.t 1) (.t 0))] [0]) (.cond (.t 0) (.seq (.region [.op 4 (.move (.k (.c (.int .i64 1))))] [0]) .ret) (.pre [] .skip))) (.seq (.region [.op 4 (.move (.k (.c (.int .i64 0))))] [0]) .ret)) := ⟨rfl⟩
def c96_n7 : SCode := .seq c96_n8 c96_n9
instance : IsSeq c96_n7 c96_n8 c96_n9 := ⟨rfl⟩
def c96_n5 : SCode := .seq c96_n6 c96_n7
instance : IsSeq c96_n5 c96_n6 c96_n7 := ⟨rfl⟩
def c96_n3 : SCode := .seq c96_n4 c96_n5
instance : IsSeq c96_n3 c96_n4 c96_n5 := ⟨rfl⟩
def c96_n1 : SCode := .seq c96_n2 c96_n3
instance : IsSeq c96_n1 c96_n2 c96_n3 := ⟨rfl⟩
def c96 : SCode := (.seq (.region [.op 4 (.move (.k (.c (.int .i64 0))))] [1, 2]) c96_n1)
def F96 : SFunc := .code .pure 20 2 [some 4] [.tmp 0] c96

end LM.G6

namespace LM.G6
open Go LM
-- crux/cruxref01.Draw
-- c97_l0: env [0, 1, 5, 6]
-- c97_l1: env [0, 1, 5, 7]
@[simp] def c97_n2 : SCode := (.block 1 [some 0, some 1, some 5, some 6] (.region [.op 14 (.move (.t 2)), .op 15 (.move (.t 4)), .op 16 (.buildSlice 2 none 1 [(.c (.int .i64 0))] [(0, (.t 0))]), .op 17 (.append none 8 (.t 2) (.t 0)), .op 5 (.move (.t 0))] [5, 6, 0, 8]))
def c97_n1 : SCode := .seq c97_n2 (.region [.op 12 (.move (.t 3)), .op 13 (.bin .add (.t 0) (.k (.c (.int .i64 1)))), .op 6 (.move (.t 0))] [3, 4, 5, 0])
instance : IsSeq c97_n1 c97_n2 (.region [.op 12 (.move (.t 3)), .op 13 (.bin .add (.t 0) (.k (.c (.int .i64 1)))), .op 6 (.move (.t 0))] [3, 4, 5, 0]) := ⟨rfl⟩
def c97_l0b : SCode := (.seq (.seq (.region [.op 9 (.move (.t 3)), .op 10 (.move (.t 2)), .op 11 (.bin .lss (.t 1) (.t 0))] [3, 4, 5, 6, 0]) (.cond (.t 4) (.pre [0, 1, 2, 3] .skip) (.pre [0, 1, 2] (.exit 0)))) c97_n1)
def c97_l0 : SCode := .loop true c97_l0b
@[simp] def c97_n5 : SCode := (.region [.op 24 (.move (.t 0)), .op 25 (.bin .mul (.k (.c (.int .i64 48271))) (.t 0)), .op 26 (.bin .rem (.t 0) (.k (.c (.int .i64 2147483647)))), .op 0 (.move (.t 0))] [0, 5, 6, 7])
@[simp] def c97_n7 : SCode := (.region [.op 27 (.move (.t 3)), .op 28 (.move (.t 1)), .op 29 (.move (.t 3)), .op 30 (.move (.t 6)), .op 31 (.bin .sub (.t 1) (.t 0)), .op 32 (.bin .rem (.t 3) (.t 0)), .op 33 (.bin .add (.t 5) (.t 0)), .op 8 (.move (.t 0))] [8, 9, 10, 11, 0])
@[simp] def c97_n8 : SCode := (.draw 0 [.op 34 (.move (.t 2)), .op 35 (.move (.t 4)), .op 36 (.move (.t 4)), .op 37 (.move (.t 7)), .op 38 (.move (.t 6)), .op 39 (.move (.t 9)), .op 40 (.idxSlice 1 (.t 1) (.t 0)), .op 41 (.load none (.t 0)) none .old, .op 42 (.move (.t 10)), .op 43 (.move (.t 12)), .op 44 (.idxSlice 1 (.t 1) (.t 0)), .op 45 (.load none (.t 0)) none .old, .op 46 (.idxSlice 1 (.t 11) (.t 10)), .eff (.store 1 (.t 0) (.t 5)) none .old, .op 47 (.idxSlice 1 (.t 10) (.t 9)), .eff (.store 1 (.t 0) (.t 2)) none .old] [14, 15, 16, 17])
def c97_n6 : SCode := .seq c97_n7 c97_n8
instance : IsSeq c97_n6 c97_n7 c97_n8 := ⟨rfl⟩
def c97_n4 : SCode := .seq c97_n5 c97_n6
instance : IsSeq c97_n4 c97_n5 c97_n6 := ⟨rfl⟩
def c97_n3 : SCode := .seq (.block 3 [some 0, some 1, some 5, some 7] c97_n4) (.region [.op 22 (.move (.t 3)), .op 23 (.bin .add (.t 0) (.k (.c (.int .i64 1)))), .op 7 (.move (.t 0))] [3, 4, 5, 0])
instance : IsSeq c97_n3 (.block 3 [some 0, some 1, some 5, some 7] c97_n4) (.region [.op 22 (.move (.t 3)), .op 23 (.bin .add (.t 0) (.k (.c (.int .i64 1)))), .op 7 (.move (.t 0))] [3, 4, 5, 0]) := ⟨rfl⟩
def c97_l1b : SCode := (.seq (.seq (.region [.op 18 (.move (.t 3)), .op 19 (.bin .add (.t 0) (.k (.c (.int .i64 1)))), .op 20 (.move (.t 3)), .op 21 (.bin .lss (.t 1) (.t 0))] [4, 5, 6, 7, 0]) (.cond (.t 4) (.pre [0, 1, 2, 3] .skip) (.pre [2] (.exit 2)))) c97_n3)
def c97_l1 : SCode := .loop true c97_l1b
def c97 : SCode := (.seq (.region [.op 4 (.mkNil none)] [1, 2]) (.seq (.region [.op 5 (.mkNil none)] [1, 2, 0]) (.seq (.seq (.region [.op 6 (.move (.k (.c (.int .i64 0))))] [1, 2, 3, 0]) (.block 0 [some 0, some 1, some 5] c97_l0)) (.seq (.seq (.region [.op 7 (.move (.k (.c (.int .i64 0))))] [1, 2, 3, 0]) (.block 2 [some 5] c97_l1)) (.seq (.region [.op 48 (.move (.t 0)), .op 4 (.move (.t 0))] [0]) .ret)))))
def F97 : SFunc := .code .pure 49 2 [some 4] [.tmp 0] c97

-- crux/cruxref06.before
@[simp] def c98_n2 : SCode := (.region [.op 5 (.move (.t 0)), .op 6 (.bin .gtr (.t 0) (.k (.c (.int .i64 0)))), .op 7 (.move (.t 0)), .andN 15 0 [.op 8 (.move (.t 4)), .op 9 (.bin .eql (.t 0) (.k (.c (.int .i64 0)))), .op 10 (.move (.t 0)), .orN 14 0 [.op 11 (.move (.t 6)), .op 12 (.move (.t 8)), .op 13 (.bin .lss (.t 1) (.t 0))] (.t 0)] (.t 0), .op 4 (.move (.t 0))] [0])
def c98_n1 : SCode := .seq c98_n2 .ret
instance : IsSeq c98_n1 c98_n2 .ret := ⟨rfl⟩
def c98 : SCode := (.seq (.region [.op 4 (.move (.k (.c (.bool false))))] [1, 2]) c98_n1)
def F98 : SFunc := .code .pure 16 2 [some 4] [.tmp 0] c98

-- crux/cruxref06.insert
@[simp] def c99_n2 : SCode := (.draw 4 [.op 7 (.buildSlice 0 none 0 [(.c (.int .i64 0))] []) (some 0), .op 8 (.move (.t 1)), .op 9 (.move (.t 3)), .op 10 (.sliceSl 1 (.t 1) none (some (.t 0)) none), .op 11 (.append none 8 (.t 3) (.t 0)) (some 1) .new, .op 12 (.move (.t 7)), .op 13 (.buildSlice 1 none 1 [(.c (.int .i64 0))] [(0, (.t 0))]), .op 14 (.append none 8 (.t 2) (.t 0)) (some 2) .new, .op 15 (.move (.t 8)), .op 16 (.move (.t 10)), .op 17 (.sliceSl 1 (.t 1) (some (.t 0)) none none), .op 18 (.append none 8 (.t 3) (.t 0)) (some 3) .new, .op 6 (.move (.t 0))] [0])
def c99_n1 : SCode := .seq c99_n2 .ret
instance : IsSeq c99_n1 c99_n2 .ret := ⟨rfl⟩
def c99 : SCode := (.seq (.region [.op 6 (.mkNil none)] [1, 2, 3]) c99_n1)
def F99 : SFunc := .code .pure 19 3 [some 6] [.tmp 0] c99

-- slices.Contains[[]int,int]
def c100 : SCode := (.seq (.region [.op 4 (.move (.k (.c (.bool false))))] [1, 2]) (.seq (.region [.op 5 (.move (.t 0)), .op 6 (.move (.t 2)), .op 7 (.call false (.k (.c (.func 112 [] []))) [(.t 1), (.t 0)]), .op 8 (.bin .geq (.t 0) (.k (.c (.int .i64 0)))), .op 4 (.move (.t 0))] [0]) .ret))
def F100 : SFunc := .code .pure 9 2 [some 4] [.tmp 0] c100

-- crux/start.turned[int]
@[simp] def c101_n2 : SCode := (.draw 2 [.op 5 (.move (.t 0)), .op 6 (.move (.t 2)), .op 7 (.sliceSl 1 (.t 1) (some (.t 0)) none none), .op 8 (.call false (.k (.c (.func 144 [] []))) [(.t 0)]) (some 0), .op 9 (.move (.t 4)), .op 10 (.move (.t 6)), .op 11 (.sliceSl 1 (.t 1) none (some (.t 0)) none), .op 12 (.append none 8 (.t 3) (.t 0)) (some 1) .new, .op 4 (.move (.t 0))] [0])
def c101_n1 : SCode := .seq c101_n2 .ret
instance : IsSeq c101_n1 c101_n2 .ret := ⟨rfl⟩
def c101 : SCode := (.seq (.region [.op 4 (.mkNil none)] [1, 2]) c101_n1)
def F101 : SFunc := .code .pure 13 2 [some 4] [.tmp 0] c101

-- crux/start.greatest
-- c102_l0: env [4, 5, 9, 10, 11]
@[simp] def c102_n4 : SCode := (.region [.op 13 (.idxSlice 3 (.t 2) (.t 4)), .op 14 (.load (some 3) (.t 0)), .op 7 (.new [(.c (.str [])), (.c (.str [])), (.c (.int .i64 0))]), .eff (.store 3 (.t 0) (.t 1))] [3, 4, 0, 5, 6, 7])
@[simp] def c102_n6 : SCode := (.region [.op 15 (.move (.t 0)), .op 16 (.fieldAddr 1 (.t 3)), .op 17 (.load none (.t 0)), .op 18 (.lookup (.one 1) (.c (.int .i64 0)) false (.t 2) (.t 0)), .op 19 (.bin .add (.t 0) (.k (.c (.int .i64 1)))), .eff (.mapUpdate (.one 1) (.t 4) (.t 2) (.t 0))] [5, 6, 7, 8, 9, 10])
@[simp] def c102_n8 : SCode := (.region [.op 20 (.move (.t 0)), .op 21 (.fieldAddr 1 (.t 3)), .op 22 (.load none (.t 0)), .op 23 (.lookup (.one 1) (.c (.int .i64 0)) false (.t 2) (.t 0)), .op 24 (.move (.t 4)), .op 25 (.move (.t 6)), .op 26 (.lookup (.one 1) (.c (.int .i64 0)) false (.t 1) (.t 0)), .op 27 (.bin .gtr (.t 3) (.t 0))] [8, 9, 10, 11, 12, 13, 0])
def c102_n7 : SCode := .seq c102_n8 (.cond (.t 6) (.region [.op 28 (.fieldAddr 1 (.t 2)), .op 29 (.load none (.t 0)), .op 5 (.move (.t 0))] [3, 0, 6, 7, 8]) (.pre [0, 1, 3, 4, 5] .skip))
instance : IsSeq c102_n7 c102_n8 (.cond (.t 6) (.region [.op 28 (.fieldAddr 1 (.t 2)), .op 29 (.load none (.t 0)), .op 5 (.move (.t 0))] [3, 0, 6, 7, 8]) (.pre [0, 1, 3, 4, 5] .skip)) := ⟨rfl⟩
def c102_n5 : SCode := .seq c102_n6 c102_n7
instance : IsSeq c102_n5 c102_n6 c102_n7 := ⟨rfl⟩
def c102_n3 : SCode := .seq c102_n4 c102_n5
instance : IsSeq c102_n3 c102_n4 c102_n5 := ⟨rfl⟩
def c102_n2 : SCode := .seq (.block 1 [some 4, some 5, some 9, some 10, some 11] c102_n3) (.region [.op 30 (.bin .add (.t 4) (.k (.c (.int .i64 1)))), .op 11 (.move (.t 0))] [2, 3, 4, 5, 0])
instance : IsSeq c102_n2 (.block 1 [some 4, some 5, some 9, some 10, some 11] c102_n3) (.region [.op 30 (.bin .add (.t 4) (.k (.c (.int .i64 1)))), .op 11 (.move (.t 0))] [2, 3, 4, 5, 0]) := ⟨rfl⟩
def c102_n1 : SCode := .seq (.cond (.t 5) (.pre [0, 1, 2, 3, 4] .skip) (.pre [0, 1] (.exit 0))) c102_n2
instance : IsSeq c102_n1 (.cond (.t 5) (.pre [0, 1, 2, 3, 4] .skip) (.pre [0, 1] (.exit 0))) c102_n2 := ⟨rfl⟩
def c102_l0b : SCode := (.seq (.region [.op 12 (.bin .lss (.t 4) (.t 3))] [1, 2, 3, 4, 5, 0]) c102_n1)
def c102_l0 : SCode := .loop true c102_l0b
def c102_n9 : SCode := .seq (.region [.op 8 (.makeMap), .op 4 (.move (.t 0))] [2, 0]) (.seq (.region [.op 5 (.move (.k (.c (.str []))))] [1, 2, 0]) (.seq (.seq (.region [.op 9 (.move (.t 0)), .op 10 (.len 1 (.t 0)), .op 11 (.move (.k (.c (.int .i64 0))))] [4, 5, 2, 1, 0]) (.block 0 [some 4, some 5] c102_l0)) (.seq (.region [.op 31 (.move (.t 1)), .op 32 (.move (.t 1)), .op 2 (.move (.t 1)), .op 3 (.move (.t 1))] [1, 0]) .ret)))
instance : IsSeq c102_n9 (.region [.op 8 (.makeMap), .op 4 (.move (.t 0))] [2, 0]) (.seq (.region [.op 5 (.move (.k (.c (.str []))))] [1, 2, 0]) (.seq (.seq (.region [.op 9 (.move (.t 0)), .op 10 (.len 1 (.t 0)), .op 11 (.move (.k (.c (.int .i64 0))))] [4, 5, 2, 1, 0]) (.block 0 [some 4, some 5] c102_l0)) (.seq (.region [.op 31 (.move (.t 1)), .op 32 (.move (.t 1)), .op 2 (.move (.t 1)), .op 3 (.move (.t 1))] [1, 0]) .ret))) := ⟨rfl⟩
def c102 : SCode := (.seq (.region [.op 2 (.move (.k (.c (.str [])))), .op 3 (.move (.k (.c (.map [] []))))] [2]) c102_n9)
def F102 : SFunc := .code .pure 33 1 [some 2, some 3] [.tmp 0, .tmp 1] c102

-- crux/start.Apart$1
@[simp] def c103_n2 : SCode := (.draw 0 [.op 9 (.load none (.t 2)) none .var, .op 10 (.move (.t 1)), .op 11 (.idxSlice 3 (.t 1) (.t 0)), .op 12 (.fieldAddr 1 (.t 0)), .op 13 (.load none (.t 0)) none .old, .op 14 (.load none (.t 7)) none .var, .op 15 (.move (.t 7)), .op 16 (.idxSlice 3 (.t 1) (.t 0)), .op 17 (.fieldAddr 1 (.t 0)), .op 18 (.load none (.t 0)) none .old, .op 7 (.move (.t 5)), .op 8 (.move (.t 1))] [15, 1, 0])
@[simp] def c103_n4 : SCode := (.region [.op 19 (.load none (.t 0)), .op 20 (.move (.t 3)), .op 21 (.lookup (.one 1) (.c (.int .i64 0)) false (.t 1) (.t 0)), .op 22 (.load none (.t 3)), .op 23 (.move (.t 5)), .op 24 (.lookup (.one 1) (.c (.int .i64 0)) false (.t 1) (.t 0)), .op 25 (.call false (.k (.c (.func 96 [] []))) [(.t 3), (.t 0)]), .op 26 (.move (.t 8)), .op 27 (.move (.t 10)), .op 28 (.call false (.k (.c (.func 105 [] []))) [(.t 1), (.t 0)]), .op 29 (.buildSlice 2 none 2 [(.c (.int .i64 0))] [(0, (.t 3)), (1, (.t 0))]), .op 30 (.call false (.k (.c (.func 104 [] []))) [(.t 0)]), .op 6 (.move (.t 0))] [0])
def c103_n3 : SCode := .seq c103_n4 .ret
instance : IsSeq c103_n3 c103_n4 .ret := ⟨rfl⟩
def c103_n1 : SCode := .seq c103_n2 c103_n3
instance : IsSeq c103_n1 c103_n2 c103_n3 := ⟨rfl⟩
def c103 : SCode := (.seq (.region [.op 6 (.move (.k (.c (.int .i64 0))))] [1, 2, 3, 4]) c103_n1)
def F103 : SFunc := .code .pure 31 4 [some 6] [.tmp 0] c103

-- cmp.Or[int]
-- c104_l0: env [3, 6, 7, 8]
@[simp] def c104_n3 : SCode := (.block 1 [some 3, some 6, some 7, some 8] (.seq (.region [.op 10 (.idxSlice 1 (.t 1) (.t 3)), .op 11 (.load none (.t 0)), .op 5 (.move (.t 0))] [3, 0, 4, 5, 6]) (.seq (.region [.op 12 (.move (.t 1)), .op 13 (.move (.t 1)), .op 14 (.bin .neq (.t 1) (.t 0))] [3, 4, 5, 6, 7, 0]) (.cond (.t 5) (.seq (.region [.op 15 (.move (.t 1)), .op 2 (.move (.t 0))] [0]) .ret) (.pre [0, 2, 3, 4] .skip)))))
def c104_n2 : SCode := .seq c104_n3 (.region [.op 16 (.bin .add (.t 3) (.k (.c (.int .i64 1)))), .op 8 (.move (.t 0))] [2, 3, 4, 0])
instance : IsSeq c104_n2 c104_n3 (.region [.op 16 (.bin .add (.t 3) (.k (.c (.int .i64 1)))), .op 8 (.move (.t 0))] [2, 3, 4, 0]) := ⟨rfl⟩
def c104_n1 : SCode := .seq (.cond (.t 4) (.pre [0, 1, 2, 3] .skip) (.pre [0] (.exit 0))) c104_n2
instance : IsSeq c104_n1 (.cond (.t 4) (.pre [0, 1, 2, 3] .skip) (.pre [0] (.exit 0))) c104_n2 := ⟨rfl⟩
def c104_l0b : SCode := (.seq (.region [.op 9 (.bin .lss (.t 3) (.t 2))] [1, 2, 3, 4, 0]) c104_n1)
def c104_l0 : SCode := .loop true c104_l0b
def c104 : SCode := (.seq (.region [.op 2 (.move (.k (.c (.int .i64 0))))] [1]) (.seq (.region [.op 3 (.move (.k (.c (.int .i64 0))))] [1, 0]) (.seq (.seq (.region [.op 6 (.move (.t 0)), .op 7 (.len 1 (.t 0)), .op 8 (.move (.k (.c (.int .i64 0))))] [4, 2, 1, 0]) (.block 0 [some 3] c104_l0)) (.seq (.region [.op 17 (.move (.t 0)), .op 2 (.move (.t 0))] [0]) .ret))))
def F104 : SFunc := .code .pure 18 1 [some 2] [.tmp 0] c104

-- cmp.Compare[string]
@[simp] def c105_n2 : SCode := (.region [.op 7 (.move (.t 0)), .op 8 (.call false (.k (.c (.func 145 [] []))) [(.t 0)]), .op 5 (.move (.t 0))] [3, 4, 0])
@[simp] def c105_n4 : SCode := (.region [.op 9 (.move (.t 1)), .op 10 (.call false (.k (.c (.func 145 [] []))) [(.t 0)]), .op 6 (.move (.t 0))] [3, 4, 5, 0])
@[simp] def c105_n6 : SCode := (.seq (.region [.op 11 (.move (.t 2))] [1, 2, 4, 0]) (.cond (.t 3) (.seq (.seq (.region [.op 12 (.move (.t 2))] [0]) (.cond (.t 0) (.seq (.region [.op 4 (.move (.k (.c (.int .i64 0))))] [0]) .ret) (.pre [] .skip))) (.seq (.region [.op 4 (.move (.k (.c (.int .i64 (-1)))))] [0]) .ret)) (.pre [0, 1, 2] .skip)))
@[simp] def c105_n8 : SCode := (.seq (.region [.op 13 (.move (.t 2))] [1, 2, 0]) (.cond (.t 2) (.seq (.region [.op 4 (.move (.k (.c (.int .i64 1))))] [0]) .ret) (.pre [0, 1] .skip)))
@[simp] def c105_n10 : SCode := (.seq (.region [.op 14 (.move (.t 0)), .op 15 (.move (.t 2)), .op 16 (.bin .lss (.t 1) (.t 0))] [3, 4, 0]) (.cond (.t 2) (.seq (.region [.op 4 (.move (.k (.c (.int .i64 (-1)))))] [0]) .ret) (.pre [0, 1] .skip)))
def c105_n9 : SCode := .seq c105_n10 (.seq (.seq (.region [.op 17 (.move (.t 0)), .op 18 (.move (.t 2)), .op 19 (.bin .gtr (.t 1) (.t 0))] [0]) (.cond (.t 0) (.seq (.region [.op 4 (.move (.k (.c (.int .i64 1))))] [0]) .ret) (.pre [] .skip))) (.seq (.region [.op 4 (.move (.k (.c (.int .i64 0))))] [0]) .ret))
instance : IsSeq c105_n9 c105_n10 (.seq (.seq (.region [.op 17 (.move (.t 0)), .op 18 (.move (.t 2)), .op 19 (.bin .gtr (.t 1) (.t 0))] [0]) (.cond (.t 0) (.seq (.region [.op 4 (.move (.k (.c (.int .i64 1))))] [0]) .ret) (.pre [] .skip))) (.seq (.region [.op 4 (.move (.k (.c (.int .i64 0))))] [0]) .ret)) := ⟨rfl⟩
def c105_n7 : SCode := .seq c105_n8 c105_n9
instance : IsSeq c105_n7 c105_n8 c105_n9 := ⟨rfl⟩
def c105_n5 : SCode := .seq c105_n6 c105_n7
instance : IsSeq c105_n5 c105_n6 c105_n7 := ⟨rfl⟩
def c105_n3 : SCode := .seq c105_n4 c105_n5
instance : IsSeq c105_n3 c105_n4 c105_n5 := ⟨rfl⟩
def c105_n1 : SCode := .seq c105_n2 c105_n3
instance : IsSeq c105_n1 c105_n2 c105_n3 := ⟨rfl⟩
def c105 : SCode := (.seq (.region [.op 4 (.move (.k (.c (.int .i64 0))))] [1, 2]) c105_n1)
def F105 : SFunc := .code .pure 20 2 [some 4] [.tmp 0] c105

-- crux/start.Apart$2
@[simp] def c106_n2 : SCode := (.draw 0 [.op 7 (.load none (.t 2)) none .var, .op 8 (.move (.t 1)), .op 9 (.idxSlice 3 (.t 1) (.t 0)), .op 10 (.load (some 3) (.t 0)) none .old, .op 11 (.load none (.t 7)) none .var, .op 12 (.call false (.k (.c (.func 107 [] []))) [(.t 1), (.t 0)]), .op 13 (.load none (.t 8)) none .var, .op 14 (.move (.t 8)), .op 15 (.idxSlice 3 (.t 1) (.t 0)), .op 16 (.load (some 3) (.t 0)) none .old, .op 17 (.load none (.t 13)) none .var, .op 18 (.call false (.k (.c (.func 107 [] []))) [(.t 1), (.t 0)]), .op 19 (.call false (.k (.c (.func 96 [] []))) [(.t 6), (.t 0)]), .op 6 (.move (.t 0))] [0])
def c106_n1 : SCode := .seq c106_n2 .ret
instance : IsSeq c106_n1 c106_n2 .ret := ⟨rfl⟩
def c106 : SCode := (.seq (.region [.op 6 (.move (.k (.c (.int .i64 0))))] [1, 2, 3, 4]) c106_n1)
def F106 : SFunc := .code .pure 20 4 [some 6] [.tmp 0] c106

-- crux/start.other
def c107 : SCode := (.seq (.region [.op 2 (.box (.t 0)), .op 4 (.move (.k (.c (.int .i64 0))))] [3, 1]) (.seq (.seq (.region [.op 5 (.fieldAddr 1 (.t 1)), .op 6 (.load none (.t 0)), .op 7 (.move (.t 2)), .op 8 (.bin .eql (.t 1) (.t 0))] [0]) (.cond (.t 0) (.seq (.region [.op 4 (.move (.k (.c (.int .i64 0))))] [0]) .ret) (.pre [] .skip))) (.seq (.region [.op 4 (.move (.k (.c (.int .i64 1))))] [0]) .ret)))
def F107 : SFunc := .code .pure 9 2 [some 4] [.tmp 0] c107

-- crux/start.checkStarts
@[simp] def c108_n2 : SCode := (.region [.op 9 (.move (.t 0)), .op 10 (.call false (.k (.c (.func 91 [] []))) [(.t 0), (.k (.c (.int .i64 0))), (.k (.c (.int .i64 160)))]), .op 11 (.move (.t 5)), .op 12 (.move (.t 4)), .op 13 (.move (.t 6)), .op 14 (.buildSlice 2 none 2 [(.c (.int .i64 0))] [(0, (.t 1)), (1, (.t 0))]), .op 15 (.append none 8 (.t 3) (.t 0)), .op 16 (.call false (.k (.c (.func 124 [] []))) [(.t 0)]), .op 17 (.move (.t 8)), .op 18 (.bin .gtr (.t 0) (.k (.c (.int .i64 0)))), .op 19 (.move (.t 0)), .andN 27 0 [.op 20 (.move (.t 12)), .op 21 (.move (.t 12)), .op 22 (.bin .sub (.t 0) (.k (.c (.int .i64 1)))), .op 23 (.move (.t 16)), .op 24 (.bin .mul (.t 1) (.t 0)), .op 25 (.bin .add (.t 4) (.t 0)), .op 26 (.bin .gtr (.t 0) (.k (.c (.int .i64 86399999))))] (.t 0), .op 28 (.call false (.k (.c (.func 89 [] []))) [(.t 0), (.k (.c (.int .i64 4)))]), .op 29 (.buildSlice 2 none 3 [(.c (.int .i64 0))] [(0, (.t 11)), (1, (.t 5)), (2, (.t 0))]), .op 30 (.call false (.k (.c (.func 88 [] []))) [(.t 0)]), .op 8 (.move (.t 0))] [0])
def c108_n1 : SCode := .seq c108_n2 .ret
instance : IsSeq c108_n1 c108_n2 .ret := ⟨rfl⟩
def c108 : SCode := (.seq (.region [.op 8 (.move (.k (.c (.int .i64 0))))] [1, 2, 3, 4]) c108_n1)
def F108 : SFunc := .code .shared 31 4 [some 8] [.tmp 0] c108

-- crux/start.checkSeeds
def c109 : SCode := (.seq (.region [.op 2 (.move (.k (.c (.int .i64 0))))] [1]) (.seq (.region [.op 3 (.move (.t 0)), .op 4 (.call false (.k (.c (.func 91 [] []))) [(.t 0), (.k (.c (.int .i64 1))), (.k (.c (.int .i64 64)))]), .op 2 (.move (.t 0))] [0]) .ret))
def F109 : SFunc := .code .pure 5 1 [some 2] [.tmp 0] c109

-- crux/start.bracket
-- c110_l0: env [0, 3, 4, 14, 15, 16]
-- c110_l1: env [0, 3]
-- c110_l2: env [0, 3, 32, 33, 34]
@[simp] def c110_n4 : SCode := (.region [.op 18 (.idxSlice 1 (.t 3) (.t 5)), .op 19 (.load none (.t 0)), .op 6 (.move (.t 0))] [3, 4, 5, 0, 6, 7, 8])
@[simp] def c110_n5 : SCode := (.region [.op 20 (.move (.t 2)), .op 21 (.move (.t 4)), .op 22 (.move (.t 3)), .op 23 (.len 1 (.t 0)), .op 24 (.bin .mul (.k (.c (.int .i64 2))) (.t 0)), .op 25 (.bin .add (.t 0) (.k (.c (.int .i64 1)))), .op 26 (.move (.t 9)), .op 27 (.bin .sub (.t 1) (.t 0)), .op 28 (.buildSlice 2 none 2 [(.c (.int .i64 0))] [(0, (.t 6)), (1, (.t 0))]), .op 29 (.append none 8 (.t 8) (.t 0)), .op 4 (.move (.t 0))] [11, 12, 0, 15, 16, 17])
def c110_n3 : SCode := .seq c110_n4 c110_n5
instance : IsSeq c110_n3 c110_n4 c110_n5 := ⟨rfl⟩
def c110_n2 : SCode := .seq (.block 3 [some 0, some 3, some 4, some 14, some 15, some 16] c110_n3) (.region [.op 30 (.bin .add (.t 5) (.k (.c (.int .i64 1)))), .op 16 (.move (.t 0))] [2, 3, 4, 5, 6, 0])
instance : IsSeq c110_n2 (.block 3 [some 0, some 3, some 4, some 14, some 15, some 16] c110_n3) (.region [.op 30 (.bin .add (.t 5) (.k (.c (.int .i64 1)))), .op 16 (.move (.t 0))] [2, 3, 4, 5, 6, 0]) := ⟨rfl⟩
def c110_n1 : SCode := .seq (.cond (.t 6) (.pre [0, 1, 2, 3, 4, 5] .skip) (.pre [0, 2] (.exit 2))) c110_n2
instance : IsSeq c110_n1 (.cond (.t 6) (.pre [0, 1, 2, 3, 4, 5] .skip) (.pre [0, 2] (.exit 2))) c110_n2 := ⟨rfl⟩
def c110_l0b : SCode := (.seq (.region [.op 17 (.bin .lss (.t 5) (.t 4))] [1, 2, 3, 4, 5, 6, 0]) c110_n1)
def c110_l0 : SCode := .loop true c110_l0b
def c110_l1b : SCode := (.seq (.seq (.region [.op 10 (.move (.t 1)), .op 11 (.len 1 (.t 0)), .op 12 (.move (.t 2)), .op 13 (.bin .lss (.t 1) (.t 0))] [4, 5, 0]) (.cond (.t 2) (.pre [0, 1] .skip) (.pre [0, 1] (.exit 0)))) (.block 1 [some 0, some 3] (.seq (.region [.op 4 (.mkNil none)] [1, 2, 0]) (.seq (.seq (.region [.op 14 (.move (.t 1)), .op 15 (.len 1 (.t 0)), .op 16 (.move (.k (.c (.int .i64 0))))] [3, 4, 5, 2, 1, 0]) (.block 2 [some 0, some 4] c110_l0)) (.region [.op 31 (.move (.t 1)), .op 3 (.move (.t 0))] [2, 0])))))
def c110_l1 : SCode := .loop false c110_l1b
@[simp] def c110_n9 : SCode := (.region [.op 36 (.move (.t 4)), .op 37 (.idxSlice 1 (.t 3) (.t 5)), .op 38 (.load none (.t 0)), .op 7 (.move (.t 2)), .op 8 (.move (.t 1))] [5, 6, 1, 0, 7, 8, 9])
def c110_n8 : SCode := .seq c110_n9 (.seq (.region [.op 39 (.move (.t 3)), .op 40 (.move (.t 1)), .op 41 (.bin .gtr (.t 1) (.t 0))] [3, 4, 5, 7, 8, 9, 0]) (.cond (.t 6) (.region [.op 42 (.move (.t 1)), .op 43 (.move (.t 3)), .op 44 (.idxSlice 1 (.t 1) (.t 0)), .eff (.store 1 (.t 0) (.k (.c (.int .i64 0))))] [3, 4, 6, 7, 8]) (.pre [0, 1, 3, 4, 5] .skip)))
instance : IsSeq c110_n8 c110_n9 (.seq (.region [.op 39 (.move (.t 3)), .op 40 (.move (.t 1)), .op 41 (.bin .gtr (.t 1) (.t 0))] [3, 4, 5, 7, 8, 9, 0]) (.cond (.t 6) (.region [.op 42 (.move (.t 1)), .op 43 (.move (.t 3)), .op 44 (.idxSlice 1 (.t 1) (.t 0)), .eff (.store 1 (.t 0) (.k (.c (.int .i64 0))))] [3, 4, 6, 7, 8]) (.pre [0, 1, 3, 4, 5] .skip))) := ⟨rfl⟩
def c110_n7 : SCode := .seq (.block 5 [some 0, some 3, some 32, some 33, some 34] c110_n8) (.region [.op 45 (.bin .add (.t 4) (.k (.c (.int .i64 1)))), .op 34 (.move (.t 0))] [2, 3, 4, 5, 0])
instance : IsSeq c110_n7 (.block 5 [some 0, some 3, some 32, some 33, some 34] c110_n8) (.region [.op 45 (.bin .add (.t 4) (.k (.c (.int .i64 1)))), .op 34 (.move (.t 0))] [2, 3, 4, 5, 0]) := ⟨rfl⟩
def c110_n6 : SCode := .seq (.cond (.t 5) (.pre [0, 1, 2, 3, 4] .skip) (.pre [1] (.exit 4))) c110_n7
instance : IsSeq c110_n6 (.cond (.t 5) (.pre [0, 1, 2, 3, 4] .skip) (.pre [1] (.exit 4))) c110_n7 := ⟨rfl⟩
def c110_l2b : SCode := (.seq (.region [.op 35 (.bin .lss (.t 4) (.t 3))] [1, 2, 3, 4, 5, 0]) c110_n6)
def c110_l2 : SCode := .loop true c110_l2b
@[simp] def c110_n11 : SCode := (.region [.op 9 (.buildSlice 0 none 1 [(.c (.int .i64 0))] [(0, (.k (.c (.int .i64 1))))]), .op 3 (.move (.t 0))] [2, 0])
def c110_n10 : SCode := .seq c110_n11 (.seq (.block 0 [some 0, some 3] c110_l1) (.seq (.seq (.region [.op 32 (.move (.t 1)), .op 33 (.len 1 (.t 0)), .op 34 (.move (.k (.c (.int .i64 0))))] [3, 4, 2, 1, 0]) (.block 4 [some 3] c110_l2)) (.seq (.region [.op 46 (.move (.t 0)), .op 2 (.move (.t 0))] [0]) .ret)))
instance : IsSeq c110_n10 c110_n11 (.seq (.block 0 [some 0, some 3] c110_l1) (.seq (.seq (.region [.op 32 (.move (.t 1)), .op 33 (.len 1 (.t 0)), .op 34 (.move (.k (.c (.int .i64 0))))] [3, 4, 2, 1, 0]) (.block 4 [some 3] c110_l2)) (.seq (.region [.op 46 (.move (.t 0)), .op 2 (.move (.t 0))] [0]) .ret))) := ⟨rfl⟩
def c110 : SCode := (.seq (.region [.op 2 (.mkNil none)] [1]) c110_n10)
def F110 : SFunc := .code .pure 47 1 [some 2] [.tmp 0] c110

-- math/bits.Len
def c111 : SCode := (.seq (.region [.op 2 (.move (.k (.c (.int .i64 0))))] [1]) (.seq (.cond (.k (.c (.bool false))) (.seq (.region [.op 3 (.move (.t 0)), .op 4 (.conv .u32 (.t 0)), .op 5 (.call false (.k (.c (.func 146 [] []))) [(.t 0)]), .op 2 (.move (.t 0))] [0]) .ret) .skip) (.seq (.region [.op 6 (.move (.t 0)), .op 7 (.call false (.k (.c (.func 147 [] []))) [(.t 0)]), .op 2 (.move (.t 0))] [0]) .ret)))
def F111 : SFunc := .code .pure 8 1 [some 2] [.tmp 0] c111

-- slices.Index[[]int,int]
-- c112_l0: env [0, 1, 7, 8]
def c112_n3 : SCode := .seq (.region [.op 10 (.move (.t 3)), .op 5 (.move (.t 0))] [2, 3, 0, 4, 5]) (.seq (.region [.op 11 (.move (.t 1)), .op 12 (.move (.t 1)), .op 13 (.move (.t 4)), .op 14 (.idxSlice 1 (.t 1) (.t 0)), .op 15 (.load none (.t 0)), .op 16 (.bin .eql (.t 4) (.t 0))] [6, 7, 8, 9, 10, 0]) (.cond (.t 5) (.seq (.region [.op 17 (.move (.t 2)), .op 4 (.move (.t 0))] [0]) .ret) (.pre [0, 1, 3, 4] .skip)))
instance : IsSeq c112_n3 (.region [.op 10 (.move (.t 3)), .op 5 (.move (.t 0))] [2, 3, 0, 4, 5]) (.seq (.region [.op 11 (.move (.t 1)), .op 12 (.move (.t 1)), .op 13 (.move (.t 4)), .op 14 (.idxSlice 1 (.t 1) (.t 0)), .op 15 (.load none (.t 0)), .op 16 (.bin .eql (.t 4) (.t 0))] [6, 7, 8, 9, 10, 0]) (.cond (.t 5) (.seq (.region [.op 17 (.move (.t 2)), .op 4 (.move (.t 0))] [0]) .ret) (.pre [0, 1, 3, 4] .skip))) := ⟨rfl⟩
def c112_n2 : SCode := .seq (.block 1 [some 0, some 1, some 7, some 8] c112_n3) (.region [.op 18 (.bin .add (.t 3) (.k (.c (.int .i64 1)))), .op 8 (.move (.t 0))] [2, 3, 4, 0])
instance : IsSeq c112_n2 (.block 1 [some 0, some 1, some 7, some 8] c112_n3) (.region [.op 18 (.bin .add (.t 3) (.k (.c (.int .i64 1)))), .op 8 (.move (.t 0))] [2, 3, 4, 0]) := ⟨rfl⟩
def c112_n1 : SCode := .seq (.cond (.t 4) (.pre [0, 1, 2, 3] .skip) (.pre [] (.exit 0))) c112_n2
instance : IsSeq c112_n1 (.cond (.t 4) (.pre [0, 1, 2, 3] .skip) (.pre [] (.exit 0))) c112_n2 := ⟨rfl⟩
def c112_l0b : SCode := (.seq (.region [.op 9 (.bin .lss (.t 3) (.t 2))] [1, 2, 3, 4, 0]) c112_n1)
def c112_l0 : SCode := .loop true c112_l0b
def c112 : SCode := (.seq (.region [.op 4 (.move (.k (.c (.int .i64 0))))] [1, 2]) (.seq (.seq (.region [.op 6 (.move (.t 0)), .op 7 (.len 1 (.t 0)), .op 8 (.move (.k (.c (.int .i64 0))))] [3, 4, 1, 0]) (.block 0 [] c112_l0)) (.seq (.region [.op 4 (.move (.k (.c (.int .i64 (-1)))))] [0]) .ret)))
def F112 : SFunc := .code .pure 19 2 [some 4] [.tmp 0] c112

-- slices.Contains[[]string,string]
def c113 : SCode := (.seq (.region [.op 4 (.move (.k (.c (.bool false))))] [1, 2]) (.seq (.region [.op 5 (.move (.t 0)), .op 6 (.move (.t 2)), .op 7 (.call false (.k (.c (.func 148 [] []))) [(.t 1), (.t 0)]), .op 8 (.bin .geq (.t 0) (.k (.c (.int .i64 0)))), .op 4 (.move (.t 0))] [0]) .ret))
def F113 : SFunc := .code .pure 9 2 [some 4] [.tmp 0] c113

-- crux/start.pairs
-- c114_l0: env [0, 3, 4]
@[simp] def c114_n2 : SCode := (.draw 2 [.op 12 (.move (.t 1)), .op 13 (.move (.t 1)), .op 14 (.move (.t 4)), .op 15 (.idxSlice 1 (.t 1) (.t 0)), .op 16 (.load none (.t 0)) none .old, .op 17 (.move (.t 5)), .op 18 (.move (.t 8)), .op 19 (.bin .add (.t 0) (.k (.c (.int .i64 1)))), .op 20 (.idxSlice 1 (.t 2) (.t 0)), .op 21 (.load none (.t 0)) none .old, .op 22 (.call false (.k (.c (.func 118 [] []))) [(.t 5), (.t 0)]), .op 23 (.buildSlice 2 (some 3) 1 [(.c (.str [])), (.c (.str [])), (.c (.int .i64 0))] [(0, (.t 0))]) (some 0), .op 24 (.append (some 3) 40 (.t 11) (.t 0)) (some 1) .row, .op 3 (.move (.t 0))] [14, 0, 16])
def c114_n1 : SCode := .seq (.block 1 [some 0, some 3, some 4] c114_n2) (.region [.op 10 (.move (.t 2)), .op 11 (.bin .add (.t 0) (.k (.c (.int .i64 2)))), .op 4 (.move (.t 0))] [3, 4, 0])
instance : IsSeq c114_n1 (.block 1 [some 0, some 3, some 4] c114_n2) (.region [.op 10 (.move (.t 2)), .op 11 (.bin .add (.t 0) (.k (.c (.int .i64 2)))), .op 4 (.move (.t 0))] [3, 4, 0]) := ⟨rfl⟩
def c114_l0b : SCode := (.seq (.seq (.region [.op 5 (.move (.t 2)), .op 6 (.bin .add (.t 0) (.k (.c (.int .i64 1)))), .op 7 (.move (.t 2)), .op 8 (.len 1 (.t 0)), .op 9 (.bin .lss (.t 2) (.t 0))] [5, 6, 7, 0]) (.cond (.t 3) (.pre [0, 1, 2] .skip) (.pre [1] (.exit 0)))) c114_n1)
def c114_l0 : SCode := .loop true c114_l0b
def c114 : SCode := (.seq (.region [.op 2 (.mkNil (some 3))] [1]) (.seq (.region [.op 3 (.mkNil (some 3))] [1, 0]) (.seq (.seq (.region [.op 4 (.move (.k (.c (.int .i64 0))))] [1, 2, 0]) (.block 0 [some 3] c114_l0)) (.seq (.region [.op 25 (.move (.t 0)), .op 2 (.move (.t 0))] [0]) .ret))))
def F114 : SFunc := .code .pure 26 1 [some 2] [.tmp 0] c114

-- math/bits.OnesCount
def c117 : SCode := (.seq (.region [.op 2 (.move (.k (.c (.int .i64 0))))] [1]) (.seq (.cond (.k (.c (.bool false))) (.seq (.region [.op 3 (.move (.t 0)), .op 4 (.conv .u32 (.t 0)), .op 5 (.call false (.k (.c (.func 149 [] []))) [(.t 0)]), .op 2 (.move (.t 0))] [0]) .ret) .skip) (.seq (.region [.op 6 (.move (.t 0)), .op 7 (.call false (.k (.c (.func 150 [] []))) [(.t 0)]), .op 2 (.move (.t 0))] [0]) .ret)))
def F117 : SFunc := .code .pure 8 1 [some 2] [.tmp 0] c117

-- crux/start.decided
@[simp] def c118_n2 : SCode := (.region [.op 7 (.build [(.c (.int .i64 0)), (.c (.int .i64 0)), (.c (.int .i64 0)), (.c (.int .i64 0))] [(0, 1, (.k (.c (.int .i64 0)))), (1, 1, (.k (.c (.int .i64 1)))), (2, 1, (.k (.c (.int .i64 2)))), (3, 1, (.k (.c (.int .i64 3))))]), .op 5 (.new [(.c (.int .i64 0)), (.c (.int .i64 0)), (.c (.int .i64 0)), (.c (.int .i64 0))]), .eff (.store 4 (.t 0) (.t 1))] [2, 3, 4, 0])
@[simp] def c118_n5 : SCode := (.seq (.region [.op 8 (.move (.t 1)), .op 9 (.bin .eql (.t 0) (.k (.c (.str []))))] [2, 3, 4, 5, 6, 0]) (.cond (.t 5) (.region [.op 10 (.move (.t 4)), .op 11 (.bin .add (.t 0) (.k (.c (.int .i64 1)))), .op 6 (.move (.t 0))] [3, 4, 5, 6, 0]) (.pre [0, 1, 2, 3, 4] .skip)))
@[simp] def c118_n7 : SCode := (.seq (.region [.op 12 (.move (.t 0)), .op 13 (.bin .eql (.t 0) (.k (.c (.str []))))] [2, 3, 4, 5, 6, 0]) (.cond (.t 5) (.region [.op 14 (.move (.t 4)), .op 15 (.bin .add (.t 0) (.k (.c (.int .i64 2)))), .op 6 (.move (.t 0))] [3, 4, 5, 6, 0]) (.pre [0, 1, 2, 3, 4] .skip)))
def c118_n6 : SCode := .seq c118_n7 (.seq (.region [.op 16 (.move (.t 0)), .op 17 (.move (.t 2)), .op 18 (.move (.t 6)), .op 19 (.idxArr 4 1 (.t 6) (.t 0)), .op 20 (.load none (.t 0)), .op 21 (.build [(.c (.str [])), (.c (.str [])), (.c (.int .i64 0))] [(0, 1, (.t 4)), (1, 1, (.t 3)), (2, 1, (.t 0))]), .eff (.store 3 (.t 8) (.t 0))] [8]) .ret)
instance : IsSeq c118_n6 c118_n7 (.seq (.region [.op 16 (.move (.t 0)), .op 17 (.move (.t 2)), .op 18 (.move (.t 6)), .op 19 (.idxArr 4 1 (.t 6) (.t 0)), .op 20 (.load none (.t 0)), .op 21 (.build [(.c (.str [])), (.c (.str [])), (.c (.int .i64 0))] [(0, 1, (.t 4)), (1, 1, (.t 3)), (2, 1, (.t 0))]), .eff (.store 3 (.t 8) (.t 0))] [8]) .ret) := ⟨rfl⟩
def c118_n4 : SCode := .seq c118_n5 c118_n6
instance : IsSeq c118_n4 c118_n5 c118_n6 := ⟨rfl⟩
def c118_n3 : SCode := .seq (.region [.op 6 (.move (.k (.c (.int .i64 0))))] [1, 2, 3, 4, 0]) c118_n4
instance : IsSeq c118_n3 (.region [.op 6 (.move (.k (.c (.int .i64 0))))] [1, 2, 3, 4, 0]) c118_n4 := ⟨rfl⟩
def c118_n1 : SCode := .seq c118_n2 c118_n3
instance : IsSeq c118_n1 c118_n2 c118_n3 := ⟨rfl⟩
def c118 : SCode := (.seq (.region [.op 4 (.new [(.c (.str [])), (.c (.str [])), (.c (.int .i64 0))])] [1, 2, 0]) c118_n1)
def F118 : SFunc := .code .pure 22 2 [some 4] [.cell 0 (some 3)] c118

-- crux/start.open
def c119 : SCode := (.seq (.region [.op 2 (.move (.k (.c (.bool false))))] [1]) (.seq (.region [.op 3 (.move (.t 0)), .op 4 (.call false (.k (.c (.func 151 [] []))) [(.t 0), (.k (.c (.func 152 [] [])))]), .op 2 (.move (.t 0))] [0]) .ret))
def F119 : SFunc := .code .pure 5 1 [some 2] [.tmp 0] c119

-- crux/start.next
-- c120_l0: env [3, 6, 7, 8]
@[simp] def c120_n4 : SCode := (.region [.op 10 (.idxSlice 3 (.t 1) (.t 3)), .op 11 (.load (some 3) (.t 0)), .op 5 (.new [(.c (.str [])), (.c (.str [])), (.c (.int .i64 0))]), .eff (.store 3 (.t 0) (.t 1))] [3, 0, 4, 5, 6])
def c120_n3 : SCode := .seq c120_n4 (.region [.op 12 (.move (.t 0)), .op 13 (.load (some 3) (.t 2)), .op 14 (.call false (.k (.c (.func 126 [] []))) [(.t 0)]), .op 15 (.buildSlice 2 none 1 [(.c (.str []))] [(0, (.t 0))]), .op 16 (.append none 16 (.t 3) (.t 0)), .op 3 (.move (.t 0))] [0, 8, 9, 10])
instance : IsSeq c120_n3 c120_n4 (.region [.op 12 (.move (.t 0)), .op 13 (.load (some 3) (.t 2)), .op 14 (.call false (.k (.c (.func 126 [] []))) [(.t 0)]), .op 15 (.buildSlice 2 none 1 [(.c (.str []))] [(0, (.t 0))]), .op 16 (.append none 16 (.t 3) (.t 0)), .op 3 (.move (.t 0))] [0, 8, 9, 10]) := ⟨rfl⟩
def c120_n2 : SCode := .seq (.block 1 [some 3, some 6, some 7, some 8] c120_n3) (.region [.op 17 (.bin .add (.t 3) (.k (.c (.int .i64 1)))), .op 8 (.move (.t 0))] [2, 3, 4, 0])
instance : IsSeq c120_n2 (.block 1 [some 3, some 6, some 7, some 8] c120_n3) (.region [.op 17 (.bin .add (.t 3) (.k (.c (.int .i64 1)))), .op 8 (.move (.t 0))] [2, 3, 4, 0]) := ⟨rfl⟩
def c120_n1 : SCode := .seq (.cond (.t 4) (.pre [0, 1, 2, 3] .skip) (.pre [0] (.exit 0))) c120_n2
instance : IsSeq c120_n1 (.cond (.t 4) (.pre [0, 1, 2, 3] .skip) (.pre [0] (.exit 0))) c120_n2 := ⟨rfl⟩
def c120_l0b : SCode := (.seq (.region [.op 9 (.bin .lss (.t 3) (.t 2))] [1, 2, 3, 4, 0]) c120_n1)
def c120_l0 : SCode := .loop true c120_l0b
def c120 : SCode := (.seq (.region [.op 2 (.mkNil (some 3))] [1]) (.seq (.region [.op 3 (.mkNil none)] [1, 0]) (.seq (.seq (.region [.op 6 (.move (.t 0)), .op 7 (.len 1 (.t 0)), .op 8 (.move (.k (.c (.int .i64 0))))] [4, 2, 1, 0]) (.block 0 [some 3] c120_l0)) (.seq (.region [.op 18 (.move (.t 0)), .op 19 (.call false (.k (.c (.func 114 [] []))) [(.t 0)]), .op 2 (.move (.t 0))] [0]) .ret))))
def F120 : SFunc := .code .pure 20 1 [some 2] [.tmp 0] c120

-- (crux/start.Race).loser
@[simp] def c121_n4 : SCode := (.region [.op 6 (.bin .eql (.t 1) (.k (.c (.int .i64 1)))), .op 5 (.move (.t 0))] [2, 3, 0])
def c121_n5 : SCode := .cond (.t 2) (.seq (.region [.op 7 (.fieldAddr 1 (.t 0)), .op 8 (.load none (.t 0)), .op 2 (.move (.t 0))] [0]) .ret) (.seq (.region [.op 10 (.bin .eql (.t 1) (.k (.c (.int .i64 2)))), .op 9 (.move (.t 0))] [2, 0]) (.cond (.t 1) (.seq (.region [.op 11 (.fieldAddr 0 (.t 0)), .op 12 (.load none (.t 0)), .op 2 (.move (.t 0))] [0]) .ret) (.pre [] .skip)))
instance : IsCond c121_n5 (.t 2) (.seq (.region [.op 7 (.fieldAddr 1 (.t 0)), .op 8 (.load none (.t 0)), .op 2 (.move (.t 0))] [0]) .ret) (.seq (.region [.op 10 (.bin .eql (.t 1) (.k (.c (.int .i64 2)))), .op 9 (.move (.t 0))] [2, 0]) (.cond (.t 1) (.seq (.region [.op 11 (.fieldAddr 0 (.t 0)), .op 12 (.load none (.t 0)), .op 2 (.move (.t 0))] [0]) .ret) (.pre [] .skip))) := ⟨rfl⟩
def c121_n3 : SCode := .seq c121_n4 c121_n5
instance : IsSeq c121_n3 c121_n4 c121_n5 := ⟨rfl⟩
def c121_n2 : SCode := .block 0 [] c121_n3
instance : IsBlock c121_n2 0 [] c121_n3 := ⟨rfl⟩
@[simp] def c121_n6 : SCode := (.seq (.region [.op 3 (.fieldAddr 2 (.t 0)), .op 4 (.load none (.t 0))] [2, 0]) c121_n2)
def c121_n1 : SCode := .seq c121_n6 (.seq (.region [.op 2 (.move (.k (.c (.str []))))] [0]) .ret)
instance : IsSeq c121_n1 c121_n6 (.seq (.region [.op 2 (.move (.k (.c (.str []))))] [0]) .ret) := ⟨rfl⟩
def c121 : SCode := (.seq (.region [.op 1 (.box (.t 0)), .op 2 (.move (.k (.c (.str []))))] [1]) c121_n1)
def F121 : SFunc := .code .pure 13 1 [some 2] [.tmp 0] c121

-- crux/start.timed
@[simp] def c124_n2 : SCode := (.region [.op 3 (.move (.t 0)), .op 4 (.call false (.k (.c (.func 153 [] []))) [(.t 0)]), .op 5 (.bin .lss (.t 0) (.k (.c (.int .i64 0)))), .op 6 (.move (.t 0)), .orN 10 0 [.op 7 (.move (.t 4)), .op 8 (.call false (.k (.c (.func 154 [] []))) [(.t 0)]), .op 9 (.bin .gtr (.t 0) (.k (.c (.int .i64 86399999))))] (.t 0), .op 11 (.call false (.k (.c (.func 89 [] []))) [(.t 0), (.k (.c (.int .i64 3)))]), .op 2 (.move (.t 0))] [0])
def c124_n1 : SCode := .seq c124_n2 .ret
instance : IsSeq c124_n1 c124_n2 .ret := ⟨rfl⟩
def c124 : SCode := (.seq (.region [.op 2 (.move (.k (.c (.int .i64 0))))] [1]) c124_n1)
def F124 : SFunc := .code .pure 12 1 [some 2] [.tmp 0] c124

-- crux/start.checkRounds
-- c125_l0: env [0, 5, 24, 25, 26, 66, 67, 68]
-- c125_l1: env [0, 24, 25, 26]
@[simp] def c125_n2 : SCode := (.cond (.t 8) (.pre [0, 1, 2, 3, 4, 5, 6, 7] .skip) (.pre [0, 2, 3, 4] (.exit 2)))
@[simp] def c125_n5 : SCode := (.region [.op 70 (.move (.t 7)), .op 71 (.idxSlice 3 (.t 6) (.t 8)), .op 72 (.load (some 3) (.t 0)), .op 9 (.new [(.c (.str [])), (.c (.str [])), (.c (.int .i64 0))]), .op 8 (.move (.t 3)), .eff (.store 3 (.t 1) (.t 2))] [5, 6, 0, 1, 7, 8, 9, 10, 11, 12])
@[simp] def c125_n7 : SCode := (.draw 0 [.op 73 (.fieldAddr 0 (.t 3)), .op 74 (.load none (.t 0)) none .var, .op 75 (.move (.t 3)), .op 76 (.move (.t 5)), .op 77 (.idxSlice 3 (.t 1) (.t 0)), .op 78 (.fieldAddr 0 (.t 0)), .op 79 (.load none (.t 0)) none .old, .op 80 (.bin .neq (.t 5) (.t 0)), .op 81 (.move (.t 0)), .orN 90 0 [.op 82 (.fieldAddr 1 (.t 12)), .op 83 (.load none (.t 0)) none .var, .op 84 (.move (.t 12)), .op 85 (.move (.t 14)), .op 86 (.idxSlice 3 (.t 1) (.t 0)), .op 87 (.fieldAddr 1 (.t 0)), .op 88 (.load none (.t 0)) none .old, .op 89 (.bin .neq (.t 5) (.t 0))] (.t 0)] [10, 11, 14, 15, 16, 17, 18, 19, 0])
def c125_n6 : SCode := .seq c125_n7 (.cond (.t 8) (.seq (.region [.op 2 (.move (.k (.c (.int .i64 29))))] [0]) .ret) (.pre [0, 1, 2, 3, 4, 5, 6, 7] .skip))
instance : IsSeq c125_n6 c125_n7 (.cond (.t 8) (.seq (.region [.op 2 (.move (.k (.c (.int .i64 29))))] [0]) .ret) (.pre [0, 1, 2, 3, 4, 5, 6, 7] .skip)) := ⟨rfl⟩
def c125_n4 : SCode := .seq c125_n5 c125_n6
instance : IsSeq c125_n4 c125_n5 c125_n6 := ⟨rfl⟩
@[simp] def c125_n8 : SCode := (.block 3 [some 0, some 5, some 24, some 25, some 26, some 66, some 67, some 68] c125_n4)
def c125_n3 : SCode := .seq c125_n8 (.region [.op 91 (.bin .add (.t 7) (.k (.c (.int .i64 1)))), .op 68 (.move (.t 0))] [2, 3, 4, 5, 6, 7, 8, 0])
instance : IsSeq c125_n3 c125_n8 (.region [.op 91 (.bin .add (.t 7) (.k (.c (.int .i64 1)))), .op 68 (.move (.t 0))] [2, 3, 4, 5, 6, 7, 8, 0]) := ⟨rfl⟩
def c125_n1 : SCode := .seq c125_n2 c125_n3
instance : IsSeq c125_n1 c125_n2 c125_n3 := ⟨rfl⟩
def c125_l0b : SCode := (.seq (.region [.op 69 (.bin .lss (.t 7) (.t 6))] [1, 2, 3, 4, 5, 6, 7, 8, 0]) c125_n1)
def c125_l0 : SCode := .loop true c125_l0b
@[simp] def c125_n12 : SCode := (.region [.op 28 (.move (.t 3)), .op 29 (.idxSlice 1 (.t 2) (.t 4)), .op 30 (.load none (.t 0)), .op 4 (.move (.t 2)), .op 5 (.move (.t 1))] [5, 1, 0, 6, 7, 8])
@[simp] def c125_n14 : SCode := (.seq (.region [.op 31 (.move (.t 2)), .op 32 (.call false (.k (.c (.func 57 [] []))) [(.t 0)]), .op 6 (.move (.t 0))] [3, 4, 5, 0, 6, 7, 8]) (.seq (.region [.op 33 (.move (.t 3)), .op 34 (.bin .neq (.t 0) (.k (.c (.int .i64 0))))] [2, 3, 4, 5, 6, 7, 8, 0]) (.cond (.t 7) (.seq (.region [.op 35 (.move (.t 3)), .op 2 (.move (.t 0))] [0]) .ret) (.pre [0, 1, 2, 4, 5, 6] .skip))))
@[simp] def c125_n16 : SCode := (.seq (.region [.op 36 (.move (.t 1)), .op 37 (.bin .eql (.t 0) (.k (.c (.int .i64 0))))] [2, 3, 4, 5, 6, 7, 0]) (.cond (.t 6) (.pre [0, 3, 4, 5] (.exit 1)) (.pre [0, 1, 2, 3, 4, 5] .skip)))
@[simp] def c125_n18 : SCode := (.seq (.draw 1 [.op 38 (.move (.t 2)), .op 39 (.len 1 (.t 0)) none .old, .op 40 (.bin .mul (.k (.c (.int .i64 2))) (.t 0)), .op 41 (.move (.t 3)), .op 42 (.move (.t 5)), .op 43 (.bin .sub (.t 0) (.k (.c (.int .i64 1)))), .op 44 (.idxSlice 1 (.t 2) (.t 0)), .op 45 (.load none (.t 0)) none .old, .op 46 (.len 1 (.t 0)) none .old, .op 47 (.bin .neq (.t 6) (.t 0)), .op 48 (.call false (.k (.c (.func 89 [] []))) [(.t 0), (.k (.c (.int .i64 2)))]), .op 49 (.move (.t 11)), .op 50 (.move (.t 13)), .op 51 (.bin .sub (.t 0) (.k (.c (.int .i64 1)))), .op 52 (.idxSlice 1 (.t 2) (.t 0)), .op 53 (.load none (.t 0)) none .old, .op 54 (.call false (.k (.c (.func 119 [] []))) [(.t 0)]), .op 55 (.call false (.k (.c (.func 89 [] []))) [(.t 0), (.k (.c (.int .i64 24)))]), .op 56 (.buildSlice 2 none 2 [(.c (.int .i64 0))] [(0, (.t 7)), (1, (.t 0))]) (some 0), .op 57 (.call false (.k (.c (.func 88 [] []))) [(.t 0)]), .op 7 (.move (.t 0))] [21, 22, 23, 0, 24, 25, 26]) (.seq (.region [.op 58 (.move (.t 3)), .op 59 (.bin .neq (.t 0) (.k (.c (.int .i64 0))))] [2, 3, 4, 5, 6, 7, 8, 0]) (.cond (.t 7) (.seq (.region [.op 60 (.move (.t 3)), .op 2 (.move (.t 0))] [0]) .ret) (.pre [0, 1, 2, 4, 5, 6] .skip))))
@[simp] def c125_n20 : SCode := (.region [.op 61 (.move (.t 0)), .op 62 (.move (.t 2)), .op 63 (.bin .sub (.t 0) (.k (.c (.int .i64 1)))), .op 64 (.idxSlice 1 (.t 2) (.t 0)), .op 65 (.load none (.t 0)), .op 66 (.call false (.k (.c (.func 120 [] []))) [(.t 0)]), .op 67 (.len 1 (.t 0)), .op 68 (.move (.k (.c (.int .i64 0))))] [8, 10, 11, 12, 13, 2, 1, 0])
def c125_n19 : SCode := .seq c125_n20 (.block 2 [some 0, some 24, some 25, some 26] c125_l0)
instance : IsSeq c125_n19 c125_n20 (.block 2 [some 0, some 24, some 25, some 26] c125_l0) := ⟨rfl⟩
def c125_n17 : SCode := .seq c125_n18 c125_n19
instance : IsSeq c125_n17 c125_n18 c125_n19 := ⟨rfl⟩
def c125_n15 : SCode := .seq c125_n16 c125_n17
instance : IsSeq c125_n15 c125_n16 c125_n17 := ⟨rfl⟩
def c125_n13 : SCode := .seq c125_n14 c125_n15
instance : IsSeq c125_n13 c125_n14 c125_n15 := ⟨rfl⟩
def c125_n11 : SCode := .seq c125_n12 c125_n13
instance : IsSeq c125_n11 c125_n12 c125_n13 := ⟨rfl⟩
def c125_n10 : SCode := .seq (.block 1 [some 0, some 24, some 25, some 26] c125_n11) (.region [.op 92 (.bin .add (.t 3) (.k (.c (.int .i64 1)))), .op 26 (.move (.t 0))] [2, 3, 4, 0])
instance : IsSeq c125_n10 (.block 1 [some 0, some 24, some 25, some 26] c125_n11) (.region [.op 92 (.bin .add (.t 3) (.k (.c (.int .i64 1)))), .op 26 (.move (.t 0))] [2, 3, 4, 0]) := ⟨rfl⟩
def c125_n9 : SCode := .seq (.cond (.t 4) (.pre [0, 1, 2, 3] .skip) (.pre [0] (.exit 0))) c125_n10
instance : IsSeq c125_n9 (.cond (.t 4) (.pre [0, 1, 2, 3] .skip) (.pre [0] (.exit 0))) c125_n10 := ⟨rfl⟩
def c125_l1b : SCode := (.seq (.region [.op 27 (.bin .lss (.t 3) (.t 2))] [1, 2, 3, 4, 0]) c125_n9)
def c125_l1 : SCode := .loop true c125_l1b
@[simp] def c125_n22 : SCode := (.seq (.region [.op 11 (.move (.t 0)), .op 12 (.len 1 (.t 0)), .op 13 (.bin .eql (.t 0) (.k (.c (.int .i64 0)))), .op 14 (.call false (.k (.c (.func 89 [] []))) [(.t 0), (.k (.c (.int .i64 12)))]), .op 15 (.move (.t 4)), .op 16 (.len 1 (.t 0)), .op 17 (.bin .gtr (.t 0) (.k (.c (.int .i64 6)))), .op 18 (.call false (.k (.c (.func 89 [] []))) [(.t 0), (.k (.c (.int .i64 5)))]), .op 19 (.buildSlice 2 none 2 [(.c (.int .i64 0))] [(0, (.t 4)), (1, (.t 0))]), .op 20 (.call false (.k (.c (.func 88 [] []))) [(.t 0)]), .op 3 (.move (.t 0))] [11, 0]) (.seq (.region [.op 21 (.move (.t 1)), .op 22 (.bin .neq (.t 0) (.k (.c (.int .i64 0))))] [2, 3, 0]) (.cond (.t 2) (.seq (.region [.op 23 (.move (.t 1)), .op 2 (.move (.t 0))] [0]) .ret) (.pre [0] .skip))))
@[simp] def c125_n24 : SCode := (.seq (.region [.op 24 (.move (.t 0)), .op 25 (.len 1 (.t 0)), .op 26 (.move (.k (.c (.int .i64 0))))] [3, 2, 1, 0]) (.block 0 [some 0] c125_l1))
@[simp] def c125_n26 : SCode := (.region [.op 93 (.move (.t 0)), .op 94 (.move (.t 1)), .op 95 (.len 1 (.t 0)), .op 96 (.bin .sub (.t 0) (.k (.c (.int .i64 1)))), .op 97 (.idxSlice 1 (.t 3) (.t 0)), .op 98 (.load none (.t 0)), .op 10 (.move (.t 0))] [0])
@[simp] def c125_n28 : SCode := (.region [.op 99 (.move (.t 0)), .op 100 (.len 1 (.t 0)), .op 101 (.bin .gtr (.t 0) (.k (.c (.int .i64 1)))), .op 102 (.call false (.k (.c (.func 89 [] []))) [(.t 0), (.k (.c (.int .i64 20)))]), .op 103 (.move (.t 4)), .op 104 (.call false (.k (.c (.func 119 [] []))) [(.t 0)]), .op 105 (.call false (.k (.c (.func 89 [] []))) [(.t 0), (.k (.c (.int .i64 24)))]), .op 106 (.buildSlice 2 none 2 [(.c (.int .i64 0))] [(0, (.t 3)), (1, (.t 0))]), .op 107 (.call false (.k (.c (.func 88 [] []))) [(.t 0)]), .op 2 (.move (.t 0))] [0])
def c125_n27 : SCode := .seq c125_n28 .ret
instance : IsSeq c125_n27 c125_n28 .ret := ⟨rfl⟩
def c125_n25 : SCode := .seq c125_n26 c125_n27
instance : IsSeq c125_n25 c125_n26 c125_n27 := ⟨rfl⟩
def c125_n23 : SCode := .seq c125_n24 c125_n25
instance : IsSeq c125_n23 c125_n24 c125_n25 := ⟨rfl⟩
def c125_n21 : SCode := .seq c125_n22 c125_n23
instance : IsSeq c125_n21 c125_n22 c125_n23 := ⟨rfl⟩
def c125 : SCode := (.seq (.region [.op 2 (.move (.k (.c (.int .i64 0))))] [1]) c125_n21)
def F125 : SFunc := .code .pure 108 1 [some 2] [.tmp 0] c125

-- (crux/start.Race).winner
@[simp] def c126_n4 : SCode := (.region [.op 6 (.bin .eql (.t 1) (.k (.c (.int .i64 1)))), .op 5 (.move (.t 0))] [2, 3, 0])
def c126_n5 : SCode := .cond (.t 2) (.seq (.region [.op 7 (.fieldAddr 0 (.t 0)), .op 8 (.load none (.t 0)), .op 2 (.move (.t 0))] [0]) .ret) (.seq (.region [.op 10 (.bin .eql (.t 1) (.k (.c (.int .i64 2)))), .op 9 (.move (.t 0))] [2, 0]) (.cond (.t 1) (.seq (.region [.op 11 (.fieldAddr 1 (.t 0)), .op 12 (.load none (.t 0)), .op 2 (.move (.t 0))] [0]) .ret) (.pre [] .skip)))
instance : IsCond c126_n5 (.t 2) (.seq (.region [.op 7 (.fieldAddr 0 (.t 0)), .op 8 (.load none (.t 0)), .op 2 (.move (.t 0))] [0]) .ret) (.seq (.region [.op 10 (.bin .eql (.t 1) (.k (.c (.int .i64 2)))), .op 9 (.move (.t 0))] [2, 0]) (.cond (.t 1) (.seq (.region [.op 11 (.fieldAddr 1 (.t 0)), .op 12 (.load none (.t 0)), .op 2 (.move (.t 0))] [0]) .ret) (.pre [] .skip))) := ⟨rfl⟩
def c126_n3 : SCode := .seq c126_n4 c126_n5
instance : IsSeq c126_n3 c126_n4 c126_n5 := ⟨rfl⟩
def c126_n2 : SCode := .block 0 [] c126_n3
instance : IsBlock c126_n2 0 [] c126_n3 := ⟨rfl⟩
@[simp] def c126_n6 : SCode := (.seq (.region [.op 3 (.fieldAddr 2 (.t 0)), .op 4 (.load none (.t 0))] [2, 0]) c126_n2)
def c126_n1 : SCode := .seq c126_n6 (.seq (.region [.op 2 (.move (.k (.c (.str []))))] [0]) .ret)
instance : IsSeq c126_n1 c126_n6 (.seq (.region [.op 2 (.move (.k (.c (.str []))))] [0]) .ret) := ⟨rfl⟩
def c126 : SCode := (.seq (.region [.op 1 (.box (.t 0)), .op 2 (.move (.k (.c (.str []))))] [1]) c126_n1)
def F126 : SFunc := .code .pure 13 1 [some 2] [.tmp 0] c126

-- slices.Backward[[][]crux/start.Race,[]crux/start.Race]
def c127 : SCode := (.seq (.region [.op 1 (.box (.t 0)), .op 2 (.move (.k (.c .nilfunc)))] [1]) (.seq (.region [.op 3 (.mkFunc 155 [] [(.t 0)]), .op 2 (.move (.t 0))] [0]) .ret))
def F127 : SFunc := .code .pure 4 1 [some 2] [.tmp 0] c127

-- crux/start.lost
def c128 : SCode := (.seq (.region [.op 1 (.box (.t 0)), .op 2 (.move (.k (.c .nilfunc)))] [1]) (.seq (.region [.op 3 (.mkFunc 156 [] [(.t 0)]), .op 2 (.move (.t 0))] [0]) .ret))
def F128 : SFunc := .code .pure 4 1 [some 2] [.tmp 0] c128

-- crux/start.checkResult
@[simp] def c131_n2 : SCode := (.region [.op 10 (.move (.t 0)), .op 11 (.mkFunc 157 [] [(.t 2)]), .op 12 (.call false (.k (.c (.func 134 [] []))) [(.t 1), (.t 0)]), .op 5 (.move (.t 0))] [4, 5, 0])
@[simp] def c131_n4 : SCode := (.region [.op 13 (.buildSlice 2 none 4 [(.c (.str []))] [(0, (.k (.c (.str [])))), (1, (.k (.c (.str [100, 110, 115])))), (2, (.k (.c (.str [100, 110, 102])))), (3, (.k (.c (.str [100, 115, 113]))))]), .op 14 (.fieldAddr 1 (.t 2)), .op 15 (.load none (.t 0)), .op 16 (.call false (.k (.c (.func 113 [] []))) [(.t 2), (.t 0)]), .op 6 (.move (.t 0))] [5, 6, 7, 0])
@[simp] def c131_n6 : SCode := (.region [.op 17 (.fieldAddr 2 (.t 1)), .op 18 (.load none (.t 0)), .op 19 (.call false (.k (.c (.func 158 [] []))) [(.t 0), (.k (.c (.func 159 [] [])))]), .op 7 (.move (.t 0))] [4, 5, 6, 7, 0])
@[simp] def c131_n10 : SCode := (.region [.op 22 (.move (.t 6)), .op 23 (.bin .geq (.t 0) (.k (.c (.int .i64 0))))] [2, 3, 4, 5, 6, 7, 8, 0])
@[simp] def c131_n12 : SCode := (.draw 0 [.op 24 (.fieldAddr 1 (.t 1)), .op 25 (.load none (.t 0)) none .var, .op 26 (.bin .eql (.t 0) (.k (.c (.str [])))), .op 27 (.move (.t 0)), .andN 38 0 [.op 28 (.fieldAddr 2 (.t 5)), .op 29 (.load none (.t 0)) none .var, .op 30 (.len 1 (.t 0)) none .old, .op 31 (.move (.t 7)), .op 32 (.move (.t 14)), .op 33 (.idxSlice 3 (.t 1) (.t 0)), .op 34 (.fieldAddr 2 (.t 0)), .op 35 (.load none (.t 0)) none .old, .op 36 (.len 1 (.t 0)) none .old, .op 37 (.bin .neq (.t 6) (.t 0))] (.t 0), .op 8 (.move (.t 0))] [7, 8, 9, 10, 0])
def c131_n11 : SCode := .cond (.t 7) c131_n12 (.pre [1, 2, 3, 4, 5] .skip)
instance : IsCond c131_n11 (.t 7) c131_n12 (.pre [1, 2, 3, 4, 5] .skip) := ⟨rfl⟩
def c131_n9 : SCode := .seq c131_n10 c131_n11
instance : IsSeq c131_n9 c131_n10 c131_n11 := ⟨rfl⟩
@[simp] def c131_n13 : SCode := (.seq (.region [.op 20 (.move (.t 0)), .op 21 (.call false (.k (.c (.func 160 [] []))) [(.t 0), (.k (.c (.func 161 [] [])))]), .op 9 (.move (.t 0))] [3, 4, 5, 6, 7, 8, 0]) c131_n9)
@[simp] def c131_n15 : SCode := (.draw 1 [.op 39 (.fieldAddr 0 (.t 0)), .op 40 (.load none (.t 0)) none .var, .op 41 (.call false (.k (.c (.func 90 [] []))) [(.t 0)]), .op 42 (.not (.t 0)), .op 43 (.call false (.k (.c (.func 89 [] []))) [(.t 0), (.k (.c (.int .i64 8)))]), .op 44 (.move (.t 6)), .op 45 (.call false (.k (.c (.func 89 [] []))) [(.t 0), (.k (.c (.int .i64 9)))]), .op 46 (.move (.t 9)), .op 47 (.not (.t 0)), .op 48 (.call false (.k (.c (.func 89 [] []))) [(.t 0), (.k (.c (.int .i64 13)))]), .op 49 (.fieldAddr 1 (.t 10)), .op 50 (.load none (.t 0)) none .var, .op 51 (.bin .neq (.t 0) (.k (.c (.str [])))), .op 52 (.move (.t 0)), .andN 57 0 [.op 53 (.fieldAddr 2 (.t 14)), .op 54 (.load none (.t 0)) none .var, .op 55 (.len 1 (.t 0)) none .old, .op 56 (.bin .gtr (.t 0) (.k (.c (.int .i64 0))))] (.t 0), .op 58 (.call false (.k (.c (.func 89 [] []))) [(.t 0), (.k (.c (.int .i64 1)))]), .op 59 (.fieldAddr 2 (.t 16)), .op 60 (.load none (.t 0)) none .var, .op 61 (.len 1 (.t 0)) none .old, .op 62 (.bin .gtr (.t 0) (.k (.c (.int .i64 8)))), .op 63 (.call false (.k (.c (.func 89 [] []))) [(.t 0), (.k (.c (.int .i64 5)))]), .op 64 (.move (.t 24)), .op 65 (.call false (.k (.c (.func 89 [] []))) [(.t 0), (.k (.c (.int .i64 3)))]), .op 66 (.move (.t 27)), .op 67 (.call false (.k (.c (.func 89 [] []))) [(.t 0), (.k (.c (.int .i64 2)))]), .op 68 (.buildSlice 2 none 7 [(.c (.int .i64 0))] [(0, (.t 20)), (1, (.t 18)), (2, (.t 15)), (3, (.t 9)), (4, (.t 4)), (5, (.t 2)), (6, (.t 0))]) (some 0), .op 69 (.call false (.k (.c (.func 88 [] []))) [(.t 0)]), .op 4 (.move (.t 0))] [0])
def c131_n14 : SCode := .seq c131_n15 .ret
instance : IsSeq c131_n14 c131_n15 .ret := ⟨rfl⟩
def c131_n8 : SCode := .seq c131_n13 c131_n14
instance : IsSeq c131_n8 c131_n13 c131_n14 := ⟨rfl⟩
def c131_n7 : SCode := .seq (.region [.op 8 (.move (.k (.c (.bool false))))] [1, 2, 3, 4, 5, 0]) c131_n8
instance : IsSeq c131_n7 (.region [.op 8 (.move (.k (.c (.bool false))))] [1, 2, 3, 4, 5, 0]) c131_n8 := ⟨rfl⟩
def c131_n5 : SCode := .seq c131_n6 c131_n7
instance : IsSeq c131_n5 c131_n6 c131_n7 := ⟨rfl⟩
def c131_n3 : SCode := .seq c131_n4 c131_n5
instance : IsSeq c131_n3 c131_n4 c131_n5 := ⟨rfl⟩
def c131_n1 : SCode := .seq c131_n2 c131_n3
instance : IsSeq c131_n1 c131_n2 c131_n3 := ⟨rfl⟩
def c131 : SCode := (.seq (.region [.op 2 (.box (.t 0)), .op 4 (.move (.k (.c (.int .i64 0))))] [3, 1]) c131_n1)
def F131 : SFunc := .code .pure 70 2 [some 4] [.tmp 0] c131

-- crux/start.checkQuota
def c132 : SCode := (.seq (.region [.op 2 (.move (.k (.c (.int .i64 0))))] [1]) (.seq (.region [.op 3 (.move (.t 0)), .op 4 (.call false (.k (.c (.func 91 [] []))) [(.t 0), (.k (.c (.int .i64 0))), (.k (.c (.int .i64 160)))]), .op 2 (.move (.t 0))] [0]) .ret))
def F132 : SFunc := .code .pure 5 1 [some 2] [.tmp 0] c132

-- crux/start.forward
-- c133_l0: env [0, 1, 5, 6, 14, 15, 16]
@[simp] def c133_n4 : SCode := (.region [.op 18 (.move (.t 6)), .op 19 (.idxSlice 3 (.t 5) (.t 7)), .op 20 (.load (some 3) (.t 0)), .op 8 (.new [(.c (.str [])), (.c (.str [])), .nil]), .op 7 (.move (.t 3)), .eff (.store 3 (.t 1) (.t 2))] [5, 6, 7, 8, 0, 1, 9, 10, 11])
@[simp] def c133_n6 : SCode := (.seq (.draw 0 [.op 21 (.move (.t 4)), .op 22 (.bin .eql (.t 0) (.k (.c (.int .i64 0)))), .op 23 (.move (.t 0)), .orN 34 0 [.op 24 (.fieldAddr 2 (.t 8)), .op 25 (.load none (.t 0)) none .var, .op 26 (.move (.t 5)), .op 27 (.move (.t 10)), .op 28 (.bin .sub (.t 0) (.k (.c (.int .i64 1)))), .op 29 (.idxSlice 3 (.t 2) (.t 0)), .op 30 (.fieldAddr 2 (.t 0)), .op 31 (.load none (.t 0)) none .old, .op 32 (.call false (.k (.c (.func 166 [] []))) [(.t 6), (.t 0)]), .op 33 (.not (.t 0))] (.t 0)] [4, 5, 6, 7, 8, 9, 10, 11, 12, 0]) (.cond (.t 9) (.region [.op 35 (.move (.t 4)), .op 36 (.bin .add (.t 0) (.k (.c (.int .i64 1)))), .op 6 (.move (.t 0))] [3, 4, 5, 0, 8, 9, 10, 11]) (.pre [0, 1, 2, 3, 5, 6, 7, 8] .skip)))
@[simp] def c133_n8 : SCode := (.region [.op 37 (.move (.t 3)), .op 38 (.move (.t 2)), .op 39 (.bin .leq (.t 1) (.t 0))] [3, 4, 5, 6, 7, 8, 9, 10, 0])
def c133_n7 : SCode := .seq c133_n8 (.cond (.t 8) (.region [.op 40 (.move (.t 2)), .op 41 (.fieldAddr 0 (.t 5)), .op 42 (.load none (.t 0)), .op 43 (.buildSlice 2 none 1 [(.c (.str []))] [(0, (.t 0))]), .op 44 (.append none 16 (.t 3) (.t 0)), .op 5 (.move (.t 0))] [6, 7, 0, 9, 11, 12, 13]) (.pre [0, 1, 2, 3, 5, 6, 7] .skip))
instance : IsSeq c133_n7 c133_n8 (.cond (.t 8) (.region [.op 40 (.move (.t 2)), .op 41 (.fieldAddr 0 (.t 5)), .op 42 (.load none (.t 0)), .op 43 (.buildSlice 2 none 1 [(.c (.str []))] [(0, (.t 0))]), .op 44 (.append none 16 (.t 3) (.t 0)), .op 5 (.move (.t 0))] [6, 7, 0, 9, 11, 12, 13]) (.pre [0, 1, 2, 3, 5, 6, 7] .skip)) := ⟨rfl⟩
def c133_n5 : SCode := .seq c133_n6 c133_n7
instance : IsSeq c133_n5 c133_n6 c133_n7 := ⟨rfl⟩
def c133_n3 : SCode := .seq c133_n4 c133_n5
instance : IsSeq c133_n3 c133_n4 c133_n5 := ⟨rfl⟩
def c133_n2 : SCode := .seq (.block 1 [some 0, some 1, some 5, some 6, some 14, some 15, some 16] c133_n3) (.region [.op 45 (.bin .add (.t 6) (.k (.c (.int .i64 1)))), .op 16 (.move (.t 0))] [2, 3, 4, 5, 6, 7, 0])
instance : IsSeq c133_n2 (.block 1 [some 0, some 1, some 5, some 6, some 14, some 15, some 16] c133_n3) (.region [.op 45 (.bin .add (.t 6) (.k (.c (.int .i64 1)))), .op 16 (.move (.t 0))] [2, 3, 4, 5, 6, 7, 0]) := ⟨rfl⟩
def c133_n1 : SCode := .seq (.cond (.t 7) (.pre [0, 1, 2, 3, 4, 5, 6] .skip) (.pre [2] (.exit 0))) c133_n2
instance : IsSeq c133_n1 (.cond (.t 7) (.pre [0, 1, 2, 3, 4, 5, 6] .skip) (.pre [2] (.exit 0))) c133_n2 := ⟨rfl⟩
def c133_l0b : SCode := (.seq (.region [.op 17 (.bin .lss (.t 6) (.t 5))] [1, 2, 3, 4, 5, 6, 7, 0]) c133_n1)
def c133_l0 : SCode := .loop true c133_l0b
@[simp] def c133_n10 : SCode := (.region [.op 9 (.move (.t 0)), .op 10 (.call false (.k (.c (.func 137 [] []))) [(.t 0)]), .op 11 (.call false (.k (.c (.func 136 [] []))) [(.t 0), (.k (.c (.func 162 [] [])))]), .op 0 (.move (.t 0))] [0, 5])
@[simp] def c133_n12 : SCode := (.region [.op 12 (.move (.t 0)), .op 13 (.call false (.k (.c (.func 163 [] []))) [(.t 0), (.k (.c (.func 164 [] [])))])] [2, 3])
def c133_n13 : SCode := .seq (.region [.op 5 (.mkNil none)] [1, 2, 0]) (.seq (.region [.op 6 (.move (.k (.c (.int .i64 0))))] [1, 2, 3, 0]) (.seq (.seq (.region [.op 14 (.move (.t 0)), .op 15 (.len 1 (.t 0)), .op 16 (.move (.k (.c (.int .i64 0))))] [3, 4, 5, 6, 2, 1, 0]) (.block 0 [some 5] c133_l0)) (.seq (.region [.op 46 (.move (.t 0)), .op 4 (.move (.t 0))] [0]) .ret)))
instance : IsSeq c133_n13 (.region [.op 5 (.mkNil none)] [1, 2, 0]) (.seq (.region [.op 6 (.move (.k (.c (.int .i64 0))))] [1, 2, 3, 0]) (.seq (.seq (.region [.op 14 (.move (.t 0)), .op 15 (.len 1 (.t 0)), .op 16 (.move (.k (.c (.int .i64 0))))] [3, 4, 5, 6, 2, 1, 0]) (.block 0 [some 5] c133_l0)) (.seq (.region [.op 46 (.move (.t 0)), .op 4 (.move (.t 0))] [0]) .ret))) := ⟨rfl⟩
def c133_n11 : SCode := .seq c133_n12 c133_n13
instance : IsSeq c133_n11 c133_n12 c133_n13 := ⟨rfl⟩
def c133_n9 : SCode := .seq c133_n10 c133_n11
instance : IsSeq c133_n9 c133_n10 c133_n11 := ⟨rfl⟩
def c133 : SCode := (.seq (.region [.op 4 (.mkNil none)] [1, 2]) c133_n9)
def F133 : SFunc := .code .pure 47 2 [some 4] [.tmp 0] c133

-- slices.ContainsFunc[[]crux/api.Result,crux/api.Result]
def c134 : SCode := (.seq (.region [.op 4 (.move (.k (.c (.bool false))))] [1, 2]) (.seq (.region [.op 5 (.move (.t 0)), .op 6 (.move (.t 2)), .op 7 (.call false (.k (.c (.func 160 [] []))) [(.t 1), (.t 0)]), .op 8 (.bin .geq (.t 0) (.k (.c (.int .i64 0)))), .op 4 (.move (.t 0))] [0]) .ret))
def F134 : SFunc := .code .pure 9 2 [some 4] [.tmp 0] c134

-- crux/start.Replace$1
def c135 : SCode := (.seq (.region [.op 2 (.box (.t 0)), .op 3 (.move (.k (.c (.bool false))))] [3, 1]) (.seq (.region [.op 4 (.fieldAddr 0 (.t 1)), .op 5 (.load none (.t 0)), .op 6 (.load none (.t 2)), .op 7 (.bin .eql (.t 1) (.t 0)), .op 3 (.move (.t 0))] [0]) .ret))
def F135 : SFunc := .code .pure 8 2 [some 3] [.tmp 0] c135

-- slices.DeleteFunc[[]crux/api.Result,crux/api.Result]
-- c136_l0: env [0, 1, 5, 6]
@[simp] def c136_n3 : SCode := (.region [.op 22 (.move (.t 0)), .op 23 (.move (.t 4)), .op 24 (.idxSlice 3 (.t 1) (.t 0)), .op 25 (.load (some 3) (.t 0)), .op 7 (.new [(.c (.str [])), (.c (.str [])), .nil]), .eff (.store 3 (.t 0) (.t 1))] [5, 6, 7, 8, 0])
@[simp] def c136_n5 : SCode := (.region [.op 26 (.move (.t 1)), .op 27 (.load (some 3) (.t 5)), .op 28 (.call false (.t 1) [(.t 0)]), .op 29 (.not (.t 0))] [4, 5, 6, 7, 8, 0])
def c136_n4 : SCode := .seq c136_n5 (.cond (.t 5) (.seq (.region [.op 30 (.move (.t 0)), .op 31 (.move (.t 3)), .op 32 (.load (some 3) (.t 6)), .op 33 (.idxSlice 3 (.t 2) (.t 1)), .eff (.store 3 (.t 0) (.t 1))] [4, 5, 6, 7]) (.region [.op 34 (.move (.t 2)), .op 35 (.bin .add (.t 0) (.k (.c (.int .i64 1)))), .op 5 (.move (.t 0))] [3, 4, 0, 6])) (.pre [0, 1, 2, 3] .skip))
instance : IsSeq c136_n4 c136_n5 (.cond (.t 5) (.seq (.region [.op 30 (.move (.t 0)), .op 31 (.move (.t 3)), .op 32 (.load (some 3) (.t 6)), .op 33 (.idxSlice 3 (.t 2) (.t 1)), .eff (.store 3 (.t 0) (.t 1))] [4, 5, 6, 7]) (.region [.op 34 (.move (.t 2)), .op 35 (.bin .add (.t 0) (.k (.c (.int .i64 1)))), .op 5 (.move (.t 0))] [3, 4, 0, 6])) (.pre [0, 1, 2, 3] .skip)) := ⟨rfl⟩
def c136_n2 : SCode := .seq c136_n3 c136_n4
instance : IsSeq c136_n2 c136_n3 c136_n4 := ⟨rfl⟩
def c136_n1 : SCode := .seq (.block 1 [some 0, some 1, some 5, some 6] c136_n2) (.region [.op 20 (.move (.t 3)), .op 21 (.bin .add (.t 0) (.k (.c (.int .i64 1)))), .op 6 (.move (.t 0))] [3, 4, 5, 0])
instance : IsSeq c136_n1 (.block 1 [some 0, some 1, some 5, some 6] c136_n2) (.region [.op 20 (.move (.t 3)), .op 21 (.bin .add (.t 0) (.k (.c (.int .i64 1)))), .op 6 (.move (.t 0))] [3, 4, 5, 0]) := ⟨rfl⟩
def c136_l0b : SCode := (.seq (.seq (.region [.op 16 (.move (.t 3)), .op 17 (.move (.t 1)), .op 18 (.len 1 (.t 0)), .op 19 (.bin .lss (.t 2) (.t 0))] [4, 5, 6, 7, 0]) (.cond (.t 4) (.pre [0, 1, 2, 3] .skip) (.pre [0, 2] (.exit 0)))) c136_n1)
def c136_l0 : SCode := .loop true c136_l0b
@[simp] def c136_n7 : SCode := (.region [.op 8 (.move (.t 0)), .op 9 (.move (.t 2)), .op 10 (.call false (.k (.c (.func 160 [] []))) [(.t 1), (.t 0)]), .op 5 (.move (.t 0))] [4, 5, 0])
@[simp] def c136_n9 : SCode := (.seq (.region [.op 11 (.move (.t 2)), .op 12 (.bin .eql (.t 0) (.k (.c (.int .i64 (-1)))))] [2, 3, 4, 0]) (.cond (.t 3) (.seq (.region [.op 13 (.move (.t 0)), .op 4 (.move (.t 0))] [0]) .ret) (.pre [0, 1, 2] .skip)))
@[simp] def c136_n11 : SCode := (.seq (.region [.op 14 (.move (.t 2)), .op 15 (.bin .add (.t 0) (.k (.c (.int .i64 1)))), .op 6 (.move (.t 0))] [3, 4, 5, 0]) (.block 0 [some 0, some 5] c136_l0))
def c136_n10 : SCode := .seq c136_n11 (.seq (.region [.op 36 (.move (.t 0)), .op 37 (.move (.t 2)), .op 38 (.sliceSl 3 (.t 1) (some (.t 0)) none none), .eff (.clear [(.c (.str [])), (.c (.str [])), .nil] (.t 0))] [3, 4]) (.seq (.region [.op 39 (.move (.t 0)), .op 40 (.move (.t 2)), .op 41 (.sliceSl 3 (.t 1) none (some (.t 0)) none), .op 4 (.move (.t 0))] [0]) .ret))
instance : IsSeq c136_n10 c136_n11 (.seq (.region [.op 36 (.move (.t 0)), .op 37 (.move (.t 2)), .op 38 (.sliceSl 3 (.t 1) (some (.t 0)) none none), .eff (.clear [(.c (.str [])), (.c (.str [])), .nil] (.t 0))] [3, 4]) (.seq (.region [.op 39 (.move (.t 0)), .op 40 (.move (.t 2)), .op 41 (.sliceSl 3 (.t 1) none (some (.t 0)) none), .op 4 (.move (.t 0))] [0]) .ret)) := ⟨rfl⟩
def c136_n8 : SCode := .seq c136_n9 c136_n10
instance : IsSeq c136_n8 c136_n9 c136_n10 := ⟨rfl⟩
def c136_n6 : SCode := .seq c136_n7 c136_n8
instance : IsSeq c136_n6 c136_n7 c136_n8 := ⟨rfl⟩
def c136 : SCode := (.seq (.region [.op 4 (.mkNil (some 3))] [1, 2]) c136_n6)
def F136 : SFunc := .code .shared 42 2 [some 4] [.tmp 0] c136

-- crux/start.Replace$2
def c138 : SCode := (.seq (.region [.op 2 (.box (.t 0)), .op 3 (.move (.k (.c (.bool false))))] [3, 1]) (.seq (.region [.op 4 (.load none (.t 0)), .op 5 (.fieldAddr 0 (.t 2)), .op 6 (.load none (.t 0)), .op 7 (.call false (.k (.c (.func 113 [] []))) [(.t 2), (.t 0)]), .op 3 (.move (.t 0))] [0]) .ret))
def F138 : SFunc := .code .pure 8 2 [some 3] [.tmp 0] c138

-- slices.IndexFunc[[]crux/start.Starter,crux/start.Starter]
-- c140_l0: env [0, 1, 7, 8]
def c140_n3 : SCode := .seq (.region [.op 10 (.move (.t 3)), .op 5 (.move (.t 0))] [2, 3, 0, 4, 5]) (.seq (.region [.op 11 (.move (.t 1)), .op 12 (.move (.t 1)), .op 13 (.move (.t 4)), .op 14 (.idxSlice 3 (.t 1) (.t 0)), .op 15 (.load (some 3) (.t 0)), .op 16 (.call false (.t 4) [(.t 0)])] [6, 7, 8, 9, 10, 0]) (.cond (.t 5) (.seq (.region [.op 17 (.move (.t 2)), .op 4 (.move (.t 0))] [0]) .ret) (.pre [0, 1, 3, 4] .skip)))
instance : IsSeq c140_n3 (.region [.op 10 (.move (.t 3)), .op 5 (.move (.t 0))] [2, 3, 0, 4, 5]) (.seq (.region [.op 11 (.move (.t 1)), .op 12 (.move (.t 1)), .op 13 (.move (.t 4)), .op 14 (.idxSlice 3 (.t 1) (.t 0)), .op 15 (.load (some 3) (.t 0)), .op 16 (.call false (.t 4) [(.t 0)])] [6, 7, 8, 9, 10, 0]) (.cond (.t 5) (.seq (.region [.op 17 (.move (.t 2)), .op 4 (.move (.t 0))] [0]) .ret) (.pre [0, 1, 3, 4] .skip))) := ⟨rfl⟩
def c140_n2 : SCode := .seq (.block 1 [some 0, some 1, some 7, some 8] c140_n3) (.region [.op 18 (.bin .add (.t 3) (.k (.c (.int .i64 1)))), .op 8 (.move (.t 0))] [2, 3, 4, 0])
instance : IsSeq c140_n2 (.block 1 [some 0, some 1, some 7, some 8] c140_n3) (.region [.op 18 (.bin .add (.t 3) (.k (.c (.int .i64 1)))), .op 8 (.move (.t 0))] [2, 3, 4, 0]) := ⟨rfl⟩
def c140_n1 : SCode := .seq (.cond (.t 4) (.pre [0, 1, 2, 3] .skip) (.pre [] (.exit 0))) c140_n2
instance : IsSeq c140_n1 (.cond (.t 4) (.pre [0, 1, 2, 3] .skip) (.pre [] (.exit 0))) c140_n2 := ⟨rfl⟩
def c140_l0b : SCode := (.seq (.region [.op 9 (.bin .lss (.t 3) (.t 2))] [1, 2, 3, 4, 0]) c140_n1)
def c140_l0 : SCode := .loop true c140_l0b
def c140 : SCode := (.seq (.region [.op 4 (.move (.k (.c (.int .i64 0))))] [1, 2]) (.seq (.seq (.region [.op 6 (.move (.t 0)), .op 7 (.len 1 (.t 0)), .op 8 (.move (.k (.c (.int .i64 0))))] [3, 4, 1, 0]) (.block 0 [] c140_l0)) (.seq (.region [.op 4 (.move (.k (.c (.int .i64 (-1)))))] [0]) .ret)))
def F140 : SFunc := .code .pure 19 2 [some 4] [.tmp 0] c140

-- crux/number.isLetter
@[simp] def c141_n2 : SCode := (.region [.op 3 (.move (.t 0)), .op 4 (.bin .geq (.t 0) (.k (.c (.int .i32 97)))), .op 5 (.move (.t 0)), .andN 8 0 [.op 6 (.move (.t 3)), .op 7 (.bin .leq (.t 0) (.k (.c (.int .i32 122))))] (.t 0), .op 9 (.move (.t 0)), .orN 16 0 [.op 10 (.move (.t 5)), .op 11 (.bin .geq (.t 0) (.k (.c (.int .i32 65)))), .op 12 (.move (.t 0)), .andN 15 0 [.op 13 (.move (.t 8)), .op 14 (.bin .leq (.t 0) (.k (.c (.int .i32 90))))] (.t 0)] (.t 0), .op 2 (.move (.t 0))] [0])
def c141_n1 : SCode := .seq c141_n2 .ret
instance : IsSeq c141_n1 c141_n2 .ret := ⟨rfl⟩
def c141 : SCode := (.seq (.region [.op 2 (.move (.k (.c (.bool false))))] [1]) c141_n1)
def F141 : SFunc := .code .pure 17 1 [some 2] [.tmp 0] c141

-- slices.stableCmpFunc[int]
-- c142_l0: env [0, 1, 2, 6, 7, 8]
-- c142_l1: env [0, 1, 2, 6, 7, 8]
-- c142_l2: env [0, 1, 2, 6]
@[simp] def c142_n3 : SCode := (.region [.op 14 (.move (.t 0)), .op 15 (.move (.t 5)), .op 16 (.move (.t 7)), .op 17 (.move (.t 5)), .op 18 (.call false (.k (.c (.func 167 [] []))) [(.t 3), (.t 2), (.t 1), (.t 0)])] [5, 6, 7, 8, 10])
def c142_n2 : SCode := .seq c142_n3 (.seq (.region [.op 19 (.move (.t 4)), .op 7 (.move (.t 0))] [2, 3, 4, 5, 0, 6]) (.region [.op 20 (.move (.t 5)), .op 21 (.move (.t 4)), .op 22 (.bin .add (.t 1) (.t 0)), .op 8 (.move (.t 0))] [4, 5, 6, 7, 8, 0]))
instance : IsSeq c142_n2 c142_n3 (.seq (.region [.op 19 (.move (.t 4)), .op 7 (.move (.t 0))] [2, 3, 4, 5, 0, 6]) (.region [.op 20 (.move (.t 5)), .op 21 (.move (.t 4)), .op 22 (.bin .add (.t 1) (.t 0)), .op 8 (.move (.t 0))] [4, 5, 6, 7, 8, 0])) := ⟨rfl⟩
def c142_n1 : SCode := .block 1 [some 0, some 1, some 2, some 6, some 7, some 8] c142_n2
instance : IsBlock c142_n1 1 [some 0, some 1, some 2, some 6, some 7, some 8] c142_n2 := ⟨rfl⟩
def c142_l0b : SCode := (.seq (.seq (.region [.op 11 (.move (.t 5)), .op 12 (.move (.t 2)), .op 13 (.bin .leq (.t 1) (.t 0))] [3, 4, 5, 6, 7, 8, 0]) (.cond (.t 6) (.pre [0, 1, 2, 3, 4, 5] .skip) (.pre [0, 1, 2, 3, 4] (.exit 0)))) c142_n1)
def c142_l0 : SCode := .loop true c142_l0b
@[simp] def c142_n6 : SCode := (.region [.op 36 (.move (.t 0)), .op 37 (.move (.t 5)), .op 38 (.move (.t 6)), .op 39 (.move (.t 6)), .op 40 (.bin .add (.t 1) (.t 0)), .op 41 (.move (.t 10)), .op 42 (.move (.t 8)), .op 43 (.call false (.k (.c (.func 168 [] []))) [(.t 6), (.t 5), (.t 2), (.t 1), (.t 0)])] [8, 9, 10, 11, 13])
def c142_n5 : SCode := .seq c142_n6 (.seq (.region [.op 44 (.move (.t 4)), .op 7 (.move (.t 0))] [2, 3, 4, 5, 0, 6]) (.region [.op 45 (.move (.t 5)), .op 46 (.move (.t 4)), .op 47 (.bin .mul (.k (.c (.int .i64 2))) (.t 0)), .op 48 (.bin .add (.t 2) (.t 0)), .op 8 (.move (.t 0))] [5, 6, 7, 8, 9, 0]))
instance : IsSeq c142_n5 c142_n6 (.seq (.region [.op 44 (.move (.t 4)), .op 7 (.move (.t 0))] [2, 3, 4, 5, 0, 6]) (.region [.op 45 (.move (.t 5)), .op 46 (.move (.t 4)), .op 47 (.bin .mul (.k (.c (.int .i64 2))) (.t 0)), .op 48 (.bin .add (.t 2) (.t 0)), .op 8 (.move (.t 0))] [5, 6, 7, 8, 9, 0])) := ⟨rfl⟩
def c142_n4 : SCode := .block 5 [some 0, some 1, some 2, some 6, some 7, some 8] c142_n5
instance : IsBlock c142_n4 5 [some 0, some 1, some 2, some 6, some 7, some 8] c142_n5 := ⟨rfl⟩
def c142_l1b : SCode := (.seq (.seq (.region [.op 33 (.move (.t 5)), .op 34 (.move (.t 2)), .op 35 (.bin .leq (.t 1) (.t 0))] [3, 4, 5, 6, 7, 8, 0]) (.cond (.t 6) (.pre [0, 1, 2, 3, 4, 5] .skip) (.pre [0, 1, 2, 3, 4] (.exit 4)))) c142_n4)
def c142_l1 : SCode := .loop true c142_l1b
@[simp] def c142_n9 : SCode := (.region [.op 31 (.move (.t 3)), .op 32 (.bin .mul (.k (.c (.int .i64 2))) (.t 0)), .op 7 (.move (.k (.c (.int .i64 0)))), .op 8 (.move (.t 1))] [4, 5, 6, 7, 1, 0])
@[simp] def c142_n13 : SCode := (.region [.op 52 (.move (.t 5)), .op 53 (.move (.t 2)), .op 54 (.bin .lss (.t 1) (.t 0))] [3, 4, 5, 6, 7, 8, 0])
def c142_n12 : SCode := .seq c142_n13 (.cond (.t 6) (.region [.op 55 (.move (.t 0)), .op 56 (.move (.t 5)), .op 57 (.move (.t 7)), .op 58 (.move (.t 4)), .op 59 (.move (.t 6)), .op 60 (.call false (.k (.c (.func 168 [] []))) [(.t 4), (.t 3), (.t 2), (.t 1), (.t 0)])] [6, 7, 8, 9]) (.pre [0, 1, 2, 3] .skip))
instance : IsSeq c142_n12 c142_n13 (.cond (.t 6) (.region [.op 55 (.move (.t 0)), .op 56 (.move (.t 5)), .op 57 (.move (.t 7)), .op 58 (.move (.t 4)), .op 59 (.move (.t 6)), .op 60 (.call false (.k (.c (.func 168 [] []))) [(.t 4), (.t 3), (.t 2), (.t 1), (.t 0)])] [6, 7, 8, 9]) (.pre [0, 1, 2, 3] .skip)) := ⟨rfl⟩
@[simp] def c142_n14 : SCode := (.seq (.region [.op 49 (.move (.t 4)), .op 50 (.move (.t 4)), .op 51 (.bin .add (.t 1) (.t 0)), .op 9 (.move (.t 0))] [4, 5, 6, 7, 8, 0]) c142_n12)
def c142_n11 : SCode := .seq c142_n14 (.region [.op 61 (.move (.t 3)), .op 62 (.bin .mul (.t 0) (.k (.c (.int .i64 2)))), .op 6 (.move (.t 0))] [3, 4, 5, 0])
instance : IsSeq c142_n11 c142_n14 (.region [.op 61 (.move (.t 3)), .op 62 (.bin .mul (.t 0) (.k (.c (.int .i64 2)))), .op 6 (.move (.t 0))] [3, 4, 5, 0]) := ⟨rfl⟩
def c142_n10 : SCode := .seq (.block 4 [some 0, some 1, some 2, some 6, some 7] c142_l1) c142_n11
instance : IsSeq c142_n10 (.block 4 [some 0, some 1, some 2, some 6, some 7] c142_l1) c142_n11 := ⟨rfl⟩
def c142_n8 : SCode := .seq c142_n9 c142_n10
instance : IsSeq c142_n8 c142_n9 c142_n10 := ⟨rfl⟩
def c142_n7 : SCode := .block 3 [some 0, some 1, some 2, some 6] c142_n8
instance : IsBlock c142_n7 3 [some 0, some 1, some 2, some 6] c142_n8 := ⟨rfl⟩
def c142_l2b : SCode := (.seq (.seq (.region [.op 28 (.move (.t 3)), .op 29 (.move (.t 2)), .op 30 (.bin .lss (.t 1) (.t 0))] [3, 4, 5, 6, 0]) (.cond (.t 4) (.pre [0, 1, 2, 3] .skip) (.pre [] (.exit 2)))) c142_n7)
def c142_l2 : SCode := .loop true c142_l2b
@[simp] def c142_n16 : SCode := (.region [.op 10 (.move (.t 3)), .op 7 (.move (.k (.c (.int .i64 0)))), .op 8 (.move (.t 1))] [3, 4, 5, 6, 1, 0])
def c142_n15 : SCode := .seq c142_n16 (.seq (.block 0 [some 0, some 1, some 2, some 6, some 7] c142_l0) (.seq (.region [.op 23 (.move (.t 0)), .op 24 (.move (.t 5)), .op 25 (.move (.t 3)), .op 26 (.move (.t 5)), .op 27 (.call false (.k (.c (.func 167 [] []))) [(.t 3), (.t 2), (.t 1), (.t 0)])] [5, 6, 7, 8]) (.block 2 [] c142_l2)))
instance : IsSeq c142_n15 c142_n16 (.seq (.block 0 [some 0, some 1, some 2, some 6, some 7] c142_l0) (.seq (.region [.op 23 (.move (.t 0)), .op 24 (.move (.t 5)), .op 25 (.move (.t 3)), .op 26 (.move (.t 5)), .op 27 (.call false (.k (.c (.func 167 [] []))) [(.t 3), (.t 2), (.t 1), (.t 0)])] [5, 6, 7, 8]) (.block 2 [] c142_l2))) := ⟨rfl⟩
def c142 : SCode := (.seq (.region [.op 6 (.move (.k (.c (.int .i64 20))))] [1, 2, 3, 0]) c142_n15)
def F142 : SFunc := .code .shared 63 3 [] [] c142

-- cmp.isNaN[int]
def c143 : SCode := (.seq (.region [.op 2 (.move (.k (.c (.bool false))))] [1]) (.seq (.region [.op 3 (.move (.t 0)), .op 4 (.move (.t 1)), .op 5 (.bin .neq (.t 1) (.t 0)), .op 2 (.move (.t 0))] [0]) .ret))
def F143 : SFunc := .code .pure 6 1 [some 2] [.tmp 0] c143

-- cmp.isNaN[string]
def c145 : SCode := (.seq (.region [.op 2 (.move (.k (.c (.bool false))))] [1]) (.seq (.region [.op 3 (.move (.t 0)), .op 4 (.move (.t 1)), .op 5 (.bin .neq (.t 1) (.t 0)), .op 2 (.move (.t 0))] [0]) .ret))
def F145 : SFunc := .code .pure 6 1 [some 2] [.tmp 0] c145

-- math/bits.Len32
@[simp] def c146_n2 : SCode := (.seq (.region [.op 3 (.move (.t 0)), .op 4 (.bin .geq (.t 0) (.k (.c (.int .u32 65536))))] [2, 3, 0]) (.cond (.t 2) (.seq (.region [.op 5 (.move (.t 0)), .op 6 (.bin .shr (.t 0) (.k (.c (.int .u64 16)))), .op 0 (.move (.t 0))] [0]) (.region [.op 2 (.move (.k (.c (.int .i64 16))))] [1, 0])) (.pre [0, 1] .skip)))
@[simp] def c146_n4 : SCode := (.seq (.region [.op 7 (.move (.t 0)), .op 8 (.bin .geq (.t 0) (.k (.c (.int .u32 256))))] [2, 3, 0]) (.cond (.t 2) (.seq (.region [.op 9 (.move (.t 0)), .op 10 (.bin .shr (.t 0) (.k (.c (.int .u64 8)))), .op 0 (.move (.t 0))] [0, 4]) (.region [.op 11 (.move (.t 1)), .op 12 (.bin .add (.t 0) (.k (.c (.int .i64 8)))), .op 2 (.move (.t 0))] [3, 0])) (.pre [0, 1] .skip)))
@[simp] def c146_n6 : SCode := (.region [.op 13 (.move (.t 1)), .op 14 (.move (.t 1)), .op 15 (.conv .u8 (.t 0)), .op 16 (.indexStr (.k (.c (.str [0, 1, 2, 2, 3, 3, 3, 3, 4, 4, 4, 4, 4, 4, 4, 4, 5, 5, 5, 5, 5, 5, 5, 5, 5, 5, 5, 5, 5, 5, 5, 5, 6, 6, 6, 6, 6, 6, 6, 6, 6, 6, 6, 6, 6, 6, 6, 6, 6, 6, 6, 6, 6, 6, 6, 6, 6, 6, 6, 6, 6, 6, 6, 6, 7, 7, 7, 7, 7, 7, 7, 7, 7, 7, 7, 7, 7, 7, 7, 7, 7, 7, 7, 7, 7, 7, 7, 7, 7, 7, 7, 7, 7, 7, 7, 7, 7, 7, 7, 7, 7, 7, 7, 7, 7, 7, 7, 7, 7, 7, 7, 7, 7, 7, 7, 7, 7, 7, 7, 7, 7, 7, 7, 7, 7, 7, 7, 7, 8, 8, 8, 8, 8, 8, 8, 8, 8, 8, 8, 8, 8, 8, 8, 8, 8, 8, 8, 8, 8, 8, 8, 8, 8, 8, 8, 8, 8, 8, 8, 8, 8, 8, 8, 8, 8, 8, 8, 8, 8, 8, 8, 8, 8, 8, 8, 8, 8, 8, 8, 8, 8, 8, 8, 8, 8, 8, 8, 8, 8, 8, 8, 8, 8, 8, 8, 8, 8, 8, 8, 8, 8, 8, 8, 8, 8, 8, 8, 8, 8, 8, 8, 8, 8, 8, 8, 8, 8, 8, 8, 8, 8, 8, 8, 8, 8, 8, 8, 8, 8, 8, 8, 8, 8, 8, 8, 8, 8, 8, 8, 8, 8, 8, 8, 8, 8, 8, 8, 8, 8, 8, 8, 8, 8, 8, 8, 8]))) (.t 0)), .op 17 (.conv .i64 (.t 0)), .op 18 (.bin .add (.t 4) (.t 0)), .op 2 (.move (.t 0))] [0])
def c146_n5 : SCode := .seq c146_n6 .ret
instance : IsSeq c146_n5 c146_n6 .ret := ⟨rfl⟩
def c146_n3 : SCode := .seq c146_n4 c146_n5
instance : IsSeq c146_n3 c146_n4 c146_n5 := ⟨rfl⟩
def c146_n1 : SCode := .seq c146_n2 c146_n3
instance : IsSeq c146_n1 c146_n2 c146_n3 := ⟨rfl⟩
def c146 : SCode := (.seq (.region [.op 2 (.move (.k (.c (.int .i64 0))))] [1, 0]) c146_n1)
def F146 : SFunc := .code .pure 19 1 [some 2] [.tmp 0] c146

-- math/bits.Len64
@[simp] def c147_n2 : SCode := (.seq (.region [.op 3 (.move (.t 0)), .op 4 (.bin .geq (.t 0) (.k (.c (.int .u64 4294967296))))] [2, 3, 0]) (.cond (.t 2) (.seq (.region [.op 5 (.move (.t 0)), .op 6 (.bin .shr (.t 0) (.k (.c (.int .u64 32)))), .op 0 (.move (.t 0))] [0]) (.region [.op 2 (.move (.k (.c (.int .i64 32))))] [1, 0])) (.pre [0, 1] .skip)))
@[simp] def c147_n4 : SCode := (.seq (.region [.op 7 (.move (.t 0)), .op 8 (.bin .geq (.t 0) (.k (.c (.int .u64 65536))))] [2, 3, 0]) (.cond (.t 2) (.seq (.region [.op 9 (.move (.t 0)), .op 10 (.bin .shr (.t 0) (.k (.c (.int .u64 16)))), .op 0 (.move (.t 0))] [0, 4]) (.region [.op 11 (.move (.t 1)), .op 12 (.bin .add (.t 0) (.k (.c (.int .i64 16)))), .op 2 (.move (.t 0))] [3, 0])) (.pre [0, 1] .skip)))
@[simp] def c147_n6 : SCode := (.seq (.region [.op 13 (.move (.t 0)), .op 14 (.bin .geq (.t 0) (.k (.c (.int .u64 256))))] [2, 3, 0]) (.cond (.t 2) (.seq (.region [.op 15 (.move (.t 0)), .op 16 (.bin .shr (.t 0) (.k (.c (.int .u64 8)))), .op 0 (.move (.t 0))] [0, 4]) (.region [.op 17 (.move (.t 1)), .op 18 (.bin .add (.t 0) (.k (.c (.int .i64 8)))), .op 2 (.move (.t 0))] [3, 0])) (.pre [0, 1] .skip)))
@[simp] def c147_n8 : SCode := (.region [.op 19 (.move (.t 1)), .op 20 (.move (.t 1)), .op 21 (.conv .u8 (.t 0)), .op 22 (.indexStr (.k (.c (.str [0, 1, 2, 2, 3, 3, 3, 3, 4, 4, 4, 4, 4, 4, 4, 4, 5, 5, 5, 5, 5, 5, 5, 5, 5, 5, 5, 5, 5, 5, 5, 5, 6, 6, 6, 6, 6, 6, 6, 6, 6, 6, 6, 6, 6, 6, 6, 6, 6, 6, 6, 6, 6, 6, 6, 6, 6, 6, 6, 6, 6, 6, 6, 6, 7, 7, 7, 7, 7, 7, 7, 7, 7, 7, 7, 7, 7, 7, 7, 7, 7, 7, 7, 7, 7, 7, 7, 7, 7, 7, 7, 7, 7, 7, 7, 7, 7, 7, 7, 7, 7, 7, 7, 7, 7, 7, 7, 7, 7, 7, 7, 7, 7, 7, 7, 7, 7, 7, 7, 7, 7, 7, 7, 7, 7, 7, 7, 7, 8, 8, 8, 8, 8, 8, 8, 8, 8, 8, 8, 8, 8, 8, 8, 8, 8, 8, 8, 8, 8, 8, 8, 8, 8, 8, 8, 8, 8, 8, 8, 8, 8, 8, 8, 8, 8, 8, 8, 8, 8, 8, 8, 8, 8, 8, 8, 8, 8, 8, 8, 8, 8, 8, 8, 8, 8, 8, 8, 8, 8, 8, 8, 8, 8, 8, 8, 8, 8, 8, 8, 8, 8, 8, 8, 8, 8, 8, 8, 8, 8, 8, 8, 8, 8, 8, 8, 8, 8, 8, 8, 8, 8, 8, 8, 8, 8, 8, 8, 8, 8, 8, 8, 8, 8, 8, 8, 8, 8, 8, 8, 8, 8, 8, 8, 8, 8, 8, 8, 8, 8, 8, 8, 8, 8, 8, 8, 8]))) (.t 0)), .op 23 (.conv .i64 (.t 0)), .op 24 (.bin .add (.t 4) (.t 0)), .op 2 (.move (.t 0))] [0])
def c147_n7 : SCode := .seq c147_n8 .ret
instance : IsSeq c147_n7 c147_n8 .ret := ⟨rfl⟩
def c147_n5 : SCode := .seq c147_n6 c147_n7
instance : IsSeq c147_n5 c147_n6 c147_n7 := ⟨rfl⟩
def c147_n3 : SCode := .seq c147_n4 c147_n5
instance : IsSeq c147_n3 c147_n4 c147_n5 := ⟨rfl⟩
def c147_n1 : SCode := .seq c147_n2 c147_n3
instance : IsSeq c147_n1 c147_n2 c147_n3 := ⟨rfl⟩
def c147 : SCode := (.seq (.region [.op 2 (.move (.k (.c (.int .i64 0))))] [1, 0]) c147_n1)
def F147 : SFunc := .code .pure 25 1 [some 2] [.tmp 0] c147

-- slices.Index[[]string,string]
-- c148_l0: env [0, 1, 7, 8]
def c148_n3 : SCode := .seq (.region [.op 10 (.move (.t 3)), .op 5 (.move (.t 0))] [2, 3, 0, 4, 5]) (.seq (.region [.op 11 (.move (.t 1)), .op 12 (.move (.t 1)), .op 13 (.move (.t 4)), .op 14 (.idxSlice 1 (.t 1) (.t 0)), .op 15 (.load none (.t 0)), .op 16 (.bin .eql (.t 4) (.t 0))] [6, 7, 8, 9, 10, 0]) (.cond (.t 5) (.seq (.region [.op 17 (.move (.t 2)), .op 4 (.move (.t 0))] [0]) .ret) (.pre [0, 1, 3, 4] .skip)))
instance : IsSeq c148_n3 (.region [.op 10 (.move (.t 3)), .op 5 (.move (.t 0))] [2, 3, 0, 4, 5]) (.seq (.region [.op 11 (.move (.t 1)), .op 12 (.move (.t 1)), .op 13 (.move (.t 4)), .op 14 (.idxSlice 1 (.t 1) (.t 0)), .op 15 (.load none (.t 0)), .op 16 (.bin .eql (.t 4) (.t 0))] [6, 7, 8, 9, 10, 0]) (.cond (.t 5) (.seq (.region [.op 17 (.move (.t 2)), .op 4 (.move (.t 0))] [0]) .ret) (.pre [0, 1, 3, 4] .skip))) := ⟨rfl⟩
def c148_n2 : SCode := .seq (.block 1 [some 0, some 1, some 7, some 8] c148_n3) (.region [.op 18 (.bin .add (.t 3) (.k (.c (.int .i64 1)))), .op 8 (.move (.t 0))] [2, 3, 4, 0])
instance : IsSeq c148_n2 (.block 1 [some 0, some 1, some 7, some 8] c148_n3) (.region [.op 18 (.bin .add (.t 3) (.k (.c (.int .i64 1)))), .op 8 (.move (.t 0))] [2, 3, 4, 0]) := ⟨rfl⟩
def c148_n1 : SCode := .seq (.cond (.t 4) (.pre [0, 1, 2, 3] .skip) (.pre [] (.exit 0))) c148_n2
instance : IsSeq c148_n1 (.cond (.t 4) (.pre [0, 1, 2, 3] .skip) (.pre [] (.exit 0))) c148_n2 := ⟨rfl⟩
def c148_l0b : SCode := (.seq (.region [.op 9 (.bin .lss (.t 3) (.t 2))] [1, 2, 3, 4, 0]) c148_n1)
def c148_l0 : SCode := .loop true c148_l0b
def c148 : SCode := (.seq (.region [.op 4 (.move (.k (.c (.int .i64 0))))] [1, 2]) (.seq (.seq (.region [.op 6 (.move (.t 0)), .op 7 (.len 1 (.t 0)), .op 8 (.move (.k (.c (.int .i64 0))))] [3, 4, 1, 0]) (.block 0 [] c148_l0)) (.seq (.region [.op 4 (.move (.k (.c (.int .i64 (-1)))))] [0]) .ret)))
def F148 : SFunc := .code .pure 19 2 [some 4] [.tmp 0] c148

-- math/bits.OnesCount32
@[simp] def c149_n2 : SCode := (.draw 0 [.op 3 (.move (.t 0)), .op 4 (.bin .shr (.t 0) (.k (.c (.int .u64 24)))), .op 5 (.indexStr (.k (.c (.str [0, 1, 1, 2, 1, 2, 2, 3, 1, 2, 2, 3, 2, 3, 3, 4, 1, 2, 2, 3, 2, 3, 3, 4, 2, 3, 3, 4, 3, 4, 4, 5, 1, 2, 2, 3, 2, 3, 3, 4, 2, 3, 3, 4, 3, 4, 4, 5, 2, 3, 3, 4, 3, 4, 4, 5, 3, 4, 4, 5, 4, 5, 5, 6, 1, 2, 2, 3, 2, 3, 3, 4, 2, 3, 3, 4, 3, 4, 4, 5, 2, 3, 3, 4, 3, 4, 4, 5, 3, 4, 4, 5, 4, 5, 5, 6, 2, 3, 3, 4, 3, 4, 4, 5, 3, 4, 4, 5, 4, 5, 5, 6, 3, 4, 4, 5, 4, 5, 5, 6, 4, 5, 5, 6, 5, 6, 6, 7, 1, 2, 2, 3, 2, 3, 3, 4, 2, 3, 3, 4, 3, 4, 4, 5, 2, 3, 3, 4, 3, 4, 4, 5, 3, 4, 4, 5, 4, 5, 5, 6, 2, 3, 3, 4, 3, 4, 4, 5, 3, 4, 4, 5, 4, 5, 5, 6, 3, 4, 4, 5, 4, 5, 5, 6, 4, 5, 5, 6, 5, 6, 6, 7, 2, 3, 3, 4, 3, 4, 4, 5, 3, 4, 4, 5, 4, 5, 5, 6, 3, 4, 4, 5, 4, 5, 5, 6, 4, 5, 5, 6, 5, 6, 6, 7, 3, 4, 4, 5, 4, 5, 5, 6, 4, 5, 5, 6, 5, 6, 6, 7, 4, 5, 5, 6, 5, 6, 6, 7, 5, 6, 6, 7, 6, 7, 7, 8]))) (.t 0)), .op 6 (.move (.t 3)), .op 7 (.bin .shr (.t 0) (.k (.c (.int .u64 16)))), .op 8 (.bin .and (.t 0) (.k (.c (.int .u32 255)))), .op 9 (.indexStr (.k (.c (.str [0, 1, 1, 2, 1, 2, 2, 3, 1, 2, 2, 3, 2, 3, 3, 4, 1, 2, 2, 3, 2, 3, 3, 4, 2, 3, 3, 4, 3, 4, 4, 5, 1, 2, 2, 3, 2, 3, 3, 4, 2, 3, 3, 4, 3, 4, 4, 5, 2, 3, 3, 4, 3, 4, 4, 5, 3, 4, 4, 5, 4, 5, 5, 6, 1, 2, 2, 3, 2, 3, 3, 4, 2, 3, 3, 4, 3, 4, 4, 5, 2, 3, 3, 4, 3, 4, 4, 5, 3, 4, 4, 5, 4, 5, 5, 6, 2, 3, 3, 4, 3, 4, 4, 5, 3, 4, 4, 5, 4, 5, 5, 6, 3, 4, 4, 5, 4, 5, 5, 6, 4, 5, 5, 6, 5, 6, 6, 7, 1, 2, 2, 3, 2, 3, 3, 4, 2, 3, 3, 4, 3, 4, 4, 5, 2, 3, 3, 4, 3, 4, 4, 5, 3, 4, 4, 5, 4, 5, 5, 6, 2, 3, 3, 4, 3, 4, 4, 5, 3, 4, 4, 5, 4, 5, 5, 6, 3, 4, 4, 5, 4, 5, 5, 6, 4, 5, 5, 6, 5, 6, 6, 7, 2, 3, 3, 4, 3, 4, 4, 5, 3, 4, 4, 5, 4, 5, 5, 6, 3, 4, 4, 5, 4, 5, 5, 6, 4, 5, 5, 6, 5, 6, 6, 7, 3, 4, 4, 5, 4, 5, 5, 6, 4, 5, 5, 6, 5, 6, 6, 7, 4, 5, 5, 6, 5, 6, 6, 7, 5, 6, 6, 7, 6, 7, 7, 8]))) (.t 0)), .op 10 (.bin .add (.t 4) (.t 0)), .op 11 (.move (.t 8)), .op 12 (.bin .shr (.t 0) (.k (.c (.int .u64 8)))), .op 13 (.bin .and (.t 0) (.k (.c (.int .u32 255)))), .op 14 (.indexStr (.k (.c (.str [0, 1, 1, 2, 1, 2, 2, 3, 1, 2, 2, 3, 2, 3, 3, 4, 1, 2, 2, 3, 2, 3, 3, 4, 2, 3, 3, 4, 3, 4, 4, 5, 1, 2, 2, 3, 2, 3, 3, 4, 2, 3, 3, 4, 3, 4, 4, 5, 2, 3, 3, 4, 3, 4, 4, 5, 3, 4, 4, 5, 4, 5, 5, 6, 1, 2, 2, 3, 2, 3, 3, 4, 2, 3, 3, 4, 3, 4, 4, 5, 2, 3, 3, 4, 3, 4, 4, 5, 3, 4, 4, 5, 4, 5, 5, 6, 2, 3, 3, 4, 3, 4, 4, 5, 3, 4, 4, 5, 4, 5, 5, 6, 3, 4, 4, 5, 4, 5, 5, 6, 4, 5, 5, 6, 5, 6, 6, 7, 1, 2, 2, 3, 2, 3, 3, 4, 2, 3, 3, 4, 3, 4, 4, 5, 2, 3, 3, 4, 3, 4, 4, 5, 3, 4, 4, 5, 4, 5, 5, 6, 2, 3, 3, 4, 3, 4, 4, 5, 3, 4, 4, 5, 4, 5, 5, 6, 3, 4, 4, 5, 4, 5, 5, 6, 4, 5, 5, 6, 5, 6, 6, 7, 2, 3, 3, 4, 3, 4, 4, 5, 3, 4, 4, 5, 4, 5, 5, 6, 3, 4, 4, 5, 4, 5, 5, 6, 4, 5, 5, 6, 5, 6, 6, 7, 3, 4, 4, 5, 4, 5, 5, 6, 4, 5, 5, 6, 5, 6, 6, 7, 4, 5, 5, 6, 5, 6, 6, 7, 5, 6, 6, 7, 6, 7, 7, 8]))) (.t 0)), .op 15 (.bin .add (.t 4) (.t 0)), .op 16 (.move (.t 13)), .op 17 (.bin .and (.t 0) (.k (.c (.int .u32 255)))), .op 18 (.indexStr (.k (.c (.str [0, 1, 1, 2, 1, 2, 2, 3, 1, 2, 2, 3, 2, 3, 3, 4, 1, 2, 2, 3, 2, 3, 3, 4, 2, 3, 3, 4, 3, 4, 4, 5, 1, 2, 2, 3, 2, 3, 3, 4, 2, 3, 3, 4, 3, 4, 4, 5, 2, 3, 3, 4, 3, 4, 4, 5, 3, 4, 4, 5, 4, 5, 5, 6, 1, 2, 2, 3, 2, 3, 3, 4, 2, 3, 3, 4, 3, 4, 4, 5, 2, 3, 3, 4, 3, 4, 4, 5, 3, 4, 4, 5, 4, 5, 5, 6, 2, 3, 3, 4, 3, 4, 4, 5, 3, 4, 4, 5, 4, 5, 5, 6, 3, 4, 4, 5, 4, 5, 5, 6, 4, 5, 5, 6, 5, 6, 6, 7, 1, 2, 2, 3, 2, 3, 3, 4, 2, 3, 3, 4, 3, 4, 4, 5, 2, 3, 3, 4, 3, 4, 4, 5, 3, 4, 4, 5, 4, 5, 5, 6, 2, 3, 3, 4, 3, 4, 4, 5, 3, 4, 4, 5, 4, 5, 5, 6, 3, 4, 4, 5, 4, 5, 5, 6, 4, 5, 5, 6, 5, 6, 6, 7, 2, 3, 3, 4, 3, 4, 4, 5, 3, 4, 4, 5, 4, 5, 5, 6, 3, 4, 4, 5, 4, 5, 5, 6, 4, 5, 5, 6, 5, 6, 6, 7, 3, 4, 4, 5, 4, 5, 5, 6, 4, 5, 5, 6, 5, 6, 6, 7, 4, 5, 5, 6, 5, 6, 6, 7, 5, 6, 6, 7, 6, 7, 7, 8]))) (.t 0)), .op 19 (.bin .add (.t 3) (.t 0)), .op 20 (.conv .i64 (.t 0)), .op 2 (.move (.t 0))] [0])
def c149_n1 : SCode := .seq c149_n2 .ret
instance : IsSeq c149_n1 c149_n2 .ret := ⟨rfl⟩
def c149 : SCode := (.seq (.region [.op 2 (.move (.k (.c (.int .i64 0))))] [1]) c149_n1)
def F149 : SFunc := .code .pure 21 1 [some 2] [.tmp 0] c149

-- math/bits.OnesCount64
@[simp] def c150_n2 : SCode := (.region [.op 3 (.move (.t 0)), .op 4 (.bin .shr (.t 0) (.k (.c (.int .u64 1)))), .op 5 (.bin .and (.t 0) (.k (.c (.int .u64 6148914691236517205)))), .op 6 (.move (.t 3)), .op 7 (.bin .and (.t 0) (.k (.c (.int .u64 6148914691236517205)))), .op 8 (.bin .add (.t 2) (.t 0)), .op 0 (.move (.t 0))] [0])
@[simp] def c150_n4 : SCode := (.region [.op 9 (.move (.t 0)), .op 10 (.bin .shr (.t 0) (.k (.c (.int .u64 2)))), .op 11 (.bin .and (.t 0) (.k (.c (.int .u64 3689348814741910323)))), .op 12 (.move (.t 3)), .op 13 (.bin .and (.t 0) (.k (.c (.int .u64 3689348814741910323)))), .op 14 (.bin .add (.t 2) (.t 0)), .op 0 (.move (.t 0))] [0])
@[simp] def c150_n6 : SCode := (.region [.op 15 (.move (.t 0)), .op 16 (.bin .shr (.t 0) (.k (.c (.int .u64 4)))), .op 17 (.move (.t 2)), .op 18 (.bin .add (.t 1) (.t 0)), .op 19 (.bin .and (.t 0) (.k (.c (.int .u64 1085102592571150095)))), .op 0 (.move (.t 0))] [0])
@[simp] def c150_n8 : SCode := (.region [.op 20 (.move (.t 0)), .op 21 (.move (.t 1)), .op 22 (.bin .shr (.t 0) (.k (.c (.int .u64 8)))), .op 23 (.bin .add (.t 2) (.t 0)), .op 0 (.move (.t 0))] [0])
@[simp] def c150_n10 : SCode := (.region [.op 24 (.move (.t 0)), .op 25 (.move (.t 1)), .op 26 (.bin .shr (.t 0) (.k (.c (.int .u64 16)))), .op 27 (.bin .add (.t 2) (.t 0)), .op 0 (.move (.t 0))] [0])
def c150_n9 : SCode := .seq c150_n10 (.seq (.region [.op 28 (.move (.t 0)), .op 29 (.move (.t 1)), .op 30 (.bin .shr (.t 0) (.k (.c (.int .u64 32)))), .op 31 (.bin .add (.t 2) (.t 0)), .op 0 (.move (.t 0))] [0]) (.seq (.region [.op 32 (.move (.t 0)), .op 33 (.conv .i64 (.t 0)), .op 34 (.bin .and (.t 0) (.k (.c (.int .i64 127)))), .op 2 (.move (.t 0))] [0]) .ret))
instance : IsSeq c150_n9 c150_n10 (.seq (.region [.op 28 (.move (.t 0)), .op 29 (.move (.t 1)), .op 30 (.bin .shr (.t 0) (.k (.c (.int .u64 32)))), .op 31 (.bin .add (.t 2) (.t 0)), .op 0 (.move (.t 0))] [0]) (.seq (.region [.op 32 (.move (.t 0)), .op 33 (.conv .i64 (.t 0)), .op 34 (.bin .and (.t 0) (.k (.c (.int .i64 127)))), .op 2 (.move (.t 0))] [0]) .ret)) := ⟨rfl⟩
def c150_n7 : SCode := .seq c150_n8 c150_n9
instance : IsSeq c150_n7 c150_n8 c150_n9 := ⟨rfl⟩
def c150_n5 : SCode := .seq c150_n6 c150_n7
instance : IsSeq c150_n5 c150_n6 c150_n7 := ⟨rfl⟩
def c150_n3 : SCode := .seq c150_n4 c150_n5
instance : IsSeq c150_n3 c150_n4 c150_n5 := ⟨rfl⟩
def c150_n1 : SCode := .seq c150_n2 c150_n3
instance : IsSeq c150_n1 c150_n2 c150_n3 := ⟨rfl⟩
def c150 : SCode := (.seq (.region [.op 2 (.move (.k (.c (.int .i64 0))))] [1]) c150_n1)
def F150 : SFunc := .code .pure 35 1 [some 2] [.tmp 0] c150

-- slices.ContainsFunc[[]crux/start.Race,crux/start.Race]
def c151 : SCode := (.seq (.region [.op 4 (.move (.k (.c (.bool false))))] [1, 2]) (.seq (.region [.op 5 (.move (.t 0)), .op 6 (.move (.t 2)), .op 7 (.call false (.k (.c (.func 169 [] []))) [(.t 1), (.t 0)]), .op 8 (.bin .geq (.t 0) (.k (.c (.int .i64 0)))), .op 4 (.move (.t 0))] [0]) .ret))
def F151 : SFunc := .code .pure 9 2 [some 4] [.tmp 0] c151

-- crux/start.open$1
def c152 : SCode := (.seq (.region [.op 1 (.box (.t 0)), .op 2 (.move (.k (.c (.bool false))))] [1]) (.seq (.region [.op 3 (.fieldAddr 2 (.t 0)), .op 4 (.load none (.t 0)), .op 5 (.bin .eql (.t 0) (.k (.c (.int .i64 0)))), .op 2 (.move (.t 0))] [0]) .ret))
def F152 : SFunc := .code .pure 6 1 [some 2] [.tmp 0] c152

-- slices.Min[[]int,int]
-- c153_l0: env [0, 3, 4]
@[simp] def c153_n2 : SCode := (.block 1 [some 0, some 3, some 4] (.region [.op 18 (.move (.t 1)), .op 19 (.move (.t 1)), .op 20 (.move (.t 4)), .op 21 (.idxSlice 1 (.t 1) (.t 0)), .op 22 (.load none (.t 0)), .op 23 (.min (.t 4) [(.t 0)]), .op 3 (.move (.t 0))] [7, 0, 9]))
def c153_n1 : SCode := .seq c153_n2 (.region [.op 16 (.move (.t 2)), .op 17 (.bin .add (.t 0) (.k (.c (.int .i64 1)))), .op 4 (.move (.t 0))] [3, 4, 0])
instance : IsSeq c153_n1 c153_n2 (.region [.op 16 (.move (.t 2)), .op 17 (.bin .add (.t 0) (.k (.c (.int .i64 1)))), .op 4 (.move (.t 0))] [3, 4, 0]) := ⟨rfl⟩
def c153_l0b : SCode := (.seq (.seq (.region [.op 12 (.move (.t 2)), .op 13 (.move (.t 1)), .op 14 (.len 1 (.t 0)), .op 15 (.bin .lss (.t 2) (.t 0))] [4, 5, 6, 0]) (.cond (.t 3) (.pre [0, 1, 2] .skip) (.pre [1] (.exit 0)))) c153_n1)
def c153_l0 : SCode := .loop true c153_l0b
@[simp] def c153_n4 : SCode := (.seq (.region [.op 5 (.move (.t 0)), .op 6 (.len 1 (.t 0)), .op 7 (.bin .lss (.t 0) (.k (.c (.int .i64 1))))] [3, 0]) (.cond (.t 1) (.region [.op 8 (.bad 18), .eff (.bad 41)] [1]) (.pre [0] .skip)))
def c153_n3 : SCode := .seq c153_n4 (.seq (.region [.op 9 (.move (.t 0)), .op 10 (.idxSlice 1 (.t 0) (.k (.c (.int .i64 0)))), .op 11 (.load none (.t 0)), .op 3 (.move (.t 0))] [4, 0]) (.seq (.seq (.region [.op 4 (.move (.k (.c (.int .i64 1))))] [1, 2, 0]) (.block 0 [some 3] c153_l0)) (.seq (.region [.op 24 (.move (.t 0)), .op 2 (.move (.t 0))] [0]) .ret)))
instance : IsSeq c153_n3 c153_n4 (.seq (.region [.op 9 (.move (.t 0)), .op 10 (.idxSlice 1 (.t 0) (.k (.c (.int .i64 0)))), .op 11 (.load none (.t 0)), .op 3 (.move (.t 0))] [4, 0]) (.seq (.seq (.region [.op 4 (.move (.k (.c (.int .i64 1))))] [1, 2, 0]) (.block 0 [some 3] c153_l0)) (.seq (.region [.op 24 (.move (.t 0)), .op 2 (.move (.t 0))] [0]) .ret))) := ⟨rfl⟩
def c153 : SCode := (.seq (.region [.op 2 (.move (.k (.c (.int .i64 0))))] [1]) c153_n3)
def F153 : SFunc := .code .pure 25 1 [some 2] [.tmp 0] c153

-- slices.Max[[]int,int]
-- c154_l0: env [0, 3, 4]
@[simp] def c154_n2 : SCode := (.block 1 [some 0, some 3, some 4] (.region [.op 18 (.move (.t 1)), .op 19 (.move (.t 1)), .op 20 (.move (.t 4)), .op 21 (.idxSlice 1 (.t 1) (.t 0)), .op 22 (.load none (.t 0)), .op 23 (.max (.t 4) [(.t 0)]), .op 3 (.move (.t 0))] [7, 0, 9]))
def c154_n1 : SCode := .seq c154_n2 (.region [.op 16 (.move (.t 2)), .op 17 (.bin .add (.t 0) (.k (.c (.int .i64 1)))), .op 4 (.move (.t 0))] [3, 4, 0])
instance : IsSeq c154_n1 c154_n2 (.region [.op 16 (.move (.t 2)), .op 17 (.bin .add (.t 0) (.k (.c (.int .i64 1)))), .op 4 (.move (.t 0))] [3, 4, 0]) := ⟨rfl⟩
def c154_l0b : SCode := (.seq (.seq (.region [.op 12 (.move (.t 2)), .op 13 (.move (.t 1)), .op 14 (.len 1 (.t 0)), .op 15 (.bin .lss (.t 2) (.t 0))] [4, 5, 6, 0]) (.cond (.t 3) (.pre [0, 1, 2] .skip) (.pre [1] (.exit 0)))) c154_n1)
def c154_l0 : SCode := .loop true c154_l0b
@[simp] def c154_n4 : SCode := (.seq (.region [.op 5 (.move (.t 0)), .op 6 (.len 1 (.t 0)), .op 7 (.bin .lss (.t 0) (.k (.c (.int .i64 1))))] [3, 0]) (.cond (.t 1) (.region [.op 8 (.bad 18), .eff (.bad 41)] [1]) (.pre [0] .skip)))
def c154_n3 : SCode := .seq c154_n4 (.seq (.region [.op 9 (.move (.t 0)), .op 10 (.idxSlice 1 (.t 0) (.k (.c (.int .i64 0)))), .op 11 (.load none (.t 0)), .op 3 (.move (.t 0))] [4, 0]) (.seq (.seq (.region [.op 4 (.move (.k (.c (.int .i64 1))))] [1, 2, 0]) (.block 0 [some 3] c154_l0)) (.seq (.region [.op 24 (.move (.t 0)), .op 2 (.move (.t 0))] [0]) .ret)))
instance : IsSeq c154_n3 c154_n4 (.seq (.region [.op 9 (.move (.t 0)), .op 10 (.idxSlice 1 (.t 0) (.k (.c (.int .i64 0)))), .op 11 (.load none (.t 0)), .op 3 (.move (.t 0))] [4, 0]) (.seq (.seq (.region [.op 4 (.move (.k (.c (.int .i64 1))))] [1, 2, 0]) (.block 0 [some 3] c154_l0)) (.seq (.region [.op 24 (.move (.t 0)), .op 2 (.move (.t 0))] [0]) .ret))) := ⟨rfl⟩
def c154 : SCode := (.seq (.region [.op 2 (.move (.k (.c (.int .i64 0))))] [1]) c154_n3)
def F154 : SFunc := .code .pure 25 1 [some 2] [.tmp 0] c154

-- crux/start.checkResult$1
def c157 : SCode := (.seq (.region [.op 2 (.box (.t 0)), .op 3 (.move (.k (.c (.bool false))))] [3, 1]) (.seq (.region [.op 4 (.fieldAddr 0 (.t 1)), .op 5 (.load none (.t 0)), .op 6 (.fieldAddr 0 (.t 2)), .op 7 (.load none (.t 0)), .op 8 (.bin .eql (.t 2) (.t 0)), .op 3 (.move (.t 0))] [0]) .ret))
def F157 : SFunc := .code .pure 9 2 [some 3] [.tmp 0] c157

-- slices.ContainsFunc[[]int,int]
def c158 : SCode := (.seq (.region [.op 4 (.move (.k (.c (.bool false))))] [1, 2]) (.seq (.region [.op 5 (.move (.t 0)), .op 6 (.move (.t 2)), .op 7 (.call false (.k (.c (.func 170 [] []))) [(.t 1), (.t 0)]), .op 8 (.bin .geq (.t 0) (.k (.c (.int .i64 0)))), .op 4 (.move (.t 0))] [0]) .ret))
def F158 : SFunc := .code .pure 9 2 [some 4] [.tmp 0] c158

-- crux/start.checkResult$2
def c159 : SCode := (.seq (.region [.op 2 (.move (.k (.c (.bool false))))] [1]) (.seq (.region [.op 3 (.move (.t 0)), .op 4 (.bin .lss (.t 0) (.k (.c (.int .i64 (-999999999))))), .op 5 (.move (.t 0)), .orN 8 0 [.op 6 (.move (.t 3)), .op 7 (.bin .gtr (.t 0) (.k (.c (.int .i64 999999999))))] (.t 0), .op 2 (.move (.t 0))] [0]) .ret))
def F159 : SFunc := .code .pure 9 1 [some 2] [.tmp 0] c159

-- slices.IndexFunc[[]crux/api.Result,crux/api.Result]
-- c160_l0: env [0, 1, 7, 8]
def c160_n3 : SCode := .seq (.region [.op 10 (.move (.t 3)), .op 5 (.move (.t 0))] [2, 3, 0, 4, 5]) (.seq (.region [.op 11 (.move (.t 1)), .op 12 (.move (.t 1)), .op 13 (.move (.t 4)), .op 14 (.idxSlice 3 (.t 1) (.t 0)), .op 15 (.load (some 3) (.t 0)), .op 16 (.call false (.t 4) [(.t 0)])] [6, 7, 8, 9, 10, 0]) (.cond (.t 5) (.seq (.region [.op 17 (.move (.t 2)), .op 4 (.move (.t 0))] [0]) .ret) (.pre [0, 1, 3, 4] .skip)))
instance : IsSeq c160_n3 (.region [.op 10 (.move (.t 3)), .op 5 (.move (.t 0))] [2, 3, 0, 4, 5]) (.seq (.region [.op 11 (.move (.t 1)), .op 12 (.move (.t 1)), .op 13 (.move (.t 4)), .op 14 (.idxSlice 3 (.t 1) (.t 0)), .op 15 (.load (some 3) (.t 0)), .op 16 (.call false (.t 4) [(.t 0)])] [6, 7, 8, 9, 10, 0]) (.cond (.t 5) (.seq (.region [.op 17 (.move (.t 2)), .op 4 (.move (.t 0))] [0]) .ret) (.pre [0, 1, 3, 4] .skip))) := ⟨rfl⟩
def c160_n2 : SCode := .seq (.block 1 [some 0, some 1, some 7, some 8] c160_n3) (.region [.op 18 (.bin .add (.t 3) (.k (.c (.int .i64 1)))), .op 8 (.move (.t 0))] [2, 3, 4, 0])
instance : IsSeq c160_n2 (.block 1 [some 0, some 1, some 7, some 8] c160_n3) (.region [.op 18 (.bin .add (.t 3) (.k (.c (.int .i64 1)))), .op 8 (.move (.t 0))] [2, 3, 4, 0]) := ⟨rfl⟩
def c160_n1 : SCode := .seq (.cond (.t 4) (.pre [0, 1, 2, 3] .skip) (.pre [] (.exit 0))) c160_n2
instance : IsSeq c160_n1 (.cond (.t 4) (.pre [0, 1, 2, 3] .skip) (.pre [] (.exit 0))) c160_n2 := ⟨rfl⟩
def c160_l0b : SCode := (.seq (.region [.op 9 (.bin .lss (.t 3) (.t 2))] [1, 2, 3, 4, 0]) c160_n1)
def c160_l0 : SCode := .loop true c160_l0b
def c160 : SCode := (.seq (.region [.op 4 (.move (.k (.c (.int .i64 0))))] [1, 2]) (.seq (.seq (.region [.op 6 (.move (.t 0)), .op 7 (.len 1 (.t 0)), .op 8 (.move (.k (.c (.int .i64 0))))] [3, 4, 1, 0]) (.block 0 [] c160_l0)) (.seq (.region [.op 4 (.move (.k (.c (.int .i64 (-1)))))] [0]) .ret)))
def F160 : SFunc := .code .shared 19 2 [some 4] [.tmp 0] c160

-- crux/start.checkResult$3
def c161 : SCode := (.seq (.region [.op 1 (.box (.t 0)), .op 2 (.move (.k (.c (.bool false))))] [1]) (.seq (.region [.op 3 (.fieldAddr 1 (.t 0)), .op 4 (.load none (.t 0)), .op 5 (.bin .eql (.t 0) (.k (.c (.str [])))), .op 2 (.move (.t 0))] [0]) .ret))
def F161 : SFunc := .code .pure 6 1 [some 2] [.tmp 0] c161

-- crux/start.forward$1
def c162 : SCode := (.seq (.region [.op 1 (.box (.t 0)), .op 2 (.move (.k (.c (.bool false))))] [1]) (.seq (.region [.op 3 (.fieldAddr 1 (.t 0)), .op 4 (.load none (.t 0)), .op 5 (.bin .neq (.t 0) (.k (.c (.str [])))), .op 2 (.move (.t 0))] [0]) .ret))
def F162 : SFunc := .code .pure 6 1 [some 2] [.tmp 0] c162

-- slices.SortStableFunc[[]crux/api.Result,crux/api.Result]
def c163 : SCode := (.region [.op 4 (.move (.t 0)), .op 5 (.move (.t 1)), .op 6 (.len 1 (.t 0)), .op 7 (.move (.t 4)), .op 8 (.call false (.k (.c (.func 171 [] []))) [(.t 3), (.t 1), (.t 0)])] [])
def F163 : SFunc := .code .shared 9 2 [] [] c163

-- crux/start.forward$2
def c164 : SCode := (.seq (.region [.op 2 (.box (.t 0)), .op 3 (.box (.t 2)), .op 4 (.move (.k (.c (.int .i64 0))))] [2, 1]) (.seq (.region [.op 5 (.fieldAddr 2 (.t 1)), .op 6 (.load none (.t 0)), .op 7 (.fieldAddr 2 (.t 2)), .op 8 (.load none (.t 0)), .op 9 (.call false (.k (.c (.func 165 [] []))) [(.t 2), (.t 0)]), .op 4 (.move (.t 0))] [0]) .ret))
def F164 : SFunc := .code .pure 10 2 [some 4] [.tmp 0] c164

-- slices.Compare[[]int,int]
-- c165_l0: env [0, 1, 9, 10, 11]
@[simp] def c165_n4 : SCode := (.region [.op 13 (.move (.t 4)), .op 14 (.idxSlice 1 (.t 3) (.t 5)), .op 15 (.load none (.t 0)), .op 5 (.move (.t 2)), .op 6 (.move (.t 1))] [5, 6, 1, 0, 7, 8, 9])
@[simp] def c165_n6 : SCode := (.seq (.region [.op 16 (.move (.t 2)), .op 17 (.move (.t 2)), .op 18 (.len 1 (.t 0)), .op 19 (.bin .geq (.t 2) (.t 0))] [4, 5, 6, 7, 8, 9, 10, 0]) (.cond (.t 7) (.seq (.region [.op 4 (.move (.k (.c (.int .i64 1))))] [0]) .ret) (.pre [0, 1, 2, 3, 4, 5, 6] .skip)))
@[simp] def c165_n8 : SCode := (.region [.op 20 (.move (.t 1)), .op 21 (.move (.t 3)), .op 22 (.idxSlice 1 (.t 1) (.t 0)), .op 23 (.load none (.t 0)), .op 7 (.move (.t 0))] [5, 6, 8, 0, 9, 10, 11])
@[simp] def c165_n10 : SCode := (.region [.op 24 (.move (.t 2)), .op 25 (.move (.t 4)), .op 26 (.call false (.k (.c (.func 96 [] []))) [(.t 1), (.t 0)]), .op 8 (.move (.t 0))] [4, 5, 0, 8, 9, 10])
def c165_n9 : SCode := .seq c165_n10 (.seq (.region [.op 27 (.move (.t 2)), .op 28 (.bin .neq (.t 0) (.k (.c (.int .i64 0))))] [2, 3, 4, 5, 6, 7, 0]) (.cond (.t 6) (.seq (.region [.op 29 (.move (.t 2)), .op 4 (.move (.t 0))] [0]) .ret) (.pre [0, 1, 3, 4, 5] .skip)))
instance : IsSeq c165_n9 c165_n10 (.seq (.region [.op 27 (.move (.t 2)), .op 28 (.bin .neq (.t 0) (.k (.c (.int .i64 0))))] [2, 3, 4, 5, 6, 7, 0]) (.cond (.t 6) (.seq (.region [.op 29 (.move (.t 2)), .op 4 (.move (.t 0))] [0]) .ret) (.pre [0, 1, 3, 4, 5] .skip))) := ⟨rfl⟩
def c165_n7 : SCode := .seq c165_n8 c165_n9
instance : IsSeq c165_n7 c165_n8 c165_n9 := ⟨rfl⟩
def c165_n5 : SCode := .seq c165_n6 c165_n7
instance : IsSeq c165_n5 c165_n6 c165_n7 := ⟨rfl⟩
def c165_n3 : SCode := .seq c165_n4 c165_n5
instance : IsSeq c165_n3 c165_n4 c165_n5 := ⟨rfl⟩
def c165_n2 : SCode := .seq (.block 1 [some 0, some 1, some 9, some 10, some 11] c165_n3) (.region [.op 30 (.bin .add (.t 4) (.k (.c (.int .i64 1)))), .op 11 (.move (.t 0))] [2, 3, 4, 5, 0])
instance : IsSeq c165_n2 (.block 1 [some 0, some 1, some 9, some 10, some 11] c165_n3) (.region [.op 30 (.bin .add (.t 4) (.k (.c (.int .i64 1)))), .op 11 (.move (.t 0))] [2, 3, 4, 5, 0]) := ⟨rfl⟩
def c165_n1 : SCode := .seq (.cond (.t 5) (.pre [0, 1, 2, 3, 4] .skip) (.pre [0, 1] (.exit 0))) c165_n2
instance : IsSeq c165_n1 (.cond (.t 5) (.pre [0, 1, 2, 3, 4] .skip) (.pre [0, 1] (.exit 0))) c165_n2 := ⟨rfl⟩
def c165_l0b : SCode := (.seq (.region [.op 12 (.bin .lss (.t 4) (.t 3))] [1, 2, 3, 4, 5, 0]) c165_n1)
def c165_l0 : SCode := .loop true c165_l0b
@[simp] def c165_n12 : SCode := (.seq (.region [.op 9 (.move (.t 0)), .op 10 (.len 1 (.t 0)), .op 11 (.move (.k (.c (.int .i64 0))))] [3, 4, 2, 1, 0]) (.block 0 [some 0, some 1] c165_l0))
def c165_n11 : SCode := .seq c165_n12 (.seq (.seq (.region [.op 31 (.move (.t 0)), .op 32 (.len 1 (.t 0)), .op 33 (.move (.t 3)), .op 34 (.len 1 (.t 0)), .op 35 (.bin .lss (.t 2) (.t 0))] [0]) (.cond (.t 0) (.seq (.region [.op 4 (.move (.k (.c (.int .i64 (-1)))))] [0]) .ret) (.pre [] .skip))) (.seq (.region [.op 4 (.move (.k (.c (.int .i64 0))))] [0]) .ret))
instance : IsSeq c165_n11 c165_n12 (.seq (.seq (.region [.op 31 (.move (.t 0)), .op 32 (.len 1 (.t 0)), .op 33 (.move (.t 3)), .op 34 (.len 1 (.t 0)), .op 35 (.bin .lss (.t 2) (.t 0))] [0]) (.cond (.t 0) (.seq (.region [.op 4 (.move (.k (.c (.int .i64 (-1)))))] [0]) .ret) (.pre [] .skip))) (.seq (.region [.op 4 (.move (.k (.c (.int .i64 0))))] [0]) .ret)) := ⟨rfl⟩
def c165 : SCode := (.seq (.region [.op 4 (.move (.k (.c (.int .i64 0))))] [1, 2]) c165_n11)
def F165 : SFunc := .code .pure 36 2 [some 4] [.tmp 0] c165

-- slices.Equal[[]int,int]
-- c166_l0: env [0, 1, 12, 13]
@[simp] def c166_n5 : SCode := (.draw 0 [.op 16 (.move (.t 0)), .op 17 (.move (.t 3)), .op 18 (.idxSlice 1 (.t 1) (.t 0)), .op 19 (.load none (.t 0)) none .old, .op 20 (.move (.t 5)), .op 21 (.move (.t 7)), .op 22 (.idxSlice 1 (.t 1) (.t 0)), .op 23 (.load none (.t 0)) none .old, .op 24 (.bin .neq (.t 4) (.t 0))] [9, 10, 12, 13, 0])
def c166_n4 : SCode := .seq c166_n5 (.cond (.t 4) (.seq (.region [.op 4 (.move (.k (.c (.bool false))))] [0]) .ret) (.pre [0, 1, 2, 3] .skip))
instance : IsSeq c166_n4 c166_n5 (.cond (.t 4) (.seq (.region [.op 4 (.move (.k (.c (.bool false))))] [0]) .ret) (.pre [0, 1, 2, 3] .skip)) := ⟨rfl⟩
def c166_n3 : SCode := .seq (.region [.op 15 (.move (.t 3)), .op 5 (.move (.t 0))] [2, 3, 0, 4, 5]) c166_n4
instance : IsSeq c166_n3 (.region [.op 15 (.move (.t 3)), .op 5 (.move (.t 0))] [2, 3, 0, 4, 5]) c166_n4 := ⟨rfl⟩
def c166_n2 : SCode := .seq (.block 1 [some 0, some 1, some 12, some 13] c166_n3) (.region [.op 25 (.bin .add (.t 3) (.k (.c (.int .i64 1)))), .op 13 (.move (.t 0))] [2, 3, 4, 0])
instance : IsSeq c166_n2 (.block 1 [some 0, some 1, some 12, some 13] c166_n3) (.region [.op 25 (.bin .add (.t 3) (.k (.c (.int .i64 1)))), .op 13 (.move (.t 0))] [2, 3, 4, 0]) := ⟨rfl⟩
def c166_n1 : SCode := .seq (.cond (.t 4) (.pre [0, 1, 2, 3] .skip) (.pre [] (.exit 0))) c166_n2
instance : IsSeq c166_n1 (.cond (.t 4) (.pre [0, 1, 2, 3] .skip) (.pre [] (.exit 0))) c166_n2 := ⟨rfl⟩
def c166_l0b : SCode := (.seq (.region [.op 14 (.bin .lss (.t 3) (.t 2))] [1, 2, 3, 4, 0]) c166_n1)
def c166_l0 : SCode := .loop true c166_l0b
@[simp] def c166_n7 : SCode := (.seq (.region [.op 6 (.move (.t 0)), .op 7 (.len 1 (.t 0)), .op 8 (.move (.t 3)), .op 9 (.len 1 (.t 0)), .op 10 (.bin .neq (.t 2) (.t 0))] [5, 6, 0]) (.cond (.t 2) (.seq (.region [.op 4 (.move (.k (.c (.bool false))))] [0]) .ret) (.pre [0, 1] .skip)))
def c166_n6 : SCode := .seq c166_n7 (.seq (.seq (.region [.op 11 (.move (.t 0)), .op 12 (.len 1 (.t 0)), .op 13 (.move (.k (.c (.int .i64 0))))] [3, 4, 1, 0]) (.block 0 [] c166_l0)) (.seq (.region [.op 4 (.move (.k (.c (.bool true))))] [0]) .ret))
instance : IsSeq c166_n6 c166_n7 (.seq (.seq (.region [.op 11 (.move (.t 0)), .op 12 (.len 1 (.t 0)), .op 13 (.move (.k (.c (.int .i64 0))))] [3, 4, 1, 0]) (.block 0 [] c166_l0)) (.seq (.region [.op 4 (.move (.k (.c (.bool true))))] [0]) .ret)) := ⟨rfl⟩
def c166 : SCode := (.seq (.region [.op 4 (.move (.k (.c (.bool false))))] [1, 2]) c166_n6)
def F166 : SFunc := .code .pure 26 2 [some 4] [.tmp 0] c166

-- slices.insertionSortCmpFunc[int]
-- c167_l0: env [0, 1, 2, 3, 8, 9]
-- c167_l1: env [0, 1, 2, 3, 8]
@[simp] def c167_n2 : SCode := (.draw 0 [.op 37 (.move (.t 0)), .op 38 (.move (.t 6)), .op 39 (.move (.t 2)), .op 40 (.move (.t 8)), .op 41 (.bin .sub (.t 0) (.k (.c (.int .i64 1)))), .op 42 (.move (.t 5)), .op 43 (.move (.t 11)), .op 44 (.bin .sub (.t 0) (.k (.c (.int .i64 1)))), .op 45 (.idxSlice 1 (.t 2) (.t 0)), .op 46 (.load none (.t 0)) none .old, .op 47 (.move (.t 10)), .op 48 (.move (.t 16)), .op 49 (.idxSlice 1 (.t 1) (.t 0)), .op 50 (.load none (.t 0)) none .old, .op 51 (.idxSlice 1 (.t 13) (.t 12)), .eff (.store 1 (.t 0) (.t 5)) none .old, .op 52 (.idxSlice 1 (.t 12) (.t 10)), .eff (.store 1 (.t 0) (.t 2)) none .old] [16, 17, 18, 19, 20, 21])
def c167_n1 : SCode := .seq (.block 3 [some 0, some 1, some 2, some 3, some 8, some 9] c167_n2) (.region [.op 35 (.move (.t 5)), .op 36 (.bin .sub (.t 0) (.k (.c (.int .i64 1)))), .op 9 (.move (.t 0))] [3, 4, 5, 6, 7, 0])
instance : IsSeq c167_n1 (.block 3 [some 0, some 1, some 2, some 3, some 8, some 9] c167_n2) (.region [.op 35 (.move (.t 5)), .op 36 (.bin .sub (.t 0) (.k (.c (.int .i64 1)))), .op 9 (.move (.t 0))] [3, 4, 5, 6, 7, 0]) := ⟨rfl⟩
def c167_l0b : SCode := (.seq (.seq (.draw 0 [.op 18 (.move (.t 5)), .op 19 (.move (.t 2)), .op 20 (.bin .gtr (.t 1) (.t 0)), .op 21 (.move (.t 0)), .andN 34 0 [.op 22 (.move (.t 7)), .op 23 (.move (.t 5)), .op 24 (.move (.t 11)), .op 25 (.idxSlice 1 (.t 1) (.t 0)), .op 26 (.load none (.t 0)) none .old, .op 27 (.move (.t 9)), .op 28 (.move (.t 15)), .op 29 (.bin .sub (.t 0) (.k (.c (.int .i64 1)))), .op 30 (.idxSlice 1 (.t 2) (.t 0)), .op 31 (.load none (.t 0)) none .old, .op 32 (.call false (.t 9) [(.t 5), (.t 0)]), .op 33 (.bin .lss (.t 0) (.k (.c (.int .i64 0))))] (.t 0)] [5, 6, 7, 8, 9, 10, 0]) (.cond (.t 6) (.pre [0, 1, 2, 3, 4, 5] .skip) (.pre [0, 1, 2, 3, 4] (.exit 2)))) c167_n1)
def c167_l0 : SCode := .loop true c167_l0b
def c167_l1b : SCode := (.seq (.seq (.region [.op 12 (.move (.t 4)), .op 13 (.move (.t 3)), .op 14 (.bin .lss (.t 1) (.t 0))] [3, 4, 5, 6, 7, 0]) (.cond (.t 5) (.pre [0, 1, 2, 3, 4] .skip) (.pre [] (.exit 0)))) (.seq (.block 1 [some 0, some 1, some 2, some 3, some 8] (.seq (.region [.op 17 (.move (.t 4)), .op 9 (.move (.t 0))] [2, 3, 4, 5, 6, 0]) (.block 2 [some 0, some 1, some 2, some 3, some 8] c167_l0))) (.region [.op 15 (.move (.t 4)), .op 16 (.bin .add (.t 0) (.k (.c (.int .i64 1)))), .op 8 (.move (.t 0))] [3, 4, 5, 6, 0])))
def c167_l1 : SCode := .loop true c167_l1b
def c167 : SCode := (.seq (.region [.op 10 (.move (.t 1)), .op 11 (.bin .add (.t 0) (.k (.c (.int .i64 1)))), .op 8 (.move (.t 0))] [3, 4, 5, 6, 0]) (.block 0 [] c167_l1))
def F167 : SFunc := .code .shared 53 4 [] [] c167

-- slices.symMergeCmpFunc[int]
-- c168_l0: env [0, 1, 4, 10, 11]
-- c168_l1: env [0, 10, 13]
-- c168_l2: env [0, 2, 4, 14, 15]
-- c168_l3: env [0, 14, 17]
-- c168_l4: env [0, 1, 2, 3, 4, 18, 19, 20, 21, 22]
@[simp] def c168_n3 : SCode := (.region [.op 34 (.move (.t 3)), .op 35 (.move (.t 5)), .op 36 (.bin .add (.t 1) (.t 0)), .op 37 (.conv .u64 (.t 0)), .op 38 (.bin .shr (.t 0) (.k (.c (.int .u64 1)))), .op 39 (.conv .i64 (.t 0)), .op 12 (.move (.t 0))] [7, 8, 9, 10, 11, 0])
@[simp] def c168_n5 : SCode := (.draw 0 [.op 40 (.move (.t 2)), .op 41 (.move (.t 1)), .op 42 (.move (.t 7)), .op 43 (.idxSlice 1 (.t 1) (.t 0)), .op 44 (.load none (.t 0)) none .old, .op 45 (.move (.t 5)), .op 46 (.move (.t 7)), .op 47 (.idxSlice 1 (.t 1) (.t 0)), .op 48 (.load none (.t 0)) none .old, .op 49 (.call false (.t 8) [(.t 4), (.t 0)]), .op 50 (.bin .lss (.t 0) (.k (.c (.int .i64 0))))] [11, 12, 13, 14, 15, 16, 0])
def c168_n4 : SCode := .seq c168_n5 (.cond (.t 6) (.region [.op 51 (.move (.t 5)), .op 52 (.bin .add (.t 0) (.k (.c (.int .i64 1)))), .op 10 (.move (.t 0))] [3, 4, 5, 0, 7]) (.region [.op 53 (.move (.t 5)), .op 11 (.move (.t 0))] [2, 3, 4, 5, 0]))
instance : IsSeq c168_n4 c168_n5 (.cond (.t 6) (.region [.op 51 (.move (.t 5)), .op 52 (.bin .add (.t 0) (.k (.c (.int .i64 1)))), .op 10 (.move (.t 0))] [3, 4, 5, 0, 7]) (.region [.op 53 (.move (.t 5)), .op 11 (.move (.t 0))] [2, 3, 4, 5, 0])) := ⟨rfl⟩
def c168_n2 : SCode := .seq c168_n3 c168_n4
instance : IsSeq c168_n2 c168_n3 c168_n4 := ⟨rfl⟩
def c168_n1 : SCode := .block 1 [some 0, some 1, some 4, some 10, some 11] c168_n2
instance : IsBlock c168_n1 1 [some 0, some 1, some 4, some 10, some 11] c168_n2 := ⟨rfl⟩
def c168_l0b : SCode := (.seq (.seq (.region [.op 31 (.move (.t 3)), .op 32 (.move (.t 5)), .op 33 (.bin .lss (.t 1) (.t 0))] [3, 4, 5, 6, 7, 0]) (.cond (.t 5) (.pre [0, 1, 2, 3, 4] .skip) (.pre [0, 1, 3] (.exit 0)))) c168_n1)
def c168_l0 : SCode := .loop true c168_l0b
@[simp] def c168_n7 : SCode := (.draw 0 [.op 61 (.move (.t 0)), .op 62 (.move (.t 3)), .op 63 (.move (.t 2)), .op 64 (.move (.t 5)), .op 65 (.bin .add (.t 0) (.k (.c (.int .i64 1)))), .op 66 (.move (.t 5)), .op 67 (.move (.t 8)), .op 68 (.bin .add (.t 0) (.k (.c (.int .i64 1)))), .op 69 (.idxSlice 1 (.t 2) (.t 0)), .op 70 (.load none (.t 0)) none .old, .op 71 (.move (.t 10)), .op 72 (.move (.t 13)), .op 73 (.idxSlice 1 (.t 1) (.t 0)), .op 74 (.load none (.t 0)) none .old, .op 75 (.idxSlice 1 (.t 13) (.t 12)), .eff (.store 1 (.t 0) (.t 5)) none .old, .op 76 (.idxSlice 1 (.t 12) (.t 10)), .eff (.store 1 (.t 0) (.t 2)) none .old] [16, 17, 18])
def c168_n6 : SCode := .seq (.block 3 [some 0, some 10, some 13] c168_n7) (.region [.op 59 (.move (.t 2)), .op 60 (.bin .add (.t 0) (.k (.c (.int .i64 1)))), .op 13 (.move (.t 0))] [3, 4, 0])
instance : IsSeq c168_n6 (.block 3 [some 0, some 10, some 13] c168_n7) (.region [.op 59 (.move (.t 2)), .op 60 (.bin .add (.t 0) (.k (.c (.int .i64 1)))), .op 13 (.move (.t 0))] [3, 4, 0]) := ⟨rfl⟩
def c168_l1b : SCode := (.seq (.seq (.region [.op 55 (.move (.t 2)), .op 56 (.move (.t 2)), .op 57 (.bin .sub (.t 0) (.k (.c (.int .i64 1)))), .op 58 (.bin .lss (.t 2) (.t 0))] [4, 5, 6, 0]) (.cond (.t 3) (.pre [0, 1, 2] .skip) (.pre [] (.exit 2)))) c168_n6)
def c168_l1 : SCode := .loop true c168_l1b
@[simp] def c168_n10 : SCode := (.region [.op 86 (.move (.t 3)), .op 87 (.move (.t 5)), .op 88 (.bin .add (.t 1) (.t 0)), .op 89 (.conv .u64 (.t 0)), .op 90 (.bin .shr (.t 0) (.k (.c (.int .u64 1)))), .op 91 (.conv .i64 (.t 0)), .op 16 (.move (.t 0))] [7, 8, 9, 10, 11, 0])
@[simp] def c168_n12 : SCode := (.draw 0 [.op 92 (.move (.t 2)), .op 93 (.move (.t 1)), .op 94 (.move (.t 3)), .op 95 (.idxSlice 1 (.t 1) (.t 0)), .op 96 (.load none (.t 0)) none .old, .op 97 (.move (.t 5)), .op 98 (.move (.t 11)), .op 99 (.idxSlice 1 (.t 1) (.t 0)), .op 100 (.load none (.t 0)) none .old, .op 101 (.call false (.t 8) [(.t 4), (.t 0)]), .op 102 (.bin .lss (.t 0) (.k (.c (.int .i64 0)))), .op 103 (.not (.t 0))] [12, 13, 14, 15, 16, 17, 0])
def c168_n11 : SCode := .seq c168_n12 (.cond (.t 6) (.region [.op 104 (.move (.t 5)), .op 105 (.bin .add (.t 0) (.k (.c (.int .i64 1)))), .op 14 (.move (.t 0))] [3, 4, 5, 0, 7]) (.region [.op 106 (.move (.t 5)), .op 15 (.move (.t 0))] [2, 3, 4, 5, 0]))
instance : IsSeq c168_n11 c168_n12 (.cond (.t 6) (.region [.op 104 (.move (.t 5)), .op 105 (.bin .add (.t 0) (.k (.c (.int .i64 1)))), .op 14 (.move (.t 0))] [3, 4, 5, 0, 7]) (.region [.op 106 (.move (.t 5)), .op 15 (.move (.t 0))] [2, 3, 4, 5, 0])) := ⟨rfl⟩
def c168_n9 : SCode := .seq c168_n10 c168_n11
instance : IsSeq c168_n9 c168_n10 c168_n11 := ⟨rfl⟩
def c168_n8 : SCode := .block 5 [some 0, some 2, some 4, some 14, some 15] c168_n9
instance : IsBlock c168_n8 5 [some 0, some 2, some 4, some 14, some 15] c168_n9 := ⟨rfl⟩
def c168_l2b : SCode := (.seq (.seq (.region [.op 83 (.move (.t 3)), .op 84 (.move (.t 5)), .op 85 (.bin .lss (.t 1) (.t 0))] [3, 4, 5, 6, 7, 0]) (.cond (.t 5) (.pre [0, 1, 2, 3, 4] .skip) (.pre [0, 1, 3] (.exit 4)))) c168_n8)
def c168_l2 : SCode := .loop true c168_l2b
@[simp] def c168_n14 : SCode := (.draw 0 [.op 113 (.move (.t 0)), .op 114 (.move (.t 3)), .op 115 (.move (.t 2)), .op 116 (.move (.t 5)), .op 117 (.bin .sub (.t 0) (.k (.c (.int .i64 1)))), .op 118 (.move (.t 5)), .op 119 (.move (.t 8)), .op 120 (.bin .sub (.t 0) (.k (.c (.int .i64 1)))), .op 121 (.idxSlice 1 (.t 2) (.t 0)), .op 122 (.load none (.t 0)) none .old, .op 123 (.move (.t 10)), .op 124 (.move (.t 13)), .op 125 (.idxSlice 1 (.t 1) (.t 0)), .op 126 (.load none (.t 0)) none .old, .op 127 (.idxSlice 1 (.t 13) (.t 12)), .eff (.store 1 (.t 0) (.t 5)) none .old, .op 128 (.idxSlice 1 (.t 12) (.t 10)), .eff (.store 1 (.t 0) (.t 2)) none .old] [16, 17, 18])
def c168_n13 : SCode := .seq (.block 7 [some 0, some 14, some 17] c168_n14) (.region [.op 111 (.move (.t 2)), .op 112 (.bin .sub (.t 0) (.k (.c (.int .i64 1)))), .op 17 (.move (.t 0))] [3, 4, 0])
instance : IsSeq c168_n13 (.block 7 [some 0, some 14, some 17] c168_n14) (.region [.op 111 (.move (.t 2)), .op 112 (.bin .sub (.t 0) (.k (.c (.int .i64 1)))), .op 17 (.move (.t 0))] [3, 4, 0]) := ⟨rfl⟩
def c168_l3b : SCode := (.seq (.seq (.region [.op 108 (.move (.t 2)), .op 109 (.move (.t 2)), .op 110 (.bin .gtr (.t 1) (.t 0))] [3, 4, 5, 0]) (.cond (.t 3) (.pre [0, 1, 2] .skip) (.pre [] (.exit 6)))) c168_n13)
def c168_l3 : SCode := .loop true c168_l3b
@[simp] def c168_n17 : SCode := (.region [.op 152 (.move (.t 7)), .op 153 (.move (.t 9)), .op 154 (.bin .add (.t 1) (.t 0)), .op 155 (.conv .u64 (.t 0)), .op 156 (.bin .shr (.t 0) (.k (.c (.int .u64 1)))), .op 157 (.conv .i64 (.t 0)), .op 23 (.move (.t 0))] [7, 8, 9, 10, 11, 12, 13, 14, 15, 16, 0])
@[simp] def c168_n19 : SCode := (.draw 0 [.op 158 (.move (.t 4)), .op 159 (.move (.t 1)), .op 160 (.move (.t 11)), .op 161 (.move (.t 13)), .op 162 (.bin .sub (.t 1) (.t 0)), .op 163 (.idxSlice 1 (.t 3) (.t 0)), .op 164 (.load none (.t 0)) none .old, .op 165 (.move (.t 7)), .op 166 (.move (.t 18)), .op 167 (.idxSlice 1 (.t 1) (.t 0)), .op 168 (.load none (.t 0)) none .old, .op 169 (.call false (.t 10) [(.t 4), (.t 0)]), .op 170 (.bin .lss (.t 0) (.k (.c (.int .i64 0)))), .op 171 (.not (.t 0))] [14, 15, 16, 17, 18, 19, 20, 21, 22, 23, 24, 0])
def c168_n18 : SCode := .seq c168_n19 (.cond (.t 11) (.region [.op 172 (.move (.t 10)), .op 173 (.bin .add (.t 0) (.k (.c (.int .i64 1)))), .op 20 (.move (.t 0))] [3, 4, 5, 6, 7, 8, 9, 0, 11, 12]) (.region [.op 174 (.move (.t 10)), .op 21 (.move (.t 0))] [2, 3, 4, 5, 6, 7, 8, 9, 0, 11]))
instance : IsSeq c168_n18 c168_n19 (.cond (.t 11) (.region [.op 172 (.move (.t 10)), .op 173 (.bin .add (.t 0) (.k (.c (.int .i64 1)))), .op 20 (.move (.t 0))] [3, 4, 5, 6, 7, 8, 9, 0, 11, 12]) (.region [.op 174 (.move (.t 10)), .op 21 (.move (.t 0))] [2, 3, 4, 5, 6, 7, 8, 9, 0, 11])) := ⟨rfl⟩
def c168_n16 : SCode := .seq c168_n17 c168_n18
instance : IsSeq c168_n16 c168_n17 c168_n18 := ⟨rfl⟩
def c168_n15 : SCode := .block 9 [some 0, some 1, some 2, some 3, some 4, some 18, some 19, some 20, some 21, some 22] c168_n16
instance : IsBlock c168_n15 9 [some 0, some 1, some 2, some 3, some 4, some 18, some 19, some 20, some 21, some 22] c168_n16 := ⟨rfl⟩
def c168_l4b : SCode := (.seq (.seq (.region [.op 149 (.move (.t 7)), .op 150 (.move (.t 9)), .op 151 (.bin .lss (.t 1) (.t 0))] [3, 4, 5, 6, 7, 8, 9, 10, 11, 12, 0]) (.cond (.t 10) (.pre [0, 1, 2, 3, 4, 5, 6, 7, 8, 9] .skip) (.pre [0, 1, 2, 3, 4, 5, 6, 7] (.exit 8)))) c168_n15)
def c168_l4 : SCode := .loop true c168_l4b
def c168_n20 : SCode := .cond (.t 5) (.seq (.region [.op 29 (.move (.t 2)), .op 10 (.move (.t 0))] [2, 3, 5, 6, 0]) (.seq (.region [.op 30 (.move (.t 2)), .op 11 (.move (.t 0))] [2, 3, 5, 6, 0]) (.seq (.block 0 [some 0, some 1, some 10] c168_l0) (.seq (.seq (.region [.op 54 (.move (.t 1)), .op 13 (.move (.t 0))] [2, 4, 0]) (.block 2 [] c168_l1)) .ret)))) (.pre [0, 1, 2, 3, 4] .skip)
instance : IsCond c168_n20 (.t 5) (.seq (.region [.op 29 (.move (.t 2)), .op 10 (.move (.t 0))] [2, 3, 5, 6, 0]) (.seq (.region [.op 30 (.move (.t 2)), .op 11 (.move (.t 0))] [2, 3, 5, 6, 0]) (.seq (.block 0 [some 0, some 1, some 10] c168_l0) (.seq (.seq (.region [.op 54 (.move (.t 1)), .op 13 (.move (.t 0))] [2, 4, 0]) (.block 2 [] c168_l1)) .ret)))) (.pre [0, 1, 2, 3, 4] .skip) := ⟨rfl⟩
def c168_n22 : SCode := .cond (.t 5) (.seq (.region [.op 81 (.move (.t 1)), .op 14 (.move (.t 0))] [2, 4, 6, 0]) (.seq (.region [.op 82 (.move (.t 1)), .op 15 (.move (.t 0))] [2, 3, 4, 5, 0]) (.seq (.block 4 [some 0, some 2, some 14] c168_l2) (.seq (.seq (.region [.op 107 (.move (.t 1)), .op 17 (.move (.t 0))] [2, 4, 0]) (.block 6 [] c168_l3)) .ret)))) (.pre [0, 1, 2, 3, 4] .skip)
instance : IsCond c168_n22 (.t 5) (.seq (.region [.op 81 (.move (.t 1)), .op 14 (.move (.t 0))] [2, 4, 6, 0]) (.seq (.region [.op 82 (.move (.t 1)), .op 15 (.move (.t 0))] [2, 3, 4, 5, 0]) (.seq (.block 4 [some 0, some 2, some 14] c168_l2) (.seq (.seq (.region [.op 107 (.move (.t 1)), .op 17 (.move (.t 0))] [2, 4, 0]) (.block 6 [] c168_l3)) .ret)))) (.pre [0, 1, 2, 3, 4] .skip) := ⟨rfl⟩
@[simp] def c168_n23 : SCode := (.seq (.region [.op 77 (.move (.t 3)), .op 78 (.move (.t 3)), .op 79 (.bin .sub (.t 1) (.t 0)), .op 80 (.bin .eql (.t 0) (.k (.c (.int .i64 1))))] [4, 5, 6, 7, 8, 0]) c168_n22)
@[simp] def c168_n25 : SCode := (.region [.op 129 (.move (.t 1)), .op 130 (.move (.t 4)), .op 131 (.bin .add (.t 1) (.t 0)), .op 132 (.conv .u64 (.t 0)), .op 133 (.bin .shr (.t 0) (.k (.c (.int .u64 1)))), .op 134 (.conv .i64 (.t 0)), .op 18 (.move (.t 0))] [7, 8, 9, 10, 11, 0])
@[simp] def c168_n27 : SCode := (.region [.op 135 (.move (.t 5)), .op 136 (.move (.t 3)), .op 137 (.bin .add (.t 1) (.t 0)), .op 19 (.move (.t 0))] [4, 5, 6, 7, 8, 9, 0])
@[simp] def c168_n29 : SCode := (.region [.op 20 (.move (.k (.c (.int .i64 0)))), .op 21 (.move (.k (.c (.int .i64 0))))] [2, 3, 4, 5, 6, 7, 8])
def c168_n31 : SCode := .cond (.t 7) (.seq (.region [.op 141 (.move (.t 6)), .op 142 (.move (.t 4)), .op 143 (.bin .sub (.t 1) (.t 0)), .op 20 (.move (.t 0))] [4, 5, 6, 7, 8, 9, 10, 0]) (.region [.op 144 (.move (.t 5)), .op 21 (.move (.t 0))] [2, 3, 4, 5, 6, 7, 8, 9, 0])) (.seq (.region [.op 145 (.move (.t 1)), .op 20 (.move (.t 0))] [2, 3, 4, 5, 6, 7, 8, 0]) (.region [.op 146 (.move (.t 2)), .op 21 (.move (.t 0))] [2, 3, 4, 5, 6, 7, 8, 9, 0]))
instance : IsCond c168_n31 (.t 7) (.seq (.region [.op 141 (.move (.t 6)), .op 142 (.move (.t 4)), .op 143 (.bin .sub (.t 1) (.t 0)), .op 20 (.move (.t 0))] [4, 5, 6, 7, 8, 9, 10, 0]) (.region [.op 144 (.move (.t 5)), .op 21 (.move (.t 0))] [2, 3, 4, 5, 6, 7, 8, 9, 0])) (.seq (.region [.op 145 (.move (.t 1)), .op 20 (.move (.t 0))] [2, 3, 4, 5, 6, 7, 8, 0]) (.region [.op 146 (.move (.t 2)), .op 21 (.move (.t 0))] [2, 3, 4, 5, 6, 7, 8, 9, 0])) := ⟨rfl⟩
@[simp] def c168_n32 : SCode := (.seq (.region [.op 138 (.move (.t 2)), .op 139 (.move (.t 6)), .op 140 (.bin .gtr (.t 1) (.t 0))] [3, 4, 5, 6, 7, 8, 9, 0]) c168_n31)
@[simp] def c168_n34 : SCode := (.region [.op 147 (.move (.t 6)), .op 148 (.bin .sub (.t 0) (.k (.c (.int .i64 1)))), .op 22 (.move (.t 0))] [3, 4, 5, 6, 7, 8, 9, 10, 11, 0])
@[simp] def c168_n36 : SCode := (.block 8 [some 0, some 1, some 2, some 3, some 4, some 18, some 19, some 20] c168_l4)
@[simp] def c168_n38 : SCode := (.region [.op 175 (.move (.t 6)), .op 176 (.move (.t 8)), .op 177 (.bin .sub (.t 1) (.t 0)), .op 24 (.move (.t 0))] [4, 5, 6, 7, 8, 9, 11, 0])
@[simp] def c168_n40 : SCode := (.seq (.region [.op 178 (.move (.t 6)), .op 179 (.move (.t 3)), .op 180 (.bin .lss (.t 1) (.t 0)), .op 181 (.move (.t 0)), .andN 185 0 [.op 182 (.move (.t 6)), .op 183 (.move (.t 12)), .op 184 (.bin .lss (.t 1) (.t 0))] (.t 0)] [5, 6, 7, 8, 9, 10, 11, 12, 0]) (.cond (.t 8) (.region [.op 186 (.move (.t 0)), .op 187 (.move (.t 7)), .op 188 (.move (.t 4)), .op 189 (.move (.t 10)), .op 190 (.move (.t 8)), .op 191 (.call false (.k (.c (.func 172 [] []))) [(.t 4), (.t 3), (.t 2), (.t 1), (.t 0)])] [6, 7, 9, 10, 11, 12, 13]) (.pre [0, 1, 3, 4, 5, 6, 7] .skip)))
@[simp] def c168_n42 : SCode := (.seq (.region [.op 192 (.move (.t 1)), .op 193 (.move (.t 6)), .op 194 (.bin .lss (.t 1) (.t 0)), .op 195 (.move (.t 0)), .andN 199 0 [.op 196 (.move (.t 9)), .op 197 (.move (.t 9)), .op 198 (.bin .lss (.t 1) (.t 0))] (.t 0)] [5, 6, 7, 8, 9, 10, 11, 0]) (.cond (.t 7) (.region [.op 200 (.move (.t 0)), .op 201 (.move (.t 2)), .op 202 (.move (.t 7)), .op 203 (.move (.t 7)), .op 204 (.move (.t 7)), .op 205 (.call false (.k (.c (.func 168 [] []))) [(.t 4), (.t 3), (.t 2), (.t 1), (.t 0)])] [6, 8, 9, 10, 12]) (.pre [0, 2, 3, 4, 6] .skip)))
@[simp] def c168_n44 : SCode := (.region [.op 206 (.move (.t 3)), .op 207 (.move (.t 5)), .op 208 (.bin .lss (.t 1) (.t 0)), .op 209 (.move (.t 0)), .andN 213 0 [.op 210 (.move (.t 8)), .op 211 (.move (.t 6)), .op 212 (.bin .lss (.t 1) (.t 0))] (.t 0)] [5, 6, 7, 8, 9, 0])
def c168_n43 : SCode := .seq c168_n44 (.cond (.t 5) (.region [.op 214 (.move (.t 0)), .op 215 (.move (.t 4)), .op 216 (.move (.t 6)), .op 217 (.move (.t 4)), .op 218 (.move (.t 6)), .op 219 (.call false (.k (.c (.func 168 [] []))) [(.t 4), (.t 3), (.t 2), (.t 1), (.t 0)])] []) (.pre [] .skip))
instance : IsSeq c168_n43 c168_n44 (.cond (.t 5) (.region [.op 214 (.move (.t 0)), .op 215 (.move (.t 4)), .op 216 (.move (.t 6)), .op 217 (.move (.t 4)), .op 218 (.move (.t 6)), .op 219 (.call false (.k (.c (.func 168 [] []))) [(.t 4), (.t 3), (.t 2), (.t 1), (.t 0)])] []) (.pre [] .skip)) := ⟨rfl⟩
def c168_n41 : SCode := .seq c168_n42 c168_n43
instance : IsSeq c168_n41 c168_n42 c168_n43 := ⟨rfl⟩
def c168_n39 : SCode := .seq c168_n40 c168_n41
instance : IsSeq c168_n39 c168_n40 c168_n41 := ⟨rfl⟩
def c168_n37 : SCode := .seq c168_n38 c168_n39
instance : IsSeq c168_n37 c168_n38 c168_n39 := ⟨rfl⟩
def c168_n35 : SCode := .seq c168_n36 c168_n37
instance : IsSeq c168_n35 c168_n36 c168_n37 := ⟨rfl⟩
def c168_n33 : SCode := .seq c168_n34 c168_n35
instance : IsSeq c168_n33 c168_n34 c168_n35 := ⟨rfl⟩
def c168_n30 : SCode := .seq c168_n32 c168_n33
instance : IsSeq c168_n30 c168_n32 c168_n33 := ⟨rfl⟩
def c168_n28 : SCode := .seq c168_n29 c168_n30
instance : IsSeq c168_n28 c168_n29 c168_n30 := ⟨rfl⟩
def c168_n26 : SCode := .seq c168_n27 c168_n28
instance : IsSeq c168_n26 c168_n27 c168_n28 := ⟨rfl⟩
def c168_n24 : SCode := .seq c168_n25 c168_n26
instance : IsSeq c168_n24 c168_n25 c168_n26 := ⟨rfl⟩
def c168_n21 : SCode := .seq c168_n23 c168_n24
instance : IsSeq c168_n21 c168_n23 c168_n24 := ⟨rfl⟩
def c168 : SCode := (.seq (.seq (.region [.op 25 (.move (.t 2)), .op 26 (.move (.t 2)), .op 27 (.bin .sub (.t 1) (.t 0)), .op 28 (.bin .eql (.t 0) (.k (.c (.int .i64 1))))] [4, 5, 6, 7, 8, 0]) c168_n20) c168_n21)
def F168 : SFunc := .code .shared 220 5 [] [] c168

-- slices.IndexFunc[[]crux/start.Race,crux/start.Race]
-- c169_l0: env [0, 1, 7, 8]
def c169_n3 : SCode := .seq (.region [.op 10 (.move (.t 3)), .op 5 (.move (.t 0))] [2, 3, 0, 4, 5]) (.seq (.region [.op 11 (.move (.t 1)), .op 12 (.move (.t 1)), .op 13 (.move (.t 4)), .op 14 (.idxSlice 3 (.t 1) (.t 0)), .op 15 (.load (some 3) (.t 0)), .op 16 (.call false (.t 4) [(.t 0)])] [6, 7, 8, 9, 10, 0]) (.cond (.t 5) (.seq (.region [.op 17 (.move (.t 2)), .op 4 (.move (.t 0))] [0]) .ret) (.pre [0, 1, 3, 4] .skip)))
instance : IsSeq c169_n3 (.region [.op 10 (.move (.t 3)), .op 5 (.move (.t 0))] [2, 3, 0, 4, 5]) (.seq (.region [.op 11 (.move (.t 1)), .op 12 (.move (.t 1)), .op 13 (.move (.t 4)), .op 14 (.idxSlice 3 (.t 1) (.t 0)), .op 15 (.load (some 3) (.t 0)), .op 16 (.call false (.t 4) [(.t 0)])] [6, 7, 8, 9, 10, 0]) (.cond (.t 5) (.seq (.region [.op 17 (.move (.t 2)), .op 4 (.move (.t 0))] [0]) .ret) (.pre [0, 1, 3, 4] .skip))) := ⟨rfl⟩
def c169_n2 : SCode := .seq (.block 1 [some 0, some 1, some 7, some 8] c169_n3) (.region [.op 18 (.bin .add (.t 3) (.k (.c (.int .i64 1)))), .op 8 (.move (.t 0))] [2, 3, 4, 0])
instance : IsSeq c169_n2 (.block 1 [some 0, some 1, some 7, some 8] c169_n3) (.region [.op 18 (.bin .add (.t 3) (.k (.c (.int .i64 1)))), .op 8 (.move (.t 0))] [2, 3, 4, 0]) := ⟨rfl⟩
def c169_n1 : SCode := .seq (.cond (.t 4) (.pre [0, 1, 2, 3] .skip) (.pre [] (.exit 0))) c169_n2
instance : IsSeq c169_n1 (.cond (.t 4) (.pre [0, 1, 2, 3] .skip) (.pre [] (.exit 0))) c169_n2 := ⟨rfl⟩
def c169_l0b : SCode := (.seq (.region [.op 9 (.bin .lss (.t 3) (.t 2))] [1, 2, 3, 4, 0]) c169_n1)
def c169_l0 : SCode := .loop true c169_l0b
def c169 : SCode := (.seq (.region [.op 4 (.move (.k (.c (.int .i64 0))))] [1, 2]) (.seq (.seq (.region [.op 6 (.move (.t 0)), .op 7 (.len 1 (.t 0)), .op 8 (.move (.k (.c (.int .i64 0))))] [3, 4, 1, 0]) (.block 0 [] c169_l0)) (.seq (.region [.op 4 (.move (.k (.c (.int .i64 (-1)))))] [0]) .ret)))
def F169 : SFunc := .code .pure 19 2 [some 4] [.tmp 0] c169

-- slices.IndexFunc[[]int,int]
-- c170_l0: env [0, 1, 7, 8]
def c170_n3 : SCode := .seq (.region [.op 10 (.move (.t 3)), .op 5 (.move (.t 0))] [2, 3, 0, 4, 5]) (.seq (.region [.op 11 (.move (.t 1)), .op 12 (.move (.t 1)), .op 13 (.move (.t 4)), .op 14 (.idxSlice 1 (.t 1) (.t 0)), .op 15 (.load none (.t 0)), .op 16 (.call false (.t 4) [(.t 0)])] [6, 7, 8, 9, 10, 0]) (.cond (.t 5) (.seq (.region [.op 17 (.move (.t 2)), .op 4 (.move (.t 0))] [0]) .ret) (.pre [0, 1, 3, 4] .skip)))
instance : IsSeq c170_n3 (.region [.op 10 (.move (.t 3)), .op 5 (.move (.t 0))] [2, 3, 0, 4, 5]) (.seq (.region [.op 11 (.move (.t 1)), .op 12 (.move (.t 1)), .op 13 (.move (.t 4)), .op 14 (.idxSlice 1 (.t 1) (.t 0)), .op 15 (.load none (.t 0)), .op 16 (.call false (.t 4) [(.t 0)])] [6, 7, 8, 9, 10, 0]) (.cond (.t 5) (.seq (.region [.op 17 (.move (.t 2)), .op 4 (.move (.t 0))] [0]) .ret) (.pre [0, 1, 3, 4] .skip))) := ⟨rfl⟩
def c170_n2 : SCode := .seq (.block 1 [some 0, some 1, some 7, some 8] c170_n3) (.region [.op 18 (.bin .add (.t 3) (.k (.c (.int .i64 1)))), .op 8 (.move (.t 0))] [2, 3, 4, 0])
instance : IsSeq c170_n2 (.block 1 [some 0, some 1, some 7, some 8] c170_n3) (.region [.op 18 (.bin .add (.t 3) (.k (.c (.int .i64 1)))), .op 8 (.move (.t 0))] [2, 3, 4, 0]) := ⟨rfl⟩
def c170_n1 : SCode := .seq (.cond (.t 4) (.pre [0, 1, 2, 3] .skip) (.pre [] (.exit 0))) c170_n2
instance : IsSeq c170_n1 (.cond (.t 4) (.pre [0, 1, 2, 3] .skip) (.pre [] (.exit 0))) c170_n2 := ⟨rfl⟩
def c170_l0b : SCode := (.seq (.region [.op 9 (.bin .lss (.t 3) (.t 2))] [1, 2, 3, 4, 0]) c170_n1)
def c170_l0 : SCode := .loop true c170_l0b
def c170 : SCode := (.seq (.region [.op 4 (.move (.k (.c (.int .i64 0))))] [1, 2]) (.seq (.seq (.region [.op 6 (.move (.t 0)), .op 7 (.len 1 (.t 0)), .op 8 (.move (.k (.c (.int .i64 0))))] [3, 4, 1, 0]) (.block 0 [] c170_l0)) (.seq (.region [.op 4 (.move (.k (.c (.int .i64 (-1)))))] [0]) .ret)))
def F170 : SFunc := .code .pure 19 2 [some 4] [.tmp 0] c170

-- slices.stableCmpFunc[crux/api.Result]
-- c171_l0: env [0, 1, 2, 6, 7, 8]
-- c171_l1: env [0, 1, 2, 6, 7, 8]
-- c171_l2: env [0, 1, 2, 6]
@[simp] def c171_n3 : SCode := (.region [.op 14 (.move (.t 0)), .op 15 (.move (.t 5)), .op 16 (.move (.t 7)), .op 17 (.move (.t 5)), .op 18 (.call false (.k (.c (.func 173 [] []))) [(.t 3), (.t 2), (.t 1), (.t 0)])] [5, 6, 7, 8, 10])
def c171_n2 : SCode := .seq c171_n3 (.seq (.region [.op 19 (.move (.t 4)), .op 7 (.move (.t 0))] [2, 3, 4, 5, 0, 6]) (.region [.op 20 (.move (.t 5)), .op 21 (.move (.t 4)), .op 22 (.bin .add (.t 1) (.t 0)), .op 8 (.move (.t 0))] [4, 5, 6, 7, 8, 0]))
instance : IsSeq c171_n2 c171_n3 (.seq (.region [.op 19 (.move (.t 4)), .op 7 (.move (.t 0))] [2, 3, 4, 5, 0, 6]) (.region [.op 20 (.move (.t 5)), .op 21 (.move (.t 4)), .op 22 (.bin .add (.t 1) (.t 0)), .op 8 (.move (.t 0))] [4, 5, 6, 7, 8, 0])) := ⟨rfl⟩
def c171_n1 : SCode := .block 1 [some 0, some 1, some 2, some 6, some 7, some 8] c171_n2
instance : IsBlock c171_n1 1 [some 0, some 1, some 2, some 6, some 7, some 8] c171_n2 := ⟨rfl⟩
def c171_l0b : SCode := (.seq (.seq (.region [.op 11 (.move (.t 5)), .op 12 (.move (.t 2)), .op 13 (.bin .leq (.t 1) (.t 0))] [3, 4, 5, 6, 7, 8, 0]) (.cond (.t 6) (.pre [0, 1, 2, 3, 4, 5] .skip) (.pre [0, 1, 2, 3, 4] (.exit 0)))) c171_n1)
def c171_l0 : SCode := .loop true c171_l0b
@[simp] def c171_n6 : SCode := (.region [.op 36 (.move (.t 0)), .op 37 (.move (.t 5)), .op 38 (.move (.t 6)), .op 39 (.move (.t 6)), .op 40 (.bin .add (.t 1) (.t 0)), .op 41 (.move (.t 10)), .op 42 (.move (.t 8)), .op 43 (.call false (.k (.c (.func 174 [] []))) [(.t 6), (.t 5), (.t 2), (.t 1), (.t 0)])] [8, 9, 10, 11, 13])
def c171_n5 : SCode := .seq c171_n6 (.seq (.region [.op 44 (.move (.t 4)), .op 7 (.move (.t 0))] [2, 3, 4, 5, 0, 6]) (.region [.op 45 (.move (.t 5)), .op 46 (.move (.t 4)), .op 47 (.bin .mul (.k (.c (.int .i64 2))) (.t 0)), .op 48 (.bin .add (.t 2) (.t 0)), .op 8 (.move (.t 0))] [5, 6, 7, 8, 9, 0]))
instance : IsSeq c171_n5 c171_n6 (.seq (.region [.op 44 (.move (.t 4)), .op 7 (.move (.t 0))] [2, 3, 4, 5, 0, 6]) (.region [.op 45 (.move (.t 5)), .op 46 (.move (.t 4)), .op 47 (.bin .mul (.k (.c (.int .i64 2))) (.t 0)), .op 48 (.bin .add (.t 2) (.t 0)), .op 8 (.move (.t 0))] [5, 6, 7, 8, 9, 0])) := ⟨rfl⟩
def c171_n4 : SCode := .block 5 [some 0, some 1, some 2, some 6, some 7, some 8] c171_n5
instance : IsBlock c171_n4 5 [some 0, some 1, some 2, some 6, some 7, some 8] c171_n5 := ⟨rfl⟩
def c171_l1b : SCode := (.seq (.seq (.region [.op 33 (.move (.t 5)), .op 34 (.move (.t 2)), .op 35 (.bin .leq (.t 1) (.t 0))] [3, 4, 5, 6, 7, 8, 0]) (.cond (.t 6) (.pre [0, 1, 2, 3, 4, 5] .skip) (.pre [0, 1, 2, 3, 4] (.exit 4)))) c171_n4)
def c171_l1 : SCode := .loop true c171_l1b
@[simp] def c171_n9 : SCode := (.region [.op 31 (.move (.t 3)), .op 32 (.bin .mul (.k (.c (.int .i64 2))) (.t 0)), .op 7 (.move (.k (.c (.int .i64 0)))), .op 8 (.move (.t 1))] [4, 5, 6, 7, 1, 0])
@[simp] def c171_n13 : SCode := (.region [.op 52 (.move (.t 5)), .op 53 (.move (.t 2)), .op 54 (.bin .lss (.t 1) (.t 0))] [3, 4, 5, 6, 7, 8, 0])
def c171_n12 : SCode := .seq c171_n13 (.cond (.t 6) (.region [.op 55 (.move (.t 0)), .op 56 (.move (.t 5)), .op 57 (.move (.t 7)), .op 58 (.move (.t 4)), .op 59 (.move (.t 6)), .op 60 (.call false (.k (.c (.func 174 [] []))) [(.t 4), (.t 3), (.t 2), (.t 1), (.t 0)])] [6, 7, 8, 9]) (.pre [0, 1, 2, 3] .skip))
instance : IsSeq c171_n12 c171_n13 (.cond (.t 6) (.region [.op 55 (.move (.t 0)), .op 56 (.move (.t 5)), .op 57 (.move (.t 7)), .op 58 (.move (.t 4)), .op 59 (.move (.t 6)), .op 60 (.call false (.k (.c (.func 174 [] []))) [(.t 4), (.t 3), (.t 2), (.t 1), (.t 0)])] [6, 7, 8, 9]) (.pre [0, 1, 2, 3] .skip)) := ⟨rfl⟩
@[simp] def c171_n14 : SCode := (.seq (.region [.op 49 (.move (.t 4)), .op 50 (.move (.t 4)), .op 51 (.bin .add (.t 1) (.t 0)), .op 9 (.move (.t 0))] [4, 5, 6, 7, 8, 0]) c171_n12)
def c171_n11 : SCode := .seq c171_n14 (.region [.op 61 (.move (.t 3)), .op 62 (.bin .mul (.t 0) (.k (.c (.int .i64 2)))), .op 6 (.move (.t 0))] [3, 4, 5, 0])
instance : IsSeq c171_n11 c171_n14 (.region [.op 61 (.move (.t 3)), .op 62 (.bin .mul (.t 0) (.k (.c (.int .i64 2)))), .op 6 (.move (.t 0))] [3, 4, 5, 0]) := ⟨rfl⟩
def c171_n10 : SCode := .seq (.block 4 [some 0, some 1, some 2, some 6, some 7] c171_l1) c171_n11
instance : IsSeq c171_n10 (.block 4 [some 0, some 1, some 2, some 6, some 7] c171_l1) c171_n11 := ⟨rfl⟩
def c171_n8 : SCode := .seq c171_n9 c171_n10
instance : IsSeq c171_n8 c171_n9 c171_n10 := ⟨rfl⟩
def c171_n7 : SCode := .block 3 [some 0, some 1, some 2, some 6] c171_n8
instance : IsBlock c171_n7 3 [some 0, some 1, some 2, some 6] c171_n8 := ⟨rfl⟩
def c171_l2b : SCode := (.seq (.seq (.region [.op 28 (.move (.t 3)), .op 29 (.move (.t 2)), .op 30 (.bin .lss (.t 1) (.t 0))] [3, 4, 5, 6, 0]) (.cond (.t 4) (.pre [0, 1, 2, 3] .skip) (.pre [] (.exit 2)))) c171_n7)
def c171_l2 : SCode := .loop true c171_l2b
@[simp] def c171_n16 : SCode := (.region [.op 10 (.move (.t 3)), .op 7 (.move (.k (.c (.int .i64 0)))), .op 8 (.move (.t 1))] [3, 4, 5, 6, 1, 0])
def c171_n15 : SCode := .seq c171_n16 (.seq (.block 0 [some 0, some 1, some 2, some 6, some 7] c171_l0) (.seq (.region [.op 23 (.move (.t 0)), .op 24 (.move (.t 5)), .op 25 (.move (.t 3)), .op 26 (.move (.t 5)), .op 27 (.call false (.k (.c (.func 173 [] []))) [(.t 3), (.t 2), (.t 1), (.t 0)])] [5, 6, 7, 8]) (.block 2 [] c171_l2)))
instance : IsSeq c171_n15 c171_n16 (.seq (.block 0 [some 0, some 1, some 2, some 6, some 7] c171_l0) (.seq (.region [.op 23 (.move (.t 0)), .op 24 (.move (.t 5)), .op 25 (.move (.t 3)), .op 26 (.move (.t 5)), .op 27 (.call false (.k (.c (.func 173 [] []))) [(.t 3), (.t 2), (.t 1), (.t 0)])] [5, 6, 7, 8]) (.block 2 [] c171_l2))) := ⟨rfl⟩
def c171 : SCode := (.seq (.region [.op 6 (.move (.k (.c (.int .i64 20))))] [1, 2, 3, 0]) c171_n15)
def F171 : SFunc := .code .shared 63 3 [] [] c171

-- slices.rotateCmpFunc[int]
-- c172_l0: env [0, 2, 4, 10, 11]
@[simp] def c172_n3 : SCode := (.region [.op 21 (.move (.t 3)), .op 22 (.move (.t 5)), .op 23 (.bin .gtr (.t 1) (.t 0))] [3, 4, 5, 6, 7, 0])
@[simp] def c172_n6 : SCode := (.region [.op 24 (.move (.t 0)), .op 25 (.move (.t 2)), .op 26 (.move (.t 5)), .op 27 (.bin .sub (.t 1) (.t 0)), .op 28 (.move (.t 5)), .op 29 (.move (.t 9)), .op 30 (.move (.t 8)), .op 31 (.call false (.k (.c (.func 175 [] []))) [(.t 6), (.t 3), (.t 2), (.t 1), (.t 0)])] [8, 9, 10, 11, 12])
def c172_n5 : SCode := .seq c172_n6 (.region [.op 32 (.move (.t 3)), .op 33 (.move (.t 5)), .op 34 (.bin .sub (.t 1) (.t 0)), .op 10 (.move (.t 0))] [4, 5, 6, 0, 8])
instance : IsSeq c172_n5 c172_n6 (.region [.op 32 (.move (.t 3)), .op 33 (.move (.t 5)), .op 34 (.bin .sub (.t 1) (.t 0)), .op 10 (.move (.t 0))] [4, 5, 6, 0, 8]) := ⟨rfl⟩
@[simp] def c172_n8 : SCode := (.region [.op 35 (.move (.t 0)), .op 36 (.move (.t 2)), .op 37 (.move (.t 5)), .op 38 (.bin .sub (.t 1) (.t 0)), .op 39 (.move (.t 5)), .op 40 (.move (.t 9)), .op 41 (.bin .add (.t 1) (.t 0)), .op 42 (.move (.t 10)), .op 43 (.bin .sub (.t 1) (.t 0)), .op 44 (.move (.t 12)), .op 45 (.move (.t 12)), .op 46 (.call false (.k (.c (.func 175 [] []))) [(.t 10), (.t 7), (.t 2), (.t 1), (.t 0)])] [12, 13, 14, 15, 16])
def c172_n7 : SCode := .seq c172_n8 (.region [.op 47 (.move (.t 4)), .op 48 (.move (.t 4)), .op 49 (.bin .sub (.t 1) (.t 0)), .op 11 (.move (.t 0))] [4, 5, 6, 7, 0])
instance : IsSeq c172_n7 c172_n8 (.region [.op 47 (.move (.t 4)), .op 48 (.move (.t 4)), .op 49 (.bin .sub (.t 1) (.t 0)), .op 11 (.move (.t 0))] [4, 5, 6, 7, 0]) := ⟨rfl⟩
def c172_n4 : SCode := .cond (.t 5) c172_n5 c172_n7
instance : IsCond c172_n4 (.t 5) c172_n5 c172_n7 := ⟨rfl⟩
def c172_n2 : SCode := .seq c172_n3 c172_n4
instance : IsSeq c172_n2 c172_n3 c172_n4 := ⟨rfl⟩
def c172_n1 : SCode := .block 1 [some 0, some 2, some 4, some 10, some 11] c172_n2
instance : IsBlock c172_n1 1 [some 0, some 2, some 4, some 10, some 11] c172_n2 := ⟨rfl⟩
def c172_l0b : SCode := (.seq (.seq (.region [.op 18 (.move (.t 3)), .op 19 (.move (.t 5)), .op 20 (.bin .neq (.t 1) (.t 0))] [3, 4, 5, 6, 7, 0]) (.cond (.t 5) (.pre [0, 1, 2, 3, 4] .skip) (.pre [0, 1, 2, 3] (.exit 0)))) c172_n1)
def c172_l0 : SCode := .loop true c172_l0b
@[simp] def c172_n10 : SCode := (.region [.op 15 (.move (.t 2)), .op 16 (.move (.t 2)), .op 17 (.bin .sub (.t 1) (.t 0)), .op 11 (.move (.t 0))] [4, 5, 7, 8, 0])
def c172_n9 : SCode := .seq c172_n10 (.seq (.block 0 [some 0, some 2, some 4, some 10] c172_l0) (.region [.op 50 (.move (.t 0)), .op 51 (.move (.t 2)), .op 52 (.move (.t 5)), .op 53 (.bin .sub (.t 1) (.t 0)), .op 54 (.move (.t 5)), .op 55 (.move (.t 8)), .op 56 (.move (.t 8)), .op 57 (.call false (.k (.c (.func 175 [] []))) [(.t 6), (.t 3), (.t 2), (.t 1), (.t 0)])] []))
instance : IsSeq c172_n9 c172_n10 (.seq (.block 0 [some 0, some 2, some 4, some 10] c172_l0) (.region [.op 50 (.move (.t 0)), .op 51 (.move (.t 2)), .op 52 (.move (.t 5)), .op 53 (.bin .sub (.t 1) (.t 0)), .op 54 (.move (.t 5)), .op 55 (.move (.t 8)), .op 56 (.move (.t 8)), .op 57 (.call false (.k (.c (.func 175 [] []))) [(.t 6), (.t 3), (.t 2), (.t 1), (.t 0)])] [])) := ⟨rfl⟩
def c172 : SCode := (.seq (.region [.op 12 (.move (.t 2)), .op 13 (.move (.t 2)), .op 14 (.bin .sub (.t 1) (.t 0)), .op 10 (.move (.t 0))] [4, 6, 7, 8, 0]) c172_n9)
def F172 : SFunc := .code .shared 58 5 [] [] c172

-- slices.insertionSortCmpFunc[crux/api.Result]
-- c173_l0: env [0, 1, 2, 3, 8, 9]
-- c173_l1: env [0, 1, 2, 3, 8]
@[simp] def c173_n2 : SCode := (.draw 0 [.op 37 (.move (.t 0)), .op 38 (.move (.t 6)), .op 39 (.move (.t 2)), .op 40 (.move (.t 8)), .op 41 (.bin .sub (.t 0) (.k (.c (.int .i64 1)))), .op 42 (.move (.t 5)), .op 43 (.move (.t 11)), .op 44 (.bin .sub (.t 0) (.k (.c (.int .i64 1)))), .op 45 (.idxSlice 3 (.t 2) (.t 0)), .op 46 (.load (some 3) (.t 0)) none .old, .op 47 (.move (.t 10)), .op 48 (.move (.t 16)), .op 49 (.idxSlice 3 (.t 1) (.t 0)), .op 50 (.load (some 3) (.t 0)) none .old, .op 51 (.idxSlice 3 (.t 13) (.t 12)), .eff (.store 3 (.t 0) (.t 5)) none .old, .op 52 (.idxSlice 3 (.t 12) (.t 10)), .eff (.store 3 (.t 0) (.t 2)) none .old] [16, 17, 18, 19, 20, 21])
def c173_n1 : SCode := .seq (.block 3 [some 0, some 1, some 2, some 3, some 8, some 9] c173_n2) (.region [.op 35 (.move (.t 5)), .op 36 (.bin .sub (.t 0) (.k (.c (.int .i64 1)))), .op 9 (.move (.t 0))] [3, 4, 5, 6, 7, 0])
instance : IsSeq c173_n1 (.block 3 [some 0, some 1, some 2, some 3, some 8, some 9] c173_n2) (.region [.op 35 (.move (.t 5)), .op 36 (.bin .sub (.t 0) (.k (.c (.int .i64 1)))), .op 9 (.move (.t 0))] [3, 4, 5, 6, 7, 0]) := ⟨rfl⟩
def c173_l0b : SCode := (.seq (.seq (.draw 0 [.op 18 (.move (.t 5)), .op 19 (.move (.t 2)), .op 20 (.bin .gtr (.t 1) (.t 0)), .op 21 (.move (.t 0)), .andN 34 0 [.op 22 (.move (.t 7)), .op 23 (.move (.t 5)), .op 24 (.move (.t 11)), .op 25 (.idxSlice 3 (.t 1) (.t 0)), .op 26 (.load (some 3) (.t 0)) none .old, .op 27 (.move (.t 9)), .op 28 (.move (.t 15)), .op 29 (.bin .sub (.t 0) (.k (.c (.int .i64 1)))), .op 30 (.idxSlice 3 (.t 2) (.t 0)), .op 31 (.load (some 3) (.t 0)) none .old, .op 32 (.call false (.t 9) [(.t 5), (.t 0)]), .op 33 (.bin .lss (.t 0) (.k (.c (.int .i64 0))))] (.t 0)] [5, 6, 7, 8, 9, 10, 0]) (.cond (.t 6) (.pre [0, 1, 2, 3, 4, 5] .skip) (.pre [0, 1, 2, 3, 4] (.exit 2)))) c173_n1)
def c173_l0 : SCode := .loop true c173_l0b
def c173_l1b : SCode := (.seq (.seq (.region [.op 12 (.move (.t 4)), .op 13 (.move (.t 3)), .op 14 (.bin .lss (.t 1) (.t 0))] [3, 4, 5, 6, 7, 0]) (.cond (.t 5) (.pre [0, 1, 2, 3, 4] .skip) (.pre [] (.exit 0)))) (.seq (.block 1 [some 0, some 1, some 2, some 3, some 8] (.seq (.region [.op 17 (.move (.t 4)), .op 9 (.move (.t 0))] [2, 3, 4, 5, 6, 0]) (.block 2 [some 0, some 1, some 2, some 3, some 8] c173_l0))) (.region [.op 15 (.move (.t 4)), .op 16 (.bin .add (.t 0) (.k (.c (.int .i64 1)))), .op 8 (.move (.t 0))] [3, 4, 5, 6, 0])))
def c173_l1 : SCode := .loop true c173_l1b
def c173 : SCode := (.seq (.region [.op 10 (.move (.t 1)), .op 11 (.bin .add (.t 0) (.k (.c (.int .i64 1)))), .op 8 (.move (.t 0))] [3, 4, 5, 6, 0]) (.block 0 [] c173_l1))
def F173 : SFunc := .code .shared 53 4 [] [] c173

end LM.G6

