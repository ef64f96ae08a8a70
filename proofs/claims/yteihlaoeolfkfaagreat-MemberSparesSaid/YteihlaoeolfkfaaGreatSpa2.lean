/- Part 5 of what YteihlaoeolfkfaaGreatSpa leans on. -/
import Derived.Test.YteihlaoeolfkfaaGreatLib1
import Derived.Test.YteihlaoeolfkfaaGreatLib2
import Derived.Test.YteihlaoeolfkfaaGreatLib3
import Derived.Test.YteihlaoeolfkfaaGreatSpa1
set_option linter.all false
namespace LM.G9
open Go LM
-- slices.symMergeCmpFunc[string]
-- c153_l0: env [0, 1, 4, 10, 11]
-- c153_l1: env [0, 10, 13]
-- c153_l2: env [0, 2, 4, 14, 15]
-- c153_l3: env [0, 14, 17]
-- c153_l4: env [0, 1, 2, 3, 4, 18, 19, 20, 21, 22]
@[simp] def c153_n3 : SCode := (.region [.op 34 (.move (.t 3)) none .any, .op 35 (.move (.t 5)) none .any, .op 36 (.bin .add (.t 1) (.t 0)) none .any, .op 37 (.conv .u64 (.t 0)) none .any, .op 38 (.bin .shr (.t 0) (.k (.c (.int .u64 1)))) none .any, .op 39 (.conv .i64 (.t 0)) none .any, .op 12 (.move (.t 0)) none .any] [7, 8, 9, 10, 11, 0])
@[simp] def c153_n5 : SCode := (.draw 0 [.op 40 (.move (.t 2)) none .any, .op 41 (.move (.t 1)) none .any, .op 42 (.move (.t 7)) none .any, .op 43 (.idxSlice 1 (.t 1) (.t 0)) none .any, .op 44 (.load none (.t 0)) none .old, .op 45 (.move (.t 5)) none .any, .op 46 (.move (.t 7)) none .any, .op 47 (.idxSlice 1 (.t 1) (.t 0)) none .any, .op 48 (.load none (.t 0)) none .old, .op 49 (.call false (.t 8) [(.t 4), (.t 0)]) none .any, .op 50 (.bin .lss (.t 0) (.k (.c (.int .i64 0)))) none .any] [11, 12, 13, 14, 15, 16, 0])
def c153_n4 : SCode := .seq c153_n5 (.cond (.t 6) (.region [.op 51 (.move (.t 5)) none .any, .op 52 (.bin .add (.t 0) (.k (.c (.int .i64 1)))) none .any, .op 10 (.move (.t 0)) none .any] [3, 4, 5, 0, 7]) (.region [.op 53 (.move (.t 5)) none .any, .op 11 (.move (.t 0)) none .any] [2, 3, 4, 5, 0]))
instance : IsSeq c153_n4 c153_n5 (.cond (.t 6) (.region [.op 51 (.move (.t 5)) none .any, .op 52 (.bin .add (.t 0) (.k (.c (.int .i64 1)))) none .any, .op 10 (.move (.t 0)) none .any] [3, 4, 5, 0, 7]) (.region [.op 53 (.move (.t 5)) none .any, .op 11 (.move (.t 0)) none .any] [2, 3, 4, 5, 0])) := ⟨rfl⟩
def c153_n2 : SCode := .seq c153_n3 c153_n4
instance : IsSeq c153_n2 c153_n3 c153_n4 := ⟨rfl⟩
def c153_n1 : SCode := .block 1 [some 0, some 1, some 4, some 10, some 11] c153_n2
instance : IsBlock c153_n1 1 [some 0, some 1, some 4, some 10, some 11] c153_n2 := ⟨rfl⟩
def c153_l0b : SCode := (.seq (.seq (.region [.op 31 (.move (.t 3)) none .any, .op 32 (.move (.t 5)) none .any, .op 33 (.bin .lss (.t 1) (.t 0)) none .any] [3, 4, 5, 6, 7, 0]) (.cond (.t 5) (.pre [0, 1, 2, 3, 4] .skip) (.pre [0, 1, 3] (.exit 0)))) c153_n1)
def c153_l0 : SCode := .loop true c153_l0b
@[simp] def c153_n7 : SCode := (.draw 0 [.op 61 (.move (.t 0)) none .any, .op 62 (.move (.t 3)) none .any, .op 63 (.move (.t 2)) none .any, .op 64 (.move (.t 5)) none .any, .op 65 (.bin .add (.t 0) (.k (.c (.int .i64 1)))) none .any, .op 66 (.move (.t 5)) none .any, .op 67 (.move (.t 8)) none .any, .op 68 (.bin .add (.t 0) (.k (.c (.int .i64 1)))) none .any, .op 69 (.idxSlice 1 (.t 2) (.t 0)) none .any, .op 70 (.load none (.t 0)) none .old, .op 71 (.move (.t 10)) none .any, .op 72 (.move (.t 13)) none .any, .op 73 (.idxSlice 1 (.t 1) (.t 0)) none .any, .op 74 (.load none (.t 0)) none .old, .op 75 (.idxSlice 1 (.t 13) (.t 12)) none .any, .eff (.store 1 (.t 0) (.t 5)) none .old, .op 76 (.idxSlice 1 (.t 12) (.t 10)) none .any, .eff (.store 1 (.t 0) (.t 2)) none .old] [16, 17, 18])
def c153_n6 : SCode := .seq (.block 3 [some 0, some 10, some 13] c153_n7) (.region [.op 59 (.move (.t 2)) none .any, .op 60 (.bin .add (.t 0) (.k (.c (.int .i64 1)))) none .any, .op 13 (.move (.t 0)) none .any] [3, 4, 0])
instance : IsSeq c153_n6 (.block 3 [some 0, some 10, some 13] c153_n7) (.region [.op 59 (.move (.t 2)) none .any, .op 60 (.bin .add (.t 0) (.k (.c (.int .i64 1)))) none .any, .op 13 (.move (.t 0)) none .any] [3, 4, 0]) := ⟨rfl⟩
def c153_l1b : SCode := (.seq (.seq (.region [.op 55 (.move (.t 2)) none .any, .op 56 (.move (.t 2)) none .any, .op 57 (.bin .sub (.t 0) (.k (.c (.int .i64 1)))) none .any, .op 58 (.bin .lss (.t 2) (.t 0)) none .any] [4, 5, 6, 0]) (.cond (.t 3) (.pre [0, 1, 2] .skip) (.pre [] (.exit 2)))) c153_n6)
def c153_l1 : SCode := .loop true c153_l1b
@[simp] def c153_n10 : SCode := (.region [.op 86 (.move (.t 3)) none .any, .op 87 (.move (.t 5)) none .any, .op 88 (.bin .add (.t 1) (.t 0)) none .any, .op 89 (.conv .u64 (.t 0)) none .any, .op 90 (.bin .shr (.t 0) (.k (.c (.int .u64 1)))) none .any, .op 91 (.conv .i64 (.t 0)) none .any, .op 16 (.move (.t 0)) none .any] [7, 8, 9, 10, 11, 0])
@[simp] def c153_n12 : SCode := (.draw 0 [.op 92 (.move (.t 2)) none .any, .op 93 (.move (.t 1)) none .any, .op 94 (.move (.t 3)) none .any, .op 95 (.idxSlice 1 (.t 1) (.t 0)) none .any, .op 96 (.load none (.t 0)) none .old, .op 97 (.move (.t 5)) none .any, .op 98 (.move (.t 11)) none .any, .op 99 (.idxSlice 1 (.t 1) (.t 0)) none .any, .op 100 (.load none (.t 0)) none .old, .op 101 (.call false (.t 8) [(.t 4), (.t 0)]) none .any, .op 102 (.bin .lss (.t 0) (.k (.c (.int .i64 0)))) none .any, .op 103 (.not (.t 0)) none .any] [12, 13, 14, 15, 16, 17, 0])
def c153_n11 : SCode := .seq c153_n12 (.cond (.t 6) (.region [.op 104 (.move (.t 5)) none .any, .op 105 (.bin .add (.t 0) (.k (.c (.int .i64 1)))) none .any, .op 14 (.move (.t 0)) none .any] [3, 4, 5, 0, 7]) (.region [.op 106 (.move (.t 5)) none .any, .op 15 (.move (.t 0)) none .any] [2, 3, 4, 5, 0]))
instance : IsSeq c153_n11 c153_n12 (.cond (.t 6) (.region [.op 104 (.move (.t 5)) none .any, .op 105 (.bin .add (.t 0) (.k (.c (.int .i64 1)))) none .any, .op 14 (.move (.t 0)) none .any] [3, 4, 5, 0, 7]) (.region [.op 106 (.move (.t 5)) none .any, .op 15 (.move (.t 0)) none .any] [2, 3, 4, 5, 0])) := ⟨rfl⟩
def c153_n9 : SCode := .seq c153_n10 c153_n11
instance : IsSeq c153_n9 c153_n10 c153_n11 := ⟨rfl⟩
def c153_n8 : SCode := .block 5 [some 0, some 2, some 4, some 14, some 15] c153_n9
instance : IsBlock c153_n8 5 [some 0, some 2, some 4, some 14, some 15] c153_n9 := ⟨rfl⟩
def c153_l2b : SCode := (.seq (.seq (.region [.op 83 (.move (.t 3)) none .any, .op 84 (.move (.t 5)) none .any, .op 85 (.bin .lss (.t 1) (.t 0)) none .any] [3, 4, 5, 6, 7, 0]) (.cond (.t 5) (.pre [0, 1, 2, 3, 4] .skip) (.pre [0, 1, 3] (.exit 4)))) c153_n8)
def c153_l2 : SCode := .loop true c153_l2b
@[simp] def c153_n14 : SCode := (.draw 0 [.op 113 (.move (.t 0)) none .any, .op 114 (.move (.t 3)) none .any, .op 115 (.move (.t 2)) none .any, .op 116 (.move (.t 5)) none .any, .op 117 (.bin .sub (.t 0) (.k (.c (.int .i64 1)))) none .any, .op 118 (.move (.t 5)) none .any, .op 119 (.move (.t 8)) none .any, .op 120 (.bin .sub (.t 0) (.k (.c (.int .i64 1)))) none .any, .op 121 (.idxSlice 1 (.t 2) (.t 0)) none .any, .op 122 (.load none (.t 0)) none .old, .op 123 (.move (.t 10)) none .any, .op 124 (.move (.t 13)) none .any, .op 125 (.idxSlice 1 (.t 1) (.t 0)) none .any, .op 126 (.load none (.t 0)) none .old, .op 127 (.idxSlice 1 (.t 13) (.t 12)) none .any, .eff (.store 1 (.t 0) (.t 5)) none .old, .op 128 (.idxSlice 1 (.t 12) (.t 10)) none .any, .eff (.store 1 (.t 0) (.t 2)) none .old] [16, 17, 18])
def c153_n13 : SCode := .seq (.block 7 [some 0, some 14, some 17] c153_n14) (.region [.op 111 (.move (.t 2)) none .any, .op 112 (.bin .sub (.t 0) (.k (.c (.int .i64 1)))) none .any, .op 17 (.move (.t 0)) none .any] [3, 4, 0])
instance : IsSeq c153_n13 (.block 7 [some 0, some 14, some 17] c153_n14) (.region [.op 111 (.move (.t 2)) none .any, .op 112 (.bin .sub (.t 0) (.k (.c (.int .i64 1)))) none .any, .op 17 (.move (.t 0)) none .any] [3, 4, 0]) := ⟨rfl⟩
def c153_l3b : SCode := (.seq (.seq (.region [.op 108 (.move (.t 2)) none .any, .op 109 (.move (.t 2)) none .any, .op 110 (.bin .gtr (.t 1) (.t 0)) none .any] [3, 4, 5, 0]) (.cond (.t 3) (.pre [0, 1, 2] .skip) (.pre [] (.exit 6)))) c153_n13)
def c153_l3 : SCode := .loop true c153_l3b
@[simp] def c153_n17 : SCode := (.region [.op 152 (.move (.t 7)) none .any, .op 153 (.move (.t 9)) none .any, .op 154 (.bin .add (.t 1) (.t 0)) none .any, .op 155 (.conv .u64 (.t 0)) none .any, .op 156 (.bin .shr (.t 0) (.k (.c (.int .u64 1)))) none .any, .op 157 (.conv .i64 (.t 0)) none .any, .op 23 (.move (.t 0)) none .any] [7, 8, 9, 10, 11, 12, 13, 14, 15, 16, 0])
@[simp] def c153_n19 : SCode := (.draw 0 [.op 158 (.move (.t 4)) none .any, .op 159 (.move (.t 1)) none .any, .op 160 (.move (.t 11)) none .any, .op 161 (.move (.t 13)) none .any, .op 162 (.bin .sub (.t 1) (.t 0)) none .any, .op 163 (.idxSlice 1 (.t 3) (.t 0)) none .any, .op 164 (.load none (.t 0)) none .old, .op 165 (.move (.t 7)) none .any, .op 166 (.move (.t 18)) none .any, .op 167 (.idxSlice 1 (.t 1) (.t 0)) none .any, .op 168 (.load none (.t 0)) none .old, .op 169 (.call false (.t 10) [(.t 4), (.t 0)]) none .any, .op 170 (.bin .lss (.t 0) (.k (.c (.int .i64 0)))) none .any, .op 171 (.not (.t 0)) none .any] [14, 15, 16, 17, 18, 19, 20, 21, 22, 23, 24, 0])
def c153_n18 : SCode := .seq c153_n19 (.cond (.t 11) (.region [.op 172 (.move (.t 10)) none .any, .op 173 (.bin .add (.t 0) (.k (.c (.int .i64 1)))) none .any, .op 20 (.move (.t 0)) none .any] [3, 4, 5, 6, 7, 8, 9, 0, 11, 12]) (.region [.op 174 (.move (.t 10)) none .any, .op 21 (.move (.t 0)) none .any] [2, 3, 4, 5, 6, 7, 8, 9, 0, 11]))
instance : IsSeq c153_n18 c153_n19 (.cond (.t 11) (.region [.op 172 (.move (.t 10)) none .any, .op 173 (.bin .add (.t 0) (.k (.c (.int .i64 1)))) none .any, .op 20 (.move (.t 0)) none .any] [3, 4, 5, 6, 7, 8, 9, 0, 11, 12]) (.region [.op 174 (.move (.t 10)) none .any, .op 21 (.move (.t 0)) none .any] [2, 3, 4, 5, 6, 7, 8, 9, 0, 11])) := ⟨rfl⟩
def c153_n16 : SCode := .seq c153_n17 c153_n18
instance : IsSeq c153_n16 c153_n17 c153_n18 := ⟨rfl⟩
def c153_n15 : SCode := .block 9 [some 0, some 1, some 2, some 3, some 4, some 18, some 19, some 20, some 21, some 22] c153_n16
instance : IsBlock c153_n15 9 [some 0, some 1, some 2, some 3, some 4, some 18, some 19, some 20, some 21, some 22] c153_n16 := ⟨rfl⟩
def c153_l4b : SCode := (.seq (.seq (.region [.op 149 (.move (.t 7)) none .any, .op 150 (.move (.t 9)) none .any, .op 151 (.bin .lss (.t 1) (.t 0)) none .any] [3, 4, 5, 6, 7, 8, 9, 10, 11, 12, 0]) (.cond (.t 10) (.pre [0, 1, 2, 3, 4, 5, 6, 7, 8, 9] .skip) (.pre [0, 1, 2, 3, 4, 5, 6, 7] (.exit 8)))) c153_n15)
def c153_l4 : SCode := .loop true c153_l4b
@[simp] def c153_n22 : SCode := (.region [.op 29 (.move (.t 2)) none .any, .op 10 (.move (.t 0)) none .any] [2, 3, 5, 6, 0])
def c153_n21 : SCode := .seq c153_n22 (.seq (.region [.op 30 (.move (.t 2)) none .any, .op 11 (.move (.t 0)) none .any] [2, 3, 5, 6, 0]) (.seq (.block 0 [some 0, some 1, some 10] c153_l0) (.seq (.seq (.region [.op 54 (.move (.t 1)) none .any, .op 13 (.move (.t 0)) none .any] [2, 4, 0]) (.block 2 [] c153_l1)) .ret)))
instance : IsSeq c153_n21 c153_n22 (.seq (.region [.op 30 (.move (.t 2)) none .any, .op 11 (.move (.t 0)) none .any] [2, 3, 5, 6, 0]) (.seq (.block 0 [some 0, some 1, some 10] c153_l0) (.seq (.seq (.region [.op 54 (.move (.t 1)) none .any, .op 13 (.move (.t 0)) none .any] [2, 4, 0]) (.block 2 [] c153_l1)) .ret))) := ⟨rfl⟩
def c153_n20 : SCode := .cond (.t 5) c153_n21 (.pre [0, 1, 2, 3, 4] .skip)
instance : IsCond c153_n20 (.t 5) c153_n21 (.pre [0, 1, 2, 3, 4] .skip) := ⟨rfl⟩
@[simp] def c153_n26 : SCode := (.region [.op 81 (.move (.t 1)) none .any, .op 14 (.move (.t 0)) none .any] [2, 4, 6, 0])
def c153_n25 : SCode := .seq c153_n26 (.seq (.region [.op 82 (.move (.t 1)) none .any, .op 15 (.move (.t 0)) none .any] [2, 3, 4, 5, 0]) (.seq (.block 4 [some 0, some 2, some 14] c153_l2) (.seq (.seq (.region [.op 107 (.move (.t 1)) none .any, .op 17 (.move (.t 0)) none .any] [2, 4, 0]) (.block 6 [] c153_l3)) .ret)))
instance : IsSeq c153_n25 c153_n26 (.seq (.region [.op 82 (.move (.t 1)) none .any, .op 15 (.move (.t 0)) none .any] [2, 3, 4, 5, 0]) (.seq (.block 4 [some 0, some 2, some 14] c153_l2) (.seq (.seq (.region [.op 107 (.move (.t 1)) none .any, .op 17 (.move (.t 0)) none .any] [2, 4, 0]) (.block 6 [] c153_l3)) .ret))) := ⟨rfl⟩
def c153_n24 : SCode := .cond (.t 5) c153_n25 (.pre [0, 1, 2, 3, 4] .skip)
instance : IsCond c153_n24 (.t 5) c153_n25 (.pre [0, 1, 2, 3, 4] .skip) := ⟨rfl⟩
@[simp] def c153_n27 : SCode := (.seq (.region [.op 77 (.move (.t 3)) none .any, .op 78 (.move (.t 3)) none .any, .op 79 (.bin .sub (.t 1) (.t 0)) none .any, .op 80 (.bin .eql (.t 0) (.k (.c (.int .i64 1)))) none .any] [4, 5, 6, 7, 8, 0]) c153_n24)
@[simp] def c153_n29 : SCode := (.region [.op 129 (.move (.t 1)) none .any, .op 130 (.move (.t 4)) none .any, .op 131 (.bin .add (.t 1) (.t 0)) none .any, .op 132 (.conv .u64 (.t 0)) none .any, .op 133 (.bin .shr (.t 0) (.k (.c (.int .u64 1)))) none .any, .op 134 (.conv .i64 (.t 0)) none .any, .op 18 (.move (.t 0)) none .any] [7, 8, 9, 10, 11, 0])
@[simp] def c153_n31 : SCode := (.region [.op 135 (.move (.t 5)) none .any, .op 136 (.move (.t 3)) none .any, .op 137 (.bin .add (.t 1) (.t 0)) none .any, .op 19 (.move (.t 0)) none .any] [4, 5, 6, 7, 8, 9, 0])
@[simp] def c153_n33 : SCode := (.region [.op 20 (.move (.k (.c (.int .i64 0)))) none .any, .op 21 (.move (.k (.c (.int .i64 0)))) none .any] [2, 3, 4, 5, 6, 7, 8])
def c153_n35 : SCode := .cond (.t 7) (.seq (.region [.op 141 (.move (.t 6)) none .any, .op 142 (.move (.t 4)) none .any, .op 143 (.bin .sub (.t 1) (.t 0)) none .any, .op 20 (.move (.t 0)) none .any] [4, 5, 6, 7, 8, 9, 10, 0]) (.region [.op 144 (.move (.t 5)) none .any, .op 21 (.move (.t 0)) none .any] [2, 3, 4, 5, 6, 7, 8, 9, 0])) (.seq (.region [.op 145 (.move (.t 1)) none .any, .op 20 (.move (.t 0)) none .any] [2, 3, 4, 5, 6, 7, 8, 0]) (.region [.op 146 (.move (.t 2)) none .any, .op 21 (.move (.t 0)) none .any] [2, 3, 4, 5, 6, 7, 8, 9, 0]))
instance : IsCond c153_n35 (.t 7) (.seq (.region [.op 141 (.move (.t 6)) none .any, .op 142 (.move (.t 4)) none .any, .op 143 (.bin .sub (.t 1) (.t 0)) none .any, .op 20 (.move (.t 0)) none .any] [4, 5, 6, 7, 8, 9, 10, 0]) (.region [.op 144 (.move (.t 5)) none .any, .op 21 (.move (.t 0)) none .any] [2, 3, 4, 5, 6, 7, 8, 9, 0])) (.seq (.region [.op 145 (.move (.t 1)) none .any, .op 20 (.move (.t 0)) none .any] [2, 3, 4, 5, 6, 7, 8, 0]) (.region [.op 146 (.move (.t 2)) none .any, .op 21 (.move (.t 0)) none .any] [2, 3, 4, 5, 6, 7, 8, 9, 0])) := ⟨rfl⟩
@[simp] def c153_n36 : SCode := (.seq (.region [.op 138 (.move (.t 2)) none .any, .op 139 (.move (.t 6)) none .any, .op 140 (.bin .gtr (.t 1) (.t 0)) none .any] [3, 4, 5, 6, 7, 8, 9, 0]) c153_n35)
@[simp] def c153_n38 : SCode := (.region [.op 147 (.move (.t 6)) none .any, .op 148 (.bin .sub (.t 0) (.k (.c (.int .i64 1)))) none .any, .op 22 (.move (.t 0)) none .any] [3, 4, 5, 6, 7, 8, 9, 10, 11, 0])
@[simp] def c153_n40 : SCode := (.block 8 [some 0, some 1, some 2, some 3, some 4, some 18, some 19, some 20] c153_l4)
@[simp] def c153_n42 : SCode := (.region [.op 175 (.move (.t 6)) none .any, .op 176 (.move (.t 8)) none .any, .op 177 (.bin .sub (.t 1) (.t 0)) none .any, .op 24 (.move (.t 0)) none .any] [4, 5, 6, 7, 8, 9, 11, 0])
def c153_n44 : SCode := .cond (.t 8) (.region [.op 186 (.move (.t 0)) none .any, .op 187 (.move (.t 7)) none .any, .op 188 (.move (.t 4)) none .any, .op 189 (.move (.t 10)) none .any, .op 190 (.move (.t 8)) none .any, .op 191 (.call false (.k (.c (.func 167 [] []))) [(.t 4), (.t 3), (.t 2), (.t 1), (.t 0)]) none .any] [6, 7, 9, 10, 11, 12, 13]) (.pre [0, 1, 3, 4, 5, 6, 7] .skip)
instance : IsCond c153_n44 (.t 8) (.region [.op 186 (.move (.t 0)) none .any, .op 187 (.move (.t 7)) none .any, .op 188 (.move (.t 4)) none .any, .op 189 (.move (.t 10)) none .any, .op 190 (.move (.t 8)) none .any, .op 191 (.call false (.k (.c (.func 167 [] []))) [(.t 4), (.t 3), (.t 2), (.t 1), (.t 0)]) none .any] [6, 7, 9, 10, 11, 12, 13]) (.pre [0, 1, 3, 4, 5, 6, 7] .skip) := ⟨rfl⟩
@[simp] def c153_n45 : SCode := (.seq (.region [.op 178 (.move (.t 6)) none .any, .op 179 (.move (.t 3)) none .any, .op 180 (.bin .lss (.t 1) (.t 0)) none .any, .op 181 (.move (.t 0)) none .any, .andN 185 0 [.op 182 (.move (.t 6)) none .any, .op 183 (.move (.t 12)) none .any, .op 184 (.bin .lss (.t 1) (.t 0)) none .any] (.t 0)] [5, 6, 7, 8, 9, 10, 11, 12, 0]) c153_n44)
@[simp] def c153_n47 : SCode := (.seq (.region [.op 192 (.move (.t 1)) none .any, .op 193 (.move (.t 6)) none .any, .op 194 (.bin .lss (.t 1) (.t 0)) none .any, .op 195 (.move (.t 0)) none .any, .andN 199 0 [.op 196 (.move (.t 9)) none .any, .op 197 (.move (.t 9)) none .any, .op 198 (.bin .lss (.t 1) (.t 0)) none .any] (.t 0)] [5, 6, 7, 8, 9, 10, 11, 0]) (.cond (.t 7) (.region [.op 200 (.move (.t 0)) none .any, .op 201 (.move (.t 2)) none .any, .op 202 (.move (.t 7)) none .any, .op 203 (.move (.t 7)) none .any, .op 204 (.move (.t 7)) none .any, .op 205 (.call false (.k (.c (.func 153 [] []))) [(.t 4), (.t 3), (.t 2), (.t 1), (.t 0)]) none .any] [6, 8, 9, 10, 12]) (.pre [0, 2, 3, 4, 6] .skip)))
@[simp] def c153_n49 : SCode := (.region [.op 206 (.move (.t 3)) none .any, .op 207 (.move (.t 5)) none .any, .op 208 (.bin .lss (.t 1) (.t 0)) none .any, .op 209 (.move (.t 0)) none .any, .andN 213 0 [.op 210 (.move (.t 8)) none .any, .op 211 (.move (.t 6)) none .any, .op 212 (.bin .lss (.t 1) (.t 0)) none .any] (.t 0)] [5, 6, 7, 8, 9, 0])
def c153_n48 : SCode := .seq c153_n49 (.cond (.t 5) (.region [.op 214 (.move (.t 0)) none .any, .op 215 (.move (.t 4)) none .any, .op 216 (.move (.t 6)) none .any, .op 217 (.move (.t 4)) none .any, .op 218 (.move (.t 6)) none .any, .op 219 (.call false (.k (.c (.func 153 [] []))) [(.t 4), (.t 3), (.t 2), (.t 1), (.t 0)]) none .any] []) (.pre [] .skip))
instance : IsSeq c153_n48 c153_n49 (.cond (.t 5) (.region [.op 214 (.move (.t 0)) none .any, .op 215 (.move (.t 4)) none .any, .op 216 (.move (.t 6)) none .any, .op 217 (.move (.t 4)) none .any, .op 218 (.move (.t 6)) none .any, .op 219 (.call false (.k (.c (.func 153 [] []))) [(.t 4), (.t 3), (.t 2), (.t 1), (.t 0)]) none .any] []) (.pre [] .skip)) := ⟨rfl⟩
def c153_n46 : SCode := .seq c153_n47 c153_n48
instance : IsSeq c153_n46 c153_n47 c153_n48 := ⟨rfl⟩
def c153_n43 : SCode := .seq c153_n45 c153_n46
instance : IsSeq c153_n43 c153_n45 c153_n46 := ⟨rfl⟩
def c153_n41 : SCode := .seq c153_n42 c153_n43
instance : IsSeq c153_n41 c153_n42 c153_n43 := ⟨rfl⟩
def c153_n39 : SCode := .seq c153_n40 c153_n41
instance : IsSeq c153_n39 c153_n40 c153_n41 := ⟨rfl⟩
def c153_n37 : SCode := .seq c153_n38 c153_n39
instance : IsSeq c153_n37 c153_n38 c153_n39 := ⟨rfl⟩
def c153_n34 : SCode := .seq c153_n36 c153_n37
instance : IsSeq c153_n34 c153_n36 c153_n37 := ⟨rfl⟩
def c153_n32 : SCode := .seq c153_n33 c153_n34
instance : IsSeq c153_n32 c153_n33 c153_n34 := ⟨rfl⟩
def c153_n30 : SCode := .seq c153_n31 c153_n32
instance : IsSeq c153_n30 c153_n31 c153_n32 := ⟨rfl⟩
def c153_n28 : SCode := .seq c153_n29 c153_n30
instance : IsSeq c153_n28 c153_n29 c153_n30 := ⟨rfl⟩
def c153_n23 : SCode := .seq c153_n27 c153_n28
instance : IsSeq c153_n23 c153_n27 c153_n28 := ⟨rfl⟩
def c153 : SCode := (.seq (.seq (.region [.op 25 (.move (.t 2)) none .any, .op 26 (.move (.t 2)) none .any, .op 27 (.bin .sub (.t 1) (.t 0)) none .any, .op 28 (.bin .eql (.t 0) (.k (.c (.int .i64 1)))) none .any] [4, 5, 6, 7, 8, 0]) c153_n20) c153_n23)
def F153 : SFunc := .code .shared 220 5 [] [] c153

-- slices.Index[[]string,string]
-- c154_l0: env [0, 1, 7, 8]
@[simp] def c154_n4 : SCode := (.region [.op 10 (.move (.t 3)) none .any, .op 5 (.move (.t 0)) none .any] [2, 3, 0, 4, 5])
@[simp] def c154_n6 : SCode := (.region [.op 11 (.move (.t 1)) none .any, .op 12 (.move (.t 1)) none .any, .op 13 (.move (.t 4)) none .any, .op 14 (.idxSlice 1 (.t 1) (.t 0)) none .any, .op 15 (.load none (.t 0)) none .any, .op 16 (.bin .eql (.t 4) (.t 0)) none .any] [6, 7, 8, 9, 10, 0])
def c154_n5 : SCode := .seq c154_n6 (.cond (.t 5) (.seq (.region [.op 17 (.move (.t 2)) none .any, .op 4 (.move (.t 0)) none .any] [0]) .ret) (.pre [0, 1, 3, 4] .skip))
instance : IsSeq c154_n5 c154_n6 (.cond (.t 5) (.seq (.region [.op 17 (.move (.t 2)) none .any, .op 4 (.move (.t 0)) none .any] [0]) .ret) (.pre [0, 1, 3, 4] .skip)) := ⟨rfl⟩
def c154_n3 : SCode := .seq c154_n4 c154_n5
instance : IsSeq c154_n3 c154_n4 c154_n5 := ⟨rfl⟩
def c154_n2 : SCode := .seq (.block 1 [some 0, some 1, some 7, some 8] c154_n3) (.region [.op 18 (.bin .add (.t 3) (.k (.c (.int .i64 1)))) none .any, .op 8 (.move (.t 0)) none .any] [2, 3, 4, 0])
instance : IsSeq c154_n2 (.block 1 [some 0, some 1, some 7, some 8] c154_n3) (.region [.op 18 (.bin .add (.t 3) (.k (.c (.int .i64 1)))) none .any, .op 8 (.move (.t 0)) none .any] [2, 3, 4, 0]) := ⟨rfl⟩
def c154_n1 : SCode := .seq (.cond (.t 4) (.pre [0, 1, 2, 3] .skip) (.pre [] (.exit 0))) c154_n2
instance : IsSeq c154_n1 (.cond (.t 4) (.pre [0, 1, 2, 3] .skip) (.pre [] (.exit 0))) c154_n2 := ⟨rfl⟩
def c154_l0b : SCode := (.seq (.region [.op 9 (.bin .lss (.t 3) (.t 2)) none .any] [1, 2, 3, 4, 0]) c154_n1)
def c154_l0 : SCode := .loop true c154_l0b
def c154 : SCode := (.seq (.region [.op 4 (.move (.k (.c (.int .i64 0)))) none .any] [1, 2]) (.seq (.seq (.region [.op 6 (.move (.t 0)) none .any, .op 7 (.len 1 (.t 0)) none .any, .op 8 (.move (.k (.c (.int .i64 0)))) none .any] [3, 4, 1, 0]) (.block 0 [] c154_l0)) (.seq (.region [.op 4 (.move (.k (.c (.int .i64 (-1))))) none .any] [0]) .ret)))
def F154 : SFunc := .code .pure 19 2 [some 4] [.tmp 0] c154

-- (*crux/member.filling).holder
-- c158_l0: env [0, 3, 11, 12, 13]
@[simp] def c158_n4 : SCode := (.region [.op 15 (.move (.t 4)) none .any, .op 16 (.idxSlice 4 (.t 3) (.t 5)) none .any, .op 17 (.load (some 4) (.t 0)) none .any, .op 6 (.new [(.c (.str [])), (.c (.str [])), (.c (.int .i64 0)), .nil]) none .any, .op 5 (.move (.t 3)) none .any, .eff (.store 4 (.t 1) (.t 2)) none .any] [5, 6, 0, 1, 7, 8, 9])
@[simp] def c158_n6 : SCode := (.draw 0 [.op 18 (.fieldAddr 2 (.t 3)) none .any, .op 19 (.load none (.t 0)) none .var, .op 20 (.fieldAddr 1 (.t 3)) none .any, .op 21 (.load none (.t 0)) none .var, .op 22 (.bin .eql (.t 2) (.t 0)) none .any, .op 23 (.move (.t 0)) none .any, .andN 34 0 [.op 24 (.move (.t 6)) none .any, .op 25 (.nilCheck (.t 0)) none .any, .op 26 (.fieldAddr 3 (.t 0)) none .any, .op 27 (.load none (.t 0)) none .var, .op 28 (.move (.t 12)) none .any, .op 29 (.idxSlice 1 (.t 1) (.t 0)) none .any, .op 30 (.load none (.t 0)) none .old, .op 31 (.fieldAddr 0 (.t 14)) none .any, .op 32 (.load none (.t 0)) none .var, .op 33 (.bin .eql (.t 2) (.t 0)) none .any] (.t 0)] [7, 8, 9, 11, 12, 13, 0])
def c158_n5 : SCode := .seq c158_n6 (.cond (.t 6) (.seq (.region [.op 35 (.move (.t 2)) none .any, .op 4 (.move (.t 0)) none .any] [0]) .ret) (.pre [0, 1, 3, 4, 5] .skip))
instance : IsSeq c158_n5 c158_n6 (.cond (.t 6) (.seq (.region [.op 35 (.move (.t 2)) none .any, .op 4 (.move (.t 0)) none .any] [0]) .ret) (.pre [0, 1, 3, 4, 5] .skip)) := ⟨rfl⟩
def c158_n3 : SCode := .seq c158_n4 c158_n5
instance : IsSeq c158_n3 c158_n4 c158_n5 := ⟨rfl⟩
def c158_n2 : SCode := .seq (.block 1 [some 0, some 3, some 11, some 12, some 13] c158_n3) (.region [.op 36 (.bin .add (.t 4) (.k (.c (.int .i64 1)))) none .any, .op 13 (.move (.t 0)) none .any] [2, 3, 4, 5, 0])
instance : IsSeq c158_n2 (.block 1 [some 0, some 3, some 11, some 12, some 13] c158_n3) (.region [.op 36 (.bin .add (.t 4) (.k (.c (.int .i64 1)))) none .any, .op 13 (.move (.t 0)) none .any] [2, 3, 4, 5, 0]) := ⟨rfl⟩
def c158_n1 : SCode := .seq (.cond (.t 5) (.pre [0, 1, 2, 3, 4] .skip) (.pre [] (.exit 0))) c158_n2
instance : IsSeq c158_n1 (.cond (.t 5) (.pre [0, 1, 2, 3, 4] .skip) (.pre [] (.exit 0))) c158_n2 := ⟨rfl⟩
def c158_l0b : SCode := (.seq (.region [.op 14 (.bin .lss (.t 4) (.t 3)) none .any] [1, 2, 3, 4, 5, 0]) c158_n1)
def c158_l0 : SCode := .loop true c158_l0b
@[simp] def c158_n8 : SCode := (.seq (.region [.op 7 (.move (.t 0)) none .any, .op 8 (.nilCheck (.t 0)) none .any, .op 9 (.fieldAddr 0 (.t 0)) none .any, .op 10 (.fieldAddr 1 (.t 0)) none .any, .op 11 (.load none (.t 0)) none .any, .op 12 (.len 1 (.t 0)) none .any, .op 13 (.move (.k (.c (.int .i64 0)))) none .any] [7, 8, 2, 1, 0]) (.block 0 [] c158_l0))
def c158_n7 : SCode := .seq c158_n8 (.seq (.region [.op 4 (.move (.k (.c (.int .i64 (-1))))) none .any] [0]) .ret)
instance : IsSeq c158_n7 c158_n8 (.seq (.region [.op 4 (.move (.k (.c (.int .i64 (-1))))) none .any] [0]) .ret) := ⟨rfl⟩
def c158 : SCode := (.seq (.region [.op 3 (.box (.t 1)) none .any, .op 4 (.move (.k (.c (.int .i64 0)))) none .any] [2, 1]) c158_n7)
def F158 : SFunc := .code .shared 37 2 [some 4] [.tmp 0] c158

-- (*crux/member.filling).free
-- c159_l0: env [0, 1, 2, 3, 36, 37, 38]
@[simp] def c159_n4 : SCode := (.region [.op 40 (.move (.t 6)) none .any, .op 41 (.idxSlice 1 (.t 5) (.t 7)) none .any, .op 42 (.load none (.t 0)) none .any, .op 9 (.move (.t 2)) none .any, .op 10 (.move (.t 1)) none .any] [5, 6, 7, 8, 1, 0, 9, 10, 11])
@[simp] def c159_n6 : SCode := (.seq (.region [.op 43 (.move (.t 5)) none .any, .op 44 (.move (.t 2)) none .any, .op 45 (.bin .neq (.t 1) (.t 0)) none .any] [3, 4, 5, 6, 7, 9, 10, 11, 0]) (.cond (.t 8) (.pre [0, 1, 2, 3, 5, 6, 7] (.exit 1)) (.pre [0, 1, 2, 3, 4, 5, 6, 7] .skip)))
@[simp] def c159_n8 : SCode := (.region [.op 46 (.move (.t 2)) none .any, .op 47 (.move (.t 2)) none .any, .op 48 (.move (.t 2)) none .any, .op 49 (.nilCheck (.t 0)) none .any, .op 50 (.fieldAddr 0 (.t 0)) none .any, .op 51 (.fieldAddr 1 (.t 0)) none .any, .op 52 (.load none (.t 0)) none .any, .op 53 (.move (.t 11)) none .any, .op 54 (.idxSlice 4 (.t 1) (.t 0)) none .any, .op 55 (.fieldAddr 2 (.t 0)) none .any, .op 56 (.load none (.t 0)) none .any, .op 57 (.build [(.c (.int .i64 0)), (.c (.int .i64 0))] [(0, 1, (.t 9)), (1, 1, (.t 0))]) none .any, .eff (.mapUpdate (.many [0, 0]) (.t 11) (.t 0) (.k (.c (.bool true)))) none .any] [12, 13, 14, 15, 16, 17, 18, 19])
@[simp] def c159_n10 : SCode := (.region [.op 58 (.move (.t 0)) none .any, .op 59 (.move (.t 5)) none .any, .op 60 (.move (.t 4)) none .any, .op 61 (.move (.t 6)) none .any, .op 62 (.call false (.k (.c (.func 143 [] []))) [(.t 3), (.t 2), (.t 1), (.t 0)]) none .any] [5, 6, 7, 8, 10, 11, 12, 0])
@[simp] def c159_n13 : SCode := (.region [.op 63 (.move (.t 0)) none .any, .op 64 (.nilCheck (.t 0)) none .any, .op 65 (.fieldAddr 4 (.t 0)) none .any, .op 66 (.load none (.t 0)) none .any, .op 67 (.move (.t 5)) none .any, .op 68 (.idxSlice 1 (.t 1) (.t 0)) none .any, .op 69 (.load none (.t 0)) none .any, .op 70 (.bin .sub (.t 0) (.k (.c (.int .i64 1)))) none .any, .op 71 (.idxSlice 1 (.t 4) (.t 3)) none .any, .eff (.store 1 (.t 0) (.t 1)) none .any] [])
def c159_n12 : SCode := .seq c159_n13 (.seq (.region [.op 8 (.move (.k (.c (.bool true)))) none .any] [0]) .ret)
instance : IsSeq c159_n12 c159_n13 (.seq (.region [.op 8 (.move (.k (.c (.bool true)))) none .any] [0]) .ret) := ⟨rfl⟩
def c159_n11 : SCode := .cond (.t 7) c159_n12 (.pre [0, 1, 2, 3, 4, 5, 6] .skip)
instance : IsCond c159_n11 (.t 7) c159_n12 (.pre [0, 1, 2, 3, 4, 5, 6] .skip) := ⟨rfl⟩
def c159_n9 : SCode := .seq c159_n10 c159_n11
instance : IsSeq c159_n9 c159_n10 c159_n11 := ⟨rfl⟩
def c159_n7 : SCode := .seq c159_n8 c159_n9
instance : IsSeq c159_n7 c159_n8 c159_n9 := ⟨rfl⟩
def c159_n5 : SCode := .seq c159_n6 c159_n7
instance : IsSeq c159_n5 c159_n6 c159_n7 := ⟨rfl⟩
def c159_n3 : SCode := .seq c159_n4 c159_n5
instance : IsSeq c159_n3 c159_n4 c159_n5 := ⟨rfl⟩
def c159_n2 : SCode := .seq (.block 1 [some 0, some 1, some 2, some 3, some 36, some 37, some 38] c159_n3) (.region [.op 72 (.bin .add (.t 6) (.k (.c (.int .i64 1)))) none .any, .op 38 (.move (.t 0)) none .any] [2, 3, 4, 5, 6, 7, 0])
instance : IsSeq c159_n2 (.block 1 [some 0, some 1, some 2, some 3, some 36, some 37, some 38] c159_n3) (.region [.op 72 (.bin .add (.t 6) (.k (.c (.int .i64 1)))) none .any, .op 38 (.move (.t 0)) none .any] [2, 3, 4, 5, 6, 7, 0]) := ⟨rfl⟩
def c159_n1 : SCode := .seq (.cond (.t 7) (.pre [0, 1, 2, 3, 4, 5, 6] .skip) (.pre [] (.exit 0))) c159_n2
instance : IsSeq c159_n1 (.cond (.t 7) (.pre [0, 1, 2, 3, 4, 5, 6] .skip) (.pre [] (.exit 0))) c159_n2 := ⟨rfl⟩
def c159_l0b : SCode := (.seq (.region [.op 39 (.bin .lss (.t 6) (.t 5)) none .any] [1, 2, 3, 4, 5, 6, 7, 0]) c159_n1)
def c159_l0 : SCode := .loop true c159_l0b
@[simp] def c159_n15 : SCode := (.seq (.draw 0 [.op 11 (.move (.t 0)) none .any, .op 12 (.nilCheck (.t 0)) none .any, .op 13 (.fieldAddr 4 (.t 0)) none .any, .op 14 (.load none (.t 0)) none .var, .op 15 (.move (.t 5)) none .any, .op 16 (.idxSlice 1 (.t 1) (.t 0)) none .any, .op 17 (.load none (.t 0)) none .old, .op 18 (.move (.t 7)) none .any, .op 19 (.nilCheck (.t 0)) none .any, .op 20 (.fieldAddr 2 (.t 0)) none .any, .op 21 (.load none (.t 0)) none .var, .op 22 (.move (.t 12)) none .any, .op 23 (.idxSlice 1 (.t 1) (.t 0)) none .any, .op 24 (.load none (.t 0)) none .old, .op 25 (.bin .lss (.t 7) (.t 0)) none .any] [15, 16, 17, 18, 0]) (.cond (.t 4) (.seq (.region [.op 8 (.move (.k (.c (.bool true)))) none .any] [0]) .ret) (.pre [0, 1, 2, 3] .skip)))
@[simp] def c159_n17 : SCode := (.seq (.region [.op 26 (.move (.t 3)) none .any, .op 27 (.move (.t 2)) none .any, .op 28 (.idxSlice 1 (.t 1) (.t 0)) none .any, .op 29 (.load none (.t 0)) none .any] [4, 5, 6, 7, 0]) (.cond (.t 4) (.seq (.region [.op 8 (.move (.k (.c (.bool false)))) none .any] [0]) .ret) (.pre [0, 1, 2, 3] .skip)))
@[simp] def c159_n19 : SCode := (.region [.op 30 (.move (.t 3)) none .any, .op 31 (.move (.t 2)) none .any, .op 32 (.idxSlice 1 (.t 1) (.t 0)) none .any, .eff (.store 1 (.t 0) (.k (.c (.bool true)))) none .any] [3, 4, 5, 6])
@[simp] def c159_n21 : SCode := (.seq (.region [.op 33 (.move (.t 0)) none .any, .op 34 (.nilCheck (.t 0)) none .any, .op 35 (.fieldAddr 3 (.t 0)) none .any, .op 36 (.load none (.t 0)) none .any, .op 37 (.len 1 (.t 0)) none .any, .op 38 (.move (.k (.c (.int .i64 0)))) none .any] [6, 7, 8, 9, 2, 1, 0]) (.block 0 [] c159_l0))
def c159_n20 : SCode := .seq c159_n21 (.seq (.region [.op 8 (.move (.k (.c (.bool false)))) none .any] [0]) .ret)
instance : IsSeq c159_n20 c159_n21 (.seq (.region [.op 8 (.move (.k (.c (.bool false)))) none .any] [0]) .ret) := ⟨rfl⟩
def c159_n18 : SCode := .seq c159_n19 c159_n20
instance : IsSeq c159_n18 c159_n19 c159_n20 := ⟨rfl⟩
def c159_n16 : SCode := .seq c159_n17 c159_n18
instance : IsSeq c159_n16 c159_n17 c159_n18 := ⟨rfl⟩
def c159_n14 : SCode := .seq c159_n15 c159_n16
instance : IsSeq c159_n14 c159_n15 c159_n16 := ⟨rfl⟩
def c159 : SCode := (.seq (.region [.op 8 (.move (.k (.c (.bool false)))) none .any] [1, 2, 3, 4]) c159_n14)
def F159 : SFunc := .code .shared 73 4 [some 8] [.tmp 0] c159

-- math/bits.OnesCount32
@[simp] def c160_n2 : SCode := (.draw 0 [.op 3 (.move (.t 0)) none .any, .op 4 (.bin .shr (.t 0) (.k (.c (.int .u64 24)))) none .any, .op 5 (.indexStr (.k (.c (.str [0, 1, 1, 2, 1, 2, 2, 3, 1, 2, 2, 3, 2, 3, 3, 4, 1, 2, 2, 3, 2, 3, 3, 4, 2, 3, 3, 4, 3, 4, 4, 5, 1, 2, 2, 3, 2, 3, 3, 4, 2, 3, 3, 4, 3, 4, 4, 5, 2, 3, 3, 4, 3, 4, 4, 5, 3, 4, 4, 5, 4, 5, 5, 6, 1, 2, 2, 3, 2, 3, 3, 4, 2, 3, 3, 4, 3, 4, 4, 5, 2, 3, 3, 4, 3, 4, 4, 5, 3, 4, 4, 5, 4, 5, 5, 6, 2, 3, 3, 4, 3, 4, 4, 5, 3, 4, 4, 5, 4, 5, 5, 6, 3, 4, 4, 5, 4, 5, 5, 6, 4, 5, 5, 6, 5, 6, 6, 7, 1, 2, 2, 3, 2, 3, 3, 4, 2, 3, 3, 4, 3, 4, 4, 5, 2, 3, 3, 4, 3, 4, 4, 5, 3, 4, 4, 5, 4, 5, 5, 6, 2, 3, 3, 4, 3, 4, 4, 5, 3, 4, 4, 5, 4, 5, 5, 6, 3, 4, 4, 5, 4, 5, 5, 6, 4, 5, 5, 6, 5, 6, 6, 7, 2, 3, 3, 4, 3, 4, 4, 5, 3, 4, 4, 5, 4, 5, 5, 6, 3, 4, 4, 5, 4, 5, 5, 6, 4, 5, 5, 6, 5, 6, 6, 7, 3, 4, 4, 5, 4, 5, 5, 6, 4, 5, 5, 6, 5, 6, 6, 7, 4, 5, 5, 6, 5, 6, 6, 7, 5, 6, 6, 7, 6, 7, 7, 8]))) (.t 0)) none .any, .op 6 (.move (.t 3)) none .any, .op 7 (.bin .shr (.t 0) (.k (.c (.int .u64 16)))) none .any, .op 8 (.bin .and (.t 0) (.k (.c (.int .u32 255)))) none .any, .op 9 (.indexStr (.k (.c (.str [0, 1, 1, 2, 1, 2, 2, 3, 1, 2, 2, 3, 2, 3, 3, 4, 1, 2, 2, 3, 2, 3, 3, 4, 2, 3, 3, 4, 3, 4, 4, 5, 1, 2, 2, 3, 2, 3, 3, 4, 2, 3, 3, 4, 3, 4, 4, 5, 2, 3, 3, 4, 3, 4, 4, 5, 3, 4, 4, 5, 4, 5, 5, 6, 1, 2, 2, 3, 2, 3, 3, 4, 2, 3, 3, 4, 3, 4, 4, 5, 2, 3, 3, 4, 3, 4, 4, 5, 3, 4, 4, 5, 4, 5, 5, 6, 2, 3, 3, 4, 3, 4, 4, 5, 3, 4, 4, 5, 4, 5, 5, 6, 3, 4, 4, 5, 4, 5, 5, 6, 4, 5, 5, 6, 5, 6, 6, 7, 1, 2, 2, 3, 2, 3, 3, 4, 2, 3, 3, 4, 3, 4, 4, 5, 2, 3, 3, 4, 3, 4, 4, 5, 3, 4, 4, 5, 4, 5, 5, 6, 2, 3, 3, 4, 3, 4, 4, 5, 3, 4, 4, 5, 4, 5, 5, 6, 3, 4, 4, 5, 4, 5, 5, 6, 4, 5, 5, 6, 5, 6, 6, 7, 2, 3, 3, 4, 3, 4, 4, 5, 3, 4, 4, 5, 4, 5, 5, 6, 3, 4, 4, 5, 4, 5, 5, 6, 4, 5, 5, 6, 5, 6, 6, 7, 3, 4, 4, 5, 4, 5, 5, 6, 4, 5, 5, 6, 5, 6, 6, 7, 4, 5, 5, 6, 5, 6, 6, 7, 5, 6, 6, 7, 6, 7, 7, 8]))) (.t 0)) none .any, .op 10 (.bin .add (.t 4) (.t 0)) none .any, .op 11 (.move (.t 8)) none .any, .op 12 (.bin .shr (.t 0) (.k (.c (.int .u64 8)))) none .any, .op 13 (.bin .and (.t 0) (.k (.c (.int .u32 255)))) none .any, .op 14 (.indexStr (.k (.c (.str [0, 1, 1, 2, 1, 2, 2, 3, 1, 2, 2, 3, 2, 3, 3, 4, 1, 2, 2, 3, 2, 3, 3, 4, 2, 3, 3, 4, 3, 4, 4, 5, 1, 2, 2, 3, 2, 3, 3, 4, 2, 3, 3, 4, 3, 4, 4, 5, 2, 3, 3, 4, 3, 4, 4, 5, 3, 4, 4, 5, 4, 5, 5, 6, 1, 2, 2, 3, 2, 3, 3, 4, 2, 3, 3, 4, 3, 4, 4, 5, 2, 3, 3, 4, 3, 4, 4, 5, 3, 4, 4, 5, 4, 5, 5, 6, 2, 3, 3, 4, 3, 4, 4, 5, 3, 4, 4, 5, 4, 5, 5, 6, 3, 4, 4, 5, 4, 5, 5, 6, 4, 5, 5, 6, 5, 6, 6, 7, 1, 2, 2, 3, 2, 3, 3, 4, 2, 3, 3, 4, 3, 4, 4, 5, 2, 3, 3, 4, 3, 4, 4, 5, 3, 4, 4, 5, 4, 5, 5, 6, 2, 3, 3, 4, 3, 4, 4, 5, 3, 4, 4, 5, 4, 5, 5, 6, 3, 4, 4, 5, 4, 5, 5, 6, 4, 5, 5, 6, 5, 6, 6, 7, 2, 3, 3, 4, 3, 4, 4, 5, 3, 4, 4, 5, 4, 5, 5, 6, 3, 4, 4, 5, 4, 5, 5, 6, 4, 5, 5, 6, 5, 6, 6, 7, 3, 4, 4, 5, 4, 5, 5, 6, 4, 5, 5, 6, 5, 6, 6, 7, 4, 5, 5, 6, 5, 6, 6, 7, 5, 6, 6, 7, 6, 7, 7, 8]))) (.t 0)) none .any, .op 15 (.bin .add (.t 4) (.t 0)) none .any, .op 16 (.move (.t 13)) none .any, .op 17 (.bin .and (.t 0) (.k (.c (.int .u32 255)))) none .any, .op 18 (.indexStr (.k (.c (.str [0, 1, 1, 2, 1, 2, 2, 3, 1, 2, 2, 3, 2, 3, 3, 4, 1, 2, 2, 3, 2, 3, 3, 4, 2, 3, 3, 4, 3, 4, 4, 5, 1, 2, 2, 3, 2, 3, 3, 4, 2, 3, 3, 4, 3, 4, 4, 5, 2, 3, 3, 4, 3, 4, 4, 5, 3, 4, 4, 5, 4, 5, 5, 6, 1, 2, 2, 3, 2, 3, 3, 4, 2, 3, 3, 4, 3, 4, 4, 5, 2, 3, 3, 4, 3, 4, 4, 5, 3, 4, 4, 5, 4, 5, 5, 6, 2, 3, 3, 4, 3, 4, 4, 5, 3, 4, 4, 5, 4, 5, 5, 6, 3, 4, 4, 5, 4, 5, 5, 6, 4, 5, 5, 6, 5, 6, 6, 7, 1, 2, 2, 3, 2, 3, 3, 4, 2, 3, 3, 4, 3, 4, 4, 5, 2, 3, 3, 4, 3, 4, 4, 5, 3, 4, 4, 5, 4, 5, 5, 6, 2, 3, 3, 4, 3, 4, 4, 5, 3, 4, 4, 5, 4, 5, 5, 6, 3, 4, 4, 5, 4, 5, 5, 6, 4, 5, 5, 6, 5, 6, 6, 7, 2, 3, 3, 4, 3, 4, 4, 5, 3, 4, 4, 5, 4, 5, 5, 6, 3, 4, 4, 5, 4, 5, 5, 6, 4, 5, 5, 6, 5, 6, 6, 7, 3, 4, 4, 5, 4, 5, 5, 6, 4, 5, 5, 6, 5, 6, 6, 7, 4, 5, 5, 6, 5, 6, 6, 7, 5, 6, 6, 7, 6, 7, 7, 8]))) (.t 0)) none .any, .op 19 (.bin .add (.t 3) (.t 0)) none .any, .op 20 (.conv .i64 (.t 0)) none .any, .op 2 (.move (.t 0)) none .any] [0])
def c160_n1 : SCode := .seq c160_n2 .ret
instance : IsSeq c160_n1 c160_n2 .ret := ⟨rfl⟩
def c160 : SCode := (.seq (.region [.op 2 (.move (.k (.c (.int .i64 0)))) none .any] [1]) c160_n1)
def F160 : SFunc := .code .pure 21 1 [some 2] [.tmp 0] c160

-- math/bits.OnesCount64
@[simp] def c161_n2 : SCode := (.region [.op 3 (.move (.t 0)) none .any, .op 4 (.bin .shr (.t 0) (.k (.c (.int .u64 1)))) none .any, .op 5 (.bin .and (.t 0) (.k (.c (.int .u64 6148914691236517205)))) none .any, .op 6 (.move (.t 3)) none .any, .op 7 (.bin .and (.t 0) (.k (.c (.int .u64 6148914691236517205)))) none .any, .op 8 (.bin .add (.t 2) (.t 0)) none .any, .op 0 (.move (.t 0)) none .any] [0])
@[simp] def c161_n4 : SCode := (.region [.op 9 (.move (.t 0)) none .any, .op 10 (.bin .shr (.t 0) (.k (.c (.int .u64 2)))) none .any, .op 11 (.bin .and (.t 0) (.k (.c (.int .u64 3689348814741910323)))) none .any, .op 12 (.move (.t 3)) none .any, .op 13 (.bin .and (.t 0) (.k (.c (.int .u64 3689348814741910323)))) none .any, .op 14 (.bin .add (.t 2) (.t 0)) none .any, .op 0 (.move (.t 0)) none .any] [0])
@[simp] def c161_n6 : SCode := (.region [.op 15 (.move (.t 0)) none .any, .op 16 (.bin .shr (.t 0) (.k (.c (.int .u64 4)))) none .any, .op 17 (.move (.t 2)) none .any, .op 18 (.bin .add (.t 1) (.t 0)) none .any, .op 19 (.bin .and (.t 0) (.k (.c (.int .u64 1085102592571150095)))) none .any, .op 0 (.move (.t 0)) none .any] [0])
@[simp] def c161_n8 : SCode := (.region [.op 20 (.move (.t 0)) none .any, .op 21 (.move (.t 1)) none .any, .op 22 (.bin .shr (.t 0) (.k (.c (.int .u64 8)))) none .any, .op 23 (.bin .add (.t 2) (.t 0)) none .any, .op 0 (.move (.t 0)) none .any] [0])
@[simp] def c161_n10 : SCode := (.region [.op 24 (.move (.t 0)) none .any, .op 25 (.move (.t 1)) none .any, .op 26 (.bin .shr (.t 0) (.k (.c (.int .u64 16)))) none .any, .op 27 (.bin .add (.t 2) (.t 0)) none .any, .op 0 (.move (.t 0)) none .any] [0])
@[simp] def c161_n12 : SCode := (.region [.op 28 (.move (.t 0)) none .any, .op 29 (.move (.t 1)) none .any, .op 30 (.bin .shr (.t 0) (.k (.c (.int .u64 32)))) none .any, .op 31 (.bin .add (.t 2) (.t 0)) none .any, .op 0 (.move (.t 0)) none .any] [0])
def c161_n11 : SCode := .seq c161_n12 (.seq (.region [.op 32 (.move (.t 0)) none .any, .op 33 (.conv .i64 (.t 0)) none .any, .op 34 (.bin .and (.t 0) (.k (.c (.int .i64 127)))) none .any, .op 2 (.move (.t 0)) none .any] [0]) .ret)
instance : IsSeq c161_n11 c161_n12 (.seq (.region [.op 32 (.move (.t 0)) none .any, .op 33 (.conv .i64 (.t 0)) none .any, .op 34 (.bin .and (.t 0) (.k (.c (.int .i64 127)))) none .any, .op 2 (.move (.t 0)) none .any] [0]) .ret) := ⟨rfl⟩
def c161_n9 : SCode := .seq c161_n10 c161_n11
instance : IsSeq c161_n9 c161_n10 c161_n11 := ⟨rfl⟩
def c161_n7 : SCode := .seq c161_n8 c161_n9
instance : IsSeq c161_n7 c161_n8 c161_n9 := ⟨rfl⟩
def c161_n5 : SCode := .seq c161_n6 c161_n7
instance : IsSeq c161_n5 c161_n6 c161_n7 := ⟨rfl⟩
def c161_n3 : SCode := .seq c161_n4 c161_n5
instance : IsSeq c161_n3 c161_n4 c161_n5 := ⟨rfl⟩
def c161_n1 : SCode := .seq c161_n2 c161_n3
instance : IsSeq c161_n1 c161_n2 c161_n3 := ⟨rfl⟩
def c161 : SCode := (.seq (.region [.op 2 (.move (.k (.c (.int .i64 0)))) none .any] [1]) c161_n1)
def F161 : SFunc := .code .pure 35 1 [some 2] [.tmp 0] c161

-- slices.IndexFunc[[]crux/api.Climber,crux/api.Climber]
-- c162_l0: env [0, 1, 7, 8]
@[simp] def c162_n4 : SCode := (.region [.op 10 (.move (.t 3)) none .any, .op 5 (.move (.t 0)) none .any] [2, 3, 0, 4, 5])
@[simp] def c162_n6 : SCode := (.region [.op 11 (.move (.t 1)) none .any, .op 12 (.move (.t 1)) none .any, .op 13 (.move (.t 4)) none .any, .op 14 (.idxSlice 4 (.t 1) (.t 0)) none .any, .op 15 (.load (some 4) (.t 0)) none .any, .op 16 (.call false (.t 4) [(.t 0)]) none .any] [6, 7, 8, 9, 10, 0])
def c162_n5 : SCode := .seq c162_n6 (.cond (.t 5) (.seq (.region [.op 17 (.move (.t 2)) none .any, .op 4 (.move (.t 0)) none .any] [0]) .ret) (.pre [0, 1, 3, 4] .skip))
instance : IsSeq c162_n5 c162_n6 (.cond (.t 5) (.seq (.region [.op 17 (.move (.t 2)) none .any, .op 4 (.move (.t 0)) none .any] [0]) .ret) (.pre [0, 1, 3, 4] .skip)) := ⟨rfl⟩
def c162_n3 : SCode := .seq c162_n4 c162_n5
instance : IsSeq c162_n3 c162_n4 c162_n5 := ⟨rfl⟩
def c162_n2 : SCode := .seq (.block 1 [some 0, some 1, some 7, some 8] c162_n3) (.region [.op 18 (.bin .add (.t 3) (.k (.c (.int .i64 1)))) none .any, .op 8 (.move (.t 0)) none .any] [2, 3, 4, 0])
instance : IsSeq c162_n2 (.block 1 [some 0, some 1, some 7, some 8] c162_n3) (.region [.op 18 (.bin .add (.t 3) (.k (.c (.int .i64 1)))) none .any, .op 8 (.move (.t 0)) none .any] [2, 3, 4, 0]) := ⟨rfl⟩
def c162_n1 : SCode := .seq (.cond (.t 4) (.pre [0, 1, 2, 3] .skip) (.pre [] (.exit 0))) c162_n2
instance : IsSeq c162_n1 (.cond (.t 4) (.pre [0, 1, 2, 3] .skip) (.pre [] (.exit 0))) c162_n2 := ⟨rfl⟩
def c162_l0b : SCode := (.seq (.region [.op 9 (.bin .lss (.t 3) (.t 2)) none .any] [1, 2, 3, 4, 0]) c162_n1)
def c162_l0 : SCode := .loop true c162_l0b
def c162 : SCode := (.seq (.region [.op 4 (.move (.k (.c (.int .i64 0)))) none .any] [1, 2]) (.seq (.seq (.region [.op 6 (.move (.t 0)) none .any, .op 7 (.len 1 (.t 0)) none .any, .op 8 (.move (.k (.c (.int .i64 0)))) none .any] [3, 4, 1, 0]) (.block 0 [] c162_l0)) (.seq (.region [.op 4 (.move (.k (.c (.int .i64 (-1))))) none .any] [0]) .ret)))
def F162 : SFunc := .code .pure 19 2 [some 4] [.tmp 0] c162

-- math/bits.Len32
@[simp] def c163_n2 : SCode := (.seq (.region [.op 3 (.move (.t 0)) none .any, .op 4 (.bin .geq (.t 0) (.k (.c (.int .u32 65536)))) none .any] [2, 3, 0]) (.cond (.t 2) (.seq (.region [.op 5 (.move (.t 0)) none .any, .op 6 (.bin .shr (.t 0) (.k (.c (.int .u64 16)))) none .any, .op 0 (.move (.t 0)) none .any] [0]) (.region [.op 2 (.move (.k (.c (.int .i64 16)))) none .any] [1, 0])) (.pre [0, 1] .skip)))
@[simp] def c163_n4 : SCode := (.seq (.region [.op 7 (.move (.t 0)) none .any, .op 8 (.bin .geq (.t 0) (.k (.c (.int .u32 256)))) none .any] [2, 3, 0]) (.cond (.t 2) (.seq (.region [.op 9 (.move (.t 0)) none .any, .op 10 (.bin .shr (.t 0) (.k (.c (.int .u64 8)))) none .any, .op 0 (.move (.t 0)) none .any] [0, 4]) (.region [.op 11 (.move (.t 1)) none .any, .op 12 (.bin .add (.t 0) (.k (.c (.int .i64 8)))) none .any, .op 2 (.move (.t 0)) none .any] [3, 0])) (.pre [0, 1] .skip)))
@[simp] def c163_n6 : SCode := (.region [.op 13 (.move (.t 1)) none .any, .op 14 (.move (.t 1)) none .any, .op 15 (.conv .u8 (.t 0)) none .any, .op 16 (.indexStr (.k (.c (.str [0, 1, 2, 2, 3, 3, 3, 3, 4, 4, 4, 4, 4, 4, 4, 4, 5, 5, 5, 5, 5, 5, 5, 5, 5, 5, 5, 5, 5, 5, 5, 5, 6, 6, 6, 6, 6, 6, 6, 6, 6, 6, 6, 6, 6, 6, 6, 6, 6, 6, 6, 6, 6, 6, 6, 6, 6, 6, 6, 6, 6, 6, 6, 6, 7, 7, 7, 7, 7, 7, 7, 7, 7, 7, 7, 7, 7, 7, 7, 7, 7, 7, 7, 7, 7, 7, 7, 7, 7, 7, 7, 7, 7, 7, 7, 7, 7, 7, 7, 7, 7, 7, 7, 7, 7, 7, 7, 7, 7, 7, 7, 7, 7, 7, 7, 7, 7, 7, 7, 7, 7, 7, 7, 7, 7, 7, 7, 7, 8, 8, 8, 8, 8, 8, 8, 8, 8, 8, 8, 8, 8, 8, 8, 8, 8, 8, 8, 8, 8, 8, 8, 8, 8, 8, 8, 8, 8, 8, 8, 8, 8, 8, 8, 8, 8, 8, 8, 8, 8, 8, 8, 8, 8, 8, 8, 8, 8, 8, 8, 8, 8, 8, 8, 8, 8, 8, 8, 8, 8, 8, 8, 8, 8, 8, 8, 8, 8, 8, 8, 8, 8, 8, 8, 8, 8, 8, 8, 8, 8, 8, 8, 8, 8, 8, 8, 8, 8, 8, 8, 8, 8, 8, 8, 8, 8, 8, 8, 8, 8, 8, 8, 8, 8, 8, 8, 8, 8, 8, 8, 8, 8, 8, 8, 8, 8, 8, 8, 8, 8, 8, 8, 8, 8, 8, 8, 8]))) (.t 0)) none .any, .op 17 (.conv .i64 (.t 0)) none .any, .op 18 (.bin .add (.t 4) (.t 0)) none .any, .op 2 (.move (.t 0)) none .any] [0])
def c163_n5 : SCode := .seq c163_n6 .ret
instance : IsSeq c163_n5 c163_n6 .ret := ⟨rfl⟩
def c163_n3 : SCode := .seq c163_n4 c163_n5
instance : IsSeq c163_n3 c163_n4 c163_n5 := ⟨rfl⟩
def c163_n1 : SCode := .seq c163_n2 c163_n3
instance : IsSeq c163_n1 c163_n2 c163_n3 := ⟨rfl⟩
def c163 : SCode := (.seq (.region [.op 2 (.move (.k (.c (.int .i64 0)))) none .any] [1, 0]) c163_n1)
def F163 : SFunc := .code .pure 19 1 [some 2] [.tmp 0] c163

-- math/bits.Len64
@[simp] def c164_n2 : SCode := (.seq (.region [.op 3 (.move (.t 0)) none .any, .op 4 (.bin .geq (.t 0) (.k (.c (.int .u64 4294967296)))) none .any] [2, 3, 0]) (.cond (.t 2) (.seq (.region [.op 5 (.move (.t 0)) none .any, .op 6 (.bin .shr (.t 0) (.k (.c (.int .u64 32)))) none .any, .op 0 (.move (.t 0)) none .any] [0]) (.region [.op 2 (.move (.k (.c (.int .i64 32)))) none .any] [1, 0])) (.pre [0, 1] .skip)))
@[simp] def c164_n4 : SCode := (.seq (.region [.op 7 (.move (.t 0)) none .any, .op 8 (.bin .geq (.t 0) (.k (.c (.int .u64 65536)))) none .any] [2, 3, 0]) (.cond (.t 2) (.seq (.region [.op 9 (.move (.t 0)) none .any, .op 10 (.bin .shr (.t 0) (.k (.c (.int .u64 16)))) none .any, .op 0 (.move (.t 0)) none .any] [0, 4]) (.region [.op 11 (.move (.t 1)) none .any, .op 12 (.bin .add (.t 0) (.k (.c (.int .i64 16)))) none .any, .op 2 (.move (.t 0)) none .any] [3, 0])) (.pre [0, 1] .skip)))
@[simp] def c164_n6 : SCode := (.seq (.region [.op 13 (.move (.t 0)) none .any, .op 14 (.bin .geq (.t 0) (.k (.c (.int .u64 256)))) none .any] [2, 3, 0]) (.cond (.t 2) (.seq (.region [.op 15 (.move (.t 0)) none .any, .op 16 (.bin .shr (.t 0) (.k (.c (.int .u64 8)))) none .any, .op 0 (.move (.t 0)) none .any] [0, 4]) (.region [.op 17 (.move (.t 1)) none .any, .op 18 (.bin .add (.t 0) (.k (.c (.int .i64 8)))) none .any, .op 2 (.move (.t 0)) none .any] [3, 0])) (.pre [0, 1] .skip)))
@[simp] def c164_n8 : SCode := (.region [.op 19 (.move (.t 1)) none .any, .op 20 (.move (.t 1)) none .any, .op 21 (.conv .u8 (.t 0)) none .any, .op 22 (.indexStr (.k (.c (.str [0, 1, 2, 2, 3, 3, 3, 3, 4, 4, 4, 4, 4, 4, 4, 4, 5, 5, 5, 5, 5, 5, 5, 5, 5, 5, 5, 5, 5, 5, 5, 5, 6, 6, 6, 6, 6, 6, 6, 6, 6, 6, 6, 6, 6, 6, 6, 6, 6, 6, 6, 6, 6, 6, 6, 6, 6, 6, 6, 6, 6, 6, 6, 6, 7, 7, 7, 7, 7, 7, 7, 7, 7, 7, 7, 7, 7, 7, 7, 7, 7, 7, 7, 7, 7, 7, 7, 7, 7, 7, 7, 7, 7, 7, 7, 7, 7, 7, 7, 7, 7, 7, 7, 7, 7, 7, 7, 7, 7, 7, 7, 7, 7, 7, 7, 7, 7, 7, 7, 7, 7, 7, 7, 7, 7, 7, 7, 7, 8, 8, 8, 8, 8, 8, 8, 8, 8, 8, 8, 8, 8, 8, 8, 8, 8, 8, 8, 8, 8, 8, 8, 8, 8, 8, 8, 8, 8, 8, 8, 8, 8, 8, 8, 8, 8, 8, 8, 8, 8, 8, 8, 8, 8, 8, 8, 8, 8, 8, 8, 8, 8, 8, 8, 8, 8, 8, 8, 8, 8, 8, 8, 8, 8, 8, 8, 8, 8, 8, 8, 8, 8, 8, 8, 8, 8, 8, 8, 8, 8, 8, 8, 8, 8, 8, 8, 8, 8, 8, 8, 8, 8, 8, 8, 8, 8, 8, 8, 8, 8, 8, 8, 8, 8, 8, 8, 8, 8, 8, 8, 8, 8, 8, 8, 8, 8, 8, 8, 8, 8, 8, 8, 8, 8, 8, 8, 8]))) (.t 0)) none .any, .op 23 (.conv .i64 (.t 0)) none .any, .op 24 (.bin .add (.t 4) (.t 0)) none .any, .op 2 (.move (.t 0)) none .any] [0])
def c164_n7 : SCode := .seq c164_n8 .ret
instance : IsSeq c164_n7 c164_n8 .ret := ⟨rfl⟩
def c164_n5 : SCode := .seq c164_n6 c164_n7
instance : IsSeq c164_n5 c164_n6 c164_n7 := ⟨rfl⟩
def c164_n3 : SCode := .seq c164_n4 c164_n5
instance : IsSeq c164_n3 c164_n4 c164_n5 := ⟨rfl⟩
def c164_n1 : SCode := .seq c164_n2 c164_n3
instance : IsSeq c164_n1 c164_n2 c164_n3 := ⟨rfl⟩
def c164 : SCode := (.seq (.region [.op 2 (.move (.k (.c (.int .i64 0)))) none .any] [1, 0]) c164_n1)
def F164 : SFunc := .code .pure 25 1 [some 2] [.tmp 0] c164

-- math/bits.Mul32
@[simp] def c165_n2 : SCode := (.region [.op 7 (.move (.t 0)) none .any, .op 8 (.conv .u64 (.t 0)) none .any, .op 9 (.move (.t 3)) none .any, .op 10 (.conv .u64 (.t 0)) none .any, .op 11 (.bin .mul (.t 2) (.t 0)) none .any, .op 6 (.move (.t 0)) none .any] [0])
def c165_n1 : SCode := .seq c165_n2 (.seq (.region [.op 12 (.move (.t 0)) none .any, .op 13 (.bin .shr (.t 0) (.k (.c (.int .u64 32)))) none .any, .op 14 (.conv .u32 (.t 0)) none .any, .op 15 (.move (.t 3)) none .any, .op 16 (.conv .u32 (.t 0)) none .any, .op 4 (.move (.t 2)) none .any, .op 5 (.move (.t 1)) none .any] [1, 0]) .ret)
instance : IsSeq c165_n1 c165_n2 (.seq (.region [.op 12 (.move (.t 0)) none .any, .op 13 (.bin .shr (.t 0) (.k (.c (.int .u64 32)))) none .any, .op 14 (.conv .u32 (.t 0)) none .any, .op 15 (.move (.t 3)) none .any, .op 16 (.conv .u32 (.t 0)) none .any, .op 4 (.move (.t 2)) none .any, .op 5 (.move (.t 1)) none .any] [1, 0]) .ret) := ⟨rfl⟩
def c165 : SCode := (.seq (.region [.op 4 (.move (.k (.c (.int .u32 0)))) none .any, .op 5 (.move (.k (.c (.int .u32 0)))) none .any] [2, 3]) c165_n1)
def F165 : SFunc := .code .pure 17 2 [some 4, some 5] [.tmp 0, .tmp 1] c165

-- math/bits.Mul64
@[simp] def c166_n2 : SCode := (.region [.op 14 (.move (.t 0)) none .any, .op 15 (.bin .and (.t 0) (.k (.c (.int .u64 4294967295)))) none .any, .op 6 (.move (.t 0)) none .any] [3, 4, 0])
@[simp] def c166_n4 : SCode := (.region [.op 16 (.move (.t 0)) none .any, .op 17 (.bin .shr (.t 0) (.k (.c (.int .u64 32)))) none .any, .op 7 (.move (.t 0)) none .any] [3, 4, 5, 0])
@[simp] def c166_n6 : SCode := (.region [.op 18 (.move (.t 1)) none .any, .op 19 (.bin .and (.t 0) (.k (.c (.int .u64 4294967295)))) none .any, .op 8 (.move (.t 0)) none .any] [3, 4, 5, 6, 0])
@[simp] def c166_n8 : SCode := (.region [.op 20 (.move (.t 1)) none .any, .op 21 (.bin .shr (.t 0) (.k (.c (.int .u64 32)))) none .any, .op 9 (.move (.t 0)) none .any] [3, 4, 5, 6, 7, 0])
@[simp] def c166_n10 : SCode := (.region [.op 22 (.move (.t 2)) none .any, .op 23 (.move (.t 5)) none .any, .op 24 (.bin .mul (.t 1) (.t 0)) none .any, .op 10 (.move (.t 0)) none .any] [4, 5, 6, 7, 8, 9, 0])
@[simp] def c166_n12 : SCode := (.region [.op 25 (.move (.t 3)) none .any, .op 26 (.move (.t 5)) none .any, .op 27 (.bin .mul (.t 1) (.t 0)) none .any, .op 28 (.move (.t 9)) none .any, .op 29 (.bin .shr (.t 0) (.k (.c (.int .u64 32)))) none .any, .op 30 (.bin .add (.t 2) (.t 0)) none .any, .op 11 (.move (.t 0)) none .any] [7, 8, 9, 10, 12, 0])
@[simp] def c166_n14 : SCode := (.region [.op 31 (.move (.t 5)) none .any, .op 32 (.bin .and (.t 0) (.k (.c (.int .u64 4294967295)))) none .any, .op 12 (.move (.t 0)) none .any] [3, 4, 5, 6, 7, 8, 0])
@[simp] def c166_n16 : SCode := (.region [.op 33 (.move (.t 5)) none .any, .op 34 (.bin .shr (.t 0) (.k (.c (.int .u64 32)))) none .any, .op 13 (.move (.t 0)) none .any] [3, 4, 5, 6, 7, 9, 0])
@[simp] def c166_n18 : SCode := (.region [.op 35 (.move (.t 5)) none .any, .op 36 (.move (.t 3)) none .any, .op 37 (.move (.t 6)) none .any, .op 38 (.bin .mul (.t 1) (.t 0)) none .any, .op 39 (.bin .add (.t 3) (.t 0)) none .any, .op 12 (.move (.t 0)) none .any] [6, 7, 9, 10, 0, 12])
@[simp] def c166_n20 : SCode := (.region [.op 40 (.move (.t 2)) none .any, .op 41 (.move (.t 4)) none .any, .op 42 (.bin .mul (.t 1) (.t 0)) none .any, .op 43 (.move (.t 8)) none .any, .op 44 (.bin .add (.t 1) (.t 0)) none .any, .op 45 (.move (.t 9)) none .any, .op 46 (.bin .shr (.t 0) (.k (.c (.int .u64 32)))) none .any, .op 47 (.bin .add (.t 2) (.t 0)) none .any, .op 4 (.move (.t 0)) none .any] [9, 10, 0])
def c166_n19 : SCode := .seq c166_n20 (.seq (.region [.op 48 (.move (.t 0)) none .any, .op 49 (.move (.t 2)) none .any, .op 50 (.bin .mul (.t 1) (.t 0)) none .any, .op 5 (.move (.t 0)) none .any] [6, 0]) .ret)
instance : IsSeq c166_n19 c166_n20 (.seq (.region [.op 48 (.move (.t 0)) none .any, .op 49 (.move (.t 2)) none .any, .op 50 (.bin .mul (.t 1) (.t 0)) none .any, .op 5 (.move (.t 0)) none .any] [6, 0]) .ret) := ⟨rfl⟩
def c166_n17 : SCode := .seq c166_n18 c166_n19
instance : IsSeq c166_n17 c166_n18 c166_n19 := ⟨rfl⟩
def c166_n15 : SCode := .seq c166_n16 c166_n17
instance : IsSeq c166_n15 c166_n16 c166_n17 := ⟨rfl⟩
def c166_n13 : SCode := .seq c166_n14 c166_n15
instance : IsSeq c166_n13 c166_n14 c166_n15 := ⟨rfl⟩
def c166_n11 : SCode := .seq c166_n12 c166_n13
instance : IsSeq c166_n11 c166_n12 c166_n13 := ⟨rfl⟩
def c166_n9 : SCode := .seq c166_n10 c166_n11
instance : IsSeq c166_n9 c166_n10 c166_n11 := ⟨rfl⟩
def c166_n7 : SCode := .seq c166_n8 c166_n9
instance : IsSeq c166_n7 c166_n8 c166_n9 := ⟨rfl⟩
def c166_n5 : SCode := .seq c166_n6 c166_n7
instance : IsSeq c166_n5 c166_n6 c166_n7 := ⟨rfl⟩
def c166_n3 : SCode := .seq c166_n4 c166_n5
instance : IsSeq c166_n3 c166_n4 c166_n5 := ⟨rfl⟩
def c166_n1 : SCode := .seq c166_n2 c166_n3
instance : IsSeq c166_n1 c166_n2 c166_n3 := ⟨rfl⟩
def c166 : SCode := (.seq (.region [.op 4 (.move (.k (.c (.int .u64 0)))) none .any, .op 5 (.move (.k (.c (.int .u64 0)))) none .any] [2, 3]) c166_n1)
def F166 : SFunc := .code .pure 51 2 [some 4, some 5] [.tmp 0, .tmp 1] c166

-- slices.rotateCmpFunc[string]
-- c167_l0: env [0, 2, 4, 10, 11]
@[simp] def c167_n3 : SCode := (.region [.op 21 (.move (.t 3)) none .any, .op 22 (.move (.t 5)) none .any, .op 23 (.bin .gtr (.t 1) (.t 0)) none .any] [3, 4, 5, 6, 7, 0])
@[simp] def c167_n6 : SCode := (.region [.op 24 (.move (.t 0)) none .any, .op 25 (.move (.t 2)) none .any, .op 26 (.move (.t 5)) none .any, .op 27 (.bin .sub (.t 1) (.t 0)) none .any, .op 28 (.move (.t 5)) none .any, .op 29 (.move (.t 9)) none .any, .op 30 (.move (.t 8)) none .any, .op 31 (.call false (.k (.c (.func 168 [] []))) [(.t 6), (.t 3), (.t 2), (.t 1), (.t 0)]) none .any] [8, 9, 10, 11, 12])
def c167_n5 : SCode := .seq c167_n6 (.region [.op 32 (.move (.t 3)) none .any, .op 33 (.move (.t 5)) none .any, .op 34 (.bin .sub (.t 1) (.t 0)) none .any, .op 10 (.move (.t 0)) none .any] [4, 5, 6, 0, 8])
instance : IsSeq c167_n5 c167_n6 (.region [.op 32 (.move (.t 3)) none .any, .op 33 (.move (.t 5)) none .any, .op 34 (.bin .sub (.t 1) (.t 0)) none .any, .op 10 (.move (.t 0)) none .any] [4, 5, 6, 0, 8]) := ⟨rfl⟩
@[simp] def c167_n8 : SCode := (.region [.op 35 (.move (.t 0)) none .any, .op 36 (.move (.t 2)) none .any, .op 37 (.move (.t 5)) none .any, .op 38 (.bin .sub (.t 1) (.t 0)) none .any, .op 39 (.move (.t 5)) none .any, .op 40 (.move (.t 9)) none .any, .op 41 (.bin .add (.t 1) (.t 0)) none .any, .op 42 (.move (.t 10)) none .any, .op 43 (.bin .sub (.t 1) (.t 0)) none .any, .op 44 (.move (.t 12)) none .any, .op 45 (.move (.t 12)) none .any, .op 46 (.call false (.k (.c (.func 168 [] []))) [(.t 10), (.t 7), (.t 2), (.t 1), (.t 0)]) none .any] [12, 13, 14, 15, 16])
def c167_n7 : SCode := .seq c167_n8 (.region [.op 47 (.move (.t 4)) none .any, .op 48 (.move (.t 4)) none .any, .op 49 (.bin .sub (.t 1) (.t 0)) none .any, .op 11 (.move (.t 0)) none .any] [4, 5, 6, 7, 0])
instance : IsSeq c167_n7 c167_n8 (.region [.op 47 (.move (.t 4)) none .any, .op 48 (.move (.t 4)) none .any, .op 49 (.bin .sub (.t 1) (.t 0)) none .any, .op 11 (.move (.t 0)) none .any] [4, 5, 6, 7, 0]) := ⟨rfl⟩
def c167_n4 : SCode := .cond (.t 5) c167_n5 c167_n7
instance : IsCond c167_n4 (.t 5) c167_n5 c167_n7 := ⟨rfl⟩
def c167_n2 : SCode := .seq c167_n3 c167_n4
instance : IsSeq c167_n2 c167_n3 c167_n4 := ⟨rfl⟩
def c167_n1 : SCode := .block 1 [some 0, some 2, some 4, some 10, some 11] c167_n2
instance : IsBlock c167_n1 1 [some 0, some 2, some 4, some 10, some 11] c167_n2 := ⟨rfl⟩
def c167_l0b : SCode := (.seq (.seq (.region [.op 18 (.move (.t 3)) none .any, .op 19 (.move (.t 5)) none .any, .op 20 (.bin .neq (.t 1) (.t 0)) none .any] [3, 4, 5, 6, 7, 0]) (.cond (.t 5) (.pre [0, 1, 2, 3, 4] .skip) (.pre [0, 1, 2, 3] (.exit 0)))) c167_n1)
def c167_l0 : SCode := .loop true c167_l0b
@[simp] def c167_n10 : SCode := (.region [.op 15 (.move (.t 2)) none .any, .op 16 (.move (.t 2)) none .any, .op 17 (.bin .sub (.t 1) (.t 0)) none .any, .op 11 (.move (.t 0)) none .any] [4, 5, 7, 8, 0])
@[simp] def c167_n12 : SCode := (.region [.op 50 (.move (.t 0)) none .any, .op 51 (.move (.t 2)) none .any, .op 52 (.move (.t 5)) none .any, .op 53 (.bin .sub (.t 1) (.t 0)) none .any, .op 54 (.move (.t 5)) none .any, .op 55 (.move (.t 8)) none .any, .op 56 (.move (.t 8)) none .any, .op 57 (.call false (.k (.c (.func 168 [] []))) [(.t 6), (.t 3), (.t 2), (.t 1), (.t 0)]) none .any] [])
def c167_n11 : SCode := .seq (.block 0 [some 0, some 2, some 4, some 10] c167_l0) c167_n12
instance : IsSeq c167_n11 (.block 0 [some 0, some 2, some 4, some 10] c167_l0) c167_n12 := ⟨rfl⟩
def c167_n9 : SCode := .seq c167_n10 c167_n11
instance : IsSeq c167_n9 c167_n10 c167_n11 := ⟨rfl⟩
def c167 : SCode := (.seq (.region [.op 12 (.move (.t 2)) none .any, .op 13 (.move (.t 2)) none .any, .op 14 (.bin .sub (.t 1) (.t 0)) none .any, .op 10 (.move (.t 0)) none .any] [4, 6, 7, 8, 0]) c167_n9)
def F167 : SFunc := .code .shared 58 5 [] [] c167

-- slices.swapRangeCmpFunc[string]
-- c168_l0: env [0, 1, 2, 3, 10]
@[simp] def c168_n2 : SCode := (.draw 0 [.op 16 (.move (.t 0)) none .any, .op 17 (.move (.t 2)) none .any, .op 18 (.move (.t 6)) none .any, .op 19 (.bin .add (.t 1) (.t 0)) none .any, .op 20 (.move (.t 4)) none .any, .op 21 (.move (.t 7)) none .any, .op 22 (.move (.t 10)) none .any, .op 23 (.bin .add (.t 1) (.t 0)) none .any, .op 24 (.move (.t 8)) none .any, .op 25 (.move (.t 11)) none .any, .op 26 (.move (.t 14)) none .any, .op 27 (.bin .add (.t 1) (.t 0)) none .any, .op 28 (.idxSlice 1 (.t 3) (.t 0)) none .any, .op 29 (.load none (.t 0)) none .old, .op 30 (.move (.t 14)) none .any, .op 31 (.move (.t 16)) none .any, .op 32 (.move (.t 20)) none .any, .op 33 (.bin .add (.t 1) (.t 0)) none .any, .op 34 (.idxSlice 1 (.t 3) (.t 0)) none .any, .op 35 (.load none (.t 0)) none .old, .op 36 (.idxSlice 1 (.t 19) (.t 16)) none .any, .eff (.store 1 (.t 0) (.t 7)) none .old, .op 37 (.idxSlice 1 (.t 16) (.t 13)) none .any, .eff (.store 1 (.t 0) (.t 2)) none .old] [22, 23, 24, 25, 26])
def c168_n1 : SCode := .seq (.block 1 [some 0, some 1, some 2, some 3, some 10] c168_n2) (.region [.op 14 (.move (.t 4)) none .any, .op 15 (.bin .add (.t 0) (.k (.c (.int .i64 1)))) none .any, .op 10 (.move (.t 0)) none .any] [3, 4, 5, 6, 0])
instance : IsSeq c168_n1 (.block 1 [some 0, some 1, some 2, some 3, some 10] c168_n2) (.region [.op 14 (.move (.t 4)) none .any, .op 15 (.bin .add (.t 0) (.k (.c (.int .i64 1)))) none .any, .op 10 (.move (.t 0)) none .any] [3, 4, 5, 6, 0]) := ⟨rfl⟩
def c168_l0b : SCode := (.seq (.seq (.region [.op 11 (.move (.t 4)) none .any, .op 12 (.move (.t 4)) none .any, .op 13 (.bin .lss (.t 1) (.t 0)) none .any] [3, 4, 5, 6, 7, 0]) (.cond (.t 5) (.pre [0, 1, 2, 3, 4] .skip) (.pre [] (.exit 0)))) c168_n1)
def c168_l0 : SCode := .loop true c168_l0b
def c168 : SCode := (.seq (.region [.op 10 (.move (.k (.c (.int .i64 0)))) none .any] [1, 2, 3, 4, 0]) (.block 0 [] c168_l0))
def F168 : SFunc := .code .shared 38 5 [] [] c168

end LM.G9

namespace LM.G9
open Go LM
def table0 : List (Nat × SFunc) := [(9, F9), (17, F17), (20, F20), (21, F21), (22, F22), (23, F23), (28, F28), (29, F29), (30, F30), (31, F31), (32, F32), (33, F33), (34, F34), (35, F35), (38, F38), (42, F42), (43, F43), (46, F46), (48, F48), (54, F54), (55, F55), (56, F56), (57, F57), (58, F58), (59, F59), (60, F60), (63, F63), (65, F65), (66, F66), (71, F71), (72, F72), (73, F73), (74, F74), (75, F75), (76, F76), (77, F77), (78, F78), (79, F79), (80, F80), (81, F81), (82, F82), (83, F83), (84, F84), (85, F85), (86, F86), (87, F87), (88, F88), (89, F89), (90, F90), (91, F91), (92, F92), (93, F93), (94, F94), (95, F95), (96, F96), (97, F97), (98, F98), (99, F99), (100, F100), (101, F101), (102, F102), (103, F103), (104, F104), (105, F105), (106, F106), (107, F107), (108, F108), (109, F109), (110, F110), (111, F111), (113, F113), (116, F116), (117, F117), (118, F118), (119, F119), (120, F120), (121, F121), (122, F122), (123, F123), (124, F124), (125, F125), (126, F126), (127, F127), (128, F128), (129, F129), (130, F130), (131, F131), (132, F132), (134, F134), (135, F135), (136, F136), (137, F137), (138, F138), (139, F139), (140, F140), (141, .fprim 1 (cloneP none 8)), (142, F142), (143, F143), (144, F144), (145, F145), (146, F146), (147, F147), (148, F148), (149, F149), (150, F150), (151, F151), (152, F152), (153, F153), (154, F154), (155, .fprim 1 (cloneP (some 4) 64)), (156, .fprim 1 (cloneP (some 4) 64)), (157, .fprim 1 (cloneP none 16)), (158, F158), (159, F159), (160, F160), (161, F161), (162, F162), (163, F163), (164, F164), (165, F165), (166, F166), (167, F167), (168, F168)]
/-- A program with these functions. -/
class Has (P : Nat → Option SFunc) : Prop where
  h : ∀ f F, lookupPrim f table0 = some F → P f = some F
variable {P : Nat → Option SFunc} [Has P]
theorem p9 : P 9 = some F9 := Has.h 9 F9 rfl
theorem u9 (args : List CV) : fn P 9 args = resK [.tmp 0] (execS P (limS P) c9 ⟨args.map .c, []⟩) := fn_code p9 args
@[simp] theorem call9 (pos : Option Nat) (q : Bool) (args : List LV) (h : Heap) : callS P (limS P) pos q 9 args h = bnd (frzArgs q args h) fun a => bnd (fn P 9 a.1) fun v => some (.c v, if scalarC v then h else a.2) := callS_pure p9 pos q args h
theorem r9_l0 (s : St) : execS P (limS P) c9_l0 s = seqK (execS P (limS P) c9_l0b s) fun s' => execS P (limS P) c9_l0 (gc s.heap.length s') := execS_loop true c9_l0b s
theorem r9_l1 (s : St) : execS P (limS P) c9_l1 s = seqK (execS P (limS P) c9_l1b s) fun s' => execS P (limS P) c9_l1 (gc s.heap.length s') := execS_loop true c9_l1b s
theorem r9_l2 (s : St) : execS P (limS P) c9_l2 s = seqK (execS P (limS P) c9_l2b s) fun s' => execS P (limS P) c9_l2 (gc s.heap.length s') := execS_loop true c9_l2b s
theorem r9_l3 (s : St) : execS P (limS P) c9_l3 s = seqK (execS P (limS P) c9_l3b s) fun s' => execS P (limS P) c9_l3 (gc s.heap.length s') := execS_loop true c9_l3b s
theorem p17 : P 17 = some F17 := Has.h 17 F17 rfl
theorem u17 (args : List CV) : fn P 17 args = resK [.tmp 0] (execS P (limS P) c17 ⟨args.map .c, []⟩) := fn_code p17 args
@[simp] theorem call17 (pos : Option Nat) (q : Bool) (args : List LV) (h : Heap) : callS P (limS P) pos q 17 args h = bnd (frzArgs q args h) fun a => bnd (fn P 17 a.1) fun v => some (.c v, if scalarC v then h else a.2) := callS_pure p17 pos q args h
theorem p20 : P 20 = some F20 := Has.h 20 F20 rfl
theorem u20 (args : List CV) : fn P 20 args = resK [.tmp 0] (execS P (limS P) c20 ⟨args.map .c, []⟩) := fn_code p20 args
@[simp] theorem call20 (pos : Option Nat) (q : Bool) (args : List LV) (h : Heap) : callS P (limS P) pos q 20 args h = bnd (frzArgs q args h) fun a => bnd (fn P 20 a.1) fun v => some (.c v, if scalarC v then h else a.2) := callS_pure p20 pos q args h
theorem r20_l0 (s : St) : execS P (limS P) c20_l0 s = seqK (execS P (limS P) c20_l0b s) fun s' => execS P (limS P) c20_l0 (gc s.heap.length s') := execS_loop true c20_l0b s
theorem p21 : P 21 = some F21 := Has.h 21 F21 rfl
theorem u21 (args : List CV) : fn P 21 args = resK [.tmp 0] (execS P (limS P) c21 ⟨args.map .c, []⟩) := fn_code p21 args
@[simp] theorem call21 (pos : Option Nat) (q : Bool) (args : List LV) (h : Heap) : callS P (limS P) pos q 21 args h = bnd (frzArgs q args h) fun a => bnd (fn P 21 a.1) fun v => some (.c v, if scalarC v then h else a.2) := callS_pure p21 pos q args h
theorem p22 : P 22 = some F22 := Has.h 22 F22 rfl
theorem u22 (args : List CV) : fn P 22 args = resK [.tmp 0] (execS P (limS P) c22 ⟨args.map .c, []⟩) := fn_code p22 args
@[simp] theorem call22 (pos : Option Nat) (q : Bool) (args : List LV) (h : Heap) : callS P (limS P) pos q 22 args h = bnd (frzArgs q args h) fun a => bnd (fn P 22 a.1) fun v => some (.c v, if scalarC v then h else a.2) := callS_pure p22 pos q args h
theorem r22_l0 (s : St) : execS P (limS P) c22_l0 s = seqK (execS P (limS P) c22_l0b s) fun s' => execS P (limS P) c22_l0 (gc s.heap.length s') := execS_loop true c22_l0b s
theorem p23 : P 23 = some F23 := Has.h 23 F23 rfl
theorem u23 (args : List CV) : fn P 23 args = resK [.tmp 0] (execS P (limS P) c23 ⟨args.map .c, []⟩) := fn_code p23 args
@[simp] theorem call23 (pos : Option Nat) (q : Bool) (args : List LV) (h : Heap) : callS P (limS P) pos q 23 args h = bnd (frzArgs q args h) fun a => bnd (fn P 23 a.1) fun v => some (.c v, if scalarC v then h else a.2) := callS_pure p23 pos q args h
theorem p28 : P 28 = some F28 := Has.h 28 F28 rfl
theorem u28 (args : List CV) : fn P 28 args = resK [.tmp 0] (execS P (limS P) c28 ⟨args.map .c, []⟩) := fn_code p28 args
@[simp] theorem call28 (pos : Option Nat) (q : Bool) (args : List LV) (h : Heap) : callS P (limS P) pos q 28 args h = bnd (frzArgs q args h) fun a => bnd (fn P 28 a.1) fun v => some (.c v, if scalarC v then h else a.2) := callS_pure p28 pos q args h
theorem r28_l0 (s : St) : execS P (limS P) c28_l0 s = seqK (execS P (limS P) c28_l0b s) fun s' => execS P (limS P) c28_l0 (gc s.heap.length s') := execS_loop true c28_l0b s
theorem p29 : P 29 = some F29 := Has.h 29 F29 rfl
theorem u29 (args : List CV) : fn P 29 args = resK [.tmp 0] (execS P (limS P) c29 ⟨args.map .c, []⟩) := fn_code p29 args
@[simp] theorem call29 (pos : Option Nat) (q : Bool) (args : List LV) (h : Heap) : callS P (limS P) pos q 29 args h = bnd (frzArgs q args h) fun a => bnd (fn P 29 a.1) fun v => some (.c v, if scalarC v then h else a.2) := callS_pure p29 pos q args h
theorem r29_l0 (s : St) : execS P (limS P) c29_l0 s = seqK (execS P (limS P) c29_l0b s) fun s' => execS P (limS P) c29_l0 (gc s.heap.length s') := execS_loop true c29_l0b s
theorem p30 : P 30 = some F30 := Has.h 30 F30 rfl
theorem u30 (args : List CV) : fn P 30 args = resK [.tmp 0] (execS P (limS P) c30 ⟨args.map .c, []⟩) := fn_code p30 args
@[simp] theorem call30 (pos : Option Nat) (q : Bool) (args : List LV) (h : Heap) : callS P (limS P) pos q 30 args h = bnd (frzArgs q args h) fun a => bnd (fn P 30 a.1) fun v => some (.c v, if scalarC v then h else a.2) := callS_pure p30 pos q args h
theorem p31 : P 31 = some F31 := Has.h 31 F31 rfl
theorem u31 (args : List CV) : fn P 31 args = resK [.tmp 0] (execS P (limS P) c31 ⟨args.map .c, []⟩) := fn_code p31 args
@[simp] theorem call31 (pos : Option Nat) (q : Bool) (args : List LV) (h : Heap) : callS P (limS P) pos q 31 args h = bnd (frzArgs q args h) fun a => bnd (fn P 31 a.1) fun v => some (.c v, if scalarC v then h else a.2) := callS_pure p31 pos q args h
theorem r31_l0 (s : St) : execS P (limS P) c31_l0 s = seqK (execS P (limS P) c31_l0b s) fun s' => execS P (limS P) c31_l0 (gc s.heap.length s') := execS_loop true c31_l0b s
theorem p32 : P 32 = some F32 := Has.h 32 F32 rfl
theorem u32 (args : List CV) : fn P 32 args = resK [.tmp 0] (execS P (limS P) c32 ⟨args.map .c, []⟩) := fn_code p32 args
@[simp] theorem call32 (pos : Option Nat) (q : Bool) (args : List LV) (h : Heap) : callS P (limS P) pos q 32 args h = bnd (frzArgs q args h) fun a => bnd (fn P 32 a.1) fun v => some (.c v, if scalarC v then h else a.2) := callS_pure p32 pos q args h
theorem p33 : P 33 = some F33 := Has.h 33 F33 rfl
theorem u33 (args : List CV) : fn P 33 args = resK [.tmp 0, .tmp 1] (execS P (limS P) c33 ⟨args.map .c, []⟩) := fn_code p33 args
@[simp] theorem call33 (pos : Option Nat) (q : Bool) (args : List LV) (h : Heap) : callS P (limS P) pos q 33 args h = bnd (frzArgs q args h) fun a => bnd (fn P 33 a.1) fun v => some (.c v, if scalarC v then h else a.2) := callS_pure p33 pos q args h
theorem r33_l0 (s : St) : execS P (limS P) c33_l0 s = seqK (execS P (limS P) c33_l0b s) fun s' => execS P (limS P) c33_l0 (gc s.heap.length s') := execS_loop true c33_l0b s
theorem p34 : P 34 = some F34 := Has.h 34 F34 rfl
theorem u34 (args : List CV) : fn P 34 args = resK [.tmp 0, .tmp 1] (execS P (limS P) c34 ⟨args.map .c, []⟩) := fn_code p34 args
@[simp] theorem call34 (pos : Option Nat) (q : Bool) (args : List LV) (h : Heap) : callS P (limS P) pos q 34 args h = bnd (frzArgs q args h) fun a => bnd (fn P 34 a.1) fun v => some (.c v, if scalarC v then h else a.2) := callS_pure p34 pos q args h
theorem r34_l0 (s : St) : execS P (limS P) c34_l0 s = seqK (execS P (limS P) c34_l0b s) fun s' => execS P (limS P) c34_l0 (gc s.heap.length s') := execS_loop true c34_l0b s
theorem p35 : P 35 = some F35 := Has.h 35 F35 rfl
theorem u35 (args : List CV) : fn P 35 args = resK [.tmp 0] (execS P (limS P) c35 ⟨args.map .c, []⟩) := fn_code p35 args
@[simp] theorem call35 (pos : Option Nat) (q : Bool) (args : List LV) (h : Heap) : callS P (limS P) pos q 35 args h = bnd (frzArgs q args h) fun a => bnd (fn P 35 a.1) fun v => some (.c v, if scalarC v then h else a.2) := callS_pure p35 pos q args h
theorem p38 : P 38 = some F38 := Has.h 38 F38 rfl
theorem u38 (args : List CV) : fn P 38 args = resK [.tmp 0] (execS P (limS P) c38 ⟨args.map .c, []⟩) := fn_code p38 args
@[simp] theorem call38 (pos : Option Nat) (q : Bool) (args : List LV) (h : Heap) : callS P (limS P) pos q 38 args h = bnd (frzArgs q args h) fun a => bnd (fn P 38 a.1) fun v => some (.c v, if scalarC v then h else a.2) := callS_pure p38 pos q args h
theorem r38_l0 (s : St) : execS P (limS P) c38_l0 s = seqK (execS P (limS P) c38_l0b s) fun s' => execS P (limS P) c38_l0 (gc s.heap.length s') := execS_loop true c38_l0b s
theorem p42 : P 42 = some F42 := Has.h 42 F42 rfl
theorem u42 (args : List CV) : fn P 42 args = resK [.tmp 0] (execS P (limS P) c42 ⟨args.map .c, []⟩) := fn_code p42 args
@[simp] theorem call42 (pos : Option Nat) (q : Bool) (args : List LV) (h : Heap) : callS P (limS P) pos q 42 args h = bnd (frzArgs q args h) fun a => bnd (fn P 42 a.1) fun v => some (.c v, if scalarC v then h else a.2) := callS_pure p42 pos q args h
theorem p43 : P 43 = some F43 := Has.h 43 F43 rfl
theorem u43 (args : List CV) : fn P 43 args = resK [.tmp 0, .tmp 1] (execS P (limS P) c43 ⟨args.map .c, []⟩) := fn_code p43 args
@[simp] theorem call43 (pos : Option Nat) (q : Bool) (args : List LV) (h : Heap) : callS P (limS P) pos q 43 args h = bnd (frzArgs q args h) fun a => bnd (fn P 43 a.1) fun v => some (.c v, if scalarC v then h else a.2) := callS_pure p43 pos q args h
theorem p46 : P 46 = some F46 := Has.h 46 F46 rfl
theorem u46 (args : List CV) : fn P 46 args = resK [.tmp 0] (execS P (limS P) c46 ⟨args.map .c, []⟩) := fn_code p46 args
@[simp] theorem call46 (pos : Option Nat) (q : Bool) (args : List LV) (h : Heap) : callS P (limS P) pos q 46 args h = bnd (frzArgs q args h) fun a => bnd (fn P 46 a.1) fun v => some (.c v, if scalarC v then h else a.2) := callS_pure p46 pos q args h
theorem r46_l0 (s : St) : execS P (limS P) c46_l0 s = seqK (execS P (limS P) c46_l0b s) fun s' => execS P (limS P) c46_l0 (gc s.heap.length s') := execS_loop true c46_l0b s
theorem r46_l1 (s : St) : execS P (limS P) c46_l1 s = seqK (execS P (limS P) c46_l1b s) fun s' => execS P (limS P) c46_l1 (gc s.heap.length s') := execS_loop true c46_l1b s
theorem r46_l2 (s : St) : execS P (limS P) c46_l2 s = seqK (execS P (limS P) c46_l2b s) fun s' => execS P (limS P) c46_l2 (gc s.heap.length s') := execS_loop true c46_l2b s
theorem p48 : P 48 = some F48 := Has.h 48 F48 rfl
theorem u48 (args : List CV) : fn P 48 args = resK [.tmp 0, .tmp 1] (execS P (limS P) c48 ⟨args.map .c, []⟩) := fn_code p48 args
@[simp] theorem call48 (pos : Option Nat) (q : Bool) (args : List LV) (h : Heap) : callS P (limS P) pos q 48 args h = bnd (frzArgs q args h) fun a => bnd (fn P 48 a.1) fun v => some (.c v, if scalarC v then h else a.2) := callS_pure p48 pos q args h
theorem r48_l0 (s : St) : execS P (limS P) c48_l0 s = seqK (execS P (limS P) c48_l0b s) fun s' => execS P (limS P) c48_l0 (gc s.heap.length s') := execS_loop true c48_l0b s
theorem p54 : P 54 = some F54 := Has.h 54 F54 rfl
theorem u54 (args : List CV) : fn P 54 args = resK [.tmp 0] (execS P (limS P) c54 ⟨args.map .c, []⟩) := fn_code p54 args
@[simp] theorem call54 (pos : Option Nat) (q : Bool) (args : List LV) (h : Heap) : callS P (limS P) pos q 54 args h = bnd (frzArgs q args h) fun a => bnd (fn P 54 a.1) fun v => some (.c v, if scalarC v then h else a.2) := callS_pure p54 pos q args h
theorem p55 : P 55 = some F55 := Has.h 55 F55 rfl
theorem u55 (args : List CV) : fn P 55 args = resK [.tmp 0, .tmp 1] (execS P (limS P) c55 ⟨args.map .c, []⟩) := fn_code p55 args
@[simp] theorem call55 (pos : Option Nat) (q : Bool) (args : List LV) (h : Heap) : callS P (limS P) pos q 55 args h = bnd (frzArgs q args h) fun a => bnd (fn P 55 a.1) fun v => some (.c v, if scalarC v then h else a.2) := callS_pure p55 pos q args h
theorem r55_l0 (s : St) : execS P (limS P) c55_l0 s = seqK (execS P (limS P) c55_l0b s) fun s' => execS P (limS P) c55_l0 (gc s.heap.length s') := execS_loop true c55_l0b s
theorem r55_l1 (s : St) : execS P (limS P) c55_l1 s = seqK (execS P (limS P) c55_l1b s) fun s' => execS P (limS P) c55_l1 (gc s.heap.length s') := execS_loop true c55_l1b s
theorem r55_l2 (s : St) : execS P (limS P) c55_l2 s = seqK (execS P (limS P) c55_l2b s) fun s' => execS P (limS P) c55_l2 (gc s.heap.length s') := execS_loop true c55_l2b s
theorem p56 : P 56 = some F56 := Has.h 56 F56 rfl
theorem u56 (args : List CV) : fn P 56 args = resK [.tmp 0, .tmp 1] (execS P (limS P) c56 ⟨args.map .c, []⟩) := fn_code p56 args
@[simp] theorem call56 (pos : Option Nat) (q : Bool) (args : List LV) (h : Heap) : callS P (limS P) pos q 56 args h = bnd (frzArgs q args h) fun a => bnd (fn P 56 a.1) fun v => some (.c v, if scalarC v then h else a.2) := callS_pure p56 pos q args h
theorem p57 : P 57 = some F57 := Has.h 57 F57 rfl
theorem u57 (args : List CV) : fn P 57 args = resK [.tmp 0, .tmp 1] (execS P (limS P) c57 ⟨args.map .c, []⟩) := fn_code p57 args
@[simp] theorem call57 (pos : Option Nat) (q : Bool) (args : List LV) (h : Heap) : callS P (limS P) pos q 57 args h = bnd (frzArgs q args h) fun a => bnd (fn P 57 a.1) fun v => some (.c v, if scalarC v then h else a.2) := callS_pure p57 pos q args h
theorem r57_l0 (s : St) : execS P (limS P) c57_l0 s = seqK (execS P (limS P) c57_l0b s) fun s' => execS P (limS P) c57_l0 (gc s.heap.length s') := execS_loop true c57_l0b s
theorem p58 : P 58 = some F58 := Has.h 58 F58 rfl
theorem u58 (args : List CV) : fn P 58 args = resK [.tmp 0] (execS P (limS P) c58 ⟨args.map .c, []⟩) := fn_code p58 args
@[simp] theorem call58 (pos : Option Nat) (q : Bool) (args : List LV) (h : Heap) : callS P (limS P) pos q 58 args h = bnd (frzArgs q args h) fun a => bnd (fn P 58 a.1) fun v => some (.c v, if scalarC v then h else a.2) := callS_pure p58 pos q args h
theorem r58_l0 (s : St) : execS P (limS P) c58_l0 s = seqK (execS P (limS P) c58_l0b s) fun s' => execS P (limS P) c58_l0 (gc s.heap.length s') := execS_loop true c58_l0b s
theorem p59 : P 59 = some F59 := Has.h 59 F59 rfl
theorem u59 (args : List CV) : fn P 59 args = resK [.tmp 0, .tmp 1] (execS P (limS P) c59 ⟨args.map .c, []⟩) := fn_code p59 args
@[simp] theorem call59 (pos : Option Nat) (q : Bool) (args : List LV) (h : Heap) : callS P (limS P) pos q 59 args h = bnd (frzArgs q args h) fun a => bnd (fn P 59 a.1) fun v => some (.c v, if scalarC v then h else a.2) := callS_pure p59 pos q args h
theorem p60 : P 60 = some F60 := Has.h 60 F60 rfl
theorem u60 (args : List CV) : fn P 60 args = resK [.tmp 0, .tmp 1] (execS P (limS P) c60 ⟨args.map .c, []⟩) := fn_code p60 args
@[simp] theorem call60 (pos : Option Nat) (q : Bool) (args : List LV) (h : Heap) : callS P (limS P) pos q 60 args h = bnd (frzArgs q args h) fun a => bnd (fn P 60 a.1) fun v => some (.c v, if scalarC v then h else a.2) := callS_pure p60 pos q args h
theorem r60_l0 (s : St) : execS P (limS P) c60_l0 s = seqK (execS P (limS P) c60_l0b s) fun s' => execS P (limS P) c60_l0 (gc s.heap.length s') := execS_loop true c60_l0b s
theorem p63 : P 63 = some F63 := Has.h 63 F63 rfl
theorem u63 (args : List CV) : fn P 63 args = resK [.tmp 0] (execS P (limS P) c63 ⟨args.map .c, []⟩) := fn_code p63 args
@[simp] theorem call63 (pos : Option Nat) (q : Bool) (args : List LV) (h : Heap) : callS P (limS P) pos q 63 args h = bnd (frzArgs q args h) fun a => bnd (fn P 63 a.1) fun v => some (.c v, if scalarC v then h else a.2) := callS_pure p63 pos q args h
theorem p65 : P 65 = some F65 := Has.h 65 F65 rfl
theorem u65 (args : List CV) : fn P 65 args = resK [.tmp 0] (execS P (limS P) c65 ⟨args.map .c, []⟩) := fn_code p65 args
@[simp] theorem call65 (pos : Option Nat) (q : Bool) (args : List LV) (h : Heap) : callS P (limS P) pos q 65 args h = bnd (frzArgs q args h) fun a => bnd (fn P 65 a.1) fun v => some (.c v, if scalarC v then h else a.2) := callS_pure p65 pos q args h
theorem p66 : P 66 = some F66 := Has.h 66 F66 rfl
theorem u66 (args : List CV) : fn P 66 args = resK [.tmp 0] (execS P (limS P) c66 ⟨args.map .c, []⟩) := fn_code p66 args
@[simp] theorem call66 (pos : Option Nat) (q : Bool) (args : List LV) (h : Heap) : callS P (limS P) pos q 66 args h = bnd (frzArgs q args h) fun a => bnd (fn P 66 a.1) fun v => some (.c v, if scalarC v then h else a.2) := callS_pure p66 pos q args h
theorem r66_l0 (s : St) : execS P (limS P) c66_l0 s = seqK (execS P (limS P) c66_l0b s) fun s' => execS P (limS P) c66_l0 (gc s.heap.length s') := execS_loop true c66_l0b s
theorem p71 : P 71 = some F71 := Has.h 71 F71 rfl
theorem u71 (args : List CV) : fn P 71 args = resK [.tmp 0] (execS P (limS P) c71 ⟨args.map .c, []⟩) := fn_code p71 args
@[simp] theorem call71 (pos : Option Nat) (q : Bool) (args : List LV) (h : Heap) : callS P (limS P) pos q 71 args h = bnd (frzArgs q args h) fun a => bnd (fn P 71 a.1) fun v => some (.c v, if scalarC v then h else a.2) := callS_pure p71 pos q args h
theorem r71_l0 (s : St) : execS P (limS P) c71_l0 s = seqK (execS P (limS P) c71_l0b s) fun s' => execS P (limS P) c71_l0 (gc s.heap.length s') := execS_loop true c71_l0b s
theorem p72 : P 72 = some F72 := Has.h 72 F72 rfl
theorem u72 (args : List CV) : ffn P 72 args = resF [.cell 0 (some 2)] (execS P (limS P) c72 ⟨args.map .c, []⟩) := ffn_code p72 args
@[simp] theorem call72 (pos : Option Nat) (q : Bool) (args : List LV) (h : Heap) : callS P (limS P) pos q 72 args h = if q && pos.isNone then none else bnd (frzArgs q args h) fun a => bnd (ffn P 72 a.1) fun v => importB pos 30 v.1 v.2 a.2 := callS_fresh p72 pos q args h
theorem p73 : P 73 = some F73 := Has.h 73 F73 rfl
theorem u73 (args : List CV) : fn P 73 args = resK [.tmp 0, .tmp 1] (execS P (limS P) c73 ⟨args.map .c, []⟩) := fn_code p73 args
@[simp] theorem call73 (pos : Option Nat) (q : Bool) (args : List LV) (h : Heap) : callS P (limS P) pos q 73 args h = bnd (frzArgs q args h) fun a => bnd (fn P 73 a.1) fun v => some (.c v, if scalarC v then h else a.2) := callS_pure p73 pos q args h
theorem r73_l0 (s : St) : execS P (limS P) c73_l0 s = seqK (execS P (limS P) c73_l0b s) fun s' => execS P (limS P) c73_l0 (gc s.heap.length s') := execS_loop true c73_l0b s
theorem p74 : P 74 = some F74 := Has.h 74 F74 rfl
theorem u74 (args : List CV) : fn P 74 args = resK [.tmp 0, .tmp 1] (execS P (limS P) c74 ⟨args.map .c, []⟩) := fn_code p74 args
@[simp] theorem call74 (pos : Option Nat) (q : Bool) (args : List LV) (h : Heap) : callS P (limS P) pos q 74 args h = bnd (frzArgs q args h) fun a => bnd (fn P 74 a.1) fun v => some (.c v, if scalarC v then h else a.2) := callS_pure p74 pos q args h
theorem p75 : P 75 = some F75 := Has.h 75 F75 rfl
theorem u75 (args : List CV) : fn P 75 args = resK [.tmp 0, .tmp 1] (execS P (limS P) c75 ⟨args.map .c, []⟩) := fn_code p75 args
@[simp] theorem call75 (pos : Option Nat) (q : Bool) (args : List LV) (h : Heap) : callS P (limS P) pos q 75 args h = bnd (frzArgs q args h) fun a => bnd (fn P 75 a.1) fun v => some (.c v, if scalarC v then h else a.2) := callS_pure p75 pos q args h
theorem p76 : P 76 = some F76 := Has.h 76 F76 rfl
theorem u76 (args : List CV) : fn P 76 args = resK [.tmp 0] (execS P (limS P) c76 ⟨args.map .c, []⟩) := fn_code p76 args
@[simp] theorem call76 (pos : Option Nat) (q : Bool) (args : List LV) (h : Heap) : callS P (limS P) pos q 76 args h = bnd (frzArgs q args h) fun a => bnd (fn P 76 a.1) fun v => some (.c v, if scalarC v then h else a.2) := callS_pure p76 pos q args h
theorem r76_l0 (s : St) : execS P (limS P) c76_l0 s = seqK (execS P (limS P) c76_l0b s) fun s' => execS P (limS P) c76_l0 (gc s.heap.length s') := execS_loop true c76_l0b s
theorem p77 : P 77 = some F77 := Has.h 77 F77 rfl
theorem u77 (args : List CV) : fn P 77 args = resK [.tmp 0] (execS P (limS P) c77 ⟨args.map .c, []⟩) := fn_code p77 args
@[simp] theorem call77 (pos : Option Nat) (q : Bool) (args : List LV) (h : Heap) : callS P (limS P) pos q 77 args h = bnd (frzArgs q args h) fun a => bnd (fn P 77 a.1) fun v => some (.c v, if scalarC v then h else a.2) := callS_pure p77 pos q args h
theorem r77_l0 (s : St) : execS P (limS P) c77_l0 s = seqK (execS P (limS P) c77_l0b s) fun s' => execS P (limS P) c77_l0 (gc s.heap.length s') := execS_loop true c77_l0b s
theorem p78 : P 78 = some F78 := Has.h 78 F78 rfl
theorem u78 (args : List CV) : fn P 78 args = resK [.tmp 0] (execS P (limS P) c78 ⟨args.map .c, []⟩) := fn_code p78 args
@[simp] theorem call78 (pos : Option Nat) (q : Bool) (args : List LV) (h : Heap) : callS P (limS P) pos q 78 args h = bnd (frzArgs q args h) fun a => bnd (fn P 78 a.1) fun v => some (.c v, if scalarC v then h else a.2) := callS_pure p78 pos q args h
theorem p79 : P 79 = some F79 := Has.h 79 F79 rfl
theorem u79 (args : List CV) : fn P 79 args = resK [.tmp 0] (execS P (limS P) c79 ⟨args.map .c, []⟩) := fn_code p79 args
@[simp] theorem call79 (pos : Option Nat) (q : Bool) (args : List LV) (h : Heap) : callS P (limS P) pos q 79 args h = bnd (frzArgs q args h) fun a => bnd (fn P 79 a.1) fun v => some (.c v, if scalarC v then h else a.2) := callS_pure p79 pos q args h
theorem r79_l0 (s : St) : execS P (limS P) c79_l0 s = seqK (execS P (limS P) c79_l0b s) fun s' => execS P (limS P) c79_l0 (gc s.heap.length s') := execS_loop true c79_l0b s
theorem p80 : P 80 = some F80 := Has.h 80 F80 rfl
theorem u80 (args : List CV) : fn P 80 args = resK [.tmp 0] (execS P (limS P) c80 ⟨args.map .c, []⟩) := fn_code p80 args
@[simp] theorem call80 (pos : Option Nat) (q : Bool) (args : List LV) (h : Heap) : callS P (limS P) pos q 80 args h = bnd (frzArgs q args h) fun a => bnd (fn P 80 a.1) fun v => some (.c v, if scalarC v then h else a.2) := callS_pure p80 pos q args h
theorem p81 : P 81 = some F81 := Has.h 81 F81 rfl
theorem u81 (args : List CV) : fn P 81 args = resK [.tmp 0] (execS P (limS P) c81 ⟨args.map .c, []⟩) := fn_code p81 args
@[simp] theorem call81 (pos : Option Nat) (q : Bool) (args : List LV) (h : Heap) : callS P (limS P) pos q 81 args h = bnd (frzArgs q args h) fun a => bnd (fn P 81 a.1) fun v => some (.c v, if scalarC v then h else a.2) := callS_pure p81 pos q args h
theorem p82 : P 82 = some F82 := Has.h 82 F82 rfl
theorem u82 (args : List CV) : fn P 82 args = resK [.tmp 0] (execS P (limS P) c82 ⟨args.map .c, []⟩) := fn_code p82 args
@[simp] theorem call82 (pos : Option Nat) (q : Bool) (args : List LV) (h : Heap) : callS P (limS P) pos q 82 args h = bnd (frzArgs q args h) fun a => bnd (fn P 82 a.1) fun v => some (.c v, if scalarC v then h else a.2) := callS_pure p82 pos q args h
theorem p83 : P 83 = some F83 := Has.h 83 F83 rfl
theorem u83 (args : List CV) : fn P 83 args = resK [.tmp 0] (execS P (limS P) c83 ⟨args.map .c, []⟩) := fn_code p83 args
@[simp] theorem call83 (pos : Option Nat) (q : Bool) (args : List LV) (h : Heap) : callS P (limS P) pos q 83 args h = bnd (frzArgs q args h) fun a => bnd (fn P 83 a.1) fun v => some (.c v, if scalarC v then h else a.2) := callS_pure p83 pos q args h
theorem p84 : P 84 = some F84 := Has.h 84 F84 rfl
theorem u84 (args : List CV) : fn P 84 args = resK [.tmp 0] (execS P (limS P) c84 ⟨args.map .c, []⟩) := fn_code p84 args
@[simp] theorem call84 (pos : Option Nat) (q : Bool) (args : List LV) (h : Heap) : callS P (limS P) pos q 84 args h = bnd (frzArgs q args h) fun a => bnd (fn P 84 a.1) fun v => some (.c v, if scalarC v then h else a.2) := callS_pure p84 pos q args h
theorem r84_l0 (s : St) : execS P (limS P) c84_l0 s = seqK (execS P (limS P) c84_l0b s) fun s' => execS P (limS P) c84_l0 (gc s.heap.length s') := execS_loop true c84_l0b s
theorem p85 : P 85 = some F85 := Has.h 85 F85 rfl
theorem u85 (args : List CV) : fn P 85 args = resK [.tmp 0] (execS P (limS P) c85 ⟨args.map .c, []⟩) := fn_code p85 args
@[simp] theorem call85 (pos : Option Nat) (q : Bool) (args : List LV) (h : Heap) : callS P (limS P) pos q 85 args h = bnd (frzArgs q args h) fun a => bnd (fn P 85 a.1) fun v => some (.c v, if scalarC v then h else a.2) := callS_pure p85 pos q args h
theorem r85_l0 (s : St) : execS P (limS P) c85_l0 s = seqK (execS P (limS P) c85_l0b s) fun s' => execS P (limS P) c85_l0 (gc s.heap.length s') := execS_loop true c85_l0b s
theorem p86 : P 86 = some F86 := Has.h 86 F86 rfl
theorem u86 (args : List CV) : fn P 86 args = resK [.tmp 0] (execS P (limS P) c86 ⟨args.map .c, []⟩) := fn_code p86 args
@[simp] theorem call86 (pos : Option Nat) (q : Bool) (args : List LV) (h : Heap) : callS P (limS P) pos q 86 args h = bnd (frzArgs q args h) fun a => bnd (fn P 86 a.1) fun v => some (.c v, if scalarC v then h else a.2) := callS_pure p86 pos q args h
theorem p87 : P 87 = some F87 := Has.h 87 F87 rfl
theorem u87 (args : List CV) : fn P 87 args = resK [.tmp 0] (execS P (limS P) c87 ⟨args.map .c, []⟩) := fn_code p87 args
@[simp] theorem call87 (pos : Option Nat) (q : Bool) (args : List LV) (h : Heap) : callS P (limS P) pos q 87 args h = bnd (frzArgs q args h) fun a => bnd (fn P 87 a.1) fun v => some (.c v, if scalarC v then h else a.2) := callS_pure p87 pos q args h
theorem r87_l0 (s : St) : execS P (limS P) c87_l0 s = seqK (execS P (limS P) c87_l0b s) fun s' => execS P (limS P) c87_l0 (gc s.heap.length s') := execS_loop true c87_l0b s
theorem p88 : P 88 = some F88 := Has.h 88 F88 rfl
theorem u88 (args : List CV) : fn P 88 args = resK [.tmp 0] (execS P (limS P) c88 ⟨args.map .c, []⟩) := fn_code p88 args
@[simp] theorem call88 (pos : Option Nat) (q : Bool) (args : List LV) (h : Heap) : callS P (limS P) pos q 88 args h = bnd (frzArgs q args h) fun a => bnd (fn P 88 a.1) fun v => some (.c v, if scalarC v then h else a.2) := callS_pure p88 pos q args h
theorem p89 : P 89 = some F89 := Has.h 89 F89 rfl
theorem u89 (args : List CV) : fn P 89 args = resK [.tmp 0] (execS P (limS P) c89 ⟨args.map .c, []⟩) := fn_code p89 args
@[simp] theorem call89 (pos : Option Nat) (q : Bool) (args : List LV) (h : Heap) : callS P (limS P) pos q 89 args h = bnd (frzArgs q args h) fun a => bnd (fn P 89 a.1) fun v => some (.c v, if scalarC v then h else a.2) := callS_pure p89 pos q args h
theorem p90 : P 90 = some F90 := Has.h 90 F90 rfl
theorem u90 (args : List CV) : ffn P 90 args = resF [.tmp 0, .tmp 1] (execS P (limS P) c90 ⟨args.map .c, []⟩) := ffn_code p90 args
@[simp] theorem call90 (pos : Option Nat) (q : Bool) (args : List LV) (h : Heap) : callS P (limS P) pos q 90 args h = if q && pos.isNone then none else bnd (frzArgs q args h) fun a => bnd (ffn P 90 a.1) fun v => importB pos 2 v.1 v.2 a.2 := callS_fresh p90 pos q args h
theorem r90_l0 (s : St) : execS P (limS P) c90_l0 s = seqK (execS P (limS P) c90_l0b s) fun s' => execS P (limS P) c90_l0 (gc s.heap.length s') := execS_loop true c90_l0b s
theorem r90_l1 (s : St) : execS P (limS P) c90_l1 s = seqK (execS P (limS P) c90_l1b s) fun s' => execS P (limS P) c90_l1 (gc s.heap.length s') := execS_loop true c90_l1b s
theorem p91 : P 91 = some F91 := Has.h 91 F91 rfl
theorem u91 (args : List CV) : fn P 91 args = resK [.tmp 0] (execS P (limS P) c91 ⟨args.map .c, []⟩) := fn_code p91 args
@[simp] theorem call91 (pos : Option Nat) (q : Bool) (args : List LV) (h : Heap) : callS P (limS P) pos q 91 args h = bnd (frzArgs q args h) fun a => bnd (fn P 91 a.1) fun v => some (.c v, if scalarC v then h else a.2) := callS_pure p91 pos q args h
theorem r91_l0 (s : St) : execS P (limS P) c91_l0 s = seqK (execS P (limS P) c91_l0b s) fun s' => execS P (limS P) c91_l0 (gc s.heap.length s') := execS_loop true c91_l0b s
theorem p92 : P 92 = some F92 := Has.h 92 F92 rfl
theorem u92 (args : List CV) : fn P 92 args = resK [.tmp 0] (execS P (limS P) c92 ⟨args.map .c, []⟩) := fn_code p92 args
@[simp] theorem call92 (pos : Option Nat) (q : Bool) (args : List LV) (h : Heap) : callS P (limS P) pos q 92 args h = bnd (frzArgs q args h) fun a => bnd (fn P 92 a.1) fun v => some (.c v, if scalarC v then h else a.2) := callS_pure p92 pos q args h
theorem p93 : P 93 = some F93 := Has.h 93 F93 rfl
theorem u93 (args : List LV) (h : Heap) : sfn P 93 args h = resF [] (execS P (limS P) c93 ⟨args, h⟩) := sfn_code p93 args h
@[simp] theorem call93 (pos : Option Nat) (q : Bool) (args : List LV) (h : Heap) : callS P (limS P) pos q 93 args h = if q then none else bnd (frzFuncs args h) fun a => sfn P 93 a.1 a.2 := callS_shared p93 pos q args h
theorem p94 : P 94 = some F94 := Has.h 94 F94 rfl
theorem u94 (args : List CV) : fn P 94 args = resK [.tmp 0] (execS P (limS P) c94 ⟨args.map .c, []⟩) := fn_code p94 args
@[simp] theorem call94 (pos : Option Nat) (q : Bool) (args : List LV) (h : Heap) : callS P (limS P) pos q 94 args h = bnd (frzArgs q args h) fun a => bnd (fn P 94 a.1) fun v => some (.c v, if scalarC v then h else a.2) := callS_pure p94 pos q args h
theorem p95 : P 95 = some F95 := Has.h 95 F95 rfl
theorem u95 (args : List CV) : fn P 95 args = resK [.tmp 0] (execS P (limS P) c95 ⟨args.map .c, []⟩) := fn_code p95 args
@[simp] theorem call95 (pos : Option Nat) (q : Bool) (args : List LV) (h : Heap) : callS P (limS P) pos q 95 args h = bnd (frzArgs q args h) fun a => bnd (fn P 95 a.1) fun v => some (.c v, if scalarC v then h else a.2) := callS_pure p95 pos q args h
theorem p96 : P 96 = some F96 := Has.h 96 F96 rfl
theorem u96 (args : List CV) : fn P 96 args = resK [.tmp 0] (execS P (limS P) c96 ⟨args.map .c, []⟩) := fn_code p96 args
@[simp] theorem call96 (pos : Option Nat) (q : Bool) (args : List LV) (h : Heap) : callS P (limS P) pos q 96 args h = bnd (frzArgs q args h) fun a => bnd (fn P 96 a.1) fun v => some (.c v, if scalarC v then h else a.2) := callS_pure p96 pos q args h
theorem p97 : P 97 = some F97 := Has.h 97 F97 rfl
theorem u97 (args : List CV) : fn P 97 args = resK [.tmp 0] (execS P (limS P) c97 ⟨args.map .c, []⟩) := fn_code p97 args
@[simp] theorem call97 (pos : Option Nat) (q : Bool) (args : List LV) (h : Heap) : callS P (limS P) pos q 97 args h = bnd (frzArgs q args h) fun a => bnd (fn P 97 a.1) fun v => some (.c v, if scalarC v then h else a.2) := callS_pure p97 pos q args h
theorem r97_l0 (s : St) : execS P (limS P) c97_l0 s = seqK (execS P (limS P) c97_l0b s) fun s' => execS P (limS P) c97_l0 (gc s.heap.length s') := execS_loop true c97_l0b s
theorem r97_l1 (s : St) : execS P (limS P) c97_l1 s = seqK (execS P (limS P) c97_l1b s) fun s' => execS P (limS P) c97_l1 (gc s.heap.length s') := execS_loop true c97_l1b s
theorem p98 : P 98 = some F98 := Has.h 98 F98 rfl
theorem u98 (args : List CV) : fn P 98 args = resK [.tmp 0] (execS P (limS P) c98 ⟨args.map .c, []⟩) := fn_code p98 args
@[simp] theorem call98 (pos : Option Nat) (q : Bool) (args : List LV) (h : Heap) : callS P (limS P) pos q 98 args h = bnd (frzArgs q args h) fun a => bnd (fn P 98 a.1) fun v => some (.c v, if scalarC v then h else a.2) := callS_pure p98 pos q args h
theorem r98_l0 (s : St) : execS P (limS P) c98_l0 s = seqK (execS P (limS P) c98_l0b s) fun s' => execS P (limS P) c98_l0 (gc s.heap.length s') := execS_loop true c98_l0b s
theorem p99 : P 99 = some F99 := Has.h 99 F99 rfl
theorem u99 (args : List CV) : fn P 99 args = resK [.tmp 0] (execS P (limS P) c99 ⟨args.map .c, []⟩) := fn_code p99 args
@[simp] theorem call99 (pos : Option Nat) (q : Bool) (args : List LV) (h : Heap) : callS P (limS P) pos q 99 args h = bnd (frzArgs q args h) fun a => bnd (fn P 99 a.1) fun v => some (.c v, if scalarC v then h else a.2) := callS_pure p99 pos q args h
theorem r99_l0 (s : St) : execS P (limS P) c99_l0 s = seqK (execS P (limS P) c99_l0b s) fun s' => execS P (limS P) c99_l0 (gc s.heap.length s') := execS_loop true c99_l0b s
theorem p100 : P 100 = some F100 := Has.h 100 F100 rfl
theorem u100 (args : List CV) : fn P 100 args = resK [.tmp 0] (execS P (limS P) c100 ⟨args.map .c, []⟩) := fn_code p100 args
@[simp] theorem call100 (pos : Option Nat) (q : Bool) (args : List LV) (h : Heap) : callS P (limS P) pos q 100 args h = bnd (frzArgs q args h) fun a => bnd (fn P 100 a.1) fun v => some (.c v, if scalarC v then h else a.2) := callS_pure p100 pos q args h
theorem p101 : P 101 = some F101 := Has.h 101 F101 rfl
theorem u101 (args : List CV) : fn P 101 args = resK [.tmp 0] (execS P (limS P) c101 ⟨args.map .c, []⟩) := fn_code p101 args
@[simp] theorem call101 (pos : Option Nat) (q : Bool) (args : List LV) (h : Heap) : callS P (limS P) pos q 101 args h = bnd (frzArgs q args h) fun a => bnd (fn P 101 a.1) fun v => some (.c v, if scalarC v then h else a.2) := callS_pure p101 pos q args h
theorem p102 : P 102 = some F102 := Has.h 102 F102 rfl
theorem u102 (args : List CV) : fn P 102 args = resK [.tmp 0] (execS P (limS P) c102 ⟨args.map .c, []⟩) := fn_code p102 args
@[simp] theorem call102 (pos : Option Nat) (q : Bool) (args : List LV) (h : Heap) : callS P (limS P) pos q 102 args h = bnd (frzArgs q args h) fun a => bnd (fn P 102 a.1) fun v => some (.c v, if scalarC v then h else a.2) := callS_pure p102 pos q args h
theorem p103 : P 103 = some F103 := Has.h 103 F103 rfl
theorem u103 (args : List CV) : fn P 103 args = resK [.tmp 0] (execS P (limS P) c103 ⟨args.map .c, []⟩) := fn_code p103 args
@[simp] theorem call103 (pos : Option Nat) (q : Bool) (args : List LV) (h : Heap) : callS P (limS P) pos q 103 args h = bnd (frzArgs q args h) fun a => bnd (fn P 103 a.1) fun v => some (.c v, if scalarC v then h else a.2) := callS_pure p103 pos q args h
theorem r103_l0 (s : St) : execS P (limS P) c103_l0 s = seqK (execS P (limS P) c103_l0b s) fun s' => execS P (limS P) c103_l0 (gc s.heap.length s') := execS_loop true c103_l0b s
theorem p104 : P 104 = some F104 := Has.h 104 F104 rfl
theorem u104 (args : List CV) : fn P 104 args = resK [.tmp 0] (execS P (limS P) c104 ⟨args.map .c, []⟩) := fn_code p104 args
@[simp] theorem call104 (pos : Option Nat) (q : Bool) (args : List LV) (h : Heap) : callS P (limS P) pos q 104 args h = bnd (frzArgs q args h) fun a => bnd (fn P 104 a.1) fun v => some (.c v, if scalarC v then h else a.2) := callS_pure p104 pos q args h
theorem p105 : P 105 = some F105 := Has.h 105 F105 rfl
theorem u105 (args : List CV) : fn P 105 args = resK [.tmp 0] (execS P (limS P) c105 ⟨args.map .c, []⟩) := fn_code p105 args
@[simp] theorem call105 (pos : Option Nat) (q : Bool) (args : List LV) (h : Heap) : callS P (limS P) pos q 105 args h = bnd (frzArgs q args h) fun a => bnd (fn P 105 a.1) fun v => some (.c v, if scalarC v then h else a.2) := callS_pure p105 pos q args h
theorem p106 : P 106 = some F106 := Has.h 106 F106 rfl
theorem u106 (args : List CV) : fn P 106 args = resK [.tmp 0] (execS P (limS P) c106 ⟨args.map .c, []⟩) := fn_code p106 args
@[simp] theorem call106 (pos : Option Nat) (q : Bool) (args : List LV) (h : Heap) : callS P (limS P) pos q 106 args h = bnd (frzArgs q args h) fun a => bnd (fn P 106 a.1) fun v => some (.c v, if scalarC v then h else a.2) := callS_pure p106 pos q args h
theorem r106_l0 (s : St) : execS P (limS P) c106_l0 s = seqK (execS P (limS P) c106_l0b s) fun s' => execS P (limS P) c106_l0 (gc s.heap.length s') := execS_loop true c106_l0b s
theorem p107 : P 107 = some F107 := Has.h 107 F107 rfl
theorem u107 (args : List CV) : fn P 107 args = resK [.tmp 0] (execS P (limS P) c107 ⟨args.map .c, []⟩) := fn_code p107 args
@[simp] theorem call107 (pos : Option Nat) (q : Bool) (args : List LV) (h : Heap) : callS P (limS P) pos q 107 args h = bnd (frzArgs q args h) fun a => bnd (fn P 107 a.1) fun v => some (.c v, if scalarC v then h else a.2) := callS_pure p107 pos q args h
theorem p108 : P 108 = some F108 := Has.h 108 F108 rfl
theorem u108 (args : List CV) : fn P 108 args = resK [.tmp 0] (execS P (limS P) c108 ⟨args.map .c, []⟩) := fn_code p108 args
@[simp] theorem call108 (pos : Option Nat) (q : Bool) (args : List LV) (h : Heap) : callS P (limS P) pos q 108 args h = bnd (frzArgs q args h) fun a => bnd (fn P 108 a.1) fun v => some (.c v, if scalarC v then h else a.2) := callS_pure p108 pos q args h
theorem p109 : P 109 = some F109 := Has.h 109 F109 rfl
theorem u109 (args : List CV) : fn P 109 args = resK [.tmp 0] (execS P (limS P) c109 ⟨args.map .c, []⟩) := fn_code p109 args
@[simp] theorem call109 (pos : Option Nat) (q : Bool) (args : List LV) (h : Heap) : callS P (limS P) pos q 109 args h = bnd (frzArgs q args h) fun a => bnd (fn P 109 a.1) fun v => some (.c v, if scalarC v then h else a.2) := callS_pure p109 pos q args h
theorem p110 : P 110 = some F110 := Has.h 110 F110 rfl
theorem u110 (args : List CV) : fn P 110 args = resK [.tmp 0] (execS P (limS P) c110 ⟨args.map .c, []⟩) := fn_code p110 args
@[simp] theorem call110 (pos : Option Nat) (q : Bool) (args : List LV) (h : Heap) : callS P (limS P) pos q 110 args h = bnd (frzArgs q args h) fun a => bnd (fn P 110 a.1) fun v => some (.c v, if scalarC v then h else a.2) := callS_pure p110 pos q args h
theorem p111 : P 111 = some F111 := Has.h 111 F111 rfl
theorem u111 (args : List CV) : fn P 111 args = resK [.tmp 0] (execS P (limS P) c111 ⟨args.map .c, []⟩) := fn_code p111 args
@[simp] theorem call111 (pos : Option Nat) (q : Bool) (args : List LV) (h : Heap) : callS P (limS P) pos q 111 args h = bnd (frzArgs q args h) fun a => bnd (fn P 111 a.1) fun v => some (.c v, if scalarC v then h else a.2) := callS_pure p111 pos q args h
theorem p113 : P 113 = some F113 := Has.h 113 F113 rfl
theorem u113 (args : List CV) : fn P 113 args = resK [.tmp 0, .tmp 1] (execS P (limS P) c113 ⟨args.map .c, []⟩) := fn_code p113 args
@[simp] theorem call113 (pos : Option Nat) (q : Bool) (args : List LV) (h : Heap) : callS P (limS P) pos q 113 args h = bnd (frzArgs q args h) fun a => bnd (fn P 113 a.1) fun v => some (.c v, if scalarC v then h else a.2) := callS_pure p113 pos q args h
theorem r113_l0 (s : St) : execS P (limS P) c113_l0 s = seqK (execS P (limS P) c113_l0b s) fun s' => execS P (limS P) c113_l0 (gc s.heap.length s') := execS_loop true c113_l0b s
theorem r113_l1 (s : St) : execS P (limS P) c113_l1 s = seqK (execS P (limS P) c113_l1b s) fun s' => execS P (limS P) c113_l1 (gc s.heap.length s') := execS_loop true c113_l1b s
theorem p116 : P 116 = some F116 := Has.h 116 F116 rfl
theorem u116 (args : List CV) : fn P 116 args = resK [.tmp 0] (execS P (limS P) c116 ⟨args.map .c, []⟩) := fn_code p116 args
@[simp] theorem call116 (pos : Option Nat) (q : Bool) (args : List LV) (h : Heap) : callS P (limS P) pos q 116 args h = bnd (frzArgs q args h) fun a => bnd (fn P 116 a.1) fun v => some (.c v, if scalarC v then h else a.2) := callS_pure p116 pos q args h
theorem p117 : P 117 = some F117 := Has.h 117 F117 rfl
theorem u117 (args : List CV) : fn P 117 args = resK [.tmp 0] (execS P (limS P) c117 ⟨args.map .c, []⟩) := fn_code p117 args
@[simp] theorem call117 (pos : Option Nat) (q : Bool) (args : List LV) (h : Heap) : callS P (limS P) pos q 117 args h = bnd (frzArgs q args h) fun a => bnd (fn P 117 a.1) fun v => some (.c v, if scalarC v then h else a.2) := callS_pure p117 pos q args h
theorem p118 : P 118 = some F118 := Has.h 118 F118 rfl
theorem u118 (args : List CV) : fn P 118 args = resK [.tmp 0, .tmp 1] (execS P (limS P) c118 ⟨args.map .c, []⟩) := fn_code p118 args
@[simp] theorem call118 (pos : Option Nat) (q : Bool) (args : List LV) (h : Heap) : callS P (limS P) pos q 118 args h = bnd (frzArgs q args h) fun a => bnd (fn P 118 a.1) fun v => some (.c v, if scalarC v then h else a.2) := callS_pure p118 pos q args h
theorem r118_l0 (s : St) : execS P (limS P) c118_l0 s = seqK (execS P (limS P) c118_l0b s) fun s' => execS P (limS P) c118_l0 (gc s.heap.length s') := execS_loop true c118_l0b s
theorem p119 : P 119 = some F119 := Has.h 119 F119 rfl
theorem u119 (args : List CV) : fn P 119 args = resK [.tmp 0] (execS P (limS P) c119 ⟨args.map .c, []⟩) := fn_code p119 args
@[simp] theorem call119 (pos : Option Nat) (q : Bool) (args : List LV) (h : Heap) : callS P (limS P) pos q 119 args h = bnd (frzArgs q args h) fun a => bnd (fn P 119 a.1) fun v => some (.c v, if scalarC v then h else a.2) := callS_pure p119 pos q args h
theorem p120 : P 120 = some F120 := Has.h 120 F120 rfl
theorem u120 (args : List CV) : ffn P 120 args = resF [.tmp 0] (execS P (limS P) c120 ⟨args.map .c, []⟩) := ffn_code p120 args
@[simp] theorem call120 (pos : Option Nat) (q : Bool) (args : List LV) (h : Heap) : callS P (limS P) pos q 120 args h = if q && pos.isNone then none else bnd (frzArgs q args h) fun a => bnd (ffn P 120 a.1) fun v => importB pos 4 v.1 v.2 a.2 := callS_fresh p120 pos q args h
theorem r120_l0 (s : St) : execS P (limS P) c120_l0 s = seqK (execS P (limS P) c120_l0b s) fun s' => execS P (limS P) c120_l0 (gc s.heap.length s') := execS_loop true c120_l0b s
theorem p121 : P 121 = some F121 := Has.h 121 F121 rfl
theorem u121 (args : List CV) : fn P 121 args = resK [.tmp 0] (execS P (limS P) c121 ⟨args.map .c, []⟩) := fn_code p121 args
@[simp] theorem call121 (pos : Option Nat) (q : Bool) (args : List LV) (h : Heap) : callS P (limS P) pos q 121 args h = bnd (frzArgs q args h) fun a => bnd (fn P 121 a.1) fun v => some (.c v, if scalarC v then h else a.2) := callS_pure p121 pos q args h
theorem p122 : P 122 = some F122 := Has.h 122 F122 rfl
theorem u122 (args : List CV) : fn P 122 args = resK [.tmp 0] (execS P (limS P) c122 ⟨args.map .c, []⟩) := fn_code p122 args
@[simp] theorem call122 (pos : Option Nat) (q : Bool) (args : List LV) (h : Heap) : callS P (limS P) pos q 122 args h = bnd (frzArgs q args h) fun a => bnd (fn P 122 a.1) fun v => some (.c v, if scalarC v then h else a.2) := callS_pure p122 pos q args h
theorem r122_l0 (s : St) : execS P (limS P) c122_l0 s = seqK (execS P (limS P) c122_l0b s) fun s' => execS P (limS P) c122_l0 (gc s.heap.length s') := execS_loop true c122_l0b s
theorem p123 : P 123 = some F123 := Has.h 123 F123 rfl
theorem u123 (args : List CV) : fn P 123 args = resK [.tmp 0] (execS P (limS P) c123 ⟨args.map .c, []⟩) := fn_code p123 args
@[simp] theorem call123 (pos : Option Nat) (q : Bool) (args : List LV) (h : Heap) : callS P (limS P) pos q 123 args h = bnd (frzArgs q args h) fun a => bnd (fn P 123 a.1) fun v => some (.c v, if scalarC v then h else a.2) := callS_pure p123 pos q args h
theorem p124 : P 124 = some F124 := Has.h 124 F124 rfl
theorem u124 (args : List CV) : fn P 124 args = resK [.tmp 0] (execS P (limS P) c124 ⟨args.map .c, []⟩) := fn_code p124 args
@[simp] theorem call124 (pos : Option Nat) (q : Bool) (args : List LV) (h : Heap) : callS P (limS P) pos q 124 args h = bnd (frzArgs q args h) fun a => bnd (fn P 124 a.1) fun v => some (.c v, if scalarC v then h else a.2) := callS_pure p124 pos q args h
theorem r124_l0 (s : St) : execS P (limS P) c124_l0 s = seqK (execS P (limS P) c124_l0b s) fun s' => execS P (limS P) c124_l0 (gc s.heap.length s') := execS_loop true c124_l0b s
theorem p125 : P 125 = some F125 := Has.h 125 F125 rfl
theorem u125 (args : List CV) : fn P 125 args = resK [.tmp 0] (execS P (limS P) c125 ⟨args.map .c, []⟩) := fn_code p125 args
@[simp] theorem call125 (pos : Option Nat) (q : Bool) (args : List LV) (h : Heap) : callS P (limS P) pos q 125 args h = bnd (frzArgs q args h) fun a => bnd (fn P 125 a.1) fun v => some (.c v, if scalarC v then h else a.2) := callS_pure p125 pos q args h
theorem p126 : P 126 = some F126 := Has.h 126 F126 rfl
theorem u126 (args : List CV) : fn P 126 args = resK [.tmp 0] (execS P (limS P) c126 ⟨args.map .c, []⟩) := fn_code p126 args
@[simp] theorem call126 (pos : Option Nat) (q : Bool) (args : List LV) (h : Heap) : callS P (limS P) pos q 126 args h = bnd (frzArgs q args h) fun a => bnd (fn P 126 a.1) fun v => some (.c v, if scalarC v then h else a.2) := callS_pure p126 pos q args h
theorem p127 : P 127 = some F127 := Has.h 127 F127 rfl
theorem u127 (args : List CV) : fn P 127 args = resK [.tmp 0] (execS P (limS P) c127 ⟨args.map .c, []⟩) := fn_code p127 args
@[simp] theorem call127 (pos : Option Nat) (q : Bool) (args : List LV) (h : Heap) : callS P (limS P) pos q 127 args h = bnd (frzArgs q args h) fun a => bnd (fn P 127 a.1) fun v => some (.c v, if scalarC v then h else a.2) := callS_pure p127 pos q args h
theorem p128 : P 128 = some F128 := Has.h 128 F128 rfl
theorem u128 (args : List CV) : fn P 128 args = resK [.tmp 0] (execS P (limS P) c128 ⟨args.map .c, []⟩) := fn_code p128 args
@[simp] theorem call128 (pos : Option Nat) (q : Bool) (args : List LV) (h : Heap) : callS P (limS P) pos q 128 args h = bnd (frzArgs q args h) fun a => bnd (fn P 128 a.1) fun v => some (.c v, if scalarC v then h else a.2) := callS_pure p128 pos q args h
theorem r128_l0 (s : St) : execS P (limS P) c128_l0 s = seqK (execS P (limS P) c128_l0b s) fun s' => execS P (limS P) c128_l0 (gc s.heap.length s') := execS_loop true c128_l0b s
theorem p129 : P 129 = some F129 := Has.h 129 F129 rfl
theorem u129 (args : List CV) : fn P 129 args = resK [.tmp 0] (execS P (limS P) c129 ⟨args.map .c, []⟩) := fn_code p129 args
@[simp] theorem call129 (pos : Option Nat) (q : Bool) (args : List LV) (h : Heap) : callS P (limS P) pos q 129 args h = bnd (frzArgs q args h) fun a => bnd (fn P 129 a.1) fun v => some (.c v, if scalarC v then h else a.2) := callS_pure p129 pos q args h
theorem r129_l0 (s : St) : execS P (limS P) c129_l0 s = seqK (execS P (limS P) c129_l0b s) fun s' => execS P (limS P) c129_l0 (gc s.heap.length s') := execS_loop true c129_l0b s
theorem p130 : P 130 = some F130 := Has.h 130 F130 rfl
theorem u130 (args : List CV) : fn P 130 args = resK [.tmp 0] (execS P (limS P) c130 ⟨args.map .c, []⟩) := fn_code p130 args
@[simp] theorem call130 (pos : Option Nat) (q : Bool) (args : List LV) (h : Heap) : callS P (limS P) pos q 130 args h = bnd (frzArgs q args h) fun a => bnd (fn P 130 a.1) fun v => some (.c v, if scalarC v then h else a.2) := callS_pure p130 pos q args h
theorem r130_l0 (s : St) : execS P (limS P) c130_l0 s = seqK (execS P (limS P) c130_l0b s) fun s' => execS P (limS P) c130_l0 (gc s.heap.length s') := execS_loop true c130_l0b s
theorem p131 : P 131 = some F131 := Has.h 131 F131 rfl
theorem u131 (args : List CV) : ffn P 131 args = resF [.tmp 0] (execS P (limS P) c131 ⟨args.map .c, []⟩) := ffn_code p131 args
@[simp] theorem call131 (pos : Option Nat) (q : Bool) (args : List LV) (h : Heap) : callS P (limS P) pos q 131 args h = if q && pos.isNone then none else bnd (frzArgs q args h) fun a => bnd (ffn P 131 a.1) fun v => importB pos 4 v.1 v.2 a.2 := callS_fresh p131 pos q args h
theorem r131_l0 (s : St) : execS P (limS P) c131_l0 s = seqK (execS P (limS P) c131_l0b s) fun s' => execS P (limS P) c131_l0 (gc s.heap.length s') := execS_loop true c131_l0b s
theorem p132 : P 132 = some F132 := Has.h 132 F132 rfl
theorem u132 (args : List CV) : fn P 132 args = resK [.tmp 0] (execS P (limS P) c132 ⟨args.map .c, []⟩) := fn_code p132 args
@[simp] theorem call132 (pos : Option Nat) (q : Bool) (args : List LV) (h : Heap) : callS P (limS P) pos q 132 args h = bnd (frzArgs q args h) fun a => bnd (fn P 132 a.1) fun v => some (.c v, if scalarC v then h else a.2) := callS_pure p132 pos q args h
theorem r132_l0 (s : St) : execS P (limS P) c132_l0 s = seqK (execS P (limS P) c132_l0b s) fun s' => execS P (limS P) c132_l0 (gc s.heap.length s') := execS_loop true c132_l0b s
theorem p134 : P 134 = some F134 := Has.h 134 F134 rfl
theorem u134 (args : List CV) : fn P 134 args = resK [.tmp 0] (execS P (limS P) c134 ⟨args.map .c, []⟩) := fn_code p134 args
@[simp] theorem call134 (pos : Option Nat) (q : Bool) (args : List LV) (h : Heap) : callS P (limS P) pos q 134 args h = bnd (frzArgs q args h) fun a => bnd (fn P 134 a.1) fun v => some (.c v, if scalarC v then h else a.2) := callS_pure p134 pos q args h
theorem p135 : P 135 = some F135 := Has.h 135 F135 rfl
theorem u135 (args : List CV) : fn P 135 args = resK [.tmp 0] (execS P (limS P) c135 ⟨args.map .c, []⟩) := fn_code p135 args
@[simp] theorem call135 (pos : Option Nat) (q : Bool) (args : List LV) (h : Heap) : callS P (limS P) pos q 135 args h = bnd (frzArgs q args h) fun a => bnd (fn P 135 a.1) fun v => some (.c v, if scalarC v then h else a.2) := callS_pure p135 pos q args h
theorem p136 : P 136 = some F136 := Has.h 136 F136 rfl
theorem u136 (args : List LV) (h : Heap) : sfn P 136 args h = resF [] (execS P (limS P) c136 ⟨args, h⟩) := sfn_code p136 args h
@[simp] theorem call136 (pos : Option Nat) (q : Bool) (args : List LV) (h : Heap) : callS P (limS P) pos q 136 args h = if q then none else bnd (frzFuncs args h) fun a => sfn P 136 a.1 a.2 := callS_shared p136 pos q args h
theorem r136_l0 (s : St) : execS P (limS P) c136_l0 s = seqK (execS P (limS P) c136_l0b s) fun s' => execS P (limS P) c136_l0 (gc s.heap.length s') := execS_loop true c136_l0b s
theorem r136_l1 (s : St) : execS P (limS P) c136_l1 s = seqK (execS P (limS P) c136_l1b s) fun s' => execS P (limS P) c136_l1 (gc s.heap.length s') := execS_loop true c136_l1b s
theorem r136_l2 (s : St) : execS P (limS P) c136_l2 s = seqK (execS P (limS P) c136_l2b s) fun s' => execS P (limS P) c136_l2 (gc s.heap.length s') := execS_loop true c136_l2b s
theorem p137 : P 137 = some F137 := Has.h 137 F137 rfl
theorem u137 (args : List CV) : fn P 137 args = resK [.tmp 0] (execS P (limS P) c137 ⟨args.map .c, []⟩) := fn_code p137 args
@[simp] theorem call137 (pos : Option Nat) (q : Bool) (args : List LV) (h : Heap) : callS P (limS P) pos q 137 args h = bnd (frzArgs q args h) fun a => bnd (fn P 137 a.1) fun v => some (.c v, if scalarC v then h else a.2) := callS_pure p137 pos q args h
theorem p138 : P 138 = some F138 := Has.h 138 F138 rfl
theorem u138 (args : List CV) : fn P 138 args = resK [.tmp 0] (execS P (limS P) c138 ⟨args.map .c, []⟩) := fn_code p138 args
@[simp] theorem call138 (pos : Option Nat) (q : Bool) (args : List LV) (h : Heap) : callS P (limS P) pos q 138 args h = bnd (frzArgs q args h) fun a => bnd (fn P 138 a.1) fun v => some (.c v, if scalarC v then h else a.2) := callS_pure p138 pos q args h
theorem r138_l0 (s : St) : execS P (limS P) c138_l0 s = seqK (execS P (limS P) c138_l0b s) fun s' => execS P (limS P) c138_l0 (gc s.heap.length s') := execS_loop true c138_l0b s
theorem p139 : P 139 = some F139 := Has.h 139 F139 rfl
theorem u139 (args : List CV) : fn P 139 args = resK [.tmp 0] (execS P (limS P) c139 ⟨args.map .c, []⟩) := fn_code p139 args
@[simp] theorem call139 (pos : Option Nat) (q : Bool) (args : List LV) (h : Heap) : callS P (limS P) pos q 139 args h = bnd (frzArgs q args h) fun a => bnd (fn P 139 a.1) fun v => some (.c v, if scalarC v then h else a.2) := callS_pure p139 pos q args h
theorem p140 : P 140 = some F140 := Has.h 140 F140 rfl
theorem u140 (args : List CV) : fn P 140 args = resK [.tmp 0] (execS P (limS P) c140 ⟨args.map .c, []⟩) := fn_code p140 args
@[simp] theorem call140 (pos : Option Nat) (q : Bool) (args : List LV) (h : Heap) : callS P (limS P) pos q 140 args h = bnd (frzArgs q args h) fun a => bnd (fn P 140 a.1) fun v => some (.c v, if scalarC v then h else a.2) := callS_pure p140 pos q args h
theorem r140_l0 (s : St) : execS P (limS P) c140_l0 s = seqK (execS P (limS P) c140_l0b s) fun s' => execS P (limS P) c140_l0 (gc s.heap.length s') := execS_loop true c140_l0b s
theorem p142 : P 142 = some F142 := Has.h 142 F142 rfl
theorem u142 (args : List CV) : fn P 142 args = resK [.tmp 0] (execS P (limS P) c142 ⟨args.map .c, []⟩) := fn_code p142 args
@[simp] theorem call142 (pos : Option Nat) (q : Bool) (args : List LV) (h : Heap) : callS P (limS P) pos q 142 args h = bnd (frzArgs q args h) fun a => bnd (fn P 142 a.1) fun v => some (.c v, if scalarC v then h else a.2) := callS_pure p142 pos q args h
theorem r142_l0 (s : St) : execS P (limS P) c142_l0 s = seqK (execS P (limS P) c142_l0b s) fun s' => execS P (limS P) c142_l0 (gc s.heap.length s') := execS_loop true c142_l0b s
theorem r142_l1 (s : St) : execS P (limS P) c142_l1 s = seqK (execS P (limS P) c142_l1b s) fun s' => execS P (limS P) c142_l1 (gc s.heap.length s') := execS_loop true c142_l1b s
theorem p143 : P 143 = some F143 := Has.h 143 F143 rfl
theorem u143 (args : List LV) (h : Heap) : sfn P 143 args h = resF [.tmp 0] (execS P (limS P) c143 ⟨args, h⟩) := sfn_code p143 args h
@[simp] theorem call143 (pos : Option Nat) (q : Bool) (args : List LV) (h : Heap) : callS P (limS P) pos q 143 args h = if q then none else bnd (frzFuncs args h) fun a => sfn P 143 a.1 a.2 := callS_shared p143 pos q args h
theorem r143_l0 (s : St) : execS P (limS P) c143_l0 s = seqK (execS P (limS P) c143_l0b s) fun s' => execS P (limS P) c143_l0 (gc s.heap.length s') := execS_loop true c143_l0b s
theorem p144 : P 144 = some F144 := Has.h 144 F144 rfl
theorem u144 (args : List CV) : fn P 144 args = resK [.tmp 0] (execS P (limS P) c144 ⟨args.map .c, []⟩) := fn_code p144 args
@[simp] theorem call144 (pos : Option Nat) (q : Bool) (args : List LV) (h : Heap) : callS P (limS P) pos q 144 args h = bnd (frzArgs q args h) fun a => bnd (fn P 144 a.1) fun v => some (.c v, if scalarC v then h else a.2) := callS_pure p144 pos q args h
theorem p145 : P 145 = some F145 := Has.h 145 F145 rfl
theorem u145 (args : List CV) : fn P 145 args = resK [.tmp 0] (execS P (limS P) c145 ⟨args.map .c, []⟩) := fn_code p145 args
@[simp] theorem call145 (pos : Option Nat) (q : Bool) (args : List LV) (h : Heap) : callS P (limS P) pos q 145 args h = bnd (frzArgs q args h) fun a => bnd (fn P 145 a.1) fun v => some (.c v, if scalarC v then h else a.2) := callS_pure p145 pos q args h
theorem p146 : P 146 = some F146 := Has.h 146 F146 rfl
theorem u146 (args : List CV) : fn P 146 args = resK [.tmp 0] (execS P (limS P) c146 ⟨args.map .c, []⟩) := fn_code p146 args
@[simp] theorem call146 (pos : Option Nat) (q : Bool) (args : List LV) (h : Heap) : callS P (limS P) pos q 146 args h = bnd (frzArgs q args h) fun a => bnd (fn P 146 a.1) fun v => some (.c v, if scalarC v then h else a.2) := callS_pure p146 pos q args h
theorem p147 : P 147 = some F147 := Has.h 147 F147 rfl
theorem u147 (args : List CV) : fn P 147 args = resK [.tmp 0] (execS P (limS P) c147 ⟨args.map .c, []⟩) := fn_code p147 args
@[simp] theorem call147 (pos : Option Nat) (q : Bool) (args : List LV) (h : Heap) : callS P (limS P) pos q 147 args h = bnd (frzArgs q args h) fun a => bnd (fn P 147 a.1) fun v => some (.c v, if scalarC v then h else a.2) := callS_pure p147 pos q args h
theorem r147_l0 (s : St) : execS P (limS P) c147_l0 s = seqK (execS P (limS P) c147_l0b s) fun s' => execS P (limS P) c147_l0 (gc s.heap.length s') := execS_loop true c147_l0b s
theorem p148 : P 148 = some F148 := Has.h 148 F148 rfl
theorem u148 (args : List CV) : fn P 148 args = resK [.tmp 0] (execS P (limS P) c148 ⟨args.map .c, []⟩) := fn_code p148 args
@[simp] theorem call148 (pos : Option Nat) (q : Bool) (args : List LV) (h : Heap) : callS P (limS P) pos q 148 args h = bnd (frzArgs q args h) fun a => bnd (fn P 148 a.1) fun v => some (.c v, if scalarC v then h else a.2) := callS_pure p148 pos q args h
theorem p149 : P 149 = some F149 := Has.h 149 F149 rfl
theorem u149 (args : List CV) : fn P 149 args = resK [.tmp 0, .tmp 1] (execS P (limS P) c149 ⟨args.map .c, []⟩) := fn_code p149 args
@[simp] theorem call149 (pos : Option Nat) (q : Bool) (args : List LV) (h : Heap) : callS P (limS P) pos q 149 args h = bnd (frzArgs q args h) fun a => bnd (fn P 149 a.1) fun v => some (.c v, if scalarC v then h else a.2) := callS_pure p149 pos q args h
theorem p150 : P 150 = some F150 := Has.h 150 F150 rfl
theorem u150 (args : List CV) : fn P 150 args = resK [.tmp 0] (execS P (limS P) c150 ⟨args.map .c, []⟩) := fn_code p150 args
@[simp] theorem call150 (pos : Option Nat) (q : Bool) (args : List LV) (h : Heap) : callS P (limS P) pos q 150 args h = bnd (frzArgs q args h) fun a => bnd (fn P 150 a.1) fun v => some (.c v, if scalarC v then h else a.2) := callS_pure p150 pos q args h
theorem p151 : P 151 = some F151 := Has.h 151 F151 rfl
theorem u151 (args : List CV) : fn P 151 args = resK [.tmp 0] (execS P (limS P) c151 ⟨args.map .c, []⟩) := fn_code p151 args
@[simp] theorem call151 (pos : Option Nat) (q : Bool) (args : List LV) (h : Heap) : callS P (limS P) pos q 151 args h = bnd (frzArgs q args h) fun a => bnd (fn P 151 a.1) fun v => some (.c v, if scalarC v then h else a.2) := callS_pure p151 pos q args h
theorem r151_l0 (s : St) : execS P (limS P) c151_l0 s = seqK (execS P (limS P) c151_l0b s) fun s' => execS P (limS P) c151_l0 (gc s.heap.length s') := execS_loop true c151_l0b s
theorem p152 : P 152 = some F152 := Has.h 152 F152 rfl
theorem u152 (args : List LV) (h : Heap) : sfn P 152 args h = resF [] (execS P (limS P) c152 ⟨args, h⟩) := sfn_code p152 args h
@[simp] theorem call152 (pos : Option Nat) (q : Bool) (args : List LV) (h : Heap) : callS P (limS P) pos q 152 args h = if q then none else bnd (frzFuncs args h) fun a => sfn P 152 a.1 a.2 := callS_shared p152 pos q args h
theorem r152_l0 (s : St) : execS P (limS P) c152_l0 s = seqK (execS P (limS P) c152_l0b s) fun s' => execS P (limS P) c152_l0 (gc s.heap.length s') := execS_loop true c152_l0b s
theorem r152_l1 (s : St) : execS P (limS P) c152_l1 s = seqK (execS P (limS P) c152_l1b s) fun s' => execS P (limS P) c152_l1 (gc s.heap.length s') := execS_loop true c152_l1b s
theorem p153 : P 153 = some F153 := Has.h 153 F153 rfl
theorem u153 (args : List LV) (h : Heap) : sfn P 153 args h = resF [] (execS P (limS P) c153 ⟨args, h⟩) := sfn_code p153 args h
@[simp] theorem call153 (pos : Option Nat) (q : Bool) (args : List LV) (h : Heap) : callS P (limS P) pos q 153 args h = if q then none else bnd (frzFuncs args h) fun a => sfn P 153 a.1 a.2 := callS_shared p153 pos q args h
theorem r153_l0 (s : St) : execS P (limS P) c153_l0 s = seqK (execS P (limS P) c153_l0b s) fun s' => execS P (limS P) c153_l0 (gc s.heap.length s') := execS_loop true c153_l0b s
theorem r153_l1 (s : St) : execS P (limS P) c153_l1 s = seqK (execS P (limS P) c153_l1b s) fun s' => execS P (limS P) c153_l1 (gc s.heap.length s') := execS_loop true c153_l1b s
theorem r153_l2 (s : St) : execS P (limS P) c153_l2 s = seqK (execS P (limS P) c153_l2b s) fun s' => execS P (limS P) c153_l2 (gc s.heap.length s') := execS_loop true c153_l2b s
theorem r153_l3 (s : St) : execS P (limS P) c153_l3 s = seqK (execS P (limS P) c153_l3b s) fun s' => execS P (limS P) c153_l3 (gc s.heap.length s') := execS_loop true c153_l3b s
theorem r153_l4 (s : St) : execS P (limS P) c153_l4 s = seqK (execS P (limS P) c153_l4b s) fun s' => execS P (limS P) c153_l4 (gc s.heap.length s') := execS_loop true c153_l4b s
theorem p154 : P 154 = some F154 := Has.h 154 F154 rfl
theorem u154 (args : List CV) : fn P 154 args = resK [.tmp 0] (execS P (limS P) c154 ⟨args.map .c, []⟩) := fn_code p154 args
@[simp] theorem call154 (pos : Option Nat) (q : Bool) (args : List LV) (h : Heap) : callS P (limS P) pos q 154 args h = bnd (frzArgs q args h) fun a => bnd (fn P 154 a.1) fun v => some (.c v, if scalarC v then h else a.2) := callS_pure p154 pos q args h
theorem r154_l0 (s : St) : execS P (limS P) c154_l0 s = seqK (execS P (limS P) c154_l0b s) fun s' => execS P (limS P) c154_l0 (gc s.heap.length s') := execS_loop true c154_l0b s
theorem p158 : P 158 = some F158 := Has.h 158 F158 rfl
theorem u158 (args : List LV) (h : Heap) : sfn P 158 args h = resF [.tmp 0] (execS P (limS P) c158 ⟨args, h⟩) := sfn_code p158 args h
@[simp] theorem call158 (pos : Option Nat) (q : Bool) (args : List LV) (h : Heap) : callS P (limS P) pos q 158 args h = if q then none else bnd (frzFuncs args h) fun a => sfn P 158 a.1 a.2 := callS_shared p158 pos q args h
theorem r158_l0 (s : St) : execS P (limS P) c158_l0 s = seqK (execS P (limS P) c158_l0b s) fun s' => execS P (limS P) c158_l0 (gc s.heap.length s') := execS_loop true c158_l0b s
theorem p159 : P 159 = some F159 := Has.h 159 F159 rfl
theorem u159 (args : List LV) (h : Heap) : sfn P 159 args h = resF [.tmp 0] (execS P (limS P) c159 ⟨args, h⟩) := sfn_code p159 args h
@[simp] theorem call159 (pos : Option Nat) (q : Bool) (args : List LV) (h : Heap) : callS P (limS P) pos q 159 args h = if q then none else bnd (frzFuncs args h) fun a => sfn P 159 a.1 a.2 := callS_shared p159 pos q args h
theorem r159_l0 (s : St) : execS P (limS P) c159_l0 s = seqK (execS P (limS P) c159_l0b s) fun s' => execS P (limS P) c159_l0 (gc s.heap.length s') := execS_loop true c159_l0b s
theorem p160 : P 160 = some F160 := Has.h 160 F160 rfl
theorem u160 (args : List CV) : fn P 160 args = resK [.tmp 0] (execS P (limS P) c160 ⟨args.map .c, []⟩) := fn_code p160 args
@[simp] theorem call160 (pos : Option Nat) (q : Bool) (args : List LV) (h : Heap) : callS P (limS P) pos q 160 args h = bnd (frzArgs q args h) fun a => bnd (fn P 160 a.1) fun v => some (.c v, if scalarC v then h else a.2) := callS_pure p160 pos q args h
theorem p161 : P 161 = some F161 := Has.h 161 F161 rfl
theorem u161 (args : List CV) : fn P 161 args = resK [.tmp 0] (execS P (limS P) c161 ⟨args.map .c, []⟩) := fn_code p161 args
@[simp] theorem call161 (pos : Option Nat) (q : Bool) (args : List LV) (h : Heap) : callS P (limS P) pos q 161 args h = bnd (frzArgs q args h) fun a => bnd (fn P 161 a.1) fun v => some (.c v, if scalarC v then h else a.2) := callS_pure p161 pos q args h
theorem p162 : P 162 = some F162 := Has.h 162 F162 rfl
theorem u162 (args : List CV) : fn P 162 args = resK [.tmp 0] (execS P (limS P) c162 ⟨args.map .c, []⟩) := fn_code p162 args
@[simp] theorem call162 (pos : Option Nat) (q : Bool) (args : List LV) (h : Heap) : callS P (limS P) pos q 162 args h = bnd (frzArgs q args h) fun a => bnd (fn P 162 a.1) fun v => some (.c v, if scalarC v then h else a.2) := callS_pure p162 pos q args h
theorem r162_l0 (s : St) : execS P (limS P) c162_l0 s = seqK (execS P (limS P) c162_l0b s) fun s' => execS P (limS P) c162_l0 (gc s.heap.length s') := execS_loop true c162_l0b s
theorem p163 : P 163 = some F163 := Has.h 163 F163 rfl
theorem u163 (args : List CV) : fn P 163 args = resK [.tmp 0] (execS P (limS P) c163 ⟨args.map .c, []⟩) := fn_code p163 args
@[simp] theorem call163 (pos : Option Nat) (q : Bool) (args : List LV) (h : Heap) : callS P (limS P) pos q 163 args h = bnd (frzArgs q args h) fun a => bnd (fn P 163 a.1) fun v => some (.c v, if scalarC v then h else a.2) := callS_pure p163 pos q args h
theorem p164 : P 164 = some F164 := Has.h 164 F164 rfl
theorem u164 (args : List CV) : fn P 164 args = resK [.tmp 0] (execS P (limS P) c164 ⟨args.map .c, []⟩) := fn_code p164 args
@[simp] theorem call164 (pos : Option Nat) (q : Bool) (args : List LV) (h : Heap) : callS P (limS P) pos q 164 args h = bnd (frzArgs q args h) fun a => bnd (fn P 164 a.1) fun v => some (.c v, if scalarC v then h else a.2) := callS_pure p164 pos q args h
theorem p165 : P 165 = some F165 := Has.h 165 F165 rfl
theorem u165 (args : List CV) : fn P 165 args = resK [.tmp 0, .tmp 1] (execS P (limS P) c165 ⟨args.map .c, []⟩) := fn_code p165 args
@[simp] theorem call165 (pos : Option Nat) (q : Bool) (args : List LV) (h : Heap) : callS P (limS P) pos q 165 args h = bnd (frzArgs q args h) fun a => bnd (fn P 165 a.1) fun v => some (.c v, if scalarC v then h else a.2) := callS_pure p165 pos q args h
theorem p166 : P 166 = some F166 := Has.h 166 F166 rfl
theorem u166 (args : List CV) : fn P 166 args = resK [.tmp 0, .tmp 1] (execS P (limS P) c166 ⟨args.map .c, []⟩) := fn_code p166 args
@[simp] theorem call166 (pos : Option Nat) (q : Bool) (args : List LV) (h : Heap) : callS P (limS P) pos q 166 args h = bnd (frzArgs q args h) fun a => bnd (fn P 166 a.1) fun v => some (.c v, if scalarC v then h else a.2) := callS_pure p166 pos q args h
theorem p167 : P 167 = some F167 := Has.h 167 F167 rfl
theorem u167 (args : List LV) (h : Heap) : sfn P 167 args h = resF [] (execS P (limS P) c167 ⟨args, h⟩) := sfn_code p167 args h
@[simp] theorem call167 (pos : Option Nat) (q : Bool) (args : List LV) (h : Heap) : callS P (limS P) pos q 167 args h = if q then none else bnd (frzFuncs args h) fun a => sfn P 167 a.1 a.2 := callS_shared p167 pos q args h
theorem r167_l0 (s : St) : execS P (limS P) c167_l0 s = seqK (execS P (limS P) c167_l0b s) fun s' => execS P (limS P) c167_l0 (gc s.heap.length s') := execS_loop true c167_l0b s
theorem p168 : P 168 = some F168 := Has.h 168 F168 rfl
theorem u168 (args : List LV) (h : Heap) : sfn P 168 args h = resF [] (execS P (limS P) c168 ⟨args, h⟩) := sfn_code p168 args h
@[simp] theorem call168 (pos : Option Nat) (q : Bool) (args : List LV) (h : Heap) : callS P (limS P) pos q 168 args h = if q then none else bnd (frzFuncs args h) fun a => sfn P 168 a.1 a.2 := callS_shared p168 pos q args h
theorem r168_l0 (s : St) : execS P (limS P) c168_l0 s = seqK (execS P (limS P) c168_l0b s) fun s' => execS P (limS P) c168_l0 (gc s.heap.length s') := execS_loop true c168_l0b s
theorem p141 : P 141 = some (.fprim 1 (cloneP none 8)) := Has.h 141 _ rfl
theorem u141 (args : List CV) : ffn P 141 args = (cloneP none 8) args := by simp only [ffn, p141]
@[simp] theorem call141 (pos : Option Nat) (q : Bool) (args : List LV) (h : Heap) : callS P (limS P) pos q 141 args h = if q && pos.isNone then none else bnd (frzArgs q args h) fun a => bnd (ffn P 141 a.1) fun v => importB pos 1 v.1 v.2 a.2 := callS_fprim p141 pos q args h
theorem p155 : P 155 = some (.fprim 1 (cloneP (some 4) 64)) := Has.h 155 _ rfl
theorem u155 (args : List CV) : ffn P 155 args = (cloneP (some 4) 64) args := by simp only [ffn, p155]
@[simp] theorem call155 (pos : Option Nat) (q : Bool) (args : List LV) (h : Heap) : callS P (limS P) pos q 155 args h = if q && pos.isNone then none else bnd (frzArgs q args h) fun a => bnd (ffn P 155 a.1) fun v => importB pos 1 v.1 v.2 a.2 := callS_fprim p155 pos q args h
theorem p156 : P 156 = some (.fprim 1 (cloneP (some 4) 64)) := Has.h 156 _ rfl
theorem u156 (args : List CV) : ffn P 156 args = (cloneP (some 4) 64) args := by simp only [ffn, p156]
@[simp] theorem call156 (pos : Option Nat) (q : Bool) (args : List LV) (h : Heap) : callS P (limS P) pos q 156 args h = if q && pos.isNone then none else bnd (frzArgs q args h) fun a => bnd (ffn P 156 a.1) fun v => importB pos 1 v.1 v.2 a.2 := callS_fprim p156 pos q args h
theorem p157 : P 157 = some (.fprim 1 (cloneP none 16)) := Has.h 157 _ rfl
theorem u157 (args : List CV) : ffn P 157 args = (cloneP none 16) args := by simp only [ffn, p157]
@[simp] theorem call157 (pos : Option Nat) (q : Bool) (args : List LV) (h : Heap) : callS P (limS P) pos q 157 args h = if q && pos.isNone then none else bnd (frzArgs q args h) fun a => bnd (ffn P 157 a.1) fun v => importB pos 1 v.1 v.2 a.2 := callS_fprim p157 pos q args h
/-- A program in which some functions are primitives. -/
class HasP (P : Nat → Option SFunc) : Prop where
  h : ∀ f, f ∈ [14, 18, 19] → ∃ g, P f = some (.prim g)
@[simp] theorem call14 [HasP P] (pos : Option Nat) (q : Bool) (args : List LV) (h : Heap) : callS P (limS P) pos q 14 args h = bnd (frzArgs q args h) fun a => bnd (fn P 14 a.1) fun v => some (.c v, if scalarC v then h else a.2) := by
  obtain ⟨g, hg⟩ := HasP.h (P := P) 14 (by simp)
  exact callS_prim hg pos q args h
@[simp] theorem call18 [HasP P] (pos : Option Nat) (q : Bool) (args : List LV) (h : Heap) : callS P (limS P) pos q 18 args h = bnd (frzArgs q args h) fun a => bnd (fn P 18 a.1) fun v => some (.c v, if scalarC v then h else a.2) := by
  obtain ⟨g, hg⟩ := HasP.h (P := P) 18 (by simp)
  exact callS_prim hg pos q args h
@[simp] theorem call19 [HasP P] (pos : Option Nat) (q : Bool) (args : List LV) (h : Heap) : callS P (limS P) pos q 19 args h = bnd (frzArgs q args h) fun a => bnd (fn P 19 a.1) fun v => some (.c v, if scalarC v then h else a.2) := by
  obtain ⟨g, hg⟩ := HasP.h (P := P) 19 (by simp)
  exact callS_prim hg pos q args h
end LM.G9

namespace LM.G9
open Go LM
def lc18 : LCode := (.seq (.region [.mk (some 7) (.box (.t 3)) none none .any, .mk (some 8) (.new [(.c (.bool false))]) none none .any, .mk (some 9) (.new [(.c (.int .i64 0))]) none none .any]) (.seq (.seq (.draw 1 [.mk (some 12) (.move (.t 0)) none none .any, .mk (some 13) (.call false (.k (.c (.func 17 [] []))) [(.t 12)]) none none .any, .mk (some 14) (.move (.t 1)) none none .any, .mk (some 15) (.call false (.k (.c (.func 80 [] []))) [(.t 14)]) none none .any, .mk (some 16) (.move (.t 2)) none none .any, .mk (some 17) (.call false (.k (.c (.func 81 [] []))) [(.t 16)]) none none .any, .mk (some 18) (.load none (.t 7)) none none .var, .mk (some 19) (.call false (.k (.c (.func 81 [] []))) [(.t 18)]) none none .any, .mk (some 20) (.move (.t 2)) none none .any, .mk (some 21) (.load none (.t 7)) none none .var, .mk (some 22) (.bin .gtr (.t 20) (.t 21)) none none .any, .mk (some 23) (.call false (.k (.c (.func 82 [] []))) [(.t 22), (.k (.c (.int .i64 11)))]) none none .any, .mk (some 24) (.buildSlice 2 none 5 [(.c (.int .i64 0))] [(0, (.t 13)), (1, (.t 15)), (2, (.t 17)), (3, (.t 19)), (4, (.t 23))]) none (some 0) .any, .mk (some 25) (.call false (.k (.c (.func 79 [] []))) [(.t 24)]) none none .any, .mk (some 10) (.move (.t 25)) none none .any]) (.seq (.region [.mk (some 26) (.move (.t 10)) none none .any, .mk (some 27) (.bin .neq (.t 26) (.k (.c (.int .i64 0)))) none none .any]) (.cond (.t 27) (.seq (.region [.mk (some 28) (.move (.t 10)) none none .any, .mk none (.store 1 (.t 8) (.k (.c (.bool false)))) none none .any, .mk none (.store 1 (.t 9) (.t 28)) none none .any]) .ret) .skip))) (.seq (.seq (.region [.mk (some 29) (.move (.t 0)) none none .any, .mk (some 30) (.move (.t 1)) none none .any, .mk (some 31) (.move (.t 2)) none none .any, .mk (some 32) (.call false (.k (.c (.func 83 [] []))) [(.t 29), (.t 30), (.t 31)]) none none .any]) (.block 0 (.rangeFn (.t 32) [33] (.region [.mk (some 11) (.move (.t 33)) none none .any]) (.block 1 (.seq (.region [.mk (some 34) (.move (.t 11)) none none .any, .mk (some 35) (.load none (.t 7)) none none .any, .mk (some 36) (.bin .eql (.t 34) (.t 35)) none none .any]) (.cond (.t 36) (.seq (.region [.mk none (.store 1 (.t 8) (.k (.c (.bool true)))) none none .any, .mk none (.store 1 (.t 9) (.k (.c (.int .i64 0)))) none none .any]) .ret) .skip)))))) (.seq (.region [.mk none (.store 1 (.t 8) (.k (.c (.bool false)))) none none .any, .mk none (.store 1 (.t 9) (.k (.c (.int .i64 0)))) none none .any]) .ret))))
def lf18 : LFunc := .code .pure 37 [.cell 8 none, .cell 9 none] lc18
def lc19 : LCode := (.seq (.region [.mk (some 6) (.move (.k (.c (.int .i64 0)))) none none .any, .mk (some 7) (.move (.k (.c (.int .i64 0)))) none none .any]) (.seq (.seq (.region [.mk (some 11) (.move (.t 0)) none none .any, .mk (some 12) (.call false (.k (.c (.func 17 [] []))) [(.t 11)]) none none .any, .mk (some 13) (.move (.t 1)) none none .any, .mk (some 14) (.call false (.k (.c (.func 80 [] []))) [(.t 13)]) none none .any, .mk (some 15) (.move (.t 2)) none none .any, .mk (some 16) (.call false (.k (.c (.func 81 [] []))) [(.t 15)]) none none .any, .mk (some 17) (.buildSlice 2 none 3 [(.c (.int .i64 0))] [(0, (.t 12)), (1, (.t 14)), (2, (.t 16))]) none none .any, .mk (some 18) (.call false (.k (.c (.func 79 [] []))) [(.t 17)]) none none .any, .mk (some 8) (.move (.t 18)) none none .any]) (.seq (.region [.mk (some 19) (.move (.t 8)) none none .any, .mk (some 20) (.bin .neq (.t 19) (.k (.c (.int .i64 0)))) none none .any]) (.cond (.t 20) (.seq (.region [.mk (some 21) (.move (.t 8)) none none .any, .mk (some 6) (.move (.k (.c (.int .i64 0)))) none none .any, .mk (some 7) (.move (.t 21)) none none .any]) .ret) .skip))) (.seq (.region [.mk (some 22) (.move (.t 2)) none none .any, .mk (some 23) (.bin .sub (.t 22) (.k (.c (.int .i64 1)))) none none .any, .mk (some 9) (.new [(.c (.int .i64 0))]) none none .any, .mk none (.store 1 (.t 9) (.t 23)) none none .any]) (.seq (.seq (.region [.mk (some 24) (.move (.t 0)) none none .any, .mk (some 25) (.move (.t 1)) none none .any, .mk (some 26) (.move (.t 2)) none none .any, .mk (some 27) (.call false (.k (.c (.func 83 [] []))) [(.t 24), (.t 25), (.t 26)]) none none .any]) (.block 0 (.rangeFn (.t 27) [28] (.region [.mk (some 10) (.move (.t 28)) none none .any]) (.block 1 (.region [.mk (some 29) (.move (.t 10)) none none .any, .mk none (.store 1 (.t 9) (.t 29)) none none .any]))))) (.seq (.region [.mk (some 30) (.load none (.t 9)) none none .any, .mk (some 31) (.bin .add (.t 30) (.k (.c (.int .i64 1)))) none none .any, .mk (some 6) (.move (.t 31)) none none .any, .mk (some 7) (.move (.k (.c (.int .i64 0)))) none none .any]) .ret)))))
def lf19 : LFunc := .code .pure 32 [.tmp 6, .tmp 7] lc19
def lc133 : LCode := (.seq (.region [.mk (some 7) (.load none (.t 1)) none none .any, .mk (some 5) (.new [(.c (.int .i64 0))]) none none .any, .mk none (.store 1 (.t 5) (.t 7)) none none .any]) (.block 0 (.loop false (.seq (.seq (.region [.mk (some 8) (.load none (.t 5)) none none .any, .mk (some 9) (.bin .leq (.t 8) (.k (.c (.int .i64 99999)))) none none .any]) (.cond (.t 9) .skip (.exit 0))) (.seq (.block 1 (.seq (.region [.mk (some 12) (.load none (.t 2)) none none .any, .mk (some 13) (.mkFunc 135 [] [(.t 3), (.t 5)]) none none .any, .mk (some 14) (.call false (.k (.c (.func 134 [] []))) [(.t 12), (.t 13)]) none none .any, .mk (some 6) (.move (.t 14)) none none .any]) (.seq (.region [.mk (some 15) (.move (.t 6)) none none .any, .mk (some 16) (.not (.t 15)) none none .any, .mk (some 17) (.move (.t 16)) none none .any, .mk (some 18) (.move (.t 0)) (some (17, false)) none .any, .mk (some 19) (.load none (.t 5)) (some (17, false)) none .any, .mk (some 20) (.call false (.t 18) [(.t 19)]) (some (17, false)) none .any, .mk (some 21) (.not (.t 20)) (some (17, false)) none .any, .mk (some 22) (.pick (.t 17) (.k (.c (.bool true))) (.t 21)) none none .any]) (.cond (.t 22) .ret .skip)))) (.seq (.seq (.region [.mk (some 23) (.load none (.t 5)) none none .any]) (.region [.mk (some 5) (.new [(.c (.int .i64 0))]) none none .any, .mk none (.store 1 (.t 5) (.t 23)) none none .any])) (.region [.mk (some 10) (.load none (.t 5)) none none .any, .mk (some 11) (.bin .add (.t 10) (.k (.c (.int .i64 1)))) none none .any, .mk none (.store 1 (.t 5) (.t 11)) none none .any])))))))
def lf133 : LFunc := .code .shared 24 [] lc133
def lprog : List (Nat × LFunc) := [(18, lf18), (19, lf19), (133, lf133)]
-- crux/cruxlaw09.awake
@[simp] def c14_n2 : SCode := (.region [.op 39 (.build [(.c (.str [])), (.c (.str [])), (.c (.int .i64 0)), (.c (.str []))] [(0, 1, (.k (.c (.str [97, 110, 110])))), (1, 1, (.k (.c (.str [65])))), (2, 1, (.k (.c (.int .i64 1000)))), (3, 1, (.k (.c (.str [111, 112, 101, 110]))))]) none .any, .op 1 (.new [(.c (.str [])), (.c (.str [])), (.c (.int .i64 0)), (.c (.str []))]) none .any, .eff (.store 4 (.t 0) (.t 1)) none .any] [0])
@[simp] def c14_n4 : SCode := (.region [.op 40 (.build [(.c (.str [])), (.c (.int .i64 0)), (.c (.int .i64 0))] [(0, 1, (.k (.c (.str [121, 111, 117, 116, 104])))), (1, 1, (.k (.c (.int .i64 10)))), (2, 1, (.k (.c (.int .i64 17))))]) none .any, .op 41 (.build [(.c (.str [])), (.c (.int .i64 0)), (.c (.int .i64 0))] [(0, 1, (.k (.c (.str [111, 112, 101, 110])))), (1, 1, (.k (.c (.int .i64 16)))), (2, 1, (.k (.c (.int .i64 40))))]) none .any, .op 42 (.buildSlice 0 (some 3) 2 [(.c (.str [])), (.c (.int .i64 0)), (.c (.int .i64 0))] [(0, (.t 1)), (1, (.t 0))]) none .any, .op 2 (.move (.t 0)) none .any] [4, 0])
@[simp] def c14_n6 : SCode := (.region [.op 44 (.load (some 4) (.t 0)) none .any, .op 45 (.call false (.k (.c (.func 56 [] []))) [(.t 0), (.k (.c (.int .i64 7570)))]) none .any, .op 43 (.move (.t 0)) none .any, .op 46 (.extract (.t 0) 0) none .any, .op 47 (.extract (.t 1) 1) none .any, .op 3 (.move (.t 1)) none .any, .op 4 (.move (.t 1)) none .any] [7, 8, 1, 0])
@[simp] def c14_n8 : SCode := (.region [.op 49 (.move (.t 1)) none .any, .op 50 (.load (some 4) (.t 1)) none .any, .op 51 (.call false (.k (.c (.func 57 [] []))) [(.t 1), (.t 0), (.k (.c (.int .i64 7569)))]) none .any, .op 48 (.move (.t 0)) none .any, .op 52 (.extract (.t 0) 0) none .any, .op 53 (.extract (.t 1) 1) none .any, .op 5 (.move (.t 1)) none .any, .op 6 (.move (.t 1)) none .any] [9, 10, 11, 1, 0])
@[simp] def c14_n10 : SCode := (.region [.op 55 (.move (.t 0)) none .any, .op 56 (.call false (.k (.c (.func 55 [] []))) [(.t 0)]) none .any, .op 54 (.move (.t 0)) none .any, .op 57 (.extract (.t 0) 0) none .any, .op 58 (.extract (.t 1) 1) none .any, .op 7 (.move (.t 1)) none .any, .op 8 (.move (.t 1)) none .any] [8, 9, 10, 11, 1, 0])
@[simp] def c14_n12 : SCode := (.region [.op 59 (.build [(.c (.str [])), (.c (.int .i64 0)), (.c (.int .i64 0))] [(0, 1, (.k (.c (.str [97, 110, 110])))), (1, 1, (.k (.c (.int .i64 10)))), (2, 1, (.k (.c (.int .i64 20))))]) none .any, .op 60 (.build [(.c (.str [])), (.c (.int .i64 0)), (.c (.int .i64 0))] [(0, 1, (.k (.c (.str [97, 110, 110])))), (1, 1, (.k (.c (.int .i64 21)))), (2, 1, (.k (.c (.int .i64 30))))]) none .any, .op 61 (.buildSlice 0 (some 3) 2 [(.c (.str [])), (.c (.int .i64 0)), (.c (.int .i64 0))] [(0, (.t 1)), (1, (.t 0))]) none .any, .op 9 (.move (.t 0)) none .any] [4, 5, 6, 7, 8, 9, 0])
@[simp] def c14_n14 : SCode := (.region [.op 63 (.move (.t 6)) none .any, .op 64 (.call false (.k (.c (.func 18 [] []))) [(.t 0), (.k (.c (.str [97, 110, 110]))), (.k (.c (.int .i64 15))), (.k (.c (.int .i64 25)))]) none .any, .op 62 (.move (.t 0)) none .any, .op 65 (.extract (.t 0) 0) none .any, .op 66 (.extract (.t 1) 1) none .any, .op 10 (.move (.t 1)) none .any, .op 11 (.move (.t 1)) none .any] [7, 8, 9, 10, 11, 12, 13, 1, 0])
@[simp] def c14_n16 : SCode := (.region [.op 68 (.move (.t 6)) none .any, .op 69 (.call false (.k (.c (.func 18 [] []))) [(.t 0), (.k (.c (.str [97, 110, 110]))), (.k (.c (.int .i64 15))), (.k (.c (.int .i64 31)))]) none .any, .op 67 (.move (.t 0)) none .any, .op 70 (.extract (.t 0) 0) none .any, .op 71 (.extract (.t 1) 1) none .any, .op 12 (.move (.t 1)) none .any, .op 13 (.move (.t 1)) none .any] [7, 8, 9, 10, 11, 12, 13, 14, 15, 1, 0])
@[simp] def c14_n18 : SCode := (.region [.op 73 (.move (.t 6)) none .any, .op 74 (.call false (.k (.c (.func 19 [] []))) [(.t 0), (.k (.c (.str [97, 110, 110]))), (.k (.c (.int .i64 15)))]) none .any, .op 72 (.move (.t 0)) none .any, .op 75 (.extract (.t 0) 0) none .any, .op 76 (.extract (.t 1) 1) none .any, .op 14 (.move (.t 1)) none .any, .op 15 (.move (.t 1)) none .any] [7, 8, 9, 10, 11, 12, 14, 15, 16, 17, 1, 0])
@[simp] def c14_n20 : SCode := (.region [.op 77 (.buildSlice 0 none 3 [(.c (.str []))] [(0, (.k (.c (.str [97, 110, 110])))), (1, (.k (.c (.str [98, 101, 97])))), (2, (.k (.c (.str [99, 105, 97]))))]) none .any, .op 16 (.move (.t 0)) none .any] [2, 3, 4, 5, 6, 7, 8, 9, 10, 11, 12, 13, 0])
@[simp] def c14_n22 : SCode := (.region [.op 78 (.build [(.c (.str [])), (.c (.int .i64 0))] [(0, 1, (.k (.c (.str [97, 110, 110])))), (1, 1, (.k (.c (.int .i64 5))))]) none .any, .op 79 (.build [(.c (.str [])), (.c (.int .i64 0))] [(0, 1, (.k (.c (.str [98, 101, 97])))), (1, 1, (.k (.c (.int .i64 9))))]) none .any, .op 80 (.buildSlice 0 (some 2) 2 [(.c (.str [])), (.c (.int .i64 0))] [(0, (.t 1)), (1, (.t 0))]) none .any, .op 17 (.move (.t 0)) none .any] [4, 5, 6, 7, 8, 9, 10, 11, 12, 13, 14, 15, 16, 0])
@[simp] def c14_n24 : SCode := (.region [.op 82 (.move (.t 12)) none .any, .op 83 (.move (.t 14)) none .any, .op 84 (.build [(.c (.int .i64 0)), (.c (.int .i64 0)), (.c (.int .i64 0))] [(0, 1, (.k (.c (.int .i64 2)))), (1, 1, (.k (.c (.int .i64 2)))), (2, 1, (.k (.c (.int .i64 1))))]) none .any, .op 85 (.call false (.k (.c (.func 33 [] []))) [(.t 2), (.t 1), (.t 0), (.k (.c (.int .i64 10)))]) none .any, .op 81 (.move (.t 0)) none .any, .op 86 (.extract (.t 0) 0) none .any, .op 87 (.extract (.t 1) 1) none .any, .op 18 (.move (.t 1)) none .any, .op 19 (.move (.t 1)) none .any] [9, 10, 11, 12, 13, 14, 15, 16, 17, 18, 19, 20, 21, 22, 1, 0])
@[simp] def c14_n26 : SCode := (.region [.op 89 (.move (.t 12)) none .any, .op 90 (.move (.t 14)) none .any, .op 91 (.call false (.k (.c (.func 34 [] []))) [(.t 1), (.t 0), (.k (.c (.int .i64 5))), (.k (.c (.int .i64 10)))]) none .any, .op 88 (.move (.t 0)) none .any, .op 92 (.extract (.t 0) 0) none .any, .op 93 (.extract (.t 1) 1) none .any, .op 20 (.move (.t 1)) none .any, .op 21 (.move (.t 1)) none .any] [8, 9, 10, 11, 12, 13, 14, 15, 16, 17, 18, 19, 22, 23, 1, 0])
@[simp] def c14_n28 : SCode := (.seq (.region [.op 94 (.move (.t 1)) none .any, .op 95 (.move (.t 4)) none .any, .op 96 (.bin .add (.t 1) (.t 0)) none .any, .op 97 (.move (.t 8)) none .any, .op 98 (.bin .add (.t 1) (.t 0)) none .any, .op 99 (.move (.t 12)) none .any, .op 100 (.bin .add (.t 1) (.t 0)) none .any, .op 101 (.move (.t 16)) none .any, .op 102 (.bin .add (.t 1) (.t 0)) none .any, .op 103 (.move (.t 20)) none .any, .op 104 (.bin .add (.t 1) (.t 0)) none .any, .op 105 (.move (.t 24)) none .any, .op 106 (.bin .add (.t 1) (.t 0)) none .any, .op 107 (.move (.t 28)) none .any, .op 108 (.bin .add (.t 1) (.t 0)) none .any, .op 109 (.bin .neq (.t 0) (.k (.c (.int .i64 0)))) none .any, .op 110 (.move (.t 0)) none .any, .orN 113 0 [.op 111 (.move (.t 17)) none .any, .op 112 (.bin .neq (.t 0) (.k (.c (.int .i64 18)))) none .any] (.t 0), .op 114 (.move (.t 0)) none .any, .orN 119 0 [.op 115 (.move (.t 21)) none .any, .op 116 (.buildSlice 2 none 2 [(.c (.str []))] [(0, (.k (.c (.str [121, 111, 117, 116, 104])))), (1, (.k (.c (.str [111, 112, 101, 110]))))]) none .any, .op 117 (.call false (.k (.c (.func 71 [] []))) [(.t 1), (.t 0)]) none .any, .op 118 (.not (.t 0)) none .any] (.t 0), .op 120 (.move (.t 0)) none .any, .orN 127 0 [.op 121 (.move (.t 25)) none .any, .op 122 (.build [(.c (.int .i64 0)), (.c (.int .i64 0))] [(0, 1, (.k (.c (.int .i64 0)))), (1, 1, (.k (.c (.int .i64 9))))]) none .any, .op 123 (.build [(.c (.int .i64 0)), (.c (.int .i64 0))] [(0, 1, (.k (.c (.int .i64 41)))), (1, 1, (.k (.c (.int .i64 120))))]) none .any, .op 124 (.buildSlice 2 (some 2) 2 [(.c (.int .i64 0)), (.c (.int .i64 0))] [(0, (.t 1)), (1, (.t 0))]) none .any, .op 125 (.call false (.k (.c (.func 66 [] []))) [(.t 3), (.t 0)]) none .any, .op 126 (.not (.t 0)) none .any] (.t 0), .op 128 (.move (.t 0)) none .any, .orN 131 0 [.op 129 (.move (.t 29)) none .any, .op 130 (.not (.t 0)) none .any] (.t 0), .op 132 (.move (.t 0)) none .any, .orN 134 0 [.op 133 (.move (.t 33)) none .any] (.t 0), .op 135 (.move (.t 0)) none .any, .orN 138 0 [.op 136 (.move (.t 37)) none .any, .op 137 (.bin .neq (.t 0) (.k (.c (.int .i64 31)))) none .any] (.t 0), .op 139 (.move (.t 0)) none .any, .orN 144 0 [.op 140 (.move (.t 41)) none .any, .op 141 (.buildSlice 2 none 2 [(.c (.str []))] [(0, (.k (.c (.str [99, 105, 97])))), (1, (.k (.c (.str [97, 110, 110]))))]) none .any, .op 142 (.call false (.k (.c (.func 71 [] []))) [(.t 1), (.t 0)]) none .any, .op 143 (.not (.t 0)) none .any] (.t 0), .op 145 (.move (.t 0)) none .any, .orN 150 0 [.op 146 (.move (.t 45)) none .any, .op 147 (.buildSlice 2 none 1 [(.c (.str []))] [(0, (.k (.c (.str [99, 105, 97]))))]) none .any, .op 148 (.call false (.k (.c (.func 71 [] []))) [(.t 1), (.t 0)]) none .any, .op 149 (.not (.t 0)) none .any] (.t 0)] [0]) (.cond (.t 0) (.seq (.region [.op 0 (.move (.k (.c (.bool false)))) none .any] [0]) .ret) (.pre [] .skip)))
@[simp] def c14_n30 : SCode := (.region [.op 152 (.call false (.k (.c (.func 72 [] []))) [(.k (.c (.int .i64 1)))]) none .any, .op 153 (.call false (.k (.c (.func 59 [] []))) [(.t 0)]) none .any, .op 151 (.move (.t 0)) none .any, .op 154 (.extract (.t 0) 0) none .any, .op 155 (.extract (.t 1) 1) none .any, .op 22 (.move (.t 1)) none .any, .op 23 (.move (.t 1)) none .any] [1, 0])
@[simp] def c14_n32 : SCode := (.region [.op 157 (.call false (.k (.c (.func 72 [] []))) [(.k (.c (.int .i64 1)))]) none .any, .op 158 (.call false (.k (.c (.func 73 [] []))) [(.t 0)]) none .any, .op 156 (.move (.t 0)) none .any, .op 159 (.extract (.t 0) 0) none .any, .op 160 (.extract (.t 1) 1) none .any, .op 24 (.move (.t 1)) none .any, .op 25 (.move (.t 1)) none .any] [7, 8, 1, 0])
@[simp] def c14_n34 : SCode := (.region [.op 162 (.call false (.k (.c (.func 72 [] []))) [(.k (.c (.int .i64 2)))]) none .any, .op 163 (.call false (.k (.c (.func 74 [] []))) [(.t 0)]) none .any, .op 161 (.move (.t 0)) none .any, .op 164 (.extract (.t 0) 0) none .any, .op 165 (.extract (.t 1) 1) none .any, .op 26 (.move (.t 1)) none .any, .op 27 (.move (.t 1)) none .any] [7, 8, 9, 10, 1, 0])
@[simp] def c14_n36 : SCode := (.region [.op 167 (.call false (.k (.c (.func 72 [] []))) [(.k (.c (.int .i64 2)))]) none .any, .op 168 (.call false (.k (.c (.func 60 [] []))) [(.t 0)]) none .any, .op 166 (.move (.t 0)) none .any, .op 169 (.extract (.t 0) 0) none .any, .op 170 (.extract (.t 1) 1) none .any, .op 28 (.move (.t 1)) none .any, .op 29 (.move (.t 1)) none .any] [7, 8, 9, 10, 11, 12, 1, 0])
@[simp] def c14_n38 : SCode := (.region [.op 172 (.call false (.k (.c (.func 72 [] []))) [(.k (.c (.int .i64 2)))]) none .any, .op 173 (.buildSlice 2 none 3 [(.c (.int .i64 0))] [(0, (.k (.c (.int .i64 1)))), (1, (.k (.c (.int .i64 0)))), (2, (.k (.c (.int .i64 1))))]) none .any, .op 174 (.call false (.k (.c (.func 48 [] []))) [(.t 1), (.t 0), (.k (.c (.int .i64 1)))]) none .any, .op 171 (.move (.t 0)) none .any, .op 175 (.extract (.t 0) 0) none .any, .op 176 (.extract (.t 1) 1) none .any, .op 30 (.move (.t 1)) none .any, .op 31 (.move (.t 1)) none .any] [8, 9, 10, 11, 12, 13, 14, 15, 0])
@[simp] def c14_n40 : SCode := (.region [.op 177 (.call false (.k (.c (.func 72 [] []))) [(.k (.c (.int .i64 2)))]) none .any, .op 32 (.new [.nil, .nil]) none .any, .eff (.store 2 (.t 0) (.t 1)) none .any] [2, 3, 4, 5, 6, 7, 8, 9, 10, 0])
@[simp] def c14_n42 : SCode := (.region [.op 178 (.fieldAddr 0 (.t 9)) none .any, .op 179 (.load none (.t 0)) none .any, .op 180 (.buildSlice 0 none 2 [(.c (.str []))] [(0, (.k (.c (.str [106, 117, 100, 103, 101])))), (1, (.k (.c (.str [115, 101, 116, 116, 101, 114]))))]) none .any, .op 181 (.build [(.c (.str [])), (.c (.str [])), .nil, (.c (.int .i64 0))] [(0, 1, (.k (.c (.str [119])))), (1, 1, (.k (.c (.str [67])))), (2, 1, (.t 0)), (3, 1, (.k (.c (.int .i64 2))))]) none .any, .op 182 (.buildSlice 2 (some 4) 1 [(.c (.str [])), (.c (.str [])), .nil, (.c (.int .i64 0))] [(0, (.t 0))]) none .any, .op 183 (.append (some 4) 64 (.t 3) (.t 0)) none .any, .op 184 (.fieldAddr 0 (.t 15)) none .any, .eff (.store 1 (.t 0) (.t 1)) none .any] [7, 8, 9, 10, 11, 12, 13, 14, 15, 16])
@[simp] def c14_n44 : SCode := (.region [.op 186 (.load (some 2) (.t 9)) none .any, .op 187 (.buildSlice 2 none 3 [(.c (.int .i64 0))] [(0, (.k (.c (.int .i64 1)))), (1, (.k (.c (.int .i64 0)))), (2, (.k (.c (.int .i64 1))))]) none .any, .op 188 (.call false (.k (.c (.func 48 [] []))) [(.t 1), (.t 0), (.k (.c (.int .i64 1)))]) none .any, .op 185 (.move (.t 0)) none .any, .op 189 (.extract (.t 0) 0) none .any, .op 190 (.extract (.t 1) 1) none .any, .op 33 (.move (.t 1)) none .any, .op 34 (.move (.t 1)) none .any] [8, 9, 10, 11, 12, 13, 14, 15, 16, 1, 0])
@[simp] def c14_n46 : SCode := (.region [.op 192 (.call false (.k (.c (.func 72 [] []))) [(.k (.c (.int .i64 2)))]) none .any, .op 193 (.call false (.k (.c (.func 75 [] []))) [(.t 0)]) none .any, .op 191 (.move (.t 0)) none .any, .op 194 (.extract (.t 0) 0) none .any, .op 195 (.extract (.t 1) 1) none .any, .op 35 (.move (.t 1)) none .any, .op 36 (.move (.t 1)) none .any] [7, 8, 9, 10, 11, 12, 13, 14, 15, 16, 17, 1, 0])
@[simp] def c14_n48 : SCode := (.region [.op 197 (.call false (.k (.c (.func 72 [] []))) [(.k (.c (.int .i64 2)))]) none .any, .op 198 (.call false (.k (.c (.func 43 [] []))) [(.t 0), (.k (.c (.int .i64 0))), (.k (.c (.int .i64 0)))]) none .any, .op 196 (.move (.t 0)) none .any, .op 199 (.extract (.t 0) 0) none .any, .op 200 (.extract (.t 1) 1) none .any, .op 37 (.move (.t 1)) none .any, .op 38 (.move (.t 1)) none .any] [7, 8, 9, 10, 11, 12, 13, 14, 15, 16, 17, 18, 19, 1, 0])
@[simp] def c14_n50 : SCode := (.seq (.region [.op 201 (.move (.t 1)) none .any, .op 202 (.move (.t 4)) none .any, .op 203 (.bin .add (.t 1) (.t 0)) none .any, .op 204 (.move (.t 8)) none .any, .op 205 (.bin .add (.t 1) (.t 0)) none .any, .op 206 (.move (.t 12)) none .any, .op 207 (.bin .add (.t 1) (.t 0)) none .any, .op 208 (.move (.t 17)) none .any, .op 209 (.bin .add (.t 1) (.t 0)) none .any, .op 210 (.move (.t 21)) none .any, .op 211 (.bin .add (.t 1) (.t 0)) none .any, .op 212 (.move (.t 25)) none .any, .op 213 (.bin .add (.t 1) (.t 0)) none .any, .op 214 (.bin .neq (.t 0) (.k (.c (.int .i64 0)))) none .any, .op 215 (.move (.t 0)) none .any, .orN 218 0 [.op 216 (.move (.t 23)) none .any, .op 217 (.bin .neq (.t 0) (.k (.c (.int .i64 23)))) none .any] (.t 0), .op 219 (.move (.t 0)) none .any, .orN 221 0 [.op 220 (.move (.t 30)) none .any] (.t 0)] [18, 20, 22, 24, 27, 29, 0]) (.cond (.t 6) (.seq (.region [.op 0 (.move (.k (.c (.bool false)))) none .any] [0]) .ret) (.pre [0, 1, 2, 3, 4, 5] .skip)))
@[simp] def c14_n52 : SCode := (.region [.op 222 (.move (.t 0)) none .any, .op 223 (.bin .eql (.t 0) (.k (.c (.int .i64 2)))) none .any, .op 224 (.move (.t 0)) none .any, .andN 228 0 [.op 225 (.move (.t 4)) none .any, .op 226 (.buildSlice 2 none 2 [(.c (.int .i64 0))] [(0, (.k (.c (.int .i64 0)))), (1, (.k (.c (.int .i64 2))))]) none .any, .op 227 (.call false (.k (.c (.func 76 [] []))) [(.t 1), (.t 0)]) none .any] (.t 0), .op 229 (.move (.t 0)) none .any, .andN 233 0 [.op 230 (.move (.t 7)) none .any, .op 231 (.buildSlice 2 none 3 [(.c (.int .i64 0))] [(0, (.k (.c (.int .i64 1)))), (1, (.k (.c (.int .i64 0)))), (2, (.k (.c (.int .i64 1))))]) none .any, .op 232 (.call false (.k (.c (.func 76 [] []))) [(.t 1), (.t 0)]) none .any] (.t 0), .op 234 (.move (.t 0)) none .any, .andN 237 0 [.op 235 (.move (.t 10)) none .any, .op 236 (.bin .eql (.t 0) (.k (.c (.int .i64 2)))) none .any] (.t 0), .op 238 (.move (.t 0)) none .any, .andN 242 0 [.op 239 (.move (.t 13)) none .any, .op 240 (.buildSlice 2 none 3 [(.c (.int .i64 0))] [(0, (.k (.c (.int .i64 2)))), (1, (.k (.c (.int .i64 0)))), (2, (.k (.c (.int .i64 2))))]) none .any, .op 241 (.call false (.k (.c (.func 76 [] []))) [(.t 1), (.t 0)]) none .any] (.t 0), .op 243 (.move (.t 0)) none .any, .andN 247 0 [.op 244 (.move (.t 16)) none .any, .op 245 (.buildSlice 2 none 3 [(.c (.int .i64 0))] [(0, (.k (.c (.int .i64 1)))), (1, (.k (.c (.int .i64 0)))), (2, (.k (.c (.int .i64 1))))]) none .any, .op 246 (.call false (.k (.c (.func 76 [] []))) [(.t 1), (.t 0)]) none .any] (.t 0), .op 0 (.move (.t 0)) none .any] [0])
def c14_n51 : SCode := .seq c14_n52 .ret
instance : IsSeq c14_n51 c14_n52 .ret := ⟨rfl⟩
def c14_n49 : SCode := .seq c14_n50 c14_n51
instance : IsSeq c14_n49 c14_n50 c14_n51 := ⟨rfl⟩
def c14_n47 : SCode := .seq c14_n48 c14_n49
instance : IsSeq c14_n47 c14_n48 c14_n49 := ⟨rfl⟩
def c14_n45 : SCode := .seq c14_n46 c14_n47
instance : IsSeq c14_n45 c14_n46 c14_n47 := ⟨rfl⟩
def c14_n43 : SCode := .seq c14_n44 c14_n45
instance : IsSeq c14_n43 c14_n44 c14_n45 := ⟨rfl⟩
def c14_n41 : SCode := .seq c14_n42 c14_n43
instance : IsSeq c14_n41 c14_n42 c14_n43 := ⟨rfl⟩
def c14_n39 : SCode := .seq c14_n40 c14_n41
instance : IsSeq c14_n39 c14_n40 c14_n41 := ⟨rfl⟩
def c14_n37 : SCode := .seq c14_n38 c14_n39
instance : IsSeq c14_n37 c14_n38 c14_n39 := ⟨rfl⟩
def c14_n35 : SCode := .seq c14_n36 c14_n37
instance : IsSeq c14_n35 c14_n36 c14_n37 := ⟨rfl⟩
def c14_n33 : SCode := .seq c14_n34 c14_n35
instance : IsSeq c14_n33 c14_n34 c14_n35 := ⟨rfl⟩
def c14_n31 : SCode := .seq c14_n32 c14_n33
instance : IsSeq c14_n31 c14_n32 c14_n33 := ⟨rfl⟩
def c14_n29 : SCode := .seq c14_n30 c14_n31
instance : IsSeq c14_n29 c14_n30 c14_n31 := ⟨rfl⟩
def c14_n27 : SCode := .seq c14_n28 c14_n29
instance : IsSeq c14_n27 c14_n28 c14_n29 := ⟨rfl⟩
def c14_n25 : SCode := .seq c14_n26 c14_n27
instance : IsSeq c14_n25 c14_n26 c14_n27 := ⟨rfl⟩
def c14_n23 : SCode := .seq c14_n24 c14_n25
instance : IsSeq c14_n23 c14_n24 c14_n25 := ⟨rfl⟩
def c14_n21 : SCode := .seq c14_n22 c14_n23
instance : IsSeq c14_n21 c14_n22 c14_n23 := ⟨rfl⟩
def c14_n19 : SCode := .seq c14_n20 c14_n21
instance : IsSeq c14_n19 c14_n20 c14_n21 := ⟨rfl⟩
def c14_n17 : SCode := .seq c14_n18 c14_n19
instance : IsSeq c14_n17 c14_n18 c14_n19 := ⟨rfl⟩
def c14_n15 : SCode := .seq c14_n16 c14_n17
instance : IsSeq c14_n15 c14_n16 c14_n17 := ⟨rfl⟩
def c14_n13 : SCode := .seq c14_n14 c14_n15
instance : IsSeq c14_n13 c14_n14 c14_n15 := ⟨rfl⟩
def c14_n11 : SCode := .seq c14_n12 c14_n13
instance : IsSeq c14_n11 c14_n12 c14_n13 := ⟨rfl⟩
def c14_n9 : SCode := .seq c14_n10 c14_n11
instance : IsSeq c14_n9 c14_n10 c14_n11 := ⟨rfl⟩
def c14_n7 : SCode := .seq c14_n8 c14_n9
instance : IsSeq c14_n7 c14_n8 c14_n9 := ⟨rfl⟩
def c14_n5 : SCode := .seq c14_n6 c14_n7
instance : IsSeq c14_n5 c14_n6 c14_n7 := ⟨rfl⟩
def c14_n3 : SCode := .seq c14_n4 c14_n5
instance : IsSeq c14_n3 c14_n4 c14_n5 := ⟨rfl⟩
def c14_n1 : SCode := .seq c14_n2 c14_n3
instance : IsSeq c14_n1 c14_n2 c14_n3 := ⟨rfl⟩
def c14 : SCode := (.seq (.region [.op 0 (.move (.k (.c (.bool false)))) none .any] []) c14_n1)
def F14 : SFunc := .code .pure 248 0 [some 0] [.tmp 0] c14
end LM.G9

