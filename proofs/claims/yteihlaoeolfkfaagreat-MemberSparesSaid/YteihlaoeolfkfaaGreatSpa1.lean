/- Part 4 of what YteihlaoeolfkfaaGreatSpa leans on. -/
import Derived.Test.YteihlaoeolfkfaaGreatLib1
import Derived.Test.YteihlaoeolfkfaaGreatLib2
import Derived.Test.YteihlaoeolfkfaaGreatLib3
set_option linter.all false
namespace LM.G9
open Go LM
-- crux/cruxlaw09.MemberSpares
-- c9_l0: env [0, 1, 5, 9, 11, 13, 125, 126]
-- c9_l1: env [0, 1, 5, 11, 13, 16, 18, 19, 139, 140, 141, 157, 158, 159]
-- c9_l2: env [0, 1, 5, 11, 13, 16, 139, 140, 141]
-- c9_l3: env [0, 198, 199, 200]
@[simp] def c9_n2 : SCode := (.cond (.t 8) (.pre [0, 1, 2, 3, 4, 5, 6, 7] .skip) (.pre [0, 1, 2, 4, 5] (.exit 0)))
@[simp] def c9_n5 : SCode := (.region [.op 128 (.move (.t 7)) none .any, .op 15 (.move (.t 0)) none .any] [2, 3, 4, 5, 6, 7, 0, 8, 9])
@[simp] def c9_n7 : SCode := (.draw 0 [.op 129 (.move (.t 3)) none .any, .op 130 (.move (.t 7)) none .any, .op 131 (.idxSlice 1 (.t 1) (.t 0)) none .any, .op 132 (.load none (.t 0)) none .old, .op 133 (.move (.t 8)) none .any, .op 134 (.move (.t 11)) none .any, .op 135 (.idxSlice 1 (.t 1) (.t 0)) none .any, .op 136 (.load none (.t 0)) none .old, .op 137 (.bin .neq (.t 4) (.t 0)) none .any] [9, 10, 11, 12, 13, 14, 16, 17, 0])
def c9_n6 : SCode := .seq c9_n7 (.cond (.t 8) (.seq (.region [.op 6 (.move (.k (.c (.bool false)))) none .any] [0]) .ret) (.pre [0, 1, 2, 3, 4, 5, 6, 7] .skip))
instance : IsSeq c9_n6 c9_n7 (.cond (.t 8) (.seq (.region [.op 6 (.move (.k (.c (.bool false)))) none .any] [0]) .ret) (.pre [0, 1, 2, 3, 4, 5, 6, 7] .skip)) := ⟨rfl⟩
def c9_n4 : SCode := .seq c9_n5 c9_n6
instance : IsSeq c9_n4 c9_n5 c9_n6 := ⟨rfl⟩
@[simp] def c9_n8 : SCode := (.block 1 [some 0, some 1, some 5, some 9, some 11, some 13, some 125, some 126] c9_n4)
def c9_n3 : SCode := .seq c9_n8 (.region [.op 138 (.bin .add (.t 7) (.k (.c (.int .i64 1)))) none .any, .op 126 (.move (.t 0)) none .any] [2, 3, 4, 5, 6, 7, 8, 0])
instance : IsSeq c9_n3 c9_n8 (.region [.op 138 (.bin .add (.t 7) (.k (.c (.int .i64 1)))) none .any, .op 126 (.move (.t 0)) none .any] [2, 3, 4, 5, 6, 7, 8, 0]) := ⟨rfl⟩
def c9_n1 : SCode := .seq c9_n2 c9_n3
instance : IsSeq c9_n1 c9_n2 c9_n3 := ⟨rfl⟩
def c9_l0b : SCode := (.seq (.region [.op 127 (.bin .lss (.t 7) (.t 6)) none .any] [1, 2, 3, 4, 5, 6, 7, 8, 0]) c9_n1)
def c9_l0 : SCode := .loop true c9_l0b
@[simp] def c9_n10 : SCode := (.cond (.t 14) (.pre [0, 1, 2, 3, 4, 5, 6, 7, 8, 9, 10, 11, 12, 13] .skip) (.pre [0, 1, 2, 3, 4, 5, 7, 8, 9, 10] (.exit 4)))
@[simp] def c9_n13 : SCode := (.region [.op 161 (.idxSlice 2 (.t 11) (.t 13)) none .any, .op 162 (.load (some 2) (.t 0)) none .any, .op 21 (.new [(.c (.str [])), (.c (.int .i64 0))]) none .any, .eff (.store 2 (.t 0) (.t 1)) none .any] [3, 4, 5, 6, 7, 8, 9, 10, 0, 11, 12, 13, 14, 15, 16])
@[simp] def c9_n15 : SCode := (.region [.op 163 (.fieldAddr 0 (.t 8)) none .any, .op 164 (.load none (.t 0)) none .any, .op 165 (.move (.t 8)) none .any, .op 166 (.bin .eql (.t 1) (.t 0)) none .any, .op 167 (.move (.t 0)) none .any, .andN 173 0 [.op 168 (.fieldAddr 1 (.t 13)) none .any, .op 169 (.load none (.t 0)) none .any, .op 170 (.fieldAddr 4 (.t 9)) none .any, .op 171 (.load none (.t 0)) none .any, .op 172 (.bin .leq (.t 2) (.t 0)) none .any] (.t 0)] [6, 7, 8, 9, 10, 11, 12, 13, 14, 15, 16, 17, 18, 19, 20, 0])
def c9_n14 : SCode := .seq c9_n15 (.cond (.t 15) (.region [.op 174 (.move (.t 7)) none .any, .op 175 (.fieldAddr 1 (.t 9)) none .any, .op 176 (.load none (.t 0)) none .any, .op 177 (.max (.t 2) [(.t 0)]) none .any, .op 19 (.move (.t 0)) none .any] [5, 6, 7, 8, 9, 10, 11, 0, 14, 15, 16, 17, 18, 19]) (.pre [0, 1, 2, 3, 4, 5, 6, 7, 9, 10, 11, 12, 13, 14] .skip))
instance : IsSeq c9_n14 c9_n15 (.cond (.t 15) (.region [.op 174 (.move (.t 7)) none .any, .op 175 (.fieldAddr 1 (.t 9)) none .any, .op 176 (.load none (.t 0)) none .any, .op 177 (.max (.t 2) [(.t 0)]) none .any, .op 19 (.move (.t 0)) none .any] [5, 6, 7, 8, 9, 10, 11, 0, 14, 15, 16, 17, 18, 19]) (.pre [0, 1, 2, 3, 4, 5, 6, 7, 9, 10, 11, 12, 13, 14] .skip)) := ⟨rfl⟩
def c9_n12 : SCode := .seq c9_n13 c9_n14
instance : IsSeq c9_n12 c9_n13 c9_n14 := ⟨rfl⟩
@[simp] def c9_n16 : SCode := (.block 5 [some 0, some 1, some 5, some 11, some 13, some 16, some 18, some 19, some 139, some 140, some 141, some 157, some 158, some 159] c9_n12)
def c9_n11 : SCode := .seq c9_n16 (.region [.op 178 (.bin .add (.t 13) (.k (.c (.int .i64 1)))) none .any, .op 159 (.move (.t 0)) none .any] [2, 3, 4, 5, 6, 7, 8, 9, 10, 11, 12, 13, 14, 0])
instance : IsSeq c9_n11 c9_n16 (.region [.op 178 (.bin .add (.t 13) (.k (.c (.int .i64 1)))) none .any, .op 159 (.move (.t 0)) none .any] [2, 3, 4, 5, 6, 7, 8, 9, 10, 11, 12, 13, 14, 0]) := ⟨rfl⟩
def c9_n9 : SCode := .seq c9_n10 c9_n11
instance : IsSeq c9_n9 c9_n10 c9_n11 := ⟨rfl⟩
def c9_l1b : SCode := (.seq (.region [.op 160 (.bin .lss (.t 13) (.t 12)) none .any] [1, 2, 3, 4, 5, 6, 7, 8, 9, 10, 11, 12, 13, 14, 0]) c9_n9)
def c9_l1 : SCode := .loop true c9_l1b
@[simp] def c9_n20 : SCode := (.region [.op 143 (.move (.t 8)) none .any, .op 144 (.idxSlice 1 (.t 7) (.t 9)) none .any, .op 145 (.load none (.t 0)) none .any, .op 17 (.move (.t 2)) none .any, .op 18 (.move (.t 1)) none .any] [5, 6, 7, 8, 9, 10, 1, 0, 11, 12, 13])
@[simp] def c9_n22 : SCode := (.seq (.region [.op 146 (.move (.t 4)) none .any, .op 147 (.move (.t 8)) none .any, .op 148 (.call false (.k (.c (.func 58 [] []))) [(.t 1), (.t 0)]) none .any, .op 149 (.not (.t 0)) none .any, .op 150 (.move (.t 0)) none .any, .orN 156 0 [.op 151 (.move (.t 8)) none .any, .op 152 (.move (.t 12)) none .any, .op 153 (.sliceSl 1 (.t 1) none (some (.t 0)) none) none .any, .op 154 (.move (.t 15)) none .any, .op 155 (.call false (.k (.c (.func 58 [] []))) [(.t 1), (.t 0)]) none .any] (.t 0)] [6, 7, 8, 9, 10, 11, 13, 14, 15, 16, 0]) (.cond (.t 10) (.seq (.region [.op 6 (.move (.k (.c (.bool false)))) none .any] [0]) .ret) (.pre [0, 1, 2, 3, 4, 5, 6, 7, 8, 9] .skip)))
@[simp] def c9_n24 : SCode := (.region [.op 19 (.move (.k (.c (.int .i64 (-1))))) none .any] [1, 2, 3, 4, 5, 6, 7, 0, 8, 9, 10])
@[simp] def c9_n26 : SCode := (.seq (.region [.op 157 (.move (.t 1)) none .any, .op 158 (.len 1 (.t 0)) none .any, .op 159 (.move (.k (.c (.int .i64 0)))) none .any] [3, 4, 5, 6, 7, 8, 9, 10, 11, 12, 13, 2, 1, 0]) (.block 4 [some 0, some 1, some 5, some 11, some 13, some 16, some 19, some 139, some 140, some 141] c9_l1))
@[simp] def c9_n28 : SCode := (.seq (.region [.op 179 (.move (.t 6)) none .any, .op 180 (.move (.t 6)) none .any, .op 181 (.bin .lss (.t 1) (.t 0)) none .any, .op 182 (.move (.t 0)) none .any, .orN 195 0 [.op 183 (.move (.t 10)) none .any, .op 184 (.bin .geq (.t 0) (.k (.c (.int .i64 0)))) none .any, .op 185 (.move (.t 0)) none .any, .andN 194 0 [.op 186 (.move (.t 13)) none .any, .op 187 (.fieldAddr 4 (.t 10)) none .any, .op 188 (.load none (.t 0)) none .any, .op 189 (.fieldAddr 0 (.t 12)) none .any, .op 190 (.fieldAddr 1 (.t 0)) none .any, .op 191 (.load none (.t 0)) none .any, .op 192 (.bin .sub (.t 3) (.t 0)) none .any, .op 193 (.bin .geq (.t 6) (.t 0)) none .any] (.t 0)] (.t 0)] [5, 6, 7, 8, 9, 11, 12, 13, 14, 0]) (.cond (.t 9) (.seq (.region [.op 6 (.move (.k (.c (.bool false)))) none .any] [0]) .ret) (.pre [0, 1, 2, 3, 4, 5, 6, 7, 8] .skip)))
def c9_n27 : SCode := .seq c9_n28 (.region [.op 196 (.move (.t 5)) none .any, .op 16 (.move (.t 0)) none .any] [2, 3, 4, 5, 6, 0, 8, 9, 10])
instance : IsSeq c9_n27 c9_n28 (.region [.op 196 (.move (.t 5)) none .any, .op 16 (.move (.t 0)) none .any] [2, 3, 4, 5, 6, 0, 8, 9, 10]) := ⟨rfl⟩
def c9_n25 : SCode := .seq c9_n26 c9_n27
instance : IsSeq c9_n25 c9_n26 c9_n27 := ⟨rfl⟩
def c9_n23 : SCode := .seq c9_n24 c9_n25
instance : IsSeq c9_n23 c9_n24 c9_n25 := ⟨rfl⟩
def c9_n21 : SCode := .seq c9_n22 c9_n23
instance : IsSeq c9_n21 c9_n22 c9_n23 := ⟨rfl⟩
def c9_n19 : SCode := .seq c9_n20 c9_n21
instance : IsSeq c9_n19 c9_n20 c9_n21 := ⟨rfl⟩
@[simp] def c9_n29 : SCode := (.block 3 [some 0, some 1, some 5, some 11, some 13, some 16, some 139, some 140, some 141] c9_n19)
def c9_n18 : SCode := .seq c9_n29 (.region [.op 197 (.bin .add (.t 8) (.k (.c (.int .i64 1)))) none .any, .op 141 (.move (.t 0)) none .any] [2, 3, 4, 5, 6, 7, 8, 9, 0])
instance : IsSeq c9_n18 c9_n29 (.region [.op 197 (.bin .add (.t 8) (.k (.c (.int .i64 1)))) none .any, .op 141 (.move (.t 0)) none .any] [2, 3, 4, 5, 6, 7, 8, 9, 0]) := ⟨rfl⟩
def c9_n17 : SCode := .seq (.cond (.t 9) (.pre [0, 1, 2, 3, 4, 5, 6, 7, 8] .skip) (.pre [0, 4] (.exit 2))) c9_n18
instance : IsSeq c9_n17 (.cond (.t 9) (.pre [0, 1, 2, 3, 4, 5, 6, 7, 8] .skip) (.pre [0, 4] (.exit 2))) c9_n18 := ⟨rfl⟩
def c9_l2b : SCode := (.seq (.region [.op 142 (.bin .lss (.t 8) (.t 7)) none .any] [1, 2, 3, 4, 5, 6, 7, 8, 9, 0]) c9_n17)
def c9_l2 : SCode := .loop true c9_l2b
@[simp] def c9_n33 : SCode := (.region [.op 202 (.idxSlice 1 (.t 1) (.t 3)) none .any, .op 203 (.load none (.t 0)) none .any, .op 23 (.move (.t 0)) none .any] [3, 0, 4, 5, 6])
def c9_n32 : SCode := .seq c9_n33 (.seq (.region [.op 204 (.move (.t 0)) none .any, .op 205 (.move (.t 2)) none .any, .op 206 (.call false (.k (.c (.func 58 [] []))) [(.t 1), (.t 0)]) none .any, .op 207 (.not (.t 0)) none .any] [4, 6, 7, 8, 0]) (.cond (.t 4) (.seq (.region [.op 6 (.move (.k (.c (.bool false)))) none .any] [0]) .ret) (.pre [0, 1, 2, 3] .skip)))
instance : IsSeq c9_n32 c9_n33 (.seq (.region [.op 204 (.move (.t 0)) none .any, .op 205 (.move (.t 2)) none .any, .op 206 (.call false (.k (.c (.func 58 [] []))) [(.t 1), (.t 0)]) none .any, .op 207 (.not (.t 0)) none .any] [4, 6, 7, 8, 0]) (.cond (.t 4) (.seq (.region [.op 6 (.move (.k (.c (.bool false)))) none .any] [0]) .ret) (.pre [0, 1, 2, 3] .skip))) := ⟨rfl⟩
def c9_n31 : SCode := .seq (.block 7 [some 0, some 198, some 199, some 200] c9_n32) (.region [.op 208 (.bin .add (.t 3) (.k (.c (.int .i64 1)))) none .any, .op 200 (.move (.t 0)) none .any] [2, 3, 4, 0])
instance : IsSeq c9_n31 (.block 7 [some 0, some 198, some 199, some 200] c9_n32) (.region [.op 208 (.bin .add (.t 3) (.k (.c (.int .i64 1)))) none .any, .op 200 (.move (.t 0)) none .any] [2, 3, 4, 0]) := ⟨rfl⟩
def c9_n30 : SCode := .seq (.cond (.t 4) (.pre [0, 1, 2, 3] .skip) (.pre [] (.exit 6))) c9_n31
instance : IsSeq c9_n30 (.cond (.t 4) (.pre [0, 1, 2, 3] .skip) (.pre [] (.exit 6))) c9_n31 := ⟨rfl⟩
def c9_l3b : SCode := (.seq (.region [.op 201 (.bin .lss (.t 3) (.t 2)) none .any] [1, 2, 3, 4, 0]) c9_n30)
def c9_l3 : SCode := .loop true c9_l3b
@[simp] def c9_n35 : SCode := (.region [.op 24 (.move (.t 1)) none .any, .op 25 (.call false (.k (.c (.func 28 [] []))) [(.t 0)]) none .any, .op 7 (.move (.t 0)) none .any] [3, 4, 5, 0])
@[simp] def c9_n37 : SCode := (.seq (.region [.op 26 (.call false (.k (.c (.func 14 [] []))) []) none .any, .op 27 (.not (.t 0)) none .any, .op 28 (.move (.t 0)) none .any, .orN 32 0 [.op 29 (.move (.t 3)) none .any, .op 30 (.len 1 (.t 0)) none .any, .op 31 (.bin .gtr (.t 0) (.k (.c (.int .i64 12)))) none .any] (.t 0), .op 33 (.move (.t 0)) none .any, .orN 37 0 [.op 34 (.move (.t 6)) none .any, .op 35 (.len 1 (.t 0)) none .any, .op 36 (.bin .gtr (.t 0) (.k (.c (.int .i64 20)))) none .any] (.t 0), .op 38 (.move (.t 0)) none .any, .orN 43 0 [.op 39 (.move (.t 7)) none .any, .op 40 (.move (.t 11)) none .any, .op 41 (.call false (.k (.c (.func 29 [] []))) [(.t 1), (.t 0)]) none .any, .op 42 (.not (.t 0)) none .any] (.t 0), .op 44 (.move (.t 0)) none .any, .orN 51 0 [.op 45 (.move (.t 9)) none .any, .op 46 (.call false (.k (.c (.func 32 [] []))) [(.t 0)]) none .any, .op 47 (.move (.t 14)) none .any, .op 48 (.call false (.k (.c (.func 31 [] []))) [(.t 0)]) none .any, .op 49 (.bin .add (.t 2) (.t 0)) none .any, .op 50 (.bin .neq (.t 0) (.k (.c (.int .i64 0)))) none .any] (.t 0), .op 52 (.move (.t 0)) none .any, .orN 57 0 [.op 53 (.fieldAddr 0 (.t 13)) none .any, .op 54 (.load (some 3) (.t 0)) none .any, .op 55 (.call false (.k (.c (.func 35 [] []))) [(.t 0)]) none .any, .op 56 (.bin .neq (.t 0) (.k (.c (.int .i64 0)))) none .any] (.t 0), .op 58 (.move (.t 0)) none .any, .orN 63 0 [.op 59 (.fieldAddr 4 (.t 15)) none .any, .op 60 (.load none (.t 0)) none .any, .op 61 (.call false (.k (.c (.func 23 [] []))) [(.t 0)]) none .any, .op 62 (.bin .neq (.t 0) (.k (.c (.int .i64 0)))) none .any] (.t 0)] [14, 15, 16, 0]) (.cond (.t 3) (.seq (.region [.op 64 (.call false (.k (.c (.func 14 [] []))) []) none .any, .op 6 (.move (.t 0)) none .any] [0]) .ret) (.pre [0, 1, 2] .skip)))
@[simp] def c9_n39 : SCode := (.region [.op 65 (.fieldAddr 0 (.t 2)) none .any, .op 66 (.load (some 3) (.t 0)) none .any, .op 8 (.new [(.c (.int .i64 0)), (.c (.int .i64 0)), (.c (.int .i64 0))]) none .any, .eff (.store 3 (.t 0) (.t 1)) none .any] [3, 4, 5, 0])
@[simp] def c9_n41 : SCode := (.region [.op 67 (.move (.t 0)) none .any, .op 68 (.len 1 (.t 0)) none .any, .op 69 (.fieldAddr 0 (.t 5)) none .any, .eff (.store 1 (.t 0) (.t 1)) none .any] [3, 4, 5, 6])
@[simp] def c9_n43 : SCode := (.region [.op 71 (.move (.t 0)) none .any, .op 72 (.move (.t 2)) none .any, .op 73 (.fieldAddr 0 (.t 4)) none .any, .op 74 (.load (some 3) (.t 0)) none .any, .op 75 (.fieldAddr 4 (.t 6)) none .any, .op 76 (.load none (.t 0)) none .any, .op 77 (.call false (.k (.c (.func 33 [] []))) [(.t 5), (.t 4), (.t 2), (.t 0)]) none .any, .op 70 (.move (.t 0)) none .any, .op 78 (.extract (.t 0) 0) none .any, .op 79 (.extract (.t 1) 1) none .any, .op 9 (.move (.t 1)) none .any, .op 10 (.move (.t 1)) none .any] [12, 13, 14, 15, 1, 0])
@[simp] def c9_n45 : SCode := (.region [.op 81 (.move (.t 0)) none .any, .op 82 (.move (.t 2)) none .any, .op 83 (.load (some 3) (.t 5)) none .any, .op 84 (.fieldAddr 4 (.t 5)) none .any, .op 85 (.load none (.t 0)) none .any, .op 86 (.call false (.k (.c (.func 33 [] []))) [(.t 4), (.t 3), (.t 2), (.t 0)]) none .any, .op 80 (.move (.t 0)) none .any, .op 87 (.extract (.t 0) 0) none .any, .op 88 (.extract (.t 1) 1) none .any, .op 11 (.move (.t 1)) none .any, .op 12 (.move (.t 1)) none .any] [11, 12, 13, 15, 16, 1, 0])
@[simp] def c9_n47 : SCode := (.region [.op 90 (.move (.t 0)) none .any, .op 91 (.move (.t 2)) none .any, .op 92 (.fieldAddr 0 (.t 4)) none .any, .op 93 (.fieldAddr 1 (.t 0)) none .any, .op 94 (.load none (.t 0)) none .any, .op 95 (.fieldAddr 4 (.t 7)) none .any, .op 96 (.load none (.t 0)) none .any, .op 97 (.call false (.k (.c (.func 34 [] []))) [(.t 6), (.t 5), (.t 2), (.t 0)]) none .any, .op 89 (.move (.t 0)) none .any, .op 98 (.extract (.t 0) 0) none .any, .op 99 (.extract (.t 1) 1) none .any, .op 13 (.move (.t 1)) none .any, .op 14 (.move (.t 1)) none .any] [13, 14, 15, 16, 17, 18, 19, 1, 0])
@[simp] def c9_n49 : SCode := (.seq (.region [.op 100 (.move (.t 4)) none .any, .op 101 (.move (.t 7)) none .any, .op 102 (.bin .add (.t 1) (.t 0)) none .any, .op 103 (.move (.t 11)) none .any, .op 104 (.bin .add (.t 1) (.t 0)) none .any, .op 105 (.bin .neq (.t 0) (.k (.c (.int .i64 0)))) none .any, .op 106 (.move (.t 0)) none .any, .orN 116 0 [.op 107 (.move (.t 10)) none .any, .op 108 (.len 1 (.t 0)) none .any, .op 109 (.fieldAddr 0 (.t 11)) none .any, .op 110 (.fieldAddr 0 (.t 0)) none .any, .op 111 (.load none (.t 0)) none .any, .op 112 (.move (.t 17)) none .any, .op 113 (.len 1 (.t 0)) none .any, .op 114 (.min (.t 2) [(.t 0)]) none .any, .op 115 (.bin .neq (.t 6) (.t 0)) none .any] (.t 0), .op 117 (.move (.t 0)) none .any, .orN 123 0 [.op 118 (.move (.t 14)) none .any, .op 119 (.len 1 (.t 0)) none .any, .op 120 (.move (.t 18)) none .any, .op 121 (.len 1 (.t 0)) none .any, .op 122 (.bin .neq (.t 2) (.t 0)) none .any] (.t 0)] [10, 11, 12, 13, 15, 17, 0]) (.cond (.t 6) (.seq (.region [.op 6 (.move (.k (.c (.bool false)))) none .any] [0]) .ret) (.pre [0, 1, 2, 3, 4, 5] .skip)))
@[simp] def c9_n51 : SCode := (.seq (.region [.op 124 (.move (.t 3)) none .any, .op 125 (.len 1 (.t 0)) none .any, .op 126 (.move (.k (.c (.int .i64 0)))) none .any] [3, 4, 5, 6, 7, 8, 1, 0]) (.block 0 [some 0, some 1, some 5, some 11, some 13] c9_l0))
@[simp] def c9_n53 : SCode := (.region [.op 16 (.move (.k (.c (.int .i64 (-1))))) none .any] [1, 2, 3, 4, 5, 0])
@[simp] def c9_n55 : SCode := (.seq (.region [.op 139 (.move (.t 3)) none .any, .op 140 (.len 1 (.t 0)) none .any, .op 141 (.move (.k (.c (.int .i64 0)))) none .any] [3, 4, 5, 6, 7, 8, 2, 1, 0]) (.block 2 [some 0, some 13] c9_l2))
def c9_n54 : SCode := .seq c9_n55 (.seq (.seq (.region [.op 198 (.move (.t 1)) none .any, .op 199 (.len 1 (.t 0)) none .any, .op 200 (.move (.k (.c (.int .i64 0)))) none .any] [3, 2, 1, 0]) (.block 6 [] c9_l3)) (.seq (.region [.op 6 (.move (.k (.c (.bool true)))) none .any] [0]) .ret))
instance : IsSeq c9_n54 c9_n55 (.seq (.seq (.region [.op 198 (.move (.t 1)) none .any, .op 199 (.len 1 (.t 0)) none .any, .op 200 (.move (.k (.c (.int .i64 0)))) none .any] [3, 2, 1, 0]) (.block 6 [] c9_l3)) (.seq (.region [.op 6 (.move (.k (.c (.bool true)))) none .any] [0]) .ret)) := ⟨rfl⟩
def c9_n52 : SCode := .seq c9_n53 c9_n54
instance : IsSeq c9_n52 c9_n53 c9_n54 := ⟨rfl⟩
def c9_n50 : SCode := .seq c9_n51 c9_n52
instance : IsSeq c9_n50 c9_n51 c9_n52 := ⟨rfl⟩
def c9_n48 : SCode := .seq c9_n49 c9_n50
instance : IsSeq c9_n48 c9_n49 c9_n50 := ⟨rfl⟩
def c9_n46 : SCode := .seq c9_n47 c9_n48
instance : IsSeq c9_n46 c9_n47 c9_n48 := ⟨rfl⟩
def c9_n44 : SCode := .seq c9_n45 c9_n46
instance : IsSeq c9_n44 c9_n45 c9_n46 := ⟨rfl⟩
def c9_n42 : SCode := .seq c9_n43 c9_n44
instance : IsSeq c9_n42 c9_n43 c9_n44 := ⟨rfl⟩
def c9_n40 : SCode := .seq c9_n41 c9_n42
instance : IsSeq c9_n40 c9_n41 c9_n42 := ⟨rfl⟩
def c9_n38 : SCode := .seq c9_n39 c9_n40
instance : IsSeq c9_n38 c9_n39 c9_n40 := ⟨rfl⟩
def c9_n36 : SCode := .seq c9_n37 c9_n38
instance : IsSeq c9_n36 c9_n37 c9_n38 := ⟨rfl⟩
def c9_n34 : SCode := .seq c9_n35 c9_n36
instance : IsSeq c9_n34 c9_n35 c9_n36 := ⟨rfl⟩
def c9 : SCode := (.seq (.region [.op 5 (.box (.t 2)) none .any, .op 6 (.move (.k (.c (.bool false)))) none .any] [2, 3, 1]) c9_n34)
def F9 : SFunc := .code .pure 209 3 [some 6] [.tmp 0] c9

-- crux/member.CheckLicences
def c17 : SCode := (.seq (.region [.op 2 (.move (.k (.c (.int .i64 0)))) none .any] [1]) (.seq (.region [.op 3 (.move (.t 0)) none .any, .op 4 (.call false (.k (.c (.func 77 [] []))) [(.t 0), (.k (.c (.int .i64 256))), (.k (.c (.func 78 [] [])))]) none .any, .op 2 (.move (.t 0)) none .any] [0]) .ret))
def F17 : SFunc := .code .pure 5 1 [some 2] [.tmp 0] c17

-- crux/cruxlaw09.first
-- c20_l0: env [0, 3]
@[simp] def c20_n3 : SCode := (.region [.op 10 (.move (.t 0)) none .any, .op 11 (.move (.t 2)) none .any, .op 12 (.idxSlice 1 (.t 1) (.t 0)) none .any, .op 13 (.load none (.t 0)) none .any, .op 14 (.bin .neq (.t 0) (.k (.c (.int .i64 0)))) none .any] [5, 6, 0])
def c20_n2 : SCode := .seq c20_n3 (.cond (.t 2) (.seq (.region [.op 15 (.move (.t 0)) none .any, .op 16 (.move (.t 2)) none .any, .op 17 (.idxSlice 1 (.t 1) (.t 0)) none .any, .op 18 (.load none (.t 0)) none .any, .op 2 (.move (.t 0)) none .any] [0]) .ret) (.pre [0, 1] .skip))
instance : IsSeq c20_n2 c20_n3 (.cond (.t 2) (.seq (.region [.op 15 (.move (.t 0)) none .any, .op 16 (.move (.t 2)) none .any, .op 17 (.idxSlice 1 (.t 1) (.t 0)) none .any, .op 18 (.load none (.t 0)) none .any, .op 2 (.move (.t 0)) none .any] [0]) .ret) (.pre [0, 1] .skip)) := ⟨rfl⟩
def c20_n1 : SCode := .seq (.block 1 [some 0, some 3] c20_n2) (.region [.op 8 (.move (.t 1)) none .any, .op 9 (.bin .add (.t 0) (.k (.c (.int .i64 1)))) none .any, .op 3 (.move (.t 0)) none .any] [3, 0])
instance : IsSeq c20_n1 (.block 1 [some 0, some 3] c20_n2) (.region [.op 8 (.move (.t 1)) none .any, .op 9 (.bin .add (.t 0) (.k (.c (.int .i64 1)))) none .any, .op 3 (.move (.t 0)) none .any] [3, 0]) := ⟨rfl⟩
def c20_l0b : SCode := (.seq (.seq (.region [.op 4 (.move (.t 1)) none .any, .op 5 (.move (.t 1)) none .any, .op 6 (.len 1 (.t 0)) none .any, .op 7 (.bin .lss (.t 2) (.t 0)) none .any] [4, 5, 0]) (.cond (.t 2) (.pre [0, 1] .skip) (.pre [] (.exit 0)))) c20_n1)
def c20_l0 : SCode := .loop true c20_l0b
def c20 : SCode := (.seq (.region [.op 2 (.move (.k (.c (.int .i64 0)))) none .any] [1]) (.seq (.seq (.region [.op 3 (.move (.k (.c (.int .i64 0)))) none .any] [1, 0]) (.block 0 [] c20_l0)) (.seq (.region [.op 2 (.move (.k (.c (.int .i64 0)))) none .any] [0]) .ret)))
def F20 : SFunc := .code .pure 19 1 [some 2] [.tmp 0] c20

-- crux/cruxlaw09.when
def c21 : SCode := (.seq (.region [.op 4 (.move (.k (.c (.int .i64 0)))) none .any] [1, 2]) (.seq (.seq (.region [.op 5 (.move (.t 0)) none .any] [2, 0]) (.cond (.t 1) (.seq (.region [.op 6 (.move (.t 0)) none .any, .op 4 (.move (.t 0)) none .any] [0]) .ret) (.pre [] .skip))) (.seq (.region [.op 4 (.move (.k (.c (.int .i64 0)))) none .any] [0]) .ret)))
def F21 : SFunc := .code .pure 7 2 [some 4] [.tmp 0] c21

-- crux/cruxref01.IsName
-- c22_l0: env [0, 3]
@[simp] def c22_n3 : SCode := (.region [.op 20 (.move (.t 0)) none .any, .op 21 (.move (.t 2)) none .any, .op 22 (.indexStr (.t 1) (.t 0)) none .any, .op 4 (.move (.t 0)) none .any] [4, 5, 0])
@[simp] def c22_n5 : SCode := (.region [.op 23 (.move (.t 2)) none .any, .op 24 (.bin .geq (.t 0) (.k (.c (.int .u8 97)))) none .any, .op 25 (.move (.t 0)) none .any, .andN 28 0 [.op 26 (.move (.t 5)) none .any, .op 27 (.bin .leq (.t 0) (.k (.c (.int .u8 122)))) none .any] (.t 0), .op 29 (.move (.t 0)) none .any, .orN 36 0 [.op 30 (.move (.t 7)) none .any, .op 31 (.bin .geq (.t 0) (.k (.c (.int .u8 65)))) none .any, .op 32 (.move (.t 0)) none .any, .andN 35 0 [.op 33 (.move (.t 10)) none .any, .op 34 (.bin .leq (.t 0) (.k (.c (.int .u8 90)))) none .any] (.t 0)] (.t 0), .op 5 (.move (.t 0)) none .any] [7, 8, 9, 0])
@[simp] def c22_n7 : SCode := (.region [.op 37 (.move (.t 3)) none .any, .op 38 (.not (.t 0)) none .any, .op 39 (.move (.t 0)) none .any, .andN 55 0 [.op 40 (.move (.t 4)) none .any, .op 41 (.bin .eql (.t 0) (.k (.c (.int .i64 0)))) none .any, .op 42 (.move (.t 0)) none .any, .orN 54 0 [.op 43 (.move (.t 8)) none .any, .op 44 (.bin .geq (.t 0) (.k (.c (.int .u8 48)))) none .any, .op 45 (.move (.t 0)) none .any, .andN 48 0 [.op 46 (.move (.t 11)) none .any, .op 47 (.bin .leq (.t 0) (.k (.c (.int .u8 57)))) none .any] (.t 0), .op 49 (.move (.t 0)) none .any, .orN 52 0 [.op 50 (.move (.t 13)) none .any, .op 51 (.bin .eql (.t 0) (.k (.c (.int .u8 95)))) none .any] (.t 0), .op 53 (.not (.t 0)) none .any] (.t 0)] (.t 0)] [4, 5, 0])
def c22_n6 : SCode := .seq c22_n7 (.cond (.t 2) (.seq (.region [.op 2 (.move (.k (.c (.bool false)))) none .any] [0]) .ret) (.pre [0, 1] .skip))
instance : IsSeq c22_n6 c22_n7 (.cond (.t 2) (.seq (.region [.op 2 (.move (.k (.c (.bool false)))) none .any] [0]) .ret) (.pre [0, 1] .skip)) := ⟨rfl⟩
def c22_n4 : SCode := .seq c22_n5 c22_n6
instance : IsSeq c22_n4 c22_n5 c22_n6 := ⟨rfl⟩
def c22_n2 : SCode := .seq c22_n3 c22_n4
instance : IsSeq c22_n2 c22_n3 c22_n4 := ⟨rfl⟩
def c22_n1 : SCode := .seq (.block 1 [some 0, some 3] c22_n2) (.region [.op 18 (.move (.t 1)) none .any, .op 19 (.bin .add (.t 0) (.k (.c (.int .i64 1)))) none .any, .op 3 (.move (.t 0)) none .any] [3, 0])
instance : IsSeq c22_n1 (.block 1 [some 0, some 3] c22_n2) (.region [.op 18 (.move (.t 1)) none .any, .op 19 (.bin .add (.t 0) (.k (.c (.int .i64 1)))) none .any, .op 3 (.move (.t 0)) none .any] [3, 0]) := ⟨rfl⟩
def c22_l0b : SCode := (.seq (.seq (.region [.op 14 (.move (.t 1)) none .any, .op 15 (.move (.t 1)) none .any, .op 16 (.len 0 (.t 0)) none .any, .op 17 (.bin .lss (.t 2) (.t 0)) none .any] [4, 5, 0]) (.cond (.t 2) (.pre [0, 1] .skip) (.pre [] (.exit 0)))) c22_n1)
def c22_l0 : SCode := .loop true c22_l0b
@[simp] def c22_n9 : SCode := (.seq (.region [.op 6 (.move (.t 0)) none .any, .op 7 (.len 0 (.t 0)) none .any, .op 8 (.bin .lss (.t 0) (.k (.c (.int .i64 1)))) none .any, .op 9 (.move (.t 0)) none .any, .orN 13 0 [.op 10 (.move (.t 4)) none .any, .op 11 (.len 0 (.t 0)) none .any, .op 12 (.bin .gtr (.t 0) (.k (.c (.int .i64 24)))) none .any] (.t 0)] [5, 0]) (.cond (.t 1) (.seq (.region [.op 2 (.move (.k (.c (.bool false)))) none .any] [0]) .ret) (.pre [0] .skip)))
def c22_n8 : SCode := .seq c22_n9 (.seq (.seq (.region [.op 3 (.move (.k (.c (.int .i64 0)))) none .any] [1, 0]) (.block 0 [] c22_l0)) (.seq (.region [.op 2 (.move (.k (.c (.bool true)))) none .any] [0]) .ret))
instance : IsSeq c22_n8 c22_n9 (.seq (.seq (.region [.op 3 (.move (.k (.c (.int .i64 0)))) none .any] [1, 0]) (.block 0 [] c22_l0)) (.seq (.region [.op 2 (.move (.k (.c (.bool true)))) none .any] [0]) .ret)) := ⟨rfl⟩
def c22 : SCode := (.seq (.region [.op 2 (.move (.k (.c (.bool false)))) none .any] [1]) c22_n8)
def F22 : SFunc := .code .pure 56 1 [some 2] [.tmp 0] c22

-- crux/cruxlaw09.checkDay
def c23 : SCode := (.seq (.region [.op 2 (.move (.k (.c (.int .i64 0)))) none .any] [1]) (.seq (.region [.op 3 (.move (.t 0)) none .any, .op 4 (.call false (.k (.c (.func 54 [] []))) [(.t 0), (.k (.c (.int .i64 0))), (.k (.c (.int .i64 99999)))]) none .any, .op 5 (.call false (.k (.c (.func 21 [] []))) [(.t 0), (.k (.c (.int .i64 3)))]) none .any, .op 2 (.move (.t 0)) none .any] [0]) .ret))
def F23 : SFunc := .code .pure 6 1 [some 2] [.tmp 0] c23

-- crux/cruxlaw09.tests
-- c28_l0: env [0, 3, 4]
@[simp] def c28_n2 : SCode := (.region [.op 11 (.move (.t 1)) none .any, .op 12 (.move (.t 1)) none .any, .op 13 (.move (.t 4)) none .any, .op 14 (.idxSlice 2 (.t 1) (.t 0)) none .any, .op 15 (.load (some 2) (.t 0)) none .any, .op 16 (.buildSlice 2 (some 2) 1 [(.c (.str [])), (.c (.int .i64 0))] [(0, (.t 0))]) none .any, .op 17 (.append (some 2) 24 (.t 5) (.t 0)) none .any, .op 3 (.move (.t 0)) none .any] [8, 0, 10])
def c28_n1 : SCode := .seq (.block 1 [some 0, some 3, some 4] c28_n2) (.region [.op 9 (.move (.t 2)) none .any, .op 10 (.bin .add (.t 0) (.k (.c (.int .i64 1)))) none .any, .op 4 (.move (.t 0)) none .any] [3, 4, 0])
instance : IsSeq c28_n1 (.block 1 [some 0, some 3, some 4] c28_n2) (.region [.op 9 (.move (.t 2)) none .any, .op 10 (.bin .add (.t 0) (.k (.c (.int .i64 1)))) none .any, .op 4 (.move (.t 0)) none .any] [3, 4, 0]) := ⟨rfl⟩
def c28_l0b : SCode := (.seq (.seq (.region [.op 5 (.move (.t 2)) none .any, .op 6 (.move (.t 1)) none .any, .op 7 (.len 1 (.t 0)) none .any, .op 8 (.bin .lss (.t 2) (.t 0)) none .any] [4, 5, 6, 0]) (.cond (.t 3) (.pre [0, 1, 2] .skip) (.pre [1] (.exit 0)))) c28_n1)
def c28_l0 : SCode := .loop true c28_l0b
def c28 : SCode := (.seq (.region [.op 2 (.mkNil (some 2)) none .any] [1]) (.seq (.region [.op 3 (.mkNil (some 2)) none .any] [1, 0]) (.seq (.seq (.region [.op 4 (.move (.k (.c (.int .i64 0)))) none .any] [1, 2, 0]) (.block 0 [some 3] c28_l0)) (.seq (.region [.op 18 (.move (.t 0)) none .any, .op 2 (.move (.t 0)) none .any] [0]) .ret))))
def F28 : SFunc := .code .pure 19 1 [some 2] [.tmp 0] c28

-- crux/cruxref09.ShortTests
-- c29_l0: env [0, 1, 5]
@[simp] def c29_n3 : SCode := (.region [.op 12 (.move (.t 1)) none .any, .op 13 (.move (.t 3)) none .any, .op 14 (.idxSlice 2 (.t 1) (.t 0)) none .any, .op 15 (.fieldAddr 0 (.t 0)) none .any, .op 16 (.load none (.t 0)) none .any, .op 17 (.len 0 (.t 0)) none .any, .op 18 (.bin .gtr (.t 0) (.k (.c (.int .i64 40)))) none .any] [7, 8, 9, 0])
def c29_n2 : SCode := .seq c29_n3 (.cond (.t 3) (.seq (.region [.op 4 (.move (.k (.c (.bool false)))) none .any] [0]) .ret) (.pre [0, 1, 2] .skip))
instance : IsSeq c29_n2 c29_n3 (.cond (.t 3) (.seq (.region [.op 4 (.move (.k (.c (.bool false)))) none .any] [0]) .ret) (.pre [0, 1, 2] .skip)) := ⟨rfl⟩
def c29_n1 : SCode := .seq (.block 1 [some 0, some 1, some 5] c29_n2) (.region [.op 10 (.move (.t 2)) none .any, .op 11 (.bin .add (.t 0) (.k (.c (.int .i64 1)))) none .any, .op 5 (.move (.t 0)) none .any] [3, 4, 0])
instance : IsSeq c29_n1 (.block 1 [some 0, some 1, some 5] c29_n2) (.region [.op 10 (.move (.t 2)) none .any, .op 11 (.bin .add (.t 0) (.k (.c (.int .i64 1)))) none .any, .op 5 (.move (.t 0)) none .any] [3, 4, 0]) := ⟨rfl⟩
def c29_l0b : SCode := (.seq (.seq (.region [.op 6 (.move (.t 2)) none .any, .op 7 (.move (.t 2)) none .any, .op 8 (.len 1 (.t 0)) none .any, .op 9 (.bin .lss (.t 2) (.t 0)) none .any] [4, 5, 6, 0]) (.cond (.t 3) (.pre [0, 1, 2] .skip) (.pre [0, 1] (.exit 0)))) c29_n1)
def c29_l0 : SCode := .loop true c29_l0b
@[simp] def c29_n5 : SCode := (.seq (.region [.op 5 (.move (.k (.c (.int .i64 0)))) none .any] [1, 2, 0]) (.block 0 [some 0, some 1] c29_l0))
@[simp] def c29_n7 : SCode := (.region [.op 19 (.move (.t 0)) none .any, .op 20 (.call false (.k (.c (.func 84 [] []))) [(.t 0), (.k (.c (.int .i64 163)))]) none .any, .op 21 (.move (.t 0)) none .any, .andN 25 0 [.op 22 (.move (.t 4)) none .any, .op 23 (.len 1 (.t 0)) none .any, .op 24 (.bin .leq (.t 0) (.k (.c (.int .i64 259)))) none .any] (.t 0), .op 4 (.move (.t 0)) none .any] [0])
def c29_n6 : SCode := .seq c29_n7 .ret
instance : IsSeq c29_n6 c29_n7 .ret := ⟨rfl⟩
def c29_n4 : SCode := .seq c29_n5 c29_n6
instance : IsSeq c29_n4 c29_n5 c29_n6 := ⟨rfl⟩
def c29 : SCode := (.seq (.region [.op 4 (.move (.k (.c (.bool false)))) none .any] [1, 2]) c29_n4)
def F29 : SFunc := .code .pure 26 2 [some 4] [.tmp 0] c29

-- crux/member.CheckTests
def c30 : SCode := (.seq (.region [.op 2 (.move (.k (.c (.int .i64 0)))) none .any] [1]) (.seq (.region [.op 3 (.move (.t 0)) none .any, .op 4 (.call false (.k (.c (.func 85 [] []))) [(.t 0), (.k (.c (.int .i64 256))), (.k (.c (.func 86 [] [])))]) none .any, .op 2 (.move (.t 0)) none .any] [0]) .ret))
def F30 : SFunc := .code .pure 5 1 [some 2] [.tmp 0] c30

-- crux/cruxref09.CheckTests
-- c31_l0: env [0, 3]
@[simp] def c31_n3 : SCode := (.seq (.region [.op 13 (.move (.t 0)) none .any, .op 14 (.move (.t 2)) none .any, .op 15 (.idxSlice 2 (.t 1) (.t 0)) none .any, .op 16 (.fieldAddr 0 (.t 0)) none .any, .op 17 (.load none (.t 0)) none .any, .op 18 (.call false (.k (.c (.func 22 [] []))) [(.t 0)]) none .any, .op 19 (.not (.t 0)) none .any] [7, 8, 0]) (.cond (.t 2) (.seq (.region [.op 2 (.move (.k (.c (.int .i64 8)))) none .any] [0]) .ret) (.pre [0, 1] .skip)))
@[simp] def c31_n5 : SCode := (.region [.op 20 (.move (.t 0)) none .any, .op 21 (.move (.t 2)) none .any, .op 22 (.idxSlice 2 (.t 1) (.t 0)) none .any, .op 23 (.fieldAddr 1 (.t 0)) none .any, .op 24 (.load none (.t 0)) none .any, .op 25 (.call false (.k (.c (.func 54 [] []))) [(.t 0), (.k (.c (.int .i64 0))), (.k (.c (.int .i64 99999)))]) none .any] [6, 7, 0])
def c31_n4 : SCode := .seq c31_n5 (.cond (.t 2) (.seq (.region [.op 2 (.move (.k (.c (.int .i64 3)))) none .any] [0]) .ret) (.pre [0, 1] .skip))
instance : IsSeq c31_n4 c31_n5 (.cond (.t 2) (.seq (.region [.op 2 (.move (.k (.c (.int .i64 3)))) none .any] [0]) .ret) (.pre [0, 1] .skip)) := ⟨rfl⟩
def c31_n2 : SCode := .seq c31_n3 c31_n4
instance : IsSeq c31_n2 c31_n3 c31_n4 := ⟨rfl⟩
def c31_n1 : SCode := .seq (.block 1 [some 0, some 3] c31_n2) (.region [.op 11 (.move (.t 1)) none .any, .op 12 (.bin .add (.t 0) (.k (.c (.int .i64 1)))) none .any, .op 3 (.move (.t 0)) none .any] [3, 0])
instance : IsSeq c31_n1 (.block 1 [some 0, some 3] c31_n2) (.region [.op 11 (.move (.t 1)) none .any, .op 12 (.bin .add (.t 0) (.k (.c (.int .i64 1)))) none .any, .op 3 (.move (.t 0)) none .any] [3, 0]) := ⟨rfl⟩
def c31_l0b : SCode := (.seq (.seq (.region [.op 7 (.move (.t 1)) none .any, .op 8 (.move (.t 1)) none .any, .op 9 (.len 1 (.t 0)) none .any, .op 10 (.bin .lss (.t 2) (.t 0)) none .any] [4, 5, 0]) (.cond (.t 2) (.pre [0, 1] .skip) (.pre [] (.exit 0)))) c31_n1)
def c31_l0 : SCode := .loop true c31_l0b
@[simp] def c31_n7 : SCode := (.seq (.region [.op 4 (.move (.t 0)) none .any, .op 5 (.len 1 (.t 0)) none .any, .op 6 (.bin .gtr (.t 0) (.k (.c (.int .i64 256)))) none .any] [3, 0]) (.cond (.t 1) (.seq (.region [.op 2 (.move (.k (.c (.int .i64 5)))) none .any] [0]) .ret) (.pre [0] .skip)))
def c31_n6 : SCode := .seq c31_n7 (.seq (.seq (.region [.op 3 (.move (.k (.c (.int .i64 0)))) none .any] [1, 0]) (.block 0 [] c31_l0)) (.seq (.region [.op 2 (.move (.k (.c (.int .i64 0)))) none .any] [0]) .ret))
instance : IsSeq c31_n6 c31_n7 (.seq (.seq (.region [.op 3 (.move (.k (.c (.int .i64 0)))) none .any] [1, 0]) (.block 0 [] c31_l0)) (.seq (.region [.op 2 (.move (.k (.c (.int .i64 0)))) none .any] [0]) .ret)) := ⟨rfl⟩
def c31 : SCode := (.seq (.region [.op 2 (.move (.k (.c (.int .i64 0)))) none .any] [1]) c31_n6)
def F31 : SFunc := .code .pure 26 1 [some 2] [.tmp 0] c31

-- crux/cruxref09.CheckList
@[simp] def c32_n2 : SCode := (.seq (.region [.op 3 (.move (.t 0)) none .any, .op 4 (.len 1 (.t 0)) none .any, .op 5 (.bin .gtr (.t 0) (.k (.c (.int .i64 160)))) none .any] [3, 0]) (.cond (.t 1) (.seq (.region [.op 2 (.move (.k (.c (.int .i64 5)))) none .any] [0]) .ret) (.pre [0] .skip)))
def c32_n1 : SCode := .seq c32_n2 (.seq (.region [.op 6 (.move (.t 0)) none .any, .op 7 (.call false (.k (.c (.func 87 [] []))) [(.t 0)]) none .any, .op 2 (.move (.t 0)) none .any] [0]) .ret)
instance : IsSeq c32_n1 c32_n2 (.seq (.region [.op 6 (.move (.t 0)) none .any, .op 7 (.call false (.k (.c (.func 87 [] []))) [(.t 0)]) none .any, .op 2 (.move (.t 0)) none .any] [0]) .ret) := ⟨rfl⟩
def c32 : SCode := (.seq (.region [.op 2 (.move (.k (.c (.int .i64 0)))) none .any] [1]) c32_n1)
def F32 : SFunc := .code .pure 8 1 [some 2] [.tmp 0] c32

-- crux/member.Pool
-- c33_l0: env [0, 3, 6, 14, 15, 47, 48, 49]
@[simp] def c33_n4 : SCode := (.region [.op 51 (.idxSlice 1 (.t 5) (.t 7)) none .any, .op 52 (.load none (.t 0)) none .any, .op 17 (.move (.t 0)) none .any] [3, 4, 5, 6, 7, 0, 8, 9, 10])
@[simp] def c33_n6 : SCode := (.draw 0 [.op 53 (.load none (.t 3)) none .var, .op 54 (.move (.t 1)) none .any, .op 55 (.move (.t 7)) none .any, .op 56 (.idxSlice 1 (.t 1) (.t 0)) none .any, .op 57 (.load none (.t 0)) none .old, .op 58 (.call false (.t 4) [(.t 0)]) none .any, .op 18 (.move (.t 0)) none .any] [7, 8, 9, 10, 11, 12, 0, 13, 14, 15])
@[simp] def c33_n8 : SCode := (.region [.op 59 (.move (.t 6)) none .any, .op 60 (.bin .lss (.t 0) (.k (.c (.int .i64 0)))) none .any, .op 61 (.move (.t 0)) none .any, .orN 68 0 [.op 62 (.move (.t 9)) none .any, .op 63 (.move (.t 5)) none .any, .op 64 (.fieldAddr 1 (.t 7)) none .any, .op 65 (.load none (.t 0)) none .any, .op 66 (.bin .sub (.t 2) (.t 0)) none .any, .op 67 (.bin .lss (.t 4) (.t 0)) none .any] (.t 0)] [4, 5, 6, 7, 8, 9, 11, 12, 13, 0])
@[simp] def c33_n10 : SCode := (.region [.op 69 (.move (.t 4)) none .any, .op 70 (.move (.t 1)) none .any, .op 71 (.move (.t 7)) none .any, .op 72 (.idxSlice 1 (.t 1) (.t 0)) none .any, .op 73 (.load none (.t 0)) none .any, .op 74 (.buildSlice 2 none 1 [(.c (.str []))] [(0, (.t 0))]) none .any, .op 75 (.append none 16 (.t 5) (.t 0)) none .any, .op 15 (.move (.t 0)) none .any] [8, 9, 10, 11, 0, 14, 15, 16])
def c33_n9 : SCode := .cond (.t 9) c33_n10 (.pre [0, 1, 2, 3, 4, 6, 7, 8] .skip)
instance : IsCond c33_n9 (.t 9) c33_n10 (.pre [0, 1, 2, 3, 4, 6, 7, 8] .skip) := ⟨rfl⟩
def c33_n7 : SCode := .seq c33_n8 c33_n9
instance : IsSeq c33_n7 c33_n8 c33_n9 := ⟨rfl⟩
def c33_n5 : SCode := .seq c33_n6 c33_n7
instance : IsSeq c33_n5 c33_n6 c33_n7 := ⟨rfl⟩
def c33_n3 : SCode := .seq c33_n4 c33_n5
instance : IsSeq c33_n3 c33_n4 c33_n5 := ⟨rfl⟩
@[simp] def c33_n11 : SCode := (.block 1 [some 0, some 3, some 6, some 14, some 15, some 47, some 48, some 49] c33_n3)
def c33_n2 : SCode := .seq c33_n11 (.region [.op 76 (.bin .add (.t 7) (.k (.c (.int .i64 1)))) none .any, .op 49 (.move (.t 0)) none .any] [2, 3, 4, 5, 6, 7, 8, 0])
instance : IsSeq c33_n2 c33_n11 (.region [.op 76 (.bin .add (.t 7) (.k (.c (.int .i64 1)))) none .any, .op 49 (.move (.t 0)) none .any] [2, 3, 4, 5, 6, 7, 8, 0]) := ⟨rfl⟩
def c33_n1 : SCode := .seq (.cond (.t 8) (.pre [0, 1, 2, 3, 4, 5, 6, 7] .skip) (.pre [2, 3, 4] (.exit 0))) c33_n2
instance : IsSeq c33_n1 (.cond (.t 8) (.pre [0, 1, 2, 3, 4, 5, 6, 7] .skip) (.pre [2, 3, 4] (.exit 0))) c33_n2 := ⟨rfl⟩
def c33_l0b : SCode := (.seq (.region [.op 50 (.bin .lss (.t 7) (.t 6)) none .any] [1, 2, 3, 4, 5, 6, 7, 8, 0]) c33_n1)
def c33_l0 : SCode := .loop true c33_l0b
@[simp] def c33_n13 : SCode := (.seq (.draw 1 [.op 19 (.move (.t 0)) none .any, .op 20 (.call false (.k (.c (.func 88 [] []))) [(.t 0)]) none .any, .op 21 (.move (.t 3)) none .any, .op 22 (.call false (.k (.c (.func 30 [] []))) [(.t 0)]) none .any, .op 23 (.load (some 3) (.t 7)) none .var, .op 24 (.call false (.k (.c (.func 89 [] []))) [(.t 0)]) none .any, .op 25 (.move (.t 8)) none .any, .op 26 (.call false (.k (.c (.func 81 [] []))) [(.t 0)]) none .any, .op 27 (.buildSlice 2 none 4 [(.c (.int .i64 0))] [(0, (.t 6)), (1, (.t 4)), (2, (.t 2)), (3, (.t 0))]) (some 0) .any, .op 28 (.call false (.k (.c (.func 79 [] []))) [(.t 0)]) none .any, .op 10 (.move (.t 0)) none .any] [11, 12, 13, 14, 0]) (.seq (.region [.op 29 (.move (.t 4)) none .any, .op 30 (.bin .neq (.t 0) (.k (.c (.int .i64 0)))) none .any] [2, 3, 4, 5, 6, 0]) (.cond (.t 5) (.seq (.region [.op 31 (.move (.t 4)) none .any, .op 8 (.mkNil none) none .any, .op 9 (.move (.t 1)) none .any] [1, 0]) .ret) (.pre [0, 1, 2, 3] .skip))))
@[simp] def c33_n15 : SCode := (.region [.op 33 (.fieldAddr 2 (.t 3)) none .any, .op 34 (.load none (.t 0)) none .any, .op 35 (.move (.t 2)) none .any, .op 36 (.len 1 (.t 0)) none .any, .op 37 (.call false (.k (.c (.func 90 [] []))) [(.t 2), (.t 0)]) none .any, .op 32 (.move (.t 0)) none .any, .op 38 (.extract (.t 0) 0) none .any, .op 39 (.extract (.t 1) 1) none .any, .op 11 (.move (.t 1)) none .any, .op 12 (.move (.t 1)) none .any] [10, 11, 12, 13, 1, 0])
@[simp] def c33_n17 : SCode := (.seq (.region [.op 40 (.move (.t 5)) none .any, .op 41 (.bin .neq (.t 0) (.k (.c (.int .i64 0)))) none .any] [2, 3, 4, 5, 6, 7, 0]) (.cond (.t 6) (.seq (.region [.op 42 (.move (.t 5)) none .any, .op 8 (.mkNil none) none .any, .op 9 (.move (.t 1)) none .any] [1, 0]) .ret) (.pre [0, 1, 2, 3, 4] .skip)))
@[simp] def c33_n19 : SCode := (.region [.op 43 (.move (.t 1)) none .any, .op 44 (.move (.t 3)) none .any, .op 45 (.call false (.k (.c (.func 91 [] []))) [(.t 1), (.t 0)]) none .any, .op 13 (.new [(.c (.map [] []))]) none .any, .eff (.store 1 (.t 0) (.t 1)) none .any] [4, 6, 7, 8, 0])
@[simp] def c33_n21 : SCode := (.region [.op 46 (.mkFunc 92 [] [(.t 4)]) none .any, .op 14 (.new [(.c .nilfunc)]) none .any, .eff (.store 1 (.t 0) (.t 1)) none .any] [2, 3, 4, 5, 0])
@[simp] def c33_n24 : SCode := (.seq (.region [.op 47 (.move (.t 3)) none .any, .op 48 (.len 1 (.t 0)) none .any, .op 49 (.move (.k (.c (.int .i64 0)))) none .any] [3, 4, 5, 7, 8, 2, 1, 0]) (.block 0 [some 6, some 14, some 15] c33_l0))
@[simp] def c33_n26 : SCode := (.region [.op 77 (.move (.t 2)) none .any, .op 78 (.mkFunc 94 [] [(.t 2)]) none .any, .op 79 (.call false (.k (.c (.func 93 [] []))) [(.t 1), (.t 0)]) none .any] [3, 5])
@[simp] def c33_n28 : SCode := (.region [.op 80 (.move (.t 1)) none .any, .op 81 (.fieldAddr 0 (.t 1)) none .any, .op 82 (.load none (.t 0)) none .any, .op 83 (.move (.t 4)) none .any, .op 84 (.len 1 (.t 0)) none .any, .op 85 (.min (.t 2) [(.t 0)]) none .any, .op 86 (.sliceSl 1 (.t 5) none (some (.t 0)) none) none .any, .op 8 (.move (.t 0)) none .any, .op 9 (.move (.k (.c (.int .i64 0)))) none .any] [1, 0])
def c33_n27 : SCode := .seq c33_n28 .ret
instance : IsSeq c33_n27 c33_n28 .ret := ⟨rfl⟩
def c33_n25 : SCode := .seq c33_n26 c33_n27
instance : IsSeq c33_n25 c33_n26 c33_n27 := ⟨rfl⟩
def c33_n23 : SCode := .seq c33_n24 c33_n25
instance : IsSeq c33_n23 c33_n24 c33_n25 := ⟨rfl⟩
def c33_n22 : SCode := .seq (.region [.op 15 (.mkNil none) none .any] [1, 2, 3, 4, 5, 0]) c33_n23
instance : IsSeq c33_n22 (.region [.op 15 (.mkNil none) none .any] [1, 2, 3, 4, 5, 0]) c33_n23 := ⟨rfl⟩
def c33_n20 : SCode := .seq c33_n21 c33_n22
instance : IsSeq c33_n20 c33_n21 c33_n22 := ⟨rfl⟩
def c33_n18 : SCode := .seq c33_n19 c33_n20
instance : IsSeq c33_n18 c33_n19 c33_n20 := ⟨rfl⟩
def c33_n16 : SCode := .seq c33_n17 c33_n18
instance : IsSeq c33_n16 c33_n17 c33_n18 := ⟨rfl⟩
def c33_n14 : SCode := .seq c33_n15 c33_n16
instance : IsSeq c33_n14 c33_n15 c33_n16 := ⟨rfl⟩
def c33_n12 : SCode := .seq c33_n13 c33_n14
instance : IsSeq c33_n12 c33_n13 c33_n14 := ⟨rfl⟩
def c33 : SCode := (.seq (.region [.op 6 (.box (.t 2)) none .any, .op 8 (.mkNil none) none .any, .op 9 (.move (.k (.c (.int .i64 0)))) none .any] [3, 4, 6, 2]) c33_n12)
def F33 : SFunc := .code .pure 87 4 [some 8, some 9] [.tmp 0, .tmp 1] c33

-- crux/member.Late
-- c34_l0: env [2, 3, 11, 12, 33, 34, 35]
@[simp] def c34_n4 : SCode := (.region [.op 37 (.idxSlice 1 (.t 4) (.t 6)) none .any, .op 38 (.load none (.t 0)) none .any, .op 14 (.move (.t 0)) none .any] [3, 4, 5, 6, 0, 7, 8, 9])
@[simp] def c34_n6 : SCode := (.region [.op 40 (.move (.t 2)) none .any, .op 41 (.move (.t 5)) none .any, .op 42 (.lookup (.one 1) (.c (.int .i64 0)) true (.t 1) (.t 0)) none .any, .op 39 (.move (.t 0)) none .any, .op 43 (.extract (.t 0) 0) none .any, .op 44 (.extract (.t 1) 1) none .any, .op 15 (.move (.t 1)) none .any, .op 16 (.move (.t 1)) none .any] [8, 9, 10, 11, 12, 1, 0, 13, 14, 15])
@[simp] def c34_n8 : SCode := (.region [.op 45 (.move (.t 6)) none .any, .op 46 (.not (.t 0)) none .any, .op 47 (.move (.t 0)) none .any, .orN 53 0 [.op 48 (.move (.t 8)) none .any, .op 49 (.move (.t 5)) none .any, .op 50 (.move (.t 5)) none .any, .op 51 (.bin .sub (.t 1) (.t 0)) none .any, .op 52 (.bin .lss (.t 3) (.t 0)) none .any] (.t 0)] [4, 5, 6, 7, 8, 11, 12, 13, 0])
def c34_n7 : SCode := .seq c34_n8 (.cond (.t 8) (.region [.op 54 (.move (.t 3)) none .any, .op 55 (.move (.t 5)) none .any, .op 56 (.buildSlice 2 none 1 [(.c (.str []))] [(0, (.t 0))]) none .any, .op 57 (.append none 16 (.t 2) (.t 0)) none .any, .op 12 (.move (.t 0)) none .any] [5, 6, 7, 0, 10, 11, 12]) (.pre [0, 1, 2, 3, 5, 6, 7] .skip))
instance : IsSeq c34_n7 c34_n8 (.cond (.t 8) (.region [.op 54 (.move (.t 3)) none .any, .op 55 (.move (.t 5)) none .any, .op 56 (.buildSlice 2 none 1 [(.c (.str []))] [(0, (.t 0))]) none .any, .op 57 (.append none 16 (.t 2) (.t 0)) none .any, .op 12 (.move (.t 0)) none .any] [5, 6, 7, 0, 10, 11, 12]) (.pre [0, 1, 2, 3, 5, 6, 7] .skip)) := ⟨rfl⟩
def c34_n5 : SCode := .seq c34_n6 c34_n7
instance : IsSeq c34_n5 c34_n6 c34_n7 := ⟨rfl⟩
def c34_n3 : SCode := .seq c34_n4 c34_n5
instance : IsSeq c34_n3 c34_n4 c34_n5 := ⟨rfl⟩
def c34_n2 : SCode := .seq (.block 1 [some 2, some 3, some 11, some 12, some 33, some 34, some 35] c34_n3) (.region [.op 58 (.bin .add (.t 6) (.k (.c (.int .i64 1)))) none .any, .op 35 (.move (.t 0)) none .any] [2, 3, 4, 5, 6, 7, 0])
instance : IsSeq c34_n2 (.block 1 [some 2, some 3, some 11, some 12, some 33, some 34, some 35] c34_n3) (.region [.op 58 (.bin .add (.t 6) (.k (.c (.int .i64 1)))) none .any, .op 35 (.move (.t 0)) none .any] [2, 3, 4, 5, 6, 7, 0]) := ⟨rfl⟩
def c34_n1 : SCode := .seq (.cond (.t 7) (.pre [0, 1, 2, 3, 4, 5, 6] .skip) (.pre [3] (.exit 0))) c34_n2
instance : IsSeq c34_n1 (.cond (.t 7) (.pre [0, 1, 2, 3, 4, 5, 6] .skip) (.pre [3] (.exit 0))) c34_n2 := ⟨rfl⟩
def c34_l0b : SCode := (.seq (.region [.op 36 (.bin .lss (.t 6) (.t 5)) none .any] [1, 2, 3, 4, 5, 6, 7, 0]) c34_n1)
def c34_l0 : SCode := .loop true c34_l0b
@[simp] def c34_n10 : SCode := (.seq (.region [.op 17 (.move (.t 0)) none .any, .op 18 (.call false (.k (.c (.func 88 [] []))) [(.t 0)]) none .any, .op 19 (.move (.t 3)) none .any, .op 20 (.call false (.k (.c (.func 30 [] []))) [(.t 0)]) none .any, .op 21 (.move (.t 6)) none .any, .op 22 (.call false (.k (.c (.func 81 [] []))) [(.t 0)]) none .any, .op 23 (.move (.t 9)) none .any, .op 24 (.call false (.k (.c (.func 81 [] []))) [(.t 0)]) none .any, .op 25 (.buildSlice 2 none 4 [(.c (.int .i64 0))] [(0, (.t 6)), (1, (.t 4)), (2, (.t 2)), (3, (.t 0))]) none .any, .op 26 (.call false (.k (.c (.func 79 [] []))) [(.t 0)]) none .any, .op 10 (.move (.t 0)) none .any] [11, 12, 13, 14, 0]) (.seq (.region [.op 27 (.move (.t 4)) none .any, .op 28 (.bin .neq (.t 0) (.k (.c (.int .i64 0)))) none .any] [2, 3, 4, 5, 6, 0]) (.cond (.t 5) (.seq (.region [.op 29 (.move (.t 4)) none .any, .op 8 (.mkNil none) none .any, .op 9 (.move (.t 1)) none .any] [1, 0]) .ret) (.pre [0, 1, 2, 3] .skip))))
@[simp] def c34_n12 : SCode := (.region [.op 30 (.move (.t 1)) none .any, .op 31 (.move (.t 4)) none .any, .op 32 (.call false (.k (.c (.func 91 [] []))) [(.t 1), (.t 0)]) none .any, .op 11 (.move (.t 0)) none .any] [4, 6, 7, 0])
def c34_n13 : SCode := .seq (.region [.op 12 (.mkNil none) none .any] [1, 2, 3, 4, 0]) (.seq (.seq (.region [.op 33 (.move (.t 0)) none .any, .op 34 (.len 1 (.t 0)) none .any, .op 35 (.move (.k (.c (.int .i64 0)))) none .any] [4, 5, 6, 7, 2, 1, 0]) (.block 0 [some 12] c34_l0)) (.seq (.region [.op 59 (.move (.t 0)) none .any, .op 8 (.move (.t 0)) none .any, .op 9 (.move (.k (.c (.int .i64 0)))) none .any] [1, 0]) .ret))
instance : IsSeq c34_n13 (.region [.op 12 (.mkNil none) none .any] [1, 2, 3, 4, 0]) (.seq (.seq (.region [.op 33 (.move (.t 0)) none .any, .op 34 (.len 1 (.t 0)) none .any, .op 35 (.move (.k (.c (.int .i64 0)))) none .any] [4, 5, 6, 7, 2, 1, 0]) (.block 0 [some 12] c34_l0)) (.seq (.region [.op 59 (.move (.t 0)) none .any, .op 8 (.move (.t 0)) none .any, .op 9 (.move (.k (.c (.int .i64 0)))) none .any] [1, 0]) .ret)) := ⟨rfl⟩
def c34_n11 : SCode := .seq c34_n12 c34_n13
instance : IsSeq c34_n11 c34_n12 c34_n13 := ⟨rfl⟩
def c34_n9 : SCode := .seq c34_n10 c34_n11
instance : IsSeq c34_n9 c34_n10 c34_n11 := ⟨rfl⟩
def c34 : SCode := (.seq (.region [.op 8 (.mkNil none) none .any, .op 9 (.move (.k (.c (.int .i64 0)))) none .any] [2, 3, 4, 5]) c34_n9)
def F34 : SFunc := .code .pure 60 4 [some 8, some 9] [.tmp 0, .tmp 1] c34

-- crux/cruxref09.CheckPick
@[simp] def c35_n2 : SCode := (.seq (.region [.op 3 (.fieldAddr 0 (.t 0)) none .any, .op 4 (.load none (.t 0)) none .any, .op 5 (.call false (.k (.c (.func 54 [] []))) [(.t 0), (.k (.c (.int .i64 0))), (.k (.c (.int .i64 160)))]) none .any, .op 6 (.move (.t 0)) none .any, .orN 10 0 [.op 7 (.fieldAddr 1 (.t 4)) none .any, .op 8 (.load none (.t 0)) none .any, .op 9 (.call false (.k (.c (.func 54 [] []))) [(.t 0), (.k (.c (.int .i64 0))), (.k (.c (.int .i64 99999)))]) none .any] (.t 0)] [5, 0]) (.cond (.t 1) (.seq (.region [.op 2 (.move (.k (.c (.int .i64 3)))) none .any] [0]) .ret) (.pre [0] .skip)))
def c35_n1 : SCode := .seq c35_n2 (.seq (.region [.op 11 (.fieldAddr 2 (.t 0)) none .any, .op 12 (.load none (.t 0)) none .any, .op 13 (.call false (.k (.c (.func 96 [] []))) [(.t 0), (.k (.c (.int .i64 0)))]) none .any, .op 2 (.move (.t 0)) none .any] [0]) .ret)
instance : IsSeq c35_n1 c35_n2 (.seq (.region [.op 11 (.fieldAddr 2 (.t 0)) none .any, .op 12 (.load none (.t 0)) none .any, .op 13 (.call false (.k (.c (.func 96 [] []))) [(.t 0), (.k (.c (.int .i64 0)))]) none .any, .op 2 (.move (.t 0)) none .any] [0]) .ret) := ⟨rfl⟩
def c35 : SCode := (.seq (.region [.op 1 (.box (.t 0)) none .any, .op 2 (.move (.k (.c (.int .i64 0)))) none .any] [1]) c35_n1)
def F35 : SFunc := .code .pure 14 1 [some 2] [.tmp 0] c35

-- crux/cruxref09.Late
-- c38_l0: env [0, 1, 2, 3, 9, 10]
@[simp] def c38_n3 : SCode := (.region [.op 17 (.move (.t 1)) none .any, .op 18 (.move (.t 1)) none .any, .op 19 (.move (.t 7)) none .any, .op 20 (.idxSlice 1 (.t 1) (.t 0)) none .any, .op 21 (.load none (.t 0)) none .any, .op 22 (.move (.t 8)) none .any, .op 23 (.move (.t 8)) none .any, .op 24 (.bin .sub (.t 1) (.t 0)) none .any, .op 25 (.move (.t 11)) none .any, .op 26 (.call false (.k (.c (.func 98 [] []))) [(.t 8), (.t 4), (.t 1), (.t 0)]) none .any, .op 27 (.bin .lss (.t 0) (.k (.c (.int .i64 0)))) none .any] [11, 12, 13, 14, 15, 16, 0])
@[simp] def c38_n5 : SCode := (.region [.op 28 (.move (.t 4)) none .any, .op 29 (.move (.t 1)) none .any, .op 30 (.move (.t 7)) none .any, .op 31 (.idxSlice 1 (.t 1) (.t 0)) none .any, .op 32 (.load none (.t 0)) none .any, .op 33 (.buildSlice 2 none 1 [(.c (.str []))] [(0, (.t 0))]) none .any, .op 34 (.append none 16 (.t 5) (.t 0)) none .any, .op 9 (.move (.t 0)) none .any] [8, 9, 10, 11, 0, 13])
def c38_n4 : SCode := .cond (.t 6) c38_n5 (.pre [0, 1, 2, 3, 4, 5] .skip)
instance : IsCond c38_n4 (.t 6) c38_n5 (.pre [0, 1, 2, 3, 4, 5] .skip) := ⟨rfl⟩
def c38_n2 : SCode := .seq c38_n3 c38_n4
instance : IsSeq c38_n2 c38_n3 c38_n4 := ⟨rfl⟩
def c38_n1 : SCode := .seq (.block 1 [some 0, some 1, some 2, some 3, some 9, some 10] c38_n2) (.region [.op 15 (.move (.t 5)) none .any, .op 16 (.bin .add (.t 0) (.k (.c (.int .i64 1)))) none .any, .op 10 (.move (.t 0)) none .any] [3, 4, 5, 6, 7, 0])
instance : IsSeq c38_n1 (.block 1 [some 0, some 1, some 2, some 3, some 9, some 10] c38_n2) (.region [.op 15 (.move (.t 5)) none .any, .op 16 (.bin .add (.t 0) (.k (.c (.int .i64 1)))) none .any, .op 10 (.move (.t 0)) none .any] [3, 4, 5, 6, 7, 0]) := ⟨rfl⟩
def c38_l0b : SCode := (.seq (.seq (.region [.op 11 (.move (.t 5)) none .any, .op 12 (.move (.t 1)) none .any, .op 13 (.len 1 (.t 0)) none .any, .op 14 (.bin .lss (.t 2) (.t 0)) none .any] [4, 5, 6, 7, 8, 9, 0]) (.cond (.t 6) (.pre [0, 1, 2, 3, 4, 5] .skip) (.pre [4] (.exit 0)))) c38_n1)
def c38_l0 : SCode := .loop true c38_l0b
def c38 : SCode := (.seq (.region [.op 8 (.mkNil none) none .any] [1, 2, 3, 4]) (.seq (.region [.op 9 (.mkNil none) none .any] [1, 2, 3, 4, 0]) (.seq (.seq (.region [.op 10 (.move (.k (.c (.int .i64 0)))) none .any] [1, 2, 3, 4, 5, 0]) (.block 0 [some 9] c38_l0)) (.seq (.region [.op 35 (.move (.t 0)) none .any, .op 8 (.move (.t 0)) none .any] [0]) .ret))))
def F38 : SFunc := .code .pure 36 4 [some 8] [.tmp 0] c38

-- crux/member.CheckJury
@[simp] def c42_n2 : SCode := (.region [.op 4 (.fieldAddr 0 (.t 0)) none .any, .op 5 (.load none (.t 0)) none .any, .op 6 (.call false (.k (.c (.func 99 [] []))) [(.t 0), (.k (.c (.int .i64 24))), (.k (.c (.func 100 [] [])))]) none .any, .op 3 (.move (.t 0)) none .any] [4, 0])
@[simp] def c42_n4 : SCode := (.region [.op 7 (.move (.t 1)) none .any, .op 8 (.fieldAddr 1 (.t 1)) none .any, .op 9 (.load none (.t 0)) none .any, .op 10 (.call false (.k (.c (.func 106 [] []))) [(.t 0), (.k (.c (.int .i64 24))), (.k (.c (.func 107 [] [])))]) none .any, .op 11 (.buildSlice 2 none 2 [(.c (.int .i64 0))] [(0, (.t 3)), (1, (.t 0))]) none .any, .op 12 (.call false (.k (.c (.func 79 [] []))) [(.t 0)]) none .any, .op 2 (.move (.t 0)) none .any] [0])
def c42_n3 : SCode := .seq c42_n4 .ret
instance : IsSeq c42_n3 c42_n4 .ret := ⟨rfl⟩
def c42_n1 : SCode := .seq c42_n2 c42_n3
instance : IsSeq c42_n1 c42_n2 c42_n3 := ⟨rfl⟩
def c42 : SCode := (.seq (.region [.op 1 (.box (.t 0)) none .any, .op 2 (.move (.k (.c (.int .i64 0)))) none .any] [1]) c42_n1)
def F42 : SFunc := .code .pure 13 1 [some 2] [.tmp 0] c42

-- crux/member.Serves
@[simp] def c43_n2 : SCode := (.seq (.draw 1 [.op 9 (.load (some 2) (.t 2)) none .var, .op 10 (.call false (.k (.c (.func 42 [] []))) [(.t 0)]) none .any, .op 11 (.load (some 2) (.t 4)) none .var, .op 12 (.move (.t 3)) none .any, .op 13 (.call false (.k (.c (.func 110 [] []))) [(.t 1), (.t 0)]) none .any, .op 14 (.move (.t 6)) none .any, .op 15 (.fieldAddr 1 (.t 8)) none .any, .op 16 (.load none (.t 0)) none .var, .op 17 (.len 1 (.t 0)) none .old, .op 18 (.bin .sub (.t 0) (.k (.c (.int .i64 1)))) none .any, .op 19 (.call false (.k (.c (.func 105 [] []))) [(.t 4), (.k (.c (.int .i64 0))), (.t 0)]) none .any, .op 20 (.call false (.k (.c (.func 82 [] []))) [(.t 0), (.k (.c (.int .i64 10)))]) none .any, .op 21 (.buildSlice 2 none 3 [(.c (.int .i64 0))] [(0, (.t 10)), (1, (.t 7)), (2, (.t 0))]) (some 0) .any, .op 22 (.call false (.k (.c (.func 79 [] []))) [(.t 0)]) none .any, .op 8 (.move (.t 0)) none .any] [15, 16, 17, 0]) (.seq (.region [.op 23 (.move (.t 3)) none .any, .op 24 (.bin .neq (.t 0) (.k (.c (.int .i64 0)))) none .any] [2, 3, 4, 5, 0]) (.cond (.t 4) (.seq (.region [.op 25 (.move (.t 3)) none .any, .op 6 (.move (.k (.c (.bool false)))) none .any, .op 7 (.move (.t 1)) none .any] [1, 0]) .ret) (.pre [0, 1, 2] .skip))))
def c43_n1 : SCode := .seq c43_n2 (.seq (.region [.op 26 (.load (some 2) (.t 2)) none .any, .op 27 (.move (.t 1)) none .any, .op 28 (.move (.t 3)) none .any, .op 29 (.call false (.k (.c (.func 111 [] []))) [(.t 2), (.t 1), (.t 0)]) none .any, .op 6 (.move (.t 0)) none .any, .op 7 (.move (.k (.c (.int .i64 0)))) none .any] [1, 0]) .ret)
instance : IsSeq c43_n1 c43_n2 (.seq (.region [.op 26 (.load (some 2) (.t 2)) none .any, .op 27 (.move (.t 1)) none .any, .op 28 (.move (.t 3)) none .any, .op 29 (.call false (.k (.c (.func 111 [] []))) [(.t 2), (.t 1), (.t 0)]) none .any, .op 6 (.move (.t 0)) none .any, .op 7 (.move (.k (.c (.int .i64 0)))) none .any] [1, 0]) .ret) := ⟨rfl⟩
def c43 : SCode := (.seq (.region [.op 3 (.box (.t 0)) none .any, .op 6 (.move (.k (.c (.bool false)))) none .any, .op 7 (.move (.k (.c (.int .i64 0)))) none .any] [4, 5, 2]) c43_n1)
def F43 : SFunc := .code .pure 30 3 [some 6, some 7] [.tmp 0, .tmp 1] c43

-- crux/member.CheckAppointment
-- c46_l0: env [1, 2, 28, 29, 30]
-- c46_l1: env [1, 2, 9, 10, 11, 53, 54, 55, 64, 65, 66]
-- c46_l2: env [1, 2, 9, 53, 54, 55]
@[simp] def c46_n4 : SCode := (.region [.op 32 (.move (.t 4)) none .any, .op 33 (.idxSlice 1 (.t 3) (.t 5)) none .any, .op 34 (.load none (.t 0)) none .any, .op 6 (.move (.t 2)) none .any, .op 7 (.move (.t 1)) none .any] [5, 6, 1, 0, 7, 8, 9])
@[simp] def c46_n6 : SCode := (.seq (.region [.op 35 (.move (.t 3)) none .any, .op 36 (.bin .eql (.t 0) (.k (.c (.int .i64 (-1))))) none .any] [2, 3, 4, 5, 6, 7, 8, 0]) (.cond (.t 7) (.pre [0, 1, 4, 5, 6] (.exit 1)) (.pre [0, 1, 2, 3, 4, 5, 6] .skip)))
@[simp] def c46_n8 : SCode := (.seq (.region [.op 37 (.load (some 2) (.t 1)) none .any, .op 38 (.move (.t 4)) none .any, .op 39 (.call false (.k (.c (.func 110 [] []))) [(.t 1), (.t 0)]) none .any, .op 8 (.move (.t 0)) none .any] [4, 5, 6, 7, 0, 8, 9, 10]) (.seq (.region [.op 40 (.move (.t 4)) none .any, .op 41 (.bin .neq (.t 0) (.k (.c (.int .i64 0)))) none .any] [2, 3, 4, 5, 6, 7, 8, 9, 0]) (.cond (.t 8) (.seq (.region [.op 42 (.move (.t 4)) none .any, .op 4 (.move (.t 0)) none .any] [0]) .ret) (.pre [0, 1, 2, 3, 5, 6, 7] .skip))))
@[simp] def c46_n10 : SCode := (.region [.op 43 (.load (some 2) (.t 1)) none .any, .op 44 (.move (.t 4)) none .any, .op 45 (.move (.t 4)) none .any, .op 46 (.call false (.k (.c (.func 111 [] []))) [(.t 2), (.t 1), (.t 0)]) none .any, .op 47 (.not (.t 0)) none .any] [5, 6, 9, 10, 11, 0])
def c46_n9 : SCode := .seq c46_n10 (.cond (.t 5) (.seq (.region [.op 4 (.move (.k (.c (.int .i64 18)))) none .any] [0]) .ret) (.pre [0, 1, 2, 3, 4] .skip))
instance : IsSeq c46_n9 c46_n10 (.cond (.t 5) (.seq (.region [.op 4 (.move (.k (.c (.int .i64 18)))) none .any] [0]) .ret) (.pre [0, 1, 2, 3, 4] .skip)) := ⟨rfl⟩
def c46_n7 : SCode := .seq c46_n8 c46_n9
instance : IsSeq c46_n7 c46_n8 c46_n9 := ⟨rfl⟩
def c46_n5 : SCode := .seq c46_n6 c46_n7
instance : IsSeq c46_n5 c46_n6 c46_n7 := ⟨rfl⟩
def c46_n3 : SCode := .seq c46_n4 c46_n5
instance : IsSeq c46_n3 c46_n4 c46_n5 := ⟨rfl⟩
def c46_n2 : SCode := .seq (.block 1 [some 1, some 2, some 28, some 29, some 30] c46_n3) (.region [.op 48 (.bin .add (.t 4) (.k (.c (.int .i64 1)))) none .any, .op 30 (.move (.t 0)) none .any] [2, 3, 4, 5, 0])
instance : IsSeq c46_n2 (.block 1 [some 1, some 2, some 28, some 29, some 30] c46_n3) (.region [.op 48 (.bin .add (.t 4) (.k (.c (.int .i64 1)))) none .any, .op 30 (.move (.t 0)) none .any] [2, 3, 4, 5, 0]) := ⟨rfl⟩
def c46_n1 : SCode := .seq (.cond (.t 5) (.pre [0, 1, 2, 3, 4] .skip) (.pre [0, 1] (.exit 0))) c46_n2
instance : IsSeq c46_n1 (.cond (.t 5) (.pre [0, 1, 2, 3, 4] .skip) (.pre [0, 1] (.exit 0))) c46_n2 := ⟨rfl⟩
def c46_l0b : SCode := (.seq (.region [.op 31 (.bin .lss (.t 4) (.t 3)) none .any] [1, 2, 3, 4, 5, 0]) c46_n1)
def c46_l0 : SCode := .loop true c46_l0b
@[simp] def c46_n12 : SCode := (.cond (.t 11) (.pre [0, 1, 2, 3, 4, 5, 6, 7, 8, 9, 10] .skip) (.pre [0, 1, 2, 4, 5, 6, 7] (.exit 4)))
@[simp] def c46_n15 : SCode := (.region [.op 68 (.move (.t 10)) none .any, .op 69 (.idxSlice 1 (.t 9) (.t 11)) none .any, .op 70 (.load none (.t 0)) none .any, .op 12 (.move (.t 2)) none .any, .op 13 (.move (.t 1)) none .any] [5, 6, 7, 8, 9, 1, 0, 10, 11, 12, 13, 14, 15])
@[simp] def c46_n17 : SCode := (.draw 0 [.op 71 (.move (.t 6)) none .any, .op 72 (.move (.t 5)) none .any, .op 73 (.bin .eql (.t 1) (.t 0)) none .any, .op 74 (.move (.t 0)) none .any, .andN 88 0 [.op 75 (.fieldAddr 1 (.t 5)) none .any, .op 76 (.load none (.t 0)) none .var, .op 77 (.move (.t 11)) none .any, .op 78 (.idxSlice 4 (.t 1) (.t 0)) none .any, .op 79 (.fieldAddr 2 (.t 0)) none .any, .op 80 (.load none (.t 0)) none .old, .op 81 (.fieldAddr 1 (.t 11)) none .any, .op 82 (.load none (.t 0)) none .var, .op 83 (.move (.t 15)) none .any, .op 84 (.idxSlice 4 (.t 1) (.t 0)) none .any, .op 85 (.fieldAddr 2 (.t 0)) none .any, .op 86 (.load none (.t 0)) none .old, .op 87 (.bin .eql (.t 6) (.t 0)) none .any] (.t 0)] [5, 6, 7, 8, 9, 12, 13, 14, 15, 16, 17, 0])
def c46_n16 : SCode := .seq c46_n17 (.cond (.t 11) (.seq (.region [.op 4 (.move (.k (.c (.int .i64 9)))) none .any] [0]) .ret) (.pre [0, 1, 2, 3, 4, 5, 6, 7, 8, 9, 10] .skip))
instance : IsSeq c46_n16 c46_n17 (.cond (.t 11) (.seq (.region [.op 4 (.move (.k (.c (.int .i64 9)))) none .any] [0]) .ret) (.pre [0, 1, 2, 3, 4, 5, 6, 7, 8, 9, 10] .skip)) := ⟨rfl⟩
def c46_n14 : SCode := .seq c46_n15 c46_n16
instance : IsSeq c46_n14 c46_n15 c46_n16 := ⟨rfl⟩
@[simp] def c46_n18 : SCode := (.block 5 [some 1, some 2, some 9, some 10, some 11, some 53, some 54, some 55, some 64, some 65, some 66] c46_n14)
def c46_n13 : SCode := .seq c46_n18 (.region [.op 89 (.bin .add (.t 10) (.k (.c (.int .i64 1)))) none .any, .op 66 (.move (.t 0)) none .any] [2, 3, 4, 5, 6, 7, 8, 9, 10, 11, 0])
instance : IsSeq c46_n13 c46_n18 (.region [.op 89 (.bin .add (.t 10) (.k (.c (.int .i64 1)))) none .any, .op 66 (.move (.t 0)) none .any] [2, 3, 4, 5, 6, 7, 8, 9, 10, 11, 0]) := ⟨rfl⟩
def c46_n11 : SCode := .seq c46_n12 c46_n13
instance : IsSeq c46_n11 c46_n12 c46_n13 := ⟨rfl⟩
def c46_l1b : SCode := (.seq (.region [.op 67 (.bin .lss (.t 10) (.t 9)) none .any] [1, 2, 3, 4, 5, 6, 7, 8, 9, 10, 11, 0]) c46_n11)
def c46_l1 : SCode := .loop true c46_l1b
@[simp] def c46_n22 : SCode := (.region [.op 57 (.move (.t 5)) none .any, .op 58 (.idxSlice 1 (.t 4) (.t 6)) none .any, .op 59 (.load none (.t 0)) none .any, .op 10 (.move (.t 2)) none .any, .op 11 (.move (.t 1)) none .any] [5, 6, 7, 1, 0, 8, 9, 10])
@[simp] def c46_n24 : SCode := (.seq (.region [.op 60 (.move (.t 4)) none .any, .op 61 (.bin .lss (.t 0) (.k (.c (.int .i64 0)))) none .any] [2, 3, 4, 5, 6, 7, 8, 9, 0]) (.cond (.t 8) (.pre [0, 1, 2, 5, 6, 7] (.exit 3)) (.pre [0, 1, 2, 3, 4, 5, 6, 7] .skip)))
@[simp] def c46_n26 : SCode := (.seq (.region [.op 62 (.move (.t 0)) none .any, .op 63 (.move (.t 4)) none .any, .op 64 (.sliceSl 1 (.t 1) none (some (.t 0)) none) none .any, .op 65 (.len 1 (.t 0)) none .any, .op 66 (.move (.k (.c (.int .i64 0)))) none .any] [5, 6, 7, 8, 9, 10, 11, 12, 2, 1, 0]) (.block 4 [some 1, some 2, some 9, some 11, some 53, some 54, some 55] c46_l1))
@[simp] def c46_n28 : SCode := (.region [.op 90 (.move (.t 2)) none .any, .op 91 (.move (.t 4)) none .any, .op 92 (.idxSlice 1 (.t 1) (.t 0)) none .any, .op 93 (.load none (.t 0)) none .any, .op 94 (.bin .add (.t 0) (.k (.c (.int .i64 1)))) none .any, .op 95 (.idxSlice 1 (.t 4) (.t 3)) none .any, .eff (.store 1 (.t 0) (.t 1)) none .any] [6, 7, 8, 9, 10, 11, 12])
@[simp] def c46_n30 : SCode := (.draw 0 [.op 96 (.move (.t 2)) none .any, .op 97 (.move (.t 4)) none .any, .op 98 (.idxSlice 1 (.t 1) (.t 0)) none .any, .op 99 (.load none (.t 0)) none .old, .op 100 (.fieldAddr 0 (.t 5)) none .any, .op 101 (.load none (.t 0)) none .var, .op 102 (.move (.t 9)) none .any, .op 103 (.idxSlice 4 (.t 1) (.t 0)) none .any, .op 104 (.fieldAddr 3 (.t 0)) none .any, .op 105 (.load none (.t 0)) none .old, .op 106 (.bin .gtr (.t 6) (.t 0)) none .any] [11, 12, 13, 15, 16, 17, 0])
def c46_n29 : SCode := .seq c46_n30 (.cond (.t 6) (.seq (.region [.op 4 (.move (.k (.c (.int .i64 5)))) none .any] [0]) .ret) (.pre [0, 1, 2, 3, 4, 5] .skip))
instance : IsSeq c46_n29 c46_n30 (.cond (.t 6) (.seq (.region [.op 4 (.move (.k (.c (.int .i64 5)))) none .any] [0]) .ret) (.pre [0, 1, 2, 3, 4, 5] .skip)) := ⟨rfl⟩
def c46_n27 : SCode := .seq c46_n28 c46_n29
instance : IsSeq c46_n27 c46_n28 c46_n29 := ⟨rfl⟩
def c46_n25 : SCode := .seq c46_n26 c46_n27
instance : IsSeq c46_n25 c46_n26 c46_n27 := ⟨rfl⟩
def c46_n23 : SCode := .seq c46_n24 c46_n25
instance : IsSeq c46_n23 c46_n24 c46_n25 := ⟨rfl⟩
def c46_n21 : SCode := .seq c46_n22 c46_n23
instance : IsSeq c46_n21 c46_n22 c46_n23 := ⟨rfl⟩
def c46_n20 : SCode := .seq (.block 3 [some 1, some 2, some 9, some 53, some 54, some 55] c46_n21) (.region [.op 107 (.bin .add (.t 5) (.k (.c (.int .i64 1)))) none .any, .op 55 (.move (.t 0)) none .any] [2, 3, 4, 5, 6, 0])
instance : IsSeq c46_n20 (.block 3 [some 1, some 2, some 9, some 53, some 54, some 55] c46_n21) (.region [.op 107 (.bin .add (.t 5) (.k (.c (.int .i64 1)))) none .any, .op 55 (.move (.t 0)) none .any] [2, 3, 4, 5, 6, 0]) := ⟨rfl⟩
def c46_n19 : SCode := .seq (.cond (.t 6) (.pre [0, 1, 2, 3, 4, 5] .skip) (.pre [] (.exit 2))) c46_n20
instance : IsSeq c46_n19 (.cond (.t 6) (.pre [0, 1, 2, 3, 4, 5] .skip) (.pre [] (.exit 2))) c46_n20 := ⟨rfl⟩
def c46_l2b : SCode := (.seq (.region [.op 56 (.bin .lss (.t 5) (.t 4)) none .any] [1, 2, 3, 4, 5, 6, 0]) c46_n19)
def c46_l2 : SCode := .loop true c46_l2b
@[simp] def c46_n32 : SCode := (.seq (.draw 1 [.op 14 (.load (some 2) (.t 1)) none .var, .op 15 (.call false (.k (.c (.func 42 [] []))) [(.t 0)]) none .any, .op 16 (.move (.t 2)) none .any, .op 17 (.len 1 (.t 0)) none .old, .op 18 (.fieldAddr 1 (.t 5)) none .any, .op 19 (.load none (.t 0)) none .var, .op 20 (.len 1 (.t 0)) none .old, .op 21 (.bin .neq (.t 3) (.t 0)) none .any, .op 22 (.call false (.k (.c (.func 82 [] []))) [(.t 0), (.k (.c (.int .i64 2)))]) none .any, .op 23 (.buildSlice 2 none 2 [(.c (.int .i64 0))] [(0, (.t 7)), (1, (.t 0))]) (some 0) .any, .op 24 (.call false (.k (.c (.func 79 [] []))) [(.t 0)]) none .any, .op 5 (.move (.t 0)) none .any] [12, 13, 0]) (.seq (.region [.op 25 (.move (.t 2)) none .any, .op 26 (.bin .neq (.t 0) (.k (.c (.int .i64 0)))) none .any] [2, 3, 4, 0]) (.cond (.t 3) (.seq (.region [.op 27 (.move (.t 2)) none .any, .op 4 (.move (.t 0)) none .any] [0]) .ret) (.pre [0, 1] .skip))))
@[simp] def c46_n34 : SCode := (.seq (.region [.op 28 (.move (.t 0)) none .any, .op 29 (.len 1 (.t 0)) none .any, .op 30 (.move (.k (.c (.int .i64 0)))) none .any] [3, 4, 2, 1, 0]) (.block 0 [some 1, some 2] c46_l0))
@[simp] def c46_n36 : SCode := (.region [.op 49 (.fieldAddr 0 (.t 1)) none .any, .op 50 (.load none (.t 0)) none .any, .op 51 (.len 1 (.t 0)) none .any, .op 52 (.makeSlice none 8 [(.c (.int .i64 0))] (.t 0) (.t 0)) none .any, .op 9 (.move (.t 0)) none .any] [5, 6, 0])
def c46_n35 : SCode := .seq c46_n36 (.seq .skip (.seq (.seq (.region [.op 53 (.move (.t 0)) none .any, .op 54 (.len 1 (.t 0)) none .any, .op 55 (.move (.k (.c (.int .i64 0)))) none .any] [3, 4, 5, 2, 1, 0]) (.block 2 [] c46_l2)) (.seq (.region [.op 4 (.move (.k (.c (.int .i64 0)))) none .any] [0]) .ret)))
instance : IsSeq c46_n35 c46_n36 (.seq .skip (.seq (.seq (.region [.op 53 (.move (.t 0)) none .any, .op 54 (.len 1 (.t 0)) none .any, .op 55 (.move (.k (.c (.int .i64 0)))) none .any] [3, 4, 5, 2, 1, 0]) (.block 2 [] c46_l2)) (.seq (.region [.op 4 (.move (.k (.c (.int .i64 0)))) none .any] [0]) .ret))) := ⟨rfl⟩
def c46_n33 : SCode := .seq c46_n34 c46_n35
instance : IsSeq c46_n33 c46_n34 c46_n35 := ⟨rfl⟩
def c46_n31 : SCode := .seq c46_n32 c46_n33
instance : IsSeq c46_n31 c46_n32 c46_n33 := ⟨rfl⟩
def c46 : SCode := (.seq (.region [.op 2 (.box (.t 0)) none .any, .op 4 (.move (.k (.c (.int .i64 0)))) none .any] [3, 1]) c46_n31)
def F46 : SFunc := .code .pure 108 2 [some 4] [.tmp 0] c46

-- crux/member.Replaced
-- c48_l0: env [1, 2, 3, 9, 30, 31, 32]
@[simp] def c48_n4 : SCode := (.region [.op 34 (.move (.t 6)) none .any, .op 35 (.idxSlice 1 (.t 5) (.t 7)) none .any, .op 36 (.load none (.t 0)) none .any, .op 10 (.move (.t 2)) none .any, .op 11 (.move (.t 1)) none .any] [5, 6, 7, 8, 1, 0, 9, 10, 11])
@[simp] def c48_n6 : SCode := (.region [.op 37 (.move (.t 5)) none .any, .op 38 (.move (.t 2)) none .any, .op 39 (.bin .eql (.t 1) (.t 0)) none .any] [3, 4, 5, 6, 7, 9, 10, 11, 0])
def c48_n5 : SCode := .seq c48_n6 (.cond (.t 8) (.region [.op 40 (.move (.t 3)) none .any, .op 41 (.move (.t 5)) none .any, .op 42 (.bin .shl (.k (.c (.int .u64 1))) (.t 0)) none .any, .op 43 (.bin .or (.t 2) (.t 0)) none .any, .op 9 (.move (.t 0)) none .any] [5, 6, 7, 0, 10, 11, 12]) (.pre [0, 1, 2, 3, 5, 6, 7] .skip))
instance : IsSeq c48_n5 c48_n6 (.cond (.t 8) (.region [.op 40 (.move (.t 3)) none .any, .op 41 (.move (.t 5)) none .any, .op 42 (.bin .shl (.k (.c (.int .u64 1))) (.t 0)) none .any, .op 43 (.bin .or (.t 2) (.t 0)) none .any, .op 9 (.move (.t 0)) none .any] [5, 6, 7, 0, 10, 11, 12]) (.pre [0, 1, 2, 3, 5, 6, 7] .skip)) := ⟨rfl⟩
def c48_n3 : SCode := .seq c48_n4 c48_n5
instance : IsSeq c48_n3 c48_n4 c48_n5 := ⟨rfl⟩
def c48_n2 : SCode := .seq (.block 1 [some 1, some 2, some 3, some 9, some 30, some 31, some 32] c48_n3) (.region [.op 44 (.bin .add (.t 6) (.k (.c (.int .i64 1)))) none .any, .op 32 (.move (.t 0)) none .any] [2, 3, 4, 5, 6, 7, 0])
instance : IsSeq c48_n2 (.block 1 [some 1, some 2, some 3, some 9, some 30, some 31, some 32] c48_n3) (.region [.op 44 (.bin .add (.t 6) (.k (.c (.int .i64 1)))) none .any, .op 32 (.move (.t 0)) none .any] [2, 3, 4, 5, 6, 7, 0]) := ⟨rfl⟩
def c48_n1 : SCode := .seq (.cond (.t 7) (.pre [0, 1, 2, 3, 4, 5, 6] .skip) (.pre [0, 1, 2, 3] (.exit 0))) c48_n2
instance : IsSeq c48_n1 (.cond (.t 7) (.pre [0, 1, 2, 3, 4, 5, 6] .skip) (.pre [0, 1, 2, 3] (.exit 0))) c48_n2 := ⟨rfl⟩
def c48_l0b : SCode := (.seq (.region [.op 33 (.bin .lss (.t 6) (.t 5)) none .any] [1, 2, 3, 4, 5, 6, 7, 0]) c48_n1)
def c48_l0 : SCode := .loop true c48_l0b
@[simp] def c48_n8 : SCode := (.seq (.draw 1 [.op 14 (.load (some 2) (.t 2)) none .var, .op 15 (.move (.t 1)) none .any, .op 16 (.call false (.k (.c (.func 46 [] []))) [(.t 1), (.t 0)]) none .any, .op 17 (.load (some 2) (.t 5)) none .var, .op 18 (.move (.t 5)) none .any, .op 19 (.call false (.k (.c (.func 110 [] []))) [(.t 1), (.t 0)]) none .any, .op 20 (.fieldAddr 1 (.t 8)) none .any, .op 21 (.load none (.t 0)) none .var, .op 22 (.len 1 (.t 0)) none .old, .op 23 (.bin .gtr (.t 0) (.k (.c (.int .i64 12)))) none .any, .op 24 (.call false (.k (.c (.func 82 [] []))) [(.t 0), (.k (.c (.int .i64 22)))]) none .any, .op 25 (.buildSlice 2 none 3 [(.c (.int .i64 0))] [(0, (.t 8)), (1, (.t 5)), (2, (.t 0))]) (some 0) .any, .op 26 (.call false (.k (.c (.func 79 [] []))) [(.t 0)]) none .any, .op 8 (.move (.t 0)) none .any] [14, 15, 16, 0]) (.seq (.region [.op 27 (.move (.t 3)) none .any, .op 28 (.bin .neq (.t 0) (.k (.c (.int .i64 0)))) none .any] [2, 3, 4, 5, 0]) (.cond (.t 4) (.seq (.region [.op 29 (.move (.t 3)) none .any, .op 6 (.mkNil none) none .any, .op 7 (.move (.t 1)) none .any] [1, 0]) .ret) (.pre [0, 1, 2] .skip))))
@[simp] def c48_n11 : SCode := (.seq (.region [.op 30 (.move (.t 0)) none .any, .op 31 (.len 1 (.t 0)) none .any, .op 32 (.move (.k (.c (.int .i64 0)))) none .any] [3, 4, 5, 6, 2, 1, 0]) (.block 0 [some 1, some 2, some 3, some 9] c48_l0))
@[simp] def c48_n13 : SCode := (.region [.op 46 (.load (some 2) (.t 2)) none .any, .op 47 (.move (.t 1)) none .any, .op 48 (.move (.t 5)) none .any, .op 49 (.move (.t 4)) none .any, .op 50 (.call false (.k (.c (.func 113 [] []))) [(.t 3), (.t 2), (.t 1), (.t 0)]) none .any, .op 45 (.move (.t 0)) none .any, .op 51 (.extract (.t 0) 0) none .any, .op 52 (.extract (.t 1) 1) none .any, .op 12 (.move (.t 1)) none .any, .op 13 (.move (.t 1)) none .any] [1, 0])
@[simp] def c48_n15 : SCode := (.seq (.region [.op 53 (.move (.t 1)) none .any, .op 54 (.not (.t 0)) none .any] [2, 0]) (.cond (.t 1) (.seq (.region [.op 6 (.mkNil none) none .any, .op 7 (.move (.k (.c (.int .i64 23)))) none .any] [1, 0]) .ret) (.pre [0] .skip)))
def c48_n14 : SCode := .seq c48_n15 (.seq (.region [.op 55 (.move (.t 0)) none .any, .op 6 (.move (.t 0)) none .any, .op 7 (.move (.k (.c (.int .i64 0)))) none .any] [1, 0]) .ret)
instance : IsSeq c48_n14 c48_n15 (.seq (.region [.op 55 (.move (.t 0)) none .any, .op 6 (.move (.t 0)) none .any, .op 7 (.move (.k (.c (.int .i64 0)))) none .any] [1, 0]) .ret) := ⟨rfl⟩
def c48_n12 : SCode := .seq c48_n13 c48_n14
instance : IsSeq c48_n12 c48_n13 c48_n14 := ⟨rfl⟩
def c48_n10 : SCode := .seq c48_n11 c48_n12
instance : IsSeq c48_n10 c48_n11 c48_n12 := ⟨rfl⟩
def c48_n9 : SCode := .seq (.region [.op 9 (.move (.k (.c (.int .u64 0)))) none .any] [1, 2, 3, 0]) c48_n10
instance : IsSeq c48_n9 (.region [.op 9 (.move (.k (.c (.int .u64 0)))) none .any] [1, 2, 3, 0]) c48_n10 := ⟨rfl⟩
def c48_n7 : SCode := .seq c48_n8 c48_n9
instance : IsSeq c48_n7 c48_n8 c48_n9 := ⟨rfl⟩
def c48 : SCode := (.seq (.region [.op 3 (.box (.t 0)) none .any, .op 6 (.mkNil none) none .any, .op 7 (.move (.k (.c (.int .i64 0)))) none .any] [4, 5, 2]) c48_n7)
def F48 : SFunc := .code .pure 56 3 [some 6, some 7] [.tmp 0, .tmp 1] c48

-- crux/cruxref09.Outside
def c54 : SCode := (.seq (.region [.op 6 (.move (.k (.c (.bool false)))) none .any] [1, 2, 3]) (.seq (.region [.op 7 (.move (.t 0)) none .any, .op 8 (.move (.t 2)) none .any, .op 9 (.bin .lss (.t 1) (.t 0)) none .any, .op 10 (.move (.t 0)) none .any, .orN 14 0 [.op 11 (.move (.t 4)) none .any, .op 12 (.move (.t 7)) none .any, .op 13 (.bin .gtr (.t 1) (.t 0)) none .any] (.t 0), .op 6 (.move (.t 0)) none .any] [0]) .ret))
def F54 : SFunc := .code .pure 15 3 [some 6] [.tmp 0] c54

-- crux/member.Gaps
-- c55_l0: env [5, 7, 8, 17, 18, 19]
-- c55_l1: env [5, 17, 18, 19]
-- c55_l2: env [5, 9, 34, 35]
@[simp] def c55_n2 : SCode := (.block 3 [some 5, some 7, some 8, some 17, some 18, some 19] (.region [.op 31 (.move (.t 2)) none .any, .op 32 (.idxArr 121 1 (.t 1) (.t 0)) none .any, .eff (.store 1 (.t 0) (.k (.c (.bool true)))) none .any] [2, 3, 4, 5, 6, 7]))
def c55_n1 : SCode := .seq c55_n2 (.region [.op 29 (.move (.t 2)) none .any, .op 30 (.bin .add (.t 0) (.k (.c (.int .i64 1)))) none .any, .op 8 (.move (.t 0)) none .any] [3, 4, 0, 6, 7, 8])
instance : IsSeq c55_n1 c55_n2 (.region [.op 29 (.move (.t 2)) none .any, .op 30 (.bin .add (.t 0) (.k (.c (.int .i64 1)))) none .any, .op 8 (.move (.t 0)) none .any] [3, 4, 0, 6, 7, 8]) := ⟨rfl⟩
def c55_l0b : SCode := (.seq (.seq (.region [.op 25 (.move (.t 2)) none .any, .op 26 (.fieldAddr 2 (.t 2)) none .any, .op 27 (.load none (.t 0)) none .any, .op 28 (.bin .leq (.t 2) (.t 0)) none .any] [4, 5, 6, 7, 8, 9, 0]) (.cond (.t 6) (.pre [0, 1, 2, 3, 4, 5] .skip) (.pre [0, 3, 4, 5] (.exit 2)))) c55_n1)
def c55_l0 : SCode := .loop true c55_l0b
@[simp] def c55_n6 : SCode := (.region [.op 21 (.idxSlice 3 (.t 1) (.t 3)) none .any, .op 22 (.load (some 3) (.t 0)) none .any, .op 7 (.new [(.c (.str [])), (.c (.int .i64 0)), (.c (.int .i64 0))]) none .any, .eff (.store 3 (.t 0) (.t 1)) none .any] [3, 0, 4, 5, 6])
def c55_n5 : SCode := .seq c55_n6 (.seq (.region [.op 23 (.fieldAddr 1 (.t 1)) none .any, .op 24 (.load none (.t 0)) none .any, .op 8 (.move (.t 0)) none .any] [3, 4, 0, 5, 6, 7]) (.block 2 [some 5, some 17, some 18, some 19] c55_l0))
instance : IsSeq c55_n5 c55_n6 (.seq (.region [.op 23 (.fieldAddr 1 (.t 1)) none .any, .op 24 (.load none (.t 0)) none .any, .op 8 (.move (.t 0)) none .any] [3, 4, 0, 5, 6, 7]) (.block 2 [some 5, some 17, some 18, some 19] c55_l0)) := ⟨rfl⟩
def c55_n4 : SCode := .seq (.block 1 [some 5, some 17, some 18, some 19] c55_n5) (.region [.op 33 (.bin .add (.t 3) (.k (.c (.int .i64 1)))) none .any, .op 19 (.move (.t 0)) none .any] [2, 3, 4, 0])
instance : IsSeq c55_n4 (.block 1 [some 5, some 17, some 18, some 19] c55_n5) (.region [.op 33 (.bin .add (.t 3) (.k (.c (.int .i64 1)))) none .any, .op 19 (.move (.t 0)) none .any] [2, 3, 4, 0]) := ⟨rfl⟩
def c55_n3 : SCode := .seq (.cond (.t 4) (.pre [0, 1, 2, 3] .skip) (.pre [0] (.exit 0))) c55_n4
instance : IsSeq c55_n3 (.cond (.t 4) (.pre [0, 1, 2, 3] .skip) (.pre [0] (.exit 0))) c55_n4 := ⟨rfl⟩
def c55_l1b : SCode := (.seq (.region [.op 20 (.bin .lss (.t 3) (.t 2)) none .any] [1, 2, 3, 4, 0]) c55_n3)
def c55_l1 : SCode := .loop true c55_l1b
@[simp] def c55_n10 : SCode := (.region [.op 37 (.move (.t 3)) none .any, .op 38 (.indexArr 121 none (.t 3) (.t 4)) none .any, .op 10 (.move (.t 1)) none .any, .op 11 (.move (.t 1)) none .any] [4, 5, 1, 0, 6, 7])
@[simp] def c55_n13 : SCode := (.region [.op 46 (.move (.t 3)) none .any, .op 45 (.move (.t 0)) none .any] [2, 3, 4, 6, 7, 0])
@[simp] def c55_n16 : SCode := (.region [.op 48 (.move (.t 2)) none .any, .op 49 (.bin .gtr (.t 0) (.k (.c (.int .i64 0)))) none .any, .op 50 (.move (.t 0)) none .any, .andN 56 0 [.op 51 (.move (.t 5)) none .any, .op 52 (.bin .sub (.t 0) (.k (.c (.int .i64 1)))) none .any, .op 53 (.idxArr 121 1 (.t 5) (.t 0)) none .any, .op 54 (.load none (.t 0)) none .any, .op 55 (.not (.t 0)) none .any] (.t 0), .op 47 (.move (.t 0)) none .any] [5, 6, 7, 8, 9, 0])
@[simp] def c55_n18 : SCode := (.region [.op 57 (.move (.t 1)) none .any, .op 58 (.move (.t 2)) none .any, .op 59 (.len 1 (.t 0)) none .any, .op 60 (.bin .sub (.t 0) (.k (.c (.int .i64 1)))) none .any, .op 61 (.move (.t 6)) none .any, .op 62 (.idxSlice 2 (.t 4) (.t 1)) none .any, .op 63 (.idxArr 2 1 (.t 0) (.k (.c (.int .i64 1)))) none .any, .eff (.store 1 (.t 0) (.t 2)) none .any] [7, 8, 10, 11])
@[simp] def c55_n19 : SCode := (.region [.op 39 (.move (.t 1)) none .any, .op 40 (.move (.t 3)) none .any, .op 41 (.move (.t 4)) none .any, .op 42 (.build [(.c (.int .i64 0)), (.c (.int .i64 0))] [(0, 1, (.t 1)), (1, 1, (.t 0))]) none .any, .op 43 (.buildSlice 2 (some 2) 1 [(.c (.int .i64 0)), (.c (.int .i64 0))] [(0, (.t 0))]) none .any, .op 44 (.append (some 2) 16 (.t 4) (.t 0)) none .any, .op 9 (.move (.t 0)) none .any] [7, 0, 10, 11])
def c55_n17 : SCode := .cond (.t 5) c55_n18 c55_n19
instance : IsCond c55_n17 (.t 5) c55_n18 c55_n19 := ⟨rfl⟩
def c55_n15 : SCode := .seq c55_n16 c55_n17
instance : IsSeq c55_n15 c55_n16 c55_n17 := ⟨rfl⟩
def c55_n14 : SCode := .cond (.t 5) (.pre [0, 1, 3, 4] .skip) c55_n15
instance : IsCond c55_n14 (.t 5) (.pre [0, 1, 3, 4] .skip) c55_n15 := ⟨rfl⟩
def c55_n12 : SCode := .seq c55_n13 c55_n14
instance : IsSeq c55_n12 c55_n13 c55_n14 := ⟨rfl⟩
def c55_n11 : SCode := .block 6 [some 5, some 9, some 34, some 35] c55_n12
instance : IsBlock c55_n11 6 [some 5, some 9, some 34, some 35] c55_n12 := ⟨rfl⟩
def c55_n9 : SCode := .seq c55_n10 c55_n11
instance : IsSeq c55_n9 c55_n10 c55_n11 := ⟨rfl⟩
def c55_n8 : SCode := .seq (.block 5 [some 5, some 9, some 34, some 35] c55_n9) (.region [.op 64 (.bin .add (.t 3) (.k (.c (.int .i64 1)))) none .any, .op 35 (.move (.t 0)) none .any] [2, 3, 4, 0])
instance : IsSeq c55_n8 (.block 5 [some 5, some 9, some 34, some 35] c55_n9) (.region [.op 64 (.bin .add (.t 3) (.k (.c (.int .i64 1)))) none .any, .op 35 (.move (.t 0)) none .any] [2, 3, 4, 0]) := ⟨rfl⟩
def c55_n7 : SCode := .seq (.cond (.t 4) (.pre [0, 1, 2, 3] .skip) (.pre [1] (.exit 4))) c55_n8
instance : IsSeq c55_n7 (.cond (.t 4) (.pre [0, 1, 2, 3] .skip) (.pre [1] (.exit 4))) c55_n8 := ⟨rfl⟩
def c55_l2b : SCode := (.seq (.region [.op 36 (.bin .lss (.t 3) (.k (.c (.int .i64 121)))) none .any] [1, 2, 3, 4, 0]) c55_n7)
def c55_l2 : SCode := .loop true c55_l2b
@[simp] def c55_n21 : SCode := (.seq (.region [.op 12 (.move (.t 0)) none .any, .op 13 (.call false (.k (.c (.func 65 [] []))) [(.t 0)]) none .any, .op 4 (.move (.t 0)) none .any] [3, 0]) (.seq (.region [.op 14 (.move (.t 1)) none .any, .op 15 (.bin .neq (.t 0) (.k (.c (.int .i64 0)))) none .any] [2, 3, 0]) (.cond (.t 2) (.seq (.region [.op 16 (.move (.t 1)) none .any, .op 2 (.mkNil (some 2)) none .any, .op 3 (.move (.t 1)) none .any] [1, 0]) .ret) (.pre [0] .skip))))
@[simp] def c55_n23 : SCode := (.region [.op 5 (.new [(.c (.bool false)), (.c (.bool false)), (.c (.bool false)), (.c (.bool false)), (.c (.bool false)), (.c (.bool false)), (.c (.bool false)), (.c (.bool false)), (.c (.bool false)), (.c (.bool false)), (.c (.bool false)), (.c (.bool false)), (.c (.bool false)), (.c (.bool false)), (.c (.bool false)), (.c (.bool false)), (.c (.bool false)), (.c (.bool false)), (.c (.bool false)), (.c (.bool false)), (.c (.bool false)), (.c (.bool false)), (.c (.bool false)), (.c (.bool false)), (.c (.bool false)), (.c (.bool false)), (.c (.bool false)), (.c (.bool false)), (.c (.bool false)), (.c (.bool false)), (.c (.bool false)), (.c (.bool false)), (.c (.bool false)), (.c (.bool false)), (.c (.bool false)), (.c (.bool false)), (.c (.bool false)), (.c (.bool false)), (.c (.bool false)), (.c (.bool false)), (.c (.bool false)), (.c (.bool false)), (.c (.bool false)), (.c (.bool false)), (.c (.bool false)), (.c (.bool false)), (.c (.bool false)), (.c (.bool false)), (.c (.bool false)), (.c (.bool false)), (.c (.bool false)), (.c (.bool false)), (.c (.bool false)), (.c (.bool false)), (.c (.bool false)), (.c (.bool false)), (.c (.bool false)), (.c (.bool false)), (.c (.bool false)), (.c (.bool false)), (.c (.bool false)), (.c (.bool false)), (.c (.bool false)), (.c (.bool false)), (.c (.bool false)), (.c (.bool false)), (.c (.bool false)), (.c (.bool false)), (.c (.bool false)), (.c (.bool false)), (.c (.bool false)), (.c (.bool false)), (.c (.bool false)), (.c (.bool false)), (.c (.bool false)), (.c (.bool false)), (.c (.bool false)), (.c (.bool false)), (.c (.bool false)), (.c (.bool false)), (.c (.bool false)), (.c (.bool false)), (.c (.bool false)), (.c (.bool false)), (.c (.bool false)), (.c (.bool false)), (.c (.bool false)), (.c (.bool false)), (.c (.bool false)), (.c (.bool false)), (.c (.bool false)), (.c (.bool false)), (.c (.bool false)), (.c (.bool false)), (.c (.bool false)), (.c (.bool false)), (.c (.bool false)), (.c (.bool false)), (.c (.bool false)), (.c (.bool false)), (.c (.bool false)), (.c (.bool false)), (.c (.bool false)), (.c (.bool false)), (.c (.bool false)), (.c (.bool false)), (.c (.bool false)), (.c (.bool false)), (.c (.bool false)), (.c (.bool false)), (.c (.bool false)), (.c (.bool false)), (.c (.bool false)), (.c (.bool false)), (.c (.bool false)), (.c (.bool false)), (.c (.bool false)), (.c (.bool false)), (.c (.bool false)), (.c (.bool false)), (.c (.bool false))]) none .any] [1, 0])
@[simp] def c55_n25 : SCode := (.seq (.region [.op 17 (.move (.t 0)) none .any, .op 18 (.len 1 (.t 0)) none .any, .op 19 (.move (.k (.c (.int .i64 0)))) none .any] [4, 2, 1, 0]) (.block 0 [some 5] c55_l1))
def c55_n26 : SCode := .seq (.region [.op 9 (.mkNil (some 2)) none .any] [1, 0]) (.seq (.seq (.region [.op 34 (.load (some 121) (.t 0)) none .any, .op 35 (.move (.k (.c (.int .i64 0)))) none .any] [2, 3, 1, 0]) (.block 4 [some 9] c55_l2)) (.seq (.region [.op 65 (.move (.t 0)) none .any, .op 2 (.move (.t 0)) none .any, .op 3 (.move (.k (.c (.int .i64 0)))) none .any] [1, 0]) .ret))
instance : IsSeq c55_n26 (.region [.op 9 (.mkNil (some 2)) none .any] [1, 0]) (.seq (.seq (.region [.op 34 (.load (some 121) (.t 0)) none .any, .op 35 (.move (.k (.c (.int .i64 0)))) none .any] [2, 3, 1, 0]) (.block 4 [some 9] c55_l2)) (.seq (.region [.op 65 (.move (.t 0)) none .any, .op 2 (.move (.t 0)) none .any, .op 3 (.move (.k (.c (.int .i64 0)))) none .any] [1, 0]) .ret)) := ⟨rfl⟩
def c55_n24 : SCode := .seq c55_n25 c55_n26
instance : IsSeq c55_n24 c55_n25 c55_n26 := ⟨rfl⟩
def c55_n22 : SCode := .seq c55_n23 c55_n24
instance : IsSeq c55_n22 c55_n23 c55_n24 := ⟨rfl⟩
def c55_n20 : SCode := .seq c55_n21 c55_n22
instance : IsSeq c55_n20 c55_n21 c55_n22 := ⟨rfl⟩
def c55 : SCode := (.seq (.region [.op 2 (.mkNil (some 2)) none .any, .op 3 (.move (.k (.c (.int .i64 0)))) none .any] [2]) c55_n20)
def F55 : SFunc := .code .pure 66 1 [some 2, some 3] [.tmp 0, .tmp 1] c55

-- crux/member.Age
@[simp] def c56_n2 : SCode := (.seq (.region [.op 7 (.load (some 4) (.t 1)) none .any, .op 8 (.move (.t 1)) none .any, .op 9 (.call false (.k (.c (.func 116 [] []))) [(.t 1), (.t 0)]) none .any, .op 6 (.move (.t 0)) none .any] [4, 5, 0]) (.seq (.region [.op 10 (.move (.t 2)) none .any, .op 11 (.bin .neq (.t 0) (.k (.c (.int .i64 0)))) none .any] [2, 3, 4, 0]) (.cond (.t 3) (.seq (.region [.op 12 (.move (.t 2)) none .any, .op 4 (.move (.k (.c (.int .i64 0)))) none .any, .op 5 (.move (.t 1)) none .any] [1, 0]) .ret) (.pre [0, 1] .skip))))
def c56_n1 : SCode := .seq c56_n2 (.seq (.region [.op 13 (.move (.t 0)) none .any, .op 14 (.fieldAddr 2 (.t 2)) none .any, .op 15 (.load none (.t 0)) none .any, .op 16 (.bin .sub (.t 2) (.t 0)) none .any, .op 17 (.bin .quo (.t 0) (.k (.c (.int .i64 365)))) none .any, .op 4 (.move (.t 0)) none .any, .op 5 (.move (.k (.c (.int .i64 0)))) none .any] [1, 0]) .ret)
instance : IsSeq c56_n1 c56_n2 (.seq (.region [.op 13 (.move (.t 0)) none .any, .op 14 (.fieldAddr 2 (.t 2)) none .any, .op 15 (.load none (.t 0)) none .any, .op 16 (.bin .sub (.t 2) (.t 0)) none .any, .op 17 (.bin .quo (.t 0) (.k (.c (.int .i64 365)))) none .any, .op 4 (.move (.t 0)) none .any, .op 5 (.move (.k (.c (.int .i64 0)))) none .any] [1, 0]) .ret) := ⟨rfl⟩
def c56 : SCode := (.seq (.region [.op 2 (.box (.t 0)) none .any, .op 4 (.move (.k (.c (.int .i64 0)))) none .any, .op 5 (.move (.k (.c (.int .i64 0)))) none .any] [4, 2]) c56_n1)
def F56 : SFunc := .code .pure 18 2 [some 4, some 5] [.tmp 0, .tmp 1] c56

-- crux/member.Suits
-- c57_l0: env [9, 10, 28, 29, 30]
@[simp] def c57_n4 : SCode := (.region [.op 32 (.idxSlice 3 (.t 2) (.t 4)) none .any, .op 33 (.load (some 3) (.t 0)) none .any, .op 12 (.new [(.c (.str [])), (.c (.int .i64 0)), (.c (.int .i64 0))]) none .any, .eff (.store 3 (.t 0) (.t 1)) none .any] [3, 4, 0, 5, 6, 7])
@[simp] def c57_n6 : SCode := (.region [.op 34 (.move (.t 0)) none .any, .op 35 (.fieldAddr 1 (.t 3)) none .any, .op 36 (.load none (.t 0)) none .any, .op 37 (.fieldAddr 2 (.t 5)) none .any, .op 38 (.load none (.t 0)) none .any, .op 39 (.call false (.k (.c (.func 105 [] []))) [(.t 4), (.t 2), (.t 0)]) none .any, .op 40 (.not (.t 0)) none .any] [7, 8, 9, 10, 11, 12, 0])
def c57_n5 : SCode := .seq c57_n6 (.cond (.t 6) (.region [.op 41 (.move (.t 1)) none .any, .op 42 (.fieldAddr 0 (.t 3)) none .any, .op 43 (.load none (.t 0)) none .any, .op 44 (.buildSlice 2 none 1 [(.c (.str []))] [(0, (.t 0))]) none .any, .op 45 (.append none 16 (.t 3) (.t 0)) none .any, .op 10 (.move (.t 0)) none .any] [6, 0, 9, 10, 11]) (.pre [0, 1, 3, 4, 5] .skip))
instance : IsSeq c57_n5 c57_n6 (.cond (.t 6) (.region [.op 41 (.move (.t 1)) none .any, .op 42 (.fieldAddr 0 (.t 3)) none .any, .op 43 (.load none (.t 0)) none .any, .op 44 (.buildSlice 2 none 1 [(.c (.str []))] [(0, (.t 0))]) none .any, .op 45 (.append none 16 (.t 3) (.t 0)) none .any, .op 10 (.move (.t 0)) none .any] [6, 0, 9, 10, 11]) (.pre [0, 1, 3, 4, 5] .skip)) := ⟨rfl⟩
def c57_n3 : SCode := .seq c57_n4 c57_n5
instance : IsSeq c57_n3 c57_n4 c57_n5 := ⟨rfl⟩
def c57_n2 : SCode := .seq (.block 1 [some 9, some 10, some 28, some 29, some 30] c57_n3) (.region [.op 46 (.bin .add (.t 4) (.k (.c (.int .i64 1)))) none .any, .op 30 (.move (.t 0)) none .any] [2, 3, 4, 5, 0])
instance : IsSeq c57_n2 (.block 1 [some 9, some 10, some 28, some 29, some 30] c57_n3) (.region [.op 46 (.bin .add (.t 4) (.k (.c (.int .i64 1)))) none .any, .op 30 (.move (.t 0)) none .any] [2, 3, 4, 5, 0]) := ⟨rfl⟩
def c57_n1 : SCode := .seq (.cond (.t 5) (.pre [0, 1, 2, 3, 4] .skip) (.pre [1] (.exit 0))) c57_n2
instance : IsSeq c57_n1 (.cond (.t 5) (.pre [0, 1, 2, 3, 4] .skip) (.pre [1] (.exit 0))) c57_n2 := ⟨rfl⟩
def c57_l0b : SCode := (.seq (.region [.op 31 (.bin .lss (.t 4) (.t 3)) none .any] [1, 2, 3, 4, 5, 0]) c57_n1)
def c57_l0 : SCode := .loop true c57_l0b
@[simp] def c57_n8 : SCode := (.seq (.draw 1 [.op 13 (.move (.t 0)) none .any, .op 14 (.call false (.k (.c (.func 65 [] []))) [(.t 0)]) none .any, .op 15 (.load (some 4) (.t 4)) none .var, .op 16 (.move (.t 4)) none .any, .op 17 (.call false (.k (.c (.func 116 [] []))) [(.t 1), (.t 0)]) none .any, .op 18 (.buildSlice 2 none 2 [(.c (.int .i64 0))] [(0, (.t 3)), (1, (.t 0))]) (some 0) .any, .op 19 (.call false (.k (.c (.func 79 [] []))) [(.t 0)]) none .any, .op 8 (.move (.t 0)) none .any] [8, 9, 10, 0]) (.seq (.region [.op 20 (.move (.t 3)) none .any, .op 21 (.bin .neq (.t 0) (.k (.c (.int .i64 0)))) none .any] [2, 3, 4, 5, 0]) (.cond (.t 4) (.seq (.region [.op 22 (.move (.t 3)) none .any, .op 6 (.mkNil none) none .any, .op 7 (.move (.t 1)) none .any] [1, 0]) .ret) (.pre [0, 1, 2] .skip))))
@[simp] def c57_n10 : SCode := (.region [.op 23 (.move (.t 1)) none .any, .op 24 (.fieldAddr 2 (.t 3)) none .any, .op 25 (.load none (.t 0)) none .any, .op 26 (.bin .sub (.t 2) (.t 0)) none .any, .op 27 (.bin .quo (.t 0) (.k (.c (.int .i64 365)))) none .any, .op 9 (.move (.t 0)) none .any] [6, 0])
def c57_n11 : SCode := .seq (.region [.op 10 (.mkNil none) none .any] [1, 2, 0]) (.seq (.seq (.region [.op 28 (.move (.t 0)) none .any, .op 29 (.len 1 (.t 0)) none .any, .op 30 (.move (.k (.c (.int .i64 0)))) none .any] [4, 5, 2, 1, 0]) (.block 0 [some 10] c57_l0)) (.seq (.region [.op 47 (.move (.t 0)) none .any, .op 6 (.move (.t 0)) none .any, .op 7 (.move (.k (.c (.int .i64 0)))) none .any] [1, 0]) .ret))
instance : IsSeq c57_n11 (.region [.op 10 (.mkNil none) none .any] [1, 2, 0]) (.seq (.seq (.region [.op 28 (.move (.t 0)) none .any, .op 29 (.len 1 (.t 0)) none .any, .op 30 (.move (.k (.c (.int .i64 0)))) none .any] [4, 5, 2, 1, 0]) (.block 0 [some 10] c57_l0)) (.seq (.region [.op 47 (.move (.t 0)) none .any, .op 6 (.move (.t 0)) none .any, .op 7 (.move (.k (.c (.int .i64 0)))) none .any] [1, 0]) .ret)) := ⟨rfl⟩
def c57_n9 : SCode := .seq c57_n10 c57_n11
instance : IsSeq c57_n9 c57_n10 c57_n11 := ⟨rfl⟩
def c57_n7 : SCode := .seq c57_n8 c57_n9
instance : IsSeq c57_n7 c57_n8 c57_n9 := ⟨rfl⟩
def c57 : SCode := (.seq (.region [.op 4 (.box (.t 1)) none .any, .op 6 (.mkNil none) none .any, .op 7 (.move (.k (.c (.int .i64 0)))) none .any] [3, 5, 2]) c57_n7)
def F57 : SFunc := .code .pure 48 3 [some 6, some 7] [.tmp 0, .tmp 1] c57

-- crux/cruxref01.HasWord
-- c58_l0: env [0, 1, 5]
@[simp] def c58_n3 : SCode := (.region [.op 12 (.move (.t 0)) none .any, .op 13 (.move (.t 3)) none .any, .op 14 (.idxSlice 1 (.t 1) (.t 0)) none .any, .op 15 (.load none (.t 0)) none .any, .op 16 (.move (.t 5)) none .any, .op 17 (.bin .eql (.t 1) (.t 0)) none .any] [6, 7, 8, 0])
def c58_n2 : SCode := .seq c58_n3 (.cond (.t 3) (.seq (.region [.op 4 (.move (.k (.c (.bool true)))) none .any] [0]) .ret) (.pre [0, 1, 2] .skip))
instance : IsSeq c58_n2 c58_n3 (.cond (.t 3) (.seq (.region [.op 4 (.move (.k (.c (.bool true)))) none .any] [0]) .ret) (.pre [0, 1, 2] .skip)) := ⟨rfl⟩
def c58_n1 : SCode := .seq (.block 1 [some 0, some 1, some 5] c58_n2) (.region [.op 10 (.move (.t 2)) none .any, .op 11 (.bin .add (.t 0) (.k (.c (.int .i64 1)))) none .any, .op 5 (.move (.t 0)) none .any] [3, 4, 0])
instance : IsSeq c58_n1 (.block 1 [some 0, some 1, some 5] c58_n2) (.region [.op 10 (.move (.t 2)) none .any, .op 11 (.bin .add (.t 0) (.k (.c (.int .i64 1)))) none .any, .op 5 (.move (.t 0)) none .any] [3, 4, 0]) := ⟨rfl⟩
def c58_l0b : SCode := (.seq (.seq (.region [.op 6 (.move (.t 2)) none .any, .op 7 (.move (.t 1)) none .any, .op 8 (.len 1 (.t 0)) none .any, .op 9 (.bin .lss (.t 2) (.t 0)) none .any] [4, 5, 6, 0]) (.cond (.t 3) (.pre [0, 1, 2] .skip) (.pre [] (.exit 0)))) c58_n1)
def c58_l0 : SCode := .loop true c58_l0b
def c58 : SCode := (.seq (.region [.op 4 (.move (.k (.c (.bool false)))) none .any] [1, 2]) (.seq (.seq (.region [.op 5 (.move (.k (.c (.int .i64 0)))) none .any] [1, 2, 0]) (.block 0 [] c58_l0)) (.seq (.region [.op 4 (.move (.k (.c (.bool false)))) none .any] [0]) .ret)))
def F58 : SFunc := .code .pure 18 2 [some 4] [.tmp 0] c58

-- crux/member.Most
@[simp] def c59_n2 : SCode := (.seq (.region [.op 7 (.load (some 2) (.t 0)) none .any, .op 8 (.call false (.k (.c (.func 117 [] []))) [(.t 0)]) none .any, .op 4 (.move (.t 0)) none .any] [3, 0]) (.seq (.region [.op 9 (.move (.t 1)) none .any, .op 10 (.bin .neq (.t 0) (.k (.c (.int .i64 0)))) none .any] [2, 3, 0]) (.cond (.t 2) (.seq (.region [.op 11 (.move (.t 1)) none .any, .op 2 (.move (.k (.c (.int .i64 0)))) none .any, .op 3 (.move (.t 1)) none .any] [1, 0]) .ret) (.pre [0] .skip))))
@[simp] def c59_n4 : SCode := (.draw 4 [.op 13 (.load (some 2) (.t 0)) none .var, .op 14 (.load (some 2) (.t 1)) none .var, .op 15 (.call false (.k (.c (.func 119 [] []))) [(.t 0)]) none .any, .op 16 (.load (some 2) (.t 3)) none .var, .op 17 (.call false (.k (.c (.func 120 [] []))) [(.t 0), (.k (.c (.int .i64 24)))]) (some 0) .any, .op 18 (.call false (.k (.c (.func 118 [] []))) [(.t 4), (.t 2), (.t 0)]) none .any, .op 12 (.move (.t 0)) none .any, .op 19 (.extract (.t 0) 0) none .any, .op 20 (.extract (.t 1) 1) none .any, .op 5 (.move (.t 1)) none .any, .op 6 (.move (.t 1)) none .any] [1])
def c59_n3 : SCode := .seq c59_n4 (.seq (.region [.op 21 (.move (.t 0)) none .any, .op 2 (.move (.t 0)) none .any, .op 3 (.move (.k (.c (.int .i64 0)))) none .any] [1, 0]) .ret)
instance : IsSeq c59_n3 c59_n4 (.seq (.region [.op 21 (.move (.t 0)) none .any, .op 2 (.move (.t 0)) none .any, .op 3 (.move (.k (.c (.int .i64 0)))) none .any] [1, 0]) .ret) := ⟨rfl⟩
def c59_n1 : SCode := .seq c59_n2 c59_n3
instance : IsSeq c59_n1 c59_n2 c59_n3 := ⟨rfl⟩
def c59 : SCode := (.seq (.region [.op 1 (.box (.t 0)) none .any, .op 2 (.move (.k (.c (.int .i64 0)))) none .any, .op 3 (.move (.k (.c (.int .i64 0)))) none .any] [2]) c59_n1)
def F59 : SFunc := .code .pure 22 1 [some 2, some 3] [.tmp 0, .tmp 1] c59

-- crux/member.Fairest
-- c60_l0: env [1, 14, 15]
@[simp] def c60_n4 : SCode := (.region [.op 17 (.move (.t 2)) none .any, .op 5 (.move (.t 0)) none .any] [2, 0, 3, 4])
@[simp] def c60_n6 : SCode := (.draw 4 [.op 18 (.load (some 2) (.t 0)) none .var, .op 19 (.load (some 2) (.t 1)) none .var, .op 20 (.call false (.k (.c (.func 119 [] []))) [(.t 0)]) none .any, .op 21 (.load (some 2) (.t 3)) none .var, .op 22 (.move (.t 5)) none .any, .op 23 (.call false (.k (.c (.func 120 [] []))) [(.t 1), (.t 0)]) (some 0) .any, .op 24 (.call false (.k (.c (.func 121 [] []))) [(.t 5), (.t 3), (.t 0)]) none .any] [7, 8, 9, 10, 0])
def c60_n5 : SCode := .seq c60_n6 (.cond (.t 4) (.seq (.region [.op 25 (.move (.t 1)) none .any, .op 2 (.move (.t 0)) none .any, .op 3 (.move (.k (.c (.int .i64 0)))) none .any] [1, 0]) .ret) (.pre [0, 2, 3] .skip))
instance : IsSeq c60_n5 c60_n6 (.cond (.t 4) (.seq (.region [.op 25 (.move (.t 1)) none .any, .op 2 (.move (.t 0)) none .any, .op 3 (.move (.k (.c (.int .i64 0)))) none .any] [1, 0]) .ret) (.pre [0, 2, 3] .skip)) := ⟨rfl⟩
def c60_n3 : SCode := .seq c60_n4 c60_n5
instance : IsSeq c60_n3 c60_n4 c60_n5 := ⟨rfl⟩
def c60_n2 : SCode := .seq (.block 1 [some 1, some 14, some 15] c60_n3) (.region [.op 26 (.bin .add (.t 2) (.k (.c (.int .i64 1)))) none .any, .op 15 (.move (.t 0)) none .any] [2, 3, 0])
instance : IsSeq c60_n2 (.block 1 [some 1, some 14, some 15] c60_n3) (.region [.op 26 (.bin .add (.t 2) (.k (.c (.int .i64 1)))) none .any, .op 15 (.move (.t 0)) none .any] [2, 3, 0]) := ⟨rfl⟩
def c60_n1 : SCode := .seq (.cond (.t 3) (.pre [0, 1, 2] .skip) (.pre [] (.exit 0))) c60_n2
instance : IsSeq c60_n1 (.cond (.t 3) (.pre [0, 1, 2] .skip) (.pre [] (.exit 0))) c60_n2 := ⟨rfl⟩
def c60_l0b : SCode := (.seq (.region [.op 16 (.bin .lss (.t 2) (.t 1)) none .any] [1, 2, 3, 0]) c60_n1)
def c60_l0 : SCode := .loop true c60_l0b
@[simp] def c60_n8 : SCode := (.seq (.region [.op 6 (.load (some 2) (.t 0)) none .any, .op 7 (.call false (.k (.c (.func 117 [] []))) [(.t 0)]) none .any, .op 4 (.move (.t 0)) none .any] [3, 0]) (.seq (.region [.op 8 (.move (.t 1)) none .any, .op 9 (.bin .neq (.t 0) (.k (.c (.int .i64 0)))) none .any] [2, 3, 0]) (.cond (.t 2) (.seq (.region [.op 10 (.move (.t 1)) none .any, .op 2 (.move (.k (.c (.int .i64 0)))) none .any, .op 3 (.move (.t 1)) none .any] [1, 0]) .ret) (.pre [0] .skip))))
@[simp] def c60_n10 : SCode := (.seq (.region [.op 11 (.fieldAddr 1 (.t 0)) none .any, .op 12 (.load none (.t 0)) none .any, .op 13 (.len 1 (.t 0)) none .any, .op 14 (.bin .add (.t 0) (.k (.c (.int .i64 1)))) none .any, .op 15 (.move (.k (.c (.int .i64 0)))) none .any] [5, 1, 0]) (.block 0 [] c60_l0))
def c60_n9 : SCode := .seq c60_n10 (.seq (.region [.op 2 (.move (.k (.c (.int .i64 0)))) none .any, .op 3 (.move (.k (.c (.int .i64 23)))) none .any] [1, 0]) .ret)
instance : IsSeq c60_n9 c60_n10 (.seq (.region [.op 2 (.move (.k (.c (.int .i64 0)))) none .any, .op 3 (.move (.k (.c (.int .i64 23)))) none .any] [1, 0]) .ret) := ⟨rfl⟩
def c60_n7 : SCode := .seq c60_n8 c60_n9
instance : IsSeq c60_n7 c60_n8 c60_n9 := ⟨rfl⟩
def c60 : SCode := (.seq (.region [.op 1 (.box (.t 0)) none .any, .op 2 (.move (.k (.c (.int .i64 0)))) none .any, .op 3 (.move (.k (.c (.int .i64 0)))) none .any] [2]) c60_n7)
def F60 : SFunc := .code .pure 27 1 [some 2, some 3] [.tmp 0, .tmp 1] c60

-- crux/member.CheckClimbers
def c63 : SCode := (.seq (.region [.op 2 (.move (.k (.c (.int .i64 0)))) none .any] [1]) (.seq (.region [.op 3 (.move (.t 0)) none .any, .op 4 (.call false (.k (.c (.func 122 [] []))) [(.t 0), (.k (.c (.int .i64 160))), (.k (.c (.func 123 [] [])))]) none .any, .op 2 (.move (.t 0)) none .any] [0]) .ret))
def F63 : SFunc := .code .pure 5 1 [some 2] [.tmp 0] c63

-- crux/member.CheckCategories
def c65 : SCode := (.seq (.region [.op 2 (.move (.k (.c (.int .i64 0)))) none .any] [1]) (.seq (.region [.op 3 (.move (.t 0)) none .any, .op 4 (.call false (.k (.c (.func 124 [] []))) [(.t 0), (.k (.c (.int .i64 256))), (.k (.c (.func 125 [] [])))]) none .any, .op 2 (.move (.t 0)) none .any] [0]) .ret))
def F65 : SFunc := .code .pure 5 1 [some 2] [.tmp 0] c65

-- crux/cruxref09.SamePairs
-- c66_l0: env [0, 1, 5]
@[simp] def c66_n3 : SCode := (.draw 0 [.op 17 (.move (.t 0)) none .any, .op 18 (.move (.t 3)) none .any, .op 19 (.idxSlice 2 (.t 1) (.t 0)) none .any, .op 20 (.load (some 2) (.t 0)) none .old, .op 21 (.move (.t 5)) none .any, .op 22 (.move (.t 7)) none .any, .op 23 (.idxSlice 2 (.t 1) (.t 0)) none .any, .op 24 (.load (some 2) (.t 0)) none .old, .op 25 (.eqAgg (.many [0, 0]) true (.t 4) (.t 0)) none .any] [9, 10, 11, 0])
def c66_n2 : SCode := .seq c66_n3 (.cond (.t 3) (.seq (.region [.op 4 (.move (.k (.c (.bool false)))) none .any] [0]) .ret) (.pre [0, 1, 2] .skip))
instance : IsSeq c66_n2 c66_n3 (.cond (.t 3) (.seq (.region [.op 4 (.move (.k (.c (.bool false)))) none .any] [0]) .ret) (.pre [0, 1, 2] .skip)) := ⟨rfl⟩
def c66_n1 : SCode := .seq (.block 1 [some 0, some 1, some 5] c66_n2) (.region [.op 15 (.move (.t 2)) none .any, .op 16 (.bin .add (.t 0) (.k (.c (.int .i64 1)))) none .any, .op 5 (.move (.t 0)) none .any] [3, 4, 0])
instance : IsSeq c66_n1 (.block 1 [some 0, some 1, some 5] c66_n2) (.region [.op 15 (.move (.t 2)) none .any, .op 16 (.bin .add (.t 0) (.k (.c (.int .i64 1)))) none .any, .op 5 (.move (.t 0)) none .any] [3, 4, 0]) := ⟨rfl⟩
def c66_l0b : SCode := (.seq (.seq (.region [.op 11 (.move (.t 2)) none .any, .op 12 (.move (.t 1)) none .any, .op 13 (.len 1 (.t 0)) none .any, .op 14 (.bin .lss (.t 2) (.t 0)) none .any] [4, 5, 6, 0]) (.cond (.t 3) (.pre [0, 1, 2] .skip) (.pre [] (.exit 0)))) c66_n1)
def c66_l0 : SCode := .loop true c66_l0b
@[simp] def c66_n5 : SCode := (.seq (.region [.op 6 (.move (.t 0)) none .any, .op 7 (.len 1 (.t 0)) none .any, .op 8 (.move (.t 3)) none .any, .op 9 (.len 1 (.t 0)) none .any, .op 10 (.bin .neq (.t 2) (.t 0)) none .any] [5, 6, 0]) (.cond (.t 2) (.seq (.region [.op 4 (.move (.k (.c (.bool false)))) none .any] [0]) .ret) (.pre [0, 1] .skip)))
def c66_n4 : SCode := .seq c66_n5 (.seq (.seq (.region [.op 5 (.move (.k (.c (.int .i64 0)))) none .any] [1, 2, 0]) (.block 0 [] c66_l0)) (.seq (.region [.op 4 (.move (.k (.c (.bool true)))) none .any] [0]) .ret))
instance : IsSeq c66_n4 c66_n5 (.seq (.seq (.region [.op 5 (.move (.k (.c (.int .i64 0)))) none .any] [1, 2, 0]) (.block 0 [] c66_l0)) (.seq (.region [.op 4 (.move (.k (.c (.bool true)))) none .any] [0]) .ret)) := ⟨rfl⟩
def c66 : SCode := (.seq (.region [.op 4 (.move (.k (.c (.bool false)))) none .any] [1, 2]) c66_n4)
def F66 : SFunc := .code .pure 26 2 [some 4] [.tmp 0] c66

-- crux/cruxref01.SameWords
-- c71_l0: env [0, 1, 5]
@[simp] def c71_n3 : SCode := (.draw 0 [.op 17 (.move (.t 0)) none .any, .op 18 (.move (.t 3)) none .any, .op 19 (.idxSlice 1 (.t 1) (.t 0)) none .any, .op 20 (.load none (.t 0)) none .old, .op 21 (.move (.t 5)) none .any, .op 22 (.move (.t 7)) none .any, .op 23 (.idxSlice 1 (.t 1) (.t 0)) none .any, .op 24 (.load none (.t 0)) none .old, .op 25 (.bin .neq (.t 4) (.t 0)) none .any] [9, 10, 11, 0])
def c71_n2 : SCode := .seq c71_n3 (.cond (.t 3) (.seq (.region [.op 4 (.move (.k (.c (.bool false)))) none .any] [0]) .ret) (.pre [0, 1, 2] .skip))
instance : IsSeq c71_n2 c71_n3 (.cond (.t 3) (.seq (.region [.op 4 (.move (.k (.c (.bool false)))) none .any] [0]) .ret) (.pre [0, 1, 2] .skip)) := ⟨rfl⟩
def c71_n1 : SCode := .seq (.block 1 [some 0, some 1, some 5] c71_n2) (.region [.op 15 (.move (.t 2)) none .any, .op 16 (.bin .add (.t 0) (.k (.c (.int .i64 1)))) none .any, .op 5 (.move (.t 0)) none .any] [3, 4, 0])
instance : IsSeq c71_n1 (.block 1 [some 0, some 1, some 5] c71_n2) (.region [.op 15 (.move (.t 2)) none .any, .op 16 (.bin .add (.t 0) (.k (.c (.int .i64 1)))) none .any, .op 5 (.move (.t 0)) none .any] [3, 4, 0]) := ⟨rfl⟩
def c71_l0b : SCode := (.seq (.seq (.region [.op 11 (.move (.t 2)) none .any, .op 12 (.move (.t 1)) none .any, .op 13 (.len 1 (.t 0)) none .any, .op 14 (.bin .lss (.t 2) (.t 0)) none .any] [4, 5, 6, 0]) (.cond (.t 3) (.pre [0, 1, 2] .skip) (.pre [] (.exit 0)))) c71_n1)
def c71_l0 : SCode := .loop true c71_l0b
@[simp] def c71_n5 : SCode := (.seq (.region [.op 6 (.move (.t 0)) none .any, .op 7 (.len 1 (.t 0)) none .any, .op 8 (.move (.t 3)) none .any, .op 9 (.len 1 (.t 0)) none .any, .op 10 (.bin .neq (.t 2) (.t 0)) none .any] [5, 6, 0]) (.cond (.t 2) (.seq (.region [.op 4 (.move (.k (.c (.bool false)))) none .any] [0]) .ret) (.pre [0, 1] .skip)))
def c71_n4 : SCode := .seq c71_n5 (.seq (.seq (.region [.op 5 (.move (.k (.c (.int .i64 0)))) none .any] [1, 2, 0]) (.block 0 [] c71_l0)) (.seq (.region [.op 4 (.move (.k (.c (.bool true)))) none .any] [0]) .ret))
instance : IsSeq c71_n4 c71_n5 (.seq (.seq (.region [.op 5 (.move (.k (.c (.int .i64 0)))) none .any] [1, 2, 0]) (.block 0 [] c71_l0)) (.seq (.region [.op 4 (.move (.k (.c (.bool true)))) none .any] [0]) .ret)) := ⟨rfl⟩
def c71 : SCode := (.seq (.region [.op 4 (.move (.k (.c (.bool false)))) none .any] [1, 2]) c71_n4)
def F71 : SFunc := .code .pure 26 2 [some 4] [.tmp 0] c71

-- crux/cruxlaw09.jury
@[simp] def c72_n2 : SCode := (.region [.op 3 (.buildSlice 0 none 1 [(.c (.str []))] [(0, (.k (.c (.str [106, 117, 100, 103, 101]))))]) none .any, .op 4 (.build [(.c (.str [])), (.c (.str [])), .nil, (.c (.int .i64 0))] [(0, 1, (.k (.c (.str [117])))), (1, 1, (.k (.c (.str [65])))), (2, 1, (.t 0)), (3, 1, (.k (.c (.int .i64 2))))]) none .any, .op 5 (.buildSlice 0 none 2 [(.c (.str []))] [(0, (.k (.c (.str [106, 117, 100, 103, 101])))), (1, (.k (.c (.str [115, 101, 116, 116, 101, 114]))))]) none .any, .op 6 (.move (.t 3)) none .any, .op 7 (.build [(.c (.str [])), (.c (.str [])), .nil, (.c (.int .i64 0))] [(0, 1, (.k (.c (.str [118])))), (1, 1, (.k (.c (.str [66])))), (2, 1, (.t 1)), (3, 1, (.t 0))]) none .any, .op 8 (.buildSlice 0 (some 4) 2 [(.c (.str [])), (.c (.str [])), .nil, (.c (.int .i64 0))] [(0, (.t 3)), (1, (.t 0))]) none .any, .op 9 (.buildSlice 0 none 1 [(.c (.str []))] [(0, (.k (.c (.str [65]))))]) none .any, .op 10 (.build [(.c (.str [])), (.c (.str [])), (.c (.int .i64 0)), .nil] [(0, 1, (.k (.c (.str [112])))), (1, 1, (.k (.c (.str [106, 117, 100, 103, 101])))), (2, 1, (.k (.c (.int .i64 9)))), (3, 1, (.t 0))]) none .any, .op 11 (.buildSlice 0 none 1 [(.c (.str []))] [(0, (.k (.c (.str [66]))))]) none .any, .op 12 (.build [(.c (.str [])), (.c (.str [])), (.c (.int .i64 0)), .nil] [(0, 1, (.k (.c (.str [113])))), (1, 1, (.k (.c (.str [106, 117, 100, 103, 101])))), (2, 1, (.k (.c (.int .i64 9)))), (3, 1, (.t 0))]) none .any, .op 13 (.build [(.c (.str [])), (.c (.str [])), (.c (.int .i64 0)), .nil] [(0, 1, (.k (.c (.str [114])))), (1, 1, (.k (.c (.str [115, 101, 116, 116, 101, 114])))), (2, 1, (.k (.c (.int .i64 10))))]) none .any, .op 14 (.buildSlice 0 (some 4) 3 [(.c (.str [])), (.c (.str [])), (.c (.int .i64 0)), .nil] [(0, (.t 3)), (1, (.t 1)), (2, (.t 0))]) none .any, .op 15 (.build [.nil, .nil] [(0, 1, (.t 6)), (1, 1, (.t 0))]) none .any, .eff (.store 2 (.t 14) (.t 0)) none .any] [14])
def c72_n1 : SCode := .seq c72_n2 .ret
instance : IsSeq c72_n1 c72_n2 .ret := ⟨rfl⟩
def c72 : SCode := (.seq (.region [.op 2 (.new [.nil, .nil]) none .any] [1, 0]) c72_n1)
def F72 : SFunc := .code (.fresh 30) 16 1 [some 2] [.cell 0 (some 2)] c72

-- crux/member.Excluded
-- c73_l0: env [1, 5, 6, 25, 26]
@[simp] def c73_n4 : SCode := (.region [.op 28 (.move (.t 4)) none .any, .op 7 (.move (.t 0)) none .any] [2, 3, 4, 0, 5, 6])
@[simp] def c73_n6 : SCode := (.region [.op 29 (.move (.t 3)) none .any, .op 30 (.call false (.k (.c (.func 128 [] []))) [(.t 0)]) none .any, .op 8 (.move (.t 0)) none .any] [3, 4, 5, 6, 0, 7, 8])
@[simp] def c73_n8 : SCode := (.region [.op 31 (.move (.t 4)) none .any, .op 32 (.len 1 (.t 0)) none .any, .op 33 (.move (.t 4)) none .any, .op 34 (.len 1 (.t 0)) none .any, .op 35 (.call false (.k (.c (.func 95 [] []))) [(.t 2), (.t 0)]) none .any, .op 36 (.move (.t 9)) none .any, .op 37 (.move (.t 8)) none .any, .op 38 (.call false (.k (.c (.func 130 [] []))) [(.t 1), (.t 0)]) none .any, .op 39 (.buildSlice 2 none 2 [(.c (.int .i64 0))] [(0, (.t 3)), (1, (.t 0))]) none .any, .op 40 (.call false (.k (.c (.func 129 [] []))) [(.t 0)]) none .any, .op 41 (.bin .lss (.t 0) (.k (.c (.int .i64 0)))) none .any, .op 42 (.move (.t 0)) none .any, .andN 48 0 [.op 43 (.load (some 2) (.t 12)) none .any, .op 44 (.move (.t 16)) none .any, .op 45 (.move (.t 15)) none .any, .op 46 (.call false (.k (.c (.func 121 [] []))) [(.t 2), (.t 1), (.t 0)]) none .any, .op 47 (.not (.t 0)) none .any] (.t 0)] [13, 14, 15, 17, 18, 19, 0])
def c73_n7 : SCode := .seq c73_n8 (.cond (.t 6) (.region [.op 49 (.move (.t 3)) none .any, .op 6 (.move (.t 0)) none .any] [2, 3, 0, 6, 7]) (.pre [0, 1, 2, 4, 5] .skip))
instance : IsSeq c73_n7 c73_n8 (.cond (.t 6) (.region [.op 49 (.move (.t 3)) none .any, .op 6 (.move (.t 0)) none .any] [2, 3, 0, 6, 7]) (.pre [0, 1, 2, 4, 5] .skip)) := ⟨rfl⟩
def c73_n5 : SCode := .seq c73_n6 c73_n7
instance : IsSeq c73_n5 c73_n6 c73_n7 := ⟨rfl⟩
def c73_n3 : SCode := .seq c73_n4 c73_n5
instance : IsSeq c73_n3 c73_n4 c73_n5 := ⟨rfl⟩
def c73_n2 : SCode := .seq (.block 1 [some 1, some 5, some 6, some 25, some 26] c73_n3) (.region [.op 50 (.bin .add (.t 4) (.k (.c (.int .u64 1)))) none .any, .op 26 (.move (.t 0)) none .any] [2, 3, 4, 5, 0])
instance : IsSeq c73_n2 (.block 1 [some 1, some 5, some 6, some 25, some 26] c73_n3) (.region [.op 50 (.bin .add (.t 4) (.k (.c (.int .u64 1)))) none .any, .op 26 (.move (.t 0)) none .any] [2, 3, 4, 5, 0]) := ⟨rfl⟩
def c73_n1 : SCode := .seq (.cond (.t 5) (.pre [0, 1, 2, 3, 4] .skip) (.pre [2] (.exit 0))) c73_n2
instance : IsSeq c73_n1 (.cond (.t 5) (.pre [0, 1, 2, 3, 4] .skip) (.pre [2] (.exit 0))) c73_n2 := ⟨rfl⟩
def c73_l0b : SCode := (.seq (.region [.op 27 (.bin .lss (.t 4) (.t 3)) none .any] [1, 2, 3, 4, 5, 0]) c73_n1)
def c73_l0 : SCode := .loop true c73_l0b
@[simp] def c73_n10 : SCode := (.seq (.region [.op 9 (.load (some 2) (.t 0)) none .any, .op 10 (.call false (.k (.c (.func 117 [] []))) [(.t 0)]) none .any, .op 4 (.move (.t 0)) none .any] [3, 0]) (.seq (.region [.op 11 (.move (.t 1)) none .any, .op 12 (.bin .neq (.t 0) (.k (.c (.int .i64 0)))) none .any] [2, 3, 0]) (.cond (.t 2) (.seq (.region [.op 13 (.move (.t 1)) none .any, .op 2 (.mkNil none) none .any, .op 3 (.move (.t 1)) none .any] [1, 0]) .ret) (.pre [0] .skip))))
@[simp] def c73_n12 : SCode := (.region [.op 14 (.load (some 2) (.t 0)) none .any, .op 15 (.call false (.k (.c (.func 120 [] []))) [(.t 0), (.k (.c (.int .i64 24)))]) none .any, .op 5 (.move (.t 0)) none .any] [3, 0])
@[simp] def c73_n14 : SCode := (.seq (.draw 0 [.op 16 (.load (some 2) (.t 0)) none .var, .op 17 (.load (some 2) (.t 1)) none .var, .op 18 (.call false (.k (.c (.func 119 [] []))) [(.t 0)]) none .any, .op 19 (.move (.t 4)) none .any, .op 20 (.call false (.k (.c (.func 121 [] []))) [(.t 3), (.t 1), (.t 0)]) none .any] [5, 6, 0]) (.cond (.t 2) (.seq (.region [.op 2 (.mkNil none) none .any, .op 3 (.move (.k (.c (.int .i64 7)))) none .any] [1, 0]) .ret) (.pre [0, 1] .skip)))
@[simp] def c73_n16 : SCode := (.region [.op 21 (.load (some 2) (.t 0)) none .any, .op 22 (.call false (.k (.c (.func 119 [] []))) [(.t 0)]) none .any, .op 23 (.call false (.k (.c (.func 128 [] []))) [(.t 0)]) none .any, .op 6 (.move (.t 0)) none .any] [4, 5, 0])
@[simp] def c73_n18 : SCode := (.seq (.region [.op 24 (.load (some 2) (.t 0)) none .any, .op 25 (.call false (.k (.c (.func 119 [] []))) [(.t 0)]) none .any, .op 26 (.move (.k (.c (.int .u64 0)))) none .any] [3, 4, 5, 1, 0]) (.block 0 [some 6] c73_l0))
def c73_n17 : SCode := .seq c73_n18 (.seq (.region [.op 51 (.move (.t 0)) none .any, .op 2 (.move (.t 0)) none .any, .op 3 (.move (.k (.c (.int .i64 0)))) none .any] [1, 0]) .ret)
instance : IsSeq c73_n17 c73_n18 (.seq (.region [.op 51 (.move (.t 0)) none .any, .op 2 (.move (.t 0)) none .any, .op 3 (.move (.k (.c (.int .i64 0)))) none .any] [1, 0]) .ret) := ⟨rfl⟩
def c73_n15 : SCode := .seq c73_n16 c73_n17
instance : IsSeq c73_n15 c73_n16 c73_n17 := ⟨rfl⟩
def c73_n13 : SCode := .seq c73_n14 c73_n15
instance : IsSeq c73_n13 c73_n14 c73_n15 := ⟨rfl⟩
def c73_n11 : SCode := .seq c73_n12 c73_n13
instance : IsSeq c73_n11 c73_n12 c73_n13 := ⟨rfl⟩
def c73_n9 : SCode := .seq c73_n10 c73_n11
instance : IsSeq c73_n9 c73_n10 c73_n11 := ⟨rfl⟩
def c73 : SCode := (.seq (.region [.op 1 (.box (.t 0)) none .any, .op 2 (.mkNil none) none .any, .op 3 (.move (.k (.c (.int .i64 0)))) none .any] [2]) c73_n9)
def F73 : SFunc := .code .pure 52 1 [some 2, some 3] [.tmp 0, .tmp 1] c73

-- crux/member.First
@[simp] def c74_n2 : SCode := (.seq (.region [.op 7 (.load (some 2) (.t 0)) none .any, .op 8 (.call false (.k (.c (.func 117 [] []))) [(.t 0)]) none .any, .op 4 (.move (.t 0)) none .any] [3, 0]) (.seq (.region [.op 9 (.move (.t 1)) none .any, .op 10 (.bin .neq (.t 0) (.k (.c (.int .i64 0)))) none .any] [2, 3, 0]) (.cond (.t 2) (.seq (.region [.op 11 (.move (.t 1)) none .any, .op 2 (.mkNil none) none .any, .op 3 (.move (.t 1)) none .any] [1, 0]) .ret) (.pre [0] .skip))))
@[simp] def c74_n4 : SCode := (.draw 5 [.op 13 (.load (some 2) (.t 0)) none .var, .op 14 (.buildSlice 2 none 1 [(.c (.int .i64 0))] [(0, (.k (.c (.int .i64 (-1)))))]) (some 0) .any, .op 15 (.fieldAddr 1 (.t 2)) none .any, .op 16 (.load none (.t 0)) none .var, .op 17 (.len 1 (.t 0)) none .old, .op 18 (.call false (.k (.c (.func 131 [] []))) [(.t 3), (.t 0)]) (some 1) .any, .op 19 (.load (some 2) (.t 6)) none .var, .op 20 (.call false (.k (.c (.func 119 [] []))) [(.t 0)]) none .any, .op 21 (.call false (.k (.c (.func 113 [] []))) [(.t 7), (.t 2), (.t 0), (.k (.c (.int .i64 (-1))))]) none .any, .op 12 (.move (.t 0)) none .any, .op 22 (.extract (.t 0) 0) none .any, .op 23 (.extract (.t 1) 1) none .any, .op 5 (.move (.t 1)) none .any, .op 6 (.move (.t 1)) none .any] [1, 0])
@[simp] def c74_n6 : SCode := (.seq (.region [.op 24 (.move (.t 1)) none .any, .op 25 (.not (.t 0)) none .any] [2, 0]) (.cond (.t 1) (.seq (.region [.op 2 (.mkNil none) none .any, .op 3 (.move (.k (.c (.int .i64 23)))) none .any] [1, 0]) .ret) (.pre [0] .skip)))
def c74_n5 : SCode := .seq c74_n6 (.seq (.region [.op 26 (.move (.t 0)) none .any, .op 2 (.move (.t 0)) none .any, .op 3 (.move (.k (.c (.int .i64 0)))) none .any] [1, 0]) .ret)
instance : IsSeq c74_n5 c74_n6 (.seq (.region [.op 26 (.move (.t 0)) none .any, .op 2 (.move (.t 0)) none .any, .op 3 (.move (.k (.c (.int .i64 0)))) none .any] [1, 0]) .ret) := ⟨rfl⟩
def c74_n3 : SCode := .seq c74_n4 c74_n5
instance : IsSeq c74_n3 c74_n4 c74_n5 := ⟨rfl⟩
def c74_n1 : SCode := .seq c74_n2 c74_n3
instance : IsSeq c74_n1 c74_n2 c74_n3 := ⟨rfl⟩
def c74 : SCode := (.seq (.region [.op 1 (.box (.t 0)) none .any, .op 2 (.mkNil none) none .any, .op 3 (.move (.k (.c (.int .i64 0)))) none .any] [2]) c74_n1)
def F74 : SFunc := .code .pure 27 1 [some 2, some 3] [.tmp 0, .tmp 1] c74

-- crux/member.Appoint
@[simp] def c75_n2 : SCode := (.seq (.region [.op 7 (.load (some 2) (.t 0)) none .any, .op 8 (.call false (.k (.c (.func 117 [] []))) [(.t 0)]) none .any, .op 4 (.move (.t 0)) none .any] [3, 0]) (.seq (.region [.op 9 (.move (.t 1)) none .any, .op 10 (.bin .neq (.t 0) (.k (.c (.int .i64 0)))) none .any] [2, 3, 0]) (.cond (.t 2) (.seq (.region [.op 11 (.move (.t 1)) none .any, .op 2 (.mkNil none) none .any, .op 3 (.move (.t 1)) none .any] [1, 0]) .ret) (.pre [0] .skip))))
@[simp] def c75_n4 : SCode := (.draw 4 [.op 13 (.load (some 2) (.t 0)) none .var, .op 14 (.load (some 2) (.t 1)) none .var, .op 15 (.call false (.k (.c (.func 119 [] []))) [(.t 0)]) none .any, .op 16 (.load (some 2) (.t 3)) none .var, .op 17 (.call false (.k (.c (.func 120 [] []))) [(.t 0), (.k (.c (.int .i64 24)))]) (some 0) .any, .op 18 (.call false (.k (.c (.func 118 [] []))) [(.t 4), (.t 2), (.t 0)]) none .any, .op 12 (.move (.t 0)) none .any, .op 19 (.extract (.t 0) 0) none .any, .op 20 (.extract (.t 1) 1) none .any, .op 5 (.move (.t 1)) none .any, .op 6 (.move (.t 1)) none .any] [11, 1, 0])
@[simp] def c75_n6 : SCode := (.seq (.region [.op 21 (.move (.t 1)) none .any, .op 22 (.fieldAddr 1 (.t 1)) none .any, .op 23 (.load none (.t 0)) none .any, .op 24 (.len 1 (.t 0)) none .any, .op 25 (.bin .lss (.t 3) (.t 0)) none .any] [7, 0]) (.cond (.t 1) (.seq (.region [.op 2 (.mkNil none) none .any, .op 3 (.move (.k (.c (.int .i64 23)))) none .any] [1, 0]) .ret) (.pre [0] .skip)))
def c75_n5 : SCode := .seq c75_n6 (.seq (.region [.op 26 (.move (.t 0)) none .any, .op 2 (.move (.t 0)) none .any, .op 3 (.move (.k (.c (.int .i64 0)))) none .any] [1, 0]) .ret)
instance : IsSeq c75_n5 c75_n6 (.seq (.region [.op 26 (.move (.t 0)) none .any, .op 2 (.move (.t 0)) none .any, .op 3 (.move (.k (.c (.int .i64 0)))) none .any] [1, 0]) .ret) := ⟨rfl⟩
def c75_n3 : SCode := .seq c75_n4 c75_n5
instance : IsSeq c75_n3 c75_n4 c75_n5 := ⟨rfl⟩
def c75_n1 : SCode := .seq c75_n2 c75_n3
instance : IsSeq c75_n1 c75_n2 c75_n3 := ⟨rfl⟩
def c75 : SCode := (.seq (.region [.op 1 (.box (.t 0)) none .any, .op 2 (.mkNil none) none .any, .op 3 (.move (.k (.c (.int .i64 0)))) none .any] [2]) c75_n1)
def F75 : SFunc := .code .pure 27 1 [some 2, some 3] [.tmp 0, .tmp 1] c75

-- crux/cruxref01.SameInts
-- c76_l0: env [0, 1, 5]
@[simp] def c76_n3 : SCode := (.draw 0 [.op 17 (.move (.t 0)) none .any, .op 18 (.move (.t 3)) none .any, .op 19 (.idxSlice 1 (.t 1) (.t 0)) none .any, .op 20 (.load none (.t 0)) none .old, .op 21 (.move (.t 5)) none .any, .op 22 (.move (.t 7)) none .any, .op 23 (.idxSlice 1 (.t 1) (.t 0)) none .any, .op 24 (.load none (.t 0)) none .old, .op 25 (.bin .neq (.t 4) (.t 0)) none .any] [9, 10, 11, 0])
def c76_n2 : SCode := .seq c76_n3 (.cond (.t 3) (.seq (.region [.op 4 (.move (.k (.c (.bool false)))) none .any] [0]) .ret) (.pre [0, 1, 2] .skip))
instance : IsSeq c76_n2 c76_n3 (.cond (.t 3) (.seq (.region [.op 4 (.move (.k (.c (.bool false)))) none .any] [0]) .ret) (.pre [0, 1, 2] .skip)) := ⟨rfl⟩
def c76_n1 : SCode := .seq (.block 1 [some 0, some 1, some 5] c76_n2) (.region [.op 15 (.move (.t 2)) none .any, .op 16 (.bin .add (.t 0) (.k (.c (.int .i64 1)))) none .any, .op 5 (.move (.t 0)) none .any] [3, 4, 0])
instance : IsSeq c76_n1 (.block 1 [some 0, some 1, some 5] c76_n2) (.region [.op 15 (.move (.t 2)) none .any, .op 16 (.bin .add (.t 0) (.k (.c (.int .i64 1)))) none .any, .op 5 (.move (.t 0)) none .any] [3, 4, 0]) := ⟨rfl⟩
def c76_l0b : SCode := (.seq (.seq (.region [.op 11 (.move (.t 2)) none .any, .op 12 (.move (.t 1)) none .any, .op 13 (.len 1 (.t 0)) none .any, .op 14 (.bin .lss (.t 2) (.t 0)) none .any] [4, 5, 6, 0]) (.cond (.t 3) (.pre [0, 1, 2] .skip) (.pre [] (.exit 0)))) c76_n1)
def c76_l0 : SCode := .loop true c76_l0b
@[simp] def c76_n5 : SCode := (.seq (.region [.op 6 (.move (.t 0)) none .any, .op 7 (.len 1 (.t 0)) none .any, .op 8 (.move (.t 3)) none .any, .op 9 (.len 1 (.t 0)) none .any, .op 10 (.bin .neq (.t 2) (.t 0)) none .any] [5, 6, 0]) (.cond (.t 2) (.seq (.region [.op 4 (.move (.k (.c (.bool false)))) none .any] [0]) .ret) (.pre [0, 1] .skip)))
def c76_n4 : SCode := .seq c76_n5 (.seq (.seq (.region [.op 5 (.move (.k (.c (.int .i64 0)))) none .any] [1, 2, 0]) (.block 0 [] c76_l0)) (.seq (.region [.op 4 (.move (.k (.c (.bool true)))) none .any] [0]) .ret))
instance : IsSeq c76_n4 c76_n5 (.seq (.seq (.region [.op 5 (.move (.k (.c (.int .i64 0)))) none .any] [1, 2, 0]) (.block 0 [] c76_l0)) (.seq (.region [.op 4 (.move (.k (.c (.bool true)))) none .any] [0]) .ret)) := ⟨rfl⟩
def c76 : SCode := (.seq (.region [.op 4 (.move (.k (.c (.bool false)))) none .any] [1, 2]) c76_n4)
def F76 : SFunc := .code .pure 26 2 [some 4] [.tmp 0] c76

-- crux/member.each[crux/member.Licence]
-- c77_l0: env [0, 2, 14, 15, 16]
@[simp] def c77_n4 : SCode := (.region [.op 18 (.move (.t 4)) none .any, .op 19 (.idxSlice 3 (.t 3) (.t 5)) none .any, .op 20 (.load (some 3) (.t 0)) none .any, .op 8 (.new [(.c (.str [])), (.c (.int .i64 0)), (.c (.int .i64 0))]) none .any, .op 7 (.move (.t 3)) none .any, .eff (.store 3 (.t 1) (.t 2)) none .any] [5, 6, 0, 1, 7, 8, 9])
@[simp] def c77_n6 : SCode := (.draw 0 [.op 21 (.move (.t 1)) none .any, .op 22 (.load (some 3) (.t 4)) none .var, .op 23 (.move (.t 2)) none .any, .op 24 (.move (.t 5)) none .any, .op 25 (.sliceSl 3 (.t 1) none (some (.t 0)) none) none .any, .op 26 (.call false (.t 4) [(.t 3), (.t 0)]) none .any, .op 9 (.move (.t 0)) none .any] [7, 8, 0, 11, 12, 13])
def c77_n5 : SCode := .seq c77_n6 (.seq (.region [.op 27 (.move (.t 2)) none .any, .op 28 (.bin .neq (.t 0) (.k (.c (.int .i64 0)))) none .any] [2, 3, 4, 5, 6, 7, 0]) (.cond (.t 6) (.seq (.region [.op 29 (.move (.t 2)) none .any, .op 6 (.move (.t 0)) none .any] [0]) .ret) (.pre [0, 1, 3, 4, 5] .skip)))
instance : IsSeq c77_n5 c77_n6 (.seq (.region [.op 27 (.move (.t 2)) none .any, .op 28 (.bin .neq (.t 0) (.k (.c (.int .i64 0)))) none .any] [2, 3, 4, 5, 6, 7, 0]) (.cond (.t 6) (.seq (.region [.op 29 (.move (.t 2)) none .any, .op 6 (.move (.t 0)) none .any] [0]) .ret) (.pre [0, 1, 3, 4, 5] .skip))) := ⟨rfl⟩
def c77_n3 : SCode := .seq c77_n4 c77_n5
instance : IsSeq c77_n3 c77_n4 c77_n5 := ⟨rfl⟩
def c77_n2 : SCode := .seq (.block 1 [some 0, some 2, some 14, some 15, some 16] c77_n3) (.region [.op 30 (.bin .add (.t 4) (.k (.c (.int .i64 1)))) none .any, .op 16 (.move (.t 0)) none .any] [2, 3, 4, 5, 0])
instance : IsSeq c77_n2 (.block 1 [some 0, some 2, some 14, some 15, some 16] c77_n3) (.region [.op 30 (.bin .add (.t 4) (.k (.c (.int .i64 1)))) none .any, .op 16 (.move (.t 0)) none .any] [2, 3, 4, 5, 0]) := ⟨rfl⟩
def c77_n1 : SCode := .seq (.cond (.t 5) (.pre [0, 1, 2, 3, 4] .skip) (.pre [] (.exit 0))) c77_n2
instance : IsSeq c77_n1 (.cond (.t 5) (.pre [0, 1, 2, 3, 4] .skip) (.pre [] (.exit 0))) c77_n2 := ⟨rfl⟩
def c77_l0b : SCode := (.seq (.region [.op 17 (.bin .lss (.t 4) (.t 3)) none .any] [1, 2, 3, 4, 5, 0]) c77_n1)
def c77_l0 : SCode := .loop true c77_l0b
@[simp] def c77_n8 : SCode := (.seq (.region [.op 10 (.move (.t 0)) none .any, .op 11 (.len 1 (.t 0)) none .any, .op 12 (.move (.t 3)) none .any, .op 13 (.bin .gtr (.t 1) (.t 0)) none .any] [4, 6, 0]) (.cond (.t 2) (.seq (.region [.op 6 (.move (.k (.c (.int .i64 5)))) none .any] [0]) .ret) (.pre [0, 1] .skip)))
def c77_n7 : SCode := .seq c77_n8 (.seq (.seq (.region [.op 14 (.move (.t 0)) none .any, .op 15 (.len 1 (.t 0)) none .any, .op 16 (.move (.k (.c (.int .i64 0)))) none .any] [3, 4, 2, 1, 0]) (.block 0 [] c77_l0)) (.seq (.region [.op 6 (.move (.k (.c (.int .i64 0)))) none .any] [0]) .ret))
instance : IsSeq c77_n7 c77_n8 (.seq (.seq (.region [.op 14 (.move (.t 0)) none .any, .op 15 (.len 1 (.t 0)) none .any, .op 16 (.move (.k (.c (.int .i64 0)))) none .any] [3, 4, 2, 1, 0]) (.block 0 [] c77_l0)) (.seq (.region [.op 6 (.move (.k (.c (.int .i64 0)))) none .any] [0]) .ret)) := ⟨rfl⟩
def c77 : SCode := (.seq (.region [.op 6 (.move (.k (.c (.int .i64 0)))) none .any] [1, 2, 3]) c77_n7)
def F77 : SFunc := .code .pure 31 3 [some 6] [.tmp 0] c77

-- crux/member.CheckLicences$1
@[simp] def c78_n2 : SCode := (.draw 1 [.op 5 (.fieldAddr 0 (.t 0)) none .any, .op 6 (.load none (.t 0)) none .var, .op 7 (.call false (.k (.c (.func 80 [] []))) [(.t 0)]) none .any, .op 8 (.fieldAddr 1 (.t 3)) none .any, .op 9 (.load none (.t 0)) none .var, .op 10 (.call false (.k (.c (.func 81 [] []))) [(.t 0)]) none .any, .op 11 (.fieldAddr 2 (.t 6)) none .any, .op 12 (.load none (.t 0)) none .var, .op 13 (.call false (.k (.c (.func 81 [] []))) [(.t 0)]) none .any, .op 14 (.fieldAddr 1 (.t 9)) none .any, .op 15 (.load none (.t 0)) none .var, .op 16 (.fieldAddr 2 (.t 11)) none .any, .op 17 (.load none (.t 0)) none .var, .op 18 (.bin .gtr (.t 2) (.t 0)) none .any, .op 19 (.call false (.k (.c (.func 82 [] []))) [(.t 0), (.k (.c (.int .i64 11)))]) none .any, .op 20 (.buildSlice 2 none 4 [(.c (.int .i64 0))] [(0, (.t 12)), (1, (.t 9)), (2, (.t 6)), (3, (.t 0))]) (some 0) .any, .op 21 (.call false (.k (.c (.func 79 [] []))) [(.t 0)]) none .any, .op 4 (.move (.t 0)) none .any] [0])
def c78_n1 : SCode := .seq c78_n2 .ret
instance : IsSeq c78_n1 c78_n2 .ret := ⟨rfl⟩
def c78 : SCode := (.seq (.region [.op 2 (.box (.t 0)) none .any, .op 4 (.move (.k (.c (.int .i64 0)))) none .any] [1]) c78_n1)
def F78 : SFunc := .code .pure 22 2 [some 4] [.tmp 0] c78

-- crux/member.first
-- c79_l0: env [5, 6, 7]
@[simp] def c79_n4 : SCode := (.region [.op 9 (.idxSlice 1 (.t 0) (.t 2)) none .any, .op 10 (.load none (.t 0)) none .any, .op 4 (.move (.t 0)) none .any] [0, 3, 4, 5])
def c79_n3 : SCode := .seq c79_n4 (.seq (.region [.op 11 (.move (.t 0)) none .any, .op 12 (.bin .neq (.t 0) (.k (.c (.int .i64 0)))) none .any] [2, 3, 4, 5, 0]) (.cond (.t 4) (.seq (.region [.op 13 (.move (.t 0)) none .any, .op 2 (.move (.t 0)) none .any] [0]) .ret) (.pre [1, 2, 3] .skip)))
instance : IsSeq c79_n3 c79_n4 (.seq (.region [.op 11 (.move (.t 0)) none .any, .op 12 (.bin .neq (.t 0) (.k (.c (.int .i64 0)))) none .any] [2, 3, 4, 5, 0]) (.cond (.t 4) (.seq (.region [.op 13 (.move (.t 0)) none .any, .op 2 (.move (.t 0)) none .any] [0]) .ret) (.pre [1, 2, 3] .skip))) := ⟨rfl⟩
def c79_n2 : SCode := .seq (.block 1 [some 5, some 6, some 7] c79_n3) (.region [.op 14 (.bin .add (.t 2) (.k (.c (.int .i64 1)))) none .any, .op 7 (.move (.t 0)) none .any] [2, 3, 0])
instance : IsSeq c79_n2 (.block 1 [some 5, some 6, some 7] c79_n3) (.region [.op 14 (.bin .add (.t 2) (.k (.c (.int .i64 1)))) none .any, .op 7 (.move (.t 0)) none .any] [2, 3, 0]) := ⟨rfl⟩
def c79_n1 : SCode := .seq (.cond (.t 3) (.pre [0, 1, 2] .skip) (.pre [] (.exit 0))) c79_n2
instance : IsSeq c79_n1 (.cond (.t 3) (.pre [0, 1, 2] .skip) (.pre [] (.exit 0))) c79_n2 := ⟨rfl⟩
def c79_l0b : SCode := (.seq (.region [.op 8 (.bin .lss (.t 2) (.t 1)) none .any] [1, 2, 3, 0]) c79_n1)
def c79_l0 : SCode := .loop true c79_l0b
def c79 : SCode := (.seq (.region [.op 2 (.move (.k (.c (.int .i64 0)))) none .any] [1]) (.seq (.seq (.region [.op 5 (.move (.t 0)) none .any, .op 6 (.len 1 (.t 0)) none .any, .op 7 (.move (.k (.c (.int .i64 0)))) none .any] [2, 1, 0]) (.block 0 [] c79_l0)) (.seq (.region [.op 2 (.move (.k (.c (.int .i64 0)))) none .any] [0]) .ret)))
def F79 : SFunc := .code .pure 15 1 [some 2] [.tmp 0] c79

-- crux/member.named
def c80 : SCode := (.seq (.region [.op 2 (.move (.k (.c (.int .i64 0)))) none .any] [1]) (.seq (.region [.op 3 (.move (.t 0)) none .any, .op 4 (.call false (.k (.c (.func 132 [] []))) [(.t 0)]) none .any, .op 5 (.not (.t 0)) none .any, .op 6 (.call false (.k (.c (.func 82 [] []))) [(.t 0), (.k (.c (.int .i64 8)))]) none .any, .op 2 (.move (.t 0)) none .any] [0]) .ret))
def F80 : SFunc := .code .pure 7 1 [some 2] [.tmp 0] c80

-- crux/member.dated
def c81 : SCode := (.seq (.region [.op 2 (.move (.k (.c (.int .i64 0)))) none .any] [1]) (.seq (.region [.op 3 (.move (.t 0)) none .any, .op 4 (.call false (.k (.c (.func 105 [] []))) [(.t 0), (.k (.c (.int .i64 0))), (.k (.c (.int .i64 99999)))]) none .any, .op 5 (.call false (.k (.c (.func 82 [] []))) [(.t 0), (.k (.c (.int .i64 3)))]) none .any, .op 2 (.move (.t 0)) none .any] [0]) .ret))
def F81 : SFunc := .code .pure 6 1 [some 2] [.tmp 0] c81

-- crux/member.when
def c82 : SCode := (.seq (.region [.op 4 (.move (.k (.c (.int .i64 0)))) none .any] [1, 2]) (.seq (.seq (.region [.op 5 (.move (.t 0)) none .any] [2, 0]) (.cond (.t 1) (.seq (.region [.op 6 (.move (.t 0)) none .any, .op 4 (.move (.t 0)) none .any] [0]) .ret) (.pre [] .skip))) (.seq (.region [.op 4 (.move (.k (.c (.int .i64 0)))) none .any] [0]) .ret)))
def F82 : SFunc := .code .pure 7 2 [some 4] [.tmp 0] c82

-- crux/member.days
def c83 : SCode := (.seq (.region [.op 3 (.box (.t 0)) none .any, .op 4 (.box (.t 2)) none .any, .op 5 (.box (.t 4)) none .any, .op 6 (.move (.k (.c .nilfunc))) none .any] [3, 2, 1]) (.seq (.region [.op 7 (.mkFunc 133 [] [(.t 2), (.t 0), (.t 1)]) none .any, .op 6 (.move (.t 0)) none .any] [0]) .ret))
def F83 : SFunc := .code .pure 8 3 [some 6] [.tmp 0] c83

-- crux/cruxref09.short
-- c84_l0: env [0, 1, 5]
@[simp] def c84_n3 : SCode := (.region [.op 12 (.move (.t 0)) none .any, .op 13 (.move (.t 3)) none .any, .op 14 (.idxSlice 1 (.t 1) (.t 0)) none .any, .op 15 (.load none (.t 0)) none .any, .op 16 (.len 0 (.t 0)) none .any, .op 17 (.bin .gtr (.t 0) (.k (.c (.int .i64 40)))) none .any] [6, 7, 8, 0])
def c84_n2 : SCode := .seq c84_n3 (.cond (.t 3) (.seq (.region [.op 4 (.move (.k (.c (.bool false)))) none .any] [0]) .ret) (.pre [0, 1, 2] .skip))
instance : IsSeq c84_n2 c84_n3 (.cond (.t 3) (.seq (.region [.op 4 (.move (.k (.c (.bool false)))) none .any] [0]) .ret) (.pre [0, 1, 2] .skip)) := ⟨rfl⟩
def c84_n1 : SCode := .seq (.block 1 [some 0, some 1, some 5] c84_n2) (.region [.op 10 (.move (.t 2)) none .any, .op 11 (.bin .add (.t 0) (.k (.c (.int .i64 1)))) none .any, .op 5 (.move (.t 0)) none .any] [3, 4, 0])
instance : IsSeq c84_n1 (.block 1 [some 0, some 1, some 5] c84_n2) (.region [.op 10 (.move (.t 2)) none .any, .op 11 (.bin .add (.t 0) (.k (.c (.int .i64 1)))) none .any, .op 5 (.move (.t 0)) none .any] [3, 4, 0]) := ⟨rfl⟩
def c84_l0b : SCode := (.seq (.seq (.region [.op 6 (.move (.t 2)) none .any, .op 7 (.move (.t 1)) none .any, .op 8 (.len 1 (.t 0)) none .any, .op 9 (.bin .lss (.t 2) (.t 0)) none .any] [4, 5, 6, 0]) (.cond (.t 3) (.pre [0, 1, 2] .skip) (.pre [0, 1] (.exit 0)))) c84_n1)
def c84_l0 : SCode := .loop true c84_l0b
def c84 : SCode := (.seq (.region [.op 4 (.move (.k (.c (.bool false)))) none .any] [1, 2]) (.seq (.seq (.region [.op 5 (.move (.k (.c (.int .i64 0)))) none .any] [1, 2, 0]) (.block 0 [some 0, some 1] c84_l0)) (.seq (.region [.op 18 (.move (.t 0)) none .any, .op 19 (.len 1 (.t 0)) none .any, .op 20 (.move (.t 3)) none .any, .op 21 (.bin .leq (.t 1) (.t 0)) none .any, .op 4 (.move (.t 0)) none .any] [0]) .ret)))
def F84 : SFunc := .code .pure 22 2 [some 4] [.tmp 0] c84

-- crux/member.each[crux/member.Test]
-- c85_l0: env [0, 2, 14, 15, 16]
@[simp] def c85_n4 : SCode := (.region [.op 18 (.move (.t 4)) none .any, .op 19 (.idxSlice 2 (.t 3) (.t 5)) none .any, .op 20 (.load (some 2) (.t 0)) none .any, .op 8 (.new [(.c (.str [])), (.c (.int .i64 0))]) none .any, .op 7 (.move (.t 3)) none .any, .eff (.store 2 (.t 1) (.t 2)) none .any] [5, 6, 0, 1, 7, 8, 9])
@[simp] def c85_n6 : SCode := (.draw 0 [.op 21 (.move (.t 1)) none .any, .op 22 (.load (some 2) (.t 4)) none .var, .op 23 (.move (.t 2)) none .any, .op 24 (.move (.t 5)) none .any, .op 25 (.sliceSl 2 (.t 1) none (some (.t 0)) none) none .any, .op 26 (.call false (.t 4) [(.t 3), (.t 0)]) none .any, .op 9 (.move (.t 0)) none .any] [7, 8, 0, 11, 12, 13])
def c85_n5 : SCode := .seq c85_n6 (.seq (.region [.op 27 (.move (.t 2)) none .any, .op 28 (.bin .neq (.t 0) (.k (.c (.int .i64 0)))) none .any] [2, 3, 4, 5, 6, 7, 0]) (.cond (.t 6) (.seq (.region [.op 29 (.move (.t 2)) none .any, .op 6 (.move (.t 0)) none .any] [0]) .ret) (.pre [0, 1, 3, 4, 5] .skip)))
instance : IsSeq c85_n5 c85_n6 (.seq (.region [.op 27 (.move (.t 2)) none .any, .op 28 (.bin .neq (.t 0) (.k (.c (.int .i64 0)))) none .any] [2, 3, 4, 5, 6, 7, 0]) (.cond (.t 6) (.seq (.region [.op 29 (.move (.t 2)) none .any, .op 6 (.move (.t 0)) none .any] [0]) .ret) (.pre [0, 1, 3, 4, 5] .skip))) := ⟨rfl⟩
def c85_n3 : SCode := .seq c85_n4 c85_n5
instance : IsSeq c85_n3 c85_n4 c85_n5 := ⟨rfl⟩
def c85_n2 : SCode := .seq (.block 1 [some 0, some 2, some 14, some 15, some 16] c85_n3) (.region [.op 30 (.bin .add (.t 4) (.k (.c (.int .i64 1)))) none .any, .op 16 (.move (.t 0)) none .any] [2, 3, 4, 5, 0])
instance : IsSeq c85_n2 (.block 1 [some 0, some 2, some 14, some 15, some 16] c85_n3) (.region [.op 30 (.bin .add (.t 4) (.k (.c (.int .i64 1)))) none .any, .op 16 (.move (.t 0)) none .any] [2, 3, 4, 5, 0]) := ⟨rfl⟩
def c85_n1 : SCode := .seq (.cond (.t 5) (.pre [0, 1, 2, 3, 4] .skip) (.pre [] (.exit 0))) c85_n2
instance : IsSeq c85_n1 (.cond (.t 5) (.pre [0, 1, 2, 3, 4] .skip) (.pre [] (.exit 0))) c85_n2 := ⟨rfl⟩
def c85_l0b : SCode := (.seq (.region [.op 17 (.bin .lss (.t 4) (.t 3)) none .any] [1, 2, 3, 4, 5, 0]) c85_n1)
def c85_l0 : SCode := .loop true c85_l0b
@[simp] def c85_n8 : SCode := (.seq (.region [.op 10 (.move (.t 0)) none .any, .op 11 (.len 1 (.t 0)) none .any, .op 12 (.move (.t 3)) none .any, .op 13 (.bin .gtr (.t 1) (.t 0)) none .any] [4, 6, 0]) (.cond (.t 2) (.seq (.region [.op 6 (.move (.k (.c (.int .i64 5)))) none .any] [0]) .ret) (.pre [0, 1] .skip)))
def c85_n7 : SCode := .seq c85_n8 (.seq (.seq (.region [.op 14 (.move (.t 0)) none .any, .op 15 (.len 1 (.t 0)) none .any, .op 16 (.move (.k (.c (.int .i64 0)))) none .any] [3, 4, 2, 1, 0]) (.block 0 [] c85_l0)) (.seq (.region [.op 6 (.move (.k (.c (.int .i64 0)))) none .any] [0]) .ret))
instance : IsSeq c85_n7 c85_n8 (.seq (.seq (.region [.op 14 (.move (.t 0)) none .any, .op 15 (.len 1 (.t 0)) none .any, .op 16 (.move (.k (.c (.int .i64 0)))) none .any] [3, 4, 2, 1, 0]) (.block 0 [] c85_l0)) (.seq (.region [.op 6 (.move (.k (.c (.int .i64 0)))) none .any] [0]) .ret)) := ⟨rfl⟩
def c85 : SCode := (.seq (.region [.op 6 (.move (.k (.c (.int .i64 0)))) none .any] [1, 2, 3]) c85_n7)
def F85 : SFunc := .code .pure 31 3 [some 6] [.tmp 0] c85

-- crux/member.CheckTests$1
@[simp] def c86_n2 : SCode := (.draw 1 [.op 5 (.fieldAddr 0 (.t 0)) none .any, .op 6 (.load none (.t 0)) none .var, .op 7 (.call false (.k (.c (.func 80 [] []))) [(.t 0)]) none .any, .op 8 (.fieldAddr 1 (.t 3)) none .any, .op 9 (.load none (.t 0)) none .var, .op 10 (.call false (.k (.c (.func 81 [] []))) [(.t 0)]) none .any, .op 11 (.buildSlice 2 none 2 [(.c (.int .i64 0))] [(0, (.t 3)), (1, (.t 0))]) (some 0) .any, .op 12 (.call false (.k (.c (.func 79 [] []))) [(.t 0)]) none .any, .op 4 (.move (.t 0)) none .any] [0])
def c86_n1 : SCode := .seq c86_n2 .ret
instance : IsSeq c86_n1 c86_n2 .ret := ⟨rfl⟩
def c86 : SCode := (.seq (.region [.op 2 (.box (.t 0)) none .any, .op 4 (.move (.k (.c (.int .i64 0)))) none .any] [1]) c86_n1)
def F86 : SFunc := .code .pure 13 2 [some 4] [.tmp 0] c86

-- crux/cruxref09.checkNames
-- c87_l0: env [0, 3]
@[simp] def c87_n3 : SCode := (.seq (.region [.op 10 (.move (.t 0)) none .any, .op 11 (.move (.t 2)) none .any, .op 12 (.idxSlice 1 (.t 1) (.t 0)) none .any, .op 13 (.load none (.t 0)) none .any, .op 14 (.call false (.k (.c (.func 22 [] []))) [(.t 0)]) none .any, .op 15 (.not (.t 0)) none .any] [6, 7, 0]) (.cond (.t 2) (.seq (.region [.op 2 (.move (.k (.c (.int .i64 8)))) none .any] [0]) .ret) (.pre [0, 1] .skip)))
@[simp] def c87_n5 : SCode := (.draw 0 [.op 16 (.move (.t 0)) none .any, .op 17 (.move (.t 2)) none .any, .op 18 (.sliceSl 1 (.t 1) none (some (.t 0)) none) none .any, .op 19 (.move (.t 3)) none .any, .op 20 (.move (.t 5)) none .any, .op 21 (.idxSlice 1 (.t 1) (.t 0)) none .any, .op 22 (.load none (.t 0)) none .old, .op 23 (.call false (.k (.c (.func 58 [] []))) [(.t 4), (.t 0)]) none .any] [8, 9, 0])
def c87_n4 : SCode := .seq c87_n5 (.cond (.t 2) (.seq (.region [.op 2 (.move (.k (.c (.int .i64 9)))) none .any] [0]) .ret) (.pre [0, 1] .skip))
instance : IsSeq c87_n4 c87_n5 (.cond (.t 2) (.seq (.region [.op 2 (.move (.k (.c (.int .i64 9)))) none .any] [0]) .ret) (.pre [0, 1] .skip)) := ⟨rfl⟩
def c87_n2 : SCode := .seq c87_n3 c87_n4
instance : IsSeq c87_n2 c87_n3 c87_n4 := ⟨rfl⟩
def c87_n1 : SCode := .seq (.block 1 [some 0, some 3] c87_n2) (.region [.op 8 (.move (.t 1)) none .any, .op 9 (.bin .add (.t 0) (.k (.c (.int .i64 1)))) none .any, .op 3 (.move (.t 0)) none .any] [3, 0])
instance : IsSeq c87_n1 (.block 1 [some 0, some 3] c87_n2) (.region [.op 8 (.move (.t 1)) none .any, .op 9 (.bin .add (.t 0) (.k (.c (.int .i64 1)))) none .any, .op 3 (.move (.t 0)) none .any] [3, 0]) := ⟨rfl⟩
def c87_l0b : SCode := (.seq (.seq (.region [.op 4 (.move (.t 1)) none .any, .op 5 (.move (.t 1)) none .any, .op 6 (.len 1 (.t 0)) none .any, .op 7 (.bin .lss (.t 2) (.t 0)) none .any] [4, 5, 0]) (.cond (.t 2) (.pre [0, 1] .skip) (.pre [] (.exit 0)))) c87_n1)
def c87_l0 : SCode := .loop true c87_l0b
def c87 : SCode := (.seq (.region [.op 2 (.move (.k (.c (.int .i64 0)))) none .any] [1]) (.seq (.seq (.region [.op 3 (.move (.k (.c (.int .i64 0)))) none .any] [1, 0]) (.block 0 [] c87_l0)) (.seq (.region [.op 2 (.move (.k (.c (.int .i64 0)))) none .any] [0]) .ret)))
def F87 : SFunc := .code .pure 24 1 [some 2] [.tmp 0] c87

-- crux/member.checkNames
def c88 : SCode := (.seq (.region [.op 2 (.move (.k (.c (.int .i64 0)))) none .any] [1]) (.seq (.region [.op 3 (.move (.t 0)) none .any, .op 4 (.call false (.k (.c (.func 103 [] []))) [(.t 0), (.k (.c (.int .i64 160))), (.k (.c (.func 104 [] [])))]) none .any, .op 2 (.move (.t 0)) none .any] [0]) .ret))
def F88 : SFunc := .code .pure 5 1 [some 2] [.tmp 0] c88

-- (crux/member.Pick).check
@[simp] def c89_n2 : SCode := (.region [.op 6 (.fieldAddr 2 (.t 0)) none .any, .op 7 (.load none (.t 0)) none .any, .op 8 (.call false (.k (.c (.func 90 [] []))) [(.t 0), (.k (.c (.int .i64 0)))]) none .any, .op 5 (.move (.t 0)) none .any, .op 9 (.extract (.t 0) 0) none .any, .op 10 (.extract (.t 1) 1) none .any, .op 3 (.move (.t 1)) none .any, .op 4 (.move (.t 1)) none .any] [8, 0])
@[simp] def c89_n4 : SCode := (.region [.op 11 (.fieldAddr 0 (.t 0)) none .any, .op 12 (.load none (.t 0)) none .any, .op 13 (.call false (.k (.c (.func 105 [] []))) [(.t 0), (.k (.c (.int .i64 0))), (.k (.c (.int .i64 160)))]) none .any, .op 14 (.move (.t 0)) none .any, .orN 18 0 [.op 15 (.fieldAddr 1 (.t 4)) none .any, .op 16 (.load none (.t 0)) none .any, .op 17 (.call false (.k (.c (.func 105 [] []))) [(.t 0), (.k (.c (.int .i64 0))), (.k (.c (.int .i64 99999)))]) none .any] (.t 0), .op 19 (.move (.t 0)) none .any, .orN 22 0 [.op 20 (.move (.t 7)) none .any, .op 21 (.bin .neq (.t 0) (.k (.c (.int .i64 0)))) none .any] (.t 0), .op 23 (.call false (.k (.c (.func 82 [] []))) [(.t 0), (.k (.c (.int .i64 3)))]) none .any, .op 2 (.move (.t 0)) none .any] [0])
def c89_n3 : SCode := .seq c89_n4 .ret
instance : IsSeq c89_n3 c89_n4 .ret := ⟨rfl⟩
def c89_n1 : SCode := .seq c89_n2 c89_n3
instance : IsSeq c89_n1 c89_n2 c89_n3 := ⟨rfl⟩
def c89 : SCode := (.seq (.region [.op 1 (.box (.t 0)) none .any, .op 2 (.move (.k (.c (.int .i64 0)))) none .any] [1]) c89_n1)
def F89 : SFunc := .code .pure 24 1 [some 2] [.tmp 0] c89

-- crux/number.Draw
-- c90_l0: env [0, 1, 6, 28, 29]
-- c90_l1: env [1, 6, 8, 9]
@[simp] def c90_n3 : SCode := (.block 1 [some 0, some 1, some 6, some 28, some 29] (.seq (.region [.op 31 (.move (.t 4)) none .any, .op 7 (.move (.t 0)) none .any] [2, 3, 4, 0, 5, 6]) (.region [.op 32 (.move (.t 2)) none .any, .op 33 (.move (.t 4)) none .any, .op 34 (.move (.t 5)) none .any, .op 35 (.idxSlice 1 (.t 2) (.t 1)) none .any, .eff (.store 1 (.t 0) (.t 1)) none .any] [4, 5, 6, 8, 9])))
def c90_n2 : SCode := .seq c90_n3 (.region [.op 36 (.bin .add (.t 4) (.k (.c (.int .i64 1)))) none .any, .op 29 (.move (.t 0)) none .any] [2, 3, 4, 5, 0])
instance : IsSeq c90_n2 c90_n3 (.region [.op 36 (.bin .add (.t 4) (.k (.c (.int .i64 1)))) none .any, .op 29 (.move (.t 0)) none .any] [2, 3, 4, 5, 0]) := ⟨rfl⟩
def c90_n1 : SCode := .seq (.cond (.t 5) (.pre [0, 1, 2, 3, 4] .skip) (.pre [0, 1, 2] (.exit 0))) c90_n2
instance : IsSeq c90_n1 (.cond (.t 5) (.pre [0, 1, 2, 3, 4] .skip) (.pre [0, 1, 2] (.exit 0))) c90_n2 := ⟨rfl⟩
def c90_l0b : SCode := (.seq (.region [.op 30 (.bin .lss (.t 4) (.t 3)) none .any] [1, 2, 3, 4, 5, 0]) c90_n1)
def c90_l0 : SCode := .loop true c90_l0b
@[simp] def c90_n6 : SCode := (.region [.op 44 (.move (.t 2)) none .any, .op 45 (.bin .mul (.k (.c (.int .i64 48271))) (.t 0)) none .any, .op 46 (.bin .rem (.t 0) (.k (.c (.int .i64 2147483647)))) none .any, .op 8 (.move (.t 0)) none .any] [4, 5, 0, 7])
@[simp] def c90_n8 : SCode := (.region [.op 47 (.move (.t 3)) none .any, .op 48 (.move (.t 3)) none .any, .op 49 (.move (.t 2)) none .any, .op 50 (.move (.t 6)) none .any, .op 51 (.bin .sub (.t 1) (.t 0)) none .any, .op 52 (.bin .rem (.t 3) (.t 0)) none .any, .op 53 (.bin .add (.t 5) (.t 0)) none .any, .op 10 (.move (.t 0)) none .any] [8, 9, 10, 11, 0])
@[simp] def c90_n9 : SCode := (.draw 0 [.op 54 (.move (.t 1)) none .any, .op 55 (.move (.t 4)) none .any, .op 56 (.move (.t 3)) none .any, .op 57 (.move (.t 7)) none .any, .op 58 (.move (.t 5)) none .any, .op 59 (.move (.t 9)) none .any, .op 60 (.idxSlice 1 (.t 1) (.t 0)) none .any, .op 61 (.load none (.t 0)) none .old, .op 62 (.move (.t 9)) none .any, .op 63 (.move (.t 12)) none .any, .op 64 (.idxSlice 1 (.t 1) (.t 0)) none .any, .op 65 (.load none (.t 0)) none .old, .op 66 (.idxSlice 1 (.t 11) (.t 10)) none .any, .eff (.store 1 (.t 0) (.t 5)) none .old, .op 67 (.idxSlice 1 (.t 10) (.t 9)) none .any, .eff (.store 1 (.t 0) (.t 2)) none .old] [14, 15, 16, 17])
def c90_n7 : SCode := .seq c90_n8 c90_n9
instance : IsSeq c90_n7 c90_n8 c90_n9 := ⟨rfl⟩
def c90_n5 : SCode := .seq c90_n6 c90_n7
instance : IsSeq c90_n5 c90_n6 c90_n7 := ⟨rfl⟩
def c90_n4 : SCode := .seq (.block 3 [some 1, some 6, some 8, some 9] c90_n5) (.region [.op 42 (.move (.t 3)) none .any, .op 43 (.bin .add (.t 0) (.k (.c (.int .i64 1)))) none .any, .op 9 (.move (.t 0)) none .any] [3, 4, 5, 0])
instance : IsSeq c90_n4 (.block 3 [some 1, some 6, some 8, some 9] c90_n5) (.region [.op 42 (.move (.t 3)) none .any, .op 43 (.bin .add (.t 0) (.k (.c (.int .i64 1)))) none .any, .op 9 (.move (.t 0)) none .any] [3, 4, 5, 0]) := ⟨rfl⟩
def c90_l1b : SCode := (.seq (.seq (.region [.op 38 (.move (.t 3)) none .any, .op 39 (.move (.t 1)) none .any, .op 40 (.bin .sub (.t 0) (.k (.c (.int .i64 1)))) none .any, .op 41 (.bin .lss (.t 2) (.t 0)) none .any] [4, 5, 6, 7, 0]) (.cond (.t 4) (.pre [0, 1, 2, 3] .skip) (.pre [1] (.exit 2)))) c90_n4)
def c90_l1 : SCode := .loop true c90_l1b
@[simp] def c90_n11 : SCode := (.seq (.region [.op 11 (.move (.t 0)) none .any, .op 12 (.bin .lss (.t 0) (.k (.c (.int .i64 1)))) none .any, .op 13 (.move (.t 0)) none .any, .orN 16 0 [.op 14 (.move (.t 3)) none .any, .op 15 (.bin .gtr (.t 0) (.k (.c (.int .i64 2147483646)))) none .any] (.t 0), .op 17 (.move (.t 0)) none .any, .orN 20 0 [.op 18 (.move (.t 6)) none .any, .op 19 (.bin .lss (.t 0) (.k (.c (.int .i64 0)))) none .any] (.t 0), .op 21 (.move (.t 0)) none .any, .orN 24 0 [.op 22 (.move (.t 8)) none .any, .op 23 (.bin .gtr (.t 0) (.k (.c (.int .i64 256)))) none .any] (.t 0)] [8, 9, 0]) (.cond (.t 2) (.seq (.region [.op 4 (.mkNil none) none .any, .op 5 (.move (.k (.c (.int .i64 3)))) none .any] [1, 0]) .ret) (.pre [0, 1] .skip)))
@[simp] def c90_n13 : SCode := (.region [.op 25 (.move (.t 1)) none .any, .op 26 (.makeSlice none 8 [(.c (.int .i64 0))] (.t 0) (.t 0)) none .any, .op 6 (.move (.t 0)) none .any] [3, 4, 0])
@[simp] def c90_n15 : SCode := (.seq (.region [.op 27 (.move (.t 2)) none .any, .op 28 (.len 1 (.t 0)) none .any, .op 29 (.move (.k (.c (.int .i64 0)))) none .any] [3, 4, 5, 1, 0]) (.block 0 [some 0, some 1, some 6] c90_l0))
def c90_n14 : SCode := .seq c90_n15 (.seq (.region [.op 37 (.move (.t 0)) none .any, .op 8 (.move (.t 0)) none .any] [3, 4, 0]) (.seq (.seq (.region [.op 9 (.move (.k (.c (.int .i64 0)))) none .any] [1, 2, 3, 0]) (.block 2 [some 6] c90_l1)) (.seq (.region [.op 68 (.move (.t 0)) none .any, .op 4 (.move (.t 0)) none .any, .op 5 (.move (.k (.c (.int .i64 0)))) none .any] [1, 0]) .ret)))
instance : IsSeq c90_n14 c90_n15 (.seq (.region [.op 37 (.move (.t 0)) none .any, .op 8 (.move (.t 0)) none .any] [3, 4, 0]) (.seq (.seq (.region [.op 9 (.move (.k (.c (.int .i64 0)))) none .any] [1, 2, 3, 0]) (.block 2 [some 6] c90_l1)) (.seq (.region [.op 68 (.move (.t 0)) none .any, .op 4 (.move (.t 0)) none .any, .op 5 (.move (.k (.c (.int .i64 0)))) none .any] [1, 0]) .ret))) := ⟨rfl⟩
def c90_n12 : SCode := .seq c90_n13 c90_n14
instance : IsSeq c90_n12 c90_n13 c90_n14 := ⟨rfl⟩
def c90_n10 : SCode := .seq c90_n11 c90_n12
instance : IsSeq c90_n10 c90_n11 c90_n12 := ⟨rfl⟩
def c90 : SCode := (.seq (.region [.op 4 (.mkNil none) none .any, .op 5 (.move (.k (.c (.int .i64 0)))) none .any] [2, 3]) c90_n10)
def F90 : SFunc := .code (.fresh 2) 69 2 [some 4, some 5] [.tmp 0, .tmp 1] c90

end LM.G9

namespace LM.G9
open Go LM
-- crux/member.tested
-- c91_l0: env [1, 5, 11, 12, 13]
@[simp] def c91_n4 : SCode := (.region [.op 15 (.idxSlice 2 (.t 2) (.t 4)) none .any, .op 16 (.load (some 2) (.t 0)) none .any, .op 7 (.new [(.c (.str [])), (.c (.int .i64 0))]) none .any, .eff (.store 2 (.t 0) (.t 1)) none .any] [3, 4, 0, 5, 6, 7])
@[simp] def c91_n6 : SCode := (.region [.op 18 (.move (.t 1)) none .any, .op 19 (.fieldAddr 0 (.t 3)) none .any, .op 20 (.load none (.t 0)) none .any, .op 21 (.lookup (.one 1) (.c (.int .i64 0)) true (.t 2) (.t 0)) none .any, .op 17 (.move (.t 0)) none .any, .op 22 (.extract (.t 0) 0) none .any, .op 23 (.extract (.t 1) 1) none .any, .op 8 (.move (.t 1)) none .any, .op 9 (.move (.t 1)) none .any] [9, 10, 11, 1, 0, 12, 13, 14])
@[simp] def c91_n8 : SCode := (.region [.op 24 (.fieldAddr 1 (.t 2)) none .any, .op 25 (.load none (.t 0)) none .any, .op 26 (.move (.t 2)) none .any, .op 27 (.bin .leq (.t 1) (.t 0)) none .any, .op 28 (.move (.t 0)) none .any, .andN 37 0 [.op 29 (.move (.t 9)) none .any, .op 30 (.not (.t 0)) none .any, .op 31 (.move (.t 0)) none .any, .orN 36 0 [.op 32 (.fieldAddr 1 (.t 10)) none .any, .op 33 (.load none (.t 0)) none .any, .op 34 (.move (.t 13)) none .any, .op 35 (.bin .gtr (.t 1) (.t 0)) none .any] (.t 0)] (.t 0)] [6, 7, 8, 11, 12, 13, 0])
def c91_n7 : SCode := .seq c91_n8 (.cond (.t 6) (.region [.op 38 (.move (.t 1)) none .any, .op 39 (.fieldAddr 0 (.t 3)) none .any, .op 40 (.load none (.t 0)) none .any, .op 41 (.fieldAddr 1 (.t 5)) none .any, .op 42 (.load none (.t 0)) none .any, .eff (.mapUpdate (.one 1) (.t 4) (.t 2) (.t 0)) none .any] [5, 6, 8, 9, 10]) (.pre [0, 1, 3, 4, 5] .skip))
instance : IsSeq c91_n7 c91_n8 (.cond (.t 6) (.region [.op 38 (.move (.t 1)) none .any, .op 39 (.fieldAddr 0 (.t 3)) none .any, .op 40 (.load none (.t 0)) none .any, .op 41 (.fieldAddr 1 (.t 5)) none .any, .op 42 (.load none (.t 0)) none .any, .eff (.mapUpdate (.one 1) (.t 4) (.t 2) (.t 0)) none .any] [5, 6, 8, 9, 10]) (.pre [0, 1, 3, 4, 5] .skip)) := ⟨rfl⟩
def c91_n5 : SCode := .seq c91_n6 c91_n7
instance : IsSeq c91_n5 c91_n6 c91_n7 := ⟨rfl⟩
def c91_n3 : SCode := .seq c91_n4 c91_n5
instance : IsSeq c91_n3 c91_n4 c91_n5 := ⟨rfl⟩
def c91_n2 : SCode := .seq (.block 1 [some 1, some 5, some 11, some 12, some 13] c91_n3) (.region [.op 43 (.bin .add (.t 4) (.k (.c (.int .i64 1)))) none .any, .op 13 (.move (.t 0)) none .any] [2, 3, 4, 5, 0])
instance : IsSeq c91_n2 (.block 1 [some 1, some 5, some 11, some 12, some 13] c91_n3) (.region [.op 43 (.bin .add (.t 4) (.k (.c (.int .i64 1)))) none .any, .op 13 (.move (.t 0)) none .any] [2, 3, 4, 5, 0]) := ⟨rfl⟩
def c91_n1 : SCode := .seq (.cond (.t 5) (.pre [0, 1, 2, 3, 4] .skip) (.pre [1] (.exit 0))) c91_n2
instance : IsSeq c91_n1 (.cond (.t 5) (.pre [0, 1, 2, 3, 4] .skip) (.pre [1] (.exit 0))) c91_n2 := ⟨rfl⟩
def c91_l0b : SCode := (.seq (.region [.op 14 (.bin .lss (.t 4) (.t 3)) none .any] [1, 2, 3, 4, 5, 0]) c91_n1)
def c91_l0 : SCode := .loop true c91_l0b
@[simp] def c91_n10 : SCode := (.region [.op 10 (.makeMap) none .any, .op 5 (.move (.t 0)) none .any] [2, 3, 0])
def c91_n9 : SCode := .seq c91_n10 (.seq (.seq (.region [.op 11 (.move (.t 0)) none .any, .op 12 (.len 1 (.t 0)) none .any, .op 13 (.move (.k (.c (.int .i64 0)))) none .any] [4, 5, 2, 1, 0]) (.block 0 [some 5] c91_l0)) (.seq (.region [.op 44 (.move (.t 0)) none .any, .op 4 (.move (.t 0)) none .any] [0]) .ret))
instance : IsSeq c91_n9 c91_n10 (.seq (.seq (.region [.op 11 (.move (.t 0)) none .any, .op 12 (.len 1 (.t 0)) none .any, .op 13 (.move (.k (.c (.int .i64 0)))) none .any] [4, 5, 2, 1, 0]) (.block 0 [some 5] c91_l0)) (.seq (.region [.op 44 (.move (.t 0)) none .any, .op 4 (.move (.t 0)) none .any] [0]) .ret)) := ⟨rfl⟩
def c91 : SCode := (.seq (.region [.op 4 (.move (.k (.c (.map [] [])))) none .any] [1, 2]) c91_n9)
def F91 : SFunc := .code .pure 45 2 [some 4] [.tmp 0] c91

-- crux/member.Pool$1
@[simp] def c92_n2 : SCode := (.seq (.region [.op 7 (.load none (.t 1)) none .any, .op 8 (.move (.t 1)) none .any, .op 9 (.lookup (.one 1) (.c (.int .i64 0)) true (.t 1) (.t 0)) none .any, .op 6 (.move (.t 0)) none .any, .op 10 (.extract (.t 0) 0) none .any, .op 11 (.extract (.t 1) 1) none .any, .op 4 (.move (.t 1)) none .any, .op 5 (.move (.t 1)) none .any] [1, 0]) (.seq (.region [.op 12 (.move (.t 1)) none .any] [1, 0]) (.cond (.t 1) (.seq (.region [.op 13 (.move (.t 0)) none .any, .op 3 (.move (.t 0)) none .any] [0]) .ret) (.pre [] .skip))))
def c92_n1 : SCode := .seq c92_n2 (.seq (.region [.op 3 (.move (.k (.c (.int .i64 (-1))))) none .any] [0]) .ret)
instance : IsSeq c92_n1 c92_n2 (.seq (.region [.op 3 (.move (.k (.c (.int .i64 (-1))))) none .any] [0]) .ret) := ⟨rfl⟩
def c92 : SCode := (.seq (.region [.op 3 (.move (.k (.c (.int .i64 0)))) none .any] [1, 2]) c92_n1)
def F92 : SFunc := .code .pure 14 2 [some 3] [.tmp 0] c92

-- slices.SortStableFunc[[]string,string]
def c93 : SCode := (.region [.op 4 (.move (.t 0)) none .any, .op 5 (.move (.t 1)) none .any, .op 6 (.len 1 (.t 0)) none .any, .op 7 (.move (.t 4)) none .any, .op 8 (.call false (.k (.c (.func 136 [] []))) [(.t 3), (.t 1), (.t 0)]) none .any] [])
def F93 : SFunc := .code .shared 9 2 [] [] c93

-- crux/member.Pool$2
@[simp] def c94_n2 : SCode := (.draw 0 [.op 6 (.load none (.t 2)) none .var, .op 7 (.move (.t 1)) none .any, .op 8 (.call true (.t 1) [(.t 0)]) none .any, .op 9 (.load none (.t 5)) none .var, .op 10 (.move (.t 5)) none .any, .op 11 (.call true (.t 1) [(.t 0)]) none .any, .op 12 (.call true (.k (.c (.func 95 [] []))) [(.t 3), (.t 0)]) none .any, .op 5 (.move (.t 0)) none .any] [0])
def c94_n1 : SCode := .seq c94_n2 .ret
instance : IsSeq c94_n1 c94_n2 .ret := ⟨rfl⟩
def c94 : SCode := (.seq (.region [.op 5 (.move (.k (.c (.int .i64 0)))) none .any] [1, 2, 3]) c94_n1)
def F94 : SFunc := .code .pure 13 3 [some 5] [.tmp 0] c94

-- cmp.Compare[int]
@[simp] def c95_n2 : SCode := (.region [.op 7 (.move (.t 0)) none .any, .op 8 (.call false (.k (.c (.func 137 [] []))) [(.t 0)]) none .any, .op 5 (.move (.t 0)) none .any] [3, 4, 0])
@[simp] def c95_n4 : SCode := (.region [.op 9 (.move (.t 1)) none .any, .op 10 (.call false (.k (.c (.func 137 [] []))) [(.t 0)]) none .any, .op 6 (.move (.t 0)) none .any] [3, 4, 5, 0])
@[simp] def c95_n6 : SCode := (.seq (.region [.op 11 (.move (.t 2)) none .any] [1, 2, 4, 0]) (.cond (.t 3) (.seq (.seq (.region [.op 12 (.move (.t 2)) none .any] [0]) (.cond (.t 0) (.seq (.region [.op 4 (.move (.k (.c (.int .i64 0)))) none .any] [0]) .ret) (.pre [] .skip))) (.seq (.region [.op 4 (.move (.k (.c (.int .i64 (-1))))) none .any] [0]) .ret)) (.pre [0, 1, 2] .skip)))
@[simp] def c95_n8 : SCode := (.seq (.region [.op 13 (.move (.t 2)) none .any] [1, 2, 0]) (.cond (.t 2) (.seq (.region [.op 4 (.move (.k (.c (.int .i64 1)))) none .any] [0]) .ret) (.pre [0, 1] .skip)))
@[simp] def c95_n10 : SCode := (.seq (.region [.op 14 (.move (.t 0)) none .any, .op 15 (.move (.t 2)) none .any, .op 16 (.bin .lss (.t 1) (.t 0)) none .any] [3, 4, 0]) (.cond (.t 2) (.seq (.region [.op 4 (.move (.k (.c (.int .i64 (-1))))) none .any] [0]) .ret) (.pre [0, 1] .skip)))
def c95_n9 : SCode := .seq c95_n10 (.seq (.seq (.region [.op 17 (.move (.t 0)) none .any, .op 18 (.move (.t 2)) none .any, .op 19 (.bin .gtr (.t 1) (.t 0)) none .any] [0]) (.cond (.t 0) (.seq (.region [.op 4 (.move (.k (.c (.int .i64 1)))) none .any] [0]) .ret) (.pre [] .skip))) (.seq (.region [.op 4 (.move (.k (.c (.int .i64 0)))) none .any] [0]) .ret))
instance : IsSeq c95_n9 c95_n10 (.seq (.seq (.region [.op 17 (.move (.t 0)) none .any, .op 18 (.move (.t 2)) none .any, .op 19 (.bin .gtr (.t 1) (.t 0)) none .any] [0]) (.cond (.t 0) (.seq (.region [.op 4 (.move (.k (.c (.int .i64 1)))) none .any] [0]) .ret) (.pre [] .skip))) (.seq (.region [.op 4 (.move (.k (.c (.int .i64 0)))) none .any] [0]) .ret)) := ⟨rfl⟩
def c95_n7 : SCode := .seq c95_n8 c95_n9
instance : IsSeq c95_n7 c95_n8 c95_n9 := ⟨rfl⟩
def c95_n5 : SCode := .seq c95_n6 c95_n7
instance : IsSeq c95_n5 c95_n6 c95_n7 := ⟨rfl⟩
def c95_n3 : SCode := .seq c95_n4 c95_n5
instance : IsSeq c95_n3 c95_n4 c95_n5 := ⟨rfl⟩
def c95_n1 : SCode := .seq c95_n2 c95_n3
instance : IsSeq c95_n1 c95_n2 c95_n3 := ⟨rfl⟩
def c95 : SCode := (.seq (.region [.op 4 (.move (.k (.c (.int .i64 0)))) none .any] [1, 2]) c95_n1)
def F95 : SFunc := .code .pure 20 2 [some 4] [.tmp 0] c95

-- crux/cruxref01.CheckDraw
@[simp] def c96_n2 : SCode := (.seq (.region [.op 5 (.move (.t 0)) none .any, .op 6 (.bin .lss (.t 0) (.k (.c (.int .i64 1)))) none .any, .op 7 (.move (.t 0)) none .any, .orN 10 0 [.op 8 (.move (.t 3)) none .any, .op 9 (.bin .gtr (.t 0) (.k (.c (.int .i64 2147483646)))) none .any] (.t 0), .op 11 (.move (.t 0)) none .any, .orN 14 0 [.op 12 (.move (.t 6)) none .any, .op 13 (.bin .lss (.t 0) (.k (.c (.int .i64 0)))) none .any] (.t 0), .op 15 (.move (.t 0)) none .any, .orN 18 0 [.op 16 (.move (.t 8)) none .any, .op 17 (.bin .gtr (.t 0) (.k (.c (.int .i64 256)))) none .any] (.t 0)] [0]) (.cond (.t 0) (.seq (.region [.op 4 (.move (.k (.c (.int .i64 3)))) none .any] [0]) .ret) (.pre [] .skip)))
def c96_n1 : SCode := .seq c96_n2 (.seq (.region [.op 4 (.move (.k (.c (.int .i64 0)))) none .any] [0]) .ret)
instance : IsSeq c96_n1 c96_n2 (.seq (.region [.op 4 (.move (.k (.c (.int .i64 0)))) none .any] [0]) .ret) := ⟨rfl⟩
def c96 : SCode := (.seq (.region [.op 4 (.move (.k (.c (.int .i64 0)))) none .any] [1, 2]) c96_n1)
def F96 : SFunc := .code .pure 19 2 [some 4] [.tmp 0] c96

-- crux/cruxref01.Draw
-- c97_l0: env [0, 1, 5, 6]
-- c97_l1: env [0, 1, 5, 7]
@[simp] def c97_n2 : SCode := (.block 1 [some 0, some 1, some 5, some 6] (.region [.op 14 (.move (.t 2)) none .any, .op 15 (.move (.t 4)) none .any, .op 16 (.buildSlice 2 none 1 [(.c (.int .i64 0))] [(0, (.t 0))]) none .any, .op 17 (.append none 8 (.t 2) (.t 0)) none .any, .op 5 (.move (.t 0)) none .any] [5, 6, 0, 8]))
def c97_n1 : SCode := .seq c97_n2 (.region [.op 12 (.move (.t 3)) none .any, .op 13 (.bin .add (.t 0) (.k (.c (.int .i64 1)))) none .any, .op 6 (.move (.t 0)) none .any] [3, 4, 5, 0])
instance : IsSeq c97_n1 c97_n2 (.region [.op 12 (.move (.t 3)) none .any, .op 13 (.bin .add (.t 0) (.k (.c (.int .i64 1)))) none .any, .op 6 (.move (.t 0)) none .any] [3, 4, 5, 0]) := ⟨rfl⟩
def c97_l0b : SCode := (.seq (.seq (.region [.op 9 (.move (.t 3)) none .any, .op 10 (.move (.t 2)) none .any, .op 11 (.bin .lss (.t 1) (.t 0)) none .any] [3, 4, 5, 6, 0]) (.cond (.t 4) (.pre [0, 1, 2, 3] .skip) (.pre [0, 1, 2] (.exit 0)))) c97_n1)
def c97_l0 : SCode := .loop true c97_l0b
@[simp] def c97_n5 : SCode := (.region [.op 24 (.move (.t 0)) none .any, .op 25 (.bin .mul (.k (.c (.int .i64 48271))) (.t 0)) none .any, .op 26 (.bin .rem (.t 0) (.k (.c (.int .i64 2147483647)))) none .any, .op 0 (.move (.t 0)) none .any] [0, 5, 6, 7])
@[simp] def c97_n7 : SCode := (.region [.op 27 (.move (.t 3)) none .any, .op 28 (.move (.t 1)) none .any, .op 29 (.move (.t 3)) none .any, .op 30 (.move (.t 6)) none .any, .op 31 (.bin .sub (.t 1) (.t 0)) none .any, .op 32 (.bin .rem (.t 3) (.t 0)) none .any, .op 33 (.bin .add (.t 5) (.t 0)) none .any, .op 8 (.move (.t 0)) none .any] [8, 9, 10, 11, 0])
@[simp] def c97_n8 : SCode := (.draw 0 [.op 34 (.move (.t 2)) none .any, .op 35 (.move (.t 4)) none .any, .op 36 (.move (.t 4)) none .any, .op 37 (.move (.t 7)) none .any, .op 38 (.move (.t 6)) none .any, .op 39 (.move (.t 9)) none .any, .op 40 (.idxSlice 1 (.t 1) (.t 0)) none .any, .op 41 (.load none (.t 0)) none .old, .op 42 (.move (.t 10)) none .any, .op 43 (.move (.t 12)) none .any, .op 44 (.idxSlice 1 (.t 1) (.t 0)) none .any, .op 45 (.load none (.t 0)) none .old, .op 46 (.idxSlice 1 (.t 11) (.t 10)) none .any, .eff (.store 1 (.t 0) (.t 5)) none .old, .op 47 (.idxSlice 1 (.t 10) (.t 9)) none .any, .eff (.store 1 (.t 0) (.t 2)) none .old] [14, 15, 16, 17])
def c97_n6 : SCode := .seq c97_n7 c97_n8
instance : IsSeq c97_n6 c97_n7 c97_n8 := ⟨rfl⟩
def c97_n4 : SCode := .seq c97_n5 c97_n6
instance : IsSeq c97_n4 c97_n5 c97_n6 := ⟨rfl⟩
def c97_n3 : SCode := .seq (.block 3 [some 0, some 1, some 5, some 7] c97_n4) (.region [.op 22 (.move (.t 3)) none .any, .op 23 (.bin .add (.t 0) (.k (.c (.int .i64 1)))) none .any, .op 7 (.move (.t 0)) none .any] [3, 4, 5, 0])
instance : IsSeq c97_n3 (.block 3 [some 0, some 1, some 5, some 7] c97_n4) (.region [.op 22 (.move (.t 3)) none .any, .op 23 (.bin .add (.t 0) (.k (.c (.int .i64 1)))) none .any, .op 7 (.move (.t 0)) none .any] [3, 4, 5, 0]) := ⟨rfl⟩
def c97_l1b : SCode := (.seq (.seq (.region [.op 18 (.move (.t 3)) none .any, .op 19 (.bin .add (.t 0) (.k (.c (.int .i64 1)))) none .any, .op 20 (.move (.t 3)) none .any, .op 21 (.bin .lss (.t 1) (.t 0)) none .any] [4, 5, 6, 7, 0]) (.cond (.t 4) (.pre [0, 1, 2, 3] .skip) (.pre [2] (.exit 2)))) c97_n3)
def c97_l1 : SCode := .loop true c97_l1b
def c97_n9 : SCode := .seq (.region [.op 5 (.mkNil none) none .any] [1, 2, 0]) (.seq (.seq (.region [.op 6 (.move (.k (.c (.int .i64 0)))) none .any] [1, 2, 3, 0]) (.block 0 [some 0, some 1, some 5] c97_l0)) (.seq (.seq (.region [.op 7 (.move (.k (.c (.int .i64 0)))) none .any] [1, 2, 3, 0]) (.block 2 [some 5] c97_l1)) (.seq (.region [.op 48 (.move (.t 0)) none .any, .op 4 (.move (.t 0)) none .any] [0]) .ret)))
instance : IsSeq c97_n9 (.region [.op 5 (.mkNil none) none .any] [1, 2, 0]) (.seq (.seq (.region [.op 6 (.move (.k (.c (.int .i64 0)))) none .any] [1, 2, 3, 0]) (.block 0 [some 0, some 1, some 5] c97_l0)) (.seq (.seq (.region [.op 7 (.move (.k (.c (.int .i64 0)))) none .any] [1, 2, 3, 0]) (.block 2 [some 5] c97_l1)) (.seq (.region [.op 48 (.move (.t 0)) none .any, .op 4 (.move (.t 0)) none .any] [0]) .ret))) := ⟨rfl⟩
def c97 : SCode := (.seq (.region [.op 4 (.mkNil none) none .any] [1, 2]) c97_n9)
def F97 : SFunc := .code .pure 49 2 [some 4] [.tmp 0] c97

-- crux/cruxref09.last
-- c98_l0: env [0, 1, 2, 3, 9, 10]
@[simp] def c98_n3 : SCode := (.region [.op 17 (.move (.t 0)) none .any, .op 18 (.move (.t 6)) none .any, .op 19 (.idxSlice 2 (.t 1) (.t 0)) none .any, .op 20 (.fieldAddr 0 (.t 0)) none .any, .op 21 (.load none (.t 0)) none .any, .op 22 (.move (.t 6)) none .any, .op 23 (.bin .eql (.t 1) (.t 0)) none .any, .op 24 (.move (.t 0)) none .any, .andN 32 0 [.op 25 (.move (.t 8)) none .any, .op 26 (.move (.t 14)) none .any, .op 27 (.idxSlice 2 (.t 1) (.t 0)) none .any, .op 28 (.fieldAddr 1 (.t 0)) none .any, .op 29 (.load none (.t 0)) none .any, .op 30 (.move (.t 15)) none .any, .op 31 (.bin .geq (.t 1) (.t 0)) none .any] (.t 0), .op 33 (.move (.t 0)) none .any, .andN 41 0 [.op 34 (.move (.t 10)) none .any, .op 35 (.move (.t 16)) none .any, .op 36 (.idxSlice 2 (.t 1) (.t 0)) none .any, .op 37 (.fieldAddr 1 (.t 0)) none .any, .op 38 (.load none (.t 0)) none .any, .op 39 (.move (.t 18)) none .any, .op 40 (.bin .leq (.t 1) (.t 0)) none .any] (.t 0)] [11, 12, 13, 14, 15, 16, 0])
def c98_n4 : SCode := .cond (.t 6) (.region [.op 42 (.move (.t 4)) none .any, .op 43 (.move (.t 1)) none .any, .op 44 (.move (.t 7)) none .any, .op 45 (.idxSlice 2 (.t 1) (.t 0)) none .any, .op 46 (.fieldAddr 1 (.t 0)) none .any, .op 47 (.load none (.t 0)) none .any, .op 48 (.max (.t 5) [(.t 0)]) none .any, .op 9 (.move (.t 0)) none .any] [8, 9, 10, 11, 0, 13]) (.pre [0, 1, 2, 3, 4, 5] .skip)
instance : IsCond c98_n4 (.t 6) (.region [.op 42 (.move (.t 4)) none .any, .op 43 (.move (.t 1)) none .any, .op 44 (.move (.t 7)) none .any, .op 45 (.idxSlice 2 (.t 1) (.t 0)) none .any, .op 46 (.fieldAddr 1 (.t 0)) none .any, .op 47 (.load none (.t 0)) none .any, .op 48 (.max (.t 5) [(.t 0)]) none .any, .op 9 (.move (.t 0)) none .any] [8, 9, 10, 11, 0, 13]) (.pre [0, 1, 2, 3, 4, 5] .skip) := ⟨rfl⟩
def c98_n2 : SCode := .seq c98_n3 c98_n4
instance : IsSeq c98_n2 c98_n3 c98_n4 := ⟨rfl⟩
def c98_n1 : SCode := .seq (.block 1 [some 0, some 1, some 2, some 3, some 9, some 10] c98_n2) (.region [.op 15 (.move (.t 5)) none .any, .op 16 (.bin .add (.t 0) (.k (.c (.int .i64 1)))) none .any, .op 10 (.move (.t 0)) none .any] [3, 4, 5, 6, 7, 0])
instance : IsSeq c98_n1 (.block 1 [some 0, some 1, some 2, some 3, some 9, some 10] c98_n2) (.region [.op 15 (.move (.t 5)) none .any, .op 16 (.bin .add (.t 0) (.k (.c (.int .i64 1)))) none .any, .op 10 (.move (.t 0)) none .any] [3, 4, 5, 6, 7, 0]) := ⟨rfl⟩
def c98_l0b : SCode := (.seq (.seq (.region [.op 11 (.move (.t 5)) none .any, .op 12 (.move (.t 1)) none .any, .op 13 (.len 1 (.t 0)) none .any, .op 14 (.bin .lss (.t 2) (.t 0)) none .any] [4, 5, 6, 7, 8, 9, 0]) (.cond (.t 6) (.pre [0, 1, 2, 3, 4, 5] .skip) (.pre [4] (.exit 0)))) c98_n1)
def c98_l0 : SCode := .loop true c98_l0b
def c98 : SCode := (.seq (.region [.op 8 (.move (.k (.c (.int .i64 0)))) none .any] [1, 2, 3, 4]) (.seq (.region [.op 9 (.move (.k (.c (.int .i64 (-1))))) none .any] [1, 2, 3, 4, 0]) (.seq (.seq (.region [.op 10 (.move (.k (.c (.int .i64 0)))) none .any] [1, 2, 3, 4, 5, 0]) (.block 0 [some 9] c98_l0)) (.seq (.region [.op 49 (.move (.t 0)) none .any, .op 8 (.move (.t 0)) none .any] [0]) .ret))))
def F98 : SFunc := .code .pure 50 4 [some 8] [.tmp 0] c98

-- crux/member.each[crux/member.Official]
-- c99_l0: env [0, 2, 14, 15, 16]
@[simp] def c99_n4 : SCode := (.region [.op 18 (.move (.t 4)) none .any, .op 19 (.idxSlice 4 (.t 3) (.t 5)) none .any, .op 20 (.load (some 4) (.t 0)) none .any, .op 8 (.new [(.c (.str [])), (.c (.str [])), .nil, (.c (.int .i64 0))]) none .any, .op 7 (.move (.t 3)) none .any, .eff (.store 4 (.t 1) (.t 2)) none .any] [5, 6, 0, 1, 7, 8, 9])
@[simp] def c99_n6 : SCode := (.draw 0 [.op 21 (.move (.t 1)) none .any, .op 22 (.load (some 4) (.t 4)) none .var, .op 23 (.move (.t 2)) none .any, .op 24 (.move (.t 5)) none .any, .op 25 (.sliceSl 4 (.t 1) none (some (.t 0)) none) none .any, .op 26 (.call false (.t 4) [(.t 3), (.t 0)]) none .any, .op 9 (.move (.t 0)) none .any] [7, 8, 0, 11, 12, 13])
def c99_n5 : SCode := .seq c99_n6 (.seq (.region [.op 27 (.move (.t 2)) none .any, .op 28 (.bin .neq (.t 0) (.k (.c (.int .i64 0)))) none .any] [2, 3, 4, 5, 6, 7, 0]) (.cond (.t 6) (.seq (.region [.op 29 (.move (.t 2)) none .any, .op 6 (.move (.t 0)) none .any] [0]) .ret) (.pre [0, 1, 3, 4, 5] .skip)))
instance : IsSeq c99_n5 c99_n6 (.seq (.region [.op 27 (.move (.t 2)) none .any, .op 28 (.bin .neq (.t 0) (.k (.c (.int .i64 0)))) none .any] [2, 3, 4, 5, 6, 7, 0]) (.cond (.t 6) (.seq (.region [.op 29 (.move (.t 2)) none .any, .op 6 (.move (.t 0)) none .any] [0]) .ret) (.pre [0, 1, 3, 4, 5] .skip))) := ⟨rfl⟩
def c99_n3 : SCode := .seq c99_n4 c99_n5
instance : IsSeq c99_n3 c99_n4 c99_n5 := ⟨rfl⟩
def c99_n2 : SCode := .seq (.block 1 [some 0, some 2, some 14, some 15, some 16] c99_n3) (.region [.op 30 (.bin .add (.t 4) (.k (.c (.int .i64 1)))) none .any, .op 16 (.move (.t 0)) none .any] [2, 3, 4, 5, 0])
instance : IsSeq c99_n2 (.block 1 [some 0, some 2, some 14, some 15, some 16] c99_n3) (.region [.op 30 (.bin .add (.t 4) (.k (.c (.int .i64 1)))) none .any, .op 16 (.move (.t 0)) none .any] [2, 3, 4, 5, 0]) := ⟨rfl⟩
def c99_n1 : SCode := .seq (.cond (.t 5) (.pre [0, 1, 2, 3, 4] .skip) (.pre [] (.exit 0))) c99_n2
instance : IsSeq c99_n1 (.cond (.t 5) (.pre [0, 1, 2, 3, 4] .skip) (.pre [] (.exit 0))) c99_n2 := ⟨rfl⟩
def c99_l0b : SCode := (.seq (.region [.op 17 (.bin .lss (.t 4) (.t 3)) none .any] [1, 2, 3, 4, 5, 0]) c99_n1)
def c99_l0 : SCode := .loop true c99_l0b
@[simp] def c99_n8 : SCode := (.seq (.region [.op 10 (.move (.t 0)) none .any, .op 11 (.len 1 (.t 0)) none .any, .op 12 (.move (.t 3)) none .any, .op 13 (.bin .gtr (.t 1) (.t 0)) none .any] [4, 6, 0]) (.cond (.t 2) (.seq (.region [.op 6 (.move (.k (.c (.int .i64 5)))) none .any] [0]) .ret) (.pre [0, 1] .skip)))
def c99_n7 : SCode := .seq c99_n8 (.seq (.seq (.region [.op 14 (.move (.t 0)) none .any, .op 15 (.len 1 (.t 0)) none .any, .op 16 (.move (.k (.c (.int .i64 0)))) none .any] [3, 4, 2, 1, 0]) (.block 0 [] c99_l0)) (.seq (.region [.op 6 (.move (.k (.c (.int .i64 0)))) none .any] [0]) .ret))
instance : IsSeq c99_n7 c99_n8 (.seq (.seq (.region [.op 14 (.move (.t 0)) none .any, .op 15 (.len 1 (.t 0)) none .any, .op 16 (.move (.k (.c (.int .i64 0)))) none .any] [3, 4, 2, 1, 0]) (.block 0 [] c99_l0)) (.seq (.region [.op 6 (.move (.k (.c (.int .i64 0)))) none .any] [0]) .ret)) := ⟨rfl⟩
def c99 : SCode := (.seq (.region [.op 6 (.move (.k (.c (.int .i64 0)))) none .any] [1, 2, 3]) c99_n7)
def F99 : SFunc := .code .pure 31 3 [some 6] [.tmp 0] c99

-- crux/member.CheckJury$1
@[simp] def c100_n2 : SCode := (.region [.op 6 (.move (.t 0)) none .any, .op 7 (.mkFunc 102 [] [(.t 2)]) none .any, .op 8 (.call false (.k (.c (.func 101 [] []))) [(.t 1), (.t 0)]) none .any, .op 5 (.move (.t 0)) none .any] [5, 0])
@[simp] def c100_n4 : SCode := (.draw 1 [.op 9 (.fieldAddr 0 (.t 0)) none .any, .op 10 (.load none (.t 0)) none .var, .op 11 (.call false (.k (.c (.func 80 [] []))) [(.t 0)]) none .any, .op 12 (.fieldAddr 1 (.t 3)) none .any, .op 13 (.load none (.t 0)) none .var, .op 14 (.call false (.k (.c (.func 80 [] []))) [(.t 0)]) none .any, .op 15 (.move (.t 7)) none .any, .op 16 (.call false (.k (.c (.func 82 [] []))) [(.t 0), (.k (.c (.int .i64 9)))]) none .any, .op 17 (.fieldAddr 2 (.t 8)) none .any, .op 18 (.load none (.t 0)) none .var, .op 19 (.call false (.k (.c (.func 103 [] []))) [(.t 0), (.k (.c (.int .i64 16))), (.k (.c (.func 104 [] [])))]) none .any, .op 20 (.fieldAddr 3 (.t 11)) none .any, .op 21 (.load none (.t 0)) none .var, .op 22 (.call false (.k (.c (.func 105 [] []))) [(.t 0), (.k (.c (.int .i64 0))), (.k (.c (.int .i64 24)))]) none .any, .op 23 (.call false (.k (.c (.func 82 [] []))) [(.t 0), (.k (.c (.int .i64 3)))]) none .any, .op 24 (.buildSlice 2 none 5 [(.c (.int .i64 0))] [(0, (.t 12)), (1, (.t 9)), (2, (.t 7)), (3, (.t 4)), (4, (.t 0))]) (some 0) .any, .op 25 (.call false (.k (.c (.func 79 [] []))) [(.t 0)]) none .any, .op 4 (.move (.t 0)) none .any] [0])
def c100_n3 : SCode := .seq c100_n4 .ret
instance : IsSeq c100_n3 c100_n4 .ret := ⟨rfl⟩
def c100_n1 : SCode := .seq c100_n2 c100_n3
instance : IsSeq c100_n1 c100_n2 c100_n3 := ⟨rfl⟩
def c100 : SCode := (.seq (.region [.op 2 (.box (.t 0)) none .any, .op 4 (.move (.k (.c (.int .i64 0)))) none .any] [3, 1]) c100_n1)
def F100 : SFunc := .code .pure 26 2 [some 4] [.tmp 0] c100

-- slices.ContainsFunc[[]crux/member.Official,crux/member.Official]
def c101 : SCode := (.seq (.region [.op 4 (.move (.k (.c (.bool false)))) none .any] [1, 2]) (.seq (.region [.op 5 (.move (.t 0)) none .any, .op 6 (.move (.t 2)) none .any, .op 7 (.call false (.k (.c (.func 138 [] []))) [(.t 1), (.t 0)]) none .any, .op 8 (.bin .geq (.t 0) (.k (.c (.int .i64 0)))) none .any, .op 4 (.move (.t 0)) none .any] [0]) .ret))
def F101 : SFunc := .code .pure 9 2 [some 4] [.tmp 0] c101

-- crux/member.CheckJury$1$1
def c102 : SCode := (.seq (.region [.op 2 (.box (.t 0)) none .any, .op 3 (.move (.k (.c (.bool false)))) none .any] [3, 1]) (.seq (.region [.op 4 (.fieldAddr 0 (.t 1)) none .any, .op 5 (.load none (.t 0)) none .any, .op 6 (.fieldAddr 0 (.t 2)) none .any, .op 7 (.load none (.t 0)) none .any, .op 8 (.bin .eql (.t 2) (.t 0)) none .any, .op 3 (.move (.t 0)) none .any] [0]) .ret))
def F102 : SFunc := .code .pure 9 2 [some 3] [.tmp 0] c102

-- crux/member.each[string]
-- c103_l0: env [0, 2, 14, 15, 16]
@[simp] def c103_n4 : SCode := (.region [.op 18 (.move (.t 4)) none .any, .op 19 (.idxSlice 1 (.t 3) (.t 5)) none .any, .op 20 (.load none (.t 0)) none .any, .op 7 (.move (.t 2)) none .any, .op 8 (.move (.t 1)) none .any] [5, 6, 1, 0, 7, 8, 9])
@[simp] def c103_n6 : SCode := (.region [.op 21 (.move (.t 1)) none .any, .op 22 (.move (.t 4)) none .any, .op 23 (.move (.t 2)) none .any, .op 24 (.move (.t 5)) none .any, .op 25 (.sliceSl 1 (.t 1) none (some (.t 0)) none) none .any, .op 26 (.call false (.t 4) [(.t 3), (.t 0)]) none .any, .op 9 (.move (.t 0)) none .any] [7, 8, 0, 11, 12, 13])
def c103_n5 : SCode := .seq c103_n6 (.seq (.region [.op 27 (.move (.t 2)) none .any, .op 28 (.bin .neq (.t 0) (.k (.c (.int .i64 0)))) none .any] [2, 3, 4, 5, 6, 7, 0]) (.cond (.t 6) (.seq (.region [.op 29 (.move (.t 2)) none .any, .op 6 (.move (.t 0)) none .any] [0]) .ret) (.pre [0, 1, 3, 4, 5] .skip)))
instance : IsSeq c103_n5 c103_n6 (.seq (.region [.op 27 (.move (.t 2)) none .any, .op 28 (.bin .neq (.t 0) (.k (.c (.int .i64 0)))) none .any] [2, 3, 4, 5, 6, 7, 0]) (.cond (.t 6) (.seq (.region [.op 29 (.move (.t 2)) none .any, .op 6 (.move (.t 0)) none .any] [0]) .ret) (.pre [0, 1, 3, 4, 5] .skip))) := ⟨rfl⟩
def c103_n3 : SCode := .seq c103_n4 c103_n5
instance : IsSeq c103_n3 c103_n4 c103_n5 := ⟨rfl⟩
def c103_n2 : SCode := .seq (.block 1 [some 0, some 2, some 14, some 15, some 16] c103_n3) (.region [.op 30 (.bin .add (.t 4) (.k (.c (.int .i64 1)))) none .any, .op 16 (.move (.t 0)) none .any] [2, 3, 4, 5, 0])
instance : IsSeq c103_n2 (.block 1 [some 0, some 2, some 14, some 15, some 16] c103_n3) (.region [.op 30 (.bin .add (.t 4) (.k (.c (.int .i64 1)))) none .any, .op 16 (.move (.t 0)) none .any] [2, 3, 4, 5, 0]) := ⟨rfl⟩
def c103_n1 : SCode := .seq (.cond (.t 5) (.pre [0, 1, 2, 3, 4] .skip) (.pre [] (.exit 0))) c103_n2
instance : IsSeq c103_n1 (.cond (.t 5) (.pre [0, 1, 2, 3, 4] .skip) (.pre [] (.exit 0))) c103_n2 := ⟨rfl⟩
def c103_l0b : SCode := (.seq (.region [.op 17 (.bin .lss (.t 4) (.t 3)) none .any] [1, 2, 3, 4, 5, 0]) c103_n1)
def c103_l0 : SCode := .loop true c103_l0b
@[simp] def c103_n8 : SCode := (.seq (.region [.op 10 (.move (.t 0)) none .any, .op 11 (.len 1 (.t 0)) none .any, .op 12 (.move (.t 3)) none .any, .op 13 (.bin .gtr (.t 1) (.t 0)) none .any] [4, 6, 0]) (.cond (.t 2) (.seq (.region [.op 6 (.move (.k (.c (.int .i64 5)))) none .any] [0]) .ret) (.pre [0, 1] .skip)))
def c103_n7 : SCode := .seq c103_n8 (.seq (.seq (.region [.op 14 (.move (.t 0)) none .any, .op 15 (.len 1 (.t 0)) none .any, .op 16 (.move (.k (.c (.int .i64 0)))) none .any] [3, 4, 2, 1, 0]) (.block 0 [] c103_l0)) (.seq (.region [.op 6 (.move (.k (.c (.int .i64 0)))) none .any] [0]) .ret))
instance : IsSeq c103_n7 c103_n8 (.seq (.seq (.region [.op 14 (.move (.t 0)) none .any, .op 15 (.len 1 (.t 0)) none .any, .op 16 (.move (.k (.c (.int .i64 0)))) none .any] [3, 4, 2, 1, 0]) (.block 0 [] c103_l0)) (.seq (.region [.op 6 (.move (.k (.c (.int .i64 0)))) none .any] [0]) .ret)) := ⟨rfl⟩
def c103 : SCode := (.seq (.region [.op 6 (.move (.k (.c (.int .i64 0)))) none .any] [1, 2, 3]) c103_n7)
def F103 : SFunc := .code .pure 31 3 [some 6] [.tmp 0] c103

-- crux/member.once
@[simp] def c104_n2 : SCode := (.region [.op 5 (.move (.t 0)) none .any, .op 6 (.call false (.k (.c (.func 80 [] []))) [(.t 0)]) none .any, .op 7 (.move (.t 3)) none .any, .op 8 (.move (.t 3)) none .any, .op 9 (.call false (.k (.c (.func 139 [] []))) [(.t 1), (.t 0)]) none .any, .op 10 (.call false (.k (.c (.func 82 [] []))) [(.t 0), (.k (.c (.int .i64 9)))]) none .any, .op 11 (.buildSlice 2 none 2 [(.c (.int .i64 0))] [(0, (.t 4)), (1, (.t 0))]) none .any, .op 12 (.call false (.k (.c (.func 79 [] []))) [(.t 0)]) none .any, .op 4 (.move (.t 0)) none .any] [0])
def c104_n1 : SCode := .seq c104_n2 .ret
instance : IsSeq c104_n1 c104_n2 .ret := ⟨rfl⟩
def c104 : SCode := (.seq (.region [.op 4 (.move (.k (.c (.int .i64 0)))) none .any] [1, 2]) c104_n1)
def F104 : SFunc := .code .pure 13 2 [some 4] [.tmp 0] c104

-- crux/member.outside
def c105 : SCode := (.seq (.region [.op 6 (.move (.k (.c (.bool false)))) none .any] [1, 2, 3]) (.seq (.region [.op 7 (.move (.t 0)) none .any, .op 8 (.move (.t 2)) none .any, .op 9 (.bin .lss (.t 1) (.t 0)) none .any, .op 10 (.move (.t 0)) none .any, .orN 14 0 [.op 11 (.move (.t 4)) none .any, .op 12 (.move (.t 7)) none .any, .op 13 (.bin .gtr (.t 1) (.t 0)) none .any] (.t 0), .op 6 (.move (.t 0)) none .any] [0]) .ret))
def F105 : SFunc := .code .pure 15 3 [some 6] [.tmp 0] c105

-- crux/member.each[crux/member.Post]
-- c106_l0: env [0, 2, 14, 15, 16]
@[simp] def c106_n4 : SCode := (.region [.op 18 (.move (.t 4)) none .any, .op 19 (.idxSlice 4 (.t 3) (.t 5)) none .any, .op 20 (.load (some 4) (.t 0)) none .any, .op 8 (.new [(.c (.str [])), (.c (.str [])), (.c (.int .i64 0)), .nil]) none .any, .op 7 (.move (.t 3)) none .any, .eff (.store 4 (.t 1) (.t 2)) none .any] [5, 6, 0, 1, 7, 8, 9])
@[simp] def c106_n6 : SCode := (.draw 0 [.op 21 (.move (.t 1)) none .any, .op 22 (.load (some 4) (.t 4)) none .var, .op 23 (.move (.t 2)) none .any, .op 24 (.move (.t 5)) none .any, .op 25 (.sliceSl 4 (.t 1) none (some (.t 0)) none) none .any, .op 26 (.call false (.t 4) [(.t 3), (.t 0)]) none .any, .op 9 (.move (.t 0)) none .any] [7, 8, 0, 11, 12, 13])
def c106_n5 : SCode := .seq c106_n6 (.seq (.region [.op 27 (.move (.t 2)) none .any, .op 28 (.bin .neq (.t 0) (.k (.c (.int .i64 0)))) none .any] [2, 3, 4, 5, 6, 7, 0]) (.cond (.t 6) (.seq (.region [.op 29 (.move (.t 2)) none .any, .op 6 (.move (.t 0)) none .any] [0]) .ret) (.pre [0, 1, 3, 4, 5] .skip)))
instance : IsSeq c106_n5 c106_n6 (.seq (.region [.op 27 (.move (.t 2)) none .any, .op 28 (.bin .neq (.t 0) (.k (.c (.int .i64 0)))) none .any] [2, 3, 4, 5, 6, 7, 0]) (.cond (.t 6) (.seq (.region [.op 29 (.move (.t 2)) none .any, .op 6 (.move (.t 0)) none .any] [0]) .ret) (.pre [0, 1, 3, 4, 5] .skip))) := ⟨rfl⟩
def c106_n3 : SCode := .seq c106_n4 c106_n5
instance : IsSeq c106_n3 c106_n4 c106_n5 := ⟨rfl⟩
def c106_n2 : SCode := .seq (.block 1 [some 0, some 2, some 14, some 15, some 16] c106_n3) (.region [.op 30 (.bin .add (.t 4) (.k (.c (.int .i64 1)))) none .any, .op 16 (.move (.t 0)) none .any] [2, 3, 4, 5, 0])
instance : IsSeq c106_n2 (.block 1 [some 0, some 2, some 14, some 15, some 16] c106_n3) (.region [.op 30 (.bin .add (.t 4) (.k (.c (.int .i64 1)))) none .any, .op 16 (.move (.t 0)) none .any] [2, 3, 4, 5, 0]) := ⟨rfl⟩
def c106_n1 : SCode := .seq (.cond (.t 5) (.pre [0, 1, 2, 3, 4] .skip) (.pre [] (.exit 0))) c106_n2
instance : IsSeq c106_n1 (.cond (.t 5) (.pre [0, 1, 2, 3, 4] .skip) (.pre [] (.exit 0))) c106_n2 := ⟨rfl⟩
def c106_l0b : SCode := (.seq (.region [.op 17 (.bin .lss (.t 4) (.t 3)) none .any] [1, 2, 3, 4, 5, 0]) c106_n1)
def c106_l0 : SCode := .loop true c106_l0b
@[simp] def c106_n8 : SCode := (.seq (.region [.op 10 (.move (.t 0)) none .any, .op 11 (.len 1 (.t 0)) none .any, .op 12 (.move (.t 3)) none .any, .op 13 (.bin .gtr (.t 1) (.t 0)) none .any] [4, 6, 0]) (.cond (.t 2) (.seq (.region [.op 6 (.move (.k (.c (.int .i64 5)))) none .any] [0]) .ret) (.pre [0, 1] .skip)))
def c106_n7 : SCode := .seq c106_n8 (.seq (.seq (.region [.op 14 (.move (.t 0)) none .any, .op 15 (.len 1 (.t 0)) none .any, .op 16 (.move (.k (.c (.int .i64 0)))) none .any] [3, 4, 2, 1, 0]) (.block 0 [] c106_l0)) (.seq (.region [.op 6 (.move (.k (.c (.int .i64 0)))) none .any] [0]) .ret))
instance : IsSeq c106_n7 c106_n8 (.seq (.seq (.region [.op 14 (.move (.t 0)) none .any, .op 15 (.len 1 (.t 0)) none .any, .op 16 (.move (.k (.c (.int .i64 0)))) none .any] [3, 4, 2, 1, 0]) (.block 0 [] c106_l0)) (.seq (.region [.op 6 (.move (.k (.c (.int .i64 0)))) none .any] [0]) .ret)) := ⟨rfl⟩
def c106 : SCode := (.seq (.region [.op 6 (.move (.k (.c (.int .i64 0)))) none .any] [1, 2, 3]) c106_n7)
def F106 : SFunc := .code .pure 31 3 [some 6] [.tmp 0] c106

-- crux/member.CheckJury$2
@[simp] def c107_n2 : SCode := (.region [.op 6 (.move (.t 0)) none .any, .op 7 (.mkFunc 109 [] [(.t 2)]) none .any, .op 8 (.call false (.k (.c (.func 108 [] []))) [(.t 1), (.t 0)]) none .any, .op 5 (.move (.t 0)) none .any] [5, 0])
@[simp] def c107_n4 : SCode := (.draw 1 [.op 9 (.fieldAddr 0 (.t 0)) none .any, .op 10 (.load none (.t 0)) none .var, .op 11 (.call false (.k (.c (.func 80 [] []))) [(.t 0)]) none .any, .op 12 (.fieldAddr 1 (.t 3)) none .any, .op 13 (.load none (.t 0)) none .var, .op 14 (.call false (.k (.c (.func 80 [] []))) [(.t 0)]) none .any, .op 15 (.move (.t 7)) none .any, .op 16 (.call false (.k (.c (.func 82 [] []))) [(.t 0), (.k (.c (.int .i64 9)))]) none .any, .op 17 (.fieldAddr 2 (.t 8)) none .any, .op 18 (.load none (.t 0)) none .var, .op 19 (.call false (.k (.c (.func 81 [] []))) [(.t 0)]) none .any, .op 20 (.fieldAddr 3 (.t 11)) none .any, .op 21 (.load none (.t 0)) none .var, .op 22 (.call false (.k (.c (.func 103 [] []))) [(.t 0), (.k (.c (.int .i64 160))), (.k (.c (.func 104 [] [])))]) none .any, .op 23 (.buildSlice 2 none 5 [(.c (.int .i64 0))] [(0, (.t 11)), (1, (.t 8)), (2, (.t 6)), (3, (.t 3)), (4, (.t 0))]) (some 0) .any, .op 24 (.call false (.k (.c (.func 79 [] []))) [(.t 0)]) none .any, .op 4 (.move (.t 0)) none .any] [0])
def c107_n3 : SCode := .seq c107_n4 .ret
instance : IsSeq c107_n3 c107_n4 .ret := ⟨rfl⟩
def c107_n1 : SCode := .seq c107_n2 c107_n3
instance : IsSeq c107_n1 c107_n2 c107_n3 := ⟨rfl⟩
def c107 : SCode := (.seq (.region [.op 2 (.box (.t 0)) none .any, .op 4 (.move (.k (.c (.int .i64 0)))) none .any] [3, 1]) c107_n1)
def F107 : SFunc := .code .pure 25 2 [some 4] [.tmp 0] c107

-- slices.ContainsFunc[[]crux/member.Post,crux/member.Post]
def c108 : SCode := (.seq (.region [.op 4 (.move (.k (.c (.bool false)))) none .any] [1, 2]) (.seq (.region [.op 5 (.move (.t 0)) none .any, .op 6 (.move (.t 2)) none .any, .op 7 (.call false (.k (.c (.func 140 [] []))) [(.t 1), (.t 0)]) none .any, .op 8 (.bin .geq (.t 0) (.k (.c (.int .i64 0)))) none .any, .op 4 (.move (.t 0)) none .any] [0]) .ret))
def F108 : SFunc := .code .pure 9 2 [some 4] [.tmp 0] c108

-- crux/member.CheckJury$2$1
def c109 : SCode := (.seq (.region [.op 2 (.box (.t 0)) none .any, .op 3 (.move (.k (.c (.bool false)))) none .any] [3, 1]) (.seq (.region [.op 4 (.fieldAddr 0 (.t 1)) none .any, .op 5 (.load none (.t 0)) none .any, .op 6 (.fieldAddr 0 (.t 2)) none .any, .op 7 (.load none (.t 0)) none .any, .op 8 (.bin .eql (.t 2) (.t 0)) none .any, .op 3 (.move (.t 0)) none .any] [0]) .ret))
def F109 : SFunc := .code .pure 9 2 [some 3] [.tmp 0] c109

-- (crux/member.Jury).checkOfficial
@[simp] def c110_n2 : SCode := (.region [.op 5 (.move (.t 0)) none .any, .op 6 (.fieldAddr 0 (.t 2)) none .any, .op 7 (.load none (.t 0)) none .any, .op 8 (.len 1 (.t 0)) none .any, .op 9 (.bin .sub (.t 0) (.k (.c (.int .i64 1)))) none .any, .op 10 (.call false (.k (.c (.func 105 [] []))) [(.t 4), (.k (.c (.int .i64 0))), (.t 0)]) none .any, .op 11 (.call false (.k (.c (.func 82 [] []))) [(.t 0), (.k (.c (.int .i64 10)))]) none .any, .op 4 (.move (.t 0)) none .any] [0])
def c110_n1 : SCode := .seq c110_n2 .ret
instance : IsSeq c110_n1 c110_n2 .ret := ⟨rfl⟩
def c110 : SCode := (.seq (.region [.op 2 (.box (.t 0)) none .any, .op 4 (.move (.k (.c (.int .i64 0)))) none .any] [3, 1]) c110_n1)
def F110 : SFunc := .code .pure 12 2 [some 4] [.tmp 0] c110

-- (crux/member.Jury).serves
@[simp] def c111_n2 : SCode := (.draw 2 [.op 9 (.fieldAddr 0 (.t 2)) none .any, .op 10 (.load none (.t 0)) none .var, .op 11 (.move (.t 2)) none .any, .op 12 (.idxSlice 4 (.t 1) (.t 0)) none .any, .op 13 (.load (some 4) (.t 0)) none .old, .op 14 (.fieldAddr 1 (.t 7)) none .any, .op 15 (.load none (.t 0)) none .var, .op 16 (.move (.t 8)) none .any, .op 17 (.idxSlice 4 (.t 1) (.t 0)) none .any, .op 18 (.load (some 4) (.t 0)) none .old, .op 7 (.new [(.c (.str [])), (.c (.str [])), .nil, (.c (.int .i64 0))]) (some 0) .any, .op 8 (.new [(.c (.str [])), (.c (.str [])), (.c (.int .i64 0)), .nil]) (some 1) .any, .eff (.store 4 (.t 1) (.t 7)) none .new, .eff (.store 4 (.t 0) (.t 2)) none .new] [1, 0])
@[simp] def c111_n4 : SCode := (.region [.op 19 (.fieldAddr 2 (.t 0)) none .any, .op 20 (.load none (.t 0)) none .any, .op 21 (.fieldAddr 1 (.t 3)) none .any, .op 22 (.load none (.t 0)) none .any, .op 23 (.call false (.k (.c (.func 139 [] []))) [(.t 2), (.t 0)]) none .any, .op 24 (.move (.t 0)) none .any, .andN 31 0 [.op 25 (.fieldAddr 3 (.t 7)) none .any, .op 26 (.load none (.t 0)) none .any, .op 27 (.fieldAddr 1 (.t 8)) none .any, .op 28 (.load none (.t 0)) none .any, .op 29 (.call false (.k (.c (.func 139 [] []))) [(.t 2), (.t 0)]) none .any, .op 30 (.not (.t 0)) none .any] (.t 0), .op 6 (.move (.t 0)) none .any] [0])
def c111_n3 : SCode := .seq c111_n4 .ret
instance : IsSeq c111_n3 c111_n4 .ret := ⟨rfl⟩
def c111_n1 : SCode := .seq c111_n2 c111_n3
instance : IsSeq c111_n1 c111_n2 c111_n3 := ⟨rfl⟩
def c111 : SCode := (.seq (.region [.op 3 (.box (.t 0)) none .any, .op 6 (.move (.k (.c (.bool false)))) none .any] [3, 4, 1]) c111_n1)
def F111 : SFunc := .code .pure 32 3 [some 6] [.tmp 0] c111

-- (crux/member.Jury).lead
-- c113_l0: env [2, 3, 4, 10, 11, 12, 18, 19, 29, 30]
-- c113_l1: env [2, 3, 4, 10, 18, 19]
@[simp] def c113_n2 : SCode := (.cond (.t 10) (.pre [0, 1, 2, 3, 4, 5, 6, 7, 8, 9] .skip) (.pre [0, 1, 2, 3, 5, 6, 7] (.exit 2)))
@[simp] def c113_n5 : SCode := (.region [.op 32 (.move (.t 9)) none .any, .op 13 (.move (.t 0)) none .any] [2, 3, 4, 5, 6, 7, 0, 8, 9, 10, 11])
@[simp] def c113_n7 : SCode := (.seq (.region [.op 33 (.move (.t 6)) none .any, .op 34 (.move (.t 2)) none .any, .op 35 (.bin .eql (.t 1) (.t 0)) none .any, .op 36 (.move (.t 0)) none .any, .orN 42 0 [.op 37 (.load (some 2) (.t 6)) none .any, .op 38 (.move (.t 11)) none .any, .op 39 (.move (.t 10)) none .any, .op 40 (.call false (.k (.c (.func 111 [] []))) [(.t 2), (.t 1), (.t 0)]) none .any, .op 41 (.not (.t 0)) none .any] (.t 0)] [5, 6, 7, 8, 9, 10, 11, 12, 13, 14, 15, 0]) (.cond (.t 11) (.pre [0, 1, 2, 3, 4, 5, 7, 8, 9, 10] (.exit 3)) (.pre [0, 1, 2, 3, 4, 5, 6, 7, 8, 9, 10] .skip)))
@[simp] def c113_n9 : SCode := (.region [.op 43 (.move (.t 3)) none .any, .op 44 (.move (.t 5)) none .any, .op 45 (.move (.t 8)) none .any, .op 46 (.idxSlice 1 (.t 2) (.t 1)) none .any, .eff (.store 1 (.t 0) (.t 1)) none .any] [4, 5, 6, 7, 8, 9, 11, 12, 13, 14])
@[simp] def c113_n11 : SCode := (.region [.op 47 (.move (.t 0)) none .any, .op 48 (.move (.t 5)) none .any, .op 49 (.bin .shl (.k (.c (.int .u64 1))) (.t 0)) none .any, .op 50 (.bin .andNot (.t 2) (.t 0)) none .any, .op 2 (.move (.t 0)) none .any] [0, 6, 7, 8, 9, 10, 11, 12, 13, 14])
@[simp] def c113_n13 : SCode := (.seq (.region [.op 51 (.load (some 2) (.t 2)) none .any, .op 52 (.move (.t 4)) none .any, .op 53 (.move (.t 2)) none .any, .op 54 (.move (.t 4)) none .any, .op 55 (.call false (.k (.c (.func 142 [] []))) [(.t 3), (.t 2), (.t 1), (.t 0)]) none .any] [5, 6, 7, 8, 9, 10, 11, 12, 13, 14, 0]) (.cond (.t 10) (.seq (.region [.op 12 (.move (.k (.c (.bool true)))) none .any] [1, 2, 3, 4, 0, 7, 8]) (.exit 2)) (.pre [0, 1, 2, 3, 4, 5, 6, 7, 8, 9] .skip)))
def c113_n12 : SCode := .seq c113_n13 (.region [.op 56 (.move (.t 0)) none .any, .op 57 (.move (.t 5)) none .any, .op 58 (.bin .shl (.k (.c (.int .u64 1))) (.t 0)) none .any, .op 59 (.bin .or (.t 2) (.t 0)) none .any, .op 2 (.move (.t 0)) none .any] [0, 6, 7, 8, 9, 10, 11, 12, 13, 14])
instance : IsSeq c113_n12 c113_n13 (.region [.op 56 (.move (.t 0)) none .any, .op 57 (.move (.t 5)) none .any, .op 58 (.bin .shl (.k (.c (.int .u64 1))) (.t 0)) none .any, .op 59 (.bin .or (.t 2) (.t 0)) none .any, .op 2 (.move (.t 0)) none .any] [0, 6, 7, 8, 9, 10, 11, 12, 13, 14]) := ⟨rfl⟩
def c113_n10 : SCode := .seq c113_n11 c113_n12
instance : IsSeq c113_n10 c113_n11 c113_n12 := ⟨rfl⟩
def c113_n8 : SCode := .seq c113_n9 c113_n10
instance : IsSeq c113_n8 c113_n9 c113_n10 := ⟨rfl⟩
def c113_n6 : SCode := .seq c113_n7 c113_n8
instance : IsSeq c113_n6 c113_n7 c113_n8 := ⟨rfl⟩
def c113_n4 : SCode := .seq c113_n5 c113_n6
instance : IsSeq c113_n4 c113_n5 c113_n6 := ⟨rfl⟩
@[simp] def c113_n14 : SCode := (.block 3 [some 2, some 3, some 4, some 10, some 11, some 12, some 18, some 19, some 29, some 30] c113_n4)
def c113_n3 : SCode := .seq c113_n14 (.region [.op 60 (.bin .add (.t 9) (.k (.c (.int .i64 1)))) none .any, .op 30 (.move (.t 0)) none .any] [2, 3, 4, 5, 6, 7, 8, 9, 10, 0])
instance : IsSeq c113_n3 c113_n14 (.region [.op 60 (.bin .add (.t 9) (.k (.c (.int .i64 1)))) none .any, .op 30 (.move (.t 0)) none .any] [2, 3, 4, 5, 6, 7, 8, 9, 10, 0]) := ⟨rfl⟩
def c113_n1 : SCode := .seq c113_n2 c113_n3
instance : IsSeq c113_n1 c113_n2 c113_n3 := ⟨rfl⟩
def c113_l0b : SCode := (.seq (.region [.op 31 (.bin .lss (.t 9) (.t 8)) none .any] [1, 2, 3, 4, 5, 6, 7, 8, 9, 10, 0]) c113_n1)
def c113_l0 : SCode := .loop true c113_l0b
@[simp] def c113_n18 : SCode := (.region [.op 21 (.move (.t 5)) none .any, .op 11 (.move (.t 0)) none .any] [2, 3, 4, 5, 0, 6, 7])
@[simp] def c113_n20 : SCode := (.seq (.region [.op 22 (.move (.t 0)) none .any, .op 23 (.move (.t 5)) none .any, .op 24 (.bin .shr (.t 1) (.t 0)) none .any, .op 25 (.bin .and (.t 0) (.k (.c (.int .u64 1)))) none .any, .op 26 (.bin .eql (.t 0) (.k (.c (.int .u64 0)))) none .any] [5, 6, 7, 8, 9, 10, 11, 0]) (.cond (.t 7) (.pre [0, 1, 2, 3, 5, 6] (.exit 1)) (.pre [0, 1, 2, 3, 4, 5, 6] .skip)))
@[simp] def c113_n22 : SCode := (.region [.op 12 (.move (.k (.c (.bool false)))) none .any] [1, 2, 3, 4, 5, 0, 6, 7])
@[simp] def c113_n24 : SCode := (.seq (.region [.op 27 (.fieldAddr 0 (.t 2)) none .any, .op 28 (.load none (.t 0)) none .any, .op 29 (.len 1 (.t 0)) none .any, .op 30 (.move (.k (.c (.int .i64 0)))) none .any] [4, 5, 6, 7, 8, 9, 10, 11, 1, 0]) (.block 2 [some 2, some 3, some 4, some 10, some 12, some 18, some 19] c113_l0))
def c113_n23 : SCode := .seq c113_n24 (.seq (.region [.op 61 (.move (.t 4)) none .any, .op 62 (.not (.t 0)) none .any] [2, 3, 4, 5, 7, 8, 0]) (.cond (.t 6) (.seq (.region [.op 8 (.mkNil none) none .any, .op 9 (.move (.k (.c (.bool false)))) none .any] [1, 0]) .ret) (.pre [0, 1, 2, 3, 4, 5] .skip)))
instance : IsSeq c113_n23 c113_n24 (.seq (.region [.op 61 (.move (.t 4)) none .any, .op 62 (.not (.t 0)) none .any] [2, 3, 4, 5, 7, 8, 0]) (.cond (.t 6) (.seq (.region [.op 8 (.mkNil none) none .any, .op 9 (.move (.k (.c (.bool false)))) none .any] [1, 0]) .ret) (.pre [0, 1, 2, 3, 4, 5] .skip))) := ⟨rfl⟩
def c113_n21 : SCode := .seq c113_n22 c113_n23
instance : IsSeq c113_n21 c113_n22 c113_n23 := ⟨rfl⟩
def c113_n19 : SCode := .seq c113_n20 c113_n21
instance : IsSeq c113_n19 c113_n20 c113_n21 := ⟨rfl⟩
def c113_n17 : SCode := .seq c113_n18 c113_n19
instance : IsSeq c113_n17 c113_n18 c113_n19 := ⟨rfl⟩
def c113_n16 : SCode := .seq (.block 1 [some 2, some 3, some 4, some 10, some 18, some 19] c113_n17) (.region [.op 63 (.bin .add (.t 5) (.k (.c (.int .i64 1)))) none .any, .op 19 (.move (.t 0)) none .any] [2, 3, 4, 5, 6, 0])
instance : IsSeq c113_n16 (.block 1 [some 2, some 3, some 4, some 10, some 18, some 19] c113_n17) (.region [.op 63 (.bin .add (.t 5) (.k (.c (.int .i64 1)))) none .any, .op 19 (.move (.t 0)) none .any] [2, 3, 4, 5, 6, 0]) := ⟨rfl⟩
def c113_n15 : SCode := .seq (.cond (.t 6) (.pre [0, 1, 2, 3, 4, 5] .skip) (.pre [3] (.exit 0))) c113_n16
instance : IsSeq c113_n15 (.cond (.t 6) (.pre [0, 1, 2, 3, 4, 5] .skip) (.pre [3] (.exit 0))) c113_n16 := ⟨rfl⟩
def c113_l1b : SCode := (.seq (.region [.op 20 (.bin .lss (.t 5) (.t 4)) none .any] [1, 2, 3, 4, 5, 6, 0]) c113_n15)
def c113_l1 : SCode := .loop true c113_l1b
@[simp] def c113_n26 : SCode := (.region [.op 14 (.move (.t 0)) none .any, .op 15 (.call false (.k (.c (.func 141 [] []))) [(.t 0)]) none .any, .op 10 (.move (.t 0)) none .any] [4, 5, 6, 0])
@[simp] def c113_n28 : SCode := (.seq (.region [.op 16 (.fieldAddr 1 (.t 2)) none .any, .op 17 (.load none (.t 0)) none .any, .op 18 (.len 1 (.t 0)) none .any, .op 19 (.move (.k (.c (.int .i64 0)))) none .any] [4, 5, 6, 7, 1, 0]) (.block 0 [some 10] c113_l1))
def c113_n27 : SCode := .seq c113_n28 (.seq (.region [.op 64 (.move (.t 0)) none .any, .op 8 (.move (.t 0)) none .any, .op 9 (.move (.k (.c (.bool true)))) none .any] [1, 0]) .ret)
instance : IsSeq c113_n27 c113_n28 (.seq (.region [.op 64 (.move (.t 0)) none .any, .op 8 (.move (.t 0)) none .any, .op 9 (.move (.k (.c (.bool true)))) none .any] [1, 0]) .ret) := ⟨rfl⟩
def c113_n25 : SCode := .seq c113_n26 c113_n27
instance : IsSeq c113_n25 c113_n26 c113_n27 := ⟨rfl⟩
def c113 : SCode := (.seq (.region [.op 4 (.box (.t 0)) none .any, .op 8 (.mkNil none) none .any, .op 9 (.move (.k (.c (.bool false)))) none .any] [4, 5, 6, 2]) c113_n25)
def F113 : SFunc := .code .pure 65 4 [some 8, some 9] [.tmp 0, .tmp 1] c113

-- crux/member.checkAged
@[simp] def c116_n2 : SCode := (.draw 1 [.op 5 (.load (some 4) (.t 1)) none .var, .op 6 (.call false (.k (.c (.func 123 [] []))) [(.t 0), (.k .nil)]) none .any, .op 7 (.move (.t 2)) none .any, .op 8 (.call false (.k (.c (.func 81 [] []))) [(.t 0)]) none .any, .op 9 (.fieldAddr 2 (.t 5)) none .any, .op 10 (.load none (.t 0)) none .var, .op 11 (.move (.t 6)) none .any, .op 12 (.bin .gtr (.t 1) (.t 0)) none .any, .op 13 (.call false (.k (.c (.func 82 [] []))) [(.t 0), (.k (.c (.int .i64 11)))]) none .any, .op 14 (.buildSlice 2 none 3 [(.c (.int .i64 0))] [(0, (.t 7)), (1, (.t 5)), (2, (.t 0))]) (some 0) .any, .op 15 (.call false (.k (.c (.func 79 [] []))) [(.t 0)]) none .any, .op 4 (.move (.t 0)) none .any] [0])
def c116_n1 : SCode := .seq c116_n2 .ret
instance : IsSeq c116_n1 c116_n2 .ret := ⟨rfl⟩
def c116 : SCode := (.seq (.region [.op 2 (.box (.t 0)) none .any, .op 4 (.move (.k (.c (.int .i64 0)))) none .any] [3, 1]) c116_n1)
def F116 : SFunc := .code .pure 16 2 [some 4] [.tmp 0] c116

-- crux/member.checkCertain
@[simp] def c117_n2 : SCode := (.draw 1 [.op 3 (.load (some 2) (.t 0)) none .var, .op 4 (.call false (.k (.c (.func 42 [] []))) [(.t 0)]) none .any, .op 5 (.fieldAddr 1 (.t 2)) none .any, .op 6 (.load none (.t 0)) none .var, .op 7 (.len 1 (.t 0)) none .old, .op 8 (.bin .gtr (.t 0) (.k (.c (.int .i64 12)))) none .any, .op 9 (.call false (.k (.c (.func 82 [] []))) [(.t 0), (.k (.c (.int .i64 22)))]) none .any, .op 10 (.buildSlice 2 none 2 [(.c (.int .i64 0))] [(0, (.t 5)), (1, (.t 0))]) (some 0) .any, .op 11 (.call false (.k (.c (.func 79 [] []))) [(.t 0)]) none .any, .op 2 (.move (.t 0)) none .any] [0])
def c117_n1 : SCode := .seq c117_n2 .ret
instance : IsSeq c117_n1 c117_n2 .ret := ⟨rfl⟩
def c117 : SCode := (.seq (.region [.op 1 (.box (.t 0)) none .any, .op 2 (.move (.k (.c (.int .i64 0)))) none .any] [1]) c117_n1)
def F117 : SFunc := .code .pure 12 1 [some 2] [.tmp 0] c117

-- (crux/member.Jury).fill
-- c118_l0: env [1, 3, 8, 9, 26, 27]
@[simp] def c118_n4 : SCode := (.region [.op 29 (.move (.t 5)) none .any, .op 10 (.move (.t 0)) none .any] [2, 3, 4, 5, 0, 6, 7])
@[simp] def c118_n6 : SCode := (.region [.op 30 (.move (.t 2)) none .any, .op 31 (.fieldAddr 1 (.t 2)) none .any, .op 32 (.load none (.t 0)) none .any, .op 33 (.len 1 (.t 0)) none .any, .op 34 (.makeSlice none 1 [(.c (.bool false))] (.t 0) (.t 0)) none .any, .op 35 (.nilCheck (.t 4)) none .any, .op 36 (.fieldAddr 5 (.t 0)) none .any, .eff (.store 1 (.t 0) (.t 2)) none .any] [7, 8, 9, 10, 11, 12, 13])
@[simp] def c118_n8 : SCode := (.region [.op 37 (.move (.t 0)) none .any, .op 38 (.move (.t 5)) none .any, .op 39 (.bin .shr (.t 1) (.t 0)) none .any, .op 40 (.bin .and (.t 0) (.k (.c (.int .u64 1)))) none .any, .op 41 (.bin .eql (.t 0) (.k (.c (.int .u64 1)))) none .any, .op 42 (.move (.t 0)) none .any, .andN 51 0 [.op 43 (.move (.t 8)) none .any, .op 44 (.move (.t 11)) none .any, .op 45 (.makeMap) none .any, .op 46 (.fieldAddr 0 (.t 10)) none .any, .op 47 (.load none (.t 0)) none .any, .op 48 (.len 1 (.t 0)) none .any, .op 49 (.makeSlice none 1 [(.c (.bool false))] (.t 0) (.t 0)) none .any, .op 50 (.call false (.k (.c (.func 143 [] []))) [(.t 6), (.t 5), (.t 4), (.t 0)]) none .any] (.t 0)] [7, 8, 9, 10, 12, 13, 0])
def c118_n7 : SCode := .seq c118_n8 (.cond (.t 6) (.region [.op 52 (.move (.t 3)) none .any, .op 53 (.bin .add (.t 0) (.k (.c (.int .i64 1)))) none .any, .op 9 (.move (.t 0)) none .any] [3, 4, 5, 0, 7, 8]) (.pre [0, 1, 2, 3, 4, 5] .skip))
instance : IsSeq c118_n7 c118_n8 (.cond (.t 6) (.region [.op 52 (.move (.t 3)) none .any, .op 53 (.bin .add (.t 0) (.k (.c (.int .i64 1)))) none .any, .op 9 (.move (.t 0)) none .any] [3, 4, 5, 0, 7, 8]) (.pre [0, 1, 2, 3, 4, 5] .skip)) := ⟨rfl⟩
def c118_n5 : SCode := .seq c118_n6 c118_n7
instance : IsSeq c118_n5 c118_n6 c118_n7 := ⟨rfl⟩
def c118_n3 : SCode := .seq c118_n4 c118_n5
instance : IsSeq c118_n3 c118_n4 c118_n5 := ⟨rfl⟩
def c118_n2 : SCode := .seq (.block 1 [some 1, some 3, some 8, some 9, some 26, some 27] c118_n3) (.region [.op 54 (.bin .add (.t 5) (.k (.c (.int .i64 1)))) none .any, .op 27 (.move (.t 0)) none .any] [2, 3, 4, 5, 6, 0])
instance : IsSeq c118_n2 (.block 1 [some 1, some 3, some 8, some 9, some 26, some 27] c118_n3) (.region [.op 54 (.bin .add (.t 5) (.k (.c (.int .i64 1)))) none .any, .op 27 (.move (.t 0)) none .any] [2, 3, 4, 5, 6, 0]) := ⟨rfl⟩
def c118_n1 : SCode := .seq (.cond (.t 6) (.pre [0, 1, 2, 3, 4, 5] .skip) (.pre [2, 3] (.exit 0))) c118_n2
instance : IsSeq c118_n1 (.cond (.t 6) (.pre [0, 1, 2, 3, 4, 5] .skip) (.pre [2, 3] (.exit 0))) c118_n2 := ⟨rfl⟩
def c118_l0b : SCode := (.seq (.region [.op 28 (.bin .lss (.t 5) (.t 4)) none .any] [1, 2, 3, 4, 5, 6, 0]) c118_n1)
def c118_l0 : SCode := .loop true c118_l0b
@[simp] def c118_n10 : SCode := (.draw 6 [.op 11 (.load (some 2) (.t 2)) none .var, .op 12 (.move (.t 2)) none .any, .op 13 (.buildSlice 1 none 1 [(.c (.int .i64 0))] [(0, (.k (.c (.int .i64 (-1)))))]) none .any, .op 14 (.fieldAddr 1 (.t 5)) none .any, .op 15 (.load none (.t 0)) none .var, .op 16 (.len 1 (.t 0)) none .old, .op 17 (.call true (.k (.c (.func 131 [] []))) [(.t 3), (.t 0)]) (some 0) .any, .op 18 (.fieldAddr 0 (.t 9)) none .any, .op 19 (.load none (.t 0)) none .var, .op 20 (.len 1 (.t 0)) none .old, .op 21 (.makeSlice none 8 [(.c (.int .i64 0))] (.t 0) (.t 0)) (some 4) .any, .op 22 (.build [.nil, .nil, .nil, .nil, .nil, .nil] [(0, 2, (.t 10)), (2, 1, (.t 9)), (3, 1, (.t 4)), (4, 1, (.t 0))]) none .any, .op 23 (.box (.t 0)) (some 5) .any, .op 8 (.move (.t 0)) none .any] [14, 16, 0])
@[simp] def c118_n13 : SCode := (.seq (.region [.op 24 (.fieldAddr 1 (.t 1)) none .any, .op 25 (.load none (.t 0)) none .any, .op 26 (.len 1 (.t 0)) none .any, .op 27 (.move (.k (.c (.int .i64 0)))) none .any] [4, 5, 6, 7, 1, 0]) (.block 0 [some 8, some 9] c118_l0))
def c118_n12 : SCode := .seq c118_n13 (.seq (.draw 0 [.op 55 (.move (.t 1)) none .any, .op 56 (.move (.t 1)) none .any, .op 57 (.nilCheck (.t 0)) none .any, .op 58 (.fieldAddr 3 (.t 0)) none .any, .op 59 (.load none (.t 0)) none .var, .op 6 (.move (.t 4)) none .any, .op 7 (.move (.t 1)) none .any] [1, 0]) .ret)
instance : IsSeq c118_n12 c118_n13 (.seq (.draw 0 [.op 55 (.move (.t 1)) none .any, .op 56 (.move (.t 1)) none .any, .op 57 (.nilCheck (.t 0)) none .any, .op 58 (.fieldAddr 3 (.t 0)) none .any, .op 59 (.load none (.t 0)) none .var, .op 6 (.move (.t 4)) none .any, .op 7 (.move (.t 1)) none .any] [1, 0]) .ret) := ⟨rfl⟩
def c118_n11 : SCode := .seq (.region [.op 9 (.move (.k (.c (.int .i64 0)))) none .any] [1, 2, 3, 0]) c118_n12
instance : IsSeq c118_n11 (.region [.op 9 (.move (.k (.c (.int .i64 0)))) none .any] [1, 2, 3, 0]) c118_n12 := ⟨rfl⟩
def c118_n9 : SCode := .seq c118_n10 c118_n11
instance : IsSeq c118_n9 c118_n10 c118_n11 := ⟨rfl⟩
def c118 : SCode := (.seq (.region [.op 3 (.box (.t 0)) none .any, .op 6 (.move (.k (.c (.int .i64 0)))) none .any, .op 7 (.mkNil none) none .any] [4, 5, 2]) c118_n9)
def F118 : SFunc := .code .pure 60 3 [some 6, some 7] [.tmp 0, .tmp 1] c118

-- (crux/member.Jury).all
def c119 : SCode := (.seq (.region [.op 1 (.box (.t 0)) none .any, .op 2 (.move (.k (.c (.int .u64 0)))) none .any] [1]) (.seq (.region [.op 3 (.fieldAddr 1 (.t 0)) none .any, .op 4 (.load none (.t 0)) none .any, .op 5 (.len 1 (.t 0)) none .any, .op 6 (.bin .shl (.k (.c (.int .u64 1))) (.t 0)) none .any, .op 7 (.bin .sub (.t 0) (.k (.c (.int .u64 1)))) none .any, .op 2 (.move (.t 0)) none .any] [0]) .ret))
def F119 : SFunc := .code .pure 8 1 [some 2] [.tmp 0] c119

-- (crux/member.Jury).loads
-- c120_l0: env [1, 5, 9, 10, 11]
@[simp] def c120_n4 : SCode := (.region [.op 13 (.idxSlice 4 (.t 2) (.t 4)) none .any, .op 14 (.load (some 4) (.t 0)) none .any, .op 7 (.new [(.c (.str [])), (.c (.str [])), .nil, (.c (.int .i64 0))]) none .any, .eff (.store 4 (.t 0) (.t 1)) none .any] [3, 4, 0, 5, 6, 7])
@[simp] def c120_n5 : SCode := (.region [.op 15 (.move (.t 1)) none .any, .op 16 (.fieldAddr 3 (.t 3)) none .any, .op 17 (.load none (.t 0)) none .any, .op 18 (.move (.t 3)) none .any, .op 19 (.min (.t 1) [(.t 0)]) none .any, .op 20 (.buildSlice 2 none 1 [(.c (.int .i64 0))] [(0, (.t 0))]) none .any, .op 21 (.append none 8 (.t 5) (.t 0)) none .any, .op 5 (.move (.t 0)) none .any] [8, 0, 11, 12, 13])
def c120_n3 : SCode := .seq c120_n4 c120_n5
instance : IsSeq c120_n3 c120_n4 c120_n5 := ⟨rfl⟩
def c120_n2 : SCode := .seq (.block 1 [some 1, some 5, some 9, some 10, some 11] c120_n3) (.region [.op 22 (.bin .add (.t 4) (.k (.c (.int .i64 1)))) none .any, .op 11 (.move (.t 0)) none .any] [2, 3, 4, 5, 0])
instance : IsSeq c120_n2 (.block 1 [some 1, some 5, some 9, some 10, some 11] c120_n3) (.region [.op 22 (.bin .add (.t 4) (.k (.c (.int .i64 1)))) none .any, .op 11 (.move (.t 0)) none .any] [2, 3, 4, 5, 0]) := ⟨rfl⟩
def c120_n1 : SCode := .seq (.cond (.t 5) (.pre [0, 1, 2, 3, 4] .skip) (.pre [1] (.exit 0))) c120_n2
instance : IsSeq c120_n1 (.cond (.t 5) (.pre [0, 1, 2, 3, 4] .skip) (.pre [1] (.exit 0))) c120_n2 := ⟨rfl⟩
def c120_l0b : SCode := (.seq (.region [.op 12 (.bin .lss (.t 4) (.t 3)) none .any] [1, 2, 3, 4, 5, 0]) c120_n1)
def c120_l0 : SCode := .loop true c120_l0b
def c120_n6 : SCode := .seq (.region [.op 5 (.mkNil none) none .any] [1, 2, 0]) (.seq (.seq (.region [.op 8 (.fieldAddr 0 (.t 1)) none .any, .op 9 (.load none (.t 0)) none .any, .op 10 (.len 1 (.t 0)) none .any, .op 11 (.move (.k (.c (.int .i64 0)))) none .any] [4, 6, 2, 1, 0]) (.block 0 [some 5] c120_l0)) (.seq (.region [.op 23 (.move (.t 0)) none .any, .op 4 (.move (.t 0)) none .any] [0]) .ret))
instance : IsSeq c120_n6 (.region [.op 5 (.mkNil none) none .any] [1, 2, 0]) (.seq (.seq (.region [.op 8 (.fieldAddr 0 (.t 1)) none .any, .op 9 (.load none (.t 0)) none .any, .op 10 (.len 1 (.t 0)) none .any, .op 11 (.move (.k (.c (.int .i64 0)))) none .any] [4, 6, 2, 1, 0]) (.block 0 [some 5] c120_l0)) (.seq (.region [.op 23 (.move (.t 0)) none .any, .op 4 (.move (.t 0)) none .any] [0]) .ret)) := ⟨rfl⟩
def c120 : SCode := (.seq (.region [.op 2 (.box (.t 0)) none .any, .op 4 (.mkNil none) none .any] [3, 1]) c120_n6)
def F120 : SFunc := .code (.fresh 4) 24 2 [some 4] [.tmp 0] c120

-- (crux/member.Jury).fills
@[simp] def c121_n2 : SCode := (.region [.op 10 (.load (some 2) (.t 2)) none .any, .op 11 (.move (.t 1)) none .any, .op 12 (.move (.t 3)) none .any, .op 13 (.call false (.k (.c (.func 118 [] []))) [(.t 2), (.t 1), (.t 0)]) none .any, .op 9 (.move (.t 0)) none .any, .op 14 (.extract (.t 0) 0) none .any, .op 15 (.extract (.t 1) 1) none .any, .op 7 (.move (.t 1)) none .any, .op 8 (.move (.t 1)) none .any] [9, 1])
def c121_n1 : SCode := .seq c121_n2 (.seq (.region [.op 16 (.move (.t 1)) none .any, .op 17 (.move (.t 1)) none .any, .op 18 (.call false (.k (.c (.func 144 [] []))) [(.t 0)]) none .any, .op 19 (.bin .eql (.t 2) (.t 0)) none .any, .op 6 (.move (.t 0)) none .any] [0]) .ret)
instance : IsSeq c121_n1 c121_n2 (.seq (.region [.op 16 (.move (.t 1)) none .any, .op 17 (.move (.t 1)) none .any, .op 18 (.call false (.k (.c (.func 144 [] []))) [(.t 0)]) none .any, .op 19 (.bin .eql (.t 2) (.t 0)) none .any, .op 6 (.move (.t 0)) none .any] [0]) .ret) := ⟨rfl⟩
def c121 : SCode := (.seq (.region [.op 3 (.box (.t 0)) none .any, .op 6 (.move (.k (.c (.bool false)))) none .any] [3, 4, 1]) c121_n1)
def F121 : SFunc := .code .pure 20 3 [some 6] [.tmp 0] c121

-- crux/member.each[crux/api.Climber]
-- c122_l0: env [0, 2, 14, 15, 16]
@[simp] def c122_n4 : SCode := (.region [.op 18 (.move (.t 4)) none .any, .op 19 (.idxSlice 4 (.t 3) (.t 5)) none .any, .op 20 (.load (some 4) (.t 0)) none .any, .op 8 (.new [(.c (.str [])), (.c (.str [])), (.c (.int .i64 0)), (.c (.str []))]) none .any, .op 7 (.move (.t 3)) none .any, .eff (.store 4 (.t 1) (.t 2)) none .any] [5, 6, 0, 1, 7, 8, 9])
@[simp] def c122_n6 : SCode := (.draw 0 [.op 21 (.move (.t 1)) none .any, .op 22 (.load (some 4) (.t 4)) none .var, .op 23 (.move (.t 2)) none .any, .op 24 (.move (.t 5)) none .any, .op 25 (.sliceSl 4 (.t 1) none (some (.t 0)) none) none .any, .op 26 (.call false (.t 4) [(.t 3), (.t 0)]) none .any, .op 9 (.move (.t 0)) none .any] [7, 8, 0, 11, 12, 13])
def c122_n5 : SCode := .seq c122_n6 (.seq (.region [.op 27 (.move (.t 2)) none .any, .op 28 (.bin .neq (.t 0) (.k (.c (.int .i64 0)))) none .any] [2, 3, 4, 5, 6, 7, 0]) (.cond (.t 6) (.seq (.region [.op 29 (.move (.t 2)) none .any, .op 6 (.move (.t 0)) none .any] [0]) .ret) (.pre [0, 1, 3, 4, 5] .skip)))
instance : IsSeq c122_n5 c122_n6 (.seq (.region [.op 27 (.move (.t 2)) none .any, .op 28 (.bin .neq (.t 0) (.k (.c (.int .i64 0)))) none .any] [2, 3, 4, 5, 6, 7, 0]) (.cond (.t 6) (.seq (.region [.op 29 (.move (.t 2)) none .any, .op 6 (.move (.t 0)) none .any] [0]) .ret) (.pre [0, 1, 3, 4, 5] .skip))) := ⟨rfl⟩
def c122_n3 : SCode := .seq c122_n4 c122_n5
instance : IsSeq c122_n3 c122_n4 c122_n5 := ⟨rfl⟩
def c122_n2 : SCode := .seq (.block 1 [some 0, some 2, some 14, some 15, some 16] c122_n3) (.region [.op 30 (.bin .add (.t 4) (.k (.c (.int .i64 1)))) none .any, .op 16 (.move (.t 0)) none .any] [2, 3, 4, 5, 0])
instance : IsSeq c122_n2 (.block 1 [some 0, some 2, some 14, some 15, some 16] c122_n3) (.region [.op 30 (.bin .add (.t 4) (.k (.c (.int .i64 1)))) none .any, .op 16 (.move (.t 0)) none .any] [2, 3, 4, 5, 0]) := ⟨rfl⟩
def c122_n1 : SCode := .seq (.cond (.t 5) (.pre [0, 1, 2, 3, 4] .skip) (.pre [] (.exit 0))) c122_n2
instance : IsSeq c122_n1 (.cond (.t 5) (.pre [0, 1, 2, 3, 4] .skip) (.pre [] (.exit 0))) c122_n2 := ⟨rfl⟩
def c122_l0b : SCode := (.seq (.region [.op 17 (.bin .lss (.t 4) (.t 3)) none .any] [1, 2, 3, 4, 5, 0]) c122_n1)
def c122_l0 : SCode := .loop true c122_l0b
@[simp] def c122_n8 : SCode := (.seq (.region [.op 10 (.move (.t 0)) none .any, .op 11 (.len 1 (.t 0)) none .any, .op 12 (.move (.t 3)) none .any, .op 13 (.bin .gtr (.t 1) (.t 0)) none .any] [4, 6, 0]) (.cond (.t 2) (.seq (.region [.op 6 (.move (.k (.c (.int .i64 5)))) none .any] [0]) .ret) (.pre [0, 1] .skip)))
def c122_n7 : SCode := .seq c122_n8 (.seq (.seq (.region [.op 14 (.move (.t 0)) none .any, .op 15 (.len 1 (.t 0)) none .any, .op 16 (.move (.k (.c (.int .i64 0)))) none .any] [3, 4, 2, 1, 0]) (.block 0 [] c122_l0)) (.seq (.region [.op 6 (.move (.k (.c (.int .i64 0)))) none .any] [0]) .ret))
instance : IsSeq c122_n7 c122_n8 (.seq (.seq (.region [.op 14 (.move (.t 0)) none .any, .op 15 (.len 1 (.t 0)) none .any, .op 16 (.move (.k (.c (.int .i64 0)))) none .any] [3, 4, 2, 1, 0]) (.block 0 [] c122_l0)) (.seq (.region [.op 6 (.move (.k (.c (.int .i64 0)))) none .any] [0]) .ret)) := ⟨rfl⟩
def c122 : SCode := (.seq (.region [.op 6 (.move (.k (.c (.int .i64 0)))) none .any] [1, 2, 3]) c122_n7)
def F122 : SFunc := .code .pure 31 3 [some 6] [.tmp 0] c122

-- crux/member.checkClimber
@[simp] def c123_n2 : SCode := (.region [.op 6 (.move (.t 0)) none .any, .op 7 (.mkFunc 146 [] [(.t 2)]) none .any, .op 8 (.call false (.k (.c (.func 145 [] []))) [(.t 1), (.t 0)]) none .any, .op 5 (.move (.t 0)) none .any] [5, 0])
@[simp] def c123_n4 : SCode := (.draw 1 [.op 9 (.fieldAddr 0 (.t 0)) none .any, .op 10 (.load none (.t 0)) none .var, .op 11 (.call false (.k (.c (.func 80 [] []))) [(.t 0)]) none .any, .op 12 (.fieldAddr 1 (.t 3)) none .any, .op 13 (.load none (.t 0)) none .var, .op 14 (.call false (.k (.c (.func 80 [] []))) [(.t 0)]) none .any, .op 15 (.fieldAddr 3 (.t 6)) none .any, .op 16 (.load none (.t 0)) none .var, .op 17 (.call false (.k (.c (.func 80 [] []))) [(.t 0)]) none .any, .op 18 (.move (.t 10)) none .any, .op 19 (.call false (.k (.c (.func 82 [] []))) [(.t 0), (.k (.c (.int .i64 9)))]) none .any, .op 20 (.fieldAddr 2 (.t 11)) none .any, .op 21 (.load none (.t 0)) none .var, .op 22 (.call false (.k (.c (.func 81 [] []))) [(.t 0)]) none .any, .op 23 (.buildSlice 2 none 5 [(.c (.int .i64 0))] [(0, (.t 11)), (1, (.t 8)), (2, (.t 5)), (3, (.t 3)), (4, (.t 0))]) (some 0) .any, .op 24 (.call false (.k (.c (.func 79 [] []))) [(.t 0)]) none .any, .op 4 (.move (.t 0)) none .any] [0])
def c123_n3 : SCode := .seq c123_n4 .ret
instance : IsSeq c123_n3 c123_n4 .ret := ⟨rfl⟩
def c123_n1 : SCode := .seq c123_n2 c123_n3
instance : IsSeq c123_n1 c123_n2 c123_n3 := ⟨rfl⟩
def c123 : SCode := (.seq (.region [.op 2 (.box (.t 0)) none .any, .op 4 (.move (.k (.c (.int .i64 0)))) none .any] [3, 1]) c123_n1)
def F123 : SFunc := .code .pure 25 2 [some 4] [.tmp 0] c123

-- crux/member.each[crux/member.Category]
-- c124_l0: env [0, 2, 14, 15, 16]
@[simp] def c124_n4 : SCode := (.region [.op 18 (.move (.t 4)) none .any, .op 19 (.idxSlice 3 (.t 3) (.t 5)) none .any, .op 20 (.load (some 3) (.t 0)) none .any, .op 8 (.new [(.c (.str [])), (.c (.int .i64 0)), (.c (.int .i64 0))]) none .any, .op 7 (.move (.t 3)) none .any, .eff (.store 3 (.t 1) (.t 2)) none .any] [5, 6, 0, 1, 7, 8, 9])
@[simp] def c124_n6 : SCode := (.draw 0 [.op 21 (.move (.t 1)) none .any, .op 22 (.load (some 3) (.t 4)) none .var, .op 23 (.move (.t 2)) none .any, .op 24 (.move (.t 5)) none .any, .op 25 (.sliceSl 3 (.t 1) none (some (.t 0)) none) none .any, .op 26 (.call false (.t 4) [(.t 3), (.t 0)]) none .any, .op 9 (.move (.t 0)) none .any] [7, 8, 0, 11, 12, 13])
def c124_n5 : SCode := .seq c124_n6 (.seq (.region [.op 27 (.move (.t 2)) none .any, .op 28 (.bin .neq (.t 0) (.k (.c (.int .i64 0)))) none .any] [2, 3, 4, 5, 6, 7, 0]) (.cond (.t 6) (.seq (.region [.op 29 (.move (.t 2)) none .any, .op 6 (.move (.t 0)) none .any] [0]) .ret) (.pre [0, 1, 3, 4, 5] .skip)))
instance : IsSeq c124_n5 c124_n6 (.seq (.region [.op 27 (.move (.t 2)) none .any, .op 28 (.bin .neq (.t 0) (.k (.c (.int .i64 0)))) none .any] [2, 3, 4, 5, 6, 7, 0]) (.cond (.t 6) (.seq (.region [.op 29 (.move (.t 2)) none .any, .op 6 (.move (.t 0)) none .any] [0]) .ret) (.pre [0, 1, 3, 4, 5] .skip))) := ⟨rfl⟩
def c124_n3 : SCode := .seq c124_n4 c124_n5
instance : IsSeq c124_n3 c124_n4 c124_n5 := ⟨rfl⟩
def c124_n2 : SCode := .seq (.block 1 [some 0, some 2, some 14, some 15, some 16] c124_n3) (.region [.op 30 (.bin .add (.t 4) (.k (.c (.int .i64 1)))) none .any, .op 16 (.move (.t 0)) none .any] [2, 3, 4, 5, 0])
instance : IsSeq c124_n2 (.block 1 [some 0, some 2, some 14, some 15, some 16] c124_n3) (.region [.op 30 (.bin .add (.t 4) (.k (.c (.int .i64 1)))) none .any, .op 16 (.move (.t 0)) none .any] [2, 3, 4, 5, 0]) := ⟨rfl⟩
def c124_n1 : SCode := .seq (.cond (.t 5) (.pre [0, 1, 2, 3, 4] .skip) (.pre [] (.exit 0))) c124_n2
instance : IsSeq c124_n1 (.cond (.t 5) (.pre [0, 1, 2, 3, 4] .skip) (.pre [] (.exit 0))) c124_n2 := ⟨rfl⟩
def c124_l0b : SCode := (.seq (.region [.op 17 (.bin .lss (.t 4) (.t 3)) none .any] [1, 2, 3, 4, 5, 0]) c124_n1)
def c124_l0 : SCode := .loop true c124_l0b
@[simp] def c124_n8 : SCode := (.seq (.region [.op 10 (.move (.t 0)) none .any, .op 11 (.len 1 (.t 0)) none .any, .op 12 (.move (.t 3)) none .any, .op 13 (.bin .gtr (.t 1) (.t 0)) none .any] [4, 6, 0]) (.cond (.t 2) (.seq (.region [.op 6 (.move (.k (.c (.int .i64 5)))) none .any] [0]) .ret) (.pre [0, 1] .skip)))
def c124_n7 : SCode := .seq c124_n8 (.seq (.seq (.region [.op 14 (.move (.t 0)) none .any, .op 15 (.len 1 (.t 0)) none .any, .op 16 (.move (.k (.c (.int .i64 0)))) none .any] [3, 4, 2, 1, 0]) (.block 0 [] c124_l0)) (.seq (.region [.op 6 (.move (.k (.c (.int .i64 0)))) none .any] [0]) .ret))
instance : IsSeq c124_n7 c124_n8 (.seq (.seq (.region [.op 14 (.move (.t 0)) none .any, .op 15 (.len 1 (.t 0)) none .any, .op 16 (.move (.k (.c (.int .i64 0)))) none .any] [3, 4, 2, 1, 0]) (.block 0 [] c124_l0)) (.seq (.region [.op 6 (.move (.k (.c (.int .i64 0)))) none .any] [0]) .ret)) := ⟨rfl⟩
def c124 : SCode := (.seq (.region [.op 6 (.move (.k (.c (.int .i64 0)))) none .any] [1, 2, 3]) c124_n7)
def F124 : SFunc := .code .pure 31 3 [some 6] [.tmp 0] c124

-- crux/member.CheckCategories$1
@[simp] def c125_n2 : SCode := (.region [.op 6 (.move (.t 0)) none .any, .op 7 (.mkFunc 127 [] [(.t 2)]) none .any, .op 8 (.call false (.k (.c (.func 126 [] []))) [(.t 1), (.t 0)]) none .any, .op 5 (.move (.t 0)) none .any] [5, 0])
@[simp] def c125_n4 : SCode := (.draw 1 [.op 9 (.fieldAddr 0 (.t 0)) none .any, .op 10 (.load none (.t 0)) none .var, .op 11 (.call false (.k (.c (.func 80 [] []))) [(.t 0)]) none .any, .op 12 (.move (.t 4)) none .any, .op 13 (.call false (.k (.c (.func 82 [] []))) [(.t 0), (.k (.c (.int .i64 9)))]) none .any, .op 14 (.fieldAddr 1 (.t 5)) none .any, .op 15 (.load none (.t 0)) none .var, .op 16 (.call false (.k (.c (.func 105 [] []))) [(.t 0), (.k (.c (.int .i64 0))), (.k (.c (.int .i64 120)))]) none .any, .op 17 (.move (.t 0)) none .any, .orN 21 0 [.op 18 (.fieldAddr 2 (.t 9)) none .any, .op 19 (.load none (.t 0)) none .var, .op 20 (.call false (.k (.c (.func 105 [] []))) [(.t 0), (.k (.c (.int .i64 0))), (.k (.c (.int .i64 120)))]) none .any] (.t 0), .op 22 (.call false (.k (.c (.func 82 [] []))) [(.t 0), (.k (.c (.int .i64 3)))]) none .any, .op 23 (.fieldAddr 1 (.t 11)) none .any, .op 24 (.load none (.t 0)) none .var, .op 25 (.fieldAddr 2 (.t 13)) none .any, .op 26 (.load none (.t 0)) none .var, .op 27 (.bin .gtr (.t 2) (.t 0)) none .any, .op 28 (.call false (.k (.c (.func 82 [] []))) [(.t 0), (.k (.c (.int .i64 11)))]) none .any, .op 29 (.buildSlice 2 none 4 [(.c (.int .i64 0))] [(0, (.t 14)), (1, (.t 12)), (2, (.t 6)), (3, (.t 0))]) (some 0) .any, .op 30 (.call false (.k (.c (.func 79 [] []))) [(.t 0)]) none .any, .op 4 (.move (.t 0)) none .any] [0])
def c125_n3 : SCode := .seq c125_n4 .ret
instance : IsSeq c125_n3 c125_n4 .ret := ⟨rfl⟩
def c125_n1 : SCode := .seq c125_n2 c125_n3
instance : IsSeq c125_n1 c125_n2 c125_n3 := ⟨rfl⟩
def c125 : SCode := (.seq (.region [.op 2 (.box (.t 0)) none .any, .op 4 (.move (.k (.c (.int .i64 0)))) none .any] [3, 1]) c125_n1)
def F125 : SFunc := .code .pure 31 2 [some 4] [.tmp 0] c125

-- slices.ContainsFunc[[]crux/member.Category,crux/member.Category]
def c126 : SCode := (.seq (.region [.op 4 (.move (.k (.c (.bool false)))) none .any] [1, 2]) (.seq (.region [.op 5 (.move (.t 0)) none .any, .op 6 (.move (.t 2)) none .any, .op 7 (.call false (.k (.c (.func 147 [] []))) [(.t 1), (.t 0)]) none .any, .op 8 (.bin .geq (.t 0) (.k (.c (.int .i64 0)))) none .any, .op 4 (.move (.t 0)) none .any] [0]) .ret))
def F126 : SFunc := .code .pure 9 2 [some 4] [.tmp 0] c126

-- crux/member.CheckCategories$1$1
def c127 : SCode := (.seq (.region [.op 2 (.box (.t 0)) none .any, .op 3 (.move (.k (.c (.bool false)))) none .any] [3, 1]) (.seq (.region [.op 4 (.fieldAddr 0 (.t 1)) none .any, .op 5 (.load none (.t 0)) none .any, .op 6 (.fieldAddr 0 (.t 2)) none .any, .op 7 (.load none (.t 0)) none .any, .op 8 (.bin .eql (.t 2) (.t 0)) none .any, .op 3 (.move (.t 0)) none .any] [0]) .ret))
def F127 : SFunc := .code .pure 9 2 [some 3] [.tmp 0] c127

-- crux/member.members
-- c128_l0: env [0, 3, 6, 7]
@[simp] def c128_n4 : SCode := (.region [.op 9 (.move (.t 3)) none .any, .op 4 (.move (.t 0)) none .any] [2, 3, 0, 4, 5])
@[simp] def c128_n6 : SCode := (.region [.op 10 (.move (.t 0)) none .any, .op 11 (.move (.t 3)) none .any, .op 12 (.bin .shr (.t 1) (.t 0)) none .any, .op 13 (.bin .and (.t 0) (.k (.c (.int .u64 1)))) none .any, .op 14 (.bin .eql (.t 0) (.k (.c (.int .u64 1)))) none .any] [5, 6, 7, 8, 9, 0])
def c128_n5 : SCode := .seq c128_n6 (.cond (.t 5) (.region [.op 15 (.move (.t 1)) none .any, .op 16 (.move (.t 3)) none .any, .op 17 (.buildSlice 2 none 1 [(.c (.int .i64 0))] [(0, (.t 0))]) none .any, .op 18 (.append none 8 (.t 2) (.t 0)) none .any, .op 3 (.move (.t 0)) none .any] [5, 0, 8, 9]) (.pre [0, 1, 3, 4] .skip))
instance : IsSeq c128_n5 c128_n6 (.cond (.t 5) (.region [.op 15 (.move (.t 1)) none .any, .op 16 (.move (.t 3)) none .any, .op 17 (.buildSlice 2 none 1 [(.c (.int .i64 0))] [(0, (.t 0))]) none .any, .op 18 (.append none 8 (.t 2) (.t 0)) none .any, .op 3 (.move (.t 0)) none .any] [5, 0, 8, 9]) (.pre [0, 1, 3, 4] .skip)) := ⟨rfl⟩
def c128_n3 : SCode := .seq c128_n4 c128_n5
instance : IsSeq c128_n3 c128_n4 c128_n5 := ⟨rfl⟩
def c128_n2 : SCode := .seq (.block 1 [some 0, some 3, some 6, some 7] c128_n3) (.region [.op 19 (.bin .add (.t 3) (.k (.c (.int .i64 1)))) none .any, .op 7 (.move (.t 0)) none .any] [2, 3, 4, 0])
instance : IsSeq c128_n2 (.block 1 [some 0, some 3, some 6, some 7] c128_n3) (.region [.op 19 (.bin .add (.t 3) (.k (.c (.int .i64 1)))) none .any, .op 7 (.move (.t 0)) none .any] [2, 3, 4, 0]) := ⟨rfl⟩
def c128_n1 : SCode := .seq (.cond (.t 4) (.pre [0, 1, 2, 3] .skip) (.pre [1] (.exit 0))) c128_n2
instance : IsSeq c128_n1 (.cond (.t 4) (.pre [0, 1, 2, 3] .skip) (.pre [1] (.exit 0))) c128_n2 := ⟨rfl⟩
def c128_l0b : SCode := (.seq (.region [.op 8 (.bin .lss (.t 3) (.t 2)) none .any] [1, 2, 3, 4, 0]) c128_n1)
def c128_l0 : SCode := .loop true c128_l0b
def c128_n7 : SCode := .seq (.region [.op 3 (.mkNil none) none .any] [1, 0]) (.seq (.seq (.region [.op 5 (.move (.t 0)) none .any, .op 6 (.call false (.k (.c (.func 148 [] []))) [(.t 0)]) none .any, .op 7 (.move (.k (.c (.int .i64 0)))) none .any] [3, 4, 1, 0]) (.block 0 [some 3] c128_l0)) (.seq (.region [.op 20 (.move (.t 0)) none .any, .op 2 (.move (.t 0)) none .any] [0]) .ret))
instance : IsSeq c128_n7 (.region [.op 3 (.mkNil none) none .any] [1, 0]) (.seq (.seq (.region [.op 5 (.move (.t 0)) none .any, .op 6 (.call false (.k (.c (.func 148 [] []))) [(.t 0)]) none .any, .op 7 (.move (.k (.c (.int .i64 0)))) none .any] [3, 4, 1, 0]) (.block 0 [some 3] c128_l0)) (.seq (.region [.op 20 (.move (.t 0)) none .any, .op 2 (.move (.t 0)) none .any] [0]) .ret)) := ⟨rfl⟩
def c128 : SCode := (.seq (.region [.op 2 (.mkNil none) none .any] [1]) c128_n7)
def F128 : SFunc := .code .pure 21 1 [some 2] [.tmp 0] c128

-- cmp.Or[int]
-- c129_l0: env [3, 6, 7, 8]
@[simp] def c129_n4 : SCode := (.region [.op 10 (.idxSlice 1 (.t 1) (.t 3)) none .any, .op 11 (.load none (.t 0)) none .any, .op 5 (.move (.t 0)) none .any] [3, 0, 4, 5, 6])
def c129_n3 : SCode := .seq c129_n4 (.seq (.region [.op 12 (.move (.t 1)) none .any, .op 13 (.move (.t 1)) none .any, .op 14 (.bin .neq (.t 1) (.t 0)) none .any] [3, 4, 5, 6, 7, 0]) (.cond (.t 5) (.seq (.region [.op 15 (.move (.t 1)) none .any, .op 2 (.move (.t 0)) none .any] [0]) .ret) (.pre [0, 2, 3, 4] .skip)))
instance : IsSeq c129_n3 c129_n4 (.seq (.region [.op 12 (.move (.t 1)) none .any, .op 13 (.move (.t 1)) none .any, .op 14 (.bin .neq (.t 1) (.t 0)) none .any] [3, 4, 5, 6, 7, 0]) (.cond (.t 5) (.seq (.region [.op 15 (.move (.t 1)) none .any, .op 2 (.move (.t 0)) none .any] [0]) .ret) (.pre [0, 2, 3, 4] .skip))) := ⟨rfl⟩
def c129_n2 : SCode := .seq (.block 1 [some 3, some 6, some 7, some 8] c129_n3) (.region [.op 16 (.bin .add (.t 3) (.k (.c (.int .i64 1)))) none .any, .op 8 (.move (.t 0)) none .any] [2, 3, 4, 0])
instance : IsSeq c129_n2 (.block 1 [some 3, some 6, some 7, some 8] c129_n3) (.region [.op 16 (.bin .add (.t 3) (.k (.c (.int .i64 1)))) none .any, .op 8 (.move (.t 0)) none .any] [2, 3, 4, 0]) := ⟨rfl⟩
def c129_n1 : SCode := .seq (.cond (.t 4) (.pre [0, 1, 2, 3] .skip) (.pre [0] (.exit 0))) c129_n2
instance : IsSeq c129_n1 (.cond (.t 4) (.pre [0, 1, 2, 3] .skip) (.pre [0] (.exit 0))) c129_n2 := ⟨rfl⟩
def c129_l0b : SCode := (.seq (.region [.op 9 (.bin .lss (.t 3) (.t 2)) none .any] [1, 2, 3, 4, 0]) c129_n1)
def c129_l0 : SCode := .loop true c129_l0b
def c129 : SCode := (.seq (.region [.op 2 (.move (.k (.c (.int .i64 0)))) none .any] [1]) (.seq (.region [.op 3 (.move (.k (.c (.int .i64 0)))) none .any] [1, 0]) (.seq (.seq (.region [.op 6 (.move (.t 0)) none .any, .op 7 (.len 1 (.t 0)) none .any, .op 8 (.move (.k (.c (.int .i64 0)))) none .any] [4, 2, 1, 0]) (.block 0 [some 3] c129_l0)) (.seq (.region [.op 17 (.move (.t 0)) none .any, .op 2 (.move (.t 0)) none .any] [0]) .ret))))
def F129 : SFunc := .code .pure 18 1 [some 2] [.tmp 0] c129

-- slices.Compare[[]int,int]
-- c130_l0: env [0, 1, 9, 10, 11]
@[simp] def c130_n4 : SCode := (.region [.op 13 (.move (.t 4)) none .any, .op 14 (.idxSlice 1 (.t 3) (.t 5)) none .any, .op 15 (.load none (.t 0)) none .any, .op 5 (.move (.t 2)) none .any, .op 6 (.move (.t 1)) none .any] [5, 6, 1, 0, 7, 8, 9])
@[simp] def c130_n6 : SCode := (.seq (.region [.op 16 (.move (.t 2)) none .any, .op 17 (.move (.t 2)) none .any, .op 18 (.len 1 (.t 0)) none .any, .op 19 (.bin .geq (.t 2) (.t 0)) none .any] [4, 5, 6, 7, 8, 9, 10, 0]) (.cond (.t 7) (.seq (.region [.op 4 (.move (.k (.c (.int .i64 1)))) none .any] [0]) .ret) (.pre [0, 1, 2, 3, 4, 5, 6] .skip)))
@[simp] def c130_n8 : SCode := (.region [.op 20 (.move (.t 1)) none .any, .op 21 (.move (.t 3)) none .any, .op 22 (.idxSlice 1 (.t 1) (.t 0)) none .any, .op 23 (.load none (.t 0)) none .any, .op 7 (.move (.t 0)) none .any] [5, 6, 8, 0, 9, 10, 11])
@[simp] def c130_n10 : SCode := (.region [.op 24 (.move (.t 2)) none .any, .op 25 (.move (.t 4)) none .any, .op 26 (.call false (.k (.c (.func 95 [] []))) [(.t 1), (.t 0)]) none .any, .op 8 (.move (.t 0)) none .any] [4, 5, 0, 8, 9, 10])
def c130_n9 : SCode := .seq c130_n10 (.seq (.region [.op 27 (.move (.t 2)) none .any, .op 28 (.bin .neq (.t 0) (.k (.c (.int .i64 0)))) none .any] [2, 3, 4, 5, 6, 7, 0]) (.cond (.t 6) (.seq (.region [.op 29 (.move (.t 2)) none .any, .op 4 (.move (.t 0)) none .any] [0]) .ret) (.pre [0, 1, 3, 4, 5] .skip)))
instance : IsSeq c130_n9 c130_n10 (.seq (.region [.op 27 (.move (.t 2)) none .any, .op 28 (.bin .neq (.t 0) (.k (.c (.int .i64 0)))) none .any] [2, 3, 4, 5, 6, 7, 0]) (.cond (.t 6) (.seq (.region [.op 29 (.move (.t 2)) none .any, .op 4 (.move (.t 0)) none .any] [0]) .ret) (.pre [0, 1, 3, 4, 5] .skip))) := ⟨rfl⟩
def c130_n7 : SCode := .seq c130_n8 c130_n9
instance : IsSeq c130_n7 c130_n8 c130_n9 := ⟨rfl⟩
def c130_n5 : SCode := .seq c130_n6 c130_n7
instance : IsSeq c130_n5 c130_n6 c130_n7 := ⟨rfl⟩
def c130_n3 : SCode := .seq c130_n4 c130_n5
instance : IsSeq c130_n3 c130_n4 c130_n5 := ⟨rfl⟩
def c130_n2 : SCode := .seq (.block 1 [some 0, some 1, some 9, some 10, some 11] c130_n3) (.region [.op 30 (.bin .add (.t 4) (.k (.c (.int .i64 1)))) none .any, .op 11 (.move (.t 0)) none .any] [2, 3, 4, 5, 0])
instance : IsSeq c130_n2 (.block 1 [some 0, some 1, some 9, some 10, some 11] c130_n3) (.region [.op 30 (.bin .add (.t 4) (.k (.c (.int .i64 1)))) none .any, .op 11 (.move (.t 0)) none .any] [2, 3, 4, 5, 0]) := ⟨rfl⟩
def c130_n1 : SCode := .seq (.cond (.t 5) (.pre [0, 1, 2, 3, 4] .skip) (.pre [0, 1] (.exit 0))) c130_n2
instance : IsSeq c130_n1 (.cond (.t 5) (.pre [0, 1, 2, 3, 4] .skip) (.pre [0, 1] (.exit 0))) c130_n2 := ⟨rfl⟩
def c130_l0b : SCode := (.seq (.region [.op 12 (.bin .lss (.t 4) (.t 3)) none .any] [1, 2, 3, 4, 5, 0]) c130_n1)
def c130_l0 : SCode := .loop true c130_l0b
@[simp] def c130_n12 : SCode := (.seq (.region [.op 9 (.move (.t 0)) none .any, .op 10 (.len 1 (.t 0)) none .any, .op 11 (.move (.k (.c (.int .i64 0)))) none .any] [3, 4, 2, 1, 0]) (.block 0 [some 0, some 1] c130_l0))
@[simp] def c130_n14 : SCode := (.seq (.region [.op 31 (.move (.t 0)) none .any, .op 32 (.len 1 (.t 0)) none .any, .op 33 (.move (.t 3)) none .any, .op 34 (.len 1 (.t 0)) none .any, .op 35 (.bin .lss (.t 2) (.t 0)) none .any] [0]) (.cond (.t 0) (.seq (.region [.op 4 (.move (.k (.c (.int .i64 (-1))))) none .any] [0]) .ret) (.pre [] .skip)))
def c130_n13 : SCode := .seq c130_n14 (.seq (.region [.op 4 (.move (.k (.c (.int .i64 0)))) none .any] [0]) .ret)
instance : IsSeq c130_n13 c130_n14 (.seq (.region [.op 4 (.move (.k (.c (.int .i64 0)))) none .any] [0]) .ret) := ⟨rfl⟩
def c130_n11 : SCode := .seq c130_n12 c130_n13
instance : IsSeq c130_n11 c130_n12 c130_n13 := ⟨rfl⟩
def c130 : SCode := (.seq (.region [.op 4 (.move (.k (.c (.int .i64 0)))) none .any] [1, 2]) c130_n11)
def F130 : SFunc := .code .pure 36 2 [some 4] [.tmp 0] c130

-- slices.Repeat[[]int,int]
-- c131_l0: env [7, 8]
@[simp] def c131_n2 : SCode := (.draw 0 [.op 38 (.move (.t 1)) none .any, .op 39 (.move (.t 1)) none .any, .op 40 (.move (.t 3)) none .any, .op 41 (.sliceSl 1 (.t 1) (some (.t 0)) none none) none .any, .op 42 (.move (.t 4)) none .any, .op 43 (.move (.t 6)) none .any, .op 44 (.sliceSl 1 (.t 1) none (some (.t 0)) none) none .any, .op 45 (.copy 1 (.t 3) (.t 0)) none .old, .op 46 (.bin .add (.t 7) (.t 0)) none .any, .op 8 (.move (.t 0)) none .any] [10, 0])
def c131_n1 : SCode := .block 1 [some 7, some 8] c131_n2
instance : IsBlock c131_n1 1 [some 7, some 8] c131_n2 := ⟨rfl⟩
def c131_l0b : SCode := (.seq (.seq (.region [.op 34 (.move (.t 1)) none .any, .op 35 (.move (.t 1)) none .any, .op 36 (.len 1 (.t 0)) none .any, .op 37 (.bin .lss (.t 2) (.t 0)) none .any] [4, 5, 0]) (.cond (.t 2) (.pre [0, 1] .skip) (.pre [0] (.exit 0)))) c131_n1)
def c131_l0 : SCode := .loop true c131_l0b
@[simp] def c131_n4 : SCode := (.seq (.region [.op 9 (.move (.t 1)) none .any, .op 10 (.bin .lss (.t 0) (.k (.c (.int .i64 0)))) none .any] [2, 3, 0]) (.cond (.t 2) (.region [.op 11 (.bad 18) none .any, .eff (.bad 41) none .any] [1, 2]) (.pre [0, 1] .skip)))
@[simp] def c131_n6 : SCode := (.region [.op 13 (.move (.t 0)) none .any, .op 14 (.len 1 (.t 0)) none .any, .op 15 (.conv .u64 (.t 0)) none .any, .op 16 (.move (.t 4)) none .any, .op 17 (.conv .u64 (.t 0)) none .any, .op 18 (.call false (.k (.c (.func 149 [] []))) [(.t 2), (.t 0)]) none .any, .op 12 (.move (.t 0)) none .any, .op 19 (.extract (.t 0) 0) none .any, .op 20 (.extract (.t 1) 1) none .any, .op 5 (.move (.t 1)) none .any, .op 6 (.move (.t 1)) none .any] [11, 1, 0])
@[simp] def c131_n8 : SCode := (.seq (.region [.op 21 (.move (.t 1)) none .any, .op 22 (.bin .gtr (.t 0) (.k (.c (.int .u64 0)))) none .any, .op 23 (.move (.t 0)) none .any, .orN 26 0 [.op 24 (.move (.t 5)) none .any, .op 25 (.bin .gtr (.t 0) (.k (.c (.int .u64 9223372036854775807)))) none .any] (.t 0)] [4, 6, 0]) (.cond (.t 2) (.region [.op 27 (.bad 18) none .any, .eff (.bad 41) none .any] [1, 2]) (.pre [0, 1] .skip)))
@[simp] def c131_n10 : SCode := (.region [.op 28 (.move (.t 1)) none .any, .op 29 (.conv .i64 (.t 0)) none .any, .op 30 (.makeSlice none 8 [(.c (.int .i64 0))] (.t 0) (.t 0)) none .any, .op 7 (.move (.t 0)) none .any] [4, 0])
def c131_n9 : SCode := .seq c131_n10 (.seq (.region [.op 31 (.move (.t 1)) none .any, .op 32 (.move (.t 1)) none .any, .op 33 (.copy 1 (.t 1) (.t 0)) none .any, .op 8 (.move (.t 0)) none .any] [5, 0]) (.seq (.block 0 [some 7] c131_l0) (.seq (.region [.op 47 (.move (.t 0)) none .any, .op 4 (.move (.t 0)) none .any] [0]) .ret)))
instance : IsSeq c131_n9 c131_n10 (.seq (.region [.op 31 (.move (.t 1)) none .any, .op 32 (.move (.t 1)) none .any, .op 33 (.copy 1 (.t 1) (.t 0)) none .any, .op 8 (.move (.t 0)) none .any] [5, 0]) (.seq (.block 0 [some 7] c131_l0) (.seq (.region [.op 47 (.move (.t 0)) none .any, .op 4 (.move (.t 0)) none .any] [0]) .ret))) := ⟨rfl⟩
def c131_n7 : SCode := .seq c131_n8 c131_n9
instance : IsSeq c131_n7 c131_n8 c131_n9 := ⟨rfl⟩
def c131_n5 : SCode := .seq c131_n6 c131_n7
instance : IsSeq c131_n5 c131_n6 c131_n7 := ⟨rfl⟩
def c131_n3 : SCode := .seq c131_n4 c131_n5
instance : IsSeq c131_n3 c131_n4 c131_n5 := ⟨rfl⟩
def c131 : SCode := (.seq (.region [.op 4 (.mkNil none) none .any] [1, 2]) c131_n3)
def F131 : SFunc := .code (.fresh 4) 48 2 [some 4] [.tmp 0] c131

-- crux/number.IsName
-- c132_l0: env [0, 6]
@[simp] def c132_n4 : SCode := (.region [.op 9 (.extract (.t 2) 1) none .any, .op 10 (.extract (.t 3) 2) none .any, .op 3 (.move (.t 1)) none .any, .op 4 (.move (.t 1)) none .any] [4, 1, 0, 5])
@[simp] def c132_n6 : SCode := (.region [.op 11 (.move (.t 2)) none .any, .op 12 (.call false (.k (.c (.func 150 [] []))) [(.t 0)]) none .any, .op 13 (.not (.t 0)) none .any, .op 14 (.move (.t 0)) none .any, .andN 29 0 [.op 15 (.move (.t 5)) none .any, .op 16 (.bin .eql (.t 0) (.k (.c (.int .i64 0)))) none .any, .op 17 (.move (.t 0)) none .any, .orN 28 0 [.op 18 (.move (.t 9)) none .any, .op 19 (.bin .neq (.t 0) (.k (.c (.int .i32 95)))) none .any, .op 20 (.move (.t 0)) none .any, .andN 27 0 [.op 21 (.move (.t 12)) none .any, .op 22 (.bin .lss (.t 0) (.k (.c (.int .i32 48)))) none .any, .op 23 (.move (.t 0)) none .any, .orN 26 0 [.op 24 (.move (.t 15)) none .any, .op 25 (.bin .gtr (.t 0) (.k (.c (.int .i32 57)))) none .any] (.t 0)] (.t 0)] (.t 0)] (.t 0)] [5, 8, 0])
def c132_n5 : SCode := .seq c132_n6 (.cond (.t 2) (.seq (.region [.op 2 (.move (.k (.c (.bool false)))) none .any] [0]) .ret) (.pre [0, 1] .skip))
instance : IsSeq c132_n5 c132_n6 (.cond (.t 2) (.seq (.region [.op 2 (.move (.k (.c (.bool false)))) none .any] [0]) .ret) (.pre [0, 1] .skip)) := ⟨rfl⟩
def c132_n3 : SCode := .seq c132_n4 c132_n5
instance : IsSeq c132_n3 c132_n4 c132_n5 := ⟨rfl⟩
def c132_n2 : SCode := .block 1 [some 0, some 6] c132_n3
instance : IsBlock c132_n2 1 [some 0, some 6] c132_n3 := ⟨rfl⟩
def c132_n1 : SCode := .seq (.cond (.t 3) (.pre [0, 1, 2] .skip) (.pre [0] (.exit 0))) c132_n2
instance : IsSeq c132_n1 (.cond (.t 3) (.pre [0, 1, 2] .skip) (.pre [0] (.exit 0))) c132_n2 := ⟨rfl⟩
def c132_l0b : SCode := (.seq (.region [.op 7 (.next (.t 1)) none .any, .op 8 (.extract (.t 0) 0) none .any] [2, 3, 1, 0]) c132_n1)
def c132_l0 : SCode := .loop true c132_l0b
@[simp] def c132_n8 : SCode := (.seq (.region [.op 5 (.move (.t 0)) none .any, .op 6 (.range (.t 0)) none .any] [2, 0]) (.block 0 [some 0] c132_l0))
def c132_n7 : SCode := .seq c132_n8 (.seq (.region [.op 30 (.move (.t 0)) none .any, .op 31 (.bin .neq (.t 0) (.k (.c (.str [])))) none .any, .op 32 (.move (.t 0)) none .any, .andN 36 0 [.op 33 (.move (.t 3)) none .any, .op 34 (.len 0 (.t 0)) none .any, .op 35 (.bin .leq (.t 0) (.k (.c (.int .i64 24)))) none .any] (.t 0), .op 2 (.move (.t 0)) none .any] [0]) .ret)
instance : IsSeq c132_n7 c132_n8 (.seq (.region [.op 30 (.move (.t 0)) none .any, .op 31 (.bin .neq (.t 0) (.k (.c (.str [])))) none .any, .op 32 (.move (.t 0)) none .any, .andN 36 0 [.op 33 (.move (.t 3)) none .any, .op 34 (.len 0 (.t 0)) none .any, .op 35 (.bin .leq (.t 0) (.k (.c (.int .i64 24)))) none .any] (.t 0), .op 2 (.move (.t 0)) none .any] [0]) .ret) := ⟨rfl⟩
def c132 : SCode := (.seq (.region [.op 2 (.move (.k (.c (.bool false)))) none .any] [1]) c132_n7)
def F132 : SFunc := .code .pure 37 1 [some 2] [.tmp 0] c132

-- slices.ContainsFunc[[]crux/member.Licence,crux/member.Licence]
def c134 : SCode := (.seq (.region [.op 4 (.move (.k (.c (.bool false)))) none .any] [1, 2]) (.seq (.region [.op 5 (.move (.t 0)) none .any, .op 6 (.move (.t 2)) none .any, .op 7 (.call false (.k (.c (.func 151 [] []))) [(.t 1), (.t 0)]) none .any, .op 8 (.bin .geq (.t 0) (.k (.c (.int .i64 0)))) none .any, .op 4 (.move (.t 0)) none .any] [0]) .ret))
def F134 : SFunc := .code .pure 9 2 [some 4] [.tmp 0] c134

-- crux/member.days$1$1
@[simp] def c135_n2 : SCode := (.region [.op 5 (.fieldAddr 0 (.t 2)) none .any, .op 6 (.load none (.t 0)) none .any, .op 7 (.load none (.t 2)) none .any, .op 8 (.bin .eql (.t 1) (.t 0)) none .any, .op 9 (.move (.t 0)) none .any, .andN 17 0 [.op 10 (.load none (.t 6)) none .any, .op 11 (.fieldAddr 1 (.t 8)) none .any, .op 12 (.load none (.t 0)) none .any, .op 13 (.fieldAddr 2 (.t 10)) none .any, .op 14 (.load none (.t 0)) none .any, .op 15 (.call false (.k (.c (.func 105 [] []))) [(.t 4), (.t 2), (.t 0)]) none .any, .op 16 (.not (.t 0)) none .any] (.t 0), .op 4 (.move (.t 0)) none .any] [0])
def c135_n1 : SCode := .seq c135_n2 .ret
instance : IsSeq c135_n1 c135_n2 .ret := ⟨rfl⟩
def c135 : SCode := (.seq (.region [.op 3 (.box (.t 0)) none .any, .op 4 (.move (.k (.c (.bool false)))) none .any] [3, 4, 1]) c135_n1)
def F135 : SFunc := .code .pure 18 3 [some 4] [.tmp 0] c135

-- slices.stableCmpFunc[string]
-- c136_l0: env [0, 1, 2, 6, 7, 8]
-- c136_l1: env [0, 1, 2, 6, 7, 8]
-- c136_l2: env [0, 1, 2, 6]
@[simp] def c136_n3 : SCode := (.region [.op 14 (.move (.t 0)) none .any, .op 15 (.move (.t 5)) none .any, .op 16 (.move (.t 7)) none .any, .op 17 (.move (.t 5)) none .any, .op 18 (.call false (.k (.c (.func 152 [] []))) [(.t 3), (.t 2), (.t 1), (.t 0)]) none .any] [5, 6, 7, 8, 10])
def c136_n2 : SCode := .seq c136_n3 (.seq (.region [.op 19 (.move (.t 4)) none .any, .op 7 (.move (.t 0)) none .any] [2, 3, 4, 5, 0, 6]) (.region [.op 20 (.move (.t 5)) none .any, .op 21 (.move (.t 4)) none .any, .op 22 (.bin .add (.t 1) (.t 0)) none .any, .op 8 (.move (.t 0)) none .any] [4, 5, 6, 7, 8, 0]))
instance : IsSeq c136_n2 c136_n3 (.seq (.region [.op 19 (.move (.t 4)) none .any, .op 7 (.move (.t 0)) none .any] [2, 3, 4, 5, 0, 6]) (.region [.op 20 (.move (.t 5)) none .any, .op 21 (.move (.t 4)) none .any, .op 22 (.bin .add (.t 1) (.t 0)) none .any, .op 8 (.move (.t 0)) none .any] [4, 5, 6, 7, 8, 0])) := ⟨rfl⟩
def c136_n1 : SCode := .block 1 [some 0, some 1, some 2, some 6, some 7, some 8] c136_n2
instance : IsBlock c136_n1 1 [some 0, some 1, some 2, some 6, some 7, some 8] c136_n2 := ⟨rfl⟩
def c136_l0b : SCode := (.seq (.seq (.region [.op 11 (.move (.t 5)) none .any, .op 12 (.move (.t 2)) none .any, .op 13 (.bin .leq (.t 1) (.t 0)) none .any] [3, 4, 5, 6, 7, 8, 0]) (.cond (.t 6) (.pre [0, 1, 2, 3, 4, 5] .skip) (.pre [0, 1, 2, 3, 4] (.exit 0)))) c136_n1)
def c136_l0 : SCode := .loop true c136_l0b
@[simp] def c136_n6 : SCode := (.region [.op 36 (.move (.t 0)) none .any, .op 37 (.move (.t 5)) none .any, .op 38 (.move (.t 6)) none .any, .op 39 (.move (.t 6)) none .any, .op 40 (.bin .add (.t 1) (.t 0)) none .any, .op 41 (.move (.t 10)) none .any, .op 42 (.move (.t 8)) none .any, .op 43 (.call false (.k (.c (.func 153 [] []))) [(.t 6), (.t 5), (.t 2), (.t 1), (.t 0)]) none .any] [8, 9, 10, 11, 13])
def c136_n5 : SCode := .seq c136_n6 (.seq (.region [.op 44 (.move (.t 4)) none .any, .op 7 (.move (.t 0)) none .any] [2, 3, 4, 5, 0, 6]) (.region [.op 45 (.move (.t 5)) none .any, .op 46 (.move (.t 4)) none .any, .op 47 (.bin .mul (.k (.c (.int .i64 2))) (.t 0)) none .any, .op 48 (.bin .add (.t 2) (.t 0)) none .any, .op 8 (.move (.t 0)) none .any] [5, 6, 7, 8, 9, 0]))
instance : IsSeq c136_n5 c136_n6 (.seq (.region [.op 44 (.move (.t 4)) none .any, .op 7 (.move (.t 0)) none .any] [2, 3, 4, 5, 0, 6]) (.region [.op 45 (.move (.t 5)) none .any, .op 46 (.move (.t 4)) none .any, .op 47 (.bin .mul (.k (.c (.int .i64 2))) (.t 0)) none .any, .op 48 (.bin .add (.t 2) (.t 0)) none .any, .op 8 (.move (.t 0)) none .any] [5, 6, 7, 8, 9, 0])) := ⟨rfl⟩
def c136_n4 : SCode := .block 5 [some 0, some 1, some 2, some 6, some 7, some 8] c136_n5
instance : IsBlock c136_n4 5 [some 0, some 1, some 2, some 6, some 7, some 8] c136_n5 := ⟨rfl⟩
def c136_l1b : SCode := (.seq (.seq (.region [.op 33 (.move (.t 5)) none .any, .op 34 (.move (.t 2)) none .any, .op 35 (.bin .leq (.t 1) (.t 0)) none .any] [3, 4, 5, 6, 7, 8, 0]) (.cond (.t 6) (.pre [0, 1, 2, 3, 4, 5] .skip) (.pre [0, 1, 2, 3, 4] (.exit 4)))) c136_n4)
def c136_l1 : SCode := .loop true c136_l1b
@[simp] def c136_n9 : SCode := (.region [.op 31 (.move (.t 3)) none .any, .op 32 (.bin .mul (.k (.c (.int .i64 2))) (.t 0)) none .any, .op 7 (.move (.k (.c (.int .i64 0)))) none .any, .op 8 (.move (.t 1)) none .any] [4, 5, 6, 7, 1, 0])
@[simp] def c136_n13 : SCode := (.region [.op 52 (.move (.t 5)) none .any, .op 53 (.move (.t 2)) none .any, .op 54 (.bin .lss (.t 1) (.t 0)) none .any] [3, 4, 5, 6, 7, 8, 0])
def c136_n12 : SCode := .seq c136_n13 (.cond (.t 6) (.region [.op 55 (.move (.t 0)) none .any, .op 56 (.move (.t 5)) none .any, .op 57 (.move (.t 7)) none .any, .op 58 (.move (.t 4)) none .any, .op 59 (.move (.t 6)) none .any, .op 60 (.call false (.k (.c (.func 153 [] []))) [(.t 4), (.t 3), (.t 2), (.t 1), (.t 0)]) none .any] [6, 7, 8, 9]) (.pre [0, 1, 2, 3] .skip))
instance : IsSeq c136_n12 c136_n13 (.cond (.t 6) (.region [.op 55 (.move (.t 0)) none .any, .op 56 (.move (.t 5)) none .any, .op 57 (.move (.t 7)) none .any, .op 58 (.move (.t 4)) none .any, .op 59 (.move (.t 6)) none .any, .op 60 (.call false (.k (.c (.func 153 [] []))) [(.t 4), (.t 3), (.t 2), (.t 1), (.t 0)]) none .any] [6, 7, 8, 9]) (.pre [0, 1, 2, 3] .skip)) := ⟨rfl⟩
@[simp] def c136_n14 : SCode := (.seq (.region [.op 49 (.move (.t 4)) none .any, .op 50 (.move (.t 4)) none .any, .op 51 (.bin .add (.t 1) (.t 0)) none .any, .op 9 (.move (.t 0)) none .any] [4, 5, 6, 7, 8, 0]) c136_n12)
def c136_n11 : SCode := .seq c136_n14 (.region [.op 61 (.move (.t 3)) none .any, .op 62 (.bin .mul (.t 0) (.k (.c (.int .i64 2)))) none .any, .op 6 (.move (.t 0)) none .any] [3, 4, 5, 0])
instance : IsSeq c136_n11 c136_n14 (.region [.op 61 (.move (.t 3)) none .any, .op 62 (.bin .mul (.t 0) (.k (.c (.int .i64 2)))) none .any, .op 6 (.move (.t 0)) none .any] [3, 4, 5, 0]) := ⟨rfl⟩
def c136_n10 : SCode := .seq (.block 4 [some 0, some 1, some 2, some 6, some 7] c136_l1) c136_n11
instance : IsSeq c136_n10 (.block 4 [some 0, some 1, some 2, some 6, some 7] c136_l1) c136_n11 := ⟨rfl⟩
def c136_n8 : SCode := .seq c136_n9 c136_n10
instance : IsSeq c136_n8 c136_n9 c136_n10 := ⟨rfl⟩
def c136_n7 : SCode := .block 3 [some 0, some 1, some 2, some 6] c136_n8
instance : IsBlock c136_n7 3 [some 0, some 1, some 2, some 6] c136_n8 := ⟨rfl⟩
def c136_l2b : SCode := (.seq (.seq (.region [.op 28 (.move (.t 3)) none .any, .op 29 (.move (.t 2)) none .any, .op 30 (.bin .lss (.t 1) (.t 0)) none .any] [3, 4, 5, 6, 0]) (.cond (.t 4) (.pre [0, 1, 2, 3] .skip) (.pre [] (.exit 2)))) c136_n7)
def c136_l2 : SCode := .loop true c136_l2b
@[simp] def c136_n16 : SCode := (.region [.op 10 (.move (.t 3)) none .any, .op 7 (.move (.k (.c (.int .i64 0)))) none .any, .op 8 (.move (.t 1)) none .any] [3, 4, 5, 6, 1, 0])
def c136_n15 : SCode := .seq c136_n16 (.seq (.block 0 [some 0, some 1, some 2, some 6, some 7] c136_l0) (.seq (.region [.op 23 (.move (.t 0)) none .any, .op 24 (.move (.t 5)) none .any, .op 25 (.move (.t 3)) none .any, .op 26 (.move (.t 5)) none .any, .op 27 (.call false (.k (.c (.func 152 [] []))) [(.t 3), (.t 2), (.t 1), (.t 0)]) none .any] [5, 6, 7, 8]) (.block 2 [] c136_l2)))
instance : IsSeq c136_n15 c136_n16 (.seq (.block 0 [some 0, some 1, some 2, some 6, some 7] c136_l0) (.seq (.region [.op 23 (.move (.t 0)) none .any, .op 24 (.move (.t 5)) none .any, .op 25 (.move (.t 3)) none .any, .op 26 (.move (.t 5)) none .any, .op 27 (.call false (.k (.c (.func 152 [] []))) [(.t 3), (.t 2), (.t 1), (.t 0)]) none .any] [5, 6, 7, 8]) (.block 2 [] c136_l2))) := ⟨rfl⟩
def c136 : SCode := (.seq (.region [.op 6 (.move (.k (.c (.int .i64 20)))) none .any] [1, 2, 3, 0]) c136_n15)
def F136 : SFunc := .code .shared 63 3 [] [] c136

-- cmp.isNaN[int]
def c137 : SCode := (.seq (.region [.op 2 (.move (.k (.c (.bool false)))) none .any] [1]) (.seq (.region [.op 3 (.move (.t 0)) none .any, .op 4 (.move (.t 1)) none .any, .op 5 (.bin .neq (.t 1) (.t 0)) none .any, .op 2 (.move (.t 0)) none .any] [0]) .ret))
def F137 : SFunc := .code .pure 6 1 [some 2] [.tmp 0] c137

-- slices.IndexFunc[[]crux/member.Official,crux/member.Official]
-- c138_l0: env [0, 1, 7, 8]
@[simp] def c138_n4 : SCode := (.region [.op 10 (.move (.t 3)) none .any, .op 5 (.move (.t 0)) none .any] [2, 3, 0, 4, 5])
@[simp] def c138_n6 : SCode := (.region [.op 11 (.move (.t 1)) none .any, .op 12 (.move (.t 1)) none .any, .op 13 (.move (.t 4)) none .any, .op 14 (.idxSlice 4 (.t 1) (.t 0)) none .any, .op 15 (.load (some 4) (.t 0)) none .any, .op 16 (.call false (.t 4) [(.t 0)]) none .any] [6, 7, 8, 9, 10, 0])
def c138_n5 : SCode := .seq c138_n6 (.cond (.t 5) (.seq (.region [.op 17 (.move (.t 2)) none .any, .op 4 (.move (.t 0)) none .any] [0]) .ret) (.pre [0, 1, 3, 4] .skip))
instance : IsSeq c138_n5 c138_n6 (.cond (.t 5) (.seq (.region [.op 17 (.move (.t 2)) none .any, .op 4 (.move (.t 0)) none .any] [0]) .ret) (.pre [0, 1, 3, 4] .skip)) := ⟨rfl⟩
def c138_n3 : SCode := .seq c138_n4 c138_n5
instance : IsSeq c138_n3 c138_n4 c138_n5 := ⟨rfl⟩
def c138_n2 : SCode := .seq (.block 1 [some 0, some 1, some 7, some 8] c138_n3) (.region [.op 18 (.bin .add (.t 3) (.k (.c (.int .i64 1)))) none .any, .op 8 (.move (.t 0)) none .any] [2, 3, 4, 0])
instance : IsSeq c138_n2 (.block 1 [some 0, some 1, some 7, some 8] c138_n3) (.region [.op 18 (.bin .add (.t 3) (.k (.c (.int .i64 1)))) none .any, .op 8 (.move (.t 0)) none .any] [2, 3, 4, 0]) := ⟨rfl⟩
def c138_n1 : SCode := .seq (.cond (.t 4) (.pre [0, 1, 2, 3] .skip) (.pre [] (.exit 0))) c138_n2
instance : IsSeq c138_n1 (.cond (.t 4) (.pre [0, 1, 2, 3] .skip) (.pre [] (.exit 0))) c138_n2 := ⟨rfl⟩
def c138_l0b : SCode := (.seq (.region [.op 9 (.bin .lss (.t 3) (.t 2)) none .any] [1, 2, 3, 4, 0]) c138_n1)
def c138_l0 : SCode := .loop true c138_l0b
def c138 : SCode := (.seq (.region [.op 4 (.move (.k (.c (.int .i64 0)))) none .any] [1, 2]) (.seq (.seq (.region [.op 6 (.move (.t 0)) none .any, .op 7 (.len 1 (.t 0)) none .any, .op 8 (.move (.k (.c (.int .i64 0)))) none .any] [3, 4, 1, 0]) (.block 0 [] c138_l0)) (.seq (.region [.op 4 (.move (.k (.c (.int .i64 (-1))))) none .any] [0]) .ret)))
def F138 : SFunc := .code .pure 19 2 [some 4] [.tmp 0] c138

-- slices.Contains[[]string,string]
def c139 : SCode := (.seq (.region [.op 4 (.move (.k (.c (.bool false)))) none .any] [1, 2]) (.seq (.region [.op 5 (.move (.t 0)) none .any, .op 6 (.move (.t 2)) none .any, .op 7 (.call false (.k (.c (.func 154 [] []))) [(.t 1), (.t 0)]) none .any, .op 8 (.bin .geq (.t 0) (.k (.c (.int .i64 0)))) none .any, .op 4 (.move (.t 0)) none .any] [0]) .ret))
def F139 : SFunc := .code .pure 9 2 [some 4] [.tmp 0] c139

-- slices.IndexFunc[[]crux/member.Post,crux/member.Post]
-- c140_l0: env [0, 1, 7, 8]
@[simp] def c140_n4 : SCode := (.region [.op 10 (.move (.t 3)) none .any, .op 5 (.move (.t 0)) none .any] [2, 3, 0, 4, 5])
@[simp] def c140_n6 : SCode := (.region [.op 11 (.move (.t 1)) none .any, .op 12 (.move (.t 1)) none .any, .op 13 (.move (.t 4)) none .any, .op 14 (.idxSlice 4 (.t 1) (.t 0)) none .any, .op 15 (.load (some 4) (.t 0)) none .any, .op 16 (.call false (.t 4) [(.t 0)]) none .any] [6, 7, 8, 9, 10, 0])
def c140_n5 : SCode := .seq c140_n6 (.cond (.t 5) (.seq (.region [.op 17 (.move (.t 2)) none .any, .op 4 (.move (.t 0)) none .any] [0]) .ret) (.pre [0, 1, 3, 4] .skip))
instance : IsSeq c140_n5 c140_n6 (.cond (.t 5) (.seq (.region [.op 17 (.move (.t 2)) none .any, .op 4 (.move (.t 0)) none .any] [0]) .ret) (.pre [0, 1, 3, 4] .skip)) := ⟨rfl⟩
def c140_n3 : SCode := .seq c140_n4 c140_n5
instance : IsSeq c140_n3 c140_n4 c140_n5 := ⟨rfl⟩
def c140_n2 : SCode := .seq (.block 1 [some 0, some 1, some 7, some 8] c140_n3) (.region [.op 18 (.bin .add (.t 3) (.k (.c (.int .i64 1)))) none .any, .op 8 (.move (.t 0)) none .any] [2, 3, 4, 0])
instance : IsSeq c140_n2 (.block 1 [some 0, some 1, some 7, some 8] c140_n3) (.region [.op 18 (.bin .add (.t 3) (.k (.c (.int .i64 1)))) none .any, .op 8 (.move (.t 0)) none .any] [2, 3, 4, 0]) := ⟨rfl⟩
def c140_n1 : SCode := .seq (.cond (.t 4) (.pre [0, 1, 2, 3] .skip) (.pre [] (.exit 0))) c140_n2
instance : IsSeq c140_n1 (.cond (.t 4) (.pre [0, 1, 2, 3] .skip) (.pre [] (.exit 0))) c140_n2 := ⟨rfl⟩
def c140_l0b : SCode := (.seq (.region [.op 9 (.bin .lss (.t 3) (.t 2)) none .any] [1, 2, 3, 4, 0]) c140_n1)
def c140_l0 : SCode := .loop true c140_l0b
def c140 : SCode := (.seq (.region [.op 4 (.move (.k (.c (.int .i64 0)))) none .any] [1, 2]) (.seq (.seq (.region [.op 6 (.move (.t 0)) none .any, .op 7 (.len 1 (.t 0)) none .any, .op 8 (.move (.k (.c (.int .i64 0)))) none .any] [3, 4, 1, 0]) (.block 0 [] c140_l0)) (.seq (.region [.op 4 (.move (.k (.c (.int .i64 (-1))))) none .any] [0]) .ret)))
def F140 : SFunc := .code .pure 19 2 [some 4] [.tmp 0] c140

-- (crux/member.Jury).completes
-- c142_l0: env [1, 2, 3, 4, 9, 10, 25, 26]
-- c142_l1: env [2, 3, 4, 9, 10, 42, 43, 44]
@[simp] def c142_n2 : SCode := (.cond (.t 8) (.pre [0, 1, 2, 3, 4, 5, 6, 7] .skip) (.pre [0, 1, 2, 3, 4, 5] (.exit 0)))
@[simp] def c142_n5 : SCode := (.region [.op 28 (.move (.t 7)) none .any, .op 11 (.move (.t 0)) none .any] [2, 3, 4, 5, 6, 7, 0, 8, 9])
@[simp] def c142_n6 : SCode := (.draw 1 [.op 29 (.fieldAddr 0 (.t 4)) none .any, .op 30 (.load none (.t 0)) none .var, .op 31 (.move (.t 8)) none .any, .op 32 (.fieldAddr 0 (.t 7)) none .any, .op 33 (.load none (.t 0)) none .var, .op 34 (.move (.t 11)) none .any, .op 35 (.idxSlice 4 (.t 1) (.t 0)) none .any, .op 36 (.fieldAddr 2 (.t 0)) none .any, .op 37 (.load none (.t 0)) none .old, .op 38 (.call false (.k (.c (.func 157 [] []))) [(.t 0)]) (some 0) .any, .op 39 (.idxSlice 4 (.t 8) (.t 7)) none .any, .op 40 (.fieldAddr 2 (.t 0)) none .any, .eff (.store 1 (.t 0) (.t 2)) none .old] [12, 13, 14, 15, 16, 17, 19, 20])
def c142_n4 : SCode := .seq c142_n5 c142_n6
instance : IsSeq c142_n4 c142_n5 c142_n6 := ⟨rfl⟩
@[simp] def c142_n7 : SCode := (.block 1 [some 1, some 2, some 3, some 4, some 9, some 10, some 25, some 26] c142_n4)
def c142_n3 : SCode := .seq c142_n7 (.region [.op 41 (.bin .add (.t 7) (.k (.c (.int .i64 1)))) none .any, .op 26 (.move (.t 0)) none .any] [2, 3, 4, 5, 6, 7, 8, 0])
instance : IsSeq c142_n3 c142_n7 (.region [.op 41 (.bin .add (.t 7) (.k (.c (.int .i64 1)))) none .any, .op 26 (.move (.t 0)) none .any] [2, 3, 4, 5, 6, 7, 8, 0]) := ⟨rfl⟩
def c142_n1 : SCode := .seq c142_n2 c142_n3
instance : IsSeq c142_n1 c142_n2 c142_n3 := ⟨rfl⟩
def c142_l0b : SCode := (.seq (.region [.op 27 (.bin .lss (.t 7) (.t 6)) none .any] [1, 2, 3, 4, 5, 6, 7, 8, 0]) c142_n1)
def c142_l0 : SCode := .loop true c142_l0b
@[simp] def c142_n9 : SCode := (.cond (.t 8) (.pre [0, 1, 2, 3, 4, 5, 6, 7] .skip) (.pre [1, 2, 3, 4] (.exit 2)))
@[simp] def c142_n12 : SCode := (.region [.op 46 (.move (.t 7)) none .any, .op 47 (.idxSlice 1 (.t 6) (.t 8)) none .any, .op 48 (.load none (.t 0)) none .any, .op 12 (.move (.t 2)) none .any, .op 13 (.move (.t 1)) none .any] [5, 6, 7, 8, 9, 1, 0, 10, 11, 12])
@[simp] def c142_n14 : SCode := (.seq (.region [.op 49 (.move (.t 0)) none .any, .op 50 (.move (.t 6)) none .any, .op 51 (.bin .shr (.t 1) (.t 0)) none .any, .op 52 (.bin .and (.t 0) (.k (.c (.int .u64 1)))) none .any, .op 53 (.bin .eql (.t 0) (.k (.c (.int .u64 1)))) none .any, .op 54 (.move (.t 0)) none .any, .orN 57 0 [.op 55 (.move (.t 12)) none .any, .op 56 (.bin .lss (.t 0) (.k (.c (.int .i64 0)))) none .any] (.t 0)] [7, 8, 9, 10, 11, 12, 13, 14, 15, 16, 0]) (.cond (.t 10) (.pre [0, 1, 2, 3, 4, 7, 8, 9] (.exit 3)) (.pre [0, 1, 2, 3, 4, 5, 6, 7, 8, 9] .skip)))
@[simp] def c142_n16 : SCode := (.region [.op 58 (.move (.t 4)) none .any, .op 59 (.move (.t 6)) none .any, .op 60 (.bin .shl (.k (.c (.int .u64 1))) (.t 0)) none .any, .op 61 (.bin .or (.t 2) (.t 0)) none .any, .op 10 (.move (.t 0)) none .any] [5, 6, 7, 8, 0, 10, 11, 12, 13, 14])
@[simp] def c142_n18 : SCode := (.draw 0 [.op 62 (.fieldAddr 1 (.t 3)) none .any, .op 63 (.load none (.t 0)) none .var, .op 64 (.move (.t 7)) none .any, .op 65 (.fieldAddr 1 (.t 6)) none .any, .op 66 (.load none (.t 0)) none .var, .op 67 (.move (.t 10)) none .any, .op 68 (.idxSlice 4 (.t 1) (.t 0)) none .any, .op 69 (.fieldAddr 0 (.t 0)) none .any, .op 70 (.load none (.t 0)) none .old, .op 71 (.bin .add (.k (.c (.str [112, 111, 115, 116, 32]))) (.t 0)) none .any, .op 72 (.idxSlice 4 (.t 8) (.t 7)) none .any, .op 73 (.fieldAddr 1 (.t 0)) none .any, .eff (.store 1 (.t 0) (.t 2)) none .old] [12, 13, 14, 15, 16, 17, 18, 19, 20, 21])
@[simp] def c142_n19 : SCode := (.draw 2 [.op 74 (.fieldAddr 0 (.t 3)) none .any, .op 75 (.load none (.t 0)) none .var, .op 76 (.move (.t 8)) none .any, .op 77 (.fieldAddr 0 (.t 6)) none .any, .op 78 (.load none (.t 0)) none .var, .op 79 (.move (.t 11)) none .any, .op 80 (.idxSlice 4 (.t 1) (.t 0)) none .any, .op 81 (.fieldAddr 2 (.t 0)) none .any, .op 82 (.load none (.t 0)) none .old, .op 83 (.fieldAddr 1 (.t 12)) none .any, .op 84 (.load none (.t 0)) none .var, .op 85 (.move (.t 16)) none .any, .op 86 (.idxSlice 4 (.t 1) (.t 0)) none .any, .op 87 (.fieldAddr 1 (.t 0)) none .any, .op 88 (.load none (.t 0)) none .old, .op 89 (.buildSlice 2 none 1 [(.c (.str []))] [(0, (.t 0))]) (some 0) .any, .op 90 (.append none 16 (.t 7) (.t 0)) (some 1) .row, .op 91 (.idxSlice 4 (.t 15) (.t 14)) none .any, .op 92 (.fieldAddr 2 (.t 0)) none .any, .eff (.store 1 (.t 0) (.t 2)) none .old] [19, 20, 21, 22, 23, 26, 27, 28])
def c142_n17 : SCode := .seq c142_n18 c142_n19
instance : IsSeq c142_n17 c142_n18 c142_n19 := ⟨rfl⟩
def c142_n15 : SCode := .seq c142_n16 c142_n17
instance : IsSeq c142_n15 c142_n16 c142_n17 := ⟨rfl⟩
def c142_n13 : SCode := .seq c142_n14 c142_n15
instance : IsSeq c142_n13 c142_n14 c142_n15 := ⟨rfl⟩
def c142_n11 : SCode := .seq c142_n12 c142_n13
instance : IsSeq c142_n11 c142_n12 c142_n13 := ⟨rfl⟩
@[simp] def c142_n20 : SCode := (.block 3 [some 2, some 3, some 4, some 9, some 10, some 42, some 43, some 44] c142_n11)
def c142_n10 : SCode := .seq c142_n20 (.region [.op 93 (.bin .add (.t 7) (.k (.c (.int .i64 1)))) none .any, .op 44 (.move (.t 0)) none .any] [2, 3, 4, 5, 6, 7, 8, 0])
instance : IsSeq c142_n10 c142_n20 (.region [.op 93 (.bin .add (.t 7) (.k (.c (.int .i64 1)))) none .any, .op 44 (.move (.t 0)) none .any] [2, 3, 4, 5, 6, 7, 8, 0]) := ⟨rfl⟩
def c142_n8 : SCode := .seq c142_n9 c142_n10
instance : IsSeq c142_n8 c142_n9 c142_n10 := ⟨rfl⟩
def c142_l1b : SCode := (.seq (.region [.op 45 (.bin .lss (.t 7) (.t 6)) none .any] [1, 2, 3, 4, 5, 6, 7, 8, 0]) c142_n8)
def c142_l1 : SCode := .loop true c142_l1b
@[simp] def c142_n22 : SCode := (.draw 3 [.op 15 (.fieldAddr 0 (.t 3)) none .any, .op 16 (.load none (.t 0)) none .var, .op 17 (.call true (.k (.c (.func 155 [] []))) [(.t 0)]) (some 0) .any, .op 18 (.fieldAddr 1 (.t 6)) none .any, .op 19 (.load none (.t 0)) none .var, .op 20 (.call true (.k (.c (.func 156 [] []))) [(.t 0)]) (some 1) .any, .op 21 (.build [.nil, .nil] [(0, 1, (.t 3)), (1, 1, (.t 0))]) none .any, .op 9 (.new [.nil, .nil]) (some 2) .any, .eff (.store 2 (.t 0) (.t 1)) none .new] [8, 9, 10, 11, 0])
@[simp] def c142_n24 : SCode := (.region [.op 22 (.move (.t 1)) none .any, .op 10 (.move (.t 0)) none .any] [2, 3, 4, 5, 6, 0])
@[simp] def c142_n26 : SCode := (.seq (.region [.op 23 (.fieldAddr 0 (.t 4)) none .any, .op 24 (.load none (.t 0)) none .any, .op 25 (.len 1 (.t 0)) none .any, .op 26 (.move (.k (.c (.int .i64 0)))) none .any] [4, 5, 6, 7, 8, 9, 1, 0]) (.block 0 [some 1, some 2, some 3, some 4, some 9, some 10] c142_l0))
@[simp] def c142_n28 : SCode := (.seq (.region [.op 42 (.move (.t 0)) none .any, .op 43 (.len 1 (.t 0)) none .any, .op 44 (.move (.k (.c (.int .i64 0)))) none .any] [4, 5, 6, 7, 8, 2, 1, 0]) (.block 2 [some 3, some 4, some 9, some 10] c142_l1))
@[simp] def c142_n30 : SCode := (.region [.op 94 (.load (some 2) (.t 1)) none .any, .op 95 (.call false (.k (.c (.func 120 [] []))) [(.t 0), (.k (.c (.int .i64 24)))]) none .any, .op 14 (.move (.t 0)) none .any] [3, 5, 6, 0])
@[simp] def c142_n32 : SCode := (.seq (.region [.op 96 (.move (.t 0)) none .any, .op 97 (.bin .geq (.t 0) (.k (.c (.int .i64 0)))) none .any] [2, 3, 4, 5, 0]) (.cond (.t 4) (.region [.op 98 (.move (.t 3)) none .any, .op 99 (.move (.t 1)) none .any, .op 100 (.idxSlice 1 (.t 1) (.t 0)) none .any, .eff (.store 1 (.t 0) (.k (.c (.int .i64 0)))) none .any] [4, 5, 6]) (.pre [1, 2, 3] .skip)))
def c142_n31 : SCode := .seq c142_n32 (.seq (.region [.op 101 (.load (some 2) (.t 0)) none .any, .op 102 (.move (.t 2)) none .any, .op 103 (.move (.t 4)) none .any, .op 104 (.call false (.k (.c (.func 121 [] []))) [(.t 2), (.t 1), (.t 0)]) none .any, .op 8 (.move (.t 0)) none .any] [0]) .ret)
instance : IsSeq c142_n31 c142_n32 (.seq (.region [.op 101 (.load (some 2) (.t 0)) none .any, .op 102 (.move (.t 2)) none .any, .op 103 (.move (.t 4)) none .any, .op 104 (.call false (.k (.c (.func 121 [] []))) [(.t 2), (.t 1), (.t 0)]) none .any, .op 8 (.move (.t 0)) none .any] [0]) .ret) := ⟨rfl⟩
def c142_n29 : SCode := .seq c142_n30 c142_n31
instance : IsSeq c142_n29 c142_n30 c142_n31 := ⟨rfl⟩
def c142_n27 : SCode := .seq c142_n28 c142_n29
instance : IsSeq c142_n27 c142_n28 c142_n29 := ⟨rfl⟩
def c142_n25 : SCode := .seq c142_n26 c142_n27
instance : IsSeq c142_n25 c142_n26 c142_n27 := ⟨rfl⟩
def c142_n23 : SCode := .seq c142_n24 c142_n25
instance : IsSeq c142_n23 c142_n24 c142_n25 := ⟨rfl⟩
def c142_n21 : SCode := .seq c142_n22 c142_n23
instance : IsSeq c142_n21 c142_n22 c142_n23 := ⟨rfl⟩
def c142 : SCode := (.seq (.region [.op 4 (.box (.t 0)) none .any, .op 8 (.move (.k (.c (.bool false)))) none .any] [3, 4, 5, 1]) c142_n21)
def F142 : SFunc := .code .pure 105 4 [some 8] [.tmp 0] c142

-- (*crux/member.filling).place
-- c143_l0: env [0, 1, 2, 3, 30, 31]
@[simp] def c143_n4 : SCode := (.region [.op 33 (.move (.t 5)) none .any, .op 9 (.move (.t 0)) none .any] [2, 3, 4, 5, 0, 6, 7])
@[simp] def c143_n6 : SCode := (.region [.op 34 (.move (.t 4)) none .any, .op 35 (.move (.t 1)) none .any, .op 36 (.nilCheck (.t 0)) none .any, .op 37 (.fieldAddr 0 (.t 0)) none .any, .op 38 (.fieldAddr 1 (.t 0)) none .any, .op 39 (.load none (.t 0)) none .any, .op 40 (.move (.t 7)) none .any, .op 41 (.idxSlice 4 (.t 1) (.t 0)) none .any, .op 42 (.fieldAddr 2 (.t 0)) none .any, .op 43 (.load none (.t 0)) none .any, .op 44 (.build [(.c (.int .i64 0)), (.c (.int .i64 0))] [(0, 1, (.t 9)), (1, 1, (.t 0))]) none .any, .op 10 (.new [(.c (.int .i64 0)), (.c (.int .i64 0))]) none .any, .eff (.store 2 (.t 0) (.t 1)) none .any] [12, 13, 14, 15, 16, 0, 17, 18])
@[simp] def c143_n8 : SCode := (.seq (.region [.op 45 (.move (.t 0)) none .any, .op 46 (.nilCheck (.t 0)) none .any, .op 47 (.fieldAddr 0 (.t 0)) none .any, .op 48 (.load (some 2) (.t 0)) none .any, .op 49 (.move (.t 8)) none .any, .op 50 (.move (.t 6)) none .any, .op 51 (.call false (.k (.c (.func 111 [] []))) [(.t 2), (.t 1), (.t 0)]) none .any, .op 52 (.not (.t 0)) none .any, .op 53 (.move (.t 0)) none .any, .orN 57 0 [.op 54 (.move (.t 11)) none .any, .op 55 (.load (some 2) (.t 15)) none .any, .op 56 (.lookup (.many [0, 0]) (.c (.bool false)) false (.t 1) (.t 0)) none .any] (.t 0)] [10, 11, 12, 13, 14, 15, 16, 17, 0]) (.cond (.t 8) (.pre [0, 1, 2, 3, 6, 7] (.exit 1)) (.pre [0, 1, 2, 3, 4, 5, 6, 7] .skip)))
@[simp] def c143_n10 : SCode := (.region [.op 58 (.move (.t 2)) none .any, .op 59 (.load (some 2) (.t 6)) none .any, .eff (.mapUpdate (.many [0, 0]) (.t 1) (.t 0) (.k (.c (.bool true)))) none .any] [2, 3, 4, 5, 6, 7, 8, 9])
@[simp] def c143_n13 : SCode := (.region [.op 63 (.move (.t 5)) none .any, .op 64 (.bin .geq (.t 0) (.k (.c (.int .i64 0)))) none .any] [2, 3, 4, 5, 6, 7, 8, 9, 0])
@[simp] def c143_n18 : SCode := (.region [.op 70 (.move (.t 0)) none .any, .op 71 (.nilCheck (.t 0)) none .any, .op 72 (.fieldAddr 3 (.t 0)) none .any, .op 73 (.load none (.t 0)) none .any, .op 74 (.move (.t 5)) none .any, .op 75 (.move (.t 9)) none .any, .op 76 (.idxSlice 1 (.t 2) (.t 1)) none .any, .eff (.store 1 (.t 0) (.t 1)) none .any] [])
def c143_n17 : SCode := .seq c143_n18 (.seq (.region [.op 8 (.move (.k (.c (.bool true)))) none .any] [0]) .ret)
instance : IsSeq c143_n17 c143_n18 (.seq (.region [.op 8 (.move (.k (.c (.bool true)))) none .any] [0]) .ret) := ⟨rfl⟩
def c143_n16 : SCode := .cond (.t 7) c143_n17 (.pre [0, 1, 2, 3, 5, 6] .skip)
instance : IsCond c143_n16 (.t 7) c143_n17 (.pre [0, 1, 2, 3, 5, 6] .skip) := ⟨rfl⟩
@[simp] def c143_n19 : SCode := (.seq (.region [.op 65 (.move (.t 0)) none .any, .op 66 (.move (.t 6)) none .any, .op 67 (.move (.t 4)) none .any, .op 68 (.move (.t 6)) none .any, .op 69 (.call false (.k (.c (.func 143 [] []))) [(.t 3), (.t 2), (.t 1), (.t 0)]) none .any] [5, 6, 7, 8, 9, 11, 12, 0]) c143_n16)
def c143_n15 : SCode := .seq c143_n19 (.exit 1)
instance : IsSeq c143_n15 c143_n19 (.exit 1) := ⟨rfl⟩
def c143_n14 : SCode := .cond (.t 8) c143_n15 (.pre [0, 1, 2, 3, 4, 6, 7] .skip)
instance : IsCond c143_n14 (.t 8) c143_n15 (.pre [0, 1, 2, 3, 4, 6, 7] .skip) := ⟨rfl⟩
def c143_n12 : SCode := .seq c143_n13 c143_n14
instance : IsSeq c143_n12 c143_n13 c143_n14 := ⟨rfl⟩
@[simp] def c143_n20 : SCode := (.seq (.region [.op 60 (.move (.t 0)) none .any, .op 61 (.load (some 2) (.t 6)) none .any, .op 62 (.call false (.k (.c (.func 158 [] []))) [(.t 1), (.t 0)]) none .any, .op 11 (.move (.t 0)) none .any] [4, 5, 6, 7, 8, 0, 10, 11]) c143_n12)
@[simp] def c143_n22 : SCode := (.region [.op 77 (.move (.t 0)) none .any, .op 78 (.move (.t 5)) none .any, .op 79 (.move (.t 4)) none .any, .op 80 (.move (.t 6)) none .any, .op 81 (.call false (.k (.c (.func 159 [] []))) [(.t 3), (.t 2), (.t 1), (.t 0)]) none .any] [5, 6, 7, 8, 9, 10, 11, 0])
@[simp] def c143_n25 : SCode := (.region [.op 82 (.move (.t 0)) none .any, .op 83 (.nilCheck (.t 0)) none .any, .op 84 (.fieldAddr 3 (.t 0)) none .any, .op 85 (.load none (.t 0)) none .any, .op 86 (.move (.t 5)) none .any, .op 87 (.move (.t 9)) none .any, .op 88 (.idxSlice 1 (.t 2) (.t 1)) none .any, .eff (.store 1 (.t 0) (.t 1)) none .any] [7, 11])
@[simp] def c143_n27 : SCode := (.region [.op 89 (.move (.t 0)) none .any, .op 90 (.nilCheck (.t 0)) none .any, .op 91 (.fieldAddr 4 (.t 0)) none .any, .op 92 (.load none (.t 0)) none .any, .op 93 (.move (.t 5)) none .any, .op 94 (.idxSlice 1 (.t 1) (.t 0)) none .any, .op 95 (.load none (.t 0)) none .any, .op 96 (.bin .add (.t 0) (.k (.c (.int .i64 1)))) none .any, .op 97 (.idxSlice 1 (.t 4) (.t 3)) none .any, .eff (.store 1 (.t 0) (.t 1)) none .any] [])
def c143_n26 : SCode := .seq c143_n27 (.seq (.region [.op 8 (.move (.k (.c (.bool true)))) none .any] [0]) .ret)
instance : IsSeq c143_n26 c143_n27 (.seq (.region [.op 8 (.move (.k (.c (.bool true)))) none .any] [0]) .ret) := ⟨rfl⟩
def c143_n24 : SCode := .seq c143_n25 c143_n26
instance : IsSeq c143_n24 c143_n25 c143_n26 := ⟨rfl⟩
def c143_n23 : SCode := .cond (.t 7) c143_n24 (.pre [0, 1, 2, 3, 5, 6] .skip)
instance : IsCond c143_n23 (.t 7) c143_n24 (.pre [0, 1, 2, 3, 5, 6] .skip) := ⟨rfl⟩
def c143_n21 : SCode := .seq c143_n22 c143_n23
instance : IsSeq c143_n21 c143_n22 c143_n23 := ⟨rfl⟩
def c143_n11 : SCode := .seq c143_n20 c143_n21
instance : IsSeq c143_n11 c143_n20 c143_n21 := ⟨rfl⟩
def c143_n9 : SCode := .seq c143_n10 c143_n11
instance : IsSeq c143_n9 c143_n10 c143_n11 := ⟨rfl⟩
def c143_n7 : SCode := .seq c143_n8 c143_n9
instance : IsSeq c143_n7 c143_n8 c143_n9 := ⟨rfl⟩
def c143_n5 : SCode := .seq c143_n6 c143_n7
instance : IsSeq c143_n5 c143_n6 c143_n7 := ⟨rfl⟩
def c143_n3 : SCode := .seq c143_n4 c143_n5
instance : IsSeq c143_n3 c143_n4 c143_n5 := ⟨rfl⟩
def c143_n2 : SCode := .seq (.block 1 [some 0, some 1, some 2, some 3, some 30, some 31] c143_n3) (.region [.op 98 (.bin .add (.t 5) (.k (.c (.int .i64 1)))) none .any, .op 31 (.move (.t 0)) none .any] [2, 3, 4, 5, 6, 0])
instance : IsSeq c143_n2 (.block 1 [some 0, some 1, some 2, some 3, some 30, some 31] c143_n3) (.region [.op 98 (.bin .add (.t 5) (.k (.c (.int .i64 1)))) none .any, .op 31 (.move (.t 0)) none .any] [2, 3, 4, 5, 6, 0]) := ⟨rfl⟩
def c143_n1 : SCode := .seq (.cond (.t 6) (.pre [0, 1, 2, 3, 4, 5] .skip) (.pre [] (.exit 0))) c143_n2
instance : IsSeq c143_n1 (.cond (.t 6) (.pre [0, 1, 2, 3, 4, 5] .skip) (.pre [] (.exit 0))) c143_n2 := ⟨rfl⟩
def c143_l0b : SCode := (.seq (.region [.op 32 (.bin .lss (.t 5) (.t 4)) none .any] [1, 2, 3, 4, 5, 6, 0]) c143_n1)
def c143_l0 : SCode := .loop true c143_l0b
@[simp] def c143_n29 : SCode := (.seq (.region [.op 12 (.move (.t 0)) none .any, .op 13 (.nilCheck (.t 0)) none .any, .op 14 (.fieldAddr 5 (.t 0)) none .any, .op 15 (.load none (.t 0)) none .any, .op 16 (.move (.t 5)) none .any, .op 17 (.idxSlice 1 (.t 1) (.t 0)) none .any, .op 18 (.load none (.t 0)) none .any] [7, 8, 9, 10, 0]) (.cond (.t 4) (.seq (.region [.op 8 (.move (.k (.c (.bool false)))) none .any] [0]) .ret) (.pre [0, 1, 2, 3] .skip)))
@[simp] def c143_n31 : SCode := (.region [.op 19 (.move (.t 0)) none .any, .op 20 (.nilCheck (.t 0)) none .any, .op 21 (.fieldAddr 5 (.t 0)) none .any, .op 22 (.load none (.t 0)) none .any, .op 23 (.move (.t 5)) none .any, .op 24 (.idxSlice 1 (.t 1) (.t 0)) none .any, .eff (.store 1 (.t 0) (.k (.c (.bool true)))) none .any] [6, 7, 8, 9])
@[simp] def c143_n33 : SCode := (.seq (.region [.op 25 (.move (.t 0)) none .any, .op 26 (.nilCheck (.t 0)) none .any, .op 27 (.fieldAddr 0 (.t 0)) none .any, .op 28 (.fieldAddr 0 (.t 0)) none .any, .op 29 (.load none (.t 0)) none .any, .op 30 (.len 1 (.t 0)) none .any, .op 31 (.move (.k (.c (.int .i64 0)))) none .any] [7, 8, 9, 10, 1, 0]) (.block 0 [] c143_l0))
def c143_n32 : SCode := .seq c143_n33 (.seq (.region [.op 8 (.move (.k (.c (.bool false)))) none .any] [0]) .ret)
instance : IsSeq c143_n32 c143_n33 (.seq (.region [.op 8 (.move (.k (.c (.bool false)))) none .any] [0]) .ret) := ⟨rfl⟩
def c143_n30 : SCode := .seq c143_n31 c143_n32
instance : IsSeq c143_n30 c143_n31 c143_n32 := ⟨rfl⟩
def c143_n28 : SCode := .seq c143_n29 c143_n30
instance : IsSeq c143_n28 c143_n29 c143_n30 := ⟨rfl⟩
def c143 : SCode := (.seq (.region [.op 8 (.move (.k (.c (.bool false)))) none .any] [1, 2, 3, 4]) c143_n28)
def F143 : SFunc := .code .shared 99 4 [some 8] [.tmp 0] c143

-- math/bits.OnesCount
@[simp] def c144_n2 : SCode := (.cond (.k (.c (.bool false))) (.seq (.region [.op 3 (.move (.t 0)) none .any, .op 4 (.conv .u32 (.t 0)) none .any, .op 5 (.call false (.k (.c (.func 160 [] []))) [(.t 0)]) none .any, .op 2 (.move (.t 0)) none .any] [0]) .ret) .skip)
def c144_n1 : SCode := .seq c144_n2 (.seq (.region [.op 6 (.move (.t 0)) none .any, .op 7 (.call false (.k (.c (.func 161 [] []))) [(.t 0)]) none .any, .op 2 (.move (.t 0)) none .any] [0]) .ret)
instance : IsSeq c144_n1 c144_n2 (.seq (.region [.op 6 (.move (.t 0)) none .any, .op 7 (.call false (.k (.c (.func 161 [] []))) [(.t 0)]) none .any, .op 2 (.move (.t 0)) none .any] [0]) .ret) := ⟨rfl⟩
def c144 : SCode := (.seq (.region [.op 2 (.move (.k (.c (.int .i64 0)))) none .any] [1]) c144_n1)
def F144 : SFunc := .code .pure 8 1 [some 2] [.tmp 0] c144

-- slices.ContainsFunc[[]crux/api.Climber,crux/api.Climber]
def c145 : SCode := (.seq (.region [.op 4 (.move (.k (.c (.bool false)))) none .any] [1, 2]) (.seq (.region [.op 5 (.move (.t 0)) none .any, .op 6 (.move (.t 2)) none .any, .op 7 (.call false (.k (.c (.func 162 [] []))) [(.t 1), (.t 0)]) none .any, .op 8 (.bin .geq (.t 0) (.k (.c (.int .i64 0)))) none .any, .op 4 (.move (.t 0)) none .any] [0]) .ret))
def F145 : SFunc := .code .pure 9 2 [some 4] [.tmp 0] c145

-- crux/member.checkClimber$1
def c146 : SCode := (.seq (.region [.op 2 (.box (.t 0)) none .any, .op 3 (.move (.k (.c (.bool false)))) none .any] [3, 1]) (.seq (.region [.op 4 (.fieldAddr 0 (.t 1)) none .any, .op 5 (.load none (.t 0)) none .any, .op 6 (.fieldAddr 0 (.t 2)) none .any, .op 7 (.load none (.t 0)) none .any, .op 8 (.bin .eql (.t 2) (.t 0)) none .any, .op 3 (.move (.t 0)) none .any] [0]) .ret))
def F146 : SFunc := .code .pure 9 2 [some 3] [.tmp 0] c146

-- slices.IndexFunc[[]crux/member.Category,crux/member.Category]
-- c147_l0: env [0, 1, 7, 8]
@[simp] def c147_n4 : SCode := (.region [.op 10 (.move (.t 3)) none .any, .op 5 (.move (.t 0)) none .any] [2, 3, 0, 4, 5])
@[simp] def c147_n6 : SCode := (.region [.op 11 (.move (.t 1)) none .any, .op 12 (.move (.t 1)) none .any, .op 13 (.move (.t 4)) none .any, .op 14 (.idxSlice 3 (.t 1) (.t 0)) none .any, .op 15 (.load (some 3) (.t 0)) none .any, .op 16 (.call false (.t 4) [(.t 0)]) none .any] [6, 7, 8, 9, 10, 0])
def c147_n5 : SCode := .seq c147_n6 (.cond (.t 5) (.seq (.region [.op 17 (.move (.t 2)) none .any, .op 4 (.move (.t 0)) none .any] [0]) .ret) (.pre [0, 1, 3, 4] .skip))
instance : IsSeq c147_n5 c147_n6 (.cond (.t 5) (.seq (.region [.op 17 (.move (.t 2)) none .any, .op 4 (.move (.t 0)) none .any] [0]) .ret) (.pre [0, 1, 3, 4] .skip)) := ⟨rfl⟩
def c147_n3 : SCode := .seq c147_n4 c147_n5
instance : IsSeq c147_n3 c147_n4 c147_n5 := ⟨rfl⟩
def c147_n2 : SCode := .seq (.block 1 [some 0, some 1, some 7, some 8] c147_n3) (.region [.op 18 (.bin .add (.t 3) (.k (.c (.int .i64 1)))) none .any, .op 8 (.move (.t 0)) none .any] [2, 3, 4, 0])
instance : IsSeq c147_n2 (.block 1 [some 0, some 1, some 7, some 8] c147_n3) (.region [.op 18 (.bin .add (.t 3) (.k (.c (.int .i64 1)))) none .any, .op 8 (.move (.t 0)) none .any] [2, 3, 4, 0]) := ⟨rfl⟩
def c147_n1 : SCode := .seq (.cond (.t 4) (.pre [0, 1, 2, 3] .skip) (.pre [] (.exit 0))) c147_n2
instance : IsSeq c147_n1 (.cond (.t 4) (.pre [0, 1, 2, 3] .skip) (.pre [] (.exit 0))) c147_n2 := ⟨rfl⟩
def c147_l0b : SCode := (.seq (.region [.op 9 (.bin .lss (.t 3) (.t 2)) none .any] [1, 2, 3, 4, 0]) c147_n1)
def c147_l0 : SCode := .loop true c147_l0b
def c147 : SCode := (.seq (.region [.op 4 (.move (.k (.c (.int .i64 0)))) none .any] [1, 2]) (.seq (.seq (.region [.op 6 (.move (.t 0)) none .any, .op 7 (.len 1 (.t 0)) none .any, .op 8 (.move (.k (.c (.int .i64 0)))) none .any] [3, 4, 1, 0]) (.block 0 [] c147_l0)) (.seq (.region [.op 4 (.move (.k (.c (.int .i64 (-1))))) none .any] [0]) .ret)))
def F147 : SFunc := .code .pure 19 2 [some 4] [.tmp 0] c147

-- math/bits.Len
@[simp] def c148_n2 : SCode := (.cond (.k (.c (.bool false))) (.seq (.region [.op 3 (.move (.t 0)) none .any, .op 4 (.conv .u32 (.t 0)) none .any, .op 5 (.call false (.k (.c (.func 163 [] []))) [(.t 0)]) none .any, .op 2 (.move (.t 0)) none .any] [0]) .ret) .skip)
def c148_n1 : SCode := .seq c148_n2 (.seq (.region [.op 6 (.move (.t 0)) none .any, .op 7 (.call false (.k (.c (.func 164 [] []))) [(.t 0)]) none .any, .op 2 (.move (.t 0)) none .any] [0]) .ret)
instance : IsSeq c148_n1 c148_n2 (.seq (.region [.op 6 (.move (.t 0)) none .any, .op 7 (.call false (.k (.c (.func 164 [] []))) [(.t 0)]) none .any, .op 2 (.move (.t 0)) none .any] [0]) .ret) := ⟨rfl⟩
def c148 : SCode := (.seq (.region [.op 2 (.move (.k (.c (.int .i64 0)))) none .any] [1]) c148_n1)
def F148 : SFunc := .code .pure 8 1 [some 2] [.tmp 0] c148

-- math/bits.Mul
@[simp] def c149_n3 : SCode := (.region [.op 11 (.move (.t 0)) none .any, .op 12 (.conv .u32 (.t 0)) none .any, .op 13 (.move (.t 3)) none .any, .op 14 (.conv .u32 (.t 0)) none .any, .op 15 (.call false (.k (.c (.func 165 [] []))) [(.t 2), (.t 0)]) none .any, .op 10 (.move (.t 0)) none .any, .op 16 (.extract (.t 0) 0) none .any, .op 17 (.extract (.t 1) 1) none .any, .op 6 (.move (.t 1)) none .any, .op 7 (.move (.t 1)) none .any] [1, 0])
def c149_n2 : SCode := .seq c149_n3 (.seq (.region [.op 18 (.move (.t 0)) none .any, .op 19 (.conv .u64 (.t 0)) none .any, .op 20 (.move (.t 3)) none .any, .op 21 (.conv .u64 (.t 0)) none .any, .op 4 (.move (.t 2)) none .any, .op 5 (.move (.t 1)) none .any] [1, 0]) .ret)
instance : IsSeq c149_n2 c149_n3 (.seq (.region [.op 18 (.move (.t 0)) none .any, .op 19 (.conv .u64 (.t 0)) none .any, .op 20 (.move (.t 3)) none .any, .op 21 (.conv .u64 (.t 0)) none .any, .op 4 (.move (.t 2)) none .any, .op 5 (.move (.t 1)) none .any] [1, 0]) .ret) := ⟨rfl⟩
@[simp] def c149_n5 : SCode := (.region [.op 23 (.move (.t 0)) none .any, .op 24 (.move (.t 2)) none .any, .op 25 (.call false (.k (.c (.func 166 [] []))) [(.t 1), (.t 0)]) none .any, .op 22 (.move (.t 0)) none .any, .op 26 (.extract (.t 0) 0) none .any, .op 27 (.extract (.t 1) 1) none .any, .op 8 (.move (.t 1)) none .any, .op 9 (.move (.t 1)) none .any] [1, 0])
def c149_n4 : SCode := .seq c149_n5 (.seq (.region [.op 28 (.move (.t 0)) none .any, .op 29 (.move (.t 2)) none .any, .op 4 (.move (.t 1)) none .any, .op 5 (.move (.t 1)) none .any] [1, 0]) .ret)
instance : IsSeq c149_n4 c149_n5 (.seq (.region [.op 28 (.move (.t 0)) none .any, .op 29 (.move (.t 2)) none .any, .op 4 (.move (.t 1)) none .any, .op 5 (.move (.t 1)) none .any] [1, 0]) .ret) := ⟨rfl⟩
def c149_n1 : SCode := .seq (.cond (.k (.c (.bool false))) c149_n2 .skip) c149_n4
instance : IsSeq c149_n1 (.cond (.k (.c (.bool false))) c149_n2 .skip) c149_n4 := ⟨rfl⟩
def c149 : SCode := (.seq (.region [.op 4 (.move (.k (.c (.int .u64 0)))) none .any, .op 5 (.move (.k (.c (.int .u64 0)))) none .any] [2, 3]) c149_n1)
def F149 : SFunc := .code .pure 30 2 [some 4, some 5] [.tmp 0, .tmp 1] c149

-- crux/number.isLetter
@[simp] def c150_n2 : SCode := (.region [.op 3 (.move (.t 0)) none .any, .op 4 (.bin .geq (.t 0) (.k (.c (.int .i32 97)))) none .any, .op 5 (.move (.t 0)) none .any, .andN 8 0 [.op 6 (.move (.t 3)) none .any, .op 7 (.bin .leq (.t 0) (.k (.c (.int .i32 122)))) none .any] (.t 0), .op 9 (.move (.t 0)) none .any, .orN 16 0 [.op 10 (.move (.t 5)) none .any, .op 11 (.bin .geq (.t 0) (.k (.c (.int .i32 65)))) none .any, .op 12 (.move (.t 0)) none .any, .andN 15 0 [.op 13 (.move (.t 8)) none .any, .op 14 (.bin .leq (.t 0) (.k (.c (.int .i32 90)))) none .any] (.t 0)] (.t 0), .op 2 (.move (.t 0)) none .any] [0])
def c150_n1 : SCode := .seq c150_n2 .ret
instance : IsSeq c150_n1 c150_n2 .ret := ⟨rfl⟩
def c150 : SCode := (.seq (.region [.op 2 (.move (.k (.c (.bool false)))) none .any] [1]) c150_n1)
def F150 : SFunc := .code .pure 17 1 [some 2] [.tmp 0] c150

-- slices.IndexFunc[[]crux/member.Licence,crux/member.Licence]
-- c151_l0: env [0, 1, 7, 8]
@[simp] def c151_n4 : SCode := (.region [.op 10 (.move (.t 3)) none .any, .op 5 (.move (.t 0)) none .any] [2, 3, 0, 4, 5])
@[simp] def c151_n6 : SCode := (.region [.op 11 (.move (.t 1)) none .any, .op 12 (.move (.t 1)) none .any, .op 13 (.move (.t 4)) none .any, .op 14 (.idxSlice 3 (.t 1) (.t 0)) none .any, .op 15 (.load (some 3) (.t 0)) none .any, .op 16 (.call false (.t 4) [(.t 0)]) none .any] [6, 7, 8, 9, 10, 0])
def c151_n5 : SCode := .seq c151_n6 (.cond (.t 5) (.seq (.region [.op 17 (.move (.t 2)) none .any, .op 4 (.move (.t 0)) none .any] [0]) .ret) (.pre [0, 1, 3, 4] .skip))
instance : IsSeq c151_n5 c151_n6 (.cond (.t 5) (.seq (.region [.op 17 (.move (.t 2)) none .any, .op 4 (.move (.t 0)) none .any] [0]) .ret) (.pre [0, 1, 3, 4] .skip)) := ⟨rfl⟩
def c151_n3 : SCode := .seq c151_n4 c151_n5
instance : IsSeq c151_n3 c151_n4 c151_n5 := ⟨rfl⟩
def c151_n2 : SCode := .seq (.block 1 [some 0, some 1, some 7, some 8] c151_n3) (.region [.op 18 (.bin .add (.t 3) (.k (.c (.int .i64 1)))) none .any, .op 8 (.move (.t 0)) none .any] [2, 3, 4, 0])
instance : IsSeq c151_n2 (.block 1 [some 0, some 1, some 7, some 8] c151_n3) (.region [.op 18 (.bin .add (.t 3) (.k (.c (.int .i64 1)))) none .any, .op 8 (.move (.t 0)) none .any] [2, 3, 4, 0]) := ⟨rfl⟩
def c151_n1 : SCode := .seq (.cond (.t 4) (.pre [0, 1, 2, 3] .skip) (.pre [] (.exit 0))) c151_n2
instance : IsSeq c151_n1 (.cond (.t 4) (.pre [0, 1, 2, 3] .skip) (.pre [] (.exit 0))) c151_n2 := ⟨rfl⟩
def c151_l0b : SCode := (.seq (.region [.op 9 (.bin .lss (.t 3) (.t 2)) none .any] [1, 2, 3, 4, 0]) c151_n1)
def c151_l0 : SCode := .loop true c151_l0b
def c151 : SCode := (.seq (.region [.op 4 (.move (.k (.c (.int .i64 0)))) none .any] [1, 2]) (.seq (.seq (.region [.op 6 (.move (.t 0)) none .any, .op 7 (.len 1 (.t 0)) none .any, .op 8 (.move (.k (.c (.int .i64 0)))) none .any] [3, 4, 1, 0]) (.block 0 [] c151_l0)) (.seq (.region [.op 4 (.move (.k (.c (.int .i64 (-1))))) none .any] [0]) .ret)))
def F151 : SFunc := .code .pure 19 2 [some 4] [.tmp 0] c151

-- slices.insertionSortCmpFunc[string]
-- c152_l0: env [0, 1, 2, 3, 8, 9]
-- c152_l1: env [0, 1, 2, 3, 8]
@[simp] def c152_n2 : SCode := (.draw 0 [.op 37 (.move (.t 0)) none .any, .op 38 (.move (.t 6)) none .any, .op 39 (.move (.t 2)) none .any, .op 40 (.move (.t 8)) none .any, .op 41 (.bin .sub (.t 0) (.k (.c (.int .i64 1)))) none .any, .op 42 (.move (.t 5)) none .any, .op 43 (.move (.t 11)) none .any, .op 44 (.bin .sub (.t 0) (.k (.c (.int .i64 1)))) none .any, .op 45 (.idxSlice 1 (.t 2) (.t 0)) none .any, .op 46 (.load none (.t 0)) none .old, .op 47 (.move (.t 10)) none .any, .op 48 (.move (.t 16)) none .any, .op 49 (.idxSlice 1 (.t 1) (.t 0)) none .any, .op 50 (.load none (.t 0)) none .old, .op 51 (.idxSlice 1 (.t 13) (.t 12)) none .any, .eff (.store 1 (.t 0) (.t 5)) none .old, .op 52 (.idxSlice 1 (.t 12) (.t 10)) none .any, .eff (.store 1 (.t 0) (.t 2)) none .old] [16, 17, 18, 19, 20, 21])
def c152_n1 : SCode := .seq (.block 3 [some 0, some 1, some 2, some 3, some 8, some 9] c152_n2) (.region [.op 35 (.move (.t 5)) none .any, .op 36 (.bin .sub (.t 0) (.k (.c (.int .i64 1)))) none .any, .op 9 (.move (.t 0)) none .any] [3, 4, 5, 6, 7, 0])
instance : IsSeq c152_n1 (.block 3 [some 0, some 1, some 2, some 3, some 8, some 9] c152_n2) (.region [.op 35 (.move (.t 5)) none .any, .op 36 (.bin .sub (.t 0) (.k (.c (.int .i64 1)))) none .any, .op 9 (.move (.t 0)) none .any] [3, 4, 5, 6, 7, 0]) := ⟨rfl⟩
def c152_l0b : SCode := (.seq (.seq (.draw 0 [.op 18 (.move (.t 5)) none .any, .op 19 (.move (.t 2)) none .any, .op 20 (.bin .gtr (.t 1) (.t 0)) none .any, .op 21 (.move (.t 0)) none .any, .andN 34 0 [.op 22 (.move (.t 7)) none .any, .op 23 (.move (.t 5)) none .any, .op 24 (.move (.t 11)) none .any, .op 25 (.idxSlice 1 (.t 1) (.t 0)) none .any, .op 26 (.load none (.t 0)) none .old, .op 27 (.move (.t 9)) none .any, .op 28 (.move (.t 15)) none .any, .op 29 (.bin .sub (.t 0) (.k (.c (.int .i64 1)))) none .any, .op 30 (.idxSlice 1 (.t 2) (.t 0)) none .any, .op 31 (.load none (.t 0)) none .old, .op 32 (.call false (.t 9) [(.t 5), (.t 0)]) none .any, .op 33 (.bin .lss (.t 0) (.k (.c (.int .i64 0)))) none .any] (.t 0)] [5, 6, 7, 8, 9, 10, 0]) (.cond (.t 6) (.pre [0, 1, 2, 3, 4, 5] .skip) (.pre [0, 1, 2, 3, 4] (.exit 2)))) c152_n1)
def c152_l0 : SCode := .loop true c152_l0b
@[simp] def c152_n4 : SCode := (.block 1 [some 0, some 1, some 2, some 3, some 8] (.seq (.region [.op 17 (.move (.t 4)) none .any, .op 9 (.move (.t 0)) none .any] [2, 3, 4, 5, 6, 0]) (.block 2 [some 0, some 1, some 2, some 3, some 8] c152_l0)))
def c152_n3 : SCode := .seq c152_n4 (.region [.op 15 (.move (.t 4)) none .any, .op 16 (.bin .add (.t 0) (.k (.c (.int .i64 1)))) none .any, .op 8 (.move (.t 0)) none .any] [3, 4, 5, 6, 0])
instance : IsSeq c152_n3 c152_n4 (.region [.op 15 (.move (.t 4)) none .any, .op 16 (.bin .add (.t 0) (.k (.c (.int .i64 1)))) none .any, .op 8 (.move (.t 0)) none .any] [3, 4, 5, 6, 0]) := ⟨rfl⟩
def c152_l1b : SCode := (.seq (.seq (.region [.op 12 (.move (.t 4)) none .any, .op 13 (.move (.t 3)) none .any, .op 14 (.bin .lss (.t 1) (.t 0)) none .any] [3, 4, 5, 6, 7, 0]) (.cond (.t 5) (.pre [0, 1, 2, 3, 4] .skip) (.pre [] (.exit 0)))) c152_n3)
def c152_l1 : SCode := .loop true c152_l1b
def c152 : SCode := (.seq (.region [.op 10 (.move (.t 1)) none .any, .op 11 (.bin .add (.t 0) (.k (.c (.int .i64 1)))) none .any, .op 8 (.move (.t 0)) none .any] [3, 4, 5, 6, 0]) (.block 0 [] c152_l1))
def F152 : SFunc := .code .shared 53 4 [] [] c152

end LM.G9

