/- Part 4 of what YteihlaoeolfkfaaPoo leans on. -/
import Derived.Test.YteihlaoeolfkfaaLib1
import Derived.Test.YteihlaoeolfkfaaLib2
import Derived.Test.YteihlaoeolfkfaaLib3
set_option linter.all false
namespace LM.GT
open Go LM
-- crux/cruxtop.TopKarabinerPool
-- c3_l0: env [0, 1, 5, 11, 95, 96, 97]
-- c3_l1: env [0, 1, 5, 15, 123, 124]
-- c3_l2: env [0, 5, 21, 22, 23, 202, 203, 204]
-- c3_l3: env [0, 5, 21, 22, 23]
@[simp] def c3_n4 : SCode := (.region [.op 99 (.move (.t 6)) none .any, .op 100 (.idxSlice 1 (.t 5) (.t 7)) none .any, .op 101 (.load none (.t 0)) none .any, .op 13 (.move (.t 2)) none .any, .op 14 (.move (.t 1)) none .any] [5, 6, 7, 8, 1, 0, 9, 10, 11])
@[simp] def c3_n6 : SCode := (.draw 0 [.op 102 (.move (.t 5)) none .any, .op 103 (.bin .lss (.t 0) (.k (.c (.int .i64 0)))) none .any, .op 104 (.move (.t 0)) none .any, .orN 109 0 [.op 105 (.move (.t 8)) none .any, .op 106 (.move (.t 4)) none .any, .op 107 (.len 1 (.t 0)) none .old, .op 108 (.bin .geq (.t 2) (.t 0)) none .any] (.t 0), .op 110 (.move (.t 0)) none .any, .orN 120 0 [.op 111 (.move (.t 8)) none .any, .op 112 (.move (.t 10)) none .any, .op 113 (.idxSlice 1 (.t 1) (.t 0)) none .any, .op 114 (.load none (.t 0)) none .old, .op 115 (.move (.t 9)) none .any, .op 116 (.move (.t 15)) none .any, .op 117 (.idxSlice 1 (.t 1) (.t 0)) none .any, .op 118 (.load none (.t 0)) none .old, .op 119 (.bin .neq (.t 4) (.t 0)) none .any] (.t 0)] [6, 7, 8, 9, 12, 13, 14, 0])
def c3_n5 : SCode := .seq c3_n6 (.cond (.t 7) (.seq (.region [.op 6 (.move (.k (.c (.bool false)))) none .any] [0]) .ret) (.pre [0, 1, 2, 3, 4, 5, 6] .skip))
instance : IsSeq c3_n5 c3_n6 (.cond (.t 7) (.seq (.region [.op 6 (.move (.k (.c (.bool false)))) none .any] [0]) .ret) (.pre [0, 1, 2, 3, 4, 5, 6] .skip)) := ⟨rfl⟩
def c3_n3 : SCode := .seq c3_n4 c3_n5
instance : IsSeq c3_n3 c3_n4 c3_n5 := ⟨rfl⟩
def c3_n2 : SCode := .seq (.block 1 [some 0, some 1, some 5, some 11, some 95, some 96, some 97] c3_n3) (.region [.op 121 (.bin .add (.t 6) (.k (.c (.int .i64 1)))) none .any, .op 97 (.move (.t 0)) none .any] [2, 3, 4, 5, 6, 7, 0])
instance : IsSeq c3_n2 (.block 1 [some 0, some 1, some 5, some 11, some 95, some 96, some 97] c3_n3) (.region [.op 121 (.bin .add (.t 6) (.k (.c (.int .i64 1)))) none .any, .op 97 (.move (.t 0)) none .any] [2, 3, 4, 5, 6, 7, 0]) := ⟨rfl⟩
def c3_n1 : SCode := .seq (.cond (.t 7) (.pre [0, 1, 2, 3, 4, 5, 6] .skip) (.pre [0, 1, 2] (.exit 0))) c3_n2
instance : IsSeq c3_n1 (.cond (.t 7) (.pre [0, 1, 2, 3, 4, 5, 6] .skip) (.pre [0, 1, 2] (.exit 0))) c3_n2 := ⟨rfl⟩
def c3_l0b : SCode := (.seq (.region [.op 98 (.bin .lss (.t 6) (.t 5)) none .any] [1, 2, 3, 4, 5, 6, 7, 0]) c3_n1)
def c3_l0 : SCode := .loop true c3_l0b
@[simp] def c3_n10 : SCode := (.region [.op 126 (.move (.t 5)) none .any, .op 16 (.move (.t 0)) none .any] [2, 3, 4, 5, 0, 6, 7])
@[simp] def c3_n11 : SCode := (.region [.op 127 (.move (.t 3)) none .any, .op 128 (.move (.t 2)) none .any, .op 129 (.move (.t 3)) none .any, .op 130 (.len 1 (.t 0)) none .any, .op 131 (.bin .sub (.t 0) (.k (.c (.int .i64 1)))) none .any, .op 132 (.move (.t 9)) none .any, .op 133 (.bin .sub (.t 1) (.t 0)) none .any, .op 134 (.idxSlice 2 (.t 5) (.t 0)) none .any, .op 135 (.load (some 2) (.t 0)) none .any, .op 136 (.buildSlice 2 (some 2) 1 [(.c (.str [])), (.c (.int .i64 0))] [(0, (.t 0))]) none .any, .op 137 (.append (some 2) 24 (.t 9) (.t 0)) none .any, .op 15 (.move (.t 0)) none .any] [12, 13, 14, 0, 17, 18])
def c3_n9 : SCode := .seq c3_n10 c3_n11
instance : IsSeq c3_n9 c3_n10 c3_n11 := ⟨rfl⟩
def c3_n8 : SCode := .seq (.block 3 [some 0, some 1, some 5, some 15, some 123, some 124] c3_n9) (.region [.op 138 (.bin .add (.t 5) (.k (.c (.int .i64 1)))) none .any, .op 124 (.move (.t 0)) none .any] [2, 3, 4, 5, 6, 0])
instance : IsSeq c3_n8 (.block 3 [some 0, some 1, some 5, some 15, some 123, some 124] c3_n9) (.region [.op 138 (.bin .add (.t 5) (.k (.c (.int .i64 1)))) none .any, .op 124 (.move (.t 0)) none .any] [2, 3, 4, 5, 6, 0]) := ⟨rfl⟩
def c3_n7 : SCode := .seq (.cond (.t 6) (.pre [0, 1, 2, 3, 4, 5] .skip) (.pre [0, 1, 2, 3] (.exit 2))) c3_n8
instance : IsSeq c3_n7 (.cond (.t 6) (.pre [0, 1, 2, 3, 4, 5] .skip) (.pre [0, 1, 2, 3] (.exit 2))) c3_n8 := ⟨rfl⟩
def c3_l1b : SCode := (.seq (.region [.op 125 (.bin .lss (.t 5) (.t 4)) none .any] [1, 2, 3, 4, 5, 6, 0]) c3_n7)
def c3_l1 : SCode := .loop true c3_l1b
@[simp] def c3_n13 : SCode := (.cond (.t 8) (.pre [0, 1, 2, 3, 4, 5, 6, 7] .skip) (.pre [0, 1, 2, 3, 4] (.exit 6)))
@[simp] def c3_n16 : SCode := (.region [.op 206 (.idxSlice 1 (.t 5) (.t 7)) none .any, .op 207 (.load none (.t 0)) none .any, .op 27 (.move (.t 0)) none .any] [3, 4, 5, 6, 7, 0, 8, 9, 10])
@[simp] def c3_n18 : SCode := (.seq (.region [.op 208 (.move (.t 0)) none .any, .op 209 (.move (.t 6)) none .any, .op 210 (.call false (.k (.c (.func 12 [] []))) [(.t 1), (.t 0)]) none .any, .op 211 (.not (.t 0)) none .any, .op 212 (.move (.t 0)) none .any, .orN 216 0 [.op 213 (.move (.t 8)) none .any, .op 214 (.move (.t 11)) none .any, .op 215 (.call false (.k (.c (.func 12 [] []))) [(.t 1), (.t 0)]) none .any] (.t 0)] [6, 7, 8, 9, 10, 11, 12, 13, 14, 0]) (.cond (.t 9) (.seq (.region [.op 6 (.move (.k (.c (.bool false)))) none .any] [0]) .ret) (.pre [0, 1, 2, 3, 4, 5, 6, 7, 8] .skip)))
@[simp] def c3_n20 : SCode := (.region [.op 217 (.move (.t 3)) none .any, .op 218 (.move (.t 6)) none .any, .op 219 (.buildSlice 2 none 1 [(.c (.str []))] [(0, (.t 0))]) none .any, .op 220 (.append none 16 (.t 2) (.t 0)) none .any, .op 22 (.move (.t 0)) none .any] [5, 6, 7, 0, 9, 10, 11, 12, 13])
@[simp] def c3_n21 : SCode := (.region [.op 221 (.move (.t 2)) none .any, .op 222 (.move (.t 6)) none .any, .op 223 (.move (.t 6)) none .any, .op 224 (.build [(.c (.str [])), (.c (.int .i64 0))] [(0, 1, (.t 1)), (1, 1, (.t 0))]) none .any, .op 225 (.buildSlice 2 (some 2) 1 [(.c (.str [])), (.c (.int .i64 0))] [(0, (.t 0))]) none .any, .op 226 (.append (some 2) 24 (.t 4) (.t 0)) none .any, .op 21 (.move (.t 0)) none .any] [7, 8, 0, 10, 11, 13, 14, 15])
def c3_n19 : SCode := .seq c3_n20 c3_n21
instance : IsSeq c3_n19 c3_n20 c3_n21 := ⟨rfl⟩
def c3_n17 : SCode := .seq c3_n18 c3_n19
instance : IsSeq c3_n17 c3_n18 c3_n19 := ⟨rfl⟩
def c3_n15 : SCode := .seq c3_n16 c3_n17
instance : IsSeq c3_n15 c3_n16 c3_n17 := ⟨rfl⟩
@[simp] def c3_n22 : SCode := (.block 7 [some 0, some 5, some 21, some 22, some 23, some 202, some 203, some 204] c3_n15)
def c3_n14 : SCode := .seq c3_n22 (.region [.op 227 (.bin .add (.t 7) (.k (.c (.int .i64 1)))) none .any, .op 204 (.move (.t 0)) none .any] [2, 3, 4, 5, 6, 7, 8, 0])
instance : IsSeq c3_n14 c3_n22 (.region [.op 227 (.bin .add (.t 7) (.k (.c (.int .i64 1)))) none .any, .op 204 (.move (.t 0)) none .any] [2, 3, 4, 5, 6, 7, 8, 0]) := ⟨rfl⟩
def c3_n12 : SCode := .seq c3_n13 c3_n14
instance : IsSeq c3_n12 c3_n13 c3_n14 := ⟨rfl⟩
def c3_l2b : SCode := (.seq (.region [.op 205 (.bin .lss (.t 7) (.t 6)) none .any] [1, 2, 3, 4, 5, 6, 7, 8, 0]) c3_n12)
def c3_l2 : SCode := .loop true c3_l2b
@[simp] def c3_n25 : SCode := (.region [.op 180 (.move (.t 0)) none .any, .op 181 (.move (.t 3)) none .any, .op 182 (.fieldAddr 2 (.t 3)) none .any, .op 183 (.load none (.t 0)) none .any, .op 184 (.build [(.c (.int .i64 0)), (.c (.int .i64 0)), (.c (.int .i64 0))] [(0, 1, (.k (.c (.int .i64 2)))), (1, 1, (.k (.c (.int .i64 50)))), (2, 1, (.t 0))]) none .any, .op 185 (.move (.t 9)) none .any, .op 186 (.call false (.k (.c (.func 11 [] []))) [(.t 5), (.t 4), (.t 1), (.t 0)]) none .any, .op 179 (.move (.t 0)) none .any, .op 187 (.extract (.t 0) 0) none .any, .op 188 (.extract (.t 1) 1) none .any, .op 24 (.move (.t 1)) none .any, .op 25 (.move (.t 1)) none .any] [12, 13, 14, 15, 16, 1, 0])
@[simp] def c3_n27 : SCode := (.seq (.region [.op 189 (.move (.t 6)) none .any, .op 190 (.bin .neq (.t 0) (.k (.c (.int .i64 0)))) none .any, .op 191 (.move (.t 0)) none .any, .orN 201 0 [.op 192 (.move (.t 8)) none .any, .op 193 (.len 1 (.t 0)) none .any, .op 194 (.move (.t 5)) none .any, .op 195 (.len 1 (.t 0)) none .any, .op 196 (.move (.t 10)) none .any, .op 197 (.len 1 (.t 0)) none .any, .op 198 (.bin .sub (.t 2) (.t 0)) none .any, .op 199 (.min (.k (.c (.int .i64 2))) [(.t 0)]) none .any, .op 200 (.bin .neq (.t 6) (.t 0)) none .any] (.t 0)] [4, 5, 6, 7, 8, 9, 0]) (.cond (.t 6) (.seq (.region [.op 6 (.move (.k (.c (.bool false)))) none .any] [0]) .ret) (.pre [0, 1, 2, 3, 4, 5] .skip)))
def c3_n26 : SCode := .seq c3_n27 (.seq (.region [.op 202 (.move (.t 5)) none .any, .op 203 (.len 1 (.t 0)) none .any, .op 204 (.move (.k (.c (.int .i64 0)))) none .any] [3, 4, 5, 6, 7, 2, 1, 0]) (.block 6 [some 0, some 5, some 21, some 22, some 23] c3_l2))
instance : IsSeq c3_n26 c3_n27 (.seq (.region [.op 202 (.move (.t 5)) none .any, .op 203 (.len 1 (.t 0)) none .any, .op 204 (.move (.k (.c (.int .i64 0)))) none .any] [3, 4, 5, 6, 7, 2, 1, 0]) (.block 6 [some 0, some 5, some 21, some 22, some 23] c3_l2)) := ⟨rfl⟩
def c3_n24 : SCode := .seq c3_n25 c3_n26
instance : IsSeq c3_n24 c3_n25 c3_n26 := ⟨rfl⟩
def c3_n23 : SCode := .seq (.block 5 [some 0, some 5, some 21, some 22, some 23] c3_n24) (.region [.op 177 (.move (.t 4)) none .any, .op 178 (.bin .add (.t 0) (.k (.c (.int .i64 1)))) none .any, .op 23 (.move (.t 0)) none .any] [3, 4, 5, 6, 0])
instance : IsSeq c3_n23 (.block 5 [some 0, some 5, some 21, some 22, some 23] c3_n24) (.region [.op 177 (.move (.t 4)) none .any, .op 178 (.bin .add (.t 0) (.k (.c (.int .i64 1)))) none .any, .op 23 (.move (.t 0)) none .any] [3, 4, 5, 6, 0]) := ⟨rfl⟩
def c3_l3b : SCode := (.seq (.seq (.region [.op 172 (.move (.t 3)) none .any, .op 173 (.len 1 (.t 0)) none .any, .op 174 (.move (.t 2)) none .any, .op 175 (.len 1 (.t 0)) none .any, .op 176 (.bin .lss (.t 2) (.t 0)) none .any] [5, 6, 7, 8, 9, 0]) (.cond (.t 5) (.pre [0, 1, 2, 3, 4] .skip) (.pre [] (.exit 4)))) c3_n23)
def c3_l3 : SCode := .loop true c3_l3b
@[simp] def c3_n29 : SCode := (.region [.op 28 (.move (.t 1)) none .any, .op 29 (.call false (.k (.c (.func 4 [] []))) [(.t 0)]) none .any, .op 7 (.move (.t 0)) none .any] [3, 4, 5, 0])
@[simp] def c3_n31 : SCode := (.seq (.region [.op 30 (.move (.t 0)) none .any, .op 31 (.len 1 (.t 0)) none .any, .op 32 (.bin .gtr (.t 0) (.k (.c (.int .i64 8)))) none .any, .op 33 (.move (.t 0)) none .any, .orN 37 0 [.op 34 (.move (.t 5)) none .any, .op 35 (.len 1 (.t 0)) none .any, .op 36 (.bin .gtr (.t 0) (.k (.c (.int .i64 12)))) none .any] (.t 0), .op 38 (.move (.t 0)) none .any, .orN 43 0 [.op 39 (.move (.t 6)) none .any, .op 40 (.move (.t 10)) none .any, .op 41 (.call false (.k (.c (.func 5 [] []))) [(.t 1), (.t 0)]) none .any, .op 42 (.not (.t 0)) none .any] (.t 0), .op 44 (.move (.t 0)) none .any, .orN 51 0 [.op 45 (.move (.t 8)) none .any, .op 46 (.call false (.k (.c (.func 6 [] []))) [(.t 0)]) none .any, .op 47 (.move (.t 13)) none .any, .op 48 (.call false (.k (.c (.func 7 [] []))) [(.t 0)]) none .any, .op 49 (.bin .add (.t 2) (.t 0)) none .any, .op 50 (.bin .neq (.t 0) (.k (.c (.int .i64 0)))) none .any] (.t 0), .op 52 (.move (.t 0)) none .any, .orN 56 0 [.op 53 (.load (some 3) (.t 12)) none .any, .op 54 (.call false (.k (.c (.func 8 [] []))) [(.t 0)]) none .any, .op 55 (.bin .neq (.t 0) (.k (.c (.int .i64 0)))) none .any] (.t 0)] [11, 12, 13, 0]) (.cond (.t 3) (.seq (.region [.op 57 (.call false (.k (.c (.func 9 [] []))) []) none .any, .op 6 (.move (.t 0)) none .any] [0]) .ret) (.pre [0, 1, 2] .skip)))
@[simp] def c3_n33 : SCode := (.region [.op 59 (.fieldAddr 2 (.t 2)) none .any, .op 60 (.load none (.t 0)) none .any, .op 61 (.move (.t 2)) none .any, .op 62 (.len 1 (.t 0)) none .any, .op 63 (.call false (.k (.c (.func 10 [] []))) [(.t 2), (.t 0)]) none .any, .op 58 (.move (.t 0)) none .any, .op 64 (.extract (.t 0) 0) none .any, .op 65 (.extract (.t 1) 1) none .any, .op 8 (.move (.t 1)) none .any, .op 9 (.move (.t 1)) none .any] [10, 11, 12, 1, 0])
@[simp] def c3_n35 : SCode := (.region [.op 66 (.move (.t 0)) none .any, .op 67 (.len 1 (.t 0)) none .any, .op 68 (.fieldAddr 2 (.t 4)) none .any, .op 69 (.load none (.t 0)) none .any, .op 70 (.build [(.c (.int .i64 0)), (.c (.int .i64 0)), (.c (.int .i64 0))] [(0, 1, (.t 2)), (2, 1, (.t 0))]) none .any, .op 10 (.new [(.c (.int .i64 0)), (.c (.int .i64 0)), (.c (.int .i64 0))]) none .any, .eff (.store 3 (.t 0) (.t 1)) none .any] [6, 7, 8, 9, 10, 0])
@[simp] def c3_n37 : SCode := (.region [.op 72 (.move (.t 0)) none .any, .op 73 (.load (some 3) (.t 6)) none .any, .op 74 (.call false (.k (.c (.func 11 [] []))) [(.t 1), (.k .nil), (.t 0), (.k (.c (.int .i64 100)))]) none .any, .op 71 (.move (.t 0)) none .any, .op 75 (.extract (.t 0) 0) none .any, .op 76 (.extract (.t 1) 1) none .any, .op 11 (.move (.t 1)) none .any, .op 12 (.move (.t 1)) none .any] [8, 9, 10, 11, 12, 1, 0])
@[simp] def c3_n39 : SCode := (.seq (.region [.op 77 (.move (.t 4)) none .any, .op 78 (.move (.t 7)) none .any, .op 79 (.bin .add (.t 1) (.t 0)) none .any, .op 80 (.bin .neq (.t 0) (.k (.c (.int .i64 0)))) none .any, .op 81 (.move (.t 0)) none .any, .orN 87 0 [.op 82 (.move (.t 8)) none .any, .op 83 (.len 1 (.t 0)) none .any, .op 84 (.move (.t 7)) none .any, .op 85 (.len 1 (.t 0)) none .any, .op 86 (.bin .neq (.t 2) (.t 0)) none .any] (.t 0), .op 88 (.move (.t 0)) none .any, .orN 94 0 [.op 89 (.move (.t 12)) none .any, .op 90 (.len 1 (.t 0)) none .any, .op 91 (.move (.t 9)) none .any, .op 92 (.len 1 (.t 0)) none .any, .op 93 (.bin .neq (.t 2) (.t 0)) none .any] (.t 0)] [8, 9, 10, 11, 13, 0]) (.cond (.t 5) (.seq (.region [.op 6 (.move (.k (.c (.bool false)))) none .any] [0]) .ret) (.pre [0, 1, 2, 3, 4] .skip)))
@[simp] def c3_n41 : SCode := (.seq (.region [.op 95 (.move (.t 3)) none .any, .op 96 (.len 1 (.t 0)) none .any, .op 97 (.move (.k (.c (.int .i64 0)))) none .any] [3, 4, 5, 7, 2, 1, 0]) (.block 0 [some 0, some 1, some 5] c3_l0))
@[simp] def c3_n44 : SCode := (.seq (.region [.op 122 (.move (.t 1)) none .any, .op 123 (.len 1 (.t 0)) none .any, .op 124 (.move (.k (.c (.int .i64 0)))) none .any] [3, 4, 5, 6, 1, 0]) (.block 2 [some 0, some 1, some 5, some 15] c3_l1))
@[simp] def c3_n46 : SCode := (.region [.op 139 (.move (.t 3)) none .any, .op 140 (.build [(.c (.str [])), (.c (.int .i64 0))] [(0, 1, (.k (.c (.str [110, 111, 98, 111, 100, 121, 57])))), (1, 1, (.k (.c (.int .i64 30))))]) none .any, .op 141 (.buildSlice 2 (some 2) 1 [(.c (.str [])), (.c (.int .i64 0))] [(0, (.t 0))]) none .any, .op 142 (.append (some 2) 24 (.t 2) (.t 0)) none .any, .op 15 (.move (.t 0)) none .any] [5, 6, 7, 0])
@[simp] def c3_n48 : SCode := (.region [.op 144 (.move (.t 0)) none .any, .op 145 (.move (.t 2)) none .any, .op 146 (.load (some 3) (.t 4)) none .any, .op 147 (.call false (.k (.c (.func 11 [] []))) [(.t 2), (.t 1), (.t 0), (.k (.c (.int .i64 60)))]) none .any, .op 143 (.move (.t 0)) none .any, .op 148 (.extract (.t 0) 0) none .any, .op 149 (.extract (.t 1) 1) none .any, .op 17 (.move (.t 1)) none .any, .op 18 (.move (.t 1)) none .any] [9, 11, 12, 1, 0])
@[simp] def c3_n50 : SCode := (.region [.op 151 (.move (.t 0)) none .any, .op 152 (.move (.t 3)) none .any, .op 153 (.load (some 3) (.t 3)) none .any, .op 154 (.call false (.k (.c (.func 11 [] []))) [(.t 2), (.t 1), (.t 0), (.k (.c (.int .i64 60)))]) none .any, .op 150 (.move (.t 0)) none .any, .op 155 (.extract (.t 0) 0) none .any, .op 156 (.extract (.t 1) 1) none .any, .op 19 (.move (.t 1)) none .any, .op 20 (.move (.t 1)) none .any] [9, 10, 12, 13, 1, 0])
@[simp] def c3_n52 : SCode := (.seq (.region [.op 157 (.move (.t 3)) none .any, .op 158 (.move (.t 6)) none .any, .op 159 (.bin .add (.t 1) (.t 0)) none .any, .op 160 (.bin .neq (.t 0) (.k (.c (.int .i64 0)))) none .any, .op 161 (.move (.t 0)) none .any, .orN 171 0 [.op 162 (.move (.t 5)) none .any, .op 163 (.call false (.k (.c (.func 12 [] []))) [(.t 0), (.k (.c (.str [110, 111, 98, 111, 100, 121, 57])))]) none .any, .op 164 (.not (.t 0)) none .any, .op 165 (.move (.t 0)) none .any, .andN 170 0 [.op 166 (.move (.t 11)) none .any, .op 167 (.move (.t 14)) none .any, .op 168 (.call false (.k (.c (.func 13 [] []))) [(.t 1), (.t 0)]) none .any, .op 169 (.not (.t 0)) none .any] (.t 0)] (.t 0)] [6, 7, 0]) (.cond (.t 2) (.seq (.region [.op 6 (.move (.k (.c (.bool false)))) none .any] [0]) .ret) (.pre [0, 1] .skip)))
def c3_n53 : SCode := .seq (.region [.op 21 (.mkNil (some 2)) none .any] [1, 2, 0]) (.seq (.region [.op 22 (.mkNil none) none .any] [1, 2, 3, 0]) (.seq (.seq (.region [.op 23 (.move (.k (.c (.int .i64 100)))) none .any] [1, 2, 3, 4, 0]) (.block 4 [] c3_l3)) (.seq (.region [.op 228 (.call false (.k (.c (.func 9 [] []))) []) none .any, .op 6 (.move (.t 0)) none .any] [0]) .ret)))
instance : IsSeq c3_n53 (.region [.op 21 (.mkNil (some 2)) none .any] [1, 2, 0]) (.seq (.region [.op 22 (.mkNil none) none .any] [1, 2, 3, 0]) (.seq (.seq (.region [.op 23 (.move (.k (.c (.int .i64 100)))) none .any] [1, 2, 3, 4, 0]) (.block 4 [] c3_l3)) (.seq (.region [.op 228 (.call false (.k (.c (.func 9 [] []))) []) none .any, .op 6 (.move (.t 0)) none .any] [0]) .ret))) := ⟨rfl⟩
def c3_n51 : SCode := .seq c3_n52 c3_n53
instance : IsSeq c3_n51 c3_n52 c3_n53 := ⟨rfl⟩
def c3_n49 : SCode := .seq c3_n50 c3_n51
instance : IsSeq c3_n49 c3_n50 c3_n51 := ⟨rfl⟩
def c3_n47 : SCode := .seq c3_n48 c3_n49
instance : IsSeq c3_n47 c3_n48 c3_n49 := ⟨rfl⟩
def c3_n45 : SCode := .seq c3_n46 c3_n47
instance : IsSeq c3_n45 c3_n46 c3_n47 := ⟨rfl⟩
def c3_n43 : SCode := .seq c3_n44 c3_n45
instance : IsSeq c3_n43 c3_n44 c3_n45 := ⟨rfl⟩
def c3_n42 : SCode := .seq (.region [.op 15 (.mkNil (some 2)) none .any] [1, 2, 3, 0]) c3_n43
instance : IsSeq c3_n42 (.region [.op 15 (.mkNil (some 2)) none .any] [1, 2, 3, 0]) c3_n43 := ⟨rfl⟩
def c3_n40 : SCode := .seq c3_n41 c3_n42
instance : IsSeq c3_n40 c3_n41 c3_n42 := ⟨rfl⟩
def c3_n38 : SCode := .seq c3_n39 c3_n40
instance : IsSeq c3_n38 c3_n39 c3_n40 := ⟨rfl⟩
def c3_n36 : SCode := .seq c3_n37 c3_n38
instance : IsSeq c3_n36 c3_n37 c3_n38 := ⟨rfl⟩
def c3_n34 : SCode := .seq c3_n35 c3_n36
instance : IsSeq c3_n34 c3_n35 c3_n36 := ⟨rfl⟩
def c3_n32 : SCode := .seq c3_n33 c3_n34
instance : IsSeq c3_n32 c3_n33 c3_n34 := ⟨rfl⟩
def c3_n30 : SCode := .seq c3_n31 c3_n32
instance : IsSeq c3_n30 c3_n31 c3_n32 := ⟨rfl⟩
def c3_n28 : SCode := .seq c3_n29 c3_n30
instance : IsSeq c3_n28 c3_n29 c3_n30 := ⟨rfl⟩
def c3 : SCode := (.seq (.region [.op 5 (.box (.t 2)) none .any, .op 6 (.move (.k (.c (.bool false)))) none .any] [2, 3, 1]) c3_n28)
def F3 : SFunc := .code .pure 229 3 [some 6] [.tmp 0] c3

-- crux/cruxtop.karabinerTests
-- c4_l0: env [3, 6, 7, 8]
@[simp] def c4_n4 : SCode := (.region [.op 10 (.idxSlice 2 (.t 1) (.t 3)) none .any, .op 11 (.load (some 2) (.t 0)) none .any, .op 5 (.new [(.c (.str [])), (.c (.int .i64 0))]) none .any, .eff (.store 2 (.t 0) (.t 1)) none .any] [3, 0, 4, 5, 6])
def c4_n3 : SCode := .seq c4_n4 (.region [.op 12 (.move (.t 0)) none .any, .op 13 (.load (some 2) (.t 2)) none .any, .op 14 (.buildSlice 2 (some 2) 1 [(.c (.str [])), (.c (.int .i64 0))] [(0, (.t 0))]) none .any, .op 15 (.append (some 2) 24 (.t 2) (.t 0)) none .any, .op 3 (.move (.t 0)) none .any] [0, 7, 8, 9])
instance : IsSeq c4_n3 c4_n4 (.region [.op 12 (.move (.t 0)) none .any, .op 13 (.load (some 2) (.t 2)) none .any, .op 14 (.buildSlice 2 (some 2) 1 [(.c (.str [])), (.c (.int .i64 0))] [(0, (.t 0))]) none .any, .op 15 (.append (some 2) 24 (.t 2) (.t 0)) none .any, .op 3 (.move (.t 0)) none .any] [0, 7, 8, 9]) := ⟨rfl⟩
def c4_n2 : SCode := .seq (.block 1 [some 3, some 6, some 7, some 8] c4_n3) (.region [.op 16 (.bin .add (.t 3) (.k (.c (.int .i64 1)))) none .any, .op 8 (.move (.t 0)) none .any] [2, 3, 4, 0])
instance : IsSeq c4_n2 (.block 1 [some 3, some 6, some 7, some 8] c4_n3) (.region [.op 16 (.bin .add (.t 3) (.k (.c (.int .i64 1)))) none .any, .op 8 (.move (.t 0)) none .any] [2, 3, 4, 0]) := ⟨rfl⟩
def c4_n1 : SCode := .seq (.cond (.t 4) (.pre [0, 1, 2, 3] .skip) (.pre [0] (.exit 0))) c4_n2
instance : IsSeq c4_n1 (.cond (.t 4) (.pre [0, 1, 2, 3] .skip) (.pre [0] (.exit 0))) c4_n2 := ⟨rfl⟩
def c4_l0b : SCode := (.seq (.region [.op 9 (.bin .lss (.t 3) (.t 2)) none .any] [1, 2, 3, 4, 0]) c4_n1)
def c4_l0 : SCode := .loop true c4_l0b
def c4 : SCode := (.seq (.region [.op 2 (.mkNil (some 2)) none .any] [1]) (.seq (.region [.op 3 (.mkNil (some 2)) none .any] [1, 0]) (.seq (.seq (.region [.op 6 (.move (.t 0)) none .any, .op 7 (.len 1 (.t 0)) none .any, .op 8 (.move (.k (.c (.int .i64 0)))) none .any] [4, 2, 1, 0]) (.block 0 [some 3] c4_l0)) (.seq (.region [.op 17 (.move (.t 0)) none .any, .op 2 (.move (.t 0)) none .any] [0]) .ret))))
def F4 : SFunc := .code .pure 18 1 [some 2] [.tmp 0] c4

-- crux/cruxref09.ShortTests
-- c5_l0: env [0, 1, 5]
@[simp] def c5_n3 : SCode := (.region [.op 12 (.move (.t 1)) none .any, .op 13 (.move (.t 3)) none .any, .op 14 (.idxSlice 2 (.t 1) (.t 0)) none .any, .op 15 (.fieldAddr 0 (.t 0)) none .any, .op 16 (.load none (.t 0)) none .any, .op 17 (.len 0 (.t 0)) none .any, .op 18 (.bin .gtr (.t 0) (.k (.c (.int .i64 40)))) none .any] [7, 8, 9, 0])
def c5_n2 : SCode := .seq c5_n3 (.cond (.t 3) (.seq (.region [.op 4 (.move (.k (.c (.bool false)))) none .any] [0]) .ret) (.pre [0, 1, 2] .skip))
instance : IsSeq c5_n2 c5_n3 (.cond (.t 3) (.seq (.region [.op 4 (.move (.k (.c (.bool false)))) none .any] [0]) .ret) (.pre [0, 1, 2] .skip)) := ⟨rfl⟩
def c5_n1 : SCode := .seq (.block 1 [some 0, some 1, some 5] c5_n2) (.region [.op 10 (.move (.t 2)) none .any, .op 11 (.bin .add (.t 0) (.k (.c (.int .i64 1)))) none .any, .op 5 (.move (.t 0)) none .any] [3, 4, 0])
instance : IsSeq c5_n1 (.block 1 [some 0, some 1, some 5] c5_n2) (.region [.op 10 (.move (.t 2)) none .any, .op 11 (.bin .add (.t 0) (.k (.c (.int .i64 1)))) none .any, .op 5 (.move (.t 0)) none .any] [3, 4, 0]) := ⟨rfl⟩
def c5_l0b : SCode := (.seq (.seq (.region [.op 6 (.move (.t 2)) none .any, .op 7 (.move (.t 2)) none .any, .op 8 (.len 1 (.t 0)) none .any, .op 9 (.bin .lss (.t 2) (.t 0)) none .any] [4, 5, 6, 0]) (.cond (.t 3) (.pre [0, 1, 2] .skip) (.pre [0, 1] (.exit 0)))) c5_n1)
def c5_l0 : SCode := .loop true c5_l0b
@[simp] def c5_n5 : SCode := (.seq (.region [.op 5 (.move (.k (.c (.int .i64 0)))) none .any] [1, 2, 0]) (.block 0 [some 0, some 1] c5_l0))
@[simp] def c5_n7 : SCode := (.region [.op 19 (.move (.t 0)) none .any, .op 20 (.call false (.k (.c (.func 14 [] []))) [(.t 0), (.k (.c (.int .i64 163)))]) none .any, .op 21 (.move (.t 0)) none .any, .andN 25 0 [.op 22 (.move (.t 4)) none .any, .op 23 (.len 1 (.t 0)) none .any, .op 24 (.bin .leq (.t 0) (.k (.c (.int .i64 259)))) none .any] (.t 0), .op 4 (.move (.t 0)) none .any] [0])
def c5_n6 : SCode := .seq c5_n7 .ret
instance : IsSeq c5_n6 c5_n7 .ret := ⟨rfl⟩
def c5_n4 : SCode := .seq c5_n5 c5_n6
instance : IsSeq c5_n4 c5_n5 c5_n6 := ⟨rfl⟩
def c5 : SCode := (.seq (.region [.op 4 (.move (.k (.c (.bool false)))) none .any] [1, 2]) c5_n4)
def F5 : SFunc := .code .pure 26 2 [some 4] [.tmp 0] c5

-- crux/cruxref09.CheckList
@[simp] def c6_n2 : SCode := (.seq (.region [.op 3 (.move (.t 0)) none .any, .op 4 (.len 1 (.t 0)) none .any, .op 5 (.bin .gtr (.t 0) (.k (.c (.int .i64 160)))) none .any] [3, 0]) (.cond (.t 1) (.seq (.region [.op 2 (.move (.k (.c (.int .i64 5)))) none .any] [0]) .ret) (.pre [0] .skip)))
def c6_n1 : SCode := .seq c6_n2 (.seq (.region [.op 6 (.move (.t 0)) none .any, .op 7 (.call false (.k (.c (.func 15 [] []))) [(.t 0)]) none .any, .op 2 (.move (.t 0)) none .any] [0]) .ret)
instance : IsSeq c6_n1 c6_n2 (.seq (.region [.op 6 (.move (.t 0)) none .any, .op 7 (.call false (.k (.c (.func 15 [] []))) [(.t 0)]) none .any, .op 2 (.move (.t 0)) none .any] [0]) .ret) := ⟨rfl⟩
def c6 : SCode := (.seq (.region [.op 2 (.move (.k (.c (.int .i64 0)))) none .any] [1]) c6_n1)
def F6 : SFunc := .code .pure 8 1 [some 2] [.tmp 0] c6

-- crux/cruxref09.CheckTests
-- c7_l0: env [0, 3]
@[simp] def c7_n3 : SCode := (.seq (.region [.op 13 (.move (.t 0)) none .any, .op 14 (.move (.t 2)) none .any, .op 15 (.idxSlice 2 (.t 1) (.t 0)) none .any, .op 16 (.fieldAddr 0 (.t 0)) none .any, .op 17 (.load none (.t 0)) none .any, .op 18 (.call false (.k (.c (.func 16 [] []))) [(.t 0)]) none .any, .op 19 (.not (.t 0)) none .any] [7, 8, 0]) (.cond (.t 2) (.seq (.region [.op 2 (.move (.k (.c (.int .i64 8)))) none .any] [0]) .ret) (.pre [0, 1] .skip)))
@[simp] def c7_n5 : SCode := (.region [.op 20 (.move (.t 0)) none .any, .op 21 (.move (.t 2)) none .any, .op 22 (.idxSlice 2 (.t 1) (.t 0)) none .any, .op 23 (.fieldAddr 1 (.t 0)) none .any, .op 24 (.load none (.t 0)) none .any, .op 25 (.call false (.k (.c (.func 17 [] []))) [(.t 0), (.k (.c (.int .i64 0))), (.k (.c (.int .i64 99999)))]) none .any] [6, 7, 0])
def c7_n4 : SCode := .seq c7_n5 (.cond (.t 2) (.seq (.region [.op 2 (.move (.k (.c (.int .i64 3)))) none .any] [0]) .ret) (.pre [0, 1] .skip))
instance : IsSeq c7_n4 c7_n5 (.cond (.t 2) (.seq (.region [.op 2 (.move (.k (.c (.int .i64 3)))) none .any] [0]) .ret) (.pre [0, 1] .skip)) := ⟨rfl⟩
def c7_n2 : SCode := .seq c7_n3 c7_n4
instance : IsSeq c7_n2 c7_n3 c7_n4 := ⟨rfl⟩
def c7_n1 : SCode := .seq (.block 1 [some 0, some 3] c7_n2) (.region [.op 11 (.move (.t 1)) none .any, .op 12 (.bin .add (.t 0) (.k (.c (.int .i64 1)))) none .any, .op 3 (.move (.t 0)) none .any] [3, 0])
instance : IsSeq c7_n1 (.block 1 [some 0, some 3] c7_n2) (.region [.op 11 (.move (.t 1)) none .any, .op 12 (.bin .add (.t 0) (.k (.c (.int .i64 1)))) none .any, .op 3 (.move (.t 0)) none .any] [3, 0]) := ⟨rfl⟩
def c7_l0b : SCode := (.seq (.seq (.region [.op 7 (.move (.t 1)) none .any, .op 8 (.move (.t 1)) none .any, .op 9 (.len 1 (.t 0)) none .any, .op 10 (.bin .lss (.t 2) (.t 0)) none .any] [4, 5, 0]) (.cond (.t 2) (.pre [0, 1] .skip) (.pre [] (.exit 0)))) c7_n1)
def c7_l0 : SCode := .loop true c7_l0b
@[simp] def c7_n7 : SCode := (.seq (.region [.op 4 (.move (.t 0)) none .any, .op 5 (.len 1 (.t 0)) none .any, .op 6 (.bin .gtr (.t 0) (.k (.c (.int .i64 256)))) none .any] [3, 0]) (.cond (.t 1) (.seq (.region [.op 2 (.move (.k (.c (.int .i64 5)))) none .any] [0]) .ret) (.pre [0] .skip)))
def c7_n6 : SCode := .seq c7_n7 (.seq (.seq (.region [.op 3 (.move (.k (.c (.int .i64 0)))) none .any] [1, 0]) (.block 0 [] c7_l0)) (.seq (.region [.op 2 (.move (.k (.c (.int .i64 0)))) none .any] [0]) .ret))
instance : IsSeq c7_n6 c7_n7 (.seq (.seq (.region [.op 3 (.move (.k (.c (.int .i64 0)))) none .any] [1, 0]) (.block 0 [] c7_l0)) (.seq (.region [.op 2 (.move (.k (.c (.int .i64 0)))) none .any] [0]) .ret)) := ⟨rfl⟩
def c7 : SCode := (.seq (.region [.op 2 (.move (.k (.c (.int .i64 0)))) none .any] [1]) c7_n6)
def F7 : SFunc := .code .pure 26 1 [some 2] [.tmp 0] c7

-- crux/cruxref09.CheckPick
@[simp] def c8_n2 : SCode := (.seq (.region [.op 3 (.fieldAddr 0 (.t 0)) none .any, .op 4 (.load none (.t 0)) none .any, .op 5 (.call false (.k (.c (.func 17 [] []))) [(.t 0), (.k (.c (.int .i64 0))), (.k (.c (.int .i64 160)))]) none .any, .op 6 (.move (.t 0)) none .any, .orN 10 0 [.op 7 (.fieldAddr 1 (.t 4)) none .any, .op 8 (.load none (.t 0)) none .any, .op 9 (.call false (.k (.c (.func 17 [] []))) [(.t 0), (.k (.c (.int .i64 0))), (.k (.c (.int .i64 99999)))]) none .any] (.t 0)] [5, 0]) (.cond (.t 1) (.seq (.region [.op 2 (.move (.k (.c (.int .i64 3)))) none .any] [0]) .ret) (.pre [0] .skip)))
def c8_n1 : SCode := .seq c8_n2 (.seq (.region [.op 11 (.fieldAddr 2 (.t 0)) none .any, .op 12 (.load none (.t 0)) none .any, .op 13 (.call false (.k (.c (.func 18 [] []))) [(.t 0), (.k (.c (.int .i64 0)))]) none .any, .op 2 (.move (.t 0)) none .any] [0]) .ret)
instance : IsSeq c8_n1 c8_n2 (.seq (.region [.op 11 (.fieldAddr 2 (.t 0)) none .any, .op 12 (.load none (.t 0)) none .any, .op 13 (.call false (.k (.c (.func 18 [] []))) [(.t 0), (.k (.c (.int .i64 0)))]) none .any, .op 2 (.move (.t 0)) none .any] [0]) .ret) := ⟨rfl⟩
def c8 : SCode := (.seq (.region [.op 1 (.box (.t 0)) none .any, .op 2 (.move (.k (.c (.int .i64 0)))) none .any] [1]) c8_n1)
def F8 : SFunc := .code .pure 14 1 [some 2] [.tmp 0] c8

-- crux/number.Draw
-- c10_l0: env [0, 1, 6, 28, 29]
-- c10_l1: env [1, 6, 8, 9]
@[simp] def c10_n3 : SCode := (.block 1 [some 0, some 1, some 6, some 28, some 29] (.seq (.region [.op 31 (.move (.t 4)) none .any, .op 7 (.move (.t 0)) none .any] [2, 3, 4, 0, 5, 6]) (.region [.op 32 (.move (.t 2)) none .any, .op 33 (.move (.t 4)) none .any, .op 34 (.move (.t 5)) none .any, .op 35 (.idxSlice 1 (.t 2) (.t 1)) none .any, .eff (.store 1 (.t 0) (.t 1)) none .any] [4, 5, 6, 8, 9])))
def c10_n2 : SCode := .seq c10_n3 (.region [.op 36 (.bin .add (.t 4) (.k (.c (.int .i64 1)))) none .any, .op 29 (.move (.t 0)) none .any] [2, 3, 4, 5, 0])
instance : IsSeq c10_n2 c10_n3 (.region [.op 36 (.bin .add (.t 4) (.k (.c (.int .i64 1)))) none .any, .op 29 (.move (.t 0)) none .any] [2, 3, 4, 5, 0]) := ⟨rfl⟩
def c10_n1 : SCode := .seq (.cond (.t 5) (.pre [0, 1, 2, 3, 4] .skip) (.pre [0, 1, 2] (.exit 0))) c10_n2
instance : IsSeq c10_n1 (.cond (.t 5) (.pre [0, 1, 2, 3, 4] .skip) (.pre [0, 1, 2] (.exit 0))) c10_n2 := ⟨rfl⟩
def c10_l0b : SCode := (.seq (.region [.op 30 (.bin .lss (.t 4) (.t 3)) none .any] [1, 2, 3, 4, 5, 0]) c10_n1)
def c10_l0 : SCode := .loop true c10_l0b
@[simp] def c10_n6 : SCode := (.region [.op 44 (.move (.t 2)) none .any, .op 45 (.bin .mul (.k (.c (.int .i64 48271))) (.t 0)) none .any, .op 46 (.bin .rem (.t 0) (.k (.c (.int .i64 2147483647)))) none .any, .op 8 (.move (.t 0)) none .any] [4, 5, 0, 7])
@[simp] def c10_n8 : SCode := (.region [.op 47 (.move (.t 3)) none .any, .op 48 (.move (.t 3)) none .any, .op 49 (.move (.t 2)) none .any, .op 50 (.move (.t 6)) none .any, .op 51 (.bin .sub (.t 1) (.t 0)) none .any, .op 52 (.bin .rem (.t 3) (.t 0)) none .any, .op 53 (.bin .add (.t 5) (.t 0)) none .any, .op 10 (.move (.t 0)) none .any] [8, 9, 10, 11, 0])
@[simp] def c10_n9 : SCode := (.draw 0 [.op 54 (.move (.t 1)) none .any, .op 55 (.move (.t 4)) none .any, .op 56 (.move (.t 3)) none .any, .op 57 (.move (.t 7)) none .any, .op 58 (.move (.t 5)) none .any, .op 59 (.move (.t 9)) none .any, .op 60 (.idxSlice 1 (.t 1) (.t 0)) none .any, .op 61 (.load none (.t 0)) none .old, .op 62 (.move (.t 9)) none .any, .op 63 (.move (.t 12)) none .any, .op 64 (.idxSlice 1 (.t 1) (.t 0)) none .any, .op 65 (.load none (.t 0)) none .old, .op 66 (.idxSlice 1 (.t 11) (.t 10)) none .any, .eff (.store 1 (.t 0) (.t 5)) none .old, .op 67 (.idxSlice 1 (.t 10) (.t 9)) none .any, .eff (.store 1 (.t 0) (.t 2)) none .old] [14, 15, 16, 17])
def c10_n7 : SCode := .seq c10_n8 c10_n9
instance : IsSeq c10_n7 c10_n8 c10_n9 := ⟨rfl⟩
def c10_n5 : SCode := .seq c10_n6 c10_n7
instance : IsSeq c10_n5 c10_n6 c10_n7 := ⟨rfl⟩
def c10_n4 : SCode := .seq (.block 3 [some 1, some 6, some 8, some 9] c10_n5) (.region [.op 42 (.move (.t 3)) none .any, .op 43 (.bin .add (.t 0) (.k (.c (.int .i64 1)))) none .any, .op 9 (.move (.t 0)) none .any] [3, 4, 5, 0])
instance : IsSeq c10_n4 (.block 3 [some 1, some 6, some 8, some 9] c10_n5) (.region [.op 42 (.move (.t 3)) none .any, .op 43 (.bin .add (.t 0) (.k (.c (.int .i64 1)))) none .any, .op 9 (.move (.t 0)) none .any] [3, 4, 5, 0]) := ⟨rfl⟩
def c10_l1b : SCode := (.seq (.seq (.region [.op 38 (.move (.t 3)) none .any, .op 39 (.move (.t 1)) none .any, .op 40 (.bin .sub (.t 0) (.k (.c (.int .i64 1)))) none .any, .op 41 (.bin .lss (.t 2) (.t 0)) none .any] [4, 5, 6, 7, 0]) (.cond (.t 4) (.pre [0, 1, 2, 3] .skip) (.pre [1] (.exit 2)))) c10_n4)
def c10_l1 : SCode := .loop true c10_l1b
@[simp] def c10_n11 : SCode := (.seq (.region [.op 11 (.move (.t 0)) none .any, .op 12 (.bin .lss (.t 0) (.k (.c (.int .i64 1)))) none .any, .op 13 (.move (.t 0)) none .any, .orN 16 0 [.op 14 (.move (.t 3)) none .any, .op 15 (.bin .gtr (.t 0) (.k (.c (.int .i64 2147483646)))) none .any] (.t 0), .op 17 (.move (.t 0)) none .any, .orN 20 0 [.op 18 (.move (.t 6)) none .any, .op 19 (.bin .lss (.t 0) (.k (.c (.int .i64 0)))) none .any] (.t 0), .op 21 (.move (.t 0)) none .any, .orN 24 0 [.op 22 (.move (.t 8)) none .any, .op 23 (.bin .gtr (.t 0) (.k (.c (.int .i64 256)))) none .any] (.t 0)] [8, 9, 0]) (.cond (.t 2) (.seq (.region [.op 4 (.mkNil none) none .any, .op 5 (.move (.k (.c (.int .i64 3)))) none .any] [1, 0]) .ret) (.pre [0, 1] .skip)))
@[simp] def c10_n13 : SCode := (.region [.op 25 (.move (.t 1)) none .any, .op 26 (.makeSlice none 8 [(.c (.int .i64 0))] (.t 0) (.t 0)) none .any, .op 6 (.move (.t 0)) none .any] [3, 4, 0])
@[simp] def c10_n15 : SCode := (.seq (.region [.op 27 (.move (.t 2)) none .any, .op 28 (.len 1 (.t 0)) none .any, .op 29 (.move (.k (.c (.int .i64 0)))) none .any] [3, 4, 5, 1, 0]) (.block 0 [some 0, some 1, some 6] c10_l0))
def c10_n14 : SCode := .seq c10_n15 (.seq (.region [.op 37 (.move (.t 0)) none .any, .op 8 (.move (.t 0)) none .any] [3, 4, 0]) (.seq (.seq (.region [.op 9 (.move (.k (.c (.int .i64 0)))) none .any] [1, 2, 3, 0]) (.block 2 [some 6] c10_l1)) (.seq (.region [.op 68 (.move (.t 0)) none .any, .op 4 (.move (.t 0)) none .any, .op 5 (.move (.k (.c (.int .i64 0)))) none .any] [1, 0]) .ret)))
instance : IsSeq c10_n14 c10_n15 (.seq (.region [.op 37 (.move (.t 0)) none .any, .op 8 (.move (.t 0)) none .any] [3, 4, 0]) (.seq (.seq (.region [.op 9 (.move (.k (.c (.int .i64 0)))) none .any] [1, 2, 3, 0]) (.block 2 [some 6] c10_l1)) (.seq (.region [.op 68 (.move (.t 0)) none .any, .op 4 (.move (.t 0)) none .any, .op 5 (.move (.k (.c (.int .i64 0)))) none .any] [1, 0]) .ret))) := ⟨rfl⟩
def c10_n12 : SCode := .seq c10_n13 c10_n14
instance : IsSeq c10_n12 c10_n13 c10_n14 := ⟨rfl⟩
def c10_n10 : SCode := .seq c10_n11 c10_n12
instance : IsSeq c10_n10 c10_n11 c10_n12 := ⟨rfl⟩
def c10 : SCode := (.seq (.region [.op 4 (.mkNil none) none .any, .op 5 (.move (.k (.c (.int .i64 0)))) none .any] [2, 3]) c10_n10)
def F10 : SFunc := .code (.fresh 2) 69 2 [some 4, some 5] [.tmp 0, .tmp 1] c10

-- crux/member.Pool
-- c11_l0: env [0, 3, 6, 14, 15, 47, 48, 49]
@[simp] def c11_n4 : SCode := (.region [.op 51 (.idxSlice 1 (.t 5) (.t 7)) none .any, .op 52 (.load none (.t 0)) none .any, .op 17 (.move (.t 0)) none .any] [3, 4, 5, 6, 7, 0, 8, 9, 10])
@[simp] def c11_n6 : SCode := (.draw 0 [.op 53 (.load none (.t 3)) none .var, .op 54 (.move (.t 1)) none .any, .op 55 (.move (.t 7)) none .any, .op 56 (.idxSlice 1 (.t 1) (.t 0)) none .any, .op 57 (.load none (.t 0)) none .old, .op 58 (.call false (.t 4) [(.t 0)]) none .any, .op 18 (.move (.t 0)) none .any] [7, 8, 9, 10, 11, 12, 0, 13, 14, 15])
@[simp] def c11_n8 : SCode := (.region [.op 59 (.move (.t 6)) none .any, .op 60 (.bin .lss (.t 0) (.k (.c (.int .i64 0)))) none .any, .op 61 (.move (.t 0)) none .any, .orN 68 0 [.op 62 (.move (.t 9)) none .any, .op 63 (.move (.t 5)) none .any, .op 64 (.fieldAddr 1 (.t 7)) none .any, .op 65 (.load none (.t 0)) none .any, .op 66 (.bin .sub (.t 2) (.t 0)) none .any, .op 67 (.bin .lss (.t 4) (.t 0)) none .any] (.t 0)] [4, 5, 6, 7, 8, 9, 11, 12, 13, 0])
@[simp] def c11_n10 : SCode := (.region [.op 69 (.move (.t 4)) none .any, .op 70 (.move (.t 1)) none .any, .op 71 (.move (.t 7)) none .any, .op 72 (.idxSlice 1 (.t 1) (.t 0)) none .any, .op 73 (.load none (.t 0)) none .any, .op 74 (.buildSlice 2 none 1 [(.c (.str []))] [(0, (.t 0))]) none .any, .op 75 (.append none 16 (.t 5) (.t 0)) none .any, .op 15 (.move (.t 0)) none .any] [8, 9, 10, 11, 0, 14, 15, 16])
def c11_n9 : SCode := .cond (.t 9) c11_n10 (.pre [0, 1, 2, 3, 4, 6, 7, 8] .skip)
instance : IsCond c11_n9 (.t 9) c11_n10 (.pre [0, 1, 2, 3, 4, 6, 7, 8] .skip) := ⟨rfl⟩
def c11_n7 : SCode := .seq c11_n8 c11_n9
instance : IsSeq c11_n7 c11_n8 c11_n9 := ⟨rfl⟩
def c11_n5 : SCode := .seq c11_n6 c11_n7
instance : IsSeq c11_n5 c11_n6 c11_n7 := ⟨rfl⟩
def c11_n3 : SCode := .seq c11_n4 c11_n5
instance : IsSeq c11_n3 c11_n4 c11_n5 := ⟨rfl⟩
@[simp] def c11_n11 : SCode := (.block 1 [some 0, some 3, some 6, some 14, some 15, some 47, some 48, some 49] c11_n3)
def c11_n2 : SCode := .seq c11_n11 (.region [.op 76 (.bin .add (.t 7) (.k (.c (.int .i64 1)))) none .any, .op 49 (.move (.t 0)) none .any] [2, 3, 4, 5, 6, 7, 8, 0])
instance : IsSeq c11_n2 c11_n11 (.region [.op 76 (.bin .add (.t 7) (.k (.c (.int .i64 1)))) none .any, .op 49 (.move (.t 0)) none .any] [2, 3, 4, 5, 6, 7, 8, 0]) := ⟨rfl⟩
def c11_n1 : SCode := .seq (.cond (.t 8) (.pre [0, 1, 2, 3, 4, 5, 6, 7] .skip) (.pre [2, 3, 4] (.exit 0))) c11_n2
instance : IsSeq c11_n1 (.cond (.t 8) (.pre [0, 1, 2, 3, 4, 5, 6, 7] .skip) (.pre [2, 3, 4] (.exit 0))) c11_n2 := ⟨rfl⟩
def c11_l0b : SCode := (.seq (.region [.op 50 (.bin .lss (.t 7) (.t 6)) none .any] [1, 2, 3, 4, 5, 6, 7, 8, 0]) c11_n1)
def c11_l0 : SCode := .loop true c11_l0b
@[simp] def c11_n13 : SCode := (.seq (.draw 1 [.op 19 (.move (.t 0)) none .any, .op 20 (.call false (.k (.c (.func 23 [] []))) [(.t 0)]) none .any, .op 21 (.move (.t 3)) none .any, .op 22 (.call false (.k (.c (.func 24 [] []))) [(.t 0)]) none .any, .op 23 (.load (some 3) (.t 7)) none .var, .op 24 (.call false (.k (.c (.func 25 [] []))) [(.t 0)]) none .any, .op 25 (.move (.t 8)) none .any, .op 26 (.call false (.k (.c (.func 26 [] []))) [(.t 0)]) none .any, .op 27 (.buildSlice 2 none 4 [(.c (.int .i64 0))] [(0, (.t 6)), (1, (.t 4)), (2, (.t 2)), (3, (.t 0))]) (some 0) .any, .op 28 (.call false (.k (.c (.func 22 [] []))) [(.t 0)]) none .any, .op 10 (.move (.t 0)) none .any] [11, 12, 13, 14, 0]) (.seq (.region [.op 29 (.move (.t 4)) none .any, .op 30 (.bin .neq (.t 0) (.k (.c (.int .i64 0)))) none .any] [2, 3, 4, 5, 6, 0]) (.cond (.t 5) (.seq (.region [.op 31 (.move (.t 4)) none .any, .op 8 (.mkNil none) none .any, .op 9 (.move (.t 1)) none .any] [1, 0]) .ret) (.pre [0, 1, 2, 3] .skip))))
@[simp] def c11_n15 : SCode := (.region [.op 33 (.fieldAddr 2 (.t 3)) none .any, .op 34 (.load none (.t 0)) none .any, .op 35 (.move (.t 2)) none .any, .op 36 (.len 1 (.t 0)) none .any, .op 37 (.call false (.k (.c (.func 10 [] []))) [(.t 2), (.t 0)]) none .any, .op 32 (.move (.t 0)) none .any, .op 38 (.extract (.t 0) 0) none .any, .op 39 (.extract (.t 1) 1) none .any, .op 11 (.move (.t 1)) none .any, .op 12 (.move (.t 1)) none .any] [10, 11, 12, 13, 1, 0])
@[simp] def c11_n17 : SCode := (.seq (.region [.op 40 (.move (.t 5)) none .any, .op 41 (.bin .neq (.t 0) (.k (.c (.int .i64 0)))) none .any] [2, 3, 4, 5, 6, 7, 0]) (.cond (.t 6) (.seq (.region [.op 42 (.move (.t 5)) none .any, .op 8 (.mkNil none) none .any, .op 9 (.move (.t 1)) none .any] [1, 0]) .ret) (.pre [0, 1, 2, 3, 4] .skip)))
@[simp] def c11_n19 : SCode := (.region [.op 43 (.move (.t 1)) none .any, .op 44 (.move (.t 3)) none .any, .op 45 (.call false (.k (.c (.func 27 [] []))) [(.t 1), (.t 0)]) none .any, .op 13 (.new [(.c (.map [] []))]) none .any, .eff (.store 1 (.t 0) (.t 1)) none .any] [4, 6, 7, 8, 0])
@[simp] def c11_n21 : SCode := (.region [.op 46 (.mkFunc 28 [] [(.t 4)]) none .any, .op 14 (.new [(.c .nilfunc)]) none .any, .eff (.store 1 (.t 0) (.t 1)) none .any] [2, 3, 4, 5, 0])
@[simp] def c11_n24 : SCode := (.seq (.region [.op 47 (.move (.t 3)) none .any, .op 48 (.len 1 (.t 0)) none .any, .op 49 (.move (.k (.c (.int .i64 0)))) none .any] [3, 4, 5, 7, 8, 2, 1, 0]) (.block 0 [some 6, some 14, some 15] c11_l0))
@[simp] def c11_n26 : SCode := (.region [.op 77 (.move (.t 2)) none .any, .op 78 (.mkFunc 30 [] [(.t 2)]) none .any, .op 79 (.call false (.k (.c (.func 29 [] []))) [(.t 1), (.t 0)]) none .any] [3, 5])
@[simp] def c11_n28 : SCode := (.region [.op 80 (.move (.t 1)) none .any, .op 81 (.fieldAddr 0 (.t 1)) none .any, .op 82 (.load none (.t 0)) none .any, .op 83 (.move (.t 4)) none .any, .op 84 (.len 1 (.t 0)) none .any, .op 85 (.min (.t 2) [(.t 0)]) none .any, .op 86 (.sliceSl 1 (.t 5) none (some (.t 0)) none) none .any, .op 8 (.move (.t 0)) none .any, .op 9 (.move (.k (.c (.int .i64 0)))) none .any] [1, 0])
def c11_n27 : SCode := .seq c11_n28 .ret
instance : IsSeq c11_n27 c11_n28 .ret := ⟨rfl⟩
def c11_n25 : SCode := .seq c11_n26 c11_n27
instance : IsSeq c11_n25 c11_n26 c11_n27 := ⟨rfl⟩
def c11_n23 : SCode := .seq c11_n24 c11_n25
instance : IsSeq c11_n23 c11_n24 c11_n25 := ⟨rfl⟩
def c11_n22 : SCode := .seq (.region [.op 15 (.mkNil none) none .any] [1, 2, 3, 4, 5, 0]) c11_n23
instance : IsSeq c11_n22 (.region [.op 15 (.mkNil none) none .any] [1, 2, 3, 4, 5, 0]) c11_n23 := ⟨rfl⟩
def c11_n20 : SCode := .seq c11_n21 c11_n22
instance : IsSeq c11_n20 c11_n21 c11_n22 := ⟨rfl⟩
def c11_n18 : SCode := .seq c11_n19 c11_n20
instance : IsSeq c11_n18 c11_n19 c11_n20 := ⟨rfl⟩
def c11_n16 : SCode := .seq c11_n17 c11_n18
instance : IsSeq c11_n16 c11_n17 c11_n18 := ⟨rfl⟩
def c11_n14 : SCode := .seq c11_n15 c11_n16
instance : IsSeq c11_n14 c11_n15 c11_n16 := ⟨rfl⟩
def c11_n12 : SCode := .seq c11_n13 c11_n14
instance : IsSeq c11_n12 c11_n13 c11_n14 := ⟨rfl⟩
def c11 : SCode := (.seq (.region [.op 6 (.box (.t 2)) none .any, .op 8 (.mkNil none) none .any, .op 9 (.move (.k (.c (.int .i64 0)))) none .any] [3, 4, 6, 2]) c11_n12)
def F11 : SFunc := .code .pure 87 4 [some 8, some 9] [.tmp 0, .tmp 1] c11

-- crux/cruxref01.HasWord
-- c12_l0: env [0, 1, 5]
@[simp] def c12_n3 : SCode := (.region [.op 12 (.move (.t 0)) none .any, .op 13 (.move (.t 3)) none .any, .op 14 (.idxSlice 1 (.t 1) (.t 0)) none .any, .op 15 (.load none (.t 0)) none .any, .op 16 (.move (.t 5)) none .any, .op 17 (.bin .eql (.t 1) (.t 0)) none .any] [6, 7, 8, 0])
def c12_n2 : SCode := .seq c12_n3 (.cond (.t 3) (.seq (.region [.op 4 (.move (.k (.c (.bool true)))) none .any] [0]) .ret) (.pre [0, 1, 2] .skip))
instance : IsSeq c12_n2 c12_n3 (.cond (.t 3) (.seq (.region [.op 4 (.move (.k (.c (.bool true)))) none .any] [0]) .ret) (.pre [0, 1, 2] .skip)) := ⟨rfl⟩
def c12_n1 : SCode := .seq (.block 1 [some 0, some 1, some 5] c12_n2) (.region [.op 10 (.move (.t 2)) none .any, .op 11 (.bin .add (.t 0) (.k (.c (.int .i64 1)))) none .any, .op 5 (.move (.t 0)) none .any] [3, 4, 0])
instance : IsSeq c12_n1 (.block 1 [some 0, some 1, some 5] c12_n2) (.region [.op 10 (.move (.t 2)) none .any, .op 11 (.bin .add (.t 0) (.k (.c (.int .i64 1)))) none .any, .op 5 (.move (.t 0)) none .any] [3, 4, 0]) := ⟨rfl⟩
def c12_l0b : SCode := (.seq (.seq (.region [.op 6 (.move (.t 2)) none .any, .op 7 (.move (.t 1)) none .any, .op 8 (.len 1 (.t 0)) none .any, .op 9 (.bin .lss (.t 2) (.t 0)) none .any] [4, 5, 6, 0]) (.cond (.t 3) (.pre [0, 1, 2] .skip) (.pre [] (.exit 0)))) c12_n1)
def c12_l0 : SCode := .loop true c12_l0b
def c12 : SCode := (.seq (.region [.op 4 (.move (.k (.c (.bool false)))) none .any] [1, 2]) (.seq (.seq (.region [.op 5 (.move (.k (.c (.int .i64 0)))) none .any] [1, 2, 0]) (.block 0 [] c12_l0)) (.seq (.region [.op 4 (.move (.k (.c (.bool false)))) none .any] [0]) .ret)))
def F12 : SFunc := .code .pure 18 2 [some 4] [.tmp 0] c12

-- crux/cruxref01.SameWords
-- c13_l0: env [0, 1, 5]
@[simp] def c13_n3 : SCode := (.draw 0 [.op 17 (.move (.t 0)) none .any, .op 18 (.move (.t 3)) none .any, .op 19 (.idxSlice 1 (.t 1) (.t 0)) none .any, .op 20 (.load none (.t 0)) none .old, .op 21 (.move (.t 5)) none .any, .op 22 (.move (.t 7)) none .any, .op 23 (.idxSlice 1 (.t 1) (.t 0)) none .any, .op 24 (.load none (.t 0)) none .old, .op 25 (.bin .neq (.t 4) (.t 0)) none .any] [9, 10, 11, 0])
def c13_n2 : SCode := .seq c13_n3 (.cond (.t 3) (.seq (.region [.op 4 (.move (.k (.c (.bool false)))) none .any] [0]) .ret) (.pre [0, 1, 2] .skip))
instance : IsSeq c13_n2 c13_n3 (.cond (.t 3) (.seq (.region [.op 4 (.move (.k (.c (.bool false)))) none .any] [0]) .ret) (.pre [0, 1, 2] .skip)) := ⟨rfl⟩
def c13_n1 : SCode := .seq (.block 1 [some 0, some 1, some 5] c13_n2) (.region [.op 15 (.move (.t 2)) none .any, .op 16 (.bin .add (.t 0) (.k (.c (.int .i64 1)))) none .any, .op 5 (.move (.t 0)) none .any] [3, 4, 0])
instance : IsSeq c13_n1 (.block 1 [some 0, some 1, some 5] c13_n2) (.region [.op 15 (.move (.t 2)) none .any, .op 16 (.bin .add (.t 0) (.k (.c (.int .i64 1)))) none .any, .op 5 (.move (.t 0)) none .any] [3, 4, 0]) := ⟨rfl⟩
def c13_l0b : SCode := (.seq (.seq (.region [.op 11 (.move (.t 2)) none .any, .op 12 (.move (.t 1)) none .any, .op 13 (.len 1 (.t 0)) none .any, .op 14 (.bin .lss (.t 2) (.t 0)) none .any] [4, 5, 6, 0]) (.cond (.t 3) (.pre [0, 1, 2] .skip) (.pre [] (.exit 0)))) c13_n1)
def c13_l0 : SCode := .loop true c13_l0b
@[simp] def c13_n5 : SCode := (.seq (.region [.op 6 (.move (.t 0)) none .any, .op 7 (.len 1 (.t 0)) none .any, .op 8 (.move (.t 3)) none .any, .op 9 (.len 1 (.t 0)) none .any, .op 10 (.bin .neq (.t 2) (.t 0)) none .any] [5, 6, 0]) (.cond (.t 2) (.seq (.region [.op 4 (.move (.k (.c (.bool false)))) none .any] [0]) .ret) (.pre [0, 1] .skip)))
def c13_n4 : SCode := .seq c13_n5 (.seq (.seq (.region [.op 5 (.move (.k (.c (.int .i64 0)))) none .any] [1, 2, 0]) (.block 0 [] c13_l0)) (.seq (.region [.op 4 (.move (.k (.c (.bool true)))) none .any] [0]) .ret))
instance : IsSeq c13_n4 c13_n5 (.seq (.seq (.region [.op 5 (.move (.k (.c (.int .i64 0)))) none .any] [1, 2, 0]) (.block 0 [] c13_l0)) (.seq (.region [.op 4 (.move (.k (.c (.bool true)))) none .any] [0]) .ret)) := ⟨rfl⟩
def c13 : SCode := (.seq (.region [.op 4 (.move (.k (.c (.bool false)))) none .any] [1, 2]) c13_n4)
def F13 : SFunc := .code .pure 26 2 [some 4] [.tmp 0] c13

-- crux/cruxref09.short
-- c14_l0: env [0, 1, 5]
@[simp] def c14_n3 : SCode := (.region [.op 12 (.move (.t 0)) none .any, .op 13 (.move (.t 3)) none .any, .op 14 (.idxSlice 1 (.t 1) (.t 0)) none .any, .op 15 (.load none (.t 0)) none .any, .op 16 (.len 0 (.t 0)) none .any, .op 17 (.bin .gtr (.t 0) (.k (.c (.int .i64 40)))) none .any] [6, 7, 8, 0])
def c14_n2 : SCode := .seq c14_n3 (.cond (.t 3) (.seq (.region [.op 4 (.move (.k (.c (.bool false)))) none .any] [0]) .ret) (.pre [0, 1, 2] .skip))
instance : IsSeq c14_n2 c14_n3 (.cond (.t 3) (.seq (.region [.op 4 (.move (.k (.c (.bool false)))) none .any] [0]) .ret) (.pre [0, 1, 2] .skip)) := ⟨rfl⟩
def c14_n1 : SCode := .seq (.block 1 [some 0, some 1, some 5] c14_n2) (.region [.op 10 (.move (.t 2)) none .any, .op 11 (.bin .add (.t 0) (.k (.c (.int .i64 1)))) none .any, .op 5 (.move (.t 0)) none .any] [3, 4, 0])
instance : IsSeq c14_n1 (.block 1 [some 0, some 1, some 5] c14_n2) (.region [.op 10 (.move (.t 2)) none .any, .op 11 (.bin .add (.t 0) (.k (.c (.int .i64 1)))) none .any, .op 5 (.move (.t 0)) none .any] [3, 4, 0]) := ⟨rfl⟩
def c14_l0b : SCode := (.seq (.seq (.region [.op 6 (.move (.t 2)) none .any, .op 7 (.move (.t 1)) none .any, .op 8 (.len 1 (.t 0)) none .any, .op 9 (.bin .lss (.t 2) (.t 0)) none .any] [4, 5, 6, 0]) (.cond (.t 3) (.pre [0, 1, 2] .skip) (.pre [0, 1] (.exit 0)))) c14_n1)
def c14_l0 : SCode := .loop true c14_l0b
def c14 : SCode := (.seq (.region [.op 4 (.move (.k (.c (.bool false)))) none .any] [1, 2]) (.seq (.seq (.region [.op 5 (.move (.k (.c (.int .i64 0)))) none .any] [1, 2, 0]) (.block 0 [some 0, some 1] c14_l0)) (.seq (.region [.op 18 (.move (.t 0)) none .any, .op 19 (.len 1 (.t 0)) none .any, .op 20 (.move (.t 3)) none .any, .op 21 (.bin .leq (.t 1) (.t 0)) none .any, .op 4 (.move (.t 0)) none .any] [0]) .ret)))
def F14 : SFunc := .code .pure 22 2 [some 4] [.tmp 0] c14

-- crux/cruxref09.checkNames
-- c15_l0: env [0, 3]
@[simp] def c15_n3 : SCode := (.seq (.region [.op 10 (.move (.t 0)) none .any, .op 11 (.move (.t 2)) none .any, .op 12 (.idxSlice 1 (.t 1) (.t 0)) none .any, .op 13 (.load none (.t 0)) none .any, .op 14 (.call false (.k (.c (.func 16 [] []))) [(.t 0)]) none .any, .op 15 (.not (.t 0)) none .any] [6, 7, 0]) (.cond (.t 2) (.seq (.region [.op 2 (.move (.k (.c (.int .i64 8)))) none .any] [0]) .ret) (.pre [0, 1] .skip)))
@[simp] def c15_n5 : SCode := (.draw 0 [.op 16 (.move (.t 0)) none .any, .op 17 (.move (.t 2)) none .any, .op 18 (.sliceSl 1 (.t 1) none (some (.t 0)) none) none .any, .op 19 (.move (.t 3)) none .any, .op 20 (.move (.t 5)) none .any, .op 21 (.idxSlice 1 (.t 1) (.t 0)) none .any, .op 22 (.load none (.t 0)) none .old, .op 23 (.call false (.k (.c (.func 12 [] []))) [(.t 4), (.t 0)]) none .any] [8, 9, 0])
def c15_n4 : SCode := .seq c15_n5 (.cond (.t 2) (.seq (.region [.op 2 (.move (.k (.c (.int .i64 9)))) none .any] [0]) .ret) (.pre [0, 1] .skip))
instance : IsSeq c15_n4 c15_n5 (.cond (.t 2) (.seq (.region [.op 2 (.move (.k (.c (.int .i64 9)))) none .any] [0]) .ret) (.pre [0, 1] .skip)) := ⟨rfl⟩
def c15_n2 : SCode := .seq c15_n3 c15_n4
instance : IsSeq c15_n2 c15_n3 c15_n4 := ⟨rfl⟩
def c15_n1 : SCode := .seq (.block 1 [some 0, some 3] c15_n2) (.region [.op 8 (.move (.t 1)) none .any, .op 9 (.bin .add (.t 0) (.k (.c (.int .i64 1)))) none .any, .op 3 (.move (.t 0)) none .any] [3, 0])
instance : IsSeq c15_n1 (.block 1 [some 0, some 3] c15_n2) (.region [.op 8 (.move (.t 1)) none .any, .op 9 (.bin .add (.t 0) (.k (.c (.int .i64 1)))) none .any, .op 3 (.move (.t 0)) none .any] [3, 0]) := ⟨rfl⟩
def c15_l0b : SCode := (.seq (.seq (.region [.op 4 (.move (.t 1)) none .any, .op 5 (.move (.t 1)) none .any, .op 6 (.len 1 (.t 0)) none .any, .op 7 (.bin .lss (.t 2) (.t 0)) none .any] [4, 5, 0]) (.cond (.t 2) (.pre [0, 1] .skip) (.pre [] (.exit 0)))) c15_n1)
def c15_l0 : SCode := .loop true c15_l0b
def c15 : SCode := (.seq (.region [.op 2 (.move (.k (.c (.int .i64 0)))) none .any] [1]) (.seq (.seq (.region [.op 3 (.move (.k (.c (.int .i64 0)))) none .any] [1, 0]) (.block 0 [] c15_l0)) (.seq (.region [.op 2 (.move (.k (.c (.int .i64 0)))) none .any] [0]) .ret)))
def F15 : SFunc := .code .pure 24 1 [some 2] [.tmp 0] c15

-- crux/cruxref01.IsName
-- c16_l0: env [0, 3]
@[simp] def c16_n3 : SCode := (.region [.op 20 (.move (.t 0)) none .any, .op 21 (.move (.t 2)) none .any, .op 22 (.indexStr (.t 1) (.t 0)) none .any, .op 4 (.move (.t 0)) none .any] [4, 5, 0])
@[simp] def c16_n5 : SCode := (.region [.op 23 (.move (.t 2)) none .any, .op 24 (.bin .geq (.t 0) (.k (.c (.int .u8 97)))) none .any, .op 25 (.move (.t 0)) none .any, .andN 28 0 [.op 26 (.move (.t 5)) none .any, .op 27 (.bin .leq (.t 0) (.k (.c (.int .u8 122)))) none .any] (.t 0), .op 29 (.move (.t 0)) none .any, .orN 36 0 [.op 30 (.move (.t 7)) none .any, .op 31 (.bin .geq (.t 0) (.k (.c (.int .u8 65)))) none .any, .op 32 (.move (.t 0)) none .any, .andN 35 0 [.op 33 (.move (.t 10)) none .any, .op 34 (.bin .leq (.t 0) (.k (.c (.int .u8 90)))) none .any] (.t 0)] (.t 0), .op 5 (.move (.t 0)) none .any] [7, 8, 9, 0])
@[simp] def c16_n7 : SCode := (.region [.op 37 (.move (.t 3)) none .any, .op 38 (.not (.t 0)) none .any, .op 39 (.move (.t 0)) none .any, .andN 55 0 [.op 40 (.move (.t 4)) none .any, .op 41 (.bin .eql (.t 0) (.k (.c (.int .i64 0)))) none .any, .op 42 (.move (.t 0)) none .any, .orN 54 0 [.op 43 (.move (.t 8)) none .any, .op 44 (.bin .geq (.t 0) (.k (.c (.int .u8 48)))) none .any, .op 45 (.move (.t 0)) none .any, .andN 48 0 [.op 46 (.move (.t 11)) none .any, .op 47 (.bin .leq (.t 0) (.k (.c (.int .u8 57)))) none .any] (.t 0), .op 49 (.move (.t 0)) none .any, .orN 52 0 [.op 50 (.move (.t 13)) none .any, .op 51 (.bin .eql (.t 0) (.k (.c (.int .u8 95)))) none .any] (.t 0), .op 53 (.not (.t 0)) none .any] (.t 0)] (.t 0)] [4, 5, 0])
def c16_n6 : SCode := .seq c16_n7 (.cond (.t 2) (.seq (.region [.op 2 (.move (.k (.c (.bool false)))) none .any] [0]) .ret) (.pre [0, 1] .skip))
instance : IsSeq c16_n6 c16_n7 (.cond (.t 2) (.seq (.region [.op 2 (.move (.k (.c (.bool false)))) none .any] [0]) .ret) (.pre [0, 1] .skip)) := ⟨rfl⟩
def c16_n4 : SCode := .seq c16_n5 c16_n6
instance : IsSeq c16_n4 c16_n5 c16_n6 := ⟨rfl⟩
def c16_n2 : SCode := .seq c16_n3 c16_n4
instance : IsSeq c16_n2 c16_n3 c16_n4 := ⟨rfl⟩
def c16_n1 : SCode := .seq (.block 1 [some 0, some 3] c16_n2) (.region [.op 18 (.move (.t 1)) none .any, .op 19 (.bin .add (.t 0) (.k (.c (.int .i64 1)))) none .any, .op 3 (.move (.t 0)) none .any] [3, 0])
instance : IsSeq c16_n1 (.block 1 [some 0, some 3] c16_n2) (.region [.op 18 (.move (.t 1)) none .any, .op 19 (.bin .add (.t 0) (.k (.c (.int .i64 1)))) none .any, .op 3 (.move (.t 0)) none .any] [3, 0]) := ⟨rfl⟩
def c16_l0b : SCode := (.seq (.seq (.region [.op 14 (.move (.t 1)) none .any, .op 15 (.move (.t 1)) none .any, .op 16 (.len 0 (.t 0)) none .any, .op 17 (.bin .lss (.t 2) (.t 0)) none .any] [4, 5, 0]) (.cond (.t 2) (.pre [0, 1] .skip) (.pre [] (.exit 0)))) c16_n1)
def c16_l0 : SCode := .loop true c16_l0b
@[simp] def c16_n9 : SCode := (.seq (.region [.op 6 (.move (.t 0)) none .any, .op 7 (.len 0 (.t 0)) none .any, .op 8 (.bin .lss (.t 0) (.k (.c (.int .i64 1)))) none .any, .op 9 (.move (.t 0)) none .any, .orN 13 0 [.op 10 (.move (.t 4)) none .any, .op 11 (.len 0 (.t 0)) none .any, .op 12 (.bin .gtr (.t 0) (.k (.c (.int .i64 24)))) none .any] (.t 0)] [5, 0]) (.cond (.t 1) (.seq (.region [.op 2 (.move (.k (.c (.bool false)))) none .any] [0]) .ret) (.pre [0] .skip)))
def c16_n8 : SCode := .seq c16_n9 (.seq (.seq (.region [.op 3 (.move (.k (.c (.int .i64 0)))) none .any] [1, 0]) (.block 0 [] c16_l0)) (.seq (.region [.op 2 (.move (.k (.c (.bool true)))) none .any] [0]) .ret))
instance : IsSeq c16_n8 c16_n9 (.seq (.seq (.region [.op 3 (.move (.k (.c (.int .i64 0)))) none .any] [1, 0]) (.block 0 [] c16_l0)) (.seq (.region [.op 2 (.move (.k (.c (.bool true)))) none .any] [0]) .ret)) := ⟨rfl⟩
def c16 : SCode := (.seq (.region [.op 2 (.move (.k (.c (.bool false)))) none .any] [1]) c16_n8)
def F16 : SFunc := .code .pure 56 1 [some 2] [.tmp 0] c16

-- crux/cruxref09.Outside
def c17 : SCode := (.seq (.region [.op 6 (.move (.k (.c (.bool false)))) none .any] [1, 2, 3]) (.seq (.region [.op 7 (.move (.t 0)) none .any, .op 8 (.move (.t 2)) none .any, .op 9 (.bin .lss (.t 1) (.t 0)) none .any, .op 10 (.move (.t 0)) none .any, .orN 14 0 [.op 11 (.move (.t 4)) none .any, .op 12 (.move (.t 7)) none .any, .op 13 (.bin .gtr (.t 1) (.t 0)) none .any] (.t 0), .op 6 (.move (.t 0)) none .any] [0]) .ret))
def F17 : SFunc := .code .pure 15 3 [some 6] [.tmp 0] c17

-- crux/cruxref01.CheckDraw
@[simp] def c18_n2 : SCode := (.seq (.region [.op 5 (.move (.t 0)) none .any, .op 6 (.bin .lss (.t 0) (.k (.c (.int .i64 1)))) none .any, .op 7 (.move (.t 0)) none .any, .orN 10 0 [.op 8 (.move (.t 3)) none .any, .op 9 (.bin .gtr (.t 0) (.k (.c (.int .i64 2147483646)))) none .any] (.t 0), .op 11 (.move (.t 0)) none .any, .orN 14 0 [.op 12 (.move (.t 6)) none .any, .op 13 (.bin .lss (.t 0) (.k (.c (.int .i64 0)))) none .any] (.t 0), .op 15 (.move (.t 0)) none .any, .orN 18 0 [.op 16 (.move (.t 8)) none .any, .op 17 (.bin .gtr (.t 0) (.k (.c (.int .i64 256)))) none .any] (.t 0)] [0]) (.cond (.t 0) (.seq (.region [.op 4 (.move (.k (.c (.int .i64 3)))) none .any] [0]) .ret) (.pre [] .skip)))
def c18_n1 : SCode := .seq c18_n2 (.seq (.region [.op 4 (.move (.k (.c (.int .i64 0)))) none .any] [0]) .ret)
instance : IsSeq c18_n1 c18_n2 (.seq (.region [.op 4 (.move (.k (.c (.int .i64 0)))) none .any] [0]) .ret) := ⟨rfl⟩
def c18 : SCode := (.seq (.region [.op 4 (.move (.k (.c (.int .i64 0)))) none .any] [1, 2]) c18_n1)
def F18 : SFunc := .code .pure 19 2 [some 4] [.tmp 0] c18

-- crux/member.Appoint
@[simp] def c19_n2 : SCode := (.seq (.region [.op 7 (.load (some 2) (.t 0)) none .any, .op 8 (.call false (.k (.c (.func 32 [] []))) [(.t 0)]) none .any, .op 4 (.move (.t 0)) none .any] [3, 0]) (.seq (.region [.op 9 (.move (.t 1)) none .any, .op 10 (.bin .neq (.t 0) (.k (.c (.int .i64 0)))) none .any] [2, 3, 0]) (.cond (.t 2) (.seq (.region [.op 11 (.move (.t 1)) none .any, .op 2 (.mkNil none) none .any, .op 3 (.move (.t 1)) none .any] [1, 0]) .ret) (.pre [0] .skip))))
@[simp] def c19_n4 : SCode := (.draw 4 [.op 13 (.load (some 2) (.t 0)) none .var, .op 14 (.load (some 2) (.t 1)) none .var, .op 15 (.call false (.k (.c (.func 34 [] []))) [(.t 0)]) none .any, .op 16 (.load (some 2) (.t 3)) none .var, .op 17 (.call false (.k (.c (.func 35 [] []))) [(.t 0), (.k (.c (.int .i64 24)))]) (some 0) .any, .op 18 (.call false (.k (.c (.func 33 [] []))) [(.t 4), (.t 2), (.t 0)]) none .any, .op 12 (.move (.t 0)) none .any, .op 19 (.extract (.t 0) 0) none .any, .op 20 (.extract (.t 1) 1) none .any, .op 5 (.move (.t 1)) none .any, .op 6 (.move (.t 1)) none .any] [11, 1, 0])
@[simp] def c19_n6 : SCode := (.seq (.region [.op 21 (.move (.t 1)) none .any, .op 22 (.fieldAddr 1 (.t 1)) none .any, .op 23 (.load none (.t 0)) none .any, .op 24 (.len 1 (.t 0)) none .any, .op 25 (.bin .lss (.t 3) (.t 0)) none .any] [7, 0]) (.cond (.t 1) (.seq (.region [.op 2 (.mkNil none) none .any, .op 3 (.move (.k (.c (.int .i64 23)))) none .any] [1, 0]) .ret) (.pre [0] .skip)))
def c19_n5 : SCode := .seq c19_n6 (.seq (.region [.op 26 (.move (.t 0)) none .any, .op 2 (.move (.t 0)) none .any, .op 3 (.move (.k (.c (.int .i64 0)))) none .any] [1, 0]) .ret)
instance : IsSeq c19_n5 c19_n6 (.seq (.region [.op 26 (.move (.t 0)) none .any, .op 2 (.move (.t 0)) none .any, .op 3 (.move (.k (.c (.int .i64 0)))) none .any] [1, 0]) .ret) := ⟨rfl⟩
def c19_n3 : SCode := .seq c19_n4 c19_n5
instance : IsSeq c19_n3 c19_n4 c19_n5 := ⟨rfl⟩
def c19_n1 : SCode := .seq c19_n2 c19_n3
instance : IsSeq c19_n1 c19_n2 c19_n3 := ⟨rfl⟩
def c19 : SCode := (.seq (.region [.op 1 (.box (.t 0)) none .any, .op 2 (.mkNil none) none .any, .op 3 (.move (.k (.c (.int .i64 0)))) none .any] [2]) c19_n1)
def F19 : SFunc := .code .pure 27 1 [some 2, some 3] [.tmp 0, .tmp 1] c19

-- crux/cruxtop.karabinerJury
@[simp] def c20_n2 : SCode := (.region [.op 1 (.buildSlice 0 none 1 [(.c (.str []))] [(0, (.k (.c (.str [106, 117, 100, 103, 101]))))]) none .any, .op 2 (.build [(.c (.str [])), (.c (.str [])), .nil, (.c (.int .i64 0))] [(0, 1, (.k (.c (.str [117])))), (1, 1, (.k (.c (.str [65])))), (2, 1, (.t 0)), (3, 1, (.k (.c (.int .i64 1))))]) none .any, .op 3 (.buildSlice 0 none 1 [(.c (.str []))] [(0, (.k (.c (.str [106, 117, 100, 103, 101]))))]) none .any, .op 4 (.build [(.c (.str [])), (.c (.str [])), .nil, (.c (.int .i64 0))] [(0, 1, (.k (.c (.str [118])))), (1, 1, (.k (.c (.str [66])))), (2, 1, (.t 0)), (3, 1, (.k (.c (.int .i64 1))))]) none .any, .op 5 (.buildSlice 0 (some 4) 2 [(.c (.str [])), (.c (.str [])), .nil, (.c (.int .i64 0))] [(0, (.t 2)), (1, (.t 0))]) none .any, .op 6 (.buildSlice 0 none 1 [(.c (.str []))] [(0, (.k (.c (.str [65]))))]) none .any, .op 7 (.build [(.c (.str [])), (.c (.str [])), (.c (.int .i64 0)), .nil] [(0, 1, (.k (.c (.str [112])))), (1, 1, (.k (.c (.str [106, 117, 100, 103, 101])))), (2, 1, (.k (.c (.int .i64 9)))), (3, 1, (.t 0))]) none .any, .op 8 (.build [(.c (.str [])), (.c (.str [])), (.c (.int .i64 0)), .nil] [(0, 1, (.k (.c (.str [113])))), (1, 1, (.k (.c (.str [106, 117, 100, 103, 101])))), (2, 1, (.k (.c (.int .i64 9))))]) none .any, .op 9 (.buildSlice 0 (some 4) 2 [(.c (.str [])), (.c (.str [])), (.c (.int .i64 0)), .nil] [(0, (.t 1)), (1, (.t 0))]) none .any, .op 10 (.build [.nil, .nil] [(0, 1, (.t 4)), (1, 1, (.t 0))]) none .any, .eff (.store 2 (.t 10) (.t 0)) none .any] [10])
def c20_n1 : SCode := .seq c20_n2 .ret
instance : IsSeq c20_n1 c20_n2 .ret := ⟨rfl⟩
def c20 : SCode := (.seq (.region [.op 0 (.new [.nil, .nil]) none .any] [0]) c20_n1)
def F20 : SFunc := .code .pure 11 0 [some 0] [.cell 0 (some 2)] c20

-- crux/cruxref01.SameInts
-- c21_l0: env [0, 1, 5]
@[simp] def c21_n3 : SCode := (.draw 0 [.op 17 (.move (.t 0)) none .any, .op 18 (.move (.t 3)) none .any, .op 19 (.idxSlice 1 (.t 1) (.t 0)) none .any, .op 20 (.load none (.t 0)) none .old, .op 21 (.move (.t 5)) none .any, .op 22 (.move (.t 7)) none .any, .op 23 (.idxSlice 1 (.t 1) (.t 0)) none .any, .op 24 (.load none (.t 0)) none .old, .op 25 (.bin .neq (.t 4) (.t 0)) none .any] [9, 10, 11, 0])
def c21_n2 : SCode := .seq c21_n3 (.cond (.t 3) (.seq (.region [.op 4 (.move (.k (.c (.bool false)))) none .any] [0]) .ret) (.pre [0, 1, 2] .skip))
instance : IsSeq c21_n2 c21_n3 (.cond (.t 3) (.seq (.region [.op 4 (.move (.k (.c (.bool false)))) none .any] [0]) .ret) (.pre [0, 1, 2] .skip)) := ⟨rfl⟩
def c21_n1 : SCode := .seq (.block 1 [some 0, some 1, some 5] c21_n2) (.region [.op 15 (.move (.t 2)) none .any, .op 16 (.bin .add (.t 0) (.k (.c (.int .i64 1)))) none .any, .op 5 (.move (.t 0)) none .any] [3, 4, 0])
instance : IsSeq c21_n1 (.block 1 [some 0, some 1, some 5] c21_n2) (.region [.op 15 (.move (.t 2)) none .any, .op 16 (.bin .add (.t 0) (.k (.c (.int .i64 1)))) none .any, .op 5 (.move (.t 0)) none .any] [3, 4, 0]) := ⟨rfl⟩
def c21_l0b : SCode := (.seq (.seq (.region [.op 11 (.move (.t 2)) none .any, .op 12 (.move (.t 1)) none .any, .op 13 (.len 1 (.t 0)) none .any, .op 14 (.bin .lss (.t 2) (.t 0)) none .any] [4, 5, 6, 0]) (.cond (.t 3) (.pre [0, 1, 2] .skip) (.pre [] (.exit 0)))) c21_n1)
def c21_l0 : SCode := .loop true c21_l0b
@[simp] def c21_n5 : SCode := (.seq (.region [.op 6 (.move (.t 0)) none .any, .op 7 (.len 1 (.t 0)) none .any, .op 8 (.move (.t 3)) none .any, .op 9 (.len 1 (.t 0)) none .any, .op 10 (.bin .neq (.t 2) (.t 0)) none .any] [5, 6, 0]) (.cond (.t 2) (.seq (.region [.op 4 (.move (.k (.c (.bool false)))) none .any] [0]) .ret) (.pre [0, 1] .skip)))
def c21_n4 : SCode := .seq c21_n5 (.seq (.seq (.region [.op 5 (.move (.k (.c (.int .i64 0)))) none .any] [1, 2, 0]) (.block 0 [] c21_l0)) (.seq (.region [.op 4 (.move (.k (.c (.bool true)))) none .any] [0]) .ret))
instance : IsSeq c21_n4 c21_n5 (.seq (.seq (.region [.op 5 (.move (.k (.c (.int .i64 0)))) none .any] [1, 2, 0]) (.block 0 [] c21_l0)) (.seq (.region [.op 4 (.move (.k (.c (.bool true)))) none .any] [0]) .ret)) := ⟨rfl⟩
def c21 : SCode := (.seq (.region [.op 4 (.move (.k (.c (.bool false)))) none .any] [1, 2]) c21_n4)
def F21 : SFunc := .code .pure 26 2 [some 4] [.tmp 0] c21

-- crux/member.first
-- c22_l0: env [5, 6, 7]
@[simp] def c22_n4 : SCode := (.region [.op 9 (.idxSlice 1 (.t 0) (.t 2)) none .any, .op 10 (.load none (.t 0)) none .any, .op 4 (.move (.t 0)) none .any] [0, 3, 4, 5])
def c22_n3 : SCode := .seq c22_n4 (.seq (.region [.op 11 (.move (.t 0)) none .any, .op 12 (.bin .neq (.t 0) (.k (.c (.int .i64 0)))) none .any] [2, 3, 4, 5, 0]) (.cond (.t 4) (.seq (.region [.op 13 (.move (.t 0)) none .any, .op 2 (.move (.t 0)) none .any] [0]) .ret) (.pre [1, 2, 3] .skip)))
instance : IsSeq c22_n3 c22_n4 (.seq (.region [.op 11 (.move (.t 0)) none .any, .op 12 (.bin .neq (.t 0) (.k (.c (.int .i64 0)))) none .any] [2, 3, 4, 5, 0]) (.cond (.t 4) (.seq (.region [.op 13 (.move (.t 0)) none .any, .op 2 (.move (.t 0)) none .any] [0]) .ret) (.pre [1, 2, 3] .skip))) := ⟨rfl⟩
def c22_n2 : SCode := .seq (.block 1 [some 5, some 6, some 7] c22_n3) (.region [.op 14 (.bin .add (.t 2) (.k (.c (.int .i64 1)))) none .any, .op 7 (.move (.t 0)) none .any] [2, 3, 0])
instance : IsSeq c22_n2 (.block 1 [some 5, some 6, some 7] c22_n3) (.region [.op 14 (.bin .add (.t 2) (.k (.c (.int .i64 1)))) none .any, .op 7 (.move (.t 0)) none .any] [2, 3, 0]) := ⟨rfl⟩
def c22_n1 : SCode := .seq (.cond (.t 3) (.pre [0, 1, 2] .skip) (.pre [] (.exit 0))) c22_n2
instance : IsSeq c22_n1 (.cond (.t 3) (.pre [0, 1, 2] .skip) (.pre [] (.exit 0))) c22_n2 := ⟨rfl⟩
def c22_l0b : SCode := (.seq (.region [.op 8 (.bin .lss (.t 2) (.t 1)) none .any] [1, 2, 3, 0]) c22_n1)
def c22_l0 : SCode := .loop true c22_l0b
def c22 : SCode := (.seq (.region [.op 2 (.move (.k (.c (.int .i64 0)))) none .any] [1]) (.seq (.seq (.region [.op 5 (.move (.t 0)) none .any, .op 6 (.len 1 (.t 0)) none .any, .op 7 (.move (.k (.c (.int .i64 0)))) none .any] [2, 1, 0]) (.block 0 [] c22_l0)) (.seq (.region [.op 2 (.move (.k (.c (.int .i64 0)))) none .any] [0]) .ret)))
def F22 : SFunc := .code .pure 15 1 [some 2] [.tmp 0] c22

-- crux/member.checkNames
def c23 : SCode := (.seq (.region [.op 2 (.move (.k (.c (.int .i64 0)))) none .any] [1]) (.seq (.region [.op 3 (.move (.t 0)) none .any, .op 4 (.call false (.k (.c (.func 36 [] []))) [(.t 0), (.k (.c (.int .i64 160))), (.k (.c (.func 37 [] [])))]) none .any, .op 2 (.move (.t 0)) none .any] [0]) .ret))
def F23 : SFunc := .code .pure 5 1 [some 2] [.tmp 0] c23

-- crux/member.CheckTests
def c24 : SCode := (.seq (.region [.op 2 (.move (.k (.c (.int .i64 0)))) none .any] [1]) (.seq (.region [.op 3 (.move (.t 0)) none .any, .op 4 (.call false (.k (.c (.func 38 [] []))) [(.t 0), (.k (.c (.int .i64 256))), (.k (.c (.func 39 [] [])))]) none .any, .op 2 (.move (.t 0)) none .any] [0]) .ret))
def F24 : SFunc := .code .pure 5 1 [some 2] [.tmp 0] c24

-- (crux/member.Pick).check
@[simp] def c25_n2 : SCode := (.region [.op 6 (.fieldAddr 2 (.t 0)) none .any, .op 7 (.load none (.t 0)) none .any, .op 8 (.call false (.k (.c (.func 10 [] []))) [(.t 0), (.k (.c (.int .i64 0)))]) none .any, .op 5 (.move (.t 0)) none .any, .op 9 (.extract (.t 0) 0) none .any, .op 10 (.extract (.t 1) 1) none .any, .op 3 (.move (.t 1)) none .any, .op 4 (.move (.t 1)) none .any] [8, 0])
@[simp] def c25_n4 : SCode := (.region [.op 11 (.fieldAddr 0 (.t 0)) none .any, .op 12 (.load none (.t 0)) none .any, .op 13 (.call false (.k (.c (.func 42 [] []))) [(.t 0), (.k (.c (.int .i64 0))), (.k (.c (.int .i64 160)))]) none .any, .op 14 (.move (.t 0)) none .any, .orN 18 0 [.op 15 (.fieldAddr 1 (.t 4)) none .any, .op 16 (.load none (.t 0)) none .any, .op 17 (.call false (.k (.c (.func 42 [] []))) [(.t 0), (.k (.c (.int .i64 0))), (.k (.c (.int .i64 99999)))]) none .any] (.t 0), .op 19 (.move (.t 0)) none .any, .orN 22 0 [.op 20 (.move (.t 7)) none .any, .op 21 (.bin .neq (.t 0) (.k (.c (.int .i64 0)))) none .any] (.t 0), .op 23 (.call false (.k (.c (.func 41 [] []))) [(.t 0), (.k (.c (.int .i64 3)))]) none .any, .op 2 (.move (.t 0)) none .any] [0])
def c25_n3 : SCode := .seq c25_n4 .ret
instance : IsSeq c25_n3 c25_n4 .ret := ⟨rfl⟩
def c25_n1 : SCode := .seq c25_n2 c25_n3
instance : IsSeq c25_n1 c25_n2 c25_n3 := ⟨rfl⟩
def c25 : SCode := (.seq (.region [.op 1 (.box (.t 0)) none .any, .op 2 (.move (.k (.c (.int .i64 0)))) none .any] [1]) c25_n1)
def F25 : SFunc := .code .pure 24 1 [some 2] [.tmp 0] c25

-- crux/member.dated
def c26 : SCode := (.seq (.region [.op 2 (.move (.k (.c (.int .i64 0)))) none .any] [1]) (.seq (.region [.op 3 (.move (.t 0)) none .any, .op 4 (.call false (.k (.c (.func 42 [] []))) [(.t 0), (.k (.c (.int .i64 0))), (.k (.c (.int .i64 99999)))]) none .any, .op 5 (.call false (.k (.c (.func 41 [] []))) [(.t 0), (.k (.c (.int .i64 3)))]) none .any, .op 2 (.move (.t 0)) none .any] [0]) .ret))
def F26 : SFunc := .code .pure 6 1 [some 2] [.tmp 0] c26

-- crux/member.tested
-- c27_l0: env [1, 5, 11, 12, 13]
@[simp] def c27_n4 : SCode := (.region [.op 15 (.idxSlice 2 (.t 2) (.t 4)) none .any, .op 16 (.load (some 2) (.t 0)) none .any, .op 7 (.new [(.c (.str [])), (.c (.int .i64 0))]) none .any, .eff (.store 2 (.t 0) (.t 1)) none .any] [3, 4, 0, 5, 6, 7])
@[simp] def c27_n6 : SCode := (.region [.op 18 (.move (.t 1)) none .any, .op 19 (.fieldAddr 0 (.t 3)) none .any, .op 20 (.load none (.t 0)) none .any, .op 21 (.lookup (.one 1) (.c (.int .i64 0)) true (.t 2) (.t 0)) none .any, .op 17 (.move (.t 0)) none .any, .op 22 (.extract (.t 0) 0) none .any, .op 23 (.extract (.t 1) 1) none .any, .op 8 (.move (.t 1)) none .any, .op 9 (.move (.t 1)) none .any] [9, 10, 11, 1, 0, 12, 13, 14])
@[simp] def c27_n8 : SCode := (.region [.op 24 (.fieldAddr 1 (.t 2)) none .any, .op 25 (.load none (.t 0)) none .any, .op 26 (.move (.t 2)) none .any, .op 27 (.bin .leq (.t 1) (.t 0)) none .any, .op 28 (.move (.t 0)) none .any, .andN 37 0 [.op 29 (.move (.t 9)) none .any, .op 30 (.not (.t 0)) none .any, .op 31 (.move (.t 0)) none .any, .orN 36 0 [.op 32 (.fieldAddr 1 (.t 10)) none .any, .op 33 (.load none (.t 0)) none .any, .op 34 (.move (.t 13)) none .any, .op 35 (.bin .gtr (.t 1) (.t 0)) none .any] (.t 0)] (.t 0)] [6, 7, 8, 11, 12, 13, 0])
def c27_n7 : SCode := .seq c27_n8 (.cond (.t 6) (.region [.op 38 (.move (.t 1)) none .any, .op 39 (.fieldAddr 0 (.t 3)) none .any, .op 40 (.load none (.t 0)) none .any, .op 41 (.fieldAddr 1 (.t 5)) none .any, .op 42 (.load none (.t 0)) none .any, .eff (.mapUpdate (.one 1) (.t 4) (.t 2) (.t 0)) none .any] [5, 6, 8, 9, 10]) (.pre [0, 1, 3, 4, 5] .skip))
instance : IsSeq c27_n7 c27_n8 (.cond (.t 6) (.region [.op 38 (.move (.t 1)) none .any, .op 39 (.fieldAddr 0 (.t 3)) none .any, .op 40 (.load none (.t 0)) none .any, .op 41 (.fieldAddr 1 (.t 5)) none .any, .op 42 (.load none (.t 0)) none .any, .eff (.mapUpdate (.one 1) (.t 4) (.t 2) (.t 0)) none .any] [5, 6, 8, 9, 10]) (.pre [0, 1, 3, 4, 5] .skip)) := ⟨rfl⟩
def c27_n5 : SCode := .seq c27_n6 c27_n7
instance : IsSeq c27_n5 c27_n6 c27_n7 := ⟨rfl⟩
def c27_n3 : SCode := .seq c27_n4 c27_n5
instance : IsSeq c27_n3 c27_n4 c27_n5 := ⟨rfl⟩
def c27_n2 : SCode := .seq (.block 1 [some 1, some 5, some 11, some 12, some 13] c27_n3) (.region [.op 43 (.bin .add (.t 4) (.k (.c (.int .i64 1)))) none .any, .op 13 (.move (.t 0)) none .any] [2, 3, 4, 5, 0])
instance : IsSeq c27_n2 (.block 1 [some 1, some 5, some 11, some 12, some 13] c27_n3) (.region [.op 43 (.bin .add (.t 4) (.k (.c (.int .i64 1)))) none .any, .op 13 (.move (.t 0)) none .any] [2, 3, 4, 5, 0]) := ⟨rfl⟩
def c27_n1 : SCode := .seq (.cond (.t 5) (.pre [0, 1, 2, 3, 4] .skip) (.pre [1] (.exit 0))) c27_n2
instance : IsSeq c27_n1 (.cond (.t 5) (.pre [0, 1, 2, 3, 4] .skip) (.pre [1] (.exit 0))) c27_n2 := ⟨rfl⟩
def c27_l0b : SCode := (.seq (.region [.op 14 (.bin .lss (.t 4) (.t 3)) none .any] [1, 2, 3, 4, 5, 0]) c27_n1)
def c27_l0 : SCode := .loop true c27_l0b
@[simp] def c27_n10 : SCode := (.region [.op 10 (.makeMap) none .any, .op 5 (.move (.t 0)) none .any] [2, 3, 0])
def c27_n9 : SCode := .seq c27_n10 (.seq (.seq (.region [.op 11 (.move (.t 0)) none .any, .op 12 (.len 1 (.t 0)) none .any, .op 13 (.move (.k (.c (.int .i64 0)))) none .any] [4, 5, 2, 1, 0]) (.block 0 [some 5] c27_l0)) (.seq (.region [.op 44 (.move (.t 0)) none .any, .op 4 (.move (.t 0)) none .any] [0]) .ret))
instance : IsSeq c27_n9 c27_n10 (.seq (.seq (.region [.op 11 (.move (.t 0)) none .any, .op 12 (.len 1 (.t 0)) none .any, .op 13 (.move (.k (.c (.int .i64 0)))) none .any] [4, 5, 2, 1, 0]) (.block 0 [some 5] c27_l0)) (.seq (.region [.op 44 (.move (.t 0)) none .any, .op 4 (.move (.t 0)) none .any] [0]) .ret)) := ⟨rfl⟩
def c27 : SCode := (.seq (.region [.op 4 (.move (.k (.c (.map [] [])))) none .any] [1, 2]) c27_n9)
def F27 : SFunc := .code .pure 45 2 [some 4] [.tmp 0] c27

-- crux/member.Pool$1
@[simp] def c28_n2 : SCode := (.seq (.region [.op 7 (.load none (.t 1)) none .any, .op 8 (.move (.t 1)) none .any, .op 9 (.lookup (.one 1) (.c (.int .i64 0)) true (.t 1) (.t 0)) none .any, .op 6 (.move (.t 0)) none .any, .op 10 (.extract (.t 0) 0) none .any, .op 11 (.extract (.t 1) 1) none .any, .op 4 (.move (.t 1)) none .any, .op 5 (.move (.t 1)) none .any] [1, 0]) (.seq (.region [.op 12 (.move (.t 1)) none .any] [1, 0]) (.cond (.t 1) (.seq (.region [.op 13 (.move (.t 0)) none .any, .op 3 (.move (.t 0)) none .any] [0]) .ret) (.pre [] .skip))))
def c28_n1 : SCode := .seq c28_n2 (.seq (.region [.op 3 (.move (.k (.c (.int .i64 (-1))))) none .any] [0]) .ret)
instance : IsSeq c28_n1 c28_n2 (.seq (.region [.op 3 (.move (.k (.c (.int .i64 (-1))))) none .any] [0]) .ret) := ⟨rfl⟩
def c28 : SCode := (.seq (.region [.op 3 (.move (.k (.c (.int .i64 0)))) none .any] [1, 2]) c28_n1)
def F28 : SFunc := .code .pure 14 2 [some 3] [.tmp 0] c28

-- slices.SortStableFunc[[]string,string]
def c29 : SCode := (.region [.op 4 (.move (.t 0)) none .any, .op 5 (.move (.t 1)) none .any, .op 6 (.len 1 (.t 0)) none .any, .op 7 (.move (.t 4)) none .any, .op 8 (.call false (.k (.c (.func 43 [] []))) [(.t 3), (.t 1), (.t 0)]) none .any] [])
def F29 : SFunc := .code .shared 9 2 [] [] c29

-- crux/member.Pool$2
@[simp] def c30_n2 : SCode := (.draw 0 [.op 6 (.load none (.t 2)) none .var, .op 7 (.move (.t 1)) none .any, .op 8 (.call true (.t 1) [(.t 0)]) none .any, .op 9 (.load none (.t 5)) none .var, .op 10 (.move (.t 5)) none .any, .op 11 (.call true (.t 1) [(.t 0)]) none .any, .op 12 (.call true (.k (.c (.func 31 [] []))) [(.t 3), (.t 0)]) none .any, .op 5 (.move (.t 0)) none .any] [0])
def c30_n1 : SCode := .seq c30_n2 .ret
instance : IsSeq c30_n1 c30_n2 .ret := ⟨rfl⟩
def c30 : SCode := (.seq (.region [.op 5 (.move (.k (.c (.int .i64 0)))) none .any] [1, 2, 3]) c30_n1)
def F30 : SFunc := .code .pure 13 3 [some 5] [.tmp 0] c30

-- cmp.Compare[int]
@[simp] def c31_n2 : SCode := (.region [.op 7 (.move (.t 0)) none .any, .op 8 (.call false (.k (.c (.func 44 [] []))) [(.t 0)]) none .any, .op 5 (.move (.t 0)) none .any] [3, 4, 0])
@[simp] def c31_n4 : SCode := (.region [.op 9 (.move (.t 1)) none .any, .op 10 (.call false (.k (.c (.func 44 [] []))) [(.t 0)]) none .any, .op 6 (.move (.t 0)) none .any] [3, 4, 5, 0])
@[simp] def c31_n6 : SCode := (.seq (.region [.op 11 (.move (.t 2)) none .any] [1, 2, 4, 0]) (.cond (.t 3) (.seq (.seq (.region [.op 12 (.move (.t 2)) none .any] [0]) (.cond (.t 0) (.seq (.region [.op 4 (.move (.k (.c (.int .i64 0)))) none .any] [0]) .ret) (.pre [] .skip))) (.seq (.region [.op 4 (.move (.k (.c (.int .i64 (-1))))) none .any] [0]) .ret)) (.pre [0, 1, 2] .skip)))
@[simp] def c31_n8 : SCode := (.seq (.region [.op 13 (.move (.t 2)) none .any] [1, 2, 0]) (.cond (.t 2) (.seq (.region [.op 4 (.move (.k (.c (.int .i64 1)))) none .any] [0]) .ret) (.pre [0, 1] .skip)))
@[simp] def c31_n10 : SCode := (.seq (.region [.op 14 (.move (.t 0)) none .any, .op 15 (.move (.t 2)) none .any, .op 16 (.bin .lss (.t 1) (.t 0)) none .any] [3, 4, 0]) (.cond (.t 2) (.seq (.region [.op 4 (.move (.k (.c (.int .i64 (-1))))) none .any] [0]) .ret) (.pre [0, 1] .skip)))
def c31_n9 : SCode := .seq c31_n10 (.seq (.seq (.region [.op 17 (.move (.t 0)) none .any, .op 18 (.move (.t 2)) none .any, .op 19 (.bin .gtr (.t 1) (.t 0)) none .any] [0]) (.cond (.t 0) (.seq (.region [.op 4 (.move (.k (.c (.int .i64 1)))) none .any] [0]) .ret) (.pre [] .skip))) (.seq (.region [.op 4 (.move (.k (.c (.int .i64 0)))) none .any] [0]) .ret))
instance : IsSeq c31_n9 c31_n10 (.seq (.seq (.region [.op 17 (.move (.t 0)) none .any, .op 18 (.move (.t 2)) none .any, .op 19 (.bin .gtr (.t 1) (.t 0)) none .any] [0]) (.cond (.t 0) (.seq (.region [.op 4 (.move (.k (.c (.int .i64 1)))) none .any] [0]) .ret) (.pre [] .skip))) (.seq (.region [.op 4 (.move (.k (.c (.int .i64 0)))) none .any] [0]) .ret)) := ⟨rfl⟩
def c31_n7 : SCode := .seq c31_n8 c31_n9
instance : IsSeq c31_n7 c31_n8 c31_n9 := ⟨rfl⟩
def c31_n5 : SCode := .seq c31_n6 c31_n7
instance : IsSeq c31_n5 c31_n6 c31_n7 := ⟨rfl⟩
def c31_n3 : SCode := .seq c31_n4 c31_n5
instance : IsSeq c31_n3 c31_n4 c31_n5 := ⟨rfl⟩
def c31_n1 : SCode := .seq c31_n2 c31_n3
instance : IsSeq c31_n1 c31_n2 c31_n3 := ⟨rfl⟩
def c31 : SCode := (.seq (.region [.op 4 (.move (.k (.c (.int .i64 0)))) none .any] [1, 2]) c31_n1)
def F31 : SFunc := .code .pure 20 2 [some 4] [.tmp 0] c31

-- crux/member.checkCertain
@[simp] def c32_n2 : SCode := (.draw 1 [.op 3 (.load (some 2) (.t 0)) none .var, .op 4 (.call false (.k (.c (.func 45 [] []))) [(.t 0)]) none .any, .op 5 (.fieldAddr 1 (.t 2)) none .any, .op 6 (.load none (.t 0)) none .var, .op 7 (.len 1 (.t 0)) none .old, .op 8 (.bin .gtr (.t 0) (.k (.c (.int .i64 12)))) none .any, .op 9 (.call false (.k (.c (.func 41 [] []))) [(.t 0), (.k (.c (.int .i64 22)))]) none .any, .op 10 (.buildSlice 2 none 2 [(.c (.int .i64 0))] [(0, (.t 5)), (1, (.t 0))]) (some 0) .any, .op 11 (.call false (.k (.c (.func 22 [] []))) [(.t 0)]) none .any, .op 2 (.move (.t 0)) none .any] [0])
def c32_n1 : SCode := .seq c32_n2 .ret
instance : IsSeq c32_n1 c32_n2 .ret := ⟨rfl⟩
def c32 : SCode := (.seq (.region [.op 1 (.box (.t 0)) none .any, .op 2 (.move (.k (.c (.int .i64 0)))) none .any] [1]) c32_n1)
def F32 : SFunc := .code .pure 12 1 [some 2] [.tmp 0] c32

-- (crux/member.Jury).fill
-- c33_l0: env [1, 3, 8, 9, 26, 27]
@[simp] def c33_n4 : SCode := (.region [.op 29 (.move (.t 5)) none .any, .op 10 (.move (.t 0)) none .any] [2, 3, 4, 5, 0, 6, 7])
@[simp] def c33_n6 : SCode := (.region [.op 30 (.move (.t 2)) none .any, .op 31 (.fieldAddr 1 (.t 2)) none .any, .op 32 (.load none (.t 0)) none .any, .op 33 (.len 1 (.t 0)) none .any, .op 34 (.makeSlice none 1 [(.c (.bool false))] (.t 0) (.t 0)) none .any, .op 35 (.nilCheck (.t 4)) none .any, .op 36 (.fieldAddr 5 (.t 0)) none .any, .eff (.store 1 (.t 0) (.t 2)) none .any] [7, 8, 9, 10, 11, 12, 13])
@[simp] def c33_n8 : SCode := (.region [.op 37 (.move (.t 0)) none .any, .op 38 (.move (.t 5)) none .any, .op 39 (.bin .shr (.t 1) (.t 0)) none .any, .op 40 (.bin .and (.t 0) (.k (.c (.int .u64 1)))) none .any, .op 41 (.bin .eql (.t 0) (.k (.c (.int .u64 1)))) none .any, .op 42 (.move (.t 0)) none .any, .andN 51 0 [.op 43 (.move (.t 8)) none .any, .op 44 (.move (.t 11)) none .any, .op 45 (.makeMap) none .any, .op 46 (.fieldAddr 0 (.t 10)) none .any, .op 47 (.load none (.t 0)) none .any, .op 48 (.len 1 (.t 0)) none .any, .op 49 (.makeSlice none 1 [(.c (.bool false))] (.t 0) (.t 0)) none .any, .op 50 (.call false (.k (.c (.func 47 [] []))) [(.t 6), (.t 5), (.t 4), (.t 0)]) none .any] (.t 0)] [7, 8, 9, 10, 12, 13, 0])
def c33_n7 : SCode := .seq c33_n8 (.cond (.t 6) (.region [.op 52 (.move (.t 3)) none .any, .op 53 (.bin .add (.t 0) (.k (.c (.int .i64 1)))) none .any, .op 9 (.move (.t 0)) none .any] [3, 4, 5, 0, 7, 8]) (.pre [0, 1, 2, 3, 4, 5] .skip))
instance : IsSeq c33_n7 c33_n8 (.cond (.t 6) (.region [.op 52 (.move (.t 3)) none .any, .op 53 (.bin .add (.t 0) (.k (.c (.int .i64 1)))) none .any, .op 9 (.move (.t 0)) none .any] [3, 4, 5, 0, 7, 8]) (.pre [0, 1, 2, 3, 4, 5] .skip)) := ⟨rfl⟩
def c33_n5 : SCode := .seq c33_n6 c33_n7
instance : IsSeq c33_n5 c33_n6 c33_n7 := ⟨rfl⟩
def c33_n3 : SCode := .seq c33_n4 c33_n5
instance : IsSeq c33_n3 c33_n4 c33_n5 := ⟨rfl⟩
def c33_n2 : SCode := .seq (.block 1 [some 1, some 3, some 8, some 9, some 26, some 27] c33_n3) (.region [.op 54 (.bin .add (.t 5) (.k (.c (.int .i64 1)))) none .any, .op 27 (.move (.t 0)) none .any] [2, 3, 4, 5, 6, 0])
instance : IsSeq c33_n2 (.block 1 [some 1, some 3, some 8, some 9, some 26, some 27] c33_n3) (.region [.op 54 (.bin .add (.t 5) (.k (.c (.int .i64 1)))) none .any, .op 27 (.move (.t 0)) none .any] [2, 3, 4, 5, 6, 0]) := ⟨rfl⟩
def c33_n1 : SCode := .seq (.cond (.t 6) (.pre [0, 1, 2, 3, 4, 5] .skip) (.pre [2, 3] (.exit 0))) c33_n2
instance : IsSeq c33_n1 (.cond (.t 6) (.pre [0, 1, 2, 3, 4, 5] .skip) (.pre [2, 3] (.exit 0))) c33_n2 := ⟨rfl⟩
def c33_l0b : SCode := (.seq (.region [.op 28 (.bin .lss (.t 5) (.t 4)) none .any] [1, 2, 3, 4, 5, 6, 0]) c33_n1)
def c33_l0 : SCode := .loop true c33_l0b
@[simp] def c33_n10 : SCode := (.draw 6 [.op 11 (.load (some 2) (.t 2)) none .var, .op 12 (.move (.t 2)) none .any, .op 13 (.buildSlice 1 none 1 [(.c (.int .i64 0))] [(0, (.k (.c (.int .i64 (-1)))))]) none .any, .op 14 (.fieldAddr 1 (.t 5)) none .any, .op 15 (.load none (.t 0)) none .var, .op 16 (.len 1 (.t 0)) none .old, .op 17 (.call true (.k (.c (.func 46 [] []))) [(.t 3), (.t 0)]) (some 0) .any, .op 18 (.fieldAddr 0 (.t 9)) none .any, .op 19 (.load none (.t 0)) none .var, .op 20 (.len 1 (.t 0)) none .old, .op 21 (.makeSlice none 8 [(.c (.int .i64 0))] (.t 0) (.t 0)) (some 4) .any, .op 22 (.build [.nil, .nil, .nil, .nil, .nil, .nil] [(0, 2, (.t 10)), (2, 1, (.t 9)), (3, 1, (.t 4)), (4, 1, (.t 0))]) none .any, .op 23 (.box (.t 0)) (some 5) .any, .op 8 (.move (.t 0)) none .any] [14, 16, 0])
@[simp] def c33_n13 : SCode := (.seq (.region [.op 24 (.fieldAddr 1 (.t 1)) none .any, .op 25 (.load none (.t 0)) none .any, .op 26 (.len 1 (.t 0)) none .any, .op 27 (.move (.k (.c (.int .i64 0)))) none .any] [4, 5, 6, 7, 1, 0]) (.block 0 [some 8, some 9] c33_l0))
def c33_n12 : SCode := .seq c33_n13 (.seq (.draw 0 [.op 55 (.move (.t 1)) none .any, .op 56 (.move (.t 1)) none .any, .op 57 (.nilCheck (.t 0)) none .any, .op 58 (.fieldAddr 3 (.t 0)) none .any, .op 59 (.load none (.t 0)) none .var, .op 6 (.move (.t 4)) none .any, .op 7 (.move (.t 1)) none .any] [1, 0]) .ret)
instance : IsSeq c33_n12 c33_n13 (.seq (.draw 0 [.op 55 (.move (.t 1)) none .any, .op 56 (.move (.t 1)) none .any, .op 57 (.nilCheck (.t 0)) none .any, .op 58 (.fieldAddr 3 (.t 0)) none .any, .op 59 (.load none (.t 0)) none .var, .op 6 (.move (.t 4)) none .any, .op 7 (.move (.t 1)) none .any] [1, 0]) .ret) := ⟨rfl⟩
def c33_n11 : SCode := .seq (.region [.op 9 (.move (.k (.c (.int .i64 0)))) none .any] [1, 2, 3, 0]) c33_n12
instance : IsSeq c33_n11 (.region [.op 9 (.move (.k (.c (.int .i64 0)))) none .any] [1, 2, 3, 0]) c33_n12 := ⟨rfl⟩
def c33_n9 : SCode := .seq c33_n10 c33_n11
instance : IsSeq c33_n9 c33_n10 c33_n11 := ⟨rfl⟩
def c33 : SCode := (.seq (.region [.op 3 (.box (.t 0)) none .any, .op 6 (.move (.k (.c (.int .i64 0)))) none .any, .op 7 (.mkNil none) none .any] [4, 5, 2]) c33_n9)
def F33 : SFunc := .code .pure 60 3 [some 6, some 7] [.tmp 0, .tmp 1] c33

-- (crux/member.Jury).all
def c34 : SCode := (.seq (.region [.op 1 (.box (.t 0)) none .any, .op 2 (.move (.k (.c (.int .u64 0)))) none .any] [1]) (.seq (.region [.op 3 (.fieldAddr 1 (.t 0)) none .any, .op 4 (.load none (.t 0)) none .any, .op 5 (.len 1 (.t 0)) none .any, .op 6 (.bin .shl (.k (.c (.int .u64 1))) (.t 0)) none .any, .op 7 (.bin .sub (.t 0) (.k (.c (.int .u64 1)))) none .any, .op 2 (.move (.t 0)) none .any] [0]) .ret))
def F34 : SFunc := .code .pure 8 1 [some 2] [.tmp 0] c34

-- (crux/member.Jury).loads
-- c35_l0: env [1, 5, 9, 10, 11]
@[simp] def c35_n4 : SCode := (.region [.op 13 (.idxSlice 4 (.t 2) (.t 4)) none .any, .op 14 (.load (some 4) (.t 0)) none .any, .op 7 (.new [(.c (.str [])), (.c (.str [])), .nil, (.c (.int .i64 0))]) none .any, .eff (.store 4 (.t 0) (.t 1)) none .any] [3, 4, 0, 5, 6, 7])
@[simp] def c35_n5 : SCode := (.region [.op 15 (.move (.t 1)) none .any, .op 16 (.fieldAddr 3 (.t 3)) none .any, .op 17 (.load none (.t 0)) none .any, .op 18 (.move (.t 3)) none .any, .op 19 (.min (.t 1) [(.t 0)]) none .any, .op 20 (.buildSlice 2 none 1 [(.c (.int .i64 0))] [(0, (.t 0))]) none .any, .op 21 (.append none 8 (.t 5) (.t 0)) none .any, .op 5 (.move (.t 0)) none .any] [8, 0, 11, 12, 13])
def c35_n3 : SCode := .seq c35_n4 c35_n5
instance : IsSeq c35_n3 c35_n4 c35_n5 := ⟨rfl⟩
def c35_n2 : SCode := .seq (.block 1 [some 1, some 5, some 9, some 10, some 11] c35_n3) (.region [.op 22 (.bin .add (.t 4) (.k (.c (.int .i64 1)))) none .any, .op 11 (.move (.t 0)) none .any] [2, 3, 4, 5, 0])
instance : IsSeq c35_n2 (.block 1 [some 1, some 5, some 9, some 10, some 11] c35_n3) (.region [.op 22 (.bin .add (.t 4) (.k (.c (.int .i64 1)))) none .any, .op 11 (.move (.t 0)) none .any] [2, 3, 4, 5, 0]) := ⟨rfl⟩
def c35_n1 : SCode := .seq (.cond (.t 5) (.pre [0, 1, 2, 3, 4] .skip) (.pre [1] (.exit 0))) c35_n2
instance : IsSeq c35_n1 (.cond (.t 5) (.pre [0, 1, 2, 3, 4] .skip) (.pre [1] (.exit 0))) c35_n2 := ⟨rfl⟩
def c35_l0b : SCode := (.seq (.region [.op 12 (.bin .lss (.t 4) (.t 3)) none .any] [1, 2, 3, 4, 5, 0]) c35_n1)
def c35_l0 : SCode := .loop true c35_l0b
def c35_n6 : SCode := .seq (.region [.op 5 (.mkNil none) none .any] [1, 2, 0]) (.seq (.seq (.region [.op 8 (.fieldAddr 0 (.t 1)) none .any, .op 9 (.load none (.t 0)) none .any, .op 10 (.len 1 (.t 0)) none .any, .op 11 (.move (.k (.c (.int .i64 0)))) none .any] [4, 6, 2, 1, 0]) (.block 0 [some 5] c35_l0)) (.seq (.region [.op 23 (.move (.t 0)) none .any, .op 4 (.move (.t 0)) none .any] [0]) .ret))
instance : IsSeq c35_n6 (.region [.op 5 (.mkNil none) none .any] [1, 2, 0]) (.seq (.seq (.region [.op 8 (.fieldAddr 0 (.t 1)) none .any, .op 9 (.load none (.t 0)) none .any, .op 10 (.len 1 (.t 0)) none .any, .op 11 (.move (.k (.c (.int .i64 0)))) none .any] [4, 6, 2, 1, 0]) (.block 0 [some 5] c35_l0)) (.seq (.region [.op 23 (.move (.t 0)) none .any, .op 4 (.move (.t 0)) none .any] [0]) .ret)) := ⟨rfl⟩
def c35 : SCode := (.seq (.region [.op 2 (.box (.t 0)) none .any, .op 4 (.mkNil none) none .any] [3, 1]) c35_n6)
def F35 : SFunc := .code (.fresh 4) 24 2 [some 4] [.tmp 0] c35

-- crux/member.each[string]
-- c36_l0: env [0, 2, 14, 15, 16]
@[simp] def c36_n4 : SCode := (.region [.op 18 (.move (.t 4)) none .any, .op 19 (.idxSlice 1 (.t 3) (.t 5)) none .any, .op 20 (.load none (.t 0)) none .any, .op 7 (.move (.t 2)) none .any, .op 8 (.move (.t 1)) none .any] [5, 6, 1, 0, 7, 8, 9])
@[simp] def c36_n6 : SCode := (.region [.op 21 (.move (.t 1)) none .any, .op 22 (.move (.t 4)) none .any, .op 23 (.move (.t 2)) none .any, .op 24 (.move (.t 5)) none .any, .op 25 (.sliceSl 1 (.t 1) none (some (.t 0)) none) none .any, .op 26 (.call false (.t 4) [(.t 3), (.t 0)]) none .any, .op 9 (.move (.t 0)) none .any] [7, 8, 0, 11, 12, 13])
def c36_n5 : SCode := .seq c36_n6 (.seq (.region [.op 27 (.move (.t 2)) none .any, .op 28 (.bin .neq (.t 0) (.k (.c (.int .i64 0)))) none .any] [2, 3, 4, 5, 6, 7, 0]) (.cond (.t 6) (.seq (.region [.op 29 (.move (.t 2)) none .any, .op 6 (.move (.t 0)) none .any] [0]) .ret) (.pre [0, 1, 3, 4, 5] .skip)))
instance : IsSeq c36_n5 c36_n6 (.seq (.region [.op 27 (.move (.t 2)) none .any, .op 28 (.bin .neq (.t 0) (.k (.c (.int .i64 0)))) none .any] [2, 3, 4, 5, 6, 7, 0]) (.cond (.t 6) (.seq (.region [.op 29 (.move (.t 2)) none .any, .op 6 (.move (.t 0)) none .any] [0]) .ret) (.pre [0, 1, 3, 4, 5] .skip))) := ⟨rfl⟩
def c36_n3 : SCode := .seq c36_n4 c36_n5
instance : IsSeq c36_n3 c36_n4 c36_n5 := ⟨rfl⟩
def c36_n2 : SCode := .seq (.block 1 [some 0, some 2, some 14, some 15, some 16] c36_n3) (.region [.op 30 (.bin .add (.t 4) (.k (.c (.int .i64 1)))) none .any, .op 16 (.move (.t 0)) none .any] [2, 3, 4, 5, 0])
instance : IsSeq c36_n2 (.block 1 [some 0, some 2, some 14, some 15, some 16] c36_n3) (.region [.op 30 (.bin .add (.t 4) (.k (.c (.int .i64 1)))) none .any, .op 16 (.move (.t 0)) none .any] [2, 3, 4, 5, 0]) := ⟨rfl⟩
def c36_n1 : SCode := .seq (.cond (.t 5) (.pre [0, 1, 2, 3, 4] .skip) (.pre [] (.exit 0))) c36_n2
instance : IsSeq c36_n1 (.cond (.t 5) (.pre [0, 1, 2, 3, 4] .skip) (.pre [] (.exit 0))) c36_n2 := ⟨rfl⟩
def c36_l0b : SCode := (.seq (.region [.op 17 (.bin .lss (.t 4) (.t 3)) none .any] [1, 2, 3, 4, 5, 0]) c36_n1)
def c36_l0 : SCode := .loop true c36_l0b
@[simp] def c36_n8 : SCode := (.seq (.region [.op 10 (.move (.t 0)) none .any, .op 11 (.len 1 (.t 0)) none .any, .op 12 (.move (.t 3)) none .any, .op 13 (.bin .gtr (.t 1) (.t 0)) none .any] [4, 6, 0]) (.cond (.t 2) (.seq (.region [.op 6 (.move (.k (.c (.int .i64 5)))) none .any] [0]) .ret) (.pre [0, 1] .skip)))
def c36_n7 : SCode := .seq c36_n8 (.seq (.seq (.region [.op 14 (.move (.t 0)) none .any, .op 15 (.len 1 (.t 0)) none .any, .op 16 (.move (.k (.c (.int .i64 0)))) none .any] [3, 4, 2, 1, 0]) (.block 0 [] c36_l0)) (.seq (.region [.op 6 (.move (.k (.c (.int .i64 0)))) none .any] [0]) .ret))
instance : IsSeq c36_n7 c36_n8 (.seq (.seq (.region [.op 14 (.move (.t 0)) none .any, .op 15 (.len 1 (.t 0)) none .any, .op 16 (.move (.k (.c (.int .i64 0)))) none .any] [3, 4, 2, 1, 0]) (.block 0 [] c36_l0)) (.seq (.region [.op 6 (.move (.k (.c (.int .i64 0)))) none .any] [0]) .ret)) := ⟨rfl⟩
def c36 : SCode := (.seq (.region [.op 6 (.move (.k (.c (.int .i64 0)))) none .any] [1, 2, 3]) c36_n7)
def F36 : SFunc := .code .pure 31 3 [some 6] [.tmp 0] c36

-- crux/member.once
@[simp] def c37_n2 : SCode := (.region [.op 5 (.move (.t 0)) none .any, .op 6 (.call false (.k (.c (.func 40 [] []))) [(.t 0)]) none .any, .op 7 (.move (.t 3)) none .any, .op 8 (.move (.t 3)) none .any, .op 9 (.call false (.k (.c (.func 48 [] []))) [(.t 1), (.t 0)]) none .any, .op 10 (.call false (.k (.c (.func 41 [] []))) [(.t 0), (.k (.c (.int .i64 9)))]) none .any, .op 11 (.buildSlice 2 none 2 [(.c (.int .i64 0))] [(0, (.t 4)), (1, (.t 0))]) none .any, .op 12 (.call false (.k (.c (.func 22 [] []))) [(.t 0)]) none .any, .op 4 (.move (.t 0)) none .any] [0])
def c37_n1 : SCode := .seq c37_n2 .ret
instance : IsSeq c37_n1 c37_n2 .ret := ⟨rfl⟩
def c37 : SCode := (.seq (.region [.op 4 (.move (.k (.c (.int .i64 0)))) none .any] [1, 2]) c37_n1)
def F37 : SFunc := .code .pure 13 2 [some 4] [.tmp 0] c37

-- crux/member.each[crux/member.Test]
-- c38_l0: env [0, 2, 14, 15, 16]
@[simp] def c38_n4 : SCode := (.region [.op 18 (.move (.t 4)) none .any, .op 19 (.idxSlice 2 (.t 3) (.t 5)) none .any, .op 20 (.load (some 2) (.t 0)) none .any, .op 8 (.new [(.c (.str [])), (.c (.int .i64 0))]) none .any, .op 7 (.move (.t 3)) none .any, .eff (.store 2 (.t 1) (.t 2)) none .any] [5, 6, 0, 1, 7, 8, 9])
@[simp] def c38_n6 : SCode := (.draw 0 [.op 21 (.move (.t 1)) none .any, .op 22 (.load (some 2) (.t 4)) none .var, .op 23 (.move (.t 2)) none .any, .op 24 (.move (.t 5)) none .any, .op 25 (.sliceSl 2 (.t 1) none (some (.t 0)) none) none .any, .op 26 (.call false (.t 4) [(.t 3), (.t 0)]) none .any, .op 9 (.move (.t 0)) none .any] [7, 8, 0, 11, 12, 13])
def c38_n5 : SCode := .seq c38_n6 (.seq (.region [.op 27 (.move (.t 2)) none .any, .op 28 (.bin .neq (.t 0) (.k (.c (.int .i64 0)))) none .any] [2, 3, 4, 5, 6, 7, 0]) (.cond (.t 6) (.seq (.region [.op 29 (.move (.t 2)) none .any, .op 6 (.move (.t 0)) none .any] [0]) .ret) (.pre [0, 1, 3, 4, 5] .skip)))
instance : IsSeq c38_n5 c38_n6 (.seq (.region [.op 27 (.move (.t 2)) none .any, .op 28 (.bin .neq (.t 0) (.k (.c (.int .i64 0)))) none .any] [2, 3, 4, 5, 6, 7, 0]) (.cond (.t 6) (.seq (.region [.op 29 (.move (.t 2)) none .any, .op 6 (.move (.t 0)) none .any] [0]) .ret) (.pre [0, 1, 3, 4, 5] .skip))) := ⟨rfl⟩
def c38_n3 : SCode := .seq c38_n4 c38_n5
instance : IsSeq c38_n3 c38_n4 c38_n5 := ⟨rfl⟩
def c38_n2 : SCode := .seq (.block 1 [some 0, some 2, some 14, some 15, some 16] c38_n3) (.region [.op 30 (.bin .add (.t 4) (.k (.c (.int .i64 1)))) none .any, .op 16 (.move (.t 0)) none .any] [2, 3, 4, 5, 0])
instance : IsSeq c38_n2 (.block 1 [some 0, some 2, some 14, some 15, some 16] c38_n3) (.region [.op 30 (.bin .add (.t 4) (.k (.c (.int .i64 1)))) none .any, .op 16 (.move (.t 0)) none .any] [2, 3, 4, 5, 0]) := ⟨rfl⟩
def c38_n1 : SCode := .seq (.cond (.t 5) (.pre [0, 1, 2, 3, 4] .skip) (.pre [] (.exit 0))) c38_n2
instance : IsSeq c38_n1 (.cond (.t 5) (.pre [0, 1, 2, 3, 4] .skip) (.pre [] (.exit 0))) c38_n2 := ⟨rfl⟩
def c38_l0b : SCode := (.seq (.region [.op 17 (.bin .lss (.t 4) (.t 3)) none .any] [1, 2, 3, 4, 5, 0]) c38_n1)
def c38_l0 : SCode := .loop true c38_l0b
@[simp] def c38_n8 : SCode := (.seq (.region [.op 10 (.move (.t 0)) none .any, .op 11 (.len 1 (.t 0)) none .any, .op 12 (.move (.t 3)) none .any, .op 13 (.bin .gtr (.t 1) (.t 0)) none .any] [4, 6, 0]) (.cond (.t 2) (.seq (.region [.op 6 (.move (.k (.c (.int .i64 5)))) none .any] [0]) .ret) (.pre [0, 1] .skip)))
def c38_n7 : SCode := .seq c38_n8 (.seq (.seq (.region [.op 14 (.move (.t 0)) none .any, .op 15 (.len 1 (.t 0)) none .any, .op 16 (.move (.k (.c (.int .i64 0)))) none .any] [3, 4, 2, 1, 0]) (.block 0 [] c38_l0)) (.seq (.region [.op 6 (.move (.k (.c (.int .i64 0)))) none .any] [0]) .ret))
instance : IsSeq c38_n7 c38_n8 (.seq (.seq (.region [.op 14 (.move (.t 0)) none .any, .op 15 (.len 1 (.t 0)) none .any, .op 16 (.move (.k (.c (.int .i64 0)))) none .any] [3, 4, 2, 1, 0]) (.block 0 [] c38_l0)) (.seq (.region [.op 6 (.move (.k (.c (.int .i64 0)))) none .any] [0]) .ret)) := ⟨rfl⟩
def c38 : SCode := (.seq (.region [.op 6 (.move (.k (.c (.int .i64 0)))) none .any] [1, 2, 3]) c38_n7)
def F38 : SFunc := .code .pure 31 3 [some 6] [.tmp 0] c38

-- crux/member.CheckTests$1
@[simp] def c39_n2 : SCode := (.draw 1 [.op 5 (.fieldAddr 0 (.t 0)) none .any, .op 6 (.load none (.t 0)) none .var, .op 7 (.call false (.k (.c (.func 40 [] []))) [(.t 0)]) none .any, .op 8 (.fieldAddr 1 (.t 3)) none .any, .op 9 (.load none (.t 0)) none .var, .op 10 (.call false (.k (.c (.func 26 [] []))) [(.t 0)]) none .any, .op 11 (.buildSlice 2 none 2 [(.c (.int .i64 0))] [(0, (.t 3)), (1, (.t 0))]) (some 0) .any, .op 12 (.call false (.k (.c (.func 22 [] []))) [(.t 0)]) none .any, .op 4 (.move (.t 0)) none .any] [0])
def c39_n1 : SCode := .seq c39_n2 .ret
instance : IsSeq c39_n1 c39_n2 .ret := ⟨rfl⟩
def c39 : SCode := (.seq (.region [.op 2 (.box (.t 0)) none .any, .op 4 (.move (.k (.c (.int .i64 0)))) none .any] [1]) c39_n1)
def F39 : SFunc := .code .pure 13 2 [some 4] [.tmp 0] c39

-- crux/member.named
def c40 : SCode := (.seq (.region [.op 2 (.move (.k (.c (.int .i64 0)))) none .any] [1]) (.seq (.region [.op 3 (.move (.t 0)) none .any, .op 4 (.call false (.k (.c (.func 49 [] []))) [(.t 0)]) none .any, .op 5 (.not (.t 0)) none .any, .op 6 (.call false (.k (.c (.func 41 [] []))) [(.t 0), (.k (.c (.int .i64 8)))]) none .any, .op 2 (.move (.t 0)) none .any] [0]) .ret))
def F40 : SFunc := .code .pure 7 1 [some 2] [.tmp 0] c40

-- crux/member.when
def c41 : SCode := (.seq (.region [.op 4 (.move (.k (.c (.int .i64 0)))) none .any] [1, 2]) (.seq (.seq (.region [.op 5 (.move (.t 0)) none .any] [2, 0]) (.cond (.t 1) (.seq (.region [.op 6 (.move (.t 0)) none .any, .op 4 (.move (.t 0)) none .any] [0]) .ret) (.pre [] .skip))) (.seq (.region [.op 4 (.move (.k (.c (.int .i64 0)))) none .any] [0]) .ret)))
def F41 : SFunc := .code .pure 7 2 [some 4] [.tmp 0] c41

-- crux/member.outside
def c42 : SCode := (.seq (.region [.op 6 (.move (.k (.c (.bool false)))) none .any] [1, 2, 3]) (.seq (.region [.op 7 (.move (.t 0)) none .any, .op 8 (.move (.t 2)) none .any, .op 9 (.bin .lss (.t 1) (.t 0)) none .any, .op 10 (.move (.t 0)) none .any, .orN 14 0 [.op 11 (.move (.t 4)) none .any, .op 12 (.move (.t 7)) none .any, .op 13 (.bin .gtr (.t 1) (.t 0)) none .any] (.t 0), .op 6 (.move (.t 0)) none .any] [0]) .ret))
def F42 : SFunc := .code .pure 15 3 [some 6] [.tmp 0] c42

-- slices.stableCmpFunc[string]
-- c43_l0: env [0, 1, 2, 6, 7, 8]
-- c43_l1: env [0, 1, 2, 6, 7, 8]
-- c43_l2: env [0, 1, 2, 6]
@[simp] def c43_n3 : SCode := (.region [.op 14 (.move (.t 0)) none .any, .op 15 (.move (.t 5)) none .any, .op 16 (.move (.t 7)) none .any, .op 17 (.move (.t 5)) none .any, .op 18 (.call false (.k (.c (.func 50 [] []))) [(.t 3), (.t 2), (.t 1), (.t 0)]) none .any] [5, 6, 7, 8, 10])
def c43_n2 : SCode := .seq c43_n3 (.seq (.region [.op 19 (.move (.t 4)) none .any, .op 7 (.move (.t 0)) none .any] [2, 3, 4, 5, 0, 6]) (.region [.op 20 (.move (.t 5)) none .any, .op 21 (.move (.t 4)) none .any, .op 22 (.bin .add (.t 1) (.t 0)) none .any, .op 8 (.move (.t 0)) none .any] [4, 5, 6, 7, 8, 0]))
instance : IsSeq c43_n2 c43_n3 (.seq (.region [.op 19 (.move (.t 4)) none .any, .op 7 (.move (.t 0)) none .any] [2, 3, 4, 5, 0, 6]) (.region [.op 20 (.move (.t 5)) none .any, .op 21 (.move (.t 4)) none .any, .op 22 (.bin .add (.t 1) (.t 0)) none .any, .op 8 (.move (.t 0)) none .any] [4, 5, 6, 7, 8, 0])) := ⟨rfl⟩
def c43_n1 : SCode := .block 1 [some 0, some 1, some 2, some 6, some 7, some 8] c43_n2
instance : IsBlock c43_n1 1 [some 0, some 1, some 2, some 6, some 7, some 8] c43_n2 := ⟨rfl⟩
def c43_l0b : SCode := (.seq (.seq (.region [.op 11 (.move (.t 5)) none .any, .op 12 (.move (.t 2)) none .any, .op 13 (.bin .leq (.t 1) (.t 0)) none .any] [3, 4, 5, 6, 7, 8, 0]) (.cond (.t 6) (.pre [0, 1, 2, 3, 4, 5] .skip) (.pre [0, 1, 2, 3, 4] (.exit 0)))) c43_n1)
def c43_l0 : SCode := .loop true c43_l0b
@[simp] def c43_n6 : SCode := (.region [.op 36 (.move (.t 0)) none .any, .op 37 (.move (.t 5)) none .any, .op 38 (.move (.t 6)) none .any, .op 39 (.move (.t 6)) none .any, .op 40 (.bin .add (.t 1) (.t 0)) none .any, .op 41 (.move (.t 10)) none .any, .op 42 (.move (.t 8)) none .any, .op 43 (.call false (.k (.c (.func 51 [] []))) [(.t 6), (.t 5), (.t 2), (.t 1), (.t 0)]) none .any] [8, 9, 10, 11, 13])
def c43_n5 : SCode := .seq c43_n6 (.seq (.region [.op 44 (.move (.t 4)) none .any, .op 7 (.move (.t 0)) none .any] [2, 3, 4, 5, 0, 6]) (.region [.op 45 (.move (.t 5)) none .any, .op 46 (.move (.t 4)) none .any, .op 47 (.bin .mul (.k (.c (.int .i64 2))) (.t 0)) none .any, .op 48 (.bin .add (.t 2) (.t 0)) none .any, .op 8 (.move (.t 0)) none .any] [5, 6, 7, 8, 9, 0]))
instance : IsSeq c43_n5 c43_n6 (.seq (.region [.op 44 (.move (.t 4)) none .any, .op 7 (.move (.t 0)) none .any] [2, 3, 4, 5, 0, 6]) (.region [.op 45 (.move (.t 5)) none .any, .op 46 (.move (.t 4)) none .any, .op 47 (.bin .mul (.k (.c (.int .i64 2))) (.t 0)) none .any, .op 48 (.bin .add (.t 2) (.t 0)) none .any, .op 8 (.move (.t 0)) none .any] [5, 6, 7, 8, 9, 0])) := ⟨rfl⟩
def c43_n4 : SCode := .block 5 [some 0, some 1, some 2, some 6, some 7, some 8] c43_n5
instance : IsBlock c43_n4 5 [some 0, some 1, some 2, some 6, some 7, some 8] c43_n5 := ⟨rfl⟩
def c43_l1b : SCode := (.seq (.seq (.region [.op 33 (.move (.t 5)) none .any, .op 34 (.move (.t 2)) none .any, .op 35 (.bin .leq (.t 1) (.t 0)) none .any] [3, 4, 5, 6, 7, 8, 0]) (.cond (.t 6) (.pre [0, 1, 2, 3, 4, 5] .skip) (.pre [0, 1, 2, 3, 4] (.exit 4)))) c43_n4)
def c43_l1 : SCode := .loop true c43_l1b
@[simp] def c43_n9 : SCode := (.region [.op 31 (.move (.t 3)) none .any, .op 32 (.bin .mul (.k (.c (.int .i64 2))) (.t 0)) none .any, .op 7 (.move (.k (.c (.int .i64 0)))) none .any, .op 8 (.move (.t 1)) none .any] [4, 5, 6, 7, 1, 0])
@[simp] def c43_n13 : SCode := (.region [.op 52 (.move (.t 5)) none .any, .op 53 (.move (.t 2)) none .any, .op 54 (.bin .lss (.t 1) (.t 0)) none .any] [3, 4, 5, 6, 7, 8, 0])
def c43_n12 : SCode := .seq c43_n13 (.cond (.t 6) (.region [.op 55 (.move (.t 0)) none .any, .op 56 (.move (.t 5)) none .any, .op 57 (.move (.t 7)) none .any, .op 58 (.move (.t 4)) none .any, .op 59 (.move (.t 6)) none .any, .op 60 (.call false (.k (.c (.func 51 [] []))) [(.t 4), (.t 3), (.t 2), (.t 1), (.t 0)]) none .any] [6, 7, 8, 9]) (.pre [0, 1, 2, 3] .skip))
instance : IsSeq c43_n12 c43_n13 (.cond (.t 6) (.region [.op 55 (.move (.t 0)) none .any, .op 56 (.move (.t 5)) none .any, .op 57 (.move (.t 7)) none .any, .op 58 (.move (.t 4)) none .any, .op 59 (.move (.t 6)) none .any, .op 60 (.call false (.k (.c (.func 51 [] []))) [(.t 4), (.t 3), (.t 2), (.t 1), (.t 0)]) none .any] [6, 7, 8, 9]) (.pre [0, 1, 2, 3] .skip)) := ⟨rfl⟩
@[simp] def c43_n14 : SCode := (.seq (.region [.op 49 (.move (.t 4)) none .any, .op 50 (.move (.t 4)) none .any, .op 51 (.bin .add (.t 1) (.t 0)) none .any, .op 9 (.move (.t 0)) none .any] [4, 5, 6, 7, 8, 0]) c43_n12)
def c43_n11 : SCode := .seq c43_n14 (.region [.op 61 (.move (.t 3)) none .any, .op 62 (.bin .mul (.t 0) (.k (.c (.int .i64 2)))) none .any, .op 6 (.move (.t 0)) none .any] [3, 4, 5, 0])
instance : IsSeq c43_n11 c43_n14 (.region [.op 61 (.move (.t 3)) none .any, .op 62 (.bin .mul (.t 0) (.k (.c (.int .i64 2)))) none .any, .op 6 (.move (.t 0)) none .any] [3, 4, 5, 0]) := ⟨rfl⟩
def c43_n10 : SCode := .seq (.block 4 [some 0, some 1, some 2, some 6, some 7] c43_l1) c43_n11
instance : IsSeq c43_n10 (.block 4 [some 0, some 1, some 2, some 6, some 7] c43_l1) c43_n11 := ⟨rfl⟩
def c43_n8 : SCode := .seq c43_n9 c43_n10
instance : IsSeq c43_n8 c43_n9 c43_n10 := ⟨rfl⟩
def c43_n7 : SCode := .block 3 [some 0, some 1, some 2, some 6] c43_n8
instance : IsBlock c43_n7 3 [some 0, some 1, some 2, some 6] c43_n8 := ⟨rfl⟩
def c43_l2b : SCode := (.seq (.seq (.region [.op 28 (.move (.t 3)) none .any, .op 29 (.move (.t 2)) none .any, .op 30 (.bin .lss (.t 1) (.t 0)) none .any] [3, 4, 5, 6, 0]) (.cond (.t 4) (.pre [0, 1, 2, 3] .skip) (.pre [] (.exit 2)))) c43_n7)
def c43_l2 : SCode := .loop true c43_l2b
@[simp] def c43_n16 : SCode := (.region [.op 10 (.move (.t 3)) none .any, .op 7 (.move (.k (.c (.int .i64 0)))) none .any, .op 8 (.move (.t 1)) none .any] [3, 4, 5, 6, 1, 0])
def c43_n15 : SCode := .seq c43_n16 (.seq (.block 0 [some 0, some 1, some 2, some 6, some 7] c43_l0) (.seq (.region [.op 23 (.move (.t 0)) none .any, .op 24 (.move (.t 5)) none .any, .op 25 (.move (.t 3)) none .any, .op 26 (.move (.t 5)) none .any, .op 27 (.call false (.k (.c (.func 50 [] []))) [(.t 3), (.t 2), (.t 1), (.t 0)]) none .any] [5, 6, 7, 8]) (.block 2 [] c43_l2)))
instance : IsSeq c43_n15 c43_n16 (.seq (.block 0 [some 0, some 1, some 2, some 6, some 7] c43_l0) (.seq (.region [.op 23 (.move (.t 0)) none .any, .op 24 (.move (.t 5)) none .any, .op 25 (.move (.t 3)) none .any, .op 26 (.move (.t 5)) none .any, .op 27 (.call false (.k (.c (.func 50 [] []))) [(.t 3), (.t 2), (.t 1), (.t 0)]) none .any] [5, 6, 7, 8]) (.block 2 [] c43_l2))) := ⟨rfl⟩
def c43 : SCode := (.seq (.region [.op 6 (.move (.k (.c (.int .i64 20)))) none .any] [1, 2, 3, 0]) c43_n15)
def F43 : SFunc := .code .shared 63 3 [] [] c43

-- cmp.isNaN[int]
def c44 : SCode := (.seq (.region [.op 2 (.move (.k (.c (.bool false)))) none .any] [1]) (.seq (.region [.op 3 (.move (.t 0)) none .any, .op 4 (.move (.t 1)) none .any, .op 5 (.bin .neq (.t 1) (.t 0)) none .any, .op 2 (.move (.t 0)) none .any] [0]) .ret))
def F44 : SFunc := .code .pure 6 1 [some 2] [.tmp 0] c44

-- crux/member.CheckJury
@[simp] def c45_n2 : SCode := (.region [.op 4 (.fieldAddr 0 (.t 0)) none .any, .op 5 (.load none (.t 0)) none .any, .op 6 (.call false (.k (.c (.func 52 [] []))) [(.t 0), (.k (.c (.int .i64 24))), (.k (.c (.func 53 [] [])))]) none .any, .op 3 (.move (.t 0)) none .any] [4, 0])
@[simp] def c45_n4 : SCode := (.region [.op 7 (.move (.t 1)) none .any, .op 8 (.fieldAddr 1 (.t 1)) none .any, .op 9 (.load none (.t 0)) none .any, .op 10 (.call false (.k (.c (.func 56 [] []))) [(.t 0), (.k (.c (.int .i64 24))), (.k (.c (.func 57 [] [])))]) none .any, .op 11 (.buildSlice 2 none 2 [(.c (.int .i64 0))] [(0, (.t 3)), (1, (.t 0))]) none .any, .op 12 (.call false (.k (.c (.func 22 [] []))) [(.t 0)]) none .any, .op 2 (.move (.t 0)) none .any] [0])
def c45_n3 : SCode := .seq c45_n4 .ret
instance : IsSeq c45_n3 c45_n4 .ret := ⟨rfl⟩
def c45_n1 : SCode := .seq c45_n2 c45_n3
instance : IsSeq c45_n1 c45_n2 c45_n3 := ⟨rfl⟩
def c45 : SCode := (.seq (.region [.op 1 (.box (.t 0)) none .any, .op 2 (.move (.k (.c (.int .i64 0)))) none .any] [1]) c45_n1)
def F45 : SFunc := .code .pure 13 1 [some 2] [.tmp 0] c45

-- slices.Repeat[[]int,int]
-- c46_l0: env [7, 8]
@[simp] def c46_n2 : SCode := (.draw 0 [.op 38 (.move (.t 1)) none .any, .op 39 (.move (.t 1)) none .any, .op 40 (.move (.t 3)) none .any, .op 41 (.sliceSl 1 (.t 1) (some (.t 0)) none none) none .any, .op 42 (.move (.t 4)) none .any, .op 43 (.move (.t 6)) none .any, .op 44 (.sliceSl 1 (.t 1) none (some (.t 0)) none) none .any, .op 45 (.copy 1 (.t 3) (.t 0)) none .old, .op 46 (.bin .add (.t 7) (.t 0)) none .any, .op 8 (.move (.t 0)) none .any] [10, 0])
def c46_n1 : SCode := .block 1 [some 7, some 8] c46_n2
instance : IsBlock c46_n1 1 [some 7, some 8] c46_n2 := ⟨rfl⟩
def c46_l0b : SCode := (.seq (.seq (.region [.op 34 (.move (.t 1)) none .any, .op 35 (.move (.t 1)) none .any, .op 36 (.len 1 (.t 0)) none .any, .op 37 (.bin .lss (.t 2) (.t 0)) none .any] [4, 5, 0]) (.cond (.t 2) (.pre [0, 1] .skip) (.pre [0] (.exit 0)))) c46_n1)
def c46_l0 : SCode := .loop true c46_l0b
@[simp] def c46_n4 : SCode := (.seq (.region [.op 9 (.move (.t 1)) none .any, .op 10 (.bin .lss (.t 0) (.k (.c (.int .i64 0)))) none .any] [2, 3, 0]) (.cond (.t 2) (.region [.op 11 (.bad 18) none .any, .eff (.bad 41) none .any] [1, 2]) (.pre [0, 1] .skip)))
@[simp] def c46_n6 : SCode := (.region [.op 13 (.move (.t 0)) none .any, .op 14 (.len 1 (.t 0)) none .any, .op 15 (.conv .u64 (.t 0)) none .any, .op 16 (.move (.t 4)) none .any, .op 17 (.conv .u64 (.t 0)) none .any, .op 18 (.call false (.k (.c (.func 60 [] []))) [(.t 2), (.t 0)]) none .any, .op 12 (.move (.t 0)) none .any, .op 19 (.extract (.t 0) 0) none .any, .op 20 (.extract (.t 1) 1) none .any, .op 5 (.move (.t 1)) none .any, .op 6 (.move (.t 1)) none .any] [11, 1, 0])
@[simp] def c46_n8 : SCode := (.seq (.region [.op 21 (.move (.t 1)) none .any, .op 22 (.bin .gtr (.t 0) (.k (.c (.int .u64 0)))) none .any, .op 23 (.move (.t 0)) none .any, .orN 26 0 [.op 24 (.move (.t 5)) none .any, .op 25 (.bin .gtr (.t 0) (.k (.c (.int .u64 9223372036854775807)))) none .any] (.t 0)] [4, 6, 0]) (.cond (.t 2) (.region [.op 27 (.bad 18) none .any, .eff (.bad 41) none .any] [1, 2]) (.pre [0, 1] .skip)))
@[simp] def c46_n10 : SCode := (.region [.op 28 (.move (.t 1)) none .any, .op 29 (.conv .i64 (.t 0)) none .any, .op 30 (.makeSlice none 8 [(.c (.int .i64 0))] (.t 0) (.t 0)) none .any, .op 7 (.move (.t 0)) none .any] [4, 0])
def c46_n9 : SCode := .seq c46_n10 (.seq (.region [.op 31 (.move (.t 1)) none .any, .op 32 (.move (.t 1)) none .any, .op 33 (.copy 1 (.t 1) (.t 0)) none .any, .op 8 (.move (.t 0)) none .any] [5, 0]) (.seq (.block 0 [some 7] c46_l0) (.seq (.region [.op 47 (.move (.t 0)) none .any, .op 4 (.move (.t 0)) none .any] [0]) .ret)))
instance : IsSeq c46_n9 c46_n10 (.seq (.region [.op 31 (.move (.t 1)) none .any, .op 32 (.move (.t 1)) none .any, .op 33 (.copy 1 (.t 1) (.t 0)) none .any, .op 8 (.move (.t 0)) none .any] [5, 0]) (.seq (.block 0 [some 7] c46_l0) (.seq (.region [.op 47 (.move (.t 0)) none .any, .op 4 (.move (.t 0)) none .any] [0]) .ret))) := ⟨rfl⟩
def c46_n7 : SCode := .seq c46_n8 c46_n9
instance : IsSeq c46_n7 c46_n8 c46_n9 := ⟨rfl⟩
def c46_n5 : SCode := .seq c46_n6 c46_n7
instance : IsSeq c46_n5 c46_n6 c46_n7 := ⟨rfl⟩
def c46_n3 : SCode := .seq c46_n4 c46_n5
instance : IsSeq c46_n3 c46_n4 c46_n5 := ⟨rfl⟩
def c46 : SCode := (.seq (.region [.op 4 (.mkNil none) none .any] [1, 2]) c46_n3)
def F46 : SFunc := .code (.fresh 4) 48 2 [some 4] [.tmp 0] c46

-- (*crux/member.filling).place
-- c47_l0: env [0, 1, 2, 3, 30, 31]
@[simp] def c47_n4 : SCode := (.region [.op 33 (.move (.t 5)) none .any, .op 9 (.move (.t 0)) none .any] [2, 3, 4, 5, 0, 6, 7])
@[simp] def c47_n6 : SCode := (.region [.op 34 (.move (.t 4)) none .any, .op 35 (.move (.t 1)) none .any, .op 36 (.nilCheck (.t 0)) none .any, .op 37 (.fieldAddr 0 (.t 0)) none .any, .op 38 (.fieldAddr 1 (.t 0)) none .any, .op 39 (.load none (.t 0)) none .any, .op 40 (.move (.t 7)) none .any, .op 41 (.idxSlice 4 (.t 1) (.t 0)) none .any, .op 42 (.fieldAddr 2 (.t 0)) none .any, .op 43 (.load none (.t 0)) none .any, .op 44 (.build [(.c (.int .i64 0)), (.c (.int .i64 0))] [(0, 1, (.t 9)), (1, 1, (.t 0))]) none .any, .op 10 (.new [(.c (.int .i64 0)), (.c (.int .i64 0))]) none .any, .eff (.store 2 (.t 0) (.t 1)) none .any] [12, 13, 14, 15, 16, 0, 17, 18])
@[simp] def c47_n8 : SCode := (.seq (.region [.op 45 (.move (.t 0)) none .any, .op 46 (.nilCheck (.t 0)) none .any, .op 47 (.fieldAddr 0 (.t 0)) none .any, .op 48 (.load (some 2) (.t 0)) none .any, .op 49 (.move (.t 8)) none .any, .op 50 (.move (.t 6)) none .any, .op 51 (.call false (.k (.c (.func 61 [] []))) [(.t 2), (.t 1), (.t 0)]) none .any, .op 52 (.not (.t 0)) none .any, .op 53 (.move (.t 0)) none .any, .orN 57 0 [.op 54 (.move (.t 11)) none .any, .op 55 (.load (some 2) (.t 15)) none .any, .op 56 (.lookup (.many [0, 0]) (.c (.bool false)) false (.t 1) (.t 0)) none .any] (.t 0)] [10, 11, 12, 13, 14, 15, 16, 17, 0]) (.cond (.t 8) (.pre [0, 1, 2, 3, 6, 7] (.exit 1)) (.pre [0, 1, 2, 3, 4, 5, 6, 7] .skip)))
@[simp] def c47_n10 : SCode := (.region [.op 58 (.move (.t 2)) none .any, .op 59 (.load (some 2) (.t 6)) none .any, .eff (.mapUpdate (.many [0, 0]) (.t 1) (.t 0) (.k (.c (.bool true)))) none .any] [2, 3, 4, 5, 6, 7, 8, 9])
@[simp] def c47_n13 : SCode := (.region [.op 63 (.move (.t 5)) none .any, .op 64 (.bin .geq (.t 0) (.k (.c (.int .i64 0)))) none .any] [2, 3, 4, 5, 6, 7, 8, 9, 0])
@[simp] def c47_n18 : SCode := (.region [.op 70 (.move (.t 0)) none .any, .op 71 (.nilCheck (.t 0)) none .any, .op 72 (.fieldAddr 3 (.t 0)) none .any, .op 73 (.load none (.t 0)) none .any, .op 74 (.move (.t 5)) none .any, .op 75 (.move (.t 9)) none .any, .op 76 (.idxSlice 1 (.t 2) (.t 1)) none .any, .eff (.store 1 (.t 0) (.t 1)) none .any] [])
def c47_n17 : SCode := .seq c47_n18 (.seq (.region [.op 8 (.move (.k (.c (.bool true)))) none .any] [0]) .ret)
instance : IsSeq c47_n17 c47_n18 (.seq (.region [.op 8 (.move (.k (.c (.bool true)))) none .any] [0]) .ret) := ⟨rfl⟩
def c47_n16 : SCode := .cond (.t 7) c47_n17 (.pre [0, 1, 2, 3, 5, 6] .skip)
instance : IsCond c47_n16 (.t 7) c47_n17 (.pre [0, 1, 2, 3, 5, 6] .skip) := ⟨rfl⟩
@[simp] def c47_n19 : SCode := (.seq (.region [.op 65 (.move (.t 0)) none .any, .op 66 (.move (.t 6)) none .any, .op 67 (.move (.t 4)) none .any, .op 68 (.move (.t 6)) none .any, .op 69 (.call false (.k (.c (.func 47 [] []))) [(.t 3), (.t 2), (.t 1), (.t 0)]) none .any] [5, 6, 7, 8, 9, 11, 12, 0]) c47_n16)
def c47_n15 : SCode := .seq c47_n19 (.exit 1)
instance : IsSeq c47_n15 c47_n19 (.exit 1) := ⟨rfl⟩
def c47_n14 : SCode := .cond (.t 8) c47_n15 (.pre [0, 1, 2, 3, 4, 6, 7] .skip)
instance : IsCond c47_n14 (.t 8) c47_n15 (.pre [0, 1, 2, 3, 4, 6, 7] .skip) := ⟨rfl⟩
def c47_n12 : SCode := .seq c47_n13 c47_n14
instance : IsSeq c47_n12 c47_n13 c47_n14 := ⟨rfl⟩
@[simp] def c47_n20 : SCode := (.seq (.region [.op 60 (.move (.t 0)) none .any, .op 61 (.load (some 2) (.t 6)) none .any, .op 62 (.call false (.k (.c (.func 62 [] []))) [(.t 1), (.t 0)]) none .any, .op 11 (.move (.t 0)) none .any] [4, 5, 6, 7, 8, 0, 10, 11]) c47_n12)
@[simp] def c47_n22 : SCode := (.region [.op 77 (.move (.t 0)) none .any, .op 78 (.move (.t 5)) none .any, .op 79 (.move (.t 4)) none .any, .op 80 (.move (.t 6)) none .any, .op 81 (.call false (.k (.c (.func 63 [] []))) [(.t 3), (.t 2), (.t 1), (.t 0)]) none .any] [5, 6, 7, 8, 9, 10, 11, 0])
@[simp] def c47_n25 : SCode := (.region [.op 82 (.move (.t 0)) none .any, .op 83 (.nilCheck (.t 0)) none .any, .op 84 (.fieldAddr 3 (.t 0)) none .any, .op 85 (.load none (.t 0)) none .any, .op 86 (.move (.t 5)) none .any, .op 87 (.move (.t 9)) none .any, .op 88 (.idxSlice 1 (.t 2) (.t 1)) none .any, .eff (.store 1 (.t 0) (.t 1)) none .any] [7, 11])
@[simp] def c47_n27 : SCode := (.region [.op 89 (.move (.t 0)) none .any, .op 90 (.nilCheck (.t 0)) none .any, .op 91 (.fieldAddr 4 (.t 0)) none .any, .op 92 (.load none (.t 0)) none .any, .op 93 (.move (.t 5)) none .any, .op 94 (.idxSlice 1 (.t 1) (.t 0)) none .any, .op 95 (.load none (.t 0)) none .any, .op 96 (.bin .add (.t 0) (.k (.c (.int .i64 1)))) none .any, .op 97 (.idxSlice 1 (.t 4) (.t 3)) none .any, .eff (.store 1 (.t 0) (.t 1)) none .any] [])
def c47_n26 : SCode := .seq c47_n27 (.seq (.region [.op 8 (.move (.k (.c (.bool true)))) none .any] [0]) .ret)
instance : IsSeq c47_n26 c47_n27 (.seq (.region [.op 8 (.move (.k (.c (.bool true)))) none .any] [0]) .ret) := ⟨rfl⟩
def c47_n24 : SCode := .seq c47_n25 c47_n26
instance : IsSeq c47_n24 c47_n25 c47_n26 := ⟨rfl⟩
def c47_n23 : SCode := .cond (.t 7) c47_n24 (.pre [0, 1, 2, 3, 5, 6] .skip)
instance : IsCond c47_n23 (.t 7) c47_n24 (.pre [0, 1, 2, 3, 5, 6] .skip) := ⟨rfl⟩
def c47_n21 : SCode := .seq c47_n22 c47_n23
instance : IsSeq c47_n21 c47_n22 c47_n23 := ⟨rfl⟩
def c47_n11 : SCode := .seq c47_n20 c47_n21
instance : IsSeq c47_n11 c47_n20 c47_n21 := ⟨rfl⟩
def c47_n9 : SCode := .seq c47_n10 c47_n11
instance : IsSeq c47_n9 c47_n10 c47_n11 := ⟨rfl⟩
def c47_n7 : SCode := .seq c47_n8 c47_n9
instance : IsSeq c47_n7 c47_n8 c47_n9 := ⟨rfl⟩
def c47_n5 : SCode := .seq c47_n6 c47_n7
instance : IsSeq c47_n5 c47_n6 c47_n7 := ⟨rfl⟩
def c47_n3 : SCode := .seq c47_n4 c47_n5
instance : IsSeq c47_n3 c47_n4 c47_n5 := ⟨rfl⟩
def c47_n2 : SCode := .seq (.block 1 [some 0, some 1, some 2, some 3, some 30, some 31] c47_n3) (.region [.op 98 (.bin .add (.t 5) (.k (.c (.int .i64 1)))) none .any, .op 31 (.move (.t 0)) none .any] [2, 3, 4, 5, 6, 0])
instance : IsSeq c47_n2 (.block 1 [some 0, some 1, some 2, some 3, some 30, some 31] c47_n3) (.region [.op 98 (.bin .add (.t 5) (.k (.c (.int .i64 1)))) none .any, .op 31 (.move (.t 0)) none .any] [2, 3, 4, 5, 6, 0]) := ⟨rfl⟩
def c47_n1 : SCode := .seq (.cond (.t 6) (.pre [0, 1, 2, 3, 4, 5] .skip) (.pre [] (.exit 0))) c47_n2
instance : IsSeq c47_n1 (.cond (.t 6) (.pre [0, 1, 2, 3, 4, 5] .skip) (.pre [] (.exit 0))) c47_n2 := ⟨rfl⟩
def c47_l0b : SCode := (.seq (.region [.op 32 (.bin .lss (.t 5) (.t 4)) none .any] [1, 2, 3, 4, 5, 6, 0]) c47_n1)
def c47_l0 : SCode := .loop true c47_l0b
@[simp] def c47_n29 : SCode := (.seq (.region [.op 12 (.move (.t 0)) none .any, .op 13 (.nilCheck (.t 0)) none .any, .op 14 (.fieldAddr 5 (.t 0)) none .any, .op 15 (.load none (.t 0)) none .any, .op 16 (.move (.t 5)) none .any, .op 17 (.idxSlice 1 (.t 1) (.t 0)) none .any, .op 18 (.load none (.t 0)) none .any] [7, 8, 9, 10, 0]) (.cond (.t 4) (.seq (.region [.op 8 (.move (.k (.c (.bool false)))) none .any] [0]) .ret) (.pre [0, 1, 2, 3] .skip)))
@[simp] def c47_n31 : SCode := (.region [.op 19 (.move (.t 0)) none .any, .op 20 (.nilCheck (.t 0)) none .any, .op 21 (.fieldAddr 5 (.t 0)) none .any, .op 22 (.load none (.t 0)) none .any, .op 23 (.move (.t 5)) none .any, .op 24 (.idxSlice 1 (.t 1) (.t 0)) none .any, .eff (.store 1 (.t 0) (.k (.c (.bool true)))) none .any] [6, 7, 8, 9])
@[simp] def c47_n33 : SCode := (.seq (.region [.op 25 (.move (.t 0)) none .any, .op 26 (.nilCheck (.t 0)) none .any, .op 27 (.fieldAddr 0 (.t 0)) none .any, .op 28 (.fieldAddr 0 (.t 0)) none .any, .op 29 (.load none (.t 0)) none .any, .op 30 (.len 1 (.t 0)) none .any, .op 31 (.move (.k (.c (.int .i64 0)))) none .any] [7, 8, 9, 10, 1, 0]) (.block 0 [] c47_l0))
def c47_n32 : SCode := .seq c47_n33 (.seq (.region [.op 8 (.move (.k (.c (.bool false)))) none .any] [0]) .ret)
instance : IsSeq c47_n32 c47_n33 (.seq (.region [.op 8 (.move (.k (.c (.bool false)))) none .any] [0]) .ret) := ⟨rfl⟩
def c47_n30 : SCode := .seq c47_n31 c47_n32
instance : IsSeq c47_n30 c47_n31 c47_n32 := ⟨rfl⟩
def c47_n28 : SCode := .seq c47_n29 c47_n30
instance : IsSeq c47_n28 c47_n29 c47_n30 := ⟨rfl⟩
def c47 : SCode := (.seq (.region [.op 8 (.move (.k (.c (.bool false)))) none .any] [1, 2, 3, 4]) c47_n28)
def F47 : SFunc := .code .shared 99 4 [some 8] [.tmp 0] c47

-- slices.Contains[[]string,string]
def c48 : SCode := (.seq (.region [.op 4 (.move (.k (.c (.bool false)))) none .any] [1, 2]) (.seq (.region [.op 5 (.move (.t 0)) none .any, .op 6 (.move (.t 2)) none .any, .op 7 (.call false (.k (.c (.func 64 [] []))) [(.t 1), (.t 0)]) none .any, .op 8 (.bin .geq (.t 0) (.k (.c (.int .i64 0)))) none .any, .op 4 (.move (.t 0)) none .any] [0]) .ret))
def F48 : SFunc := .code .pure 9 2 [some 4] [.tmp 0] c48

-- crux/number.IsName
-- c49_l0: env [0, 6]
@[simp] def c49_n4 : SCode := (.region [.op 9 (.extract (.t 2) 1) none .any, .op 10 (.extract (.t 3) 2) none .any, .op 3 (.move (.t 1)) none .any, .op 4 (.move (.t 1)) none .any] [4, 1, 0, 5])
@[simp] def c49_n6 : SCode := (.region [.op 11 (.move (.t 2)) none .any, .op 12 (.call false (.k (.c (.func 65 [] []))) [(.t 0)]) none .any, .op 13 (.not (.t 0)) none .any, .op 14 (.move (.t 0)) none .any, .andN 29 0 [.op 15 (.move (.t 5)) none .any, .op 16 (.bin .eql (.t 0) (.k (.c (.int .i64 0)))) none .any, .op 17 (.move (.t 0)) none .any, .orN 28 0 [.op 18 (.move (.t 9)) none .any, .op 19 (.bin .neq (.t 0) (.k (.c (.int .i32 95)))) none .any, .op 20 (.move (.t 0)) none .any, .andN 27 0 [.op 21 (.move (.t 12)) none .any, .op 22 (.bin .lss (.t 0) (.k (.c (.int .i32 48)))) none .any, .op 23 (.move (.t 0)) none .any, .orN 26 0 [.op 24 (.move (.t 15)) none .any, .op 25 (.bin .gtr (.t 0) (.k (.c (.int .i32 57)))) none .any] (.t 0)] (.t 0)] (.t 0)] (.t 0)] [5, 8, 0])
def c49_n5 : SCode := .seq c49_n6 (.cond (.t 2) (.seq (.region [.op 2 (.move (.k (.c (.bool false)))) none .any] [0]) .ret) (.pre [0, 1] .skip))
instance : IsSeq c49_n5 c49_n6 (.cond (.t 2) (.seq (.region [.op 2 (.move (.k (.c (.bool false)))) none .any] [0]) .ret) (.pre [0, 1] .skip)) := ⟨rfl⟩
def c49_n3 : SCode := .seq c49_n4 c49_n5
instance : IsSeq c49_n3 c49_n4 c49_n5 := ⟨rfl⟩
def c49_n2 : SCode := .block 1 [some 0, some 6] c49_n3
instance : IsBlock c49_n2 1 [some 0, some 6] c49_n3 := ⟨rfl⟩
def c49_n1 : SCode := .seq (.cond (.t 3) (.pre [0, 1, 2] .skip) (.pre [0] (.exit 0))) c49_n2
instance : IsSeq c49_n1 (.cond (.t 3) (.pre [0, 1, 2] .skip) (.pre [0] (.exit 0))) c49_n2 := ⟨rfl⟩
def c49_l0b : SCode := (.seq (.region [.op 7 (.next (.t 1)) none .any, .op 8 (.extract (.t 0) 0) none .any] [2, 3, 1, 0]) c49_n1)
def c49_l0 : SCode := .loop true c49_l0b
@[simp] def c49_n8 : SCode := (.seq (.region [.op 5 (.move (.t 0)) none .any, .op 6 (.range (.t 0)) none .any] [2, 0]) (.block 0 [some 0] c49_l0))
def c49_n7 : SCode := .seq c49_n8 (.seq (.region [.op 30 (.move (.t 0)) none .any, .op 31 (.bin .neq (.t 0) (.k (.c (.str [])))) none .any, .op 32 (.move (.t 0)) none .any, .andN 36 0 [.op 33 (.move (.t 3)) none .any, .op 34 (.len 0 (.t 0)) none .any, .op 35 (.bin .leq (.t 0) (.k (.c (.int .i64 24)))) none .any] (.t 0), .op 2 (.move (.t 0)) none .any] [0]) .ret)
instance : IsSeq c49_n7 c49_n8 (.seq (.region [.op 30 (.move (.t 0)) none .any, .op 31 (.bin .neq (.t 0) (.k (.c (.str [])))) none .any, .op 32 (.move (.t 0)) none .any, .andN 36 0 [.op 33 (.move (.t 3)) none .any, .op 34 (.len 0 (.t 0)) none .any, .op 35 (.bin .leq (.t 0) (.k (.c (.int .i64 24)))) none .any] (.t 0), .op 2 (.move (.t 0)) none .any] [0]) .ret) := ⟨rfl⟩
def c49 : SCode := (.seq (.region [.op 2 (.move (.k (.c (.bool false)))) none .any] [1]) c49_n7)
def F49 : SFunc := .code .pure 37 1 [some 2] [.tmp 0] c49

-- slices.insertionSortCmpFunc[string]
-- c50_l0: env [0, 1, 2, 3, 8, 9]
-- c50_l1: env [0, 1, 2, 3, 8]
@[simp] def c50_n2 : SCode := (.draw 0 [.op 37 (.move (.t 0)) none .any, .op 38 (.move (.t 6)) none .any, .op 39 (.move (.t 2)) none .any, .op 40 (.move (.t 8)) none .any, .op 41 (.bin .sub (.t 0) (.k (.c (.int .i64 1)))) none .any, .op 42 (.move (.t 5)) none .any, .op 43 (.move (.t 11)) none .any, .op 44 (.bin .sub (.t 0) (.k (.c (.int .i64 1)))) none .any, .op 45 (.idxSlice 1 (.t 2) (.t 0)) none .any, .op 46 (.load none (.t 0)) none .old, .op 47 (.move (.t 10)) none .any, .op 48 (.move (.t 16)) none .any, .op 49 (.idxSlice 1 (.t 1) (.t 0)) none .any, .op 50 (.load none (.t 0)) none .old, .op 51 (.idxSlice 1 (.t 13) (.t 12)) none .any, .eff (.store 1 (.t 0) (.t 5)) none .old, .op 52 (.idxSlice 1 (.t 12) (.t 10)) none .any, .eff (.store 1 (.t 0) (.t 2)) none .old] [16, 17, 18, 19, 20, 21])
def c50_n1 : SCode := .seq (.block 3 [some 0, some 1, some 2, some 3, some 8, some 9] c50_n2) (.region [.op 35 (.move (.t 5)) none .any, .op 36 (.bin .sub (.t 0) (.k (.c (.int .i64 1)))) none .any, .op 9 (.move (.t 0)) none .any] [3, 4, 5, 6, 7, 0])
instance : IsSeq c50_n1 (.block 3 [some 0, some 1, some 2, some 3, some 8, some 9] c50_n2) (.region [.op 35 (.move (.t 5)) none .any, .op 36 (.bin .sub (.t 0) (.k (.c (.int .i64 1)))) none .any, .op 9 (.move (.t 0)) none .any] [3, 4, 5, 6, 7, 0]) := ⟨rfl⟩
def c50_l0b : SCode := (.seq (.seq (.draw 0 [.op 18 (.move (.t 5)) none .any, .op 19 (.move (.t 2)) none .any, .op 20 (.bin .gtr (.t 1) (.t 0)) none .any, .op 21 (.move (.t 0)) none .any, .andN 34 0 [.op 22 (.move (.t 7)) none .any, .op 23 (.move (.t 5)) none .any, .op 24 (.move (.t 11)) none .any, .op 25 (.idxSlice 1 (.t 1) (.t 0)) none .any, .op 26 (.load none (.t 0)) none .old, .op 27 (.move (.t 9)) none .any, .op 28 (.move (.t 15)) none .any, .op 29 (.bin .sub (.t 0) (.k (.c (.int .i64 1)))) none .any, .op 30 (.idxSlice 1 (.t 2) (.t 0)) none .any, .op 31 (.load none (.t 0)) none .old, .op 32 (.call false (.t 9) [(.t 5), (.t 0)]) none .any, .op 33 (.bin .lss (.t 0) (.k (.c (.int .i64 0)))) none .any] (.t 0)] [5, 6, 7, 8, 9, 10, 0]) (.cond (.t 6) (.pre [0, 1, 2, 3, 4, 5] .skip) (.pre [0, 1, 2, 3, 4] (.exit 2)))) c50_n1)
def c50_l0 : SCode := .loop true c50_l0b
@[simp] def c50_n4 : SCode := (.block 1 [some 0, some 1, some 2, some 3, some 8] (.seq (.region [.op 17 (.move (.t 4)) none .any, .op 9 (.move (.t 0)) none .any] [2, 3, 4, 5, 6, 0]) (.block 2 [some 0, some 1, some 2, some 3, some 8] c50_l0)))
def c50_n3 : SCode := .seq c50_n4 (.region [.op 15 (.move (.t 4)) none .any, .op 16 (.bin .add (.t 0) (.k (.c (.int .i64 1)))) none .any, .op 8 (.move (.t 0)) none .any] [3, 4, 5, 6, 0])
instance : IsSeq c50_n3 c50_n4 (.region [.op 15 (.move (.t 4)) none .any, .op 16 (.bin .add (.t 0) (.k (.c (.int .i64 1)))) none .any, .op 8 (.move (.t 0)) none .any] [3, 4, 5, 6, 0]) := ⟨rfl⟩
def c50_l1b : SCode := (.seq (.seq (.region [.op 12 (.move (.t 4)) none .any, .op 13 (.move (.t 3)) none .any, .op 14 (.bin .lss (.t 1) (.t 0)) none .any] [3, 4, 5, 6, 7, 0]) (.cond (.t 5) (.pre [0, 1, 2, 3, 4] .skip) (.pre [] (.exit 0)))) c50_n3)
def c50_l1 : SCode := .loop true c50_l1b
def c50 : SCode := (.seq (.region [.op 10 (.move (.t 1)) none .any, .op 11 (.bin .add (.t 0) (.k (.c (.int .i64 1)))) none .any, .op 8 (.move (.t 0)) none .any] [3, 4, 5, 6, 0]) (.block 0 [] c50_l1))
def F50 : SFunc := .code .shared 53 4 [] [] c50

-- slices.symMergeCmpFunc[string]
-- c51_l0: env [0, 1, 4, 10, 11]
-- c51_l1: env [0, 10, 13]
-- c51_l2: env [0, 2, 4, 14, 15]
-- c51_l3: env [0, 14, 17]
-- c51_l4: env [0, 1, 2, 3, 4, 18, 19, 20, 21, 22]
@[simp] def c51_n3 : SCode := (.region [.op 34 (.move (.t 3)) none .any, .op 35 (.move (.t 5)) none .any, .op 36 (.bin .add (.t 1) (.t 0)) none .any, .op 37 (.conv .u64 (.t 0)) none .any, .op 38 (.bin .shr (.t 0) (.k (.c (.int .u64 1)))) none .any, .op 39 (.conv .i64 (.t 0)) none .any, .op 12 (.move (.t 0)) none .any] [7, 8, 9, 10, 11, 0])
@[simp] def c51_n5 : SCode := (.draw 0 [.op 40 (.move (.t 2)) none .any, .op 41 (.move (.t 1)) none .any, .op 42 (.move (.t 7)) none .any, .op 43 (.idxSlice 1 (.t 1) (.t 0)) none .any, .op 44 (.load none (.t 0)) none .old, .op 45 (.move (.t 5)) none .any, .op 46 (.move (.t 7)) none .any, .op 47 (.idxSlice 1 (.t 1) (.t 0)) none .any, .op 48 (.load none (.t 0)) none .old, .op 49 (.call false (.t 8) [(.t 4), (.t 0)]) none .any, .op 50 (.bin .lss (.t 0) (.k (.c (.int .i64 0)))) none .any] [11, 12, 13, 14, 15, 16, 0])
def c51_n4 : SCode := .seq c51_n5 (.cond (.t 6) (.region [.op 51 (.move (.t 5)) none .any, .op 52 (.bin .add (.t 0) (.k (.c (.int .i64 1)))) none .any, .op 10 (.move (.t 0)) none .any] [3, 4, 5, 0, 7]) (.region [.op 53 (.move (.t 5)) none .any, .op 11 (.move (.t 0)) none .any] [2, 3, 4, 5, 0]))
instance : IsSeq c51_n4 c51_n5 (.cond (.t 6) (.region [.op 51 (.move (.t 5)) none .any, .op 52 (.bin .add (.t 0) (.k (.c (.int .i64 1)))) none .any, .op 10 (.move (.t 0)) none .any] [3, 4, 5, 0, 7]) (.region [.op 53 (.move (.t 5)) none .any, .op 11 (.move (.t 0)) none .any] [2, 3, 4, 5, 0])) := ⟨rfl⟩
def c51_n2 : SCode := .seq c51_n3 c51_n4
instance : IsSeq c51_n2 c51_n3 c51_n4 := ⟨rfl⟩
def c51_n1 : SCode := .block 1 [some 0, some 1, some 4, some 10, some 11] c51_n2
instance : IsBlock c51_n1 1 [some 0, some 1, some 4, some 10, some 11] c51_n2 := ⟨rfl⟩
def c51_l0b : SCode := (.seq (.seq (.region [.op 31 (.move (.t 3)) none .any, .op 32 (.move (.t 5)) none .any, .op 33 (.bin .lss (.t 1) (.t 0)) none .any] [3, 4, 5, 6, 7, 0]) (.cond (.t 5) (.pre [0, 1, 2, 3, 4] .skip) (.pre [0, 1, 3] (.exit 0)))) c51_n1)
def c51_l0 : SCode := .loop true c51_l0b
@[simp] def c51_n7 : SCode := (.draw 0 [.op 61 (.move (.t 0)) none .any, .op 62 (.move (.t 3)) none .any, .op 63 (.move (.t 2)) none .any, .op 64 (.move (.t 5)) none .any, .op 65 (.bin .add (.t 0) (.k (.c (.int .i64 1)))) none .any, .op 66 (.move (.t 5)) none .any, .op 67 (.move (.t 8)) none .any, .op 68 (.bin .add (.t 0) (.k (.c (.int .i64 1)))) none .any, .op 69 (.idxSlice 1 (.t 2) (.t 0)) none .any, .op 70 (.load none (.t 0)) none .old, .op 71 (.move (.t 10)) none .any, .op 72 (.move (.t 13)) none .any, .op 73 (.idxSlice 1 (.t 1) (.t 0)) none .any, .op 74 (.load none (.t 0)) none .old, .op 75 (.idxSlice 1 (.t 13) (.t 12)) none .any, .eff (.store 1 (.t 0) (.t 5)) none .old, .op 76 (.idxSlice 1 (.t 12) (.t 10)) none .any, .eff (.store 1 (.t 0) (.t 2)) none .old] [16, 17, 18])
def c51_n6 : SCode := .seq (.block 3 [some 0, some 10, some 13] c51_n7) (.region [.op 59 (.move (.t 2)) none .any, .op 60 (.bin .add (.t 0) (.k (.c (.int .i64 1)))) none .any, .op 13 (.move (.t 0)) none .any] [3, 4, 0])
instance : IsSeq c51_n6 (.block 3 [some 0, some 10, some 13] c51_n7) (.region [.op 59 (.move (.t 2)) none .any, .op 60 (.bin .add (.t 0) (.k (.c (.int .i64 1)))) none .any, .op 13 (.move (.t 0)) none .any] [3, 4, 0]) := ⟨rfl⟩
def c51_l1b : SCode := (.seq (.seq (.region [.op 55 (.move (.t 2)) none .any, .op 56 (.move (.t 2)) none .any, .op 57 (.bin .sub (.t 0) (.k (.c (.int .i64 1)))) none .any, .op 58 (.bin .lss (.t 2) (.t 0)) none .any] [4, 5, 6, 0]) (.cond (.t 3) (.pre [0, 1, 2] .skip) (.pre [] (.exit 2)))) c51_n6)
def c51_l1 : SCode := .loop true c51_l1b
@[simp] def c51_n10 : SCode := (.region [.op 86 (.move (.t 3)) none .any, .op 87 (.move (.t 5)) none .any, .op 88 (.bin .add (.t 1) (.t 0)) none .any, .op 89 (.conv .u64 (.t 0)) none .any, .op 90 (.bin .shr (.t 0) (.k (.c (.int .u64 1)))) none .any, .op 91 (.conv .i64 (.t 0)) none .any, .op 16 (.move (.t 0)) none .any] [7, 8, 9, 10, 11, 0])
@[simp] def c51_n12 : SCode := (.draw 0 [.op 92 (.move (.t 2)) none .any, .op 93 (.move (.t 1)) none .any, .op 94 (.move (.t 3)) none .any, .op 95 (.idxSlice 1 (.t 1) (.t 0)) none .any, .op 96 (.load none (.t 0)) none .old, .op 97 (.move (.t 5)) none .any, .op 98 (.move (.t 11)) none .any, .op 99 (.idxSlice 1 (.t 1) (.t 0)) none .any, .op 100 (.load none (.t 0)) none .old, .op 101 (.call false (.t 8) [(.t 4), (.t 0)]) none .any, .op 102 (.bin .lss (.t 0) (.k (.c (.int .i64 0)))) none .any, .op 103 (.not (.t 0)) none .any] [12, 13, 14, 15, 16, 17, 0])
def c51_n11 : SCode := .seq c51_n12 (.cond (.t 6) (.region [.op 104 (.move (.t 5)) none .any, .op 105 (.bin .add (.t 0) (.k (.c (.int .i64 1)))) none .any, .op 14 (.move (.t 0)) none .any] [3, 4, 5, 0, 7]) (.region [.op 106 (.move (.t 5)) none .any, .op 15 (.move (.t 0)) none .any] [2, 3, 4, 5, 0]))
instance : IsSeq c51_n11 c51_n12 (.cond (.t 6) (.region [.op 104 (.move (.t 5)) none .any, .op 105 (.bin .add (.t 0) (.k (.c (.int .i64 1)))) none .any, .op 14 (.move (.t 0)) none .any] [3, 4, 5, 0, 7]) (.region [.op 106 (.move (.t 5)) none .any, .op 15 (.move (.t 0)) none .any] [2, 3, 4, 5, 0])) := ⟨rfl⟩
def c51_n9 : SCode := .seq c51_n10 c51_n11
instance : IsSeq c51_n9 c51_n10 c51_n11 := ⟨rfl⟩
def c51_n8 : SCode := .block 5 [some 0, some 2, some 4, some 14, some 15] c51_n9
instance : IsBlock c51_n8 5 [some 0, some 2, some 4, some 14, some 15] c51_n9 := ⟨rfl⟩
def c51_l2b : SCode := (.seq (.seq (.region [.op 83 (.move (.t 3)) none .any, .op 84 (.move (.t 5)) none .any, .op 85 (.bin .lss (.t 1) (.t 0)) none .any] [3, 4, 5, 6, 7, 0]) (.cond (.t 5) (.pre [0, 1, 2, 3, 4] .skip) (.pre [0, 1, 3] (.exit 4)))) c51_n8)
def c51_l2 : SCode := .loop true c51_l2b
@[simp] def c51_n14 : SCode := (.draw 0 [.op 113 (.move (.t 0)) none .any, .op 114 (.move (.t 3)) none .any, .op 115 (.move (.t 2)) none .any, .op 116 (.move (.t 5)) none .any, .op 117 (.bin .sub (.t 0) (.k (.c (.int .i64 1)))) none .any, .op 118 (.move (.t 5)) none .any, .op 119 (.move (.t 8)) none .any, .op 120 (.bin .sub (.t 0) (.k (.c (.int .i64 1)))) none .any, .op 121 (.idxSlice 1 (.t 2) (.t 0)) none .any, .op 122 (.load none (.t 0)) none .old, .op 123 (.move (.t 10)) none .any, .op 124 (.move (.t 13)) none .any, .op 125 (.idxSlice 1 (.t 1) (.t 0)) none .any, .op 126 (.load none (.t 0)) none .old, .op 127 (.idxSlice 1 (.t 13) (.t 12)) none .any, .eff (.store 1 (.t 0) (.t 5)) none .old, .op 128 (.idxSlice 1 (.t 12) (.t 10)) none .any, .eff (.store 1 (.t 0) (.t 2)) none .old] [16, 17, 18])
def c51_n13 : SCode := .seq (.block 7 [some 0, some 14, some 17] c51_n14) (.region [.op 111 (.move (.t 2)) none .any, .op 112 (.bin .sub (.t 0) (.k (.c (.int .i64 1)))) none .any, .op 17 (.move (.t 0)) none .any] [3, 4, 0])
instance : IsSeq c51_n13 (.block 7 [some 0, some 14, some 17] c51_n14) (.region [.op 111 (.move (.t 2)) none .any, .op 112 (.bin .sub (.t 0) (.k (.c (.int .i64 1)))) none .any, .op 17 (.move (.t 0)) none .any] [3, 4, 0]) := ⟨rfl⟩
def c51_l3b : SCode := (.seq (.seq (.region [.op 108 (.move (.t 2)) none .any, .op 109 (.move (.t 2)) none .any, .op 110 (.bin .gtr (.t 1) (.t 0)) none .any] [3, 4, 5, 0]) (.cond (.t 3) (.pre [0, 1, 2] .skip) (.pre [] (.exit 6)))) c51_n13)
def c51_l3 : SCode := .loop true c51_l3b
@[simp] def c51_n17 : SCode := (.region [.op 152 (.move (.t 7)) none .any, .op 153 (.move (.t 9)) none .any, .op 154 (.bin .add (.t 1) (.t 0)) none .any, .op 155 (.conv .u64 (.t 0)) none .any, .op 156 (.bin .shr (.t 0) (.k (.c (.int .u64 1)))) none .any, .op 157 (.conv .i64 (.t 0)) none .any, .op 23 (.move (.t 0)) none .any] [7, 8, 9, 10, 11, 12, 13, 14, 15, 16, 0])
@[simp] def c51_n19 : SCode := (.draw 0 [.op 158 (.move (.t 4)) none .any, .op 159 (.move (.t 1)) none .any, .op 160 (.move (.t 11)) none .any, .op 161 (.move (.t 13)) none .any, .op 162 (.bin .sub (.t 1) (.t 0)) none .any, .op 163 (.idxSlice 1 (.t 3) (.t 0)) none .any, .op 164 (.load none (.t 0)) none .old, .op 165 (.move (.t 7)) none .any, .op 166 (.move (.t 18)) none .any, .op 167 (.idxSlice 1 (.t 1) (.t 0)) none .any, .op 168 (.load none (.t 0)) none .old, .op 169 (.call false (.t 10) [(.t 4), (.t 0)]) none .any, .op 170 (.bin .lss (.t 0) (.k (.c (.int .i64 0)))) none .any, .op 171 (.not (.t 0)) none .any] [14, 15, 16, 17, 18, 19, 20, 21, 22, 23, 24, 0])
def c51_n18 : SCode := .seq c51_n19 (.cond (.t 11) (.region [.op 172 (.move (.t 10)) none .any, .op 173 (.bin .add (.t 0) (.k (.c (.int .i64 1)))) none .any, .op 20 (.move (.t 0)) none .any] [3, 4, 5, 6, 7, 8, 9, 0, 11, 12]) (.region [.op 174 (.move (.t 10)) none .any, .op 21 (.move (.t 0)) none .any] [2, 3, 4, 5, 6, 7, 8, 9, 0, 11]))
instance : IsSeq c51_n18 c51_n19 (.cond (.t 11) (.region [.op 172 (.move (.t 10)) none .any, .op 173 (.bin .add (.t 0) (.k (.c (.int .i64 1)))) none .any, .op 20 (.move (.t 0)) none .any] [3, 4, 5, 6, 7, 8, 9, 0, 11, 12]) (.region [.op 174 (.move (.t 10)) none .any, .op 21 (.move (.t 0)) none .any] [2, 3, 4, 5, 6, 7, 8, 9, 0, 11])) := ⟨rfl⟩
def c51_n16 : SCode := .seq c51_n17 c51_n18
instance : IsSeq c51_n16 c51_n17 c51_n18 := ⟨rfl⟩
def c51_n15 : SCode := .block 9 [some 0, some 1, some 2, some 3, some 4, some 18, some 19, some 20, some 21, some 22] c51_n16
instance : IsBlock c51_n15 9 [some 0, some 1, some 2, some 3, some 4, some 18, some 19, some 20, some 21, some 22] c51_n16 := ⟨rfl⟩
def c51_l4b : SCode := (.seq (.seq (.region [.op 149 (.move (.t 7)) none .any, .op 150 (.move (.t 9)) none .any, .op 151 (.bin .lss (.t 1) (.t 0)) none .any] [3, 4, 5, 6, 7, 8, 9, 10, 11, 12, 0]) (.cond (.t 10) (.pre [0, 1, 2, 3, 4, 5, 6, 7, 8, 9] .skip) (.pre [0, 1, 2, 3, 4, 5, 6, 7] (.exit 8)))) c51_n15)
def c51_l4 : SCode := .loop true c51_l4b
@[simp] def c51_n22 : SCode := (.region [.op 29 (.move (.t 2)) none .any, .op 10 (.move (.t 0)) none .any] [2, 3, 5, 6, 0])
def c51_n21 : SCode := .seq c51_n22 (.seq (.region [.op 30 (.move (.t 2)) none .any, .op 11 (.move (.t 0)) none .any] [2, 3, 5, 6, 0]) (.seq (.block 0 [some 0, some 1, some 10] c51_l0) (.seq (.seq (.region [.op 54 (.move (.t 1)) none .any, .op 13 (.move (.t 0)) none .any] [2, 4, 0]) (.block 2 [] c51_l1)) .ret)))
instance : IsSeq c51_n21 c51_n22 (.seq (.region [.op 30 (.move (.t 2)) none .any, .op 11 (.move (.t 0)) none .any] [2, 3, 5, 6, 0]) (.seq (.block 0 [some 0, some 1, some 10] c51_l0) (.seq (.seq (.region [.op 54 (.move (.t 1)) none .any, .op 13 (.move (.t 0)) none .any] [2, 4, 0]) (.block 2 [] c51_l1)) .ret))) := ⟨rfl⟩
def c51_n20 : SCode := .cond (.t 5) c51_n21 (.pre [0, 1, 2, 3, 4] .skip)
instance : IsCond c51_n20 (.t 5) c51_n21 (.pre [0, 1, 2, 3, 4] .skip) := ⟨rfl⟩
@[simp] def c51_n26 : SCode := (.region [.op 81 (.move (.t 1)) none .any, .op 14 (.move (.t 0)) none .any] [2, 4, 6, 0])
def c51_n25 : SCode := .seq c51_n26 (.seq (.region [.op 82 (.move (.t 1)) none .any, .op 15 (.move (.t 0)) none .any] [2, 3, 4, 5, 0]) (.seq (.block 4 [some 0, some 2, some 14] c51_l2) (.seq (.seq (.region [.op 107 (.move (.t 1)) none .any, .op 17 (.move (.t 0)) none .any] [2, 4, 0]) (.block 6 [] c51_l3)) .ret)))
instance : IsSeq c51_n25 c51_n26 (.seq (.region [.op 82 (.move (.t 1)) none .any, .op 15 (.move (.t 0)) none .any] [2, 3, 4, 5, 0]) (.seq (.block 4 [some 0, some 2, some 14] c51_l2) (.seq (.seq (.region [.op 107 (.move (.t 1)) none .any, .op 17 (.move (.t 0)) none .any] [2, 4, 0]) (.block 6 [] c51_l3)) .ret))) := ⟨rfl⟩
def c51_n24 : SCode := .cond (.t 5) c51_n25 (.pre [0, 1, 2, 3, 4] .skip)
instance : IsCond c51_n24 (.t 5) c51_n25 (.pre [0, 1, 2, 3, 4] .skip) := ⟨rfl⟩
@[simp] def c51_n27 : SCode := (.seq (.region [.op 77 (.move (.t 3)) none .any, .op 78 (.move (.t 3)) none .any, .op 79 (.bin .sub (.t 1) (.t 0)) none .any, .op 80 (.bin .eql (.t 0) (.k (.c (.int .i64 1)))) none .any] [4, 5, 6, 7, 8, 0]) c51_n24)
@[simp] def c51_n29 : SCode := (.region [.op 129 (.move (.t 1)) none .any, .op 130 (.move (.t 4)) none .any, .op 131 (.bin .add (.t 1) (.t 0)) none .any, .op 132 (.conv .u64 (.t 0)) none .any, .op 133 (.bin .shr (.t 0) (.k (.c (.int .u64 1)))) none .any, .op 134 (.conv .i64 (.t 0)) none .any, .op 18 (.move (.t 0)) none .any] [7, 8, 9, 10, 11, 0])
@[simp] def c51_n31 : SCode := (.region [.op 135 (.move (.t 5)) none .any, .op 136 (.move (.t 3)) none .any, .op 137 (.bin .add (.t 1) (.t 0)) none .any, .op 19 (.move (.t 0)) none .any] [4, 5, 6, 7, 8, 9, 0])
@[simp] def c51_n33 : SCode := (.region [.op 20 (.move (.k (.c (.int .i64 0)))) none .any, .op 21 (.move (.k (.c (.int .i64 0)))) none .any] [2, 3, 4, 5, 6, 7, 8])
def c51_n35 : SCode := .cond (.t 7) (.seq (.region [.op 141 (.move (.t 6)) none .any, .op 142 (.move (.t 4)) none .any, .op 143 (.bin .sub (.t 1) (.t 0)) none .any, .op 20 (.move (.t 0)) none .any] [4, 5, 6, 7, 8, 9, 10, 0]) (.region [.op 144 (.move (.t 5)) none .any, .op 21 (.move (.t 0)) none .any] [2, 3, 4, 5, 6, 7, 8, 9, 0])) (.seq (.region [.op 145 (.move (.t 1)) none .any, .op 20 (.move (.t 0)) none .any] [2, 3, 4, 5, 6, 7, 8, 0]) (.region [.op 146 (.move (.t 2)) none .any, .op 21 (.move (.t 0)) none .any] [2, 3, 4, 5, 6, 7, 8, 9, 0]))
instance : IsCond c51_n35 (.t 7) (.seq (.region [.op 141 (.move (.t 6)) none .any, .op 142 (.move (.t 4)) none .any, .op 143 (.bin .sub (.t 1) (.t 0)) none .any, .op 20 (.move (.t 0)) none .any] [4, 5, 6, 7, 8, 9, 10, 0]) (.region [.op 144 (.move (.t 5)) none .any, .op 21 (.move (.t 0)) none .any] [2, 3, 4, 5, 6, 7, 8, 9, 0])) (.seq (.region [.op 145 (.move (.t 1)) none .any, .op 20 (.move (.t 0)) none .any] [2, 3, 4, 5, 6, 7, 8, 0]) (.region [.op 146 (.move (.t 2)) none .any, .op 21 (.move (.t 0)) none .any] [2, 3, 4, 5, 6, 7, 8, 9, 0])) := ⟨rfl⟩
@[simp] def c51_n36 : SCode := (.seq (.region [.op 138 (.move (.t 2)) none .any, .op 139 (.move (.t 6)) none .any, .op 140 (.bin .gtr (.t 1) (.t 0)) none .any] [3, 4, 5, 6, 7, 8, 9, 0]) c51_n35)
@[simp] def c51_n38 : SCode := (.region [.op 147 (.move (.t 6)) none .any, .op 148 (.bin .sub (.t 0) (.k (.c (.int .i64 1)))) none .any, .op 22 (.move (.t 0)) none .any] [3, 4, 5, 6, 7, 8, 9, 10, 11, 0])
@[simp] def c51_n40 : SCode := (.block 8 [some 0, some 1, some 2, some 3, some 4, some 18, some 19, some 20] c51_l4)
@[simp] def c51_n42 : SCode := (.region [.op 175 (.move (.t 6)) none .any, .op 176 (.move (.t 8)) none .any, .op 177 (.bin .sub (.t 1) (.t 0)) none .any, .op 24 (.move (.t 0)) none .any] [4, 5, 6, 7, 8, 9, 11, 0])
def c51_n44 : SCode := .cond (.t 8) (.region [.op 186 (.move (.t 0)) none .any, .op 187 (.move (.t 7)) none .any, .op 188 (.move (.t 4)) none .any, .op 189 (.move (.t 10)) none .any, .op 190 (.move (.t 8)) none .any, .op 191 (.call false (.k (.c (.func 66 [] []))) [(.t 4), (.t 3), (.t 2), (.t 1), (.t 0)]) none .any] [6, 7, 9, 10, 11, 12, 13]) (.pre [0, 1, 3, 4, 5, 6, 7] .skip)
instance : IsCond c51_n44 (.t 8) (.region [.op 186 (.move (.t 0)) none .any, .op 187 (.move (.t 7)) none .any, .op 188 (.move (.t 4)) none .any, .op 189 (.move (.t 10)) none .any, .op 190 (.move (.t 8)) none .any, .op 191 (.call false (.k (.c (.func 66 [] []))) [(.t 4), (.t 3), (.t 2), (.t 1), (.t 0)]) none .any] [6, 7, 9, 10, 11, 12, 13]) (.pre [0, 1, 3, 4, 5, 6, 7] .skip) := ⟨rfl⟩
@[simp] def c51_n45 : SCode := (.seq (.region [.op 178 (.move (.t 6)) none .any, .op 179 (.move (.t 3)) none .any, .op 180 (.bin .lss (.t 1) (.t 0)) none .any, .op 181 (.move (.t 0)) none .any, .andN 185 0 [.op 182 (.move (.t 6)) none .any, .op 183 (.move (.t 12)) none .any, .op 184 (.bin .lss (.t 1) (.t 0)) none .any] (.t 0)] [5, 6, 7, 8, 9, 10, 11, 12, 0]) c51_n44)
@[simp] def c51_n47 : SCode := (.seq (.region [.op 192 (.move (.t 1)) none .any, .op 193 (.move (.t 6)) none .any, .op 194 (.bin .lss (.t 1) (.t 0)) none .any, .op 195 (.move (.t 0)) none .any, .andN 199 0 [.op 196 (.move (.t 9)) none .any, .op 197 (.move (.t 9)) none .any, .op 198 (.bin .lss (.t 1) (.t 0)) none .any] (.t 0)] [5, 6, 7, 8, 9, 10, 11, 0]) (.cond (.t 7) (.region [.op 200 (.move (.t 0)) none .any, .op 201 (.move (.t 2)) none .any, .op 202 (.move (.t 7)) none .any, .op 203 (.move (.t 7)) none .any, .op 204 (.move (.t 7)) none .any, .op 205 (.call false (.k (.c (.func 51 [] []))) [(.t 4), (.t 3), (.t 2), (.t 1), (.t 0)]) none .any] [6, 8, 9, 10, 12]) (.pre [0, 2, 3, 4, 6] .skip)))
@[simp] def c51_n49 : SCode := (.region [.op 206 (.move (.t 3)) none .any, .op 207 (.move (.t 5)) none .any, .op 208 (.bin .lss (.t 1) (.t 0)) none .any, .op 209 (.move (.t 0)) none .any, .andN 213 0 [.op 210 (.move (.t 8)) none .any, .op 211 (.move (.t 6)) none .any, .op 212 (.bin .lss (.t 1) (.t 0)) none .any] (.t 0)] [5, 6, 7, 8, 9, 0])
def c51_n48 : SCode := .seq c51_n49 (.cond (.t 5) (.region [.op 214 (.move (.t 0)) none .any, .op 215 (.move (.t 4)) none .any, .op 216 (.move (.t 6)) none .any, .op 217 (.move (.t 4)) none .any, .op 218 (.move (.t 6)) none .any, .op 219 (.call false (.k (.c (.func 51 [] []))) [(.t 4), (.t 3), (.t 2), (.t 1), (.t 0)]) none .any] []) (.pre [] .skip))
instance : IsSeq c51_n48 c51_n49 (.cond (.t 5) (.region [.op 214 (.move (.t 0)) none .any, .op 215 (.move (.t 4)) none .any, .op 216 (.move (.t 6)) none .any, .op 217 (.move (.t 4)) none .any, .op 218 (.move (.t 6)) none .any, .op 219 (.call false (.k (.c (.func 51 [] []))) [(.t 4), (.t 3), (.t 2), (.t 1), (.t 0)]) none .any] []) (.pre [] .skip)) := ⟨rfl⟩
def c51_n46 : SCode := .seq c51_n47 c51_n48
instance : IsSeq c51_n46 c51_n47 c51_n48 := ⟨rfl⟩
def c51_n43 : SCode := .seq c51_n45 c51_n46
instance : IsSeq c51_n43 c51_n45 c51_n46 := ⟨rfl⟩
def c51_n41 : SCode := .seq c51_n42 c51_n43
instance : IsSeq c51_n41 c51_n42 c51_n43 := ⟨rfl⟩
def c51_n39 : SCode := .seq c51_n40 c51_n41
instance : IsSeq c51_n39 c51_n40 c51_n41 := ⟨rfl⟩
def c51_n37 : SCode := .seq c51_n38 c51_n39
instance : IsSeq c51_n37 c51_n38 c51_n39 := ⟨rfl⟩
def c51_n34 : SCode := .seq c51_n36 c51_n37
instance : IsSeq c51_n34 c51_n36 c51_n37 := ⟨rfl⟩
def c51_n32 : SCode := .seq c51_n33 c51_n34
instance : IsSeq c51_n32 c51_n33 c51_n34 := ⟨rfl⟩
def c51_n30 : SCode := .seq c51_n31 c51_n32
instance : IsSeq c51_n30 c51_n31 c51_n32 := ⟨rfl⟩
def c51_n28 : SCode := .seq c51_n29 c51_n30
instance : IsSeq c51_n28 c51_n29 c51_n30 := ⟨rfl⟩
def c51_n23 : SCode := .seq c51_n27 c51_n28
instance : IsSeq c51_n23 c51_n27 c51_n28 := ⟨rfl⟩
def c51 : SCode := (.seq (.seq (.region [.op 25 (.move (.t 2)) none .any, .op 26 (.move (.t 2)) none .any, .op 27 (.bin .sub (.t 1) (.t 0)) none .any, .op 28 (.bin .eql (.t 0) (.k (.c (.int .i64 1)))) none .any] [4, 5, 6, 7, 8, 0]) c51_n20) c51_n23)
def F51 : SFunc := .code .shared 220 5 [] [] c51

end LM.GT

namespace LM.GT
open Go LM
-- crux/member.each[crux/member.Official]
-- c52_l0: env [0, 2, 14, 15, 16]
@[simp] def c52_n4 : SCode := (.region [.op 18 (.move (.t 4)) none .any, .op 19 (.idxSlice 4 (.t 3) (.t 5)) none .any, .op 20 (.load (some 4) (.t 0)) none .any, .op 8 (.new [(.c (.str [])), (.c (.str [])), .nil, (.c (.int .i64 0))]) none .any, .op 7 (.move (.t 3)) none .any, .eff (.store 4 (.t 1) (.t 2)) none .any] [5, 6, 0, 1, 7, 8, 9])
@[simp] def c52_n6 : SCode := (.draw 0 [.op 21 (.move (.t 1)) none .any, .op 22 (.load (some 4) (.t 4)) none .var, .op 23 (.move (.t 2)) none .any, .op 24 (.move (.t 5)) none .any, .op 25 (.sliceSl 4 (.t 1) none (some (.t 0)) none) none .any, .op 26 (.call false (.t 4) [(.t 3), (.t 0)]) none .any, .op 9 (.move (.t 0)) none .any] [7, 8, 0, 11, 12, 13])
def c52_n5 : SCode := .seq c52_n6 (.seq (.region [.op 27 (.move (.t 2)) none .any, .op 28 (.bin .neq (.t 0) (.k (.c (.int .i64 0)))) none .any] [2, 3, 4, 5, 6, 7, 0]) (.cond (.t 6) (.seq (.region [.op 29 (.move (.t 2)) none .any, .op 6 (.move (.t 0)) none .any] [0]) .ret) (.pre [0, 1, 3, 4, 5] .skip)))
instance : IsSeq c52_n5 c52_n6 (.seq (.region [.op 27 (.move (.t 2)) none .any, .op 28 (.bin .neq (.t 0) (.k (.c (.int .i64 0)))) none .any] [2, 3, 4, 5, 6, 7, 0]) (.cond (.t 6) (.seq (.region [.op 29 (.move (.t 2)) none .any, .op 6 (.move (.t 0)) none .any] [0]) .ret) (.pre [0, 1, 3, 4, 5] .skip))) := ⟨rfl⟩
def c52_n3 : SCode := .seq c52_n4 c52_n5
instance : IsSeq c52_n3 c52_n4 c52_n5 := ⟨rfl⟩
def c52_n2 : SCode := .seq (.block 1 [some 0, some 2, some 14, some 15, some 16] c52_n3) (.region [.op 30 (.bin .add (.t 4) (.k (.c (.int .i64 1)))) none .any, .op 16 (.move (.t 0)) none .any] [2, 3, 4, 5, 0])
instance : IsSeq c52_n2 (.block 1 [some 0, some 2, some 14, some 15, some 16] c52_n3) (.region [.op 30 (.bin .add (.t 4) (.k (.c (.int .i64 1)))) none .any, .op 16 (.move (.t 0)) none .any] [2, 3, 4, 5, 0]) := ⟨rfl⟩
def c52_n1 : SCode := .seq (.cond (.t 5) (.pre [0, 1, 2, 3, 4] .skip) (.pre [] (.exit 0))) c52_n2
instance : IsSeq c52_n1 (.cond (.t 5) (.pre [0, 1, 2, 3, 4] .skip) (.pre [] (.exit 0))) c52_n2 := ⟨rfl⟩
def c52_l0b : SCode := (.seq (.region [.op 17 (.bin .lss (.t 4) (.t 3)) none .any] [1, 2, 3, 4, 5, 0]) c52_n1)
def c52_l0 : SCode := .loop true c52_l0b
@[simp] def c52_n8 : SCode := (.seq (.region [.op 10 (.move (.t 0)) none .any, .op 11 (.len 1 (.t 0)) none .any, .op 12 (.move (.t 3)) none .any, .op 13 (.bin .gtr (.t 1) (.t 0)) none .any] [4, 6, 0]) (.cond (.t 2) (.seq (.region [.op 6 (.move (.k (.c (.int .i64 5)))) none .any] [0]) .ret) (.pre [0, 1] .skip)))
def c52_n7 : SCode := .seq c52_n8 (.seq (.seq (.region [.op 14 (.move (.t 0)) none .any, .op 15 (.len 1 (.t 0)) none .any, .op 16 (.move (.k (.c (.int .i64 0)))) none .any] [3, 4, 2, 1, 0]) (.block 0 [] c52_l0)) (.seq (.region [.op 6 (.move (.k (.c (.int .i64 0)))) none .any] [0]) .ret))
instance : IsSeq c52_n7 c52_n8 (.seq (.seq (.region [.op 14 (.move (.t 0)) none .any, .op 15 (.len 1 (.t 0)) none .any, .op 16 (.move (.k (.c (.int .i64 0)))) none .any] [3, 4, 2, 1, 0]) (.block 0 [] c52_l0)) (.seq (.region [.op 6 (.move (.k (.c (.int .i64 0)))) none .any] [0]) .ret)) := ⟨rfl⟩
def c52 : SCode := (.seq (.region [.op 6 (.move (.k (.c (.int .i64 0)))) none .any] [1, 2, 3]) c52_n7)
def F52 : SFunc := .code .pure 31 3 [some 6] [.tmp 0] c52

-- crux/member.CheckJury$1
@[simp] def c53_n2 : SCode := (.region [.op 6 (.move (.t 0)) none .any, .op 7 (.mkFunc 55 [] [(.t 2)]) none .any, .op 8 (.call false (.k (.c (.func 54 [] []))) [(.t 1), (.t 0)]) none .any, .op 5 (.move (.t 0)) none .any] [5, 0])
@[simp] def c53_n4 : SCode := (.draw 1 [.op 9 (.fieldAddr 0 (.t 0)) none .any, .op 10 (.load none (.t 0)) none .var, .op 11 (.call false (.k (.c (.func 40 [] []))) [(.t 0)]) none .any, .op 12 (.fieldAddr 1 (.t 3)) none .any, .op 13 (.load none (.t 0)) none .var, .op 14 (.call false (.k (.c (.func 40 [] []))) [(.t 0)]) none .any, .op 15 (.move (.t 7)) none .any, .op 16 (.call false (.k (.c (.func 41 [] []))) [(.t 0), (.k (.c (.int .i64 9)))]) none .any, .op 17 (.fieldAddr 2 (.t 8)) none .any, .op 18 (.load none (.t 0)) none .var, .op 19 (.call false (.k (.c (.func 36 [] []))) [(.t 0), (.k (.c (.int .i64 16))), (.k (.c (.func 37 [] [])))]) none .any, .op 20 (.fieldAddr 3 (.t 11)) none .any, .op 21 (.load none (.t 0)) none .var, .op 22 (.call false (.k (.c (.func 42 [] []))) [(.t 0), (.k (.c (.int .i64 0))), (.k (.c (.int .i64 24)))]) none .any, .op 23 (.call false (.k (.c (.func 41 [] []))) [(.t 0), (.k (.c (.int .i64 3)))]) none .any, .op 24 (.buildSlice 2 none 5 [(.c (.int .i64 0))] [(0, (.t 12)), (1, (.t 9)), (2, (.t 7)), (3, (.t 4)), (4, (.t 0))]) (some 0) .any, .op 25 (.call false (.k (.c (.func 22 [] []))) [(.t 0)]) none .any, .op 4 (.move (.t 0)) none .any] [0])
def c53_n3 : SCode := .seq c53_n4 .ret
instance : IsSeq c53_n3 c53_n4 .ret := ⟨rfl⟩
def c53_n1 : SCode := .seq c53_n2 c53_n3
instance : IsSeq c53_n1 c53_n2 c53_n3 := ⟨rfl⟩
def c53 : SCode := (.seq (.region [.op 2 (.box (.t 0)) none .any, .op 4 (.move (.k (.c (.int .i64 0)))) none .any] [3, 1]) c53_n1)
def F53 : SFunc := .code .pure 26 2 [some 4] [.tmp 0] c53

-- slices.ContainsFunc[[]crux/member.Official,crux/member.Official]
def c54 : SCode := (.seq (.region [.op 4 (.move (.k (.c (.bool false)))) none .any] [1, 2]) (.seq (.region [.op 5 (.move (.t 0)) none .any, .op 6 (.move (.t 2)) none .any, .op 7 (.call false (.k (.c (.func 67 [] []))) [(.t 1), (.t 0)]) none .any, .op 8 (.bin .geq (.t 0) (.k (.c (.int .i64 0)))) none .any, .op 4 (.move (.t 0)) none .any] [0]) .ret))
def F54 : SFunc := .code .pure 9 2 [some 4] [.tmp 0] c54

-- crux/member.CheckJury$1$1
def c55 : SCode := (.seq (.region [.op 2 (.box (.t 0)) none .any, .op 3 (.move (.k (.c (.bool false)))) none .any] [3, 1]) (.seq (.region [.op 4 (.fieldAddr 0 (.t 1)) none .any, .op 5 (.load none (.t 0)) none .any, .op 6 (.fieldAddr 0 (.t 2)) none .any, .op 7 (.load none (.t 0)) none .any, .op 8 (.bin .eql (.t 2) (.t 0)) none .any, .op 3 (.move (.t 0)) none .any] [0]) .ret))
def F55 : SFunc := .code .pure 9 2 [some 3] [.tmp 0] c55

-- crux/member.each[crux/member.Post]
-- c56_l0: env [0, 2, 14, 15, 16]
@[simp] def c56_n4 : SCode := (.region [.op 18 (.move (.t 4)) none .any, .op 19 (.idxSlice 4 (.t 3) (.t 5)) none .any, .op 20 (.load (some 4) (.t 0)) none .any, .op 8 (.new [(.c (.str [])), (.c (.str [])), (.c (.int .i64 0)), .nil]) none .any, .op 7 (.move (.t 3)) none .any, .eff (.store 4 (.t 1) (.t 2)) none .any] [5, 6, 0, 1, 7, 8, 9])
@[simp] def c56_n6 : SCode := (.draw 0 [.op 21 (.move (.t 1)) none .any, .op 22 (.load (some 4) (.t 4)) none .var, .op 23 (.move (.t 2)) none .any, .op 24 (.move (.t 5)) none .any, .op 25 (.sliceSl 4 (.t 1) none (some (.t 0)) none) none .any, .op 26 (.call false (.t 4) [(.t 3), (.t 0)]) none .any, .op 9 (.move (.t 0)) none .any] [7, 8, 0, 11, 12, 13])
def c56_n5 : SCode := .seq c56_n6 (.seq (.region [.op 27 (.move (.t 2)) none .any, .op 28 (.bin .neq (.t 0) (.k (.c (.int .i64 0)))) none .any] [2, 3, 4, 5, 6, 7, 0]) (.cond (.t 6) (.seq (.region [.op 29 (.move (.t 2)) none .any, .op 6 (.move (.t 0)) none .any] [0]) .ret) (.pre [0, 1, 3, 4, 5] .skip)))
instance : IsSeq c56_n5 c56_n6 (.seq (.region [.op 27 (.move (.t 2)) none .any, .op 28 (.bin .neq (.t 0) (.k (.c (.int .i64 0)))) none .any] [2, 3, 4, 5, 6, 7, 0]) (.cond (.t 6) (.seq (.region [.op 29 (.move (.t 2)) none .any, .op 6 (.move (.t 0)) none .any] [0]) .ret) (.pre [0, 1, 3, 4, 5] .skip))) := ⟨rfl⟩
def c56_n3 : SCode := .seq c56_n4 c56_n5
instance : IsSeq c56_n3 c56_n4 c56_n5 := ⟨rfl⟩
def c56_n2 : SCode := .seq (.block 1 [some 0, some 2, some 14, some 15, some 16] c56_n3) (.region [.op 30 (.bin .add (.t 4) (.k (.c (.int .i64 1)))) none .any, .op 16 (.move (.t 0)) none .any] [2, 3, 4, 5, 0])
instance : IsSeq c56_n2 (.block 1 [some 0, some 2, some 14, some 15, some 16] c56_n3) (.region [.op 30 (.bin .add (.t 4) (.k (.c (.int .i64 1)))) none .any, .op 16 (.move (.t 0)) none .any] [2, 3, 4, 5, 0]) := ⟨rfl⟩
def c56_n1 : SCode := .seq (.cond (.t 5) (.pre [0, 1, 2, 3, 4] .skip) (.pre [] (.exit 0))) c56_n2
instance : IsSeq c56_n1 (.cond (.t 5) (.pre [0, 1, 2, 3, 4] .skip) (.pre [] (.exit 0))) c56_n2 := ⟨rfl⟩
def c56_l0b : SCode := (.seq (.region [.op 17 (.bin .lss (.t 4) (.t 3)) none .any] [1, 2, 3, 4, 5, 0]) c56_n1)
def c56_l0 : SCode := .loop true c56_l0b
@[simp] def c56_n8 : SCode := (.seq (.region [.op 10 (.move (.t 0)) none .any, .op 11 (.len 1 (.t 0)) none .any, .op 12 (.move (.t 3)) none .any, .op 13 (.bin .gtr (.t 1) (.t 0)) none .any] [4, 6, 0]) (.cond (.t 2) (.seq (.region [.op 6 (.move (.k (.c (.int .i64 5)))) none .any] [0]) .ret) (.pre [0, 1] .skip)))
def c56_n7 : SCode := .seq c56_n8 (.seq (.seq (.region [.op 14 (.move (.t 0)) none .any, .op 15 (.len 1 (.t 0)) none .any, .op 16 (.move (.k (.c (.int .i64 0)))) none .any] [3, 4, 2, 1, 0]) (.block 0 [] c56_l0)) (.seq (.region [.op 6 (.move (.k (.c (.int .i64 0)))) none .any] [0]) .ret))
instance : IsSeq c56_n7 c56_n8 (.seq (.seq (.region [.op 14 (.move (.t 0)) none .any, .op 15 (.len 1 (.t 0)) none .any, .op 16 (.move (.k (.c (.int .i64 0)))) none .any] [3, 4, 2, 1, 0]) (.block 0 [] c56_l0)) (.seq (.region [.op 6 (.move (.k (.c (.int .i64 0)))) none .any] [0]) .ret)) := ⟨rfl⟩
def c56 : SCode := (.seq (.region [.op 6 (.move (.k (.c (.int .i64 0)))) none .any] [1, 2, 3]) c56_n7)
def F56 : SFunc := .code .pure 31 3 [some 6] [.tmp 0] c56

-- crux/member.CheckJury$2
@[simp] def c57_n2 : SCode := (.region [.op 6 (.move (.t 0)) none .any, .op 7 (.mkFunc 59 [] [(.t 2)]) none .any, .op 8 (.call false (.k (.c (.func 58 [] []))) [(.t 1), (.t 0)]) none .any, .op 5 (.move (.t 0)) none .any] [5, 0])
@[simp] def c57_n4 : SCode := (.draw 1 [.op 9 (.fieldAddr 0 (.t 0)) none .any, .op 10 (.load none (.t 0)) none .var, .op 11 (.call false (.k (.c (.func 40 [] []))) [(.t 0)]) none .any, .op 12 (.fieldAddr 1 (.t 3)) none .any, .op 13 (.load none (.t 0)) none .var, .op 14 (.call false (.k (.c (.func 40 [] []))) [(.t 0)]) none .any, .op 15 (.move (.t 7)) none .any, .op 16 (.call false (.k (.c (.func 41 [] []))) [(.t 0), (.k (.c (.int .i64 9)))]) none .any, .op 17 (.fieldAddr 2 (.t 8)) none .any, .op 18 (.load none (.t 0)) none .var, .op 19 (.call false (.k (.c (.func 26 [] []))) [(.t 0)]) none .any, .op 20 (.fieldAddr 3 (.t 11)) none .any, .op 21 (.load none (.t 0)) none .var, .op 22 (.call false (.k (.c (.func 36 [] []))) [(.t 0), (.k (.c (.int .i64 160))), (.k (.c (.func 37 [] [])))]) none .any, .op 23 (.buildSlice 2 none 5 [(.c (.int .i64 0))] [(0, (.t 11)), (1, (.t 8)), (2, (.t 6)), (3, (.t 3)), (4, (.t 0))]) (some 0) .any, .op 24 (.call false (.k (.c (.func 22 [] []))) [(.t 0)]) none .any, .op 4 (.move (.t 0)) none .any] [0])
def c57_n3 : SCode := .seq c57_n4 .ret
instance : IsSeq c57_n3 c57_n4 .ret := ⟨rfl⟩
def c57_n1 : SCode := .seq c57_n2 c57_n3
instance : IsSeq c57_n1 c57_n2 c57_n3 := ⟨rfl⟩
def c57 : SCode := (.seq (.region [.op 2 (.box (.t 0)) none .any, .op 4 (.move (.k (.c (.int .i64 0)))) none .any] [3, 1]) c57_n1)
def F57 : SFunc := .code .pure 25 2 [some 4] [.tmp 0] c57

-- slices.ContainsFunc[[]crux/member.Post,crux/member.Post]
def c58 : SCode := (.seq (.region [.op 4 (.move (.k (.c (.bool false)))) none .any] [1, 2]) (.seq (.region [.op 5 (.move (.t 0)) none .any, .op 6 (.move (.t 2)) none .any, .op 7 (.call false (.k (.c (.func 68 [] []))) [(.t 1), (.t 0)]) none .any, .op 8 (.bin .geq (.t 0) (.k (.c (.int .i64 0)))) none .any, .op 4 (.move (.t 0)) none .any] [0]) .ret))
def F58 : SFunc := .code .pure 9 2 [some 4] [.tmp 0] c58

-- crux/member.CheckJury$2$1
def c59 : SCode := (.seq (.region [.op 2 (.box (.t 0)) none .any, .op 3 (.move (.k (.c (.bool false)))) none .any] [3, 1]) (.seq (.region [.op 4 (.fieldAddr 0 (.t 1)) none .any, .op 5 (.load none (.t 0)) none .any, .op 6 (.fieldAddr 0 (.t 2)) none .any, .op 7 (.load none (.t 0)) none .any, .op 8 (.bin .eql (.t 2) (.t 0)) none .any, .op 3 (.move (.t 0)) none .any] [0]) .ret))
def F59 : SFunc := .code .pure 9 2 [some 3] [.tmp 0] c59

-- math/bits.Mul
@[simp] def c60_n3 : SCode := (.region [.op 11 (.move (.t 0)) none .any, .op 12 (.conv .u32 (.t 0)) none .any, .op 13 (.move (.t 3)) none .any, .op 14 (.conv .u32 (.t 0)) none .any, .op 15 (.call false (.k (.c (.func 69 [] []))) [(.t 2), (.t 0)]) none .any, .op 10 (.move (.t 0)) none .any, .op 16 (.extract (.t 0) 0) none .any, .op 17 (.extract (.t 1) 1) none .any, .op 6 (.move (.t 1)) none .any, .op 7 (.move (.t 1)) none .any] [1, 0])
def c60_n2 : SCode := .seq c60_n3 (.seq (.region [.op 18 (.move (.t 0)) none .any, .op 19 (.conv .u64 (.t 0)) none .any, .op 20 (.move (.t 3)) none .any, .op 21 (.conv .u64 (.t 0)) none .any, .op 4 (.move (.t 2)) none .any, .op 5 (.move (.t 1)) none .any] [1, 0]) .ret)
instance : IsSeq c60_n2 c60_n3 (.seq (.region [.op 18 (.move (.t 0)) none .any, .op 19 (.conv .u64 (.t 0)) none .any, .op 20 (.move (.t 3)) none .any, .op 21 (.conv .u64 (.t 0)) none .any, .op 4 (.move (.t 2)) none .any, .op 5 (.move (.t 1)) none .any] [1, 0]) .ret) := ⟨rfl⟩
@[simp] def c60_n5 : SCode := (.region [.op 23 (.move (.t 0)) none .any, .op 24 (.move (.t 2)) none .any, .op 25 (.call false (.k (.c (.func 70 [] []))) [(.t 1), (.t 0)]) none .any, .op 22 (.move (.t 0)) none .any, .op 26 (.extract (.t 0) 0) none .any, .op 27 (.extract (.t 1) 1) none .any, .op 8 (.move (.t 1)) none .any, .op 9 (.move (.t 1)) none .any] [1, 0])
def c60_n4 : SCode := .seq c60_n5 (.seq (.region [.op 28 (.move (.t 0)) none .any, .op 29 (.move (.t 2)) none .any, .op 4 (.move (.t 1)) none .any, .op 5 (.move (.t 1)) none .any] [1, 0]) .ret)
instance : IsSeq c60_n4 c60_n5 (.seq (.region [.op 28 (.move (.t 0)) none .any, .op 29 (.move (.t 2)) none .any, .op 4 (.move (.t 1)) none .any, .op 5 (.move (.t 1)) none .any] [1, 0]) .ret) := ⟨rfl⟩
def c60_n1 : SCode := .seq (.cond (.k (.c (.bool false))) c60_n2 .skip) c60_n4
instance : IsSeq c60_n1 (.cond (.k (.c (.bool false))) c60_n2 .skip) c60_n4 := ⟨rfl⟩
def c60 : SCode := (.seq (.region [.op 4 (.move (.k (.c (.int .u64 0)))) none .any, .op 5 (.move (.k (.c (.int .u64 0)))) none .any] [2, 3]) c60_n1)
def F60 : SFunc := .code .pure 30 2 [some 4, some 5] [.tmp 0, .tmp 1] c60

-- (crux/member.Jury).serves
@[simp] def c61_n2 : SCode := (.draw 2 [.op 9 (.fieldAddr 0 (.t 2)) none .any, .op 10 (.load none (.t 0)) none .var, .op 11 (.move (.t 2)) none .any, .op 12 (.idxSlice 4 (.t 1) (.t 0)) none .any, .op 13 (.load (some 4) (.t 0)) none .old, .op 14 (.fieldAddr 1 (.t 7)) none .any, .op 15 (.load none (.t 0)) none .var, .op 16 (.move (.t 8)) none .any, .op 17 (.idxSlice 4 (.t 1) (.t 0)) none .any, .op 18 (.load (some 4) (.t 0)) none .old, .op 7 (.new [(.c (.str [])), (.c (.str [])), .nil, (.c (.int .i64 0))]) (some 0) .any, .op 8 (.new [(.c (.str [])), (.c (.str [])), (.c (.int .i64 0)), .nil]) (some 1) .any, .eff (.store 4 (.t 1) (.t 7)) none .new, .eff (.store 4 (.t 0) (.t 2)) none .new] [1, 0])
@[simp] def c61_n4 : SCode := (.region [.op 19 (.fieldAddr 2 (.t 0)) none .any, .op 20 (.load none (.t 0)) none .any, .op 21 (.fieldAddr 1 (.t 3)) none .any, .op 22 (.load none (.t 0)) none .any, .op 23 (.call false (.k (.c (.func 48 [] []))) [(.t 2), (.t 0)]) none .any, .op 24 (.move (.t 0)) none .any, .andN 31 0 [.op 25 (.fieldAddr 3 (.t 7)) none .any, .op 26 (.load none (.t 0)) none .any, .op 27 (.fieldAddr 1 (.t 8)) none .any, .op 28 (.load none (.t 0)) none .any, .op 29 (.call false (.k (.c (.func 48 [] []))) [(.t 2), (.t 0)]) none .any, .op 30 (.not (.t 0)) none .any] (.t 0), .op 6 (.move (.t 0)) none .any] [0])
def c61_n3 : SCode := .seq c61_n4 .ret
instance : IsSeq c61_n3 c61_n4 .ret := ⟨rfl⟩
def c61_n1 : SCode := .seq c61_n2 c61_n3
instance : IsSeq c61_n1 c61_n2 c61_n3 := ⟨rfl⟩
def c61 : SCode := (.seq (.region [.op 3 (.box (.t 0)) none .any, .op 6 (.move (.k (.c (.bool false)))) none .any] [3, 4, 1]) c61_n1)
def F61 : SFunc := .code .pure 32 3 [some 6] [.tmp 0] c61

-- (*crux/member.filling).holder
-- c62_l0: env [0, 3, 11, 12, 13]
@[simp] def c62_n4 : SCode := (.region [.op 15 (.move (.t 4)) none .any, .op 16 (.idxSlice 4 (.t 3) (.t 5)) none .any, .op 17 (.load (some 4) (.t 0)) none .any, .op 6 (.new [(.c (.str [])), (.c (.str [])), (.c (.int .i64 0)), .nil]) none .any, .op 5 (.move (.t 3)) none .any, .eff (.store 4 (.t 1) (.t 2)) none .any] [5, 6, 0, 1, 7, 8, 9])
@[simp] def c62_n6 : SCode := (.draw 0 [.op 18 (.fieldAddr 2 (.t 3)) none .any, .op 19 (.load none (.t 0)) none .var, .op 20 (.fieldAddr 1 (.t 3)) none .any, .op 21 (.load none (.t 0)) none .var, .op 22 (.bin .eql (.t 2) (.t 0)) none .any, .op 23 (.move (.t 0)) none .any, .andN 34 0 [.op 24 (.move (.t 6)) none .any, .op 25 (.nilCheck (.t 0)) none .any, .op 26 (.fieldAddr 3 (.t 0)) none .any, .op 27 (.load none (.t 0)) none .var, .op 28 (.move (.t 12)) none .any, .op 29 (.idxSlice 1 (.t 1) (.t 0)) none .any, .op 30 (.load none (.t 0)) none .old, .op 31 (.fieldAddr 0 (.t 14)) none .any, .op 32 (.load none (.t 0)) none .var, .op 33 (.bin .eql (.t 2) (.t 0)) none .any] (.t 0)] [7, 8, 9, 11, 12, 13, 0])
def c62_n5 : SCode := .seq c62_n6 (.cond (.t 6) (.seq (.region [.op 35 (.move (.t 2)) none .any, .op 4 (.move (.t 0)) none .any] [0]) .ret) (.pre [0, 1, 3, 4, 5] .skip))
instance : IsSeq c62_n5 c62_n6 (.cond (.t 6) (.seq (.region [.op 35 (.move (.t 2)) none .any, .op 4 (.move (.t 0)) none .any] [0]) .ret) (.pre [0, 1, 3, 4, 5] .skip)) := ⟨rfl⟩
def c62_n3 : SCode := .seq c62_n4 c62_n5
instance : IsSeq c62_n3 c62_n4 c62_n5 := ⟨rfl⟩
def c62_n2 : SCode := .seq (.block 1 [some 0, some 3, some 11, some 12, some 13] c62_n3) (.region [.op 36 (.bin .add (.t 4) (.k (.c (.int .i64 1)))) none .any, .op 13 (.move (.t 0)) none .any] [2, 3, 4, 5, 0])
instance : IsSeq c62_n2 (.block 1 [some 0, some 3, some 11, some 12, some 13] c62_n3) (.region [.op 36 (.bin .add (.t 4) (.k (.c (.int .i64 1)))) none .any, .op 13 (.move (.t 0)) none .any] [2, 3, 4, 5, 0]) := ⟨rfl⟩
def c62_n1 : SCode := .seq (.cond (.t 5) (.pre [0, 1, 2, 3, 4] .skip) (.pre [] (.exit 0))) c62_n2
instance : IsSeq c62_n1 (.cond (.t 5) (.pre [0, 1, 2, 3, 4] .skip) (.pre [] (.exit 0))) c62_n2 := ⟨rfl⟩
def c62_l0b : SCode := (.seq (.region [.op 14 (.bin .lss (.t 4) (.t 3)) none .any] [1, 2, 3, 4, 5, 0]) c62_n1)
def c62_l0 : SCode := .loop true c62_l0b
@[simp] def c62_n8 : SCode := (.seq (.region [.op 7 (.move (.t 0)) none .any, .op 8 (.nilCheck (.t 0)) none .any, .op 9 (.fieldAddr 0 (.t 0)) none .any, .op 10 (.fieldAddr 1 (.t 0)) none .any, .op 11 (.load none (.t 0)) none .any, .op 12 (.len 1 (.t 0)) none .any, .op 13 (.move (.k (.c (.int .i64 0)))) none .any] [7, 8, 2, 1, 0]) (.block 0 [] c62_l0))
def c62_n7 : SCode := .seq c62_n8 (.seq (.region [.op 4 (.move (.k (.c (.int .i64 (-1))))) none .any] [0]) .ret)
instance : IsSeq c62_n7 c62_n8 (.seq (.region [.op 4 (.move (.k (.c (.int .i64 (-1))))) none .any] [0]) .ret) := ⟨rfl⟩
def c62 : SCode := (.seq (.region [.op 3 (.box (.t 1)) none .any, .op 4 (.move (.k (.c (.int .i64 0)))) none .any] [2, 1]) c62_n7)
def F62 : SFunc := .code .shared 37 2 [some 4] [.tmp 0] c62

-- (*crux/member.filling).free
-- c63_l0: env [0, 1, 2, 3, 36, 37, 38]
@[simp] def c63_n4 : SCode := (.region [.op 40 (.move (.t 6)) none .any, .op 41 (.idxSlice 1 (.t 5) (.t 7)) none .any, .op 42 (.load none (.t 0)) none .any, .op 9 (.move (.t 2)) none .any, .op 10 (.move (.t 1)) none .any] [5, 6, 7, 8, 1, 0, 9, 10, 11])
@[simp] def c63_n6 : SCode := (.seq (.region [.op 43 (.move (.t 5)) none .any, .op 44 (.move (.t 2)) none .any, .op 45 (.bin .neq (.t 1) (.t 0)) none .any] [3, 4, 5, 6, 7, 9, 10, 11, 0]) (.cond (.t 8) (.pre [0, 1, 2, 3, 5, 6, 7] (.exit 1)) (.pre [0, 1, 2, 3, 4, 5, 6, 7] .skip)))
@[simp] def c63_n8 : SCode := (.region [.op 46 (.move (.t 2)) none .any, .op 47 (.move (.t 2)) none .any, .op 48 (.move (.t 2)) none .any, .op 49 (.nilCheck (.t 0)) none .any, .op 50 (.fieldAddr 0 (.t 0)) none .any, .op 51 (.fieldAddr 1 (.t 0)) none .any, .op 52 (.load none (.t 0)) none .any, .op 53 (.move (.t 11)) none .any, .op 54 (.idxSlice 4 (.t 1) (.t 0)) none .any, .op 55 (.fieldAddr 2 (.t 0)) none .any, .op 56 (.load none (.t 0)) none .any, .op 57 (.build [(.c (.int .i64 0)), (.c (.int .i64 0))] [(0, 1, (.t 9)), (1, 1, (.t 0))]) none .any, .eff (.mapUpdate (.many [0, 0]) (.t 11) (.t 0) (.k (.c (.bool true)))) none .any] [12, 13, 14, 15, 16, 17, 18, 19])
@[simp] def c63_n10 : SCode := (.region [.op 58 (.move (.t 0)) none .any, .op 59 (.move (.t 5)) none .any, .op 60 (.move (.t 4)) none .any, .op 61 (.move (.t 6)) none .any, .op 62 (.call false (.k (.c (.func 47 [] []))) [(.t 3), (.t 2), (.t 1), (.t 0)]) none .any] [5, 6, 7, 8, 10, 11, 12, 0])
@[simp] def c63_n13 : SCode := (.region [.op 63 (.move (.t 0)) none .any, .op 64 (.nilCheck (.t 0)) none .any, .op 65 (.fieldAddr 4 (.t 0)) none .any, .op 66 (.load none (.t 0)) none .any, .op 67 (.move (.t 5)) none .any, .op 68 (.idxSlice 1 (.t 1) (.t 0)) none .any, .op 69 (.load none (.t 0)) none .any, .op 70 (.bin .sub (.t 0) (.k (.c (.int .i64 1)))) none .any, .op 71 (.idxSlice 1 (.t 4) (.t 3)) none .any, .eff (.store 1 (.t 0) (.t 1)) none .any] [])
def c63_n12 : SCode := .seq c63_n13 (.seq (.region [.op 8 (.move (.k (.c (.bool true)))) none .any] [0]) .ret)
instance : IsSeq c63_n12 c63_n13 (.seq (.region [.op 8 (.move (.k (.c (.bool true)))) none .any] [0]) .ret) := ⟨rfl⟩
def c63_n11 : SCode := .cond (.t 7) c63_n12 (.pre [0, 1, 2, 3, 4, 5, 6] .skip)
instance : IsCond c63_n11 (.t 7) c63_n12 (.pre [0, 1, 2, 3, 4, 5, 6] .skip) := ⟨rfl⟩
def c63_n9 : SCode := .seq c63_n10 c63_n11
instance : IsSeq c63_n9 c63_n10 c63_n11 := ⟨rfl⟩
def c63_n7 : SCode := .seq c63_n8 c63_n9
instance : IsSeq c63_n7 c63_n8 c63_n9 := ⟨rfl⟩
def c63_n5 : SCode := .seq c63_n6 c63_n7
instance : IsSeq c63_n5 c63_n6 c63_n7 := ⟨rfl⟩
def c63_n3 : SCode := .seq c63_n4 c63_n5
instance : IsSeq c63_n3 c63_n4 c63_n5 := ⟨rfl⟩
def c63_n2 : SCode := .seq (.block 1 [some 0, some 1, some 2, some 3, some 36, some 37, some 38] c63_n3) (.region [.op 72 (.bin .add (.t 6) (.k (.c (.int .i64 1)))) none .any, .op 38 (.move (.t 0)) none .any] [2, 3, 4, 5, 6, 7, 0])
instance : IsSeq c63_n2 (.block 1 [some 0, some 1, some 2, some 3, some 36, some 37, some 38] c63_n3) (.region [.op 72 (.bin .add (.t 6) (.k (.c (.int .i64 1)))) none .any, .op 38 (.move (.t 0)) none .any] [2, 3, 4, 5, 6, 7, 0]) := ⟨rfl⟩
def c63_n1 : SCode := .seq (.cond (.t 7) (.pre [0, 1, 2, 3, 4, 5, 6] .skip) (.pre [] (.exit 0))) c63_n2
instance : IsSeq c63_n1 (.cond (.t 7) (.pre [0, 1, 2, 3, 4, 5, 6] .skip) (.pre [] (.exit 0))) c63_n2 := ⟨rfl⟩
def c63_l0b : SCode := (.seq (.region [.op 39 (.bin .lss (.t 6) (.t 5)) none .any] [1, 2, 3, 4, 5, 6, 7, 0]) c63_n1)
def c63_l0 : SCode := .loop true c63_l0b
@[simp] def c63_n15 : SCode := (.seq (.draw 0 [.op 11 (.move (.t 0)) none .any, .op 12 (.nilCheck (.t 0)) none .any, .op 13 (.fieldAddr 4 (.t 0)) none .any, .op 14 (.load none (.t 0)) none .var, .op 15 (.move (.t 5)) none .any, .op 16 (.idxSlice 1 (.t 1) (.t 0)) none .any, .op 17 (.load none (.t 0)) none .old, .op 18 (.move (.t 7)) none .any, .op 19 (.nilCheck (.t 0)) none .any, .op 20 (.fieldAddr 2 (.t 0)) none .any, .op 21 (.load none (.t 0)) none .var, .op 22 (.move (.t 12)) none .any, .op 23 (.idxSlice 1 (.t 1) (.t 0)) none .any, .op 24 (.load none (.t 0)) none .old, .op 25 (.bin .lss (.t 7) (.t 0)) none .any] [15, 16, 17, 18, 0]) (.cond (.t 4) (.seq (.region [.op 8 (.move (.k (.c (.bool true)))) none .any] [0]) .ret) (.pre [0, 1, 2, 3] .skip)))
@[simp] def c63_n17 : SCode := (.seq (.region [.op 26 (.move (.t 3)) none .any, .op 27 (.move (.t 2)) none .any, .op 28 (.idxSlice 1 (.t 1) (.t 0)) none .any, .op 29 (.load none (.t 0)) none .any] [4, 5, 6, 7, 0]) (.cond (.t 4) (.seq (.region [.op 8 (.move (.k (.c (.bool false)))) none .any] [0]) .ret) (.pre [0, 1, 2, 3] .skip)))
@[simp] def c63_n19 : SCode := (.region [.op 30 (.move (.t 3)) none .any, .op 31 (.move (.t 2)) none .any, .op 32 (.idxSlice 1 (.t 1) (.t 0)) none .any, .eff (.store 1 (.t 0) (.k (.c (.bool true)))) none .any] [3, 4, 5, 6])
@[simp] def c63_n21 : SCode := (.seq (.region [.op 33 (.move (.t 0)) none .any, .op 34 (.nilCheck (.t 0)) none .any, .op 35 (.fieldAddr 3 (.t 0)) none .any, .op 36 (.load none (.t 0)) none .any, .op 37 (.len 1 (.t 0)) none .any, .op 38 (.move (.k (.c (.int .i64 0)))) none .any] [6, 7, 8, 9, 2, 1, 0]) (.block 0 [] c63_l0))
def c63_n20 : SCode := .seq c63_n21 (.seq (.region [.op 8 (.move (.k (.c (.bool false)))) none .any] [0]) .ret)
instance : IsSeq c63_n20 c63_n21 (.seq (.region [.op 8 (.move (.k (.c (.bool false)))) none .any] [0]) .ret) := ⟨rfl⟩
def c63_n18 : SCode := .seq c63_n19 c63_n20
instance : IsSeq c63_n18 c63_n19 c63_n20 := ⟨rfl⟩
def c63_n16 : SCode := .seq c63_n17 c63_n18
instance : IsSeq c63_n16 c63_n17 c63_n18 := ⟨rfl⟩
def c63_n14 : SCode := .seq c63_n15 c63_n16
instance : IsSeq c63_n14 c63_n15 c63_n16 := ⟨rfl⟩
def c63 : SCode := (.seq (.region [.op 8 (.move (.k (.c (.bool false)))) none .any] [1, 2, 3, 4]) c63_n14)
def F63 : SFunc := .code .shared 73 4 [some 8] [.tmp 0] c63

-- slices.Index[[]string,string]
-- c64_l0: env [0, 1, 7, 8]
@[simp] def c64_n4 : SCode := (.region [.op 10 (.move (.t 3)) none .any, .op 5 (.move (.t 0)) none .any] [2, 3, 0, 4, 5])
@[simp] def c64_n6 : SCode := (.region [.op 11 (.move (.t 1)) none .any, .op 12 (.move (.t 1)) none .any, .op 13 (.move (.t 4)) none .any, .op 14 (.idxSlice 1 (.t 1) (.t 0)) none .any, .op 15 (.load none (.t 0)) none .any, .op 16 (.bin .eql (.t 4) (.t 0)) none .any] [6, 7, 8, 9, 10, 0])
def c64_n5 : SCode := .seq c64_n6 (.cond (.t 5) (.seq (.region [.op 17 (.move (.t 2)) none .any, .op 4 (.move (.t 0)) none .any] [0]) .ret) (.pre [0, 1, 3, 4] .skip))
instance : IsSeq c64_n5 c64_n6 (.cond (.t 5) (.seq (.region [.op 17 (.move (.t 2)) none .any, .op 4 (.move (.t 0)) none .any] [0]) .ret) (.pre [0, 1, 3, 4] .skip)) := ⟨rfl⟩
def c64_n3 : SCode := .seq c64_n4 c64_n5
instance : IsSeq c64_n3 c64_n4 c64_n5 := ⟨rfl⟩
def c64_n2 : SCode := .seq (.block 1 [some 0, some 1, some 7, some 8] c64_n3) (.region [.op 18 (.bin .add (.t 3) (.k (.c (.int .i64 1)))) none .any, .op 8 (.move (.t 0)) none .any] [2, 3, 4, 0])
instance : IsSeq c64_n2 (.block 1 [some 0, some 1, some 7, some 8] c64_n3) (.region [.op 18 (.bin .add (.t 3) (.k (.c (.int .i64 1)))) none .any, .op 8 (.move (.t 0)) none .any] [2, 3, 4, 0]) := ⟨rfl⟩
def c64_n1 : SCode := .seq (.cond (.t 4) (.pre [0, 1, 2, 3] .skip) (.pre [] (.exit 0))) c64_n2
instance : IsSeq c64_n1 (.cond (.t 4) (.pre [0, 1, 2, 3] .skip) (.pre [] (.exit 0))) c64_n2 := ⟨rfl⟩
def c64_l0b : SCode := (.seq (.region [.op 9 (.bin .lss (.t 3) (.t 2)) none .any] [1, 2, 3, 4, 0]) c64_n1)
def c64_l0 : SCode := .loop true c64_l0b
def c64 : SCode := (.seq (.region [.op 4 (.move (.k (.c (.int .i64 0)))) none .any] [1, 2]) (.seq (.seq (.region [.op 6 (.move (.t 0)) none .any, .op 7 (.len 1 (.t 0)) none .any, .op 8 (.move (.k (.c (.int .i64 0)))) none .any] [3, 4, 1, 0]) (.block 0 [] c64_l0)) (.seq (.region [.op 4 (.move (.k (.c (.int .i64 (-1))))) none .any] [0]) .ret)))
def F64 : SFunc := .code .pure 19 2 [some 4] [.tmp 0] c64

-- crux/number.isLetter
@[simp] def c65_n2 : SCode := (.region [.op 3 (.move (.t 0)) none .any, .op 4 (.bin .geq (.t 0) (.k (.c (.int .i32 97)))) none .any, .op 5 (.move (.t 0)) none .any, .andN 8 0 [.op 6 (.move (.t 3)) none .any, .op 7 (.bin .leq (.t 0) (.k (.c (.int .i32 122)))) none .any] (.t 0), .op 9 (.move (.t 0)) none .any, .orN 16 0 [.op 10 (.move (.t 5)) none .any, .op 11 (.bin .geq (.t 0) (.k (.c (.int .i32 65)))) none .any, .op 12 (.move (.t 0)) none .any, .andN 15 0 [.op 13 (.move (.t 8)) none .any, .op 14 (.bin .leq (.t 0) (.k (.c (.int .i32 90)))) none .any] (.t 0)] (.t 0), .op 2 (.move (.t 0)) none .any] [0])
def c65_n1 : SCode := .seq c65_n2 .ret
instance : IsSeq c65_n1 c65_n2 .ret := ⟨rfl⟩
def c65 : SCode := (.seq (.region [.op 2 (.move (.k (.c (.bool false)))) none .any] [1]) c65_n1)
def F65 : SFunc := .code .pure 17 1 [some 2] [.tmp 0] c65

-- slices.rotateCmpFunc[string]
-- c66_l0: env [0, 2, 4, 10, 11]
@[simp] def c66_n3 : SCode := (.region [.op 21 (.move (.t 3)) none .any, .op 22 (.move (.t 5)) none .any, .op 23 (.bin .gtr (.t 1) (.t 0)) none .any] [3, 4, 5, 6, 7, 0])
@[simp] def c66_n6 : SCode := (.region [.op 24 (.move (.t 0)) none .any, .op 25 (.move (.t 2)) none .any, .op 26 (.move (.t 5)) none .any, .op 27 (.bin .sub (.t 1) (.t 0)) none .any, .op 28 (.move (.t 5)) none .any, .op 29 (.move (.t 9)) none .any, .op 30 (.move (.t 8)) none .any, .op 31 (.call false (.k (.c (.func 71 [] []))) [(.t 6), (.t 3), (.t 2), (.t 1), (.t 0)]) none .any] [8, 9, 10, 11, 12])
def c66_n5 : SCode := .seq c66_n6 (.region [.op 32 (.move (.t 3)) none .any, .op 33 (.move (.t 5)) none .any, .op 34 (.bin .sub (.t 1) (.t 0)) none .any, .op 10 (.move (.t 0)) none .any] [4, 5, 6, 0, 8])
instance : IsSeq c66_n5 c66_n6 (.region [.op 32 (.move (.t 3)) none .any, .op 33 (.move (.t 5)) none .any, .op 34 (.bin .sub (.t 1) (.t 0)) none .any, .op 10 (.move (.t 0)) none .any] [4, 5, 6, 0, 8]) := ⟨rfl⟩
@[simp] def c66_n8 : SCode := (.region [.op 35 (.move (.t 0)) none .any, .op 36 (.move (.t 2)) none .any, .op 37 (.move (.t 5)) none .any, .op 38 (.bin .sub (.t 1) (.t 0)) none .any, .op 39 (.move (.t 5)) none .any, .op 40 (.move (.t 9)) none .any, .op 41 (.bin .add (.t 1) (.t 0)) none .any, .op 42 (.move (.t 10)) none .any, .op 43 (.bin .sub (.t 1) (.t 0)) none .any, .op 44 (.move (.t 12)) none .any, .op 45 (.move (.t 12)) none .any, .op 46 (.call false (.k (.c (.func 71 [] []))) [(.t 10), (.t 7), (.t 2), (.t 1), (.t 0)]) none .any] [12, 13, 14, 15, 16])
def c66_n7 : SCode := .seq c66_n8 (.region [.op 47 (.move (.t 4)) none .any, .op 48 (.move (.t 4)) none .any, .op 49 (.bin .sub (.t 1) (.t 0)) none .any, .op 11 (.move (.t 0)) none .any] [4, 5, 6, 7, 0])
instance : IsSeq c66_n7 c66_n8 (.region [.op 47 (.move (.t 4)) none .any, .op 48 (.move (.t 4)) none .any, .op 49 (.bin .sub (.t 1) (.t 0)) none .any, .op 11 (.move (.t 0)) none .any] [4, 5, 6, 7, 0]) := ⟨rfl⟩
def c66_n4 : SCode := .cond (.t 5) c66_n5 c66_n7
instance : IsCond c66_n4 (.t 5) c66_n5 c66_n7 := ⟨rfl⟩
def c66_n2 : SCode := .seq c66_n3 c66_n4
instance : IsSeq c66_n2 c66_n3 c66_n4 := ⟨rfl⟩
def c66_n1 : SCode := .block 1 [some 0, some 2, some 4, some 10, some 11] c66_n2
instance : IsBlock c66_n1 1 [some 0, some 2, some 4, some 10, some 11] c66_n2 := ⟨rfl⟩
def c66_l0b : SCode := (.seq (.seq (.region [.op 18 (.move (.t 3)) none .any, .op 19 (.move (.t 5)) none .any, .op 20 (.bin .neq (.t 1) (.t 0)) none .any] [3, 4, 5, 6, 7, 0]) (.cond (.t 5) (.pre [0, 1, 2, 3, 4] .skip) (.pre [0, 1, 2, 3] (.exit 0)))) c66_n1)
def c66_l0 : SCode := .loop true c66_l0b
@[simp] def c66_n10 : SCode := (.region [.op 15 (.move (.t 2)) none .any, .op 16 (.move (.t 2)) none .any, .op 17 (.bin .sub (.t 1) (.t 0)) none .any, .op 11 (.move (.t 0)) none .any] [4, 5, 7, 8, 0])
@[simp] def c66_n12 : SCode := (.region [.op 50 (.move (.t 0)) none .any, .op 51 (.move (.t 2)) none .any, .op 52 (.move (.t 5)) none .any, .op 53 (.bin .sub (.t 1) (.t 0)) none .any, .op 54 (.move (.t 5)) none .any, .op 55 (.move (.t 8)) none .any, .op 56 (.move (.t 8)) none .any, .op 57 (.call false (.k (.c (.func 71 [] []))) [(.t 6), (.t 3), (.t 2), (.t 1), (.t 0)]) none .any] [])
def c66_n11 : SCode := .seq (.block 0 [some 0, some 2, some 4, some 10] c66_l0) c66_n12
instance : IsSeq c66_n11 (.block 0 [some 0, some 2, some 4, some 10] c66_l0) c66_n12 := ⟨rfl⟩
def c66_n9 : SCode := .seq c66_n10 c66_n11
instance : IsSeq c66_n9 c66_n10 c66_n11 := ⟨rfl⟩
def c66 : SCode := (.seq (.region [.op 12 (.move (.t 2)) none .any, .op 13 (.move (.t 2)) none .any, .op 14 (.bin .sub (.t 1) (.t 0)) none .any, .op 10 (.move (.t 0)) none .any] [4, 6, 7, 8, 0]) c66_n9)
def F66 : SFunc := .code .shared 58 5 [] [] c66

-- slices.IndexFunc[[]crux/member.Official,crux/member.Official]
-- c67_l0: env [0, 1, 7, 8]
@[simp] def c67_n4 : SCode := (.region [.op 10 (.move (.t 3)) none .any, .op 5 (.move (.t 0)) none .any] [2, 3, 0, 4, 5])
@[simp] def c67_n6 : SCode := (.region [.op 11 (.move (.t 1)) none .any, .op 12 (.move (.t 1)) none .any, .op 13 (.move (.t 4)) none .any, .op 14 (.idxSlice 4 (.t 1) (.t 0)) none .any, .op 15 (.load (some 4) (.t 0)) none .any, .op 16 (.call false (.t 4) [(.t 0)]) none .any] [6, 7, 8, 9, 10, 0])
def c67_n5 : SCode := .seq c67_n6 (.cond (.t 5) (.seq (.region [.op 17 (.move (.t 2)) none .any, .op 4 (.move (.t 0)) none .any] [0]) .ret) (.pre [0, 1, 3, 4] .skip))
instance : IsSeq c67_n5 c67_n6 (.cond (.t 5) (.seq (.region [.op 17 (.move (.t 2)) none .any, .op 4 (.move (.t 0)) none .any] [0]) .ret) (.pre [0, 1, 3, 4] .skip)) := ⟨rfl⟩
def c67_n3 : SCode := .seq c67_n4 c67_n5
instance : IsSeq c67_n3 c67_n4 c67_n5 := ⟨rfl⟩
def c67_n2 : SCode := .seq (.block 1 [some 0, some 1, some 7, some 8] c67_n3) (.region [.op 18 (.bin .add (.t 3) (.k (.c (.int .i64 1)))) none .any, .op 8 (.move (.t 0)) none .any] [2, 3, 4, 0])
instance : IsSeq c67_n2 (.block 1 [some 0, some 1, some 7, some 8] c67_n3) (.region [.op 18 (.bin .add (.t 3) (.k (.c (.int .i64 1)))) none .any, .op 8 (.move (.t 0)) none .any] [2, 3, 4, 0]) := ⟨rfl⟩
def c67_n1 : SCode := .seq (.cond (.t 4) (.pre [0, 1, 2, 3] .skip) (.pre [] (.exit 0))) c67_n2
instance : IsSeq c67_n1 (.cond (.t 4) (.pre [0, 1, 2, 3] .skip) (.pre [] (.exit 0))) c67_n2 := ⟨rfl⟩
def c67_l0b : SCode := (.seq (.region [.op 9 (.bin .lss (.t 3) (.t 2)) none .any] [1, 2, 3, 4, 0]) c67_n1)
def c67_l0 : SCode := .loop true c67_l0b
def c67 : SCode := (.seq (.region [.op 4 (.move (.k (.c (.int .i64 0)))) none .any] [1, 2]) (.seq (.seq (.region [.op 6 (.move (.t 0)) none .any, .op 7 (.len 1 (.t 0)) none .any, .op 8 (.move (.k (.c (.int .i64 0)))) none .any] [3, 4, 1, 0]) (.block 0 [] c67_l0)) (.seq (.region [.op 4 (.move (.k (.c (.int .i64 (-1))))) none .any] [0]) .ret)))
def F67 : SFunc := .code .pure 19 2 [some 4] [.tmp 0] c67

-- slices.IndexFunc[[]crux/member.Post,crux/member.Post]
-- c68_l0: env [0, 1, 7, 8]
@[simp] def c68_n4 : SCode := (.region [.op 10 (.move (.t 3)) none .any, .op 5 (.move (.t 0)) none .any] [2, 3, 0, 4, 5])
@[simp] def c68_n6 : SCode := (.region [.op 11 (.move (.t 1)) none .any, .op 12 (.move (.t 1)) none .any, .op 13 (.move (.t 4)) none .any, .op 14 (.idxSlice 4 (.t 1) (.t 0)) none .any, .op 15 (.load (some 4) (.t 0)) none .any, .op 16 (.call false (.t 4) [(.t 0)]) none .any] [6, 7, 8, 9, 10, 0])
def c68_n5 : SCode := .seq c68_n6 (.cond (.t 5) (.seq (.region [.op 17 (.move (.t 2)) none .any, .op 4 (.move (.t 0)) none .any] [0]) .ret) (.pre [0, 1, 3, 4] .skip))
instance : IsSeq c68_n5 c68_n6 (.cond (.t 5) (.seq (.region [.op 17 (.move (.t 2)) none .any, .op 4 (.move (.t 0)) none .any] [0]) .ret) (.pre [0, 1, 3, 4] .skip)) := ⟨rfl⟩
def c68_n3 : SCode := .seq c68_n4 c68_n5
instance : IsSeq c68_n3 c68_n4 c68_n5 := ⟨rfl⟩
def c68_n2 : SCode := .seq (.block 1 [some 0, some 1, some 7, some 8] c68_n3) (.region [.op 18 (.bin .add (.t 3) (.k (.c (.int .i64 1)))) none .any, .op 8 (.move (.t 0)) none .any] [2, 3, 4, 0])
instance : IsSeq c68_n2 (.block 1 [some 0, some 1, some 7, some 8] c68_n3) (.region [.op 18 (.bin .add (.t 3) (.k (.c (.int .i64 1)))) none .any, .op 8 (.move (.t 0)) none .any] [2, 3, 4, 0]) := ⟨rfl⟩
def c68_n1 : SCode := .seq (.cond (.t 4) (.pre [0, 1, 2, 3] .skip) (.pre [] (.exit 0))) c68_n2
instance : IsSeq c68_n1 (.cond (.t 4) (.pre [0, 1, 2, 3] .skip) (.pre [] (.exit 0))) c68_n2 := ⟨rfl⟩
def c68_l0b : SCode := (.seq (.region [.op 9 (.bin .lss (.t 3) (.t 2)) none .any] [1, 2, 3, 4, 0]) c68_n1)
def c68_l0 : SCode := .loop true c68_l0b
def c68 : SCode := (.seq (.region [.op 4 (.move (.k (.c (.int .i64 0)))) none .any] [1, 2]) (.seq (.seq (.region [.op 6 (.move (.t 0)) none .any, .op 7 (.len 1 (.t 0)) none .any, .op 8 (.move (.k (.c (.int .i64 0)))) none .any] [3, 4, 1, 0]) (.block 0 [] c68_l0)) (.seq (.region [.op 4 (.move (.k (.c (.int .i64 (-1))))) none .any] [0]) .ret)))
def F68 : SFunc := .code .pure 19 2 [some 4] [.tmp 0] c68

-- math/bits.Mul32
@[simp] def c69_n2 : SCode := (.region [.op 7 (.move (.t 0)) none .any, .op 8 (.conv .u64 (.t 0)) none .any, .op 9 (.move (.t 3)) none .any, .op 10 (.conv .u64 (.t 0)) none .any, .op 11 (.bin .mul (.t 2) (.t 0)) none .any, .op 6 (.move (.t 0)) none .any] [0])
def c69_n1 : SCode := .seq c69_n2 (.seq (.region [.op 12 (.move (.t 0)) none .any, .op 13 (.bin .shr (.t 0) (.k (.c (.int .u64 32)))) none .any, .op 14 (.conv .u32 (.t 0)) none .any, .op 15 (.move (.t 3)) none .any, .op 16 (.conv .u32 (.t 0)) none .any, .op 4 (.move (.t 2)) none .any, .op 5 (.move (.t 1)) none .any] [1, 0]) .ret)
instance : IsSeq c69_n1 c69_n2 (.seq (.region [.op 12 (.move (.t 0)) none .any, .op 13 (.bin .shr (.t 0) (.k (.c (.int .u64 32)))) none .any, .op 14 (.conv .u32 (.t 0)) none .any, .op 15 (.move (.t 3)) none .any, .op 16 (.conv .u32 (.t 0)) none .any, .op 4 (.move (.t 2)) none .any, .op 5 (.move (.t 1)) none .any] [1, 0]) .ret) := ⟨rfl⟩
def c69 : SCode := (.seq (.region [.op 4 (.move (.k (.c (.int .u32 0)))) none .any, .op 5 (.move (.k (.c (.int .u32 0)))) none .any] [2, 3]) c69_n1)
def F69 : SFunc := .code .pure 17 2 [some 4, some 5] [.tmp 0, .tmp 1] c69

-- math/bits.Mul64
@[simp] def c70_n2 : SCode := (.region [.op 14 (.move (.t 0)) none .any, .op 15 (.bin .and (.t 0) (.k (.c (.int .u64 4294967295)))) none .any, .op 6 (.move (.t 0)) none .any] [3, 4, 0])
@[simp] def c70_n4 : SCode := (.region [.op 16 (.move (.t 0)) none .any, .op 17 (.bin .shr (.t 0) (.k (.c (.int .u64 32)))) none .any, .op 7 (.move (.t 0)) none .any] [3, 4, 5, 0])
@[simp] def c70_n6 : SCode := (.region [.op 18 (.move (.t 1)) none .any, .op 19 (.bin .and (.t 0) (.k (.c (.int .u64 4294967295)))) none .any, .op 8 (.move (.t 0)) none .any] [3, 4, 5, 6, 0])
@[simp] def c70_n8 : SCode := (.region [.op 20 (.move (.t 1)) none .any, .op 21 (.bin .shr (.t 0) (.k (.c (.int .u64 32)))) none .any, .op 9 (.move (.t 0)) none .any] [3, 4, 5, 6, 7, 0])
@[simp] def c70_n10 : SCode := (.region [.op 22 (.move (.t 2)) none .any, .op 23 (.move (.t 5)) none .any, .op 24 (.bin .mul (.t 1) (.t 0)) none .any, .op 10 (.move (.t 0)) none .any] [4, 5, 6, 7, 8, 9, 0])
@[simp] def c70_n12 : SCode := (.region [.op 25 (.move (.t 3)) none .any, .op 26 (.move (.t 5)) none .any, .op 27 (.bin .mul (.t 1) (.t 0)) none .any, .op 28 (.move (.t 9)) none .any, .op 29 (.bin .shr (.t 0) (.k (.c (.int .u64 32)))) none .any, .op 30 (.bin .add (.t 2) (.t 0)) none .any, .op 11 (.move (.t 0)) none .any] [7, 8, 9, 10, 12, 0])
@[simp] def c70_n14 : SCode := (.region [.op 31 (.move (.t 5)) none .any, .op 32 (.bin .and (.t 0) (.k (.c (.int .u64 4294967295)))) none .any, .op 12 (.move (.t 0)) none .any] [3, 4, 5, 6, 7, 8, 0])
@[simp] def c70_n16 : SCode := (.region [.op 33 (.move (.t 5)) none .any, .op 34 (.bin .shr (.t 0) (.k (.c (.int .u64 32)))) none .any, .op 13 (.move (.t 0)) none .any] [3, 4, 5, 6, 7, 9, 0])
@[simp] def c70_n18 : SCode := (.region [.op 35 (.move (.t 5)) none .any, .op 36 (.move (.t 3)) none .any, .op 37 (.move (.t 6)) none .any, .op 38 (.bin .mul (.t 1) (.t 0)) none .any, .op 39 (.bin .add (.t 3) (.t 0)) none .any, .op 12 (.move (.t 0)) none .any] [6, 7, 9, 10, 0, 12])
@[simp] def c70_n20 : SCode := (.region [.op 40 (.move (.t 2)) none .any, .op 41 (.move (.t 4)) none .any, .op 42 (.bin .mul (.t 1) (.t 0)) none .any, .op 43 (.move (.t 8)) none .any, .op 44 (.bin .add (.t 1) (.t 0)) none .any, .op 45 (.move (.t 9)) none .any, .op 46 (.bin .shr (.t 0) (.k (.c (.int .u64 32)))) none .any, .op 47 (.bin .add (.t 2) (.t 0)) none .any, .op 4 (.move (.t 0)) none .any] [9, 10, 0])
def c70_n19 : SCode := .seq c70_n20 (.seq (.region [.op 48 (.move (.t 0)) none .any, .op 49 (.move (.t 2)) none .any, .op 50 (.bin .mul (.t 1) (.t 0)) none .any, .op 5 (.move (.t 0)) none .any] [6, 0]) .ret)
instance : IsSeq c70_n19 c70_n20 (.seq (.region [.op 48 (.move (.t 0)) none .any, .op 49 (.move (.t 2)) none .any, .op 50 (.bin .mul (.t 1) (.t 0)) none .any, .op 5 (.move (.t 0)) none .any] [6, 0]) .ret) := ⟨rfl⟩
def c70_n17 : SCode := .seq c70_n18 c70_n19
instance : IsSeq c70_n17 c70_n18 c70_n19 := ⟨rfl⟩
def c70_n15 : SCode := .seq c70_n16 c70_n17
instance : IsSeq c70_n15 c70_n16 c70_n17 := ⟨rfl⟩
def c70_n13 : SCode := .seq c70_n14 c70_n15
instance : IsSeq c70_n13 c70_n14 c70_n15 := ⟨rfl⟩
def c70_n11 : SCode := .seq c70_n12 c70_n13
instance : IsSeq c70_n11 c70_n12 c70_n13 := ⟨rfl⟩
def c70_n9 : SCode := .seq c70_n10 c70_n11
instance : IsSeq c70_n9 c70_n10 c70_n11 := ⟨rfl⟩
def c70_n7 : SCode := .seq c70_n8 c70_n9
instance : IsSeq c70_n7 c70_n8 c70_n9 := ⟨rfl⟩
def c70_n5 : SCode := .seq c70_n6 c70_n7
instance : IsSeq c70_n5 c70_n6 c70_n7 := ⟨rfl⟩
def c70_n3 : SCode := .seq c70_n4 c70_n5
instance : IsSeq c70_n3 c70_n4 c70_n5 := ⟨rfl⟩
def c70_n1 : SCode := .seq c70_n2 c70_n3
instance : IsSeq c70_n1 c70_n2 c70_n3 := ⟨rfl⟩
def c70 : SCode := (.seq (.region [.op 4 (.move (.k (.c (.int .u64 0)))) none .any, .op 5 (.move (.k (.c (.int .u64 0)))) none .any] [2, 3]) c70_n1)
def F70 : SFunc := .code .pure 51 2 [some 4, some 5] [.tmp 0, .tmp 1] c70

-- slices.swapRangeCmpFunc[string]
-- c71_l0: env [0, 1, 2, 3, 10]
@[simp] def c71_n2 : SCode := (.draw 0 [.op 16 (.move (.t 0)) none .any, .op 17 (.move (.t 2)) none .any, .op 18 (.move (.t 6)) none .any, .op 19 (.bin .add (.t 1) (.t 0)) none .any, .op 20 (.move (.t 4)) none .any, .op 21 (.move (.t 7)) none .any, .op 22 (.move (.t 10)) none .any, .op 23 (.bin .add (.t 1) (.t 0)) none .any, .op 24 (.move (.t 8)) none .any, .op 25 (.move (.t 11)) none .any, .op 26 (.move (.t 14)) none .any, .op 27 (.bin .add (.t 1) (.t 0)) none .any, .op 28 (.idxSlice 1 (.t 3) (.t 0)) none .any, .op 29 (.load none (.t 0)) none .old, .op 30 (.move (.t 14)) none .any, .op 31 (.move (.t 16)) none .any, .op 32 (.move (.t 20)) none .any, .op 33 (.bin .add (.t 1) (.t 0)) none .any, .op 34 (.idxSlice 1 (.t 3) (.t 0)) none .any, .op 35 (.load none (.t 0)) none .old, .op 36 (.idxSlice 1 (.t 19) (.t 16)) none .any, .eff (.store 1 (.t 0) (.t 7)) none .old, .op 37 (.idxSlice 1 (.t 16) (.t 13)) none .any, .eff (.store 1 (.t 0) (.t 2)) none .old] [22, 23, 24, 25, 26])
def c71_n1 : SCode := .seq (.block 1 [some 0, some 1, some 2, some 3, some 10] c71_n2) (.region [.op 14 (.move (.t 4)) none .any, .op 15 (.bin .add (.t 0) (.k (.c (.int .i64 1)))) none .any, .op 10 (.move (.t 0)) none .any] [3, 4, 5, 6, 0])
instance : IsSeq c71_n1 (.block 1 [some 0, some 1, some 2, some 3, some 10] c71_n2) (.region [.op 14 (.move (.t 4)) none .any, .op 15 (.bin .add (.t 0) (.k (.c (.int .i64 1)))) none .any, .op 10 (.move (.t 0)) none .any] [3, 4, 5, 6, 0]) := ⟨rfl⟩
def c71_l0b : SCode := (.seq (.seq (.region [.op 11 (.move (.t 4)) none .any, .op 12 (.move (.t 4)) none .any, .op 13 (.bin .lss (.t 1) (.t 0)) none .any] [3, 4, 5, 6, 7, 0]) (.cond (.t 5) (.pre [0, 1, 2, 3, 4] .skip) (.pre [] (.exit 0)))) c71_n1)
def c71_l0 : SCode := .loop true c71_l0b
def c71 : SCode := (.seq (.region [.op 10 (.move (.k (.c (.int .i64 0)))) none .any] [1, 2, 3, 4, 0]) (.block 0 [] c71_l0))
def F71 : SFunc := .code .shared 38 5 [] [] c71

end LM.GT

namespace LM.GT
open Go LM
def table0 : List (Nat × SFunc) := [(3, F3), (4, F4), (5, F5), (6, F6), (7, F7), (8, F8), (10, F10), (11, F11), (12, F12), (13, F13), (14, F14), (15, F15), (16, F16), (17, F17), (18, F18), (19, F19), (20, F20), (21, F21), (22, F22), (23, F23), (24, F24), (25, F25), (26, F26), (27, F27), (28, F28), (29, F29), (30, F30), (31, F31), (32, F32), (33, F33), (34, F34), (35, F35), (36, F36), (37, F37), (38, F38), (39, F39), (40, F40), (41, F41), (42, F42), (43, F43), (44, F44), (45, F45), (46, F46), (47, F47), (48, F48), (49, F49), (50, F50), (51, F51), (52, F52), (53, F53), (54, F54), (55, F55), (56, F56), (57, F57), (58, F58), (59, F59), (60, F60), (61, F61), (62, F62), (63, F63), (64, F64), (65, F65), (66, F66), (67, F67), (68, F68), (69, F69), (70, F70), (71, F71)]
/-- A program with these functions. -/
class Has (P : Nat → Option SFunc) : Prop where
  h : ∀ f F, lookupPrim f table0 = some F → P f = some F
variable {P : Nat → Option SFunc} [Has P]
theorem p3 : P 3 = some F3 := Has.h 3 F3 rfl
theorem u3 (args : List CV) : fn P 3 args = resK [.tmp 0] (execS P (limS P) c3 ⟨args.map .c, []⟩) := fn_code p3 args
@[simp] theorem call3 (pos : Option Nat) (q : Bool) (args : List LV) (h : Heap) : callS P (limS P) pos q 3 args h = bnd (frzArgs q args h) fun a => bnd (fn P 3 a.1) fun v => some (.c v, if scalarC v then h else a.2) := callS_pure p3 pos q args h
theorem r3_l0 (s : St) : execS P (limS P) c3_l0 s = seqK (execS P (limS P) c3_l0b s) fun s' => execS P (limS P) c3_l0 (gc s.heap.length s') := execS_loop true c3_l0b s
theorem r3_l1 (s : St) : execS P (limS P) c3_l1 s = seqK (execS P (limS P) c3_l1b s) fun s' => execS P (limS P) c3_l1 (gc s.heap.length s') := execS_loop true c3_l1b s
theorem r3_l2 (s : St) : execS P (limS P) c3_l2 s = seqK (execS P (limS P) c3_l2b s) fun s' => execS P (limS P) c3_l2 (gc s.heap.length s') := execS_loop true c3_l2b s
theorem r3_l3 (s : St) : execS P (limS P) c3_l3 s = seqK (execS P (limS P) c3_l3b s) fun s' => execS P (limS P) c3_l3 (gc s.heap.length s') := execS_loop true c3_l3b s
theorem p4 : P 4 = some F4 := Has.h 4 F4 rfl
theorem u4 (args : List CV) : fn P 4 args = resK [.tmp 0] (execS P (limS P) c4 ⟨args.map .c, []⟩) := fn_code p4 args
@[simp] theorem call4 (pos : Option Nat) (q : Bool) (args : List LV) (h : Heap) : callS P (limS P) pos q 4 args h = bnd (frzArgs q args h) fun a => bnd (fn P 4 a.1) fun v => some (.c v, if scalarC v then h else a.2) := callS_pure p4 pos q args h
theorem r4_l0 (s : St) : execS P (limS P) c4_l0 s = seqK (execS P (limS P) c4_l0b s) fun s' => execS P (limS P) c4_l0 (gc s.heap.length s') := execS_loop true c4_l0b s
theorem p5 : P 5 = some F5 := Has.h 5 F5 rfl
theorem u5 (args : List CV) : fn P 5 args = resK [.tmp 0] (execS P (limS P) c5 ⟨args.map .c, []⟩) := fn_code p5 args
@[simp] theorem call5 (pos : Option Nat) (q : Bool) (args : List LV) (h : Heap) : callS P (limS P) pos q 5 args h = bnd (frzArgs q args h) fun a => bnd (fn P 5 a.1) fun v => some (.c v, if scalarC v then h else a.2) := callS_pure p5 pos q args h
theorem r5_l0 (s : St) : execS P (limS P) c5_l0 s = seqK (execS P (limS P) c5_l0b s) fun s' => execS P (limS P) c5_l0 (gc s.heap.length s') := execS_loop true c5_l0b s
theorem p6 : P 6 = some F6 := Has.h 6 F6 rfl
theorem u6 (args : List CV) : fn P 6 args = resK [.tmp 0] (execS P (limS P) c6 ⟨args.map .c, []⟩) := fn_code p6 args
@[simp] theorem call6 (pos : Option Nat) (q : Bool) (args : List LV) (h : Heap) : callS P (limS P) pos q 6 args h = bnd (frzArgs q args h) fun a => bnd (fn P 6 a.1) fun v => some (.c v, if scalarC v then h else a.2) := callS_pure p6 pos q args h
theorem p7 : P 7 = some F7 := Has.h 7 F7 rfl
theorem u7 (args : List CV) : fn P 7 args = resK [.tmp 0] (execS P (limS P) c7 ⟨args.map .c, []⟩) := fn_code p7 args
@[simp] theorem call7 (pos : Option Nat) (q : Bool) (args : List LV) (h : Heap) : callS P (limS P) pos q 7 args h = bnd (frzArgs q args h) fun a => bnd (fn P 7 a.1) fun v => some (.c v, if scalarC v then h else a.2) := callS_pure p7 pos q args h
theorem r7_l0 (s : St) : execS P (limS P) c7_l0 s = seqK (execS P (limS P) c7_l0b s) fun s' => execS P (limS P) c7_l0 (gc s.heap.length s') := execS_loop true c7_l0b s
theorem p8 : P 8 = some F8 := Has.h 8 F8 rfl
theorem u8 (args : List CV) : fn P 8 args = resK [.tmp 0] (execS P (limS P) c8 ⟨args.map .c, []⟩) := fn_code p8 args
@[simp] theorem call8 (pos : Option Nat) (q : Bool) (args : List LV) (h : Heap) : callS P (limS P) pos q 8 args h = bnd (frzArgs q args h) fun a => bnd (fn P 8 a.1) fun v => some (.c v, if scalarC v then h else a.2) := callS_pure p8 pos q args h
theorem p10 : P 10 = some F10 := Has.h 10 F10 rfl
theorem u10 (args : List CV) : ffn P 10 args = resF [.tmp 0, .tmp 1] (execS P (limS P) c10 ⟨args.map .c, []⟩) := ffn_code p10 args
@[simp] theorem call10 (pos : Option Nat) (q : Bool) (args : List LV) (h : Heap) : callS P (limS P) pos q 10 args h = if q && pos.isNone then none else bnd (frzArgs q args h) fun a => bnd (ffn P 10 a.1) fun v => importB pos 2 v.1 v.2 a.2 := callS_fresh p10 pos q args h
theorem r10_l0 (s : St) : execS P (limS P) c10_l0 s = seqK (execS P (limS P) c10_l0b s) fun s' => execS P (limS P) c10_l0 (gc s.heap.length s') := execS_loop true c10_l0b s
theorem r10_l1 (s : St) : execS P (limS P) c10_l1 s = seqK (execS P (limS P) c10_l1b s) fun s' => execS P (limS P) c10_l1 (gc s.heap.length s') := execS_loop true c10_l1b s
theorem p11 : P 11 = some F11 := Has.h 11 F11 rfl
theorem u11 (args : List CV) : fn P 11 args = resK [.tmp 0, .tmp 1] (execS P (limS P) c11 ⟨args.map .c, []⟩) := fn_code p11 args
@[simp] theorem call11 (pos : Option Nat) (q : Bool) (args : List LV) (h : Heap) : callS P (limS P) pos q 11 args h = bnd (frzArgs q args h) fun a => bnd (fn P 11 a.1) fun v => some (.c v, if scalarC v then h else a.2) := callS_pure p11 pos q args h
theorem r11_l0 (s : St) : execS P (limS P) c11_l0 s = seqK (execS P (limS P) c11_l0b s) fun s' => execS P (limS P) c11_l0 (gc s.heap.length s') := execS_loop true c11_l0b s
theorem p12 : P 12 = some F12 := Has.h 12 F12 rfl
theorem u12 (args : List CV) : fn P 12 args = resK [.tmp 0] (execS P (limS P) c12 ⟨args.map .c, []⟩) := fn_code p12 args
@[simp] theorem call12 (pos : Option Nat) (q : Bool) (args : List LV) (h : Heap) : callS P (limS P) pos q 12 args h = bnd (frzArgs q args h) fun a => bnd (fn P 12 a.1) fun v => some (.c v, if scalarC v then h else a.2) := callS_pure p12 pos q args h
theorem r12_l0 (s : St) : execS P (limS P) c12_l0 s = seqK (execS P (limS P) c12_l0b s) fun s' => execS P (limS P) c12_l0 (gc s.heap.length s') := execS_loop true c12_l0b s
theorem p13 : P 13 = some F13 := Has.h 13 F13 rfl
theorem u13 (args : List CV) : fn P 13 args = resK [.tmp 0] (execS P (limS P) c13 ⟨args.map .c, []⟩) := fn_code p13 args
@[simp] theorem call13 (pos : Option Nat) (q : Bool) (args : List LV) (h : Heap) : callS P (limS P) pos q 13 args h = bnd (frzArgs q args h) fun a => bnd (fn P 13 a.1) fun v => some (.c v, if scalarC v then h else a.2) := callS_pure p13 pos q args h
theorem r13_l0 (s : St) : execS P (limS P) c13_l0 s = seqK (execS P (limS P) c13_l0b s) fun s' => execS P (limS P) c13_l0 (gc s.heap.length s') := execS_loop true c13_l0b s
theorem p14 : P 14 = some F14 := Has.h 14 F14 rfl
theorem u14 (args : List CV) : fn P 14 args = resK [.tmp 0] (execS P (limS P) c14 ⟨args.map .c, []⟩) := fn_code p14 args
@[simp] theorem call14 (pos : Option Nat) (q : Bool) (args : List LV) (h : Heap) : callS P (limS P) pos q 14 args h = bnd (frzArgs q args h) fun a => bnd (fn P 14 a.1) fun v => some (.c v, if scalarC v then h else a.2) := callS_pure p14 pos q args h
theorem r14_l0 (s : St) : execS P (limS P) c14_l0 s = seqK (execS P (limS P) c14_l0b s) fun s' => execS P (limS P) c14_l0 (gc s.heap.length s') := execS_loop true c14_l0b s
theorem p15 : P 15 = some F15 := Has.h 15 F15 rfl
theorem u15 (args : List CV) : fn P 15 args = resK [.tmp 0] (execS P (limS P) c15 ⟨args.map .c, []⟩) := fn_code p15 args
@[simp] theorem call15 (pos : Option Nat) (q : Bool) (args : List LV) (h : Heap) : callS P (limS P) pos q 15 args h = bnd (frzArgs q args h) fun a => bnd (fn P 15 a.1) fun v => some (.c v, if scalarC v then h else a.2) := callS_pure p15 pos q args h
theorem r15_l0 (s : St) : execS P (limS P) c15_l0 s = seqK (execS P (limS P) c15_l0b s) fun s' => execS P (limS P) c15_l0 (gc s.heap.length s') := execS_loop true c15_l0b s
theorem p16 : P 16 = some F16 := Has.h 16 F16 rfl
theorem u16 (args : List CV) : fn P 16 args = resK [.tmp 0] (execS P (limS P) c16 ⟨args.map .c, []⟩) := fn_code p16 args
@[simp] theorem call16 (pos : Option Nat) (q : Bool) (args : List LV) (h : Heap) : callS P (limS P) pos q 16 args h = bnd (frzArgs q args h) fun a => bnd (fn P 16 a.1) fun v => some (.c v, if scalarC v then h else a.2) := callS_pure p16 pos q args h
theorem r16_l0 (s : St) : execS P (limS P) c16_l0 s = seqK (execS P (limS P) c16_l0b s) fun s' => execS P (limS P) c16_l0 (gc s.heap.length s') := execS_loop true c16_l0b s
theorem p17 : P 17 = some F17 := Has.h 17 F17 rfl
theorem u17 (args : List CV) : fn P 17 args = resK [.tmp 0] (execS P (limS P) c17 ⟨args.map .c, []⟩) := fn_code p17 args
@[simp] theorem call17 (pos : Option Nat) (q : Bool) (args : List LV) (h : Heap) : callS P (limS P) pos q 17 args h = bnd (frzArgs q args h) fun a => bnd (fn P 17 a.1) fun v => some (.c v, if scalarC v then h else a.2) := callS_pure p17 pos q args h
theorem p18 : P 18 = some F18 := Has.h 18 F18 rfl
theorem u18 (args : List CV) : fn P 18 args = resK [.tmp 0] (execS P (limS P) c18 ⟨args.map .c, []⟩) := fn_code p18 args
@[simp] theorem call18 (pos : Option Nat) (q : Bool) (args : List LV) (h : Heap) : callS P (limS P) pos q 18 args h = bnd (frzArgs q args h) fun a => bnd (fn P 18 a.1) fun v => some (.c v, if scalarC v then h else a.2) := callS_pure p18 pos q args h
theorem p19 : P 19 = some F19 := Has.h 19 F19 rfl
theorem u19 (args : List CV) : fn P 19 args = resK [.tmp 0, .tmp 1] (execS P (limS P) c19 ⟨args.map .c, []⟩) := fn_code p19 args
@[simp] theorem call19 (pos : Option Nat) (q : Bool) (args : List LV) (h : Heap) : callS P (limS P) pos q 19 args h = bnd (frzArgs q args h) fun a => bnd (fn P 19 a.1) fun v => some (.c v, if scalarC v then h else a.2) := callS_pure p19 pos q args h
theorem p20 : P 20 = some F20 := Has.h 20 F20 rfl
theorem u20 (args : List CV) : fn P 20 args = resK [.cell 0 (some 2)] (execS P (limS P) c20 ⟨args.map .c, []⟩) := fn_code p20 args
@[simp] theorem call20 (pos : Option Nat) (q : Bool) (args : List LV) (h : Heap) : callS P (limS P) pos q 20 args h = bnd (frzArgs q args h) fun a => bnd (fn P 20 a.1) fun v => some (.c v, if scalarC v then h else a.2) := callS_pure p20 pos q args h
theorem p21 : P 21 = some F21 := Has.h 21 F21 rfl
theorem u21 (args : List CV) : fn P 21 args = resK [.tmp 0] (execS P (limS P) c21 ⟨args.map .c, []⟩) := fn_code p21 args
@[simp] theorem call21 (pos : Option Nat) (q : Bool) (args : List LV) (h : Heap) : callS P (limS P) pos q 21 args h = bnd (frzArgs q args h) fun a => bnd (fn P 21 a.1) fun v => some (.c v, if scalarC v then h else a.2) := callS_pure p21 pos q args h
theorem r21_l0 (s : St) : execS P (limS P) c21_l0 s = seqK (execS P (limS P) c21_l0b s) fun s' => execS P (limS P) c21_l0 (gc s.heap.length s') := execS_loop true c21_l0b s
theorem p22 : P 22 = some F22 := Has.h 22 F22 rfl
theorem u22 (args : List CV) : fn P 22 args = resK [.tmp 0] (execS P (limS P) c22 ⟨args.map .c, []⟩) := fn_code p22 args
@[simp] theorem call22 (pos : Option Nat) (q : Bool) (args : List LV) (h : Heap) : callS P (limS P) pos q 22 args h = bnd (frzArgs q args h) fun a => bnd (fn P 22 a.1) fun v => some (.c v, if scalarC v then h else a.2) := callS_pure p22 pos q args h
theorem r22_l0 (s : St) : execS P (limS P) c22_l0 s = seqK (execS P (limS P) c22_l0b s) fun s' => execS P (limS P) c22_l0 (gc s.heap.length s') := execS_loop true c22_l0b s
theorem p23 : P 23 = some F23 := Has.h 23 F23 rfl
theorem u23 (args : List CV) : fn P 23 args = resK [.tmp 0] (execS P (limS P) c23 ⟨args.map .c, []⟩) := fn_code p23 args
@[simp] theorem call23 (pos : Option Nat) (q : Bool) (args : List LV) (h : Heap) : callS P (limS P) pos q 23 args h = bnd (frzArgs q args h) fun a => bnd (fn P 23 a.1) fun v => some (.c v, if scalarC v then h else a.2) := callS_pure p23 pos q args h
theorem p24 : P 24 = some F24 := Has.h 24 F24 rfl
theorem u24 (args : List CV) : fn P 24 args = resK [.tmp 0] (execS P (limS P) c24 ⟨args.map .c, []⟩) := fn_code p24 args
@[simp] theorem call24 (pos : Option Nat) (q : Bool) (args : List LV) (h : Heap) : callS P (limS P) pos q 24 args h = bnd (frzArgs q args h) fun a => bnd (fn P 24 a.1) fun v => some (.c v, if scalarC v then h else a.2) := callS_pure p24 pos q args h
theorem p25 : P 25 = some F25 := Has.h 25 F25 rfl
theorem u25 (args : List CV) : fn P 25 args = resK [.tmp 0] (execS P (limS P) c25 ⟨args.map .c, []⟩) := fn_code p25 args
@[simp] theorem call25 (pos : Option Nat) (q : Bool) (args : List LV) (h : Heap) : callS P (limS P) pos q 25 args h = bnd (frzArgs q args h) fun a => bnd (fn P 25 a.1) fun v => some (.c v, if scalarC v then h else a.2) := callS_pure p25 pos q args h
theorem p26 : P 26 = some F26 := Has.h 26 F26 rfl
theorem u26 (args : List CV) : fn P 26 args = resK [.tmp 0] (execS P (limS P) c26 ⟨args.map .c, []⟩) := fn_code p26 args
@[simp] theorem call26 (pos : Option Nat) (q : Bool) (args : List LV) (h : Heap) : callS P (limS P) pos q 26 args h = bnd (frzArgs q args h) fun a => bnd (fn P 26 a.1) fun v => some (.c v, if scalarC v then h else a.2) := callS_pure p26 pos q args h
theorem p27 : P 27 = some F27 := Has.h 27 F27 rfl
theorem u27 (args : List CV) : fn P 27 args = resK [.tmp 0] (execS P (limS P) c27 ⟨args.map .c, []⟩) := fn_code p27 args
@[simp] theorem call27 (pos : Option Nat) (q : Bool) (args : List LV) (h : Heap) : callS P (limS P) pos q 27 args h = bnd (frzArgs q args h) fun a => bnd (fn P 27 a.1) fun v => some (.c v, if scalarC v then h else a.2) := callS_pure p27 pos q args h
theorem r27_l0 (s : St) : execS P (limS P) c27_l0 s = seqK (execS P (limS P) c27_l0b s) fun s' => execS P (limS P) c27_l0 (gc s.heap.length s') := execS_loop true c27_l0b s
theorem p28 : P 28 = some F28 := Has.h 28 F28 rfl
theorem u28 (args : List CV) : fn P 28 args = resK [.tmp 0] (execS P (limS P) c28 ⟨args.map .c, []⟩) := fn_code p28 args
@[simp] theorem call28 (pos : Option Nat) (q : Bool) (args : List LV) (h : Heap) : callS P (limS P) pos q 28 args h = bnd (frzArgs q args h) fun a => bnd (fn P 28 a.1) fun v => some (.c v, if scalarC v then h else a.2) := callS_pure p28 pos q args h
theorem p29 : P 29 = some F29 := Has.h 29 F29 rfl
theorem u29 (args : List LV) (h : Heap) : sfn P 29 args h = resF [] (execS P (limS P) c29 ⟨args, h⟩) := sfn_code p29 args h
@[simp] theorem call29 (pos : Option Nat) (q : Bool) (args : List LV) (h : Heap) : callS P (limS P) pos q 29 args h = if q then none else bnd (frzFuncs args h) fun a => sfn P 29 a.1 a.2 := callS_shared p29 pos q args h
theorem p30 : P 30 = some F30 := Has.h 30 F30 rfl
theorem u30 (args : List CV) : fn P 30 args = resK [.tmp 0] (execS P (limS P) c30 ⟨args.map .c, []⟩) := fn_code p30 args
@[simp] theorem call30 (pos : Option Nat) (q : Bool) (args : List LV) (h : Heap) : callS P (limS P) pos q 30 args h = bnd (frzArgs q args h) fun a => bnd (fn P 30 a.1) fun v => some (.c v, if scalarC v then h else a.2) := callS_pure p30 pos q args h
theorem p31 : P 31 = some F31 := Has.h 31 F31 rfl
theorem u31 (args : List CV) : fn P 31 args = resK [.tmp 0] (execS P (limS P) c31 ⟨args.map .c, []⟩) := fn_code p31 args
@[simp] theorem call31 (pos : Option Nat) (q : Bool) (args : List LV) (h : Heap) : callS P (limS P) pos q 31 args h = bnd (frzArgs q args h) fun a => bnd (fn P 31 a.1) fun v => some (.c v, if scalarC v then h else a.2) := callS_pure p31 pos q args h
theorem p32 : P 32 = some F32 := Has.h 32 F32 rfl
theorem u32 (args : List CV) : fn P 32 args = resK [.tmp 0] (execS P (limS P) c32 ⟨args.map .c, []⟩) := fn_code p32 args
@[simp] theorem call32 (pos : Option Nat) (q : Bool) (args : List LV) (h : Heap) : callS P (limS P) pos q 32 args h = bnd (frzArgs q args h) fun a => bnd (fn P 32 a.1) fun v => some (.c v, if scalarC v then h else a.2) := callS_pure p32 pos q args h
theorem p33 : P 33 = some F33 := Has.h 33 F33 rfl
theorem u33 (args : List CV) : fn P 33 args = resK [.tmp 0, .tmp 1] (execS P (limS P) c33 ⟨args.map .c, []⟩) := fn_code p33 args
@[simp] theorem call33 (pos : Option Nat) (q : Bool) (args : List LV) (h : Heap) : callS P (limS P) pos q 33 args h = bnd (frzArgs q args h) fun a => bnd (fn P 33 a.1) fun v => some (.c v, if scalarC v then h else a.2) := callS_pure p33 pos q args h
theorem r33_l0 (s : St) : execS P (limS P) c33_l0 s = seqK (execS P (limS P) c33_l0b s) fun s' => execS P (limS P) c33_l0 (gc s.heap.length s') := execS_loop true c33_l0b s
theorem p34 : P 34 = some F34 := Has.h 34 F34 rfl
theorem u34 (args : List CV) : fn P 34 args = resK [.tmp 0] (execS P (limS P) c34 ⟨args.map .c, []⟩) := fn_code p34 args
@[simp] theorem call34 (pos : Option Nat) (q : Bool) (args : List LV) (h : Heap) : callS P (limS P) pos q 34 args h = bnd (frzArgs q args h) fun a => bnd (fn P 34 a.1) fun v => some (.c v, if scalarC v then h else a.2) := callS_pure p34 pos q args h
theorem p35 : P 35 = some F35 := Has.h 35 F35 rfl
theorem u35 (args : List CV) : ffn P 35 args = resF [.tmp 0] (execS P (limS P) c35 ⟨args.map .c, []⟩) := ffn_code p35 args
@[simp] theorem call35 (pos : Option Nat) (q : Bool) (args : List LV) (h : Heap) : callS P (limS P) pos q 35 args h = if q && pos.isNone then none else bnd (frzArgs q args h) fun a => bnd (ffn P 35 a.1) fun v => importB pos 4 v.1 v.2 a.2 := callS_fresh p35 pos q args h
theorem r35_l0 (s : St) : execS P (limS P) c35_l0 s = seqK (execS P (limS P) c35_l0b s) fun s' => execS P (limS P) c35_l0 (gc s.heap.length s') := execS_loop true c35_l0b s
theorem p36 : P 36 = some F36 := Has.h 36 F36 rfl
theorem u36 (args : List CV) : fn P 36 args = resK [.tmp 0] (execS P (limS P) c36 ⟨args.map .c, []⟩) := fn_code p36 args
@[simp] theorem call36 (pos : Option Nat) (q : Bool) (args : List LV) (h : Heap) : callS P (limS P) pos q 36 args h = bnd (frzArgs q args h) fun a => bnd (fn P 36 a.1) fun v => some (.c v, if scalarC v then h else a.2) := callS_pure p36 pos q args h
theorem r36_l0 (s : St) : execS P (limS P) c36_l0 s = seqK (execS P (limS P) c36_l0b s) fun s' => execS P (limS P) c36_l0 (gc s.heap.length s') := execS_loop true c36_l0b s
theorem p37 : P 37 = some F37 := Has.h 37 F37 rfl
theorem u37 (args : List CV) : fn P 37 args = resK [.tmp 0] (execS P (limS P) c37 ⟨args.map .c, []⟩) := fn_code p37 args
@[simp] theorem call37 (pos : Option Nat) (q : Bool) (args : List LV) (h : Heap) : callS P (limS P) pos q 37 args h = bnd (frzArgs q args h) fun a => bnd (fn P 37 a.1) fun v => some (.c v, if scalarC v then h else a.2) := callS_pure p37 pos q args h
theorem p38 : P 38 = some F38 := Has.h 38 F38 rfl
theorem u38 (args : List CV) : fn P 38 args = resK [.tmp 0] (execS P (limS P) c38 ⟨args.map .c, []⟩) := fn_code p38 args
@[simp] theorem call38 (pos : Option Nat) (q : Bool) (args : List LV) (h : Heap) : callS P (limS P) pos q 38 args h = bnd (frzArgs q args h) fun a => bnd (fn P 38 a.1) fun v => some (.c v, if scalarC v then h else a.2) := callS_pure p38 pos q args h
theorem r38_l0 (s : St) : execS P (limS P) c38_l0 s = seqK (execS P (limS P) c38_l0b s) fun s' => execS P (limS P) c38_l0 (gc s.heap.length s') := execS_loop true c38_l0b s
theorem p39 : P 39 = some F39 := Has.h 39 F39 rfl
theorem u39 (args : List CV) : fn P 39 args = resK [.tmp 0] (execS P (limS P) c39 ⟨args.map .c, []⟩) := fn_code p39 args
@[simp] theorem call39 (pos : Option Nat) (q : Bool) (args : List LV) (h : Heap) : callS P (limS P) pos q 39 args h = bnd (frzArgs q args h) fun a => bnd (fn P 39 a.1) fun v => some (.c v, if scalarC v then h else a.2) := callS_pure p39 pos q args h
theorem p40 : P 40 = some F40 := Has.h 40 F40 rfl
theorem u40 (args : List CV) : fn P 40 args = resK [.tmp 0] (execS P (limS P) c40 ⟨args.map .c, []⟩) := fn_code p40 args
@[simp] theorem call40 (pos : Option Nat) (q : Bool) (args : List LV) (h : Heap) : callS P (limS P) pos q 40 args h = bnd (frzArgs q args h) fun a => bnd (fn P 40 a.1) fun v => some (.c v, if scalarC v then h else a.2) := callS_pure p40 pos q args h
theorem p41 : P 41 = some F41 := Has.h 41 F41 rfl
theorem u41 (args : List CV) : fn P 41 args = resK [.tmp 0] (execS P (limS P) c41 ⟨args.map .c, []⟩) := fn_code p41 args
@[simp] theorem call41 (pos : Option Nat) (q : Bool) (args : List LV) (h : Heap) : callS P (limS P) pos q 41 args h = bnd (frzArgs q args h) fun a => bnd (fn P 41 a.1) fun v => some (.c v, if scalarC v then h else a.2) := callS_pure p41 pos q args h
theorem p42 : P 42 = some F42 := Has.h 42 F42 rfl
theorem u42 (args : List CV) : fn P 42 args = resK [.tmp 0] (execS P (limS P) c42 ⟨args.map .c, []⟩) := fn_code p42 args
@[simp] theorem call42 (pos : Option Nat) (q : Bool) (args : List LV) (h : Heap) : callS P (limS P) pos q 42 args h = bnd (frzArgs q args h) fun a => bnd (fn P 42 a.1) fun v => some (.c v, if scalarC v then h else a.2) := callS_pure p42 pos q args h
theorem p43 : P 43 = some F43 := Has.h 43 F43 rfl
theorem u43 (args : List LV) (h : Heap) : sfn P 43 args h = resF [] (execS P (limS P) c43 ⟨args, h⟩) := sfn_code p43 args h
@[simp] theorem call43 (pos : Option Nat) (q : Bool) (args : List LV) (h : Heap) : callS P (limS P) pos q 43 args h = if q then none else bnd (frzFuncs args h) fun a => sfn P 43 a.1 a.2 := callS_shared p43 pos q args h
theorem r43_l0 (s : St) : execS P (limS P) c43_l0 s = seqK (execS P (limS P) c43_l0b s) fun s' => execS P (limS P) c43_l0 (gc s.heap.length s') := execS_loop true c43_l0b s
theorem r43_l1 (s : St) : execS P (limS P) c43_l1 s = seqK (execS P (limS P) c43_l1b s) fun s' => execS P (limS P) c43_l1 (gc s.heap.length s') := execS_loop true c43_l1b s
theorem r43_l2 (s : St) : execS P (limS P) c43_l2 s = seqK (execS P (limS P) c43_l2b s) fun s' => execS P (limS P) c43_l2 (gc s.heap.length s') := execS_loop true c43_l2b s
theorem p44 : P 44 = some F44 := Has.h 44 F44 rfl
theorem u44 (args : List CV) : fn P 44 args = resK [.tmp 0] (execS P (limS P) c44 ⟨args.map .c, []⟩) := fn_code p44 args
@[simp] theorem call44 (pos : Option Nat) (q : Bool) (args : List LV) (h : Heap) : callS P (limS P) pos q 44 args h = bnd (frzArgs q args h) fun a => bnd (fn P 44 a.1) fun v => some (.c v, if scalarC v then h else a.2) := callS_pure p44 pos q args h
theorem p45 : P 45 = some F45 := Has.h 45 F45 rfl
theorem u45 (args : List CV) : fn P 45 args = resK [.tmp 0] (execS P (limS P) c45 ⟨args.map .c, []⟩) := fn_code p45 args
@[simp] theorem call45 (pos : Option Nat) (q : Bool) (args : List LV) (h : Heap) : callS P (limS P) pos q 45 args h = bnd (frzArgs q args h) fun a => bnd (fn P 45 a.1) fun v => some (.c v, if scalarC v then h else a.2) := callS_pure p45 pos q args h
theorem p46 : P 46 = some F46 := Has.h 46 F46 rfl
theorem u46 (args : List CV) : ffn P 46 args = resF [.tmp 0] (execS P (limS P) c46 ⟨args.map .c, []⟩) := ffn_code p46 args
@[simp] theorem call46 (pos : Option Nat) (q : Bool) (args : List LV) (h : Heap) : callS P (limS P) pos q 46 args h = if q && pos.isNone then none else bnd (frzArgs q args h) fun a => bnd (ffn P 46 a.1) fun v => importB pos 4 v.1 v.2 a.2 := callS_fresh p46 pos q args h
theorem r46_l0 (s : St) : execS P (limS P) c46_l0 s = seqK (execS P (limS P) c46_l0b s) fun s' => execS P (limS P) c46_l0 (gc s.heap.length s') := execS_loop true c46_l0b s
theorem p47 : P 47 = some F47 := Has.h 47 F47 rfl
theorem u47 (args : List LV) (h : Heap) : sfn P 47 args h = resF [.tmp 0] (execS P (limS P) c47 ⟨args, h⟩) := sfn_code p47 args h
@[simp] theorem call47 (pos : Option Nat) (q : Bool) (args : List LV) (h : Heap) : callS P (limS P) pos q 47 args h = if q then none else bnd (frzFuncs args h) fun a => sfn P 47 a.1 a.2 := callS_shared p47 pos q args h
theorem r47_l0 (s : St) : execS P (limS P) c47_l0 s = seqK (execS P (limS P) c47_l0b s) fun s' => execS P (limS P) c47_l0 (gc s.heap.length s') := execS_loop true c47_l0b s
theorem p48 : P 48 = some F48 := Has.h 48 F48 rfl
theorem u48 (args : List CV) : fn P 48 args = resK [.tmp 0] (execS P (limS P) c48 ⟨args.map .c, []⟩) := fn_code p48 args
@[simp] theorem call48 (pos : Option Nat) (q : Bool) (args : List LV) (h : Heap) : callS P (limS P) pos q 48 args h = bnd (frzArgs q args h) fun a => bnd (fn P 48 a.1) fun v => some (.c v, if scalarC v then h else a.2) := callS_pure p48 pos q args h
theorem p49 : P 49 = some F49 := Has.h 49 F49 rfl
theorem u49 (args : List CV) : fn P 49 args = resK [.tmp 0] (execS P (limS P) c49 ⟨args.map .c, []⟩) := fn_code p49 args
@[simp] theorem call49 (pos : Option Nat) (q : Bool) (args : List LV) (h : Heap) : callS P (limS P) pos q 49 args h = bnd (frzArgs q args h) fun a => bnd (fn P 49 a.1) fun v => some (.c v, if scalarC v then h else a.2) := callS_pure p49 pos q args h
theorem r49_l0 (s : St) : execS P (limS P) c49_l0 s = seqK (execS P (limS P) c49_l0b s) fun s' => execS P (limS P) c49_l0 (gc s.heap.length s') := execS_loop true c49_l0b s
theorem p50 : P 50 = some F50 := Has.h 50 F50 rfl
theorem u50 (args : List LV) (h : Heap) : sfn P 50 args h = resF [] (execS P (limS P) c50 ⟨args, h⟩) := sfn_code p50 args h
@[simp] theorem call50 (pos : Option Nat) (q : Bool) (args : List LV) (h : Heap) : callS P (limS P) pos q 50 args h = if q then none else bnd (frzFuncs args h) fun a => sfn P 50 a.1 a.2 := callS_shared p50 pos q args h
theorem r50_l0 (s : St) : execS P (limS P) c50_l0 s = seqK (execS P (limS P) c50_l0b s) fun s' => execS P (limS P) c50_l0 (gc s.heap.length s') := execS_loop true c50_l0b s
theorem r50_l1 (s : St) : execS P (limS P) c50_l1 s = seqK (execS P (limS P) c50_l1b s) fun s' => execS P (limS P) c50_l1 (gc s.heap.length s') := execS_loop true c50_l1b s
theorem p51 : P 51 = some F51 := Has.h 51 F51 rfl
theorem u51 (args : List LV) (h : Heap) : sfn P 51 args h = resF [] (execS P (limS P) c51 ⟨args, h⟩) := sfn_code p51 args h
@[simp] theorem call51 (pos : Option Nat) (q : Bool) (args : List LV) (h : Heap) : callS P (limS P) pos q 51 args h = if q then none else bnd (frzFuncs args h) fun a => sfn P 51 a.1 a.2 := callS_shared p51 pos q args h
theorem r51_l0 (s : St) : execS P (limS P) c51_l0 s = seqK (execS P (limS P) c51_l0b s) fun s' => execS P (limS P) c51_l0 (gc s.heap.length s') := execS_loop true c51_l0b s
theorem r51_l1 (s : St) : execS P (limS P) c51_l1 s = seqK (execS P (limS P) c51_l1b s) fun s' => execS P (limS P) c51_l1 (gc s.heap.length s') := execS_loop true c51_l1b s
theorem r51_l2 (s : St) : execS P (limS P) c51_l2 s = seqK (execS P (limS P) c51_l2b s) fun s' => execS P (limS P) c51_l2 (gc s.heap.length s') := execS_loop true c51_l2b s
theorem r51_l3 (s : St) : execS P (limS P) c51_l3 s = seqK (execS P (limS P) c51_l3b s) fun s' => execS P (limS P) c51_l3 (gc s.heap.length s') := execS_loop true c51_l3b s
theorem r51_l4 (s : St) : execS P (limS P) c51_l4 s = seqK (execS P (limS P) c51_l4b s) fun s' => execS P (limS P) c51_l4 (gc s.heap.length s') := execS_loop true c51_l4b s
theorem p52 : P 52 = some F52 := Has.h 52 F52 rfl
theorem u52 (args : List CV) : fn P 52 args = resK [.tmp 0] (execS P (limS P) c52 ⟨args.map .c, []⟩) := fn_code p52 args
@[simp] theorem call52 (pos : Option Nat) (q : Bool) (args : List LV) (h : Heap) : callS P (limS P) pos q 52 args h = bnd (frzArgs q args h) fun a => bnd (fn P 52 a.1) fun v => some (.c v, if scalarC v then h else a.2) := callS_pure p52 pos q args h
theorem r52_l0 (s : St) : execS P (limS P) c52_l0 s = seqK (execS P (limS P) c52_l0b s) fun s' => execS P (limS P) c52_l0 (gc s.heap.length s') := execS_loop true c52_l0b s
theorem p53 : P 53 = some F53 := Has.h 53 F53 rfl
theorem u53 (args : List CV) : fn P 53 args = resK [.tmp 0] (execS P (limS P) c53 ⟨args.map .c, []⟩) := fn_code p53 args
@[simp] theorem call53 (pos : Option Nat) (q : Bool) (args : List LV) (h : Heap) : callS P (limS P) pos q 53 args h = bnd (frzArgs q args h) fun a => bnd (fn P 53 a.1) fun v => some (.c v, if scalarC v then h else a.2) := callS_pure p53 pos q args h
theorem p54 : P 54 = some F54 := Has.h 54 F54 rfl
theorem u54 (args : List CV) : fn P 54 args = resK [.tmp 0] (execS P (limS P) c54 ⟨args.map .c, []⟩) := fn_code p54 args
@[simp] theorem call54 (pos : Option Nat) (q : Bool) (args : List LV) (h : Heap) : callS P (limS P) pos q 54 args h = bnd (frzArgs q args h) fun a => bnd (fn P 54 a.1) fun v => some (.c v, if scalarC v then h else a.2) := callS_pure p54 pos q args h
theorem p55 : P 55 = some F55 := Has.h 55 F55 rfl
theorem u55 (args : List CV) : fn P 55 args = resK [.tmp 0] (execS P (limS P) c55 ⟨args.map .c, []⟩) := fn_code p55 args
@[simp] theorem call55 (pos : Option Nat) (q : Bool) (args : List LV) (h : Heap) : callS P (limS P) pos q 55 args h = bnd (frzArgs q args h) fun a => bnd (fn P 55 a.1) fun v => some (.c v, if scalarC v then h else a.2) := callS_pure p55 pos q args h
theorem p56 : P 56 = some F56 := Has.h 56 F56 rfl
theorem u56 (args : List CV) : fn P 56 args = resK [.tmp 0] (execS P (limS P) c56 ⟨args.map .c, []⟩) := fn_code p56 args
@[simp] theorem call56 (pos : Option Nat) (q : Bool) (args : List LV) (h : Heap) : callS P (limS P) pos q 56 args h = bnd (frzArgs q args h) fun a => bnd (fn P 56 a.1) fun v => some (.c v, if scalarC v then h else a.2) := callS_pure p56 pos q args h
theorem r56_l0 (s : St) : execS P (limS P) c56_l0 s = seqK (execS P (limS P) c56_l0b s) fun s' => execS P (limS P) c56_l0 (gc s.heap.length s') := execS_loop true c56_l0b s
theorem p57 : P 57 = some F57 := Has.h 57 F57 rfl
theorem u57 (args : List CV) : fn P 57 args = resK [.tmp 0] (execS P (limS P) c57 ⟨args.map .c, []⟩) := fn_code p57 args
@[simp] theorem call57 (pos : Option Nat) (q : Bool) (args : List LV) (h : Heap) : callS P (limS P) pos q 57 args h = bnd (frzArgs q args h) fun a => bnd (fn P 57 a.1) fun v => some (.c v, if scalarC v then h else a.2) := callS_pure p57 pos q args h
theorem p58 : P 58 = some F58 := Has.h 58 F58 rfl
theorem u58 (args : List CV) : fn P 58 args = resK [.tmp 0] (execS P (limS P) c58 ⟨args.map .c, []⟩) := fn_code p58 args
@[simp] theorem call58 (pos : Option Nat) (q : Bool) (args : List LV) (h : Heap) : callS P (limS P) pos q 58 args h = bnd (frzArgs q args h) fun a => bnd (fn P 58 a.1) fun v => some (.c v, if scalarC v then h else a.2) := callS_pure p58 pos q args h
theorem p59 : P 59 = some F59 := Has.h 59 F59 rfl
theorem u59 (args : List CV) : fn P 59 args = resK [.tmp 0] (execS P (limS P) c59 ⟨args.map .c, []⟩) := fn_code p59 args
@[simp] theorem call59 (pos : Option Nat) (q : Bool) (args : List LV) (h : Heap) : callS P (limS P) pos q 59 args h = bnd (frzArgs q args h) fun a => bnd (fn P 59 a.1) fun v => some (.c v, if scalarC v then h else a.2) := callS_pure p59 pos q args h
theorem p60 : P 60 = some F60 := Has.h 60 F60 rfl
theorem u60 (args : List CV) : fn P 60 args = resK [.tmp 0, .tmp 1] (execS P (limS P) c60 ⟨args.map .c, []⟩) := fn_code p60 args
@[simp] theorem call60 (pos : Option Nat) (q : Bool) (args : List LV) (h : Heap) : callS P (limS P) pos q 60 args h = bnd (frzArgs q args h) fun a => bnd (fn P 60 a.1) fun v => some (.c v, if scalarC v then h else a.2) := callS_pure p60 pos q args h
theorem p61 : P 61 = some F61 := Has.h 61 F61 rfl
theorem u61 (args : List CV) : fn P 61 args = resK [.tmp 0] (execS P (limS P) c61 ⟨args.map .c, []⟩) := fn_code p61 args
@[simp] theorem call61 (pos : Option Nat) (q : Bool) (args : List LV) (h : Heap) : callS P (limS P) pos q 61 args h = bnd (frzArgs q args h) fun a => bnd (fn P 61 a.1) fun v => some (.c v, if scalarC v then h else a.2) := callS_pure p61 pos q args h
theorem p62 : P 62 = some F62 := Has.h 62 F62 rfl
theorem u62 (args : List LV) (h : Heap) : sfn P 62 args h = resF [.tmp 0] (execS P (limS P) c62 ⟨args, h⟩) := sfn_code p62 args h
@[simp] theorem call62 (pos : Option Nat) (q : Bool) (args : List LV) (h : Heap) : callS P (limS P) pos q 62 args h = if q then none else bnd (frzFuncs args h) fun a => sfn P 62 a.1 a.2 := callS_shared p62 pos q args h
theorem r62_l0 (s : St) : execS P (limS P) c62_l0 s = seqK (execS P (limS P) c62_l0b s) fun s' => execS P (limS P) c62_l0 (gc s.heap.length s') := execS_loop true c62_l0b s
theorem p63 : P 63 = some F63 := Has.h 63 F63 rfl
theorem u63 (args : List LV) (h : Heap) : sfn P 63 args h = resF [.tmp 0] (execS P (limS P) c63 ⟨args, h⟩) := sfn_code p63 args h
@[simp] theorem call63 (pos : Option Nat) (q : Bool) (args : List LV) (h : Heap) : callS P (limS P) pos q 63 args h = if q then none else bnd (frzFuncs args h) fun a => sfn P 63 a.1 a.2 := callS_shared p63 pos q args h
theorem r63_l0 (s : St) : execS P (limS P) c63_l0 s = seqK (execS P (limS P) c63_l0b s) fun s' => execS P (limS P) c63_l0 (gc s.heap.length s') := execS_loop true c63_l0b s
theorem p64 : P 64 = some F64 := Has.h 64 F64 rfl
theorem u64 (args : List CV) : fn P 64 args = resK [.tmp 0] (execS P (limS P) c64 ⟨args.map .c, []⟩) := fn_code p64 args
@[simp] theorem call64 (pos : Option Nat) (q : Bool) (args : List LV) (h : Heap) : callS P (limS P) pos q 64 args h = bnd (frzArgs q args h) fun a => bnd (fn P 64 a.1) fun v => some (.c v, if scalarC v then h else a.2) := callS_pure p64 pos q args h
theorem r64_l0 (s : St) : execS P (limS P) c64_l0 s = seqK (execS P (limS P) c64_l0b s) fun s' => execS P (limS P) c64_l0 (gc s.heap.length s') := execS_loop true c64_l0b s
theorem p65 : P 65 = some F65 := Has.h 65 F65 rfl
theorem u65 (args : List CV) : fn P 65 args = resK [.tmp 0] (execS P (limS P) c65 ⟨args.map .c, []⟩) := fn_code p65 args
@[simp] theorem call65 (pos : Option Nat) (q : Bool) (args : List LV) (h : Heap) : callS P (limS P) pos q 65 args h = bnd (frzArgs q args h) fun a => bnd (fn P 65 a.1) fun v => some (.c v, if scalarC v then h else a.2) := callS_pure p65 pos q args h
theorem p66 : P 66 = some F66 := Has.h 66 F66 rfl
theorem u66 (args : List LV) (h : Heap) : sfn P 66 args h = resF [] (execS P (limS P) c66 ⟨args, h⟩) := sfn_code p66 args h
@[simp] theorem call66 (pos : Option Nat) (q : Bool) (args : List LV) (h : Heap) : callS P (limS P) pos q 66 args h = if q then none else bnd (frzFuncs args h) fun a => sfn P 66 a.1 a.2 := callS_shared p66 pos q args h
theorem r66_l0 (s : St) : execS P (limS P) c66_l0 s = seqK (execS P (limS P) c66_l0b s) fun s' => execS P (limS P) c66_l0 (gc s.heap.length s') := execS_loop true c66_l0b s
theorem p67 : P 67 = some F67 := Has.h 67 F67 rfl
theorem u67 (args : List CV) : fn P 67 args = resK [.tmp 0] (execS P (limS P) c67 ⟨args.map .c, []⟩) := fn_code p67 args
@[simp] theorem call67 (pos : Option Nat) (q : Bool) (args : List LV) (h : Heap) : callS P (limS P) pos q 67 args h = bnd (frzArgs q args h) fun a => bnd (fn P 67 a.1) fun v => some (.c v, if scalarC v then h else a.2) := callS_pure p67 pos q args h
theorem r67_l0 (s : St) : execS P (limS P) c67_l0 s = seqK (execS P (limS P) c67_l0b s) fun s' => execS P (limS P) c67_l0 (gc s.heap.length s') := execS_loop true c67_l0b s
theorem p68 : P 68 = some F68 := Has.h 68 F68 rfl
theorem u68 (args : List CV) : fn P 68 args = resK [.tmp 0] (execS P (limS P) c68 ⟨args.map .c, []⟩) := fn_code p68 args
@[simp] theorem call68 (pos : Option Nat) (q : Bool) (args : List LV) (h : Heap) : callS P (limS P) pos q 68 args h = bnd (frzArgs q args h) fun a => bnd (fn P 68 a.1) fun v => some (.c v, if scalarC v then h else a.2) := callS_pure p68 pos q args h
theorem r68_l0 (s : St) : execS P (limS P) c68_l0 s = seqK (execS P (limS P) c68_l0b s) fun s' => execS P (limS P) c68_l0 (gc s.heap.length s') := execS_loop true c68_l0b s
theorem p69 : P 69 = some F69 := Has.h 69 F69 rfl
theorem u69 (args : List CV) : fn P 69 args = resK [.tmp 0, .tmp 1] (execS P (limS P) c69 ⟨args.map .c, []⟩) := fn_code p69 args
@[simp] theorem call69 (pos : Option Nat) (q : Bool) (args : List LV) (h : Heap) : callS P (limS P) pos q 69 args h = bnd (frzArgs q args h) fun a => bnd (fn P 69 a.1) fun v => some (.c v, if scalarC v then h else a.2) := callS_pure p69 pos q args h
theorem p70 : P 70 = some F70 := Has.h 70 F70 rfl
theorem u70 (args : List CV) : fn P 70 args = resK [.tmp 0, .tmp 1] (execS P (limS P) c70 ⟨args.map .c, []⟩) := fn_code p70 args
@[simp] theorem call70 (pos : Option Nat) (q : Bool) (args : List LV) (h : Heap) : callS P (limS P) pos q 70 args h = bnd (frzArgs q args h) fun a => bnd (fn P 70 a.1) fun v => some (.c v, if scalarC v then h else a.2) := callS_pure p70 pos q args h
theorem p71 : P 71 = some F71 := Has.h 71 F71 rfl
theorem u71 (args : List LV) (h : Heap) : sfn P 71 args h = resF [] (execS P (limS P) c71 ⟨args, h⟩) := sfn_code p71 args h
@[simp] theorem call71 (pos : Option Nat) (q : Bool) (args : List LV) (h : Heap) : callS P (limS P) pos q 71 args h = if q then none else bnd (frzFuncs args h) fun a => sfn P 71 a.1 a.2 := callS_shared p71 pos q args h
theorem r71_l0 (s : St) : execS P (limS P) c71_l0 s = seqK (execS P (limS P) c71_l0b s) fun s' => execS P (limS P) c71_l0 (gc s.heap.length s') := execS_loop true c71_l0b s
/-- A program in which some functions are primitives. -/
class HasP (P : Nat → Option SFunc) : Prop where
  h : ∀ f, f ∈ [9] → ∃ g, P f = some (.prim g)
@[simp] theorem call9 [HasP P] (pos : Option Nat) (q : Bool) (args : List LV) (h : Heap) : callS P (limS P) pos q 9 args h = bnd (frzArgs q args h) fun a => bnd (fn P 9 a.1) fun v => some (.c v, if scalarC v then h else a.2) := by
  obtain ⟨g, hg⟩ := HasP.h (P := P) 9 (by simp)
  exact callS_prim hg pos q args h
end LM.GT

namespace LM.GT
open Go LM
def lprog : List (Nat × LFunc) := []
-- crux/cruxtop.karabinerDrawn
-- c9_l0: env [1, 4, 48, 49, 50]
@[simp] def c9_n4 : SCode := (.region [.op 52 (.move (.t 4)) none .any, .op 53 (.idxSlice 1 (.t 3) (.t 5)) none .any, .op 54 (.load none (.t 0)) none .any, .op 8 (.move (.t 2)) none .any, .op 9 (.move (.t 1)) none .any] [5, 6, 1, 0, 7, 8, 9])
@[simp] def c9_n6 : SCode := (.draw 0 [.op 55 (.move (.t 3)) none .any, .op 56 (.bin .lss (.t 0) (.k (.c (.int .i64 0)))) none .any, .op 57 (.move (.t 0)) none .any, .orN 60 0 [.op 58 (.move (.t 6)) none .any, .op 59 (.bin .gtr (.t 0) (.k (.c (.int .i64 2)))) none .any] (.t 0), .op 61 (.move (.t 0)) none .any, .orN 71 0 [.op 62 (.move (.t 6)) none .any, .op 63 (.move (.t 8)) none .any, .op 64 (.idxSlice 1 (.t 1) (.t 0)) none .any, .op 65 (.load none (.t 0)) none .old, .op 66 (.move (.t 9)) none .any, .op 67 (.move (.t 13)) none .any, .op 68 (.idxSlice 1 (.t 1) (.t 0)) none .any, .op 69 (.load none (.t 0)) none .old, .op 70 (.bin .neq (.t 4) (.t 0)) none .any] (.t 0)] [6, 7, 10, 11, 12, 0])
def c9_n5 : SCode := .seq c9_n6 (.cond (.t 5) (.seq (.region [.op 0 (.move (.k (.c (.bool false)))) none .any] [0]) .ret) (.pre [0, 1, 2, 3, 4] .skip))
instance : IsSeq c9_n5 c9_n6 (.cond (.t 5) (.seq (.region [.op 0 (.move (.k (.c (.bool false)))) none .any] [0]) .ret) (.pre [0, 1, 2, 3, 4] .skip)) := ⟨rfl⟩
def c9_n3 : SCode := .seq c9_n4 c9_n5
instance : IsSeq c9_n3 c9_n4 c9_n5 := ⟨rfl⟩
def c9_n2 : SCode := .seq (.block 1 [some 1, some 4, some 48, some 49, some 50] c9_n3) (.region [.op 72 (.bin .add (.t 4) (.k (.c (.int .i64 1)))) none .any, .op 50 (.move (.t 0)) none .any] [2, 3, 4, 5, 0])
instance : IsSeq c9_n2 (.block 1 [some 1, some 4, some 48, some 49, some 50] c9_n3) (.region [.op 72 (.bin .add (.t 4) (.k (.c (.int .i64 1)))) none .any, .op 50 (.move (.t 0)) none .any] [2, 3, 4, 5, 0]) := ⟨rfl⟩
def c9_n1 : SCode := .seq (.cond (.t 5) (.pre [0, 1, 2, 3, 4] .skip) (.pre [] (.exit 0))) c9_n2
instance : IsSeq c9_n1 (.cond (.t 5) (.pre [0, 1, 2, 3, 4] .skip) (.pre [] (.exit 0))) c9_n2 := ⟨rfl⟩
def c9_l0b : SCode := (.seq (.region [.op 51 (.bin .lss (.t 4) (.t 3)) none .any] [1, 2, 3, 4, 5, 0]) c9_n1)
def c9_l0 : SCode := .loop true c9_l0b
@[simp] def c9_n8 : SCode := (.region [.op 10 (.buildSlice 0 none 3 [(.c (.str []))] [(0, (.k (.c (.str [97, 110, 110])))), (1, (.k (.c (.str [98, 101, 97])))), (2, (.k (.c (.str [99, 105, 97]))))]) none .any, .op 1 (.move (.t 0)) none .any] [0])
@[simp] def c9_n10 : SCode := (.region [.op 12 (.call false (.k (.c (.func 10 [] []))) [(.k (.c (.int .i64 1))), (.k (.c (.int .i64 3)))]) none .any, .op 11 (.move (.t 0)) none .any, .op 13 (.extract (.t 0) 0) none .any, .op 14 (.extract (.t 1) 1) none .any, .op 2 (.move (.t 1)) none .any, .op 3 (.move (.t 1)) none .any] [6, 1, 0])
@[simp] def c9_n12 : SCode := (.region [.op 16 (.move (.t 0)) none .any, .op 17 (.build [(.c (.int .i64 0)), (.c (.int .i64 0)), (.c (.int .i64 0))] [(0, 1, (.k (.c (.int .i64 3)))), (2, 1, (.k (.c (.int .i64 1))))]) none .any, .op 18 (.call false (.k (.c (.func 11 [] []))) [(.t 1), (.k .nil), (.t 0), (.k (.c (.int .i64 10)))]) none .any, .op 15 (.move (.t 0)) none .any, .op 19 (.extract (.t 0) 0) none .any, .op 20 (.extract (.t 1) 1) none .any, .op 4 (.move (.t 1)) none .any, .op 5 (.move (.t 1)) none .any] [8, 9, 10, 1, 0])
@[simp] def c9_n14 : SCode := (.region [.op 22 (.call false (.k (.c (.func 20 [] []))) []) none .any, .op 23 (.call false (.k (.c (.func 19 [] []))) [(.t 0)]) none .any, .op 21 (.move (.t 0)) none .any, .op 24 (.extract (.t 0) 0) none .any, .op 25 (.extract (.t 1) 1) none .any, .op 6 (.move (.t 1)) none .any, .op 7 (.move (.t 1)) none .any] [7, 8, 9, 10, 11, 1, 0])
@[simp] def c9_n16 : SCode := (.seq (.region [.op 26 (.move (.t 2)) none .any, .op 27 (.move (.t 5)) none .any, .op 28 (.bin .add (.t 1) (.t 0)) none .any, .op 29 (.move (.t 9)) none .any, .op 30 (.bin .add (.t 1) (.t 0)) none .any, .op 31 (.bin .neq (.t 0) (.k (.c (.int .i64 0)))) none .any, .op 32 (.move (.t 0)) none .any, .orN 36 0 [.op 33 (.move (.t 8)) none .any, .op 34 (.len 1 (.t 0)) none .any, .op 35 (.bin .neq (.t 0) (.k (.c (.int .i64 3)))) none .any] (.t 0), .op 37 (.move (.t 0)) none .any, .orN 41 0 [.op 38 (.move (.t 12)) none .any, .op 39 (.len 1 (.t 0)) none .any, .op 40 (.bin .neq (.t 0) (.k (.c (.int .i64 3)))) none .any] (.t 0), .op 42 (.move (.t 0)) none .any, .orN 47 0 [.op 43 (.move (.t 16)) none .any, .op 44 (.buildSlice 2 none 2 [(.c (.int .i64 0))] [(0, (.k (.c (.int .i64 1)))), (1, (.k (.c (.int .i64 0))))]) none .any, .op 45 (.call false (.k (.c (.func 21 [] []))) [(.t 1), (.t 0)]) none .any, .op 46 (.not (.t 0)) none .any] (.t 0)] [12, 13, 15, 0]) (.cond (.t 3) (.seq (.region [.op 0 (.move (.k (.c (.bool false)))) none .any] [0]) .ret) (.pre [0, 1, 2] .skip)))
def c9_n15 : SCode := .seq c9_n16 (.seq (.seq (.region [.op 48 (.move (.t 1)) none .any, .op 49 (.len 1 (.t 0)) none .any, .op 50 (.move (.k (.c (.int .i64 0)))) none .any] [3, 5, 2, 1, 0]) (.block 0 [] c9_l0)) (.seq (.region [.op 0 (.move (.k (.c (.bool true)))) none .any] [0]) .ret))
instance : IsSeq c9_n15 c9_n16 (.seq (.seq (.region [.op 48 (.move (.t 1)) none .any, .op 49 (.len 1 (.t 0)) none .any, .op 50 (.move (.k (.c (.int .i64 0)))) none .any] [3, 5, 2, 1, 0]) (.block 0 [] c9_l0)) (.seq (.region [.op 0 (.move (.k (.c (.bool true)))) none .any] [0]) .ret)) := ⟨rfl⟩
def c9_n13 : SCode := .seq c9_n14 c9_n15
instance : IsSeq c9_n13 c9_n14 c9_n15 := ⟨rfl⟩
def c9_n11 : SCode := .seq c9_n12 c9_n13
instance : IsSeq c9_n11 c9_n12 c9_n13 := ⟨rfl⟩
def c9_n9 : SCode := .seq c9_n10 c9_n11
instance : IsSeq c9_n9 c9_n10 c9_n11 := ⟨rfl⟩
def c9_n7 : SCode := .seq c9_n8 c9_n9
instance : IsSeq c9_n7 c9_n8 c9_n9 := ⟨rfl⟩
def c9 : SCode := (.seq (.region [.op 0 (.move (.k (.c (.bool false)))) none .any] []) c9_n7)
def F9 : SFunc := .code .pure 73 0 [some 0] [.tmp 0] c9
end LM.GT

