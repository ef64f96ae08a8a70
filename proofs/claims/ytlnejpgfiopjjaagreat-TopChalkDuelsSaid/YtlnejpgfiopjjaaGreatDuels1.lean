/- Part 4 of what YtlnejpgfiopjjaaGreatDuels leans on. -/
import Derived.Test.YtlnejpgfiopjjaaGreatDuelsL1
import Derived.Test.YtlnejpgfiopjjaaGreatDuelsL2
import Derived.Test.YtlnejpgfiopjjaaGreatDuelsL3
set_option linter.all false
namespace LM.GZ
open Go LM
@[simp] def c3_n2:SCode:=(.seq (.region [.op 14 (.load (some 2) (.t 0)),.op 15 (.call false (.k (.c (.func 9 [] []))) [(.t 0)]),.op 16 (.bin .neq (.t 0) (.k (.c (.int .i64 0)))),.op 17 (.move (.t 0)),.orN 21 0 [.op 18 (.load (some 2) (.t 5)),.op 19 (.call false (.k (.c (.func 9 [] []))) [(.t 0)]),.op 20 (.bin .neq (.t 0) (.k (.c (.int .i64 0))))] (.t 0)] [5,6,0]) (.cond (.t 2) (.seq (.region [.op 22 (.call false (.k (.c (.func 10 [] []))) []),.op 4 (.move (.t 0))] [0]) .ret) (.pre [0,1] .skip)))
@[simp] def c3_n4:SCode:=(.region [.op 24 (.load (some 2) (.t 0)),.op 25 (.load (some 2) (.t 2)),.op 26 (.call false (.k (.c (.func 11 [] []))) [(.t 1),(.t 0)]),.op 23 (.move (.t 0)),.op 27 (.extract (.t 0) 0),.op 28 (.extract (.t 1) 1),.op 5 (.move (.t 1)),.op 6 (.move (.t 1))] [8,9,1,0])
@[simp] def c3_n6:SCode:=(.region [.op 30 (.load (some 2) (.t 0)),.op 31 (.load (some 2) (.t 2)),.op 32 (.call false (.k (.c (.func 12 [] []))) [(.t 1),(.t 0)]),.op 29 (.move (.t 0)),.op 33 (.extract (.t 0) 0),.op 34 (.extract (.t 1) 1),.op 7 (.move (.t 1)),.op 8 (.move (.t 1))] [8,9,10,11,1,0])
@[simp] def c3_n8:SCode:=(.seq (.region [.op 35 (.move (.t 5)),.op 36 (.not (.t 0)),.op 37 (.move (.t 0)),.orN 41 0 [.op 38 (.move (.t 7)),.op 39 (.call false (.k (.c (.func 13 [] []))) [(.t 0)]),.op 40 (.bin .neq (.t 0) (.k (.c (.int .i64 0))))] (.t 0)] [4,5,6,7,8,0]) (.cond (.t 5) (.seq (.region [.op 4 (.move (.k (.c (.bool false))))] [0]) .ret) (.pre [0,1,2,3,4] .skip)))
@[simp] def c3_n10:SCode:=(.region [.op 43 (.move (.t 4)),.op 44 (.call false (.k (.c (.func 14 [] []))) [(.t 0),(.k (.c (.int .i64 1)))]),.op 42 (.move (.t 0)),.op 45 (.extract (.t 0) 0),.op 46 (.extract (.t 1) 1),.op 9 (.move (.t 1)),.op 10 (.move (.t 1))] [7,8,9,10,1,0])
@[simp] def c3_n12:SCode:=(.seq (.region [.op 47 (.move (.t 3)),.op 48 (.move (.t 6)),.op 49 (.bin .add (.t 1) (.t 0)),.op 50 (.bin .neq (.t 0) (.k (.c (.int .i64 0))))] [4,5,6,8,0]) (.cond (.t 4) (.seq (.region [.op 4 (.move (.k (.c (.bool false))))] [0]) .ret) (.pre [0,1,2,3] .skip)))
@[simp] def c3_n16:SCode:=(.region [.op 54 (.bin .eql (.t 4) (.k (.c (.int .i64 0)))),.op 53 (.move (.t 0))] [2,3,4,5,6,0])
@[simp] def c3_n19:SCode:=(.region [.op 55 (.fieldAddr 0 (.t 0)),.op 56 (.load none (.t 0)),.op 57 (.bin .lss (.t 0) (.k (.c (.int .i64 100)))),.op 58 (.move (.t 0)),.andN 62 0 [.op 59 (.fieldAddr 0 (.t 5)),.op 60 (.load none (.t 0)),.op 61 (.bin .lss (.t 0) (.k (.c (.int .i64 100))))] (.t 0),.op 11 (.move (.t 0))] [6,7,8,0])
@[simp] def c3_n21:SCode:=(.region [.op 63 (.fieldAddr 0 (.t 0)),.op 64 (.load none (.t 0)),.op 65 (.bin .lss (.t 0) (.k (.c (.int .i64 100)))),.op 66 (.fieldAddr 0 (.t 4)),.op 67 (.load none (.t 0)),.op 68 (.bin .lss (.t 0) (.k (.c (.int .i64 100)))),.op 69 (.binBool .neq (.t 3) (.t 0)),.op 12 (.move (.t 0))] [10,11,0])
@[simp] def c3_n23:SCode:=(.region [.op 70 (.move (.t 0)),.op 71 (.bin .eql (.t 0) (.k (.c (.int .i64 3)))),.op 72 (.move (.t 3)),.op 73 (.binBool .eql (.t 1) (.t 0)),.op 74 (.move (.t 0)),.andN 84 0 [.op 75 (.move (.t 7)),.op 76 (.move (.t 0)),.orN 79 0 [.op 77 (.move (.t 7)),.op 78 (.bin .eql (.t 0) (.k (.c (.int .i64 3))))] (.t 0),.op 80 (.move (.t 0)),.orN 83 0 [.op 81 (.move (.t 9)),.op 82 (.bin .eql (.t 0) (.k (.c (.int .i64 0))))] (.t 0)] (.t 0),.op 85 (.move (.t 0)),.andN 87 0 [.op 86 (.call false (.k (.c (.func 10 [] []))) [])] (.t 0),.op 4 (.move (.t 0))] [0])
def c3_n22:SCode:=.seq c3_n23 .ret
instance:IsSeq c3_n22 c3_n23 .ret:=⟨rfl⟩
def c3_n20:SCode:=.seq c3_n21 c3_n22
instance:IsSeq c3_n20 c3_n21 c3_n22:=⟨rfl⟩
def c3_n18:SCode:=.seq c3_n19 c3_n20
instance:IsSeq c3_n18 c3_n19 c3_n20:=⟨rfl⟩
@[simp] def c3_n25:SCode:=(.region [.op 89 (.bin .eql (.t 4) (.k (.c (.int .i64 1)))),.op 88 (.move (.t 0))] [2,3,4,5,0])
@[simp] def c3_n28:SCode:=(.region [.op 90 (.move (.t 3)),.op 91 (.idxSlice 1 (.t 0) (.k (.c (.int .i64 0)))),.op 92 (.load none (.t 0)),.op 93 (.bin .eql (.t 0) (.k (.c (.str [97,110,110])))),.op 94 (.move (.t 6)),.op 95 (.bin .eql (.t 0) (.k (.c (.int .i64 1)))),.op 96 (.binBool .eql (.t 2) (.t 0)),.op 97 (.move (.t 0)),.andN 105 0 [.op 98 (.move (.t 11)),.op 99 (.idxSlice 1 (.t 0) (.k (.c (.int .i64 0)))),.op 100 (.load none (.t 0)),.op 101 (.bin .eql (.t 0) (.k (.c (.str [98,101,110])))),.op 102 (.move (.t 14)),.op 103 (.bin .eql (.t 0) (.k (.c (.int .i64 2)))),.op 104 (.binBool .eql (.t 2) (.t 0))] (.t 0),.op 106 (.move (.t 0)),.andN 108 0 [.op 107 (.call false (.k (.c (.func 10 [] []))) [])] (.t 0),.op 4 (.move (.t 0))] [0])
def c3_n27:SCode:=.seq c3_n28 .ret
instance:IsSeq c3_n27 c3_n28 .ret:=⟨rfl⟩
def c3_n26:SCode:=.cond (.t 4) c3_n27 (.pre [0,1,2,3] .skip)
instance:IsCond c3_n26 (.t 4) c3_n27 (.pre [0,1,2,3] .skip):=⟨rfl⟩
def c3_n24:SCode:=.seq c3_n25 c3_n26
instance:IsSeq c3_n24 c3_n25 c3_n26:=⟨rfl⟩
def c3_n17:SCode:=.cond (.t 5) c3_n18 c3_n24
instance:IsCond c3_n17 (.t 5) c3_n18 c3_n24:=⟨rfl⟩
def c3_n15:SCode:=.seq c3_n16 c3_n17
instance:IsSeq c3_n15 c3_n16 c3_n17:=⟨rfl⟩
def c3_n14:SCode:=.block 0 [some 2,some 3,some 5,some 9] c3_n15
instance:IsBlock c3_n14 0 [some 2,some 3,some 5,some 9] c3_n15:=⟨rfl⟩
@[simp] def c3_n29:SCode:=(.seq (.region [.op 51 (.move (.t 3)),.op 52 (.len 1 (.t 0))] [2,3,4,5,0]) c3_n14)
@[simp] def c3_n32:SCode:=(.seq (.region [.op 109 (.fieldAddr 0 (.t 0)),.op 110 (.load none (.t 0)),.op 111 (.fieldAddr 0 (.t 3)),.op 112 (.load none (.t 0)),.op 113 (.bin .lss (.t 2) (.t 0))] [5,6,7,8,9,0]) (.cond (.t 5) (.region [.op 13 (.move (.k (.c (.int .i64 1))))] [1,2,3,4,0]) (.pre [0,1,2,3,4] .skip)))
@[simp] def c3_n34:SCode:=(.seq (.region [.op 114 (.fieldAddr 0 (.t 0)),.op 115 (.load none (.t 0)),.op 116 (.fieldAddr 0 (.t 3)),.op 117 (.load none (.t 0)),.op 118 (.bin .gtr (.t 2) (.t 0))] [5,6,7,8,9,0]) (.cond (.t 5) (.region [.op 13 (.move (.k (.c (.int .i64 2))))] [1,2,3,4,0]) (.pre [0,1,2,3,4] .skip)))
@[simp] def c3_n36:SCode:=(.region [.op 119 (.move (.t 3)),.op 120 (.len 1 (.t 0)),.op 121 (.bin .eql (.t 0) (.k (.c (.int .i64 2)))),.op 122 (.move (.t 0)),.andN 128 0 [.op 123 (.fieldAddr 1 (.t 4)),.op 124 (.load none (.t 0)),.op 125 (.fieldAddr 1 (.t 7)),.op 126 (.load none (.t 0)),.op 127 (.bin .eql (.t 2) (.t 0))] (.t 0),.op 129 (.move (.t 0)),.andN 133 0 [.op 130 (.move (.t 8)),.op 131 (.move (.t 11)),.op 132 (.bin .eql (.t 1) (.t 0))] (.t 0),.op 134 (.move (.t 0)),.andN 136 0 [.op 135 (.call false (.k (.c (.func 10 [] []))) [])] (.t 0),.op 4 (.move (.t 0))] [0])
def c3_n35:SCode:=.seq c3_n36 .ret
instance:IsSeq c3_n35 c3_n36 .ret:=⟨rfl⟩
def c3_n33:SCode:=.seq c3_n34 c3_n35
instance:IsSeq c3_n33 c3_n34 c3_n35:=⟨rfl⟩
def c3_n31:SCode:=.seq c3_n32 c3_n33
instance:IsSeq c3_n31 c3_n32 c3_n33:=⟨rfl⟩
def c3_n30:SCode:=.seq (.region [.op 13 (.move (.k (.c (.int .i64 0))))] [1,2,3,4,0]) c3_n31
instance:IsSeq c3_n30 (.region [.op 13 (.move (.k (.c (.int .i64 0))))] [1,2,3,4,0]) c3_n31:=⟨rfl⟩
def c3_n13:SCode:=.seq c3_n29 c3_n30
instance:IsSeq c3_n13 c3_n29 c3_n30:=⟨rfl⟩
def c3_n11:SCode:=.seq c3_n12 c3_n13
instance:IsSeq c3_n11 c3_n12 c3_n13:=⟨rfl⟩
def c3_n9:SCode:=.seq c3_n10 c3_n11
instance:IsSeq c3_n9 c3_n10 c3_n11:=⟨rfl⟩
def c3_n7:SCode:=.seq c3_n8 c3_n9
instance:IsSeq c3_n7 c3_n8 c3_n9:=⟨rfl⟩
def c3_n5:SCode:=.seq c3_n6 c3_n7
instance:IsSeq c3_n5 c3_n6 c3_n7:=⟨rfl⟩
def c3_n3:SCode:=.seq c3_n4 c3_n5
instance:IsSeq c3_n3 c3_n4 c3_n5:=⟨rfl⟩
def c3_n1:SCode:=.seq c3_n2 c3_n3
instance:IsSeq c3_n1 c3_n2 c3_n3:=⟨rfl⟩
def c3:SCode:=(.seq (.region [.op 2 (.box (.t 0)),.op 3 (.box (.t 2)),.op 4 (.move (.k (.c (.bool false))))] [2,1]) c3_n1)
def F3:SFunc:=.code .pure 137 2 [some 4] [.tmp 0] c3
@[simp] def c9_n2:SCode:=(.seq (.draw 0 [.op 3 (.fieldAddr 0 (.t 0)),.op 4 (.load none (.t 0)) none .var,.op 5 (.call false (.k (.c (.func 56 [] []))) [(.t 0),(.k (.c (.int .i64 0))),(.k (.c (.int .i64 86399999)))]),.op 6 (.fieldAddr 1 (.t 3)),.op 7 (.load none (.t 0)) none .var,.op 8 (.call false (.k (.c (.func 56 [] []))) [(.t 0),(.k (.c (.int .i64 0))),(.k (.c (.int .i64 86399999)))]),.op 9 (.bin .add (.t 3) (.t 0)),.op 10 (.bin .neq (.t 0) (.k (.c (.int .i64 0))))] [0]) (.cond (.t 0) (.seq (.region [.op 2 (.move (.k (.c (.int .i64 3))))] [0]) .ret) (.pre [] .skip)))
def c9_n1:SCode:=.seq c9_n2 (.seq (.region [.op 2 (.move (.k (.c (.int .i64 0))))] [0]) .ret)
instance:IsSeq c9_n1 c9_n2 (.seq (.region [.op 2 (.move (.k (.c (.int .i64 0))))] [0]) .ret):=⟨rfl⟩
def c9:SCode:=(.seq (.region [.op 1 (.box (.t 0)),.op 2 (.move (.k (.c (.int .i64 0))))] [1]) c9_n1)
def F9:SFunc:=.code .pure 11 1 [some 2] [.tmp 0] c9
@[simp] def c11_n2:SCode:=(.seq (.draw 0 [.op 9 (.fieldAddr 0 (.t 0)),.op 10 (.load none (.t 0)) none .var,.op 11 (.fieldAddr 1 (.t 2)),.op 12 (.load none (.t 0)) none .var,.op 13 (.buildSlice 1 none 2 [(.c (.int .i64 0))] [(0,(.t 2)),(1,(.t 0))]),.op 14 (.call true (.k (.c (.func 58 [] []))) [(.t 0)]),.op 15 (.fieldAddr 0 (.t 7)),.op 16 (.load none (.t 0)) none .var,.op 17 (.fieldAddr 1 (.t 9)),.op 18 (.load none (.t 0)) none .var,.op 19 (.buildSlice 1 none 2 [(.c (.int .i64 0))] [(0,(.t 2)),(1,(.t 0))]),.op 20 (.call true (.k (.c (.func 58 [] []))) [(.t 0)]),.op 21 (.buildSlice 1 none 2 [(.c (.int .i64 0))] [(0,(.t 6)),(1,(.t 0))]),.op 22 (.call true (.k (.c (.func 57 [] []))) [(.t 0)]),.op 6 (.move (.t 0))] [15,16,0]) (.seq (.region [.op 23 (.move (.t 2)),.op 24 (.bin .neq (.t 0) (.k (.c (.int .i64 0))))] [2,3,4,0]) (.cond (.t 3) (.seq (.region [.op 25 (.move (.t 2)),.op 4 (.move (.k (.c (.int .i64 0)))),.op 5 (.move (.t 1))] [1,0]) .ret) (.pre [0,1] .skip))))
@[simp] def c11_n4:SCode:=(.draw 0 [.op 26 (.fieldAddr 0 (.t 0)),.op 27 (.load none (.t 0)) none .var,.op 28 (.bin .lss (.t 0) (.k (.c (.int .i64 100)))),.op 29 (.fieldAddr 0 (.t 4)),.op 30 (.load none (.t 0)) none .var,.op 31 (.bin .lss (.t 0) (.k (.c (.int .i64 100)))),.op 7 (.move (.t 3)),.op 8 (.move (.t 1))] [8,9,1,0])
@[simp] def c11_n7:SCode:=(.region [.op 33 (.move (.t 2)),.op 34 (.move (.t 0)),.andN 36 0 [.op 35 (.move (.t 5))] (.t 0),.op 32 (.move (.t 0))] [4,5,6,7,0])
@[simp] def c11_n14:SCode:=(.region [.op 42 (.fieldAddr 1 (.t 0)),.op 43 (.load none (.t 0)),.op 44 (.bin .eql (.t 0) (.k (.c (.int .i64 0)))),.op 45 (.move (.t 0)),.andN 49 0 [.op 46 (.fieldAddr 1 (.t 5)),.op 47 (.load none (.t 0)),.op 48 (.bin .eql (.t 0) (.k (.c (.int .i64 0))))] (.t 0),.op 41 (.move (.t 0))] [6,7,0])
@[simp] def c11_n17:SCode:=(.region [.op 51 (.fieldAddr 1 (.t 0)),.op 52 (.load none (.t 0)),.op 53 (.bin .eql (.t 0) (.k (.c (.int .i64 0)))),.op 50 (.move (.t 0))] [4,5,0])
def c11_n18:SCode:=.cond (.t 2) (.seq (.region [.op 4 (.move (.k (.c (.int .i64 2)))),.op 5 (.move (.k (.c (.int .i64 0))))] [1,0]) .ret) (.seq (.region [.op 55 (.fieldAddr 1 (.t 1)),.op 56 (.load none (.t 0)),.op 57 (.bin .eql (.t 0) (.k (.c (.int .i64 0)))),.op 54 (.move (.t 0))] [4,5,0]) (.cond (.t 2) (.seq (.region [.op 4 (.move (.k (.c (.int .i64 1)))),.op 5 (.move (.k (.c (.int .i64 0))))] [1,0]) .ret) (.pre [0,1] .skip)))
instance:IsCond c11_n18 (.t 2) (.seq (.region [.op 4 (.move (.k (.c (.int .i64 2)))),.op 5 (.move (.k (.c (.int .i64 0))))] [1,0]) .ret) (.seq (.region [.op 55 (.fieldAddr 1 (.t 1)),.op 56 (.load none (.t 0)),.op 57 (.bin .eql (.t 0) (.k (.c (.int .i64 0)))),.op 54 (.move (.t 0))] [4,5,0]) (.cond (.t 2) (.seq (.region [.op 4 (.move (.k (.c (.int .i64 1)))),.op 5 (.move (.k (.c (.int .i64 0))))] [1,0]) .ret) (.pre [0,1] .skip))):=⟨rfl⟩
def c11_n16:SCode:=.seq c11_n17 c11_n18
instance:IsSeq c11_n16 c11_n17 c11_n18:=⟨rfl⟩
def c11_n15:SCode:=.cond (.t 2) (.seq (.region [.op 4 (.move (.k (.c (.int .i64 0)))),.op 5 (.move (.k (.c (.int .i64 0))))] [1,0]) .ret) c11_n16
instance:IsCond c11_n15 (.t 2) (.seq (.region [.op 4 (.move (.k (.c (.int .i64 0)))),.op 5 (.move (.k (.c (.int .i64 0))))] [1,0]) .ret) c11_n16:=⟨rfl⟩
def c11_n13:SCode:=.seq c11_n14 c11_n15
instance:IsSeq c11_n13 c11_n14 c11_n15:=⟨rfl⟩
def c11_n12:SCode:=.cond (.t 2) (.seq (.region [.op 4 (.move (.k (.c (.int .i64 1)))),.op 5 (.move (.k (.c (.int .i64 0))))] [1,0]) .ret) c11_n13
instance:IsCond c11_n12 (.t 2) (.seq (.region [.op 4 (.move (.k (.c (.int .i64 1)))),.op 5 (.move (.k (.c (.int .i64 0))))] [1,0]) .ret) c11_n13:=⟨rfl⟩
def c11_n11:SCode:=.seq (.region [.op 40 (.move (.t 2)),.op 39 (.move (.t 0))] [2,3,0]) c11_n12
instance:IsSeq c11_n11 (.region [.op 40 (.move (.t 2)),.op 39 (.move (.t 0))] [2,3,0]) c11_n12:=⟨rfl⟩
def c11_n10:SCode:=.cond (.t 3) (.seq (.region [.op 4 (.move (.k (.c (.int .i64 2)))),.op 5 (.move (.k (.c (.int .i64 0))))] [1,0]) .ret) c11_n11
instance:IsCond c11_n10 (.t 3) (.seq (.region [.op 4 (.move (.k (.c (.int .i64 2)))),.op 5 (.move (.k (.c (.int .i64 0))))] [1,0]) .ret) c11_n11:=⟨rfl⟩
def c11_n9:SCode:=.seq (.region [.op 38 (.move (.t 2)),.op 37 (.move (.t 0))] [2,3,5,0]) c11_n10
instance:IsSeq c11_n9 (.region [.op 38 (.move (.t 2)),.op 37 (.move (.t 0))] [2,3,5,0]) c11_n10:=⟨rfl⟩
def c11_n8:SCode:=.cond (.t 4) (.seq (.region [.op 4 (.move (.k (.c (.int .i64 3)))),.op 5 (.move (.k (.c (.int .i64 0))))] [1,0]) .ret) c11_n9
instance:IsCond c11_n8 (.t 4) (.seq (.region [.op 4 (.move (.k (.c (.int .i64 3)))),.op 5 (.move (.k (.c (.int .i64 0))))] [1,0]) .ret) c11_n9:=⟨rfl⟩
def c11_n6:SCode:=.seq c11_n7 c11_n8
instance:IsSeq c11_n6 c11_n7 c11_n8:=⟨rfl⟩
@[simp] def c11_n22:SCode:=(.region [.op 71 (.bin .eql (.t 0) (.k (.c (.int .i64 (-1))))),.op 70 (.move (.t 0))] [2,0])
def c11_n23:SCode:=.cond (.t 1) (.seq (.region [.op 4 (.move (.k (.c (.int .i64 1)))),.op 5 (.move (.k (.c (.int .i64 0))))] [1,0]) .ret) (.seq (.region [.op 73 (.bin .eql (.t 0) (.k (.c (.int .i64 1)))),.op 72 (.move (.t 0))] [0]) (.cond (.t 0) (.seq (.region [.op 4 (.move (.k (.c (.int .i64 2)))),.op 5 (.move (.k (.c (.int .i64 0))))] [1,0]) .ret) (.pre [] .skip)))
instance:IsCond c11_n23 (.t 1) (.seq (.region [.op 4 (.move (.k (.c (.int .i64 1)))),.op 5 (.move (.k (.c (.int .i64 0))))] [1,0]) .ret) (.seq (.region [.op 73 (.bin .eql (.t 0) (.k (.c (.int .i64 1)))),.op 72 (.move (.t 0))] [0]) (.cond (.t 0) (.seq (.region [.op 4 (.move (.k (.c (.int .i64 2)))),.op 5 (.move (.k (.c (.int .i64 0))))] [1,0]) .ret) (.pre [] .skip))):=⟨rfl⟩
def c11_n21:SCode:=.seq c11_n22 c11_n23
instance:IsSeq c11_n21 c11_n22 c11_n23:=⟨rfl⟩
def c11_n20:SCode:=.block 1 [] c11_n21
instance:IsBlock c11_n20 1 [] c11_n21:=⟨rfl⟩
@[simp] def c11_n24:SCode:=(.seq (.draw 1 [.op 58 (.fieldAddr 1 (.t 0)),.op 59 (.load none (.t 0)) none .var,.op 60 (.fieldAddr 1 (.t 3)),.op 61 (.load none (.t 0)) none .var,.op 62 (.call false (.k (.c (.func 60 [] []))) [(.t 2),(.t 0)]),.op 63 (.fieldAddr 0 (.t 5)),.op 64 (.load none (.t 0)) none .var,.op 65 (.fieldAddr 0 (.t 8)),.op 66 (.load none (.t 0)) none .var,.op 67 (.call false (.k (.c (.func 60 [] []))) [(.t 2),(.t 0)]),.op 68 (.buildSlice 2 none 2 [(.c (.int .i64 0))] [(0,(.t 5)),(1,(.t 0))]) (some 0),.op 69 (.call false (.k (.c (.func 59 [] []))) [(.t 0)])] [0]) c11_n20)
def c11_n19:SCode:=.seq c11_n24 (.seq (.region [.op 4 (.move (.k (.c (.int .i64 0)))),.op 5 (.move (.k (.c (.int .i64 0))))] [1,0]) .ret)
instance:IsSeq c11_n19 c11_n24 (.seq (.region [.op 4 (.move (.k (.c (.int .i64 0)))),.op 5 (.move (.k (.c (.int .i64 0))))] [1,0]) .ret):=⟨rfl⟩
def c11_n5:SCode:=.seq (.block 0 [some 2,some 3] c11_n6) c11_n19
instance:IsSeq c11_n5 (.block 0 [some 2,some 3] c11_n6) c11_n19:=⟨rfl⟩
def c11_n3:SCode:=.seq c11_n4 c11_n5
instance:IsSeq c11_n3 c11_n4 c11_n5:=⟨rfl⟩
def c11_n1:SCode:=.seq c11_n2 c11_n3
instance:IsSeq c11_n1 c11_n2 c11_n3:=⟨rfl⟩
def c11:SCode:=(.seq (.region [.op 2 (.box (.t 0)),.op 3 (.box (.t 2)),.op 4 (.move (.k (.c (.int .i64 0)))),.op 5 (.move (.k (.c (.int .i64 0))))] [3,2]) c11_n1)
def F11:SFunc:=.code .pure 74 2 [some 4,some 5] [.tmp 0,.tmp 1] c11
@[simp] def c12_n4:SCode:=(.region [.op 27 (.move (.t 4)),.op 28 (.idxSlice 2 (.t 3) (.t 5)),.op 29 (.load (some 2) (.t 0)),.op 9 (.new [(.c (.int .i64 0)),(.c (.int .i64 0))]),.op 8 (.move (.t 3)),.eff (.store 2 (.t 1) (.t 2))] [5,6,0,1,7,8,9])
@[simp] def c12_n6:SCode:=(.region [.op 30 (.move (.t 2)),.op 31 (.fieldAddr 1 (.t 4)),.op 32 (.load none (.t 0)),.op 33 (.build [(.c (.int .i64 0)),(.c (.str [])),(.c (.int .i64 0)),(.c (.int .i64 0))] [(0,1,(.t 2)),(1,1,(.k (.c (.str [102,105,110,105,115,104])))),(2,1,(.t 0)),(3,1,(.k (.c (.int .i64 86399999))))]),.op 10 (.new [(.c (.int .i64 0)),(.c (.str [])),(.c (.int .i64 0)),(.c (.int .i64 0))]),.eff (.store 4 (.t 0) (.t 1))] [5,6,7,8,0,9,10,11])
@[simp] def c12_n8:SCode:=(.seq (.region [.op 34 (.fieldAddr 1 (.t 3)),.op 35 (.load none (.t 0)),.op 36 (.bin .eql (.t 0) (.k (.c (.int .i64 0))))] [3,4,5,6,7,8,9,10,0]) (.cond (.t 8) (.region [.op 37 (.move (.t 2)),.op 38 (.build [(.c (.int .i64 0)),(.c (.str [])),(.c (.int .i64 0)),(.c (.int .i64 0))] [(0,1,(.t 0)),(1,1,(.k (.c (.str [102,97,108,108])))),(3,1,(.k (.c (.int .i64 86399999))))]),.eff (.store 4 (.t 6) (.t 0))] [2,3,4,5,6,7,8,9]) (.pre [0,1,2,3,4,5,6,7] .skip)))
@[simp] def c12_n10:SCode:=(.seq (.region [.op 39 (.fieldAddr 0 (.t 3)),.op 40 (.load none (.t 0)),.op 41 (.bin .lss (.t 0) (.k (.c (.int .i64 100))))] [3,4,5,7,8,9,10,0]) (.cond (.t 7) (.region [.op 42 (.move (.t 2)),.op 43 (.build [(.c (.int .i64 0)),(.c (.str [])),(.c (.int .i64 0)),(.c (.int .i64 0))] [(0,1,(.t 0)),(1,1,(.k (.c (.str [102,97,108,115,101])))),(3,1,(.k (.c (.int .i64 86399999))))]),.eff (.store 4 (.t 5) (.t 0))] [2,3,5,6,7,8]) (.pre [0,1,3,4,5,6] .skip)))
def c12_n9:SCode:=.seq c12_n10 (.region [.op 44 (.move (.t 1)),.op 45 (.load (some 4) (.t 3)),.op 46 (.buildSlice 2 (some 4) 1 [(.c (.int .i64 0)),(.c (.str [])),(.c (.int .i64 0)),(.c (.int .i64 0))] [(0,(.t 0))]),.op 47 (.append (some 4) 40 (.t 2) (.t 0)),.op 7 (.move (.t 0))] [5,0,8,9,10])
instance:IsSeq c12_n9 c12_n10 (.region [.op 44 (.move (.t 1)),.op 45 (.load (some 4) (.t 3)),.op 46 (.buildSlice 2 (some 4) 1 [(.c (.int .i64 0)),(.c (.str [])),(.c (.int .i64 0)),(.c (.int .i64 0))] [(0,(.t 0))]),.op 47 (.append (some 4) 40 (.t 2) (.t 0)),.op 7 (.move (.t 0))] [5,0,8,9,10]):=⟨rfl⟩
def c12_n7:SCode:=.seq c12_n8 c12_n9
instance:IsSeq c12_n7 c12_n8 c12_n9:=⟨rfl⟩
def c12_n5:SCode:=.seq c12_n6 c12_n7
instance:IsSeq c12_n5 c12_n6 c12_n7:=⟨rfl⟩
def c12_n3:SCode:=.seq c12_n4 c12_n5
instance:IsSeq c12_n3 c12_n4 c12_n5:=⟨rfl⟩
def c12_n2:SCode:=.seq (.block 1 [some 6,some 7,some 23,some 24,some 25] c12_n3) (.region [.op 48 (.bin .add (.t 4) (.k (.c (.int .i64 1)))),.op 25 (.move (.t 0))] [2,3,4,5,0])
instance:IsSeq c12_n2 (.block 1 [some 6,some 7,some 23,some 24,some 25] c12_n3) (.region [.op 48 (.bin .add (.t 4) (.k (.c (.int .i64 1)))),.op 25 (.move (.t 0))] [2,3,4,5,0]):=⟨rfl⟩
def c12_n1:SCode:=.seq (.cond (.t 5) (.pre [0,1,2,3,4] .skip) (.pre [0,1] (.exit 0))) c12_n2
instance:IsSeq c12_n1 (.cond (.t 5) (.pre [0,1,2,3,4] .skip) (.pre [0,1] (.exit 0))) c12_n2:=⟨rfl⟩
def c12_l0b:SCode:=(.seq (.region [.op 26 (.bin .lss (.t 4) (.t 3))] [1,2,3,4,5,0]) c12_n1)
def c12_l0:SCode:=.loop true c12_l0b
@[simp] def c12_n12:SCode:=(.region [.op 16 (.buildSlice 0 none 2 [(.c (.str []))] [(0,(.k (.c (.str [97,110,110])))),(1,(.k (.c (.str [98,101,110]))))]),.op 17 (.build [(.c (.str [])),.nil,(.c (.int .i64 0)),(.c (.int .i64 0))] [(0,1,(.k (.c (.str [115,112,101,101,100])))),(1,1,(.t 0)),(2,1,(.k (.c (.int .i64 1)))),(3,1,(.k (.c (.int .i64 1))))]),.op 6 (.new [(.c (.str [])),.nil,(.c (.int .i64 0)),(.c (.int .i64 0))]),.eff (.store 4 (.t 0) (.t 1))] [3,4,0])
@[simp] def c12_n14:SCode:=(.region [.op 18 (.build [(.c (.int .i64 0)),(.c (.str [])),(.c (.int .i64 0)),(.c (.int .i64 0))] [(0,1,(.k (.c (.int .i64 0)))),(1,1,(.k (.c (.str [115,116,97,114,116])))),(2,1,(.k (.c (.int .i64 1))))]),.op 19 (.build [(.c (.int .i64 0)),(.c (.str [])),(.c (.int .i64 0)),(.c (.int .i64 0))] [(0,1,(.k (.c (.int .i64 1)))),(1,1,(.k (.c (.str [115,116,97,114,116])))),(2,1,(.k (.c (.int .i64 2))))]),.op 20 (.buildSlice 3 (some 4) 2 [(.c (.int .i64 0)),(.c (.str [])),(.c (.int .i64 0)),(.c (.int .i64 0))] [(0,(.t 1)),(1,(.t 0))]),.op 7 (.move (.t 0))] [4,5,6,0])
@[simp] def c12_n16:SCode:=(.seq (.region [.op 21 (.load (some 2) (.t 0)),.op 22 (.load (some 2) (.t 2)),.op 23 (.buildSlice 0 (some 2) 2 [(.c (.int .i64 0)),(.c (.int .i64 0))] [(0,(.t 1)),(1,(.t 0))]),.op 24 (.len 1 (.t 0)),.op 25 (.move (.k (.c (.int .i64 0))))] [7,8,2,1,0]) (.block 0 [some 6,some 7] c12_l0))
@[simp] def c12_n18:SCode:=(.region [.op 50 (.load (some 4) (.t 0)),.op 51 (.move (.t 2)),.op 52 (.call false (.k (.c (.func 26 [] []))) [(.t 1),(.t 0)]),.op 49 (.move (.t 0)),.op 53 (.extract (.t 0) 0),.op 54 (.extract (.t 1) 1),.op 55 (.extract (.t 2) 2),.op 11 (.new [(.c (.int .i64 0)),.nil]),.eff (.store 2 (.t 0) (.t 3)),.op 12 (.move (.t 2)),.op 13 (.move (.t 2))] [10,2,1,0])
@[simp] def c12_n20:SCode:=(.region [.op 57 (.load (some 4) (.t 0)),.op 58 (.load (some 2) (.t 2)),.op 59 (.call false (.k (.c (.func 52 [] []))) [(.t 1),(.t 0)]),.op 56 (.move (.t 0)),.op 60 (.extract (.t 0) 0),.op 61 (.extract (.t 1) 1),.op 14 (.move (.t 1)),.op 15 (.move (.t 1))] [10,11,1,0])
@[simp] def c12_n22:SCode:=(.region [.op 62 (.move (.t 2)),.op 63 (.move (.t 2)),.op 64 (.move (.t 5)),.op 65 (.bin .add (.t 1) (.t 0)),.op 66 (.bin .eql (.t 0) (.k (.c (.int .i64 0)))),.op 67 (.move (.t 0)),.andN 71 0 [.op 68 (.move (.t 6)),.op 69 (.len 1 (.t 0)),.op 70 (.bin .eql (.t 0) (.k (.c (.int .i64 0))))] (.t 0),.op 72 (.move (.t 0)),.andN 76 0 [.op 73 (.move (.t 10)),.op 74 (.len 1 (.t 0)),.op 75 (.bin .eql (.t 0) (.k (.c (.int .i64 2))))] (.t 0),.op 4 (.move (.t 8)),.op 5 (.move (.t 1))] [1,0])
def c12_n21:SCode:=.seq c12_n22 .ret
instance:IsSeq c12_n21 c12_n22 .ret:=⟨rfl⟩
def c12_n19:SCode:=.seq c12_n20 c12_n21
instance:IsSeq c12_n19 c12_n20 c12_n21:=⟨rfl⟩
def c12_n17:SCode:=.seq c12_n18 c12_n19
instance:IsSeq c12_n17 c12_n18 c12_n19:=⟨rfl⟩
def c12_n15:SCode:=.seq c12_n16 c12_n17
instance:IsSeq c12_n15 c12_n16 c12_n17:=⟨rfl⟩
def c12_n13:SCode:=.seq c12_n14 c12_n15
instance:IsSeq c12_n13 c12_n14 c12_n15:=⟨rfl⟩
def c12_n11:SCode:=.seq c12_n12 c12_n13
instance:IsSeq c12_n11 c12_n12 c12_n13:=⟨rfl⟩
def c12:SCode:=(.seq (.region [.op 2 (.box (.t 0)),.op 3 (.box (.t 2)),.op 4 (.mkNil (some 3)),.op 5 (.move (.k (.c (.bool false))))] [3,2]) c12_n11)
def F12:SFunc:=.code .pure 77 2 [some 4,some 5] [.tmp 0,.tmp 1] c12
@[simp] def c13_n3:SCode:=(.draw 0 [.op 28 (.move (.t 0)),.op 29 (.move (.t 4)),.op 30 (.idxSlice 3 (.t 1) (.t 0)),.op 31 (.fieldAddr 0 (.t 0)),.op 32 (.load none (.t 0)) none .old,.op 33 (.move (.t 5)),.op 34 (.move (.t 8)),.op 35 (.idxSlice 3 (.t 1) (.t 0)),.op 36 (.fieldAddr 0 (.t 0)),.op 37 (.load none (.t 0)) none .old,.op 38 (.bin .eql (.t 5) (.t 0))] [11,12,13,14,0])
def c13_n2:SCode:=.seq c13_n3 (.cond (.t 4) (.seq (.region [.op 2 (.move (.k (.c (.int .i64 9))))] [0]) .ret) (.pre [0,1,2,3] .skip))
instance:IsSeq c13_n2 c13_n3 (.cond (.t 4) (.seq (.region [.op 2 (.move (.k (.c (.int .i64 9))))] [0]) .ret) (.pre [0,1,2,3] .skip)):=⟨rfl⟩
def c13_n1:SCode:=.seq (.block 3 [some 0,some 3,some 4,some 5] c13_n2) (.region [.op 26 (.move (.t 3)),.op 27 (.bin .add (.t 0) (.k (.c (.int .i64 1)))),.op 5 (.move (.t 0))] [3,4,5,0])
instance:IsSeq c13_n1 (.block 3 [some 0,some 3,some 4,some 5] c13_n2) (.region [.op 26 (.move (.t 3)),.op 27 (.bin .add (.t 0) (.k (.c (.int .i64 1)))),.op 5 (.move (.t 0))] [3,4,5,0]):=⟨rfl⟩
def c13_l0b:SCode:=(.seq (.seq (.region [.op 23 (.move (.t 3)),.op 24 (.move (.t 3)),.op 25 (.bin .lss (.t 1) (.t 0))] [3,4,5,6,0]) (.cond (.t 4) (.pre [0,1,2,3] .skip) (.pre [0,1,2] (.exit 2)))) c13_n1)
def c13_l0:SCode:=.loop true c13_l0b
@[simp] def c13_n6:SCode:=(.seq (.region [.op 16 (.move (.t 0)),.op 17 (.move (.t 3)),.op 18 (.idxSlice 3 (.t 1) (.t 0)),.op 19 (.fieldAddr 0 (.t 0)),.op 20 (.load none (.t 0)),.op 21 (.call false (.k (.c (.func 61 [] []))) [(.t 0)]),.op 22 (.not (.t 0))] [7,8,9,0]) (.cond (.t 3) (.seq (.region [.op 2 (.move (.k (.c (.int .i64 8))))] [0]) .ret) (.pre [0,1,2] .skip)))
@[simp] def c13_n8:SCode:=(.seq (.region [.op 5 (.move (.k (.c (.int .i64 0))))] [1,2,3,0]) (.block 2 [some 0,some 3,some 4] c13_l0))
@[simp] def c13_n10:SCode:=(.region [.op 39 (.move (.t 0)),.op 40 (.move (.t 3)),.op 41 (.idxSlice 3 (.t 1) (.t 0)),.op 42 (.load (some 3) (.t 0)),.op 43 (.call false (.k (.c (.func 62 [] []))) [(.t 0)]),.op 6 (.move (.t 0))] [6,7,8,0])
@[simp] def c13_n12:SCode:=(.seq (.region [.op 44 (.move (.t 3)),.op 45 (.bin .neq (.t 0) (.k (.c (.int .i64 0))))] [2,3,4,5,0]) (.cond (.t 4) (.seq (.region [.op 46 (.move (.t 3)),.op 2 (.move (.t 0))] [0]) .ret) (.pre [0,1,2] .skip)))
@[simp] def c13_n14:SCode:=(.seq (.region [.op 47 (.move (.t 0)),.op 48 (.move (.t 3)),.op 49 (.idxSlice 3 (.t 1) (.t 0)),.op 50 (.fieldAddr 1 (.t 0)),.op 51 (.load none (.t 0)),.op 52 (.bin .eql (.t 0) (.k (.c (.str [])))),.op 53 (.move (.t 0)),.andN 56 0 [.op 54 (.move (.t 8)),.op 55 (.bin .lss (.t 0) (.k (.c (.int .i64 0))))] (.t 0)] [8,9,10,0]) (.cond (.t 3) (.region [.op 57 (.move (.t 0)),.op 58 (.move (.t 3)),.op 59 (.idxSlice 3 (.t 1) (.t 0)),.op 60 (.fieldAddr 2 (.t 0)),.op 61 (.load none (.t 0)),.op 62 (.len 1 (.t 0)),.op 3 (.move (.t 0))] [7,0,9]) (.pre [0,1,2] .skip)))
@[simp] def c13_n16:SCode:=(.region [.op 63 (.move (.t 0)),.op 64 (.move (.t 3)),.op 65 (.idxSlice 3 (.t 1) (.t 0)),.op 66 (.fieldAddr 1 (.t 0)),.op 67 (.load none (.t 0)),.op 68 (.bin .eql (.t 0) (.k (.c (.str [])))),.op 69 (.move (.t 0)),.andN 78 0 [.op 70 (.move (.t 7)),.op 71 (.move (.t 10)),.op 72 (.idxSlice 3 (.t 1) (.t 0)),.op 73 (.fieldAddr 2 (.t 0)),.op 74 (.load none (.t 0)),.op 75 (.len 1 (.t 0)),.op 76 (.move (.t 14)),.op 77 (.bin .neq (.t 1) (.t 0))] (.t 0)] [8,9,10,0])
def c13_n15:SCode:=.seq c13_n16 (.cond (.t 3) (.seq (.region [.op 2 (.move (.k (.c (.int .i64 2))))] [0]) .ret) (.pre [0,1,2] .skip))
instance:IsSeq c13_n15 c13_n16 (.cond (.t 3) (.seq (.region [.op 2 (.move (.k (.c (.int .i64 2))))] [0]) .ret) (.pre [0,1,2] .skip)):=⟨rfl⟩
def c13_n13:SCode:=.seq c13_n14 c13_n15
instance:IsSeq c13_n13 c13_n14 c13_n15:=⟨rfl⟩
def c13_n11:SCode:=.seq c13_n12 c13_n13
instance:IsSeq c13_n11 c13_n12 c13_n13:=⟨rfl⟩
def c13_n9:SCode:=.seq c13_n10 c13_n11
instance:IsSeq c13_n9 c13_n10 c13_n11:=⟨rfl⟩
def c13_n7:SCode:=.seq c13_n8 c13_n9
instance:IsSeq c13_n7 c13_n8 c13_n9:=⟨rfl⟩
def c13_n5:SCode:=.seq c13_n6 c13_n7
instance:IsSeq c13_n5 c13_n6 c13_n7:=⟨rfl⟩
def c13_n4:SCode:=.seq (.block 1 [some 0,some 3,some 4] c13_n5) (.region [.op 14 (.move (.t 2)),.op 15 (.bin .add (.t 0) (.k (.c (.int .i64 1)))),.op 4 (.move (.t 0))] [3,4,0])
instance:IsSeq c13_n4 (.block 1 [some 0,some 3,some 4] c13_n5) (.region [.op 14 (.move (.t 2)),.op 15 (.bin .add (.t 0) (.k (.c (.int .i64 1)))),.op 4 (.move (.t 0))] [3,4,0]):=⟨rfl⟩
def c13_l1b:SCode:=(.seq (.seq (.region [.op 10 (.move (.t 2)),.op 11 (.move (.t 1)),.op 12 (.len 1 (.t 0)),.op 13 (.bin .lss (.t 2) (.t 0))] [4,5,6,0]) (.cond (.t 3) (.pre [0,1,2] .skip) (.pre [] (.exit 0)))) c13_n4)
def c13_l1:SCode:=.loop true c13_l1b
@[simp] def c13_n18:SCode:=(.seq (.region [.op 7 (.move (.t 0)),.op 8 (.len 1 (.t 0)),.op 9 (.bin .gtr (.t 0) (.k (.c (.int .i64 160))))] [3,0]) (.cond (.t 1) (.seq (.region [.op 2 (.move (.k (.c (.int .i64 5))))] [0]) .ret) (.pre [0] .skip)))
def c13_n17:SCode:=.seq c13_n18 (.seq (.region [.op 3 (.move (.k (.c (.int .i64 (-1)))))] [1,0]) (.seq (.seq (.region [.op 4 (.move (.k (.c (.int .i64 0))))] [1,2,0]) (.block 0 [] c13_l1)) (.seq (.region [.op 2 (.move (.k (.c (.int .i64 0))))] [0]) .ret)))
instance:IsSeq c13_n17 c13_n18 (.seq (.region [.op 3 (.move (.k (.c (.int .i64 (-1)))))] [1,0]) (.seq (.seq (.region [.op 4 (.move (.k (.c (.int .i64 0))))] [1,2,0]) (.block 0 [] c13_l1)) (.seq (.region [.op 2 (.move (.k (.c (.int .i64 0))))] [0]) .ret))):=⟨rfl⟩
def c13:SCode:=(.seq (.region [.op 2 (.move (.k (.c (.int .i64 0))))] [1]) c13_n17)
def F13:SFunc:=.code .pure 79 1 [some 2] [.tmp 0] c13
@[simp] def c14_n2:SCode:=(.seq (.region [.op 7 (.move (.t 0)),.op 8 (.call false (.k (.c (.func 63 [] []))) [(.t 0)]),.op 9 (.move (.t 3)),.op 10 (.call false (.k (.c (.func 64 [] []))) [(.t 0)]),.op 11 (.buildSlice 2 none 2 [(.c (.int .i64 0))] [(0,(.t 2)),(1,(.t 0))]),.op 12 (.call false (.k (.c (.func 57 [] []))) [(.t 0)]),.op 6 (.move (.t 0))] [7,8,0]) (.seq (.region [.op 13 (.move (.t 2)),.op 14 (.bin .neq (.t 0) (.k (.c (.int .i64 0))))] [2,3,4,0]) (.cond (.t 3) (.seq (.region [.op 15 (.move (.t 2)),.op 4 (.mkNil none),.op 5 (.move (.t 1))] [1,0]) .ret) (.pre [0,1] .skip))))
def c14_n1:SCode:=.seq c14_n2 (.seq (.region [.op 16 (.move (.t 0)),.op 17 (.move (.t 2)),.op 18 (.call false (.k (.c (.func 65 [] []))) [(.t 1),(.t 0)]),.op 4 (.move (.t 0)),.op 5 (.move (.k (.c (.int .i64 0))))] [1,0]) .ret)
instance:IsSeq c14_n1 c14_n2 (.seq (.region [.op 16 (.move (.t 0)),.op 17 (.move (.t 2)),.op 18 (.call false (.k (.c (.func 65 [] []))) [(.t 1),(.t 0)]),.op 4 (.move (.t 0)),.op 5 (.move (.k (.c (.int .i64 0))))] [1,0]) .ret):=⟨rfl⟩
def c14:SCode:=(.seq (.region [.op 4 (.mkNil none),.op 5 (.move (.k (.c (.int .i64 0))))] [2,3]) c14_n1)
def F14:SFunc:=.code .pure 19 2 [some 4,some 5] [.tmp 0,.tmp 1] c14
@[simp] def c26_n2:SCode:=(.seq (.region [.op 10 (.load (some 4) (.t 1)),.op 11 (.move (.t 1)),.op 12 (.call false (.k (.c (.func 80 [] []))) [(.t 1),(.t 0)]),.op 7 (.move (.t 0))] [4,5,6,0]) (.seq (.region [.op 13 (.move (.t 3)),.op 14 (.bin .neq (.t 0) (.k (.c (.int .i64 0))))] [2,3,4,5,0]) (.cond (.t 4) (.seq (.region [.op 15 (.build [(.c (.int .i64 0)),.nil] []),.op 16 (.move (.t 4)),.eff (.store 2 (.t 4) (.t 1)),.op 5 (.mkNil (some 2)),.op 6 (.move (.t 1))] [6,1,0]) .ret) (.pre [0,1,2] .skip))))
@[simp] def c26_n4:SCode:=(.region [.op 18 (.load (some 4) (.t 1)),.op 19 (.move (.t 1)),.op 20 (.call false (.k (.c (.func 81 [] []))) [(.t 1),(.t 0)]),.op 17 (.move (.t 0)),.op 21 (.extract (.t 0) 0),.op 22 (.extract (.t 1) 1),.op 8 (.new [(.c (.int .i64 0)),.nil]),.eff (.store 2 (.t 0) (.t 2)),.op 9 (.move (.t 1))] [10,1,0])
def c26_n3:SCode:=.seq c26_n4 (.seq (.region [.op 23 (.load (some 2) (.t 1)),.op 24 (.move (.t 3)),.eff (.store 2 (.t 2) (.t 1)),.op 5 (.move (.t 0)),.op 6 (.move (.k (.c (.int .i64 0))))] [4,1,0]) .ret)
instance:IsSeq c26_n3 c26_n4 (.seq (.region [.op 23 (.load (some 2) (.t 1)),.op 24 (.move (.t 3)),.eff (.store 2 (.t 2) (.t 1)),.op 5 (.move (.t 0)),.op 6 (.move (.k (.c (.int .i64 0))))] [4,1,0]) .ret):=⟨rfl⟩
def c26_n1:SCode:=.seq c26_n2 c26_n3
instance:IsSeq c26_n1 c26_n2 c26_n3:=⟨rfl⟩
def c26:SCode:=(.seq (.region [.op 2 (.box (.t 0)),.op 4 (.new [(.c (.int .i64 0)),.nil]),.op 5 (.mkNil (some 2)),.op 6 (.move (.k (.c (.int .i64 0))))] [5,3,2]) c26_n1)
def F26:SFunc:=.code .pure 25 2 [some 4,some 5,some 6] [.cell 0 (some 2),.tmp 1,.tmp 2] c26
@[simp] def c52_n4:SCode:=(.region [.op 29 (.move (.t 4)),.op 30 (.idxSlice 11 (.t 3) (.t 5)),.op 31 (.load (some 11) (.t 0)),.op 10 (.new [(.c (.str [])),(.c (.str [])),(.c (.int .i64 0)),(.c (.int .i64 0)),(.c (.int .i64 0)),(.c (.int .i64 0)),(.c (.bool false)),(.c (.bool false)),(.c (.bool false)),.nil,.nil]),.op 9 (.move (.t 3)),.eff (.store 11 (.t 1) (.t 2))] [5,6,0,1,7,8,9])
@[simp] def c52_n5:SCode:=(.draw 2 [.op 32 (.move (.t 1)),.op 33 (.fieldAddr 1 (.t 1)),.op 34 (.load none (.t 0)) none .var,.op 35 (.move (.t 5)),.op 36 (.idxSlice 1 (.t 1) (.t 0)),.op 37 (.load none (.t 0)) none .old,.op 38 (.fieldAddr 1 (.t 9)),.op 39 (.load none (.t 0)) none .var,.op 40 (.load (some 4) (.t 8)) none .var,.op 41 (.load (some 11) (.t 12)) none .var,.op 42 (.call false (.k (.c (.func 127 [] []))) [(.t 1),(.t 0)]),.op 43 (.build [(.c (.str [])),(.c (.str [])),.nil] [(0,1,(.t 5)),(1,1,(.t 3)),(2,1,(.t 0))]),.op 44 (.buildSlice 2 (some 3) 1 [(.c (.str [])),(.c (.str [])),.nil] [(0,(.t 0))]) (some 0),.op 45 (.append (some 3) 56 (.t 12) (.t 0)) (some 1) .own,.op 8 (.move (.t 0))] [15,0,19,20,21])
def c52_n3:SCode:=.seq c52_n4 c52_n5
instance:IsSeq c52_n3 c52_n4 c52_n5:=⟨rfl⟩
def c52_n2:SCode:=.seq (.block 1 [some 2,some 8,some 25,some 26,some 27] c52_n3) (.region [.op 46 (.bin .add (.t 4) (.k (.c (.int .i64 1)))),.op 27 (.move (.t 0))] [2,3,4,5,0])
instance:IsSeq c52_n2 (.block 1 [some 2,some 8,some 25,some 26,some 27] c52_n3) (.region [.op 46 (.bin .add (.t 4) (.k (.c (.int .i64 1)))),.op 27 (.move (.t 0))] [2,3,4,5,0]):=⟨rfl⟩
def c52_n1:SCode:=.seq (.cond (.t 5) (.pre [0,1,2,3,4] .skip) (.pre [1] (.exit 0))) c52_n2
instance:IsSeq c52_n1 (.cond (.t 5) (.pre [0,1,2,3,4] .skip) (.pre [1] (.exit 0))) c52_n2:=⟨rfl⟩
def c52_l0b:SCode:=(.seq (.region [.op 28 (.bin .lss (.t 4) (.t 3))] [1,2,3,4,5,0]) c52_n1)
def c52_l0:SCode:=.loop true c52_l0b
@[simp] def c52_n7:SCode:=(.region [.op 11 (.fieldAddr 1 (.t 1)),.op 12 (.load none (.t 0)),.op 13 (.call false (.k (.c (.func 123 [] []))) [(.t 0),(.k (.c (.func 124 [] [])))]),.op 6 (.move (.t 0))] [4,5,0])
@[simp] def c52_n9:SCode:=(.seq (.region [.op 14 (.load (some 4) (.t 0)),.op 15 (.load (some 2) (.t 2)),.op 16 (.call false (.k (.c (.func 82 [] []))) [(.t 1),(.t 0)]),.op 17 (.move (.t 5)),.op 18 (.call false (.k (.c (.func 126 [] []))) [(.t 0),(.k (.c (.int .i64 24)))]),.op 19 (.buildSlice 2 none 2 [(.c (.int .i64 0))] [(0,(.t 2)),(1,(.t 0))]),.op 20 (.call false (.k (.c (.func 125 [] []))) [(.t 0)]),.op 7 (.move (.t 0))] [8,9,0]) (.seq (.region [.op 21 (.move (.t 2)),.op 22 (.bin .neq (.t 0) (.k (.c (.int .i64 0))))] [2,3,4,0]) (.cond (.t 3) (.seq (.region [.op 23 (.move (.t 2)),.op 4 (.mkNil (some 3)),.op 5 (.move (.t 1))] [1,0]) .ret) (.pre [0,1] .skip))))
def c52_n10:SCode:=.seq (.region [.op 8 (.mkNil (some 3))] [1,2,0]) (.seq (.seq (.region [.op 24 (.fieldAddr 1 (.t 1)),.op 25 (.load none (.t 0)),.op 26 (.len 1 (.t 0)),.op 27 (.move (.k (.c (.int .i64 0))))] [4,6,2,1,0]) (.block 0 [some 8] c52_l0)) (.seq (.region [.op 47 (.move (.t 0)),.op 4 (.move (.t 0)),.op 5 (.move (.k (.c (.int .i64 0))))] [1,0]) .ret))
instance:IsSeq c52_n10 (.region [.op 8 (.mkNil (some 3))] [1,2,0]) (.seq (.seq (.region [.op 24 (.fieldAddr 1 (.t 1)),.op 25 (.load none (.t 0)),.op 26 (.len 1 (.t 0)),.op 27 (.move (.k (.c (.int .i64 0))))] [4,6,2,1,0]) (.block 0 [some 8] c52_l0)) (.seq (.region [.op 47 (.move (.t 0)),.op 4 (.move (.t 0)),.op 5 (.move (.k (.c (.int .i64 0))))] [1,0]) .ret)):=⟨rfl⟩
def c52_n8:SCode:=.seq c52_n9 c52_n10
instance:IsSeq c52_n8 c52_n9 c52_n10:=⟨rfl⟩
def c52_n6:SCode:=.seq c52_n7 c52_n8
instance:IsSeq c52_n6 c52_n7 c52_n8:=⟨rfl⟩
def c52:SCode:=(.seq (.region [.op 2 (.box (.t 0)),.op 3 (.box (.t 2)),.op 4 (.mkNil (some 3)),.op 5 (.move (.k (.c (.int .i64 0))))] [3,2]) c52_n6)
def F52:SFunc:=.code .pure 48 2 [some 4,some 5] [.tmp 0,.tmp 1] c52
@[simp] def c56_n2:SCode:=(.seq (.region [.op 7 (.move (.t 0)),.op 8 (.move (.t 2)),.op 9 (.bin .lss (.t 1) (.t 0)),.op 10 (.move (.t 0)),.orN 14 0 [.op 11 (.move (.t 4)),.op 12 (.move (.t 7)),.op 13 (.bin .gtr (.t 1) (.t 0))] (.t 0)] [0]) (.cond (.t 0) (.seq (.region [.op 6 (.move (.k (.c (.int .i64 3))))] [0]) .ret) (.pre [] .skip)))
def c56_n1:SCode:=.seq c56_n2 (.seq (.region [.op 6 (.move (.k (.c (.int .i64 0))))] [0]) .ret)
instance:IsSeq c56_n1 c56_n2 (.seq (.region [.op 6 (.move (.k (.c (.int .i64 0))))] [0]) .ret):=⟨rfl⟩
def c56:SCode:=(.seq (.region [.op 6 (.move (.k (.c (.int .i64 0))))] [1,2,3]) c56_n1)
def F56:SFunc:=.code .pure 15 3 [some 6] [.tmp 0] c56
@[simp] def c57_n3:SCode:=(.block 1 [some 5,some 6,some 7] (.seq (.region [.op 9 (.idxSlice 1 (.t 0) (.t 2)),.op 10 (.load none (.t 0)),.op 4 (.move (.t 0))] [0,3,4,5]) (.seq (.region [.op 11 (.move (.t 0)),.op 12 (.bin .neq (.t 0) (.k (.c (.int .i64 0))))] [2,3,4,5,0]) (.cond (.t 4) (.seq (.region [.op 13 (.move (.t 0)),.op 2 (.move (.t 0))] [0]) .ret) (.pre [1,2,3] .skip)))))
def c57_n2:SCode:=.seq c57_n3 (.region [.op 14 (.bin .add (.t 2) (.k (.c (.int .i64 1)))),.op 7 (.move (.t 0))] [2,3,0])
instance:IsSeq c57_n2 c57_n3 (.region [.op 14 (.bin .add (.t 2) (.k (.c (.int .i64 1)))),.op 7 (.move (.t 0))] [2,3,0]):=⟨rfl⟩
def c57_n1:SCode:=.seq (.cond (.t 3) (.pre [0,1,2] .skip) (.pre [] (.exit 0))) c57_n2
instance:IsSeq c57_n1 (.cond (.t 3) (.pre [0,1,2] .skip) (.pre [] (.exit 0))) c57_n2:=⟨rfl⟩
def c57_l0b:SCode:=(.seq (.region [.op 8 (.bin .lss (.t 2) (.t 1))] [1,2,3,0]) c57_n1)
def c57_l0:SCode:=.loop true c57_l0b
def c57:SCode:=(.seq (.region [.op 2 (.move (.k (.c (.int .i64 0))))] [1]) (.seq (.seq (.region [.op 5 (.move (.t 0)),.op 6 (.len 1 (.t 0)),.op 7 (.move (.k (.c (.int .i64 0))))] [2,1,0]) (.block 0 [] c57_l0)) (.seq (.region [.op 2 (.move (.k (.c (.int .i64 0))))] [0]) .ret)))
def F57:SFunc:=.code .pure 15 1 [some 2] [.tmp 0] c57
@[simp] def c58_n2:SCode:=(.region [.op 3 (.move (.t 0)),.op 4 (.call false (.k (.c (.func 132 [] []))) [(.t 0)]),.op 5 (.bin .lss (.t 0) (.k (.c (.int .i64 0)))),.op 6 (.move (.t 0)),.orN 10 0 [.op 7 (.move (.t 4)),.op 8 (.call false (.k (.c (.func 120 [] []))) [(.t 0)]),.op 9 (.bin .gtr (.t 0) (.k (.c (.int .i64 86399999))))] (.t 0),.op 11 (.call false (.k (.c (.func 73 [] []))) [(.t 0),(.k (.c (.int .i64 3)))]),.op 2 (.move (.t 0))] [0])
def c58_n1:SCode:=.seq c58_n2 .ret
instance:IsSeq c58_n1 c58_n2 .ret:=⟨rfl⟩
def c58:SCode:=(.seq (.region [.op 2 (.move (.k (.c (.int .i64 0))))] [1]) c58_n1)
def F58:SFunc:=.code .pure 12 1 [some 2] [.tmp 0] c58
@[simp] def c59_n3:SCode:=(.block 1 [some 3,some 6,some 7,some 8] (.seq (.region [.op 10 (.idxSlice 1 (.t 1) (.t 3)),.op 11 (.load none (.t 0)),.op 5 (.move (.t 0))] [3,0,4,5,6]) (.seq (.region [.op 12 (.move (.t 1)),.op 13 (.move (.t 1)),.op 14 (.bin .neq (.t 1) (.t 0))] [3,4,5,6,7,0]) (.cond (.t 5) (.seq (.region [.op 15 (.move (.t 1)),.op 2 (.move (.t 0))] [0]) .ret) (.pre [0,2,3,4] .skip)))))
def c59_n2:SCode:=.seq c59_n3 (.region [.op 16 (.bin .add (.t 3) (.k (.c (.int .i64 1)))),.op 8 (.move (.t 0))] [2,3,4,0])
instance:IsSeq c59_n2 c59_n3 (.region [.op 16 (.bin .add (.t 3) (.k (.c (.int .i64 1)))),.op 8 (.move (.t 0))] [2,3,4,0]):=⟨rfl⟩
def c59_n1:SCode:=.seq (.cond (.t 4) (.pre [0,1,2,3] .skip) (.pre [0] (.exit 0))) c59_n2
instance:IsSeq c59_n1 (.cond (.t 4) (.pre [0,1,2,3] .skip) (.pre [0] (.exit 0))) c59_n2:=⟨rfl⟩
def c59_l0b:SCode:=(.seq (.region [.op 9 (.bin .lss (.t 3) (.t 2))] [1,2,3,4,0]) c59_n1)
def c59_l0:SCode:=.loop true c59_l0b
def c59:SCode:=(.seq (.region [.op 2 (.move (.k (.c (.int .i64 0))))] [1]) (.seq (.region [.op 3 (.move (.k (.c (.int .i64 0))))] [1,0]) (.seq (.seq (.region [.op 6 (.move (.t 0)),.op 7 (.len 1 (.t 0)),.op 8 (.move (.k (.c (.int .i64 0))))] [4,2,1,0]) (.block 0 [some 3] c59_l0)) (.seq (.region [.op 17 (.move (.t 0)),.op 2 (.move (.t 0))] [0]) .ret))))
def F59:SFunc:=.code .pure 18 1 [some 2] [.tmp 0] c59
@[simp] def c60_n2:SCode:=(.region [.op 7 (.move (.t 0)),.op 8 (.call false (.k (.c (.func 133 [] []))) [(.t 0)]),.op 5 (.move (.t 0))] [3,4,0])
@[simp] def c60_n4:SCode:=(.region [.op 9 (.move (.t 1)),.op 10 (.call false (.k (.c (.func 133 [] []))) [(.t 0)]),.op 6 (.move (.t 0))] [3,4,5,0])
@[simp] def c60_n6:SCode:=(.seq (.region [.op 11 (.move (.t 2))] [1,2,4,0]) (.cond (.t 3) (.seq (.seq (.region [.op 12 (.move (.t 2))] [0]) (.cond (.t 0) (.seq (.region [.op 4 (.move (.k (.c (.int .i64 0))))] [0]) .ret) (.pre [] .skip))) (.seq (.region [.op 4 (.move (.k (.c (.int .i64 (-1)))))] [0]) .ret)) (.pre [0,1,2] .skip)))
@[simp] def c60_n8:SCode:=(.seq (.region [.op 13 (.move (.t 2))] [1,2,0]) (.cond (.t 2) (.seq (.region [.op 4 (.move (.k (.c (.int .i64 1))))] [0]) .ret) (.pre [0,1] .skip)))
@[simp] def c60_n10:SCode:=(.seq (.region [.op 14 (.move (.t 0)),.op 15 (.move (.t 2)),.op 16 (.bin .lss (.t 1) (.t 0))] [3,4,0]) (.cond (.t 2) (.seq (.region [.op 4 (.move (.k (.c (.int .i64 (-1)))))] [0]) .ret) (.pre [0,1] .skip)))
def c60_n9:SCode:=.seq c60_n10 (.seq (.seq (.region [.op 17 (.move (.t 0)),.op 18 (.move (.t 2)),.op 19 (.bin .gtr (.t 1) (.t 0))] [0]) (.cond (.t 0) (.seq (.region [.op 4 (.move (.k (.c (.int .i64 1))))] [0]) .ret) (.pre [] .skip))) (.seq (.region [.op 4 (.move (.k (.c (.int .i64 0))))] [0]) .ret))
instance:IsSeq c60_n9 c60_n10 (.seq (.seq (.region [.op 17 (.move (.t 0)),.op 18 (.move (.t 2)),.op 19 (.bin .gtr (.t 1) (.t 0))] [0]) (.cond (.t 0) (.seq (.region [.op 4 (.move (.k (.c (.int .i64 1))))] [0]) .ret) (.pre [] .skip))) (.seq (.region [.op 4 (.move (.k (.c (.int .i64 0))))] [0]) .ret)):=⟨rfl⟩
def c60_n7:SCode:=.seq c60_n8 c60_n9
instance:IsSeq c60_n7 c60_n8 c60_n9:=⟨rfl⟩
def c60_n5:SCode:=.seq c60_n6 c60_n7
instance:IsSeq c60_n5 c60_n6 c60_n7:=⟨rfl⟩
def c60_n3:SCode:=.seq c60_n4 c60_n5
instance:IsSeq c60_n3 c60_n4 c60_n5:=⟨rfl⟩
def c60_n1:SCode:=.seq c60_n2 c60_n3
instance:IsSeq c60_n1 c60_n2 c60_n3:=⟨rfl⟩
def c60:SCode:=(.seq (.region [.op 4 (.move (.k (.c (.int .i64 0))))] [1,2]) c60_n1)
def F60:SFunc:=.code .pure 20 2 [some 4] [.tmp 0] c60
@[simp] def c61_n3:SCode:=(.region [.op 20 (.move (.t 0)),.op 21 (.move (.t 2)),.op 22 (.indexStr (.t 1) (.t 0)),.op 4 (.move (.t 0))] [4,5,0])
@[simp] def c61_n5:SCode:=(.region [.op 23 (.move (.t 2)),.op 24 (.bin .geq (.t 0) (.k (.c (.int .u8 97)))),.op 25 (.move (.t 0)),.andN 28 0 [.op 26 (.move (.t 5)),.op 27 (.bin .leq (.t 0) (.k (.c (.int .u8 122))))] (.t 0),.op 29 (.move (.t 0)),.orN 36 0 [.op 30 (.move (.t 7)),.op 31 (.bin .geq (.t 0) (.k (.c (.int .u8 65)))),.op 32 (.move (.t 0)),.andN 35 0 [.op 33 (.move (.t 10)),.op 34 (.bin .leq (.t 0) (.k (.c (.int .u8 90))))] (.t 0)] (.t 0),.op 5 (.move (.t 0))] [7,8,9,0])
@[simp] def c61_n7:SCode:=(.region [.op 37 (.move (.t 3)),.op 38 (.not (.t 0)),.op 39 (.move (.t 0)),.andN 55 0 [.op 40 (.move (.t 4)),.op 41 (.bin .eql (.t 0) (.k (.c (.int .i64 0)))),.op 42 (.move (.t 0)),.orN 54 0 [.op 43 (.move (.t 8)),.op 44 (.bin .geq (.t 0) (.k (.c (.int .u8 48)))),.op 45 (.move (.t 0)),.andN 48 0 [.op 46 (.move (.t 11)),.op 47 (.bin .leq (.t 0) (.k (.c (.int .u8 57))))] (.t 0),.op 49 (.move (.t 0)),.orN 52 0 [.op 50 (.move (.t 13)),.op 51 (.bin .eql (.t 0) (.k (.c (.int .u8 95))))] (.t 0),.op 53 (.not (.t 0))] (.t 0)] (.t 0)] [4,5,0])
def c61_n6:SCode:=.seq c61_n7 (.cond (.t 2) (.seq (.region [.op 2 (.move (.k (.c (.bool false))))] [0]) .ret) (.pre [0,1] .skip))
instance:IsSeq c61_n6 c61_n7 (.cond (.t 2) (.seq (.region [.op 2 (.move (.k (.c (.bool false))))] [0]) .ret) (.pre [0,1] .skip)):=⟨rfl⟩
def c61_n4:SCode:=.seq c61_n5 c61_n6
instance:IsSeq c61_n4 c61_n5 c61_n6:=⟨rfl⟩
def c61_n2:SCode:=.seq c61_n3 c61_n4
instance:IsSeq c61_n2 c61_n3 c61_n4:=⟨rfl⟩
def c61_n1:SCode:=.seq (.block 1 [some 0,some 3] c61_n2) (.region [.op 18 (.move (.t 1)),.op 19 (.bin .add (.t 0) (.k (.c (.int .i64 1)))),.op 3 (.move (.t 0))] [3,0])
instance:IsSeq c61_n1 (.block 1 [some 0,some 3] c61_n2) (.region [.op 18 (.move (.t 1)),.op 19 (.bin .add (.t 0) (.k (.c (.int .i64 1)))),.op 3 (.move (.t 0))] [3,0]):=⟨rfl⟩
def c61_l0b:SCode:=(.seq (.seq (.region [.op 14 (.move (.t 1)),.op 15 (.move (.t 1)),.op 16 (.len 0 (.t 0)),.op 17 (.bin .lss (.t 2) (.t 0))] [4,5,0]) (.cond (.t 2) (.pre [0,1] .skip) (.pre [] (.exit 0)))) c61_n1)
def c61_l0:SCode:=.loop true c61_l0b
@[simp] def c61_n9:SCode:=(.seq (.region [.op 6 (.move (.t 0)),.op 7 (.len 0 (.t 0)),.op 8 (.bin .lss (.t 0) (.k (.c (.int .i64 1)))),.op 9 (.move (.t 0)),.orN 13 0 [.op 10 (.move (.t 4)),.op 11 (.len 0 (.t 0)),.op 12 (.bin .gtr (.t 0) (.k (.c (.int .i64 24))))] (.t 0)] [5,0]) (.cond (.t 1) (.seq (.region [.op 2 (.move (.k (.c (.bool false))))] [0]) .ret) (.pre [0] .skip)))
def c61_n8:SCode:=.seq c61_n9 (.seq (.seq (.region [.op 3 (.move (.k (.c (.int .i64 0))))] [1,0]) (.block 0 [] c61_l0)) (.seq (.region [.op 2 (.move (.k (.c (.bool true))))] [0]) .ret))
instance:IsSeq c61_n8 c61_n9 (.seq (.seq (.region [.op 3 (.move (.k (.c (.int .i64 0))))] [1,0]) (.block 0 [] c61_l0)) (.seq (.region [.op 2 (.move (.k (.c (.bool true))))] [0]) .ret)):=⟨rfl⟩
def c61:SCode:=(.seq (.region [.op 2 (.move (.k (.c (.bool false))))] [1]) c61_n8)
def F61:SFunc:=.code .pure 56 1 [some 2] [.tmp 0] c61
@[simp] def c62_n3:SCode:=(.region [.op 42 (.fieldAddr 2 (.t 0)),.op 43 (.load none (.t 0)),.op 44 (.move (.t 3)),.op 45 (.idxSlice 1 (.t 1) (.t 0)),.op 46 (.load none (.t 0)),.op 47 (.call false (.k (.c (.func 56 [] []))) [(.t 0),(.k (.c (.int .i64 (-999999999)))),(.k (.c (.int .i64 999999999)))]),.op 48 (.bin .neq (.t 0) (.k (.c (.int .i64 0))))] [7,8,0])
def c62_n2:SCode:=.seq c62_n3 (.cond (.t 2) (.seq (.region [.op 2 (.move (.k (.c (.int .i64 3))))] [0]) .ret) (.pre [0,1] .skip))
instance:IsSeq c62_n2 c62_n3 (.cond (.t 2) (.seq (.region [.op 2 (.move (.k (.c (.int .i64 3))))] [0]) .ret) (.pre [0,1] .skip)):=⟨rfl⟩
def c62_n1:SCode:=.seq (.block 1 [some 1,some 3] c62_n2) (.region [.op 40 (.move (.t 1)),.op 41 (.bin .add (.t 0) (.k (.c (.int .i64 1)))),.op 3 (.move (.t 0))] [3,0])
instance:IsSeq c62_n1 (.block 1 [some 1,some 3] c62_n2) (.region [.op 40 (.move (.t 1)),.op 41 (.bin .add (.t 0) (.k (.c (.int .i64 1)))),.op 3 (.move (.t 0))] [3,0]):=⟨rfl⟩
def c62_l0b:SCode:=(.seq (.seq (.region [.op 35 (.move (.t 1)),.op 36 (.fieldAddr 2 (.t 1)),.op 37 (.load none (.t 0)),.op 38 (.len 1 (.t 0)),.op 39 (.bin .lss (.t 3) (.t 0))] [5,6,0]) (.cond (.t 2) (.pre [0,1] .skip) (.pre [] (.exit 0)))) c62_n1)
def c62_l0:SCode:=.loop true c62_l0b
@[simp] def c62_n5:SCode:=(.seq (.region [.op 4 (.fieldAddr 1 (.t 0)),.op 5 (.load none (.t 0)),.op 6 (.bin .neq (.t 0) (.k (.c (.str [])))),.op 7 (.move (.t 0)),.andN 11 0 [.op 8 (.fieldAddr 1 (.t 4)),.op 9 (.load none (.t 0)),.op 10 (.bin .neq (.t 0) (.k (.c (.str [100,110,115]))))] (.t 0),.op 12 (.move (.t 0)),.andN 16 0 [.op 13 (.fieldAddr 1 (.t 6)),.op 14 (.load none (.t 0)),.op 15 (.bin .neq (.t 0) (.k (.c (.str [100,110,102]))))] (.t 0),.op 17 (.move (.t 0)),.andN 21 0 [.op 18 (.fieldAddr 1 (.t 8)),.op 19 (.load none (.t 0)),.op 20 (.bin .neq (.t 0) (.k (.c (.str [100,115,113]))))] (.t 0)] [9,0]) (.cond (.t 1) (.seq (.region [.op 2 (.move (.k (.c (.int .i64 13))))] [0]) .ret) (.pre [0] .skip)))
@[simp] def c62_n7:SCode:=(.seq (.region [.op 22 (.fieldAddr 1 (.t 0)),.op 23 (.load none (.t 0)),.op 24 (.bin .neq (.t 0) (.k (.c (.str [])))),.op 25 (.move (.t 0)),.andN 30 0 [.op 26 (.fieldAddr 2 (.t 4)),.op 27 (.load none (.t 0)),.op 28 (.len 1 (.t 0)),.op 29 (.bin .gtr (.t 0) (.k (.c (.int .i64 0))))] (.t 0)] [5,0]) (.cond (.t 1) (.seq (.region [.op 2 (.move (.k (.c (.int .i64 1))))] [0]) .ret) (.pre [0] .skip)))
@[simp] def c62_n9:SCode:=(.seq (.region [.op 31 (.fieldAddr 2 (.t 0)),.op 32 (.load none (.t 0)),.op 33 (.len 1 (.t 0)),.op 34 (.bin .gtr (.t 0) (.k (.c (.int .i64 8))))] [4,0]) (.cond (.t 1) (.seq (.region [.op 2 (.move (.k (.c (.int .i64 5))))] [0]) .ret) (.pre [0] .skip)))
def c62_n8:SCode:=.seq c62_n9 (.seq (.seq (.region [.op 3 (.move (.k (.c (.int .i64 0))))] [1,0]) (.block 0 [] c62_l0)) (.seq (.region [.op 2 (.move (.k (.c (.int .i64 0))))] [0]) .ret))
instance:IsSeq c62_n8 c62_n9 (.seq (.seq (.region [.op 3 (.move (.k (.c (.int .i64 0))))] [1,0]) (.block 0 [] c62_l0)) (.seq (.region [.op 2 (.move (.k (.c (.int .i64 0))))] [0]) .ret)):=⟨rfl⟩
def c62_n6:SCode:=.seq c62_n7 c62_n8
instance:IsSeq c62_n6 c62_n7 c62_n8:=⟨rfl⟩
def c62_n4:SCode:=.seq c62_n5 c62_n6
instance:IsSeq c62_n4 c62_n5 c62_n6:=⟨rfl⟩
def c62:SCode:=(.seq (.region [.op 1 (.box (.t 0)),.op 2 (.move (.k (.c (.int .i64 0))))] [1]) c62_n4)
def F62:SFunc:=.code .pure 49 1 [some 2] [.tmp 0] c62
@[simp] def c63_n4:SCode:=(.region [.op 13 (.move (.t 3)),.op 14 (.idxSlice 3 (.t 2) (.t 4)),.op 15 (.load (some 3) (.t 0)),.op 4 (.new [(.c (.str [])),(.c (.str [])),.nil]),.op 3 (.move (.t 3)),.eff (.store 3 (.t 1) (.t 2))] [5,0,1,6,7,8])
@[simp] def c63_n6:SCode:=(.draw 0 [.op 16 (.load (some 3) (.t 2)) none .var,.op 17 (.move (.t 1)),.op 18 (.move (.t 3)),.op 19 (.sliceSl 3 (.t 1) none (some (.t 0)) none),.op 20 (.call false (.k (.c (.func 134 [] []))) [(.t 3),(.t 0)]),.op 5 (.move (.t 0))] [6,0,9,10,11])
def c63_n5:SCode:=.seq c63_n6 (.seq (.region [.op 21 (.move (.t 1)),.op 22 (.bin .neq (.t 0) (.k (.c (.int .i64 0))))] [2,3,4,5,6,0]) (.cond (.t 5) (.seq (.region [.op 23 (.move (.t 1)),.op 2 (.move (.t 0))] [0]) .ret) (.pre [0,2,3,4] .skip)))
instance:IsSeq c63_n5 c63_n6 (.seq (.region [.op 21 (.move (.t 1)),.op 22 (.bin .neq (.t 0) (.k (.c (.int .i64 0))))] [2,3,4,5,6,0]) (.cond (.t 5) (.seq (.region [.op 23 (.move (.t 1)),.op 2 (.move (.t 0))] [0]) .ret) (.pre [0,2,3,4] .skip))):=⟨rfl⟩
def c63_n3:SCode:=.seq c63_n4 c63_n5
instance:IsSeq c63_n3 c63_n4 c63_n5:=⟨rfl⟩
def c63_n2:SCode:=.seq (.block 1 [some 0,some 9,some 10,some 11] c63_n3) (.region [.op 24 (.bin .add (.t 3) (.k (.c (.int .i64 1)))),.op 11 (.move (.t 0))] [2,3,4,0])
instance:IsSeq c63_n2 (.block 1 [some 0,some 9,some 10,some 11] c63_n3) (.region [.op 24 (.bin .add (.t 3) (.k (.c (.int .i64 1)))),.op 11 (.move (.t 0))] [2,3,4,0]):=⟨rfl⟩
def c63_n1:SCode:=.seq (.cond (.t 4) (.pre [0,1,2,3] .skip) (.pre [] (.exit 0))) c63_n2
instance:IsSeq c63_n1 (.cond (.t 4) (.pre [0,1,2,3] .skip) (.pre [] (.exit 0))) c63_n2:=⟨rfl⟩
def c63_l0b:SCode:=(.seq (.region [.op 12 (.bin .lss (.t 3) (.t 2))] [1,2,3,4,0]) c63_n1)
def c63_l0:SCode:=.loop true c63_l0b
@[simp] def c63_n8:SCode:=(.seq (.region [.op 6 (.move (.t 0)),.op 7 (.len 1 (.t 0)),.op 8 (.bin .gtr (.t 0) (.k (.c (.int .i64 160))))] [3,0]) (.cond (.t 1) (.seq (.region [.op 2 (.move (.k (.c (.int .i64 5))))] [0]) .ret) (.pre [0] .skip)))
def c63_n7:SCode:=.seq c63_n8 (.seq (.seq (.region [.op 9 (.move (.t 0)),.op 10 (.len 1 (.t 0)),.op 11 (.move (.k (.c (.int .i64 0))))] [3,2,1,0]) (.block 0 [] c63_l0)) (.seq (.region [.op 2 (.move (.k (.c (.int .i64 0))))] [0]) .ret))
instance:IsSeq c63_n7 c63_n8 (.seq (.seq (.region [.op 9 (.move (.t 0)),.op 10 (.len 1 (.t 0)),.op 11 (.move (.k (.c (.int .i64 0))))] [3,2,1,0]) (.block 0 [] c63_l0)) (.seq (.region [.op 2 (.move (.k (.c (.int .i64 0))))] [0]) .ret)):=⟨rfl⟩
def c63:SCode:=(.seq (.region [.op 2 (.move (.k (.c (.int .i64 0))))] [1]) c63_n7)
def F63:SFunc:=.code .pure 25 1 [some 2] [.tmp 0] c63
def c64:SCode:=(.seq (.region [.op 2 (.move (.k (.c (.int .i64 0))))] [1]) (.seq (.region [.op 3 (.move (.t 0)),.op 4 (.call false (.k (.c (.func 75 [] []))) [(.t 0),(.k (.c (.int .i64 0))),(.k (.c (.int .i64 160)))]),.op 2 (.move (.t 0))] [0]) .ret))
def F64:SFunc:=.code .pure 5 1 [some 2] [.tmp 0] c64
@[simp] def c65_n4:SCode:=(.region [.op 18 (.move (.t 6)),.op 19 (.idxSlice 3 (.t 5) (.t 7)),.op 20 (.load (some 3) (.t 0)),.op 8 (.new [(.c (.str [])),(.c (.str [])),.nil]),.op 7 (.move (.t 3)),.eff (.store 3 (.t 1) (.t 2))] [5,6,7,8,0,1,9,10,11])
@[simp] def c65_n6:SCode:=(.seq (.draw 0 [.op 21 (.move (.t 4)),.op 22 (.bin .eql (.t 0) (.k (.c (.int .i64 0)))),.op 23 (.move (.t 0)),.orN 34 0 [.op 24 (.fieldAddr 2 (.t 8)),.op 25 (.load none (.t 0)) none .var,.op 26 (.move (.t 5)),.op 27 (.move (.t 10)),.op 28 (.bin .sub (.t 0) (.k (.c (.int .i64 1)))),.op 29 (.idxSlice 3 (.t 2) (.t 0)),.op 30 (.fieldAddr 2 (.t 0)),.op 31 (.load none (.t 0)) none .old,.op 32 (.call false (.k (.c (.func 138 [] []))) [(.t 6),(.t 0)]),.op 33 (.not (.t 0))] (.t 0)] [4,5,6,7,8,9,10,11,12,0]) (.cond (.t 9) (.region [.op 35 (.move (.t 4)),.op 36 (.bin .add (.t 0) (.k (.c (.int .i64 1)))),.op 6 (.move (.t 0))] [3,4,5,0,8,9,10,11]) (.pre [0,1,2,3,5,6,7,8] .skip)))
@[simp] def c65_n8:SCode:=(.region [.op 37 (.move (.t 3)),.op 38 (.move (.t 2)),.op 39 (.bin .leq (.t 1) (.t 0))] [3,4,5,6,7,8,9,10,0])
def c65_n7:SCode:=.seq c65_n8 (.cond (.t 8) (.region [.op 40 (.move (.t 2)),.op 41 (.fieldAddr 0 (.t 5)),.op 42 (.load none (.t 0)),.op 43 (.buildSlice 2 none 1 [(.c (.str []))] [(0,(.t 0))]),.op 44 (.append none 16 (.t 3) (.t 0)),.op 5 (.move (.t 0))] [6,7,0,9,11,12,13]) (.pre [0,1,2,3,5,6,7] .skip))
instance:IsSeq c65_n7 c65_n8 (.cond (.t 8) (.region [.op 40 (.move (.t 2)),.op 41 (.fieldAddr 0 (.t 5)),.op 42 (.load none (.t 0)),.op 43 (.buildSlice 2 none 1 [(.c (.str []))] [(0,(.t 0))]),.op 44 (.append none 16 (.t 3) (.t 0)),.op 5 (.move (.t 0))] [6,7,0,9,11,12,13]) (.pre [0,1,2,3,5,6,7] .skip)):=⟨rfl⟩
def c65_n5:SCode:=.seq c65_n6 c65_n7
instance:IsSeq c65_n5 c65_n6 c65_n7:=⟨rfl⟩
def c65_n3:SCode:=.seq c65_n4 c65_n5
instance:IsSeq c65_n3 c65_n4 c65_n5:=⟨rfl⟩
def c65_n2:SCode:=.seq (.block 1 [some 0,some 1,some 5,some 6,some 14,some 15,some 16] c65_n3) (.region [.op 45 (.bin .add (.t 6) (.k (.c (.int .i64 1)))),.op 16 (.move (.t 0))] [2,3,4,5,6,7,0])
instance:IsSeq c65_n2 (.block 1 [some 0,some 1,some 5,some 6,some 14,some 15,some 16] c65_n3) (.region [.op 45 (.bin .add (.t 6) (.k (.c (.int .i64 1)))),.op 16 (.move (.t 0))] [2,3,4,5,6,7,0]):=⟨rfl⟩
def c65_n1:SCode:=.seq (.cond (.t 7) (.pre [0,1,2,3,4,5,6] .skip) (.pre [2] (.exit 0))) c65_n2
instance:IsSeq c65_n1 (.cond (.t 7) (.pre [0,1,2,3,4,5,6] .skip) (.pre [2] (.exit 0))) c65_n2:=⟨rfl⟩
def c65_l0b:SCode:=(.seq (.region [.op 17 (.bin .lss (.t 6) (.t 5))] [1,2,3,4,5,6,7,0]) c65_n1)
def c65_l0:SCode:=.loop true c65_l0b
@[simp] def c65_n10:SCode:=(.region [.op 9 (.move (.t 0)),.op 10 (.call false (.k (.c (.func 99 [] []))) [(.t 0)]),.op 11 (.call false (.k (.c (.func 98 [] []))) [(.t 0),(.k (.c (.func 135 [] [])))]),.op 0 (.move (.t 0))] [0,5])
@[simp] def c65_n12:SCode:=(.region [.op 12 (.move (.t 0)),.op 13 (.call false (.k (.c (.func 136 [] []))) [(.t 0),(.k (.c (.func 137 [] [])))])] [2,3])
def c65_n13:SCode:=.seq (.region [.op 5 (.mkNil none)] [1,2,0]) (.seq (.region [.op 6 (.move (.k (.c (.int .i64 0))))] [1,2,3,0]) (.seq (.seq (.region [.op 14 (.move (.t 0)),.op 15 (.len 1 (.t 0)),.op 16 (.move (.k (.c (.int .i64 0))))] [3,4,5,6,2,1,0]) (.block 0 [some 5] c65_l0)) (.seq (.region [.op 46 (.move (.t 0)),.op 4 (.move (.t 0))] [0]) .ret)))
instance:IsSeq c65_n13 (.region [.op 5 (.mkNil none)] [1,2,0]) (.seq (.region [.op 6 (.move (.k (.c (.int .i64 0))))] [1,2,3,0]) (.seq (.seq (.region [.op 14 (.move (.t 0)),.op 15 (.len 1 (.t 0)),.op 16 (.move (.k (.c (.int .i64 0))))] [3,4,5,6,2,1,0]) (.block 0 [some 5] c65_l0)) (.seq (.region [.op 46 (.move (.t 0)),.op 4 (.move (.t 0))] [0]) .ret))):=⟨rfl⟩
def c65_n11:SCode:=.seq c65_n12 c65_n13
instance:IsSeq c65_n11 c65_n12 c65_n13:=⟨rfl⟩
def c65_n9:SCode:=.seq c65_n10 c65_n11
instance:IsSeq c65_n9 c65_n10 c65_n11:=⟨rfl⟩
def c65:SCode:=(.seq (.region [.op 4 (.mkNil none)] [1,2]) c65_n9)
def F65:SFunc:=.code .pure 47 2 [some 4] [.tmp 0] c65
def c73:SCode:=(.seq (.region [.op 4 (.move (.k (.c (.int .i64 0))))] [1,2]) (.seq (.seq (.region [.op 5 (.move (.t 0))] [2,0]) (.cond (.t 1) (.seq (.region [.op 6 (.move (.t 0)),.op 4 (.move (.t 0))] [0]) .ret) (.pre [] .skip))) (.seq (.region [.op 4 (.move (.k (.c (.int .i64 0))))] [0]) .ret)))
def F73:SFunc:=.code .pure 7 2 [some 4] [.tmp 0] c73
def c75:SCode:=(.seq (.region [.op 6 (.move (.k (.c (.int .i64 0))))] [1,2,3]) (.seq (.region [.op 7 (.move (.t 0)),.op 8 (.move (.t 2)),.op 9 (.bin .lss (.t 1) (.t 0)),.op 10 (.move (.t 0)),.orN 14 0 [.op 11 (.move (.t 4)),.op 12 (.move (.t 7)),.op 13 (.bin .gtr (.t 1) (.t 0))] (.t 0),.op 15 (.call false (.k (.c (.func 73 [] []))) [(.t 0),(.k (.c (.int .i64 3)))]),.op 6 (.move (.t 0))] [0]) .ret))
def F75:SFunc:=.code .pure 16 3 [some 6] [.tmp 0] c75
@[simp] def c80_n2:SCode:=(.seq (.region [.op 6 (.load (some 4) (.t 1)),.op 7 (.call false (.k (.c (.func 148 [] []))) [(.t 0)]),.op 5 (.move (.t 0))] [3,4,0]) (.seq (.region [.op 8 (.move (.t 2)),.op 9 (.bin .neq (.t 0) (.k (.c (.int .i64 0))))] [2,3,4,0]) (.cond (.t 3) (.seq (.region [.op 10 (.move (.t 2)),.op 4 (.move (.t 0))] [0]) .ret) (.pre [0,1] .skip))))
def c80_n1:SCode:=.seq c80_n2 (.seq (.region [.op 11 (.load (some 4) (.t 1)),.op 12 (.move (.t 1)),.op 13 (.call false (.k (.c (.func 149 [] []))) [(.t 1),(.t 0)]),.op 4 (.move (.t 0))] [0]) .ret)
instance:IsSeq c80_n1 c80_n2 (.seq (.region [.op 11 (.load (some 4) (.t 1)),.op 12 (.move (.t 1)),.op 13 (.call false (.k (.c (.func 149 [] []))) [(.t 1),(.t 0)]),.op 4 (.move (.t 0))] [0]) .ret):=⟨rfl⟩
def c80:SCode:=(.seq (.region [.op 2 (.box (.t 0)),.op 4 (.move (.k (.c (.int .i64 0))))] [3,1]) c80_n1)
def F80:SFunc:=.code .pure 14 2 [some 4] [.tmp 0] c80
@[simp] def c82_n4:SCode:=(.region [.op 33 (.move (.t 4)),.op 34 (.idxSlice 11 (.t 3) (.t 5)),.op 35 (.load (some 11) (.t 0)),.op 7 (.new [(.c (.str [])),(.c (.str [])),(.c (.int .i64 0)),(.c (.int .i64 0)),(.c (.int .i64 0)),(.c (.int .i64 0)),(.c (.bool false)),(.c (.bool false)),(.c (.bool false)),.nil,.nil]),.op 6 (.move (.t 3)),.eff (.store 11 (.t 1) (.t 2))] [5,6,0,1,7,8,9])
@[simp] def c82_n6:SCode:=(.region [.op 36 (.fieldAddr 0 (.t 3)),.op 37 (.load none (.t 0)),.op 38 (.bin .eql (.t 0) (.k (.c (.str [111,110])))),.op 39 (.move (.t 0)),.andN 46 0 [.op 40 (.fieldAddr 1 (.t 5)),.op 41 (.load none (.t 0)),.op 42 (.move (.t 8)),.op 43 (.sliceSl 11 (.t 1) none (some (.t 0)) none),.op 44 (.mkFunc 154 [] [(.t 8),(.t 11)]),.op 45 (.call false (.k (.c (.func 123 [] []))) [(.t 1),(.t 0)])] (.t 0),.op 8 (.move (.t 0))] [6,7,9,0,10,11,12])
@[simp] def c82_n8:SCode:=(.region [.op 47 (.load (some 4) (.t 0)),.op 48 (.fieldAddr 0 (.t 2)),.op 49 (.load none (.t 0)),.op 50 (.load (some 11) (.t 5)),.op 51 (.call false (.k (.c (.func 156 [] []))) [(.t 3),(.t 1),(.t 0)]),.op 52 (.move (.t 8)),.op 53 (.call false (.k (.c (.func 126 [] []))) [(.t 0),(.k (.c (.int .i64 9)))]),.op 54 (.buildSlice 2 none 2 [(.c (.int .i64 0))] [(0,(.t 2)),(1,(.t 0))]),.op 55 (.call false (.k (.c (.func 125 [] []))) [(.t 0)]),.op 9 (.move (.t 0))] [10,11,0,14,15,16])
def c82_n7:SCode:=.seq c82_n8 (.seq (.region [.op 56 (.move (.t 2)),.op 57 (.bin .neq (.t 0) (.k (.c (.int .i64 0))))] [2,3,4,5,6,7,0]) (.cond (.t 6) (.seq (.region [.op 58 (.move (.t 2)),.op 4 (.move (.t 0))] [0]) .ret) (.pre [0,1,3,4,5] .skip)))
instance:IsSeq c82_n7 c82_n8 (.seq (.region [.op 56 (.move (.t 2)),.op 57 (.bin .neq (.t 0) (.k (.c (.int .i64 0))))] [2,3,4,5,6,7,0]) (.cond (.t 6) (.seq (.region [.op 58 (.move (.t 2)),.op 4 (.move (.t 0))] [0]) .ret) (.pre [0,1,3,4,5] .skip))):=⟨rfl⟩
def c82_n5:SCode:=.seq c82_n6 c82_n7
instance:IsSeq c82_n5 c82_n6 c82_n7:=⟨rfl⟩
def c82_n3:SCode:=.seq c82_n4 c82_n5
instance:IsSeq c82_n3 c82_n4 c82_n5:=⟨rfl⟩
def c82_n2:SCode:=.seq (.block 1 [some 2,some 3,some 29,some 30,some 31] c82_n3) (.region [.op 59 (.bin .add (.t 4) (.k (.c (.int .i64 1)))),.op 31 (.move (.t 0))] [2,3,4,5,0])
instance:IsSeq c82_n2 (.block 1 [some 2,some 3,some 29,some 30,some 31] c82_n3) (.region [.op 59 (.bin .add (.t 4) (.k (.c (.int .i64 1)))),.op 31 (.move (.t 0))] [2,3,4,5,0]):=⟨rfl⟩
def c82_n1:SCode:=.seq (.cond (.t 5) (.pre [0,1,2,3,4] .skip) (.pre [] (.exit 0))) c82_n2
instance:IsSeq c82_n1 (.cond (.t 5) (.pre [0,1,2,3,4] .skip) (.pre [] (.exit 0))) c82_n2:=⟨rfl⟩
def c82_l0b:SCode:=(.seq (.region [.op 32 (.bin .lss (.t 4) (.t 3))] [1,2,3,4,5,0]) c82_n1)
def c82_l0:SCode:=.loop true c82_l0b
@[simp] def c82_n10:SCode:=(.seq (.draw 1 [.op 10 (.load (some 4) (.t 0)) none .var,.op 11 (.call false (.k (.c (.func 148 [] []))) [(.t 0)]),.op 12 (.fieldAddr 0 (.t 3)),.op 13 (.load none (.t 0)) none .var,.op 14 (.call false (.k (.c (.func 153 [] []))) [(.t 0),(.k (.c (.int .i64 0))),(.k (.c (.int .i64 86399999)))]),.op 15 (.fieldAddr 1 (.t 6)),.op 16 (.load none (.t 0)) none .var,.op 17 (.len 1 (.t 0)) none .old,.op 18 (.fieldAddr 1 (.t 8)),.op 19 (.load none (.t 0)) none .var,.op 20 (.len 1 (.t 0)) none .old,.op 21 (.bin .neq (.t 3) (.t 0)),.op 22 (.call false (.k (.c (.func 126 [] []))) [(.t 0),(.k (.c (.int .i64 2)))]),.op 23 (.buildSlice 2 none 3 [(.c (.int .i64 0))] [(0,(.t 11)),(1,(.t 8)),(2,(.t 0))]) (some 0),.op 24 (.call false (.k (.c (.func 125 [] []))) [(.t 0)]),.op 5 (.move (.t 0))] [16,17,0]) (.seq (.region [.op 25 (.move (.t 2)),.op 26 (.bin .neq (.t 0) (.k (.c (.int .i64 0))))] [2,3,4,0]) (.cond (.t 3) (.seq (.region [.op 27 (.move (.t 2)),.op 4 (.move (.t 0))] [0]) .ret) (.pre [0,1] .skip))))
def c82_n9:SCode:=.seq c82_n10 (.seq (.seq (.region [.op 28 (.fieldAddr 1 (.t 1)),.op 29 (.load none (.t 0)),.op 30 (.len 1 (.t 0)),.op 31 (.move (.k (.c (.int .i64 0))))] [4,5,2,1,0]) (.block 0 [] c82_l0)) (.seq (.region [.op 4 (.move (.k (.c (.int .i64 0))))] [0]) .ret))
instance:IsSeq c82_n9 c82_n10 (.seq (.seq (.region [.op 28 (.fieldAddr 1 (.t 1)),.op 29 (.load none (.t 0)),.op 30 (.len 1 (.t 0)),.op 31 (.move (.k (.c (.int .i64 0))))] [4,5,2,1,0]) (.block 0 [] c82_l0)) (.seq (.region [.op 4 (.move (.k (.c (.int .i64 0))))] [0]) .ret)):=⟨rfl⟩
def c82:SCode:=(.seq (.region [.op 2 (.box (.t 0)),.op 3 (.box (.t 2)),.op 4 (.move (.k (.c (.int .i64 0))))] [2,1]) c82_n9)
def F82:SFunc:=.code .pure 60 2 [some 4] [.tmp 0] c82
@[simp] def c85_n4:SCode:=(.region [.op 9 (.extract (.t 2) 1),.op 10 (.extract (.t 3) 2),.op 3 (.move (.t 1)),.op 4 (.move (.t 1))] [4,1,0,5])
@[simp] def c85_n6:SCode:=(.region [.op 11 (.move (.t 2)),.op 12 (.call false (.k (.c (.func 157 [] []))) [(.t 0)]),.op 13 (.not (.t 0)),.op 14 (.move (.t 0)),.andN 29 0 [.op 15 (.move (.t 5)),.op 16 (.bin .eql (.t 0) (.k (.c (.int .i64 0)))),.op 17 (.move (.t 0)),.orN 28 0 [.op 18 (.move (.t 9)),.op 19 (.bin .neq (.t 0) (.k (.c (.int .i32 95)))),.op 20 (.move (.t 0)),.andN 27 0 [.op 21 (.move (.t 12)),.op 22 (.bin .lss (.t 0) (.k (.c (.int .i32 48)))),.op 23 (.move (.t 0)),.orN 26 0 [.op 24 (.move (.t 15)),.op 25 (.bin .gtr (.t 0) (.k (.c (.int .i32 57))))] (.t 0)] (.t 0)] (.t 0)] (.t 0)] [5,8,0])
def c85_n5:SCode:=.seq c85_n6 (.cond (.t 2) (.seq (.region [.op 2 (.move (.k (.c (.bool false))))] [0]) .ret) (.pre [0,1] .skip))
instance:IsSeq c85_n5 c85_n6 (.cond (.t 2) (.seq (.region [.op 2 (.move (.k (.c (.bool false))))] [0]) .ret) (.pre [0,1] .skip)):=⟨rfl⟩
def c85_n3:SCode:=.seq c85_n4 c85_n5
instance:IsSeq c85_n3 c85_n4 c85_n5:=⟨rfl⟩
def c85_n2:SCode:=.block 1 [some 0,some 6] c85_n3
instance:IsBlock c85_n2 1 [some 0,some 6] c85_n3:=⟨rfl⟩
def c85_n1:SCode:=.seq (.cond (.t 3) (.pre [0,1,2] .skip) (.pre [0] (.exit 0))) c85_n2
instance:IsSeq c85_n1 (.cond (.t 3) (.pre [0,1,2] .skip) (.pre [0] (.exit 0))) c85_n2:=⟨rfl⟩
def c85_l0b:SCode:=(.seq (.region [.op 7 (.next (.t 1)),.op 8 (.extract (.t 0) 0)] [2,3,1,0]) c85_n1)
def c85_l0:SCode:=.loop true c85_l0b
@[simp] def c85_n8:SCode:=(.seq (.region [.op 5 (.move (.t 0)),.op 6 (.range (.t 0))] [2,0]) (.block 0 [some 0] c85_l0))
def c85_n7:SCode:=.seq c85_n8 (.seq (.region [.op 30 (.move (.t 0)),.op 31 (.bin .neq (.t 0) (.k (.c (.str [])))),.op 32 (.move (.t 0)),.andN 36 0 [.op 33 (.move (.t 3)),.op 34 (.len 0 (.t 0)),.op 35 (.bin .leq (.t 0) (.k (.c (.int .i64 24))))] (.t 0),.op 2 (.move (.t 0))] [0]) .ret)
instance:IsSeq c85_n7 c85_n8 (.seq (.region [.op 30 (.move (.t 0)),.op 31 (.bin .neq (.t 0) (.k (.c (.str [])))),.op 32 (.move (.t 0)),.andN 36 0 [.op 33 (.move (.t 3)),.op 34 (.len 0 (.t 0)),.op 35 (.bin .leq (.t 0) (.k (.c (.int .i64 24))))] (.t 0),.op 2 (.move (.t 0))] [0]) .ret):=⟨rfl⟩
def c85:SCode:=(.seq (.region [.op 2 (.move (.k (.c (.bool false))))] [1]) c85_n7)
def F85:SFunc:=.code .pure 37 1 [some 2] [.tmp 0] c85
def c86:SCode:=(.seq (.region [.op 4 (.move (.k (.c (.bool false))))] [1,2]) (.seq (.region [.op 5 (.move (.t 0)),.op 6 (.move (.t 2)),.op 7 (.call false (.k (.c (.func 158 [] []))) [(.t 1),(.t 0)]),.op 8 (.bin .geq (.t 0) (.k (.c (.int .i64 0)))),.op 4 (.move (.t 0))] [0]) .ret))
def F86:SFunc:=.code .pure 9 2 [some 4] [.tmp 0] c86
def c96:SCode:=(.seq (.region [.op 4 (.move (.k (.c (.bool false))))] [1,2]) (.seq (.region [.op 5 (.move (.t 0)),.op 6 (.move (.t 2)),.op 7 (.call false (.k (.c (.func 164 [] []))) [(.t 1),(.t 0)]),.op 8 (.bin .geq (.t 0) (.k (.c (.int .i64 0)))),.op 4 (.move (.t 0))] [0]) .ret))
def F96:SFunc:=.code .pure 9 2 [some 4] [.tmp 0] c96
@[simp] def c98_n3:SCode:=(.region [.op 22 (.move (.t 0)),.op 23 (.move (.t 4)),.op 24 (.idxSlice 3 (.t 1) (.t 0)),.op 25 (.load (some 3) (.t 0)),.op 7 (.new [(.c (.str [])),(.c (.str [])),.nil]),.eff (.store 3 (.t 0) (.t 1))] [5,6,7,8,0])
@[simp] def c98_n5:SCode:=(.region [.op 26 (.move (.t 1)),.op 27 (.load (some 3) (.t 5)),.op 28 (.call false (.t 1) [(.t 0)]),.op 29 (.not (.t 0))] [4,5,6,7,8,0])
def c98_n4:SCode:=.seq c98_n5 (.cond (.t 5) (.seq (.region [.op 30 (.move (.t 0)),.op 31 (.move (.t 3)),.op 32 (.load (some 3) (.t 6)),.op 33 (.idxSlice 3 (.t 2) (.t 1)),.eff (.store 3 (.t 0) (.t 1))] [4,5,6,7]) (.region [.op 34 (.move (.t 2)),.op 35 (.bin .add (.t 0) (.k (.c (.int .i64 1)))),.op 5 (.move (.t 0))] [3,4,0,6])) (.pre [0,1,2,3] .skip))
instance:IsSeq c98_n4 c98_n5 (.cond (.t 5) (.seq (.region [.op 30 (.move (.t 0)),.op 31 (.move (.t 3)),.op 32 (.load (some 3) (.t 6)),.op 33 (.idxSlice 3 (.t 2) (.t 1)),.eff (.store 3 (.t 0) (.t 1))] [4,5,6,7]) (.region [.op 34 (.move (.t 2)),.op 35 (.bin .add (.t 0) (.k (.c (.int .i64 1)))),.op 5 (.move (.t 0))] [3,4,0,6])) (.pre [0,1,2,3] .skip)):=⟨rfl⟩
def c98_n2:SCode:=.seq c98_n3 c98_n4
instance:IsSeq c98_n2 c98_n3 c98_n4:=⟨rfl⟩
def c98_n1:SCode:=.seq (.block 1 [some 0,some 1,some 5,some 6] c98_n2) (.region [.op 20 (.move (.t 3)),.op 21 (.bin .add (.t 0) (.k (.c (.int .i64 1)))),.op 6 (.move (.t 0))] [3,4,5,0])
instance:IsSeq c98_n1 (.block 1 [some 0,some 1,some 5,some 6] c98_n2) (.region [.op 20 (.move (.t 3)),.op 21 (.bin .add (.t 0) (.k (.c (.int .i64 1)))),.op 6 (.move (.t 0))] [3,4,5,0]):=⟨rfl⟩
def c98_l0b:SCode:=(.seq (.seq (.region [.op 16 (.move (.t 3)),.op 17 (.move (.t 1)),.op 18 (.len 1 (.t 0)),.op 19 (.bin .lss (.t 2) (.t 0))] [4,5,6,7,0]) (.cond (.t 4) (.pre [0,1,2,3] .skip) (.pre [0,2] (.exit 0)))) c98_n1)
def c98_l0:SCode:=.loop true c98_l0b
@[simp] def c98_n7:SCode:=(.region [.op 8 (.move (.t 0)),.op 9 (.move (.t 2)),.op 10 (.call false (.k (.c (.func 164 [] []))) [(.t 1),(.t 0)]),.op 5 (.move (.t 0))] [4,5,0])
@[simp] def c98_n9:SCode:=(.seq (.region [.op 11 (.move (.t 2)),.op 12 (.bin .eql (.t 0) (.k (.c (.int .i64 (-1)))))] [2,3,4,0]) (.cond (.t 3) (.seq (.region [.op 13 (.move (.t 0)),.op 4 (.move (.t 0))] [0]) .ret) (.pre [0,1,2] .skip)))
@[simp] def c98_n11:SCode:=(.seq (.region [.op 14 (.move (.t 2)),.op 15 (.bin .add (.t 0) (.k (.c (.int .i64 1)))),.op 6 (.move (.t 0))] [3,4,5,0]) (.block 0 [some 0,some 5] c98_l0))
def c98_n10:SCode:=.seq c98_n11 (.seq (.region [.op 36 (.move (.t 0)),.op 37 (.move (.t 2)),.op 38 (.sliceSl 3 (.t 1) (some (.t 0)) none none),.eff (.clear [(.c (.str [])),(.c (.str [])),.nil] (.t 0))] [3,4]) (.seq (.region [.op 39 (.move (.t 0)),.op 40 (.move (.t 2)),.op 41 (.sliceSl 3 (.t 1) none (some (.t 0)) none),.op 4 (.move (.t 0))] [0]) .ret))
instance:IsSeq c98_n10 c98_n11 (.seq (.region [.op 36 (.move (.t 0)),.op 37 (.move (.t 2)),.op 38 (.sliceSl 3 (.t 1) (some (.t 0)) none none),.eff (.clear [(.c (.str [])),(.c (.str [])),.nil] (.t 0))] [3,4]) (.seq (.region [.op 39 (.move (.t 0)),.op 40 (.move (.t 2)),.op 41 (.sliceSl 3 (.t 1) none (some (.t 0)) none),.op 4 (.move (.t 0))] [0]) .ret)):=⟨rfl⟩
def c98_n8:SCode:=.seq c98_n9 c98_n10
instance:IsSeq c98_n8 c98_n9 c98_n10:=⟨rfl⟩
def c98_n6:SCode:=.seq c98_n7 c98_n8
instance:IsSeq c98_n6 c98_n7 c98_n8:=⟨rfl⟩
def c98:SCode:=(.seq (.region [.op 4 (.mkNil (some 3))] [1,2]) c98_n6)
def F98:SFunc:=.code .shared 42 2 [some 4] [.tmp 0] c98
@[simp] def c117_n4:SCode:=(.region [.op 13 (.move (.t 4)),.op 14 (.idxSlice 1 (.t 3) (.t 5)),.op 15 (.load none (.t 0)),.op 5 (.move (.t 2)),.op 6 (.move (.t 1))] [5,6,1,0,7,8,9])
@[simp] def c117_n6:SCode:=(.seq (.region [.op 16 (.move (.t 2)),.op 17 (.move (.t 2)),.op 18 (.len 1 (.t 0)),.op 19 (.bin .geq (.t 2) (.t 0))] [4,5,6,7,8,9,10,0]) (.cond (.t 7) (.seq (.region [.op 4 (.move (.k (.c (.int .i64 1))))] [0]) .ret) (.pre [0,1,2,3,4,5,6] .skip)))
@[simp] def c117_n8:SCode:=(.region [.op 20 (.move (.t 1)),.op 21 (.move (.t 3)),.op 22 (.idxSlice 1 (.t 1) (.t 0)),.op 23 (.load none (.t 0)),.op 7 (.move (.t 0))] [5,6,8,0,9,10,11])
@[simp] def c117_n10:SCode:=(.region [.op 24 (.move (.t 2)),.op 25 (.move (.t 4)),.op 26 (.call false (.k (.c (.func 60 [] []))) [(.t 1),(.t 0)]),.op 8 (.move (.t 0))] [4,5,0,8,9,10])
def c117_n9:SCode:=.seq c117_n10 (.seq (.region [.op 27 (.move (.t 2)),.op 28 (.bin .neq (.t 0) (.k (.c (.int .i64 0))))] [2,3,4,5,6,7,0]) (.cond (.t 6) (.seq (.region [.op 29 (.move (.t 2)),.op 4 (.move (.t 0))] [0]) .ret) (.pre [0,1,3,4,5] .skip)))
instance:IsSeq c117_n9 c117_n10 (.seq (.region [.op 27 (.move (.t 2)),.op 28 (.bin .neq (.t 0) (.k (.c (.int .i64 0))))] [2,3,4,5,6,7,0]) (.cond (.t 6) (.seq (.region [.op 29 (.move (.t 2)),.op 4 (.move (.t 0))] [0]) .ret) (.pre [0,1,3,4,5] .skip))):=⟨rfl⟩
def c117_n7:SCode:=.seq c117_n8 c117_n9
instance:IsSeq c117_n7 c117_n8 c117_n9:=⟨rfl⟩
def c117_n5:SCode:=.seq c117_n6 c117_n7
instance:IsSeq c117_n5 c117_n6 c117_n7:=⟨rfl⟩
def c117_n3:SCode:=.seq c117_n4 c117_n5
instance:IsSeq c117_n3 c117_n4 c117_n5:=⟨rfl⟩
def c117_n2:SCode:=.seq (.block 1 [some 0,some 1,some 9,some 10,some 11] c117_n3) (.region [.op 30 (.bin .add (.t 4) (.k (.c (.int .i64 1)))),.op 11 (.move (.t 0))] [2,3,4,5,0])
instance:IsSeq c117_n2 (.block 1 [some 0,some 1,some 9,some 10,some 11] c117_n3) (.region [.op 30 (.bin .add (.t 4) (.k (.c (.int .i64 1)))),.op 11 (.move (.t 0))] [2,3,4,5,0]):=⟨rfl⟩
def c117_n1:SCode:=.seq (.cond (.t 5) (.pre [0,1,2,3,4] .skip) (.pre [0,1] (.exit 0))) c117_n2
instance:IsSeq c117_n1 (.cond (.t 5) (.pre [0,1,2,3,4] .skip) (.pre [0,1] (.exit 0))) c117_n2:=⟨rfl⟩
def c117_l0b:SCode:=(.seq (.region [.op 12 (.bin .lss (.t 4) (.t 3))] [1,2,3,4,5,0]) c117_n1)
def c117_l0:SCode:=.loop true c117_l0b
@[simp] def c117_n12:SCode:=(.seq (.region [.op 9 (.move (.t 0)),.op 10 (.len 1 (.t 0)),.op 11 (.move (.k (.c (.int .i64 0))))] [3,4,2,1,0]) (.block 0 [some 0,some 1] c117_l0))
def c117_n11:SCode:=.seq c117_n12 (.seq (.seq (.region [.op 31 (.move (.t 0)),.op 32 (.len 1 (.t 0)),.op 33 (.move (.t 3)),.op 34 (.len 1 (.t 0)),.op 35 (.bin .lss (.t 2) (.t 0))] [0]) (.cond (.t 0) (.seq (.region [.op 4 (.move (.k (.c (.int .i64 (-1)))))] [0]) .ret) (.pre [] .skip))) (.seq (.region [.op 4 (.move (.k (.c (.int .i64 0))))] [0]) .ret))
instance:IsSeq c117_n11 c117_n12 (.seq (.seq (.region [.op 31 (.move (.t 0)),.op 32 (.len 1 (.t 0)),.op 33 (.move (.t 3)),.op 34 (.len 1 (.t 0)),.op 35 (.bin .lss (.t 2) (.t 0))] [0]) (.cond (.t 0) (.seq (.region [.op 4 (.move (.k (.c (.int .i64 (-1)))))] [0]) .ret) (.pre [] .skip))) (.seq (.region [.op 4 (.move (.k (.c (.int .i64 0))))] [0]) .ret)):=⟨rfl⟩
def c117:SCode:=(.seq (.region [.op 4 (.move (.k (.c (.int .i64 0))))] [1,2]) c117_n11)
def F117:SFunc:=.code .pure 36 2 [some 4] [.tmp 0] c117
@[simp] def c120_n2:SCode:=(.block 1 [some 0,some 3,some 4] (.region [.op 18 (.move (.t 1)),.op 19 (.move (.t 1)),.op 20 (.move (.t 4)),.op 21 (.idxSlice 1 (.t 1) (.t 0)),.op 22 (.load none (.t 0)),.op 23 (.max (.t 4) [(.t 0)]),.op 3 (.move (.t 0))] [7,0,9]))
def c120_n1:SCode:=.seq c120_n2 (.region [.op 16 (.move (.t 2)),.op 17 (.bin .add (.t 0) (.k (.c (.int .i64 1)))),.op 4 (.move (.t 0))] [3,4,0])
instance:IsSeq c120_n1 c120_n2 (.region [.op 16 (.move (.t 2)),.op 17 (.bin .add (.t 0) (.k (.c (.int .i64 1)))),.op 4 (.move (.t 0))] [3,4,0]):=⟨rfl⟩
def c120_l0b:SCode:=(.seq (.seq (.region [.op 12 (.move (.t 2)),.op 13 (.move (.t 1)),.op 14 (.len 1 (.t 0)),.op 15 (.bin .lss (.t 2) (.t 0))] [4,5,6,0]) (.cond (.t 3) (.pre [0,1,2] .skip) (.pre [1] (.exit 0)))) c120_n1)
def c120_l0:SCode:=.loop true c120_l0b
@[simp] def c120_n4:SCode:=(.seq (.region [.op 5 (.move (.t 0)),.op 6 (.len 1 (.t 0)),.op 7 (.bin .lss (.t 0) (.k (.c (.int .i64 1))))] [3,0]) (.cond (.t 1) (.region [.op 8 (.bad 18),.eff (.bad 41)] [1]) (.pre [0] .skip)))
def c120_n3:SCode:=.seq c120_n4 (.seq (.region [.op 9 (.move (.t 0)),.op 10 (.idxSlice 1 (.t 0) (.k (.c (.int .i64 0)))),.op 11 (.load none (.t 0)),.op 3 (.move (.t 0))] [4,0]) (.seq (.seq (.region [.op 4 (.move (.k (.c (.int .i64 1))))] [1,2,0]) (.block 0 [some 3] c120_l0)) (.seq (.region [.op 24 (.move (.t 0)),.op 2 (.move (.t 0))] [0]) .ret)))
instance:IsSeq c120_n3 c120_n4 (.seq (.region [.op 9 (.move (.t 0)),.op 10 (.idxSlice 1 (.t 0) (.k (.c (.int .i64 0)))),.op 11 (.load none (.t 0)),.op 3 (.move (.t 0))] [4,0]) (.seq (.seq (.region [.op 4 (.move (.k (.c (.int .i64 1))))] [1,2,0]) (.block 0 [some 3] c120_l0)) (.seq (.region [.op 24 (.move (.t 0)),.op 2 (.move (.t 0))] [0]) .ret))):=⟨rfl⟩
def c120:SCode:=(.seq (.region [.op 2 (.move (.k (.c (.int .i64 0))))] [1]) c120_n3)
def F120:SFunc:=.code .pure 25 1 [some 2] [.tmp 0] c120
def c123:SCode:=(.seq (.region [.op 4 (.move (.k (.c (.bool false))))] [1,2]) (.seq (.region [.op 5 (.move (.t 0)),.op 6 (.move (.t 2)),.op 7 (.call false (.k (.c (.func 176 [] []))) [(.t 1),(.t 0)]),.op 8 (.bin .geq (.t 0) (.k (.c (.int .i64 0)))),.op 4 (.move (.t 0))] [0]) .ret))
def F123:SFunc:=.code .pure 9 2 [some 4] [.tmp 0] c123
def c124:SCode:=(.seq (.region [.op 1 (.box (.t 0)),.op 2 (.move (.k (.c (.bool false))))] [1]) (.seq (.region [.op 3 (.fieldAddr 0 (.t 0)),.op 4 (.load none (.t 0)),.op 5 (.bin .neq (.t 0) (.k (.c (.str [100,111,110,101])))),.op 2 (.move (.t 0))] [0]) .ret))
def F124:SFunc:=.code .pure 6 1 [some 2] [.tmp 0] c124
@[simp] def c125_n3:SCode:=(.block 1 [some 5,some 6,some 7] (.seq (.region [.op 9 (.idxSlice 1 (.t 0) (.t 2)),.op 10 (.load none (.t 0)),.op 4 (.move (.t 0))] [0,3,4,5]) (.seq (.region [.op 11 (.move (.t 0)),.op 12 (.bin .neq (.t 0) (.k (.c (.int .i64 0))))] [2,3,4,5,0]) (.cond (.t 4) (.seq (.region [.op 13 (.move (.t 0)),.op 2 (.move (.t 0))] [0]) .ret) (.pre [1,2,3] .skip)))))
def c125_n2:SCode:=.seq c125_n3 (.region [.op 14 (.bin .add (.t 2) (.k (.c (.int .i64 1)))),.op 7 (.move (.t 0))] [2,3,0])
instance:IsSeq c125_n2 c125_n3 (.region [.op 14 (.bin .add (.t 2) (.k (.c (.int .i64 1)))),.op 7 (.move (.t 0))] [2,3,0]):=⟨rfl⟩
def c125_n1:SCode:=.seq (.cond (.t 3) (.pre [0,1,2] .skip) (.pre [] (.exit 0))) c125_n2
instance:IsSeq c125_n1 (.cond (.t 3) (.pre [0,1,2] .skip) (.pre [] (.exit 0))) c125_n2:=⟨rfl⟩
def c125_l0b:SCode:=(.seq (.region [.op 8 (.bin .lss (.t 2) (.t 1))] [1,2,3,0]) c125_n1)
def c125_l0:SCode:=.loop true c125_l0b
def c125:SCode:=(.seq (.region [.op 2 (.move (.k (.c (.int .i64 0))))] [1]) (.seq (.seq (.region [.op 5 (.move (.t 0)),.op 6 (.len 1 (.t 0)),.op 7 (.move (.k (.c (.int .i64 0))))] [2,1,0]) (.block 0 [] c125_l0)) (.seq (.region [.op 2 (.move (.k (.c (.int .i64 0))))] [0]) .ret)))
def F125:SFunc:=.code .pure 15 1 [some 2] [.tmp 0] c125
def c126:SCode:=(.seq (.region [.op 4 (.move (.k (.c (.int .i64 0))))] [1,2]) (.seq (.seq (.region [.op 5 (.move (.t 0))] [2,0]) (.cond (.t 1) (.seq (.region [.op 6 (.move (.t 0)),.op 4 (.move (.t 0))] [0]) .ret) (.pre [] .skip))) (.seq (.region [.op 4 (.move (.k (.c (.int .i64 0))))] [0]) .ret)))
def F126:SFunc:=.code .pure 7 2 [some 4] [.tmp 0] c126
@[simp] def c127_n4:SCode:=(.region [.op 43 (.move (.t 5)),.op 44 (.indexArr 2 none (.t 5) (.t 6)),.op 8 (.move (.t 1)),.op 9 (.move (.t 1))] [4,1,0,5,6,7,8,9])
@[simp] def c127_n6:SCode:=(.seq (.region [.op 45 (.move (.t 2)),.op 46 (.bin .gtr (.t 0) (.k (.c (.int .i64 0))))] [2,3,4,5,6,7,8,9,0]) (.cond (.t 8) (.region [.op 47 (.move (.t 0)),.op 48 (.move (.t 2)),.op 49 (.idxSlice 1 (.t 1) (.t 0)),.op 50 (.load none (.t 0)),.op 51 (.bin .add (.t 0) (.k (.c (.int .i64 1)))),.op 52 (.idxSlice 1 (.t 4) (.t 3)),.eff (.store 1 (.t 0) (.t 1))] [6,7,8,9,10,11,12,13]) (.pre [0,1,2,3,4,5,6,7] .skip)))
def c127_n5:SCode:=.seq c127_n6 (.region [.op 53 (.move (.t 0)),.op 54 (.move (.t 2)),.op 55 (.bin .add (.k (.c (.int .i64 2))) (.t 0)),.op 56 (.idxSlice 1 (.t 2) (.t 0)),.op 57 (.load none (.t 0)),.op 58 (.move (.t 7)),.op 59 (.bin .sub (.t 1) (.t 0)),.op 60 (.idxSlice 1 (.t 6) (.t 4)),.eff (.store 1 (.t 0) (.t 1))] [8,11,12,13,14,15])
instance:IsSeq c127_n5 c127_n6 (.region [.op 53 (.move (.t 0)),.op 54 (.move (.t 2)),.op 55 (.bin .add (.k (.c (.int .i64 2))) (.t 0)),.op 56 (.idxSlice 1 (.t 2) (.t 0)),.op 57 (.load none (.t 0)),.op 58 (.move (.t 7)),.op 59 (.bin .sub (.t 1) (.t 0)),.op 60 (.idxSlice 1 (.t 6) (.t 4)),.eff (.store 1 (.t 0) (.t 1))] [8,11,12,13,14,15]):=⟨rfl⟩
def c127_n3:SCode:=.seq c127_n4 c127_n5
instance:IsSeq c127_n3 c127_n4 c127_n5:=⟨rfl⟩
def c127_n2:SCode:=.seq (.block 4 [some 5,some 30,some 31,some 32,some 40,some 41] c127_n3) (.region [.op 61 (.bin .add (.t 5) (.k (.c (.int .i64 1)))),.op 41 (.move (.t 0))] [2,3,4,5,6,0])
instance:IsSeq c127_n2 (.block 4 [some 5,some 30,some 31,some 32,some 40,some 41] c127_n3) (.region [.op 61 (.bin .add (.t 5) (.k (.c (.int .i64 1)))),.op 41 (.move (.t 0))] [2,3,4,5,6,0]):=⟨rfl⟩
def c127_n1:SCode:=.seq (.cond (.t 6) (.pre [0,1,2,3,4,5] .skip) (.pre [0,1,2,3] (.exit 3))) c127_n2
instance:IsSeq c127_n1 (.cond (.t 6) (.pre [0,1,2,3,4,5] .skip) (.pre [0,1,2,3] (.exit 3))) c127_n2:=⟨rfl⟩
def c127_l0b:SCode:=(.seq (.region [.op 42 (.bin .lss (.t 5) (.k (.c (.int .i64 2))))] [1,2,3,4,5,6,0]) c127_n1)
def c127_l0:SCode:=.loop true c127_l0b
@[simp] def c127_n10:SCode:=(.region [.op 34 (.idxSlice 4 (.t 1) (.t 3)),.op 35 (.load (some 4) (.t 0)),.op 7 (.new [(.c (.int .i64 0)),(.c (.int .i64 0)),(.c (.int .i64 0)),(.c (.bool false))]),.eff (.store 4 (.t 0) (.t 1))] [3,0,4,5,6])
def c127_n9:SCode:=.seq c127_n10 (.seq (.region [.op 36 (.fieldAddr 2 (.t 1)),.op 37 (.load none (.t 0)),.op 38 (.fieldAddr 1 (.t 3)),.op 39 (.load none (.t 0)),.op 40 (.build [(.c (.int .i64 0)),(.c (.int .i64 0))] [(0,1,(.t 2)),(1,1,(.t 0))]),.op 41 (.move (.k (.c (.int .i64 0))))] [6,8,9,10,1,0]) (.block 3 [some 5,some 30,some 31,some 32] c127_l0))
instance:IsSeq c127_n9 c127_n10 (.seq (.region [.op 36 (.fieldAddr 2 (.t 1)),.op 37 (.load none (.t 0)),.op 38 (.fieldAddr 1 (.t 3)),.op 39 (.load none (.t 0)),.op 40 (.build [(.c (.int .i64 0)),(.c (.int .i64 0))] [(0,1,(.t 2)),(1,1,(.t 0))]),.op 41 (.move (.k (.c (.int .i64 0))))] [6,8,9,10,1,0]) (.block 3 [some 5,some 30,some 31,some 32] c127_l0)):=⟨rfl⟩
def c127_n8:SCode:=.seq (.block 2 [some 5,some 30,some 31,some 32] c127_n9) (.region [.op 62 (.bin .add (.t 3) (.k (.c (.int .i64 1)))),.op 32 (.move (.t 0))] [2,3,4,0])
instance:IsSeq c127_n8 (.block 2 [some 5,some 30,some 31,some 32] c127_n9) (.region [.op 62 (.bin .add (.t 3) (.k (.c (.int .i64 1)))),.op 32 (.move (.t 0))] [2,3,4,0]):=⟨rfl⟩
def c127_n7:SCode:=.seq (.cond (.t 4) (.pre [0,1,2,3] .skip) (.pre [0] (.exit 1))) c127_n8
instance:IsSeq c127_n7 (.cond (.t 4) (.pre [0,1,2,3] .skip) (.pre [0] (.exit 1))) c127_n8:=⟨rfl⟩
def c127_l1b:SCode:=(.seq (.region [.op 33 (.bin .lss (.t 3) (.t 2))] [1,2,3,4,0]) c127_n7)
def c127_l1:SCode:=.loop true c127_l1b
@[simp] def c127_n13:SCode:=(.region [.op 12 (.fieldAddr 1 (.t 1)),.op 13 (.load none (.t 0)),.op 14 (.bin .neq (.t 0) (.k (.c (.str [])))),.op 11 (.move (.t 0))] [4,5,0])
@[simp] def c127_n16:SCode:=(.region [.op 16 (.fieldAddr 0 (.t 0)),.op 17 (.load none (.t 0)),.op 18 (.bin .eql (.t 0) (.k (.c (.str [115,112,101,101,100])))),.op 15 (.move (.t 0))] [4,5,0])
@[simp] def c127_n19:SCode:=(.region [.op 25 (.fieldAddr 0 (.t 0)),.op 26 (.load none (.t 0)),.op 27 (.bin .eql (.t 0) (.k (.c (.str [98,111,117,108,100,101,114])))),.op 24 (.move (.t 0))] [4,5,0])
@[simp] def c127_n22:SCode:=(.region [.op 28 (.makeSlice none 8 [(.c (.int .i64 0))] (.k (.c (.int .i64 4))) (.k (.c (.int .i64 4)))),.op 5 (.move (.t 0))] [3,0])
def c127_n21:SCode:=.seq c127_n22 (.seq (.seq (.region [.op 29 (.fieldAddr 9 (.t 0)),.op 30 (.load none (.t 0)),.op 31 (.len 1 (.t 0)),.op 32 (.move (.k (.c (.int .i64 0))))] [5,2,1,0]) (.block 1 [some 5] c127_l1)) (.seq (.region [.op 63 (.move (.t 0)),.op 4 (.move (.t 0))] [0]) .ret))
instance:IsSeq c127_n21 c127_n22 (.seq (.seq (.region [.op 29 (.fieldAddr 9 (.t 0)),.op 30 (.load none (.t 0)),.op 31 (.len 1 (.t 0)),.op 32 (.move (.k (.c (.int .i64 0))))] [5,2,1,0]) (.block 1 [some 5] c127_l1)) (.seq (.region [.op 63 (.move (.t 0)),.op 4 (.move (.t 0))] [0]) .ret)):=⟨rfl⟩
@[simp] def c127_n24:SCode:=(.region [.op 65 (.fieldAddr 7 (.t 1)),.op 66 (.load none (.t 0)),.op 64 (.move (.t 0))] [3,4,0])
@[simp] def c127_n27:SCode:=(.region [.op 67 (.fieldAddr 2 (.t 0)),.op 68 (.load none (.t 0)),.op 69 (.bin .mul (.k (.c (.int .i64 2))) (.t 0)),.op 70 (.bin .add (.t 0) (.k (.c (.int .i64 2)))),.op 71 (.fieldAddr 4 (.t 5)),.op 72 (.load none (.t 0)),.op 73 (.neg (.t 0)),.op 74 (.buildSlice 0 none 2 [(.c (.int .i64 0))] [(0,(.t 3)),(1,(.t 0))]),.op 4 (.move (.t 0))] [0])
def c127_n26:SCode:=.seq c127_n27 .ret
instance:IsSeq c127_n26 c127_n27 .ret:=⟨rfl⟩
def c127_n25:SCode:=.cond (.t 2) c127_n26 (.pre [1] .skip)
instance:IsCond c127_n25 (.t 2) c127_n26 (.pre [1] .skip):=⟨rfl⟩
def c127_n23:SCode:=.seq c127_n24 c127_n25
instance:IsSeq c127_n23 c127_n24 c127_n25:=⟨rfl⟩
def c127_n20:SCode:=.cond (.t 2) c127_n21 c127_n23
instance:IsCond c127_n20 (.t 2) c127_n21 c127_n23:=⟨rfl⟩
def c127_n18:SCode:=.seq c127_n19 c127_n20
instance:IsSeq c127_n18 c127_n19 c127_n20:=⟨rfl⟩
def c127_n17:SCode:=.cond (.t 2) (.seq (.region [.op 19 (.fieldAddr 10 (.t 1)),.op 20 (.load none (.t 0)),.op 21 (.call false (.k (.c (.func 177 [] []))) [(.t 0)]),.op 22 (.neg (.t 0)),.op 23 (.buildSlice 0 none 1 [(.c (.int .i64 0))] [(0,(.t 0))]),.op 4 (.move (.t 0))] [0]) .ret) c127_n18
instance:IsCond c127_n17 (.t 2) (.seq (.region [.op 19 (.fieldAddr 10 (.t 1)),.op 20 (.load none (.t 0)),.op 21 (.call false (.k (.c (.func 177 [] []))) [(.t 0)]),.op 22 (.neg (.t 0)),.op 23 (.buildSlice 0 none 1 [(.c (.int .i64 0))] [(0,(.t 0))]),.op 4 (.move (.t 0))] [0]) .ret) c127_n18:=⟨rfl⟩
def c127_n15:SCode:=.seq c127_n16 c127_n17
instance:IsSeq c127_n15 c127_n16 c127_n17:=⟨rfl⟩
def c127_n14:SCode:=.cond (.t 2) (.seq (.region [.op 4 (.mkNil none)] [0]) .ret) c127_n15
instance:IsCond c127_n14 (.t 2) (.seq (.region [.op 4 (.mkNil none)] [0]) .ret) c127_n15:=⟨rfl⟩
def c127_n12:SCode:=.seq c127_n13 c127_n14
instance:IsSeq c127_n12 c127_n13 c127_n14:=⟨rfl⟩
@[simp] def c127_n29:SCode:=(.region [.op 75 (.fieldAddr 5 (.t 0)),.op 76 (.load none (.t 0)),.op 77 (.bin .mul (.k (.c (.int .i64 2))) (.t 0)),.op 10 (.move (.t 0))] [4,0])
@[simp] def c127_n31:SCode:=(.seq (.region [.op 78 (.fieldAddr 6 (.t 0)),.op 79 (.load none (.t 0))] [2,3,0]) (.cond (.t 2) (.region [.op 80 (.move (.t 1)),.op 81 (.bin .add (.t 0) (.k (.c (.int .i64 1)))),.op 10 (.move (.t 0))] [3,0]) (.pre [0,1] .skip)))
def c127_n30:SCode:=.seq c127_n31 (.seq (.region [.op 82 (.move (.t 1)),.op 83 (.fieldAddr 4 (.t 1)),.op 84 (.load none (.t 0)),.op 85 (.neg (.t 0)),.op 86 (.buildSlice 0 none 2 [(.c (.int .i64 0))] [(0,(.t 3)),(1,(.t 0))]),.op 4 (.move (.t 0))] [0]) .ret)
instance:IsSeq c127_n30 c127_n31 (.seq (.region [.op 82 (.move (.t 1)),.op 83 (.fieldAddr 4 (.t 1)),.op 84 (.load none (.t 0)),.op 85 (.neg (.t 0)),.op 86 (.buildSlice 0 none 2 [(.c (.int .i64 0))] [(0,(.t 3)),(1,(.t 0))]),.op 4 (.move (.t 0))] [0]) .ret):=⟨rfl⟩
def c127_n28:SCode:=.seq c127_n29 c127_n30
instance:IsSeq c127_n28 c127_n29 c127_n30:=⟨rfl⟩
def c127_n11:SCode:=.seq (.block 0 [some 3] c127_n12) c127_n28
instance:IsSeq c127_n11 (.block 0 [some 3] c127_n12) c127_n28:=⟨rfl⟩
def c127:SCode:=(.seq (.region [.op 2 (.box (.t 0)),.op 3 (.box (.t 2)),.op 4 (.mkNil none)] [2,1]) c127_n11)
def F127:SFunc:=.code .pure 87 2 [some 4] [.tmp 0] c127
@[simp] def c132_n2:SCode:=(.block 1 [some 0,some 3,some 4] (.region [.op 18 (.move (.t 1)),.op 19 (.move (.t 1)),.op 20 (.move (.t 4)),.op 21 (.idxSlice 1 (.t 1) (.t 0)),.op 22 (.load none (.t 0)),.op 23 (.min (.t 4) [(.t 0)]),.op 3 (.move (.t 0))] [7,0,9]))
def c132_n1:SCode:=.seq c132_n2 (.region [.op 16 (.move (.t 2)),.op 17 (.bin .add (.t 0) (.k (.c (.int .i64 1)))),.op 4 (.move (.t 0))] [3,4,0])
instance:IsSeq c132_n1 c132_n2 (.region [.op 16 (.move (.t 2)),.op 17 (.bin .add (.t 0) (.k (.c (.int .i64 1)))),.op 4 (.move (.t 0))] [3,4,0]):=⟨rfl⟩
def c132_l0b:SCode:=(.seq (.seq (.region [.op 12 (.move (.t 2)),.op 13 (.move (.t 1)),.op 14 (.len 1 (.t 0)),.op 15 (.bin .lss (.t 2) (.t 0))] [4,5,6,0]) (.cond (.t 3) (.pre [0,1,2] .skip) (.pre [1] (.exit 0)))) c132_n1)
def c132_l0:SCode:=.loop true c132_l0b
@[simp] def c132_n4:SCode:=(.seq (.region [.op 5 (.move (.t 0)),.op 6 (.len 1 (.t 0)),.op 7 (.bin .lss (.t 0) (.k (.c (.int .i64 1))))] [3,0]) (.cond (.t 1) (.region [.op 8 (.bad 18),.eff (.bad 41)] [1]) (.pre [0] .skip)))
def c132_n3:SCode:=.seq c132_n4 (.seq (.region [.op 9 (.move (.t 0)),.op 10 (.idxSlice 1 (.t 0) (.k (.c (.int .i64 0)))),.op 11 (.load none (.t 0)),.op 3 (.move (.t 0))] [4,0]) (.seq (.seq (.region [.op 4 (.move (.k (.c (.int .i64 1))))] [1,2,0]) (.block 0 [some 3] c132_l0)) (.seq (.region [.op 24 (.move (.t 0)),.op 2 (.move (.t 0))] [0]) .ret)))
instance:IsSeq c132_n3 c132_n4 (.seq (.region [.op 9 (.move (.t 0)),.op 10 (.idxSlice 1 (.t 0) (.k (.c (.int .i64 0)))),.op 11 (.load none (.t 0)),.op 3 (.move (.t 0))] [4,0]) (.seq (.seq (.region [.op 4 (.move (.k (.c (.int .i64 1))))] [1,2,0]) (.block 0 [some 3] c132_l0)) (.seq (.region [.op 24 (.move (.t 0)),.op 2 (.move (.t 0))] [0]) .ret))):=⟨rfl⟩
def c132:SCode:=(.seq (.region [.op 2 (.move (.k (.c (.int .i64 0))))] [1]) c132_n3)
def F132:SFunc:=.code .pure 25 1 [some 2] [.tmp 0] c132
def c133:SCode:=(.seq (.region [.op 2 (.move (.k (.c (.bool false))))] [1]) (.seq (.region [.op 3 (.move (.t 0)),.op 4 (.move (.t 1)),.op 5 (.bin .neq (.t 1) (.t 0)),.op 2 (.move (.t 0))] [0]) .ret))
def F133:SFunc:=.code .pure 6 1 [some 2] [.tmp 0] c133
@[simp] def c134_n2:SCode:=(.region [.op 10 (.move (.t 0)),.op 11 (.mkFunc 183 [] [(.t 2)]),.op 12 (.call false (.k (.c (.func 96 [] []))) [(.t 1),(.t 0)]),.op 5 (.move (.t 0))] [4,5,0])
@[simp] def c134_n4:SCode:=(.region [.op 13 (.buildSlice 2 none 4 [(.c (.str []))] [(0,(.k (.c (.str [])))),(1,(.k (.c (.str [100,110,115])))),(2,(.k (.c (.str [100,110,102])))),(3,(.k (.c (.str [100,115,113]))))]),.op 14 (.fieldAddr 1 (.t 2)),.op 15 (.load none (.t 0)),.op 16 (.call false (.k (.c (.func 86 [] []))) [(.t 2),(.t 0)]),.op 6 (.move (.t 0))] [5,6,7,0])
@[simp] def c134_n6:SCode:=(.region [.op 17 (.fieldAddr 2 (.t 1)),.op 18 (.load none (.t 0)),.op 19 (.call false (.k (.c (.func 184 [] []))) [(.t 0),(.k (.c (.func 185 [] [])))]),.op 7 (.move (.t 0))] [4,5,6,7,0])
@[simp] def c134_n10:SCode:=(.region [.op 22 (.move (.t 6)),.op 23 (.bin .geq (.t 0) (.k (.c (.int .i64 0))))] [2,3,4,5,6,7,8,0])
@[simp] def c134_n12:SCode:=(.draw 0 [.op 24 (.fieldAddr 1 (.t 1)),.op 25 (.load none (.t 0)) none .var,.op 26 (.bin .eql (.t 0) (.k (.c (.str [])))),.op 27 (.move (.t 0)),.andN 38 0 [.op 28 (.fieldAddr 2 (.t 5)),.op 29 (.load none (.t 0)) none .var,.op 30 (.len 1 (.t 0)) none .old,.op 31 (.move (.t 7)),.op 32 (.move (.t 14)),.op 33 (.idxSlice 3 (.t 1) (.t 0)),.op 34 (.fieldAddr 2 (.t 0)),.op 35 (.load none (.t 0)) none .old,.op 36 (.len 1 (.t 0)) none .old,.op 37 (.bin .neq (.t 6) (.t 0))] (.t 0),.op 8 (.move (.t 0))] [7,8,9,10,0])
def c134_n11:SCode:=.cond (.t 7) c134_n12 (.pre [1,2,3,4,5] .skip)
instance:IsCond c134_n11 (.t 7) c134_n12 (.pre [1,2,3,4,5] .skip):=⟨rfl⟩
def c134_n9:SCode:=.seq c134_n10 c134_n11
instance:IsSeq c134_n9 c134_n10 c134_n11:=⟨rfl⟩
@[simp] def c134_n13:SCode:=(.seq (.region [.op 20 (.move (.t 0)),.op 21 (.call false (.k (.c (.func 164 [] []))) [(.t 0),(.k (.c (.func 186 [] [])))]),.op 9 (.move (.t 0))] [3,4,5,6,7,8,0]) c134_n9)
@[simp] def c134_n15:SCode:=(.draw 1 [.op 39 (.fieldAddr 0 (.t 0)),.op 40 (.load none (.t 0)) none .var,.op 41 (.call false (.k (.c (.func 85 [] []))) [(.t 0)]),.op 42 (.not (.t 0)),.op 43 (.call false (.k (.c (.func 73 [] []))) [(.t 0),(.k (.c (.int .i64 8)))]),.op 44 (.move (.t 6)),.op 45 (.call false (.k (.c (.func 73 [] []))) [(.t 0),(.k (.c (.int .i64 9)))]),.op 46 (.move (.t 9)),.op 47 (.not (.t 0)),.op 48 (.call false (.k (.c (.func 73 [] []))) [(.t 0),(.k (.c (.int .i64 13)))]),.op 49 (.fieldAddr 1 (.t 10)),.op 50 (.load none (.t 0)) none .var,.op 51 (.bin .neq (.t 0) (.k (.c (.str [])))),.op 52 (.move (.t 0)),.andN 57 0 [.op 53 (.fieldAddr 2 (.t 14)),.op 54 (.load none (.t 0)) none .var,.op 55 (.len 1 (.t 0)) none .old,.op 56 (.bin .gtr (.t 0) (.k (.c (.int .i64 0))))] (.t 0),.op 58 (.call false (.k (.c (.func 73 [] []))) [(.t 0),(.k (.c (.int .i64 1)))]),.op 59 (.fieldAddr 2 (.t 16)),.op 60 (.load none (.t 0)) none .var,.op 61 (.len 1 (.t 0)) none .old,.op 62 (.bin .gtr (.t 0) (.k (.c (.int .i64 8)))),.op 63 (.call false (.k (.c (.func 73 [] []))) [(.t 0),(.k (.c (.int .i64 5)))]),.op 64 (.move (.t 24)),.op 65 (.call false (.k (.c (.func 73 [] []))) [(.t 0),(.k (.c (.int .i64 3)))]),.op 66 (.move (.t 27)),.op 67 (.call false (.k (.c (.func 73 [] []))) [(.t 0),(.k (.c (.int .i64 2)))]),.op 68 (.buildSlice 2 none 7 [(.c (.int .i64 0))] [(0,(.t 20)),(1,(.t 18)),(2,(.t 15)),(3,(.t 9)),(4,(.t 4)),(5,(.t 2)),(6,(.t 0))]) (some 0),.op 69 (.call false (.k (.c (.func 57 [] []))) [(.t 0)]),.op 4 (.move (.t 0))] [0])
def c134_n14:SCode:=.seq c134_n15 .ret
instance:IsSeq c134_n14 c134_n15 .ret:=⟨rfl⟩
def c134_n8:SCode:=.seq c134_n13 c134_n14
instance:IsSeq c134_n8 c134_n13 c134_n14:=⟨rfl⟩
def c134_n7:SCode:=.seq (.region [.op 8 (.move (.k (.c (.bool false))))] [1,2,3,4,5,0]) c134_n8
instance:IsSeq c134_n7 (.region [.op 8 (.move (.k (.c (.bool false))))] [1,2,3,4,5,0]) c134_n8:=⟨rfl⟩
def c134_n5:SCode:=.seq c134_n6 c134_n7
instance:IsSeq c134_n5 c134_n6 c134_n7:=⟨rfl⟩
def c134_n3:SCode:=.seq c134_n4 c134_n5
instance:IsSeq c134_n3 c134_n4 c134_n5:=⟨rfl⟩
def c134_n1:SCode:=.seq c134_n2 c134_n3
instance:IsSeq c134_n1 c134_n2 c134_n3:=⟨rfl⟩
def c134:SCode:=(.seq (.region [.op 2 (.box (.t 0)),.op 4 (.move (.k (.c (.int .i64 0))))] [3,1]) c134_n1)
def F134:SFunc:=.code .pure 70 2 [some 4] [.tmp 0] c134
def c135:SCode:=(.seq (.region [.op 1 (.box (.t 0)),.op 2 (.move (.k (.c (.bool false))))] [1]) (.seq (.region [.op 3 (.fieldAddr 1 (.t 0)),.op 4 (.load none (.t 0)),.op 5 (.bin .neq (.t 0) (.k (.c (.str [])))),.op 2 (.move (.t 0))] [0]) .ret))
def F135:SFunc:=.code .pure 6 1 [some 2] [.tmp 0] c135
def c136:SCode:=(.region [.op 4 (.move (.t 0)),.op 5 (.move (.t 1)),.op 6 (.len 1 (.t 0)),.op 7 (.move (.t 4)),.op 8 (.call false (.k (.c (.func 187 [] []))) [(.t 3),(.t 1),(.t 0)])] [])
def F136:SFunc:=.code .shared 9 2 [] [] c136
def c137:SCode:=(.seq (.region [.op 2 (.box (.t 0)),.op 3 (.box (.t 2)),.op 4 (.move (.k (.c (.int .i64 0))))] [2,1]) (.seq (.region [.op 5 (.fieldAddr 2 (.t 1)),.op 6 (.load none (.t 0)),.op 7 (.fieldAddr 2 (.t 2)),.op 8 (.load none (.t 0)),.op 9 (.call false (.k (.c (.func 117 [] []))) [(.t 2),(.t 0)]),.op 4 (.move (.t 0))] [0]) .ret))
def F137:SFunc:=.code .pure 10 2 [some 4] [.tmp 0] c137
@[simp] def c138_n5:SCode:=(.draw 0 [.op 16 (.move (.t 0)),.op 17 (.move (.t 3)),.op 18 (.idxSlice 1 (.t 1) (.t 0)),.op 19 (.load none (.t 0)) none .old,.op 20 (.move (.t 5)),.op 21 (.move (.t 7)),.op 22 (.idxSlice 1 (.t 1) (.t 0)),.op 23 (.load none (.t 0)) none .old,.op 24 (.bin .neq (.t 4) (.t 0))] [9,10,12,13,0])
def c138_n4:SCode:=.seq c138_n5 (.cond (.t 4) (.seq (.region [.op 4 (.move (.k (.c (.bool false))))] [0]) .ret) (.pre [0,1,2,3] .skip))
instance:IsSeq c138_n4 c138_n5 (.cond (.t 4) (.seq (.region [.op 4 (.move (.k (.c (.bool false))))] [0]) .ret) (.pre [0,1,2,3] .skip)):=⟨rfl⟩
def c138_n3:SCode:=.seq (.region [.op 15 (.move (.t 3)),.op 5 (.move (.t 0))] [2,3,0,4,5]) c138_n4
instance:IsSeq c138_n3 (.region [.op 15 (.move (.t 3)),.op 5 (.move (.t 0))] [2,3,0,4,5]) c138_n4:=⟨rfl⟩
def c138_n2:SCode:=.seq (.block 1 [some 0,some 1,some 12,some 13] c138_n3) (.region [.op 25 (.bin .add (.t 3) (.k (.c (.int .i64 1)))),.op 13 (.move (.t 0))] [2,3,4,0])
instance:IsSeq c138_n2 (.block 1 [some 0,some 1,some 12,some 13] c138_n3) (.region [.op 25 (.bin .add (.t 3) (.k (.c (.int .i64 1)))),.op 13 (.move (.t 0))] [2,3,4,0]):=⟨rfl⟩
def c138_n1:SCode:=.seq (.cond (.t 4) (.pre [0,1,2,3] .skip) (.pre [] (.exit 0))) c138_n2
instance:IsSeq c138_n1 (.cond (.t 4) (.pre [0,1,2,3] .skip) (.pre [] (.exit 0))) c138_n2:=⟨rfl⟩
def c138_l0b:SCode:=(.seq (.region [.op 14 (.bin .lss (.t 3) (.t 2))] [1,2,3,4,0]) c138_n1)
def c138_l0:SCode:=.loop true c138_l0b
@[simp] def c138_n7:SCode:=(.seq (.region [.op 6 (.move (.t 0)),.op 7 (.len 1 (.t 0)),.op 8 (.move (.t 3)),.op 9 (.len 1 (.t 0)),.op 10 (.bin .neq (.t 2) (.t 0))] [5,6,0]) (.cond (.t 2) (.seq (.region [.op 4 (.move (.k (.c (.bool false))))] [0]) .ret) (.pre [0,1] .skip)))
def c138_n6:SCode:=.seq c138_n7 (.seq (.seq (.region [.op 11 (.move (.t 0)),.op 12 (.len 1 (.t 0)),.op 13 (.move (.k (.c (.int .i64 0))))] [3,4,1,0]) (.block 0 [] c138_l0)) (.seq (.region [.op 4 (.move (.k (.c (.bool true))))] [0]) .ret))
instance:IsSeq c138_n6 c138_n7 (.seq (.seq (.region [.op 11 (.move (.t 0)),.op 12 (.len 1 (.t 0)),.op 13 (.move (.k (.c (.int .i64 0))))] [3,4,1,0]) (.block 0 [] c138_l0)) (.seq (.region [.op 4 (.move (.k (.c (.bool true))))] [0]) .ret)):=⟨rfl⟩
def c138:SCode:=(.seq (.region [.op 4 (.move (.k (.c (.bool false))))] [1,2]) c138_n6)
def F138:SFunc:=.code .pure 26 2 [some 4] [.tmp 0] c138
@[simp] def c148_n4:SCode:=(.region [.op 32 (.move (.t 3)),.op 33 (.idxSlice 1 (.t 2) (.t 4)),.op 34 (.load none (.t 0)),.op 4 (.move (.t 2)),.op 5 (.move (.t 1))] [5,1,0,6,7,8])
@[simp] def c148_n6:SCode:=(.draw 1 [.op 35 (.move (.t 2)),.op 36 (.call false (.k (.c (.func 85 [] []))) [(.t 0)]),.op 37 (.not (.t 0)),.op 38 (.call false (.k (.c (.func 126 [] []))) [(.t 0),(.k (.c (.int .i64 8)))]),.op 39 (.fieldAddr 1 (.t 4)),.op 40 (.load none (.t 0)) none .var,.op 41 (.move (.t 7)),.op 42 (.sliceSl 1 (.t 1) none (some (.t 0)) none),.op 43 (.move (.t 10)),.op 44 (.call false (.k (.c (.func 86 [] []))) [(.t 1),(.t 0)]),.op 45 (.call false (.k (.c (.func 126 [] []))) [(.t 0),(.k (.c (.int .i64 9)))]),.op 46 (.buildSlice 2 none 2 [(.c (.int .i64 0))] [(0,(.t 7)),(1,(.t 0))]) (some 0),.op 47 (.call false (.k (.c (.func 125 [] []))) [(.t 0)]),.op 6 (.move (.t 0))] [14,0,17,18,19])
def c148_n5:SCode:=.seq c148_n6 (.seq (.region [.op 48 (.move (.t 1)),.op 49 (.bin .neq (.t 0) (.k (.c (.int .i64 0))))] [2,3,4,5,6,0]) (.cond (.t 5) (.seq (.region [.op 50 (.move (.t 1)),.op 2 (.move (.t 0))] [0]) .ret) (.pre [0,2,3,4] .skip)))
instance:IsSeq c148_n5 c148_n6 (.seq (.region [.op 48 (.move (.t 1)),.op 49 (.bin .neq (.t 0) (.k (.c (.int .i64 0))))] [2,3,4,5,6,0]) (.cond (.t 5) (.seq (.region [.op 50 (.move (.t 1)),.op 2 (.move (.t 0))] [0]) .ret) (.pre [0,2,3,4] .skip))):=⟨rfl⟩
def c148_n3:SCode:=.seq c148_n4 c148_n5
instance:IsSeq c148_n3 c148_n4 c148_n5:=⟨rfl⟩
def c148_n2:SCode:=.seq (.block 1 [some 1,some 28,some 29,some 30] c148_n3) (.region [.op 51 (.bin .add (.t 3) (.k (.c (.int .i64 1)))),.op 30 (.move (.t 0))] [2,3,4,0])
instance:IsSeq c148_n2 (.block 1 [some 1,some 28,some 29,some 30] c148_n3) (.region [.op 51 (.bin .add (.t 3) (.k (.c (.int .i64 1)))),.op 30 (.move (.t 0))] [2,3,4,0]):=⟨rfl⟩
def c148_n1:SCode:=.seq (.cond (.t 4) (.pre [0,1,2,3] .skip) (.pre [0] (.exit 0))) c148_n2
instance:IsSeq c148_n1 (.cond (.t 4) (.pre [0,1,2,3] .skip) (.pre [0] (.exit 0))) c148_n2:=⟨rfl⟩
def c148_l0b:SCode:=(.seq (.region [.op 31 (.bin .lss (.t 3) (.t 2))] [1,2,3,4,0]) c148_n1)
def c148_l0:SCode:=.loop true c148_l0b
@[simp] def c148_n8:SCode:=(.seq (.draw 1 [.op 7 (.fieldAddr 0 (.t 0)),.op 8 (.load none (.t 0)) none .var,.op 9 (.call false (.k (.c (.func 191 [] []))) [(.t 0)]),.op 10 (.bin .eql (.t 0) (.k (.c (.int .i64 0)))),.op 11 (.call false (.k (.c (.func 126 [] []))) [(.t 0),(.k (.c (.int .i64 13)))]),.op 12 (.fieldAddr 1 (.t 5)),.op 13 (.load none (.t 0)) none .var,.op 14 (.len 1 (.t 0)) none .old,.op 15 (.bin .eql (.t 0) (.k (.c (.int .i64 0)))),.op 16 (.call false (.k (.c (.func 126 [] []))) [(.t 0),(.k (.c (.int .i64 12)))]),.op 17 (.fieldAddr 1 (.t 10)),.op 18 (.load none (.t 0)) none .var,.op 19 (.len 1 (.t 0)) none .old,.op 20 (.bin .gtr (.t 0) (.k (.c (.int .i64 160)))),.op 21 (.call false (.k (.c (.func 126 [] []))) [(.t 0),(.k (.c (.int .i64 5)))]),.op 22 (.buildSlice 2 none 3 [(.c (.int .i64 0))] [(0,(.t 10)),(1,(.t 5)),(2,(.t 0))]) (some 0),.op 23 (.call false (.k (.c (.func 125 [] []))) [(.t 0)]),.op 3 (.move (.t 0))] [18,0]) (.seq (.region [.op 24 (.move (.t 1)),.op 25 (.bin .neq (.t 0) (.k (.c (.int .i64 0))))] [2,3,0]) (.cond (.t 2) (.seq (.region [.op 26 (.move (.t 1)),.op 2 (.move (.t 0))] [0]) .ret) (.pre [0] .skip))))
@[simp] def c148_n10:SCode:=(.seq (.region [.op 27 (.fieldAddr 1 (.t 0)),.op 28 (.load none (.t 0)),.op 29 (.len 1 (.t 0)),.op 30 (.move (.k (.c (.int .i64 0))))] [4,2,1,0]) (.block 0 [some 1] c148_l0))
@[simp] def c148_n12:SCode:=(.draw 1 [.op 52 (.fieldAddr 2 (.t 0)),.op 53 (.load none (.t 0)) none .var,.op 54 (.fieldAddr 0 (.t 2)),.op 55 (.load none (.t 0)) none .var,.op 56 (.call false (.k (.c (.func 191 [] []))) [(.t 0)]),.op 57 (.call false (.k (.c (.func 153 [] []))) [(.t 3),(.k (.c (.int .i64 1))),(.t 0)]),.op 58 (.fieldAddr 3 (.t 6)),.op 59 (.load none (.t 0)) none .var,.op 60 (.call false (.k (.c (.func 153 [] []))) [(.t 0),(.k (.c (.int .i64 1))),(.k (.c (.int .i64 86399999)))]),.op 61 (.buildSlice 2 none 2 [(.c (.int .i64 0))] [(0,(.t 3)),(1,(.t 0))]) (some 0),.op 62 (.call false (.k (.c (.func 125 [] []))) [(.t 0)]),.op 2 (.move (.t 0))] [0])
def c148_n11:SCode:=.seq c148_n12 .ret
instance:IsSeq c148_n11 c148_n12 .ret:=⟨rfl⟩
def c148_n9:SCode:=.seq c148_n10 c148_n11
instance:IsSeq c148_n9 c148_n10 c148_n11:=⟨rfl⟩
def c148_n7:SCode:=.seq c148_n8 c148_n9
instance:IsSeq c148_n7 c148_n8 c148_n9:=⟨rfl⟩
def c148:SCode:=(.seq (.region [.op 1 (.box (.t 0)),.op 2 (.move (.k (.c (.int .i64 0))))] [1]) c148_n7)
def F148:SFunc:=.code .pure 63 1 [some 2] [.tmp 0] c148
@[simp] def c149_n4:SCode:=(.region [.op 15 (.idxSlice 4 (.t 1) (.t 3)),.op 16 (.load (some 4) (.t 0)),.op 6 (.new [(.c (.int .i64 0)),(.c (.str [])),(.c (.int .i64 0)),(.c (.int .i64 0))]),.eff (.store 4 (.t 0) (.t 1))] [3,0,4,5,6])
@[simp] def c149_n6:SCode:=(.region [.op 17 (.load (some 4) (.t 0)),.op 18 (.load (some 4) (.t 2)),.op 19 (.call false (.k (.c (.func 192 [] []))) [(.t 1),(.t 0)]),.op 7 (.move (.t 0))] [4,0,6,7,8])
def c149_n5:SCode:=.seq c149_n6 (.seq (.region [.op 20 (.move (.t 1)),.op 21 (.bin .neq (.t 0) (.k (.c (.int .i64 0))))] [2,3,4,5,6,0]) (.cond (.t 5) (.seq (.region [.op 22 (.move (.t 1)),.op 4 (.move (.t 0))] [0]) .ret) (.pre [0,2,3,4] .skip)))
instance:IsSeq c149_n5 c149_n6 (.seq (.region [.op 20 (.move (.t 1)),.op 21 (.bin .neq (.t 0) (.k (.c (.int .i64 0))))] [2,3,4,5,6,0]) (.cond (.t 5) (.seq (.region [.op 22 (.move (.t 1)),.op 4 (.move (.t 0))] [0]) .ret) (.pre [0,2,3,4] .skip))):=⟨rfl⟩
def c149_n3:SCode:=.seq c149_n4 c149_n5
instance:IsSeq c149_n3 c149_n4 c149_n5:=⟨rfl⟩
def c149_n2:SCode:=.seq (.block 1 [some 2,some 11,some 12,some 13] c149_n3) (.region [.op 23 (.bin .add (.t 3) (.k (.c (.int .i64 1)))),.op 13 (.move (.t 0))] [2,3,4,0])
instance:IsSeq c149_n2 (.block 1 [some 2,some 11,some 12,some 13] c149_n3) (.region [.op 23 (.bin .add (.t 3) (.k (.c (.int .i64 1)))),.op 13 (.move (.t 0))] [2,3,4,0]):=⟨rfl⟩
def c149_n1:SCode:=.seq (.cond (.t 4) (.pre [0,1,2,3] .skip) (.pre [] (.exit 0))) c149_n2
instance:IsSeq c149_n1 (.cond (.t 4) (.pre [0,1,2,3] .skip) (.pre [] (.exit 0))) c149_n2:=⟨rfl⟩
def c149_l0b:SCode:=(.seq (.region [.op 14 (.bin .lss (.t 3) (.t 2))] [1,2,3,4,0]) c149_n1)
def c149_l0:SCode:=.loop true c149_l0b
@[simp] def c149_n8:SCode:=(.seq (.region [.op 8 (.move (.t 0)),.op 9 (.len 1 (.t 0)),.op 10 (.bin .gtr (.t 0) (.k (.c (.int .i64 256))))] [3,4,0]) (.cond (.t 2) (.seq (.region [.op 4 (.move (.k (.c (.int .i64 5))))] [0]) .ret) (.pre [0,1] .skip)))
def c149_n7:SCode:=.seq c149_n8 (.seq (.seq (.region [.op 11 (.move (.t 0)),.op 12 (.len 1 (.t 0)),.op 13 (.move (.k (.c (.int .i64 0))))] [4,2,1,0]) (.block 0 [] c149_l0)) (.seq (.region [.op 4 (.move (.k (.c (.int .i64 0))))] [0]) .ret))
instance:IsSeq c149_n7 c149_n8 (.seq (.seq (.region [.op 11 (.move (.t 0)),.op 12 (.len 1 (.t 0)),.op 13 (.move (.k (.c (.int .i64 0))))] [4,2,1,0]) (.block 0 [] c149_l0)) (.seq (.region [.op 4 (.move (.k (.c (.int .i64 0))))] [0]) .ret)):=⟨rfl⟩
def c149:SCode:=(.seq (.region [.op 2 (.box (.t 0)),.op 4 (.move (.k (.c (.int .i64 0))))] [3,1]) c149_n7)
def F149:SFunc:=.code .pure 24 2 [some 4] [.tmp 0] c149
@[simp] def c150_n4:SCode:=(.draw 4 [.op 25 (.move (.t 0)),.op 26 (.nilCheck (.t 0)),.op 27 (.fieldAddr 4 (.t 0)),.op 28 (.fieldAddr 1 (.t 0)),.op 29 (.load none (.t 0)) none .var,.op 30 (.move (.t 6)),.op 31 (.move (.t 6)),.op 32 (.nilCheck (.t 0)),.op 33 (.fieldAddr 4 (.t 0)),.op 34 (.fieldAddr 1 (.t 0)),.op 35 (.load none (.t 0)) none .var,.op 36 (.move (.t 12)),.op 37 (.move (.t 12)),.op 38 (.nilCheck (.t 0)),.op 39 (.fieldAddr 4 (.t 0)),.op 40 (.fieldAddr 1 (.t 0)),.op 41 (.load none (.t 0)) none .var,.op 42 (.move (.t 18)),.op 43 (.idxSlice 11 (.t 1) (.t 0)),.op 44 (.fieldAddr 9 (.t 0)),.op 45 (.load none (.t 0)) none .old,.op 46 (.call false (.k (.c (.func 194 [] []))) [(.t 0)]) (some 0),.op 47 (.move (.t 22)),.op 48 (.nilCheck (.t 0)),.op 49 (.fieldAddr 4 (.t 0)),.op 50 (.fieldAddr 1 (.t 0)),.op 51 (.load none (.t 0)) none .var,.op 52 (.move (.t 28)),.op 53 (.idxSlice 11 (.t 1) (.t 0)),.op 54 (.fieldAddr 10 (.t 0)),.op 55 (.load none (.t 0)) none .old,.op 56 (.call false (.k (.c (.func 195 [] []))) [(.t 0)]) (some 2),.op 57 (.idxSlice 11 (.t 27) (.t 26)),.op 58 (.fieldAddr 9 (.t 0)),.eff (.store 1 (.t 0) (.t 12)) none .old,.op 59 (.idxSlice 11 (.t 23) (.t 22)),.op 60 (.fieldAddr 10 (.t 0)),.eff (.store 1 (.t 0) (.t 4)) none .old] [36,38,39])
def c150_n3:SCode:=.seq (.region [.op 24 (.move (.t 2)),.op 6 (.move (.t 0))] [2,0,3,4]) c150_n4
instance:IsSeq c150_n3 (.region [.op 24 (.move (.t 2)),.op 6 (.move (.t 0))] [2,0,3,4]) c150_n4:=⟨rfl⟩
def c150_n2:SCode:=.seq (.block 1 [some 5,some 21,some 22] c150_n3) (.region [.op 61 (.bin .add (.t 2) (.k (.c (.int .i64 1)))),.op 22 (.move (.t 0))] [2,3,0])
instance:IsSeq c150_n2 (.block 1 [some 5,some 21,some 22] c150_n3) (.region [.op 61 (.bin .add (.t 2) (.k (.c (.int .i64 1)))),.op 22 (.move (.t 0))] [2,3,0]):=⟨rfl⟩
def c150_n1:SCode:=.seq (.cond (.t 3) (.pre [0,1,2] .skip) (.pre [0] (.exit 0))) c150_n2
instance:IsSeq c150_n1 (.cond (.t 3) (.pre [0,1,2] .skip) (.pre [0] (.exit 0))) c150_n2:=⟨rfl⟩
def c150_l0b:SCode:=(.seq (.region [.op 23 (.bin .lss (.t 2) (.t 1))] [1,2,3,0]) c150_n1)
def c150_l0:SCode:=.loop true c150_l0b
@[simp] def c150_n6:SCode:=(.draw 3 [.op 7 (.load (some 4) (.t 0)) none .var,.op 8 (.fieldAddr 0 (.t 2)),.op 9 (.load none (.t 0)) none .var,.op 10 (.fieldAddr 1 (.t 4)),.op 11 (.load none (.t 0)) none .var,.op 12 (.call false (.k (.c (.func 193 [] []))) [(.t 0)]) (some 0),.op 13 (.build [(.c (.int .i64 0)),.nil] [(0,1,(.t 3)),(1,1,(.t 0))]),.op 14 (.build [(.c (.str [])),.nil,(.c (.int .i64 0)),(.c (.int .i64 0)),(.c (.int .i64 0)),.nil] [(0,4,(.t 6)),(4,2,(.t 0))]),.op 15 (.box (.t 0)) (some 2),.op 5 (.move (.t 0))] [0])
def c150_n5:SCode:=.seq c150_n6 (.seq (.seq (.region [.op 16 (.move (.t 0)),.op 17 (.nilCheck (.t 0)),.op 18 (.fieldAddr 4 (.t 0)),.op 19 (.fieldAddr 1 (.t 0)),.op 20 (.load none (.t 0)),.op 21 (.len 1 (.t 0)),.op 22 (.move (.k (.c (.int .i64 0))))] [7,1,0]) (.block 0 [some 5] c150_l0)) (.seq (.region [.op 62 (.move (.t 0)),.op 4 (.move (.t 0))] [0]) .ret))
instance:IsSeq c150_n5 c150_n6 (.seq (.seq (.region [.op 16 (.move (.t 0)),.op 17 (.nilCheck (.t 0)),.op 18 (.fieldAddr 4 (.t 0)),.op 19 (.fieldAddr 1 (.t 0)),.op 20 (.load none (.t 0)),.op 21 (.len 1 (.t 0)),.op 22 (.move (.k (.c (.int .i64 0))))] [7,1,0]) (.block 0 [some 5] c150_l0)) (.seq (.region [.op 62 (.move (.t 0)),.op 4 (.move (.t 0))] [0]) .ret)):=⟨rfl⟩
def c150:SCode:=(.seq (.region [.op 2 (.box (.t 0)),.op 3 (.box (.t 2)),.op 4 (.move (.k (.c .nilptr)))] [2,1]) c150_n5)
def F150:SFunc:=.code .shared 63 2 [some 4] [.tmp 0] c150
@[simp] def c151_n4:SCode:=(.region [.op 10 (.build [(.c (.str [])),(.c (.str [])),(.c (.int .i64 0)),(.c (.int .i64 0)),(.c (.int .i64 0)),(.c (.int .i64 0)),(.c (.bool false)),(.c (.bool false)),(.c (.bool false)),.nil,.nil] [(0,1,(.k (.c (.str [119,97,105,116,105,110,103]))))]),.op 4 (.new [(.c (.str [])),(.c (.str [])),(.c (.int .i64 0)),(.c (.int .i64 0)),(.c (.int .i64 0)),(.c (.int .i64 0)),(.c (.bool false)),(.c (.bool false)),(.c (.bool false)),.nil,.nil]),.eff (.store 11 (.t 0) (.t 1))] [2,3,4,0,5,6])
@[simp] def c151_n6:SCode:=(.seq (.region [.op 11 (.fieldAddr 0 (.t 0)),.op 12 (.load none (.t 0)),.op 13 (.bin .eql (.t 0) (.k (.c (.str [98,111,117,108,100,101,114]))))] [3,4,5,6,7,8,0]) (.cond (.t 6) (.region [.op 14 (.fieldAddr 2 (.t 0)),.op 15 (.load none (.t 0)),.op 16 (.makeSlice (some 4) 32 [(.c (.int .i64 0)),(.c (.int .i64 0)),(.c (.int .i64 0)),(.c (.bool false))] (.t 0) (.t 0)),.op 17 (.fieldAddr 9 (.t 6)),.eff (.store 1 (.t 0) (.t 1))] [4,5,6,7,8,9]) (.pre [0,1,2,3,4,5] .skip)))
@[simp] def c151_n7:SCode:=(.region [.op 18 (.fieldAddr 1 (.t 2)),.op 19 (.load none (.t 0)),.op 20 (.load (some 11) (.t 5)),.op 21 (.buildSlice 2 (some 11) 1 [(.c (.str [])),(.c (.str [])),(.c (.int .i64 0)),(.c (.int .i64 0)),(.c (.int .i64 0)),(.c (.int .i64 0)),(.c (.bool false)),(.c (.bool false)),(.c (.bool false)),.nil,.nil] [(0,(.t 0))]),.op 22 (.append (some 11) 120 (.t 2) (.t 0)),.op 23 (.fieldAddr 1 (.t 7)),.eff (.store 1 (.t 0) (.t 1))] [6,7,8,10,11])
def c151_n5:SCode:=.seq c151_n6 c151_n7
instance:IsSeq c151_n5 c151_n6 c151_n7:=⟨rfl⟩
def c151_n3:SCode:=.seq c151_n4 c151_n5
instance:IsSeq c151_n3 c151_n4 c151_n5:=⟨rfl⟩
def c151_n2:SCode:=.seq (.block 1 [some 1,some 2,some 3,some 7,some 8] c151_n3) (.region [.op 24 (.bin .add (.t 4) (.k (.c (.int .i64 1)))),.op 8 (.move (.t 0))] [2,3,4,5,0])
instance:IsSeq c151_n2 (.block 1 [some 1,some 2,some 3,some 7,some 8] c151_n3) (.region [.op 24 (.bin .add (.t 4) (.k (.c (.int .i64 1)))),.op 8 (.move (.t 0))] [2,3,4,5,0]):=⟨rfl⟩
def c151_n1:SCode:=.seq (.cond (.t 5) (.pre [0,1,2,3,4] .skip) (.pre [1,2] (.exit 0))) c151_n2
instance:IsSeq c151_n1 (.cond (.t 5) (.pre [0,1,2,3,4] .skip) (.pre [1,2] (.exit 0))) c151_n2:=⟨rfl⟩
def c151_l0b:SCode:=(.seq (.region [.op 9 (.bin .lss (.t 4) (.t 3))] [1,2,3,4,5,0]) c151_n1)
def c151_l0:SCode:=.loop true c151_l0b
def c151_n8:SCode:=.seq (.region [.op 3 (.new [(.c (.int .i64 0)),.nil])] [1,2,0]) (.seq (.seq (.region [.op 5 (.fieldAddr 1 (.t 0)),.op 6 (.load none (.t 0)),.op 7 (.len 1 (.t 0)),.op 8 (.move (.k (.c (.int .i64 0))))] [4,5,6,1,0]) (.block 0 [some 2,some 3] c151_l0)) (.seq (.region [.op 25 (.load (some 2) (.t 1)),.eff (.store 2 (.t 1) (.t 0))] [1]) .ret))
instance:IsSeq c151_n8 (.region [.op 3 (.new [(.c (.int .i64 0)),.nil])] [1,2,0]) (.seq (.seq (.region [.op 5 (.fieldAddr 1 (.t 0)),.op 6 (.load none (.t 0)),.op 7 (.len 1 (.t 0)),.op 8 (.move (.k (.c (.int .i64 0))))] [4,5,6,1,0]) (.block 0 [some 2,some 3] c151_l0)) (.seq (.region [.op 25 (.load (some 2) (.t 1)),.eff (.store 2 (.t 1) (.t 0))] [1]) .ret)):=⟨rfl⟩
def c151:SCode:=(.seq (.region [.op 1 (.box (.t 0)),.op 2 (.new [(.c (.int .i64 0)),.nil])] [1,0]) c151_n8)
def F151:SFunc:=.code .pure 26 1 [some 2] [.cell 0 (some 2)] c151
def c152:SCode:=(.seq (.region [.op 2 (.box (.t 0)),.op 3 (.box (.t 2)),.op 4 (.move (.k (.c .nilfunc)))] [2,1]) (.seq (.region [.op 5 (.mkFunc 196 [] [(.t 1),(.t 0)]),.op 4 (.move (.t 0))] [0]) .ret))
def F152:SFunc:=.code .shared 6 2 [some 4] [.tmp 0] c152
def c153:SCode:=(.seq (.region [.op 6 (.move (.k (.c (.int .i64 0))))] [1,2,3]) (.seq (.region [.op 7 (.move (.t 0)),.op 8 (.move (.t 2)),.op 9 (.move (.t 4)),.op 10 (.call false (.k (.c (.func 199 [] []))) [(.t 2),(.t 1),(.t 0)]),.op 11 (.call false (.k (.c (.func 126 [] []))) [(.t 0),(.k (.c (.int .i64 3)))]),.op 6 (.move (.t 0))] [0]) .ret))
def F153:SFunc:=.code .pure 12 3 [some 6] [.tmp 0] c153
def c154:SCode:=(.seq (.region [.op 3 (.box (.t 0)),.op 4 (.move (.k (.c (.bool false))))] [3,4,1]) (.seq (.region [.op 5 (.load (some 4) (.t 0)),.op 6 (.load (some 11) (.t 3)),.op 7 (.fieldAddr 2 (.t 3)),.op 8 (.load none (.t 0)),.op 9 (.call false (.k (.c (.func 155 [] []))) [(.t 3),(.t 2),(.t 0)]),.op 4 (.move (.t 0))] [0]) .ret))
def F154:SFunc:=.code .pure 10 3 [some 4] [.tmp 0] c154
@[simp] def c155_n2:SCode:=(.region [.op 7 (.fieldAddr 0 (.t 2)),.op 8 (.load none (.t 0)),.op 9 (.bin .eql (.t 0) (.k (.c (.str [111,110])))),.op 10 (.move (.t 0)),.andN 20 0 [.op 11 (.fieldAddr 0 (.t 5)),.op 12 (.load none (.t 0)),.op 13 (.bin .eql (.t 0) (.k (.c (.str [108,101,97,100])))),.op 14 (.move (.t 0)),.orN 19 0 [.op 15 (.fieldAddr 2 (.t 10)),.op 16 (.load none (.t 0)),.op 17 (.move (.t 10)),.op 18 (.bin .eql (.t 1) (.t 0))] (.t 0)] (.t 0),.op 6 (.move (.t 0))] [0])
def c155_n1:SCode:=.seq c155_n2 .ret
instance:IsSeq c155_n1 c155_n2 .ret:=⟨rfl⟩
def c155:SCode:=(.seq (.region [.op 3 (.box (.t 0)),.op 4 (.box (.t 2)),.op 6 (.move (.k (.c (.bool false))))] [5,2,1]) c155_n1)
def F155:SFunc:=.code .pure 21 3 [some 6] [.tmp 0] c155
@[simp] def c156_n2:SCode:=(.seq (.region [.op 10 (.load (some 4) (.t 1)),.op 11 (.move (.t 1)),.op 12 (.load (some 11) (.t 4)),.op 13 (.call false (.k (.c (.func 200 [] []))) [(.t 2),(.t 1),(.t 0)]),.op 7 (.move (.t 0))] [6,7,0]) (.seq (.region [.op 14 (.move (.t 2)),.op 15 (.bin .neq (.t 0) (.k (.c (.int .i64 0))))] [2,3,4,0]) (.cond (.t 3) (.seq (.region [.op 16 (.move (.t 2)),.op 6 (.move (.t 0))] [0]) .ret) (.pre [0,1] .skip))))
@[simp] def c156_n6:SCode:=(.region [.op 20 (.fieldAddr 0 (.t 1)),.op 21 (.load none (.t 0)),.op 22 (.bin .eql (.t 0) (.k (.c (.str [119,97,105,116,105,110,103])))),.op 23 (.move (.t 0)),.andN 30 0 [.op 24 (.fieldAddr 10 (.t 5)),.op 25 (.load none (.t 0)),.op 26 (.len 1 (.t 0)),.op 27 (.fieldAddr 2 (.t 7)),.op 28 (.load none (.t 0)),.op 29 (.bin .geq (.t 2) (.t 0))] (.t 0),.op 31 (.move (.t 0)),.orN 46 0 [.op 32 (.fieldAddr 0 (.t 7)),.op 33 (.load none (.t 0)),.op 34 (.bin .eql (.t 0) (.k (.c (.str [100,111,110,101])))),.op 35 (.move (.t 0)),.andN 39 0 [.op 36 (.fieldAddr 1 (.t 11)),.op 37 (.load none (.t 0)),.op 38 (.bin .eql (.t 0) (.k (.c (.str []))))] (.t 0),.op 40 (.move (.t 0)),.andN 45 0 [.op 41 (.fieldAddr 10 (.t 13)),.op 42 (.load none (.t 0)),.op 43 (.call false (.k (.c (.func 177 [] []))) [(.t 0)]),.op 44 (.bin .eql (.t 0) (.k (.c (.int .i64 0))))] (.t 0)] (.t 0),.op 8 (.move (.t 0))] [8,9,0])
@[simp] def c156_n8:SCode:=(.region [.op 47 (.fieldAddr 2 (.t 1)),.op 48 (.load none (.t 0)),.op 49 (.bin .neq (.t 0) (.k (.c (.int .i64 0)))),.op 50 (.move (.t 0)),.orN 53 0 [.op 51 (.fieldAddr 8 (.t 5)),.op 52 (.load none (.t 0))] (.t 0),.op 54 (.move (.t 0)),.orN 61 0 [.op 55 (.fieldAddr 0 (.t 6)),.op 56 (.load none (.t 0)),.op 57 (.bin .eql (.t 0) (.k (.c (.str [115,112,101,101,100])))),.op 58 (.move (.t 0)),.andN 60 0 [.op 59 (.move (.t 12))] (.t 0)] (.t 0),.op 62 (.call false (.k (.c (.func 126 [] []))) [(.t 0),(.k (.c (.int .i64 19)))]),.op 6 (.move (.t 0))] [0])
def c156_n7:SCode:=.seq c156_n8 .ret
instance:IsSeq c156_n7 c156_n8 .ret:=⟨rfl⟩
def c156_n5:SCode:=.seq c156_n6 c156_n7
instance:IsSeq c156_n5 c156_n6 c156_n7:=⟨rfl⟩
def c156_n4:SCode:=.cond (.t 2) c156_n5 (.pre [0,1] .skip)
instance:IsCond c156_n4 (.t 2) c156_n5 (.pre [0,1] .skip):=⟨rfl⟩
@[simp] def c156_n9:SCode:=(.seq (.region [.op 17 (.fieldAddr 0 (.t 1)),.op 18 (.load none (.t 0)),.op 19 (.bin .neq (.t 0) (.k (.c (.str [111,110]))))] [3,4,0]) c156_n4)
@[simp] def c156_n11:SCode:=(.seq (.region [.op 63 (.fieldAddr 0 (.t 0)),.op 64 (.load none (.t 0)),.op 65 (.bin .eql (.t 0) (.k (.c (.str [108,101,97,100]))))] [3,4,0]) (.cond (.t 2) (.seq (.region [.op 6 (.move (.k (.c (.int .i64 0))))] [0]) .ret) (.pre [0,1] .skip)))
@[simp] def c156_n13:SCode:=(.seq (.region [.op 66 (.fieldAddr 2 (.t 1)),.op 67 (.load none (.t 0)),.op 68 (.bin .eql (.t 0) (.k (.c (.int .i64 0))))] [3,4,0]) (.cond (.t 2) (.seq (.region [.op 6 (.move (.k (.c (.int .i64 19))))] [0]) .ret) (.pre [0,1] .skip)))
@[simp] def c156_n15:SCode:=(.seq (.region [.op 69 (.fieldAddr 0 (.t 0)),.op 70 (.load none (.t 0)),.op 71 (.bin .eql (.t 0) (.k (.c (.str [115,112,101,101,100]))))] [3,4,0]) (.cond (.t 2) (.seq (.region [.op 72 (.fieldAddr 10 (.t 1)),.op 73 (.load none (.t 0)),.op 74 (.len 1 (.t 0)),.op 75 (.fieldAddr 2 (.t 3)),.op 76 (.load none (.t 0)),.op 77 (.bin .geq (.t 2) (.t 0)),.op 78 (.call false (.k (.c (.func 126 [] []))) [(.t 0),(.k (.c (.int .i64 19)))]),.op 6 (.move (.t 0))] [0]) .ret) (.pre [1] .skip)))
@[simp] def c156_n17:SCode:=(.region [.op 79 (.fieldAddr 9 (.t 0)),.op 80 (.load none (.t 0)),.op 81 (.fieldAddr 2 (.t 2)),.op 82 (.load none (.t 0)),.op 83 (.bin .sub (.t 0) (.k (.c (.int .i64 1)))),.op 84 (.idxSlice 4 (.t 3) (.t 0)),.op 85 (.load (some 4) (.t 0)),.op 9 (.new [(.c (.int .i64 0)),(.c (.int .i64 0)),(.c (.int .i64 0)),(.c (.bool false))]),.eff (.store 4 (.t 0) (.t 1))] [8,0])
@[simp] def c156_n19:SCode:=(.region [.op 86 (.fieldAddr 3 (.t 1)),.op 87 (.load none (.t 0)),.op 88 (.not (.t 0)),.op 89 (.move (.t 0)),.orN 102 0 [.op 90 (.fieldAddr 8 (.t 4)),.op 91 (.load none (.t 0)),.op 92 (.move (.t 0)),.andN 101 0 [.op 93 (.fieldAddr 0 (.t 8)),.op 94 (.load none (.t 0)),.op 95 (.bin .eql (.t 0) (.k (.c (.int .i64 0)))),.op 96 (.move (.t 0)),.orN 100 0 [.op 97 (.fieldAddr 2 (.t 12)),.op 98 (.load none (.t 0)),.op 99 (.bin .gtr (.t 0) (.k (.c (.int .i64 0))))] (.t 0)] (.t 0)] (.t 0),.op 103 (.call false (.k (.c (.func 126 [] []))) [(.t 0),(.k (.c (.int .i64 19)))]),.op 6 (.move (.t 0))] [0])
def c156_n18:SCode:=.seq c156_n19 .ret
instance:IsSeq c156_n18 c156_n19 .ret:=⟨rfl⟩
def c156_n16:SCode:=.seq c156_n17 c156_n18
instance:IsSeq c156_n16 c156_n17 c156_n18:=⟨rfl⟩
def c156_n14:SCode:=.seq c156_n15 c156_n16
instance:IsSeq c156_n14 c156_n15 c156_n16:=⟨rfl⟩
def c156_n12:SCode:=.seq c156_n13 c156_n14
instance:IsSeq c156_n12 c156_n13 c156_n14:=⟨rfl⟩
def c156_n10:SCode:=.seq c156_n11 c156_n12
instance:IsSeq c156_n10 c156_n11 c156_n12:=⟨rfl⟩
def c156_n3:SCode:=.seq c156_n9 c156_n10
instance:IsSeq c156_n3 c156_n9 c156_n10:=⟨rfl⟩
def c156_n1:SCode:=.seq c156_n2 c156_n3
instance:IsSeq c156_n1 c156_n2 c156_n3:=⟨rfl⟩
def c156:SCode:=(.seq (.region [.op 3 (.box (.t 0)),.op 5 (.box (.t 3)),.op 6 (.move (.k (.c (.int .i64 0))))] [4,2,1]) c156_n1)
def F156:SFunc:=.code .pure 104 3 [some 6] [.tmp 0] c156
@[simp] def c157_n2:SCode:=(.region [.op 3 (.move (.t 0)),.op 4 (.bin .geq (.t 0) (.k (.c (.int .i32 97)))),.op 5 (.move (.t 0)),.andN 8 0 [.op 6 (.move (.t 3)),.op 7 (.bin .leq (.t 0) (.k (.c (.int .i32 122))))] (.t 0),.op 9 (.move (.t 0)),.orN 16 0 [.op 10 (.move (.t 5)),.op 11 (.bin .geq (.t 0) (.k (.c (.int .i32 65)))),.op 12 (.move (.t 0)),.andN 15 0 [.op 13 (.move (.t 8)),.op 14 (.bin .leq (.t 0) (.k (.c (.int .i32 90))))] (.t 0)] (.t 0),.op 2 (.move (.t 0))] [0])
def c157_n1:SCode:=.seq c157_n2 .ret
instance:IsSeq c157_n1 c157_n2 .ret:=⟨rfl⟩
def c157:SCode:=(.seq (.region [.op 2 (.move (.k (.c (.bool false))))] [1]) c157_n1)
def F157:SFunc:=.code .pure 17 1 [some 2] [.tmp 0] c157
def c158_n3:SCode:=.seq (.region [.op 10 (.move (.t 3)),.op 5 (.move (.t 0))] [2,3,0,4,5]) (.seq (.region [.op 11 (.move (.t 1)),.op 12 (.move (.t 1)),.op 13 (.move (.t 4)),.op 14 (.idxSlice 1 (.t 1) (.t 0)),.op 15 (.load none (.t 0)),.op 16 (.bin .eql (.t 4) (.t 0))] [6,7,8,9,10,0]) (.cond (.t 5) (.seq (.region [.op 17 (.move (.t 2)),.op 4 (.move (.t 0))] [0]) .ret) (.pre [0,1,3,4] .skip)))
instance:IsSeq c158_n3 (.region [.op 10 (.move (.t 3)),.op 5 (.move (.t 0))] [2,3,0,4,5]) (.seq (.region [.op 11 (.move (.t 1)),.op 12 (.move (.t 1)),.op 13 (.move (.t 4)),.op 14 (.idxSlice 1 (.t 1) (.t 0)),.op 15 (.load none (.t 0)),.op 16 (.bin .eql (.t 4) (.t 0))] [6,7,8,9,10,0]) (.cond (.t 5) (.seq (.region [.op 17 (.move (.t 2)),.op 4 (.move (.t 0))] [0]) .ret) (.pre [0,1,3,4] .skip))):=⟨rfl⟩
def c158_n2:SCode:=.seq (.block 1 [some 0,some 1,some 7,some 8] c158_n3) (.region [.op 18 (.bin .add (.t 3) (.k (.c (.int .i64 1)))),.op 8 (.move (.t 0))] [2,3,4,0])
instance:IsSeq c158_n2 (.block 1 [some 0,some 1,some 7,some 8] c158_n3) (.region [.op 18 (.bin .add (.t 3) (.k (.c (.int .i64 1)))),.op 8 (.move (.t 0))] [2,3,4,0]):=⟨rfl⟩
def c158_n1:SCode:=.seq (.cond (.t 4) (.pre [0,1,2,3] .skip) (.pre [] (.exit 0))) c158_n2
instance:IsSeq c158_n1 (.cond (.t 4) (.pre [0,1,2,3] .skip) (.pre [] (.exit 0))) c158_n2:=⟨rfl⟩
def c158_l0b:SCode:=(.seq (.region [.op 9 (.bin .lss (.t 3) (.t 2))] [1,2,3,4,0]) c158_n1)
def c158_l0:SCode:=.loop true c158_l0b
def c158:SCode:=(.seq (.region [.op 4 (.move (.k (.c (.int .i64 0))))] [1,2]) (.seq (.seq (.region [.op 6 (.move (.t 0)),.op 7 (.len 1 (.t 0)),.op 8 (.move (.k (.c (.int .i64 0))))] [3,4,1,0]) (.block 0 [] c158_l0)) (.seq (.region [.op 4 (.move (.k (.c (.int .i64 (-1)))))] [0]) .ret)))
def F158:SFunc:=.code .pure 19 2 [some 4] [.tmp 0] c158
def c164_n3:SCode:=.seq (.region [.op 10 (.move (.t 3)),.op 5 (.move (.t 0))] [2,3,0,4,5]) (.seq (.region [.op 11 (.move (.t 1)),.op 12 (.move (.t 1)),.op 13 (.move (.t 4)),.op 14 (.idxSlice 3 (.t 1) (.t 0)),.op 15 (.load (some 3) (.t 0)),.op 16 (.call false (.t 4) [(.t 0)])] [6,7,8,9,10,0]) (.cond (.t 5) (.seq (.region [.op 17 (.move (.t 2)),.op 4 (.move (.t 0))] [0]) .ret) (.pre [0,1,3,4] .skip)))
instance:IsSeq c164_n3 (.region [.op 10 (.move (.t 3)),.op 5 (.move (.t 0))] [2,3,0,4,5]) (.seq (.region [.op 11 (.move (.t 1)),.op 12 (.move (.t 1)),.op 13 (.move (.t 4)),.op 14 (.idxSlice 3 (.t 1) (.t 0)),.op 15 (.load (some 3) (.t 0)),.op 16 (.call false (.t 4) [(.t 0)])] [6,7,8,9,10,0]) (.cond (.t 5) (.seq (.region [.op 17 (.move (.t 2)),.op 4 (.move (.t 0))] [0]) .ret) (.pre [0,1,3,4] .skip))):=⟨rfl⟩
def c164_n2:SCode:=.seq (.block 1 [some 0,some 1,some 7,some 8] c164_n3) (.region [.op 18 (.bin .add (.t 3) (.k (.c (.int .i64 1)))),.op 8 (.move (.t 0))] [2,3,4,0])
instance:IsSeq c164_n2 (.block 1 [some 0,some 1,some 7,some 8] c164_n3) (.region [.op 18 (.bin .add (.t 3) (.k (.c (.int .i64 1)))),.op 8 (.move (.t 0))] [2,3,4,0]):=⟨rfl⟩
def c164_n1:SCode:=.seq (.cond (.t 4) (.pre [0,1,2,3] .skip) (.pre [] (.exit 0))) c164_n2
instance:IsSeq c164_n1 (.cond (.t 4) (.pre [0,1,2,3] .skip) (.pre [] (.exit 0))) c164_n2:=⟨rfl⟩
def c164_l0b:SCode:=(.seq (.region [.op 9 (.bin .lss (.t 3) (.t 2))] [1,2,3,4,0]) c164_n1)
def c164_l0:SCode:=.loop true c164_l0b
def c164:SCode:=(.seq (.region [.op 4 (.move (.k (.c (.int .i64 0))))] [1,2]) (.seq (.seq (.region [.op 6 (.move (.t 0)),.op 7 (.len 1 (.t 0)),.op 8 (.move (.k (.c (.int .i64 0))))] [3,4,1,0]) (.block 0 [] c164_l0)) (.seq (.region [.op 4 (.move (.k (.c (.int .i64 (-1)))))] [0]) .ret)))
def F164:SFunc:=.code .shared 19 2 [some 4] [.tmp 0] c164
def c176_n3:SCode:=.seq (.region [.op 10 (.move (.t 3)),.op 5 (.move (.t 0))] [2,3,0,4,5]) (.seq (.region [.op 11 (.move (.t 1)),.op 12 (.move (.t 1)),.op 13 (.move (.t 4)),.op 14 (.idxSlice 11 (.t 1) (.t 0)),.op 15 (.load (some 11) (.t 0)),.op 16 (.call false (.t 4) [(.t 0)])] [6,7,8,9,10,0]) (.cond (.t 5) (.seq (.region [.op 17 (.move (.t 2)),.op 4 (.move (.t 0))] [0]) .ret) (.pre [0,1,3,4] .skip)))
instance:IsSeq c176_n3 (.region [.op 10 (.move (.t 3)),.op 5 (.move (.t 0))] [2,3,0,4,5]) (.seq (.region [.op 11 (.move (.t 1)),.op 12 (.move (.t 1)),.op 13 (.move (.t 4)),.op 14 (.idxSlice 11 (.t 1) (.t 0)),.op 15 (.load (some 11) (.t 0)),.op 16 (.call false (.t 4) [(.t 0)])] [6,7,8,9,10,0]) (.cond (.t 5) (.seq (.region [.op 17 (.move (.t 2)),.op 4 (.move (.t 0))] [0]) .ret) (.pre [0,1,3,4] .skip))):=⟨rfl⟩
def c176_n2:SCode:=.seq (.block 1 [some 0,some 1,some 7,some 8] c176_n3) (.region [.op 18 (.bin .add (.t 3) (.k (.c (.int .i64 1)))),.op 8 (.move (.t 0))] [2,3,4,0])
instance:IsSeq c176_n2 (.block 1 [some 0,some 1,some 7,some 8] c176_n3) (.region [.op 18 (.bin .add (.t 3) (.k (.c (.int .i64 1)))),.op 8 (.move (.t 0))] [2,3,4,0]):=⟨rfl⟩
def c176_n1:SCode:=.seq (.cond (.t 4) (.pre [0,1,2,3] .skip) (.pre [] (.exit 0))) c176_n2
instance:IsSeq c176_n1 (.cond (.t 4) (.pre [0,1,2,3] .skip) (.pre [] (.exit 0))) c176_n2:=⟨rfl⟩
def c176_l0b:SCode:=(.seq (.region [.op 9 (.bin .lss (.t 3) (.t 2))] [1,2,3,4,0]) c176_n1)
def c176_l0:SCode:=.loop true c176_l0b
def c176:SCode:=(.seq (.region [.op 4 (.move (.k (.c (.int .i64 0))))] [1,2]) (.seq (.seq (.region [.op 6 (.move (.t 0)),.op 7 (.len 1 (.t 0)),.op 8 (.move (.k (.c (.int .i64 0))))] [3,4,1,0]) (.block 0 [] c176_l0)) (.seq (.region [.op 4 (.move (.k (.c (.int .i64 (-1)))))] [0]) .ret)))
def F176:SFunc:=.code .pure 19 2 [some 4] [.tmp 0] c176
@[simp] def c177_n4:SCode:=(.region [.op 10 (.idxSlice 1 (.t 1) (.t 3)),.op 11 (.load none (.t 0)),.op 5 (.move (.t 0))] [3,0,4,5,6])
@[simp] def c177_n6:SCode:=(.region [.op 12 (.move (.t 1)),.op 13 (.bin .gtr (.t 0) (.k (.c (.int .i64 0)))),.op 14 (.move (.t 0)),.andN 22 0 [.op 15 (.move (.t 3)),.op 16 (.bin .eql (.t 0) (.k (.c (.int .i64 0)))),.op 17 (.move (.t 0)),.orN 21 0 [.op 18 (.move (.t 7)),.op 19 (.move (.t 7)),.op 20 (.bin .lss (.t 1) (.t 0))] (.t 0)] (.t 0)] [4,5,6,7,8,0])
def c177_n5:SCode:=.seq c177_n6 (.cond (.t 5) (.region [.op 23 (.move (.t 1)),.op 3 (.move (.t 0))] [0,4,5,6]) (.pre [0,2,3,4] .skip))
instance:IsSeq c177_n5 c177_n6 (.cond (.t 5) (.region [.op 23 (.move (.t 1)),.op 3 (.move (.t 0))] [0,4,5,6]) (.pre [0,2,3,4] .skip)):=⟨rfl⟩
def c177_n3:SCode:=.seq c177_n4 c177_n5
instance:IsSeq c177_n3 c177_n4 c177_n5:=⟨rfl⟩
def c177_n2:SCode:=.seq (.block 1 [some 3,some 6,some 7,some 8] c177_n3) (.region [.op 24 (.bin .add (.t 3) (.k (.c (.int .i64 1)))),.op 8 (.move (.t 0))] [2,3,4,0])
instance:IsSeq c177_n2 (.block 1 [some 3,some 6,some 7,some 8] c177_n3) (.region [.op 24 (.bin .add (.t 3) (.k (.c (.int .i64 1)))),.op 8 (.move (.t 0))] [2,3,4,0]):=⟨rfl⟩
def c177_n1:SCode:=.seq (.cond (.t 4) (.pre [0,1,2,3] .skip) (.pre [0] (.exit 0))) c177_n2
instance:IsSeq c177_n1 (.cond (.t 4) (.pre [0,1,2,3] .skip) (.pre [0] (.exit 0))) c177_n2:=⟨rfl⟩
def c177_l0b:SCode:=(.seq (.region [.op 9 (.bin .lss (.t 3) (.t 2))] [1,2,3,4,0]) c177_n1)
def c177_l0:SCode:=.loop true c177_l0b
def c177:SCode:=(.seq (.region [.op 2 (.move (.k (.c (.int .i64 0))))] [1]) (.seq (.region [.op 3 (.move (.k (.c (.int .i64 0))))] [1,0]) (.seq (.seq (.region [.op 6 (.move (.t 0)),.op 7 (.len 1 (.t 0)),.op 8 (.move (.k (.c (.int .i64 0))))] [4,2,1,0]) (.block 0 [some 3] c177_l0)) (.seq (.region [.op 25 (.move (.t 0)),.op 2 (.move (.t 0))] [0]) .ret))))
def F177:SFunc:=.code .pure 26 1 [some 2] [.tmp 0] c177
def c183:SCode:=(.seq (.region [.op 2 (.box (.t 0)),.op 3 (.move (.k (.c (.bool false))))] [3,1]) (.seq (.region [.op 4 (.fieldAddr 0 (.t 1)),.op 5 (.load none (.t 0)),.op 6 (.fieldAddr 0 (.t 2)),.op 7 (.load none (.t 0)),.op 8 (.bin .eql (.t 2) (.t 0)),.op 3 (.move (.t 0))] [0]) .ret))
def F183:SFunc:=.code .pure 9 2 [some 3] [.tmp 0] c183
def c184:SCode:=(.seq (.region [.op 4 (.move (.k (.c (.bool false))))] [1,2]) (.seq (.region [.op 5 (.move (.t 0)),.op 6 (.move (.t 2)),.op 7 (.call false (.k (.c (.func 210 [] []))) [(.t 1),(.t 0)]),.op 8 (.bin .geq (.t 0) (.k (.c (.int .i64 0)))),.op 4 (.move (.t 0))] [0]) .ret))
def F184:SFunc:=.code .pure 9 2 [some 4] [.tmp 0] c184
def c185:SCode:=(.seq (.region [.op 2 (.move (.k (.c (.bool false))))] [1]) (.seq (.region [.op 3 (.move (.t 0)),.op 4 (.bin .lss (.t 0) (.k (.c (.int .i64 (-999999999))))),.op 5 (.move (.t 0)),.orN 8 0 [.op 6 (.move (.t 3)),.op 7 (.bin .gtr (.t 0) (.k (.c (.int .i64 999999999))))] (.t 0),.op 2 (.move (.t 0))] [0]) .ret))
def F185:SFunc:=.code .pure 9 1 [some 2] [.tmp 0] c185
def c186:SCode:=(.seq (.region [.op 1 (.box (.t 0)),.op 2 (.move (.k (.c (.bool false))))] [1]) (.seq (.region [.op 3 (.fieldAddr 1 (.t 0)),.op 4 (.load none (.t 0)),.op 5 (.bin .eql (.t 0) (.k (.c (.str [])))),.op 2 (.move (.t 0))] [0]) .ret))
def F186:SFunc:=.code .pure 6 1 [some 2] [.tmp 0] c186
@[simp] def c187_n3:SCode:=(.region [.op 14 (.move (.t 0)),.op 15 (.move (.t 5)),.op 16 (.move (.t 7)),.op 17 (.move (.t 5)),.op 18 (.call false (.k (.c (.func 211 [] []))) [(.t 3),(.t 2),(.t 1),(.t 0)])] [5,6,7,8,10])
def c187_n2:SCode:=.seq c187_n3 (.seq (.region [.op 19 (.move (.t 4)),.op 7 (.move (.t 0))] [2,3,4,5,0,6]) (.region [.op 20 (.move (.t 5)),.op 21 (.move (.t 4)),.op 22 (.bin .add (.t 1) (.t 0)),.op 8 (.move (.t 0))] [4,5,6,7,8,0]))
instance:IsSeq c187_n2 c187_n3 (.seq (.region [.op 19 (.move (.t 4)),.op 7 (.move (.t 0))] [2,3,4,5,0,6]) (.region [.op 20 (.move (.t 5)),.op 21 (.move (.t 4)),.op 22 (.bin .add (.t 1) (.t 0)),.op 8 (.move (.t 0))] [4,5,6,7,8,0])):=⟨rfl⟩
def c187_n1:SCode:=.block 1 [some 0,some 1,some 2,some 6,some 7,some 8] c187_n2
instance:IsBlock c187_n1 1 [some 0,some 1,some 2,some 6,some 7,some 8] c187_n2:=⟨rfl⟩
def c187_l0b:SCode:=(.seq (.seq (.region [.op 11 (.move (.t 5)),.op 12 (.move (.t 2)),.op 13 (.bin .leq (.t 1) (.t 0))] [3,4,5,6,7,8,0]) (.cond (.t 6) (.pre [0,1,2,3,4,5] .skip) (.pre [0,1,2,3,4] (.exit 0)))) c187_n1)
def c187_l0:SCode:=.loop true c187_l0b
@[simp] def c187_n6:SCode:=(.region [.op 36 (.move (.t 0)),.op 37 (.move (.t 5)),.op 38 (.move (.t 6)),.op 39 (.move (.t 6)),.op 40 (.bin .add (.t 1) (.t 0)),.op 41 (.move (.t 10)),.op 42 (.move (.t 8)),.op 43 (.call false (.k (.c (.func 212 [] []))) [(.t 6),(.t 5),(.t 2),(.t 1),(.t 0)])] [8,9,10,11,13])
def c187_n5:SCode:=.seq c187_n6 (.seq (.region [.op 44 (.move (.t 4)),.op 7 (.move (.t 0))] [2,3,4,5,0,6]) (.region [.op 45 (.move (.t 5)),.op 46 (.move (.t 4)),.op 47 (.bin .mul (.k (.c (.int .i64 2))) (.t 0)),.op 48 (.bin .add (.t 2) (.t 0)),.op 8 (.move (.t 0))] [5,6,7,8,9,0]))
instance:IsSeq c187_n5 c187_n6 (.seq (.region [.op 44 (.move (.t 4)),.op 7 (.move (.t 0))] [2,3,4,5,0,6]) (.region [.op 45 (.move (.t 5)),.op 46 (.move (.t 4)),.op 47 (.bin .mul (.k (.c (.int .i64 2))) (.t 0)),.op 48 (.bin .add (.t 2) (.t 0)),.op 8 (.move (.t 0))] [5,6,7,8,9,0])):=⟨rfl⟩
def c187_n4:SCode:=.block 5 [some 0,some 1,some 2,some 6,some 7,some 8] c187_n5
instance:IsBlock c187_n4 5 [some 0,some 1,some 2,some 6,some 7,some 8] c187_n5:=⟨rfl⟩
def c187_l1b:SCode:=(.seq (.seq (.region [.op 33 (.move (.t 5)),.op 34 (.move (.t 2)),.op 35 (.bin .leq (.t 1) (.t 0))] [3,4,5,6,7,8,0]) (.cond (.t 6) (.pre [0,1,2,3,4,5] .skip) (.pre [0,1,2,3,4] (.exit 4)))) c187_n4)
def c187_l1:SCode:=.loop true c187_l1b
@[simp] def c187_n9:SCode:=(.region [.op 31 (.move (.t 3)),.op 32 (.bin .mul (.k (.c (.int .i64 2))) (.t 0)),.op 7 (.move (.k (.c (.int .i64 0)))),.op 8 (.move (.t 1))] [4,5,6,7,1,0])
@[simp] def c187_n13:SCode:=(.region [.op 52 (.move (.t 5)),.op 53 (.move (.t 2)),.op 54 (.bin .lss (.t 1) (.t 0))] [3,4,5,6,7,8,0])
def c187_n12:SCode:=.seq c187_n13 (.cond (.t 6) (.region [.op 55 (.move (.t 0)),.op 56 (.move (.t 5)),.op 57 (.move (.t 7)),.op 58 (.move (.t 4)),.op 59 (.move (.t 6)),.op 60 (.call false (.k (.c (.func 212 [] []))) [(.t 4),(.t 3),(.t 2),(.t 1),(.t 0)])] [6,7,8,9]) (.pre [0,1,2,3] .skip))
instance:IsSeq c187_n12 c187_n13 (.cond (.t 6) (.region [.op 55 (.move (.t 0)),.op 56 (.move (.t 5)),.op 57 (.move (.t 7)),.op 58 (.move (.t 4)),.op 59 (.move (.t 6)),.op 60 (.call false (.k (.c (.func 212 [] []))) [(.t 4),(.t 3),(.t 2),(.t 1),(.t 0)])] [6,7,8,9]) (.pre [0,1,2,3] .skip)):=⟨rfl⟩
@[simp] def c187_n14:SCode:=(.seq (.region [.op 49 (.move (.t 4)),.op 50 (.move (.t 4)),.op 51 (.bin .add (.t 1) (.t 0)),.op 9 (.move (.t 0))] [4,5,6,7,8,0]) c187_n12)
def c187_n11:SCode:=.seq c187_n14 (.region [.op 61 (.move (.t 3)),.op 62 (.bin .mul (.t 0) (.k (.c (.int .i64 2)))),.op 6 (.move (.t 0))] [3,4,5,0])
instance:IsSeq c187_n11 c187_n14 (.region [.op 61 (.move (.t 3)),.op 62 (.bin .mul (.t 0) (.k (.c (.int .i64 2)))),.op 6 (.move (.t 0))] [3,4,5,0]):=⟨rfl⟩
def c187_n10:SCode:=.seq (.block 4 [some 0,some 1,some 2,some 6,some 7] c187_l1) c187_n11
instance:IsSeq c187_n10 (.block 4 [some 0,some 1,some 2,some 6,some 7] c187_l1) c187_n11:=⟨rfl⟩
def c187_n8:SCode:=.seq c187_n9 c187_n10
instance:IsSeq c187_n8 c187_n9 c187_n10:=⟨rfl⟩
def c187_n7:SCode:=.block 3 [some 0,some 1,some 2,some 6] c187_n8
instance:IsBlock c187_n7 3 [some 0,some 1,some 2,some 6] c187_n8:=⟨rfl⟩
def c187_l2b:SCode:=(.seq (.seq (.region [.op 28 (.move (.t 3)),.op 29 (.move (.t 2)),.op 30 (.bin .lss (.t 1) (.t 0))] [3,4,5,6,0]) (.cond (.t 4) (.pre [0,1,2,3] .skip) (.pre [] (.exit 2)))) c187_n7)
def c187_l2:SCode:=.loop true c187_l2b
@[simp] def c187_n16:SCode:=(.region [.op 10 (.move (.t 3)),.op 7 (.move (.k (.c (.int .i64 0)))),.op 8 (.move (.t 1))] [3,4,5,6,1,0])
def c187_n15:SCode:=.seq c187_n16 (.seq (.block 0 [some 0,some 1,some 2,some 6,some 7] c187_l0) (.seq (.region [.op 23 (.move (.t 0)),.op 24 (.move (.t 5)),.op 25 (.move (.t 3)),.op 26 (.move (.t 5)),.op 27 (.call false (.k (.c (.func 211 [] []))) [(.t 3),(.t 2),(.t 1),(.t 0)])] [5,6,7,8]) (.block 2 [] c187_l2)))
instance:IsSeq c187_n15 c187_n16 (.seq (.block 0 [some 0,some 1,some 2,some 6,some 7] c187_l0) (.seq (.region [.op 23 (.move (.t 0)),.op 24 (.move (.t 5)),.op 25 (.move (.t 3)),.op 26 (.move (.t 5)),.op 27 (.call false (.k (.c (.func 211 [] []))) [(.t 3),(.t 2),(.t 1),(.t 0)])] [5,6,7,8]) (.block 2 [] c187_l2))):=⟨rfl⟩
def c187:SCode:=(.seq (.region [.op 6 (.move (.k (.c (.int .i64 20))))] [1,2,3,0]) c187_n15)
def F187:SFunc:=.code .shared 63 3 [] [] c187
@[simp] def c191_n2:SCode:=(.region [.op 3 (.makeMap),.eff (.mapUpdate (.one 1) (.t 0) (.k (.c (.str [108,101,97,100]))) (.k (.c (.int .i64 64)))),.eff (.mapUpdate (.one 1) (.t 0) (.k (.c (.str [98,111,117,108,100,101,114]))) (.k (.c (.int .i64 8)))),.eff (.mapUpdate (.one 1) (.t 0) (.k (.c (.str [115,112,101,101,100]))) (.k (.c (.int .i64 8)))),.op 4 (.move (.t 0)),.op 5 (.move (.t 2)),.op 6 (.lookup (.one 1) (.c (.int .i64 0)) false (.t 1) (.t 0)),.op 2 (.move (.t 0))] [0])
def c191_n1:SCode:=.seq c191_n2 .ret
instance:IsSeq c191_n1 c191_n2 .ret:=⟨rfl⟩
def c191:SCode:=(.seq (.region [.op 2 (.move (.k (.c (.int .i64 0))))] [1]) c191_n1)
def F191:SFunc:=.code .pure 7 1 [some 2] [.tmp 0] c191
end LM.GZ
namespace LM.GZ
open Go LM
@[simp] def c192_n2:SCode:=(.draw 1 [.op 8 (.call true (.k (.c (.func 214 [] []))) []),.op 9 (.fieldAddr 1 (.t 2)),.op 10 (.load none (.t 0)) none .var,.op 11 (.lookup (.one 1) (.agg [.nil,(.c (.bool false)),(.c .nilfunc)]) true (.t 2) (.t 0)) none .old,.op 7 (.move (.t 0)),.op 12 (.extract (.t 0) 0),.op 13 (.extract (.t 1) 1),.op 5 (.new [.nil,(.c (.bool false)),(.c .nilfunc)]) (some 0),.eff (.store 3 (.t 0) (.t 2)) none .new,.op 6 (.move (.t 1))] [9,10,1,0])
@[simp] def c192_n4:SCode:=(.draw 1 [.op 14 (.fieldAddr 0 (.t 1)),.op 15 (.load none (.t 0)) none .var,.op 16 (.fieldAddr 1 (.t 2)),.op 17 (.load none (.t 0)) none .var,.op 18 (.len 1 (.t 0)) none .old,.op 19 (.bin .sub (.t 0) (.k (.c (.int .i64 1)))),.op 20 (.call false (.k (.c (.func 199 [] []))) [(.t 4),(.k (.c (.int .i64 0))),(.t 0)]),.op 21 (.call false (.k (.c (.func 126 [] []))) [(.t 0),(.k (.c (.int .i64 10)))]),.op 22 (.move (.t 11)),.op 23 (.not (.t 0)),.op 24 (.call false (.k (.c (.func 126 [] []))) [(.t 0),(.k (.c (.int .i64 13)))]),.op 25 (.fieldAddr 2 (.t 12)),.op 26 (.load none (.t 0)) none .var,.op 27 (.call false (.k (.c (.func 153 [] []))) [(.t 0),(.k (.c (.int .i64 0))),(.k (.c (.int .i64 86399999)))]),.op 28 (.fieldAddr 3 (.t 15)),.op 29 (.load none (.t 0)) none .var,.op 30 (.call false (.k (.c (.func 153 [] []))) [(.t 0),(.k (.c (.int .i64 0))),(.k (.c (.int .i64 86399999)))]),.op 31 (.fieldAddr 1 (.t 19)),.op 32 (.load none (.t 0)) none .var,.op 33 (.not (.t 0)),.op 34 (.move (.t 0)),.andN 38 0 [.op 35 (.fieldAddr 2 (.t 22)),.op 36 (.load none (.t 0)) none .var,.op 37 (.bin .neq (.t 0) (.k (.c (.int .i64 0))))] (.t 0),.op 39 (.call false (.k (.c (.func 126 [] []))) [(.t 0),(.k (.c (.int .i64 1)))]),.op 40 (.buildSlice 2 none 5 [(.c (.int .i64 0))] [(0,(.t 15)),(1,(.t 12)),(2,(.t 9)),(3,(.t 6)),(4,(.t 0))]) (some 0),.op 41 (.call false (.k (.c (.func 125 [] []))) [(.t 0)]),.op 4 (.move (.t 0))] [0])
def c192_n3:SCode:=.seq c192_n4 .ret
instance:IsSeq c192_n3 c192_n4 .ret:=⟨rfl⟩
def c192_n1:SCode:=.seq c192_n2 c192_n3
instance:IsSeq c192_n1 c192_n2 c192_n3:=⟨rfl⟩
def c192:SCode:=(.seq (.region [.op 2 (.box (.t 0)),.op 3 (.box (.t 2)),.op 4 (.move (.k (.c (.int .i64 0))))] [2,1]) c192_n1)
def F192:SFunc:=.code .pure 42 2 [some 4] [.tmp 0] c192
def c193:SCode:=(.seq (.region [.op 2 (.mkNil (some 11))] [1]) (.seq (.region [.op 3 (.move (.t 0)),.op 4 (.append (some 11) 120 (.k .nil) (.t 0)),.op 2 (.move (.t 0))] [0]) .ret))
def F193:SFunc:=.code (.fresh 2) 5 1 [some 2] [.tmp 0] c193
def c194:SCode:=(.seq (.region [.op 2 (.mkNil (some 4))] [1]) (.seq (.region [.op 3 (.move (.t 0)),.op 4 (.append (some 4) 32 (.k .nil) (.t 0)),.op 2 (.move (.t 0))] [0]) .ret))
def F194:SFunc:=.code (.fresh 2) 5 1 [some 2] [.tmp 0] c194
def c195:SCode:=(.seq (.region [.op 2 (.mkNil none)] [1]) (.seq (.region [.op 3 (.move (.t 0)),.op 4 (.append none 8 (.k .nil) (.t 0)),.op 2 (.move (.t 0))] [0]) .ret))
def F195:SFunc:=.code (.fresh 2) 5 1 [some 2] [.tmp 0] c195
@[simp] def c197_n2:SCode:=(.draw 1 [.op 10 (.load none (.t 0)) none .var,.op 11 (.nilCheck (.t 0)),.op 12 (.fieldAddr 4 (.t 0)),.op 13 (.fieldAddr 1 (.t 0)),.op 14 (.load none (.t 0)) none .var,.op 15 (.fieldAddr 0 (.t 6)),.op 16 (.load none (.t 0)) none .var,.op 17 (.idxSlice 11 (.t 2) (.t 0)),.op 18 (.load (some 11) (.t 0)) none .old,.op 5 (.new [(.c (.str [])),(.c (.str [])),(.c (.int .i64 0)),(.c (.int .i64 0)),(.c (.int .i64 0)),(.c (.int .i64 0)),(.c (.bool false)),(.c (.bool false)),(.c (.bool false)),.nil,.nil]) (some 0),.eff (.store 11 (.t 0) (.t 1)) none .new] [10,11,0])
@[simp] def c197_n4:SCode:=(.draw 1 [.op 19 (.call true (.k (.c (.func 214 [] []))) []),.op 20 (.fieldAddr 1 (.t 2)),.op 21 (.load none (.t 0)) none .var,.op 22 (.lookup (.one 1) (.agg [.nil,(.c (.bool false)),(.c .nilfunc)]) false (.t 2) (.t 0)) none .old,.op 6 (.new [.nil,(.c (.bool false)),(.c .nilfunc)]) (some 0),.eff (.store 3 (.t 0) (.t 1)) none .new] [5,6,7,0])
@[simp] def c197_n6:SCode:=(.region [.op 23 (.mkFunc 215 [] [(.t 1)]),.op 7 (.new [(.c .nilfunc)]),.eff (.store 1 (.t 0) (.t 1))] [2,3,4,5,0])
@[simp] def c197_n8:SCode:=(.draw 1 [.op 24 (.fieldAddr 3 (.t 2)),.op 25 (.load none (.t 0)) none .var,.op 26 (.load none (.t 2)) none .var,.op 27 (.nilCheck (.t 0)),.op 28 (.fieldAddr 0 (.t 0)),.op 29 (.fieldAddr 3 (.t 0)),.op 30 (.load none (.t 0)) none .var,.op 31 (.bin .add (.t 5) (.t 0)),.op 8 (.new [(.c (.int .i64 0))]) (some 0),.eff (.store 1 (.t 0) (.t 1)) none .new] [9,10,11,12,13,0])
@[simp] def c197_n10:SCode:=(.region [.op 9 (.new [(.c (.int .i64 0)),(.c (.int .i64 0)),(.c (.int .i64 0)),(.c (.bool false))])] [1,2,3,4,5,6,0])
@[simp] def c197_n12:SCode:=(.seq (.region [.op 32 (.load none (.t 0)),.op 33 (.nilCheck (.t 0)),.op 34 (.fieldAddr 0 (.t 0)),.op 35 (.fieldAddr 0 (.t 0)),.op 36 (.load none (.t 0)),.op 37 (.bin .eql (.t 0) (.k (.c (.str [98,111,117,108,100,101,114])))),.op 38 (.move (.t 0)),.andN 42 0 [.op 39 (.fieldAddr 0 (.t 9)),.op 40 (.load none (.t 0)),.op 41 (.bin .eql (.t 0) (.k (.c (.str [111,110]))))] (.t 0)] [8,9,10,11,12,13,14,0]) (.cond (.t 7) (.region [.op 43 (.call false (.k (.c (.func 216 [] []))) [(.t 2)]),.op 44 (.nilCheck (.t 0)),.op 45 (.load (some 4) (.t 0)),.eff (.store 4 (.t 9) (.t 0))] [3,4,5,6,7,8,9]) (.pre [0,1,2,3,4,5,6] .skip)))
@[simp] def c197_n14:SCode:=(.region [.op 46 (.mkFunc 218 [] [(.t 1),(.t 0)]),.op 47 (.mkFunc 219 [] [(.t 3),(.t 5)]),.op 48 (.mkFunc 220 [] [(.t 5),(.t 2)]),.op 49 (.mkFunc 221 [] [(.t 7),(.t 5)]),.op 50 (.mkFunc 222 [] [(.t 8),(.t 4),(.t 5)]),.op 51 (.mkFunc 224 [] [(.t 9),(.t 5),(.t 7),(.t 6)]),.op 52 (.mkFunc 226 [] [(.t 10),(.t 8)]),.op 53 (.mkFunc 227 [] [(.t 11),(.t 8),(.t 12)]),.op 54 (.mkFunc 228 [] [(.t 12),(.t 9),(.t 13)]),.op 55 (.mkFunc 229 [] [(.t 13),(.t 10),(.t 11),(.t 9)]),.op 56 (.mkFunc 230 [] [(.t 14),(.t 12),(.t 10)]),.op 57 (.mkFunc 231 [] [(.t 11),(.t 13),(.t 12)]),.op 58 (.mkFunc 233 [] [(.t 16),(.t 14),(.t 18)]),.op 59 (.mkFunc 234 [] [(.t 17),(.t 19)]),.op 60 (.mkFunc 235 [] [(.t 18),(.t 15),(.t 16)]),.op 61 (.mkFunc 236 [] [(.t 19),(.t 17),(.t 15)]),.op 62 (.buildSlice 0 none 16 [(.c .nilfunc)] [(0,(.t 15)),(1,(.t 14)),(2,(.t 13)),(3,(.t 12)),(4,(.t 11)),(5,(.t 10)),(6,(.t 9)),(7,(.t 8)),(8,(.t 7)),(9,(.t 6)),(10,(.t 5)),(11,(.t 4)),(12,(.t 3)),(13,(.t 2)),(14,(.t 1)),(15,(.t 0))]),.op 63 (.call false (.k (.c (.func 217 [] []))) [(.t 0)]),.op 4 (.move (.t 0))] [0])
def c197_n13:SCode:=.seq c197_n14 .ret
instance:IsSeq c197_n13 c197_n14 .ret:=⟨rfl⟩
def c197_n11:SCode:=.seq c197_n12 c197_n13
instance:IsSeq c197_n11 c197_n12 c197_n13:=⟨rfl⟩
def c197_n9:SCode:=.seq c197_n10 c197_n11
instance:IsSeq c197_n9 c197_n10 c197_n11:=⟨rfl⟩
def c197_n7:SCode:=.seq c197_n8 c197_n9
instance:IsSeq c197_n7 c197_n8 c197_n9:=⟨rfl⟩
def c197_n5:SCode:=.seq c197_n6 c197_n7
instance:IsSeq c197_n5 c197_n6 c197_n7:=⟨rfl⟩
def c197_n3:SCode:=.seq c197_n4 c197_n5
instance:IsSeq c197_n3 c197_n4 c197_n5:=⟨rfl⟩
def c197_n1:SCode:=.seq c197_n2 c197_n3
instance:IsSeq c197_n1 c197_n2 c197_n3:=⟨rfl⟩
def c197:SCode:=(.seq (.region [.op 2 (.box (.t 0)),.op 3 (.box (.t 2)),.op 4 (.move (.k (.c (.int .i64 0))))] [2,1]) c197_n1)
def F197:SFunc:=.code .live 64 2 [some 4] [.tmp 0] c197
@[simp] def c198_n2:SCode:=(.draw 0 [.op 4 (.call false (.k (.c (.func 214 [] []))) []),.op 5 (.fieldAddr 1 (.t 2)),.op 6 (.load none (.t 0)) none .var,.op 7 (.lookup (.one 1) (.agg [.nil,(.c (.bool false)),(.c .nilfunc)]) false (.t 2) (.t 0)) none .old,.op 8 (.field 2 none (.t 0)),.op 9 (.move (.t 5)),.op 10 (.move (.t 6)),.op 11 (.nilCheck (.t 0)),.op 12 (.fieldAddr 4 (.t 0)),.op 13 (.fieldAddr 1 (.t 0)),.op 14 (.load none (.t 0)) none .var,.op 15 (.fieldAddr 0 (.t 12)),.op 16 (.load none (.t 0)) none .var,.op 17 (.idxSlice 11 (.t 2) (.t 0)),.op 18 (.load (some 4) (.t 15)) none .var,.op 19 (.call false (.t 10) [(.t 9),(.t 1),(.t 0)])] [16,17])
def c198_n1:SCode:=.seq c198_n2 (.region [.op 20 (.move (.t 0)),.op 21 (.fieldAddr 3 (.t 2)),.op 22 (.load none (.t 0)),.op 23 (.nilCheck (.t 2)),.op 24 (.fieldAddr 4 (.t 0)),.op 25 (.fieldAddr 0 (.t 0)),.eff (.store 1 (.t 0) (.t 3))] [])
instance:IsSeq c198_n1 c198_n2 (.region [.op 20 (.move (.t 0)),.op 21 (.fieldAddr 3 (.t 2)),.op 22 (.load none (.t 0)),.op 23 (.nilCheck (.t 2)),.op 24 (.fieldAddr 4 (.t 0)),.op 25 (.fieldAddr 0 (.t 0)),.eff (.store 1 (.t 0) (.t 3))] []):=⟨rfl⟩
def c198:SCode:=(.seq (.region [.op 3 (.box (.t 1))] [1,0]) c198_n1)
def F198:SFunc:=.code .live 26 2 [] [] c198
def c199:SCode:=(.seq (.region [.op 6 (.move (.k (.c (.bool false))))] [1,2,3]) (.seq (.region [.op 7 (.move (.t 0)),.op 8 (.move (.t 2)),.op 9 (.bin .lss (.t 1) (.t 0)),.op 10 (.move (.t 0)),.orN 14 0 [.op 11 (.move (.t 4)),.op 12 (.move (.t 7)),.op 13 (.bin .gtr (.t 1) (.t 0))] (.t 0),.op 6 (.move (.t 0))] [0]) .ret))
def F199:SFunc:=.code .pure 15 3 [some 6] [.tmp 0] c199
@[simp] def c200_n2:SCode:=(.region [.op 13 (.buildSlice 2 none 3 [(.c (.str []))] [(0,(.k (.c (.str [119,97,105,116,105,110,103])))),(1,(.k (.c (.str [111,110])))),(2,(.k (.c (.str [100,111,110,101]))))]),.op 14 (.fieldAddr 0 (.t 3)),.op 15 (.load none (.t 0)),.op 16 (.call false (.k (.c (.func 86 [] []))) [(.t 2),(.t 0)]),.op 17 (.move (.t 0)),.andN 22 0 [.op 18 (.buildSlice 2 none 4 [(.c (.str []))] [(0,(.k (.c (.str [])))),(1,(.k (.c (.str [100,110,115])))),(2,(.k (.c (.str [100,110,102])))),(3,(.k (.c (.str [100,115,113]))))]),.op 19 (.fieldAddr 1 (.t 8)),.op 20 (.load none (.t 0)),.op 21 (.call false (.k (.c (.func 86 [] []))) [(.t 2),(.t 0)])] (.t 0),.op 7 (.move (.t 0))] [7,8,9,0])
@[simp] def c200_n4:SCode:=(.draw 0 [.op 23 (.fieldAddr 3 (.t 2)),.op 24 (.load none (.t 0)) none .var,.op 25 (.move (.t 2)),.op 26 (.call false (.k (.c (.func 199 [] []))) [(.t 1),(.k (.c (.int .i64 0))),(.t 0)]),.op 27 (.move (.t 0)),.orN 33 0 [.op 28 (.fieldAddr 4 (.t 7)),.op 29 (.load none (.t 0)) none .var,.op 30 (.fieldAddr 3 (.t 8)),.op 31 (.load none (.t 0)) none .var,.op 32 (.call false (.k (.c (.func 199 [] []))) [(.t 2),(.k (.c (.int .i64 0))),(.t 0)])] (.t 0),.op 34 (.move (.t 0)),.orN 40 0 [.op 35 (.fieldAddr 2 (.t 9)),.op 36 (.load none (.t 0)) none .var,.op 37 (.load (some 4) (.t 10)) none .var,.op 38 (.call false (.k (.c (.func 238 [] []))) [(.t 0)]),.op 39 (.call false (.k (.c (.func 199 [] []))) [(.t 2),(.k (.c (.int .i64 0))),(.t 0)])] (.t 0),.op 41 (.move (.t 0)),.orN 47 0 [.op 42 (.fieldAddr 5 (.t 11)),.op 43 (.load none (.t 0)) none .var,.op 44 (.load (some 4) (.t 12)) none .var,.op 45 (.call false (.k (.c (.func 239 [] []))) [(.t 0)]),.op 46 (.call false (.k (.c (.func 199 [] []))) [(.t 2),(.k (.c (.int .i64 0))),(.t 0)])] (.t 0),.op 8 (.move (.t 0))] [12,13,14,0])
@[simp] def c200_n6:SCode:=(.region [.op 48 (.makeMap),.op 49 (.fieldAddr 0 (.t 1)),.op 50 (.load none (.t 0)),.op 51 (.fieldAddr 2 (.t 3)),.op 52 (.load none (.t 0)),.eff (.mapUpdate (.one 1) (.t 4) (.t 2) (.t 0)),.op 53 (.move (.t 4)),.op 9 (.move (.t 0))] [7,8,9,10,0])
@[simp] def c200_n8:SCode:=(.region [.op 54 (.fieldAddr 9 (.t 1)),.op 55 (.load none (.t 0)),.op 56 (.len 1 (.t 0)),.op 57 (.move (.t 7)),.op 58 (.lookup (.one 1) (.c (.int .i64 0)) false (.t 0) (.k (.c (.str [98,111,117,108,100,101,114])))),.op 59 (.bin .neq (.t 2) (.t 0)),.op 60 (.move (.t 0)),.orN 67 0 [.op 61 (.fieldAddr 10 (.t 8)),.op 62 (.load none (.t 0)),.op 63 (.len 1 (.t 0)),.op 64 (.move (.t 14)),.op 65 (.lookup (.one 1) (.c (.int .i64 0)) false (.t 0) (.k (.c (.str [115,112,101,101,100])))),.op 66 (.bin .gtr (.t 2) (.t 0))] (.t 0),.op 10 (.move (.t 0))] [9,10,11,12,0])
@[simp] def c200_n10:SCode:=(.region [.op 68 (.fieldAddr 10 (.t 1)),.op 69 (.load none (.t 0)),.op 70 (.call false (.k (.c (.func 184 [] []))) [(.t 0),(.k (.c (.func 240 [] [])))]),.op 11 (.move (.t 0))] [4,5,6,7,8,0])
@[simp] def c200_n12:SCode:=(.region [.op 71 (.fieldAddr 0 (.t 0)),.op 72 (.load none (.t 0)),.op 73 (.bin .neq (.t 0) (.k (.c (.str [108,101,97,100])))),.op 74 (.move (.t 0)),.andN 86 0 [.op 75 (.fieldAddr 4 (.t 5)),.op 76 (.load none (.t 0)),.op 77 (.bin .neq (.t 0) (.k (.c (.int .i64 0)))),.op 78 (.move (.t 0)),.orN 81 0 [.op 79 (.fieldAddr 6 (.t 9)),.op 80 (.load none (.t 0))] (.t 0),.op 82 (.move (.t 0)),.orN 85 0 [.op 83 (.fieldAddr 7 (.t 11)),.op 84 (.load none (.t 0))] (.t 0)] (.t 0),.op 87 (.move (.t 0)),.orN 95 0 [.op 88 (.fieldAddr 0 (.t 6)),.op 89 (.load none (.t 0)),.op 90 (.bin .neq (.t 0) (.k (.c (.str [98,111,117,108,100,101,114])))),.op 91 (.move (.t 0)),.andN 94 0 [.op 92 (.fieldAddr 8 (.t 11)),.op 93 (.load none (.t 0))] (.t 0)] (.t 0),.op 12 (.move (.t 0))] [9,10,11,12,13,0])
@[simp] def c200_n14:SCode:=(.draw 1 [.op 96 (.move (.t 1)),.op 97 (.not (.t 0)),.op 98 (.call false (.k (.c (.func 126 [] []))) [(.t 0),(.k (.c (.int .i64 13)))]),.op 99 (.fieldAddr 0 (.t 3)),.op 100 (.load none (.t 0)) none .var,.op 101 (.bin .neq (.t 0) (.k (.c (.str [100,111,110,101])))),.op 102 (.move (.t 0)),.andN 106 0 [.op 103 (.fieldAddr 1 (.t 7)),.op 104 (.load none (.t 0)) none .var,.op 105 (.bin .neq (.t 0) (.k (.c (.str []))))] (.t 0),.op 107 (.call false (.k (.c (.func 126 [] []))) [(.t 0),(.k (.c (.int .i64 19)))]),.op 108 (.move (.t 11)),.op 109 (.call false (.k (.c (.func 126 [] []))) [(.t 0),(.k (.c (.int .i64 3)))]),.op 110 (.move (.t 14)),.op 111 (.call false (.k (.c (.func 126 [] []))) [(.t 0),(.k (.c (.int .i64 2)))]),.op 112 (.fieldAddr 9 (.t 13)),.op 113 (.load none (.t 0)) none .var,.op 114 (.call false (.k (.c (.func 241 [] []))) [(.t 0)]),.op 115 (.move (.t 20)),.op 116 (.call false (.k (.c (.func 126 [] []))) [(.t 0),(.k (.c (.int .i64 3)))]),.op 117 (.move (.t 23)),.op 118 (.call false (.k (.c (.func 126 [] []))) [(.t 0),(.k (.c (.int .i64 1)))]),.op 119 (.buildSlice 2 none 7 [(.c (.int .i64 0))] [(0,(.t 17)),(1,(.t 11)),(2,(.t 9)),(3,(.t 7)),(4,(.t 4)),(5,(.t 2)),(6,(.t 0))]) (some 0),.op 120 (.call false (.k (.c (.func 125 [] []))) [(.t 0)]),.op 6 (.move (.t 0))] [0])
def c200_n13:SCode:=.seq c200_n14 .ret
instance:IsSeq c200_n13 c200_n14 .ret:=⟨rfl⟩
def c200_n11:SCode:=.seq c200_n12 c200_n13
instance:IsSeq c200_n11 c200_n12 c200_n13:=⟨rfl⟩
def c200_n9:SCode:=.seq c200_n10 c200_n11
instance:IsSeq c200_n9 c200_n10 c200_n11:=⟨rfl⟩
def c200_n7:SCode:=.seq c200_n8 c200_n9
instance:IsSeq c200_n7 c200_n8 c200_n9:=⟨rfl⟩
def c200_n5:SCode:=.seq c200_n6 c200_n7
instance:IsSeq c200_n5 c200_n6 c200_n7:=⟨rfl⟩
def c200_n3:SCode:=.seq c200_n4 c200_n5
instance:IsSeq c200_n3 c200_n4 c200_n5:=⟨rfl⟩
def c200_n1:SCode:=.seq c200_n2 c200_n3
instance:IsSeq c200_n1 c200_n2 c200_n3:=⟨rfl⟩
def c200:SCode:=(.seq (.region [.op 3 (.box (.t 0)),.op 5 (.box (.t 3)),.op 6 (.move (.k (.c (.int .i64 0))))] [4,2,1]) c200_n1)
def F200:SFunc:=.code .pure 121 3 [some 6] [.tmp 0] c200
def c210_n3:SCode:=.seq (.region [.op 10 (.move (.t 3)),.op 5 (.move (.t 0))] [2,3,0,4,5]) (.seq (.region [.op 11 (.move (.t 1)),.op 12 (.move (.t 1)),.op 13 (.move (.t 4)),.op 14 (.idxSlice 1 (.t 1) (.t 0)),.op 15 (.load none (.t 0)),.op 16 (.call false (.t 4) [(.t 0)])] [6,7,8,9,10,0]) (.cond (.t 5) (.seq (.region [.op 17 (.move (.t 2)),.op 4 (.move (.t 0))] [0]) .ret) (.pre [0,1,3,4] .skip)))
instance:IsSeq c210_n3 (.region [.op 10 (.move (.t 3)),.op 5 (.move (.t 0))] [2,3,0,4,5]) (.seq (.region [.op 11 (.move (.t 1)),.op 12 (.move (.t 1)),.op 13 (.move (.t 4)),.op 14 (.idxSlice 1 (.t 1) (.t 0)),.op 15 (.load none (.t 0)),.op 16 (.call false (.t 4) [(.t 0)])] [6,7,8,9,10,0]) (.cond (.t 5) (.seq (.region [.op 17 (.move (.t 2)),.op 4 (.move (.t 0))] [0]) .ret) (.pre [0,1,3,4] .skip))):=⟨rfl⟩
def c210_n2:SCode:=.seq (.block 1 [some 0,some 1,some 7,some 8] c210_n3) (.region [.op 18 (.bin .add (.t 3) (.k (.c (.int .i64 1)))),.op 8 (.move (.t 0))] [2,3,4,0])
instance:IsSeq c210_n2 (.block 1 [some 0,some 1,some 7,some 8] c210_n3) (.region [.op 18 (.bin .add (.t 3) (.k (.c (.int .i64 1)))),.op 8 (.move (.t 0))] [2,3,4,0]):=⟨rfl⟩
def c210_n1:SCode:=.seq (.cond (.t 4) (.pre [0,1,2,3] .skip) (.pre [] (.exit 0))) c210_n2
instance:IsSeq c210_n1 (.cond (.t 4) (.pre [0,1,2,3] .skip) (.pre [] (.exit 0))) c210_n2:=⟨rfl⟩
def c210_l0b:SCode:=(.seq (.region [.op 9 (.bin .lss (.t 3) (.t 2))] [1,2,3,4,0]) c210_n1)
def c210_l0:SCode:=.loop true c210_l0b
def c210:SCode:=(.seq (.region [.op 4 (.move (.k (.c (.int .i64 0))))] [1,2]) (.seq (.seq (.region [.op 6 (.move (.t 0)),.op 7 (.len 1 (.t 0)),.op 8 (.move (.k (.c (.int .i64 0))))] [3,4,1,0]) (.block 0 [] c210_l0)) (.seq (.region [.op 4 (.move (.k (.c (.int .i64 (-1)))))] [0]) .ret)))
def F210:SFunc:=.code .pure 19 2 [some 4] [.tmp 0] c210
@[simp] def c211_n2:SCode:=(.draw 0 [.op 37 (.move (.t 0)),.op 38 (.move (.t 6)),.op 39 (.move (.t 2)),.op 40 (.move (.t 8)),.op 41 (.bin .sub (.t 0) (.k (.c (.int .i64 1)))),.op 42 (.move (.t 5)),.op 43 (.move (.t 11)),.op 44 (.bin .sub (.t 0) (.k (.c (.int .i64 1)))),.op 45 (.idxSlice 3 (.t 2) (.t 0)),.op 46 (.load (some 3) (.t 0)) none .old,.op 47 (.move (.t 10)),.op 48 (.move (.t 16)),.op 49 (.idxSlice 3 (.t 1) (.t 0)),.op 50 (.load (some 3) (.t 0)) none .old,.op 51 (.idxSlice 3 (.t 13) (.t 12)),.eff (.store 3 (.t 0) (.t 5)) none .old,.op 52 (.idxSlice 3 (.t 12) (.t 10)),.eff (.store 3 (.t 0) (.t 2)) none .old] [16,17,18,19,20,21])
def c211_n1:SCode:=.seq (.block 3 [some 0,some 1,some 2,some 3,some 8,some 9] c211_n2) (.region [.op 35 (.move (.t 5)),.op 36 (.bin .sub (.t 0) (.k (.c (.int .i64 1)))),.op 9 (.move (.t 0))] [3,4,5,6,7,0])
instance:IsSeq c211_n1 (.block 3 [some 0,some 1,some 2,some 3,some 8,some 9] c211_n2) (.region [.op 35 (.move (.t 5)),.op 36 (.bin .sub (.t 0) (.k (.c (.int .i64 1)))),.op 9 (.move (.t 0))] [3,4,5,6,7,0]):=⟨rfl⟩
def c211_l0b:SCode:=(.seq (.seq (.draw 0 [.op 18 (.move (.t 5)),.op 19 (.move (.t 2)),.op 20 (.bin .gtr (.t 1) (.t 0)),.op 21 (.move (.t 0)),.andN 34 0 [.op 22 (.move (.t 7)),.op 23 (.move (.t 5)),.op 24 (.move (.t 11)),.op 25 (.idxSlice 3 (.t 1) (.t 0)),.op 26 (.load (some 3) (.t 0)) none .old,.op 27 (.move (.t 9)),.op 28 (.move (.t 15)),.op 29 (.bin .sub (.t 0) (.k (.c (.int .i64 1)))),.op 30 (.idxSlice 3 (.t 2) (.t 0)),.op 31 (.load (some 3) (.t 0)) none .old,.op 32 (.call false (.t 9) [(.t 5),(.t 0)]),.op 33 (.bin .lss (.t 0) (.k (.c (.int .i64 0))))] (.t 0)] [5,6,7,8,9,10,0]) (.cond (.t 6) (.pre [0,1,2,3,4,5] .skip) (.pre [0,1,2,3,4] (.exit 2)))) c211_n1)
def c211_l0:SCode:=.loop true c211_l0b
def c211_l1b:SCode:=(.seq (.seq (.region [.op 12 (.move (.t 4)),.op 13 (.move (.t 3)),.op 14 (.bin .lss (.t 1) (.t 0))] [3,4,5,6,7,0]) (.cond (.t 5) (.pre [0,1,2,3,4] .skip) (.pre [] (.exit 0)))) (.seq (.block 1 [some 0,some 1,some 2,some 3,some 8] (.seq (.region [.op 17 (.move (.t 4)),.op 9 (.move (.t 0))] [2,3,4,5,6,0]) (.block 2 [some 0,some 1,some 2,some 3,some 8] c211_l0))) (.region [.op 15 (.move (.t 4)),.op 16 (.bin .add (.t 0) (.k (.c (.int .i64 1)))),.op 8 (.move (.t 0))] [3,4,5,6,0])))
def c211_l1:SCode:=.loop true c211_l1b
def c211:SCode:=(.seq (.region [.op 10 (.move (.t 1)),.op 11 (.bin .add (.t 0) (.k (.c (.int .i64 1)))),.op 8 (.move (.t 0))] [3,4,5,6,0]) (.block 0 [] c211_l1))
def F211:SFunc:=.code .shared 53 4 [] [] c211
@[simp] def c212_n3:SCode:=(.region [.op 34 (.move (.t 3)),.op 35 (.move (.t 5)),.op 36 (.bin .add (.t 1) (.t 0)),.op 37 (.conv .u64 (.t 0)),.op 38 (.bin .shr (.t 0) (.k (.c (.int .u64 1)))),.op 39 (.conv .i64 (.t 0)),.op 12 (.move (.t 0))] [7,8,9,10,11,0])
@[simp] def c212_n5:SCode:=(.draw 0 [.op 40 (.move (.t 2)),.op 41 (.move (.t 1)),.op 42 (.move (.t 7)),.op 43 (.idxSlice 3 (.t 1) (.t 0)),.op 44 (.load (some 3) (.t 0)) none .old,.op 45 (.move (.t 5)),.op 46 (.move (.t 7)),.op 47 (.idxSlice 3 (.t 1) (.t 0)),.op 48 (.load (some 3) (.t 0)) none .old,.op 49 (.call false (.t 8) [(.t 4),(.t 0)]),.op 50 (.bin .lss (.t 0) (.k (.c (.int .i64 0))))] [11,12,13,14,15,16,0])
def c212_n4:SCode:=.seq c212_n5 (.cond (.t 6) (.region [.op 51 (.move (.t 5)),.op 52 (.bin .add (.t 0) (.k (.c (.int .i64 1)))),.op 10 (.move (.t 0))] [3,4,5,0,7]) (.region [.op 53 (.move (.t 5)),.op 11 (.move (.t 0))] [2,3,4,5,0]))
def c212_n2:SCode:=.seq c212_n3 c212_n4
def c212_n1:SCode:=.block 1 [some 0,some 1,some 4,some 10,some 11] c212_n2
instance:IsBlock c212_n1 1 [some 0,some 1,some 4,some 10,some 11] c212_n2:=⟨rfl⟩
def c212_l0b:SCode:=(.seq (.seq (.region [.op 31 (.move (.t 3)),.op 32 (.move (.t 5)),.op 33 (.bin .lss (.t 1) (.t 0))] [3,4,5,6,7,0]) (.cond (.t 5) (.pre [0,1,2,3,4] .skip) (.pre [0,1,3] (.exit 0)))) c212_n1)
def c212_l0:SCode:=.loop true c212_l0b
@[simp] def c212_n7:SCode:=(.draw 0 [.op 61 (.move (.t 0)),.op 62 (.move (.t 3)),.op 63 (.move (.t 2)),.op 64 (.move (.t 5)),.op 65 (.bin .add (.t 0) (.k (.c (.int .i64 1)))),.op 66 (.move (.t 5)),.op 67 (.move (.t 8)),.op 68 (.bin .add (.t 0) (.k (.c (.int .i64 1)))),.op 69 (.idxSlice 3 (.t 2) (.t 0)),.op 70 (.load (some 3) (.t 0)) none .old,.op 71 (.move (.t 10)),.op 72 (.move (.t 13)),.op 73 (.idxSlice 3 (.t 1) (.t 0)),.op 74 (.load (some 3) (.t 0)) none .old,.op 75 (.idxSlice 3 (.t 13) (.t 12)),.eff (.store 3 (.t 0) (.t 5)) none .old,.op 76 (.idxSlice 3 (.t 12) (.t 10)),.eff (.store 3 (.t 0) (.t 2)) none .old] [16,17,18])
def c212_n6:SCode:=.seq (.block 3 [some 0,some 10,some 13] c212_n7) (.region [.op 59 (.move (.t 2)),.op 60 (.bin .add (.t 0) (.k (.c (.int .i64 1)))),.op 13 (.move (.t 0))] [3,4,0])
def c212_l1b:SCode:=(.seq (.seq (.region [.op 55 (.move (.t 2)),.op 56 (.move (.t 2)),.op 57 (.bin .sub (.t 0) (.k (.c (.int .i64 1)))),.op 58 (.bin .lss (.t 2) (.t 0))] [4,5,6,0]) (.cond (.t 3) (.pre [0,1,2] .skip) (.pre [] (.exit 2)))) c212_n6)
def c212_l1:SCode:=.loop true c212_l1b
@[simp] def c212_n10:SCode:=(.region [.op 86 (.move (.t 3)),.op 87 (.move (.t 5)),.op 88 (.bin .add (.t 1) (.t 0)),.op 89 (.conv .u64 (.t 0)),.op 90 (.bin .shr (.t 0) (.k (.c (.int .u64 1)))),.op 91 (.conv .i64 (.t 0)),.op 16 (.move (.t 0))] [7,8,9,10,11,0])
@[simp] def c212_n12:SCode:=(.draw 0 [.op 92 (.move (.t 2)),.op 93 (.move (.t 1)),.op 94 (.move (.t 3)),.op 95 (.idxSlice 3 (.t 1) (.t 0)),.op 96 (.load (some 3) (.t 0)) none .old,.op 97 (.move (.t 5)),.op 98 (.move (.t 11)),.op 99 (.idxSlice 3 (.t 1) (.t 0)),.op 100 (.load (some 3) (.t 0)) none .old,.op 101 (.call false (.t 8) [(.t 4),(.t 0)]),.op 102 (.bin .lss (.t 0) (.k (.c (.int .i64 0)))),.op 103 (.not (.t 0))] [12,13,14,15,16,17,0])
def c212_n11:SCode:=.seq c212_n12 (.cond (.t 6) (.region [.op 104 (.move (.t 5)),.op 105 (.bin .add (.t 0) (.k (.c (.int .i64 1)))),.op 14 (.move (.t 0))] [3,4,5,0,7]) (.region [.op 106 (.move (.t 5)),.op 15 (.move (.t 0))] [2,3,4,5,0]))
def c212_n9:SCode:=.seq c212_n10 c212_n11
def c212_n8:SCode:=.block 5 [some 0,some 2,some 4,some 14,some 15] c212_n9
instance:IsBlock c212_n8 5 [some 0,some 2,some 4,some 14,some 15] c212_n9:=⟨rfl⟩
def c212_l2b:SCode:=(.seq (.seq (.region [.op 83 (.move (.t 3)),.op 84 (.move (.t 5)),.op 85 (.bin .lss (.t 1) (.t 0))] [3,4,5,6,7,0]) (.cond (.t 5) (.pre [0,1,2,3,4] .skip) (.pre [0,1,3] (.exit 4)))) c212_n8)
def c212_l2:SCode:=.loop true c212_l2b
@[simp] def c212_n14:SCode:=(.draw 0 [.op 113 (.move (.t 0)),.op 114 (.move (.t 3)),.op 115 (.move (.t 2)),.op 116 (.move (.t 5)),.op 117 (.bin .sub (.t 0) (.k (.c (.int .i64 1)))),.op 118 (.move (.t 5)),.op 119 (.move (.t 8)),.op 120 (.bin .sub (.t 0) (.k (.c (.int .i64 1)))),.op 121 (.idxSlice 3 (.t 2) (.t 0)),.op 122 (.load (some 3) (.t 0)) none .old,.op 123 (.move (.t 10)),.op 124 (.move (.t 13)),.op 125 (.idxSlice 3 (.t 1) (.t 0)),.op 126 (.load (some 3) (.t 0)) none .old,.op 127 (.idxSlice 3 (.t 13) (.t 12)),.eff (.store 3 (.t 0) (.t 5)) none .old,.op 128 (.idxSlice 3 (.t 12) (.t 10)),.eff (.store 3 (.t 0) (.t 2)) none .old] [16,17,18])
def c212_n13:SCode:=.seq (.block 7 [some 0,some 14,some 17] c212_n14) (.region [.op 111 (.move (.t 2)),.op 112 (.bin .sub (.t 0) (.k (.c (.int .i64 1)))),.op 17 (.move (.t 0))] [3,4,0])
def c212_l3b:SCode:=(.seq (.seq (.region [.op 108 (.move (.t 2)),.op 109 (.move (.t 2)),.op 110 (.bin .gtr (.t 1) (.t 0))] [3,4,5,0]) (.cond (.t 3) (.pre [0,1,2] .skip) (.pre [] (.exit 6)))) c212_n13)
def c212_l3:SCode:=.loop true c212_l3b
@[simp] def c212_n17:SCode:=(.region [.op 152 (.move (.t 7)),.op 153 (.move (.t 9)),.op 154 (.bin .add (.t 1) (.t 0)),.op 155 (.conv .u64 (.t 0)),.op 156 (.bin .shr (.t 0) (.k (.c (.int .u64 1)))),.op 157 (.conv .i64 (.t 0)),.op 23 (.move (.t 0))] [7,8,9,10,11,12,13,14,15,16,0])
@[simp] def c212_n19:SCode:=(.draw 0 [.op 158 (.move (.t 4)),.op 159 (.move (.t 1)),.op 160 (.move (.t 11)),.op 161 (.move (.t 13)),.op 162 (.bin .sub (.t 1) (.t 0)),.op 163 (.idxSlice 3 (.t 3) (.t 0)),.op 164 (.load (some 3) (.t 0)) none .old,.op 165 (.move (.t 7)),.op 166 (.move (.t 18)),.op 167 (.idxSlice 3 (.t 1) (.t 0)),.op 168 (.load (some 3) (.t 0)) none .old,.op 169 (.call false (.t 10) [(.t 4),(.t 0)]),.op 170 (.bin .lss (.t 0) (.k (.c (.int .i64 0)))),.op 171 (.not (.t 0))] [14,15,16,17,18,19,20,21,22,23,24,0])
def c212_n18:SCode:=.seq c212_n19 (.cond (.t 11) (.region [.op 172 (.move (.t 10)),.op 173 (.bin .add (.t 0) (.k (.c (.int .i64 1)))),.op 20 (.move (.t 0))] [3,4,5,6,7,8,9,0,11,12]) (.region [.op 174 (.move (.t 10)),.op 21 (.move (.t 0))] [2,3,4,5,6,7,8,9,0,11]))
def c212_n16:SCode:=.seq c212_n17 c212_n18
def c212_n15:SCode:=.block 9 [some 0,some 1,some 2,some 3,some 4,some 18,some 19,some 20,some 21,some 22] c212_n16
instance:IsBlock c212_n15 9 [some 0,some 1,some 2,some 3,some 4,some 18,some 19,some 20,some 21,some 22] c212_n16:=⟨rfl⟩
def c212_l4b:SCode:=(.seq (.seq (.region [.op 149 (.move (.t 7)),.op 150 (.move (.t 9)),.op 151 (.bin .lss (.t 1) (.t 0))] [3,4,5,6,7,8,9,10,11,12,0]) (.cond (.t 10) (.pre [0,1,2,3,4,5,6,7,8,9] .skip) (.pre [0,1,2,3,4,5,6,7] (.exit 8)))) c212_n15)
def c212_l4:SCode:=.loop true c212_l4b
def c212_n20:SCode:=.cond (.t 5) (.seq (.region [.op 29 (.move (.t 2)),.op 10 (.move (.t 0))] [2,3,5,6,0]) (.seq (.region [.op 30 (.move (.t 2)),.op 11 (.move (.t 0))] [2,3,5,6,0]) (.seq (.block 0 [some 0,some 1,some 10] c212_l0) (.seq (.seq (.region [.op 54 (.move (.t 1)),.op 13 (.move (.t 0))] [2,4,0]) (.block 2 [] c212_l1)) .ret)))) (.pre [0,1,2,3,4] .skip)
def c212_n22:SCode:=.cond (.t 5) (.seq (.region [.op 81 (.move (.t 1)),.op 14 (.move (.t 0))] [2,4,6,0]) (.seq (.region [.op 82 (.move (.t 1)),.op 15 (.move (.t 0))] [2,3,4,5,0]) (.seq (.block 4 [some 0,some 2,some 14] c212_l2) (.seq (.seq (.region [.op 107 (.move (.t 1)),.op 17 (.move (.t 0))] [2,4,0]) (.block 6 [] c212_l3)) .ret)))) (.pre [0,1,2,3,4] .skip)
@[simp] def c212_n23:SCode:=(.seq (.region [.op 77 (.move (.t 3)),.op 78 (.move (.t 3)),.op 79 (.bin .sub (.t 1) (.t 0)),.op 80 (.bin .eql (.t 0) (.k (.c (.int .i64 1))))] [4,5,6,7,8,0]) c212_n22)
@[simp] def c212_n25:SCode:=(.region [.op 129 (.move (.t 1)),.op 130 (.move (.t 4)),.op 131 (.bin .add (.t 1) (.t 0)),.op 132 (.conv .u64 (.t 0)),.op 133 (.bin .shr (.t 0) (.k (.c (.int .u64 1)))),.op 134 (.conv .i64 (.t 0)),.op 18 (.move (.t 0))] [7,8,9,10,11,0])
@[simp] def c212_n27:SCode:=(.region [.op 135 (.move (.t 5)),.op 136 (.move (.t 3)),.op 137 (.bin .add (.t 1) (.t 0)),.op 19 (.move (.t 0))] [4,5,6,7,8,9,0])
@[simp] def c212_n29:SCode:=(.region [.op 20 (.move (.k (.c (.int .i64 0)))),.op 21 (.move (.k (.c (.int .i64 0))))] [2,3,4,5,6,7,8])
def c212_n31:SCode:=.cond (.t 7) (.seq (.region [.op 141 (.move (.t 6)),.op 142 (.move (.t 4)),.op 143 (.bin .sub (.t 1) (.t 0)),.op 20 (.move (.t 0))] [4,5,6,7,8,9,10,0]) (.region [.op 144 (.move (.t 5)),.op 21 (.move (.t 0))] [2,3,4,5,6,7,8,9,0])) (.seq (.region [.op 145 (.move (.t 1)),.op 20 (.move (.t 0))] [2,3,4,5,6,7,8,0]) (.region [.op 146 (.move (.t 2)),.op 21 (.move (.t 0))] [2,3,4,5,6,7,8,9,0]))
@[simp] def c212_n32:SCode:=(.seq (.region [.op 138 (.move (.t 2)),.op 139 (.move (.t 6)),.op 140 (.bin .gtr (.t 1) (.t 0))] [3,4,5,6,7,8,9,0]) c212_n31)
@[simp] def c212_n34:SCode:=(.region [.op 147 (.move (.t 6)),.op 148 (.bin .sub (.t 0) (.k (.c (.int .i64 1)))),.op 22 (.move (.t 0))] [3,4,5,6,7,8,9,10,11,0])
@[simp] def c212_n36:SCode:=(.block 8 [some 0,some 1,some 2,some 3,some 4,some 18,some 19,some 20] c212_l4)
@[simp] def c212_n38:SCode:=(.region [.op 175 (.move (.t 6)),.op 176 (.move (.t 8)),.op 177 (.bin .sub (.t 1) (.t 0)),.op 24 (.move (.t 0))] [4,5,6,7,8,9,11,0])
@[simp] def c212_n40:SCode:=(.seq (.region [.op 178 (.move (.t 6)),.op 179 (.move (.t 3)),.op 180 (.bin .lss (.t 1) (.t 0)),.op 181 (.move (.t 0)),.andN 185 0 [.op 182 (.move (.t 6)),.op 183 (.move (.t 12)),.op 184 (.bin .lss (.t 1) (.t 0))] (.t 0)] [5,6,7,8,9,10,11,12,0]) (.cond (.t 8) (.region [.op 186 (.move (.t 0)),.op 187 (.move (.t 7)),.op 188 (.move (.t 4)),.op 189 (.move (.t 10)),.op 190 (.move (.t 8)),.op 191 (.call false (.k (.c (.func 256 [] []))) [(.t 4),(.t 3),(.t 2),(.t 1),(.t 0)])] [6,7,9,10,11,12,13]) (.pre [0,1,3,4,5,6,7] .skip)))
@[simp] def c212_n42:SCode:=(.seq (.region [.op 192 (.move (.t 1)),.op 193 (.move (.t 6)),.op 194 (.bin .lss (.t 1) (.t 0)),.op 195 (.move (.t 0)),.andN 199 0 [.op 196 (.move (.t 9)),.op 197 (.move (.t 9)),.op 198 (.bin .lss (.t 1) (.t 0))] (.t 0)] [5,6,7,8,9,10,11,0]) (.cond (.t 7) (.region [.op 200 (.move (.t 0)),.op 201 (.move (.t 2)),.op 202 (.move (.t 7)),.op 203 (.move (.t 7)),.op 204 (.move (.t 7)),.op 205 (.call false (.k (.c (.func 212 [] []))) [(.t 4),(.t 3),(.t 2),(.t 1),(.t 0)])] [6,8,9,10,12]) (.pre [0,2,3,4,6] .skip)))
@[simp] def c212_n44:SCode:=(.region [.op 206 (.move (.t 3)),.op 207 (.move (.t 5)),.op 208 (.bin .lss (.t 1) (.t 0)),.op 209 (.move (.t 0)),.andN 213 0 [.op 210 (.move (.t 8)),.op 211 (.move (.t 6)),.op 212 (.bin .lss (.t 1) (.t 0))] (.t 0)] [5,6,7,8,9,0])
def c212_n43:SCode:=.seq c212_n44 (.cond (.t 5) (.region [.op 214 (.move (.t 0)),.op 215 (.move (.t 4)),.op 216 (.move (.t 6)),.op 217 (.move (.t 4)),.op 218 (.move (.t 6)),.op 219 (.call false (.k (.c (.func 212 [] []))) [(.t 4),(.t 3),(.t 2),(.t 1),(.t 0)])] []) (.pre [] .skip))
def c212_n41:SCode:=.seq c212_n42 c212_n43
def c212_n39:SCode:=.seq c212_n40 c212_n41
def c212_n37:SCode:=.seq c212_n38 c212_n39
def c212_n35:SCode:=.seq c212_n36 c212_n37
def c212_n33:SCode:=.seq c212_n34 c212_n35
def c212_n30:SCode:=.seq c212_n32 c212_n33
def c212_n28:SCode:=.seq c212_n29 c212_n30
def c212_n26:SCode:=.seq c212_n27 c212_n28
def c212_n24:SCode:=.seq c212_n25 c212_n26
def c212_n21:SCode:=.seq c212_n23 c212_n24
def c212:SCode:=(.seq (.seq (.region [.op 25 (.move (.t 2)),.op 26 (.move (.t 2)),.op 27 (.bin .sub (.t 1) (.t 0)),.op 28 (.bin .eql (.t 0) (.k (.c (.int .i64 1))))] [4,5,6,7,8,0]) c212_n20) c212_n21)
def F212:SFunc:=.code .shared 220 5 [] [] c212
@[simp] def c214_n2:SCode:=(.region [.op 3 (.buildSlice 0 none 3 [(.c (.str []))] [(0,(.k (.c (.str [108,101,97,100])))),(1,(.k (.c (.str [98,111,117,108,100,101,114])))),(2,(.k (.c (.str [115,112,101,101,100]))))]),.op 4 (.buildSlice 0 none 2 [(.c (.str []))] [(0,(.k (.c (.str [108,101,97,100])))),(1,(.k (.c (.str [98,111,117,108,100,101,114]))))]),.op 1 (.move (.t 1)),.op 2 (.move (.t 1))] [1,0])
@[simp] def c214_n4:SCode:=(.region [.op 5 (.makeMap),.op 6 (.move (.t 1)),.op 7 (.build [.nil,(.c (.bool false)),(.c .nilfunc)] [(0,1,(.t 0)),(1,1,(.k (.c (.bool true)))),(2,1,(.k (.c (.func 258 [] []))))]),.eff (.mapUpdate (.one 1) (.t 2) (.k (.c (.str [115,116,97,114,116]))) (.t 0)),.op 8 (.buildSlice 0 none 1 [(.c (.str []))] [(0,(.k (.c (.str [108,101,97,100]))))]),.op 9 (.build [.nil,(.c (.bool false)),(.c .nilfunc)] [(0,1,(.t 0)),(1,1,(.k (.c (.bool true)))),(2,1,(.k (.c (.func 259 [] []))))]),.eff (.mapUpdate (.one 1) (.t 4) (.k (.c (.str [104,111,108,100]))) (.t 0)),.op 10 (.buildSlice 0 none 1 [(.c (.str []))] [(0,(.k (.c (.str [108,101,97,100]))))]),.op 11 (.build [.nil,(.c (.bool false)),(.c .nilfunc)] [(0,1,(.t 0)),(1,1,(.k (.c (.bool false)))),(2,1,(.k (.c (.func 260 [] []))))]),.eff (.mapUpdate (.one 1) (.t 6) (.k (.c (.str [112,108,117,115]))) (.t 0)),.op 12 (.buildSlice 0 none 1 [(.c (.str []))] [(0,(.k (.c (.str [98,111,117,108,100,101,114]))))]),.op 13 (.build [.nil,(.c (.bool false)),(.c .nilfunc)] [(0,1,(.t 0)),(1,1,(.k (.c (.bool false)))),(2,1,(.k (.c (.func 261 [] []))))]),.eff (.mapUpdate (.one 1) (.t 8) (.k (.c (.str [97,116,116,101,109,112,116]))) (.t 0)),.op 14 (.buildSlice 0 none 1 [(.c (.str []))] [(0,(.k (.c (.str [98,111,117,108,100,101,114]))))]),.op 15 (.build [.nil,(.c (.bool false)),(.c .nilfunc)] [(0,1,(.t 0)),(1,1,(.k (.c (.bool false)))),(2,1,(.k (.c (.func 262 [] []))))]),.eff (.mapUpdate (.one 1) (.t 10) (.k (.c (.str [122,111,110,101]))) (.t 0)),.op 16 (.move (.t 12)),.op 17 (.build [.nil,(.c (.bool false)),(.c .nilfunc)] [(0,1,(.t 0)),(1,1,(.k (.c (.bool false)))),(2,1,(.k (.c (.func 263 [] []))))]),.eff (.mapUpdate (.one 1) (.t 12) (.k (.c (.str [116,111,112]))) (.t 0)),.op 18 (.move (.t 13)),.op 19 (.build [.nil,(.c (.bool false)),(.c .nilfunc)] [(0,1,(.t 0)),(1,1,(.k (.c (.bool false)))),(2,1,(.k (.c (.func 264 [] []))))]),.eff (.mapUpdate (.one 1) (.t 14) (.k (.c (.str [102,97,108,108]))) (.t 0)),.op 20 (.buildSlice 0 none 1 [(.c (.str []))] [(0,(.k (.c (.str [98,111,117,108,100,101,114]))))]),.op 21 (.build [.nil,(.c (.bool false)),(.c .nilfunc)] [(0,1,(.t 0)),(1,1,(.k (.c (.bool false)))),(2,1,(.k (.c (.func 265 [] []))))]),.eff (.mapUpdate (.one 1) (.t 16) (.k (.c (.str [108,101,97,118,101]))) (.t 0)),.op 22 (.move (.t 18)),.op 23 (.build [.nil,(.c (.bool false)),(.c .nilfunc)] [(0,1,(.t 0)),(1,1,(.k (.c (.bool false)))),(2,1,(.k (.c (.func 267 [] []))))]),.eff (.mapUpdate (.one 1) (.t 18) (.k (.c (.str [111,117,116]))) (.t 0)),.op 24 (.buildSlice 0 none 1 [(.c (.str []))] [(0,(.k (.c (.str [115,112,101,101,100]))))]),.op 25 (.build [.nil,(.c (.bool false)),(.c .nilfunc)] [(0,1,(.t 0)),(1,1,(.k (.c (.bool true)))),(2,1,(.k (.c (.func 268 [] []))))]),.eff (.mapUpdate (.one 1) (.t 20) (.k (.c (.str [102,105,110,105,115,104]))) (.t 0)),.op 26 (.buildSlice 0 none 1 [(.c (.str []))] [(0,(.k (.c (.str [115,112,101,101,100]))))]),.op 27 (.build [.nil,(.c (.bool false)),(.c .nilfunc)] [(0,1,(.t 0)),(1,1,(.k (.c (.bool false)))),(2,1,(.k (.c (.func 270 [] []))))]),.eff (.mapUpdate (.one 1) (.t 22) (.k (.c (.str [102,97,108,115,101]))) (.t 0)),.op 28 (.move (.t 23)),.op 29 (.build [.nil,(.c (.bool false)),(.c .nilfunc)] [(0,1,(.t 0)),(1,1,(.k (.c (.bool false)))),(2,1,(.k (.c (.func 272 [] []))))]),.eff (.mapUpdate (.one 1) (.t 24) (.k (.c (.str [105,110,99,105,100,101,110,116]))) (.t 0)),.op 30 (.move (.t 25)),.op 31 (.build [.nil,(.c (.bool false)),(.c .nilfunc)] [(0,1,(.t 0)),(1,1,(.k (.c (.bool false)))),(2,1,(.k (.c (.func 273 [] []))))]),.eff (.mapUpdate (.one 1) (.t 26) (.k (.c (.str [97,98,115,101,110,116]))) (.t 0)),.op 32 (.move (.t 27)),.op 33 (.build [.nil,(.c (.bool false)),(.c .nilfunc)] [(0,1,(.t 0)),(1,1,(.k (.c (.bool false)))),(2,1,(.k (.c (.func 274 [] []))))]),.eff (.mapUpdate (.one 1) (.t 28) (.k (.c (.str [98,97,114]))) (.t 0)),.op 34 (.move (.t 28)),.op 0 (.move (.t 0))] [0])
def c214_n3:SCode:=.seq c214_n4 .ret
instance:IsSeq c214_n3 c214_n4 .ret:=⟨rfl⟩
def c214_n1:SCode:=.seq c214_n2 c214_n3
instance:IsSeq c214_n1 c214_n2 c214_n3:=⟨rfl⟩
def c214:SCode:=(.seq (.region [.op 0 (.move (.k (.c (.map [] []))))] []) c214_n1)
def F214:SFunc:=.code .pure 35 0 [some 0] [.tmp 0] c214
def c215:SCode:=(.seq (.region [.op 3 (.move (.k (.c (.bool false))))] [1,2]) (.seq (.region [.op 4 (.move (.t 0)),.op 5 (.fieldAddr 1 (.t 2)),.op 6 (.load none (.t 0)),.op 7 (.call false (.k (.c (.func 86 [] []))) [(.t 2),(.t 0)]),.op 3 (.move (.t 0))] [0]) .ret))
def F215:SFunc:=.code .live 8 2 [some 3] [.tmp 0] c215
@[simp] def c216_n2:SCode:=(.draw 0 [.op 3 (.move (.t 0)),.op 4 (.nilCheck (.t 0)),.op 5 (.fieldAddr 9 (.t 0)),.op 6 (.load none (.t 0)) none .old,.op 7 (.move (.t 4)),.op 8 (.nilCheck (.t 0)),.op 9 (.fieldAddr 2 (.t 0)),.op 10 (.load none (.t 0)) none .old,.op 11 (.bin .sub (.t 0) (.k (.c (.int .i64 1)))),.op 12 (.idxSlice 4 (.t 5) (.t 0)),.op 2 (.move (.t 0))] [0])
def c216_n1:SCode:=.seq c216_n2 .ret
instance:IsSeq c216_n1 c216_n2 .ret:=⟨rfl⟩
def c216:SCode:=(.seq (.region [.op 2 (.move (.k (.c .nilptr)))] [1]) c216_n1)
def F216:SFunc:=.code .shared 13 1 [some 2] [.tmp 0] c216
def c217:SCode:=(.seq (.region [.op 2 (.move (.k (.c (.int .i64 0))))] [1]) (.seq (.region [.op 3 (.move (.t 0)),.op 4 (.call false (.k (.c (.func 275 [] []))) [(.t 0),(.k (.c (.func 276 [] [])))]),.op 5 (.bin .add (.k (.c (.int .i64 1))) (.t 0)),.op 2 (.move (.t 0))] [0]) .ret))
def F217:SFunc:=.code .live 6 1 [some 2] [.tmp 0] c217
def c218:SCode:=(.seq (.region [.op 2 (.move (.k (.c (.bool false))))] [1,2]) (.seq (.draw 0 [.op 3 (.fieldAddr 3 (.t 0)),.op 4 (.load none (.t 0)) none .var,.op 5 (.load none (.t 3)) none .var,.op 6 (.nilCheck (.t 0)),.op 7 (.fieldAddr 4 (.t 0)),.op 8 (.fieldAddr 0 (.t 0)),.op 9 (.load none (.t 0)) none .var,.op 10 (.bin .geq (.t 5) (.t 0)),.op 2 (.move (.t 0))] [0]) .ret))
def F218:SFunc:=.code .shared 11 2 [some 2] [.tmp 0] c218
@[simp] def c219_n2:SCode:=(.region [.op 3 (.fieldAddr 0 (.t 0)),.op 4 (.load none (.t 0)),.op 5 (.bin .neq (.t 0) (.k (.c (.str [100,111,110,101])))),.op 6 (.move (.t 0)),.orN 15 0 [.op 7 (.load none (.t 5)),.op 8 (.buildSlice 0 none 1 [(.c (.str []))] [(0,(.k (.c (.str [98,97,114]))))]),.op 9 (.call false (.t 1) [(.t 0)]),.op 10 (.move (.t 0)),.andN 14 0 [.op 11 (.fieldAddr 1 (.t 8)),.op 12 (.load none (.t 0)),.op 13 (.bin .neq (.t 0) (.k (.c (.str [100,115,113]))))] (.t 0)] (.t 0),.op 2 (.move (.t 0))] [0])
def c219_n1:SCode:=.seq c219_n2 .ret
instance:IsSeq c219_n1 c219_n2 .ret:=⟨rfl⟩
def c219:SCode:=(.seq (.region [.op 2 (.move (.k (.c (.bool false))))] [1,2]) c219_n1)
def F219:SFunc:=.code .shared 16 2 [some 2] [.tmp 0] c219
def c220:SCode:=(.seq (.region [.op 2 (.move (.k (.c (.bool false))))] [1,2]) (.seq (.draw 0 [.op 3 (.fieldAddr 0 (.t 0)),.op 4 (.load none (.t 0)) none .var,.op 5 (.load none (.t 3)) none .var,.op 6 (.nilCheck (.t 0)),.op 7 (.fieldAddr 0 (.t 0)),.op 8 (.fieldAddr 0 (.t 0)),.op 9 (.load none (.t 0)) none .var,.op 10 (.call false (.k (.c (.func 86 [] []))) [(.t 5),(.t 0)]),.op 2 (.move (.t 0))] [0]) .ret))
def F220:SFunc:=.code .shared 11 2 [some 2] [.tmp 0] c220
@[simp] def c221_n2:SCode:=(.region [.op 3 (.load none (.t 0)),.op 4 (.buildSlice 0 none 1 [(.c (.str []))] [(0,(.k (.c (.str [115,116,97,114,116]))))]),.op 5 (.call false (.t 1) [(.t 0)]),.op 6 (.not (.t 0)),.op 7 (.move (.t 0)),.orN 11 0 [.op 8 (.fieldAddr 0 (.t 6)),.op 9 (.load none (.t 0)),.op 10 (.bin .eql (.t 0) (.k (.c (.str [119,97,105,116,105,110,103]))))] (.t 0),.op 2 (.move (.t 0))] [0])
def c221_n1:SCode:=.seq c221_n2 .ret
instance:IsSeq c221_n1 c221_n2 .ret:=⟨rfl⟩
def c221:SCode:=(.seq (.region [.op 2 (.move (.k (.c (.bool false))))] [1,2]) c221_n1)
def F221:SFunc:=.code .shared 12 2 [some 2] [.tmp 0] c221
@[simp] def c222_n2:SCode:=(.region [.op 4 (.load none (.t 0)),.op 5 (.buildSlice 0 none 1 [(.c (.str []))] [(0,(.k (.c (.str [115,116,97,114,116]))))]),.op 6 (.call false (.t 1) [(.t 0)]),.op 7 (.not (.t 0)),.op 8 (.move (.t 0)),.orN 12 0 [.op 9 (.load none (.t 6)),.op 10 (.load (some 4) (.t 8)),.op 11 (.call false (.k (.c (.func 223 [] []))) [(.t 1),(.t 0)])] (.t 0),.op 3 (.move (.t 0))] [0])
def c222_n1:SCode:=.seq c222_n2 .ret
instance:IsSeq c222_n1 c222_n2 .ret:=⟨rfl⟩
def c222:SCode:=(.seq (.region [.op 3 (.move (.k (.c (.bool false))))] [1,2,3]) c222_n1)
def F222:SFunc:=.code .shared 13 3 [some 3] [.tmp 0] c222
@[simp] def c223_n4:SCode:=(.region [.op 16 (.move (.t 5)),.op 17 (.idxSlice 11 (.t 4) (.t 6)),.op 18 (.load (some 11) (.t 0)),.op 7 (.new [(.c (.str [])),(.c (.str [])),(.c (.int .i64 0)),(.c (.int .i64 0)),(.c (.int .i64 0)),(.c (.int .i64 0)),(.c (.bool false)),(.c (.bool false)),(.c (.bool false)),.nil,.nil]),.op 6 (.move (.t 3)),.eff (.store 11 (.t 1) (.t 2))] [5,6,7,0,1,8,9,10])
@[simp] def c223_n6:SCode:=(.seq (.draw 0 [.op 19 (.move (.t 3)),.op 20 (.fieldAddr 0 (.t 2)),.op 21 (.load none (.t 0)) none .var,.op 22 (.bin .eql (.t 2) (.t 0)),.op 23 (.move (.t 0)),.orN 33 0 [.op 24 (.move (.t 5)),.op 25 (.nilCheck (.t 0)),.op 26 (.fieldAddr 0 (.t 0)),.op 27 (.load (some 4) (.t 0)) none .var,.op 28 (.load (some 11) (.t 13)) none .var,.op 29 (.fieldAddr 2 (.t 11)),.op 30 (.load none (.t 0)) none .var,.op 31 (.call false (.k (.c (.func 155 [] []))) [(.t 3),(.t 2),(.t 0)]),.op 32 (.not (.t 0))] (.t 0)] [6,7,8,11,12,13,0]) (.cond (.t 6) (.pre [0,1,2,3,4,5] (.exit 1)) (.pre [] .skip)))
def c223_n5:SCode:=.seq c223_n6 (.seq (.region [.op 5 (.move (.k (.c (.bool false))))] [0]) (.exit 0))
instance:IsSeq c223_n5 c223_n6 (.seq (.region [.op 5 (.move (.k (.c (.bool false))))] [0]) (.exit 0)):=⟨rfl⟩
def c223_n3:SCode:=.seq c223_n4 c223_n5
instance:IsSeq c223_n3 c223_n4 c223_n5:=⟨rfl⟩
def c223_n2:SCode:=.seq (.block 1 [some 0,some 3,some 5,some 12,some 13,some 14] c223_n3) (.region [.op 34 (.bin .add (.t 5) (.k (.c (.int .i64 1)))),.op 14 (.move (.t 0))] [2,3,4,5,6,0])
instance:IsSeq c223_n2 (.block 1 [some 0,some 3,some 5,some 12,some 13,some 14] c223_n3) (.region [.op 34 (.bin .add (.t 5) (.k (.c (.int .i64 1)))),.op 14 (.move (.t 0))] [2,3,4,5,6,0]):=⟨rfl⟩
def c223_n1:SCode:=.seq (.cond (.t 6) (.pre [0,1,2,3,4,5] .skip) (.pre [2] (.exit 0))) c223_n2
instance:IsSeq c223_n1 (.cond (.t 6) (.pre [0,1,2,3,4,5] .skip) (.pre [2] (.exit 0))) c223_n2:=⟨rfl⟩
def c223_l0b:SCode:=(.seq (.region [.op 15 (.bin .lss (.t 5) (.t 4))] [1,2,3,4,5,6,0]) c223_n1)
def c223_l0:SCode:=.loop true c223_l0b
def c223_n8:SCode:=.seq .skip (.seq (.seq (.region [.op 8 (.move (.t 0)),.op 9 (.nilCheck (.t 0)),.op 10 (.fieldAddr 4 (.t 0)),.op 11 (.fieldAddr 1 (.t 0)),.op 12 (.load none (.t 0)),.op 13 (.len 1 (.t 0)),.op 14 (.move (.k (.c (.int .i64 0))))] [7,8,9,2,1,0]) (.block 0 [some 5] c223_l0)) (.seq (.region [.op 35 (.move (.t 0)),.op 4 (.move (.t 0))] [0]) .ret))
instance:IsSeq c223_n8 .skip (.seq (.seq (.region [.op 8 (.move (.t 0)),.op 9 (.nilCheck (.t 0)),.op 10 (.fieldAddr 4 (.t 0)),.op 11 (.fieldAddr 1 (.t 0)),.op 12 (.load none (.t 0)),.op 13 (.len 1 (.t 0)),.op 14 (.move (.k (.c (.int .i64 0))))] [7,8,9,2,1,0]) (.block 0 [some 5] c223_l0)) (.seq (.region [.op 35 (.move (.t 0)),.op 4 (.move (.t 0))] [0]) .ret)):=⟨rfl⟩
def c223_n7:SCode:=.seq (.region [.op 5 (.move (.k (.c (.bool true))))] [1,2,0]) c223_n8
instance:IsSeq c223_n7 (.region [.op 5 (.move (.k (.c (.bool true))))] [1,2,0]) c223_n8:=⟨rfl⟩
def c223:SCode:=(.seq (.region [.op 3 (.box (.t 1)),.op 4 (.move (.k (.c (.bool false))))] [2,1]) c223_n7)
def F223:SFunc:=.code .shared 36 2 [some 4] [.tmp 0] c223
@[simp] def c224_n2:SCode:=(.region [.op 5 (.load none (.t 0)),.op 6 (.buildSlice 0 none 1 [(.c (.str []))] [(0,(.k (.c (.str [115,116,97,114,116]))))]),.op 7 (.call false (.t 1) [(.t 0)]),.op 8 (.not (.t 0)),.op 9 (.move (.t 0)),.orN 15 0 [.op 10 (.load none (.t 6)),.op 11 (.load (some 11) (.t 8)),.op 12 (.fieldAddr 2 (.t 10)),.op 13 (.load none (.t 0)),.op 14 (.call false (.k (.c (.func 225 [] []))) [(.t 3),(.t 2),(.t 0)])] (.t 0),.op 4 (.move (.t 0))] [0])
def c224_n1:SCode:=.seq c224_n2 .ret
instance:IsSeq c224_n1 c224_n2 .ret:=⟨rfl⟩
def c224:SCode:=(.seq (.region [.op 4 (.move (.k (.c (.bool false))))] [1,2,3,4]) c224_n1)
def F224:SFunc:=.code .shared 16 4 [some 4] [.tmp 0] c224
@[simp] def c225_n4:SCode:=(.region [.op 13 (.bin .eql (.t 3) (.k (.c (.str [108,101,97,100])))),.op 12 (.move (.t 0))] [2,3,4,5,0])
@[simp] def c225_n7:SCode:=(.region [.op 17 (.bin .eql (.t 3) (.k (.c (.str [115,112,101,101,100])))),.op 16 (.move (.t 0))] [2,3,4,0])
def c225_n6:SCode:=.seq c225_n7 (.cond (.t 3) (.seq (.region [.op 18 (.move (.t 1)),.op 19 (.call false (.k (.c (.func 199 [] []))) [(.t 0),(.k (.c (.int .i64 1))),(.k (.c (.int .i64 2)))]),.op 20 (.not (.t 0)),.op 6 (.move (.t 0))] [0]) .ret) (.pre [0,1,2] .skip))
instance:IsSeq c225_n6 c225_n7 (.cond (.t 3) (.seq (.region [.op 18 (.move (.t 1)),.op 19 (.call false (.k (.c (.func 199 [] []))) [(.t 0),(.k (.c (.int .i64 1))),(.k (.c (.int .i64 2)))]),.op 20 (.not (.t 0)),.op 6 (.move (.t 0))] [0]) .ret) (.pre [0,1,2] .skip)):=⟨rfl⟩
def c225_n5:SCode:=.cond (.t 4) (.seq (.region [.op 14 (.move (.t 1)),.op 15 (.bin .eql (.t 0) (.k (.c (.int .i64 0)))),.op 6 (.move (.t 0))] [0]) .ret) c225_n6
instance:IsCond c225_n5 (.t 4) (.seq (.region [.op 14 (.move (.t 1)),.op 15 (.bin .eql (.t 0) (.k (.c (.int .i64 0)))),.op 6 (.move (.t 0))] [0]) .ret) c225_n6:=⟨rfl⟩
def c225_n3:SCode:=.seq c225_n4 c225_n5
instance:IsSeq c225_n3 c225_n4 c225_n5:=⟨rfl⟩
def c225_n2:SCode:=.block 0 [some 0,some 2,some 4] c225_n3
instance:IsBlock c225_n2 0 [some 0,some 2,some 4] c225_n3:=⟨rfl⟩
@[simp] def c225_n8:SCode:=(.seq (.region [.op 7 (.move (.t 0)),.op 8 (.nilCheck (.t 0)),.op 9 (.fieldAddr 0 (.t 0)),.op 10 (.fieldAddr 0 (.t 0)),.op 11 (.load none (.t 0))] [5,6,7,0]) c225_n2)
@[simp] def c225_n10:SCode:=(.region [.op 21 (.move (.t 1)),.op 22 (.move (.t 1)),.op 23 (.nilCheck (.t 0)),.op 24 (.fieldAddr 0 (.t 0)),.op 25 (.fieldAddr 2 (.t 0)),.op 26 (.load none (.t 0)),.op 27 (.call false (.k (.c (.func 199 [] []))) [(.t 5),(.k (.c (.int .i64 1))),(.t 0)]),.op 28 (.not (.t 0)),.op 29 (.move (.t 0)),.andN 38 0 [.op 30 (.fieldAddr 9 (.t 11)),.op 31 (.load none (.t 0)),.op 32 (.move (.t 12)),.op 33 (.bin .sub (.t 0) (.k (.c (.int .i64 1)))),.op 34 (.idxSlice 4 (.t 2) (.t 0)),.op 35 (.fieldAddr 3 (.t 0)),.op 36 (.load none (.t 0)),.op 37 (.not (.t 0))] (.t 0),.op 6 (.move (.t 0))] [0])
def c225_n9:SCode:=.seq c225_n10 .ret
instance:IsSeq c225_n9 c225_n10 .ret:=⟨rfl⟩
def c225_n1:SCode:=.seq c225_n8 c225_n9
instance:IsSeq c225_n1 c225_n8 c225_n9:=⟨rfl⟩
def c225:SCode:=(.seq (.region [.op 4 (.box (.t 1)),.op 6 (.move (.k (.c (.bool false))))] [2,4,1]) c225_n1)
def F225:SFunc:=.code .shared 39 3 [some 6] [.tmp 0] c225
@[simp] def c226_n2:SCode:=(.region [.op 3 (.load none (.t 0)),.op 4 (.buildSlice 0 none 3 [(.c (.str []))] [(0,(.k (.c (.str [115,116,97,114,116])))),(1,(.k (.c (.str [97,98,115,101,110,116])))),(2,(.k (.c (.str [98,97,114]))))]),.op 5 (.call false (.t 1) [(.t 0)]),.op 6 (.move (.t 0)),.orN 10 0 [.op 7 (.fieldAddr 0 (.t 5)),.op 8 (.load none (.t 0)),.op 9 (.bin .eql (.t 0) (.k (.c (.str [111,110]))))] (.t 0),.op 2 (.move (.t 0))] [0])
def c226_n1:SCode:=.seq c226_n2 .ret
instance:IsSeq c226_n1 c226_n2 .ret:=⟨rfl⟩
def c226:SCode:=(.seq (.region [.op 2 (.move (.k (.c (.bool false))))] [1,2]) c226_n1)
def F226:SFunc:=.code .shared 11 2 [some 2] [.tmp 0] c226
@[simp] def c227_n2:SCode:=(.region [.op 4 (.load none (.t 0)),.op 5 (.buildSlice 0 none 5 [(.c (.str []))] [(0,(.k (.c (.str [104,111,108,100])))),(1,(.k (.c (.str [112,108,117,115])))),(2,(.k (.c (.str [97,116,116,101,109,112,116])))),(3,(.k (.c (.str [122,111,110,101])))),(4,(.k (.c (.str [116,111,112]))))]),.op 6 (.call false (.t 1) [(.t 0)]),.op 7 (.not (.t 0)),.op 8 (.move (.t 0)),.orN 13 0 [.op 9 (.fieldAddr 3 (.t 6)),.op 10 (.load none (.t 0)),.op 11 (.load none (.t 9)),.op 12 (.bin .leq (.t 1) (.t 0))] (.t 0),.op 3 (.move (.t 0))] [0])
def c227_n1:SCode:=.seq c227_n2 .ret
instance:IsSeq c227_n1 c227_n2 .ret:=⟨rfl⟩
def c227:SCode:=(.seq (.region [.op 3 (.move (.k (.c (.bool false))))] [1,2,3]) c227_n1)
def F227:SFunc:=.code .shared 14 3 [some 3] [.tmp 0] c227
@[simp] def c228_n2:SCode:=(.region [.op 4 (.load none (.t 0)),.op 5 (.buildSlice 0 none 1 [(.c (.str []))] [(0,(.k (.c (.str [111,117,116]))))]),.op 6 (.call false (.t 1) [(.t 0)]),.op 7 (.not (.t 0)),.op 8 (.move (.t 0)),.orN 13 0 [.op 9 (.fieldAddr 3 (.t 6)),.op 10 (.load none (.t 0)),.op 11 (.load none (.t 9)),.op 12 (.bin .geq (.t 1) (.t 0))] (.t 0),.op 3 (.move (.t 0))] [0])
def c228_n1:SCode:=.seq c228_n2 .ret
instance:IsSeq c228_n1 c228_n2 .ret:=⟨rfl⟩
def c228:SCode:=(.seq (.region [.op 3 (.move (.k (.c (.bool false))))] [1,2,3]) c228_n1)
def F228:SFunc:=.code .shared 14 3 [some 3] [.tmp 0] c228
@[simp] def c229_n2:SCode:=(.draw 1 [.op 5 (.load none (.t 0)) none .var,.op 6 (.buildSlice 0 none 1 [(.c (.str []))] [(0,(.k (.c (.str [104,111,108,100]))))]) (some 0),.op 7 (.call false (.t 1) [(.t 0)]),.op 8 (.not (.t 0)),.op 9 (.move (.t 0)),.orN 25 0 [.op 10 (.fieldAddr 2 (.t 6)),.op 11 (.load none (.t 0)) none .var,.op 12 (.fieldAddr 5 (.t 9)),.op 13 (.load none (.t 0)) none .var,.op 14 (.bin .gtr (.t 2) (.t 0)),.op 15 (.move (.t 0)),.andN 24 0 [.op 16 (.fieldAddr 2 (.t 12)),.op 17 (.load none (.t 0)) none .var,.op 18 (.load none (.t 16)) none .var,.op 19 (.nilCheck (.t 0)),.op 20 (.fieldAddr 0 (.t 0)),.op 21 (.fieldAddr 2 (.t 0)),.op 22 (.load none (.t 0)) none .var,.op 23 (.bin .leq (.t 5) (.t 0))] (.t 0)] (.t 0),.op 4 (.move (.t 0))] [0])
def c229_n1:SCode:=.seq c229_n2 .ret
instance:IsSeq c229_n1 c229_n2 .ret:=⟨rfl⟩
def c229:SCode:=(.seq (.region [.op 4 (.move (.k (.c (.bool false))))] [1,2,3,4]) c229_n1)
def F229:SFunc:=.code .shared 26 4 [some 4] [.tmp 0] c229
@[simp] def c230_n2:SCode:=(.draw 1 [.op 4 (.load none (.t 0)) none .var,.op 5 (.buildSlice 0 none 1 [(.c (.str []))] [(0,(.k (.c (.str [112,108,117,115]))))]) (some 0),.op 6 (.call false (.t 1) [(.t 0)]),.op 7 (.not (.t 0)),.op 8 (.move (.t 0)),.orN 22 0 [.op 9 (.fieldAddr 6 (.t 6)),.op 10 (.load none (.t 0)) none .var,.op 11 (.not (.t 0)),.op 12 (.move (.t 0)),.andN 21 0 [.op 13 (.fieldAddr 5 (.t 10)),.op 14 (.load none (.t 0)) none .var,.op 15 (.load none (.t 13)) none .var,.op 16 (.nilCheck (.t 0)),.op 17 (.fieldAddr 0 (.t 0)),.op 18 (.fieldAddr 2 (.t 0)),.op 19 (.load none (.t 0)) none .var,.op 20 (.bin .lss (.t 5) (.t 0))] (.t 0)] (.t 0),.op 3 (.move (.t 0))] [0])
def c230_n1:SCode:=.seq c230_n2 .ret
instance:IsSeq c230_n1 c230_n2 .ret:=⟨rfl⟩
def c230:SCode:=(.seq (.region [.op 3 (.move (.k (.c (.bool false))))] [1,2,3]) c230_n1)
def F230:SFunc:=.code .shared 23 3 [some 3] [.tmp 0] c230
def c231:SCode:=(.seq (.region [.op 3 (.move (.k (.c (.bool false))))] [1,2,3]) (.seq (.region [.op 4 (.load none (.t 0)),.op 5 (.load (some 11) (.t 2)),.op 6 (.fieldAddr 1 (.t 4)),.op 7 (.load none (.t 0)),.op 8 (.call false (.k (.c (.func 232 [] []))) [(.t 3),(.t 2),(.t 0)]),.op 3 (.move (.t 0))] [0]) .ret))
def F231:SFunc:=.code .shared 9 3 [some 3] [.tmp 0] c231
@[simp] def c232_n4:SCode:=(.draw 0 [.op 13 (.move (.t 1)),.op 14 (.bin .neq (.t 0) (.k (.c (.str [116,111,112])))),.op 15 (.move (.t 0)),.orN 24 0 [.op 16 (.fieldAddr 5 (.t 5)),.op 17 (.load none (.t 0)) none .var,.op 18 (.move (.t 5)),.op 19 (.nilCheck (.t 0)),.op 20 (.fieldAddr 0 (.t 0)),.op 21 (.fieldAddr 2 (.t 0)),.op 22 (.load none (.t 0)) none .var,.op 23 (.bin .eql (.t 5) (.t 0))] (.t 0),.op 6 (.move (.t 0))] [0])
def c232_n3:SCode:=.seq c232_n4 .ret
instance:IsSeq c232_n3 c232_n4 .ret:=⟨rfl⟩
def c232_n2:SCode:=.cond (.t 3) c232_n3 (.pre [0,1,2] .skip)
instance:IsCond c232_n2 (.t 3) c232_n3 (.pre [0,1,2] .skip):=⟨rfl⟩
@[simp] def c232_n5:SCode:=(.seq (.region [.op 7 (.move (.t 0)),.op 8 (.nilCheck (.t 0)),.op 9 (.fieldAddr 0 (.t 0)),.op 10 (.fieldAddr 0 (.t 0)),.op 11 (.load none (.t 0)),.op 12 (.bin .eql (.t 0) (.k (.c (.str [108,101,97,100]))))] [6,7,8,0]) c232_n2)
@[simp] def c232_n7:SCode:=(.region [.op 25 (.move (.t 0)),.op 26 (.nilCheck (.t 0)),.op 27 (.fieldAddr 0 (.t 0)),.op 28 (.fieldAddr 0 (.t 0)),.op 29 (.load none (.t 0)),.op 30 (.bin .neq (.t 0) (.k (.c (.str [98,111,117,108,100,101,114])))),.op 31 (.move (.t 0)),.orN 36 0 [.op 32 (.buildSlice 2 none 4 [(.c (.str []))] [(0,(.k (.c (.str [122,111,110,101])))),(1,(.k (.c (.str [116,111,112])))),(2,(.k (.c (.str [102,97,108,108])))),(3,(.k (.c (.str [105,110,99,105,100,101,110,116]))))]),.op 33 (.move (.t 9)),.op 34 (.call false (.k (.c (.func 86 [] []))) [(.t 1),(.t 0)]),.op 35 (.not (.t 0))] (.t 0),.op 37 (.move (.t 0)),.orN 40 0 [.op 38 (.fieldAddr 8 (.t 11)),.op 39 (.load none (.t 0))] (.t 0),.op 6 (.move (.t 0))] [0])
def c232_n6:SCode:=.seq c232_n7 .ret
instance:IsSeq c232_n6 c232_n7 .ret:=⟨rfl⟩
def c232_n1:SCode:=.seq c232_n5 c232_n6
instance:IsSeq c232_n1 c232_n5 c232_n6:=⟨rfl⟩
def c232:SCode:=(.seq (.region [.op 4 (.box (.t 1)),.op 6 (.move (.k (.c (.bool false))))] [2,4,1]) c232_n1)
def F232:SFunc:=.code .shared 41 3 [some 6] [.tmp 0] c232
@[simp] def c233_n2:SCode:=(.region [.op 4 (.load none (.t 0)),.op 5 (.buildSlice 0 none 1 [(.c (.str []))] [(0,(.k (.c (.str [97,116,116,101,109,112,116]))))]),.op 6 (.call false (.t 1) [(.t 0)]),.op 7 (.not (.t 0)),.op 8 (.move (.t 0)),.orN 22 0 [.op 9 (.fieldAddr 8 (.t 6)),.op 10 (.load none (.t 0)),.op 11 (.not (.t 0)),.op 12 (.move (.t 0)),.andN 16 0 [.op 13 (.fieldAddr 2 (.t 11)),.op 14 (.load none (.t 0)),.op 15 (.bin .eql (.t 0) (.k (.c (.int .i64 0))))] (.t 0),.op 17 (.move (.t 0)),.andN 21 0 [.op 18 (.fieldAddr 0 (.t 13)),.op 19 (.load none (.t 0)),.op 20 (.bin .lss (.t 0) (.k (.c (.int .i64 99))))] (.t 0)] (.t 0),.op 3 (.move (.t 0))] [0])
def c233_n1:SCode:=.seq c233_n2 .ret
instance:IsSeq c233_n1 c233_n2 .ret:=⟨rfl⟩
def c233:SCode:=(.seq (.region [.op 3 (.move (.k (.c (.bool false))))] [1,2,3]) c233_n1)
def F233:SFunc:=.code .shared 23 3 [some 3] [.tmp 0] c233
@[simp] def c234_n2:SCode:=(.region [.op 3 (.load none (.t 0)),.op 4 (.buildSlice 0 none 1 [(.c (.str []))] [(0,(.k (.c (.str [122,111,110,101]))))]),.op 5 (.call false (.t 1) [(.t 0)]),.op 6 (.not (.t 0)),.op 7 (.move (.t 0)),.orN 11 0 [.op 8 (.fieldAddr 1 (.t 6)),.op 9 (.load none (.t 0)),.op 10 (.bin .eql (.t 0) (.k (.c (.int .i64 0))))] (.t 0),.op 2 (.move (.t 0))] [0])
def c234_n1:SCode:=.seq c234_n2 .ret
instance:IsSeq c234_n1 c234_n2 .ret:=⟨rfl⟩
def c234:SCode:=(.seq (.region [.op 2 (.move (.k (.c (.bool false))))] [1,2]) c234_n1)
def F234:SFunc:=.code .shared 12 2 [some 2] [.tmp 0] c234
@[simp] def c235_n2:SCode:=(.region [.op 4 (.load none (.t 0)),.op 5 (.buildSlice 0 none 1 [(.c (.str []))] [(0,(.k (.c (.str [102,105,110,105,115,104]))))]),.op 6 (.call false (.t 1) [(.t 0)]),.op 7 (.not (.t 0)),.op 8 (.move (.t 0)),.orN 18 0 [.op 9 (.fieldAddr 2 (.t 6)),.op 10 (.load none (.t 0)),.op 11 (.fieldAddr 3 (.t 8)),.op 12 (.load none (.t 0)),.op 13 (.fieldAddr 3 (.t 11)),.op 14 (.load none (.t 0)),.op 15 (.bin .sub (.t 2) (.t 0)),.op 16 (.call false (.k (.c (.func 199 [] []))) [(.t 5),(.k (.c (.int .i64 1))),(.t 0)]),.op 17 (.not (.t 0))] (.t 0),.op 3 (.move (.t 0))] [0])
def c235_n1:SCode:=.seq c235_n2 .ret
instance:IsSeq c235_n1 c235_n2 .ret:=⟨rfl⟩
def c235:SCode:=(.seq (.region [.op 3 (.move (.k (.c (.bool false))))] [1,2,3]) c235_n1)
def F235:SFunc:=.code .shared 19 3 [some 3] [.tmp 0] c235
@[simp] def c236_n2:SCode:=(.region [.op 4 (.load none (.t 0)),.op 5 (.buildSlice 0 none 1 [(.c (.str []))] [(0,(.k (.c (.str [97,98,115,101,110,116]))))]),.op 6 (.call false (.t 1) [(.t 0)]),.op 7 (.not (.t 0)),.op 8 (.move (.t 0)),.orN 17 0 [.op 9 (.fieldAddr 0 (.t 6)),.op 10 (.load none (.t 0)),.op 11 (.bin .eql (.t 0) (.k (.c (.str [119,97,105,116,105,110,103])))),.op 12 (.move (.t 0)),.andN 16 0 [.op 13 (.load none (.t 11)),.op 14 (.load (some 11) (.t 11)),.op 15 (.call false (.k (.c (.func 237 [] []))) [(.t 1),(.t 0)])] (.t 0)] (.t 0),.op 3 (.move (.t 0))] [0])
def c236_n1:SCode:=.seq c236_n2 .ret
instance:IsSeq c236_n1 c236_n2 .ret:=⟨rfl⟩
def c236:SCode:=(.seq (.region [.op 3 (.move (.k (.c (.bool false))))] [1,2,3]) c236_n1)
def F236:SFunc:=.code .shared 18 3 [some 3] [.tmp 0] c236
@[simp] def c237_n4:SCode:=(.region [.op 11 (.bin .eql (.t 1) (.k (.c (.str [98,111,117,108,100,101,114])))),.op 10 (.move (.t 0))] [2,3,0])
def c237_n5:SCode:=.cond (.t 2) (.seq (.region [.op 12 (.fieldAddr 9 (.t 0)),.op 13 (.load none (.t 0)),.op 14 (.call false (.k (.c (.func 277 [] []))) [(.t 0),(.k (.c (.func 278 [] [])))]),.op 15 (.not (.t 0)),.op 4 (.move (.t 0))] [0]) .ret) (.seq (.region [.op 17 (.bin .eql (.t 1) (.k (.c (.str [115,112,101,101,100])))),.op 16 (.move (.t 0))] [2,0]) (.cond (.t 1) (.seq (.region [.op 18 (.fieldAddr 10 (.t 0)),.op 19 (.load none (.t 0)),.op 20 (.len 1 (.t 0)),.op 21 (.bin .eql (.t 0) (.k (.c (.int .i64 0)))),.op 4 (.move (.t 0))] [0]) .ret) (.pre [] .skip)))
instance:IsCond c237_n5 (.t 2) (.seq (.region [.op 12 (.fieldAddr 9 (.t 0)),.op 13 (.load none (.t 0)),.op 14 (.call false (.k (.c (.func 277 [] []))) [(.t 0),(.k (.c (.func 278 [] [])))]),.op 15 (.not (.t 0)),.op 4 (.move (.t 0))] [0]) .ret) (.seq (.region [.op 17 (.bin .eql (.t 1) (.k (.c (.str [115,112,101,101,100])))),.op 16 (.move (.t 0))] [2,0]) (.cond (.t 1) (.seq (.region [.op 18 (.fieldAddr 10 (.t 0)),.op 19 (.load none (.t 0)),.op 20 (.len 1 (.t 0)),.op 21 (.bin .eql (.t 0) (.k (.c (.int .i64 0)))),.op 4 (.move (.t 0))] [0]) .ret) (.pre [] .skip))):=⟨rfl⟩
def c237_n3:SCode:=.seq c237_n4 c237_n5
instance:IsSeq c237_n3 c237_n4 c237_n5:=⟨rfl⟩
def c237_n2:SCode:=.block 0 [] c237_n3
instance:IsBlock c237_n2 0 [] c237_n3:=⟨rfl⟩
@[simp] def c237_n6:SCode:=(.seq (.region [.op 5 (.move (.t 0)),.op 6 (.nilCheck (.t 0)),.op 7 (.fieldAddr 0 (.t 0)),.op 8 (.fieldAddr 0 (.t 0)),.op 9 (.load none (.t 0))] [6,0]) c237_n2)
def c237_n1:SCode:=.seq c237_n6 (.seq (.region [.op 4 (.move (.k (.c (.bool true))))] [0]) .ret)
instance:IsSeq c237_n1 c237_n6 (.seq (.region [.op 4 (.move (.k (.c (.bool true))))] [0]) .ret):=⟨rfl⟩
def c237:SCode:=(.seq (.region [.op 3 (.box (.t 1)),.op 4 (.move (.k (.c (.bool false))))] [2,1]) c237_n1)
def F237:SFunc:=.code .shared 22 2 [some 4] [.tmp 0] c237
@[simp] def c238_n2:SCode:=(.region [.op 3 (.makeMap),.op 4 (.fieldAddr 2 (.t 1)),.op 5 (.load none (.t 0)),.eff (.mapUpdate (.one 1) (.t 2) (.k (.c (.str [98,111,117,108,100,101,114]))) (.t 0)),.eff (.mapUpdate (.one 1) (.t 2) (.k (.c (.str [115,112,101,101,100]))) (.k (.c (.int .i64 2)))),.op 6 (.move (.t 2)),.op 7 (.fieldAddr 0 (.t 4)),.op 8 (.load none (.t 0)),.op 9 (.lookup (.one 1) (.c (.int .i64 0)) false (.t 2) (.t 0)),.op 2 (.move (.t 0))] [0])
def c238_n1:SCode:=.seq c238_n2 .ret
instance:IsSeq c238_n1 c238_n2 .ret:=⟨rfl⟩
def c238:SCode:=(.seq (.region [.op 1 (.box (.t 0)),.op 2 (.move (.k (.c (.int .i64 0))))] [1]) c238_n1)
def F238:SFunc:=.code .pure 10 1 [some 2] [.tmp 0] c238
def c239:SCode:=(.seq (.region [.op 1 (.box (.t 0)),.op 2 (.move (.k (.c (.int .i64 0))))] [1]) (.seq (.region [.op 3 (.makeMap),.op 4 (.fieldAddr 2 (.t 1)),.op 5 (.load none (.t 0)),.eff (.mapUpdate (.one 1) (.t 2) (.k (.c (.str [108,101,97,100]))) (.t 0)),.op 6 (.move (.t 2)),.op 7 (.fieldAddr 0 (.t 4)),.op 8 (.load none (.t 0)),.op 9 (.lookup (.one 1) (.c (.int .i64 0)) false (.t 2) (.t 0)),.op 2 (.move (.t 0))] [0]) .ret))
def F239:SFunc:=.code .pure 10 1 [some 2] [.tmp 0] c239
def c240:SCode:=(.seq (.region [.op 2 (.move (.k (.c (.bool false))))] [1]) (.seq (.region [.op 3 (.move (.t 0)),.op 4 (.call false (.k (.c (.func 199 [] []))) [(.t 0),(.k (.c (.int .i64 0))),(.k (.c (.int .i64 86399999)))]),.op 2 (.move (.t 0))] [0]) .ret))
def F240:SFunc:=.code .pure 5 1 [some 2] [.tmp 0] c240
@[simp] def c241_n4:SCode:=(.region [.op 12 (.idxSlice 4 (.t 0) (.t 2)),.op 13 (.load (some 4) (.t 0)),.op 4 (.new [(.c (.int .i64 0)),(.c (.int .i64 0)),(.c (.int .i64 0)),(.c (.bool false))]),.eff (.store 4 (.t 0) (.t 1))] [0,3,4,5])
@[simp] def c241_n6:SCode:=(.region [.op 14 (.fieldAddr 0 (.t 0)),.op 15 (.load none (.t 0)),.op 16 (.call false (.k (.c (.func 199 [] []))) [(.t 0),(.k (.c (.int .i64 0))),(.k (.c (.int .i64 99)))]),.op 17 (.move (.t 0)),.orN 23 0 [.op 18 (.fieldAddr 1 (.t 4)),.op 19 (.load none (.t 0)),.op 20 (.fieldAddr 0 (.t 6)),.op 21 (.load none (.t 0)),.op 22 (.call false (.k (.c (.func 199 [] []))) [(.t 2),(.k (.c (.int .i64 0))),(.t 0)])] (.t 0),.op 24 (.move (.t 0)),.orN 30 0 [.op 25 (.fieldAddr 2 (.t 6)),.op 26 (.load none (.t 0)),.op 27 (.fieldAddr 0 (.t 8)),.op 28 (.load none (.t 0)),.op 29 (.call false (.k (.c (.func 199 [] []))) [(.t 2),(.k (.c (.int .i64 0))),(.t 0)])] (.t 0),.op 5 (.move (.t 0))] [8,0,9,10,11])
@[simp] def c241_n8:SCode:=(.region [.op 31 (.fieldAddr 2 (.t 0)),.op 32 (.load none (.t 0)),.op 33 (.bin .gtr (.t 0) (.k (.c (.int .i64 0)))),.op 34 (.move (.t 0)),.andN 45 0 [.op 35 (.fieldAddr 1 (.t 4)),.op 36 (.load none (.t 0)),.op 37 (.bin .eql (.t 0) (.k (.c (.int .i64 0)))),.op 38 (.move (.t 0)),.orN 44 0 [.op 39 (.fieldAddr 1 (.t 8)),.op 40 (.load none (.t 0)),.op 41 (.fieldAddr 2 (.t 10)),.op 42 (.load none (.t 0)),.op 43 (.bin .gtr (.t 2) (.t 0))] (.t 0)] (.t 0),.op 46 (.move (.t 0)),.orN 55 0 [.op 47 (.fieldAddr 0 (.t 6)),.op 48 (.load none (.t 0)),.op 49 (.bin .gtr (.t 0) (.k (.c (.int .i64 0)))),.op 50 (.move (.t 0)),.andN 54 0 [.op 51 (.fieldAddr 3 (.t 10)),.op 52 (.load none (.t 0)),.op 53 (.not (.t 0))] (.t 0)] (.t 0),.op 6 (.move (.t 0))] [9,0,10,11,12])
@[simp] def c241_n10:SCode:=(.region [.op 56 (.move (.t 0)),.op 57 (.call false (.k (.c (.func 126 [] []))) [(.t 0),(.k (.c (.int .i64 3)))]),.op 58 (.move (.t 3)),.op 59 (.call false (.k (.c (.func 126 [] []))) [(.t 0),(.k (.c (.int .i64 1)))]),.op 60 (.buildSlice 2 none 2 [(.c (.int .i64 0))] [(0,(.t 2)),(1,(.t 0))]),.op 61 (.call false (.k (.c (.func 125 [] []))) [(.t 0)]),.op 7 (.move (.t 0))] [0,9,10,11])
def c241_n9:SCode:=.seq c241_n10 (.seq (.region [.op 62 (.move (.t 0)),.op 63 (.bin .neq (.t 0) (.k (.c (.int .i64 0))))] [2,3,4,5,0]) (.cond (.t 4) (.seq (.region [.op 64 (.move (.t 0)),.op 2 (.move (.t 0))] [0]) .ret) (.pre [1,2,3] .skip)))
instance:IsSeq c241_n9 c241_n10 (.seq (.region [.op 62 (.move (.t 0)),.op 63 (.bin .neq (.t 0) (.k (.c (.int .i64 0))))] [2,3,4,5,0]) (.cond (.t 4) (.seq (.region [.op 64 (.move (.t 0)),.op 2 (.move (.t 0))] [0]) .ret) (.pre [1,2,3] .skip))):=⟨rfl⟩
def c241_n7:SCode:=.seq c241_n8 c241_n9
instance:IsSeq c241_n7 c241_n8 c241_n9:=⟨rfl⟩
def c241_n5:SCode:=.seq c241_n6 c241_n7
instance:IsSeq c241_n5 c241_n6 c241_n7:=⟨rfl⟩
def c241_n3:SCode:=.seq c241_n4 c241_n5
instance:IsSeq c241_n3 c241_n4 c241_n5:=⟨rfl⟩
def c241_n2:SCode:=.seq (.block 1 [some 8,some 9,some 10] c241_n3) (.region [.op 65 (.bin .add (.t 2) (.k (.c (.int .i64 1)))),.op 10 (.move (.t 0))] [2,3,0])
instance:IsSeq c241_n2 (.block 1 [some 8,some 9,some 10] c241_n3) (.region [.op 65 (.bin .add (.t 2) (.k (.c (.int .i64 1)))),.op 10 (.move (.t 0))] [2,3,0]):=⟨rfl⟩
def c241_n1:SCode:=.seq (.cond (.t 3) (.pre [0,1,2] .skip) (.pre [] (.exit 0))) c241_n2
instance:IsSeq c241_n1 (.cond (.t 3) (.pre [0,1,2] .skip) (.pre [] (.exit 0))) c241_n2:=⟨rfl⟩
def c241_l0b:SCode:=(.seq (.region [.op 11 (.bin .lss (.t 2) (.t 1))] [1,2,3,0]) c241_n1)
def c241_l0:SCode:=.loop true c241_l0b
def c241:SCode:=(.seq (.region [.op 2 (.move (.k (.c (.int .i64 0))))] [1]) (.seq (.seq (.region [.op 8 (.move (.t 0)),.op 9 (.len 1 (.t 0)),.op 10 (.move (.k (.c (.int .i64 0))))] [2,1,0]) (.block 0 [] c241_l0)) (.seq (.region [.op 2 (.move (.k (.c (.int .i64 0))))] [0]) .ret)))
def F241:SFunc:=.code .pure 66 1 [some 2] [.tmp 0] c241
@[simp] def c256_n3:SCode:=(.region [.op 21 (.move (.t 3)),.op 22 (.move (.t 5)),.op 23 (.bin .gtr (.t 1) (.t 0))] [3,4,5,6,7,0])
@[simp] def c256_n6:SCode:=(.region [.op 24 (.move (.t 0)),.op 25 (.move (.t 2)),.op 26 (.move (.t 5)),.op 27 (.bin .sub (.t 1) (.t 0)),.op 28 (.move (.t 5)),.op 29 (.move (.t 9)),.op 30 (.move (.t 8)),.op 31 (.call false (.k (.c (.func 293 [] []))) [(.t 6),(.t 3),(.t 2),(.t 1),(.t 0)])] [8,9,10,11,12])
def c256_n5:SCode:=.seq c256_n6 (.region [.op 32 (.move (.t 3)),.op 33 (.move (.t 5)),.op 34 (.bin .sub (.t 1) (.t 0)),.op 10 (.move (.t 0))] [4,5,6,0,8])
@[simp] def c256_n8:SCode:=(.region [.op 35 (.move (.t 0)),.op 36 (.move (.t 2)),.op 37 (.move (.t 5)),.op 38 (.bin .sub (.t 1) (.t 0)),.op 39 (.move (.t 5)),.op 40 (.move (.t 9)),.op 41 (.bin .add (.t 1) (.t 0)),.op 42 (.move (.t 10)),.op 43 (.bin .sub (.t 1) (.t 0)),.op 44 (.move (.t 12)),.op 45 (.move (.t 12)),.op 46 (.call false (.k (.c (.func 293 [] []))) [(.t 10),(.t 7),(.t 2),(.t 1),(.t 0)])] [12,13,14,15,16])
def c256_n7:SCode:=.seq c256_n8 (.region [.op 47 (.move (.t 4)),.op 48 (.move (.t 4)),.op 49 (.bin .sub (.t 1) (.t 0)),.op 11 (.move (.t 0))] [4,5,6,7,0])
def c256_n4:SCode:=.cond (.t 5) c256_n5 c256_n7
def c256_n2:SCode:=.seq c256_n3 c256_n4
def c256_n1:SCode:=.block 1 [some 0,some 2,some 4,some 10,some 11] c256_n2
instance:IsBlock c256_n1 1 [some 0,some 2,some 4,some 10,some 11] c256_n2:=⟨rfl⟩
def c256_l0b:SCode:=(.seq (.seq (.region [.op 18 (.move (.t 3)),.op 19 (.move (.t 5)),.op 20 (.bin .neq (.t 1) (.t 0))] [3,4,5,6,7,0]) (.cond (.t 5) (.pre [0,1,2,3,4] .skip) (.pre [0,1,2,3] (.exit 0)))) c256_n1)
def c256_l0:SCode:=.loop true c256_l0b
@[simp] def c256_n10:SCode:=(.region [.op 15 (.move (.t 2)),.op 16 (.move (.t 2)),.op 17 (.bin .sub (.t 1) (.t 0)),.op 11 (.move (.t 0))] [4,5,7,8,0])
def c256_n9:SCode:=.seq c256_n10 (.seq (.block 0 [some 0,some 2,some 4,some 10] c256_l0) (.region [.op 50 (.move (.t 0)),.op 51 (.move (.t 2)),.op 52 (.move (.t 5)),.op 53 (.bin .sub (.t 1) (.t 0)),.op 54 (.move (.t 5)),.op 55 (.move (.t 8)),.op 56 (.move (.t 8)),.op 57 (.call false (.k (.c (.func 293 [] []))) [(.t 6),(.t 3),(.t 2),(.t 1),(.t 0)])] []))
def c256:SCode:=(.seq (.region [.op 12 (.move (.t 2)),.op 13 (.move (.t 2)),.op 14 (.bin .sub (.t 1) (.t 0)),.op 10 (.move (.t 0))] [4,6,7,8,0]) c256_n9)
def F256:SFunc:=.code .shared 58 5 [] [] c256
@[simp] def c258_n2:SCode:=(.draw 0 [.op 6 (.move (.t 1)),.op 7 (.move (.t 2)),.op 8 (.move (.t 3)),.op 9 (.fieldAddr 2 (.t 5)),.op 10 (.load none (.t 0)) none .var,.op 11 (.fieldAddr 3 (.t 7)),.op 12 (.load none (.t 0)) none .var,.op 13 (.nilCheck (.t 6)),.op 14 (.fieldAddr 0 (.t 0)),.eff (.store 1 (.t 0) (.k (.c (.str [111,110])))) none .row,.op 15 (.nilCheck (.t 7)),.op 16 (.fieldAddr 2 (.t 0)),.eff (.store 1 (.t 0) (.t 6)) none .row,.op 17 (.nilCheck (.t 8)),.op 18 (.fieldAddr 3 (.t 0)),.eff (.store 1 (.t 0) (.t 6)) none .row] [13,14])
@[simp] def c258_n4:SCode:=(.region [.op 19 (.move (.t 0)),.op 20 (.nilCheck (.t 0)),.op 21 (.fieldAddr 0 (.t 0)),.op 22 (.fieldAddr 0 (.t 0)),.op 23 (.load none (.t 0)),.op 24 (.bin .eql (.t 0) (.k (.c (.str [98,111,117,108,100,101,114]))))] [7,0])
def c258_n3:SCode:=.seq c258_n4 (.cond (.t 1) (.region [.op 25 (.move (.t 0)),.op 26 (.call false (.k (.c (.func 216 [] []))) [(.t 0)]),.op 27 (.nilCheck (.t 0)),.op 28 (.fieldAddr 3 (.t 0)),.eff (.store 1 (.t 0) (.k (.c (.bool true))))] []) (.pre [] .skip))
instance:IsSeq c258_n3 c258_n4 (.cond (.t 1) (.region [.op 25 (.move (.t 0)),.op 26 (.call false (.k (.c (.func 216 [] []))) [(.t 0)]),.op 27 (.nilCheck (.t 0)),.op 28 (.fieldAddr 3 (.t 0)),.eff (.store 1 (.t 0) (.k (.c (.bool true))))] []) (.pre [] .skip)):=⟨rfl⟩
def c258_n1:SCode:=.seq c258_n2 c258_n3
instance:IsSeq c258_n1 c258_n2 c258_n3:=⟨rfl⟩
def c258:SCode:=(.seq (.region [.op 5 (.box (.t 2))] [1,2,0]) c258_n1)
def F258:SFunc:=.code .shared 29 3 [] [] c258
def c259:SCode:=(.seq (.region [.op 5 (.box (.t 2))] [2,0]) (.region [.op 6 (.move (.t 0)),.op 7 (.move (.t 1)),.op 8 (.fieldAddr 2 (.t 3)),.op 9 (.load none (.t 0)),.op 10 (.nilCheck (.t 3)),.op 11 (.fieldAddr 5 (.t 0)),.eff (.store 1 (.t 0) (.t 2)),.op 12 (.nilCheck (.t 4)),.op 13 (.fieldAddr 6 (.t 0)),.eff (.store 1 (.t 0) (.k (.c (.bool false))))] []))
def F259:SFunc:=.code .shared 14 3 [] [] c259
def c260:SCode:=(.seq (.region [.op 5 (.box (.t 2))] [2]) (.region [.op 6 (.move (.t 0)),.op 7 (.nilCheck (.t 0)),.op 8 (.fieldAddr 6 (.t 0)),.eff (.store 1 (.t 0) (.k (.c (.bool true))))] []))
def F260:SFunc:=.code .shared 9 3 [] [] c260
@[simp] def c261_n2:SCode:=(.region [.op 6 (.move (.t 0)),.op 7 (.nilCheck (.t 0)),.op 8 (.fieldAddr 8 (.t 0)),.eff (.store 1 (.t 0) (.k (.c (.bool true))))] [3])
def c261_n1:SCode:=.seq c261_n2 (.region [.op 9 (.move (.t 0)),.op 10 (.call false (.k (.c (.func 216 [] []))) [(.t 0)]),.op 11 (.nilCheck (.t 0)),.op 12 (.fieldAddr 0 (.t 0)),.op 13 (.load none (.t 0)),.op 14 (.bin .add (.t 0) (.k (.c (.int .i64 1)))),.op 15 (.nilCheck (.t 4)),.op 16 (.fieldAddr 0 (.t 0)),.eff (.store 1 (.t 0) (.t 2))] [])
instance:IsSeq c261_n1 c261_n2 (.region [.op 9 (.move (.t 0)),.op 10 (.call false (.k (.c (.func 216 [] []))) [(.t 0)]),.op 11 (.nilCheck (.t 0)),.op 12 (.fieldAddr 0 (.t 0)),.op 13 (.load none (.t 0)),.op 14 (.bin .add (.t 0) (.k (.c (.int .i64 1)))),.op 15 (.nilCheck (.t 4)),.op 16 (.fieldAddr 0 (.t 0)),.eff (.store 1 (.t 0) (.t 2))] []):=⟨rfl⟩
def c261:SCode:=(.seq (.region [.op 5 (.box (.t 2))] [2]) c261_n1)
def F261:SFunc:=.code .shared 17 3 [] [] c261
def c262:SCode:=(.seq (.region [.op 5 (.box (.t 2))] [2]) (.region [.op 6 (.move (.t 0)),.op 7 (.call false (.k (.c (.func 216 [] []))) [(.t 0)]),.op 8 (.move (.t 2)),.op 9 (.call false (.k (.c (.func 216 [] []))) [(.t 0)]),.op 10 (.nilCheck (.t 0)),.op 11 (.fieldAddr 0 (.t 0)),.op 12 (.load none (.t 0)),.op 13 (.nilCheck (.t 5)),.op 14 (.fieldAddr 1 (.t 0)),.eff (.store 1 (.t 0) (.t 2))] []))
def F262:SFunc:=.code .shared 15 3 [] [] c262
def c263_n2:SCode:=.cond (.t 3) (.seq (.region [.op 13 (.move (.t 1)),.op 14 (.nilCheck (.t 0)),.op 15 (.fieldAddr 7 (.t 0)),.eff (.store 1 (.t 0) (.k (.c (.bool true))))] [3,4,5]) (.seq (.region [.op 16 (.move (.t 0)),.op 17 (.move (.t 2)),.op 18 (.load (some 4) (.t 4)),.op 19 (.call false (.k (.c (.func 294 [] []))) [(.t 2),(.t 1),(.t 0)])] []) .ret)) (.pre [1] .skip)
instance:IsCond c263_n2 (.t 3) (.seq (.region [.op 13 (.move (.t 1)),.op 14 (.nilCheck (.t 0)),.op 15 (.fieldAddr 7 (.t 0)),.eff (.store 1 (.t 0) (.k (.c (.bool true))))] [3,4,5]) (.seq (.region [.op 16 (.move (.t 0)),.op 17 (.move (.t 2)),.op 18 (.load (some 4) (.t 4)),.op 19 (.call false (.k (.c (.func 294 [] []))) [(.t 2),(.t 1),(.t 0)])] []) .ret)) (.pre [1] .skip):=⟨rfl⟩
@[simp] def c263_n3:SCode:=(.seq (.region [.op 7 (.move (.t 0)),.op 8 (.nilCheck (.t 0)),.op 9 (.fieldAddr 0 (.t 0)),.op 10 (.fieldAddr 0 (.t 0)),.op 11 (.load none (.t 0)),.op 12 (.bin .eql (.t 0) (.k (.c (.str [108,101,97,100]))))] [6,7,8,0]) c263_n2)
@[simp] def c263_n5:SCode:=(.region [.op 20 (.move (.t 0)),.op 21 (.call false (.k (.c (.func 216 [] []))) [(.t 0)]),.op 6 (.move (.t 0))] [3,0])
@[simp] def c263_n7:SCode:=(.region [.op 22 (.move (.t 1)),.op 23 (.move (.t 2)),.op 24 (.nilCheck (.t 0)),.op 25 (.fieldAddr 0 (.t 0)),.op 26 (.load none (.t 0)),.op 27 (.nilCheck (.t 4)),.op 28 (.fieldAddr 2 (.t 0)),.eff (.store 1 (.t 0) (.t 2))] [7,8])
@[simp] def c263_n9:SCode:=(.seq (.region [.op 29 (.move (.t 1)),.op 30 (.nilCheck (.t 0)),.op 31 (.fieldAddr 1 (.t 0)),.op 32 (.load none (.t 0)),.op 33 (.bin .eql (.t 0) (.k (.c (.int .i64 0))))] [5,6,0]) (.cond (.t 2) (.region [.op 34 (.move (.t 1)),.op 35 (.move (.t 2)),.op 36 (.nilCheck (.t 0)),.op 37 (.fieldAddr 0 (.t 0)),.op 38 (.load none (.t 0)),.op 39 (.nilCheck (.t 4)),.op 40 (.fieldAddr 1 (.t 0)),.eff (.store 1 (.t 0) (.t 2))] [7]) (.pre [0] .skip)))
def c263_n8:SCode:=.seq c263_n9 (.region [.op 41 (.move (.t 0)),.op 42 (.nilCheck (.t 0)),.op 43 (.fieldAddr 8 (.t 0)),.eff (.store 1 (.t 0) (.k (.c (.bool false))))] [])
instance:IsSeq c263_n8 c263_n9 (.region [.op 41 (.move (.t 0)),.op 42 (.nilCheck (.t 0)),.op 43 (.fieldAddr 8 (.t 0)),.eff (.store 1 (.t 0) (.k (.c (.bool false))))] []):=⟨rfl⟩
def c263_n6:SCode:=.seq c263_n7 c263_n8
instance:IsSeq c263_n6 c263_n7 c263_n8:=⟨rfl⟩
def c263_n4:SCode:=.seq c263_n5 c263_n6
instance:IsSeq c263_n4 c263_n5 c263_n6:=⟨rfl⟩
def c263_n1:SCode:=.seq c263_n3 c263_n4
instance:IsSeq c263_n1 c263_n3 c263_n4:=⟨rfl⟩
def c263:SCode:=(.seq (.region [.op 5 (.box (.t 2))] [1,2,0]) c263_n1)
def F263:SFunc:=.code .shared 44 3 [] [] c263
@[simp] def c264_n2:SCode:=(.region [.op 6 (.move (.t 0)),.op 7 (.nilCheck (.t 0)),.op 8 (.fieldAddr 0 (.t 0)),.op 9 (.fieldAddr 0 (.t 0)),.op 10 (.load none (.t 0))] [5,6,7,0])
@[simp] def c264_n5:SCode:=(.region [.op 15 (.bin .eql (.t 3) (.k (.c (.str [108,101,97,100])))),.op 14 (.move (.t 0))] [2,3,4,5,0])
@[simp] def c264_n8:SCode:=(.region [.op 21 (.bin .eql (.t 3) (.k (.c (.str [98,111,117,108,100,101,114])))),.op 20 (.move (.t 0))] [2,3,0])
def c264_n7:SCode:=.seq c264_n8 (.cond (.t 2) (.region [.op 22 (.move (.t 1)),.op 23 (.nilCheck (.t 0)),.op 24 (.fieldAddr 8 (.t 0)),.eff (.store 1 (.t 0) (.k (.c (.bool false))))] []) (.region [.op 11 (.move (.t 0)),.op 12 (.move (.t 2)),.op 13 (.call false (.k (.c (.func 269 [] []))) [(.t 1),(.t 0),(.k (.c (.int .i64 0)))])] []))
instance:IsSeq c264_n7 c264_n8 (.cond (.t 2) (.region [.op 22 (.move (.t 1)),.op 23 (.nilCheck (.t 0)),.op 24 (.fieldAddr 8 (.t 0)),.eff (.store 1 (.t 0) (.k (.c (.bool false))))] []) (.region [.op 11 (.move (.t 0)),.op 12 (.move (.t 2)),.op 13 (.call false (.k (.c (.func 269 [] []))) [(.t 1),(.t 0),(.k (.c (.int .i64 0)))])] [])):=⟨rfl⟩
def c264_n6:SCode:=.cond (.t 4) (.region [.op 16 (.move (.t 0)),.op 17 (.move (.t 2)),.op 18 (.load (some 4) (.t 4)),.op 19 (.call false (.k (.c (.func 294 [] []))) [(.t 2),(.t 1),(.t 0)])] []) c264_n7
instance:IsCond c264_n6 (.t 4) (.region [.op 16 (.move (.t 0)),.op 17 (.move (.t 2)),.op 18 (.load (some 4) (.t 4)),.op 19 (.call false (.k (.c (.func 294 [] []))) [(.t 2),(.t 1),(.t 0)])] []) c264_n7:=⟨rfl⟩
def c264_n4:SCode:=.seq c264_n5 c264_n6
instance:IsSeq c264_n4 c264_n5 c264_n6:=⟨rfl⟩
def c264_n3:SCode:=.block 0 [] c264_n4
instance:IsBlock c264_n3 0 [] c264_n4:=⟨rfl⟩
def c264_n1:SCode:=.seq c264_n2 c264_n3
instance:IsSeq c264_n1 c264_n2 c264_n3:=⟨rfl⟩
def c264:SCode:=(.seq (.region [.op 5 (.box (.t 2))] [1,2,0]) c264_n1)
def F264:SFunc:=.code .shared 25 3 [] [] c264
def c265:SCode:=(.seq (.region [.op 5 (.box (.t 2))] [2]) (.region [.op 6 (.move (.t 0)),.op 7 (.call false (.k (.c (.func 266 [] []))) [(.t 0)])] []))
def F265:SFunc:=.code .shared 8 3 [] [] c265
@[simp] def c266_n2:SCode:=(.seq (.region [.op 8 (.move (.t 1))] [1,0]) (.cond (.t 1) (.seq (.region [.op 9 (.move (.t 0)),.op 10 (.call false (.k (.c (.func 296 [] []))) [(.t 0),(.k (.c (.str [119,97,105,116,105,110,103])))])] []) .ret) (.pre [0] .skip)))
def c266_n1:SCode:=.seq c266_n2 (.region [.op 11 (.move (.t 0)),.op 12 (.call false (.k (.c (.func 296 [] []))) [(.t 0),(.k (.c (.str [100,111,110,101])))])] [])
instance:IsSeq c266_n1 c266_n2 (.region [.op 11 (.move (.t 0)),.op 12 (.call false (.k (.c (.func 296 [] []))) [(.t 0),(.k (.c (.str [100,111,110,101])))])] []):=⟨rfl⟩
def c266:SCode:=(.seq (.region [.op 3 (.move (.t 0)),.op 4 (.nilCheck (.t 0)),.op 5 (.fieldAddr 9 (.t 0)),.op 6 (.load none (.t 0)),.op 7 (.call false (.k (.c (.func 277 [] []))) [(.t 0),(.k (.c (.func 295 [] [])))]),.op 2 (.move (.t 0))] [6,0]) c266_n1)
def F266:SFunc:=.code .shared 13 1 [] [] c266
@[simp] def c267_n2:SCode:=(.seq (.region [.op 6 (.move (.t 0)),.op 7 (.nilCheck (.t 0)),.op 8 (.fieldAddr 0 (.t 0)),.op 9 (.fieldAddr 0 (.t 0)),.op 10 (.load none (.t 0)),.op 11 (.bin .eql (.t 0) (.k (.c (.str [108,101,97,100]))))] [6,7,8,0]) (.cond (.t 3) (.seq (.region [.op 12 (.move (.t 0)),.op 13 (.move (.t 2)),.op 14 (.load (some 4) (.t 4)),.op 15 (.call false (.k (.c (.func 294 [] []))) [(.t 2),(.t 1),(.t 0)])] []) .ret) (.pre [1] .skip)))
def c267_n1:SCode:=.seq c267_n2 (.region [.op 16 (.move (.t 0)),.op 17 (.call false (.k (.c (.func 266 [] []))) [(.t 0)])] [])
instance:IsSeq c267_n1 c267_n2 (.region [.op 16 (.move (.t 0)),.op 17 (.call false (.k (.c (.func 266 [] []))) [(.t 0)])] []):=⟨rfl⟩
def c267:SCode:=(.seq (.region [.op 5 (.box (.t 2))] [1,2,0]) c267_n1)
def F267:SFunc:=.code .shared 18 3 [] [] c267
def c268:SCode:=(.seq (.region [.op 5 (.box (.t 2))] [1,2,0]) (.region [.op 6 (.move (.t 0)),.op 7 (.move (.t 2)),.op 8 (.fieldAddr 2 (.t 4)),.op 9 (.load none (.t 0)),.op 10 (.call false (.k (.c (.func 269 [] []))) [(.t 3),(.t 2),(.t 0)])] []))
def F268:SFunc:=.code .shared 11 3 [] [] c268
@[simp] def c269_n2:SCode:=(.region [.op 17 (.move (.t 1)),.op 18 (.call false (.k (.c (.func 296 [] []))) [(.t 0),(.k (.c (.str [119,97,105,116,105,110,103])))])] [2,3])
@[simp] def c269_n4:SCode:=(.seq (.draw 0 [.op 19 (.move (.t 1)),.op 20 (.nilCheck (.t 0)),.op 21 (.fieldAddr 10 (.t 0)),.op 22 (.load none (.t 0)) none .row,.op 23 (.len 1 (.t 0)) none .old,.op 24 (.move (.t 5)),.op 25 (.nilCheck (.t 0)),.op 26 (.fieldAddr 0 (.t 0)),.op 27 (.fieldAddr 2 (.t 0)),.op 28 (.load none (.t 0)) none .var,.op 29 (.bin .lss (.t 5) (.t 0))] [12,0]) (.cond (.t 1) (.pre [] .ret) (.pre [0] .skip)))
@[simp] def c269_n6:SCode:=(.region [.op 30 (.move (.t 0)),.op 31 (.call false (.k (.c (.func 296 [] []))) [(.t 0),(.k (.c (.str [100,111,110,101])))])] [2])
@[simp] def c269_n8:SCode:=(.region [.op 32 (.move (.t 0)),.op 33 (.nilCheck (.t 0)),.op 34 (.fieldAddr 10 (.t 0)),.op 35 (.load none (.t 0)),.op 36 (.call false (.k (.c (.func 177 [] []))) [(.t 0)]),.op 37 (.bin .eql (.t 0) (.k (.c (.int .i64 0))))] [6,0])
def c269_n7:SCode:=.seq c269_n8 (.cond (.t 1) (.region [.op 38 (.move (.t 0)),.op 39 (.nilCheck (.t 0)),.op 40 (.fieldAddr 1 (.t 0)),.eff (.store 1 (.t 0) (.k (.c (.str [100,110,102]))))] []) (.pre [] .skip))
instance:IsSeq c269_n7 c269_n8 (.cond (.t 1) (.region [.op 38 (.move (.t 0)),.op 39 (.nilCheck (.t 0)),.op 40 (.fieldAddr 1 (.t 0)),.eff (.store 1 (.t 0) (.k (.c (.str [100,110,102]))))] []) (.pre [] .skip)):=⟨rfl⟩
def c269_n5:SCode:=.seq c269_n6 c269_n7
instance:IsSeq c269_n5 c269_n6 c269_n7:=⟨rfl⟩
def c269_n3:SCode:=.seq c269_n4 c269_n5
instance:IsSeq c269_n3 c269_n4 c269_n5:=⟨rfl⟩
def c269_n1:SCode:=.seq c269_n2 c269_n3
instance:IsSeq c269_n1 c269_n2 c269_n3:=⟨rfl⟩
def c269:SCode:=(.seq (.region [.op 6 (.move (.t 1)),.op 7 (.move (.t 2)),.op 8 (.nilCheck (.t 0)),.op 9 (.fieldAddr 10 (.t 0)),.op 10 (.load none (.t 0)),.op 11 (.call false (.k (.c (.func 118 [] []))) [(.t 0)]),.op 12 (.move (.t 8)),.op 13 (.buildSlice 2 none 1 [(.c (.int .i64 0))] [(0,(.t 0))]),.op 14 (.append none 8 (.t 2) (.t 0)),.op 15 (.nilCheck (.t 8)),.op 16 (.fieldAddr 10 (.t 0)),.eff (.store 1 (.t 0) (.t 2))] [11,12]) c269_n1)
def F269:SFunc:=.code .shared 41 3 [] [] c269
def c270:SCode:=(.seq (.region [.op 5 (.box (.t 2))] [2]) (.region [.op 6 (.move (.t 0)),.op 7 (.call false (.k (.c (.func 271 [] []))) [(.t 0),(.k (.c (.str [100,115,113])))])] []))
def F270:SFunc:=.code .shared 8 3 [] [] c270
def c271:SCode:=(.seq (.region [.op 4 (.move (.t 0)),.op 5 (.call false (.k (.c (.func 296 [] []))) [(.t 0),(.k (.c (.str [100,111,110,101])))])] [2,3]) (.region [.op 6 (.move (.t 0)),.op 7 (.move (.t 2)),.op 8 (.nilCheck (.t 1)),.op 9 (.fieldAddr 1 (.t 0)),.eff (.store 1 (.t 0) (.t 2))] []))
def F271:SFunc:=.code .shared 10 2 [] [] c271
@[simp] def c272_n4:SCode:=(.region [.op 13 (.move (.t 0)),.op 14 (.call false (.k (.c (.func 296 [] []))) [(.t 0),(.k (.c (.str [119,97,105,116,105,110,103])))])] [2])
def c272_n3:SCode:=.seq c272_n4 (.seq (.region [.op 15 (.move (.t 0)),.op 16 (.move (.t 1)),.op 17 (.nilCheck (.t 1)),.op 18 (.fieldAddr 5 (.t 0)),.eff (.store 1 (.t 0) (.k (.c (.int .i64 0)))),.op 19 (.nilCheck (.t 2)),.op 20 (.fieldAddr 6 (.t 0)),.eff (.store 1 (.t 0) (.k (.c (.bool false))))] []) .ret)
instance:IsSeq c272_n3 c272_n4 (.seq (.region [.op 15 (.move (.t 0)),.op 16 (.move (.t 1)),.op 17 (.nilCheck (.t 1)),.op 18 (.fieldAddr 5 (.t 0)),.eff (.store 1 (.t 0) (.k (.c (.int .i64 0)))),.op 19 (.nilCheck (.t 2)),.op 20 (.fieldAddr 6 (.t 0)),.eff (.store 1 (.t 0) (.k (.c (.bool false))))] []) .ret):=⟨rfl⟩
def c272_n2:SCode:=.cond (.t 1) c272_n3 (.pre [0] .skip)
instance:IsCond c272_n2 (.t 1) c272_n3 (.pre [0] .skip):=⟨rfl⟩
@[simp] def c272_n5:SCode:=(.seq (.region [.op 7 (.move (.t 0)),.op 8 (.nilCheck (.t 0)),.op 9 (.fieldAddr 0 (.t 0)),.op 10 (.fieldAddr 0 (.t 0)),.op 11 (.load none (.t 0)),.op 12 (.bin .neq (.t 0) (.k (.c (.str [98,111,117,108,100,101,114]))))] [7,0]) c272_n2)
@[simp] def c272_n7:SCode:=(.region [.op 21 (.move (.t 0)),.op 22 (.call false (.k (.c (.func 216 [] []))) [(.t 0)]),.op 6 (.move (.t 0))] [3,0])
@[simp] def c272_n9:SCode:=(.seq (.draw 0 [.op 23 (.move (.t 1)),.op 24 (.nilCheck (.t 0)),.op 25 (.fieldAddr 1 (.t 0)),.op 26 (.load none (.t 0)) none .row,.op 27 (.move (.t 5)),.op 28 (.nilCheck (.t 0)),.op 29 (.fieldAddr 0 (.t 0)),.op 30 (.load none (.t 0)) none .row,.op 31 (.bin .eql (.t 4) (.t 0))] [9,10,0]) (.cond (.t 2) (.region [.op 32 (.move (.t 1)),.op 33 (.nilCheck (.t 0)),.op 34 (.fieldAddr 1 (.t 0)),.eff (.store 1 (.t 0) (.k (.c (.int .i64 0))))] [3,4]) (.pre [0,1] .skip)))
@[simp] def c272_n11:SCode:=(.region [.op 35 (.move (.t 1)),.op 36 (.nilCheck (.t 0)),.op 37 (.fieldAddr 0 (.t 0)),.op 38 (.load none (.t 0)),.op 39 (.bin .sub (.t 0) (.k (.c (.int .i64 1)))),.op 40 (.nilCheck (.t 4)),.op 41 (.fieldAddr 0 (.t 0)),.eff (.store 1 (.t 0) (.t 2))] [7])
def c272_n10:SCode:=.seq c272_n11 (.region [.op 42 (.move (.t 0)),.op 43 (.nilCheck (.t 0)),.op 44 (.fieldAddr 8 (.t 0)),.eff (.store 1 (.t 0) (.k (.c (.bool false))))] [])
instance:IsSeq c272_n10 c272_n11 (.region [.op 42 (.move (.t 0)),.op 43 (.nilCheck (.t 0)),.op 44 (.fieldAddr 8 (.t 0)),.eff (.store 1 (.t 0) (.k (.c (.bool false))))] []):=⟨rfl⟩
def c272_n8:SCode:=.seq c272_n9 c272_n10
instance:IsSeq c272_n8 c272_n9 c272_n10:=⟨rfl⟩
def c272_n6:SCode:=.seq c272_n7 c272_n8
instance:IsSeq c272_n6 c272_n7 c272_n8:=⟨rfl⟩
def c272_n1:SCode:=.seq c272_n5 c272_n6
instance:IsSeq c272_n1 c272_n5 c272_n6:=⟨rfl⟩
def c272:SCode:=(.seq (.region [.op 5 (.box (.t 2))] [1,2]) c272_n1)
def F272:SFunc:=.code .shared 45 3 [] [] c272
def c273:SCode:=(.seq (.region [.op 5 (.box (.t 2))] [2]) (.region [.op 6 (.move (.t 0)),.op 7 (.call false (.k (.c (.func 271 [] []))) [(.t 0),(.k (.c (.str [100,110,115])))])] []))
def F273:SFunc:=.code .shared 8 3 [] [] c273
def c274:SCode:=(.seq (.region [.op 5 (.box (.t 2))] [2]) (.region [.op 6 (.move (.t 0)),.op 7 (.call false (.k (.c (.func 271 [] []))) [(.t 0),(.k (.c (.str [100,115,113])))])] []))
def F274:SFunc:=.code .shared 8 3 [] [] c274
def c275_n3:SCode:=.seq (.region [.op 10 (.move (.t 3)),.op 5 (.move (.t 0))] [2,3,0,4,5]) (.seq (.region [.op 11 (.move (.t 1)),.op 12 (.move (.t 1)),.op 13 (.move (.t 4)),.op 14 (.idxSlice 1 (.t 1) (.t 0)),.op 15 (.load none (.t 0)),.op 16 (.call false (.t 4) [(.t 0)])] [6,7,8,9,10,0]) (.cond (.t 5) (.seq (.region [.op 17 (.move (.t 2)),.op 4 (.move (.t 0))] [0]) .ret) (.pre [0,1,3,4] .skip)))
instance:IsSeq c275_n3 (.region [.op 10 (.move (.t 3)),.op 5 (.move (.t 0))] [2,3,0,4,5]) (.seq (.region [.op 11 (.move (.t 1)),.op 12 (.move (.t 1)),.op 13 (.move (.t 4)),.op 14 (.idxSlice 1 (.t 1) (.t 0)),.op 15 (.load none (.t 0)),.op 16 (.call false (.t 4) [(.t 0)])] [6,7,8,9,10,0]) (.cond (.t 5) (.seq (.region [.op 17 (.move (.t 2)),.op 4 (.move (.t 0))] [0]) .ret) (.pre [0,1,3,4] .skip))):=⟨rfl⟩
def c275_n2:SCode:=.seq (.block 1 [some 0,some 1,some 7,some 8] c275_n3) (.region [.op 18 (.bin .add (.t 3) (.k (.c (.int .i64 1)))),.op 8 (.move (.t 0))] [2,3,4,0])
instance:IsSeq c275_n2 (.block 1 [some 0,some 1,some 7,some 8] c275_n3) (.region [.op 18 (.bin .add (.t 3) (.k (.c (.int .i64 1)))),.op 8 (.move (.t 0))] [2,3,4,0]):=⟨rfl⟩
def c275_n1:SCode:=.seq (.cond (.t 4) (.pre [0,1,2,3] .skip) (.pre [] (.exit 0))) c275_n2
instance:IsSeq c275_n1 (.cond (.t 4) (.pre [0,1,2,3] .skip) (.pre [] (.exit 0))) c275_n2:=⟨rfl⟩
def c275_l0b:SCode:=(.seq (.region [.op 9 (.bin .lss (.t 3) (.t 2))] [1,2,3,4,0]) c275_n1)
def c275_l0:SCode:=.loop true c275_l0b
def c275:SCode:=(.seq (.region [.op 4 (.move (.k (.c (.int .i64 0))))] [1,2]) (.seq (.seq (.region [.op 6 (.move (.t 0)),.op 7 (.len 1 (.t 0)),.op 8 (.move (.k (.c (.int .i64 0))))] [3,4,1,0]) (.block 0 [] c275_l0)) (.seq (.region [.op 4 (.move (.k (.c (.int .i64 (-1)))))] [0]) .ret)))
def F275:SFunc:=.code .live 19 2 [some 4] [.tmp 0] c275
def c276:SCode:=(.seq (.region [.op 2 (.move (.k (.c (.bool false))))] [1]) (.seq (.region [.op 3 (.move (.t 0)),.op 4 (.call false (.t 0) []),.op 5 (.not (.t 0)),.op 2 (.move (.t 0))] [0]) .ret))
def F276:SFunc:=.code .live 6 1 [some 2] [.tmp 0] c276
def c277:SCode:=(.seq (.region [.op 4 (.move (.k (.c (.bool false))))] [1,2]) (.seq (.region [.op 5 (.move (.t 0)),.op 6 (.move (.t 2)),.op 7 (.call false (.k (.c (.func 297 [] []))) [(.t 1),(.t 0)]),.op 8 (.bin .geq (.t 0) (.k (.c (.int .i64 0)))),.op 4 (.move (.t 0))] [0]) .ret))
def F277:SFunc:=.code .pure 9 2 [some 4] [.tmp 0] c277
def c278:SCode:=(.seq (.region [.op 1 (.box (.t 0)),.op 2 (.move (.k (.c (.bool false))))] [1]) (.seq (.region [.op 3 (.fieldAddr 3 (.t 0)),.op 4 (.load none (.t 0)),.op 2 (.move (.t 0))] [0]) .ret))
def F278:SFunc:=.code .pure 5 1 [some 2] [.tmp 0] c278
@[simp] def c293_n2:SCode:=(.draw 0 [.op 16 (.move (.t 0)),.op 17 (.move (.t 2)),.op 18 (.move (.t 6)),.op 19 (.bin .add (.t 1) (.t 0)),.op 20 (.move (.t 4)),.op 21 (.move (.t 7)),.op 22 (.move (.t 10)),.op 23 (.bin .add (.t 1) (.t 0)),.op 24 (.move (.t 8)),.op 25 (.move (.t 11)),.op 26 (.move (.t 14)),.op 27 (.bin .add (.t 1) (.t 0)),.op 28 (.idxSlice 3 (.t 3) (.t 0)),.op 29 (.load (some 3) (.t 0)) none .old,.op 30 (.move (.t 14)),.op 31 (.move (.t 16)),.op 32 (.move (.t 20)),.op 33 (.bin .add (.t 1) (.t 0)),.op 34 (.idxSlice 3 (.t 3) (.t 0)),.op 35 (.load (some 3) (.t 0)) none .old,.op 36 (.idxSlice 3 (.t 19) (.t 16)),.eff (.store 3 (.t 0) (.t 7)) none .old,.op 37 (.idxSlice 3 (.t 16) (.t 13)),.eff (.store 3 (.t 0) (.t 2)) none .old] [22,23,24,25,26])
def c293_n1:SCode:=.seq (.block 1 [some 0,some 1,some 2,some 3,some 10] c293_n2) (.region [.op 14 (.move (.t 4)),.op 15 (.bin .add (.t 0) (.k (.c (.int .i64 1)))),.op 10 (.move (.t 0))] [3,4,5,6,0])
def c293_l0b:SCode:=(.seq (.seq (.region [.op 11 (.move (.t 4)),.op 12 (.move (.t 4)),.op 13 (.bin .lss (.t 1) (.t 0))] [3,4,5,6,7,0]) (.cond (.t 5) (.pre [0,1,2,3,4] .skip) (.pre [] (.exit 0)))) c293_n1)
def c293_l0:SCode:=.loop true c293_l0b
def c293:SCode:=(.seq (.region [.op 10 (.move (.k (.c (.int .i64 0))))] [1,2,3,4,0]) (.block 0 [] c293_l0))
def F293:SFunc:=.code .shared 38 5 [] [] c293
@[simp] def c294_n2:SCode:=(.region [.op 6 (.move (.t 1)),.op 7 (.call false (.k (.c (.func 296 [] []))) [(.t 0),(.k (.c (.str [100,111,110,101])))])] [2,3,4])
@[simp] def c294_n3:SCode:=(.draw 0 [.op 8 (.move (.t 1)),.op 9 (.fieldAddr 3 (.t 3)),.op 10 (.load none (.t 0)) none .var,.op 11 (.move (.t 4)),.op 12 (.nilCheck (.t 0)),.op 13 (.fieldAddr 3 (.t 0)),.op 14 (.load none (.t 0)) none .row,.op 15 (.bin .sub (.t 4) (.t 0)),.op 16 (.move (.t 8)),.op 17 (.nilCheck (.t 0)),.op 18 (.fieldAddr 0 (.t 0)),.op 19 (.fieldAddr 3 (.t 0)),.op 20 (.load none (.t 0)) none .var,.op 21 (.min (.t 5) [(.t 0)]),.op 22 (.nilCheck (.t 13)),.op 23 (.fieldAddr 4 (.t 0)),.eff (.store 1 (.t 0) (.t 2)) none .row] [])
def c294_n1:SCode:=.seq c294_n2 c294_n3
instance:IsSeq c294_n1 c294_n2 c294_n3:=⟨rfl⟩
def c294:SCode:=(.seq (.region [.op 5 (.box (.t 2))] [1,2,0]) c294_n1)
def F294:SFunc:=.code .shared 24 3 [] [] c294
def c295:SCode:=(.seq (.region [.op 1 (.box (.t 0)),.op 2 (.move (.k (.c (.bool false))))] [1]) (.seq (.region [.op 3 (.fieldAddr 3 (.t 0)),.op 4 (.load none (.t 0)),.op 5 (.not (.t 0)),.op 2 (.move (.t 0))] [0]) .ret))
def F295:SFunc:=.code .pure 6 1 [some 2] [.tmp 0] c295
def c296:SCode:=(.region [.op 4 (.move (.t 0)),.op 5 (.move (.t 1)),.op 6 (.move (.t 2)),.op 7 (.move (.t 4)),.op 8 (.nilCheck (.t 3)),.op 9 (.fieldAddr 0 (.t 0)),.eff (.store 1 (.t 0) (.t 2)),.op 10 (.nilCheck (.t 4)),.op 11 (.fieldAddr 2 (.t 0)),.eff (.store 1 (.t 0) (.k (.c (.int .i64 0)))),.op 12 (.nilCheck (.t 5)),.op 13 (.fieldAddr 8 (.t 0)),.eff (.store 1 (.t 0) (.k (.c (.bool false))))] [])
def F296:SFunc:=.code .shared 14 2 [] [] c296
def c297_n3:SCode:=.seq (.region [.op 10 (.move (.t 3)),.op 5 (.move (.t 0))] [2,3,0,4,5]) (.seq (.region [.op 11 (.move (.t 1)),.op 12 (.move (.t 1)),.op 13 (.move (.t 4)),.op 14 (.idxSlice 4 (.t 1) (.t 0)),.op 15 (.load (some 4) (.t 0)),.op 16 (.call false (.t 4) [(.t 0)])] [6,7,8,9,10,0]) (.cond (.t 5) (.seq (.region [.op 17 (.move (.t 2)),.op 4 (.move (.t 0))] [0]) .ret) (.pre [0,1,3,4] .skip)))
instance:IsSeq c297_n3 (.region [.op 10 (.move (.t 3)),.op 5 (.move (.t 0))] [2,3,0,4,5]) (.seq (.region [.op 11 (.move (.t 1)),.op 12 (.move (.t 1)),.op 13 (.move (.t 4)),.op 14 (.idxSlice 4 (.t 1) (.t 0)),.op 15 (.load (some 4) (.t 0)),.op 16 (.call false (.t 4) [(.t 0)])] [6,7,8,9,10,0]) (.cond (.t 5) (.seq (.region [.op 17 (.move (.t 2)),.op 4 (.move (.t 0))] [0]) .ret) (.pre [0,1,3,4] .skip))):=⟨rfl⟩
def c297_n2:SCode:=.seq (.block 1 [some 0,some 1,some 7,some 8] c297_n3) (.region [.op 18 (.bin .add (.t 3) (.k (.c (.int .i64 1)))),.op 8 (.move (.t 0))] [2,3,4,0])
instance:IsSeq c297_n2 (.block 1 [some 0,some 1,some 7,some 8] c297_n3) (.region [.op 18 (.bin .add (.t 3) (.k (.c (.int .i64 1)))),.op 8 (.move (.t 0))] [2,3,4,0]):=⟨rfl⟩
def c297_n1:SCode:=.seq (.cond (.t 4) (.pre [0,1,2,3] .skip) (.pre [] (.exit 0))) c297_n2
instance:IsSeq c297_n1 (.cond (.t 4) (.pre [0,1,2,3] .skip) (.pre [] (.exit 0))) c297_n2:=⟨rfl⟩
def c297_l0b:SCode:=(.seq (.region [.op 9 (.bin .lss (.t 3) (.t 2))] [1,2,3,4,0]) c297_n1)
def c297_l0:SCode:=.loop true c297_l0b
def c297:SCode:=(.seq (.region [.op 4 (.move (.k (.c (.int .i64 0))))] [1,2]) (.seq (.seq (.region [.op 6 (.move (.t 0)),.op 7 (.len 1 (.t 0)),.op 8 (.move (.k (.c (.int .i64 0))))] [3,4,1,0]) (.block 0 [] c297_l0)) (.seq (.region [.op 4 (.move (.k (.c (.int .i64 (-1)))))] [0]) .ret)))
def F297:SFunc:=.code .pure 19 2 [some 4] [.tmp 0] c297
end LM.GZ
namespace LM.GZ
open Go LM
def table0:List (Nat × SFunc):=[(3,F3),(9,F9),(11,F11),(12,F12),(13,F13),(14,F14),(26,F26),(52,F52),(56,F56),(57,F57),(58,F58),(59,F59),(60,F60),(61,F61),(62,F62),(63,F63),(64,F64),(65,F65),(73,F73),(75,F75),(80,F80),(82,F82),(85,F85),(86,F86),(96,F96),(98,F98),(99,.fprim 1 (cloneP (some 3) 56)),(117,F117),(118,.fprim 1 (cloneP none 8)),(120,F120),(123,F123),(124,F124),(125,F125),(126,F126),(127,F127),(132,F132),(133,F133),(134,F134),(135,F135),(136,F136),(137,F137),(138,F138),(148,F148),(149,F149),(150,F150),(151,F151),(152,F152),(153,F153),(154,F154),(155,F155),(156,F156),(157,F157),(158,F158),(164,F164),(176,F176),(177,F177),(183,F183),(184,F184),(185,F185),(186,F186),(187,F187),(191,F191),(192,F192),(193,F193),(194,F194),(195,F195),(197,F197),(198,F198),(199,F199),(200,F200),(210,F210),(211,F211),(212,F212),(214,F214),(215,F215),(216,F216),(217,F217),(218,F218),(219,F219),(220,F220),(221,F221),(222,F222),(223,F223),(224,F224),(225,F225),(226,F226),(227,F227),(228,F228),(229,F229),(230,F230),(231,F231),(232,F232),(233,F233),(234,F234),(235,F235),(236,F236),(237,F237),(238,F238),(239,F239),(240,F240),(241,F241),(256,F256),(258,F258),(259,F259),(260,F260),(261,F261),(262,F262),(263,F263),(264,F264),(265,F265),(266,F266),(267,F267),(268,F268),(269,F269),(270,F270),(271,F271),(272,F272),(273,F273),(274,F274),(275,F275),(276,F276),(277,F277),(278,F278),(293,F293),(294,F294),(295,F295),(296,F296),(297,F297)]
class Has (P:Nat→Option SFunc):Prop where
 h:∀ f F,lookupPrim f table0=some F→P f=some F
variable {P:Nat→Option SFunc} [Has P]
theorem p3:P 3=some F3:=Has.h 3 F3 rfl
theorem u3:CodeEq P 3 [.tmp 0] c3:=fn_code p3
theorem p9:P 9=some F9:=Has.h 9 F9 rfl
theorem u9:CodeEq P 9 [.tmp 0] c9:=fn_code p9
@[simp] theorem call9:CallP P 9:=callS_pure p9
theorem p11:P 11=some F11:=Has.h 11 F11 rfl
theorem u11:CodeEq P 11 [.tmp 0,.tmp 1] c11:=fn_code p11
@[simp] theorem call11:CallP P 11:=callS_pure p11
theorem p12:P 12=some F12:=Has.h 12 F12 rfl
theorem u12:CodeEq P 12 [.tmp 0,.tmp 1] c12:=fn_code p12
@[simp] theorem call12:CallP P 12:=callS_pure p12
theorem r12_l0:LoopT P c12_l0 c12_l0b:=execS_loop true c12_l0b
theorem p13:P 13=some F13:=Has.h 13 F13 rfl
theorem u13:CodeEq P 13 [.tmp 0] c13:=fn_code p13
@[simp] theorem call13:CallP P 13:=callS_pure p13
theorem r13_l0:LoopT P c13_l0 c13_l0b:=execS_loop true c13_l0b
theorem r13_l1:LoopT P c13_l1 c13_l1b:=execS_loop true c13_l1b
theorem p14:P 14=some F14:=Has.h 14 F14 rfl
theorem u14:CodeEq P 14 [.tmp 0,.tmp 1] c14:=fn_code p14
@[simp] theorem call14:CallP P 14:=callS_pure p14
theorem p26:P 26=some F26:=Has.h 26 F26 rfl
theorem u26:CodeEq P 26 [.cell 0 (some 2),.tmp 1,.tmp 2] c26:=fn_code p26
@[simp] theorem call26:CallP P 26:=callS_pure p26
theorem p52:P 52=some F52:=Has.h 52 F52 rfl
theorem u52:CodeEq P 52 [.tmp 0,.tmp 1] c52:=fn_code p52
@[simp] theorem call52:CallP P 52:=callS_pure p52
theorem r52_l0:LoopT P c52_l0 c52_l0b:=execS_loop true c52_l0b
theorem p56:P 56=some F56:=Has.h 56 F56 rfl
theorem u56:CodeEq P 56 [.tmp 0] c56:=fn_code p56
@[simp] theorem call56:CallP P 56:=callS_pure p56
theorem p57:P 57=some F57:=Has.h 57 F57 rfl
theorem u57:CodeEq P 57 [.tmp 0] c57:=fn_code p57
@[simp] theorem call57:CallP P 57:=callS_pure p57
theorem r57_l0:LoopT P c57_l0 c57_l0b:=execS_loop true c57_l0b
theorem p58:P 58=some F58:=Has.h 58 F58 rfl
theorem u58:CodeEq P 58 [.tmp 0] c58:=fn_code p58
@[simp] theorem call58:CallP P 58:=callS_pure p58
theorem p59:P 59=some F59:=Has.h 59 F59 rfl
theorem u59:CodeEq P 59 [.tmp 0] c59:=fn_code p59
@[simp] theorem call59:CallP P 59:=callS_pure p59
theorem r59_l0:LoopT P c59_l0 c59_l0b:=execS_loop true c59_l0b
theorem p60:P 60=some F60:=Has.h 60 F60 rfl
theorem u60:CodeEq P 60 [.tmp 0] c60:=fn_code p60
@[simp] theorem call60:CallP P 60:=callS_pure p60
theorem p61:P 61=some F61:=Has.h 61 F61 rfl
theorem u61:CodeEq P 61 [.tmp 0] c61:=fn_code p61
@[simp] theorem call61:CallP P 61:=callS_pure p61
theorem r61_l0:LoopT P c61_l0 c61_l0b:=execS_loop true c61_l0b
theorem p62:P 62=some F62:=Has.h 62 F62 rfl
theorem u62:CodeEq P 62 [.tmp 0] c62:=fn_code p62
@[simp] theorem call62:CallP P 62:=callS_pure p62
theorem r62_l0:LoopT P c62_l0 c62_l0b:=execS_loop true c62_l0b
theorem p63:P 63=some F63:=Has.h 63 F63 rfl
theorem u63:CodeEq P 63 [.tmp 0] c63:=fn_code p63
@[simp] theorem call63:CallP P 63:=callS_pure p63
theorem r63_l0:LoopT P c63_l0 c63_l0b:=execS_loop true c63_l0b
theorem p64:P 64=some F64:=Has.h 64 F64 rfl
theorem u64:CodeEq P 64 [.tmp 0] c64:=fn_code p64
@[simp] theorem call64:CallP P 64:=callS_pure p64
theorem p65:P 65=some F65:=Has.h 65 F65 rfl
theorem u65:CodeEq P 65 [.tmp 0] c65:=fn_code p65
@[simp] theorem call65:CallP P 65:=callS_pure p65
theorem r65_l0:LoopT P c65_l0 c65_l0b:=execS_loop true c65_l0b
theorem p73:P 73=some F73:=Has.h 73 F73 rfl
theorem u73:CodeEq P 73 [.tmp 0] c73:=fn_code p73
@[simp] theorem call73:CallP P 73:=callS_pure p73
theorem p75:P 75=some F75:=Has.h 75 F75 rfl
theorem u75:CodeEq P 75 [.tmp 0] c75:=fn_code p75
@[simp] theorem call75:CallP P 75:=callS_pure p75
theorem p80:P 80=some F80:=Has.h 80 F80 rfl
theorem u80:CodeEq P 80 [.tmp 0] c80:=fn_code p80
@[simp] theorem call80:CallP P 80:=callS_pure p80
theorem p82:P 82=some F82:=Has.h 82 F82 rfl
theorem u82:CodeEq P 82 [.tmp 0] c82:=fn_code p82
@[simp] theorem call82:CallP P 82:=callS_pure p82
theorem r82_l0:LoopT P c82_l0 c82_l0b:=execS_loop true c82_l0b
theorem p85:P 85=some F85:=Has.h 85 F85 rfl
theorem u85:CodeEq P 85 [.tmp 0] c85:=fn_code p85
@[simp] theorem call85:CallP P 85:=callS_pure p85
theorem r85_l0:LoopT P c85_l0 c85_l0b:=execS_loop true c85_l0b
theorem p86:P 86=some F86:=Has.h 86 F86 rfl
theorem u86:CodeEq P 86 [.tmp 0] c86:=fn_code p86
@[simp] theorem call86:CallP P 86:=callS_pure p86
theorem p96:P 96=some F96:=Has.h 96 F96 rfl
theorem u96:CodeEq P 96 [.tmp 0] c96:=fn_code p96
@[simp] theorem call96:CallP P 96:=callS_pure p96
theorem p98:P 98=some F98:=Has.h 98 F98 rfl
theorem u98 (args:List LV) (h:Heap):sfn P 98 args h=resF [.tmp 0] (execS P (limS P) c98 ⟨args,h⟩):=sfn_code p98 args h
@[simp] theorem call98 (pos:Option Nat) (q:Bool) (args:List LV) (h:Heap):callS P (limS P) pos q 98 args h=if q then none else bnd (frzFuncs args h) fun a=>sfn P 98 a.1 a.2:=callS_shared p98 pos q args h
theorem r98_l0:LoopT P c98_l0 c98_l0b:=execS_loop true c98_l0b
theorem p117:P 117=some F117:=Has.h 117 F117 rfl
theorem u117:CodeEq P 117 [.tmp 0] c117:=fn_code p117
@[simp] theorem call117:CallP P 117:=callS_pure p117
theorem r117_l0:LoopT P c117_l0 c117_l0b:=execS_loop true c117_l0b
theorem p120:P 120=some F120:=Has.h 120 F120 rfl
theorem u120:CodeEq P 120 [.tmp 0] c120:=fn_code p120
@[simp] theorem call120:CallP P 120:=callS_pure p120
theorem r120_l0:LoopT P c120_l0 c120_l0b:=execS_loop true c120_l0b
theorem p123:P 123=some F123:=Has.h 123 F123 rfl
theorem u123:CodeEq P 123 [.tmp 0] c123:=fn_code p123
@[simp] theorem call123:CallP P 123:=callS_pure p123
theorem p124:P 124=some F124:=Has.h 124 F124 rfl
theorem u124:CodeEq P 124 [.tmp 0] c124:=fn_code p124
@[simp] theorem call124:CallP P 124:=callS_pure p124
theorem p125:P 125=some F125:=Has.h 125 F125 rfl
theorem u125:CodeEq P 125 [.tmp 0] c125:=fn_code p125
@[simp] theorem call125:CallP P 125:=callS_pure p125
theorem r125_l0:LoopT P c125_l0 c125_l0b:=execS_loop true c125_l0b
theorem p126:P 126=some F126:=Has.h 126 F126 rfl
theorem u126:CodeEq P 126 [.tmp 0] c126:=fn_code p126
@[simp] theorem call126:CallP P 126:=callS_pure p126
theorem p127:P 127=some F127:=Has.h 127 F127 rfl
theorem u127:CodeEq P 127 [.tmp 0] c127:=fn_code p127
@[simp] theorem call127:CallP P 127:=callS_pure p127
theorem r127_l0:LoopT P c127_l0 c127_l0b:=execS_loop true c127_l0b
theorem r127_l1:LoopT P c127_l1 c127_l1b:=execS_loop true c127_l1b
theorem p132:P 132=some F132:=Has.h 132 F132 rfl
theorem u132:CodeEq P 132 [.tmp 0] c132:=fn_code p132
@[simp] theorem call132:CallP P 132:=callS_pure p132
theorem r132_l0:LoopT P c132_l0 c132_l0b:=execS_loop true c132_l0b
theorem p133:P 133=some F133:=Has.h 133 F133 rfl
theorem u133:CodeEq P 133 [.tmp 0] c133:=fn_code p133
@[simp] theorem call133:CallP P 133:=callS_pure p133
theorem p134:P 134=some F134:=Has.h 134 F134 rfl
theorem u134:CodeEq P 134 [.tmp 0] c134:=fn_code p134
@[simp] theorem call134:CallP P 134:=callS_pure p134
theorem p135:P 135=some F135:=Has.h 135 F135 rfl
theorem u135:CodeEq P 135 [.tmp 0] c135:=fn_code p135
@[simp] theorem call135:CallP P 135:=callS_pure p135
theorem p136:P 136=some F136:=Has.h 136 F136 rfl
theorem u136 (args:List LV) (h:Heap):sfn P 136 args h=resF [] (execS P (limS P) c136 ⟨args,h⟩):=sfn_code p136 args h
@[simp] theorem call136 (pos:Option Nat) (q:Bool) (args:List LV) (h:Heap):callS P (limS P) pos q 136 args h=if q then none else bnd (frzFuncs args h) fun a=>sfn P 136 a.1 a.2:=callS_shared p136 pos q args h
theorem p137:P 137=some F137:=Has.h 137 F137 rfl
theorem u137:CodeEq P 137 [.tmp 0] c137:=fn_code p137
@[simp] theorem call137:CallP P 137:=callS_pure p137
theorem p138:P 138=some F138:=Has.h 138 F138 rfl
theorem u138:CodeEq P 138 [.tmp 0] c138:=fn_code p138
@[simp] theorem call138:CallP P 138:=callS_pure p138
theorem r138_l0:LoopT P c138_l0 c138_l0b:=execS_loop true c138_l0b
theorem p148:P 148=some F148:=Has.h 148 F148 rfl
theorem u148:CodeEq P 148 [.tmp 0] c148:=fn_code p148
@[simp] theorem call148:CallP P 148:=callS_pure p148
theorem r148_l0:LoopT P c148_l0 c148_l0b:=execS_loop true c148_l0b
theorem p149:P 149=some F149:=Has.h 149 F149 rfl
theorem u149:CodeEq P 149 [.tmp 0] c149:=fn_code p149
@[simp] theorem call149:CallP P 149:=callS_pure p149
theorem r149_l0:LoopT P c149_l0 c149_l0b:=execS_loop true c149_l0b
theorem p150:P 150=some F150:=Has.h 150 F150 rfl
theorem u150 (args:List LV) (h:Heap):sfn P 150 args h=resF [.tmp 0] (execS P (limS P) c150 ⟨args,h⟩):=sfn_code p150 args h
@[simp] theorem call150 (pos:Option Nat) (q:Bool) (args:List LV) (h:Heap):callS P (limS P) pos q 150 args h=if q then none else bnd (frzFuncs args h) fun a=>sfn P 150 a.1 a.2:=callS_shared p150 pos q args h
theorem r150_l0:LoopT P c150_l0 c150_l0b:=execS_loop true c150_l0b
theorem p151:P 151=some F151:=Has.h 151 F151 rfl
theorem u151:CodeEq P 151 [.cell 0 (some 2)] c151:=fn_code p151
@[simp] theorem call151:CallP P 151:=callS_pure p151
theorem r151_l0:LoopT P c151_l0 c151_l0b:=execS_loop true c151_l0b
theorem p152:P 152=some F152:=Has.h 152 F152 rfl
theorem u152 (args:List LV) (h:Heap):sfn P 152 args h=resF [.tmp 0] (execS P (limS P) c152 ⟨args,h⟩):=sfn_code p152 args h
@[simp] theorem call152 (pos:Option Nat) (q:Bool) (args:List LV) (h:Heap):callS P (limS P) pos q 152 args h=if q then none else bnd (frzFuncs args h) fun a=>sfn P 152 a.1 a.2:=callS_shared p152 pos q args h
theorem p153:P 153=some F153:=Has.h 153 F153 rfl
theorem u153:CodeEq P 153 [.tmp 0] c153:=fn_code p153
@[simp] theorem call153:CallP P 153:=callS_pure p153
theorem p154:P 154=some F154:=Has.h 154 F154 rfl
theorem u154:CodeEq P 154 [.tmp 0] c154:=fn_code p154
@[simp] theorem call154:CallP P 154:=callS_pure p154
theorem p155:P 155=some F155:=Has.h 155 F155 rfl
theorem u155:CodeEq P 155 [.tmp 0] c155:=fn_code p155
@[simp] theorem call155:CallP P 155:=callS_pure p155
theorem p156:P 156=some F156:=Has.h 156 F156 rfl
theorem u156:CodeEq P 156 [.tmp 0] c156:=fn_code p156
@[simp] theorem call156:CallP P 156:=callS_pure p156
theorem p157:P 157=some F157:=Has.h 157 F157 rfl
theorem u157:CodeEq P 157 [.tmp 0] c157:=fn_code p157
@[simp] theorem call157:CallP P 157:=callS_pure p157
theorem p158:P 158=some F158:=Has.h 158 F158 rfl
theorem u158:CodeEq P 158 [.tmp 0] c158:=fn_code p158
@[simp] theorem call158:CallP P 158:=callS_pure p158
theorem r158_l0:LoopT P c158_l0 c158_l0b:=execS_loop true c158_l0b
theorem p164:P 164=some F164:=Has.h 164 F164 rfl
theorem u164 (args:List LV) (h:Heap):sfn P 164 args h=resF [.tmp 0] (execS P (limS P) c164 ⟨args,h⟩):=sfn_code p164 args h
@[simp] theorem call164 (pos:Option Nat) (q:Bool) (args:List LV) (h:Heap):callS P (limS P) pos q 164 args h=if q then none else bnd (frzFuncs args h) fun a=>sfn P 164 a.1 a.2:=callS_shared p164 pos q args h
theorem r164_l0:LoopT P c164_l0 c164_l0b:=execS_loop true c164_l0b
theorem p176:P 176=some F176:=Has.h 176 F176 rfl
theorem u176:CodeEq P 176 [.tmp 0] c176:=fn_code p176
@[simp] theorem call176:CallP P 176:=callS_pure p176
theorem r176_l0:LoopT P c176_l0 c176_l0b:=execS_loop true c176_l0b
theorem p177:P 177=some F177:=Has.h 177 F177 rfl
theorem u177:CodeEq P 177 [.tmp 0] c177:=fn_code p177
@[simp] theorem call177:CallP P 177:=callS_pure p177
theorem r177_l0:LoopT P c177_l0 c177_l0b:=execS_loop true c177_l0b
theorem p183:P 183=some F183:=Has.h 183 F183 rfl
theorem u183:CodeEq P 183 [.tmp 0] c183:=fn_code p183
@[simp] theorem call183:CallP P 183:=callS_pure p183
theorem p184:P 184=some F184:=Has.h 184 F184 rfl
theorem u184:CodeEq P 184 [.tmp 0] c184:=fn_code p184
@[simp] theorem call184:CallP P 184:=callS_pure p184
theorem p185:P 185=some F185:=Has.h 185 F185 rfl
theorem u185:CodeEq P 185 [.tmp 0] c185:=fn_code p185
@[simp] theorem call185:CallP P 185:=callS_pure p185
theorem p186:P 186=some F186:=Has.h 186 F186 rfl
theorem u186:CodeEq P 186 [.tmp 0] c186:=fn_code p186
@[simp] theorem call186:CallP P 186:=callS_pure p186
theorem p187:P 187=some F187:=Has.h 187 F187 rfl
theorem u187 (args:List LV) (h:Heap):sfn P 187 args h=resF [] (execS P (limS P) c187 ⟨args,h⟩):=sfn_code p187 args h
@[simp] theorem call187 (pos:Option Nat) (q:Bool) (args:List LV) (h:Heap):callS P (limS P) pos q 187 args h=if q then none else bnd (frzFuncs args h) fun a=>sfn P 187 a.1 a.2:=callS_shared p187 pos q args h
theorem r187_l0:LoopT P c187_l0 c187_l0b:=execS_loop true c187_l0b
theorem r187_l1:LoopT P c187_l1 c187_l1b:=execS_loop true c187_l1b
theorem r187_l2:LoopT P c187_l2 c187_l2b:=execS_loop true c187_l2b
theorem p191:P 191=some F191:=Has.h 191 F191 rfl
theorem u191:CodeEq P 191 [.tmp 0] c191:=fn_code p191
@[simp] theorem call191:CallP P 191:=callS_pure p191
theorem p192:P 192=some F192:=Has.h 192 F192 rfl
theorem u192:CodeEq P 192 [.tmp 0] c192:=fn_code p192
@[simp] theorem call192:CallP P 192:=callS_pure p192
theorem p193:P 193=some F193:=Has.h 193 F193 rfl
theorem u193 (args:List CV):ffn P 193 args=resF [.tmp 0] (execS P (limS P) c193 ⟨args.map .c,[]⟩):=ffn_code p193 args
@[simp] theorem call193 (pos:Option Nat) (q:Bool) (args:List LV) (h:Heap):callS P (limS P) pos q 193 args h=if q && pos.isNone then none else bnd (frzArgs q args h) fun a=>bnd (ffn P 193 a.1) fun v=>importB pos 2 v.1 v.2 a.2:=callS_fresh p193 pos q args h
theorem p194:P 194=some F194:=Has.h 194 F194 rfl
theorem u194 (args:List CV):ffn P 194 args=resF [.tmp 0] (execS P (limS P) c194 ⟨args.map .c,[]⟩):=ffn_code p194 args
@[simp] theorem call194 (pos:Option Nat) (q:Bool) (args:List LV) (h:Heap):callS P (limS P) pos q 194 args h=if q && pos.isNone then none else bnd (frzArgs q args h) fun a=>bnd (ffn P 194 a.1) fun v=>importB pos 2 v.1 v.2 a.2:=callS_fresh p194 pos q args h
theorem p195:P 195=some F195:=Has.h 195 F195 rfl
theorem u195 (args:List CV):ffn P 195 args=resF [.tmp 0] (execS P (limS P) c195 ⟨args.map .c,[]⟩):=ffn_code p195 args
@[simp] theorem call195 (pos:Option Nat) (q:Bool) (args:List LV) (h:Heap):callS P (limS P) pos q 195 args h=if q && pos.isNone then none else bnd (frzArgs q args h) fun a=>bnd (ffn P 195 a.1) fun v=>importB pos 2 v.1 v.2 a.2:=callS_fresh p195 pos q args h
theorem p197:P 197=some F197:=Has.h 197 F197 rfl
theorem u197 (args:List LV) (h:Heap):sfn P 197 args h=resF [.tmp 0] (execS P (limS P) c197 ⟨args,h⟩):=sfn_codeL p197 args h
@[simp] theorem call197 (pos:Option Nat) (q:Bool) (args:List LV) (h:Heap):callS P (limS P) pos q 197 args h=if q then none else sfn P 197 args h:=callS_live p197 pos q args h
theorem p198:P 198=some F198:=Has.h 198 F198 rfl
theorem u198 (args:List LV) (h:Heap):sfn P 198 args h=resF [] (execS P (limS P) c198 ⟨args,h⟩):=sfn_codeL p198 args h
@[simp] theorem call198 (pos:Option Nat) (q:Bool) (args:List LV) (h:Heap):callS P (limS P) pos q 198 args h=if q then none else sfn P 198 args h:=callS_live p198 pos q args h
theorem p199:P 199=some F199:=Has.h 199 F199 rfl
theorem u199:CodeEq P 199 [.tmp 0] c199:=fn_code p199
@[simp] theorem call199:CallP P 199:=callS_pure p199
theorem p200:P 200=some F200:=Has.h 200 F200 rfl
theorem u200:CodeEq P 200 [.tmp 0] c200:=fn_code p200
@[simp] theorem call200:CallP P 200:=callS_pure p200
theorem p210:P 210=some F210:=Has.h 210 F210 rfl
theorem u210:CodeEq P 210 [.tmp 0] c210:=fn_code p210
@[simp] theorem call210:CallP P 210:=callS_pure p210
theorem r210_l0:LoopT P c210_l0 c210_l0b:=execS_loop true c210_l0b
theorem p211:P 211=some F211:=Has.h 211 F211 rfl
theorem u211 (args:List LV) (h:Heap):sfn P 211 args h=resF [] (execS P (limS P) c211 ⟨args,h⟩):=sfn_code p211 args h
@[simp] theorem call211 (pos:Option Nat) (q:Bool) (args:List LV) (h:Heap):callS P (limS P) pos q 211 args h=if q then none else bnd (frzFuncs args h) fun a=>sfn P 211 a.1 a.2:=callS_shared p211 pos q args h
theorem r211_l0:LoopT P c211_l0 c211_l0b:=execS_loop true c211_l0b
theorem r211_l1:LoopT P c211_l1 c211_l1b:=execS_loop true c211_l1b
theorem p212:P 212=some F212:=Has.h 212 F212 rfl
@[simp] theorem call212 (pos:Option Nat) (q:Bool) (args:List LV) (h:Heap):callS P (limS P) pos q 212 args h=if q then none else bnd (frzFuncs args h) fun a=>sfn P 212 a.1 a.2:=callS_shared p212 pos q args h
theorem p214:P 214=some F214:=Has.h 214 F214 rfl
theorem u214:CodeEq P 214 [.tmp 0] c214:=fn_code p214
@[simp] theorem call214:CallP P 214:=callS_pure p214
theorem p215:P 215=some F215:=Has.h 215 F215 rfl
theorem u215 (args:List LV) (h:Heap):sfn P 215 args h=resF [.tmp 0] (execS P (limS P) c215 ⟨args,h⟩):=sfn_codeL p215 args h
@[simp] theorem call215 (pos:Option Nat) (q:Bool) (args:List LV) (h:Heap):callS P (limS P) pos q 215 args h=if q then none else sfn P 215 args h:=callS_live p215 pos q args h
theorem p216:P 216=some F216:=Has.h 216 F216 rfl
theorem u216 (args:List LV) (h:Heap):sfn P 216 args h=resF [.tmp 0] (execS P (limS P) c216 ⟨args,h⟩):=sfn_code p216 args h
@[simp] theorem call216 (pos:Option Nat) (q:Bool) (args:List LV) (h:Heap):callS P (limS P) pos q 216 args h=if q then none else bnd (frzFuncs args h) fun a=>sfn P 216 a.1 a.2:=callS_shared p216 pos q args h
theorem p217:P 217=some F217:=Has.h 217 F217 rfl
theorem u217 (args:List LV) (h:Heap):sfn P 217 args h=resF [.tmp 0] (execS P (limS P) c217 ⟨args,h⟩):=sfn_codeL p217 args h
@[simp] theorem call217 (pos:Option Nat) (q:Bool) (args:List LV) (h:Heap):callS P (limS P) pos q 217 args h=if q then none else sfn P 217 args h:=callS_live p217 pos q args h
theorem p218:P 218=some F218:=Has.h 218 F218 rfl
theorem u218 (args:List LV) (h:Heap):sfn P 218 args h=resF [.tmp 0] (execS P (limS P) c218 ⟨args,h⟩):=sfn_code p218 args h
@[simp] theorem call218 (pos:Option Nat) (q:Bool) (args:List LV) (h:Heap):callS P (limS P) pos q 218 args h=if q then none else bnd (frzFuncs args h) fun a=>sfn P 218 a.1 a.2:=callS_shared p218 pos q args h
theorem p219:P 219=some F219:=Has.h 219 F219 rfl
theorem u219 (args:List LV) (h:Heap):sfn P 219 args h=resF [.tmp 0] (execS P (limS P) c219 ⟨args,h⟩):=sfn_code p219 args h
@[simp] theorem call219 (pos:Option Nat) (q:Bool) (args:List LV) (h:Heap):callS P (limS P) pos q 219 args h=if q then none else bnd (frzFuncs args h) fun a=>sfn P 219 a.1 a.2:=callS_shared p219 pos q args h
theorem p220:P 220=some F220:=Has.h 220 F220 rfl
theorem u220 (args:List LV) (h:Heap):sfn P 220 args h=resF [.tmp 0] (execS P (limS P) c220 ⟨args,h⟩):=sfn_code p220 args h
@[simp] theorem call220 (pos:Option Nat) (q:Bool) (args:List LV) (h:Heap):callS P (limS P) pos q 220 args h=if q then none else bnd (frzFuncs args h) fun a=>sfn P 220 a.1 a.2:=callS_shared p220 pos q args h
theorem p221:P 221=some F221:=Has.h 221 F221 rfl
theorem u221 (args:List LV) (h:Heap):sfn P 221 args h=resF [.tmp 0] (execS P (limS P) c221 ⟨args,h⟩):=sfn_code p221 args h
@[simp] theorem call221 (pos:Option Nat) (q:Bool) (args:List LV) (h:Heap):callS P (limS P) pos q 221 args h=if q then none else bnd (frzFuncs args h) fun a=>sfn P 221 a.1 a.2:=callS_shared p221 pos q args h
theorem p222:P 222=some F222:=Has.h 222 F222 rfl
theorem u222 (args:List LV) (h:Heap):sfn P 222 args h=resF [.tmp 0] (execS P (limS P) c222 ⟨args,h⟩):=sfn_code p222 args h
@[simp] theorem call222 (pos:Option Nat) (q:Bool) (args:List LV) (h:Heap):callS P (limS P) pos q 222 args h=if q then none else bnd (frzFuncs args h) fun a=>sfn P 222 a.1 a.2:=callS_shared p222 pos q args h
theorem p223:P 223=some F223:=Has.h 223 F223 rfl
theorem u223 (args:List LV) (h:Heap):sfn P 223 args h=resF [.tmp 0] (execS P (limS P) c223 ⟨args,h⟩):=sfn_code p223 args h
@[simp] theorem call223 (pos:Option Nat) (q:Bool) (args:List LV) (h:Heap):callS P (limS P) pos q 223 args h=if q then none else bnd (frzFuncs args h) fun a=>sfn P 223 a.1 a.2:=callS_shared p223 pos q args h
theorem r223_l0:LoopT P c223_l0 c223_l0b:=execS_loop true c223_l0b
theorem p224:P 224=some F224:=Has.h 224 F224 rfl
theorem u224 (args:List LV) (h:Heap):sfn P 224 args h=resF [.tmp 0] (execS P (limS P) c224 ⟨args,h⟩):=sfn_code p224 args h
@[simp] theorem call224 (pos:Option Nat) (q:Bool) (args:List LV) (h:Heap):callS P (limS P) pos q 224 args h=if q then none else bnd (frzFuncs args h) fun a=>sfn P 224 a.1 a.2:=callS_shared p224 pos q args h
theorem p225:P 225=some F225:=Has.h 225 F225 rfl
theorem u225 (args:List LV) (h:Heap):sfn P 225 args h=resF [.tmp 0] (execS P (limS P) c225 ⟨args,h⟩):=sfn_code p225 args h
@[simp] theorem call225 (pos:Option Nat) (q:Bool) (args:List LV) (h:Heap):callS P (limS P) pos q 225 args h=if q then none else bnd (frzFuncs args h) fun a=>sfn P 225 a.1 a.2:=callS_shared p225 pos q args h
theorem p226:P 226=some F226:=Has.h 226 F226 rfl
theorem u226 (args:List LV) (h:Heap):sfn P 226 args h=resF [.tmp 0] (execS P (limS P) c226 ⟨args,h⟩):=sfn_code p226 args h
@[simp] theorem call226 (pos:Option Nat) (q:Bool) (args:List LV) (h:Heap):callS P (limS P) pos q 226 args h=if q then none else bnd (frzFuncs args h) fun a=>sfn P 226 a.1 a.2:=callS_shared p226 pos q args h
theorem p227:P 227=some F227:=Has.h 227 F227 rfl
theorem u227 (args:List LV) (h:Heap):sfn P 227 args h=resF [.tmp 0] (execS P (limS P) c227 ⟨args,h⟩):=sfn_code p227 args h
@[simp] theorem call227 (pos:Option Nat) (q:Bool) (args:List LV) (h:Heap):callS P (limS P) pos q 227 args h=if q then none else bnd (frzFuncs args h) fun a=>sfn P 227 a.1 a.2:=callS_shared p227 pos q args h
theorem p228:P 228=some F228:=Has.h 228 F228 rfl
theorem u228 (args:List LV) (h:Heap):sfn P 228 args h=resF [.tmp 0] (execS P (limS P) c228 ⟨args,h⟩):=sfn_code p228 args h
@[simp] theorem call228 (pos:Option Nat) (q:Bool) (args:List LV) (h:Heap):callS P (limS P) pos q 228 args h=if q then none else bnd (frzFuncs args h) fun a=>sfn P 228 a.1 a.2:=callS_shared p228 pos q args h
theorem p229:P 229=some F229:=Has.h 229 F229 rfl
theorem u229 (args:List LV) (h:Heap):sfn P 229 args h=resF [.tmp 0] (execS P (limS P) c229 ⟨args,h⟩):=sfn_code p229 args h
@[simp] theorem call229 (pos:Option Nat) (q:Bool) (args:List LV) (h:Heap):callS P (limS P) pos q 229 args h=if q then none else bnd (frzFuncs args h) fun a=>sfn P 229 a.1 a.2:=callS_shared p229 pos q args h
theorem p230:P 230=some F230:=Has.h 230 F230 rfl
theorem u230 (args:List LV) (h:Heap):sfn P 230 args h=resF [.tmp 0] (execS P (limS P) c230 ⟨args,h⟩):=sfn_code p230 args h
@[simp] theorem call230 (pos:Option Nat) (q:Bool) (args:List LV) (h:Heap):callS P (limS P) pos q 230 args h=if q then none else bnd (frzFuncs args h) fun a=>sfn P 230 a.1 a.2:=callS_shared p230 pos q args h
theorem p231:P 231=some F231:=Has.h 231 F231 rfl
theorem u231 (args:List LV) (h:Heap):sfn P 231 args h=resF [.tmp 0] (execS P (limS P) c231 ⟨args,h⟩):=sfn_code p231 args h
@[simp] theorem call231 (pos:Option Nat) (q:Bool) (args:List LV) (h:Heap):callS P (limS P) pos q 231 args h=if q then none else bnd (frzFuncs args h) fun a=>sfn P 231 a.1 a.2:=callS_shared p231 pos q args h
theorem p232:P 232=some F232:=Has.h 232 F232 rfl
theorem u232 (args:List LV) (h:Heap):sfn P 232 args h=resF [.tmp 0] (execS P (limS P) c232 ⟨args,h⟩):=sfn_code p232 args h
@[simp] theorem call232 (pos:Option Nat) (q:Bool) (args:List LV) (h:Heap):callS P (limS P) pos q 232 args h=if q then none else bnd (frzFuncs args h) fun a=>sfn P 232 a.1 a.2:=callS_shared p232 pos q args h
theorem p233:P 233=some F233:=Has.h 233 F233 rfl
theorem u233 (args:List LV) (h:Heap):sfn P 233 args h=resF [.tmp 0] (execS P (limS P) c233 ⟨args,h⟩):=sfn_code p233 args h
@[simp] theorem call233 (pos:Option Nat) (q:Bool) (args:List LV) (h:Heap):callS P (limS P) pos q 233 args h=if q then none else bnd (frzFuncs args h) fun a=>sfn P 233 a.1 a.2:=callS_shared p233 pos q args h
theorem p234:P 234=some F234:=Has.h 234 F234 rfl
theorem u234 (args:List LV) (h:Heap):sfn P 234 args h=resF [.tmp 0] (execS P (limS P) c234 ⟨args,h⟩):=sfn_code p234 args h
@[simp] theorem call234 (pos:Option Nat) (q:Bool) (args:List LV) (h:Heap):callS P (limS P) pos q 234 args h=if q then none else bnd (frzFuncs args h) fun a=>sfn P 234 a.1 a.2:=callS_shared p234 pos q args h
theorem p235:P 235=some F235:=Has.h 235 F235 rfl
theorem u235 (args:List LV) (h:Heap):sfn P 235 args h=resF [.tmp 0] (execS P (limS P) c235 ⟨args,h⟩):=sfn_code p235 args h
@[simp] theorem call235 (pos:Option Nat) (q:Bool) (args:List LV) (h:Heap):callS P (limS P) pos q 235 args h=if q then none else bnd (frzFuncs args h) fun a=>sfn P 235 a.1 a.2:=callS_shared p235 pos q args h
theorem p236:P 236=some F236:=Has.h 236 F236 rfl
theorem u236 (args:List LV) (h:Heap):sfn P 236 args h=resF [.tmp 0] (execS P (limS P) c236 ⟨args,h⟩):=sfn_code p236 args h
@[simp] theorem call236 (pos:Option Nat) (q:Bool) (args:List LV) (h:Heap):callS P (limS P) pos q 236 args h=if q then none else bnd (frzFuncs args h) fun a=>sfn P 236 a.1 a.2:=callS_shared p236 pos q args h
theorem p237:P 237=some F237:=Has.h 237 F237 rfl
theorem u237 (args:List LV) (h:Heap):sfn P 237 args h=resF [.tmp 0] (execS P (limS P) c237 ⟨args,h⟩):=sfn_code p237 args h
@[simp] theorem call237 (pos:Option Nat) (q:Bool) (args:List LV) (h:Heap):callS P (limS P) pos q 237 args h=if q then none else bnd (frzFuncs args h) fun a=>sfn P 237 a.1 a.2:=callS_shared p237 pos q args h
theorem p238:P 238=some F238:=Has.h 238 F238 rfl
theorem u238:CodeEq P 238 [.tmp 0] c238:=fn_code p238
@[simp] theorem call238:CallP P 238:=callS_pure p238
theorem p239:P 239=some F239:=Has.h 239 F239 rfl
theorem u239:CodeEq P 239 [.tmp 0] c239:=fn_code p239
@[simp] theorem call239:CallP P 239:=callS_pure p239
theorem p240:P 240=some F240:=Has.h 240 F240 rfl
theorem u240:CodeEq P 240 [.tmp 0] c240:=fn_code p240
@[simp] theorem call240:CallP P 240:=callS_pure p240
theorem p241:P 241=some F241:=Has.h 241 F241 rfl
theorem u241:CodeEq P 241 [.tmp 0] c241:=fn_code p241
@[simp] theorem call241:CallP P 241:=callS_pure p241
theorem r241_l0:LoopT P c241_l0 c241_l0b:=execS_loop true c241_l0b
theorem p258:P 258=some F258:=Has.h 258 F258 rfl
theorem u258 (args:List LV) (h:Heap):sfn P 258 args h=resF [] (execS P (limS P) c258 ⟨args,h⟩):=sfn_code p258 args h
@[simp] theorem call258 (pos:Option Nat) (q:Bool) (args:List LV) (h:Heap):callS P (limS P) pos q 258 args h=if q then none else bnd (frzFuncs args h) fun a=>sfn P 258 a.1 a.2:=callS_shared p258 pos q args h
theorem p259:P 259=some F259:=Has.h 259 F259 rfl
theorem u259 (args:List LV) (h:Heap):sfn P 259 args h=resF [] (execS P (limS P) c259 ⟨args,h⟩):=sfn_code p259 args h
@[simp] theorem call259 (pos:Option Nat) (q:Bool) (args:List LV) (h:Heap):callS P (limS P) pos q 259 args h=if q then none else bnd (frzFuncs args h) fun a=>sfn P 259 a.1 a.2:=callS_shared p259 pos q args h
theorem p260:P 260=some F260:=Has.h 260 F260 rfl
theorem u260 (args:List LV) (h:Heap):sfn P 260 args h=resF [] (execS P (limS P) c260 ⟨args,h⟩):=sfn_code p260 args h
@[simp] theorem call260 (pos:Option Nat) (q:Bool) (args:List LV) (h:Heap):callS P (limS P) pos q 260 args h=if q then none else bnd (frzFuncs args h) fun a=>sfn P 260 a.1 a.2:=callS_shared p260 pos q args h
theorem p261:P 261=some F261:=Has.h 261 F261 rfl
theorem u261 (args:List LV) (h:Heap):sfn P 261 args h=resF [] (execS P (limS P) c261 ⟨args,h⟩):=sfn_code p261 args h
@[simp] theorem call261 (pos:Option Nat) (q:Bool) (args:List LV) (h:Heap):callS P (limS P) pos q 261 args h=if q then none else bnd (frzFuncs args h) fun a=>sfn P 261 a.1 a.2:=callS_shared p261 pos q args h
theorem p262:P 262=some F262:=Has.h 262 F262 rfl
theorem u262 (args:List LV) (h:Heap):sfn P 262 args h=resF [] (execS P (limS P) c262 ⟨args,h⟩):=sfn_code p262 args h
@[simp] theorem call262 (pos:Option Nat) (q:Bool) (args:List LV) (h:Heap):callS P (limS P) pos q 262 args h=if q then none else bnd (frzFuncs args h) fun a=>sfn P 262 a.1 a.2:=callS_shared p262 pos q args h
theorem p263:P 263=some F263:=Has.h 263 F263 rfl
theorem u263 (args:List LV) (h:Heap):sfn P 263 args h=resF [] (execS P (limS P) c263 ⟨args,h⟩):=sfn_code p263 args h
@[simp] theorem call263 (pos:Option Nat) (q:Bool) (args:List LV) (h:Heap):callS P (limS P) pos q 263 args h=if q then none else bnd (frzFuncs args h) fun a=>sfn P 263 a.1 a.2:=callS_shared p263 pos q args h
theorem p264:P 264=some F264:=Has.h 264 F264 rfl
theorem u264 (args:List LV) (h:Heap):sfn P 264 args h=resF [] (execS P (limS P) c264 ⟨args,h⟩):=sfn_code p264 args h
@[simp] theorem call264 (pos:Option Nat) (q:Bool) (args:List LV) (h:Heap):callS P (limS P) pos q 264 args h=if q then none else bnd (frzFuncs args h) fun a=>sfn P 264 a.1 a.2:=callS_shared p264 pos q args h
theorem p265:P 265=some F265:=Has.h 265 F265 rfl
theorem u265 (args:List LV) (h:Heap):sfn P 265 args h=resF [] (execS P (limS P) c265 ⟨args,h⟩):=sfn_code p265 args h
@[simp] theorem call265 (pos:Option Nat) (q:Bool) (args:List LV) (h:Heap):callS P (limS P) pos q 265 args h=if q then none else bnd (frzFuncs args h) fun a=>sfn P 265 a.1 a.2:=callS_shared p265 pos q args h
theorem p266:P 266=some F266:=Has.h 266 F266 rfl
theorem u266 (args:List LV) (h:Heap):sfn P 266 args h=resF [] (execS P (limS P) c266 ⟨args,h⟩):=sfn_code p266 args h
@[simp] theorem call266 (pos:Option Nat) (q:Bool) (args:List LV) (h:Heap):callS P (limS P) pos q 266 args h=if q then none else bnd (frzFuncs args h) fun a=>sfn P 266 a.1 a.2:=callS_shared p266 pos q args h
theorem p267:P 267=some F267:=Has.h 267 F267 rfl
theorem u267 (args:List LV) (h:Heap):sfn P 267 args h=resF [] (execS P (limS P) c267 ⟨args,h⟩):=sfn_code p267 args h
@[simp] theorem call267 (pos:Option Nat) (q:Bool) (args:List LV) (h:Heap):callS P (limS P) pos q 267 args h=if q then none else bnd (frzFuncs args h) fun a=>sfn P 267 a.1 a.2:=callS_shared p267 pos q args h
theorem p268:P 268=some F268:=Has.h 268 F268 rfl
theorem u268 (args:List LV) (h:Heap):sfn P 268 args h=resF [] (execS P (limS P) c268 ⟨args,h⟩):=sfn_code p268 args h
@[simp] theorem call268 (pos:Option Nat) (q:Bool) (args:List LV) (h:Heap):callS P (limS P) pos q 268 args h=if q then none else bnd (frzFuncs args h) fun a=>sfn P 268 a.1 a.2:=callS_shared p268 pos q args h
theorem p269:P 269=some F269:=Has.h 269 F269 rfl
theorem u269 (args:List LV) (h:Heap):sfn P 269 args h=resF [] (execS P (limS P) c269 ⟨args,h⟩):=sfn_code p269 args h
@[simp] theorem call269 (pos:Option Nat) (q:Bool) (args:List LV) (h:Heap):callS P (limS P) pos q 269 args h=if q then none else bnd (frzFuncs args h) fun a=>sfn P 269 a.1 a.2:=callS_shared p269 pos q args h
theorem p270:P 270=some F270:=Has.h 270 F270 rfl
theorem u270 (args:List LV) (h:Heap):sfn P 270 args h=resF [] (execS P (limS P) c270 ⟨args,h⟩):=sfn_code p270 args h
@[simp] theorem call270 (pos:Option Nat) (q:Bool) (args:List LV) (h:Heap):callS P (limS P) pos q 270 args h=if q then none else bnd (frzFuncs args h) fun a=>sfn P 270 a.1 a.2:=callS_shared p270 pos q args h
theorem p271:P 271=some F271:=Has.h 271 F271 rfl
theorem u271 (args:List LV) (h:Heap):sfn P 271 args h=resF [] (execS P (limS P) c271 ⟨args,h⟩):=sfn_code p271 args h
@[simp] theorem call271 (pos:Option Nat) (q:Bool) (args:List LV) (h:Heap):callS P (limS P) pos q 271 args h=if q then none else bnd (frzFuncs args h) fun a=>sfn P 271 a.1 a.2:=callS_shared p271 pos q args h
theorem p272:P 272=some F272:=Has.h 272 F272 rfl
theorem u272 (args:List LV) (h:Heap):sfn P 272 args h=resF [] (execS P (limS P) c272 ⟨args,h⟩):=sfn_code p272 args h
@[simp] theorem call272 (pos:Option Nat) (q:Bool) (args:List LV) (h:Heap):callS P (limS P) pos q 272 args h=if q then none else bnd (frzFuncs args h) fun a=>sfn P 272 a.1 a.2:=callS_shared p272 pos q args h
theorem p273:P 273=some F273:=Has.h 273 F273 rfl
theorem u273 (args:List LV) (h:Heap):sfn P 273 args h=resF [] (execS P (limS P) c273 ⟨args,h⟩):=sfn_code p273 args h
@[simp] theorem call273 (pos:Option Nat) (q:Bool) (args:List LV) (h:Heap):callS P (limS P) pos q 273 args h=if q then none else bnd (frzFuncs args h) fun a=>sfn P 273 a.1 a.2:=callS_shared p273 pos q args h
theorem p274:P 274=some F274:=Has.h 274 F274 rfl
theorem u274 (args:List LV) (h:Heap):sfn P 274 args h=resF [] (execS P (limS P) c274 ⟨args,h⟩):=sfn_code p274 args h
@[simp] theorem call274 (pos:Option Nat) (q:Bool) (args:List LV) (h:Heap):callS P (limS P) pos q 274 args h=if q then none else bnd (frzFuncs args h) fun a=>sfn P 274 a.1 a.2:=callS_shared p274 pos q args h
theorem p275:P 275=some F275:=Has.h 275 F275 rfl
theorem u275 (args:List LV) (h:Heap):sfn P 275 args h=resF [.tmp 0] (execS P (limS P) c275 ⟨args,h⟩):=sfn_codeL p275 args h
@[simp] theorem call275 (pos:Option Nat) (q:Bool) (args:List LV) (h:Heap):callS P (limS P) pos q 275 args h=if q then none else sfn P 275 args h:=callS_live p275 pos q args h
theorem r275_l0:LoopT P c275_l0 c275_l0b:=execS_loop true c275_l0b
theorem p276:P 276=some F276:=Has.h 276 F276 rfl
theorem u276 (args:List LV) (h:Heap):sfn P 276 args h=resF [.tmp 0] (execS P (limS P) c276 ⟨args,h⟩):=sfn_codeL p276 args h
@[simp] theorem call276 (pos:Option Nat) (q:Bool) (args:List LV) (h:Heap):callS P (limS P) pos q 276 args h=if q then none else sfn P 276 args h:=callS_live p276 pos q args h
theorem p277:P 277=some F277:=Has.h 277 F277 rfl
theorem u277:CodeEq P 277 [.tmp 0] c277:=fn_code p277
@[simp] theorem call277:CallP P 277:=callS_pure p277
theorem p278:P 278=some F278:=Has.h 278 F278 rfl
theorem u278:CodeEq P 278 [.tmp 0] c278:=fn_code p278
@[simp] theorem call278:CallP P 278:=callS_pure p278
theorem p294:P 294=some F294:=Has.h 294 F294 rfl
theorem u294 (args:List LV) (h:Heap):sfn P 294 args h=resF [] (execS P (limS P) c294 ⟨args,h⟩):=sfn_code p294 args h
@[simp] theorem call294 (pos:Option Nat) (q:Bool) (args:List LV) (h:Heap):callS P (limS P) pos q 294 args h=if q then none else bnd (frzFuncs args h) fun a=>sfn P 294 a.1 a.2:=callS_shared p294 pos q args h
theorem p295:P 295=some F295:=Has.h 295 F295 rfl
theorem u295:CodeEq P 295 [.tmp 0] c295:=fn_code p295
@[simp] theorem call295:CallP P 295:=callS_pure p295
theorem p296:P 296=some F296:=Has.h 296 F296 rfl
theorem u296 (args:List LV) (h:Heap):sfn P 296 args h=resF [] (execS P (limS P) c296 ⟨args,h⟩):=sfn_code p296 args h
@[simp] theorem call296 (pos:Option Nat) (q:Bool) (args:List LV) (h:Heap):callS P (limS P) pos q 296 args h=if q then none else bnd (frzFuncs args h) fun a=>sfn P 296 a.1 a.2:=callS_shared p296 pos q args h
theorem p297:P 297=some F297:=Has.h 297 F297 rfl
theorem u297:CodeEq P 297 [.tmp 0] c297:=fn_code p297
@[simp] theorem call297:CallP P 297:=callS_pure p297
theorem r297_l0:LoopT P c297_l0 c297_l0b:=execS_loop true c297_l0b
theorem p99:P 99=some (.fprim 1 (cloneP (some 3) 56)):=Has.h 99 _ rfl
theorem u99 (args:List CV):ffn P 99 args=(cloneP (some 3) 56) args:=by simp only[ffn,p99]
@[simp] theorem call99 (pos:Option Nat) (q:Bool) (args:List LV) (h:Heap):callS P (limS P) pos q 99 args h=if q && pos.isNone then none else bnd (frzArgs q args h) fun a=>bnd (ffn P 99 a.1) fun v=>importB pos 1 v.1 v.2 a.2:=callS_fprim p99 pos q args h
theorem p118:P 118=some (.fprim 1 (cloneP none 8)):=Has.h 118 _ rfl
theorem u118 (args:List CV):ffn P 118 args=(cloneP none 8) args:=by simp only[ffn,p118]
@[simp] theorem call118 (pos:Option Nat) (q:Bool) (args:List LV) (h:Heap):callS P (limS P) pos q 118 args h=if q && pos.isNone then none else bnd (frzArgs q args h) fun a=>bnd (ffn P 118 a.1) fun v=>importB pos 1 v.1 v.2 a.2:=callS_fprim p118 pos q args h
class HasP (P:Nat→Option SFunc):Prop where
 h:∀ f,f ∈ [10,81]→∃ g,P f=some (.prim g)
@[simp] theorem call10 [HasP P] (pos:Option Nat) (q:Bool) (args:List LV) (h:Heap):callS P (limS P) pos q 10 args h=bnd (frzArgs q args h) fun a=>bnd (fn P 10 a.1) fun v=>some (.c v,if scalarC v then h else a.2):=by
 obtain⟨g,hg⟩:=HasP.h (P:=P) 10 (by simp)
 exact callS_prim hg pos q args h
@[simp] theorem call81 [HasP P] (pos:Option Nat) (q:Bool) (args:List LV) (h:Heap):callS P (limS P) pos q 81 args h=bnd (frzArgs q args h) fun a=>bnd (fn P 81 a.1) fun v=>some (.c v,if scalarC v then h else a.2):=by
 obtain⟨g,hg⟩:=HasP.h (P:=P) 81 (by simp)
 exact callS_prim hg pos q args h
end LM.GZ
namespace LM.GZ
open Go LM
def lc81:LCode:=(.seq (.region [.mk (some 2) (.box (.t 0)) none none .any,.mk (some 4) (.new [(.c (.int .i64 0)),.nil] 1) none none .any,.mk (some 5) (.mkNil (some 2)) none none .any]) (.seq (.draw 0 [.mk (some 10) (.load (some 4) (.t 2)) none none .var,.mk (some 11) (.load (some 4) (.t 2)) none none .var,.mk (some 12) (.call false (.k (.c (.func 151 [] []))) [(.t 11)]) none none .any,.mk (some 13) (.call false (.k (.c (.func 150 [] []))) [(.t 10),(.t 12)]) none none .any,.mk (some 6) (.move (.t 13)) none none .any]) (.seq (.region [.mk (some 7) (.new [.nil]) none none .any]) (.seq (.seq (.region [.mk (some 14) (.move (.t 6)) none none .any,.mk (some 15) (.move (.t 1)) none none .any,.mk (some 16) (.call false (.k (.c (.func 152 [] []))) [(.t 14),(.t 15)]) none none .any]) (.block 0 (.rangeFn (.t 16) [17,18] (.seq (.region [.mk (some 8) (.move (.t 17)) none none .any]) (.region [.mk (some 9) (.move (.t 18)) none none .any])) (.block 1 (.seq (.region [.mk (some 19) (.move (.t 9)) none none .any,.mk (some 20) (.bin .neq (.t 19) (.k (.c (.int .i64 0)))) none none .any]) (.cond (.t 20) (.region [.mk (some 21) (.load none (.t 7)) none none .any,.mk (some 22) (.move (.t 8)) none none .any,.mk (some 23) (.move (.t 9)) none none .any,.mk (some 24) (.build [(.c (.int .i64 0)),(.c (.int .i64 0))] [(0,1,(.t 22)),(1,1,(.t 23))]) none none .any,.mk (some 25) (.buildSlice 2 (some 2) 1 [(.c (.int .i64 0)),(.c (.int .i64 0))] [(0,(.t 24))]) none none .any,.mk (some 26) (.append (some 2) 16 (.t 21) (.t 25)) none none .any,.mk none (.store 1 (.t 7) (.t 26)) none none .any]) .skip)))))) (.seq (.draw 0 [.mk (some 27) (.move (.t 6)) none none .any,.mk (some 28) (.nilCheck (.t 27)) none none .any,.mk (some 29) (.fieldAddr 4 (.t 28)) none none .any,.mk (some 30) (.load (some 2) (.t 29)) none none .var,.mk (some 31) (.load none (.t 7)) none none .var,.mk none (.store 2 (.t 4) (.t 30)) none none .row,.mk (some 5) (.move (.t 31)) none none .any]) .ret)))))
def lf81:LFunc:=.code .pure 32 [.cell 4 (some 2),.tmp 5] lc81
def lc196:LCode:=(.seq (.region [.mk (some 7) (.load none (.t 1)) none none .any,.mk (some 8) (.len 1 (.t 7)) none none .any,.mk (some 9) (.move (.k (.c (.int .i64 0)))) none none .any]) (.block 0 (.loop true (.seq (.region [.mk (some 10) (.bin .lss (.t 9) (.t 8)) none none .any]) (.seq (.cond (.t 10) .skip (.exit 0)) (.seq (.block 1 (.seq (.region [.mk (some 11) (.move (.t 9)) none none .any,.mk (some 12) (.idxSlice 4 (.t 7) (.t 9)) none none .any,.mk (some 13) (.load (some 4) (.t 12)) none none .any,.mk (some 5) (.new [(.c (.int .i64 0)),(.c (.str [])),(.c (.int .i64 0)),(.c (.int .i64 0))]) none none .any,.mk (some 4) (.move (.t 11)) none none .any,.mk none (.store 4 (.t 5) (.t 13)) none none .any]) (.seq (.region [.mk (some 14) (.load none (.t 2)) none none .any,.mk (some 15) (.load (some 4) (.t 5)) none none .any,.mk (some 16) (.call false (.k (.c (.func 197 [] []))) [(.t 14),(.t 15)]) none none .any,.mk (some 6) (.move (.t 16)) none none .any]) (.seq (.seq (.region [.mk (some 17) (.move (.t 6)) none none .any,.mk (some 18) (.bin .eql (.t 17) (.k (.c (.int .i64 0)))) none none .any]) (.cond (.t 18) (.region [.mk (some 19) (.load none (.t 2)) none none .any,.mk (some 20) (.load (some 4) (.t 5)) none none .any,.mk (some 21) (.call false (.k (.c (.func 198 [] []))) [(.t 19),(.t 20)]) none none .any]) .skip)) (.seq (.region [.mk (some 22) (.move (.t 0)) none none .any,.mk (some 23) (.move (.t 4)) none none .any,.mk (some 24) (.bin .add (.t 23) (.k (.c (.int .i64 1)))) none none .any,.mk (some 25) (.move (.t 6)) none none .any,.mk (some 26) (.call false (.t 22) [(.t 24),(.t 25)]) none none .any,.mk (some 27) (.not (.t 26)) none none .any]) (.cond (.t 27) .ret .skip)))))) (.region [.mk (some 28) (.bin .add (.t 9) (.k (.c (.int .i64 1)))) none none .any,.mk (some 9) (.move (.t 28)) none none .any])))))))
def lf196:LFunc:=.code .shared 29 [] lc196
def lprog:List (Nat × LFunc):=[(81,lf81),(196,lf196)]
@[simp] def c10_n2:SCode:=(.region [.op 8 (.build [(.c (.int .i64 0)),(.c (.int .i64 0))] [(0,1,(.k (.c (.int .i64 150)))),(1,1,(.k (.c (.int .i64 7000))))]),.op 9 (.build [(.c (.int .i64 0)),(.c (.int .i64 0))] [(0,1,(.k (.c (.int .i64 120)))),(1,1,(.k (.c (.int .i64 7001))))]),.op 10 (.call false (.k (.c (.func 11 [] []))) [(.t 1),(.t 0)]),.op 7 (.move (.t 0)),.op 11 (.extract (.t 0) 0),.op 12 (.extract (.t 1) 1),.op 1 (.move (.t 1)),.op 2 (.move (.t 1))] [1,0])
@[simp] def c10_n4:SCode:=(.region [.op 14 (.build [(.c (.int .i64 0)),(.c (.int .i64 0))] [(0,1,(.k (.c (.int .i64 150)))),(1,1,(.k (.c (.int .i64 7000))))]),.op 15 (.build [(.c (.int .i64 0)),(.c (.int .i64 0))] [(0,1,(.k (.c (.int .i64 120)))),(1,1,(.k (.c (.int .i64 7001))))]),.op 16 (.call false (.k (.c (.func 12 [] []))) [(.t 1),(.t 0)]),.op 13 (.move (.t 0)),.op 17 (.extract (.t 0) 0),.op 18 (.extract (.t 1) 1),.op 3 (.move (.t 1)),.op 4 (.move (.t 1))] [8,9,1,0])
@[simp] def c10_n6:SCode:=(.region [.op 20 (.move (.t 2)),.op 21 (.call false (.k (.c (.func 14 [] []))) [(.t 0),(.k (.c (.int .i64 1)))]),.op 19 (.move (.t 0)),.op 22 (.extract (.t 0) 0),.op 23 (.extract (.t 1) 1),.op 5 (.move (.t 1)),.op 6 (.move (.t 1))] [7,8,10,1,0])
@[simp] def c10_n8:SCode:=(.region [.op 24 (.move (.t 2)),.op 25 (.move (.t 0)),.andN 30 0 [.op 26 (.move (.t 3)),.op 27 (.move (.t 7)),.op 28 (.bin .add (.t 1) (.t 0)),.op 29 (.bin .eql (.t 0) (.k (.c (.int .i64 0))))] (.t 0),.op 31 (.move (.t 0)),.andN 34 0 [.op 32 (.move (.t 4)),.op 33 (.bin .eql (.t 0) (.k (.c (.int .i64 1))))] (.t 0),.op 35 (.move (.t 0)),.andN 39 0 [.op 36 (.move (.t 9)),.op 37 (.len 1 (.t 0)),.op 38 (.bin .eql (.t 0) (.k (.c (.int .i64 1))))] (.t 0),.op 40 (.move (.t 0)),.andN 45 0 [.op 41 (.move (.t 11)),.op 42 (.idxSlice 1 (.t 0) (.k (.c (.int .i64 0)))),.op 43 (.load none (.t 0)),.op 44 (.bin .eql (.t 0) (.k (.c (.str [97,110,110]))))] (.t 0),.op 0 (.move (.t 0))] [0])
def c10_n7:SCode:=.seq c10_n8 .ret
def c10_n5:SCode:=.seq c10_n6 c10_n7
def c10_n3:SCode:=.seq c10_n4 c10_n5
def c10_n1:SCode:=.seq c10_n2 c10_n3
def c10:SCode:=(.seq (.region [.op 0 (.move (.k (.c (.bool false))))] []) c10_n1)
def F10:SFunc:=.code .pure 46 0 [some 0] [.tmp 0] c10
end LM.GZ
