/- Part 4 of what YtlnejpgfiopjjaaGreatParted leans on. -/
import Derived.Test.YtlnejpgfiopjjaaGreatPartedL1
import Derived.Test.YtlnejpgfiopjjaaGreatPartedL2
import Derived.Test.YtlnejpgfiopjjaaGreatPartedL3
set_option linter.all false
namespace LM.GZ
open Go LM
def Gh:SCode:=.seq (.region [.op 37 (.move (.t 3)),.op 4 (.move (.t 0))] [2,3,0,4,5]) (.region [.op 38 (.move (.t 1)),.op 39 (.move (.t 1)),.op 40 (.move (.t 4)),.op 41 (.idxSlice 3 (.t 1) (.t 0)),.op 42 (.load (some 3) (.t 0)),.op 43 (.buildSlice 2 (some 3) 1 [(.c (.str [])),(.c (.str [])),(.c (.int .i64 0))] [(0,(.t 0))]),.op 44 (.append (some 3) 40 (.t 5) (.t 0)),.op 3 (.move (.t 0))] [8,0,11,12])
instance:IsSeq Gh (.region [.op 37 (.move (.t 3)),.op 4 (.move (.t 0))] [2,3,0,4,5]) (.region [.op 38 (.move (.t 1)),.op 39 (.move (.t 1)),.op 40 (.move (.t 4)),.op 41 (.idxSlice 3 (.t 1) (.t 0)),.op 42 (.load (some 3) (.t 0)),.op 43 (.buildSlice 2 (some 3) 1 [(.c (.str [])),(.c (.str [])),(.c (.int .i64 0))] [(0,(.t 0))]),.op 44 (.append (some 3) 40 (.t 5) (.t 0)),.op 3 (.move (.t 0))] [8,0,11,12]):=⟨rfl⟩
def Hl:SCode:=.seq (.block 1 [some 0,some 3,some 34,some 35] Gh) (.region [.op 45 (.bin .add (.t 3) (.k (.c (.int .i64 1)))),.op 35 (.move (.t 0))] [2,3,4,0])
instance:IsSeq Hl (.block 1 [some 0,some 3,some 34,some 35] Gh) (.region [.op 45 (.bin .add (.t 3) (.k (.c (.int .i64 1)))),.op 35 (.move (.t 0))] [2,3,4,0]):=⟨rfl⟩
def O5:SCode:=.seq (.cond (.t 4) (.pre [0,1,2,3] .skip) (.pre [0,1] (.exit 0))) Hl
instance:IsSeq O5 (.cond (.t 4) (.pre [0,1,2,3] .skip) (.pre [0,1] (.exit 0))) Hl:=⟨rfl⟩
def nj:SCode:=(.seq (.region [.op 36 (.bin .lss (.t 3) (.t 2))] [1,2,3,4,0]) O5)
def Gq:SCode:=.loop true nj
@[simp] def Pf:SCode:=(.region [.op 95 (.move (.t 6)),.op 11 (.move (.t 0))] [2,3,4,5,6,0,7,8])
@[simp] def Ph:SCode:=(.region [.op 97 (.move (.t 0)),.op 98 (.move (.t 5)),.op 99 (.move (.t 7)),.op 100 (.idxSlice 1 (.t 1) (.t 0)),.op 101 (.load none (.t 0)),.op 102 (.call false (.k (.c (.func 21 [] []))) [(.t 4),(.t 0)]),.op 96 (.move (.t 0)),.op 103 (.extract (.t 0) 0),.op 104 (.extract (.t 1) 1),.op 12 (.move (.t 1)),.op 13 (.move (.t 1))] [11,12,13,14,15,1,0,17,18])
@[simp] def HX:SCode:=(.seq (.region [.op 105 (.move (.t 6)),.op 106 (.bin .neq (.t 0) (.k (.c (.int .i64 0))))] [2,3,4,5,6,7,9,10,0]) (.cond (.t 8) (.seq (.region [.op 2 (.move (.k (.c (.bool false))))] [0]) .ret) (.pre [0,1,2,3,4,5,6,7] .skip)))
def yM:SCode:=.seq HX (.region [.op 107 (.move (.t 3)),.op 108 (.move (.t 6)),.op 109 (.min (.t 1) [(.t 0)]),.op 9 (.move (.t 0))] [4,5,6,0,8,10,11])
instance:IsSeq yM HX (.region [.op 107 (.move (.t 3)),.op 108 (.move (.t 6)),.op 109 (.min (.t 1) [(.t 0)]),.op 9 (.move (.t 0))] [4,5,6,0,8,10,11]):=⟨rfl⟩
def Gi:SCode:=.seq Ph yM
instance:IsSeq Gi Ph yM:=⟨rfl⟩
def GY:SCode:=.seq Pf Gi
instance:IsSeq GY Pf Gi:=⟨rfl⟩
def G2:SCode:=.seq (.block 3 [some 0,some 5,some 7,some 9,some 10,some 92,some 93] GY) (.region [.op 110 (.bin .add (.t 6) (.k (.c (.int .i64 1)))),.op 93 (.move (.t 0))] [2,3,4,5,6,7,0])
instance:IsSeq G2 (.block 3 [some 0,some 5,some 7,some 9,some 10,some 92,some 93] GY) (.region [.op 110 (.bin .add (.t 6) (.k (.c (.int .i64 1)))),.op 93 (.move (.t 0))] [2,3,4,5,6,7,0]):=⟨rfl⟩
def O6:SCode:=.seq (.cond (.t 7) (.pre [0,1,2,3,4,5,6] .skip) (.pre [0,1,2,3] (.exit 2))) G2
instance:IsSeq O6 (.cond (.t 7) (.pre [0,1,2,3,4,5,6] .skip) (.pre [0,1,2,3] (.exit 2))) G2:=⟨rfl⟩
def nF:SCode:=(.seq (.region [.op 94 (.bin .lss (.t 6) (.t 5))] [1,2,3,4,5,6,7,0]) O6)
def Ha:SCode:=.loop true nF
@[simp] def I2:SCode:=(.cond (.t 8) (.pre [0,1,2,3,4,5,6,7] .skip) (.pre [0,1,2,3,4,5] (.exit 6)))
@[simp] def Ib:SCode:=(.region [.op 164 (.move (.t 7)),.op 22 (.move (.t 0))] [2,3,4,0,5,6,7,8,9])
@[simp] def JJ:SCode:=(.draw 2 [.op 165 (.fieldAddr 1 (.t 2)),.op 166 (.load none (.t 0)) none .var,.op 167 (.move (.t 2)),.op 168 (.move (.t 6)),.op 169 (.idxSlice 3 (.t 1) (.t 0)),.op 170 (.fieldAddr 0 (.t 0)),.op 171 (.load none (.t 0)) none .old,.op 172 (.buildSlice 2 none 1 [(.c (.str []))] [(0,(.t 0))]) (some 0),.op 173 (.append none 16 (.t 6) (.t 0)) (some 1) .own,.op 174 (.fieldAddr 1 (.t 11)),.eff (.store 1 (.t 0) (.t 1)) none .var] [10,11,12,14,15,16,17,18])
def Kt:SCode:=.seq Ib JJ
instance:IsSeq Kt Ib JJ:=⟨rfl⟩
@[simp] def Kz:SCode:=(.block 7 [some 0,some 20,some 21,some 153,some 154,some 155,some 161,some 162] Kt)
def Ad:SCode:=.seq Kz (.region [.op 175 (.bin .add (.t 7) (.k (.c (.int .i64 1)))),.op 162 (.move (.t 0))] [2,3,4,5,6,7,8,0])
instance:IsSeq Ad Kz (.region [.op 175 (.bin .add (.t 7) (.k (.c (.int .i64 1)))),.op 162 (.move (.t 0))] [2,3,4,5,6,7,8,0]):=⟨rfl⟩
def K8:SCode:=.seq I2 Ad
instance:IsSeq K8 I2 Ad:=⟨rfl⟩
def kX:SCode:=(.seq (.region [.op 163 (.bin .lss (.t 7) (.t 6))] [1,2,3,4,5,6,7,8,0]) K8)
def vD:SCode:=.loop true kX
@[simp] def JD:SCode:=(.cond (.t 10) (.pre [0,1,2,3,4,5,6,7,8,9] .skip) (.pre [0,1,3,4,5,6] (.exit 8)))
@[simp] def K5:SCode:=(.region [.op 195 (.move (.t 9)),.op 196 (.idxSlice 1 (.t 8) (.t 10)),.op 197 (.load none (.t 0)),.op 26 (.move (.t 2)),.op 27 (.move (.t 1))] [5,6,7,8,1,0,9,10,11,12,13,14])
@[simp] def K4:SCode:=(.draw 2 [.op 198 (.move (.t 3)),.op 199 (.move (.t 6)),.op 200 (.move (.t 4)),.op 201 (.move (.t 7)),.op 202 (.idxSlice 2 (.t 1) (.t 0)),.op 203 (.idxArr 2 1 (.t 0) (.k (.c (.int .i64 1)))),.op 204 (.load none (.t 0)) none .old,.op 205 (.build [(.c (.int .i64 0)),(.c (.str [])),(.c (.int .i64 0)),(.c (.int .i64 0))] [(0,1,(.t 5)),(1,1,(.k (.c (.str [115,116,97,114,116])))),(3,1,(.t 0))]),.op 206 (.move (.t 13)),.op 207 (.move (.t 11)),.op 208 (.move (.t 14)),.op 209 (.idxSlice 2 (.t 1) (.t 0)),.op 210 (.idxArr 2 1 (.t 0) (.k (.c (.int .i64 1)))),.op 211 (.load none (.t 0)) none .old,.op 212 (.bin .add (.t 0) (.k (.c (.int .i64 700)))),.op 213 (.build [(.c (.int .i64 0)),(.c (.str [])),(.c (.int .i64 0)),(.c (.int .i64 0))] [(0,1,(.t 6)),(1,1,(.k (.c (.str [102,97,108,108])))),(3,1,(.t 0))]),.op 214 (.buildSlice 2 (some 4) 2 [(.c (.int .i64 0)),(.c (.str [])),(.c (.int .i64 0)),(.c (.int .i64 0))] [(0,(.t 8)),(1,(.t 0))]) (some 0),.op 215 (.append (some 4) 40 (.t 16) (.t 0)) (some 1) .own,.op 25 (.move (.t 0))] [19,20,21,0,25,26,27,28,29,30])
def IV:SCode:=.seq K5 K4
instance:IsSeq IV K5 K4:=⟨rfl⟩
@[simp] def JZ:SCode:=(.block 9 [some 0,some 21,some 23,some 25,some 153,some 154,some 155,some 191,some 192,some 193] IV)
def xq:SCode:=.seq JZ (.region [.op 216 (.bin .add (.t 9) (.k (.c (.int .i64 1)))),.op 193 (.move (.t 0))] [2,3,4,5,6,7,8,9,10,0])
instance:IsSeq xq JZ (.region [.op 216 (.bin .add (.t 9) (.k (.c (.int .i64 1)))),.op 193 (.move (.t 0))] [2,3,4,5,6,7,8,9,10,0]):=⟨rfl⟩
def Ik:SCode:=.seq JD xq
instance:IsSeq Ik JD xq:=⟨rfl⟩
def mU:SCode:=(.seq (.region [.op 194 (.bin .lss (.t 9) (.t 8))] [1,2,3,4,5,6,7,8,9,10,0]) Ik)
def GE:SCode:=.loop true mU
@[simp] def IN:SCode:=(.region [.op 157 (.idxSlice 1 (.t 1) (.t 3)),.op 158 (.load none (.t 0)),.op 20 (.move (.t 0))] [3,0,4,5,6])
@[simp] def JF:SCode:=(.region [.op 159 (.build [(.c (.str [])),.nil,(.c (.int .i64 0)),(.c (.int .i64 0))] [(0,1,(.k (.c (.str [108,101,97,100])))),(2,1,(.k (.c (.int .i64 3)))),(3,1,(.k (.c (.int .i64 1000))))]),.op 21 (.new [(.c (.str [])),.nil,(.c (.int .i64 0)),(.c (.int .i64 0))]),.eff (.store 4 (.t 0) (.t 1))] [2,3,0,4,5,6])
@[simp] def Kq:SCode:=(.seq (.region [.op 160 (.move (.t 0)),.op 161 (.len 1 (.t 0)),.op 162 (.move (.k (.c (.int .i64 0))))] [3,4,5,6,7,8,1,0]) (.block 6 [some 0,some 20,some 21,some 153,some 154,some 155] vD))
@[simp] def Iv:SCode:=(.region [.op 177 (.move (.t 0)),.op 178 (.len 1 (.t 0)),.op 179 (.call false (.k (.c (.func 23 [] []))) [(.t 0),(.k (.c (.int .i64 0))),(.k (.c (.int .i64 2000))),(.k (.c (.int .i64 500)))]),.op 176 (.move (.t 0)),.op 180 (.extract (.t 0) 0),.op 181 (.extract (.t 1) 1),.op 23 (.move (.t 1)),.op 24 (.move (.t 1))] [8,9,10,1,0,11,12,13])
@[simp] def IH:SCode:=(.seq (.region [.op 182 (.move (.t 4)),.op 183 (.bin .neq (.t 0) (.k (.c (.int .i64 0)))),.op 184 (.move (.t 0)),.orN 190 0 [.op 185 (.move (.t 6)),.op 186 (.len 1 (.t 0)),.op 187 (.move (.t 5)),.op 188 (.len 1 (.t 0)),.op 189 (.bin .neq (.t 2) (.t 0))] (.t 0)] [4,5,6,7,9,10,11,0]) (.cond (.t 7) (.seq (.region [.op 2 (.move (.k (.c (.bool false))))] [0]) .ret) (.pre [0,1,2,3,4,5,6] .skip)))
@[simp] def KH:SCode:=(.seq (.region [.op 191 (.move (.t 1)),.op 192 (.len 1 (.t 0)),.op 193 (.move (.k (.c (.int .i64 0))))] [3,5,6,7,8,9,10,2,1,0]) (.block 8 [some 0,some 21,some 25,some 153,some 154,some 155] GE))
@[simp] def IJ:SCode:=(.seq (.draw 0 [.op 217 (.load (some 4) (.t 1)) none .var,.op 218 (.move (.t 3)),.op 219 (.call false (.k (.c (.func 25 [] []))) [(.t 0)]),.op 220 (.call false (.k (.c (.func 24 [] []))) [(.t 2),(.t 0)]),.op 221 (.bin .neq (.t 0) (.k (.c (.int .i64 0))))] [5,6,7,8,9,10,0]) (.cond (.t 6) (.seq (.region [.op 2 (.move (.k (.c (.bool false))))] [0]) .ret) (.pre [0,1,2,3,4,5] .skip)))
@[simp] def Jn:SCode:=(.region [.op 223 (.load (some 4) (.t 1)),.op 224 (.move (.t 3)),.op 225 (.call false (.k (.c (.func 26 [] []))) [(.t 1),(.t 0)]),.op 222 (.move (.t 0)),.op 226 (.extract (.t 0) 0),.op 227 (.extract (.t 1) 1),.op 228 (.extract (.t 2) 2),.op 28 (.new [(.c (.int .i64 0)),.nil]),.eff (.store 2 (.t 0) (.t 3)),.op 29 (.move (.t 2)),.op 30 (.move (.t 2))] [10,11,2,1,0,13,14,15])
@[simp] def HW:SCode:=(.region [.op 230 (.load (some 4) (.t 1)),.op 231 (.load (some 2) (.t 3)),.op 232 (.call false (.k (.c (.func 27 [] []))) [(.t 1),(.t 0)]),.op 229 (.move (.t 0)),.op 233 (.extract (.t 0) 0),.op 234 (.extract (.t 1) 1),.op 31 (.move (.t 1)),.op 32 (.move (.t 1))] [8,11,12,1,0,13,14,15])
@[simp] def K3:SCode:=(.region [.op 235 (.move (.t 2)),.op 236 (.move (.t 5)),.op 237 (.bin .add (.t 1) (.t 0)),.op 238 (.bin .neq (.t 0) (.k (.c (.int .i64 0)))),.op 239 (.move (.t 0)),.orN 243 0 [.op 240 (.move (.t 6)),.op 241 (.len 1 (.t 0)),.op 242 (.bin .neq (.t 0) (.k (.c (.int .i64 0))))] (.t 0),.op 244 (.move (.t 0)),.orN 248 0 [.op 245 (.move (.t 10)),.op 246 (.len 1 (.t 0)),.op 247 (.bin .neq (.t 0) (.k (.c (.int .i64 0))))] (.t 0)] [8,13,14,15,0])
def wD:SCode:=.seq K3 (.cond (.t 4) (.seq (.region [.op 2 (.move (.k (.c (.bool false))))] [0]) .ret) (.pre [0,1,2,3] .skip))
instance:IsSeq wD K3 (.cond (.t 4) (.seq (.region [.op 2 (.move (.k (.c (.bool false))))] [0]) .ret) (.pre [0,1,2,3] .skip)):=⟨rfl⟩
def wV:SCode:=.seq HW wD
instance:IsSeq wV HW wD:=⟨rfl⟩
def wx:SCode:=.seq Jn wV
instance:IsSeq wx Jn wV:=⟨rfl⟩
def wY:SCode:=.seq IJ wx
instance:IsSeq wY IJ wx:=⟨rfl⟩
def yY:SCode:=.seq KH wY
instance:IsSeq yY KH wY:=⟨rfl⟩
def Az:SCode:=.seq (.region [.op 25 (.mkNil (some 4))] [1,2,3,4,0,5,6,7]) yY
instance:IsSeq Az (.region [.op 25 (.mkNil (some 4))] [1,2,3,4,0,5,6,7]) yY:=⟨rfl⟩
def yP:SCode:=.seq IH Az
instance:IsSeq yP IH Az:=⟨rfl⟩
def vW:SCode:=.seq Iv yP
instance:IsSeq vW Iv yP:=⟨rfl⟩
def AD:SCode:=.seq Kq vW
instance:IsSeq AD Kq vW:=⟨rfl⟩
def yZ:SCode:=.seq JF AD
instance:IsSeq yZ JF AD:=⟨rfl⟩
def w8:SCode:=.seq IN yZ
instance:IsSeq w8 IN yZ:=⟨rfl⟩
def zz:SCode:=.seq (.block 5 [some 0,some 153,some 154,some 155] w8) (.region [.op 249 (.bin .add (.t 3) (.k (.c (.int .i64 1)))),.op 155 (.move (.t 0))] [2,3,4,0])
instance:IsSeq zz (.block 5 [some 0,some 153,some 154,some 155] w8) (.region [.op 249 (.bin .add (.t 3) (.k (.c (.int .i64 1)))),.op 155 (.move (.t 0))] [2,3,4,0]):=⟨rfl⟩
def Ih:SCode:=.seq (.cond (.t 4) (.pre [0,1,2,3] .skip) (.pre [] (.exit 4))) zz
instance:IsSeq Ih (.cond (.t 4) (.pre [0,1,2,3] .skip) (.pre [] (.exit 4))) zz:=⟨rfl⟩
def nD:SCode:=(.seq (.region [.op 156 (.bin .lss (.t 3) (.t 2))] [1,2,3,4,0]) Ih)
def ko:SCode:=.loop true nD
@[simp] def Js:SCode:=(.seq (.region [.op 33 (.move (.t 0)),.op 34 (.len 1 (.t 0)),.op 35 (.move (.k (.c (.int .i64 0))))] [3,4,1,0]) (.block 0 [some 0,some 3] Gq))
@[simp] def Lm:SCode:=(.seq (.region [.op 46 (.move (.t 0)),.op 47 (.len 1 (.t 0)),.op 48 (.bin .eql (.t 0) (.k (.c (.int .i64 0)))),.op 49 (.move (.t 0)),.orN 53 0 [.op 50 (.move (.t 4)),.op 51 (.len 1 (.t 0)),.op 52 (.bin .gtr (.t 0) (.k (.c (.int .i64 5))))] (.t 0),.op 54 (.move (.t 0)),.orN 58 0 [.op 55 (.move (.t 7)),.op 56 (.call false (.k (.c (.func 15 [] []))) [(.t 0),(.k (.c (.int .i64 5)))]),.op 57 (.not (.t 0))] (.t 0),.op 59 (.move (.t 0)),.orN 63 0 [.op 60 (.move (.t 9)),.op 61 (.call false (.k (.c (.func 16 [] []))) [(.t 0)]),.op 62 (.bin .neq (.t 0) (.k (.c (.int .i64 0))))] (.t 0)] [9,0]) (.cond (.t 1) (.seq (.region [.op 64 (.call false (.k (.c (.func 10 [] []))) []),.op 2 (.move (.t 0))] [0]) .ret) (.pre [0] .skip)))
@[simp] def JP:SCode:=(.region [.op 66 (.move (.t 0)),.op 67 (.call false (.k (.c (.func 17 [] []))) [(.t 0)]),.op 65 (.move (.t 0)),.op 68 (.extract (.t 0) 0),.op 69 (.extract (.t 1) 1),.op 5 (.move (.t 1)),.op 6 (.move (.t 1))] [7,1,0])
@[simp] def KA:SCode:=(.region [.op 71 (.move (.t 0)),.op 72 (.call false (.k (.c (.func 18 [] []))) [(.t 0)]),.op 70 (.move (.t 0)),.op 73 (.extract (.t 0) 0),.op 74 (.extract (.t 1) 1),.op 7 (.move (.t 1)),.op 8 (.move (.t 1))] [7,8,9,1,0])
@[simp] def JV:SCode:=(.seq (.region [.op 75 (.move (.t 2)),.op 76 (.move (.t 5)),.op 77 (.bin .add (.t 1) (.t 0)),.op 78 (.bin .neq (.t 0) (.k (.c (.int .i64 0)))),.op 79 (.move (.t 0)),.orN 85 0 [.op 80 (.move (.t 5)),.op 81 (.len 1 (.t 0)),.op 82 (.move (.t 8)),.op 83 (.call false (.k (.c (.func 19 [] []))) [(.t 1),(.t 0)]),.op 84 (.bin .neq (.t 0) (.k (.c (.int .i64 0))))] (.t 0)] [6,7,9,0]) (.cond (.t 3) (.seq (.region [.op 2 (.move (.k (.c (.bool false))))] [0]) .ret) (.pre [0,1,2] .skip)))
@[simp] def Ij:SCode:=(.region [.op 86 (.move (.t 0)),.op 87 (.len 1 (.t 0)),.op 9 (.move (.t 0))] [3,4,5,0])
@[simp] def KY:SCode:=(.region [.op 88 (.move (.t 0)),.op 89 (.len 1 (.t 0)),.op 90 (.call false (.k (.c (.func 20 [] []))) [(.t 0)]),.op 10 (.move (.t 0))] [4,5,6,7,0])
@[simp] def LI:SCode:=(.seq (.region [.op 91 (.move (.t 4)),.op 92 (.len 1 (.t 0)),.op 93 (.move (.k (.c (.int .i64 0))))] [3,4,5,6,7,1,0]) (.block 2 [some 0,some 5,some 7,some 9] Ha))
@[simp] def Iz:SCode:=(.region [.op 112 (.move (.t 0)),.op 113 (.move (.t 2)),.op 114 (.call false (.k (.c (.func 21 [] []))) [(.t 1),(.t 0)]),.op 111 (.move (.t 0)),.op 115 (.extract (.t 0) 0),.op 116 (.extract (.t 1) 1),.op 14 (.move (.t 1)),.op 15 (.move (.t 1))] [8,9,10,11,1,0])
@[simp] def K7:SCode:=(.region [.op 118 (.move (.t 1)),.op 119 (.call false (.k (.c (.func 22 [] []))) [(.t 0)]),.op 117 (.move (.t 0)),.op 120 (.extract (.t 0) 0),.op 121 (.extract (.t 1) 1),.op 122 (.extract (.t 2) 2),.op 16 (.move (.t 2)),.op 17 (.move (.t 2)),.op 18 (.move (.t 2))] [9,11,12,13,14,2,1,0])
@[simp] def Il:SCode:=(.seq (.region [.op 123 (.move (.t 4)),.op 124 (.move (.t 8)),.op 125 (.bin .add (.t 1) (.t 0)),.op 126 (.bin .neq (.t 0) (.k (.c (.int .i64 0)))),.op 127 (.move (.t 0)),.orN 131 0 [.op 128 (.move (.t 8)),.op 129 (.move (.t 8)),.op 130 (.bin .neq (.t 1) (.t 0))] (.t 0),.op 132 (.move (.t 0)),.orN 136 0 [.op 133 (.move (.t 8)),.op 134 (.move (.t 10)),.op 135 (.bin .neq (.t 1) (.t 0))] (.t 0),.op 137 (.move (.t 0)),.orN 143 0 [.op 138 (.move (.t 9)),.op 139 (.len 1 (.t 0)),.op 140 (.move (.t 16)),.op 141 (.call false (.k (.c (.func 19 [] []))) [(.t 1),(.t 0)]),.op 142 (.bin .neq (.t 0) (.k (.c (.int .i64 0))))] (.t 0),.op 144 (.move (.t 0)),.orN 150 0 [.op 145 (.move (.t 11)),.op 146 (.len 1 (.t 0)),.op 147 (.move (.t 19)),.op 148 (.call false (.k (.c (.func 19 [] []))) [(.t 1),(.t 0)]),.op 149 (.bin .neq (.t 0) (.k (.c (.int .i64 0))))] (.t 0)] [12,17,18,0]) (.cond (.t 3) (.seq (.region [.op 2 (.move (.k (.c (.bool false))))] [0]) .ret) (.pre [0,1,2] .skip)))
def zf:SCode:=.seq Il (.seq (.seq (.region [.op 151 (.move (.t 1)),.op 152 (.move (.t 3)),.op 153 (.buildSlice 0 none 2 [.nil] [(0,(.t 1)),(1,(.t 0))]),.op 154 (.len 1 (.t 0)),.op 155 (.move (.k (.c (.int .i64 0))))] [5,2,1,0]) (.block 4 [] ko)) (.seq (.region [.op 250 (.call false (.k (.c (.func 10 [] []))) []),.op 2 (.move (.t 0))] [0]) .ret))
instance:IsSeq zf Il (.seq (.seq (.region [.op 151 (.move (.t 1)),.op 152 (.move (.t 3)),.op 153 (.buildSlice 0 none 2 [.nil] [(0,(.t 1)),(1,(.t 0))]),.op 154 (.len 1 (.t 0)),.op 155 (.move (.k (.c (.int .i64 0))))] [5,2,1,0]) (.block 4 [] ko)) (.seq (.region [.op 250 (.call false (.k (.c (.func 10 [] []))) []),.op 2 (.move (.t 0))] [0]) .ret)):=⟨rfl⟩
def yN:SCode:=.seq K7 zf
instance:IsSeq yN K7 zf:=⟨rfl⟩
def Bk:SCode:=.seq Iz yN
instance:IsSeq Bk Iz yN:=⟨rfl⟩
def xG:SCode:=.seq LI Bk
instance:IsSeq xG LI Bk:=⟨rfl⟩
def yd:SCode:=.seq KY xG
instance:IsSeq yd KY xG:=⟨rfl⟩
def xX:SCode:=.seq Ij yd
instance:IsSeq xX Ij yd:=⟨rfl⟩
def xJ:SCode:=.seq JV xX
instance:IsSeq xJ JV xX:=⟨rfl⟩
def yc:SCode:=.seq KA xJ
instance:IsSeq yc KA xJ:=⟨rfl⟩
def wc:SCode:=.seq JP yc
instance:IsSeq wc JP yc:=⟨rfl⟩
def AL:SCode:=.seq Lm wc
instance:IsSeq AL Lm wc:=⟨rfl⟩
def zJ:SCode:=.seq Js AL
instance:IsSeq zJ Js AL:=⟨rfl⟩
def HI:SCode:=.seq (.region [.op 3 (.mkNil (some 3))] [1,0]) zJ
instance:IsSeq HI (.region [.op 3 (.mkNil (some 3))] [1,0]) zJ:=⟨rfl⟩
def c4:SCode:=(.seq (.region [.op 2 (.move (.k (.c (.bool false))))] [1]) HI)
def F4:SFunc:=.code .pure 251 1 [some 2] [.tmp 0] c4
@[simp] def Ta:SCode:=(.seq (.draw 0 [.op 9 (.fieldAddr 0 (.t 0)),.op 10 (.load none (.t 0)) none .var,.op 11 (.fieldAddr 1 (.t 2)),.op 12 (.load none (.t 0)) none .var,.op 13 (.buildSlice 1 none 2 [(.c (.int .i64 0))] [(0,(.t 2)),(1,(.t 0))]),.op 14 (.call true (.k (.c (.func 58 [] []))) [(.t 0)]),.op 15 (.fieldAddr 0 (.t 7)),.op 16 (.load none (.t 0)) none .var,.op 17 (.fieldAddr 1 (.t 9)),.op 18 (.load none (.t 0)) none .var,.op 19 (.buildSlice 1 none 2 [(.c (.int .i64 0))] [(0,(.t 2)),(1,(.t 0))]),.op 20 (.call true (.k (.c (.func 58 [] []))) [(.t 0)]),.op 21 (.buildSlice 1 none 2 [(.c (.int .i64 0))] [(0,(.t 6)),(1,(.t 0))]),.op 22 (.call true (.k (.c (.func 57 [] []))) [(.t 0)]),.op 6 (.move (.t 0))] [15,16,0]) (.seq (.region [.op 23 (.move (.t 2)),.op 24 (.bin .neq (.t 0) (.k (.c (.int .i64 0))))] [2,3,4,0]) (.cond (.t 3) (.seq (.region [.op 25 (.move (.t 2)),.op 4 (.move (.k (.c (.int .i64 0)))),.op 5 (.move (.t 1))] [1,0]) .ret) (.pre [0,1] .skip))))
@[simp] def V5:SCode:=(.draw 0 [.op 26 (.fieldAddr 0 (.t 0)),.op 27 (.load none (.t 0)) none .var,.op 28 (.bin .lss (.t 0) (.k (.c (.int .i64 100)))),.op 29 (.fieldAddr 0 (.t 4)),.op 30 (.load none (.t 0)) none .var,.op 31 (.bin .lss (.t 0) (.k (.c (.int .i64 100)))),.op 7 (.move (.t 3)),.op 8 (.move (.t 1))] [8,9,1,0])
@[simp] def Uv:SCode:=(.region [.op 33 (.move (.t 2)),.op 34 (.move (.t 0)),.andN 36 0 [.op 35 (.move (.t 5))] (.t 0),.op 32 (.move (.t 0))] [4,5,6,7,0])
@[simp] def PM:SCode:=(.region [.op 42 (.fieldAddr 1 (.t 0)),.op 43 (.load none (.t 0)),.op 44 (.bin .eql (.t 0) (.k (.c (.int .i64 0)))),.op 45 (.move (.t 0)),.andN 49 0 [.op 46 (.fieldAddr 1 (.t 5)),.op 47 (.load none (.t 0)),.op 48 (.bin .eql (.t 0) (.k (.c (.int .i64 0))))] (.t 0),.op 41 (.move (.t 0))] [6,7,0])
@[simp] def Pi:SCode:=(.region [.op 51 (.fieldAddr 1 (.t 0)),.op 52 (.load none (.t 0)),.op 53 (.bin .eql (.t 0) (.k (.c (.int .i64 0)))),.op 50 (.move (.t 0))] [4,5,0])
def Rd:SCode:=.cond (.t 2) (.seq (.region [.op 4 (.move (.k (.c (.int .i64 2)))),.op 5 (.move (.k (.c (.int .i64 0))))] [1,0]) .ret) (.seq (.region [.op 55 (.fieldAddr 1 (.t 1)),.op 56 (.load none (.t 0)),.op 57 (.bin .eql (.t 0) (.k (.c (.int .i64 0)))),.op 54 (.move (.t 0))] [4,5,0]) (.cond (.t 2) (.seq (.region [.op 4 (.move (.k (.c (.int .i64 1)))),.op 5 (.move (.k (.c (.int .i64 0))))] [1,0]) .ret) (.pre [0,1] .skip)))
def Pn:SCode:=.seq Pi Rd
def Qg:SCode:=.cond (.t 2) (.seq (.region [.op 4 (.move (.k (.c (.int .i64 0)))),.op 5 (.move (.k (.c (.int .i64 0))))] [1,0]) .ret) Pn
def Pz:SCode:=.seq PM Qg
def RS:SCode:=.cond (.t 2) (.seq (.region [.op 4 (.move (.k (.c (.int .i64 1)))),.op 5 (.move (.k (.c (.int .i64 0))))] [1,0]) .ret) Pz
def Rl:SCode:=.seq (.region [.op 40 (.move (.t 2)),.op 39 (.move (.t 0))] [2,3,0]) RS
def RL:SCode:=.cond (.t 3) (.seq (.region [.op 4 (.move (.k (.c (.int .i64 2)))),.op 5 (.move (.k (.c (.int .i64 0))))] [1,0]) .ret) Rl
def Ty:SCode:=.seq (.region [.op 38 (.move (.t 2)),.op 37 (.move (.t 0))] [2,3,5,0]) RL
def To:SCode:=.cond (.t 4) (.seq (.region [.op 4 (.move (.k (.c (.int .i64 3)))),.op 5 (.move (.k (.c (.int .i64 0))))] [1,0]) .ret) Ty
def VB:SCode:=.seq Uv To
@[simp] def Pj:SCode:=(.region [.op 71 (.bin .eql (.t 0) (.k (.c (.int .i64 (-1))))),.op 70 (.move (.t 0))] [2,0])
def RT:SCode:=.cond (.t 1) (.seq (.region [.op 4 (.move (.k (.c (.int .i64 1)))),.op 5 (.move (.k (.c (.int .i64 0))))] [1,0]) .ret) (.seq (.region [.op 73 (.bin .eql (.t 0) (.k (.c (.int .i64 1)))),.op 72 (.move (.t 0))] [0]) (.cond (.t 0) (.seq (.region [.op 4 (.move (.k (.c (.int .i64 2)))),.op 5 (.move (.k (.c (.int .i64 0))))] [1,0]) .ret) (.pre [] .skip)))
def Dr:SCode:=.seq Pj RT
def E6:SCode:=.block 1 [] Dr
instance:IsBlock E6 1 [] Dr:=⟨rfl⟩
@[simp] def Ps:SCode:=(.seq (.draw 1 [.op 58 (.fieldAddr 1 (.t 0)),.op 59 (.load none (.t 0)) none .var,.op 60 (.fieldAddr 1 (.t 3)),.op 61 (.load none (.t 0)) none .var,.op 62 (.call false (.k (.c (.func 60 [] []))) [(.t 2),(.t 0)]),.op 63 (.fieldAddr 0 (.t 5)),.op 64 (.load none (.t 0)) none .var,.op 65 (.fieldAddr 0 (.t 8)),.op 66 (.load none (.t 0)) none .var,.op 67 (.call false (.k (.c (.func 60 [] []))) [(.t 2),(.t 0)]),.op 68 (.buildSlice 2 none 2 [(.c (.int .i64 0))] [(0,(.t 5)),(1,(.t 0))]) (some 0),.op 69 (.call false (.k (.c (.func 59 [] []))) [(.t 0)])] [0]) E6)
def QN:SCode:=.seq Ps (.seq (.region [.op 4 (.move (.k (.c (.int .i64 0)))),.op 5 (.move (.k (.c (.int .i64 0))))] [1,0]) .ret)
def So:SCode:=.seq (.block 0 [some 2,some 3] VB) QN
def Tn:SCode:=.seq V5 So
def Vn:SCode:=.seq Ta Tn
def c11:SCode:=(.seq (.region [.op 2 (.box (.t 0)),.op 3 (.box (.t 2)),.op 4 (.move (.k (.c (.int .i64 0)))),.op 5 (.move (.k (.c (.int .i64 0))))] [3,2]) Vn)
def F11:SFunc:=.code .pure 74 2 [some 4,some 5] [.tmp 0,.tmp 1] c11
@[simp] def Vt:SCode:=(.region [.op 27 (.move (.t 4)),.op 28 (.idxSlice 2 (.t 3) (.t 5)),.op 29 (.load (some 2) (.t 0)),.op 9 (.new [(.c (.int .i64 0)),(.c (.int .i64 0))]),.op 8 (.move (.t 3)),.eff (.store 2 (.t 1) (.t 2))] [5,6,0,1,7,8,9])
@[simp] def WI:SCode:=(.region [.op 30 (.move (.t 2)),.op 31 (.fieldAddr 1 (.t 4)),.op 32 (.load none (.t 0)),.op 33 (.build [(.c (.int .i64 0)),(.c (.str [])),(.c (.int .i64 0)),(.c (.int .i64 0))] [(0,1,(.t 2)),(1,1,(.k (.c (.str [102,105,110,105,115,104])))),(2,1,(.t 0)),(3,1,(.k (.c (.int .i64 86399999))))]),.op 10 (.new [(.c (.int .i64 0)),(.c (.str [])),(.c (.int .i64 0)),(.c (.int .i64 0))]),.eff (.store 4 (.t 0) (.t 1))] [5,6,7,8,0,9,10,11])
@[simp] def V8:SCode:=(.seq (.region [.op 34 (.fieldAddr 1 (.t 3)),.op 35 (.load none (.t 0)),.op 36 (.bin .eql (.t 0) (.k (.c (.int .i64 0))))] [3,4,5,6,7,8,9,10,0]) (.cond (.t 8) (.region [.op 37 (.move (.t 2)),.op 38 (.build [(.c (.int .i64 0)),(.c (.str [])),(.c (.int .i64 0)),(.c (.int .i64 0))] [(0,1,(.t 0)),(1,1,(.k (.c (.str [102,97,108,108])))),(3,1,(.k (.c (.int .i64 86399999))))]),.eff (.store 4 (.t 6) (.t 0))] [2,3,4,5,6,7,8,9]) (.pre [0,1,2,3,4,5,6,7] .skip)))
@[simp] def Pl:SCode:=(.seq (.region [.op 39 (.fieldAddr 0 (.t 3)),.op 40 (.load none (.t 0)),.op 41 (.bin .lss (.t 0) (.k (.c (.int .i64 100))))] [3,4,5,7,8,9,10,0]) (.cond (.t 7) (.region [.op 42 (.move (.t 2)),.op 43 (.build [(.c (.int .i64 0)),(.c (.str [])),(.c (.int .i64 0)),(.c (.int .i64 0))] [(0,1,(.t 0)),(1,1,(.k (.c (.str [102,97,108,115,101])))),(3,1,(.k (.c (.int .i64 86399999))))]),.eff (.store 4 (.t 5) (.t 0))] [2,3,5,6,7,8]) (.pre [0,1,3,4,5,6] .skip)))
def UQ:SCode:=.seq Pl (.region [.op 44 (.move (.t 1)),.op 45 (.load (some 4) (.t 3)),.op 46 (.buildSlice 2 (some 4) 1 [(.c (.int .i64 0)),(.c (.str [])),(.c (.int .i64 0)),(.c (.int .i64 0))] [(0,(.t 0))]),.op 47 (.append (some 4) 40 (.t 2) (.t 0)),.op 7 (.move (.t 0))] [5,0,8,9,10])
def Vy:SCode:=.seq V8 UQ
def Tp:SCode:=.seq WI Vy
def TY:SCode:=.seq Vt Tp
def V4:SCode:=.seq (.block 1 [some 6,some 7,some 23,some 24,some 25] TY) (.region [.op 48 (.bin .add (.t 4) (.k (.c (.int .i64 1)))),.op 25 (.move (.t 0))] [2,3,4,5,0])
def Sz:SCode:=.seq (.cond (.t 5) (.pre [0,1,2,3,4] .skip) (.pre [0,1] (.exit 0))) V4
def RF:SCode:=(.seq (.region [.op 26 (.bin .lss (.t 4) (.t 3))] [1,2,3,4,5,0]) Sz)
def Wn:SCode:=.loop true RF
@[simp] def PQ:SCode:=(.region [.op 16 (.buildSlice 0 none 2 [(.c (.str []))] [(0,(.k (.c (.str [97,110,110])))),(1,(.k (.c (.str [98,101,110]))))]),.op 17 (.build [(.c (.str [])),.nil,(.c (.int .i64 0)),(.c (.int .i64 0))] [(0,1,(.k (.c (.str [115,112,101,101,100])))),(1,1,(.t 0)),(2,1,(.k (.c (.int .i64 1)))),(3,1,(.k (.c (.int .i64 1))))]),.op 6 (.new [(.c (.str [])),.nil,(.c (.int .i64 0)),(.c (.int .i64 0))]),.eff (.store 4 (.t 0) (.t 1))] [3,4,0])
@[simp] def RY:SCode:=(.region [.op 18 (.build [(.c (.int .i64 0)),(.c (.str [])),(.c (.int .i64 0)),(.c (.int .i64 0))] [(0,1,(.k (.c (.int .i64 0)))),(1,1,(.k (.c (.str [115,116,97,114,116])))),(2,1,(.k (.c (.int .i64 1))))]),.op 19 (.build [(.c (.int .i64 0)),(.c (.str [])),(.c (.int .i64 0)),(.c (.int .i64 0))] [(0,1,(.k (.c (.int .i64 1)))),(1,1,(.k (.c (.str [115,116,97,114,116])))),(2,1,(.k (.c (.int .i64 2))))]),.op 20 (.buildSlice 3 (some 4) 2 [(.c (.int .i64 0)),(.c (.str [])),(.c (.int .i64 0)),(.c (.int .i64 0))] [(0,(.t 1)),(1,(.t 0))]),.op 7 (.move (.t 0))] [4,5,6,0])
@[simp] def Q1:SCode:=(.seq (.region [.op 21 (.load (some 2) (.t 0)),.op 22 (.load (some 2) (.t 2)),.op 23 (.buildSlice 0 (some 2) 2 [(.c (.int .i64 0)),(.c (.int .i64 0))] [(0,(.t 1)),(1,(.t 0))]),.op 24 (.len 1 (.t 0)),.op 25 (.move (.k (.c (.int .i64 0))))] [7,8,2,1,0]) (.block 0 [some 6,some 7] Wn))
@[simp] def Pw:SCode:=(.region [.op 50 (.load (some 4) (.t 0)),.op 51 (.move (.t 2)),.op 52 (.call false (.k (.c (.func 26 [] []))) [(.t 1),(.t 0)]),.op 49 (.move (.t 0)),.op 53 (.extract (.t 0) 0),.op 54 (.extract (.t 1) 1),.op 55 (.extract (.t 2) 2),.op 11 (.new [(.c (.int .i64 0)),.nil]),.eff (.store 2 (.t 0) (.t 3)),.op 12 (.move (.t 2)),.op 13 (.move (.t 2))] [10,2,1,0])
@[simp] def QF:SCode:=(.region [.op 57 (.load (some 4) (.t 0)),.op 58 (.load (some 2) (.t 2)),.op 59 (.call false (.k (.c (.func 52 [] []))) [(.t 1),(.t 0)]),.op 56 (.move (.t 0)),.op 60 (.extract (.t 0) 0),.op 61 (.extract (.t 1) 1),.op 14 (.move (.t 1)),.op 15 (.move (.t 1))] [10,11,1,0])
@[simp] def PI:SCode:=(.region [.op 62 (.move (.t 2)),.op 63 (.move (.t 2)),.op 64 (.move (.t 5)),.op 65 (.bin .add (.t 1) (.t 0)),.op 66 (.bin .eql (.t 0) (.k (.c (.int .i64 0)))),.op 67 (.move (.t 0)),.andN 71 0 [.op 68 (.move (.t 6)),.op 69 (.len 1 (.t 0)),.op 70 (.bin .eql (.t 0) (.k (.c (.int .i64 0))))] (.t 0),.op 72 (.move (.t 0)),.andN 76 0 [.op 73 (.move (.t 10)),.op 74 (.len 1 (.t 0)),.op 75 (.bin .eql (.t 0) (.k (.c (.int .i64 2))))] (.t 0),.op 4 (.move (.t 8)),.op 5 (.move (.t 1))] [1,0])
def Pt:SCode:=.seq PI .ret
def Qt:SCode:=.seq QF Pt
def PS:SCode:=.seq Pw Qt
def Qp:SCode:=.seq Q1 PS
def Rr:SCode:=.seq RY Qp
def QJ:SCode:=.seq PQ Rr
def c12:SCode:=(.seq (.region [.op 2 (.box (.t 0)),.op 3 (.box (.t 2)),.op 4 (.mkNil (some 3)),.op 5 (.move (.k (.c (.bool false))))] [3,2]) QJ)
def F12:SFunc:=.code .pure 77 2 [some 4,some 5] [.tmp 0,.tmp 1] c12
@[simp] def SX:SCode:=(.seq (.region [.op 7 (.move (.t 0)),.op 8 (.call false (.k (.c (.func 63 [] []))) [(.t 0)]),.op 9 (.move (.t 3)),.op 10 (.call false (.k (.c (.func 64 [] []))) [(.t 0)]),.op 11 (.buildSlice 2 none 2 [(.c (.int .i64 0))] [(0,(.t 2)),(1,(.t 0))]),.op 12 (.call false (.k (.c (.func 57 [] []))) [(.t 0)]),.op 6 (.move (.t 0))] [7,8,0]) (.seq (.region [.op 13 (.move (.t 2)),.op 14 (.bin .neq (.t 0) (.k (.c (.int .i64 0))))] [2,3,4,0]) (.cond (.t 3) (.seq (.region [.op 15 (.move (.t 2)),.op 4 (.mkNil none),.op 5 (.move (.t 1))] [1,0]) .ret) (.pre [0,1] .skip))))
def Wf:SCode:=.seq SX (.seq (.region [.op 16 (.move (.t 0)),.op 17 (.move (.t 2)),.op 18 (.call false (.k (.c (.func 65 [] []))) [(.t 1),(.t 0)]),.op 4 (.move (.t 0)),.op 5 (.move (.k (.c (.int .i64 0))))] [1,0]) .ret)
def c14:SCode:=(.seq (.region [.op 4 (.mkNil none),.op 5 (.move (.k (.c (.int .i64 0))))] [2,3]) Wf)
def F14:SFunc:=.code .pure 19 2 [some 4,some 5] [.tmp 0,.tmp 1] c14
@[simp] def I3:SCode:=(.region [.op 26 (.move (.t 0)),.op 27 (.move (.t 2)),.op 28 (.idxSlice 3 (.t 1) (.t 0)),.op 29 (.fieldAddr 0 (.t 0)),.op 30 (.load none (.t 0)),.op 31 (.len 0 (.t 0)),.op 32 (.bin .gtr (.t 0) (.k (.c (.int .i64 40)))),.op 33 (.move (.t 0)),.orN 41 0 [.op 34 (.move (.t 8)),.op 35 (.move (.t 10)),.op 36 (.idxSlice 3 (.t 1) (.t 0)),.op 37 (.fieldAddr 1 (.t 0)),.op 38 (.load none (.t 0)),.op 39 (.len 0 (.t 0)),.op 40 (.bin .gtr (.t 0) (.k (.c (.int .i64 40))))] (.t 0)] [9,10,0])
def Bu:SCode:=.seq I3 (.cond (.t 2) (.seq (.region [.op 4 (.move (.k (.c (.bool false))))] [0]) .ret) (.pre [0,1] .skip))
instance:IsSeq Bu I3 (.cond (.t 2) (.seq (.region [.op 4 (.move (.k (.c (.bool false))))] [0]) .ret) (.pre [0,1] .skip)):=⟨rfl⟩
def JW:SCode:=.seq (.block 1 [some 0,some 5] Bu) (.region [.op 24 (.move (.t 1)),.op 25 (.bin .add (.t 0) (.k (.c (.int .i64 1)))),.op 5 (.move (.t 0))] [3,0])
instance:IsSeq JW (.block 1 [some 0,some 5] Bu) (.region [.op 24 (.move (.t 1)),.op 25 (.bin .add (.t 0) (.k (.c (.int .i64 1)))),.op 5 (.move (.t 0))] [3,0]):=⟨rfl⟩
def lO:SCode:=(.seq (.seq (.region [.op 20 (.move (.t 1)),.op 21 (.move (.t 1)),.op 22 (.len 1 (.t 0)),.op 23 (.bin .lss (.t 2) (.t 0))] [4,5,0]) (.cond (.t 2) (.pre [0,1] .skip) (.pre [] (.exit 0)))) JW)
def qT:SCode:=.loop true lO
@[simp] def Jf:SCode:=(.seq (.region [.op 6 (.move (.t 0)),.op 7 (.len 1 (.t 0)),.op 8 (.move (.t 3)),.op 9 (.bin .gtr (.t 1) (.t 0)),.op 10 (.move (.t 0)),.andN 14 0 [.op 11 (.move (.t 5)),.op 12 (.len 1 (.t 0)),.op 13 (.bin .leq (.t 0) (.k (.c (.int .i64 160))))] (.t 0),.op 15 (.move (.t 0)),.orN 19 0 [.op 16 (.move (.t 7)),.op 17 (.len 1 (.t 0)),.op 18 (.bin .gtr (.t 0) (.k (.c (.int .i64 162))))] (.t 0)] [8,0]) (.cond (.t 1) (.seq (.region [.op 4 (.move (.k (.c (.bool false))))] [0]) .ret) (.pre [0] .skip)))
def HQ:SCode:=.seq Jf (.seq (.seq (.region [.op 5 (.move (.k (.c (.int .i64 0))))] [1,0]) (.block 0 [] qT)) (.seq (.region [.op 4 (.move (.k (.c (.bool true))))] [0]) .ret))
instance:IsSeq HQ Jf (.seq (.seq (.region [.op 5 (.move (.k (.c (.int .i64 0))))] [1,0]) (.block 0 [] qT)) (.seq (.region [.op 4 (.move (.k (.c (.bool true))))] [0]) .ret)):=⟨rfl⟩
def c15:SCode:=(.seq (.region [.op 4 (.move (.k (.c (.bool false))))] [1,2]) HQ)
def F15:SFunc:=.code .pure 42 2 [some 4] [.tmp 0] c15
@[simp] def KW:SCode:=(.draw 0 [.op 26 (.move (.t 0)),.op 27 (.move (.t 3)),.op 28 (.idxSlice 3 (.t 1) (.t 0)),.op 29 (.fieldAddr 0 (.t 0)),.op 30 (.load none (.t 0)) none .old,.op 31 (.move (.t 5)),.op 32 (.move (.t 7)),.op 33 (.idxSlice 3 (.t 1) (.t 0)),.op 34 (.fieldAddr 0 (.t 0)),.op 35 (.load none (.t 0)) none .old,.op 36 (.bin .eql (.t 5) (.t 0))] [11,12,13,0])
def zo:SCode:=.seq KW (.cond (.t 3) (.seq (.region [.op 2 (.move (.k (.c (.int .i64 9))))] [0]) .ret) (.pre [0,1,2] .skip))
instance:IsSeq zo KW (.cond (.t 3) (.seq (.region [.op 2 (.move (.k (.c (.int .i64 9))))] [0]) .ret) (.pre [0,1,2] .skip)):=⟨rfl⟩
def J8:SCode:=.seq (.block 3 [some 0,some 3,some 4] zo) (.region [.op 24 (.move (.t 2)),.op 25 (.bin .add (.t 0) (.k (.c (.int .i64 1)))),.op 4 (.move (.t 0))] [3,4,0])
instance:IsSeq J8 (.block 3 [some 0,some 3,some 4] zo) (.region [.op 24 (.move (.t 2)),.op 25 (.bin .add (.t 0) (.k (.c (.int .i64 1)))),.op 4 (.move (.t 0))] [3,4,0]):=⟨rfl⟩
def jq:SCode:=(.seq (.seq (.region [.op 21 (.move (.t 2)),.op 22 (.move (.t 2)),.op 23 (.bin .lss (.t 1) (.t 0))] [3,4,5,0]) (.cond (.t 3) (.pre [0,1,2] .skip) (.pre [0,1] (.exit 2)))) J8)
def zF:SCode:=.loop true jq
@[simp] def Kl:SCode:=(.seq (.region [.op 14 (.move (.t 0)),.op 15 (.move (.t 2)),.op 16 (.idxSlice 3 (.t 1) (.t 0)),.op 17 (.fieldAddr 0 (.t 0)),.op 18 (.load none (.t 0)),.op 19 (.call false (.k (.c (.func 61 [] []))) [(.t 0)]),.op 20 (.not (.t 0))] [7,8,0]) (.cond (.t 2) (.seq (.region [.op 2 (.move (.k (.c (.int .i64 8))))] [0]) .ret) (.pre [0,1] .skip)))
@[simp] def JO:SCode:=(.seq (.region [.op 4 (.move (.k (.c (.int .i64 0))))] [1,2,0]) (.block 2 [some 0,some 3] zF))
@[simp] def Ef:SCode:=(.seq (.region [.op 37 (.move (.t 0)),.op 38 (.move (.t 2)),.op 39 (.idxSlice 3 (.t 1) (.t 0)),.op 40 (.fieldAddr 1 (.t 0)),.op 41 (.load none (.t 0)),.op 42 (.call false (.k (.c (.func 61 [] []))) [(.t 0)]),.op 43 (.not (.t 0))] [7,8,0]) (.cond (.t 2) (.seq (.region [.op 2 (.move (.k (.c (.int .i64 8))))] [0]) .ret) (.pre [0,1] .skip)))
@[simp] def CQ:SCode:=(.region [.op 44 (.move (.t 0)),.op 45 (.move (.t 2)),.op 46 (.idxSlice 3 (.t 1) (.t 0)),.op 47 (.fieldAddr 2 (.t 0)),.op 48 (.load none (.t 0)),.op 49 (.call false (.k (.c (.func 56 [] []))) [(.t 0),(.k (.c (.int .i64 0))),(.k (.c (.int .i64 999999999)))]),.op 50 (.bin .neq (.t 0) (.k (.c (.int .i64 0))))] [7,8,0])
def ud:SCode:=.seq CQ (.cond (.t 2) (.seq (.region [.op 2 (.move (.k (.c (.int .i64 3))))] [0]) .ret) (.pre [0,1] .skip))
instance:IsSeq ud CQ (.cond (.t 2) (.seq (.region [.op 2 (.move (.k (.c (.int .i64 3))))] [0]) .ret) (.pre [0,1] .skip)):=⟨rfl⟩
def yu:SCode:=.seq Ef ud
instance:IsSeq yu Ef ud:=⟨rfl⟩
def AM:SCode:=.seq JO yu
instance:IsSeq AM JO yu:=⟨rfl⟩
def vR:SCode:=.seq Kl AM
instance:IsSeq vR Kl AM:=⟨rfl⟩
def LJ:SCode:=.seq (.block 1 [some 0,some 3] vR) (.region [.op 12 (.move (.t 1)),.op 13 (.bin .add (.t 0) (.k (.c (.int .i64 1)))),.op 3 (.move (.t 0))] [3,0])
instance:IsSeq LJ (.block 1 [some 0,some 3] vR) (.region [.op 12 (.move (.t 1)),.op 13 (.bin .add (.t 0) (.k (.c (.int .i64 1)))),.op 3 (.move (.t 0))] [3,0]):=⟨rfl⟩
def fA:SCode:=(.seq (.seq (.region [.op 8 (.move (.t 1)),.op 9 (.move (.t 1)),.op 10 (.len 1 (.t 0)),.op 11 (.bin .lss (.t 2) (.t 0))] [4,5,0]) (.cond (.t 2) (.pre [0,1] .skip) (.pre [] (.exit 0)))) LJ)
def qK:SCode:=.loop true fA
@[simp] def Fl:SCode:=(.seq (.region [.op 5 (.move (.t 0)),.op 6 (.len 1 (.t 0)),.op 7 (.bin .gtr (.t 0) (.k (.c (.int .i64 160))))] [3,0]) (.cond (.t 1) (.seq (.region [.op 2 (.move (.k (.c (.int .i64 5))))] [0]) .ret) (.pre [0] .skip)))
def DI:SCode:=.seq Fl (.seq (.seq (.region [.op 3 (.move (.k (.c (.int .i64 0))))] [1,0]) (.block 0 [] qK)) (.seq (.region [.op 2 (.move (.k (.c (.int .i64 0))))] [0]) .ret))
instance:IsSeq DI Fl (.seq (.seq (.region [.op 3 (.move (.k (.c (.int .i64 0))))] [1,0]) (.block 0 [] qK)) (.seq (.region [.op 2 (.move (.k (.c (.int .i64 0))))] [0]) .ret)):=⟨rfl⟩
def c16:SCode:=(.seq (.region [.op 2 (.move (.k (.c (.int .i64 0))))] [1]) DI)
def F16:SFunc:=.code .pure 51 1 [some 2] [.tmp 0] c16
@[simp] def Kh:SCode:=(.block 1 [some 1,some 5,some 6,some 7,some 25,some 26] (.seq (.region [.op 28 (.move (.t 5)),.op 8 (.move (.t 0))] [2,3,4,5,0,6,7]) (.region [.op 29 (.move (.t 3)),.op 30 (.move (.t 5)),.op 31 (.buildSlice 2 none 1 [(.c (.int .i64 0))] [(0,(.t 0))]),.op 32 (.append none 8 (.t 2) (.t 0)),.op 7 (.move (.t 0))] [5,6,7,0,10,11])))
def AU:SCode:=.seq Kh (.region [.op 33 (.bin .add (.t 5) (.k (.c (.int .i64 1)))),.op 26 (.move (.t 0))] [2,3,4,5,6,0])
instance:IsSeq AU Kh (.region [.op 33 (.bin .add (.t 5) (.k (.c (.int .i64 1)))),.op 26 (.move (.t 0))] [2,3,4,5,6,0]):=⟨rfl⟩
def Hy:SCode:=.seq (.cond (.t 6) (.pre [0,1,2,3,4,5] .skip) (.pre [0,1,2,3] (.exit 0))) AU
instance:IsSeq Hy (.cond (.t 6) (.pre [0,1,2,3,4,5] .skip) (.pre [0,1,2,3] (.exit 0))) AU:=⟨rfl⟩
def lu:SCode:=(.seq (.region [.op 27 (.bin .lss (.t 5) (.t 4))] [1,2,3,4,5,6,0]) Hy)
def xy:SCode:=.loop true lu
@[simp] def IG:SCode:=(.region [.op 56 (.move (.t 2)),.op 57 (.move (.t 2)),.op 58 (.move (.t 6)),.op 59 (.idxSlice 1 (.t 1) (.t 0)),.op 60 (.load none (.t 0)),.op 61 (.buildSlice 2 none 1 [(.c (.int .i64 0))] [(0,(.t 0))]),.op 62 (.append none 8 (.t 5) (.t 0)),.op 9 (.move (.t 0))] [8,9,0,11,12,13,14])
@[simp] def Dp:SCode:=(.region [.op 63 (.move (.t 3)),.op 64 (.move (.t 5)),.op 65 (.bin .add (.t 1) (.t 0)),.op 66 (.load none (.t 3)),.op 67 (.len 1 (.t 0)),.op 68 (.bin .lss (.t 2) (.t 0))] [6,7,8,9,10,11,12,0])
@[simp] def Ev:SCode:=(.region [.op 69 (.move (.t 2)),.op 70 (.move (.t 2)),.op 71 (.move (.t 5)),.op 72 (.move (.t 7)),.op 73 (.bin .add (.t 1) (.t 0)),.op 74 (.idxSlice 1 (.t 3) (.t 0)),.op 75 (.load none (.t 0)),.op 76 (.buildSlice 2 none 1 [(.c (.int .i64 0))] [(0,(.t 0))]),.op 77 (.append none 8 (.t 7) (.t 0)),.op 9 (.move (.t 0))] [10,11,0,13,15,16])
def sW:SCode:=.cond (.t 7) Ev (.pre [0,1,2,3,5,6] .skip)
instance:IsCond sW (.t 7) Ev (.pre [0,1,2,3,5,6] .skip):=⟨rfl⟩
def xw:SCode:=.seq Dp sW
instance:IsSeq xw Dp sW:=⟨rfl⟩
def xW:SCode:=.seq IG xw
instance:IsSeq xW IG xw:=⟨rfl⟩
def AX:SCode:=.seq (.region [.op 55 (.move (.t 5)),.op 11 (.move (.t 0))] [2,3,4,5,0,6,7]) xW
instance:IsSeq AX (.region [.op 55 (.move (.t 5)),.op 11 (.move (.t 0))] [2,3,4,5,0,6,7]) xW:=⟨rfl⟩
def Bd:SCode:=.seq (.block 3 [some 1,some 7,some 9,some 10,some 52,some 53] AX) (.region [.op 78 (.bin .add (.t 5) (.k (.c (.int .i64 1)))),.op 53 (.move (.t 0))] [2,3,4,5,6,0])
instance:IsSeq Bd (.block 3 [some 1,some 7,some 9,some 10,some 52,some 53] AX) (.region [.op 78 (.bin .add (.t 5) (.k (.c (.int .i64 1)))),.op 53 (.move (.t 0))] [2,3,4,5,6,0]):=⟨rfl⟩
def Kc:SCode:=.seq (.cond (.t 6) (.pre [0,1,2,3,4,5] .skip) (.pre [2] (.exit 2))) Bd
instance:IsSeq Kc (.cond (.t 6) (.pre [0,1,2,3,4,5] .skip) (.pre [2] (.exit 2))) Bd:=⟨rfl⟩
def jx:SCode:=(.seq (.region [.op 54 (.bin .lss (.t 5) (.t 4))] [1,2,3,4,5,6,0]) Kc)
def qa:SCode:=.loop true jx
@[simp] def Fa:SCode:=(.region [.op 88 (.move (.t 2)),.op 89 (.move (.t 2)),.op 90 (.move (.t 6)),.op 91 (.idxSlice 1 (.t 1) (.t 0)),.op 92 (.load none (.t 0)),.op 93 (.buildSlice 2 none 1 [(.c (.int .i64 0))] [(0,(.t 0))]),.op 94 (.append none 8 (.t 5) (.t 0)),.op 9 (.move (.t 0))] [8,9,0,11,12,13,14])
@[simp] def Ck:SCode:=(.region [.op 95 (.move (.t 3)),.op 96 (.move (.t 5)),.op 97 (.bin .add (.t 1) (.t 0)),.op 98 (.load none (.t 3)),.op 99 (.len 1 (.t 0)),.op 100 (.bin .lss (.t 2) (.t 0))] [6,7,8,9,10,11,12,0])
@[simp] def ES:SCode:=(.region [.op 101 (.move (.t 2)),.op 102 (.move (.t 2)),.op 103 (.move (.t 5)),.op 104 (.move (.t 7)),.op 105 (.bin .add (.t 1) (.t 0)),.op 106 (.idxSlice 1 (.t 3) (.t 0)),.op 107 (.load none (.t 0)),.op 108 (.buildSlice 2 none 1 [(.c (.int .i64 0))] [(0,(.t 0))]),.op 109 (.append none 8 (.t 7) (.t 0)),.op 9 (.move (.t 0))] [10,11,0,13,15,16])
def uj:SCode:=.cond (.t 7) ES (.pre [0,1,2,3,5,6] .skip)
instance:IsCond uj (.t 7) ES (.pre [0,1,2,3,5,6] .skip):=⟨rfl⟩
def rR:SCode:=.seq Ck uj
instance:IsSeq rR Ck uj:=⟨rfl⟩
def sG:SCode:=.seq Fa rR
instance:IsSeq sG Fa rR:=⟨rfl⟩
def th:SCode:=.seq (.region [.op 87 (.move (.t 5)),.op 13 (.move (.t 0))] [2,3,4,5,0,6,7]) sG
instance:IsSeq th (.region [.op 87 (.move (.t 5)),.op 13 (.move (.t 0))] [2,3,4,5,0,6,7]) sG:=⟨rfl⟩
def tW:SCode:=.seq (.block 5 [some 1,some 7,some 9,some 12,some 84,some 85] th) (.region [.op 110 (.bin .add (.t 5) (.k (.c (.int .i64 1)))),.op 85 (.move (.t 0))] [2,3,4,5,6,0])
instance:IsSeq tW (.block 5 [some 1,some 7,some 9,some 12,some 84,some 85] th) (.region [.op 110 (.bin .add (.t 5) (.k (.c (.int .i64 1)))),.op 85 (.move (.t 0))] [2,3,4,5,6,0]):=⟨rfl⟩
def EF:SCode:=.seq (.cond (.t 6) (.pre [0,1,2,3,4,5] .skip) (.pre [2] (.exit 4))) tW
instance:IsSeq EF (.cond (.t 6) (.pre [0,1,2,3,4,5] .skip) (.pre [2] (.exit 4))) tW:=⟨rfl⟩
def jk:SCode:=(.seq (.region [.op 86 (.bin .lss (.t 5) (.t 4))] [1,2,3,4,5,6,0]) EF)
def qk:SCode:=.loop true jk
@[simp] def FE:SCode:=(.seq (.region [.op 14 (.load none (.t 0)),.op 15 (.call false (.k (.c (.func 66 [] []))) [(.t 0)]),.op 4 (.move (.t 0))] [3,0]) (.seq (.region [.op 16 (.move (.t 1)),.op 17 (.bin .neq (.t 0) (.k (.c (.int .i64 0))))] [2,3,0]) (.cond (.t 2) (.seq (.region [.op 18 (.move (.t 1)),.op 2 (.mkNil none),.op 3 (.move (.t 1))] [1,0]) .ret) (.pre [0] .skip))))
@[simp] def DA:SCode:=(.region [.op 20 (.load none (.t 0)),.op 21 (.call false (.k (.c (.func 67 [] []))) [(.t 0)]),.op 19 (.move (.t 0)),.op 22 (.extract (.t 0) 0),.op 23 (.extract (.t 1) 1),.op 5 (.new [(.c (.str []))]),.op 6 (.new [(.c (.map [] []))]),.eff (.store 1 (.t 1) (.t 3)),.eff (.store 1 (.t 0) (.t 2))] [7,1,0])
@[simp] def CB:SCode:=(.seq (.region [.op 24 (.load none (.t 0)),.op 25 (.len 1 (.t 0)),.op 26 (.move (.k (.c (.int .i64 0))))] [3,4,5,6,1,0]) (.block 0 [some 1,some 5,some 6,some 7] xy))
@[simp] def Cr:SCode:=(.region [.op 34 (.move (.t 3)),.op 35 (.mkFunc 69 [] [(.t 1),(.t 3)]),.op 36 (.call false (.k (.c (.func 68 [] []))) [(.t 1),(.t 0)])] [3,4,5,6])
@[simp] def EY:SCode:=(.region [.op 37 (.move (.t 3)),.op 38 (.mkFunc 71 [] [(.t 1),(.t 2)]),.op 39 (.call false (.k (.c (.func 68 [] []))) [(.t 1),(.t 0)])] [3,4,5,6])
@[simp] def Dc:SCode:=(.region [.op 40 (.load none (.t 0)),.op 41 (.len 1 (.t 0)),.op 42 (.makeSlice none 8 [(.c (.int .i64 0))] (.k (.c (.int .i64 0))) (.t 0)),.op 9 (.move (.t 0))] [4,5,6,7,0])
@[simp] def Eo:SCode:=(.region [.op 46 (.move (.t 3)),.op 47 (.bin .mul (.k (.c (.int .i64 2))) (.t 0)),.op 48 (.load none (.t 2)),.op 49 (.len 1 (.t 0)),.op 50 (.bin .add (.t 0) (.k (.c (.int .i64 1)))),.op 51 (.bin .gtr (.t 3) (.t 0))] [6,7,8,9,0])
def lJ:SCode:=.seq Eo (.cond (.t 4) (.seq (.seq (.region [.op 52 (.move (.t 3)),.op 53 (.move (.k (.c (.int .i64 0))))] [2,3,4,5,1,0]) (.block 2 [some 9] qa)) (.seq (.region [.op 79 (.move (.t 0)),.op 2 (.move (.t 0)),.op 3 (.move (.k (.c (.int .i64 0))))] [1,0]) .ret)) (.pre [0,1,2] .skip))
instance:IsSeq lJ Eo (.cond (.t 4) (.seq (.seq (.region [.op 52 (.move (.t 3)),.op 53 (.move (.k (.c (.int .i64 0))))] [2,3,4,5,1,0]) (.block 2 [some 9] qa)) (.seq (.region [.op 79 (.move (.t 0)),.op 2 (.move (.t 0)),.op 3 (.move (.k (.c (.int .i64 0))))] [1,0]) .ret)) (.pre [0,1,2] .skip)):=⟨rfl⟩
@[simp] def Fd:SCode:=(.seq (.region [.op 43 (.load none (.t 2)),.op 44 (.load none (.t 2)),.op 45 (.lookup (.one 1) (.c (.int .i64 0)) false (.t 1) (.t 0)),.op 10 (.move (.t 0))] [4,7,8,0]) lJ)
@[simp] def Cw:SCode:=(.region [.op 80 (.load none (.t 0)),.op 81 (.len 1 (.t 0)),.op 82 (.bin .add (.t 0) (.k (.c (.int .i64 1)))),.op 83 (.bin .quo (.t 0) (.k (.c (.int .i64 2)))),.op 12 (.move (.t 0))] [5,6,7,0])
def s6:SCode:=.seq Cw (.seq (.seq (.region [.op 84 (.move (.t 3)),.op 85 (.move (.k (.c (.int .i64 0))))] [2,3,4,5,1,0]) (.block 4 [some 9] qk)) (.seq (.region [.op 111 (.move (.t 0)),.op 2 (.move (.t 0)),.op 3 (.move (.k (.c (.int .i64 0))))] [1,0]) .ret))
instance:IsSeq s6 Cw (.seq (.seq (.region [.op 84 (.move (.t 3)),.op 85 (.move (.k (.c (.int .i64 0))))] [2,3,4,5,1,0]) (.block 4 [some 9] qk)) (.seq (.region [.op 111 (.move (.t 0)),.op 2 (.move (.t 0)),.op 3 (.move (.k (.c (.int .i64 0))))] [1,0]) .ret)):=⟨rfl⟩
def tN:SCode:=.seq Fd s6
instance:IsSeq tN Fd s6:=⟨rfl⟩
def tO:SCode:=.seq Dc tN
instance:IsSeq tO Dc tN:=⟨rfl⟩
def tZ:SCode:=.seq EY tO
instance:IsSeq tZ EY tO:=⟨rfl⟩
def se:SCode:=.seq Cr tZ
instance:IsSeq se Cr tZ:=⟨rfl⟩
def ui:SCode:=.seq CB se
instance:IsSeq ui CB se:=⟨rfl⟩
def rZ:SCode:=.seq (.region [.op 7 (.mkNil none)] [1,2,3,0]) ui
instance:IsSeq rZ (.region [.op 7 (.mkNil none)] [1,2,3,0]) ui:=⟨rfl⟩
def tf:SCode:=.seq DA rZ
instance:IsSeq tf DA rZ:=⟨rfl⟩
def Cg:SCode:=.seq FE tf
instance:IsSeq Cg FE tf:=⟨rfl⟩
def c17:SCode:=(.seq (.region [.op 1 (.box (.t 0)),.op 2 (.mkNil none),.op 3 (.move (.k (.c (.int .i64 0))))] [2]) Cg)
def F17:SFunc:=.code .pure 112 1 [some 2,some 3] [.tmp 0,.tmp 1] c17
@[simp] def Je:SCode:=(.seq (.region [.op 7 (.move (.t 0)),.op 8 (.call false (.k (.c (.func 66 [] []))) [(.t 0)]),.op 4 (.move (.t 0))] [3,0]) (.seq (.region [.op 9 (.move (.t 1)),.op 10 (.bin .neq (.t 0) (.k (.c (.int .i64 0))))] [2,3,0]) (.cond (.t 2) (.seq (.region [.op 11 (.move (.t 1)),.op 2 (.move (.k (.c (.int .i64 0)))),.op 3 (.move (.t 1))] [1,0]) .ret) (.pre [0] .skip))))
@[simp] def Jt:SCode:=(.region [.op 13 (.move (.t 0)),.op 14 (.call false (.k (.c (.func 67 [] []))) [(.t 0)]),.op 12 (.move (.t 0)),.op 15 (.extract (.t 0) 0),.op 16 (.extract (.t 1) 1),.op 5 (.move (.t 1)),.op 6 (.move (.t 1))] [7,1,0])
@[simp] def Kx:SCode:=(.region [.op 17 (.move (.t 2)),.op 18 (.move (.t 2)),.op 19 (.lookup (.one 1) (.c (.int .i64 0)) false (.t 1) (.t 0)),.op 20 (.bin .mul (.k (.c (.int .i64 2))) (.t 0)),.op 21 (.move (.t 4)),.op 22 (.len 1 (.t 0)),.op 23 (.bin .sub (.t 2) (.t 0)),.op 24 (.bin .sub (.t 0) (.k (.c (.int .i64 1)))),.op 25 (.max (.k (.c (.int .i64 0))) [(.t 0)]),.op 2 (.move (.t 0)),.op 3 (.move (.k (.c (.int .i64 0))))] [1,0])
def xa:SCode:=.seq Kx .ret
instance:IsSeq xa Kx .ret:=⟨rfl⟩
def y9:SCode:=.seq Jt xa
instance:IsSeq y9 Jt xa:=⟨rfl⟩
def LG:SCode:=.seq Je y9
instance:IsSeq LG Je y9:=⟨rfl⟩
def c18:SCode:=(.seq (.region [.op 2 (.move (.k (.c (.int .i64 0)))),.op 3 (.move (.k (.c (.int .i64 0))))] [2]) LG)
def F18:SFunc:=.code .pure 26 1 [some 2,some 3] [.tmp 0,.tmp 1] c18
@[simp] def In:SCode:=(.seq (.region [.op 15 (.move (.t 1)),.op 16 (.move (.t 4)),.op 17 (.idxSlice 1 (.t 1) (.t 0)),.op 18 (.load none (.t 0)),.op 19 (.bin .lss (.t 0) (.k (.c (.int .i64 0)))),.op 20 (.move (.t 0)),.orN 27 0 [.op 21 (.move (.t 7)),.op 22 (.move (.t 10)),.op 23 (.idxSlice 1 (.t 1) (.t 0)),.op 24 (.load none (.t 0)),.op 25 (.move (.t 10)),.op 26 (.bin .geq (.t 1) (.t 0))] (.t 0)] [7,8,9,10,0]) (.cond (.t 4) (.seq (.region [.op 4 (.move (.k (.c (.int .i64 10))))] [0]) .ret) (.pre [0,1,2,3] .skip)))
@[simp] def LA:SCode:=(.seq (.region [.op 28 (.move (.t 2)),.op 29 (.move (.t 2)),.op 30 (.move (.t 5)),.op 31 (.idxSlice 1 (.t 1) (.t 0)),.op 32 (.load none (.t 0)),.op 33 (.idxSlice 1 (.t 4) (.t 0)),.op 34 (.load none (.t 0))] [7,8,9,10,0]) (.cond (.t 4) (.seq (.region [.op 4 (.move (.k (.c (.int .i64 9))))] [0]) .ret) (.pre [0,1,2,3] .skip)))
def wn:SCode:=.seq LA (.region [.op 35 (.move (.t 2)),.op 36 (.move (.t 2)),.op 37 (.move (.t 5)),.op 38 (.idxSlice 1 (.t 1) (.t 0)),.op 39 (.load none (.t 0)),.op 40 (.idxSlice 1 (.t 4) (.t 0)),.eff (.store 1 (.t 0) (.k (.c (.bool true))))] [6,7,8,9])
instance:IsSeq wn LA (.region [.op 35 (.move (.t 2)),.op 36 (.move (.t 2)),.op 37 (.move (.t 5)),.op 38 (.idxSlice 1 (.t 1) (.t 0)),.op 39 (.load none (.t 0)),.op 40 (.idxSlice 1 (.t 4) (.t 0)),.eff (.store 1 (.t 0) (.k (.c (.bool true))))] [6,7,8,9]):=⟨rfl⟩
def wU:SCode:=.seq In wn
instance:IsSeq wU In wn:=⟨rfl⟩
def HL:SCode:=.seq (.block 1 [some 0,some 1,some 5,some 6] wU) (.region [.op 13 (.move (.t 3)),.op 14 (.bin .add (.t 0) (.k (.c (.int .i64 1)))),.op 6 (.move (.t 0))] [3,4,5,0])
instance:IsSeq HL (.block 1 [some 0,some 1,some 5,some 6] wU) (.region [.op 13 (.move (.t 3)),.op 14 (.bin .add (.t 0) (.k (.c (.int .i64 1)))),.op 6 (.move (.t 0))] [3,4,5,0]):=⟨rfl⟩
def fI:SCode:=(.seq (.seq (.region [.op 9 (.move (.t 3)),.op 10 (.move (.t 2)),.op 11 (.len 1 (.t 0)),.op 12 (.bin .lss (.t 2) (.t 0))] [4,5,6,7,0]) (.cond (.t 4) (.pre [0,1,2,3] .skip) (.pre [0,1] (.exit 0)))) HL)
def wX:SCode:=.loop true fI
@[simp] def HM:SCode:=(.region [.op 7 (.move (.t 0)),.op 8 (.makeSlice none 1 [(.c (.bool false))] (.t 0) (.t 0)),.op 5 (.move (.t 0))] [3,4,0])
@[simp] def Lw:SCode:=(.seq (.region [.op 6 (.move (.k (.c (.int .i64 0))))] [1,2,3,0]) (.block 0 [some 0,some 1] wX))
def yC:SCode:=.seq Lw (.seq (.seq (.region [.op 41 (.move (.t 1)),.op 42 (.len 1 (.t 0)),.op 43 (.move (.t 2)),.op 44 (.bin .lss (.t 1) (.t 0))] [0]) (.cond (.t 0) (.seq (.region [.op 4 (.move (.k (.c (.int .i64 7))))] [0]) .ret) (.pre [] .skip))) (.seq (.region [.op 4 (.move (.k (.c (.int .i64 0))))] [0]) .ret))
instance:IsSeq yC Lw (.seq (.seq (.region [.op 41 (.move (.t 1)),.op 42 (.len 1 (.t 0)),.op 43 (.move (.t 2)),.op 44 (.bin .lss (.t 1) (.t 0))] [0]) (.cond (.t 0) (.seq (.region [.op 4 (.move (.k (.c (.int .i64 7))))] [0]) .ret) (.pre [] .skip))) (.seq (.region [.op 4 (.move (.k (.c (.int .i64 0))))] [0]) .ret)):=⟨rfl⟩
def I1:SCode:=.seq HM yC
instance:IsSeq I1 HM yC:=⟨rfl⟩
def c19:SCode:=(.seq (.region [.op 4 (.move (.k (.c (.int .i64 0))))] [1,2]) I1)
def F19:SFunc:=.code .pure 45 2 [some 4] [.tmp 0] c19
@[simp] def I5:SCode:=(.draw 6 [.op 24 (.move (.t 1)),.op 25 (.buildSlice 3 none 0 [(.c (.int .i64 0))] []) (some 0),.op 26 (.move (.t 4)),.op 27 (.move (.t 6)),.op 28 (.sliceSl 1 (.t 1) none (some (.t 0)) none),.op 29 (.append none 8 (.t 3) (.t 0)) (some 1) .new,.op 30 (.move (.t 6)),.op 31 (.bin .sub (.t 0) (.k (.c (.int .i64 1)))),.op 32 (.buildSlice 1 none 1 [(.c (.int .i64 0))] [(0,(.t 0))]),.op 33 (.append none 8 (.t 3) (.t 0)) (some 2) .new,.op 34 (.move (.t 12)),.op 35 (.move (.t 14)),.op 36 (.sliceSl 1 (.t 1) (some (.t 0)) none none),.op 37 (.append none 8 (.t 3) (.t 0)) (some 3) .new,.op 38 (.buildSlice 3 none 1 [.nil] [(0,(.t 0))]) (some 4),.op 39 (.append none 24 (.t 14) (.t 0)) (some 5) .own,.op 3 (.move (.t 0))] [17,0,19,20,21,22,23])
def LE:SCode:=.seq (.block 3 [some 0,some 3,some 5,some 6,some 13,some 14,some 15] I5) (.region [.op 22 (.move (.t 3)),.op 23 (.bin .add (.t 0) (.k (.c (.int .i64 1)))),.op 6 (.move (.t 0))] [3,4,5,0,7,8,9])
instance:IsSeq LE (.block 3 [some 0,some 3,some 5,some 6,some 13,some 14,some 15] I5) (.region [.op 22 (.move (.t 3)),.op 23 (.bin .add (.t 0) (.k (.c (.int .i64 1)))),.op 6 (.move (.t 0))] [3,4,5,0,7,8,9]):=⟨rfl⟩
def kY:SCode:=(.seq (.seq (.region [.op 19 (.move (.t 3)),.op 20 (.move (.t 1)),.op 21 (.bin .lss (.t 1) (.t 0))] [3,4,5,6,7,8,9,0]) (.cond (.t 7) (.pre [0,1,2,3,4,5,6] .skip) (.pre [0,1,4,5,6] (.exit 2)))) LE)
def mN:SCode:=.loop true kY
@[simp] def Id:SCode:=(.block 1 [some 0,some 3,some 13,some 14,some 15] (.seq (.region [.op 17 (.idxSlice 1 (.t 2) (.t 4)),.op 18 (.load none (.t 0)),.op 5 (.move (.t 0))] [3,4,0,5,6,7]) (.seq (.region [.op 6 (.move (.k (.c (.int .i64 0))))] [1,2,3,0,4,5,6]) (.block 2 [some 0,some 3,some 13,some 14,some 15] mN))))
def xe:SCode:=.seq Id (.region [.op 40 (.bin .add (.t 4) (.k (.c (.int .i64 1)))),.op 15 (.move (.t 0))] [2,3,4,5,0])
instance:IsSeq xe Id (.region [.op 40 (.bin .add (.t 4) (.k (.c (.int .i64 1)))),.op 15 (.move (.t 0))] [2,3,4,5,0]):=⟨rfl⟩
def HY:SCode:=.seq (.cond (.t 5) (.pre [0,1,2,3,4] .skip) (.pre [1] (.exit 0))) xe
instance:IsSeq HY (.cond (.t 5) (.pre [0,1,2,3,4] .skip) (.pre [1] (.exit 0))) xe:=⟨rfl⟩
def ly:SCode:=(.seq (.region [.op 16 (.bin .lss (.t 4) (.t 3))] [1,2,3,4,5,0]) HY)
def q9:SCode:=.loop true ly
@[simp] def If:SCode:=(.seq (.region [.op 7 (.move (.t 0)),.op 8 (.bin .eql (.t 0) (.k (.c (.int .i64 0))))] [2,0]) (.cond (.t 1) (.seq (.region [.op 9 (.buildSlice 3 none 0 [(.c (.int .i64 0))] []),.op 10 (.buildSlice 3 none 1 [.nil] [(0,(.t 0))]),.op 2 (.move (.t 0))] [0]) .ret) (.pre [0] .skip)))
def yp:SCode:=.seq (.region [.op 3 (.mkNil none)] [1,0]) (.seq (.seq (.region [.op 11 (.move (.t 0)),.op 12 (.bin .sub (.t 0) (.k (.c (.int .i64 1)))),.op 13 (.call false (.k (.c (.func 20 [] []))) [(.t 0)]),.op 14 (.len 1 (.t 0)),.op 15 (.move (.k (.c (.int .i64 0))))] [5,6,2,1,0]) (.block 0 [some 3] q9)) (.seq (.region [.op 41 (.move (.t 0)),.op 2 (.move (.t 0))] [0]) .ret))
instance:IsSeq yp (.region [.op 3 (.mkNil none)] [1,0]) (.seq (.seq (.region [.op 11 (.move (.t 0)),.op 12 (.bin .sub (.t 0) (.k (.c (.int .i64 1)))),.op 13 (.call false (.k (.c (.func 20 [] []))) [(.t 0)]),.op 14 (.len 1 (.t 0)),.op 15 (.move (.k (.c (.int .i64 0))))] [5,6,2,1,0]) (.block 0 [some 3] q9)) (.seq (.region [.op 41 (.move (.t 0)),.op 2 (.move (.t 0))] [0]) .ret)):=⟨rfl⟩
def Km:SCode:=.seq If yp
instance:IsSeq Km If yp:=⟨rfl⟩
def c20:SCode:=(.seq (.region [.op 2 (.mkNil none)] [1]) Km)
def F20:SFunc:=.code .pure 42 1 [some 2] [.tmp 0] c20
@[simp] def Kv:SCode:=(.region [.op 21 (.move (.t 4)),.op 22 (.idxSlice 1 (.t 3) (.t 5)),.op 23 (.load none (.t 0)),.op 7 (.move (.t 2)),.op 8 (.move (.t 1))] [5,6,1,0,7,8,9])
@[simp] def Ky:SCode:=(.draw 1 [.op 24 (.move (.t 3)),.op 25 (.bin .lss (.t 0) (.k (.c (.int .i64 0)))),.op 26 (.move (.t 0)),.orN 31 0 [.op 27 (.move (.t 6)),.op 28 (.move (.t 4)),.op 29 (.len 1 (.t 0)) none .old,.op 30 (.bin .geq (.t 2) (.t 0))] (.t 0),.op 32 (.call false (.k (.c (.func 73 [] []))) [(.t 0),(.k (.c (.int .i64 10)))]),.op 33 (.move (.t 6)),.op 34 (.move (.t 8)),.op 35 (.sliceSl 1 (.t 1) none (some (.t 0)) none),.op 36 (.move (.t 11)),.op 37 (.call false (.k (.c (.func 74 [] []))) [(.t 1),(.t 0)]),.op 38 (.call false (.k (.c (.func 73 [] []))) [(.t 0),(.k (.c (.int .i64 9)))]),.op 39 (.buildSlice 2 none 2 [(.c (.int .i64 0))] [(0,(.t 6)),(1,(.t 0))]) (some 0),.op 40 (.call false (.k (.c (.func 57 [] []))) [(.t 0)]),.op 9 (.move (.t 0))] [14,15,0,18,19,20])
def zy:SCode:=.seq Ky (.seq (.region [.op 41 (.move (.t 2)),.op 42 (.bin .neq (.t 0) (.k (.c (.int .i64 0))))] [2,3,4,5,6,7,0]) (.cond (.t 6) (.seq (.region [.op 43 (.move (.t 2)),.op 4 (.move (.k (.c (.int .i64 0)))),.op 5 (.move (.t 1))] [1,0]) .ret) (.pre [0,1,3,4,5] .skip)))
instance:IsSeq zy Ky (.seq (.region [.op 41 (.move (.t 2)),.op 42 (.bin .neq (.t 0) (.k (.c (.int .i64 0))))] [2,3,4,5,6,7,0]) (.cond (.t 6) (.seq (.region [.op 43 (.move (.t 2)),.op 4 (.move (.k (.c (.int .i64 0)))),.op 5 (.move (.t 1))] [1,0]) .ret) (.pre [0,1,3,4,5] .skip))):=⟨rfl⟩
def Ba:SCode:=.seq Kv zy
instance:IsSeq Ba Kv zy:=⟨rfl⟩
def yB:SCode:=.seq (.block 1 [some 0,some 1,some 17,some 18,some 19] Ba) (.region [.op 44 (.bin .add (.t 4) (.k (.c (.int .i64 1)))),.op 19 (.move (.t 0))] [2,3,4,5,0])
instance:IsSeq yB (.block 1 [some 0,some 1,some 17,some 18,some 19] Ba) (.region [.op 44 (.bin .add (.t 4) (.k (.c (.int .i64 1)))),.op 19 (.move (.t 0))] [2,3,4,5,0]):=⟨rfl⟩
def Ln:SCode:=.seq (.cond (.t 5) (.pre [0,1,2,3,4] .skip) (.pre [0,1] (.exit 0))) yB
instance:IsSeq Ln (.cond (.t 5) (.pre [0,1,2,3,4] .skip) (.pre [0,1] (.exit 0))) yB:=⟨rfl⟩
def gg:SCode:=(.seq (.region [.op 20 (.bin .lss (.t 4) (.t 3))] [1,2,3,4,5,0]) Ln)
def z8:SCode:=.loop true gg
@[simp] def Hz:SCode:=(.draw 0 [.op 56 (.move (.t 0)),.op 57 (.move (.t 2)),.op 58 (.move (.t 5)),.op 59 (.idxSlice 1 (.t 1) (.t 0)),.op 60 (.load none (.t 0)) none .old,.op 61 (.idxSlice 3 (.t 4) (.t 0)),.op 62 (.fieldAddr 1 (.t 0)),.op 63 (.load none (.t 0)) none .old,.op 64 (.move (.t 8)),.op 65 (.move (.t 10)),.op 66 (.move (.t 13)),.op 67 (.bin .sub (.t 0) (.k (.c (.int .i64 1)))),.op 68 (.idxSlice 1 (.t 2) (.t 0)),.op 69 (.load none (.t 0)) none .old,.op 70 (.idxSlice 3 (.t 5) (.t 0)),.op 71 (.fieldAddr 1 (.t 0)),.op 72 (.load none (.t 0)) none .old,.op 73 (.bin .eql (.t 9) (.t 0))] [18,19,20,21,0])
def Av:SCode:=.seq Hz (.cond (.t 4) (.region [.op 74 (.move (.t 2)),.op 75 (.bin .add (.t 0) (.k (.c (.int .i64 1)))),.op 10 (.move (.t 0))] [3,4,0,6]) (.pre [0,1,2,3] .skip))
instance:IsSeq Av Hz (.cond (.t 4) (.region [.op 74 (.move (.t 2)),.op 75 (.bin .add (.t 0) (.k (.c (.int .i64 1)))),.op 10 (.move (.t 0))] [3,4,0,6]) (.pre [0,1,2,3] .skip)):=⟨rfl⟩
def Hx:SCode:=.seq (.block 3 [some 0,some 1,some 10,some 11] Av) (.region [.op 54 (.move (.t 3)),.op 55 (.bin .add (.t 0) (.k (.c (.int .i64 1)))),.op 11 (.move (.t 0))] [3,4,5,0])
instance:IsSeq Hx (.block 3 [some 0,some 1,some 10,some 11] Av) (.region [.op 54 (.move (.t 3)),.op 55 (.bin .add (.t 0) (.k (.c (.int .i64 1)))),.op 11 (.move (.t 0))] [3,4,5,0]):=⟨rfl⟩
def gZ:SCode:=(.seq (.seq (.region [.op 50 (.move (.t 3)),.op 51 (.move (.t 2)),.op 52 (.len 1 (.t 0)),.op 53 (.bin .lss (.t 2) (.t 0))] [4,5,6,7,0]) (.cond (.t 4) (.pre [0,1,2,3] .skip) (.pre [2] (.exit 2)))) Hx)
def m8:SCode:=.loop true gZ
@[simp] def CY:SCode:=(.seq (.region [.op 12 (.move (.t 0)),.op 13 (.call false (.k (.c (.func 66 [] []))) [(.t 0)]),.op 6 (.move (.t 0))] [3,4,0]) (.seq (.region [.op 14 (.move (.t 2)),.op 15 (.bin .neq (.t 0) (.k (.c (.int .i64 0))))] [2,3,4,0]) (.cond (.t 3) (.seq (.region [.op 16 (.move (.t 2)),.op 4 (.move (.k (.c (.int .i64 0)))),.op 5 (.move (.t 1))] [1,0]) .ret) (.pre [0,1] .skip))))
@[simp] def F7:SCode:=(.seq (.region [.op 17 (.move (.t 1)),.op 18 (.len 1 (.t 0)),.op 19 (.move (.k (.c (.int .i64 0))))] [3,4,2,1,0]) (.block 0 [some 0,some 1] z8))
@[simp] def Fg:SCode:=(.seq (.region [.op 45 (.move (.t 1)),.op 46 (.len 1 (.t 0)),.op 47 (.move (.t 2)),.op 48 (.len 1 (.t 0)),.op 49 (.bin .lss (.t 2) (.t 0))] [5,6,0]) (.cond (.t 2) (.seq (.region [.op 4 (.move (.k (.c (.int .i64 0)))),.op 5 (.move (.k (.c (.int .i64 7))))] [1,0]) .ret) (.pre [0,1] .skip)))
def tc:SCode:=.seq Fg (.seq (.region [.op 10 (.move (.k (.c (.int .i64 0))))] [1,2,0]) (.seq (.seq (.region [.op 11 (.move (.k (.c (.int .i64 1))))] [1,2,3,0]) (.block 2 [some 10] m8)) (.seq (.region [.op 76 (.move (.t 0)),.op 4 (.move (.t 0)),.op 5 (.move (.k (.c (.int .i64 0))))] [1,0]) .ret)))
instance:IsSeq tc Fg (.seq (.region [.op 10 (.move (.k (.c (.int .i64 0))))] [1,2,0]) (.seq (.seq (.region [.op 11 (.move (.k (.c (.int .i64 1))))] [1,2,3,0]) (.block 2 [some 10] m8)) (.seq (.region [.op 76 (.move (.t 0)),.op 4 (.move (.t 0)),.op 5 (.move (.k (.c (.int .i64 0))))] [1,0]) .ret))):=⟨rfl⟩
def uh:SCode:=.seq F7 tc
instance:IsSeq uh F7 tc:=⟨rfl⟩
def FT:SCode:=.seq CY uh
instance:IsSeq FT CY uh:=⟨rfl⟩
def c21:SCode:=(.seq (.region [.op 4 (.move (.k (.c (.int .i64 0)))),.op 5 (.move (.k (.c (.int .i64 0))))] [2,3]) FT)
def F21:SFunc:=.code .pure 77 2 [some 4,some 5] [.tmp 0,.tmp 1] c21
@[simp] def JR:SCode:=(.region [.op 15 (.move (.t 3)),.op 16 (.idxSlice 1 (.t 2) (.t 4)),.op 17 (.load none (.t 0)),.op 5 (.move (.t 2)),.op 6 (.move (.t 1))] [5,1,0,6,7,8])
@[simp] def Hu:SCode:=(.draw 1 [.op 18 (.move (.t 2)),.op 19 (.call false (.k (.c (.func 75 [] []))) [(.t 0),(.k (.c (.int .i64 0))),(.k (.c (.int .i64 999999999)))]),.op 20 (.move (.t 2)),.op 21 (.move (.t 4)),.op 22 (.sliceSl 1 (.t 1) none (some (.t 0)) none),.op 23 (.move (.t 7)),.op 24 (.call false (.k (.c (.func 74 [] []))) [(.t 1),(.t 0)]),.op 25 (.call false (.k (.c (.func 73 [] []))) [(.t 0),(.k (.c (.int .i64 9)))]),.op 26 (.buildSlice 2 none 2 [(.c (.int .i64 0))] [(0,(.t 6)),(1,(.t 0))]) (some 0),.op 27 (.call false (.k (.c (.func 57 [] []))) [(.t 0)]),.op 7 (.move (.t 0))] [11,0,14,15,16])
def wH:SCode:=.seq Hu (.seq (.region [.op 28 (.move (.t 1)),.op 29 (.bin .neq (.t 0) (.k (.c (.int .i64 0))))] [2,3,4,5,6,0]) (.cond (.t 5) (.seq (.region [.op 30 (.move (.t 1)),.op 2 (.mkNil none),.op 3 (.mkNil none),.op 4 (.move (.t 2))] [2,1,0]) .ret) (.pre [0,2,3,4] .skip)))
instance:IsSeq wH Hu (.seq (.region [.op 28 (.move (.t 1)),.op 29 (.bin .neq (.t 0) (.k (.c (.int .i64 0))))] [2,3,4,5,6,0]) (.cond (.t 5) (.seq (.region [.op 30 (.move (.t 1)),.op 2 (.mkNil none),.op 3 (.mkNil none),.op 4 (.move (.t 2))] [2,1,0]) .ret) (.pre [0,2,3,4] .skip))):=⟨rfl⟩
def Ai:SCode:=.seq JR wH
instance:IsSeq Ai JR wH:=⟨rfl⟩
def zn:SCode:=.seq (.block 1 [some 0,some 11,some 12,some 13] Ai) (.region [.op 31 (.bin .add (.t 3) (.k (.c (.int .i64 1)))),.op 13 (.move (.t 0))] [2,3,4,0])
instance:IsSeq zn (.block 1 [some 0,some 11,some 12,some 13] Ai) (.region [.op 31 (.bin .add (.t 3) (.k (.c (.int .i64 1)))),.op 13 (.move (.t 0))] [2,3,4,0]):=⟨rfl⟩
def JK:SCode:=.seq (.cond (.t 4) (.pre [0,1,2,3] .skip) (.pre [0] (.exit 0))) zn
instance:IsSeq JK (.cond (.t 4) (.pre [0,1,2,3] .skip) (.pre [0] (.exit 0))) zn:=⟨rfl⟩
def ji:SCode:=(.seq (.region [.op 14 (.bin .lss (.t 3) (.t 2))] [1,2,3,4,0]) JK)
def zw:SCode:=.loop true ji
@[simp] def Ic:SCode:=(.seq (.region [.op 8 (.move (.t 0)),.op 9 (.len 1 (.t 0)),.op 10 (.bin .gtr (.t 0) (.k (.c (.int .i64 160))))] [3,0]) (.cond (.t 1) (.seq (.region [.op 2 (.mkNil none),.op 3 (.mkNil none),.op 4 (.move (.k (.c (.int .i64 5))))] [2,1,0]) .ret) (.pre [0] .skip)))
@[simp] def El:SCode:=(.seq (.region [.op 11 (.move (.t 0)),.op 12 (.len 1 (.t 0)),.op 13 (.move (.k (.c (.int .i64 0))))] [3,2,1,0]) (.block 0 [some 0] zw))
@[simp] def F8:SCode:=(.region [.op 32 (.move (.t 0)),.op 33 (.call false (.k (.c (.func 76 [] []))) [(.t 0),(.k (.c (.int .i64 0)))]),.op 34 (.move (.t 2)),.op 35 (.move (.t 3)),.op 36 (.len 1 (.t 0)),.op 37 (.bin .add (.t 0) (.k (.c (.int .i64 1)))),.op 38 (.bin .quo (.t 0) (.k (.c (.int .i64 2)))),.op 39 (.call false (.k (.c (.func 76 [] []))) [(.t 4),(.t 0)]),.op 2 (.move (.t 6)),.op 3 (.move (.t 1)),.op 4 (.move (.k (.c (.int .i64 0))))] [2,1,0])
def tI:SCode:=.seq F8 .ret
instance:IsSeq tI F8 .ret:=⟨rfl⟩
def By:SCode:=.seq El tI
instance:IsSeq By El tI:=⟨rfl⟩
def I4:SCode:=.seq Ic By
instance:IsSeq I4 Ic By:=⟨rfl⟩
def c22:SCode:=(.seq (.region [.op 2 (.mkNil none),.op 3 (.mkNil none),.op 4 (.move (.k (.c (.int .i64 0))))] [3]) I4)
def F22:SFunc:=.code .pure 40 1 [some 2,some 3,some 4] [.tmp 0,.tmp 1,.tmp 2] c22
@[simp] def Ls:SCode:=(.region [.op 27 (.move (.t 0)),.op 28 (.move (.t 5)),.op 29 (.move (.t 3)),.op 30 (.bin .mul (.t 1) (.t 0)),.op 31 (.bin .add (.t 3) (.t 0)),.op 13 (.move (.t 0))] [6,7,8,9,0,11,12])
@[simp] def JB:SCode:=(.region [.op 32 (.move (.t 3)),.op 33 (.move (.t 5)),.op 34 (.move (.t 4)),.op 35 (.bin .sub (.t 1) (.t 0)),.op 36 (.max (.k (.c (.int .i64 0))) [(.t 0)]),.op 37 (.move (.t 9)),.op 38 (.build [(.c (.int .i64 0)),(.c (.int .i64 0))] [(0,1,(.t 1)),(1,1,(.t 0))]),.op 39 (.buildSlice 2 (some 2) 1 [(.c (.int .i64 0)),(.c (.int .i64 0))] [(0,(.t 0))]),.op 40 (.append (some 2) 16 (.t 7) (.t 0)),.op 11 (.move (.t 0))] [10,11,12,0,15,16])
def zN:SCode:=.seq Ls JB
instance:IsSeq zN Ls JB:=⟨rfl⟩
def Bs:SCode:=.seq (.region [.op 26 (.move (.t 5)),.op 12 (.move (.t 0))] [2,3,4,5,0,6,7]) zN
instance:IsSeq Bs (.region [.op 26 (.move (.t 5)),.op 12 (.move (.t 0))] [2,3,4,5,0,6,7]) zN:=⟨rfl⟩
def zW:SCode:=.seq (.block 1 [some 1,some 2,some 3,some 11,some 23,some 24] Bs) (.region [.op 41 (.bin .add (.t 5) (.k (.c (.int .i64 1)))),.op 24 (.move (.t 0))] [2,3,4,5,6,0])
instance:IsSeq zW (.block 1 [some 1,some 2,some 3,some 11,some 23,some 24] Bs) (.region [.op 41 (.bin .add (.t 5) (.k (.c (.int .i64 1)))),.op 24 (.move (.t 0))] [2,3,4,5,6,0]):=⟨rfl⟩
def Jp:SCode:=.seq (.cond (.t 6) (.pre [0,1,2,3,4,5] .skip) (.pre [3] (.exit 0))) zW
instance:IsSeq Jp (.cond (.t 6) (.pre [0,1,2,3,4,5] .skip) (.pre [3] (.exit 0))) zW:=⟨rfl⟩
def lG:SCode:=(.seq (.region [.op 25 (.bin .lss (.t 5) (.t 4))] [1,2,3,4,5,6,0]) Jp)
def qA:SCode:=.loop true lG
@[simp] def Jr:SCode:=(.seq (.region [.op 14 (.move (.t 0)),.op 15 (.move (.t 2)),.op 16 (.move (.t 4)),.op 17 (.move (.t 6)),.op 18 (.buildSlice 0 none 1 [(.c (.int .i64 0))] [(0,(.t 0))]),.op 19 (.call false (.k (.c (.func 77 [] []))) [(.t 4),(.t 3),(.t 2),(.t 0)]),.op 10 (.move (.t 0))] [7,8,9,10,0]) (.seq (.region [.op 20 (.move (.t 4)),.op 21 (.bin .neq (.t 0) (.k (.c (.int .i64 0))))] [2,3,4,5,6,0]) (.cond (.t 5) (.seq (.region [.op 22 (.move (.t 4)),.op 8 (.mkNil (some 2)),.op 9 (.move (.t 1))] [1,0]) .ret) (.pre [0,1,2,3] .skip))))
def J6:SCode:=.seq Jr (.seq (.region [.op 11 (.mkNil (some 2))] [1,2,3,4,0]) (.seq (.seq (.region [.op 23 (.move (.t 0)),.op 24 (.move (.k (.c (.int .i64 0))))] [3,4,5,6,1,0]) (.block 0 [some 11] qA)) (.seq (.region [.op 42 (.move (.t 0)),.op 8 (.move (.t 0)),.op 9 (.move (.k (.c (.int .i64 0))))] [1,0]) .ret)))
instance:IsSeq J6 Jr (.seq (.region [.op 11 (.mkNil (some 2))] [1,2,3,4,0]) (.seq (.seq (.region [.op 23 (.move (.t 0)),.op 24 (.move (.k (.c (.int .i64 0))))] [3,4,5,6,1,0]) (.block 0 [some 11] qA)) (.seq (.region [.op 42 (.move (.t 0)),.op 8 (.move (.t 0)),.op 9 (.move (.k (.c (.int .i64 0))))] [1,0]) .ret))):=⟨rfl⟩
def c23:SCode:=(.seq (.region [.op 8 (.mkNil (some 2)),.op 9 (.move (.k (.c (.int .i64 0))))] [2,3,4,5]) J6)
def F23:SFunc:=.code .pure 43 4 [some 8,some 9] [.tmp 0,.tmp 1] c23
@[simp] def KP:SCode:=(.draw 0 [.op 21 (.load (some 4) (.t 1)) none .var,.op 22 (.move (.t 1)),.op 23 (.move (.t 4)),.op 24 (.idxSlice 4 (.t 1) (.t 0)),.op 25 (.load (some 4) (.t 0)) none .old,.op 26 (.call false (.k (.c (.func 79 [] []))) [(.t 4),(.t 0)]),.op 5 (.move (.t 0))] [7,8,0,9])
def yw:SCode:=.seq KP (.seq (.region [.op 27 (.move (.t 2)),.op 28 (.bin .neq (.t 0) (.k (.c (.int .i64 0))))] [2,3,4,5,0]) (.cond (.t 4) (.seq (.region [.op 29 (.move (.t 2)),.op 4 (.move (.t 0))] [0]) .ret) (.pre [0,1,3] .skip)))
instance:IsSeq yw KP (.seq (.region [.op 27 (.move (.t 2)),.op 28 (.bin .neq (.t 0) (.k (.c (.int .i64 0))))] [2,3,4,5,0]) (.cond (.t 4) (.seq (.region [.op 29 (.move (.t 2)),.op 4 (.move (.t 0))] [0]) .ret) (.pre [0,1,3] .skip))):=⟨rfl⟩
def LD:SCode:=.seq (.block 1 [some 1,some 2,some 6] yw) (.region [.op 19 (.move (.t 2)),.op 20 (.bin .add (.t 0) (.k (.c (.int .i64 1)))),.op 6 (.move (.t 0))] [3,4,0])
instance:IsSeq LD (.block 1 [some 1,some 2,some 6] yw) (.region [.op 19 (.move (.t 2)),.op 20 (.bin .add (.t 0) (.k (.c (.int .i64 1)))),.op 6 (.move (.t 0))] [3,4,0]):=⟨rfl⟩
def jh:SCode:=(.seq (.seq (.region [.op 15 (.move (.t 2)),.op 16 (.move (.t 1)),.op 17 (.len 1 (.t 0)),.op 18 (.bin .lss (.t 2) (.t 0))] [4,5,6,0]) (.cond (.t 3) (.pre [0,1,2] .skip) (.pre [] (.exit 0)))) LD)
def qm:SCode:=.loop true jh
@[simp] def Lk:SCode:=(.region [.op 7 (.load (some 4) (.t 1)),.op 8 (.call false (.k (.c (.func 78 [] []))) [(.t 0)]),.op 5 (.move (.t 0))] [3,4,0])
@[simp] def Lu:SCode:=(.seq (.region [.op 9 (.move (.t 2)),.op 10 (.bin .neq (.t 0) (.k (.c (.int .i64 0))))] [2,3,4,0]) (.cond (.t 3) (.seq (.region [.op 11 (.move (.t 2)),.op 4 (.move (.t 0))] [0]) .ret) (.pre [0,1] .skip)))
@[simp] def Kg:SCode:=(.seq (.region [.op 12 (.move (.t 0)),.op 13 (.len 1 (.t 0)),.op 14 (.bin .gtr (.t 0) (.k (.c (.int .i64 256))))] [3,4,0]) (.cond (.t 2) (.seq (.region [.op 4 (.move (.k (.c (.int .i64 5))))] [0]) .ret) (.pre [0,1] .skip)))
def wR:SCode:=.seq Kg (.seq (.seq (.region [.op 6 (.move (.k (.c (.int .i64 0))))] [1,2,0]) (.block 0 [] qm)) (.seq (.region [.op 4 (.move (.k (.c (.int .i64 0))))] [0]) .ret))
instance:IsSeq wR Kg (.seq (.seq (.region [.op 6 (.move (.k (.c (.int .i64 0))))] [1,2,0]) (.block 0 [] qm)) (.seq (.region [.op 4 (.move (.k (.c (.int .i64 0))))] [0]) .ret)):=⟨rfl⟩
def Ae:SCode:=.seq Lu wR
instance:IsSeq Ae Lu wR:=⟨rfl⟩
def KE:SCode:=.seq Lk Ae
instance:IsSeq KE Lk Ae:=⟨rfl⟩
def c24:SCode:=(.seq (.region [.op 2 (.box (.t 0)),.op 4 (.move (.k (.c (.int .i64 0))))] [3,1]) KE)
def F24:SFunc:=.code .pure 30 2 [some 4] [.tmp 0] c24
@[simp] def J9:SCode:=(.region [.op 10 (.move (.t 1)),.op 11 (.move (.t 1)),.op 12 (.move (.t 4)),.op 13 (.idxSlice 4 (.t 1) (.t 0)),.op 14 (.load (some 4) (.t 0)),.op 15 (.buildSlice 2 (some 4) 1 [(.c (.int .i64 0)),(.c (.str [])),(.c (.int .i64 0)),(.c (.int .i64 0))] [(0,(.t 0))]),.op 16 (.append (some 4) 40 (.t 5) (.t 0)),.op 3 (.move (.t 0))] [8,0,11,12])
def xS:SCode:=.seq (.region [.op 9 (.move (.t 3)),.op 4 (.move (.t 0))] [2,3,0,4,5]) J9
instance:IsSeq xS (.region [.op 9 (.move (.t 3)),.op 4 (.move (.t 0))] [2,3,0,4,5]) J9:=⟨rfl⟩
def Au:SCode:=.seq (.block 1 [some 0,some 3,some 6,some 7] xS) (.region [.op 17 (.bin .add (.t 3) (.k (.c (.int .i64 1)))),.op 7 (.move (.t 0))] [2,3,4,0])
instance:IsSeq Au (.block 1 [some 0,some 3,some 6,some 7] xS) (.region [.op 17 (.bin .add (.t 3) (.k (.c (.int .i64 1)))),.op 7 (.move (.t 0))] [2,3,4,0]):=⟨rfl⟩
def Kk:SCode:=.seq (.cond (.t 4) (.pre [0,1,2,3] .skip) (.pre [1] (.exit 0))) Au
instance:IsSeq Kk (.cond (.t 4) (.pre [0,1,2,3] .skip) (.pre [1] (.exit 0))) Au:=⟨rfl⟩
def lL:SCode:=(.seq (.region [.op 8 (.bin .lss (.t 3) (.t 2))] [1,2,3,4,0]) Kk)
def xC:SCode:=.loop true lL
def c25:SCode:=(.seq (.region [.op 2 (.mkNil (some 4))] [1]) (.seq (.region [.op 3 (.mkNil (some 4))] [1,0]) (.seq (.seq (.region [.op 5 (.move (.t 0)),.op 6 (.len 1 (.t 0)),.op 7 (.move (.k (.c (.int .i64 0))))] [3,4,1,0]) (.block 0 [some 3] xC)) (.seq (.region [.op 18 (.move (.t 0)),.op 2 (.move (.t 0))] [0]) .ret))))
def F25:SFunc:=.code .pure 19 1 [some 2] [.tmp 0] c25
@[simp] def J5:SCode:=(.seq (.region [.op 10 (.load (some 4) (.t 1)),.op 11 (.move (.t 1)),.op 12 (.call false (.k (.c (.func 80 [] []))) [(.t 1),(.t 0)]),.op 7 (.move (.t 0))] [4,5,6,0]) (.seq (.region [.op 13 (.move (.t 3)),.op 14 (.bin .neq (.t 0) (.k (.c (.int .i64 0))))] [2,3,4,5,0]) (.cond (.t 4) (.seq (.region [.op 15 (.build [(.c (.int .i64 0)),.nil] []),.op 16 (.move (.t 4)),.eff (.store 2 (.t 4) (.t 1)),.op 5 (.mkNil (some 2)),.op 6 (.move (.t 1))] [6,1,0]) .ret) (.pre [0,1,2] .skip))))
@[simp] def Jq:SCode:=(.region [.op 18 (.load (some 4) (.t 1)),.op 19 (.move (.t 1)),.op 20 (.call false (.k (.c (.func 81 [] []))) [(.t 1),(.t 0)]),.op 17 (.move (.t 0)),.op 21 (.extract (.t 0) 0),.op 22 (.extract (.t 1) 1),.op 8 (.new [(.c (.int .i64 0)),.nil]),.eff (.store 2 (.t 0) (.t 2)),.op 9 (.move (.t 1))] [10,1,0])
def zR:SCode:=.seq Jq (.seq (.region [.op 23 (.load (some 2) (.t 1)),.op 24 (.move (.t 3)),.eff (.store 2 (.t 2) (.t 1)),.op 5 (.move (.t 0)),.op 6 (.move (.k (.c (.int .i64 0))))] [4,1,0]) .ret)
instance:IsSeq zR Jq (.seq (.region [.op 23 (.load (some 2) (.t 1)),.op 24 (.move (.t 3)),.eff (.store 2 (.t 2) (.t 1)),.op 5 (.move (.t 0)),.op 6 (.move (.k (.c (.int .i64 0))))] [4,1,0]) .ret):=⟨rfl⟩
def Jh:SCode:=.seq J5 zR
instance:IsSeq Jh J5 zR:=⟨rfl⟩
def c26:SCode:=(.seq (.region [.op 2 (.box (.t 0)),.op 4 (.new [(.c (.int .i64 0)),.nil]),.op 5 (.mkNil (some 2)),.op 6 (.move (.k (.c (.int .i64 0))))] [5,3,2]) Jh)
def F26:SFunc:=.code .pure 25 2 [some 4,some 5,some 6] [.cell 0 (some 2),.tmp 1,.tmp 2] c26
@[simp] def Ll:SCode:=(.region [.op 21 (.move (.t 3)),.op 22 (.idxSlice 11 (.t 2) (.t 4)),.op 23 (.load (some 11) (.t 0)),.op 9 (.new [(.c (.str [])),(.c (.str [])),(.c (.int .i64 0)),(.c (.int .i64 0)),(.c (.int .i64 0)),(.c (.int .i64 0)),(.c (.bool false)),(.c (.bool false)),(.c (.bool false)),.nil,.nil]),.op 8 (.move (.t 3)),.eff (.store 11 (.t 1) (.t 2))] [5,0,1,6,7,8])
@[simp] def I7:SCode:=(.region [.op 24 (.fieldAddr 0 (.t 2)),.op 25 (.load none (.t 0)),.op 26 (.bin .neq (.t 0) (.k (.c (.str [100,111,110,101]))))] [3,4,6,7,8,0])
def v6:SCode:=.seq I7 (.cond (.t 5) (.region [.op 27 (.move (.t 0)),.op 28 (.move (.t 2)),.op 29 (.buildSlice 2 none 1 [(.c (.int .i64 0))] [(0,(.t 0))]),.op 30 (.append none 8 (.t 2) (.t 0)),.op 7 (.move (.t 0))] [0,7,8,9]) (.pre [0,2,3,4] .skip))
instance:IsSeq v6 I7 (.cond (.t 5) (.region [.op 27 (.move (.t 0)),.op 28 (.move (.t 2)),.op 29 (.buildSlice 2 none 1 [(.c (.int .i64 0))] [(0,(.t 0))]),.op 30 (.append none 8 (.t 2) (.t 0)),.op 7 (.move (.t 0))] [0,7,8,9]) (.pre [0,2,3,4] .skip)):=⟨rfl⟩
def yT:SCode:=.seq Ll v6
instance:IsSeq yT Ll v6:=⟨rfl⟩
def Aq:SCode:=.seq (.block 1 [some 7,some 17,some 18,some 19] yT) (.region [.op 31 (.bin .add (.t 3) (.k (.c (.int .i64 1)))),.op 19 (.move (.t 0))] [2,3,4,0])
instance:IsSeq Aq (.block 1 [some 7,some 17,some 18,some 19] yT) (.region [.op 31 (.bin .add (.t 3) (.k (.c (.int .i64 1)))),.op 19 (.move (.t 0))] [2,3,4,0]):=⟨rfl⟩
def LK:SCode:=.seq (.cond (.t 4) (.pre [0,1,2,3] .skip) (.pre [0] (.exit 0))) Aq
instance:IsSeq LK (.cond (.t 4) (.pre [0,1,2,3] .skip) (.pre [0] (.exit 0))) Aq:=⟨rfl⟩
def jj:SCode:=(.seq (.region [.op 20 (.bin .lss (.t 3) (.t 2))] [1,2,3,4,0]) LK)
def qt:SCode:=.loop true jj
@[simp] def KC:SCode:=(.seq (.region [.op 10 (.load (some 4) (.t 0)),.op 11 (.load (some 2) (.t 2)),.op 12 (.call false (.k (.c (.func 82 [] []))) [(.t 1),(.t 0)]),.op 6 (.move (.t 0))] [5,0]) (.seq (.region [.op 13 (.move (.t 1)),.op 14 (.bin .neq (.t 0) (.k (.c (.int .i64 0))))] [2,3,0]) (.cond (.t 2) (.seq (.region [.op 15 (.move (.t 1)),.op 4 (.mkNil none),.op 5 (.move (.t 1))] [1,0]) .ret) (.pre [0] .skip))))
def Lz:SCode:=.seq KC (.seq (.region [.op 7 (.mkNil none)] [1,0]) (.seq (.seq (.region [.op 16 (.fieldAddr 1 (.t 0)),.op 17 (.load none (.t 0)),.op 18 (.len 1 (.t 0)),.op 19 (.move (.k (.c (.int .i64 0))))] [5,2,1,0]) (.block 0 [some 7] qt)) (.seq (.region [.op 32 (.move (.t 0)),.op 4 (.move (.t 0)),.op 5 (.move (.k (.c (.int .i64 0))))] [1,0]) .ret)))
instance:IsSeq Lz KC (.seq (.region [.op 7 (.mkNil none)] [1,0]) (.seq (.seq (.region [.op 16 (.fieldAddr 1 (.t 0)),.op 17 (.load none (.t 0)),.op 18 (.len 1 (.t 0)),.op 19 (.move (.k (.c (.int .i64 0))))] [5,2,1,0]) (.block 0 [some 7] qt)) (.seq (.region [.op 32 (.move (.t 0)),.op 4 (.move (.t 0)),.op 5 (.move (.k (.c (.int .i64 0))))] [1,0]) .ret))):=⟨rfl⟩
def c27:SCode:=(.seq (.region [.op 2 (.box (.t 0)),.op 3 (.box (.t 2)),.op 4 (.mkNil none),.op 5 (.move (.k (.c (.int .i64 0))))] [3,2]) Lz)
def F27:SFunc:=.code .pure 33 2 [some 4,some 5] [.tmp 0,.tmp 1] c27
@[simp] def HV:SCode:=(.block 1 [some 0,some 1,some 5] (.seq (.region [.op 12 (.move (.t 0)),.op 13 (.move (.t 3)),.op 14 (.idxSlice 1 (.t 1) (.t 0)),.op 15 (.load none (.t 0)),.op 16 (.move (.t 5)),.op 17 (.bin .eql (.t 1) (.t 0))] [6,7,8,0]) (.cond (.t 3) (.seq (.region [.op 4 (.move (.k (.c (.bool true))))] [0]) .ret) (.pre [0,1,2] .skip))))
def Is:SCode:=.seq HV (.region [.op 10 (.move (.t 2)),.op 11 (.bin .add (.t 0) (.k (.c (.int .i64 1)))),.op 5 (.move (.t 0))] [3,4,0])
instance:IsSeq Is HV (.region [.op 10 (.move (.t 2)),.op 11 (.bin .add (.t 0) (.k (.c (.int .i64 1)))),.op 5 (.move (.t 0))] [3,4,0]):=⟨rfl⟩
def jw:SCode:=(.seq (.seq (.region [.op 6 (.move (.t 2)),.op 7 (.move (.t 1)),.op 8 (.len 1 (.t 0)),.op 9 (.bin .lss (.t 2) (.t 0))] [4,5,6,0]) (.cond (.t 3) (.pre [0,1,2] .skip) (.pre [] (.exit 0)))) Is)
def zx:SCode:=.loop true jw
def c36:SCode:=(.seq (.region [.op 4 (.move (.k (.c (.bool false))))] [1,2]) (.seq (.seq (.region [.op 5 (.move (.k (.c (.int .i64 0))))] [1,2,0]) (.block 0 [] zx)) (.seq (.region [.op 4 (.move (.k (.c (.bool false))))] [0]) .ret)))
def F36:SFunc:=.code .pure 18 2 [some 4] [.tmp 0] c36
@[simp] def Wk:SCode:=(.region [.op 29 (.move (.t 4)),.op 30 (.idxSlice 11 (.t 3) (.t 5)),.op 31 (.load (some 11) (.t 0)),.op 10 (.new [(.c (.str [])),(.c (.str [])),(.c (.int .i64 0)),(.c (.int .i64 0)),(.c (.int .i64 0)),(.c (.int .i64 0)),(.c (.bool false)),(.c (.bool false)),(.c (.bool false)),.nil,.nil]),.op 9 (.move (.t 3)),.eff (.store 11 (.t 1) (.t 2))] [5,6,0,1,7,8,9])
@[simp] def SO:SCode:=(.draw 2 [.op 32 (.move (.t 1)),.op 33 (.fieldAddr 1 (.t 1)),.op 34 (.load none (.t 0)) none .var,.op 35 (.move (.t 5)),.op 36 (.idxSlice 1 (.t 1) (.t 0)),.op 37 (.load none (.t 0)) none .old,.op 38 (.fieldAddr 1 (.t 9)),.op 39 (.load none (.t 0)) none .var,.op 40 (.load (some 4) (.t 8)) none .var,.op 41 (.load (some 11) (.t 12)) none .var,.op 42 (.call false (.k (.c (.func 127 [] []))) [(.t 1),(.t 0)]),.op 43 (.build [(.c (.str [])),(.c (.str [])),.nil] [(0,1,(.t 5)),(1,1,(.t 3)),(2,1,(.t 0))]),.op 44 (.buildSlice 2 (some 3) 1 [(.c (.str [])),(.c (.str [])),.nil] [(0,(.t 0))]) (some 0),.op 45 (.append (some 3) 56 (.t 12) (.t 0)) (some 1) .own,.op 8 (.move (.t 0))] [15,0,19,20,21])
def S0:SCode:=.seq Wk SO
def Tm:SCode:=.seq (.block 1 [some 2,some 8,some 25,some 26,some 27] S0) (.region [.op 46 (.bin .add (.t 4) (.k (.c (.int .i64 1)))),.op 27 (.move (.t 0))] [2,3,4,5,0])
def TS:SCode:=.seq (.cond (.t 5) (.pre [0,1,2,3,4] .skip) (.pre [1] (.exit 0))) Tm
def QO:SCode:=(.seq (.region [.op 28 (.bin .lss (.t 4) (.t 3))] [1,2,3,4,5,0]) TS)
def VH:SCode:=.loop true QO
@[simp] def Sk:SCode:=(.region [.op 11 (.fieldAddr 1 (.t 1)),.op 12 (.load none (.t 0)),.op 13 (.call false (.k (.c (.func 123 [] []))) [(.t 0),(.k (.c (.func 124 [] [])))]),.op 6 (.move (.t 0))] [4,5,0])
@[simp] def SC:SCode:=(.seq (.region [.op 14 (.load (some 4) (.t 0)),.op 15 (.load (some 2) (.t 2)),.op 16 (.call false (.k (.c (.func 82 [] []))) [(.t 1),(.t 0)]),.op 17 (.move (.t 5)),.op 18 (.call false (.k (.c (.func 126 [] []))) [(.t 0),(.k (.c (.int .i64 24)))]),.op 19 (.buildSlice 2 none 2 [(.c (.int .i64 0))] [(0,(.t 2)),(1,(.t 0))]),.op 20 (.call false (.k (.c (.func 125 [] []))) [(.t 0)]),.op 7 (.move (.t 0))] [8,9,0]) (.seq (.region [.op 21 (.move (.t 2)),.op 22 (.bin .neq (.t 0) (.k (.c (.int .i64 0))))] [2,3,4,0]) (.cond (.t 3) (.seq (.region [.op 23 (.move (.t 2)),.op 4 (.mkNil (some 3)),.op 5 (.move (.t 1))] [1,0]) .ret) (.pre [0,1] .skip))))
def QC:SCode:=.seq (.region [.op 8 (.mkNil (some 3))] [1,2,0]) (.seq (.seq (.region [.op 24 (.fieldAddr 1 (.t 1)),.op 25 (.load none (.t 0)),.op 26 (.len 1 (.t 0)),.op 27 (.move (.k (.c (.int .i64 0))))] [4,6,2,1,0]) (.block 0 [some 8] VH)) (.seq (.region [.op 47 (.move (.t 0)),.op 4 (.move (.t 0)),.op 5 (.move (.k (.c (.int .i64 0))))] [1,0]) .ret))
def Tr:SCode:=.seq SC QC
def Ua:SCode:=.seq Sk Tr
def c52:SCode:=(.seq (.region [.op 2 (.box (.t 0)),.op 3 (.box (.t 2)),.op 4 (.mkNil (some 3)),.op 5 (.move (.k (.c (.int .i64 0))))] [3,2]) Ua)
def F52:SFunc:=.code .pure 48 2 [some 4,some 5] [.tmp 0,.tmp 1] c52
@[simp] def I6:SCode:=(.seq (.region [.op 7 (.move (.t 0)),.op 8 (.move (.t 2)),.op 9 (.bin .lss (.t 1) (.t 0)),.op 10 (.move (.t 0)),.orN 14 0 [.op 11 (.move (.t 4)),.op 12 (.move (.t 7)),.op 13 (.bin .gtr (.t 1) (.t 0))] (.t 0)] [0]) (.cond (.t 0) (.seq (.region [.op 6 (.move (.k (.c (.int .i64 3))))] [0]) .ret) (.pre [] .skip)))
def Lf:SCode:=.seq I6 (.seq (.region [.op 6 (.move (.k (.c (.int .i64 0))))] [0]) .ret)
instance:IsSeq Lf I6 (.seq (.region [.op 6 (.move (.k (.c (.int .i64 0))))] [0]) .ret):=⟨rfl⟩
def c56:SCode:=(.seq (.region [.op 6 (.move (.k (.c (.int .i64 0))))] [1,2,3]) Lf)
def F56:SFunc:=.code .pure 15 3 [some 6] [.tmp 0] c56
@[simp] def Lo:SCode:=(.block 1 [some 5,some 6,some 7] (.seq (.region [.op 9 (.idxSlice 1 (.t 0) (.t 2)),.op 10 (.load none (.t 0)),.op 4 (.move (.t 0))] [0,3,4,5]) (.seq (.region [.op 11 (.move (.t 0)),.op 12 (.bin .neq (.t 0) (.k (.c (.int .i64 0))))] [2,3,4,5,0]) (.cond (.t 4) (.seq (.region [.op 13 (.move (.t 0)),.op 2 (.move (.t 0))] [0]) .ret) (.pre [1,2,3] .skip)))))
def xl:SCode:=.seq Lo (.region [.op 14 (.bin .add (.t 2) (.k (.c (.int .i64 1)))),.op 7 (.move (.t 0))] [2,3,0])
instance:IsSeq xl Lo (.region [.op 14 (.bin .add (.t 2) (.k (.c (.int .i64 1)))),.op 7 (.move (.t 0))] [2,3,0]):=⟨rfl⟩
def Jd:SCode:=.seq (.cond (.t 3) (.pre [0,1,2] .skip) (.pre [] (.exit 0))) xl
instance:IsSeq Jd (.cond (.t 3) (.pre [0,1,2] .skip) (.pre [] (.exit 0))) xl:=⟨rfl⟩
def js:SCode:=(.seq (.region [.op 8 (.bin .lss (.t 2) (.t 1))] [1,2,3,0]) Jd)
def Bg:SCode:=.loop true js
def c57:SCode:=(.seq (.region [.op 2 (.move (.k (.c (.int .i64 0))))] [1]) (.seq (.seq (.region [.op 5 (.move (.t 0)),.op 6 (.len 1 (.t 0)),.op 7 (.move (.k (.c (.int .i64 0))))] [2,1,0]) (.block 0 [] Bg)) (.seq (.region [.op 2 (.move (.k (.c (.int .i64 0))))] [0]) .ret)))
def F57:SFunc:=.code .pure 15 1 [some 2] [.tmp 0] c57
@[simp] def Jo:SCode:=(.region [.op 3 (.move (.t 0)),.op 4 (.call false (.k (.c (.func 132 [] []))) [(.t 0)]),.op 5 (.bin .lss (.t 0) (.k (.c (.int .i64 0)))),.op 6 (.move (.t 0)),.orN 10 0 [.op 7 (.move (.t 4)),.op 8 (.call false (.k (.c (.func 120 [] []))) [(.t 0)]),.op 9 (.bin .gtr (.t 0) (.k (.c (.int .i64 86399999))))] (.t 0),.op 11 (.call false (.k (.c (.func 73 [] []))) [(.t 0),(.k (.c (.int .i64 3)))]),.op 2 (.move (.t 0))] [0])
def JA:SCode:=.seq Jo .ret
instance:IsSeq JA Jo .ret:=⟨rfl⟩
def c58:SCode:=(.seq (.region [.op 2 (.move (.k (.c (.int .i64 0))))] [1]) JA)
def F58:SFunc:=.code .pure 12 1 [some 2] [.tmp 0] c58
@[simp] def IF:SCode:=(.block 1 [some 3,some 6,some 7,some 8] (.seq (.region [.op 10 (.idxSlice 1 (.t 1) (.t 3)),.op 11 (.load none (.t 0)),.op 5 (.move (.t 0))] [3,0,4,5,6]) (.seq (.region [.op 12 (.move (.t 1)),.op 13 (.move (.t 1)),.op 14 (.bin .neq (.t 1) (.t 0))] [3,4,5,6,7,0]) (.cond (.t 5) (.seq (.region [.op 15 (.move (.t 1)),.op 2 (.move (.t 0))] [0]) .ret) (.pre [0,2,3,4] .skip)))))
def za:SCode:=.seq IF (.region [.op 16 (.bin .add (.t 3) (.k (.c (.int .i64 1)))),.op 8 (.move (.t 0))] [2,3,4,0])
instance:IsSeq za IF (.region [.op 16 (.bin .add (.t 3) (.k (.c (.int .i64 1)))),.op 8 (.move (.t 0))] [2,3,4,0]):=⟨rfl⟩
def HU:SCode:=.seq (.cond (.t 4) (.pre [0,1,2,3] .skip) (.pre [0] (.exit 0))) za
instance:IsSeq HU (.cond (.t 4) (.pre [0,1,2,3] .skip) (.pre [0] (.exit 0))) za:=⟨rfl⟩
def gn:SCode:=(.seq (.region [.op 9 (.bin .lss (.t 3) (.t 2))] [1,2,3,4,0]) HU)
def IQ:SCode:=.loop true gn
def c59:SCode:=(.seq (.region [.op 2 (.move (.k (.c (.int .i64 0))))] [1]) (.seq (.region [.op 3 (.move (.k (.c (.int .i64 0))))] [1,0]) (.seq (.seq (.region [.op 6 (.move (.t 0)),.op 7 (.len 1 (.t 0)),.op 8 (.move (.k (.c (.int .i64 0))))] [4,2,1,0]) (.block 0 [some 3] IQ)) (.seq (.region [.op 17 (.move (.t 0)),.op 2 (.move (.t 0))] [0]) .ret))))
def F59:SFunc:=.code .pure 18 1 [some 2] [.tmp 0] c59
@[simp] def K0:SCode:=(.region [.op 7 (.move (.t 0)),.op 8 (.call false (.k (.c (.func 133 [] []))) [(.t 0)]),.op 5 (.move (.t 0))] [3,4,0])
@[simp] def KJ:SCode:=(.region [.op 9 (.move (.t 1)),.op 10 (.call false (.k (.c (.func 133 [] []))) [(.t 0)]),.op 6 (.move (.t 0))] [3,4,5,0])
@[simp] def KB:SCode:=(.seq (.region [.op 11 (.move (.t 2))] [1,2,4,0]) (.cond (.t 3) (.seq (.seq (.region [.op 12 (.move (.t 2))] [0]) (.cond (.t 0) (.seq (.region [.op 4 (.move (.k (.c (.int .i64 0))))] [0]) .ret) (.pre [] .skip))) (.seq (.region [.op 4 (.move (.k (.c (.int .i64 (-1)))))] [0]) .ret)) (.pre [0,1,2] .skip)))
@[simp] def Kd:SCode:=(.seq (.region [.op 13 (.move (.t 2))] [1,2,0]) (.cond (.t 2) (.seq (.region [.op 4 (.move (.k (.c (.int .i64 1))))] [0]) .ret) (.pre [0,1] .skip)))
@[simp] def Eq:SCode:=(.seq (.region [.op 14 (.move (.t 0)),.op 15 (.move (.t 2)),.op 16 (.bin .lss (.t 1) (.t 0))] [3,4,0]) (.cond (.t 2) (.seq (.region [.op 4 (.move (.k (.c (.int .i64 (-1)))))] [0]) .ret) (.pre [0,1] .skip)))
def zZ:SCode:=.seq Eq (.seq (.seq (.region [.op 17 (.move (.t 0)),.op 18 (.move (.t 2)),.op 19 (.bin .gtr (.t 1) (.t 0))] [0]) (.cond (.t 0) (.seq (.region [.op 4 (.move (.k (.c (.int .i64 1))))] [0]) .ret) (.pre [] .skip))) (.seq (.region [.op 4 (.move (.k (.c (.int .i64 0))))] [0]) .ret))
instance:IsSeq zZ Eq (.seq (.seq (.region [.op 17 (.move (.t 0)),.op 18 (.move (.t 2)),.op 19 (.bin .gtr (.t 1) (.t 0))] [0]) (.cond (.t 0) (.seq (.region [.op 4 (.move (.k (.c (.int .i64 1))))] [0]) .ret) (.pre [] .skip))) (.seq (.region [.op 4 (.move (.k (.c (.int .i64 0))))] [0]) .ret)):=⟨rfl⟩
def zE:SCode:=.seq Kd zZ
instance:IsSeq zE Kd zZ:=⟨rfl⟩
def AY:SCode:=.seq KB zE
instance:IsSeq AY KB zE:=⟨rfl⟩
def wt:SCode:=.seq KJ AY
instance:IsSeq wt KJ AY:=⟨rfl⟩
def JU:SCode:=.seq K0 wt
instance:IsSeq JU K0 wt:=⟨rfl⟩
def c60:SCode:=(.seq (.region [.op 4 (.move (.k (.c (.int .i64 0))))] [1,2]) JU)
def F60:SFunc:=.code .pure 20 2 [some 4] [.tmp 0] c60
@[simp] def HJ:SCode:=(.region [.op 20 (.move (.t 0)),.op 21 (.move (.t 2)),.op 22 (.indexStr (.t 1) (.t 0)),.op 4 (.move (.t 0))] [4,5,0])
@[simp] def H7:SCode:=(.region [.op 23 (.move (.t 2)),.op 24 (.bin .geq (.t 0) (.k (.c (.int .u8 97)))),.op 25 (.move (.t 0)),.andN 28 0 [.op 26 (.move (.t 5)),.op 27 (.bin .leq (.t 0) (.k (.c (.int .u8 122))))] (.t 0),.op 29 (.move (.t 0)),.orN 36 0 [.op 30 (.move (.t 7)),.op 31 (.bin .geq (.t 0) (.k (.c (.int .u8 65)))),.op 32 (.move (.t 0)),.andN 35 0 [.op 33 (.move (.t 10)),.op 34 (.bin .leq (.t 0) (.k (.c (.int .u8 90))))] (.t 0)] (.t 0),.op 5 (.move (.t 0))] [7,8,9,0])
@[simp] def H8:SCode:=(.region [.op 37 (.move (.t 3)),.op 38 (.not (.t 0)),.op 39 (.move (.t 0)),.andN 55 0 [.op 40 (.move (.t 4)),.op 41 (.bin .eql (.t 0) (.k (.c (.int .i64 0)))),.op 42 (.move (.t 0)),.orN 54 0 [.op 43 (.move (.t 8)),.op 44 (.bin .geq (.t 0) (.k (.c (.int .u8 48)))),.op 45 (.move (.t 0)),.andN 48 0 [.op 46 (.move (.t 11)),.op 47 (.bin .leq (.t 0) (.k (.c (.int .u8 57))))] (.t 0),.op 49 (.move (.t 0)),.orN 52 0 [.op 50 (.move (.t 13)),.op 51 (.bin .eql (.t 0) (.k (.c (.int .u8 95))))] (.t 0),.op 53 (.not (.t 0))] (.t 0)] (.t 0)] [4,5,0])
def zM:SCode:=.seq H8 (.cond (.t 2) (.seq (.region [.op 2 (.move (.k (.c (.bool false))))] [0]) .ret) (.pre [0,1] .skip))
instance:IsSeq zM H8 (.cond (.t 2) (.seq (.region [.op 2 (.move (.k (.c (.bool false))))] [0]) .ret) (.pre [0,1] .skip)):=⟨rfl⟩
def Bv:SCode:=.seq H7 zM
instance:IsSeq Bv H7 zM:=⟨rfl⟩
def zt:SCode:=.seq HJ Bv
instance:IsSeq zt HJ Bv:=⟨rfl⟩
def Jx:SCode:=.seq (.block 1 [some 0,some 3] zt) (.region [.op 18 (.move (.t 1)),.op 19 (.bin .add (.t 0) (.k (.c (.int .i64 1)))),.op 3 (.move (.t 0))] [3,0])
instance:IsSeq Jx (.block 1 [some 0,some 3] zt) (.region [.op 18 (.move (.t 1)),.op 19 (.bin .add (.t 0) (.k (.c (.int .i64 1)))),.op 3 (.move (.t 0))] [3,0]):=⟨rfl⟩
def lD:SCode:=(.seq (.seq (.region [.op 14 (.move (.t 1)),.op 15 (.move (.t 1)),.op 16 (.len 0 (.t 0)),.op 17 (.bin .lss (.t 2) (.t 0))] [4,5,0]) (.cond (.t 2) (.pre [0,1] .skip) (.pre [] (.exit 0)))) Jx)
def qD:SCode:=.loop true lD
@[simp] def IZ:SCode:=(.seq (.region [.op 6 (.move (.t 0)),.op 7 (.len 0 (.t 0)),.op 8 (.bin .lss (.t 0) (.k (.c (.int .i64 1)))),.op 9 (.move (.t 0)),.orN 13 0 [.op 10 (.move (.t 4)),.op 11 (.len 0 (.t 0)),.op 12 (.bin .gtr (.t 0) (.k (.c (.int .i64 24))))] (.t 0)] [5,0]) (.cond (.t 1) (.seq (.region [.op 2 (.move (.k (.c (.bool false))))] [0]) .ret) (.pre [0] .skip)))
def Ix:SCode:=.seq IZ (.seq (.seq (.region [.op 3 (.move (.k (.c (.int .i64 0))))] [1,0]) (.block 0 [] qD)) (.seq (.region [.op 2 (.move (.k (.c (.bool true))))] [0]) .ret))
instance:IsSeq Ix IZ (.seq (.seq (.region [.op 3 (.move (.k (.c (.int .i64 0))))] [1,0]) (.block 0 [] qD)) (.seq (.region [.op 2 (.move (.k (.c (.bool true))))] [0]) .ret)):=⟨rfl⟩
def c61:SCode:=(.seq (.region [.op 2 (.move (.k (.c (.bool false))))] [1]) Ix)
def F61:SFunc:=.code .pure 56 1 [some 2] [.tmp 0] c61
@[simp] def Ws:SCode:=(.region [.op 13 (.move (.t 3)),.op 14 (.idxSlice 3 (.t 2) (.t 4)),.op 15 (.load (some 3) (.t 0)),.op 4 (.new [(.c (.str [])),(.c (.str [])),.nil]),.op 3 (.move (.t 3)),.eff (.store 3 (.t 1) (.t 2))] [5,0,1,6,7,8])
@[simp] def S5:SCode:=(.draw 0 [.op 16 (.load (some 3) (.t 2)) none .var,.op 17 (.move (.t 1)),.op 18 (.move (.t 3)),.op 19 (.sliceSl 3 (.t 1) none (some (.t 0)) none),.op 20 (.call false (.k (.c (.func 134 [] []))) [(.t 3),(.t 0)]),.op 5 (.move (.t 0))] [6,0,9,10,11])
def Vw:SCode:=.seq S5 (.seq (.region [.op 21 (.move (.t 1)),.op 22 (.bin .neq (.t 0) (.k (.c (.int .i64 0))))] [2,3,4,5,6,0]) (.cond (.t 5) (.seq (.region [.op 23 (.move (.t 1)),.op 2 (.move (.t 0))] [0]) .ret) (.pre [0,2,3,4] .skip)))
def T7:SCode:=.seq Ws Vw
def U5:SCode:=.seq (.block 1 [some 0,some 9,some 10,some 11] T7) (.region [.op 24 (.bin .add (.t 3) (.k (.c (.int .i64 1)))),.op 11 (.move (.t 0))] [2,3,4,0])
def Sw:SCode:=.seq (.cond (.t 4) (.pre [0,1,2,3] .skip) (.pre [] (.exit 0))) U5
def Q4:SCode:=(.seq (.region [.op 12 (.bin .lss (.t 3) (.t 2))] [1,2,3,4,0]) Sw)
def Uy:SCode:=.loop true Q4
@[simp] def UX:SCode:=(.seq (.region [.op 6 (.move (.t 0)),.op 7 (.len 1 (.t 0)),.op 8 (.bin .gtr (.t 0) (.k (.c (.int .i64 160))))] [3,0]) (.cond (.t 1) (.seq (.region [.op 2 (.move (.k (.c (.int .i64 5))))] [0]) .ret) (.pre [0] .skip)))
def Tl:SCode:=.seq UX (.seq (.seq (.region [.op 9 (.move (.t 0)),.op 10 (.len 1 (.t 0)),.op 11 (.move (.k (.c (.int .i64 0))))] [3,2,1,0]) (.block 0 [] Uy)) (.seq (.region [.op 2 (.move (.k (.c (.int .i64 0))))] [0]) .ret))
def c63:SCode:=(.seq (.region [.op 2 (.move (.k (.c (.int .i64 0))))] [1]) Tl)
def F63:SFunc:=.code .pure 25 1 [some 2] [.tmp 0] c63
def c64:SCode:=(.seq (.region [.op 2 (.move (.k (.c (.int .i64 0))))] [1]) (.seq (.region [.op 3 (.move (.t 0)),.op 4 (.call false (.k (.c (.func 75 [] []))) [(.t 0),(.k (.c (.int .i64 0))),(.k (.c (.int .i64 160)))]),.op 2 (.move (.t 0))] [0]) .ret))
def F64:SFunc:=.code .pure 5 1 [some 2] [.tmp 0] c64
@[simp] def Uq:SCode:=(.region [.op 18 (.move (.t 6)),.op 19 (.idxSlice 3 (.t 5) (.t 7)),.op 20 (.load (some 3) (.t 0)),.op 8 (.new [(.c (.str [])),(.c (.str [])),.nil]),.op 7 (.move (.t 3)),.eff (.store 3 (.t 1) (.t 2))] [5,6,7,8,0,1,9,10,11])
@[simp] def Xl:SCode:=(.seq (.draw 0 [.op 21 (.move (.t 4)),.op 22 (.bin .eql (.t 0) (.k (.c (.int .i64 0)))),.op 23 (.move (.t 0)),.orN 34 0 [.op 24 (.fieldAddr 2 (.t 8)),.op 25 (.load none (.t 0)) none .var,.op 26 (.move (.t 5)),.op 27 (.move (.t 10)),.op 28 (.bin .sub (.t 0) (.k (.c (.int .i64 1)))),.op 29 (.idxSlice 3 (.t 2) (.t 0)),.op 30 (.fieldAddr 2 (.t 0)),.op 31 (.load none (.t 0)) none .old,.op 32 (.call false (.k (.c (.func 138 [] []))) [(.t 6),(.t 0)]),.op 33 (.not (.t 0))] (.t 0)] [4,5,6,7,8,9,10,11,12,0]) (.cond (.t 9) (.region [.op 35 (.move (.t 4)),.op 36 (.bin .add (.t 0) (.k (.c (.int .i64 1)))),.op 6 (.move (.t 0))] [3,4,5,0,8,9,10,11]) (.pre [0,1,2,3,5,6,7,8] .skip)))
@[simp] def Sp:SCode:=(.region [.op 37 (.move (.t 3)),.op 38 (.move (.t 2)),.op 39 (.bin .leq (.t 1) (.t 0))] [3,4,5,6,7,8,9,10,0])
def WC:SCode:=.seq Sp (.cond (.t 8) (.region [.op 40 (.move (.t 2)),.op 41 (.fieldAddr 0 (.t 5)),.op 42 (.load none (.t 0)),.op 43 (.buildSlice 2 none 1 [(.c (.str []))] [(0,(.t 0))]),.op 44 (.append none 16 (.t 3) (.t 0)),.op 5 (.move (.t 0))] [6,7,0,9,11,12,13]) (.pre [0,1,2,3,5,6,7] .skip))
def Wc:SCode:=.seq Xl WC
def SA:SCode:=.seq Uq Wc
def TQ:SCode:=.seq (.block 1 [some 0,some 1,some 5,some 6,some 14,some 15,some 16] SA) (.region [.op 45 (.bin .add (.t 6) (.k (.c (.int .i64 1)))),.op 16 (.move (.t 0))] [2,3,4,5,6,7,0])
def Sr:SCode:=.seq (.cond (.t 7) (.pre [0,1,2,3,4,5,6] .skip) (.pre [2] (.exit 0))) TQ
def Qz:SCode:=(.seq (.region [.op 17 (.bin .lss (.t 6) (.t 5))] [1,2,3,4,5,6,7,0]) Sr)
def Up:SCode:=.loop true Qz
@[simp] def Re:SCode:=(.region [.op 9 (.move (.t 0)),.op 10 (.call false (.k (.c (.func 99 [] []))) [(.t 0)]),.op 11 (.call false (.k (.c (.func 98 [] []))) [(.t 0),(.k (.c (.func 135 [] [])))]),.op 0 (.move (.t 0))] [0,5])
@[simp] def P7:SCode:=(.region [.op 12 (.move (.t 0)),.op 13 (.call false (.k (.c (.func 136 [] []))) [(.t 0),(.k (.c (.func 137 [] [])))])] [2,3])
def RA:SCode:=.seq (.region [.op 5 (.mkNil none)] [1,2,0]) (.seq (.region [.op 6 (.move (.k (.c (.int .i64 0))))] [1,2,3,0]) (.seq (.seq (.region [.op 14 (.move (.t 0)),.op 15 (.len 1 (.t 0)),.op 16 (.move (.k (.c (.int .i64 0))))] [3,4,5,6,2,1,0]) (.block 0 [some 5] Up)) (.seq (.region [.op 46 (.move (.t 0)),.op 4 (.move (.t 0))] [0]) .ret)))
def PZ:SCode:=.seq P7 RA
def WH:SCode:=.seq Re PZ
def c65:SCode:=(.seq (.region [.op 4 (.mkNil none)] [1,2]) WH)
def F65:SFunc:=.code .pure 47 2 [some 4] [.tmp 0] c65
@[simp] def JY:SCode:=(.region [.op 14 (.move (.t 3)),.op 15 (.idxSlice 3 (.t 2) (.t 4)),.op 16 (.load (some 3) (.t 0)),.op 4 (.new [(.c (.str [])),(.c (.str [])),(.c (.int .i64 0))]),.op 3 (.move (.t 3)),.eff (.store 3 (.t 1) (.t 2))] [5,0,1,6,7,8])
@[simp] def HT:SCode:=(.region [.op 17 (.move (.t 0)),.op 18 (.move (.t 2)),.op 19 (.sliceSl 3 (.t 1) none (some (.t 0)) none),.op 20 (.mkFunc 140 [] [(.t 5)]),.op 21 (.call false (.k (.c (.func 139 [] []))) [(.t 1),(.t 0)]),.op 5 (.move (.t 0))] [6,8,0,9,10,11])
@[simp] def IC:SCode:=(.draw 1 [.op 22 (.fieldAddr 0 (.t 1)),.op 23 (.load none (.t 0)) none .var,.op 24 (.call false (.k (.c (.func 85 [] []))) [(.t 0)]),.op 25 (.not (.t 0)),.op 26 (.call false (.k (.c (.func 73 [] []))) [(.t 0),(.k (.c (.int .i64 8)))]),.op 27 (.move (.t 7)),.op 28 (.call false (.k (.c (.func 73 [] []))) [(.t 0),(.k (.c (.int .i64 9)))]),.op 29 (.fieldAddr 1 (.t 8)),.op 30 (.load none (.t 0)) none .var,.op 31 (.call false (.k (.c (.func 85 [] []))) [(.t 0)]),.op 32 (.not (.t 0)),.op 33 (.call false (.k (.c (.func 73 [] []))) [(.t 0),(.k (.c (.int .i64 8)))]),.op 34 (.fieldAddr 2 (.t 13)),.op 35 (.load none (.t 0)) none .var,.op 36 (.call false (.k (.c (.func 75 [] []))) [(.t 0),(.k (.c (.int .i64 0))),(.k (.c (.int .i64 999999999)))]),.op 37 (.buildSlice 2 none 4 [(.c (.int .i64 0))] [(0,(.t 10)),(1,(.t 8)),(2,(.t 3)),(3,(.t 0))]) (some 0),.op 38 (.call false (.k (.c (.func 57 [] []))) [(.t 0)]),.op 6 (.move (.t 0))] [18,0,21,22,23])
def Bc:SCode:=.seq IC (.seq (.region [.op 39 (.move (.t 1)),.op 40 (.bin .neq (.t 0) (.k (.c (.int .i64 0))))] [2,3,4,5,6,0]) (.cond (.t 5) (.seq (.region [.op 41 (.move (.t 1)),.op 2 (.move (.t 0))] [0]) .ret) (.pre [0,2,3,4] .skip)))
instance:IsSeq Bc IC (.seq (.region [.op 39 (.move (.t 1)),.op 40 (.bin .neq (.t 0) (.k (.c (.int .i64 0))))] [2,3,4,5,6,0]) (.cond (.t 5) (.seq (.region [.op 41 (.move (.t 1)),.op 2 (.move (.t 0))] [0]) .ret) (.pre [0,2,3,4] .skip))):=⟨rfl⟩
def wI:SCode:=.seq HT Bc
instance:IsSeq wI HT Bc:=⟨rfl⟩
def xz:SCode:=.seq JY wI
instance:IsSeq xz JY wI:=⟨rfl⟩
def Ay:SCode:=.seq (.block 1 [some 0,some 10,some 11,some 12] xz) (.region [.op 42 (.bin .add (.t 3) (.k (.c (.int .i64 1)))),.op 12 (.move (.t 0))] [2,3,4,0])
instance:IsSeq Ay (.block 1 [some 0,some 10,some 11,some 12] xz) (.region [.op 42 (.bin .add (.t 3) (.k (.c (.int .i64 1)))),.op 12 (.move (.t 0))] [2,3,4,0]):=⟨rfl⟩
def Im:SCode:=.seq (.cond (.t 4) (.pre [0,1,2,3] .skip) (.pre [] (.exit 0))) Ay
instance:IsSeq Im (.cond (.t 4) (.pre [0,1,2,3] .skip) (.pre [] (.exit 0))) Ay:=⟨rfl⟩
def jt:SCode:=(.seq (.region [.op 13 (.bin .lss (.t 3) (.t 2))] [1,2,3,4,0]) Im)
def qn:SCode:=.loop true jt
@[simp] def Gb:SCode:=(.seq (.region [.op 7 (.move (.t 0)),.op 8 (.len 1 (.t 0)),.op 9 (.bin .gtr (.t 0) (.k (.c (.int .i64 160))))] [3,0]) (.cond (.t 1) (.seq (.region [.op 2 (.move (.k (.c (.int .i64 5))))] [0]) .ret) (.pre [0] .skip)))
def Ig:SCode:=.seq Gb (.seq (.seq (.region [.op 10 (.move (.t 0)),.op 11 (.len 1 (.t 0)),.op 12 (.move (.k (.c (.int .i64 0))))] [3,2,1,0]) (.block 0 [] qn)) (.seq (.region [.op 2 (.move (.k (.c (.int .i64 0))))] [0]) .ret))
instance:IsSeq Ig Gb (.seq (.seq (.region [.op 10 (.move (.t 0)),.op 11 (.len 1 (.t 0)),.op 12 (.move (.k (.c (.int .i64 0))))] [3,2,1,0]) (.block 0 [] qn)) (.seq (.region [.op 2 (.move (.k (.c (.int .i64 0))))] [0]) .ret)):=⟨rfl⟩
def c66:SCode:=(.seq (.region [.op 2 (.move (.k (.c (.int .i64 0))))] [1]) Ig)
def F66:SFunc:=.code .pure 43 1 [some 2] [.tmp 0] c66
@[simp] def HR:SCode:=(.region [.op 13 (.idxSlice 3 (.t 2) (.t 4)),.op 14 (.load (some 3) (.t 0)),.op 7 (.new [(.c (.str [])),(.c (.str [])),(.c (.int .i64 0))]),.eff (.store 3 (.t 0) (.t 1))] [3,4,0,5,6,7])
@[simp] def nf:SCode:=(.region [.op 15 (.move (.t 0)),.op 16 (.fieldAddr 1 (.t 3)),.op 17 (.load none (.t 0)),.op 18 (.lookup (.one 1) (.c (.int .i64 0)) false (.t 2) (.t 0)),.op 19 (.bin .add (.t 0) (.k (.c (.int .i64 1)))),.eff (.mapUpdate (.one 1) (.t 4) (.t 2) (.t 0))] [5,6,7,8,9,10])
@[simp] def mZ:SCode:=(.region [.op 20 (.move (.t 0)),.op 21 (.fieldAddr 1 (.t 3)),.op 22 (.load none (.t 0)),.op 23 (.lookup (.one 1) (.c (.int .i64 0)) false (.t 2) (.t 0)),.op 24 (.move (.t 4)),.op 25 (.move (.t 6)),.op 26 (.lookup (.one 1) (.c (.int .i64 0)) false (.t 1) (.t 0)),.op 27 (.bin .gtr (.t 3) (.t 0))] [8,9,10,11,12,13,0])
def wK:SCode:=.seq mZ (.cond (.t 6) (.region [.op 28 (.fieldAddr 1 (.t 2)),.op 29 (.load none (.t 0)),.op 5 (.move (.t 0))] [3,0,6,7,8]) (.pre [0,1,3,4,5] .skip))
instance:IsSeq wK mZ (.cond (.t 6) (.region [.op 28 (.fieldAddr 1 (.t 2)),.op 29 (.load none (.t 0)),.op 5 (.move (.t 0))] [3,0,6,7,8]) (.pre [0,1,3,4,5] .skip)):=⟨rfl⟩
def Be:SCode:=.seq nf wK
instance:IsSeq Be nf wK:=⟨rfl⟩
def Ag:SCode:=.seq HR Be
instance:IsSeq Ag HR Be:=⟨rfl⟩
def yf:SCode:=.seq (.block 1 [some 4,some 5,some 9,some 10,some 11] Ag) (.region [.op 30 (.bin .add (.t 4) (.k (.c (.int .i64 1)))),.op 11 (.move (.t 0))] [2,3,4,5,0])
instance:IsSeq yf (.block 1 [some 4,some 5,some 9,some 10,some 11] Ag) (.region [.op 30 (.bin .add (.t 4) (.k (.c (.int .i64 1)))),.op 11 (.move (.t 0))] [2,3,4,5,0]):=⟨rfl⟩
def IX:SCode:=.seq (.cond (.t 5) (.pre [0,1,2,3,4] .skip) (.pre [0,1] (.exit 0))) yf
instance:IsSeq IX (.cond (.t 5) (.pre [0,1,2,3,4] .skip) (.pre [0,1] (.exit 0))) yf:=⟨rfl⟩
def jB:SCode:=(.seq (.region [.op 12 (.bin .lss (.t 4) (.t 3))] [1,2,3,4,5,0]) IX)
def qX:SCode:=.loop true jB
def Lx:SCode:=.seq (.region [.op 8 (.makeMap),.op 4 (.move (.t 0))] [2,0]) (.seq (.region [.op 5 (.move (.k (.c (.str []))))] [1,2,0]) (.seq (.seq (.region [.op 9 (.move (.t 0)),.op 10 (.len 1 (.t 0)),.op 11 (.move (.k (.c (.int .i64 0))))] [4,5,2,1,0]) (.block 0 [some 4,some 5] qX)) (.seq (.region [.op 31 (.move (.t 1)),.op 32 (.move (.t 1)),.op 2 (.move (.t 1)),.op 3 (.move (.t 1))] [1,0]) .ret)))
instance:IsSeq Lx (.region [.op 8 (.makeMap),.op 4 (.move (.t 0))] [2,0]) (.seq (.region [.op 5 (.move (.k (.c (.str []))))] [1,2,0]) (.seq (.seq (.region [.op 9 (.move (.t 0)),.op 10 (.len 1 (.t 0)),.op 11 (.move (.k (.c (.int .i64 0))))] [4,5,2,1,0]) (.block 0 [some 4,some 5] qX)) (.seq (.region [.op 31 (.move (.t 1)),.op 32 (.move (.t 1)),.op 2 (.move (.t 1)),.op 3 (.move (.t 1))] [1,0]) .ret))):=⟨rfl⟩
def c67:SCode:=(.seq (.region [.op 2 (.move (.k (.c (.str [])))),.op 3 (.move (.k (.c (.map [] []))))] [2]) Lx)
def F67:SFunc:=.code .pure 33 1 [some 2,some 3] [.tmp 0,.tmp 1] c67
def c68:SCode:=(.region [.op 4 (.move (.t 0)),.op 5 (.move (.t 1)),.op 6 (.len 1 (.t 0)),.op 7 (.move (.t 4)),.op 8 (.call false (.k (.c (.func 141 [] []))) [(.t 3),(.t 1),(.t 0)])] [])
def F68:SFunc:=.code .shared 9 2 [] [] c68
@[simp] def IA:SCode:=(.draw 0 [.op 9 (.load none (.t 2)) none .var,.op 10 (.move (.t 1)),.op 11 (.idxSlice 3 (.t 1) (.t 0)),.op 12 (.fieldAddr 1 (.t 0)),.op 13 (.load none (.t 0)) none .old,.op 14 (.load none (.t 7)) none .var,.op 15 (.move (.t 7)),.op 16 (.idxSlice 3 (.t 1) (.t 0)),.op 17 (.fieldAddr 1 (.t 0)),.op 18 (.load none (.t 0)) none .old,.op 7 (.move (.t 5)),.op 8 (.move (.t 1))] [15,1,0])
@[simp] def Hr:SCode:=(.region [.op 19 (.load none (.t 0)),.op 20 (.move (.t 3)),.op 21 (.lookup (.one 1) (.c (.int .i64 0)) false (.t 1) (.t 0)),.op 22 (.load none (.t 3)),.op 23 (.move (.t 5)),.op 24 (.lookup (.one 1) (.c (.int .i64 0)) false (.t 1) (.t 0)),.op 25 (.call false (.k (.c (.func 60 [] []))) [(.t 3),(.t 0)]),.op 26 (.move (.t 8)),.op 27 (.move (.t 10)),.op 28 (.call false (.k (.c (.func 70 [] []))) [(.t 1),(.t 0)]),.op 29 (.buildSlice 2 none 2 [(.c (.int .i64 0))] [(0,(.t 3)),(1,(.t 0))]),.op 30 (.call false (.k (.c (.func 59 [] []))) [(.t 0)]),.op 6 (.move (.t 0))] [0])
def ye:SCode:=.seq Hr .ret
instance:IsSeq ye Hr .ret:=⟨rfl⟩
def JG:SCode:=.seq IA ye
instance:IsSeq JG IA ye:=⟨rfl⟩
def c69:SCode:=(.seq (.region [.op 6 (.move (.k (.c (.int .i64 0))))] [1,2,3,4]) JG)
def F69:SFunc:=.code .pure 31 4 [some 6] [.tmp 0] c69
@[simp] def JT:SCode:=(.region [.op 7 (.move (.t 0)),.op 8 (.call false (.k (.c (.func 142 [] []))) [(.t 0)]),.op 5 (.move (.t 0))] [3,4,0])
@[simp] def JM:SCode:=(.region [.op 9 (.move (.t 1)),.op 10 (.call false (.k (.c (.func 142 [] []))) [(.t 0)]),.op 6 (.move (.t 0))] [3,4,5,0])
@[simp] def KM:SCode:=(.seq (.region [.op 11 (.move (.t 2))] [1,2,4,0]) (.cond (.t 3) (.seq (.seq (.region [.op 12 (.move (.t 2))] [0]) (.cond (.t 0) (.seq (.region [.op 4 (.move (.k (.c (.int .i64 0))))] [0]) .ret) (.pre [] .skip))) (.seq (.region [.op 4 (.move (.k (.c (.int .i64 (-1)))))] [0]) .ret)) (.pre [0,1,2] .skip)))
@[simp] def Lh:SCode:=(.seq (.region [.op 13 (.move (.t 2))] [1,2,0]) (.cond (.t 2) (.seq (.region [.op 4 (.move (.k (.c (.int .i64 1))))] [0]) .ret) (.pre [0,1] .skip)))
@[simp] def DP:SCode:=(.seq (.region [.op 14 (.move (.t 0)),.op 15 (.move (.t 2)),.op 16 (.bin .lss (.t 1) (.t 0))] [3,4,0]) (.cond (.t 2) (.seq (.region [.op 4 (.move (.k (.c (.int .i64 (-1)))))] [0]) .ret) (.pre [0,1] .skip)))
def v9:SCode:=.seq DP (.seq (.seq (.region [.op 17 (.move (.t 0)),.op 18 (.move (.t 2)),.op 19 (.bin .gtr (.t 1) (.t 0))] [0]) (.cond (.t 0) (.seq (.region [.op 4 (.move (.k (.c (.int .i64 1))))] [0]) .ret) (.pre [] .skip))) (.seq (.region [.op 4 (.move (.k (.c (.int .i64 0))))] [0]) .ret))
instance:IsSeq v9 DP (.seq (.seq (.region [.op 17 (.move (.t 0)),.op 18 (.move (.t 2)),.op 19 (.bin .gtr (.t 1) (.t 0))] [0]) (.cond (.t 0) (.seq (.region [.op 4 (.move (.k (.c (.int .i64 1))))] [0]) .ret) (.pre [] .skip))) (.seq (.region [.op 4 (.move (.k (.c (.int .i64 0))))] [0]) .ret)):=⟨rfl⟩
def zL:SCode:=.seq Lh v9
instance:IsSeq zL Lh v9:=⟨rfl⟩
def BA:SCode:=.seq KM zL
instance:IsSeq BA KM zL:=⟨rfl⟩
def yv:SCode:=.seq JM BA
instance:IsSeq yv JM BA:=⟨rfl⟩
def KQ:SCode:=.seq JT yv
instance:IsSeq KQ JT yv:=⟨rfl⟩
def c70:SCode:=(.seq (.region [.op 4 (.move (.k (.c (.int .i64 0))))] [1,2]) KQ)
def F70:SFunc:=.code .pure 20 2 [some 4] [.tmp 0] c70
@[simp] def KX:SCode:=(.draw 0 [.op 7 (.load none (.t 2)) none .var,.op 8 (.move (.t 1)),.op 9 (.idxSlice 3 (.t 1) (.t 0)),.op 10 (.load (some 3) (.t 0)) none .old,.op 11 (.load none (.t 7)) none .var,.op 12 (.call false (.k (.c (.func 72 [] []))) [(.t 1),(.t 0)]),.op 13 (.load none (.t 8)) none .var,.op 14 (.move (.t 8)),.op 15 (.idxSlice 3 (.t 1) (.t 0)),.op 16 (.load (some 3) (.t 0)) none .old,.op 17 (.load none (.t 13)) none .var,.op 18 (.call false (.k (.c (.func 72 [] []))) [(.t 1),(.t 0)]),.op 19 (.call false (.k (.c (.func 60 [] []))) [(.t 6),(.t 0)]),.op 6 (.move (.t 0))] [0])
def Ii:SCode:=.seq KX .ret
instance:IsSeq Ii KX .ret:=⟨rfl⟩
def c71:SCode:=(.seq (.region [.op 6 (.move (.k (.c (.int .i64 0))))] [1,2,3,4]) Ii)
def F71:SFunc:=.code .pure 20 4 [some 6] [.tmp 0] c71
def c72:SCode:=(.seq (.region [.op 2 (.box (.t 0)),.op 4 (.move (.k (.c (.int .i64 0))))] [3,1]) (.seq (.seq (.region [.op 5 (.fieldAddr 1 (.t 1)),.op 6 (.load none (.t 0)),.op 7 (.move (.t 2)),.op 8 (.bin .eql (.t 1) (.t 0))] [0]) (.cond (.t 0) (.seq (.region [.op 4 (.move (.k (.c (.int .i64 0))))] [0]) .ret) (.pre [] .skip))) (.seq (.region [.op 4 (.move (.k (.c (.int .i64 1))))] [0]) .ret)))
def F72:SFunc:=.code .pure 9 2 [some 4] [.tmp 0] c72
def c73:SCode:=(.seq (.region [.op 4 (.move (.k (.c (.int .i64 0))))] [1,2]) (.seq (.seq (.region [.op 5 (.move (.t 0))] [2,0]) (.cond (.t 1) (.seq (.region [.op 6 (.move (.t 0)),.op 4 (.move (.t 0))] [0]) .ret) (.pre [] .skip))) (.seq (.region [.op 4 (.move (.k (.c (.int .i64 0))))] [0]) .ret)))
def F73:SFunc:=.code .pure 7 2 [some 4] [.tmp 0] c73
def c74:SCode:=(.seq (.region [.op 4 (.move (.k (.c (.bool false))))] [1,2]) (.seq (.region [.op 5 (.move (.t 0)),.op 6 (.move (.t 2)),.op 7 (.call false (.k (.c (.func 143 [] []))) [(.t 1),(.t 0)]),.op 8 (.bin .geq (.t 0) (.k (.c (.int .i64 0)))),.op 4 (.move (.t 0))] [0]) .ret))
def F74:SFunc:=.code .pure 9 2 [some 4] [.tmp 0] c74
def c75:SCode:=(.seq (.region [.op 6 (.move (.k (.c (.int .i64 0))))] [1,2,3]) (.seq (.region [.op 7 (.move (.t 0)),.op 8 (.move (.t 2)),.op 9 (.bin .lss (.t 1) (.t 0)),.op 10 (.move (.t 0)),.orN 14 0 [.op 11 (.move (.t 4)),.op 12 (.move (.t 7)),.op 13 (.bin .gtr (.t 1) (.t 0))] (.t 0),.op 15 (.call false (.k (.c (.func 73 [] []))) [(.t 0),(.k (.c (.int .i64 3)))]),.op 6 (.move (.t 0))] [0]) .ret))
def F75:SFunc:=.code .pure 16 3 [some 6] [.tmp 0] c75
@[simp] def HB:SCode:=(.draw 2 [.op 5 (.move (.t 0)),.op 6 (.move (.t 2)),.op 7 (.sliceSl 1 (.t 1) (some (.t 0)) none none),.op 8 (.call false (.k (.c (.func 118 [] []))) [(.t 0)]) (some 0),.op 9 (.move (.t 4)),.op 10 (.move (.t 6)),.op 11 (.sliceSl 1 (.t 1) none (some (.t 0)) none),.op 12 (.append none 8 (.t 3) (.t 0)) (some 1) .new,.op 4 (.move (.t 0))] [0])
def HZ:SCode:=.seq HB .ret
instance:IsSeq HZ HB .ret:=⟨rfl⟩
def c76:SCode:=(.seq (.region [.op 4 (.mkNil none)] [1,2]) HZ)
def F76:SFunc:=.code .pure 13 2 [some 4] [.tmp 0] c76
@[simp] def Iy:SCode:=(.region [.op 9 (.move (.t 0)),.op 10 (.call false (.k (.c (.func 75 [] []))) [(.t 0),(.k (.c (.int .i64 0))),(.k (.c (.int .i64 160)))]),.op 11 (.move (.t 5)),.op 12 (.move (.t 4)),.op 13 (.move (.t 6)),.op 14 (.buildSlice 2 none 2 [(.c (.int .i64 0))] [(0,(.t 1)),(1,(.t 0))]),.op 15 (.append none 8 (.t 3) (.t 0)),.op 16 (.call false (.k (.c (.func 58 [] []))) [(.t 0)]),.op 17 (.move (.t 8)),.op 18 (.bin .gtr (.t 0) (.k (.c (.int .i64 0)))),.op 19 (.move (.t 0)),.andN 27 0 [.op 20 (.move (.t 12)),.op 21 (.move (.t 12)),.op 22 (.bin .sub (.t 0) (.k (.c (.int .i64 1)))),.op 23 (.move (.t 16)),.op 24 (.bin .mul (.t 1) (.t 0)),.op 25 (.bin .add (.t 4) (.t 0)),.op 26 (.bin .gtr (.t 0) (.k (.c (.int .i64 86399999))))] (.t 0),.op 28 (.call false (.k (.c (.func 73 [] []))) [(.t 0),(.k (.c (.int .i64 4)))]),.op 29 (.buildSlice 2 none 3 [(.c (.int .i64 0))] [(0,(.t 11)),(1,(.t 5)),(2,(.t 0))]),.op 30 (.call false (.k (.c (.func 57 [] []))) [(.t 0)]),.op 8 (.move (.t 0))] [0])
def H9:SCode:=.seq Iy .ret
instance:IsSeq H9 Iy .ret:=⟨rfl⟩
def c77:SCode:=(.seq (.region [.op 8 (.move (.k (.c (.int .i64 0))))] [1,2,3,4]) H9)
def F77:SFunc:=.code .shared 31 4 [some 8] [.tmp 0] c77
@[simp] def Jl:SCode:=(.draw 0 [.op 36 (.fieldAddr 1 (.t 0)),.op 37 (.load none (.t 0)) none .var,.op 38 (.move (.t 4)),.op 39 (.idxSlice 1 (.t 1) (.t 0)),.op 40 (.load none (.t 0)) none .old,.op 41 (.fieldAddr 1 (.t 5)),.op 42 (.load none (.t 0)) none .var,.op 43 (.move (.t 8)),.op 44 (.idxSlice 1 (.t 1) (.t 0)),.op 45 (.load none (.t 0)) none .old,.op 46 (.bin .eql (.t 5) (.t 0))] [11,12,13,0])
def Ar:SCode:=.seq Jl (.cond (.t 3) (.seq (.region [.op 2 (.move (.k (.c (.int .i64 9))))] [0]) .ret) (.pre [0,1,2] .skip))
instance:IsSeq Ar Jl (.cond (.t 3) (.seq (.region [.op 2 (.move (.k (.c (.int .i64 9))))] [0]) .ret) (.pre [0,1,2] .skip)):=⟨rfl⟩
def KZ:SCode:=.seq (.block 3 [some 1,some 3,some 4] Ar) (.region [.op 34 (.move (.t 2)),.op 35 (.bin .add (.t 0) (.k (.c (.int .i64 1)))),.op 4 (.move (.t 0))] [3,4,0])
instance:IsSeq KZ (.block 3 [some 1,some 3,some 4] Ar) (.region [.op 34 (.move (.t 2)),.op 35 (.bin .add (.t 0) (.k (.c (.int .i64 1)))),.op 4 (.move (.t 0))] [3,4,0]):=⟨rfl⟩
def jv:SCode:=(.seq (.seq (.region [.op 31 (.move (.t 2)),.op 32 (.move (.t 2)),.op 33 (.bin .lss (.t 1) (.t 0))] [3,4,5,0]) (.cond (.t 3) (.pre [0,1,2] .skip) (.pre [0,1] (.exit 2)))) KZ)
def pV:SCode:=.loop true jv
@[simp] def LH:SCode:=(.seq (.region [.op 24 (.fieldAddr 1 (.t 0)),.op 25 (.load none (.t 0)),.op 26 (.move (.t 3)),.op 27 (.idxSlice 1 (.t 1) (.t 0)),.op 28 (.load none (.t 0)),.op 29 (.call false (.k (.c (.func 61 [] []))) [(.t 0)]),.op 30 (.not (.t 0))] [7,8,0]) (.cond (.t 2) (.seq (.region [.op 2 (.move (.k (.c (.int .i64 8))))] [0]) .ret) (.pre [0,1] .skip)))
def wL:SCode:=.seq LH (.seq (.region [.op 4 (.move (.k (.c (.int .i64 0))))] [1,2,0]) (.block 2 [some 1,some 3] pV))
instance:IsSeq wL LH (.seq (.region [.op 4 (.move (.k (.c (.int .i64 0))))] [1,2,0]) (.block 2 [some 1,some 3] pV)):=⟨rfl⟩
def Jz:SCode:=.seq (.block 1 [some 1,some 3] wL) (.region [.op 22 (.move (.t 1)),.op 23 (.bin .add (.t 0) (.k (.c (.int .i64 1)))),.op 3 (.move (.t 0))] [3,0])
instance:IsSeq Jz (.block 1 [some 1,some 3] wL) (.region [.op 22 (.move (.t 1)),.op 23 (.bin .add (.t 0) (.k (.c (.int .i64 1)))),.op 3 (.move (.t 0))] [3,0]):=⟨rfl⟩
def hZ:SCode:=(.seq (.seq (.region [.op 17 (.move (.t 1)),.op 18 (.fieldAddr 1 (.t 1)),.op 19 (.load none (.t 0)),.op 20 (.len 1 (.t 0)),.op 21 (.bin .lss (.t 3) (.t 0))] [5,6,0]) (.cond (.t 2) (.pre [0,1] .skip) (.pre [0] (.exit 0)))) Jz)
def vV:SCode:=.loop true hZ
@[simp] def IW:SCode:=(.seq (.region [.op 5 (.fieldAddr 0 (.t 0)),.op 6 (.load none (.t 0)),.op 7 (.call false (.k (.c (.func 144 [] []))) [(.t 0)]),.op 8 (.bin .eql (.t 0) (.k (.c (.int .i64 0))))] [4,0]) (.cond (.t 1) (.seq (.region [.op 2 (.move (.k (.c (.int .i64 13))))] [0]) .ret) (.pre [0] .skip)))
@[simp] def Dt:SCode:=(.seq (.region [.op 9 (.fieldAddr 1 (.t 0)),.op 10 (.load none (.t 0)),.op 11 (.len 1 (.t 0)),.op 12 (.bin .eql (.t 0) (.k (.c (.int .i64 0))))] [4,0]) (.cond (.t 1) (.seq (.region [.op 2 (.move (.k (.c (.int .i64 12))))] [0]) .ret) (.pre [0] .skip)))
@[simp] def DR:SCode:=(.seq (.region [.op 13 (.fieldAddr 1 (.t 0)),.op 14 (.load none (.t 0)),.op 15 (.len 1 (.t 0)),.op 16 (.bin .gtr (.t 0) (.k (.c (.int .i64 160))))] [4,0]) (.cond (.t 1) (.seq (.region [.op 2 (.move (.k (.c (.int .i64 5))))] [0]) .ret) (.pre [0] .skip)))
@[simp] def D6:SCode:=(.seq (.region [.op 3 (.move (.k (.c (.int .i64 0))))] [1,0]) (.block 0 [some 1] vV))
@[simp] def En:SCode:=(.seq (.draw 0 [.op 47 (.fieldAddr 2 (.t 0)),.op 48 (.load none (.t 0)) none .var,.op 49 (.fieldAddr 0 (.t 2)),.op 50 (.load none (.t 0)) none .var,.op 51 (.call false (.k (.c (.func 144 [] []))) [(.t 0)]),.op 52 (.call false (.k (.c (.func 145 [] []))) [(.t 3),(.k (.c (.int .i64 1))),(.t 0)]),.op 53 (.move (.t 0)),.orN 57 0 [.op 54 (.fieldAddr 3 (.t 7)),.op 55 (.load none (.t 0)) none .var,.op 56 (.call false (.k (.c (.func 145 [] []))) [(.t 0),(.k (.c (.int .i64 1))),(.k (.c (.int .i64 86399999)))])] (.t 0)] [0]) (.cond (.t 0) (.seq (.region [.op 2 (.move (.k (.c (.int .i64 3))))] [0]) .ret) (.pre [] .skip)))
def rW:SCode:=.seq En (.seq (.region [.op 2 (.move (.k (.c (.int .i64 0))))] [0]) .ret)
instance:IsSeq rW En (.seq (.region [.op 2 (.move (.k (.c (.int .i64 0))))] [0]) .ret):=⟨rfl⟩
def uC:SCode:=.seq D6 rW
instance:IsSeq uC D6 rW:=⟨rfl⟩
def sc:SCode:=.seq DR uC
instance:IsSeq sc DR uC:=⟨rfl⟩
def AQ:SCode:=.seq Dt sc
instance:IsSeq AQ Dt sc:=⟨rfl⟩
def Iq:SCode:=.seq IW AQ
instance:IsSeq Iq IW AQ:=⟨rfl⟩
def c78:SCode:=(.seq (.region [.op 1 (.box (.t 0)),.op 2 (.move (.k (.c (.int .i64 0))))] [1]) Iq)
def F78:SFunc:=.code .pure 58 1 [some 2] [.tmp 0] c78
@[simp] def KK:SCode:=(.seq (.region [.op 5 (.fieldAddr 0 (.t 1)),.op 6 (.load none (.t 0)),.op 7 (.fieldAddr 1 (.t 2)),.op 8 (.load none (.t 0)),.op 9 (.len 1 (.t 0)),.op 10 (.bin .sub (.t 0) (.k (.c (.int .i64 1)))),.op 11 (.call false (.k (.c (.func 145 [] []))) [(.t 4),(.k (.c (.int .i64 0))),(.t 0)])] [8,0]) (.cond (.t 1) (.seq (.region [.op 4 (.move (.k (.c (.int .i64 10))))] [0]) .ret) (.pre [0] .skip)))
@[simp] def H6:SCode:=(.seq (.draw 0 [.op 12 (.fieldAddr 1 (.t 0)),.op 13 (.load none (.t 0)) none .var,.op 14 (.call false (.k (.c (.func 147 [] []))) [(.k (.c (.str [])))]),.op 15 (.call false (.k (.c (.func 146 [] []))) [(.t 1),(.t 0)]),.op 16 (.not (.t 0))] [5,0]) (.cond (.t 1) (.seq (.region [.op 4 (.move (.k (.c (.int .i64 13))))] [0]) .ret) (.pre [0] .skip)))
@[simp] def Lq:SCode:=(.seq (.region [.op 17 (.fieldAddr 2 (.t 0)),.op 18 (.load none (.t 0)),.op 19 (.call false (.k (.c (.func 145 [] []))) [(.t 0),(.k (.c (.int .i64 0))),(.k (.c (.int .i64 86399999)))]),.op 20 (.move (.t 0)),.orN 24 0 [.op 21 (.fieldAddr 3 (.t 4)),.op 22 (.load none (.t 0)),.op 23 (.call false (.k (.c (.func 145 [] []))) [(.t 0),(.k (.c (.int .i64 0))),(.k (.c (.int .i64 86399999)))])] (.t 0)] [5,0]) (.cond (.t 1) (.seq (.region [.op 4 (.move (.k (.c (.int .i64 3))))] [0]) .ret) (.pre [0] .skip)))
@[simp] def Lr:SCode:=(.seq (.region [.op 25 (.fieldAddr 2 (.t 0)),.op 26 (.load none (.t 0)),.op 27 (.bin .neq (.t 0) (.k (.c (.int .i64 0)))),.op 28 (.move (.t 0)),.andN 34 0 [.op 29 (.fieldAddr 1 (.t 4)),.op 30 (.load none (.t 0)),.op 31 (.buildSlice 2 none 3 [(.c (.str []))] [(0,(.k (.c (.str [115,116,97,114,116])))),(1,(.k (.c (.str [104,111,108,100])))),(2,(.k (.c (.str [102,105,110,105,115,104]))))]),.op 32 (.call false (.k (.c (.func 146 [] []))) [(.t 1),(.t 0)]),.op 33 (.not (.t 0))] (.t 0)] [0]) (.cond (.t 0) (.seq (.region [.op 4 (.move (.k (.c (.int .i64 1))))] [0]) .ret) (.pre [] .skip)))
def zr:SCode:=.seq Lr (.seq (.region [.op 4 (.move (.k (.c (.int .i64 0))))] [0]) .ret)
instance:IsSeq zr Lr (.seq (.region [.op 4 (.move (.k (.c (.int .i64 0))))] [0]) .ret):=⟨rfl⟩
def Ao:SCode:=.seq Lq zr
instance:IsSeq Ao Lq zr:=⟨rfl⟩
def At:SCode:=.seq H6 Ao
instance:IsSeq At H6 Ao:=⟨rfl⟩
def Jw:SCode:=.seq KK At
instance:IsSeq Jw KK At:=⟨rfl⟩
def c79:SCode:=(.seq (.region [.op 2 (.box (.t 0)),.op 3 (.box (.t 2)),.op 4 (.move (.k (.c (.int .i64 0))))] [2,1]) Jw)
def F79:SFunc:=.code .pure 35 2 [some 4] [.tmp 0] c79
@[simp] def KN:SCode:=(.seq (.region [.op 6 (.load (some 4) (.t 1)),.op 7 (.call false (.k (.c (.func 148 [] []))) [(.t 0)]),.op 5 (.move (.t 0))] [3,4,0]) (.seq (.region [.op 8 (.move (.t 2)),.op 9 (.bin .neq (.t 0) (.k (.c (.int .i64 0))))] [2,3,4,0]) (.cond (.t 3) (.seq (.region [.op 10 (.move (.t 2)),.op 4 (.move (.t 0))] [0]) .ret) (.pre [0,1] .skip))))
def IS:SCode:=.seq KN (.seq (.region [.op 11 (.load (some 4) (.t 1)),.op 12 (.move (.t 1)),.op 13 (.call false (.k (.c (.func 149 [] []))) [(.t 1),(.t 0)]),.op 4 (.move (.t 0))] [0]) .ret)
instance:IsSeq IS KN (.seq (.region [.op 11 (.load (some 4) (.t 1)),.op 12 (.move (.t 1)),.op 13 (.call false (.k (.c (.func 149 [] []))) [(.t 1),(.t 0)]),.op 4 (.move (.t 0))] [0]) .ret):=⟨rfl⟩
def c80:SCode:=(.seq (.region [.op 2 (.box (.t 0)),.op 4 (.move (.k (.c (.int .i64 0))))] [3,1]) IS)
def F80:SFunc:=.code .pure 14 2 [some 4] [.tmp 0] c80
@[simp] def Ip:SCode:=(.region [.op 33 (.move (.t 4)),.op 34 (.idxSlice 11 (.t 3) (.t 5)),.op 35 (.load (some 11) (.t 0)),.op 7 (.new [(.c (.str [])),(.c (.str [])),(.c (.int .i64 0)),(.c (.int .i64 0)),(.c (.int .i64 0)),(.c (.int .i64 0)),(.c (.bool false)),(.c (.bool false)),(.c (.bool false)),.nil,.nil]),.op 6 (.move (.t 3)),.eff (.store 11 (.t 1) (.t 2))] [5,6,0,1,7,8,9])
@[simp] def Hw:SCode:=(.region [.op 36 (.fieldAddr 0 (.t 3)),.op 37 (.load none (.t 0)),.op 38 (.bin .eql (.t 0) (.k (.c (.str [111,110])))),.op 39 (.move (.t 0)),.andN 46 0 [.op 40 (.fieldAddr 1 (.t 5)),.op 41 (.load none (.t 0)),.op 42 (.move (.t 8)),.op 43 (.sliceSl 11 (.t 1) none (some (.t 0)) none),.op 44 (.mkFunc 154 [] [(.t 8),(.t 11)]),.op 45 (.call false (.k (.c (.func 123 [] []))) [(.t 1),(.t 0)])] (.t 0),.op 8 (.move (.t 0))] [6,7,9,0,10,11,12])
@[simp] def Ki:SCode:=(.region [.op 47 (.load (some 4) (.t 0)),.op 48 (.fieldAddr 0 (.t 2)),.op 49 (.load none (.t 0)),.op 50 (.load (some 11) (.t 5)),.op 51 (.call false (.k (.c (.func 156 [] []))) [(.t 3),(.t 1),(.t 0)]),.op 52 (.move (.t 8)),.op 53 (.call false (.k (.c (.func 126 [] []))) [(.t 0),(.k (.c (.int .i64 9)))]),.op 54 (.buildSlice 2 none 2 [(.c (.int .i64 0))] [(0,(.t 2)),(1,(.t 0))]),.op 55 (.call false (.k (.c (.func 125 [] []))) [(.t 0)]),.op 9 (.move (.t 0))] [10,11,0,14,15,16])
def xn:SCode:=.seq Ki (.seq (.region [.op 56 (.move (.t 2)),.op 57 (.bin .neq (.t 0) (.k (.c (.int .i64 0))))] [2,3,4,5,6,7,0]) (.cond (.t 6) (.seq (.region [.op 58 (.move (.t 2)),.op 4 (.move (.t 0))] [0]) .ret) (.pre [0,1,3,4,5] .skip)))
instance:IsSeq xn Ki (.seq (.region [.op 56 (.move (.t 2)),.op 57 (.bin .neq (.t 0) (.k (.c (.int .i64 0))))] [2,3,4,5,6,7,0]) (.cond (.t 6) (.seq (.region [.op 58 (.move (.t 2)),.op 4 (.move (.t 0))] [0]) .ret) (.pre [0,1,3,4,5] .skip))):=⟨rfl⟩
def yQ:SCode:=.seq Hw xn
instance:IsSeq yQ Hw xn:=⟨rfl⟩
def zP:SCode:=.seq Ip yQ
instance:IsSeq zP Ip yQ:=⟨rfl⟩
def yK:SCode:=.seq (.block 1 [some 2,some 3,some 29,some 30,some 31] zP) (.region [.op 59 (.bin .add (.t 4) (.k (.c (.int .i64 1)))),.op 31 (.move (.t 0))] [2,3,4,5,0])
instance:IsSeq yK (.block 1 [some 2,some 3,some 29,some 30,some 31] zP) (.region [.op 59 (.bin .add (.t 4) (.k (.c (.int .i64 1)))),.op 31 (.move (.t 0))] [2,3,4,5,0]):=⟨rfl⟩
def Jk:SCode:=.seq (.cond (.t 5) (.pre [0,1,2,3,4] .skip) (.pre [] (.exit 0))) yK
instance:IsSeq Jk (.cond (.t 5) (.pre [0,1,2,3,4] .skip) (.pre [] (.exit 0))) yK:=⟨rfl⟩
def jp:SCode:=(.seq (.region [.op 32 (.bin .lss (.t 4) (.t 3))] [1,2,3,4,5,0]) Jk)
def qi:SCode:=.loop true jp
@[simp] def CW:SCode:=(.seq (.draw 1 [.op 10 (.load (some 4) (.t 0)) none .var,.op 11 (.call false (.k (.c (.func 148 [] []))) [(.t 0)]),.op 12 (.fieldAddr 0 (.t 3)),.op 13 (.load none (.t 0)) none .var,.op 14 (.call false (.k (.c (.func 153 [] []))) [(.t 0),(.k (.c (.int .i64 0))),(.k (.c (.int .i64 86399999)))]),.op 15 (.fieldAddr 1 (.t 6)),.op 16 (.load none (.t 0)) none .var,.op 17 (.len 1 (.t 0)) none .old,.op 18 (.fieldAddr 1 (.t 8)),.op 19 (.load none (.t 0)) none .var,.op 20 (.len 1 (.t 0)) none .old,.op 21 (.bin .neq (.t 3) (.t 0)),.op 22 (.call false (.k (.c (.func 126 [] []))) [(.t 0),(.k (.c (.int .i64 2)))]),.op 23 (.buildSlice 2 none 3 [(.c (.int .i64 0))] [(0,(.t 11)),(1,(.t 8)),(2,(.t 0))]) (some 0),.op 24 (.call false (.k (.c (.func 125 [] []))) [(.t 0)]),.op 5 (.move (.t 0))] [16,17,0]) (.seq (.region [.op 25 (.move (.t 2)),.op 26 (.bin .neq (.t 0) (.k (.c (.int .i64 0))))] [2,3,4,0]) (.cond (.t 3) (.seq (.region [.op 27 (.move (.t 2)),.op 4 (.move (.t 0))] [0]) .ret) (.pre [0,1] .skip))))
def J4:SCode:=.seq CW (.seq (.seq (.region [.op 28 (.fieldAddr 1 (.t 1)),.op 29 (.load none (.t 0)),.op 30 (.len 1 (.t 0)),.op 31 (.move (.k (.c (.int .i64 0))))] [4,5,2,1,0]) (.block 0 [] qi)) (.seq (.region [.op 4 (.move (.k (.c (.int .i64 0))))] [0]) .ret))
instance:IsSeq J4 CW (.seq (.seq (.region [.op 28 (.fieldAddr 1 (.t 1)),.op 29 (.load none (.t 0)),.op 30 (.len 1 (.t 0)),.op 31 (.move (.k (.c (.int .i64 0))))] [4,5,2,1,0]) (.block 0 [] qi)) (.seq (.region [.op 4 (.move (.k (.c (.int .i64 0))))] [0]) .ret)):=⟨rfl⟩
def c82:SCode:=(.seq (.region [.op 2 (.box (.t 0)),.op 3 (.box (.t 2)),.op 4 (.move (.k (.c (.int .i64 0))))] [2,1]) J4)
def F82:SFunc:=.code .pure 60 2 [some 4] [.tmp 0] c82
@[simp] def IR:SCode:=(.region [.op 9 (.extract (.t 2) 1),.op 10 (.extract (.t 3) 2),.op 3 (.move (.t 1)),.op 4 (.move (.t 1))] [4,1,0,5])
@[simp] def Jj:SCode:=(.region [.op 11 (.move (.t 2)),.op 12 (.call false (.k (.c (.func 157 [] []))) [(.t 0)]),.op 13 (.not (.t 0)),.op 14 (.move (.t 0)),.andN 29 0 [.op 15 (.move (.t 5)),.op 16 (.bin .eql (.t 0) (.k (.c (.int .i64 0)))),.op 17 (.move (.t 0)),.orN 28 0 [.op 18 (.move (.t 9)),.op 19 (.bin .neq (.t 0) (.k (.c (.int .i32 95)))),.op 20 (.move (.t 0)),.andN 27 0 [.op 21 (.move (.t 12)),.op 22 (.bin .lss (.t 0) (.k (.c (.int .i32 48)))),.op 23 (.move (.t 0)),.orN 26 0 [.op 24 (.move (.t 15)),.op 25 (.bin .gtr (.t 0) (.k (.c (.int .i32 57))))] (.t 0)] (.t 0)] (.t 0)] (.t 0)] [5,8,0])
def zG:SCode:=.seq Jj (.cond (.t 2) (.seq (.region [.op 2 (.move (.k (.c (.bool false))))] [0]) .ret) (.pre [0,1] .skip))
instance:IsSeq zG Jj (.cond (.t 2) (.seq (.region [.op 2 (.move (.k (.c (.bool false))))] [0]) .ret) (.pre [0,1] .skip)):=⟨rfl⟩
def wC:SCode:=.seq IR zG
instance:IsSeq wC IR zG:=⟨rfl⟩
def xo:SCode:=.block 1 [some 0,some 6] wC
instance:IsBlock xo 1 [some 0,some 6] wC:=⟨rfl⟩
def LF:SCode:=.seq (.cond (.t 3) (.pre [0,1,2] .skip) (.pre [0] (.exit 0))) xo
instance:IsSeq LF (.cond (.t 3) (.pre [0,1,2] .skip) (.pre [0] (.exit 0))) xo:=⟨rfl⟩
def jz:SCode:=(.seq (.region [.op 7 (.next (.t 1)),.op 8 (.extract (.t 0) 0)] [2,3,1,0]) LF)
def yl:SCode:=.loop true jz
@[simp] def JI:SCode:=(.seq (.region [.op 5 (.move (.t 0)),.op 6 (.range (.t 0))] [2,0]) (.block 0 [some 0] yl))
def Kf:SCode:=.seq JI (.seq (.region [.op 30 (.move (.t 0)),.op 31 (.bin .neq (.t 0) (.k (.c (.str [])))),.op 32 (.move (.t 0)),.andN 36 0 [.op 33 (.move (.t 3)),.op 34 (.len 0 (.t 0)),.op 35 (.bin .leq (.t 0) (.k (.c (.int .i64 24))))] (.t 0),.op 2 (.move (.t 0))] [0]) .ret)
instance:IsSeq Kf JI (.seq (.region [.op 30 (.move (.t 0)),.op 31 (.bin .neq (.t 0) (.k (.c (.str [])))),.op 32 (.move (.t 0)),.andN 36 0 [.op 33 (.move (.t 3)),.op 34 (.len 0 (.t 0)),.op 35 (.bin .leq (.t 0) (.k (.c (.int .i64 24))))] (.t 0),.op 2 (.move (.t 0))] [0]) .ret):=⟨rfl⟩
def c85:SCode:=(.seq (.region [.op 2 (.move (.k (.c (.bool false))))] [1]) Kf)
def F85:SFunc:=.code .pure 37 1 [some 2] [.tmp 0] c85
def c86:SCode:=(.seq (.region [.op 4 (.move (.k (.c (.bool false))))] [1,2]) (.seq (.region [.op 5 (.move (.t 0)),.op 6 (.move (.t 2)),.op 7 (.call false (.k (.c (.func 158 [] []))) [(.t 1),(.t 0)]),.op 8 (.bin .geq (.t 0) (.k (.c (.int .i64 0)))),.op 4 (.move (.t 0))] [0]) .ret))
def F86:SFunc:=.code .pure 9 2 [some 4] [.tmp 0] c86
def c96:SCode:=(.seq (.region [.op 4 (.move (.k (.c (.bool false))))] [1,2]) (.seq (.region [.op 5 (.move (.t 0)),.op 6 (.move (.t 2)),.op 7 (.call false (.k (.c (.func 164 [] []))) [(.t 1),(.t 0)]),.op 8 (.bin .geq (.t 0) (.k (.c (.int .i64 0)))),.op 4 (.move (.t 0))] [0]) .ret))
def F96:SFunc:=.code .pure 9 2 [some 4] [.tmp 0] c96
end LM.GZ
namespace LM.GZ
open Go LM
@[simp] def TH:SCode:=(.region [.op 22 (.move (.t 0)),.op 23 (.move (.t 4)),.op 24 (.idxSlice 3 (.t 1) (.t 0)),.op 25 (.load (some 3) (.t 0)),.op 7 (.new [(.c (.str [])),(.c (.str [])),.nil]),.eff (.store 3 (.t 0) (.t 1))] [5,6,7,8,0])
@[simp] def Ue:SCode:=(.region [.op 26 (.move (.t 1)),.op 27 (.load (some 3) (.t 5)),.op 28 (.call false (.t 1) [(.t 0)]),.op 29 (.not (.t 0))] [4,5,6,7,8,0])
def Tj:SCode:=.seq Ue (.cond (.t 5) (.seq (.region [.op 30 (.move (.t 0)),.op 31 (.move (.t 3)),.op 32 (.load (some 3) (.t 6)),.op 33 (.idxSlice 3 (.t 2) (.t 1)),.eff (.store 3 (.t 0) (.t 1))] [4,5,6,7]) (.region [.op 34 (.move (.t 2)),.op 35 (.bin .add (.t 0) (.k (.c (.int .i64 1)))),.op 5 (.move (.t 0))] [3,4,0,6])) (.pre [0,1,2,3] .skip))
def S6:SCode:=.seq TH Tj
def VY:SCode:=.seq (.block 1 [some 0,some 1,some 5,some 6] S6) (.region [.op 20 (.move (.t 3)),.op 21 (.bin .add (.t 0) (.k (.c (.int .i64 1)))),.op 6 (.move (.t 0))] [3,4,5,0])
def PW:SCode:=(.seq (.seq (.region [.op 16 (.move (.t 3)),.op 17 (.move (.t 1)),.op 18 (.len 1 (.t 0)),.op 19 (.bin .lss (.t 2) (.t 0))] [4,5,6,7,0]) (.cond (.t 4) (.pre [0,1,2,3] .skip) (.pre [0,2] (.exit 0)))) VY)
def VN:SCode:=.loop true PW
@[simp] def Tu:SCode:=(.region [.op 8 (.move (.t 0)),.op 9 (.move (.t 2)),.op 10 (.call false (.k (.c (.func 164 [] []))) [(.t 1),(.t 0)]),.op 5 (.move (.t 0))] [4,5,0])
@[simp] def V0:SCode:=(.seq (.region [.op 11 (.move (.t 2)),.op 12 (.bin .eql (.t 0) (.k (.c (.int .i64 (-1)))))] [2,3,4,0]) (.cond (.t 3) (.seq (.region [.op 13 (.move (.t 0)),.op 4 (.move (.t 0))] [0]) .ret) (.pre [0,1,2] .skip)))
@[simp] def PG:SCode:=(.seq (.region [.op 14 (.move (.t 2)),.op 15 (.bin .add (.t 0) (.k (.c (.int .i64 1)))),.op 6 (.move (.t 0))] [3,4,5,0]) (.block 0 [some 0,some 5] VN))
def QI:SCode:=.seq PG (.seq (.region [.op 36 (.move (.t 0)),.op 37 (.move (.t 2)),.op 38 (.sliceSl 3 (.t 1) (some (.t 0)) none none),.eff (.clear [(.c (.str [])),(.c (.str [])),.nil] (.t 0))] [3,4]) (.seq (.region [.op 39 (.move (.t 0)),.op 40 (.move (.t 2)),.op 41 (.sliceSl 3 (.t 1) none (some (.t 0)) none),.op 4 (.move (.t 0))] [0]) .ret))
def VA:SCode:=.seq V0 QI
def TK:SCode:=.seq Tu VA
def c98:SCode:=(.seq (.region [.op 4 (.mkNil (some 3))] [1,2]) TK)
def F98:SFunc:=.code .shared 42 2 [some 4] [.tmp 0] c98
@[simp] def RC:SCode:=(.region [.op 13 (.move (.t 4)),.op 14 (.idxSlice 1 (.t 3) (.t 5)),.op 15 (.load none (.t 0)),.op 5 (.move (.t 2)),.op 6 (.move (.t 1))] [5,6,1,0,7,8,9])
@[simp] def PB:SCode:=(.seq (.region [.op 16 (.move (.t 2)),.op 17 (.move (.t 2)),.op 18 (.len 1 (.t 0)),.op 19 (.bin .geq (.t 2) (.t 0))] [4,5,6,7,8,9,10,0]) (.cond (.t 7) (.seq (.region [.op 4 (.move (.k (.c (.int .i64 1))))] [0]) .ret) (.pre [0,1,2,3,4,5,6] .skip)))
@[simp] def QZ:SCode:=(.region [.op 20 (.move (.t 1)),.op 21 (.move (.t 3)),.op 22 (.idxSlice 1 (.t 1) (.t 0)),.op 23 (.load none (.t 0)),.op 7 (.move (.t 0))] [5,6,8,0,9,10,11])
@[simp] def M4:SCode:=(.region [.op 24 (.move (.t 2)),.op 25 (.move (.t 4)),.op 26 (.call false (.k (.c (.func 60 [] []))) [(.t 1),(.t 0)]),.op 8 (.move (.t 0))] [4,5,0,8,9,10])
def QK:SCode:=.seq M4 (.seq (.region [.op 27 (.move (.t 2)),.op 28 (.bin .neq (.t 0) (.k (.c (.int .i64 0))))] [2,3,4,5,6,7,0]) (.cond (.t 6) (.seq (.region [.op 29 (.move (.t 2)),.op 4 (.move (.t 0))] [0]) .ret) (.pre [0,1,3,4,5] .skip)))
def Ri:SCode:=.seq QZ QK
def PL:SCode:=.seq PB Ri
def Q2:SCode:=.seq RC PL
def Qu:SCode:=.seq (.block 1 [some 0,some 1,some 9,some 10,some 11] Q2) (.region [.op 30 (.bin .add (.t 4) (.k (.c (.int .i64 1)))),.op 11 (.move (.t 0))] [2,3,4,5,0])
def RR:SCode:=.seq (.cond (.t 5) (.pre [0,1,2,3,4] .skip) (.pre [0,1] (.exit 0))) Qu
def MV:SCode:=(.seq (.region [.op 12 (.bin .lss (.t 4) (.t 3))] [1,2,3,4,5,0]) RR)
def Rp:SCode:=.loop true MV
@[simp] def N7:SCode:=(.seq (.region [.op 9 (.move (.t 0)),.op 10 (.len 1 (.t 0)),.op 11 (.move (.k (.c (.int .i64 0))))] [3,4,2,1,0]) (.block 0 [some 0,some 1] Rp))
def Nd:SCode:=.seq N7 (.seq (.seq (.region [.op 31 (.move (.t 0)),.op 32 (.len 1 (.t 0)),.op 33 (.move (.t 3)),.op 34 (.len 1 (.t 0)),.op 35 (.bin .lss (.t 2) (.t 0))] [0]) (.cond (.t 0) (.seq (.region [.op 4 (.move (.k (.c (.int .i64 (-1)))))] [0]) .ret) (.pre [] .skip))) (.seq (.region [.op 4 (.move (.k (.c (.int .i64 0))))] [0]) .ret))
def acp:SCode:=(.seq (.region [.op 4 (.move (.k (.c (.int .i64 0))))] [1,2]) Nd)
def NY:SFunc:=.code .pure 36 2 [some 4] [.tmp 0] acp
@[simp] def Ew:SCode:=(.block 1 [some 0,some 3,some 4] (.region [.op 18 (.move (.t 1)),.op 19 (.move (.t 1)),.op 20 (.move (.t 4)),.op 21 (.idxSlice 1 (.t 1) (.t 0)),.op 22 (.load none (.t 0)),.op 23 (.max (.t 4) [(.t 0)]),.op 3 (.move (.t 0))] [7,0,9]))
def DO:SCode:=.seq Ew (.region [.op 16 (.move (.t 2)),.op 17 (.bin .add (.t 0) (.k (.c (.int .i64 1)))),.op 4 (.move (.t 0))] [3,4,0])
instance:IsSeq DO Ew (.region [.op 16 (.move (.t 2)),.op 17 (.bin .add (.t 0) (.k (.c (.int .i64 1)))),.op 4 (.move (.t 0))] [3,4,0]):=⟨rfl⟩
def jU:SCode:=(.seq (.seq (.region [.op 12 (.move (.t 2)),.op 13 (.move (.t 1)),.op 14 (.len 1 (.t 0)),.op 15 (.bin .lss (.t 2) (.t 0))] [4,5,6,0]) (.cond (.t 3) (.pre [0,1,2] .skip) (.pre [1] (.exit 0)))) DO)
def nZ:SCode:=.loop true jU
@[simp] def Em:SCode:=(.seq (.region [.op 5 (.move (.t 0)),.op 6 (.len 1 (.t 0)),.op 7 (.bin .lss (.t 0) (.k (.c (.int .i64 1))))] [3,0]) (.cond (.t 1) (.region [.op 8 (.bad 18),.eff (.bad 41)] [1]) (.pre [0] .skip)))
def Eb:SCode:=.seq Em (.seq (.region [.op 9 (.move (.t 0)),.op 10 (.idxSlice 1 (.t 0) (.k (.c (.int .i64 0)))),.op 11 (.load none (.t 0)),.op 3 (.move (.t 0))] [4,0]) (.seq (.seq (.region [.op 4 (.move (.k (.c (.int .i64 1))))] [1,2,0]) (.block 0 [some 3] nZ)) (.seq (.region [.op 24 (.move (.t 0)),.op 2 (.move (.t 0))] [0]) .ret)))
instance:IsSeq Eb Em (.seq (.region [.op 9 (.move (.t 0)),.op 10 (.idxSlice 1 (.t 0) (.k (.c (.int .i64 0)))),.op 11 (.load none (.t 0)),.op 3 (.move (.t 0))] [4,0]) (.seq (.seq (.region [.op 4 (.move (.k (.c (.int .i64 1))))] [1,2,0]) (.block 0 [some 3] nZ)) (.seq (.region [.op 24 (.move (.t 0)),.op 2 (.move (.t 0))] [0]) .ret))):=⟨rfl⟩
def NC:SCode:=(.seq (.region [.op 2 (.move (.k (.c (.int .i64 0))))] [1]) Eb)
def Bl:SFunc:=.code .pure 25 1 [some 2] [.tmp 0] NC
def MG:SCode:=(.seq (.region [.op 4 (.move (.k (.c (.bool false))))] [1,2]) (.seq (.region [.op 5 (.move (.t 0)),.op 6 (.move (.t 2)),.op 7 (.call false (.k (.c (.func 176 [] []))) [(.t 1),(.t 0)]),.op 8 (.bin .geq (.t 0) (.k (.c (.int .i64 0)))),.op 4 (.move (.t 0))] [0]) .ret))
def zY:SFunc:=.code .pure 9 2 [some 4] [.tmp 0] MG
def ab8:SCode:=(.seq (.region [.op 1 (.box (.t 0)),.op 2 (.move (.k (.c (.bool false))))] [1]) (.seq (.region [.op 3 (.fieldAddr 0 (.t 0)),.op 4 (.load none (.t 0)),.op 5 (.bin .neq (.t 0) (.k (.c (.str [100,111,110,101])))),.op 2 (.move (.t 0))] [0]) .ret))
def Mb:SFunc:=.code .pure 6 1 [some 2] [.tmp 0] ab8
@[simp] def FD:SCode:=(.block 1 [some 5,some 6,some 7] (.seq (.region [.op 9 (.idxSlice 1 (.t 0) (.t 2)),.op 10 (.load none (.t 0)),.op 4 (.move (.t 0))] [0,3,4,5]) (.seq (.region [.op 11 (.move (.t 0)),.op 12 (.bin .neq (.t 0) (.k (.c (.int .i64 0))))] [2,3,4,5,0]) (.cond (.t 4) (.seq (.region [.op 13 (.move (.t 0)),.op 2 (.move (.t 0))] [0]) .ret) (.pre [1,2,3] .skip)))))
def uG:SCode:=.seq FD (.region [.op 14 (.bin .add (.t 2) (.k (.c (.int .i64 1)))),.op 7 (.move (.t 0))] [2,3,0])
instance:IsSeq uG FD (.region [.op 14 (.bin .add (.t 2) (.k (.c (.int .i64 1)))),.op 7 (.move (.t 0))] [2,3,0]):=⟨rfl⟩
def Ey:SCode:=.seq (.cond (.t 3) (.pre [0,1,2] .skip) (.pre [] (.exit 0))) uG
instance:IsSeq Ey (.cond (.t 3) (.pre [0,1,2] .skip) (.pre [] (.exit 0))) uG:=⟨rfl⟩
def ib:SCode:=(.seq (.region [.op 8 (.bin .lss (.t 2) (.t 1))] [1,2,3,0]) Ey)
def tp:SCode:=.loop true ib
def NR:SCode:=(.seq (.region [.op 2 (.move (.k (.c (.int .i64 0))))] [1]) (.seq (.seq (.region [.op 5 (.move (.t 0)),.op 6 (.len 1 (.t 0)),.op 7 (.move (.k (.c (.int .i64 0))))] [2,1,0]) (.block 0 [] tp)) (.seq (.region [.op 2 (.move (.k (.c (.int .i64 0))))] [0]) .ret)))
def A7:SFunc:=.code .pure 15 1 [some 2] [.tmp 0] NR
def Mx:SCode:=(.seq (.region [.op 4 (.move (.k (.c (.int .i64 0))))] [1,2]) (.seq (.seq (.region [.op 5 (.move (.t 0))] [2,0]) (.cond (.t 1) (.seq (.region [.op 6 (.move (.t 0)),.op 4 (.move (.t 0))] [0]) .ret) (.pre [] .skip))) (.seq (.region [.op 4 (.move (.k (.c (.int .i64 0))))] [0]) .ret)))
def Bo:SFunc:=.code .pure 7 2 [some 4] [.tmp 0] Mx
@[simp] def Pq:SCode:=(.region [.op 43 (.move (.t 5)),.op 44 (.indexArr 2 none (.t 5) (.t 6)),.op 8 (.move (.t 1)),.op 9 (.move (.t 1))] [4,1,0,5,6,7,8,9])
@[simp] def Ql:SCode:=(.seq (.region [.op 45 (.move (.t 2)),.op 46 (.bin .gtr (.t 0) (.k (.c (.int .i64 0))))] [2,3,4,5,6,7,8,9,0]) (.cond (.t 8) (.region [.op 47 (.move (.t 0)),.op 48 (.move (.t 2)),.op 49 (.idxSlice 1 (.t 1) (.t 0)),.op 50 (.load none (.t 0)),.op 51 (.bin .add (.t 0) (.k (.c (.int .i64 1)))),.op 52 (.idxSlice 1 (.t 4) (.t 3)),.eff (.store 1 (.t 0) (.t 1))] [6,7,8,9,10,11,12,13]) (.pre [0,1,2,3,4,5,6,7] .skip)))
def Px:SCode:=.seq Ql (.region [.op 53 (.move (.t 0)),.op 54 (.move (.t 2)),.op 55 (.bin .add (.k (.c (.int .i64 2))) (.t 0)),.op 56 (.idxSlice 1 (.t 2) (.t 0)),.op 57 (.load none (.t 0)),.op 58 (.move (.t 7)),.op 59 (.bin .sub (.t 1) (.t 0)),.op 60 (.idxSlice 1 (.t 6) (.t 4)),.eff (.store 1 (.t 0) (.t 1))] [8,11,12,13,14,15])
def Pu:SCode:=.seq Pq Px
def Rk:SCode:=.seq (.block 4 [some 5,some 30,some 31,some 32,some 40,some 41] Pu) (.region [.op 61 (.bin .add (.t 5) (.k (.c (.int .i64 1)))),.op 41 (.move (.t 0))] [2,3,4,5,6,0])
def QT:SCode:=.seq (.cond (.t 6) (.pre [0,1,2,3,4,5] .skip) (.pre [0,1,2,3] (.exit 3))) Rk
def OR:SCode:=(.seq (.region [.op 42 (.bin .lss (.t 5) (.k (.c (.int .i64 2))))] [1,2,3,4,5,6,0]) QT)
def QB:SCode:=.loop true OR
@[simp] def Nw:SCode:=(.region [.op 34 (.idxSlice 4 (.t 1) (.t 3)),.op 35 (.load (some 4) (.t 0)),.op 7 (.new [(.c (.int .i64 0)),(.c (.int .i64 0)),(.c (.int .i64 0)),(.c (.bool false))]),.eff (.store 4 (.t 0) (.t 1))] [3,0,4,5,6])
def Q6:SCode:=.seq Nw (.seq (.region [.op 36 (.fieldAddr 2 (.t 1)),.op 37 (.load none (.t 0)),.op 38 (.fieldAddr 1 (.t 3)),.op 39 (.load none (.t 0)),.op 40 (.build [(.c (.int .i64 0)),(.c (.int .i64 0))] [(0,1,(.t 2)),(1,1,(.t 0))]),.op 41 (.move (.k (.c (.int .i64 0))))] [6,8,9,10,1,0]) (.block 3 [some 5,some 30,some 31,some 32] QB))
def Qh:SCode:=.seq (.block 2 [some 5,some 30,some 31,some 32] Q6) (.region [.op 62 (.bin .add (.t 3) (.k (.c (.int .i64 1)))),.op 32 (.move (.t 0))] [2,3,4,0])
def Ru:SCode:=.seq (.cond (.t 4) (.pre [0,1,2,3] .skip) (.pre [0] (.exit 1))) Qh
def L8:SCode:=(.seq (.region [.op 33 (.bin .lss (.t 3) (.t 2))] [1,2,3,4,0]) Ru)
def QY:SCode:=.loop true L8
@[simp] def Oy:SCode:=(.region [.op 12 (.fieldAddr 1 (.t 1)),.op 13 (.load none (.t 0)),.op 14 (.bin .neq (.t 0) (.k (.c (.str [])))),.op 11 (.move (.t 0))] [4,5,0])
@[simp] def MJ:SCode:=(.region [.op 16 (.fieldAddr 0 (.t 0)),.op 17 (.load none (.t 0)),.op 18 (.bin .eql (.t 0) (.k (.c (.str [115,112,101,101,100])))),.op 15 (.move (.t 0))] [4,5,0])
@[simp] def Oo:SCode:=(.region [.op 25 (.fieldAddr 0 (.t 0)),.op 26 (.load none (.t 0)),.op 27 (.bin .eql (.t 0) (.k (.c (.str [98,111,117,108,100,101,114])))),.op 24 (.move (.t 0))] [4,5,0])
@[simp] def M8:SCode:=(.region [.op 28 (.makeSlice none 8 [(.c (.int .i64 0))] (.k (.c (.int .i64 4))) (.k (.c (.int .i64 4)))),.op 5 (.move (.t 0))] [3,0])
def OW:SCode:=.seq M8 (.seq (.seq (.region [.op 29 (.fieldAddr 9 (.t 0)),.op 30 (.load none (.t 0)),.op 31 (.len 1 (.t 0)),.op 32 (.move (.k (.c (.int .i64 0))))] [5,2,1,0]) (.block 1 [some 5] QY)) (.seq (.region [.op 63 (.move (.t 0)),.op 4 (.move (.t 0))] [0]) .ret))
@[simp] def Nf:SCode:=(.region [.op 65 (.fieldAddr 7 (.t 1)),.op 66 (.load none (.t 0)),.op 64 (.move (.t 0))] [3,4,0])
@[simp] def OU:SCode:=(.region [.op 67 (.fieldAddr 2 (.t 0)),.op 68 (.load none (.t 0)),.op 69 (.bin .mul (.k (.c (.int .i64 2))) (.t 0)),.op 70 (.bin .add (.t 0) (.k (.c (.int .i64 2)))),.op 71 (.fieldAddr 4 (.t 5)),.op 72 (.load none (.t 0)),.op 73 (.neg (.t 0)),.op 74 (.buildSlice 0 none 2 [(.c (.int .i64 0))] [(0,(.t 3)),(1,(.t 0))]),.op 4 (.move (.t 0))] [0])
def NE:SCode:=.seq OU .ret
def MO:SCode:=.cond (.t 2) NE (.pre [1] .skip)
def Mg:SCode:=.seq Nf MO
def NI:SCode:=.cond (.t 2) OW Mg
def OP:SCode:=.seq Oo NI
def M6:SCode:=.cond (.t 2) (.seq (.region [.op 19 (.fieldAddr 10 (.t 1)),.op 20 (.load none (.t 0)),.op 21 (.call false (.k (.c (.func 177 [] []))) [(.t 0)]),.op 22 (.neg (.t 0)),.op 23 (.buildSlice 0 none 1 [(.c (.int .i64 0))] [(0,(.t 0))]),.op 4 (.move (.t 0))] [0]) .ret) OP
def NB:SCode:=.seq MJ M6
def Ox:SCode:=.cond (.t 2) (.seq (.region [.op 4 (.mkNil none)] [0]) .ret) NB
def MY:SCode:=.seq Oy Ox
@[simp] def N5:SCode:=(.region [.op 75 (.fieldAddr 5 (.t 0)),.op 76 (.load none (.t 0)),.op 77 (.bin .mul (.k (.c (.int .i64 2))) (.t 0)),.op 10 (.move (.t 0))] [4,0])
@[simp] def NO:SCode:=(.seq (.region [.op 78 (.fieldAddr 6 (.t 0)),.op 79 (.load none (.t 0))] [2,3,0]) (.cond (.t 2) (.region [.op 80 (.move (.t 1)),.op 81 (.bin .add (.t 0) (.k (.c (.int .i64 1)))),.op 10 (.move (.t 0))] [3,0]) (.pre [0,1] .skip)))
def MC:SCode:=.seq NO (.seq (.region [.op 82 (.move (.t 1)),.op 83 (.fieldAddr 4 (.t 1)),.op 84 (.load none (.t 0)),.op 85 (.neg (.t 0)),.op 86 (.buildSlice 0 none 2 [(.c (.int .i64 0))] [(0,(.t 3)),(1,(.t 0))]),.op 4 (.move (.t 0))] [0]) .ret)
def Mh:SCode:=.seq N5 MC
def ON:SCode:=.seq (.block 0 [some 3] MY) Mh
def ac9:SCode:=(.seq (.region [.op 2 (.box (.t 0)),.op 3 (.box (.t 2)),.op 4 (.mkNil none)] [2,1]) ON)
def OT:SFunc:=.code .pure 87 2 [some 4] [.tmp 0] ac9
@[simp] def DE:SCode:=(.block 1 [some 0,some 3,some 4] (.region [.op 18 (.move (.t 1)),.op 19 (.move (.t 1)),.op 20 (.move (.t 4)),.op 21 (.idxSlice 1 (.t 1) (.t 0)),.op 22 (.load none (.t 0)),.op 23 (.min (.t 4) [(.t 0)]),.op 3 (.move (.t 0))] [7,0,9]))
def FZ:SCode:=.seq DE (.region [.op 16 (.move (.t 2)),.op 17 (.bin .add (.t 0) (.k (.c (.int .i64 1)))),.op 4 (.move (.t 0))] [3,4,0])
instance:IsSeq FZ DE (.region [.op 16 (.move (.t 2)),.op 17 (.bin .add (.t 0) (.k (.c (.int .i64 1)))),.op 4 (.move (.t 0))] [3,4,0]):=⟨rfl⟩
def jL:SCode:=(.seq (.seq (.region [.op 12 (.move (.t 2)),.op 13 (.move (.t 1)),.op 14 (.len 1 (.t 0)),.op 15 (.bin .lss (.t 2) (.t 0))] [4,5,6,0]) (.cond (.t 3) (.pre [0,1,2] .skip) (.pre [1] (.exit 0)))) FZ)
def n7:SCode:=.loop true jL
@[simp] def DY:SCode:=(.seq (.region [.op 5 (.move (.t 0)),.op 6 (.len 1 (.t 0)),.op 7 (.bin .lss (.t 0) (.k (.c (.int .i64 1))))] [3,0]) (.cond (.t 1) (.region [.op 8 (.bad 18),.eff (.bad 41)] [1]) (.pre [0] .skip)))
def FR:SCode:=.seq DY (.seq (.region [.op 9 (.move (.t 0)),.op 10 (.idxSlice 1 (.t 0) (.k (.c (.int .i64 0)))),.op 11 (.load none (.t 0)),.op 3 (.move (.t 0))] [4,0]) (.seq (.seq (.region [.op 4 (.move (.k (.c (.int .i64 1))))] [1,2,0]) (.block 0 [some 3] n7)) (.seq (.region [.op 24 (.move (.t 0)),.op 2 (.move (.t 0))] [0]) .ret)))
instance:IsSeq FR DY (.seq (.region [.op 9 (.move (.t 0)),.op 10 (.idxSlice 1 (.t 0) (.k (.c (.int .i64 0)))),.op 11 (.load none (.t 0)),.op 3 (.move (.t 0))] [4,0]) (.seq (.seq (.region [.op 4 (.move (.k (.c (.int .i64 1))))] [1,2,0]) (.block 0 [some 3] n7)) (.seq (.region [.op 24 (.move (.t 0)),.op 2 (.move (.t 0))] [0]) .ret))):=⟨rfl⟩
def NV:SCode:=(.seq (.region [.op 2 (.move (.k (.c (.int .i64 0))))] [1]) FR)
def AW:SFunc:=.code .pure 25 1 [some 2] [.tmp 0] NV
def OH:SCode:=(.seq (.region [.op 2 (.move (.k (.c (.bool false))))] [1]) (.seq (.region [.op 3 (.move (.t 0)),.op 4 (.move (.t 1)),.op 5 (.bin .neq (.t 1) (.t 0)),.op 2 (.move (.t 0))] [0]) .ret))
def v8:SFunc:=.code .pure 6 1 [some 2] [.tmp 0] OH
@[simp] def Pp:SCode:=(.region [.op 10 (.move (.t 0)),.op 11 (.mkFunc 183 [] [(.t 2)]),.op 12 (.call false (.k (.c (.func 96 [] []))) [(.t 1),(.t 0)]),.op 5 (.move (.t 0))] [4,5,0])
@[simp] def PJ:SCode:=(.region [.op 13 (.buildSlice 2 none 4 [(.c (.str []))] [(0,(.k (.c (.str [])))),(1,(.k (.c (.str [100,110,115])))),(2,(.k (.c (.str [100,110,102])))),(3,(.k (.c (.str [100,115,113]))))]),.op 14 (.fieldAddr 1 (.t 2)),.op 15 (.load none (.t 0)),.op 16 (.call false (.k (.c (.func 86 [] []))) [(.t 2),(.t 0)]),.op 6 (.move (.t 0))] [5,6,7,0])
@[simp] def RB:SCode:=(.region [.op 17 (.fieldAddr 2 (.t 1)),.op 18 (.load none (.t 0)),.op 19 (.call false (.k (.c (.func 184 [] []))) [(.t 0),(.k (.c (.func 185 [] [])))]),.op 7 (.move (.t 0))] [4,5,6,7,0])
@[simp] def Mt:SCode:=(.region [.op 22 (.move (.t 6)),.op 23 (.bin .geq (.t 0) (.k (.c (.int .i64 0))))] [2,3,4,5,6,7,8,0])
@[simp] def Mq:SCode:=(.draw 0 [.op 24 (.fieldAddr 1 (.t 1)),.op 25 (.load none (.t 0)) none .var,.op 26 (.bin .eql (.t 0) (.k (.c (.str [])))),.op 27 (.move (.t 0)),.andN 38 0 [.op 28 (.fieldAddr 2 (.t 5)),.op 29 (.load none (.t 0)) none .var,.op 30 (.len 1 (.t 0)) none .old,.op 31 (.move (.t 7)),.op 32 (.move (.t 14)),.op 33 (.idxSlice 3 (.t 1) (.t 0)),.op 34 (.fieldAddr 2 (.t 0)),.op 35 (.load none (.t 0)) none .old,.op 36 (.len 1 (.t 0)) none .old,.op 37 (.bin .neq (.t 6) (.t 0))] (.t 0),.op 8 (.move (.t 0))] [7,8,9,10,0])
def MM:SCode:=.cond (.t 7) Mq (.pre [1,2,3,4,5] .skip)
def P8:SCode:=.seq Mt MM
@[simp] def MR:SCode:=(.seq (.region [.op 20 (.move (.t 0)),.op 21 (.call false (.k (.c (.func 164 [] []))) [(.t 0),(.k (.c (.func 186 [] [])))]),.op 9 (.move (.t 0))] [3,4,5,6,7,8,0]) P8)
@[simp] def My:SCode:=(.draw 1 [.op 39 (.fieldAddr 0 (.t 0)),.op 40 (.load none (.t 0)) none .var,.op 41 (.call false (.k (.c (.func 85 [] []))) [(.t 0)]),.op 42 (.not (.t 0)),.op 43 (.call false (.k (.c (.func 73 [] []))) [(.t 0),(.k (.c (.int .i64 8)))]),.op 44 (.move (.t 6)),.op 45 (.call false (.k (.c (.func 73 [] []))) [(.t 0),(.k (.c (.int .i64 9)))]),.op 46 (.move (.t 9)),.op 47 (.not (.t 0)),.op 48 (.call false (.k (.c (.func 73 [] []))) [(.t 0),(.k (.c (.int .i64 13)))]),.op 49 (.fieldAddr 1 (.t 10)),.op 50 (.load none (.t 0)) none .var,.op 51 (.bin .neq (.t 0) (.k (.c (.str [])))),.op 52 (.move (.t 0)),.andN 57 0 [.op 53 (.fieldAddr 2 (.t 14)),.op 54 (.load none (.t 0)) none .var,.op 55 (.len 1 (.t 0)) none .old,.op 56 (.bin .gtr (.t 0) (.k (.c (.int .i64 0))))] (.t 0),.op 58 (.call false (.k (.c (.func 73 [] []))) [(.t 0),(.k (.c (.int .i64 1)))]),.op 59 (.fieldAddr 2 (.t 16)),.op 60 (.load none (.t 0)) none .var,.op 61 (.len 1 (.t 0)) none .old,.op 62 (.bin .gtr (.t 0) (.k (.c (.int .i64 8)))),.op 63 (.call false (.k (.c (.func 73 [] []))) [(.t 0),(.k (.c (.int .i64 5)))]),.op 64 (.move (.t 24)),.op 65 (.call false (.k (.c (.func 73 [] []))) [(.t 0),(.k (.c (.int .i64 3)))]),.op 66 (.move (.t 27)),.op 67 (.call false (.k (.c (.func 73 [] []))) [(.t 0),(.k (.c (.int .i64 2)))]),.op 68 (.buildSlice 2 none 7 [(.c (.int .i64 0))] [(0,(.t 20)),(1,(.t 18)),(2,(.t 15)),(3,(.t 9)),(4,(.t 4)),(5,(.t 2)),(6,(.t 0))]) (some 0),.op 69 (.call false (.k (.c (.func 57 [] []))) [(.t 0)]),.op 4 (.move (.t 0))] [0])
def OK:SCode:=.seq My .ret
def QP:SCode:=.seq MR OK
def RO:SCode:=.seq (.region [.op 8 (.move (.k (.c (.bool false))))] [1,2,3,4,5,0]) QP
def QG:SCode:=.seq RB RO
def PY:SCode:=.seq PJ QG
def RP:SCode:=.seq Pp PY
def aak:SCode:=(.seq (.region [.op 2 (.box (.t 0)),.op 4 (.move (.k (.c (.int .i64 0))))] [3,1]) RP)
def NK:SFunc:=.code .pure 70 2 [some 4] [.tmp 0] aak
def abe:SCode:=(.seq (.region [.op 1 (.box (.t 0)),.op 2 (.move (.k (.c (.bool false))))] [1]) (.seq (.region [.op 3 (.fieldAddr 1 (.t 0)),.op 4 (.load none (.t 0)),.op 5 (.bin .neq (.t 0) (.k (.c (.str [])))),.op 2 (.move (.t 0))] [0]) .ret))
def MH:SFunc:=.code .pure 6 1 [some 2] [.tmp 0] abe
def aaO:SCode:=(.region [.op 4 (.move (.t 0)),.op 5 (.move (.t 1)),.op 6 (.len 1 (.t 0)),.op 7 (.move (.t 4)),.op 8 (.call false (.k (.c (.func 187 [] []))) [(.t 3),(.t 1),(.t 0)])] [])
def MQ:SFunc:=.code .shared 9 2 [] [] aaO
def aaR:SCode:=(.seq (.region [.op 2 (.box (.t 0)),.op 3 (.box (.t 2)),.op 4 (.move (.k (.c (.int .i64 0))))] [2,1]) (.seq (.region [.op 5 (.fieldAddr 2 (.t 1)),.op 6 (.load none (.t 0)),.op 7 (.fieldAddr 2 (.t 2)),.op 8 (.load none (.t 0)),.op 9 (.call false (.k (.c (.func 117 [] []))) [(.t 2),(.t 0)]),.op 4 (.move (.t 0))] [0]) .ret))
def ML:SFunc:=.code .pure 10 2 [some 4] [.tmp 0] aaR
@[simp] def QW:SCode:=(.draw 0 [.op 16 (.move (.t 0)),.op 17 (.move (.t 3)),.op 18 (.idxSlice 1 (.t 1) (.t 0)),.op 19 (.load none (.t 0)) none .old,.op 20 (.move (.t 5)),.op 21 (.move (.t 7)),.op 22 (.idxSlice 1 (.t 1) (.t 0)),.op 23 (.load none (.t 0)) none .old,.op 24 (.bin .neq (.t 4) (.t 0))] [9,10,12,13,0])
def Qr:SCode:=.seq QW (.cond (.t 4) (.seq (.region [.op 4 (.move (.k (.c (.bool false))))] [0]) .ret) (.pre [0,1,2,3] .skip))
def Rj:SCode:=.seq (.region [.op 15 (.move (.t 3)),.op 5 (.move (.t 0))] [2,3,0,4,5]) Qr
def RD:SCode:=.seq (.block 1 [some 0,some 1,some 12,some 13] Rj) (.region [.op 25 (.bin .add (.t 3) (.k (.c (.int .i64 1)))),.op 13 (.move (.t 0))] [2,3,4,0])
def Po:SCode:=.seq (.cond (.t 4) (.pre [0,1,2,3] .skip) (.pre [] (.exit 0))) RD
def Np:SCode:=(.seq (.region [.op 14 (.bin .lss (.t 3) (.t 2))] [1,2,3,4,0]) Po)
def QM:SCode:=.loop true Np
@[simp] def Rw:SCode:=(.seq (.region [.op 6 (.move (.t 0)),.op 7 (.len 1 (.t 0)),.op 8 (.move (.t 3)),.op 9 (.len 1 (.t 0)),.op 10 (.bin .neq (.t 2) (.t 0))] [5,6,0]) (.cond (.t 2) (.seq (.region [.op 4 (.move (.k (.c (.bool false))))] [0]) .ret) (.pre [0,1] .skip)))
def Ro:SCode:=.seq Rw (.seq (.seq (.region [.op 11 (.move (.t 0)),.op 12 (.len 1 (.t 0)),.op 13 (.move (.k (.c (.int .i64 0))))] [3,4,1,0]) (.block 0 [] QM)) (.seq (.region [.op 4 (.move (.k (.c (.bool true))))] [0]) .ret))
def acx:SCode:=(.seq (.region [.op 4 (.move (.k (.c (.bool false))))] [1,2]) Ro)
def L6:SFunc:=.code .pure 26 2 [some 4] [.tmp 0] acx
def OB:SCode:=(.seq (.region [.op 4 (.move (.k (.c (.bool false))))] [1,2]) (.seq (.region [.op 5 (.move (.t 0)),.op 6 (.move (.t 2)),.op 7 (.call false (.k (.c (.func 188 [] []))) [(.t 1),(.t 0)]),.op 8 (.bin .geq (.t 0) (.k (.c (.int .i64 0)))),.op 4 (.move (.t 0))] [0]) .ret))
def zh:SFunc:=.code .pure 9 2 [some 4] [.tmp 0] OB
def NZ:SCode:=(.seq (.region [.op 2 (.box (.t 0)),.op 3 (.move (.k (.c (.bool false))))] [3,1]) (.seq (.region [.op 4 (.fieldAddr 0 (.t 1)),.op 5 (.load none (.t 0)),.op 6 (.fieldAddr 0 (.t 2)),.op 7 (.load none (.t 0)),.op 8 (.bin .eql (.t 2) (.t 0)),.op 3 (.move (.t 0))] [0]) .ret))
def vS:SFunc:=.code .pure 9 2 [some 3] [.tmp 0] NZ
@[simp] def Fj:SCode:=(.region [.op 14 (.move (.t 0)),.op 15 (.move (.t 5)),.op 16 (.move (.t 7)),.op 17 (.move (.t 5)),.op 18 (.call false (.k (.c (.func 189 [] []))) [(.t 3),(.t 2),(.t 1),(.t 0)])] [5,6,7,8,10])
def uA:SCode:=.seq Fj (.seq (.region [.op 19 (.move (.t 4)),.op 7 (.move (.t 0))] [2,3,4,5,0,6]) (.region [.op 20 (.move (.t 5)),.op 21 (.move (.t 4)),.op 22 (.bin .add (.t 1) (.t 0)),.op 8 (.move (.t 0))] [4,5,6,7,8,0]))
instance:IsSeq uA Fj (.seq (.region [.op 19 (.move (.t 4)),.op 7 (.move (.t 0))] [2,3,4,5,0,6]) (.region [.op 20 (.move (.t 5)),.op 21 (.move (.t 4)),.op 22 (.bin .add (.t 1) (.t 0)),.op 8 (.move (.t 0))] [4,5,6,7,8,0])):=⟨rfl⟩
def FV:SCode:=.block 1 [some 0,some 1,some 2,some 6,some 7,some 8] uA
instance:IsBlock FV 1 [some 0,some 1,some 2,some 6,some 7,some 8] uA:=⟨rfl⟩
def mn:SCode:=(.seq (.seq (.region [.op 11 (.move (.t 5)),.op 12 (.move (.t 2)),.op 13 (.bin .leq (.t 1) (.t 0))] [3,4,5,6,7,8,0]) (.cond (.t 6) (.pre [0,1,2,3,4,5] .skip) (.pre [0,1,2,3,4] (.exit 0)))) FV)
def og:SCode:=.loop true mn
@[simp] def Ch:SCode:=(.region [.op 36 (.move (.t 0)),.op 37 (.move (.t 5)),.op 38 (.move (.t 6)),.op 39 (.move (.t 6)),.op 40 (.bin .add (.t 1) (.t 0)),.op 41 (.move (.t 10)),.op 42 (.move (.t 8)),.op 43 (.call false (.k (.c (.func 190 [] []))) [(.t 6),(.t 5),(.t 2),(.t 1),(.t 0)])] [8,9,10,11,13])
def r8:SCode:=.seq Ch (.seq (.region [.op 44 (.move (.t 4)),.op 7 (.move (.t 0))] [2,3,4,5,0,6]) (.region [.op 45 (.move (.t 5)),.op 46 (.move (.t 4)),.op 47 (.bin .mul (.k (.c (.int .i64 2))) (.t 0)),.op 48 (.bin .add (.t 2) (.t 0)),.op 8 (.move (.t 0))] [5,6,7,8,9,0]))
instance:IsSeq r8 Ch (.seq (.region [.op 44 (.move (.t 4)),.op 7 (.move (.t 0))] [2,3,4,5,0,6]) (.region [.op 45 (.move (.t 5)),.op 46 (.move (.t 4)),.op 47 (.bin .mul (.k (.c (.int .i64 2))) (.t 0)),.op 48 (.bin .add (.t 2) (.t 0)),.op 8 (.move (.t 0))] [5,6,7,8,9,0])):=⟨rfl⟩
def DU:SCode:=.block 5 [some 0,some 1,some 2,some 6,some 7,some 8] r8
instance:IsBlock DU 5 [some 0,some 1,some 2,some 6,some 7,some 8] r8:=⟨rfl⟩
def pt:SCode:=(.seq (.seq (.region [.op 33 (.move (.t 5)),.op 34 (.move (.t 2)),.op 35 (.bin .leq (.t 1) (.t 0))] [3,4,5,6,7,8,0]) (.cond (.t 6) (.pre [0,1,2,3,4,5] .skip) (.pre [0,1,2,3,4] (.exit 4)))) DU)
def rO:SCode:=.loop true pt
@[simp] def Fu:SCode:=(.region [.op 31 (.move (.t 3)),.op 32 (.bin .mul (.k (.c (.int .i64 2))) (.t 0)),.op 7 (.move (.k (.c (.int .i64 0)))),.op 8 (.move (.t 1))] [4,5,6,7,1,0])
@[simp] def xc:SCode:=(.region [.op 52 (.move (.t 5)),.op 53 (.move (.t 2)),.op 54 (.bin .lss (.t 1) (.t 0))] [3,4,5,6,7,8,0])
def w9:SCode:=.seq xc (.cond (.t 6) (.region [.op 55 (.move (.t 0)),.op 56 (.move (.t 5)),.op 57 (.move (.t 7)),.op 58 (.move (.t 4)),.op 59 (.move (.t 6)),.op 60 (.call false (.k (.c (.func 190 [] []))) [(.t 4),(.t 3),(.t 2),(.t 1),(.t 0)])] [6,7,8,9]) (.pre [0,1,2,3] .skip))
instance:IsSeq w9 xc (.cond (.t 6) (.region [.op 55 (.move (.t 0)),.op 56 (.move (.t 5)),.op 57 (.move (.t 7)),.op 58 (.move (.t 4)),.op 59 (.move (.t 6)),.op 60 (.call false (.k (.c (.func 190 [] []))) [(.t 4),(.t 3),(.t 2),(.t 1),(.t 0)])] [6,7,8,9]) (.pre [0,1,2,3] .skip)):=⟨rfl⟩
@[simp] def wW:SCode:=(.seq (.region [.op 49 (.move (.t 4)),.op 50 (.move (.t 4)),.op 51 (.bin .add (.t 1) (.t 0)),.op 9 (.move (.t 0))] [4,5,6,7,8,0]) w9)
def pM:SCode:=.seq wW (.region [.op 61 (.move (.t 3)),.op 62 (.bin .mul (.t 0) (.k (.c (.int .i64 2)))),.op 6 (.move (.t 0))] [3,4,5,0])
instance:IsSeq pM wW (.region [.op 61 (.move (.t 3)),.op 62 (.bin .mul (.t 0) (.k (.c (.int .i64 2)))),.op 6 (.move (.t 0))] [3,4,5,0]):=⟨rfl⟩
def pf:SCode:=.seq (.block 4 [some 0,some 1,some 2,some 6,some 7] rO) pM
instance:IsSeq pf (.block 4 [some 0,some 1,some 2,some 6,some 7] rO) pM:=⟨rfl⟩
def tA:SCode:=.seq Fu pf
instance:IsSeq tA Fu pf:=⟨rfl⟩
def Ec:SCode:=.block 3 [some 0,some 1,some 2,some 6] tA
instance:IsBlock Ec 3 [some 0,some 1,some 2,some 6] tA:=⟨rfl⟩
def mt:SCode:=(.seq (.seq (.region [.op 28 (.move (.t 3)),.op 29 (.move (.t 2)),.op 30 (.bin .lss (.t 1) (.t 0))] [3,4,5,6,0]) (.cond (.t 4) (.pre [0,1,2,3] .skip) (.pre [] (.exit 2)))) Ec)
def oc:SCode:=.loop true mt
@[simp] def wy:SCode:=(.region [.op 10 (.move (.t 3)),.op 7 (.move (.k (.c (.int .i64 0)))),.op 8 (.move (.t 1))] [3,4,5,6,1,0])
def xU:SCode:=.seq wy (.seq (.block 0 [some 0,some 1,some 2,some 6,some 7] og) (.seq (.region [.op 23 (.move (.t 0)),.op 24 (.move (.t 5)),.op 25 (.move (.t 3)),.op 26 (.move (.t 5)),.op 27 (.call false (.k (.c (.func 189 [] []))) [(.t 3),(.t 2),(.t 1),(.t 0)])] [5,6,7,8]) (.block 2 [] oc)))
instance:IsSeq xU wy (.seq (.block 0 [some 0,some 1,some 2,some 6,some 7] og) (.seq (.region [.op 23 (.move (.t 0)),.op 24 (.move (.t 5)),.op 25 (.move (.t 3)),.op 26 (.move (.t 5)),.op 27 (.call false (.k (.c (.func 189 [] []))) [(.t 3),(.t 2),(.t 1),(.t 0)])] [5,6,7,8]) (.block 2 [] oc))):=⟨rfl⟩
def Nm:SCode:=(.seq (.region [.op 6 (.move (.k (.c (.int .i64 20))))] [1,2,3,0]) xU)
def y4:SFunc:=.code .shared 63 3 [] [] Nm
def Nk:SCode:=(.seq (.region [.op 2 (.move (.k (.c (.bool false))))] [1]) (.seq (.region [.op 3 (.move (.t 0)),.op 4 (.move (.t 1)),.op 5 (.bin .neq (.t 1) (.t 0)),.op 2 (.move (.t 0))] [0]) .ret))
def wl:SFunc:=.code .pure 6 1 [some 2] [.tmp 0] Nk
def rJ:SCode:=.seq (.region [.op 10 (.move (.t 3)),.op 5 (.move (.t 0))] [2,3,0,4,5]) (.seq (.region [.op 11 (.move (.t 1)),.op 12 (.move (.t 1)),.op 13 (.move (.t 4)),.op 14 (.idxSlice 1 (.t 1) (.t 0)),.op 15 (.load none (.t 0)),.op 16 (.bin .eql (.t 4) (.t 0))] [6,7,8,9,10,0]) (.cond (.t 5) (.seq (.region [.op 17 (.move (.t 2)),.op 4 (.move (.t 0))] [0]) .ret) (.pre [0,1,3,4] .skip)))
instance:IsSeq rJ (.region [.op 10 (.move (.t 3)),.op 5 (.move (.t 0))] [2,3,0,4,5]) (.seq (.region [.op 11 (.move (.t 1)),.op 12 (.move (.t 1)),.op 13 (.move (.t 4)),.op 14 (.idxSlice 1 (.t 1) (.t 0)),.op 15 (.load none (.t 0)),.op 16 (.bin .eql (.t 4) (.t 0))] [6,7,8,9,10,0]) (.cond (.t 5) (.seq (.region [.op 17 (.move (.t 2)),.op 4 (.move (.t 0))] [0]) .ret) (.pre [0,1,3,4] .skip))):=⟨rfl⟩
def tw:SCode:=.seq (.block 1 [some 0,some 1,some 7,some 8] rJ) (.region [.op 18 (.bin .add (.t 3) (.k (.c (.int .i64 1)))),.op 8 (.move (.t 0))] [2,3,4,0])
instance:IsSeq tw (.block 1 [some 0,some 1,some 7,some 8] rJ) (.region [.op 18 (.bin .add (.t 3) (.k (.c (.int .i64 1)))),.op 8 (.move (.t 0))] [2,3,4,0]):=⟨rfl⟩
def FF:SCode:=.seq (.cond (.t 4) (.pre [0,1,2,3] .skip) (.pre [] (.exit 0))) tw
instance:IsSeq FF (.cond (.t 4) (.pre [0,1,2,3] .skip) (.pre [] (.exit 0))) tw:=⟨rfl⟩
def iw:SCode:=(.seq (.region [.op 9 (.bin .lss (.t 3) (.t 2))] [1,2,3,4,0]) FF)
def tL:SCode:=.loop true iw
def Mk:SCode:=(.seq (.region [.op 4 (.move (.k (.c (.int .i64 0))))] [1,2]) (.seq (.seq (.region [.op 6 (.move (.t 0)),.op 7 (.len 1 (.t 0)),.op 8 (.move (.k (.c (.int .i64 0))))] [3,4,1,0]) (.block 0 [] tL)) (.seq (.region [.op 4 (.move (.k (.c (.int .i64 (-1)))))] [0]) .ret)))
def Bb:SFunc:=.code .pure 19 2 [some 4] [.tmp 0] Mk
@[simp] def FU:SCode:=(.region [.op 5 (.bin .eql (.t 0) (.k (.c (.str [108,101,97,100])))),.op 4 (.move (.t 0))] [2,0])
@[simp] def E8:SCode:=(.region [.op 7 (.bin .eql (.t 0) (.k (.c (.str [98,111,117,108,100,101,114])))),.op 6 (.move (.t 0))] [2,0])
def rE:SCode:=.seq E8 (.cond (.t 1) (.seq (.region [.op 2 (.move (.k (.c (.int .i64 8))))] [0]) .ret) (.seq (.region [.op 9 (.bin .eql (.t 0) (.k (.c (.str [115,112,101,101,100])))),.op 8 (.move (.t 0))] [0]) (.cond (.t 0) (.seq (.region [.op 2 (.move (.k (.c (.int .i64 8))))] [0]) .ret) (.pre [] .skip))))
instance:IsSeq rE E8 (.cond (.t 1) (.seq (.region [.op 2 (.move (.k (.c (.int .i64 8))))] [0]) .ret) (.seq (.region [.op 9 (.bin .eql (.t 0) (.k (.c (.str [115,112,101,101,100])))),.op 8 (.move (.t 0))] [0]) (.cond (.t 0) (.seq (.region [.op 2 (.move (.k (.c (.int .i64 8))))] [0]) .ret) (.pre [] .skip)))):=⟨rfl⟩
def uv:SCode:=.cond (.t 1) (.seq (.region [.op 2 (.move (.k (.c (.int .i64 64))))] [0]) .ret) rE
instance:IsCond uv (.t 1) (.seq (.region [.op 2 (.move (.k (.c (.int .i64 64))))] [0]) .ret) rE:=⟨rfl⟩
def sQ:SCode:=.seq FU uv
instance:IsSeq sQ FU uv:=⟨rfl⟩
def un:SCode:=.block 0 [] sQ
instance:IsBlock un 0 [] sQ:=⟨rfl⟩
def DW:SCode:=.seq (.seq (.region [.op 3 (.move (.t 0))] [0]) un) (.seq (.region [.op 2 (.move (.k (.c (.int .i64 0))))] [0]) .ret)
instance:IsSeq DW (.seq (.region [.op 3 (.move (.t 0))] [0]) un) (.seq (.region [.op 2 (.move (.k (.c (.int .i64 0))))] [0]) .ret):=⟨rfl⟩
def si:SCode:=(.seq (.region [.op 2 (.move (.k (.c (.int .i64 0))))] [1]) DW)
def Bh:SFunc:=.code .pure 10 1 [some 2] [.tmp 0] si
def Na:SCode:=(.seq (.region [.op 6 (.move (.k (.c (.bool false))))] [1,2,3]) (.seq (.region [.op 7 (.move (.t 0)),.op 8 (.move (.t 2)),.op 9 (.bin .lss (.t 1) (.t 0)),.op 10 (.move (.t 0)),.orN 14 0 [.op 11 (.move (.t 4)),.op 12 (.move (.t 7)),.op 13 (.bin .gtr (.t 1) (.t 0))] (.t 0),.op 6 (.move (.t 0))] [0]) .ret))
def yA:SFunc:=.code .pure 15 3 [some 6] [.tmp 0] Na
def L9:SCode:=(.seq (.region [.op 4 (.move (.k (.c (.bool false))))] [1,2]) (.seq (.region [.op 5 (.move (.t 1)),.op 6 (.move (.t 1)),.op 7 (.call false (.k (.c (.func 36 [] []))) [(.t 1),(.t 0)]),.op 4 (.move (.t 0))] [0]) .ret))
def wM:SFunc:=.code .pure 8 2 [some 4] [.tmp 0] L9
@[simp] def EN:SCode:=(.region [.op 5 (.bin .eql (.t 0) (.k (.c (.str [108,101,97,100])))),.op 4 (.move (.t 0))] [2,0])
@[simp] def EX:SCode:=(.region [.op 6 (.buildSlice 0 none 9 [(.c (.str []))] [(0,(.k (.c (.str [115,116,97,114,116])))),(1,(.k (.c (.str [104,111,108,100])))),(2,(.k (.c (.str [112,108,117,115])))),(3,(.k (.c (.str [116,111,112])))),(4,(.k (.c (.str [102,97,108,108])))),(5,(.k (.c (.str [111,117,116])))),(6,(.k (.c (.str [105,110,99,105,100,101,110,116])))),(7,(.k (.c (.str [97,98,115,101,110,116])))),(8,(.k (.c (.str [98,97,114]))))]),.op 2 (.move (.t 0))] [0])
def s4:SCode:=.seq EX .ret
instance:IsSeq s4 EX .ret:=⟨rfl⟩
@[simp] def Da:SCode:=(.region [.op 8 (.bin .eql (.t 0) (.k (.c (.str [98,111,117,108,100,101,114])))),.op 7 (.move (.t 0))] [2,0])
@[simp] def AZ:SCode:=(.region [.op 9 (.buildSlice 0 none 10 [(.c (.str []))] [(0,(.k (.c (.str [115,116,97,114,116])))),(1,(.k (.c (.str [97,116,116,101,109,112,116])))),(2,(.k (.c (.str [122,111,110,101])))),(3,(.k (.c (.str [116,111,112])))),(4,(.k (.c (.str [102,97,108,108])))),(5,(.k (.c (.str [108,101,97,118,101])))),(6,(.k (.c (.str [111,117,116])))),(7,(.k (.c (.str [105,110,99,105,100,101,110,116])))),(8,(.k (.c (.str [97,98,115,101,110,116])))),(9,(.k (.c (.str [98,97,114]))))]),.op 2 (.move (.t 0))] [0])
def pj:SCode:=.seq AZ .ret
instance:IsSeq pj AZ .ret:=⟨rfl⟩
@[simp] def yJ:SCode:=(.region [.op 11 (.bin .eql (.t 0) (.k (.c (.str [115,112,101,101,100])))),.op 10 (.move (.t 0))] [0])
@[simp] def Bz:SCode:=(.region [.op 12 (.buildSlice 0 none 7 [(.c (.str []))] [(0,(.k (.c (.str [115,116,97,114,116])))),(1,(.k (.c (.str [102,105,110,105,115,104])))),(2,(.k (.c (.str [102,97,108,115,101])))),(3,(.k (.c (.str [102,97,108,108])))),(4,(.k (.c (.str [105,110,99,105,100,101,110,116])))),(5,(.k (.c (.str [97,98,115,101,110,116])))),(6,(.k (.c (.str [98,97,114]))))]),.op 2 (.move (.t 0))] [0])
def pu:SCode:=.seq Bz .ret
instance:IsSeq pu Bz .ret:=⟨rfl⟩
def o8:SCode:=.cond (.t 0) pu (.pre [] .skip)
instance:IsCond o8 (.t 0) pu (.pre [] .skip):=⟨rfl⟩
def pm:SCode:=.seq yJ o8
instance:IsSeq pm yJ o8:=⟨rfl⟩
def pE:SCode:=.cond (.t 1) pj pm
instance:IsCond pE (.t 1) pj pm:=⟨rfl⟩
def rS:SCode:=.seq Da pE
instance:IsSeq rS Da pE:=⟨rfl⟩
def tQ:SCode:=.cond (.t 1) s4 rS
instance:IsCond tQ (.t 1) s4 rS:=⟨rfl⟩
def rF:SCode:=.seq EN tQ
instance:IsSeq rF EN tQ:=⟨rfl⟩
def sC:SCode:=.block 0 [] rF
instance:IsBlock sC 0 [] rF:=⟨rfl⟩
@[simp] def yU:SCode:=(.region [.op 13 (.buildSlice 0 none 14 [(.c (.str []))] [(0,(.k (.c (.str [115,116,97,114,116])))),(1,(.k (.c (.str [104,111,108,100])))),(2,(.k (.c (.str [112,108,117,115])))),(3,(.k (.c (.str [97,116,116,101,109,112,116])))),(4,(.k (.c (.str [122,111,110,101])))),(5,(.k (.c (.str [116,111,112])))),(6,(.k (.c (.str [102,97,108,108])))),(7,(.k (.c (.str [108,101,97,118,101])))),(8,(.k (.c (.str [111,117,116])))),(9,(.k (.c (.str [102,105,110,105,115,104])))),(10,(.k (.c (.str [102,97,108,115,101])))),(11,(.k (.c (.str [105,110,99,105,100,101,110,116])))),(12,(.k (.c (.str [97,98,115,101,110,116])))),(13,(.k (.c (.str [98,97,114]))))]),.op 2 (.move (.t 0))] [0])
def pF:SCode:=.seq yU .ret
instance:IsSeq pF yU .ret:=⟨rfl⟩
def EL:SCode:=.seq (.seq (.region [.op 3 (.move (.t 0))] [0]) sC) pF
instance:IsSeq EL (.seq (.region [.op 3 (.move (.t 0))] [0]) sC) pF:=⟨rfl⟩
def Ol:SCode:=(.seq (.region [.op 2 (.mkNil none)] [1]) EL)
def BC:SFunc:=.code .pure 14 1 [some 2] [.tmp 0] Ol
@[simp] def DH:SCode:=(.region [.op 32 (.move (.t 3)),.op 33 (.idxSlice 1 (.t 2) (.t 4)),.op 34 (.load none (.t 0)),.op 4 (.move (.t 2)),.op 5 (.move (.t 1))] [5,1,0,6,7,8])
@[simp] def Er:SCode:=(.draw 1 [.op 35 (.move (.t 2)),.op 36 (.call false (.k (.c (.func 85 [] []))) [(.t 0)]),.op 37 (.not (.t 0)),.op 38 (.call false (.k (.c (.func 126 [] []))) [(.t 0),(.k (.c (.int .i64 8)))]),.op 39 (.fieldAddr 1 (.t 4)),.op 40 (.load none (.t 0)) none .var,.op 41 (.move (.t 7)),.op 42 (.sliceSl 1 (.t 1) none (some (.t 0)) none),.op 43 (.move (.t 10)),.op 44 (.call false (.k (.c (.func 86 [] []))) [(.t 1),(.t 0)]),.op 45 (.call false (.k (.c (.func 126 [] []))) [(.t 0),(.k (.c (.int .i64 9)))]),.op 46 (.buildSlice 2 none 2 [(.c (.int .i64 0))] [(0,(.t 7)),(1,(.t 0))]) (some 0),.op 47 (.call false (.k (.c (.func 125 [] []))) [(.t 0)]),.op 6 (.move (.t 0))] [14,0,17,18,19])
def uu:SCode:=.seq Er (.seq (.region [.op 48 (.move (.t 1)),.op 49 (.bin .neq (.t 0) (.k (.c (.int .i64 0))))] [2,3,4,5,6,0]) (.cond (.t 5) (.seq (.region [.op 50 (.move (.t 1)),.op 2 (.move (.t 0))] [0]) .ret) (.pre [0,2,3,4] .skip)))
instance:IsSeq uu Er (.seq (.region [.op 48 (.move (.t 1)),.op 49 (.bin .neq (.t 0) (.k (.c (.int .i64 0))))] [2,3,4,5,6,0]) (.cond (.t 5) (.seq (.region [.op 50 (.move (.t 1)),.op 2 (.move (.t 0))] [0]) .ret) (.pre [0,2,3,4] .skip))):=⟨rfl⟩
def uE:SCode:=.seq DH uu
instance:IsSeq uE DH uu:=⟨rfl⟩
def sq:SCode:=.seq (.block 1 [some 1,some 28,some 29,some 30] uE) (.region [.op 51 (.bin .add (.t 3) (.k (.c (.int .i64 1)))),.op 30 (.move (.t 0))] [2,3,4,0])
instance:IsSeq sq (.block 1 [some 1,some 28,some 29,some 30] uE) (.region [.op 51 (.bin .add (.t 3) (.k (.c (.int .i64 1)))),.op 30 (.move (.t 0))] [2,3,4,0]):=⟨rfl⟩
def FN:SCode:=.seq (.cond (.t 4) (.pre [0,1,2,3] .skip) (.pre [0] (.exit 0))) sq
instance:IsSeq FN (.cond (.t 4) (.pre [0,1,2,3] .skip) (.pre [0] (.exit 0))) sq:=⟨rfl⟩
def j8:SCode:=(.seq (.region [.op 31 (.bin .lss (.t 3) (.t 2))] [1,2,3,4,0]) FN)
def sj:SCode:=.loop true j8
@[simp] def CH:SCode:=(.seq (.draw 1 [.op 7 (.fieldAddr 0 (.t 0)),.op 8 (.load none (.t 0)) none .var,.op 9 (.call false (.k (.c (.func 191 [] []))) [(.t 0)]),.op 10 (.bin .eql (.t 0) (.k (.c (.int .i64 0)))),.op 11 (.call false (.k (.c (.func 126 [] []))) [(.t 0),(.k (.c (.int .i64 13)))]),.op 12 (.fieldAddr 1 (.t 5)),.op 13 (.load none (.t 0)) none .var,.op 14 (.len 1 (.t 0)) none .old,.op 15 (.bin .eql (.t 0) (.k (.c (.int .i64 0)))),.op 16 (.call false (.k (.c (.func 126 [] []))) [(.t 0),(.k (.c (.int .i64 12)))]),.op 17 (.fieldAddr 1 (.t 10)),.op 18 (.load none (.t 0)) none .var,.op 19 (.len 1 (.t 0)) none .old,.op 20 (.bin .gtr (.t 0) (.k (.c (.int .i64 160)))),.op 21 (.call false (.k (.c (.func 126 [] []))) [(.t 0),(.k (.c (.int .i64 5)))]),.op 22 (.buildSlice 2 none 3 [(.c (.int .i64 0))] [(0,(.t 10)),(1,(.t 5)),(2,(.t 0))]) (some 0),.op 23 (.call false (.k (.c (.func 125 [] []))) [(.t 0)]),.op 3 (.move (.t 0))] [18,0]) (.seq (.region [.op 24 (.move (.t 1)),.op 25 (.bin .neq (.t 0) (.k (.c (.int .i64 0))))] [2,3,0]) (.cond (.t 2) (.seq (.region [.op 26 (.move (.t 1)),.op 2 (.move (.t 0))] [0]) .ret) (.pre [0] .skip))))
@[simp] def zA:SCode:=(.seq (.region [.op 27 (.fieldAddr 1 (.t 0)),.op 28 (.load none (.t 0)),.op 29 (.len 1 (.t 0)),.op 30 (.move (.k (.c (.int .i64 0))))] [4,2,1,0]) (.block 0 [some 1] sj))
@[simp] def wP:SCode:=(.draw 1 [.op 52 (.fieldAddr 2 (.t 0)),.op 53 (.load none (.t 0)) none .var,.op 54 (.fieldAddr 0 (.t 2)),.op 55 (.load none (.t 0)) none .var,.op 56 (.call false (.k (.c (.func 191 [] []))) [(.t 0)]),.op 57 (.call false (.k (.c (.func 153 [] []))) [(.t 3),(.k (.c (.int .i64 1))),(.t 0)]),.op 58 (.fieldAddr 3 (.t 6)),.op 59 (.load none (.t 0)) none .var,.op 60 (.call false (.k (.c (.func 153 [] []))) [(.t 0),(.k (.c (.int .i64 1))),(.k (.c (.int .i64 86399999)))]),.op 61 (.buildSlice 2 none 2 [(.c (.int .i64 0))] [(0,(.t 3)),(1,(.t 0))]) (some 0),.op 62 (.call false (.k (.c (.func 125 [] []))) [(.t 0)]),.op 2 (.move (.t 0))] [0])
def pA:SCode:=.seq wP .ret
instance:IsSeq pA wP .ret:=⟨rfl⟩
def ss:SCode:=.seq zA pA
instance:IsSeq ss zA pA:=⟨rfl⟩
def Dh:SCode:=.seq CH ss
instance:IsSeq Dh CH ss:=⟨rfl⟩
def NG:SCode:=(.seq (.region [.op 1 (.box (.t 0)),.op 2 (.move (.k (.c (.int .i64 0))))] [1]) Dh)
def zX:SFunc:=.code .pure 63 1 [some 2] [.tmp 0] NG
@[simp] def DV:SCode:=(.region [.op 15 (.idxSlice 4 (.t 1) (.t 3)),.op 16 (.load (some 4) (.t 0)),.op 6 (.new [(.c (.int .i64 0)),(.c (.str [])),(.c (.int .i64 0)),(.c (.int .i64 0))]),.eff (.store 4 (.t 0) (.t 1))] [3,0,4,5,6])
@[simp] def DZ:SCode:=(.region [.op 17 (.load (some 4) (.t 0)),.op 18 (.load (some 4) (.t 2)),.op 19 (.call false (.k (.c (.func 192 [] []))) [(.t 1),(.t 0)]),.op 7 (.move (.t 0))] [4,0,6,7,8])
def sH:SCode:=.seq DZ (.seq (.region [.op 20 (.move (.t 1)),.op 21 (.bin .neq (.t 0) (.k (.c (.int .i64 0))))] [2,3,4,5,6,0]) (.cond (.t 5) (.seq (.region [.op 22 (.move (.t 1)),.op 4 (.move (.t 0))] [0]) .ret) (.pre [0,2,3,4] .skip)))
instance:IsSeq sH DZ (.seq (.region [.op 20 (.move (.t 1)),.op 21 (.bin .neq (.t 0) (.k (.c (.int .i64 0))))] [2,3,4,5,6,0]) (.cond (.t 5) (.seq (.region [.op 22 (.move (.t 1)),.op 4 (.move (.t 0))] [0]) .ret) (.pre [0,2,3,4] .skip))):=⟨rfl⟩
def tg:SCode:=.seq DV sH
instance:IsSeq tg DV sH:=⟨rfl⟩
def sF:SCode:=.seq (.block 1 [some 2,some 11,some 12,some 13] tg) (.region [.op 23 (.bin .add (.t 3) (.k (.c (.int .i64 1)))),.op 13 (.move (.t 0))] [2,3,4,0])
instance:IsSeq sF (.block 1 [some 2,some 11,some 12,some 13] tg) (.region [.op 23 (.bin .add (.t 3) (.k (.c (.int .i64 1)))),.op 13 (.move (.t 0))] [2,3,4,0]):=⟨rfl⟩
def DC:SCode:=.seq (.cond (.t 4) (.pre [0,1,2,3] .skip) (.pre [] (.exit 0))) sF
instance:IsSeq DC (.cond (.t 4) (.pre [0,1,2,3] .skip) (.pre [] (.exit 0))) sF:=⟨rfl⟩
def jW:SCode:=(.seq (.region [.op 14 (.bin .lss (.t 3) (.t 2))] [1,2,3,4,0]) DC)
def nP:SCode:=.loop true jW
@[simp] def C3:SCode:=(.seq (.region [.op 8 (.move (.t 0)),.op 9 (.len 1 (.t 0)),.op 10 (.bin .gtr (.t 0) (.k (.c (.int .i64 256))))] [3,4,0]) (.cond (.t 2) (.seq (.region [.op 4 (.move (.k (.c (.int .i64 5))))] [0]) .ret) (.pre [0,1] .skip)))
def EP:SCode:=.seq C3 (.seq (.seq (.region [.op 11 (.move (.t 0)),.op 12 (.len 1 (.t 0)),.op 13 (.move (.k (.c (.int .i64 0))))] [4,2,1,0]) (.block 0 [] nP)) (.seq (.region [.op 4 (.move (.k (.c (.int .i64 0))))] [0]) .ret))
instance:IsSeq EP C3 (.seq (.seq (.region [.op 11 (.move (.t 0)),.op 12 (.len 1 (.t 0)),.op 13 (.move (.k (.c (.int .i64 0))))] [4,2,1,0]) (.block 0 [] nP)) (.seq (.region [.op 4 (.move (.k (.c (.int .i64 0))))] [0]) .ret)):=⟨rfl⟩
def Mj:SCode:=(.seq (.region [.op 2 (.box (.t 0)),.op 4 (.move (.k (.c (.int .i64 0))))] [3,1]) EP)
def xY:SFunc:=.code .pure 24 2 [some 4] [.tmp 0] Mj
@[simp] def gA:SCode:=(.draw 4 [.op 25 (.move (.t 0)),.op 26 (.nilCheck (.t 0)),.op 27 (.fieldAddr 4 (.t 0)),.op 28 (.fieldAddr 1 (.t 0)),.op 29 (.load none (.t 0)) none .var,.op 30 (.move (.t 6)),.op 31 (.move (.t 6)),.op 32 (.nilCheck (.t 0)),.op 33 (.fieldAddr 4 (.t 0)),.op 34 (.fieldAddr 1 (.t 0)),.op 35 (.load none (.t 0)) none .var,.op 36 (.move (.t 12)),.op 37 (.move (.t 12)),.op 38 (.nilCheck (.t 0)),.op 39 (.fieldAddr 4 (.t 0)),.op 40 (.fieldAddr 1 (.t 0)),.op 41 (.load none (.t 0)) none .var,.op 42 (.move (.t 18)),.op 43 (.idxSlice 11 (.t 1) (.t 0)),.op 44 (.fieldAddr 9 (.t 0)),.op 45 (.load none (.t 0)) none .old,.op 46 (.call false (.k (.c (.func 194 [] []))) [(.t 0)]) (some 0),.op 47 (.move (.t 22)),.op 48 (.nilCheck (.t 0)),.op 49 (.fieldAddr 4 (.t 0)),.op 50 (.fieldAddr 1 (.t 0)),.op 51 (.load none (.t 0)) none .var,.op 52 (.move (.t 28)),.op 53 (.idxSlice 11 (.t 1) (.t 0)),.op 54 (.fieldAddr 10 (.t 0)),.op 55 (.load none (.t 0)) none .old,.op 56 (.call false (.k (.c (.func 195 [] []))) [(.t 0)]) (some 2),.op 57 (.idxSlice 11 (.t 27) (.t 26)),.op 58 (.fieldAddr 9 (.t 0)),.eff (.store 1 (.t 0) (.t 12)) none .old,.op 59 (.idxSlice 11 (.t 23) (.t 22)),.op 60 (.fieldAddr 10 (.t 0)),.eff (.store 1 (.t 0) (.t 4)) none .old] [36,38,39])
def nS:SCode:=.seq (.region [.op 24 (.move (.t 2)),.op 6 (.move (.t 0))] [2,0,3,4]) gA
instance:IsSeq nS (.region [.op 24 (.move (.t 2)),.op 6 (.move (.t 0))] [2,0,3,4]) gA:=⟨rfl⟩
def nU:SCode:=.seq (.block 1 [some 5,some 21,some 22] nS) (.region [.op 61 (.bin .add (.t 2) (.k (.c (.int .i64 1)))),.op 22 (.move (.t 0))] [2,3,0])
instance:IsSeq nU (.block 1 [some 5,some 21,some 22] nS) (.region [.op 61 (.bin .add (.t 2) (.k (.c (.int .i64 1)))),.op 22 (.move (.t 0))] [2,3,0]):=⟨rfl⟩
def n8:SCode:=.seq (.cond (.t 3) (.pre [0,1,2] .skip) (.pre [0] (.exit 0))) nU
instance:IsSeq n8 (.cond (.t 3) (.pre [0,1,2] .skip) (.pre [0] (.exit 0))) nU:=⟨rfl⟩
def jM:SCode:=(.seq (.region [.op 23 (.bin .lss (.t 2) (.t 1))] [1,2,3,0]) n8)
def lm:SCode:=.loop true jM
@[simp] def lC:SCode:=(.draw 3 [.op 7 (.load (some 4) (.t 0)) none .var,.op 8 (.fieldAddr 0 (.t 2)),.op 9 (.load none (.t 0)) none .var,.op 10 (.fieldAddr 1 (.t 4)),.op 11 (.load none (.t 0)) none .var,.op 12 (.call false (.k (.c (.func 193 [] []))) [(.t 0)]) (some 0),.op 13 (.build [(.c (.int .i64 0)),.nil] [(0,1,(.t 3)),(1,1,(.t 0))]),.op 14 (.build [(.c (.str [])),.nil,(.c (.int .i64 0)),(.c (.int .i64 0)),(.c (.int .i64 0)),.nil] [(0,4,(.t 6)),(4,2,(.t 0))]),.op 15 (.box (.t 0)) (some 2),.op 5 (.move (.t 0))] [0])
def tX:SCode:=.seq lC (.seq (.seq (.region [.op 16 (.move (.t 0)),.op 17 (.nilCheck (.t 0)),.op 18 (.fieldAddr 4 (.t 0)),.op 19 (.fieldAddr 1 (.t 0)),.op 20 (.load none (.t 0)),.op 21 (.len 1 (.t 0)),.op 22 (.move (.k (.c (.int .i64 0))))] [7,1,0]) (.block 0 [some 5] lm)) (.seq (.region [.op 62 (.move (.t 0)),.op 4 (.move (.t 0))] [0]) .ret))
instance:IsSeq tX lC (.seq (.seq (.region [.op 16 (.move (.t 0)),.op 17 (.nilCheck (.t 0)),.op 18 (.fieldAddr 4 (.t 0)),.op 19 (.fieldAddr 1 (.t 0)),.op 20 (.load none (.t 0)),.op 21 (.len 1 (.t 0)),.op 22 (.move (.k (.c (.int .i64 0))))] [7,1,0]) (.block 0 [some 5] lm)) (.seq (.region [.op 62 (.move (.t 0)),.op 4 (.move (.t 0))] [0]) .ret)):=⟨rfl⟩
def AC:SCode:=(.seq (.region [.op 2 (.box (.t 0)),.op 3 (.box (.t 2)),.op 4 (.move (.k (.c .nilptr)))] [2,1]) tX)
def zC:SFunc:=.code .shared 63 2 [some 4] [.tmp 0] AC
@[simp] def jl:SCode:=(.region [.op 10 (.build [(.c (.str [])),(.c (.str [])),(.c (.int .i64 0)),(.c (.int .i64 0)),(.c (.int .i64 0)),(.c (.int .i64 0)),(.c (.bool false)),(.c (.bool false)),(.c (.bool false)),.nil,.nil] [(0,1,(.k (.c (.str [119,97,105,116,105,110,103]))))]),.op 4 (.new [(.c (.str [])),(.c (.str [])),(.c (.int .i64 0)),(.c (.int .i64 0)),(.c (.int .i64 0)),(.c (.int .i64 0)),(.c (.bool false)),(.c (.bool false)),(.c (.bool false)),.nil,.nil]),.eff (.store 11 (.t 0) (.t 1))] [2,3,4,0,5,6])
@[simp] def jm:SCode:=(.seq (.region [.op 11 (.fieldAddr 0 (.t 0)),.op 12 (.load none (.t 0)),.op 13 (.bin .eql (.t 0) (.k (.c (.str [98,111,117,108,100,101,114]))))] [3,4,5,6,7,8,0]) (.cond (.t 6) (.region [.op 14 (.fieldAddr 2 (.t 0)),.op 15 (.load none (.t 0)),.op 16 (.makeSlice (some 4) 32 [(.c (.int .i64 0)),(.c (.int .i64 0)),(.c (.int .i64 0)),(.c (.bool false))] (.t 0) (.t 0)),.op 17 (.fieldAddr 9 (.t 6)),.eff (.store 1 (.t 0) (.t 1))] [4,5,6,7,8,9]) (.pre [0,1,2,3,4,5] .skip)))
@[simp] def jo:SCode:=(.region [.op 18 (.fieldAddr 1 (.t 2)),.op 19 (.load none (.t 0)),.op 20 (.load (some 11) (.t 5)),.op 21 (.buildSlice 2 (some 11) 1 [(.c (.str [])),(.c (.str [])),(.c (.int .i64 0)),(.c (.int .i64 0)),(.c (.int .i64 0)),(.c (.int .i64 0)),(.c (.bool false)),(.c (.bool false)),(.c (.bool false)),.nil,.nil] [(0,(.t 0))]),.op 22 (.append (some 11) 120 (.t 2) (.t 0)),.op 23 (.fieldAddr 1 (.t 7)),.eff (.store 1 (.t 0) (.t 1))] [6,7,8,10,11])
def iq:SCode:=.seq jm jo
instance:IsSeq iq jm jo:=⟨rfl⟩
def d8:SCode:=.seq jl iq
instance:IsSeq d8 jl iq:=⟨rfl⟩
def nR:SCode:=.seq (.block 1 [some 1,some 2,some 3,some 7,some 8] d8) (.region [.op 24 (.bin .add (.t 4) (.k (.c (.int .i64 1)))),.op 8 (.move (.t 0))] [2,3,4,5,0])
instance:IsSeq nR (.block 1 [some 1,some 2,some 3,some 7,some 8] d8) (.region [.op 24 (.bin .add (.t 4) (.k (.c (.int .i64 1)))),.op 8 (.move (.t 0))] [2,3,4,5,0]):=⟨rfl⟩
def nT:SCode:=.seq (.cond (.t 5) (.pre [0,1,2,3,4] .skip) (.pre [1,2] (.exit 0))) nR
instance:IsSeq nT (.cond (.t 5) (.pre [0,1,2,3,4] .skip) (.pre [1,2] (.exit 0))) nR:=⟨rfl⟩
def jT:SCode:=(.seq (.region [.op 9 (.bin .lss (.t 4) (.t 3))] [1,2,3,4,5,0]) nT)
def nJ:SCode:=.loop true jT
def Cs:SCode:=.seq (.region [.op 3 (.new [(.c (.int .i64 0)),.nil])] [1,2,0]) (.seq (.seq (.region [.op 5 (.fieldAddr 1 (.t 0)),.op 6 (.load none (.t 0)),.op 7 (.len 1 (.t 0)),.op 8 (.move (.k (.c (.int .i64 0))))] [4,5,6,1,0]) (.block 0 [some 2,some 3] nJ)) (.seq (.region [.op 25 (.load (some 2) (.t 1)),.eff (.store 2 (.t 1) (.t 0))] [1]) .ret))
instance:IsSeq Cs (.region [.op 3 (.new [(.c (.int .i64 0)),.nil])] [1,2,0]) (.seq (.seq (.region [.op 5 (.fieldAddr 1 (.t 0)),.op 6 (.load none (.t 0)),.op 7 (.len 1 (.t 0)),.op 8 (.move (.k (.c (.int .i64 0))))] [4,5,6,1,0]) (.block 0 [some 2,some 3] nJ)) (.seq (.region [.op 25 (.load (some 2) (.t 1)),.eff (.store 2 (.t 1) (.t 0))] [1]) .ret)):=⟨rfl⟩
def xR:SCode:=(.seq (.region [.op 1 (.box (.t 0)),.op 2 (.new [(.c (.int .i64 0)),.nil])] [1,0]) Cs)
def xA:SFunc:=.code .pure 26 1 [some 2] [.cell 0 (some 2)] xR
def uw:SCode:=(.seq (.region [.op 2 (.box (.t 0)),.op 3 (.box (.t 2)),.op 4 (.move (.k (.c .nilfunc)))] [2,1]) (.seq (.region [.op 5 (.mkFunc 196 [] [(.t 1),(.t 0)]),.op 4 (.move (.t 0))] [0]) .ret))
def xL:SFunc:=.code .shared 6 2 [some 4] [.tmp 0] uw
def Ni:SCode:=(.seq (.region [.op 6 (.move (.k (.c (.int .i64 0))))] [1,2,3]) (.seq (.region [.op 7 (.move (.t 0)),.op 8 (.move (.t 2)),.op 9 (.move (.t 4)),.op 10 (.call false (.k (.c (.func 199 [] []))) [(.t 2),(.t 1),(.t 0)]),.op 11 (.call false (.k (.c (.func 126 [] []))) [(.t 0),(.k (.c (.int .i64 3)))]),.op 6 (.move (.t 0))] [0]) .ret))
def Bn:SFunc:=.code .pure 12 3 [some 6] [.tmp 0] Ni
def NA:SCode:=(.seq (.region [.op 3 (.box (.t 0)),.op 4 (.move (.k (.c (.bool false))))] [3,4,1]) (.seq (.region [.op 5 (.load (some 4) (.t 0)),.op 6 (.load (some 11) (.t 3)),.op 7 (.fieldAddr 2 (.t 3)),.op 8 (.load none (.t 0)),.op 9 (.call false (.k (.c (.func 155 [] []))) [(.t 3),(.t 2),(.t 0)]),.op 4 (.move (.t 0))] [0]) .ret))
def xO:SFunc:=.code .pure 10 3 [some 4] [.tmp 0] NA
@[simp] def FC:SCode:=(.region [.op 7 (.fieldAddr 0 (.t 2)),.op 8 (.load none (.t 0)),.op 9 (.bin .eql (.t 0) (.k (.c (.str [111,110])))),.op 10 (.move (.t 0)),.andN 20 0 [.op 11 (.fieldAddr 0 (.t 5)),.op 12 (.load none (.t 0)),.op 13 (.bin .eql (.t 0) (.k (.c (.str [108,101,97,100])))),.op 14 (.move (.t 0)),.orN 19 0 [.op 15 (.fieldAddr 2 (.t 10)),.op 16 (.load none (.t 0)),.op 17 (.move (.t 10)),.op 18 (.bin .eql (.t 1) (.t 0))] (.t 0)] (.t 0),.op 6 (.move (.t 0))] [0])
def Fn:SCode:=.seq FC .ret
instance:IsSeq Fn FC .ret:=⟨rfl⟩
def tT:SCode:=(.seq (.region [.op 3 (.box (.t 0)),.op 4 (.box (.t 2)),.op 6 (.move (.k (.c (.bool false))))] [5,2,1]) Fn)
def z7:SFunc:=.code .pure 21 3 [some 6] [.tmp 0] tT
@[simp] def FQ:SCode:=(.seq (.region [.op 10 (.load (some 4) (.t 1)),.op 11 (.move (.t 1)),.op 12 (.load (some 11) (.t 4)),.op 13 (.call false (.k (.c (.func 200 [] []))) [(.t 2),(.t 1),(.t 0)]),.op 7 (.move (.t 0))] [6,7,0]) (.seq (.region [.op 14 (.move (.t 2)),.op 15 (.bin .neq (.t 0) (.k (.c (.int .i64 0))))] [2,3,4,0]) (.cond (.t 3) (.seq (.region [.op 16 (.move (.t 2)),.op 6 (.move (.t 0))] [0]) .ret) (.pre [0,1] .skip))))
@[simp] def Dn:SCode:=(.region [.op 20 (.fieldAddr 0 (.t 1)),.op 21 (.load none (.t 0)),.op 22 (.bin .eql (.t 0) (.k (.c (.str [119,97,105,116,105,110,103])))),.op 23 (.move (.t 0)),.andN 30 0 [.op 24 (.fieldAddr 10 (.t 5)),.op 25 (.load none (.t 0)),.op 26 (.len 1 (.t 0)),.op 27 (.fieldAddr 2 (.t 7)),.op 28 (.load none (.t 0)),.op 29 (.bin .geq (.t 2) (.t 0))] (.t 0),.op 31 (.move (.t 0)),.orN 46 0 [.op 32 (.fieldAddr 0 (.t 7)),.op 33 (.load none (.t 0)),.op 34 (.bin .eql (.t 0) (.k (.c (.str [100,111,110,101])))),.op 35 (.move (.t 0)),.andN 39 0 [.op 36 (.fieldAddr 1 (.t 11)),.op 37 (.load none (.t 0)),.op 38 (.bin .eql (.t 0) (.k (.c (.str []))))] (.t 0),.op 40 (.move (.t 0)),.andN 45 0 [.op 41 (.fieldAddr 10 (.t 13)),.op 42 (.load none (.t 0)),.op 43 (.call false (.k (.c (.func 177 [] []))) [(.t 0)]),.op 44 (.bin .eql (.t 0) (.k (.c (.int .i64 0))))] (.t 0)] (.t 0),.op 8 (.move (.t 0))] [8,9,0])
@[simp] def E0:SCode:=(.region [.op 47 (.fieldAddr 2 (.t 1)),.op 48 (.load none (.t 0)),.op 49 (.bin .neq (.t 0) (.k (.c (.int .i64 0)))),.op 50 (.move (.t 0)),.orN 53 0 [.op 51 (.fieldAddr 8 (.t 5)),.op 52 (.load none (.t 0))] (.t 0),.op 54 (.move (.t 0)),.orN 61 0 [.op 55 (.fieldAddr 0 (.t 6)),.op 56 (.load none (.t 0)),.op 57 (.bin .eql (.t 0) (.k (.c (.str [115,112,101,101,100])))),.op 58 (.move (.t 0)),.andN 60 0 [.op 59 (.move (.t 12))] (.t 0)] (.t 0),.op 62 (.call false (.k (.c (.func 126 [] []))) [(.t 0),(.k (.c (.int .i64 19)))]),.op 6 (.move (.t 0))] [0])
def sf:SCode:=.seq E0 .ret
instance:IsSeq sf E0 .ret:=⟨rfl⟩
def ti:SCode:=.seq Dn sf
instance:IsSeq ti Dn sf:=⟨rfl⟩
def Ei:SCode:=.cond (.t 2) ti (.pre [0,1] .skip)
instance:IsCond Ei (.t 2) ti (.pre [0,1] .skip):=⟨rfl⟩
@[simp] def Dv:SCode:=(.seq (.region [.op 17 (.fieldAddr 0 (.t 1)),.op 18 (.load none (.t 0)),.op 19 (.bin .neq (.t 0) (.k (.c (.str [111,110]))))] [3,4,0]) Ei)
@[simp] def A0:SCode:=(.seq (.region [.op 63 (.fieldAddr 0 (.t 0)),.op 64 (.load none (.t 0)),.op 65 (.bin .eql (.t 0) (.k (.c (.str [108,101,97,100]))))] [3,4,0]) (.cond (.t 2) (.seq (.region [.op 6 (.move (.k (.c (.int .i64 0))))] [0]) .ret) (.pre [0,1] .skip)))
@[simp] def xh:SCode:=(.seq (.region [.op 66 (.fieldAddr 2 (.t 1)),.op 67 (.load none (.t 0)),.op 68 (.bin .eql (.t 0) (.k (.c (.int .i64 0))))] [3,4,0]) (.cond (.t 2) (.seq (.region [.op 6 (.move (.k (.c (.int .i64 19))))] [0]) .ret) (.pre [0,1] .skip)))
@[simp] def BB:SCode:=(.seq (.region [.op 69 (.fieldAddr 0 (.t 0)),.op 70 (.load none (.t 0)),.op 71 (.bin .eql (.t 0) (.k (.c (.str [115,112,101,101,100]))))] [3,4,0]) (.cond (.t 2) (.seq (.region [.op 72 (.fieldAddr 10 (.t 1)),.op 73 (.load none (.t 0)),.op 74 (.len 1 (.t 0)),.op 75 (.fieldAddr 2 (.t 3)),.op 76 (.load none (.t 0)),.op 77 (.bin .geq (.t 2) (.t 0)),.op 78 (.call false (.k (.c (.func 126 [] []))) [(.t 0),(.k (.c (.int .i64 19)))]),.op 6 (.move (.t 0))] [0]) .ret) (.pre [1] .skip)))
@[simp] def xg:SCode:=(.region [.op 79 (.fieldAddr 9 (.t 0)),.op 80 (.load none (.t 0)),.op 81 (.fieldAddr 2 (.t 2)),.op 82 (.load none (.t 0)),.op 83 (.bin .sub (.t 0) (.k (.c (.int .i64 1)))),.op 84 (.idxSlice 4 (.t 3) (.t 0)),.op 85 (.load (some 4) (.t 0)),.op 9 (.new [(.c (.int .i64 0)),(.c (.int .i64 0)),(.c (.int .i64 0)),(.c (.bool false))]),.eff (.store 4 (.t 0) (.t 1))] [8,0])
@[simp] def AH:SCode:=(.region [.op 86 (.fieldAddr 3 (.t 1)),.op 87 (.load none (.t 0)),.op 88 (.not (.t 0)),.op 89 (.move (.t 0)),.orN 102 0 [.op 90 (.fieldAddr 8 (.t 4)),.op 91 (.load none (.t 0)),.op 92 (.move (.t 0)),.andN 101 0 [.op 93 (.fieldAddr 0 (.t 8)),.op 94 (.load none (.t 0)),.op 95 (.bin .eql (.t 0) (.k (.c (.int .i64 0)))),.op 96 (.move (.t 0)),.orN 100 0 [.op 97 (.fieldAddr 2 (.t 12)),.op 98 (.load none (.t 0)),.op 99 (.bin .gtr (.t 0) (.k (.c (.int .i64 0))))] (.t 0)] (.t 0)] (.t 0),.op 103 (.call false (.k (.c (.func 126 [] []))) [(.t 0),(.k (.c (.int .i64 19)))]),.op 6 (.move (.t 0))] [0])
def pD:SCode:=.seq AH .ret
instance:IsSeq pD AH .ret:=⟨rfl⟩
def o0:SCode:=.seq xg pD
instance:IsSeq o0 xg pD:=⟨rfl⟩
def pz:SCode:=.seq BB o0
instance:IsSeq pz BB o0:=⟨rfl⟩
def pc:SCode:=.seq xh pz
instance:IsSeq pc xh pz:=⟨rfl⟩
def oW:SCode:=.seq A0 pc
instance:IsSeq oW A0 pc:=⟨rfl⟩
def rH:SCode:=.seq Dv oW
instance:IsSeq rH Dv oW:=⟨rfl⟩
def FK:SCode:=.seq FQ rH
instance:IsSeq FK FQ rH:=⟨rfl⟩
def jJ:SCode:=(.seq (.region [.op 3 (.box (.t 0)),.op 5 (.box (.t 3)),.op 6 (.move (.k (.c (.int .i64 0))))] [4,2,1]) FK)
def yS:SFunc:=.code .pure 104 3 [some 6] [.tmp 0] jJ
@[simp] def DJ:SCode:=(.region [.op 3 (.move (.t 0)),.op 4 (.bin .geq (.t 0) (.k (.c (.int .i32 97)))),.op 5 (.move (.t 0)),.andN 8 0 [.op 6 (.move (.t 3)),.op 7 (.bin .leq (.t 0) (.k (.c (.int .i32 122))))] (.t 0),.op 9 (.move (.t 0)),.orN 16 0 [.op 10 (.move (.t 5)),.op 11 (.bin .geq (.t 0) (.k (.c (.int .i32 65)))),.op 12 (.move (.t 0)),.andN 15 0 [.op 13 (.move (.t 8)),.op 14 (.bin .leq (.t 0) (.k (.c (.int .i32 90))))] (.t 0)] (.t 0),.op 2 (.move (.t 0))] [0])
def Fw:SCode:=.seq DJ .ret
instance:IsSeq Fw DJ .ret:=⟨rfl⟩
def MN:SCode:=(.seq (.region [.op 2 (.move (.k (.c (.bool false))))] [1]) Fw)
def wB:SFunc:=.code .pure 17 1 [some 2] [.tmp 0] MN
def tz:SCode:=.seq (.region [.op 10 (.move (.t 3)),.op 5 (.move (.t 0))] [2,3,0,4,5]) (.seq (.region [.op 11 (.move (.t 1)),.op 12 (.move (.t 1)),.op 13 (.move (.t 4)),.op 14 (.idxSlice 1 (.t 1) (.t 0)),.op 15 (.load none (.t 0)),.op 16 (.bin .eql (.t 4) (.t 0))] [6,7,8,9,10,0]) (.cond (.t 5) (.seq (.region [.op 17 (.move (.t 2)),.op 4 (.move (.t 0))] [0]) .ret) (.pre [0,1,3,4] .skip)))
instance:IsSeq tz (.region [.op 10 (.move (.t 3)),.op 5 (.move (.t 0))] [2,3,0,4,5]) (.seq (.region [.op 11 (.move (.t 1)),.op 12 (.move (.t 1)),.op 13 (.move (.t 4)),.op 14 (.idxSlice 1 (.t 1) (.t 0)),.op 15 (.load none (.t 0)),.op 16 (.bin .eql (.t 4) (.t 0))] [6,7,8,9,10,0]) (.cond (.t 5) (.seq (.region [.op 17 (.move (.t 2)),.op 4 (.move (.t 0))] [0]) .ret) (.pre [0,1,3,4] .skip))):=⟨rfl⟩
def uc:SCode:=.seq (.block 1 [some 0,some 1,some 7,some 8] tz) (.region [.op 18 (.bin .add (.t 3) (.k (.c (.int .i64 1)))),.op 8 (.move (.t 0))] [2,3,4,0])
instance:IsSeq uc (.block 1 [some 0,some 1,some 7,some 8] tz) (.region [.op 18 (.bin .add (.t 3) (.k (.c (.int .i64 1)))),.op 8 (.move (.t 0))] [2,3,4,0]):=⟨rfl⟩
def EW:SCode:=.seq (.cond (.t 4) (.pre [0,1,2,3] .skip) (.pre [] (.exit 0))) uc
instance:IsSeq EW (.cond (.t 4) (.pre [0,1,2,3] .skip) (.pre [] (.exit 0))) uc:=⟨rfl⟩
def ii:SCode:=(.seq (.region [.op 9 (.bin .lss (.t 3) (.t 2))] [1,2,3,4,0]) EW)
def s7:SCode:=.loop true ii
def Mz:SCode:=(.seq (.region [.op 4 (.move (.k (.c (.int .i64 0))))] [1,2]) (.seq (.seq (.region [.op 6 (.move (.t 0)),.op 7 (.len 1 (.t 0)),.op 8 (.move (.k (.c (.int .i64 0))))] [3,4,1,0]) (.block 0 [] s7)) (.seq (.region [.op 4 (.move (.k (.c (.int .i64 (-1)))))] [0]) .ret)))
def wG:SFunc:=.code .pure 19 2 [some 4] [.tmp 0] Mz
def RN:SCode:=.seq (.region [.op 10 (.move (.t 3)),.op 5 (.move (.t 0))] [2,3,0,4,5]) (.seq (.region [.op 11 (.move (.t 1)),.op 12 (.move (.t 1)),.op 13 (.move (.t 4)),.op 14 (.idxSlice 3 (.t 1) (.t 0)),.op 15 (.load (some 3) (.t 0)),.op 16 (.call false (.t 4) [(.t 0)])] [6,7,8,9,10,0]) (.cond (.t 5) (.seq (.region [.op 17 (.move (.t 2)),.op 4 (.move (.t 0))] [0]) .ret) (.pre [0,1,3,4] .skip)))
def P5:SCode:=.seq (.block 1 [some 0,some 1,some 7,some 8] RN) (.region [.op 18 (.bin .add (.t 3) (.k (.c (.int .i64 1)))),.op 8 (.move (.t 0))] [2,3,4,0])
def R8:SCode:=.seq (.cond (.t 4) (.pre [0,1,2,3] .skip) (.pre [] (.exit 0))) P5
def LP:SCode:=(.seq (.region [.op 9 (.bin .lss (.t 3) (.t 2))] [1,2,3,4,0]) R8)
def QL:SCode:=.loop true LP
def aaN:SCode:=(.seq (.region [.op 4 (.move (.k (.c (.int .i64 0))))] [1,2]) (.seq (.seq (.region [.op 6 (.move (.t 0)),.op 7 (.len 1 (.t 0)),.op 8 (.move (.k (.c (.int .i64 0))))] [3,4,1,0]) (.block 0 [] QL)) (.seq (.region [.op 4 (.move (.k (.c (.int .i64 (-1)))))] [0]) .ret)))
def Oc:SFunc:=.code .shared 19 2 [some 4] [.tmp 0] aaN
def sK:SCode:=.seq (.region [.op 10 (.move (.t 3)),.op 5 (.move (.t 0))] [2,3,0,4,5]) (.seq (.region [.op 11 (.move (.t 1)),.op 12 (.move (.t 1)),.op 13 (.move (.t 4)),.op 14 (.idxSlice 11 (.t 1) (.t 0)),.op 15 (.load (some 11) (.t 0)),.op 16 (.call false (.t 4) [(.t 0)])] [6,7,8,9,10,0]) (.cond (.t 5) (.seq (.region [.op 17 (.move (.t 2)),.op 4 (.move (.t 0))] [0]) .ret) (.pre [0,1,3,4] .skip)))
instance:IsSeq sK (.region [.op 10 (.move (.t 3)),.op 5 (.move (.t 0))] [2,3,0,4,5]) (.seq (.region [.op 11 (.move (.t 1)),.op 12 (.move (.t 1)),.op 13 (.move (.t 4)),.op 14 (.idxSlice 11 (.t 1) (.t 0)),.op 15 (.load (some 11) (.t 0)),.op 16 (.call false (.t 4) [(.t 0)])] [6,7,8,9,10,0]) (.cond (.t 5) (.seq (.region [.op 17 (.move (.t 2)),.op 4 (.move (.t 0))] [0]) .ret) (.pre [0,1,3,4] .skip))):=⟨rfl⟩
def uD:SCode:=.seq (.block 1 [some 0,some 1,some 7,some 8] sK) (.region [.op 18 (.bin .add (.t 3) (.k (.c (.int .i64 1)))),.op 8 (.move (.t 0))] [2,3,4,0])
instance:IsSeq uD (.block 1 [some 0,some 1,some 7,some 8] sK) (.region [.op 18 (.bin .add (.t 3) (.k (.c (.int .i64 1)))),.op 8 (.move (.t 0))] [2,3,4,0]):=⟨rfl⟩
def Eh:SCode:=.seq (.cond (.t 4) (.pre [0,1,2,3] .skip) (.pre [] (.exit 0))) uD
instance:IsSeq Eh (.cond (.t 4) (.pre [0,1,2,3] .skip) (.pre [] (.exit 0))) uD:=⟨rfl⟩
def im:SCode:=(.seq (.region [.op 9 (.bin .lss (.t 3) (.t 2))] [1,2,3,4,0]) Eh)
def tM:SCode:=.loop true im
def L0:SCode:=(.seq (.region [.op 4 (.move (.k (.c (.int .i64 0))))] [1,2]) (.seq (.seq (.region [.op 6 (.move (.t 0)),.op 7 (.len 1 (.t 0)),.op 8 (.move (.k (.c (.int .i64 0))))] [3,4,1,0]) (.block 0 [] tM)) (.seq (.region [.op 4 (.move (.k (.c (.int .i64 (-1)))))] [0]) .ret)))
def wN:SFunc:=.code .pure 19 2 [some 4] [.tmp 0] L0
@[simp] def Ez:SCode:=(.region [.op 10 (.idxSlice 1 (.t 1) (.t 3)),.op 11 (.load none (.t 0)),.op 5 (.move (.t 0))] [3,0,4,5,6])
@[simp] def F9:SCode:=(.region [.op 12 (.move (.t 1)),.op 13 (.bin .gtr (.t 0) (.k (.c (.int .i64 0)))),.op 14 (.move (.t 0)),.andN 22 0 [.op 15 (.move (.t 3)),.op 16 (.bin .eql (.t 0) (.k (.c (.int .i64 0)))),.op 17 (.move (.t 0)),.orN 21 0 [.op 18 (.move (.t 7)),.op 19 (.move (.t 7)),.op 20 (.bin .lss (.t 1) (.t 0))] (.t 0)] (.t 0)] [4,5,6,7,8,0])
def tE:SCode:=.seq F9 (.cond (.t 5) (.region [.op 23 (.move (.t 1)),.op 3 (.move (.t 0))] [0,4,5,6]) (.pre [0,2,3,4] .skip))
instance:IsSeq tE F9 (.cond (.t 5) (.region [.op 23 (.move (.t 1)),.op 3 (.move (.t 0))] [0,4,5,6]) (.pre [0,2,3,4] .skip)):=⟨rfl⟩
def uz:SCode:=.seq Ez tE
instance:IsSeq uz Ez tE:=⟨rfl⟩
def sg:SCode:=.seq (.block 1 [some 3,some 6,some 7,some 8] uz) (.region [.op 24 (.bin .add (.t 3) (.k (.c (.int .i64 1)))),.op 8 (.move (.t 0))] [2,3,4,0])
instance:IsSeq sg (.block 1 [some 3,some 6,some 7,some 8] uz) (.region [.op 24 (.bin .add (.t 3) (.k (.c (.int .i64 1)))),.op 8 (.move (.t 0))] [2,3,4,0]):=⟨rfl⟩
def DL:SCode:=.seq (.cond (.t 4) (.pre [0,1,2,3] .skip) (.pre [0] (.exit 0))) sg
instance:IsSeq DL (.cond (.t 4) (.pre [0,1,2,3] .skip) (.pre [0] (.exit 0))) sg:=⟨rfl⟩
def eZ:SCode:=(.seq (.region [.op 9 (.bin .lss (.t 3) (.t 2))] [1,2,3,4,0]) DL)
def sk:SCode:=.loop true eZ
def OX:SCode:=(.seq (.region [.op 2 (.move (.k (.c (.int .i64 0))))] [1]) (.seq (.region [.op 3 (.move (.k (.c (.int .i64 0))))] [1,0]) (.seq (.seq (.region [.op 6 (.move (.t 0)),.op 7 (.len 1 (.t 0)),.op 8 (.move (.k (.c (.int .i64 0))))] [4,2,1,0]) (.block 0 [some 3] sk)) (.seq (.region [.op 25 (.move (.t 0)),.op 2 (.move (.t 0))] [0]) .ret))))
def Bp:SFunc:=.code .pure 26 1 [some 2] [.tmp 0] OX
def abW:SCode:=(.seq (.region [.op 2 (.box (.t 0)),.op 3 (.move (.k (.c (.bool false))))] [3,1]) (.seq (.region [.op 4 (.fieldAddr 0 (.t 1)),.op 5 (.load none (.t 0)),.op 6 (.fieldAddr 0 (.t 2)),.op 7 (.load none (.t 0)),.op 8 (.bin .eql (.t 2) (.t 0)),.op 3 (.move (.t 0))] [0]) .ret))
def L4:SFunc:=.code .pure 9 2 [some 3] [.tmp 0] abW
def LU:SCode:=(.seq (.region [.op 4 (.move (.k (.c (.bool false))))] [1,2]) (.seq (.region [.op 5 (.move (.t 0)),.op 6 (.move (.t 2)),.op 7 (.call false (.k (.c (.func 210 [] []))) [(.t 1),(.t 0)]),.op 8 (.bin .geq (.t 0) (.k (.c (.int .i64 0)))),.op 4 (.move (.t 0))] [0]) .ret))
def zd:SFunc:=.code .pure 9 2 [some 4] [.tmp 0] LU
def acl:SCode:=(.seq (.region [.op 2 (.move (.k (.c (.bool false))))] [1]) (.seq (.region [.op 3 (.move (.t 0)),.op 4 (.bin .lss (.t 0) (.k (.c (.int .i64 (-999999999))))),.op 5 (.move (.t 0)),.orN 8 0 [.op 6 (.move (.t 3)),.op 7 (.bin .gtr (.t 0) (.k (.c (.int .i64 999999999))))] (.t 0),.op 2 (.move (.t 0))] [0]) .ret))
def M2:SFunc:=.code .pure 9 1 [some 2] [.tmp 0] acl
def aat:SCode:=(.seq (.region [.op 1 (.box (.t 0)),.op 2 (.move (.k (.c (.bool false))))] [1]) (.seq (.region [.op 3 (.fieldAddr 1 (.t 0)),.op 4 (.load none (.t 0)),.op 5 (.bin .eql (.t 0) (.k (.c (.str [])))),.op 2 (.move (.t 0))] [0]) .ret))
def Oi:SFunc:=.code .pure 6 1 [some 2] [.tmp 0] aat
@[simp] def Qw:SCode:=(.region [.op 14 (.move (.t 0)),.op 15 (.move (.t 5)),.op 16 (.move (.t 7)),.op 17 (.move (.t 5)),.op 18 (.call false (.k (.c (.func 211 [] []))) [(.t 3),(.t 2),(.t 1),(.t 0)])] [5,6,7,8,10])
def FJ:SCode:=.seq Qw (.seq (.region [.op 19 (.move (.t 4)),.op 7 (.move (.t 0))] [2,3,4,5,0,6]) (.region [.op 20 (.move (.t 5)),.op 21 (.move (.t 4)),.op 22 (.bin .add (.t 1) (.t 0)),.op 8 (.move (.t 0))] [4,5,6,7,8,0]))
def Cy:SCode:=.block 1 [some 0,some 1,some 2,some 6,some 7,some 8] FJ
instance:IsBlock Cy 1 [some 0,some 1,some 2,some 6,some 7,some 8] FJ:=⟨rfl⟩
def L7:SCode:=(.seq (.seq (.region [.op 11 (.move (.t 5)),.op 12 (.move (.t 2)),.op 13 (.bin .leq (.t 1) (.t 0))] [3,4,5,6,7,8,0]) (.cond (.t 6) (.pre [0,1,2,3,4,5] .skip) (.pre [0,1,2,3,4] (.exit 0)))) Cy)
def QE:SCode:=.loop true L7
@[simp] def QR:SCode:=(.region [.op 36 (.move (.t 0)),.op 37 (.move (.t 5)),.op 38 (.move (.t 6)),.op 39 (.move (.t 6)),.op 40 (.bin .add (.t 1) (.t 0)),.op 41 (.move (.t 10)),.op 42 (.move (.t 8)),.op 43 (.call false (.k (.c (.func 212 [] []))) [(.t 6),(.t 5),(.t 2),(.t 1),(.t 0)])] [8,9,10,11,13])
def Ee:SCode:=.seq QR (.seq (.region [.op 44 (.move (.t 4)),.op 7 (.move (.t 0))] [2,3,4,5,0,6]) (.region [.op 45 (.move (.t 5)),.op 46 (.move (.t 4)),.op 47 (.bin .mul (.k (.c (.int .i64 2))) (.t 0)),.op 48 (.bin .add (.t 2) (.t 0)),.op 8 (.move (.t 0))] [5,6,7,8,9,0]))
def Di:SCode:=.block 5 [some 0,some 1,some 2,some 6,some 7,some 8] Ee
instance:IsBlock Di 5 [some 0,some 1,some 2,some 6,some 7,some 8] Ee:=⟨rfl⟩
def Ot:SCode:=(.seq (.seq (.region [.op 33 (.move (.t 5)),.op 34 (.move (.t 2)),.op 35 (.bin .leq (.t 1) (.t 0))] [3,4,5,6,7,8,0]) (.cond (.t 6) (.pre [0,1,2,3,4,5] .skip) (.pre [0,1,2,3,4] (.exit 4)))) Di)
def Qi:SCode:=.loop true Ot
@[simp] def QA:SCode:=(.region [.op 31 (.move (.t 3)),.op 32 (.bin .mul (.k (.c (.int .i64 2))) (.t 0)),.op 7 (.move (.k (.c (.int .i64 0)))),.op 8 (.move (.t 1))] [4,5,6,7,1,0])
@[simp] def Ob:SCode:=(.region [.op 52 (.move (.t 5)),.op 53 (.move (.t 2)),.op 54 (.bin .lss (.t 1) (.t 0))] [3,4,5,6,7,8,0])
def Ng:SCode:=.seq Ob (.cond (.t 6) (.region [.op 55 (.move (.t 0)),.op 56 (.move (.t 5)),.op 57 (.move (.t 7)),.op 58 (.move (.t 4)),.op 59 (.move (.t 6)),.op 60 (.call false (.k (.c (.func 212 [] []))) [(.t 4),(.t 3),(.t 2),(.t 1),(.t 0)])] [6,7,8,9]) (.pre [0,1,2,3] .skip))
@[simp] def OO:SCode:=(.seq (.region [.op 49 (.move (.t 4)),.op 50 (.move (.t 4)),.op 51 (.bin .add (.t 1) (.t 0)),.op 9 (.move (.t 0))] [4,5,6,7,8,0]) Ng)
def MZ:SCode:=.seq OO (.region [.op 61 (.move (.t 3)),.op 62 (.bin .mul (.t 0) (.k (.c (.int .i64 2)))),.op 6 (.move (.t 0))] [3,4,5,0])
def Nn:SCode:=.seq (.block 4 [some 0,some 1,some 2,some 6,some 7] Qi) MZ
def EK:SCode:=.seq QA Nn
def E1:SCode:=.block 3 [some 0,some 1,some 2,some 6] EK
instance:IsBlock E1 3 [some 0,some 1,some 2,some 6] EK:=⟨rfl⟩
def Ny:SCode:=(.seq (.seq (.region [.op 28 (.move (.t 3)),.op 29 (.move (.t 2)),.op 30 (.bin .lss (.t 1) (.t 0))] [3,4,5,6,0]) (.cond (.t 4) (.pre [0,1,2,3] .skip) (.pre [] (.exit 2)))) E1)
def Qc:SCode:=.loop true Ny
@[simp] def NH:SCode:=(.region [.op 10 (.move (.t 3)),.op 7 (.move (.k (.c (.int .i64 0)))),.op 8 (.move (.t 1))] [3,4,5,6,1,0])
def Nq:SCode:=.seq NH (.seq (.block 0 [some 0,some 1,some 2,some 6,some 7] QE) (.seq (.region [.op 23 (.move (.t 0)),.op 24 (.move (.t 5)),.op 25 (.move (.t 3)),.op 26 (.move (.t 5)),.op 27 (.call false (.k (.c (.func 211 [] []))) [(.t 3),(.t 2),(.t 1),(.t 0)])] [5,6,7,8]) (.block 2 [] Qc)))
def aci:SCode:=(.seq (.region [.op 6 (.move (.k (.c (.int .i64 20))))] [1,2,3,0]) Nq)
def NP:SFunc:=.code .shared 63 3 [] [] aci
def t9:SCode:=.seq (.region [.op 10 (.move (.t 3)),.op 5 (.move (.t 0))] [2,3,0,4,5]) (.seq (.region [.op 11 (.move (.t 1)),.op 12 (.move (.t 1)),.op 13 (.move (.t 4)),.op 14 (.idxSlice 3 (.t 1) (.t 0)),.op 15 (.load (some 3) (.t 0)),.op 16 (.call false (.t 4) [(.t 0)])] [6,7,8,9,10,0]) (.cond (.t 5) (.seq (.region [.op 17 (.move (.t 2)),.op 4 (.move (.t 0))] [0]) .ret) (.pre [0,1,3,4] .skip)))
instance:IsSeq t9 (.region [.op 10 (.move (.t 3)),.op 5 (.move (.t 0))] [2,3,0,4,5]) (.seq (.region [.op 11 (.move (.t 1)),.op 12 (.move (.t 1)),.op 13 (.move (.t 4)),.op 14 (.idxSlice 3 (.t 1) (.t 0)),.op 15 (.load (some 3) (.t 0)),.op 16 (.call false (.t 4) [(.t 0)])] [6,7,8,9,10,0]) (.cond (.t 5) (.seq (.region [.op 17 (.move (.t 2)),.op 4 (.move (.t 0))] [0]) .ret) (.pre [0,1,3,4] .skip))):=⟨rfl⟩
def rK:SCode:=.seq (.block 1 [some 0,some 1,some 7,some 8] t9) (.region [.op 18 (.bin .add (.t 3) (.k (.c (.int .i64 1)))),.op 8 (.move (.t 0))] [2,3,4,0])
instance:IsSeq rK (.block 1 [some 0,some 1,some 7,some 8] t9) (.region [.op 18 (.bin .add (.t 3) (.k (.c (.int .i64 1)))),.op 8 (.move (.t 0))] [2,3,4,0]):=⟨rfl⟩
def FS:SCode:=.seq (.cond (.t 4) (.pre [0,1,2,3] .skip) (.pre [] (.exit 0))) rK
instance:IsSeq FS (.cond (.t 4) (.pre [0,1,2,3] .skip) (.pre [] (.exit 0))) rK:=⟨rfl⟩
def ik:SCode:=(.seq (.region [.op 9 (.bin .lss (.t 3) (.t 2))] [1,2,3,4,0]) FS)
def rL:SCode:=.loop true ik
def MB:SCode:=(.seq (.region [.op 4 (.move (.k (.c (.int .i64 0))))] [1,2]) (.seq (.seq (.region [.op 6 (.move (.t 0)),.op 7 (.len 1 (.t 0)),.op 8 (.move (.k (.c (.int .i64 0))))] [3,4,1,0]) (.block 0 [] rL)) (.seq (.region [.op 4 (.move (.k (.c (.int .i64 (-1)))))] [0]) .ret)))
def vZ:SFunc:=.code .pure 19 2 [some 4] [.tmp 0] MB
@[simp] def D4:SCode:=(.draw 0 [.op 37 (.move (.t 0)),.op 38 (.move (.t 6)),.op 39 (.move (.t 2)),.op 40 (.move (.t 8)),.op 41 (.bin .sub (.t 0) (.k (.c (.int .i64 1)))),.op 42 (.move (.t 5)),.op 43 (.move (.t 11)),.op 44 (.bin .sub (.t 0) (.k (.c (.int .i64 1)))),.op 45 (.idxSlice 1 (.t 2) (.t 0)),.op 46 (.load none (.t 0)) none .old,.op 47 (.move (.t 10)),.op 48 (.move (.t 16)),.op 49 (.idxSlice 1 (.t 1) (.t 0)),.op 50 (.load none (.t 0)) none .old,.op 51 (.idxSlice 1 (.t 13) (.t 12)),.eff (.store 1 (.t 0) (.t 5)) none .old,.op 52 (.idxSlice 1 (.t 12) (.t 10)),.eff (.store 1 (.t 0) (.t 2)) none .old] [16,17,18,19,20,21])
def D9:SCode:=.seq (.block 3 [some 0,some 1,some 2,some 3,some 8,some 9] D4) (.region [.op 35 (.move (.t 5)),.op 36 (.bin .sub (.t 0) (.k (.c (.int .i64 1)))),.op 9 (.move (.t 0))] [3,4,5,6,7,0])
instance:IsSeq D9 (.block 3 [some 0,some 1,some 2,some 3,some 8,some 9] D4) (.region [.op 35 (.move (.t 5)),.op 36 (.bin .sub (.t 0) (.k (.c (.int .i64 1)))),.op 9 (.move (.t 0))] [3,4,5,6,7,0]):=⟨rfl⟩
def iz:SCode:=(.seq (.seq (.draw 0 [.op 18 (.move (.t 5)),.op 19 (.move (.t 2)),.op 20 (.bin .gtr (.t 1) (.t 0)),.op 21 (.move (.t 0)),.andN 34 0 [.op 22 (.move (.t 7)),.op 23 (.move (.t 5)),.op 24 (.move (.t 11)),.op 25 (.idxSlice 1 (.t 1) (.t 0)),.op 26 (.load none (.t 0)) none .old,.op 27 (.move (.t 9)),.op 28 (.move (.t 15)),.op 29 (.bin .sub (.t 0) (.k (.c (.int .i64 1)))),.op 30 (.idxSlice 1 (.t 2) (.t 0)),.op 31 (.load none (.t 0)) none .old,.op 32 (.call false (.t 9) [(.t 5),(.t 0)]),.op 33 (.bin .lss (.t 0) (.k (.c (.int .i64 0))))] (.t 0)] [5,6,7,8,9,10,0]) (.cond (.t 6) (.pre [0,1,2,3,4,5] .skip) (.pre [0,1,2,3,4] (.exit 2)))) D9)
def ul:SCode:=.loop true iz
def ir:SCode:=(.seq (.seq (.region [.op 12 (.move (.t 4)),.op 13 (.move (.t 3)),.op 14 (.bin .lss (.t 1) (.t 0))] [3,4,5,6,7,0]) (.cond (.t 5) (.pre [0,1,2,3,4] .skip) (.pre [] (.exit 0)))) (.seq (.block 1 [some 0,some 1,some 2,some 3,some 8] (.seq (.region [.op 17 (.move (.t 4)),.op 9 (.move (.t 0))] [2,3,4,5,6,0]) (.block 2 [some 0,some 1,some 2,some 3,some 8] ul))) (.region [.op 15 (.move (.t 4)),.op 16 (.bin .add (.t 0) (.k (.c (.int .i64 1)))),.op 8 (.move (.t 0))] [3,4,5,6,0])))
def n9:SCode:=.loop true ir
def GO:SCode:=(.seq (.region [.op 10 (.move (.t 1)),.op 11 (.bin .add (.t 0) (.k (.c (.int .i64 1)))),.op 8 (.move (.t 0))] [3,4,5,6,0]) (.block 0 [] n9))
def AI:SFunc:=.code .shared 53 4 [] [] GO
@[simp] def EC:SCode:=(.region [.op 3 (.makeMap),.eff (.mapUpdate (.one 1) (.t 0) (.k (.c (.str [108,101,97,100]))) (.k (.c (.int .i64 64)))),.eff (.mapUpdate (.one 1) (.t 0) (.k (.c (.str [98,111,117,108,100,101,114]))) (.k (.c (.int .i64 8)))),.eff (.mapUpdate (.one 1) (.t 0) (.k (.c (.str [115,112,101,101,100]))) (.k (.c (.int .i64 8)))),.op 4 (.move (.t 0)),.op 5 (.move (.t 2)),.op 6 (.lookup (.one 1) (.c (.int .i64 0)) false (.t 1) (.t 0)),.op 2 (.move (.t 0))] [0])
def C9:SCode:=.seq EC .ret
instance:IsSeq C9 EC .ret:=⟨rfl⟩
def Ov:SCode:=(.seq (.region [.op 2 (.move (.k (.c (.int .i64 0))))] [1]) C9)
def xx:SFunc:=.code .pure 7 1 [some 2] [.tmp 0] Ov
@[simp] def C5:SCode:=(.draw 1 [.op 8 (.call true (.k (.c (.func 214 [] []))) []),.op 9 (.fieldAddr 1 (.t 2)),.op 10 (.load none (.t 0)) none .var,.op 11 (.lookup (.one 1) (.agg [.nil,(.c (.bool false)),(.c .nilfunc)]) true (.t 2) (.t 0)) none .old,.op 7 (.move (.t 0)),.op 12 (.extract (.t 0) 0),.op 13 (.extract (.t 1) 1),.op 5 (.new [.nil,(.c (.bool false)),(.c .nilfunc)]) (some 0),.eff (.store 3 (.t 0) (.t 2)) none .new,.op 6 (.move (.t 1))] [9,10,1,0])
@[simp] def Ce:SCode:=(.draw 1 [.op 14 (.fieldAddr 0 (.t 1)),.op 15 (.load none (.t 0)) none .var,.op 16 (.fieldAddr 1 (.t 2)),.op 17 (.load none (.t 0)) none .var,.op 18 (.len 1 (.t 0)) none .old,.op 19 (.bin .sub (.t 0) (.k (.c (.int .i64 1)))),.op 20 (.call false (.k (.c (.func 199 [] []))) [(.t 4),(.k (.c (.int .i64 0))),(.t 0)]),.op 21 (.call false (.k (.c (.func 126 [] []))) [(.t 0),(.k (.c (.int .i64 10)))]),.op 22 (.move (.t 11)),.op 23 (.not (.t 0)),.op 24 (.call false (.k (.c (.func 126 [] []))) [(.t 0),(.k (.c (.int .i64 13)))]),.op 25 (.fieldAddr 2 (.t 12)),.op 26 (.load none (.t 0)) none .var,.op 27 (.call false (.k (.c (.func 153 [] []))) [(.t 0),(.k (.c (.int .i64 0))),(.k (.c (.int .i64 86399999)))]),.op 28 (.fieldAddr 3 (.t 15)),.op 29 (.load none (.t 0)) none .var,.op 30 (.call false (.k (.c (.func 153 [] []))) [(.t 0),(.k (.c (.int .i64 0))),(.k (.c (.int .i64 86399999)))]),.op 31 (.fieldAddr 1 (.t 19)),.op 32 (.load none (.t 0)) none .var,.op 33 (.not (.t 0)),.op 34 (.move (.t 0)),.andN 38 0 [.op 35 (.fieldAddr 2 (.t 22)),.op 36 (.load none (.t 0)) none .var,.op 37 (.bin .neq (.t 0) (.k (.c (.int .i64 0))))] (.t 0),.op 39 (.call false (.k (.c (.func 126 [] []))) [(.t 0),(.k (.c (.int .i64 1)))]),.op 40 (.buildSlice 2 none 5 [(.c (.int .i64 0))] [(0,(.t 15)),(1,(.t 12)),(2,(.t 9)),(3,(.t 6)),(4,(.t 0))]) (some 0),.op 41 (.call false (.k (.c (.func 125 [] []))) [(.t 0)]),.op 4 (.move (.t 0))] [0])
def sY:SCode:=.seq Ce .ret
instance:IsSeq sY Ce .ret:=⟨rfl⟩
def FB:SCode:=.seq C5 sY
instance:IsSeq FB C5 sY:=⟨rfl⟩
def G0:SCode:=(.seq (.region [.op 2 (.box (.t 0)),.op 3 (.box (.t 2)),.op 4 (.move (.k (.c (.int .i64 0))))] [2,1]) FB)
def wz:SFunc:=.code .pure 42 2 [some 4] [.tmp 0] G0
def Gx:SCode:=(.seq (.region [.op 2 (.mkNil (some 11))] [1]) (.seq (.region [.op 3 (.move (.t 0)),.op 4 (.append (some 11) 120 (.k .nil) (.t 0)),.op 2 (.move (.t 0))] [0]) .ret))
def wi:SFunc:=.code (.fresh 2) 5 1 [some 2] [.tmp 0] Gx
def Gu:SCode:=(.seq (.region [.op 2 (.mkNil (some 4))] [1]) (.seq (.region [.op 3 (.move (.t 0)),.op 4 (.append (some 4) 32 (.k .nil) (.t 0)),.op 2 (.move (.t 0))] [0]) .ret))
def Ah:SFunc:=.code (.fresh 2) 5 1 [some 2] [.tmp 0] Gu
def GW:SCode:=(.seq (.region [.op 2 (.mkNil none)] [1]) (.seq (.region [.op 3 (.move (.t 0)),.op 4 (.append none 8 (.k .nil) (.t 0)),.op 2 (.move (.t 0))] [0]) .ret))
def v5:SFunc:=.code (.fresh 2) 5 1 [some 2] [.tmp 0] GW
@[simp] def DG:SCode:=(.draw 1 [.op 10 (.load none (.t 0)) none .var,.op 11 (.nilCheck (.t 0)),.op 12 (.fieldAddr 4 (.t 0)),.op 13 (.fieldAddr 1 (.t 0)),.op 14 (.load none (.t 0)) none .var,.op 15 (.fieldAddr 0 (.t 6)),.op 16 (.load none (.t 0)) none .var,.op 17 (.idxSlice 11 (.t 2) (.t 0)),.op 18 (.load (some 11) (.t 0)) none .old,.op 5 (.new [(.c (.str [])),(.c (.str [])),(.c (.int .i64 0)),(.c (.int .i64 0)),(.c (.int .i64 0)),(.c (.int .i64 0)),(.c (.bool false)),(.c (.bool false)),(.c (.bool false)),.nil,.nil]) (some 0),.eff (.store 11 (.t 0) (.t 1)) none .new] [10,11,0])
@[simp] def Cj:SCode:=(.draw 1 [.op 19 (.call true (.k (.c (.func 214 [] []))) []),.op 20 (.fieldAddr 1 (.t 2)),.op 21 (.load none (.t 0)) none .var,.op 22 (.lookup (.one 1) (.agg [.nil,(.c (.bool false)),(.c .nilfunc)]) false (.t 2) (.t 0)) none .old,.op 6 (.new [.nil,(.c (.bool false)),(.c .nilfunc)]) (some 0),.eff (.store 3 (.t 0) (.t 1)) none .new] [5,6,7,0])
@[simp] def Ed:SCode:=(.region [.op 23 (.mkFunc 215 [] [(.t 1)]),.op 7 (.new [(.c .nilfunc)]),.eff (.store 1 (.t 0) (.t 1))] [2,3,4,5,0])
@[simp] def CP:SCode:=(.draw 1 [.op 24 (.fieldAddr 3 (.t 2)),.op 25 (.load none (.t 0)) none .var,.op 26 (.load none (.t 2)) none .var,.op 27 (.nilCheck (.t 0)),.op 28 (.fieldAddr 0 (.t 0)),.op 29 (.fieldAddr 3 (.t 0)),.op 30 (.load none (.t 0)) none .var,.op 31 (.bin .add (.t 5) (.t 0)),.op 8 (.new [(.c (.int .i64 0))]) (some 0),.eff (.store 1 (.t 0) (.t 1)) none .new] [9,10,11,12,13,0])
@[simp] def Bi:SCode:=(.region [.op 9 (.new [(.c (.int .i64 0)),(.c (.int .i64 0)),(.c (.int .i64 0)),(.c (.bool false))])] [1,2,3,4,5,6,0])
@[simp] def AS:SCode:=(.seq (.region [.op 32 (.load none (.t 0)),.op 33 (.nilCheck (.t 0)),.op 34 (.fieldAddr 0 (.t 0)),.op 35 (.fieldAddr 0 (.t 0)),.op 36 (.load none (.t 0)),.op 37 (.bin .eql (.t 0) (.k (.c (.str [98,111,117,108,100,101,114])))),.op 38 (.move (.t 0)),.andN 42 0 [.op 39 (.fieldAddr 0 (.t 9)),.op 40 (.load none (.t 0)),.op 41 (.bin .eql (.t 0) (.k (.c (.str [111,110]))))] (.t 0)] [8,9,10,11,12,13,14,0]) (.cond (.t 7) (.region [.op 43 (.call false (.k (.c (.func 216 [] []))) [(.t 2)]),.op 44 (.nilCheck (.t 0)),.op 45 (.load (some 4) (.t 0)),.eff (.store 4 (.t 9) (.t 0))] [3,4,5,6,7,8,9]) (.pre [0,1,2,3,4,5,6] .skip)))
@[simp] def Bw:SCode:=(.region [.op 46 (.mkFunc 218 [] [(.t 1),(.t 0)]),.op 47 (.mkFunc 219 [] [(.t 3),(.t 5)]),.op 48 (.mkFunc 220 [] [(.t 5),(.t 2)]),.op 49 (.mkFunc 221 [] [(.t 7),(.t 5)]),.op 50 (.mkFunc 222 [] [(.t 8),(.t 4),(.t 5)]),.op 51 (.mkFunc 224 [] [(.t 9),(.t 5),(.t 7),(.t 6)]),.op 52 (.mkFunc 226 [] [(.t 10),(.t 8)]),.op 53 (.mkFunc 227 [] [(.t 11),(.t 8),(.t 12)]),.op 54 (.mkFunc 228 [] [(.t 12),(.t 9),(.t 13)]),.op 55 (.mkFunc 229 [] [(.t 13),(.t 10),(.t 11),(.t 9)]),.op 56 (.mkFunc 230 [] [(.t 14),(.t 12),(.t 10)]),.op 57 (.mkFunc 231 [] [(.t 11),(.t 13),(.t 12)]),.op 58 (.mkFunc 233 [] [(.t 16),(.t 14),(.t 18)]),.op 59 (.mkFunc 234 [] [(.t 17),(.t 19)]),.op 60 (.mkFunc 235 [] [(.t 18),(.t 15),(.t 16)]),.op 61 (.mkFunc 236 [] [(.t 19),(.t 17),(.t 15)]),.op 62 (.buildSlice 0 none 16 [(.c .nilfunc)] [(0,(.t 15)),(1,(.t 14)),(2,(.t 13)),(3,(.t 12)),(4,(.t 11)),(5,(.t 10)),(6,(.t 9)),(7,(.t 8)),(8,(.t 7)),(9,(.t 6)),(10,(.t 5)),(11,(.t 4)),(12,(.t 3)),(13,(.t 2)),(14,(.t 1)),(15,(.t 0))]),.op 63 (.call false (.k (.c (.func 217 [] []))) [(.t 0)]),.op 4 (.move (.t 0))] [0])
def pO:SCode:=.seq Bw .ret
instance:IsSeq pO Bw .ret:=⟨rfl⟩
def pB:SCode:=.seq AS pO
instance:IsSeq pB AS pO:=⟨rfl⟩
def rP:SCode:=.seq Bi pB
instance:IsSeq rP Bi pB:=⟨rfl⟩
def uk:SCode:=.seq CP rP
instance:IsSeq uk CP rP:=⟨rfl⟩
def ur:SCode:=.seq Ed uk
instance:IsSeq ur Ed uk:=⟨rfl⟩
def t5:SCode:=.seq Cj ur
instance:IsSeq t5 Cj ur:=⟨rfl⟩
def DM:SCode:=.seq DG t5
instance:IsSeq DM DG t5:=⟨rfl⟩
def Gy:SCode:=(.seq (.region [.op 2 (.box (.t 0)),.op 3 (.box (.t 2)),.op 4 (.move (.k (.c (.int .i64 0))))] [2,1]) DM)
def zS:SFunc:=.code .live 64 2 [some 4] [.tmp 0] Gy
@[simp] def Dk:SCode:=(.draw 0 [.op 4 (.call false (.k (.c (.func 214 [] []))) []),.op 5 (.fieldAddr 1 (.t 2)),.op 6 (.load none (.t 0)) none .var,.op 7 (.lookup (.one 1) (.agg [.nil,(.c (.bool false)),(.c .nilfunc)]) false (.t 2) (.t 0)) none .old,.op 8 (.field 2 none (.t 0)),.op 9 (.move (.t 5)),.op 10 (.move (.t 6)),.op 11 (.nilCheck (.t 0)),.op 12 (.fieldAddr 4 (.t 0)),.op 13 (.fieldAddr 1 (.t 0)),.op 14 (.load none (.t 0)) none .var,.op 15 (.fieldAddr 0 (.t 12)),.op 16 (.load none (.t 0)) none .var,.op 17 (.idxSlice 11 (.t 2) (.t 0)),.op 18 (.load (some 4) (.t 15)) none .var,.op 19 (.call false (.t 10) [(.t 9),(.t 1),(.t 0)])] [16,17])
def Dy:SCode:=.seq Dk (.region [.op 20 (.move (.t 0)),.op 21 (.fieldAddr 3 (.t 2)),.op 22 (.load none (.t 0)),.op 23 (.nilCheck (.t 2)),.op 24 (.fieldAddr 4 (.t 0)),.op 25 (.fieldAddr 0 (.t 0)),.eff (.store 1 (.t 0) (.t 3))] [])
instance:IsSeq Dy Dk (.region [.op 20 (.move (.t 0)),.op 21 (.fieldAddr 3 (.t 2)),.op 22 (.load none (.t 0)),.op 23 (.nilCheck (.t 2)),.op 24 (.fieldAddr 4 (.t 0)),.op 25 (.fieldAddr 0 (.t 0)),.eff (.store 1 (.t 0) (.t 3))] []):=⟨rfl⟩
def NX:SCode:=(.seq (.region [.op 3 (.box (.t 1))] [1,0]) Dy)
def wS:SFunc:=.code .live 26 2 [] [] NX
def OY:SCode:=(.seq (.region [.op 6 (.move (.k (.c (.bool false))))] [1,2,3]) (.seq (.region [.op 7 (.move (.t 0)),.op 8 (.move (.t 2)),.op 9 (.bin .lss (.t 1) (.t 0)),.op 10 (.move (.t 0)),.orN 14 0 [.op 11 (.move (.t 4)),.op 12 (.move (.t 7)),.op 13 (.bin .gtr (.t 1) (.t 0))] (.t 0),.op 6 (.move (.t 0))] [0]) .ret))
def A8:SFunc:=.code .pure 15 3 [some 6] [.tmp 0] OY
@[simp] def Cl:SCode:=(.region [.op 13 (.buildSlice 2 none 3 [(.c (.str []))] [(0,(.k (.c (.str [119,97,105,116,105,110,103])))),(1,(.k (.c (.str [111,110])))),(2,(.k (.c (.str [100,111,110,101]))))]),.op 14 (.fieldAddr 0 (.t 3)),.op 15 (.load none (.t 0)),.op 16 (.call false (.k (.c (.func 86 [] []))) [(.t 2),(.t 0)]),.op 17 (.move (.t 0)),.andN 22 0 [.op 18 (.buildSlice 2 none 4 [(.c (.str []))] [(0,(.k (.c (.str [])))),(1,(.k (.c (.str [100,110,115])))),(2,(.k (.c (.str [100,110,102])))),(3,(.k (.c (.str [100,115,113]))))]),.op 19 (.fieldAddr 1 (.t 8)),.op 20 (.load none (.t 0)),.op 21 (.call false (.k (.c (.func 86 [] []))) [(.t 2),(.t 0)])] (.t 0),.op 7 (.move (.t 0))] [7,8,9,0])
@[simp] def DD:SCode:=(.draw 0 [.op 23 (.fieldAddr 3 (.t 2)),.op 24 (.load none (.t 0)) none .var,.op 25 (.move (.t 2)),.op 26 (.call false (.k (.c (.func 199 [] []))) [(.t 1),(.k (.c (.int .i64 0))),(.t 0)]),.op 27 (.move (.t 0)),.orN 33 0 [.op 28 (.fieldAddr 4 (.t 7)),.op 29 (.load none (.t 0)) none .var,.op 30 (.fieldAddr 3 (.t 8)),.op 31 (.load none (.t 0)) none .var,.op 32 (.call false (.k (.c (.func 199 [] []))) [(.t 2),(.k (.c (.int .i64 0))),(.t 0)])] (.t 0),.op 34 (.move (.t 0)),.orN 40 0 [.op 35 (.fieldAddr 2 (.t 9)),.op 36 (.load none (.t 0)) none .var,.op 37 (.load (some 4) (.t 10)) none .var,.op 38 (.call false (.k (.c (.func 238 [] []))) [(.t 0)]),.op 39 (.call false (.k (.c (.func 199 [] []))) [(.t 2),(.k (.c (.int .i64 0))),(.t 0)])] (.t 0),.op 41 (.move (.t 0)),.orN 47 0 [.op 42 (.fieldAddr 5 (.t 11)),.op 43 (.load none (.t 0)) none .var,.op 44 (.load (some 4) (.t 12)) none .var,.op 45 (.call false (.k (.c (.func 239 [] []))) [(.t 0)]),.op 46 (.call false (.k (.c (.func 199 [] []))) [(.t 2),(.k (.c (.int .i64 0))),(.t 0)])] (.t 0),.op 8 (.move (.t 0))] [12,13,14,0])
@[simp] def EU:SCode:=(.region [.op 48 (.makeMap),.op 49 (.fieldAddr 0 (.t 1)),.op 50 (.load none (.t 0)),.op 51 (.fieldAddr 2 (.t 3)),.op 52 (.load none (.t 0)),.eff (.mapUpdate (.one 1) (.t 4) (.t 2) (.t 0)),.op 53 (.move (.t 4)),.op 9 (.move (.t 0))] [7,8,9,10,0])
@[simp] def E4:SCode:=(.region [.op 54 (.fieldAddr 9 (.t 1)),.op 55 (.load none (.t 0)),.op 56 (.len 1 (.t 0)),.op 57 (.move (.t 7)),.op 58 (.lookup (.one 1) (.c (.int .i64 0)) false (.t 0) (.k (.c (.str [98,111,117,108,100,101,114])))),.op 59 (.bin .neq (.t 2) (.t 0)),.op 60 (.move (.t 0)),.orN 67 0 [.op 61 (.fieldAddr 10 (.t 8)),.op 62 (.load none (.t 0)),.op 63 (.len 1 (.t 0)),.op 64 (.move (.t 14)),.op 65 (.lookup (.one 1) (.c (.int .i64 0)) false (.t 0) (.k (.c (.str [115,112,101,101,100])))),.op 66 (.bin .gtr (.t 2) (.t 0))] (.t 0),.op 10 (.move (.t 0))] [9,10,11,12,0])
@[simp] def xr:SCode:=(.region [.op 68 (.fieldAddr 10 (.t 1)),.op 69 (.load none (.t 0)),.op 70 (.call false (.k (.c (.func 184 [] []))) [(.t 0),(.k (.c (.func 240 [] [])))]),.op 11 (.move (.t 0))] [4,5,6,7,8,0])
@[simp] def AO:SCode:=(.region [.op 71 (.fieldAddr 0 (.t 0)),.op 72 (.load none (.t 0)),.op 73 (.bin .neq (.t 0) (.k (.c (.str [108,101,97,100])))),.op 74 (.move (.t 0)),.andN 86 0 [.op 75 (.fieldAddr 4 (.t 5)),.op 76 (.load none (.t 0)),.op 77 (.bin .neq (.t 0) (.k (.c (.int .i64 0)))),.op 78 (.move (.t 0)),.orN 81 0 [.op 79 (.fieldAddr 6 (.t 9)),.op 80 (.load none (.t 0))] (.t 0),.op 82 (.move (.t 0)),.orN 85 0 [.op 83 (.fieldAddr 7 (.t 11)),.op 84 (.load none (.t 0))] (.t 0)] (.t 0),.op 87 (.move (.t 0)),.orN 95 0 [.op 88 (.fieldAddr 0 (.t 6)),.op 89 (.load none (.t 0)),.op 90 (.bin .neq (.t 0) (.k (.c (.str [98,111,117,108,100,101,114])))),.op 91 (.move (.t 0)),.andN 94 0 [.op 92 (.fieldAddr 8 (.t 11)),.op 93 (.load none (.t 0))] (.t 0)] (.t 0),.op 12 (.move (.t 0))] [9,10,11,12,13,0])
@[simp] def zq:SCode:=(.draw 1 [.op 96 (.move (.t 1)),.op 97 (.not (.t 0)),.op 98 (.call false (.k (.c (.func 126 [] []))) [(.t 0),(.k (.c (.int .i64 13)))]),.op 99 (.fieldAddr 0 (.t 3)),.op 100 (.load none (.t 0)) none .var,.op 101 (.bin .neq (.t 0) (.k (.c (.str [100,111,110,101])))),.op 102 (.move (.t 0)),.andN 106 0 [.op 103 (.fieldAddr 1 (.t 7)),.op 104 (.load none (.t 0)) none .var,.op 105 (.bin .neq (.t 0) (.k (.c (.str []))))] (.t 0),.op 107 (.call false (.k (.c (.func 126 [] []))) [(.t 0),(.k (.c (.int .i64 19)))]),.op 108 (.move (.t 11)),.op 109 (.call false (.k (.c (.func 126 [] []))) [(.t 0),(.k (.c (.int .i64 3)))]),.op 110 (.move (.t 14)),.op 111 (.call false (.k (.c (.func 126 [] []))) [(.t 0),(.k (.c (.int .i64 2)))]),.op 112 (.fieldAddr 9 (.t 13)),.op 113 (.load none (.t 0)) none .var,.op 114 (.call false (.k (.c (.func 241 [] []))) [(.t 0)]),.op 115 (.move (.t 20)),.op 116 (.call false (.k (.c (.func 126 [] []))) [(.t 0),(.k (.c (.int .i64 3)))]),.op 117 (.move (.t 23)),.op 118 (.call false (.k (.c (.func 126 [] []))) [(.t 0),(.k (.c (.int .i64 1)))]),.op 119 (.buildSlice 2 none 7 [(.c (.int .i64 0))] [(0,(.t 17)),(1,(.t 11)),(2,(.t 9)),(3,(.t 7)),(4,(.t 4)),(5,(.t 2)),(6,(.t 0))]) (some 0),.op 120 (.call false (.k (.c (.func 125 [] []))) [(.t 0)]),.op 6 (.move (.t 0))] [0])
def oT:SCode:=.seq zq .ret
instance:IsSeq oT zq .ret:=⟨rfl⟩
def pd:SCode:=.seq AO oT
instance:IsSeq pd AO oT:=⟨rfl⟩
def sS:SCode:=.seq xr pd
instance:IsSeq sS xr pd:=⟨rfl⟩
def rU:SCode:=.seq E4 sS
instance:IsSeq rU E4 sS:=⟨rfl⟩
def rV:SCode:=.seq EU rU
instance:IsSeq rV EU rU:=⟨rfl⟩
def s8:SCode:=.seq DD rV
instance:IsSeq s8 DD rV:=⟨rfl⟩
def E5:SCode:=.seq Cl s8
instance:IsSeq E5 Cl s8:=⟨rfl⟩
def nG:SCode:=(.seq (.region [.op 3 (.box (.t 0)),.op 5 (.box (.t 3)),.op 6 (.move (.k (.c (.int .i64 0))))] [4,2,1]) E5)
def zD:SFunc:=.code .pure 121 3 [some 6] [.tmp 0] nG
def tC:SCode:=.seq (.region [.op 10 (.move (.t 3)),.op 5 (.move (.t 0))] [2,3,0,4,5]) (.seq (.region [.op 11 (.move (.t 1)),.op 12 (.move (.t 1)),.op 13 (.move (.t 4)),.op 14 (.idxSlice 1 (.t 1) (.t 0)),.op 15 (.load none (.t 0)),.op 16 (.call false (.t 4) [(.t 0)])] [6,7,8,9,10,0]) (.cond (.t 5) (.seq (.region [.op 17 (.move (.t 2)),.op 4 (.move (.t 0))] [0]) .ret) (.pre [0,1,3,4] .skip)))
instance:IsSeq tC (.region [.op 10 (.move (.t 3)),.op 5 (.move (.t 0))] [2,3,0,4,5]) (.seq (.region [.op 11 (.move (.t 1)),.op 12 (.move (.t 1)),.op 13 (.move (.t 4)),.op 14 (.idxSlice 1 (.t 1) (.t 0)),.op 15 (.load none (.t 0)),.op 16 (.call false (.t 4) [(.t 0)])] [6,7,8,9,10,0]) (.cond (.t 5) (.seq (.region [.op 17 (.move (.t 2)),.op 4 (.move (.t 0))] [0]) .ret) (.pre [0,1,3,4] .skip))):=⟨rfl⟩
def uB:SCode:=.seq (.block 1 [some 0,some 1,some 7,some 8] tC) (.region [.op 18 (.bin .add (.t 3) (.k (.c (.int .i64 1)))),.op 8 (.move (.t 0))] [2,3,4,0])
instance:IsSeq uB (.block 1 [some 0,some 1,some 7,some 8] tC) (.region [.op 18 (.bin .add (.t 3) (.k (.c (.int .i64 1)))),.op 8 (.move (.t 0))] [2,3,4,0]):=⟨rfl⟩
def Ct:SCode:=.seq (.cond (.t 4) (.pre [0,1,2,3] .skip) (.pre [] (.exit 0))) uB
instance:IsSeq Ct (.cond (.t 4) (.pre [0,1,2,3] .skip) (.pre [] (.exit 0))) uB:=⟨rfl⟩
def g9:SCode:=(.seq (.region [.op 9 (.bin .lss (.t 3) (.t 2))] [1,2,3,4,0]) Ct)
def tj:SCode:=.loop true g9
def Oa:SCode:=(.seq (.region [.op 4 (.move (.k (.c (.int .i64 0))))] [1,2]) (.seq (.seq (.region [.op 6 (.move (.t 0)),.op 7 (.len 1 (.t 0)),.op 8 (.move (.k (.c (.int .i64 0))))] [3,4,1,0]) (.block 0 [] tj)) (.seq (.region [.op 4 (.move (.k (.c (.int .i64 (-1)))))] [0]) .ret)))
def AA:SFunc:=.code .pure 19 2 [some 4] [.tmp 0] Oa
@[simp] def Rn:SCode:=(.draw 0 [.op 37 (.move (.t 0)),.op 38 (.move (.t 6)),.op 39 (.move (.t 2)),.op 40 (.move (.t 8)),.op 41 (.bin .sub (.t 0) (.k (.c (.int .i64 1)))),.op 42 (.move (.t 5)),.op 43 (.move (.t 11)),.op 44 (.bin .sub (.t 0) (.k (.c (.int .i64 1)))),.op 45 (.idxSlice 3 (.t 2) (.t 0)),.op 46 (.load (some 3) (.t 0)) none .old,.op 47 (.move (.t 10)),.op 48 (.move (.t 16)),.op 49 (.idxSlice 3 (.t 1) (.t 0)),.op 50 (.load (some 3) (.t 0)) none .old,.op 51 (.idxSlice 3 (.t 13) (.t 12)),.eff (.store 3 (.t 0) (.t 5)) none .old,.op 52 (.idxSlice 3 (.t 12) (.t 10)),.eff (.store 3 (.t 0) (.t 2)) none .old] [16,17,18,19,20,21])
def P0:SCode:=.seq (.block 3 [some 0,some 1,some 2,some 3,some 8,some 9] Rn) (.region [.op 35 (.move (.t 5)),.op 36 (.bin .sub (.t 0) (.k (.c (.int .i64 1)))),.op 9 (.move (.t 0))] [3,4,5,6,7,0])
def Of:SCode:=(.seq (.seq (.draw 0 [.op 18 (.move (.t 5)),.op 19 (.move (.t 2)),.op 20 (.bin .gtr (.t 1) (.t 0)),.op 21 (.move (.t 0)),.andN 34 0 [.op 22 (.move (.t 7)),.op 23 (.move (.t 5)),.op 24 (.move (.t 11)),.op 25 (.idxSlice 3 (.t 1) (.t 0)),.op 26 (.load (some 3) (.t 0)) none .old,.op 27 (.move (.t 9)),.op 28 (.move (.t 15)),.op 29 (.bin .sub (.t 0) (.k (.c (.int .i64 1)))),.op 30 (.idxSlice 3 (.t 2) (.t 0)),.op 31 (.load (some 3) (.t 0)) none .old,.op 32 (.call false (.t 9) [(.t 5),(.t 0)]),.op 33 (.bin .lss (.t 0) (.k (.c (.int .i64 0))))] (.t 0)] [5,6,7,8,9,10,0]) (.cond (.t 6) (.pre [0,1,2,3,4,5] .skip) (.pre [0,1,2,3,4] (.exit 2)))) P0)
def Pm:SCode:=.loop true Of
def MW:SCode:=(.seq (.seq (.region [.op 12 (.move (.t 4)),.op 13 (.move (.t 3)),.op 14 (.bin .lss (.t 1) (.t 0))] [3,4,5,6,7,0]) (.cond (.t 5) (.pre [0,1,2,3,4] .skip) (.pre [] (.exit 0)))) (.seq (.block 1 [some 0,some 1,some 2,some 3,some 8] (.seq (.region [.op 17 (.move (.t 4)),.op 9 (.move (.t 0))] [2,3,4,5,6,0]) (.block 2 [some 0,some 1,some 2,some 3,some 8] Pm))) (.region [.op 15 (.move (.t 4)),.op 16 (.bin .add (.t 0) (.k (.c (.int .i64 1)))),.op 8 (.move (.t 0))] [3,4,5,6,0])))
def Ry:SCode:=.loop true MW
def ac5:SCode:=(.seq (.region [.op 10 (.move (.t 1)),.op 11 (.bin .add (.t 0) (.k (.c (.int .i64 1)))),.op 8 (.move (.t 0))] [3,4,5,6,0]) (.block 0 [] Ry))
def Md:SFunc:=.code .shared 53 4 [] [] ac5
@[simp] def Eg:SCode:=(.region [.op 3 (.buildSlice 0 none 3 [(.c (.str []))] [(0,(.k (.c (.str [108,101,97,100])))),(1,(.k (.c (.str [98,111,117,108,100,101,114])))),(2,(.k (.c (.str [115,112,101,101,100]))))]),.op 4 (.buildSlice 0 none 2 [(.c (.str []))] [(0,(.k (.c (.str [108,101,97,100])))),(1,(.k (.c (.str [98,111,117,108,100,101,114]))))]),.op 1 (.move (.t 1)),.op 2 (.move (.t 1))] [1,0])
@[simp] def FM:SCode:=(.region [.op 5 (.makeMap),.op 6 (.move (.t 1)),.op 7 (.build [.nil,(.c (.bool false)),(.c .nilfunc)] [(0,1,(.t 0)),(1,1,(.k (.c (.bool true)))),(2,1,(.k (.c (.func 258 [] []))))]),.eff (.mapUpdate (.one 1) (.t 2) (.k (.c (.str [115,116,97,114,116]))) (.t 0)),.op 8 (.buildSlice 0 none 1 [(.c (.str []))] [(0,(.k (.c (.str [108,101,97,100]))))]),.op 9 (.build [.nil,(.c (.bool false)),(.c .nilfunc)] [(0,1,(.t 0)),(1,1,(.k (.c (.bool true)))),(2,1,(.k (.c (.func 259 [] []))))]),.eff (.mapUpdate (.one 1) (.t 4) (.k (.c (.str [104,111,108,100]))) (.t 0)),.op 10 (.buildSlice 0 none 1 [(.c (.str []))] [(0,(.k (.c (.str [108,101,97,100]))))]),.op 11 (.build [.nil,(.c (.bool false)),(.c .nilfunc)] [(0,1,(.t 0)),(1,1,(.k (.c (.bool false)))),(2,1,(.k (.c (.func 260 [] []))))]),.eff (.mapUpdate (.one 1) (.t 6) (.k (.c (.str [112,108,117,115]))) (.t 0)),.op 12 (.buildSlice 0 none 1 [(.c (.str []))] [(0,(.k (.c (.str [98,111,117,108,100,101,114]))))]),.op 13 (.build [.nil,(.c (.bool false)),(.c .nilfunc)] [(0,1,(.t 0)),(1,1,(.k (.c (.bool false)))),(2,1,(.k (.c (.func 261 [] []))))]),.eff (.mapUpdate (.one 1) (.t 8) (.k (.c (.str [97,116,116,101,109,112,116]))) (.t 0)),.op 14 (.buildSlice 0 none 1 [(.c (.str []))] [(0,(.k (.c (.str [98,111,117,108,100,101,114]))))]),.op 15 (.build [.nil,(.c (.bool false)),(.c .nilfunc)] [(0,1,(.t 0)),(1,1,(.k (.c (.bool false)))),(2,1,(.k (.c (.func 262 [] []))))]),.eff (.mapUpdate (.one 1) (.t 10) (.k (.c (.str [122,111,110,101]))) (.t 0)),.op 16 (.move (.t 12)),.op 17 (.build [.nil,(.c (.bool false)),(.c .nilfunc)] [(0,1,(.t 0)),(1,1,(.k (.c (.bool false)))),(2,1,(.k (.c (.func 263 [] []))))]),.eff (.mapUpdate (.one 1) (.t 12) (.k (.c (.str [116,111,112]))) (.t 0)),.op 18 (.move (.t 13)),.op 19 (.build [.nil,(.c (.bool false)),(.c .nilfunc)] [(0,1,(.t 0)),(1,1,(.k (.c (.bool false)))),(2,1,(.k (.c (.func 264 [] []))))]),.eff (.mapUpdate (.one 1) (.t 14) (.k (.c (.str [102,97,108,108]))) (.t 0)),.op 20 (.buildSlice 0 none 1 [(.c (.str []))] [(0,(.k (.c (.str [98,111,117,108,100,101,114]))))]),.op 21 (.build [.nil,(.c (.bool false)),(.c .nilfunc)] [(0,1,(.t 0)),(1,1,(.k (.c (.bool false)))),(2,1,(.k (.c (.func 265 [] []))))]),.eff (.mapUpdate (.one 1) (.t 16) (.k (.c (.str [108,101,97,118,101]))) (.t 0)),.op 22 (.move (.t 18)),.op 23 (.build [.nil,(.c (.bool false)),(.c .nilfunc)] [(0,1,(.t 0)),(1,1,(.k (.c (.bool false)))),(2,1,(.k (.c (.func 267 [] []))))]),.eff (.mapUpdate (.one 1) (.t 18) (.k (.c (.str [111,117,116]))) (.t 0)),.op 24 (.buildSlice 0 none 1 [(.c (.str []))] [(0,(.k (.c (.str [115,112,101,101,100]))))]),.op 25 (.build [.nil,(.c (.bool false)),(.c .nilfunc)] [(0,1,(.t 0)),(1,1,(.k (.c (.bool true)))),(2,1,(.k (.c (.func 268 [] []))))]),.eff (.mapUpdate (.one 1) (.t 20) (.k (.c (.str [102,105,110,105,115,104]))) (.t 0)),.op 26 (.buildSlice 0 none 1 [(.c (.str []))] [(0,(.k (.c (.str [115,112,101,101,100]))))]),.op 27 (.build [.nil,(.c (.bool false)),(.c .nilfunc)] [(0,1,(.t 0)),(1,1,(.k (.c (.bool false)))),(2,1,(.k (.c (.func 270 [] []))))]),.eff (.mapUpdate (.one 1) (.t 22) (.k (.c (.str [102,97,108,115,101]))) (.t 0)),.op 28 (.move (.t 23)),.op 29 (.build [.nil,(.c (.bool false)),(.c .nilfunc)] [(0,1,(.t 0)),(1,1,(.k (.c (.bool false)))),(2,1,(.k (.c (.func 272 [] []))))]),.eff (.mapUpdate (.one 1) (.t 24) (.k (.c (.str [105,110,99,105,100,101,110,116]))) (.t 0)),.op 30 (.move (.t 25)),.op 31 (.build [.nil,(.c (.bool false)),(.c .nilfunc)] [(0,1,(.t 0)),(1,1,(.k (.c (.bool false)))),(2,1,(.k (.c (.func 273 [] []))))]),.eff (.mapUpdate (.one 1) (.t 26) (.k (.c (.str [97,98,115,101,110,116]))) (.t 0)),.op 32 (.move (.t 27)),.op 33 (.build [.nil,(.c (.bool false)),(.c .nilfunc)] [(0,1,(.t 0)),(1,1,(.k (.c (.bool false)))),(2,1,(.k (.c (.func 274 [] []))))]),.eff (.mapUpdate (.one 1) (.t 28) (.k (.c (.str [98,97,114]))) (.t 0)),.op 34 (.move (.t 28)),.op 0 (.move (.t 0))] [0])
def ue:SCode:=.seq FM .ret
instance:IsSeq ue FM .ret:=⟨rfl⟩
def E7:SCode:=.seq Eg ue
instance:IsSeq E7 Eg ue:=⟨rfl⟩
def MT:SCode:=(.seq (.region [.op 0 (.move (.k (.c (.map [] []))))] []) E7)
def wd:SFunc:=.code .pure 35 0 [some 0] [.tmp 0] MT
def Mf:SCode:=(.seq (.region [.op 3 (.move (.k (.c (.bool false))))] [1,2]) (.seq (.region [.op 4 (.move (.t 0)),.op 5 (.fieldAddr 1 (.t 2)),.op 6 (.load none (.t 0)),.op 7 (.call false (.k (.c (.func 86 [] []))) [(.t 2),(.t 0)]),.op 3 (.move (.t 0))] [0]) .ret))
def wA:SFunc:=.code .live 8 2 [some 3] [.tmp 0] Mf
@[simp] def Cn:SCode:=(.draw 0 [.op 3 (.move (.t 0)),.op 4 (.nilCheck (.t 0)),.op 5 (.fieldAddr 9 (.t 0)),.op 6 (.load none (.t 0)) none .old,.op 7 (.move (.t 4)),.op 8 (.nilCheck (.t 0)),.op 9 (.fieldAddr 2 (.t 0)),.op 10 (.load none (.t 0)) none .old,.op 11 (.bin .sub (.t 0) (.k (.c (.int .i64 1)))),.op 12 (.idxSlice 4 (.t 5) (.t 0)),.op 2 (.move (.t 0))] [0])
def ED:SCode:=.seq Cn .ret
instance:IsSeq ED Cn .ret:=⟨rfl⟩
def L3:SCode:=(.seq (.region [.op 2 (.move (.k (.c .nilptr)))] [1]) ED)
def yg:SFunc:=.code .shared 13 1 [some 2] [.tmp 0] L3
def Gd:SCode:=(.seq (.region [.op 2 (.move (.k (.c (.int .i64 0))))] [1]) (.seq (.region [.op 3 (.move (.t 0)),.op 4 (.call false (.k (.c (.func 275 [] []))) [(.t 0),(.k (.c (.func 276 [] [])))]),.op 5 (.bin .add (.k (.c (.int .i64 1))) (.t 0)),.op 2 (.move (.t 0))] [0]) .ret))
def xP:SFunc:=.code .live 6 1 [some 2] [.tmp 0] Gd
def MX:SCode:=(.seq (.region [.op 2 (.move (.k (.c (.bool false))))] [1,2]) (.seq (.draw 0 [.op 3 (.fieldAddr 3 (.t 0)),.op 4 (.load none (.t 0)) none .var,.op 5 (.load none (.t 3)) none .var,.op 6 (.nilCheck (.t 0)),.op 7 (.fieldAddr 4 (.t 0)),.op 8 (.fieldAddr 0 (.t 0)),.op 9 (.load none (.t 0)) none .var,.op 10 (.bin .geq (.t 5) (.t 0)),.op 2 (.move (.t 0))] [0]) .ret))
def y5:SFunc:=.code .shared 11 2 [some 2] [.tmp 0] MX
@[simp] def EG:SCode:=(.region [.op 3 (.fieldAddr 0 (.t 0)),.op 4 (.load none (.t 0)),.op 5 (.bin .neq (.t 0) (.k (.c (.str [100,111,110,101])))),.op 6 (.move (.t 0)),.orN 15 0 [.op 7 (.load none (.t 5)),.op 8 (.buildSlice 0 none 1 [(.c (.str []))] [(0,(.k (.c (.str [98,97,114]))))]),.op 9 (.call false (.t 1) [(.t 0)]),.op 10 (.move (.t 0)),.andN 14 0 [.op 11 (.fieldAddr 1 (.t 8)),.op 12 (.load none (.t 0)),.op 13 (.bin .neq (.t 0) (.k (.c (.str [100,115,113]))))] (.t 0)] (.t 0),.op 2 (.move (.t 0))] [0])
def Dd:SCode:=.seq EG .ret
instance:IsSeq Dd EG .ret:=⟨rfl⟩
def yW:SCode:=(.seq (.region [.op 2 (.move (.k (.c (.bool false))))] [1,2]) Dd)
def wg:SFunc:=.code .shared 16 2 [some 2] [.tmp 0] yW
def Mm:SCode:=(.seq (.region [.op 2 (.move (.k (.c (.bool false))))] [1,2]) (.seq (.draw 0 [.op 3 (.fieldAddr 0 (.t 0)),.op 4 (.load none (.t 0)) none .var,.op 5 (.load none (.t 3)) none .var,.op 6 (.nilCheck (.t 0)),.op 7 (.fieldAddr 0 (.t 0)),.op 8 (.fieldAddr 0 (.t 0)),.op 9 (.load none (.t 0)) none .var,.op 10 (.call false (.k (.c (.func 86 [] []))) [(.t 5),(.t 0)]),.op 2 (.move (.t 0))] [0]) .ret))
def yq:SFunc:=.code .shared 11 2 [some 2] [.tmp 0] Mm
@[simp] def EM:SCode:=(.region [.op 3 (.load none (.t 0)),.op 4 (.buildSlice 0 none 1 [(.c (.str []))] [(0,(.k (.c (.str [115,116,97,114,116]))))]),.op 5 (.call false (.t 1) [(.t 0)]),.op 6 (.not (.t 0)),.op 7 (.move (.t 0)),.orN 11 0 [.op 8 (.fieldAddr 0 (.t 6)),.op 9 (.load none (.t 0)),.op 10 (.bin .eql (.t 0) (.k (.c (.str [119,97,105,116,105,110,103]))))] (.t 0),.op 2 (.move (.t 0))] [0])
def C0:SCode:=.seq EM .ret
instance:IsSeq C0 EM .ret:=⟨rfl⟩
def G8:SCode:=(.seq (.region [.op 2 (.move (.k (.c (.bool false))))] [1,2]) C0)
def yF:SFunc:=.code .shared 12 2 [some 2] [.tmp 0] G8
@[simp] def EA:SCode:=(.region [.op 4 (.load none (.t 0)),.op 5 (.buildSlice 0 none 1 [(.c (.str []))] [(0,(.k (.c (.str [115,116,97,114,116]))))]),.op 6 (.call false (.t 1) [(.t 0)]),.op 7 (.not (.t 0)),.op 8 (.move (.t 0)),.orN 12 0 [.op 9 (.load none (.t 6)),.op 10 (.load (some 4) (.t 8)),.op 11 (.call false (.k (.c (.func 223 [] []))) [(.t 1),(.t 0)])] (.t 0),.op 3 (.move (.t 0))] [0])
def CZ:SCode:=.seq EA .ret
instance:IsSeq CZ EA .ret:=⟨rfl⟩
def GA:SCode:=(.seq (.region [.op 3 (.move (.k (.c (.bool false))))] [1,2,3]) CZ)
def zK:SFunc:=.code .shared 13 3 [some 3] [.tmp 0] GA
@[simp] def FP:SCode:=(.region [.op 16 (.move (.t 5)),.op 17 (.idxSlice 11 (.t 4) (.t 6)),.op 18 (.load (some 11) (.t 0)),.op 7 (.new [(.c (.str [])),(.c (.str [])),(.c (.int .i64 0)),(.c (.int .i64 0)),(.c (.int .i64 0)),(.c (.int .i64 0)),(.c (.bool false)),(.c (.bool false)),(.c (.bool false)),.nil,.nil]),.op 6 (.move (.t 3)),.eff (.store 11 (.t 1) (.t 2))] [5,6,7,0,1,8,9,10])
@[simp] def Cv:SCode:=(.seq (.draw 0 [.op 19 (.move (.t 3)),.op 20 (.fieldAddr 0 (.t 2)),.op 21 (.load none (.t 0)) none .var,.op 22 (.bin .eql (.t 2) (.t 0)),.op 23 (.move (.t 0)),.orN 33 0 [.op 24 (.move (.t 5)),.op 25 (.nilCheck (.t 0)),.op 26 (.fieldAddr 0 (.t 0)),.op 27 (.load (some 4) (.t 0)) none .var,.op 28 (.load (some 11) (.t 13)) none .var,.op 29 (.fieldAddr 2 (.t 11)),.op 30 (.load none (.t 0)) none .var,.op 31 (.call false (.k (.c (.func 155 [] []))) [(.t 3),(.t 2),(.t 0)]),.op 32 (.not (.t 0))] (.t 0)] [6,7,8,11,12,13,0]) (.cond (.t 6) (.pre [0,1,2,3,4,5] (.exit 1)) (.pre [] .skip)))
def ut:SCode:=.seq Cv (.seq (.region [.op 5 (.move (.k (.c (.bool false))))] [0]) (.exit 0))
instance:IsSeq ut Cv (.seq (.region [.op 5 (.move (.k (.c (.bool false))))] [0]) (.exit 0)):=⟨rfl⟩
def sn:SCode:=.seq FP ut
instance:IsSeq sn FP ut:=⟨rfl⟩
def uy:SCode:=.seq (.block 1 [some 0,some 3,some 5,some 12,some 13,some 14] sn) (.region [.op 34 (.bin .add (.t 5) (.k (.c (.int .i64 1)))),.op 14 (.move (.t 0))] [2,3,4,5,6,0])
instance:IsSeq uy (.block 1 [some 0,some 3,some 5,some 12,some 13,some 14] sn) (.region [.op 34 (.bin .add (.t 5) (.k (.c (.int .i64 1)))),.op 14 (.move (.t 0))] [2,3,4,5,6,0]):=⟨rfl⟩
def FO:SCode:=.seq (.cond (.t 6) (.pre [0,1,2,3,4,5] .skip) (.pre [2] (.exit 0))) uy
instance:IsSeq FO (.cond (.t 6) (.pre [0,1,2,3,4,5] .skip) (.pre [2] (.exit 0))) uy:=⟨rfl⟩
def fo:SCode:=(.seq (.region [.op 15 (.bin .lss (.t 5) (.t 4))] [1,2,3,4,5,6,0]) FO)
def lx:SCode:=.loop true fo
def sV:SCode:=.seq .skip (.seq (.seq (.region [.op 8 (.move (.t 0)),.op 9 (.nilCheck (.t 0)),.op 10 (.fieldAddr 4 (.t 0)),.op 11 (.fieldAddr 1 (.t 0)),.op 12 (.load none (.t 0)),.op 13 (.len 1 (.t 0)),.op 14 (.move (.k (.c (.int .i64 0))))] [7,8,9,2,1,0]) (.block 0 [some 5] lx)) (.seq (.region [.op 35 (.move (.t 0)),.op 4 (.move (.t 0))] [0]) .ret))
instance:IsSeq sV .skip (.seq (.seq (.region [.op 8 (.move (.t 0)),.op 9 (.nilCheck (.t 0)),.op 10 (.fieldAddr 4 (.t 0)),.op 11 (.fieldAddr 1 (.t 0)),.op 12 (.load none (.t 0)),.op 13 (.len 1 (.t 0)),.op 14 (.move (.k (.c (.int .i64 0))))] [7,8,9,2,1,0]) (.block 0 [some 5] lx)) (.seq (.region [.op 35 (.move (.t 0)),.op 4 (.move (.t 0))] [0]) .ret)):=⟨rfl⟩
def Ej:SCode:=.seq (.region [.op 5 (.move (.k (.c (.bool true))))] [1,2,0]) sV
instance:IsSeq Ej (.region [.op 5 (.move (.k (.c (.bool true))))] [1,2,0]) sV:=⟨rfl⟩
def LS:SCode:=(.seq (.region [.op 3 (.box (.t 1)),.op 4 (.move (.k (.c (.bool false))))] [2,1]) Ej)
def w6:SFunc:=.code .shared 36 2 [some 4] [.tmp 0] LS
@[simp] def Ff:SCode:=(.region [.op 5 (.load none (.t 0)),.op 6 (.buildSlice 0 none 1 [(.c (.str []))] [(0,(.k (.c (.str [115,116,97,114,116]))))]),.op 7 (.call false (.t 1) [(.t 0)]),.op 8 (.not (.t 0)),.op 9 (.move (.t 0)),.orN 15 0 [.op 10 (.load none (.t 6)),.op 11 (.load (some 11) (.t 8)),.op 12 (.fieldAddr 2 (.t 10)),.op 13 (.load none (.t 0)),.op 14 (.call false (.k (.c (.func 225 [] []))) [(.t 3),(.t 2),(.t 0)])] (.t 0),.op 4 (.move (.t 0))] [0])
def FI:SCode:=.seq Ff .ret
instance:IsSeq FI Ff .ret:=⟨rfl⟩
def GK:SCode:=(.seq (.region [.op 4 (.move (.k (.c (.bool false))))] [1,2,3,4]) FI)
def Ab:SFunc:=.code .shared 16 4 [some 4] [.tmp 0] GK
@[simp] def CM:SCode:=(.region [.op 13 (.bin .eql (.t 3) (.k (.c (.str [108,101,97,100])))),.op 12 (.move (.t 0))] [2,3,4,5,0])
@[simp] def Fr:SCode:=(.region [.op 17 (.bin .eql (.t 3) (.k (.c (.str [115,112,101,101,100])))),.op 16 (.move (.t 0))] [2,3,4,0])
def sP:SCode:=.seq Fr (.cond (.t 3) (.seq (.region [.op 18 (.move (.t 1)),.op 19 (.call false (.k (.c (.func 199 [] []))) [(.t 0),(.k (.c (.int .i64 1))),(.k (.c (.int .i64 2)))]),.op 20 (.not (.t 0)),.op 6 (.move (.t 0))] [0]) .ret) (.pre [0,1,2] .skip))
instance:IsSeq sP Fr (.cond (.t 3) (.seq (.region [.op 18 (.move (.t 1)),.op 19 (.call false (.k (.c (.func 199 [] []))) [(.t 0),(.k (.c (.int .i64 1))),(.k (.c (.int .i64 2)))]),.op 20 (.not (.t 0)),.op 6 (.move (.t 0))] [0]) .ret) (.pre [0,1,2] .skip)):=⟨rfl⟩
def sI:SCode:=.cond (.t 4) (.seq (.region [.op 14 (.move (.t 1)),.op 15 (.bin .eql (.t 0) (.k (.c (.int .i64 0)))),.op 6 (.move (.t 0))] [0]) .ret) sP
instance:IsCond sI (.t 4) (.seq (.region [.op 14 (.move (.t 1)),.op 15 (.bin .eql (.t 0) (.k (.c (.int .i64 0)))),.op 6 (.move (.t 0))] [0]) .ret) sP:=⟨rfl⟩
def uo:SCode:=.seq CM sI
instance:IsSeq uo CM sI:=⟨rfl⟩
def DK:SCode:=.block 0 [some 0,some 2,some 4] uo
instance:IsBlock DK 0 [some 0,some 2,some 4] uo:=⟨rfl⟩
@[simp] def Fk:SCode:=(.seq (.region [.op 7 (.move (.t 0)),.op 8 (.nilCheck (.t 0)),.op 9 (.fieldAddr 0 (.t 0)),.op 10 (.fieldAddr 0 (.t 0)),.op 11 (.load none (.t 0))] [5,6,7,0]) DK)
@[simp] def zm:SCode:=(.region [.op 21 (.move (.t 1)),.op 22 (.move (.t 1)),.op 23 (.nilCheck (.t 0)),.op 24 (.fieldAddr 0 (.t 0)),.op 25 (.fieldAddr 2 (.t 0)),.op 26 (.load none (.t 0)),.op 27 (.call false (.k (.c (.func 199 [] []))) [(.t 5),(.k (.c (.int .i64 1))),(.t 0)]),.op 28 (.not (.t 0)),.op 29 (.move (.t 0)),.andN 38 0 [.op 30 (.fieldAddr 9 (.t 11)),.op 31 (.load none (.t 0)),.op 32 (.move (.t 12)),.op 33 (.bin .sub (.t 0) (.k (.c (.int .i64 1)))),.op 34 (.idxSlice 4 (.t 2) (.t 0)),.op 35 (.fieldAddr 3 (.t 0)),.op 36 (.load none (.t 0)),.op 37 (.not (.t 0))] (.t 0),.op 6 (.move (.t 0))] [0])
def tK:SCode:=.seq zm .ret
instance:IsSeq tK zm .ret:=⟨rfl⟩
def CD:SCode:=.seq Fk tK
instance:IsSeq CD Fk tK:=⟨rfl⟩
def pe:SCode:=(.seq (.region [.op 4 (.box (.t 1)),.op 6 (.move (.k (.c (.bool false))))] [2,4,1]) CD)
def yR:SFunc:=.code .shared 39 3 [some 6] [.tmp 0] pe
@[simp] def EB:SCode:=(.region [.op 3 (.load none (.t 0)),.op 4 (.buildSlice 0 none 3 [(.c (.str []))] [(0,(.k (.c (.str [115,116,97,114,116])))),(1,(.k (.c (.str [97,98,115,101,110,116])))),(2,(.k (.c (.str [98,97,114]))))]),.op 5 (.call false (.t 1) [(.t 0)]),.op 6 (.move (.t 0)),.orN 10 0 [.op 7 (.fieldAddr 0 (.t 5)),.op 8 (.load none (.t 0)),.op 9 (.bin .eql (.t 0) (.k (.c (.str [111,110]))))] (.t 0),.op 2 (.move (.t 0))] [0])
def Fe:SCode:=.seq EB .ret
instance:IsSeq Fe EB .ret:=⟨rfl⟩
def Gg:SCode:=(.seq (.region [.op 2 (.move (.k (.c (.bool false))))] [1,2]) Fe)
def y7:SFunc:=.code .shared 11 2 [some 2] [.tmp 0] Gg
@[simp] def Ea:SCode:=(.region [.op 4 (.load none (.t 0)),.op 5 (.buildSlice 0 none 5 [(.c (.str []))] [(0,(.k (.c (.str [104,111,108,100])))),(1,(.k (.c (.str [112,108,117,115])))),(2,(.k (.c (.str [97,116,116,101,109,112,116])))),(3,(.k (.c (.str [122,111,110,101])))),(4,(.k (.c (.str [116,111,112]))))]),.op 6 (.call false (.t 1) [(.t 0)]),.op 7 (.not (.t 0)),.op 8 (.move (.t 0)),.orN 13 0 [.op 9 (.fieldAddr 3 (.t 6)),.op 10 (.load none (.t 0)),.op 11 (.load none (.t 9)),.op 12 (.bin .leq (.t 1) (.t 0))] (.t 0),.op 3 (.move (.t 0))] [0])
def C4:SCode:=.seq Ea .ret
instance:IsSeq C4 Ea .ret:=⟨rfl⟩
def GF:SCode:=(.seq (.region [.op 3 (.move (.k (.c (.bool false))))] [1,2,3]) C4)
def As:SFunc:=.code .shared 14 3 [some 3] [.tmp 0] GF
@[simp] def DT:SCode:=(.region [.op 4 (.load none (.t 0)),.op 5 (.buildSlice 0 none 1 [(.c (.str []))] [(0,(.k (.c (.str [111,117,116]))))]),.op 6 (.call false (.t 1) [(.t 0)]),.op 7 (.not (.t 0)),.op 8 (.move (.t 0)),.orN 13 0 [.op 9 (.fieldAddr 3 (.t 6)),.op 10 (.load none (.t 0)),.op 11 (.load none (.t 9)),.op 12 (.bin .geq (.t 1) (.t 0))] (.t 0),.op 3 (.move (.t 0))] [0])
def EV:SCode:=.seq DT .ret
instance:IsSeq EV DT .ret:=⟨rfl⟩
def GU:SCode:=(.seq (.region [.op 3 (.move (.k (.c (.bool false))))] [1,2,3]) EV)
def xN:SFunc:=.code .shared 14 3 [some 3] [.tmp 0] GU
@[simp] def CO:SCode:=(.draw 1 [.op 5 (.load none (.t 0)) none .var,.op 6 (.buildSlice 0 none 1 [(.c (.str []))] [(0,(.k (.c (.str [104,111,108,100]))))]) (some 0),.op 7 (.call false (.t 1) [(.t 0)]),.op 8 (.not (.t 0)),.op 9 (.move (.t 0)),.orN 25 0 [.op 10 (.fieldAddr 2 (.t 6)),.op 11 (.load none (.t 0)) none .var,.op 12 (.fieldAddr 5 (.t 9)),.op 13 (.load none (.t 0)) none .var,.op 14 (.bin .gtr (.t 2) (.t 0)),.op 15 (.move (.t 0)),.andN 24 0 [.op 16 (.fieldAddr 2 (.t 12)),.op 17 (.load none (.t 0)) none .var,.op 18 (.load none (.t 16)) none .var,.op 19 (.nilCheck (.t 0)),.op 20 (.fieldAddr 0 (.t 0)),.op 21 (.fieldAddr 2 (.t 0)),.op 22 (.load none (.t 0)) none .var,.op 23 (.bin .leq (.t 5) (.t 0))] (.t 0)] (.t 0),.op 4 (.move (.t 0))] [0])
def EQ:SCode:=.seq CO .ret
instance:IsSeq EQ CO .ret:=⟨rfl⟩
def vT:SCode:=(.seq (.region [.op 4 (.move (.k (.c (.bool false))))] [1,2,3,4]) EQ)
def xI:SFunc:=.code .shared 26 4 [some 4] [.tmp 0] vT
@[simp] def C6:SCode:=(.draw 1 [.op 4 (.load none (.t 0)) none .var,.op 5 (.buildSlice 0 none 1 [(.c (.str []))] [(0,(.k (.c (.str [112,108,117,115]))))]) (some 0),.op 6 (.call false (.t 1) [(.t 0)]),.op 7 (.not (.t 0)),.op 8 (.move (.t 0)),.orN 22 0 [.op 9 (.fieldAddr 6 (.t 6)),.op 10 (.load none (.t 0)) none .var,.op 11 (.not (.t 0)),.op 12 (.move (.t 0)),.andN 21 0 [.op 13 (.fieldAddr 5 (.t 10)),.op 14 (.load none (.t 0)) none .var,.op 15 (.load none (.t 13)) none .var,.op 16 (.nilCheck (.t 0)),.op 17 (.fieldAddr 0 (.t 0)),.op 18 (.fieldAddr 2 (.t 0)),.op 19 (.load none (.t 0)) none .var,.op 20 (.bin .lss (.t 5) (.t 0))] (.t 0)] (.t 0),.op 3 (.move (.t 0))] [0])
def Do:SCode:=.seq C6 .ret
instance:IsSeq Do C6 .ret:=⟨rfl⟩
def wQ:SCode:=(.seq (.region [.op 3 (.move (.k (.c (.bool false))))] [1,2,3]) Do)
def xd:SFunc:=.code .shared 23 3 [some 3] [.tmp 0] wQ
def M3:SCode:=(.seq (.region [.op 3 (.move (.k (.c (.bool false))))] [1,2,3]) (.seq (.region [.op 4 (.load none (.t 0)),.op 5 (.load (some 11) (.t 2)),.op 6 (.fieldAddr 1 (.t 4)),.op 7 (.load none (.t 0)),.op 8 (.call false (.k (.c (.func 232 [] []))) [(.t 3),(.t 2),(.t 0)]),.op 3 (.move (.t 0))] [0]) .ret))
def xT:SFunc:=.code .shared 9 3 [some 3] [.tmp 0] M3
@[simp] def Ft:SCode:=(.draw 0 [.op 13 (.move (.t 1)),.op 14 (.bin .neq (.t 0) (.k (.c (.str [116,111,112])))),.op 15 (.move (.t 0)),.orN 24 0 [.op 16 (.fieldAddr 5 (.t 5)),.op 17 (.load none (.t 0)) none .var,.op 18 (.move (.t 5)),.op 19 (.nilCheck (.t 0)),.op 20 (.fieldAddr 0 (.t 0)),.op 21 (.fieldAddr 2 (.t 0)),.op 22 (.load none (.t 0)) none .var,.op 23 (.bin .eql (.t 5) (.t 0))] (.t 0),.op 6 (.move (.t 0))] [0])
def rM:SCode:=.seq Ft .ret
instance:IsSeq rM Ft .ret:=⟨rfl⟩
def E2:SCode:=.cond (.t 3) rM (.pre [0,1,2] .skip)
instance:IsCond E2 (.t 3) rM (.pre [0,1,2] .skip):=⟨rfl⟩
@[simp] def EH:SCode:=(.seq (.region [.op 7 (.move (.t 0)),.op 8 (.nilCheck (.t 0)),.op 9 (.fieldAddr 0 (.t 0)),.op 10 (.fieldAddr 0 (.t 0)),.op 11 (.load none (.t 0)),.op 12 (.bin .eql (.t 0) (.k (.c (.str [108,101,97,100]))))] [6,7,8,0]) E2)
@[simp] def CI:SCode:=(.region [.op 25 (.move (.t 0)),.op 26 (.nilCheck (.t 0)),.op 27 (.fieldAddr 0 (.t 0)),.op 28 (.fieldAddr 0 (.t 0)),.op 29 (.load none (.t 0)),.op 30 (.bin .neq (.t 0) (.k (.c (.str [98,111,117,108,100,101,114])))),.op 31 (.move (.t 0)),.orN 36 0 [.op 32 (.buildSlice 2 none 4 [(.c (.str []))] [(0,(.k (.c (.str [122,111,110,101])))),(1,(.k (.c (.str [116,111,112])))),(2,(.k (.c (.str [102,97,108,108])))),(3,(.k (.c (.str [105,110,99,105,100,101,110,116]))))]),.op 33 (.move (.t 9)),.op 34 (.call false (.k (.c (.func 86 [] []))) [(.t 1),(.t 0)]),.op 35 (.not (.t 0))] (.t 0),.op 37 (.move (.t 0)),.orN 40 0 [.op 38 (.fieldAddr 8 (.t 11)),.op 39 (.load none (.t 0))] (.t 0),.op 6 (.move (.t 0))] [0])
def sZ:SCode:=.seq CI .ret
instance:IsSeq sZ CI .ret:=⟨rfl⟩
def C1:SCode:=.seq EH sZ
instance:IsSeq C1 EH sZ:=⟨rfl⟩
def o9:SCode:=(.seq (.region [.op 4 (.box (.t 1)),.op 6 (.move (.k (.c (.bool false))))] [2,4,1]) C1)
def yj:SFunc:=.code .shared 41 3 [some 6] [.tmp 0] o9
@[simp] def E3:SCode:=(.region [.op 4 (.load none (.t 0)),.op 5 (.buildSlice 0 none 1 [(.c (.str []))] [(0,(.k (.c (.str [97,116,116,101,109,112,116]))))]),.op 6 (.call false (.t 1) [(.t 0)]),.op 7 (.not (.t 0)),.op 8 (.move (.t 0)),.orN 22 0 [.op 9 (.fieldAddr 8 (.t 6)),.op 10 (.load none (.t 0)),.op 11 (.not (.t 0)),.op 12 (.move (.t 0)),.andN 16 0 [.op 13 (.fieldAddr 2 (.t 11)),.op 14 (.load none (.t 0)),.op 15 (.bin .eql (.t 0) (.k (.c (.int .i64 0))))] (.t 0),.op 17 (.move (.t 0)),.andN 21 0 [.op 18 (.fieldAddr 0 (.t 13)),.op 19 (.load none (.t 0)),.op 20 (.bin .lss (.t 0) (.k (.c (.int .i64 99))))] (.t 0)] (.t 0),.op 3 (.move (.t 0))] [0])
def Cu:SCode:=.seq E3 .ret
instance:IsSeq Cu E3 .ret:=⟨rfl⟩
def pp:SCode:=(.seq (.region [.op 3 (.move (.k (.c (.bool false))))] [1,2,3]) Cu)
def AN:SFunc:=.code .shared 23 3 [some 3] [.tmp 0] pp
@[simp] def CG:SCode:=(.region [.op 3 (.load none (.t 0)),.op 4 (.buildSlice 0 none 1 [(.c (.str []))] [(0,(.k (.c (.str [122,111,110,101]))))]),.op 5 (.call false (.t 1) [(.t 0)]),.op 6 (.not (.t 0)),.op 7 (.move (.t 0)),.orN 11 0 [.op 8 (.fieldAddr 1 (.t 6)),.op 9 (.load none (.t 0)),.op 10 (.bin .eql (.t 0) (.k (.c (.int .i64 0))))] (.t 0),.op 2 (.move (.t 0))] [0])
def CK:SCode:=.seq CG .ret
instance:IsSeq CK CG .ret:=⟨rfl⟩
def yL:SCode:=(.seq (.region [.op 2 (.move (.k (.c (.bool false))))] [1,2]) CK)
def zb:SFunc:=.code .shared 12 2 [some 2] [.tmp 0] yL
@[simp] def DN:SCode:=(.region [.op 4 (.load none (.t 0)),.op 5 (.buildSlice 0 none 1 [(.c (.str []))] [(0,(.k (.c (.str [102,105,110,105,115,104]))))]),.op 6 (.call false (.t 1) [(.t 0)]),.op 7 (.not (.t 0)),.op 8 (.move (.t 0)),.orN 18 0 [.op 9 (.fieldAddr 2 (.t 6)),.op 10 (.load none (.t 0)),.op 11 (.fieldAddr 3 (.t 8)),.op 12 (.load none (.t 0)),.op 13 (.fieldAddr 3 (.t 11)),.op 14 (.load none (.t 0)),.op 15 (.bin .sub (.t 2) (.t 0)),.op 16 (.call false (.k (.c (.func 199 [] []))) [(.t 5),(.k (.c (.int .i64 1))),(.t 0)]),.op 17 (.not (.t 0))] (.t 0),.op 3 (.move (.t 0))] [0])
def D0:SCode:=.seq DN .ret
instance:IsSeq D0 DN .ret:=⟨rfl⟩
def po:SCode:=(.seq (.region [.op 3 (.move (.k (.c (.bool false))))] [1,2,3]) D0)
def we:SFunc:=.code .shared 19 3 [some 3] [.tmp 0] po
@[simp] def F5:SCode:=(.region [.op 4 (.load none (.t 0)),.op 5 (.buildSlice 0 none 1 [(.c (.str []))] [(0,(.k (.c (.str [97,98,115,101,110,116]))))]),.op 6 (.call false (.t 1) [(.t 0)]),.op 7 (.not (.t 0)),.op 8 (.move (.t 0)),.orN 17 0 [.op 9 (.fieldAddr 0 (.t 6)),.op 10 (.load none (.t 0)),.op 11 (.bin .eql (.t 0) (.k (.c (.str [119,97,105,116,105,110,103])))),.op 12 (.move (.t 0)),.andN 16 0 [.op 13 (.load none (.t 11)),.op 14 (.load (some 11) (.t 11)),.op 15 (.call false (.k (.c (.func 237 [] []))) [(.t 1),(.t 0)])] (.t 0)] (.t 0),.op 3 (.move (.t 0))] [0])
def Cp:SCode:=.seq F5 .ret
instance:IsSeq Cp F5 .ret:=⟨rfl⟩
def zV:SCode:=(.seq (.region [.op 3 (.move (.k (.c (.bool false))))] [1,2,3]) Cp)
def Ac:SFunc:=.code .shared 18 3 [some 3] [.tmp 0] zV
end LM.GZ
namespace LM.GZ
open Go LM
@[simp] def Ep:SCode:=(.region [.op 11 (.bin .eql (.t 1) (.k (.c (.str [98,111,117,108,100,101,114])))),.op 10 (.move (.t 0))] [2,3,0])
def tq:SCode:=.cond (.t 2) (.seq (.region [.op 12 (.fieldAddr 9 (.t 0)),.op 13 (.load none (.t 0)),.op 14 (.call false (.k (.c (.func 277 [] []))) [(.t 0),(.k (.c (.func 278 [] [])))]),.op 15 (.not (.t 0)),.op 4 (.move (.t 0))] [0]) .ret) (.seq (.region [.op 17 (.bin .eql (.t 1) (.k (.c (.str [115,112,101,101,100])))),.op 16 (.move (.t 0))] [2,0]) (.cond (.t 1) (.seq (.region [.op 18 (.fieldAddr 10 (.t 0)),.op 19 (.load none (.t 0)),.op 20 (.len 1 (.t 0)),.op 21 (.bin .eql (.t 0) (.k (.c (.int .i64 0)))),.op 4 (.move (.t 0))] [0]) .ret) (.pre [] .skip)))
instance:IsCond tq (.t 2) (.seq (.region [.op 12 (.fieldAddr 9 (.t 0)),.op 13 (.load none (.t 0)),.op 14 (.call false (.k (.c (.func 277 [] []))) [(.t 0),(.k (.c (.func 278 [] [])))]),.op 15 (.not (.t 0)),.op 4 (.move (.t 0))] [0]) .ret) (.seq (.region [.op 17 (.bin .eql (.t 1) (.k (.c (.str [115,112,101,101,100])))),.op 16 (.move (.t 0))] [2,0]) (.cond (.t 1) (.seq (.region [.op 18 (.fieldAddr 10 (.t 0)),.op 19 (.load none (.t 0)),.op 20 (.len 1 (.t 0)),.op 21 (.bin .eql (.t 0) (.k (.c (.int .i64 0)))),.op 4 (.move (.t 0))] [0]) .ret) (.pre [] .skip))):=⟨rfl⟩
def rN:SCode:=.seq Ep tq
instance:IsSeq rN Ep tq:=⟨rfl⟩
def CT:SCode:=.block 0 [] rN
instance:IsBlock CT 0 [] rN:=⟨rfl⟩
@[simp] def Dm:SCode:=(.seq (.region [.op 5 (.move (.t 0)),.op 6 (.nilCheck (.t 0)),.op 7 (.fieldAddr 0 (.t 0)),.op 8 (.fieldAddr 0 (.t 0)),.op 9 (.load none (.t 0))] [6,0]) CT)
def D5:SCode:=.seq Dm (.seq (.region [.op 4 (.move (.k (.c (.bool true))))] [0]) .ret)
instance:IsSeq D5 Dm (.seq (.region [.op 4 (.move (.k (.c (.bool true))))] [0]) .ret):=⟨rfl⟩
def tU:SCode:=(.seq (.region [.op 3 (.box (.t 1)),.op 4 (.move (.k (.c (.bool false))))] [2,1]) D5)
def yO:SFunc:=.code .shared 22 2 [some 4] [.tmp 0] tU
@[simp] def Df:SCode:=(.region [.op 3 (.makeMap),.op 4 (.fieldAddr 2 (.t 1)),.op 5 (.load none (.t 0)),.eff (.mapUpdate (.one 1) (.t 2) (.k (.c (.str [98,111,117,108,100,101,114]))) (.t 0)),.eff (.mapUpdate (.one 1) (.t 2) (.k (.c (.str [115,112,101,101,100]))) (.k (.c (.int .i64 2)))),.op 6 (.move (.t 2)),.op 7 (.fieldAddr 0 (.t 4)),.op 8 (.load none (.t 0)),.op 9 (.lookup (.one 1) (.c (.int .i64 0)) false (.t 2) (.t 0)),.op 2 (.move (.t 0))] [0])
def Cf:SCode:=.seq Df .ret
instance:IsSeq Cf Df .ret:=⟨rfl⟩
def Oz:SCode:=(.seq (.region [.op 1 (.box (.t 0)),.op 2 (.move (.k (.c (.int .i64 0))))] [1]) Cf)
def v7:SFunc:=.code .pure 10 1 [some 2] [.tmp 0] Oz
def Oj:SCode:=(.seq (.region [.op 1 (.box (.t 0)),.op 2 (.move (.k (.c (.int .i64 0))))] [1]) (.seq (.region [.op 3 (.makeMap),.op 4 (.fieldAddr 2 (.t 1)),.op 5 (.load none (.t 0)),.eff (.mapUpdate (.one 1) (.t 2) (.k (.c (.str [108,101,97,100]))) (.t 0)),.op 6 (.move (.t 2)),.op 7 (.fieldAddr 0 (.t 4)),.op 8 (.load none (.t 0)),.op 9 (.lookup (.one 1) (.c (.int .i64 0)) false (.t 2) (.t 0)),.op 2 (.move (.t 0))] [0]) .ret))
def AR:SFunc:=.code .pure 10 1 [some 2] [.tmp 0] Oj
def L5:SCode:=(.seq (.region [.op 2 (.move (.k (.c (.bool false))))] [1]) (.seq (.region [.op 3 (.move (.t 0)),.op 4 (.call false (.k (.c (.func 199 [] []))) [(.t 0),(.k (.c (.int .i64 0))),(.k (.c (.int .i64 86399999)))]),.op 2 (.move (.t 0))] [0]) .ret))
def zO:SFunc:=.code .pure 5 1 [some 2] [.tmp 0] L5
@[simp] def ET:SCode:=(.region [.op 12 (.idxSlice 4 (.t 0) (.t 2)),.op 13 (.load (some 4) (.t 0)),.op 4 (.new [(.c (.int .i64 0)),(.c (.int .i64 0)),(.c (.int .i64 0)),(.c (.bool false))]),.eff (.store 4 (.t 0) (.t 1))] [0,3,4,5])
@[simp] def FX:SCode:=(.region [.op 14 (.fieldAddr 0 (.t 0)),.op 15 (.load none (.t 0)),.op 16 (.call false (.k (.c (.func 199 [] []))) [(.t 0),(.k (.c (.int .i64 0))),(.k (.c (.int .i64 99)))]),.op 17 (.move (.t 0)),.orN 23 0 [.op 18 (.fieldAddr 1 (.t 4)),.op 19 (.load none (.t 0)),.op 20 (.fieldAddr 0 (.t 6)),.op 21 (.load none (.t 0)),.op 22 (.call false (.k (.c (.func 199 [] []))) [(.t 2),(.k (.c (.int .i64 0))),(.t 0)])] (.t 0),.op 24 (.move (.t 0)),.orN 30 0 [.op 25 (.fieldAddr 2 (.t 6)),.op 26 (.load none (.t 0)),.op 27 (.fieldAddr 0 (.t 8)),.op 28 (.load none (.t 0)),.op 29 (.call false (.k (.c (.func 199 [] []))) [(.t 2),(.k (.c (.int .i64 0))),(.t 0)])] (.t 0),.op 5 (.move (.t 0))] [8,0,9,10,11])
@[simp] def Fh:SCode:=(.region [.op 31 (.fieldAddr 2 (.t 0)),.op 32 (.load none (.t 0)),.op 33 (.bin .gtr (.t 0) (.k (.c (.int .i64 0)))),.op 34 (.move (.t 0)),.andN 45 0 [.op 35 (.fieldAddr 1 (.t 4)),.op 36 (.load none (.t 0)),.op 37 (.bin .eql (.t 0) (.k (.c (.int .i64 0)))),.op 38 (.move (.t 0)),.orN 44 0 [.op 39 (.fieldAddr 1 (.t 8)),.op 40 (.load none (.t 0)),.op 41 (.fieldAddr 2 (.t 10)),.op 42 (.load none (.t 0)),.op 43 (.bin .gtr (.t 2) (.t 0))] (.t 0)] (.t 0),.op 46 (.move (.t 0)),.orN 55 0 [.op 47 (.fieldAddr 0 (.t 6)),.op 48 (.load none (.t 0)),.op 49 (.bin .gtr (.t 0) (.k (.c (.int .i64 0)))),.op 50 (.move (.t 0)),.andN 54 0 [.op 51 (.fieldAddr 3 (.t 10)),.op 52 (.load none (.t 0)),.op 53 (.not (.t 0))] (.t 0)] (.t 0),.op 6 (.move (.t 0))] [9,0,10,11,12])
@[simp] def A4:SCode:=(.region [.op 56 (.move (.t 0)),.op 57 (.call false (.k (.c (.func 126 [] []))) [(.t 0),(.k (.c (.int .i64 3)))]),.op 58 (.move (.t 3)),.op 59 (.call false (.k (.c (.func 126 [] []))) [(.t 0),(.k (.c (.int .i64 1)))]),.op 60 (.buildSlice 2 none 2 [(.c (.int .i64 0))] [(0,(.t 2)),(1,(.t 0))]),.op 61 (.call false (.k (.c (.func 125 [] []))) [(.t 0)]),.op 7 (.move (.t 0))] [0,9,10,11])
def r5:SCode:=.seq A4 (.seq (.region [.op 62 (.move (.t 0)),.op 63 (.bin .neq (.t 0) (.k (.c (.int .i64 0))))] [2,3,4,5,0]) (.cond (.t 4) (.seq (.region [.op 64 (.move (.t 0)),.op 2 (.move (.t 0))] [0]) .ret) (.pre [1,2,3] .skip)))
instance:IsSeq r5 A4 (.seq (.region [.op 62 (.move (.t 0)),.op 63 (.bin .neq (.t 0) (.k (.c (.int .i64 0))))] [2,3,4,5,0]) (.cond (.t 4) (.seq (.region [.op 64 (.move (.t 0)),.op 2 (.move (.t 0))] [0]) .ret) (.pre [1,2,3] .skip))):=⟨rfl⟩
def ux:SCode:=.seq Fh r5
instance:IsSeq ux Fh r5:=⟨rfl⟩
def rY:SCode:=.seq FX ux
instance:IsSeq rY FX ux:=⟨rfl⟩
def ub:SCode:=.seq ET rY
instance:IsSeq ub ET rY:=⟨rfl⟩
def rQ:SCode:=.seq (.block 1 [some 8,some 9,some 10] ub) (.region [.op 65 (.bin .add (.t 2) (.k (.c (.int .i64 1)))),.op 10 (.move (.t 0))] [2,3,0])
instance:IsSeq rQ (.block 1 [some 8,some 9,some 10] ub) (.region [.op 65 (.bin .add (.t 2) (.k (.c (.int .i64 1)))),.op 10 (.move (.t 0))] [2,3,0]):=⟨rfl⟩
def Fb:SCode:=.seq (.cond (.t 3) (.pre [0,1,2] .skip) (.pre [] (.exit 0))) rQ
instance:IsSeq Fb (.cond (.t 3) (.pre [0,1,2] .skip) (.pre [] (.exit 0))) rQ:=⟨rfl⟩
def fY:SCode:=(.seq (.region [.op 11 (.bin .lss (.t 2) (.t 1))] [1,2,3,0]) Fb)
def uf:SCode:=.loop true fY
def Mn:SCode:=(.seq (.region [.op 2 (.move (.k (.c (.int .i64 0))))] [1]) (.seq (.seq (.region [.op 8 (.move (.t 0)),.op 9 (.len 1 (.t 0)),.op 10 (.move (.k (.c (.int .i64 0))))] [2,1,0]) (.block 0 [] uf)) (.seq (.region [.op 2 (.move (.k (.c (.int .i64 0))))] [0]) .ret)))
def Bj:SFunc:=.code .pure 66 1 [some 2] [.tmp 0] Mn
@[simp] def Ci:SCode:=(.draw 0 [.op 6 (.move (.t 1)),.op 7 (.move (.t 2)),.op 8 (.move (.t 3)),.op 9 (.fieldAddr 2 (.t 5)),.op 10 (.load none (.t 0)) none .var,.op 11 (.fieldAddr 3 (.t 7)),.op 12 (.load none (.t 0)) none .var,.op 13 (.nilCheck (.t 6)),.op 14 (.fieldAddr 0 (.t 0)),.eff (.store 1 (.t 0) (.k (.c (.str [111,110])))) none .row,.op 15 (.nilCheck (.t 7)),.op 16 (.fieldAddr 2 (.t 0)),.eff (.store 1 (.t 0) (.t 6)) none .row,.op 17 (.nilCheck (.t 8)),.op 18 (.fieldAddr 3 (.t 0)),.eff (.store 1 (.t 0) (.t 6)) none .row] [13,14])
@[simp] def D8:SCode:=(.region [.op 19 (.move (.t 0)),.op 20 (.nilCheck (.t 0)),.op 21 (.fieldAddr 0 (.t 0)),.op 22 (.fieldAddr 0 (.t 0)),.op 23 (.load none (.t 0)),.op 24 (.bin .eql (.t 0) (.k (.c (.str [98,111,117,108,100,101,114]))))] [7,0])
def sA:SCode:=.seq D8 (.cond (.t 1) (.region [.op 25 (.move (.t 0)),.op 26 (.call false (.k (.c (.func 216 [] []))) [(.t 0)]),.op 27 (.nilCheck (.t 0)),.op 28 (.fieldAddr 3 (.t 0)),.eff (.store 1 (.t 0) (.k (.c (.bool true))))] []) (.pre [] .skip))
instance:IsSeq sA D8 (.cond (.t 1) (.region [.op 25 (.move (.t 0)),.op 26 (.call false (.k (.c (.func 216 [] []))) [(.t 0)]),.op 27 (.nilCheck (.t 0)),.op 28 (.fieldAddr 3 (.t 0)),.eff (.store 1 (.t 0) (.k (.c (.bool true))))] []) (.pre [] .skip)):=⟨rfl⟩
def Fs:SCode:=.seq Ci sA
instance:IsSeq Fs Ci sA:=⟨rfl⟩
def OI:SCode:=(.seq (.region [.op 5 (.box (.t 2))] [1,2,0]) Fs)
def Bx:SFunc:=.code .shared 29 3 [] [] OI
@[simp] def Dx:SCode:=(.region [.op 6 (.move (.t 0)),.op 7 (.nilCheck (.t 0)),.op 8 (.fieldAddr 0 (.t 0)),.op 9 (.fieldAddr 0 (.t 0)),.op 10 (.load none (.t 0))] [5,6,7,0])
@[simp] def Fq:SCode:=(.region [.op 15 (.bin .eql (.t 3) (.k (.c (.str [108,101,97,100])))),.op 14 (.move (.t 0))] [2,3,4,5,0])
@[simp] def EO:SCode:=(.region [.op 21 (.bin .eql (.t 3) (.k (.c (.str [98,111,117,108,100,101,114])))),.op 20 (.move (.t 0))] [2,3,0])
def tt:SCode:=.seq EO (.cond (.t 2) (.region [.op 22 (.move (.t 1)),.op 23 (.nilCheck (.t 0)),.op 24 (.fieldAddr 8 (.t 0)),.eff (.store 1 (.t 0) (.k (.c (.bool false))))] []) (.region [.op 11 (.move (.t 0)),.op 12 (.move (.t 2)),.op 13 (.call false (.k (.c (.func 269 [] []))) [(.t 1),(.t 0),(.k (.c (.int .i64 0)))])] []))
instance:IsSeq tt EO (.cond (.t 2) (.region [.op 22 (.move (.t 1)),.op 23 (.nilCheck (.t 0)),.op 24 (.fieldAddr 8 (.t 0)),.eff (.store 1 (.t 0) (.k (.c (.bool false))))] []) (.region [.op 11 (.move (.t 0)),.op 12 (.move (.t 2)),.op 13 (.call false (.k (.c (.func 269 [] []))) [(.t 1),(.t 0),(.k (.c (.int .i64 0)))])] [])):=⟨rfl⟩
def s5:SCode:=.cond (.t 4) (.region [.op 16 (.move (.t 0)),.op 17 (.move (.t 2)),.op 18 (.load (some 4) (.t 4)),.op 19 (.call false (.k (.c (.func 294 [] []))) [(.t 2),(.t 1),(.t 0)])] []) tt
instance:IsCond s5 (.t 4) (.region [.op 16 (.move (.t 0)),.op 17 (.move (.t 2)),.op 18 (.load (some 4) (.t 4)),.op 19 (.call false (.k (.c (.func 294 [] []))) [(.t 2),(.t 1),(.t 0)])] []) tt:=⟨rfl⟩
def t8:SCode:=.seq Fq s5
instance:IsSeq t8 Fq s5:=⟨rfl⟩
def ug:SCode:=.block 0 [] t8
instance:IsBlock ug 0 [] t8:=⟨rfl⟩
def FH:SCode:=.seq Dx ug
instance:IsSeq FH Dx ug:=⟨rfl⟩
def Nx:SCode:=(.seq (.region [.op 5 (.box (.t 2))] [1,2,0]) FH)
def wZ:SFunc:=.code .shared 25 3 [] [] Nx
@[simp] def Dz:SCode:=(.seq (.region [.op 6 (.move (.t 0)),.op 7 (.nilCheck (.t 0)),.op 8 (.fieldAddr 0 (.t 0)),.op 9 (.fieldAddr 0 (.t 0)),.op 10 (.load none (.t 0)),.op 11 (.bin .eql (.t 0) (.k (.c (.str [108,101,97,100]))))] [6,7,8,0]) (.cond (.t 3) (.seq (.region [.op 12 (.move (.t 0)),.op 13 (.move (.t 2)),.op 14 (.load (some 4) (.t 4)),.op 15 (.call false (.k (.c (.func 294 [] []))) [(.t 2),(.t 1),(.t 0)])] []) .ret) (.pre [1] .skip)))
def E9:SCode:=.seq Dz (.region [.op 16 (.move (.t 0)),.op 17 (.call false (.k (.c (.func 266 [] []))) [(.t 0)])] [])
instance:IsSeq E9 Dz (.region [.op 16 (.move (.t 0)),.op 17 (.call false (.k (.c (.func 266 [] []))) [(.t 0)])] []):=⟨rfl⟩
def NQ:SCode:=(.seq (.region [.op 5 (.box (.t 2))] [1,2,0]) E9)
def zH:SFunc:=.code .shared 18 3 [] [] NQ
def acR:SCode:=(.seq (.region [.op 5 (.box (.t 2))] [1,2,0]) (.region [.op 6 (.move (.t 0)),.op 7 (.move (.t 2)),.op 8 (.fieldAddr 2 (.t 4)),.op 9 (.load none (.t 0)),.op 10 (.call false (.k (.c (.func 269 [] []))) [(.t 3),(.t 2),(.t 0)])] []))
def vY:SFunc:=.code .shared 11 3 [] [] acR
@[simp] def Qf:SCode:=(.region [.op 17 (.move (.t 1)),.op 18 (.call false (.k (.c (.func 296 [] []))) [(.t 0),(.k (.c (.str [119,97,105,116,105,110,103])))])] [2,3])
@[simp] def RE:SCode:=(.seq (.draw 0 [.op 19 (.move (.t 1)),.op 20 (.nilCheck (.t 0)),.op 21 (.fieldAddr 10 (.t 0)),.op 22 (.load none (.t 0)) none .row,.op 23 (.len 1 (.t 0)) none .old,.op 24 (.move (.t 5)),.op 25 (.nilCheck (.t 0)),.op 26 (.fieldAddr 0 (.t 0)),.op 27 (.fieldAddr 2 (.t 0)),.op 28 (.load none (.t 0)) none .var,.op 29 (.bin .lss (.t 5) (.t 0))] [12,0]) (.cond (.t 1) (.pre [] .ret) (.pre [0] .skip)))
@[simp] def PX:SCode:=(.region [.op 30 (.move (.t 0)),.op 31 (.call false (.k (.c (.func 296 [] []))) [(.t 0),(.k (.c (.str [100,111,110,101])))])] [2])
@[simp] def QU:SCode:=(.region [.op 32 (.move (.t 0)),.op 33 (.nilCheck (.t 0)),.op 34 (.fieldAddr 10 (.t 0)),.op 35 (.load none (.t 0)),.op 36 (.call false (.k (.c (.func 177 [] []))) [(.t 0)]),.op 37 (.bin .eql (.t 0) (.k (.c (.int .i64 0))))] [6,0])
def Q3:SCode:=.seq QU (.cond (.t 1) (.region [.op 38 (.move (.t 0)),.op 39 (.nilCheck (.t 0)),.op 40 (.fieldAddr 1 (.t 0)),.eff (.store 1 (.t 0) (.k (.c (.str [100,110,102]))))] []) (.pre [] .skip))
def PE:SCode:=.seq PX Q3
def Rz:SCode:=.seq RE PE
def Rt:SCode:=.seq Qf Rz
def ab2:SCode:=(.seq (.region [.op 6 (.move (.t 1)),.op 7 (.move (.t 2)),.op 8 (.nilCheck (.t 0)),.op 9 (.fieldAddr 10 (.t 0)),.op 10 (.load none (.t 0)),.op 11 (.call false (.k (.c (.func 118 [] []))) [(.t 0)]),.op 12 (.move (.t 8)),.op 13 (.buildSlice 2 none 1 [(.c (.int .i64 0))] [(0,(.t 0))]),.op 14 (.append none 8 (.t 2) (.t 0)),.op 15 (.nilCheck (.t 8)),.op 16 (.fieldAddr 10 (.t 0)),.eff (.store 1 (.t 0) (.t 2))] [11,12]) Rt)
def yG:SFunc:=.code .shared 41 3 [] [] ab2
def su:SCode:=.seq (.region [.op 10 (.move (.t 3)),.op 5 (.move (.t 0))] [2,3,0,4,5]) (.seq (.region [.op 11 (.move (.t 1)),.op 12 (.move (.t 1)),.op 13 (.move (.t 4)),.op 14 (.idxSlice 1 (.t 1) (.t 0)),.op 15 (.load none (.t 0)),.op 16 (.call false (.t 4) [(.t 0)])] [6,7,8,9,10,0]) (.cond (.t 5) (.seq (.region [.op 17 (.move (.t 2)),.op 4 (.move (.t 0))] [0]) .ret) (.pre [0,1,3,4] .skip)))
instance:IsSeq su (.region [.op 10 (.move (.t 3)),.op 5 (.move (.t 0))] [2,3,0,4,5]) (.seq (.region [.op 11 (.move (.t 1)),.op 12 (.move (.t 1)),.op 13 (.move (.t 4)),.op 14 (.idxSlice 1 (.t 1) (.t 0)),.op 15 (.load none (.t 0)),.op 16 (.call false (.t 4) [(.t 0)])] [6,7,8,9,10,0]) (.cond (.t 5) (.seq (.region [.op 17 (.move (.t 2)),.op 4 (.move (.t 0))] [0]) .ret) (.pre [0,1,3,4] .skip))):=⟨rfl⟩
def te:SCode:=.seq (.block 1 [some 0,some 1,some 7,some 8] su) (.region [.op 18 (.bin .add (.t 3) (.k (.c (.int .i64 1)))),.op 8 (.move (.t 0))] [2,3,4,0])
instance:IsSeq te (.block 1 [some 0,some 1,some 7,some 8] su) (.region [.op 18 (.bin .add (.t 3) (.k (.c (.int .i64 1)))),.op 8 (.move (.t 0))] [2,3,4,0]):=⟨rfl⟩
def Fi:SCode:=.seq (.cond (.t 4) (.pre [0,1,2,3] .skip) (.pre [] (.exit 0))) te
instance:IsSeq Fi (.cond (.t 4) (.pre [0,1,2,3] .skip) (.pre [] (.exit 0))) te:=⟨rfl⟩
def iD:SCode:=(.seq (.region [.op 9 (.bin .lss (.t 3) (.t 2))] [1,2,3,4,0]) Fi)
def sm:SCode:=.loop true iD
def He:SCode:=(.seq (.region [.op 4 (.move (.k (.c (.int .i64 0))))] [1,2]) (.seq (.seq (.region [.op 6 (.move (.t 0)),.op 7 (.len 1 (.t 0)),.op 8 (.move (.k (.c (.int .i64 0))))] [3,4,1,0]) (.block 0 [] sm)) (.seq (.region [.op 4 (.move (.k (.c (.int .i64 (-1)))))] [0]) .ret)))
def xf:SFunc:=.code .live 19 2 [some 4] [.tmp 0] He
def eS:SCode:=(.seq (.region [.op 2 (.move (.k (.c (.bool false))))] [1]) (.seq (.region [.op 3 (.move (.t 0)),.op 4 (.call false (.t 0) []),.op 5 (.not (.t 0)),.op 2 (.move (.t 0))] [0]) .ret))
def AV:SFunc:=.code .live 6 1 [some 2] [.tmp 0] eS
def Hc:SCode:=(.seq (.region [.op 4 (.move (.k (.c (.bool false))))] [1,2]) (.seq (.region [.op 5 (.move (.t 0)),.op 6 (.move (.t 2)),.op 7 (.call false (.k (.c (.func 297 [] []))) [(.t 1),(.t 0)]),.op 8 (.bin .geq (.t 0) (.k (.c (.int .i64 0)))),.op 4 (.move (.t 0))] [0]) .ret))
def xM:SFunc:=.code .pure 9 2 [some 4] [.tmp 0] Hc
def NN:SCode:=(.seq (.region [.op 1 (.box (.t 0)),.op 2 (.move (.k (.c (.bool false))))] [1]) (.seq (.region [.op 3 (.fieldAddr 3 (.t 0)),.op 4 (.load none (.t 0)),.op 2 (.move (.t 0))] [0]) .ret))
def wE:SFunc:=.code .pure 5 1 [some 2] [.tmp 0] NN
@[simp] def De:SCode:=(.region [.op 6 (.move (.t 1)),.op 7 (.call false (.k (.c (.func 296 [] []))) [(.t 0),(.k (.c (.str [100,111,110,101])))])] [2,3,4])
@[simp] def DQ:SCode:=(.draw 0 [.op 8 (.move (.t 1)),.op 9 (.fieldAddr 3 (.t 3)),.op 10 (.load none (.t 0)) none .var,.op 11 (.move (.t 4)),.op 12 (.nilCheck (.t 0)),.op 13 (.fieldAddr 3 (.t 0)),.op 14 (.load none (.t 0)) none .row,.op 15 (.bin .sub (.t 4) (.t 0)),.op 16 (.move (.t 8)),.op 17 (.nilCheck (.t 0)),.op 18 (.fieldAddr 0 (.t 0)),.op 19 (.fieldAddr 3 (.t 0)),.op 20 (.load none (.t 0)) none .var,.op 21 (.min (.t 5) [(.t 0)]),.op 22 (.nilCheck (.t 13)),.op 23 (.fieldAddr 4 (.t 0)),.eff (.store 1 (.t 0) (.t 2)) none .row] [])
def C2:SCode:=.seq De DQ
instance:IsSeq C2 De DQ:=⟨rfl⟩
def MD:SCode:=(.seq (.region [.op 5 (.box (.t 2))] [1,2,0]) C2)
def wu:SFunc:=.code .shared 24 3 [] [] MD
def LY:SCode:=(.region [.op 4 (.move (.t 0)),.op 5 (.move (.t 1)),.op 6 (.move (.t 2)),.op 7 (.move (.t 4)),.op 8 (.nilCheck (.t 3)),.op 9 (.fieldAddr 0 (.t 0)),.eff (.store 1 (.t 0) (.t 2)),.op 10 (.nilCheck (.t 4)),.op 11 (.fieldAddr 2 (.t 0)),.eff (.store 1 (.t 0) (.k (.c (.int .i64 0)))),.op 12 (.nilCheck (.t 5)),.op 13 (.fieldAddr 8 (.t 0)),.eff (.store 1 (.t 0) (.k (.c (.bool false))))] [])
def Aa:SFunc:=.code .shared 14 2 [] [] LY
def sJ:SCode:=.seq (.region [.op 10 (.move (.t 3)),.op 5 (.move (.t 0))] [2,3,0,4,5]) (.seq (.region [.op 11 (.move (.t 1)),.op 12 (.move (.t 1)),.op 13 (.move (.t 4)),.op 14 (.idxSlice 4 (.t 1) (.t 0)),.op 15 (.load (some 4) (.t 0)),.op 16 (.call false (.t 4) [(.t 0)])] [6,7,8,9,10,0]) (.cond (.t 5) (.seq (.region [.op 17 (.move (.t 2)),.op 4 (.move (.t 0))] [0]) .ret) (.pre [0,1,3,4] .skip)))
instance:IsSeq sJ (.region [.op 10 (.move (.t 3)),.op 5 (.move (.t 0))] [2,3,0,4,5]) (.seq (.region [.op 11 (.move (.t 1)),.op 12 (.move (.t 1)),.op 13 (.move (.t 4)),.op 14 (.idxSlice 4 (.t 1) (.t 0)),.op 15 (.load (some 4) (.t 0)),.op 16 (.call false (.t 4) [(.t 0)])] [6,7,8,9,10,0]) (.cond (.t 5) (.seq (.region [.op 17 (.move (.t 2)),.op 4 (.move (.t 0))] [0]) .ret) (.pre [0,1,3,4] .skip))):=⟨rfl⟩
def rI:SCode:=.seq (.block 1 [some 0,some 1,some 7,some 8] sJ) (.region [.op 18 (.bin .add (.t 3) (.k (.c (.int .i64 1)))),.op 8 (.move (.t 0))] [2,3,4,0])
instance:IsSeq rI (.block 1 [some 0,some 1,some 7,some 8] sJ) (.region [.op 18 (.bin .add (.t 3) (.k (.c (.int .i64 1)))),.op 8 (.move (.t 0))] [2,3,4,0]):=⟨rfl⟩
def Dw:SCode:=.seq (.cond (.t 4) (.pre [0,1,2,3] .skip) (.pre [] (.exit 0))) rI
instance:IsSeq Dw (.cond (.t 4) (.pre [0,1,2,3] .skip) (.pre [] (.exit 0))) rI:=⟨rfl⟩
def iu:SCode:=(.seq (.region [.op 9 (.bin .lss (.t 3) (.t 2))] [1,2,3,4,0]) Dw)
def sh:SCode:=.loop true iu
def Gc:SCode:=(.seq (.region [.op 4 (.move (.k (.c (.int .i64 0))))] [1,2]) (.seq (.seq (.region [.op 6 (.move (.t 0)),.op 7 (.len 1 (.t 0)),.op 8 (.move (.k (.c (.int .i64 0))))] [3,4,1,0]) (.block 0 [] sh)) (.seq (.region [.op 4 (.move (.k (.c (.int .i64 (-1)))))] [0]) .ret)))
def wk:SFunc:=.code .pure 19 2 [some 4] [.tmp 0] Gc
end LM.GZ
namespace LM.GZ
open Go LM
def table0:List (Nat × SFunc):=[(4,F4),(11,F11),(12,F12),(14,F14),(15,F15),(16,F16),(17,F17),(18,F18),(19,F19),(20,F20),(21,F21),(22,F22),(23,F23),(24,F24),(25,F25),(26,F26),(27,F27),(36,F36),(52,F52),(56,F56),(57,F57),(58,F58),(59,F59),(60,F60),(61,F61),(63,F63),(64,F64),(65,F65),(66,F66),(67,F67),(68,F68),(69,F69),(70,F70),(71,F71),(72,F72),(73,F73),(74,F74),(75,F75),(76,F76),(77,F77),(78,F78),(79,F79),(80,F80),(82,F82),(85,F85),(86,F86),(96,F96),(98,F98),(99,.fprim 1 (dp (some 3) 56)),(117,NY),(118,.fprim 1 (dp none 8)),(120,Bl),(123,zY),(124,Mb),(125,A7),(126,Bo),(127,OT),(132,AW),(133,v8),(134,NK),(135,MH),(136,MQ),(137,ML),(138,L6),(139,zh),(140,vS),(141,y4),(142,wl),(143,Bb),(144,Bh),(145,yA),(146,wM),(147,BC),(148,zX),(149,xY),(150,zC),(151,xA),(152,xL),(153,Bn),(154,xO),(155,z7),(156,yS),(157,wB),(158,wG),(164,Oc),(176,wN),(177,Bp),(183,L4),(184,zd),(185,M2),(186,Oi),(187,NP),(188,vZ),(189,AI),(191,xx),(192,wz),(193,wi),(194,Ah),(195,v5),(197,zS),(198,wS),(199,A8),(200,zD),(210,AA),(211,Md),(214,wd),(215,wA),(216,yg),(217,xP),(218,y5),(219,wg),(220,yq),(221,yF),(222,zK),(223,w6),(224,Ab),(225,yR),(226,y7),(227,As),(228,xN),(229,xI),(230,xd),(231,xT),(232,yj),(233,AN),(234,zb),(235,we),(236,Ac),(237,yO),(238,v7),(239,AR),(240,zO),(241,Bj),(258,Bx),(264,wZ),(267,zH),(268,vY),(269,yG),(275,xf),(276,AV),(277,xM),(278,wE),(294,wu),(296,Aa),(297,wk)]
class Has (P:Nat→Option SFunc):Prop where
 h:∀ f F,lookupPrim f table0=some F→P f=some F
variable {P:Nat→Option SFunc} [Has P]
theorem p4:P 4=some F4:=Has.h 4 F4 rfl
theorem u4:ar P 4 [.tmp 0] c4:=ai p4
theorem Pe:aS P Gq nj:=aj true nj
theorem Pc:aS P Ha nF:=aj true nF
theorem GJ:aS P vD kX:=aj true kX
theorem O4:aS P GE mU:=aj true mU
theorem O3:aS P ko nD:=aj true nD
theorem p15:P 15=some F15:=Has.h 15 F15 rfl
theorem u15:ar P 15 [.tmp 0] c15:=ai p15
@[simp] theorem ae9:aB P 15:=ag p15
theorem Hq:aS P qT lO:=aj true lO
theorem p16:P 16=some F16:=Has.h 16 F16 rfl
theorem u16:ar P 16 [.tmp 0] c16:=ai p16
@[simp] theorem afo:aB P 16:=ag p16
theorem KF:aS P zF jq:=aj true jq
theorem I0:aS P qK fA:=aj true fA
theorem p17:P 17=some F17:=Has.h 17 F17 rfl
theorem u17:ar P 17 [.tmp 0,.tmp 1] c17:=ai p17
@[simp] theorem afd:aB P 17:=ag p17
theorem Iw:aS P xy lu:=aj true lu
theorem yH:aS P qa jx:=aj true jx
theorem xH:aS P qk jk:=aj true jk
theorem p18:P 18=some F18:=Has.h 18 F18 rfl
theorem u18:ar P 18 [.tmp 0,.tmp 1] c18:=ai p18
@[simp] theorem afb:aB P 18:=ag p18
theorem p19:P 19=some F19:=Has.h 19 F19 rfl
theorem u19:ar P 19 [.tmp 0] c19:=ai p19
@[simp] theorem ae8:aB P 19:=ag p19
theorem nu:aS P wX fI:=aj true fI
theorem p20:P 20=some F20:=Has.h 20 F20 rfl
theorem u20:ar P 20 [.tmp 0] c20:=ai p20
@[simp] theorem afl:aB P 20:=ag p20
theorem Kr:aS P mN kY:=aj true kY
theorem JL:aS P q9 ly:=aj true ly
theorem p21:P 21=some F21:=Has.h 21 F21 rfl
theorem u21:ar P 21 [.tmp 0,.tmp 1] c21:=ai p21
@[simp] theorem afe:aB P 21:=ag p21
theorem mH:aS P z8 gg:=aj true gg
theorem A5:aS P m8 gZ:=aj true gZ
theorem p22:P 22=some F22:=Has.h 22 F22 rfl
theorem u22:ar P 22 [.tmp 0,.tmp 1,.tmp 2] c22:=ai p22
@[simp] theorem afE:aB P 22:=ag p22
theorem y6:aS P zw ji:=aj true ji
theorem p23:P 23=some F23:=Has.h 23 F23 rfl
theorem u23:ar P 23 [.tmp 0,.tmp 1] c23:=ai p23
@[simp] theorem afu:aB P 23:=ag p23
theorem KU:aS P qA lG:=aj true lG
theorem p24:P 24=some F24:=Has.h 24 F24 rfl
theorem u24:ar P 24 [.tmp 0] c24:=ai p24
@[simp] theorem afL:aB P 24:=ag p24
theorem It:aS P qm jh:=aj true jh
theorem p25:P 25=some F25:=Has.h 25 F25 rfl
theorem u25:ar P 25 [.tmp 0] c25:=ai p25
@[simp] theorem afq:aB P 25:=ag p25
theorem Ju:aS P xC lL:=aj true lL
theorem p26:P 26=some F26:=Has.h 26 F26 rfl
theorem u26:ar P 26 [.cell 0 (some 2),.tmp 1,.tmp 2] c26:=ai p26
@[simp] theorem afa:aB P 26:=ag p26
theorem p27:P 27=some F27:=Has.h 27 F27 rfl
theorem u27:ar P 27 [.tmp 0,.tmp 1] c27:=ai p27
@[simp] theorem afJ:aB P 27:=ag p27
theorem KI:aS P qt jj:=aj true jj
theorem p36:P 36=some F36:=Has.h 36 F36 rfl
theorem u36:ar P 36 [.tmp 0] c36:=ai p36
@[simp] theorem afO:aB P 36:=ag p36
theorem Ks:aS P zx jw:=aj true jw
theorem p56:P 56=some F56:=Has.h 56 F56 rfl
theorem u56:ar P 56 [.tmp 0] c56:=ai p56
@[simp] theorem afj:aB P 56:=ag p56
theorem p57:P 57=some F57:=Has.h 57 F57 rfl
theorem u57:ar P 57 [.tmp 0] c57:=ai p57
@[simp] theorem afI:aB P 57:=ag p57
theorem K6:aS P Bg js:=aj true js
theorem p58:P 58=some F58:=Has.h 58 F58 rfl
theorem u58:ar P 58 [.tmp 0] c58:=ai p58
@[simp] theorem afU:aB P 58:=ag p58
theorem p59:P 59=some F59:=Has.h 59 F59 rfl
theorem u59:ar P 59 [.tmp 0] c59:=ai p59
@[simp] theorem afw:aB P 59:=ag p59
theorem Af:aS P IQ gn:=aj true gn
theorem p60:P 60=some F60:=Has.h 60 F60 rfl
theorem u60:ar P 60 [.tmp 0] c60:=ai p60
@[simp] theorem afz:aB P 60:=ag p60
theorem p61:P 61=some F61:=Has.h 61 F61 rfl
theorem u61:ar P 61 [.tmp 0] c61:=ai p61
@[simp] theorem afP:aB P 61:=ag p61
theorem Ly:aS P qD lD:=aj true lD
theorem p66:P 66=some F66:=Has.h 66 F66 rfl
theorem u66:ar P 66 [.tmp 0] c66:=ai p66
@[simp] theorem afr:aB P 66:=ag p66
theorem IM:aS P qn jt:=aj true jt
theorem p67:P 67=some F67:=Has.h 67 F67 rfl
theorem u67:ar P 67 [.tmp 0,.tmp 1] c67:=ai p67
@[simp] theorem afk:aB P 67:=ag p67
theorem KG:aS P qX jB:=aj true jB
theorem p68:P 68=some F68:=Has.h 68 F68 rfl
theorem u68 (args:List LV) (h:Heap):sfn P 68 args h=aZ [] (ac P (af P) c68 ⟨args,h⟩):=aU p68 args h
@[simp] theorem afm (pos:Option Nat) (q:Bool) (args:List LV) (h:Heap):aC P (af P) pos q 68 args h=if q then none else bnd (ah args h) fun a=>sfn P 68 a.1 a.2:=aw p68 pos q args h
theorem p69:P 69=some F69:=Has.h 69 F69 rfl
theorem u69:ar P 69 [.tmp 0] c69:=ai p69
@[simp] theorem ae6:aB P 69:=ag p69
theorem p70:P 70=some F70:=Has.h 70 F70 rfl
theorem u70:ar P 70 [.tmp 0] c70:=ai p70
@[simp] theorem afg:aB P 70:=ag p70
theorem p71:P 71=some F71:=Has.h 71 F71 rfl
theorem u71:ar P 71 [.tmp 0] c71:=ai p71
@[simp] theorem afs:aB P 71:=ag p71
theorem p72:P 72=some F72:=Has.h 72 F72 rfl
theorem u72:ar P 72 [.tmp 0] c72:=ai p72
@[simp] theorem afc:aB P 72:=ag p72
theorem p73:P 73=some F73:=Has.h 73 F73 rfl
theorem u73:ar P 73 [.tmp 0] c73:=ai p73
@[simp] theorem afp:aB P 73:=ag p73
theorem p74:P 74=some F74:=Has.h 74 F74 rfl
theorem u74:ar P 74 [.tmp 0] c74:=ai p74
@[simp] theorem afA:aB P 74:=ag p74
theorem p75:P 75=some F75:=Has.h 75 F75 rfl
theorem u75:ar P 75 [.tmp 0] c75:=ai p75
@[simp] theorem afh:aB P 75:=ag p75
theorem p76:P 76=some F76:=Has.h 76 F76 rfl
theorem u76:ar P 76 [.tmp 0] c76:=ai p76
@[simp] theorem afN:aB P 76:=ag p76
theorem p77:P 77=some F77:=Has.h 77 F77 rfl
theorem u77 (args:List LV) (h:Heap):sfn P 77 args h=aZ [.tmp 0] (ac P (af P) c77 ⟨args,h⟩):=aU p77 args h
@[simp] theorem afy (pos:Option Nat) (q:Bool) (args:List LV) (h:Heap):aC P (af P) pos q 77 args h=if q then none else bnd (ah args h) fun a=>sfn P 77 a.1 a.2:=aw p77 pos q args h
theorem p78:P 78=some F78:=Has.h 78 F78 rfl
theorem u78:ar P 78 [.tmp 0] c78:=ai p78
@[simp] theorem afQ:aB P 78:=ag p78
theorem JC:aS P pV jv:=aj true jv
theorem Lj:aS P vV hZ:=aj true hZ
theorem p79:P 79=some F79:=Has.h 79 F79 rfl
theorem u79:ar P 79 [.tmp 0] c79:=ai p79
@[simp] theorem afn:aB P 79:=ag p79
theorem p80:P 80=some F80:=Has.h 80 F80 rfl
theorem u80:ar P 80 [.tmp 0] c80:=ai p80
@[simp] theorem afi:aB P 80:=ag p80
theorem p82:P 82=some F82:=Has.h 82 F82 rfl
theorem u82:ar P 82 [.tmp 0] c82:=ai p82
@[simp] theorem afV:aB P 82:=ag p82
theorem KO:aS P qi jp:=aj true jp
theorem p85:P 85=some F85:=Has.h 85 F85 rfl
theorem u85:ar P 85 [.tmp 0] c85:=ai p85
@[simp] theorem afM:aB P 85:=ag p85
theorem KD:aS P yl jz:=aj true jz
theorem p86:P 86=some F86:=Has.h 86 F86 rfl
theorem u86:ar P 86 [.tmp 0] c86:=ai p86
@[simp] theorem afR:aB P 86:=ag p86
theorem W9:P 120=some Bl:=Has.h 120 Bl rfl
theorem acT:ar P 120 [.tmp 0] NC:=ai W9
@[simp] theorem ad1:aB P 120:=ag W9
theorem CN:aS P nZ jU:=aj true jU
theorem SZ:P 123=some zY:=Has.h 123 zY rfl
theorem abi:ar P 123 [.tmp 0] MG:=ai SZ
@[simp] theorem aez:aB P 123:=ag SZ
theorem Sn:P 125=some A7:=Has.h 125 A7 rfl
theorem aa6:ar P 125 [.tmp 0] NR:=ai Sn
@[simp] theorem adK:aB P 125:=ag Sn
theorem Ga:aS P tp ib:=aj true ib
theorem VZ:P 126=some Bo:=Has.h 126 Bo rfl
theorem aa3:ar P 126 [.tmp 0] Mx:=ai VZ
@[simp] theorem aeH:aB P 126:=ag VZ
theorem VO:P 132=some AW:=Has.h 132 AW rfl
theorem aca:ar P 132 [.tmp 0] NV:=ai VO
@[simp] theorem adL:aB P 132:=ag VO
theorem Fm:aS P n7 jL:=aj true jL
theorem Si:P 133=some v8:=Has.h 133 v8 rfl
theorem ach:ar P 133 [.tmp 0] OH:=ai Si
@[simp] theorem adP:aB P 133:=ag Si
theorem VC:P 139=some zh:=Has.h 139 zh rfl
theorem abm:ar P 139 [.tmp 0] OB:=ai VC
@[simp] theorem aeg:aB P 139:=ag VC
theorem T0:P 140=some vS:=Has.h 140 vS rfl
theorem aco:ar P 140 [.tmp 0] NZ:=ai T0
@[simp] theorem adG:aB P 140:=ag T0
theorem Xj:P 141=some y4:=Has.h 141 y4 rfl
theorem abD (args:List LV) (h:Heap):sfn P 141 args h=aZ [] (ac P (af P) Nm ⟨args,h⟩):=aU Xj args h
@[simp] theorem adz (pos:Option Nat) (q:Bool) (args:List LV) (h:Heap):aC P (af P) pos q 141 args h=if q then none else bnd (ah args h) fun a=>sfn P 141 a.1 a.2:=aw Xj pos q args h
theorem P6:aS P og mn:=aj true mn
theorem adx:aS P rO pt:=aj true pt
theorem Qa:aS P oc mt:=aj true mt
theorem UV:P 142=some wl:=Has.h 142 wl rfl
theorem aai:ar P 142 [.tmp 0] Nk:=ai UV
@[simp] theorem aeJ:aB P 142:=ag UV
theorem UD:P 143=some Bb:=Has.h 143 Bb rfl
theorem abn:ar P 143 [.tmp 0] Mk:=ai UD
@[simp] theorem adI:aB P 143:=ag UD
theorem tB:aS P tL iw:=aj true iw
theorem W2:P 144=some Bh:=Has.h 144 Bh rfl
theorem aab:ar P 144 [.tmp 0] si:=ai W2
@[simp] theorem aeo:aB P 144:=ag W2
theorem Vo:P 145=some yA:=Has.h 145 yA rfl
theorem acu:ar P 145 [.tmp 0] Na:=ai Vo
@[simp] theorem aeu:aB P 145:=ag Vo
theorem Ut:P 146=some wM:=Has.h 146 wM rfl
theorem abT:ar P 146 [.tmp 0] L9:=ai Ut
@[simp] theorem aeI:aB P 146:=ag Ut
theorem Xn:P 147=some BC:=Has.h 147 BC rfl
theorem adb:ar P 147 [.tmp 0] Ol:=ai Xn
@[simp] theorem aer:aB P 147:=ag Xn
theorem Sl:P 148=some zX:=Has.h 148 zX rfl
theorem aad:ar P 148 [.tmp 0] NG:=ai Sl
@[simp] theorem adC:aB P 148:=ag Sl
theorem CE:aS P sj j8:=aj true j8
theorem Wm:P 149=some xY:=Has.h 149 xY rfl
theorem acj:ar P 149 [.tmp 0] Mj:=ai Wm
@[simp] theorem adZ:aB P 149:=ag Wm
theorem Cz:aS P nP jW:=aj true jW
theorem SI:P 150=some zC:=Has.h 150 zC rfl
theorem abX (args:List LV) (h:Heap):sfn P 150 args h=aZ [.tmp 0] (ac P (af P) AC ⟨args,h⟩):=aU SI args h
@[simp] theorem P2 (pos:Option Nat) (q:Bool) (args:List LV) (h:Heap):aC P (af P) pos q 150 args h=if q then none else bnd (ah args h) fun a=>sfn P 150 a.1 a.2:=aw SI pos q args h
theorem FL:aS P lm jM:=aj true jM
theorem UJ:P 151=some xA:=Has.h 151 xA rfl
theorem abE:ar P 151 [.cell 0 (some 2)] xR:=ai UJ
@[simp] theorem Q5:aB P 151:=ag UJ
theorem C7:aS P nJ jT:=aj true jT
theorem SW:P 152=some xL:=Has.h 152 xL rfl
theorem acN (args:List LV) (h:Heap):sfn P 152 args h=aZ [.tmp 0] (ac P (af P) uw ⟨args,h⟩):=aU SW args h
@[simp] theorem Qo (pos:Option Nat) (q:Bool) (args:List LV) (h:Heap):aC P (af P) pos q 152 args h=if q then none else bnd (ah args h) fun a=>sfn P 152 a.1 a.2:=aw SW pos q args h
theorem T9:P 153=some Bn:=Has.h 153 Bn rfl
theorem aaJ:ar P 153 [.tmp 0] Ni:=ai T9
@[simp] theorem ad6:aB P 153:=ag T9
theorem UU:P 154=some xO:=Has.h 154 xO rfl
theorem ace:ar P 154 [.tmp 0] NA:=ai UU
@[simp] theorem aeS:aB P 154:=ag UU
theorem Tt:P 155=some z7:=Has.h 155 z7 rfl
theorem acM:ar P 155 [.tmp 0] tT:=ai Tt
@[simp] theorem aeD:aB P 155:=ag Tt
theorem Uj:P 156=some yS:=Has.h 156 yS rfl
theorem aaG:ar P 156 [.tmp 0] jJ:=ai Uj
@[simp] theorem aeB:aB P 156:=ag Uj
theorem UR:P 157=some wB:=Has.h 157 wB rfl
theorem ab9:ar P 157 [.tmp 0] MN:=ai UR
@[simp] theorem aeN:aB P 157:=ag UR
theorem WU:P 158=some wG:=Has.h 158 wG rfl
theorem aan:ar P 158 [.tmp 0] Mz:=ai WU
@[simp] theorem aeU:aB P 158:=ag WU
theorem FY:aS P s7 ii:=aj true ii
theorem TG:P 176=some wN:=Has.h 176 wN rfl
theorem aaD:ar P 176 [.tmp 0] L0:=ai TG
@[simp] theorem aej:aB P 176:=ag TG
theorem sM:aS P tM im:=aj true im
theorem Wv:P 177=some Bp:=Has.h 177 Bp rfl
theorem Z9:ar P 177 [.tmp 0] OX:=ai Wv
@[simp] theorem adR:aB P 177:=ag Wv
theorem DX:aS P sk eZ:=aj true eZ
theorem UG:P 184=some zd:=Has.h 184 zd rfl
theorem abB:ar P 184 [.tmp 0] LU:=ai UG
@[simp] theorem ady:aB P 184:=ag UG
theorem Um:P 188=some vZ:=Has.h 188 vZ rfl
theorem Z8:ar P 188 [.tmp 0] MB:=ai Um
@[simp] theorem aet:aB P 188:=ag Um
theorem CS:aS P rL ik:=aj true ik
theorem Sm:P 189=some AI:=Has.h 189 AI rfl
theorem abM (args:List LV) (h:Heap):sfn P 189 args h=aZ [] (ac P (af P) GO ⟨args,h⟩):=aU Sm args h
@[simp] theorem ad0 (pos:Option Nat) (q:Bool) (args:List LV) (h:Heap):aC P (af P) pos q 189 args h=if q then none else bnd (ah args h) fun a=>sfn P 189 a.1 a.2:=aw Sm pos q args h
theorem Ek:aS P ul iz:=aj true iz
theorem sO:aS P n9 ir:=aj true ir
theorem S7:P 191=some xx:=Has.h 191 xx rfl
theorem acI:ar P 191 [.tmp 0] Ov:=ai S7
@[simp] theorem aeC:aB P 191:=ag S7
theorem VE:P 192=some wz:=Has.h 192 wz rfl
theorem aaE:ar P 192 [.tmp 0] G0:=ai VE
@[simp] theorem adD:aB P 192:=ag VE
theorem VQ:P 193=some wi:=Has.h 193 wi rfl
theorem abd (args:List CV):ffn P 193 args=aZ [.tmp 0] (ac P (af P) Gx ⟨args.map .c,[]⟩):=pR VQ args
@[simp] theorem adQ (pos:Option Nat) (q:Bool) (args:List LV) (h:Heap):aC P (af P) pos q 193 args h=if q && pos.isNone then none else bnd (aD q args h) fun a=>bnd (ffn P 193 a.1) fun v=>bW pos 2 v.1 v.2 a.2:=kI VQ pos q args h
theorem Ud:P 194=some Ah:=Has.h 194 Ah rfl
theorem aaZ (args:List CV):ffn P 194 args=aZ [.tmp 0] (ac P (af P) Gu ⟨args.map .c,[]⟩):=pR Ud args
@[simp] theorem aeK (pos:Option Nat) (q:Bool) (args:List LV) (h:Heap):aC P (af P) pos q 194 args h=if q && pos.isNone then none else bnd (aD q args h) fun a=>bnd (ffn P 194 a.1) fun v=>bW pos 2 v.1 v.2 a.2:=kI Ud pos q args h
theorem WL:P 195=some v5:=Has.h 195 v5 rfl
theorem acV (args:List CV):ffn P 195 args=aZ [.tmp 0] (ac P (af P) GW ⟨args.map .c,[]⟩):=pR WL args
@[simp] theorem aek (pos:Option Nat) (q:Bool) (args:List LV) (h:Heap):aC P (af P) pos q 195 args h=if q && pos.isNone then none else bnd (aD q args h) fun a=>bnd (ffn P 195 a.1) fun v=>bW pos 2 v.1 v.2 a.2:=kI WL pos q args h
theorem WT:P 197=some zS:=Has.h 197 zS rfl
theorem UE (args:List LV) (h:Heap):sfn P 197 args h=aZ [.tmp 0] (ac P (af P) Gy ⟨args,h⟩):=gw WT args h
@[simp] theorem Qx (pos:Option Nat) (q:Bool) (args:List LV) (h:Heap):aC P (af P) pos q 197 args h=if q then none else sfn P 197 args h:=fH WT pos q args h
theorem VI:P 198=some wS:=Has.h 198 wS rfl
theorem aas (args:List LV) (h:Heap):sfn P 198 args h=aZ [] (ac P (af P) NX ⟨args,h⟩):=gw VI args h
@[simp] theorem Qj (pos:Option Nat) (q:Bool) (args:List LV) (h:Heap):aC P (af P) pos q 198 args h=if q then none else sfn P 198 args h:=fH VI pos q args h
theorem UW:P 199=some A8:=Has.h 199 A8 rfl
theorem acX:ar P 199 [.tmp 0] OY:=ai UW
@[simp] theorem ae1:aB P 199:=ag UW
theorem W6:P 200=some zD:=Has.h 200 zD rfl
theorem abC:ar P 200 [.tmp 0] nG:=ai W6
@[simp] theorem ae2:aB P 200:=ag W6
theorem VK:P 210=some AA:=Has.h 210 AA rfl
theorem abo:ar P 210 [.tmp 0] Oa:=ai VK
@[simp] theorem adE:aB P 210:=ag VK
theorem t7:aS P tj g9:=aj true g9
theorem U2:P 214=some wd:=Has.h 214 wd rfl
theorem acG:ar P 214 [.tmp 0] MT:=ai U2
@[simp] theorem aep:aB P 214:=ag U2
theorem WG:P 215=some wA:=Has.h 215 wA rfl
theorem adi (args:List LV) (h:Heap):sfn P 215 args h=aZ [.tmp 0] (ac P (af P) Mf ⟨args,h⟩):=gw WG args h
@[simp] theorem adW (pos:Option Nat) (q:Bool) (args:List LV) (h:Heap):aC P (af P) pos q 215 args h=if q then none else sfn P 215 args h:=fH WG pos q args h
theorem V2:P 216=some yg:=Has.h 216 yg rfl
theorem aau (args:List LV) (h:Heap):sfn P 216 args h=aZ [.tmp 0] (ac P (af P) L3 ⟨args,h⟩):=aU V2 args h
@[simp] theorem adY (pos:Option Nat) (q:Bool) (args:List LV) (h:Heap):aC P (af P) pos q 216 args h=if q then none else bnd (ah args h) fun a=>sfn P 216 a.1 a.2:=aw V2 pos q args h
theorem TZ:P 217=some xP:=Has.h 217 xP rfl
theorem Uu (args:List LV) (h:Heap):sfn P 217 args h=aZ [.tmp 0] (ac P (af P) Gd ⟨args,h⟩):=gw TZ args h
@[simp] theorem aev (pos:Option Nat) (q:Bool) (args:List LV) (h:Heap):aC P (af P) pos q 217 args h=if q then none else sfn P 217 args h:=fH TZ pos q args h
theorem Tf:P 218=some y5:=Has.h 218 y5 rfl
theorem ac8 (args:List LV) (h:Heap):sfn P 218 args h=aZ [.tmp 0] (ac P (af P) MX ⟨args,h⟩):=aU Tf args h
@[simp] theorem aeq (pos:Option Nat) (q:Bool) (args:List LV) (h:Heap):aC P (af P) pos q 218 args h=if q then none else bnd (ah args h) fun a=>sfn P 218 a.1 a.2:=aw Tf pos q args h
theorem Sy:P 219=some wg:=Has.h 219 wg rfl
theorem aaX (args:List LV) (h:Heap):sfn P 219 args h=aZ [.tmp 0] (ac P (af P) yW ⟨args,h⟩):=aU Sy args h
@[simp] theorem aea (pos:Option Nat) (q:Bool) (args:List LV) (h:Heap):aC P (af P) pos q 219 args h=if q then none else bnd (ah args h) fun a=>sfn P 219 a.1 a.2:=aw Sy pos q args h
theorem V1:P 220=some yq:=Has.h 220 yq rfl
theorem aaB (args:List LV) (h:Heap):sfn P 220 args h=aZ [.tmp 0] (ac P (af P) Mm ⟨args,h⟩):=aU V1 args h
@[simp] theorem aeP (pos:Option Nat) (q:Bool) (args:List LV) (h:Heap):aC P (af P) pos q 220 args h=if q then none else bnd (ah args h) fun a=>sfn P 220 a.1 a.2:=aw V1 pos q args h
theorem Wt:P 221=some yF:=Has.h 221 yF rfl
theorem acJ (args:List LV) (h:Heap):sfn P 221 args h=aZ [.tmp 0] (ac P (af P) G8 ⟨args,h⟩):=aU Wt args h
@[simp] theorem adH (pos:Option Nat) (q:Bool) (args:List LV) (h:Heap):aC P (af P) pos q 221 args h=if q then none else bnd (ah args h) fun a=>sfn P 221 a.1 a.2:=aw Wt pos q args h
theorem UT:P 222=some zK:=Has.h 222 zK rfl
theorem ac7 (args:List LV) (h:Heap):sfn P 222 args h=aZ [.tmp 0] (ac P (af P) GA ⟨args,h⟩):=aU UT args h
@[simp] theorem aey (pos:Option Nat) (q:Bool) (args:List LV) (h:Heap):aC P (af P) pos q 222 args h=if q then none else bnd (ah args h) fun a=>sfn P 222 a.1 a.2:=aw UT pos q args h
theorem Wj:P 223=some w6:=Has.h 223 w6 rfl
theorem abq (args:List LV) (h:Heap):sfn P 223 args h=aZ [.tmp 0] (ac P (af P) LS ⟨args,h⟩):=aU Wj args h
@[simp] theorem aeY (pos:Option Nat) (q:Bool) (args:List LV) (h:Heap):aC P (af P) pos q 223 args h=if q then none else bnd (ah args h) fun a=>sfn P 223 a.1 a.2:=aw Wj pos q args h
theorem D7:aS P lx fo:=aj true fo
theorem Vl:P 224=some Ab:=Has.h 224 Ab rfl
theorem abs (args:List LV) (h:Heap):sfn P 224 args h=aZ [.tmp 0] (ac P (af P) GK ⟨args,h⟩):=aU Vl args h
@[simp] theorem adF (pos:Option Nat) (q:Bool) (args:List LV) (h:Heap):aC P (af P) pos q 224 args h=if q then none else bnd (ah args h) fun a=>sfn P 224 a.1 a.2:=aw Vl pos q args h
theorem VU:P 225=some yR:=Has.h 225 yR rfl
theorem abA (args:List LV) (h:Heap):sfn P 225 args h=aZ [.tmp 0] (ac P (af P) pe ⟨args,h⟩):=aU VU args h
@[simp] theorem aeE (pos:Option Nat) (q:Bool) (args:List LV) (h:Heap):aC P (af P) pos q 225 args h=if q then none else bnd (ah args h) fun a=>sfn P 225 a.1 a.2:=aw VU pos q args h
theorem VP:P 226=some y7:=Has.h 226 y7 rfl
theorem aaq (args:List LV) (h:Heap):sfn P 226 args h=aZ [.tmp 0] (ac P (af P) Gg ⟨args,h⟩):=aU VP args h
@[simp] theorem adN (pos:Option Nat) (q:Bool) (args:List LV) (h:Heap):aC P (af P) pos q 226 args h=if q then none else bnd (ah args h) fun a=>sfn P 226 a.1 a.2:=aw VP pos q args h
theorem WD:P 227=some As:=Has.h 227 As rfl
theorem abY (args:List LV) (h:Heap):sfn P 227 args h=aZ [.tmp 0] (ac P (af P) GF ⟨args,h⟩):=aU WD args h
@[simp] theorem aen (pos:Option Nat) (q:Bool) (args:List LV) (h:Heap):aC P (af P) pos q 227 args h=if q then none else bnd (ah args h) fun a=>sfn P 227 a.1 a.2:=aw WD pos q args h
theorem TN:P 228=some xN:=Has.h 228 xN rfl
theorem aby (args:List LV) (h:Heap):sfn P 228 args h=aZ [.tmp 0] (ac P (af P) GU ⟨args,h⟩):=aU TN args h
@[simp] theorem ae4 (pos:Option Nat) (q:Bool) (args:List LV) (h:Heap):aC P (af P) pos q 228 args h=if q then none else bnd (ah args h) fun a=>sfn P 228 a.1 a.2:=aw TN pos q args h
theorem Vz:P 229=some xI:=Has.h 229 xI rfl
theorem acY (args:List LV) (h:Heap):sfn P 229 args h=aZ [.tmp 0] (ac P (af P) vT ⟨args,h⟩):=aU Vz args h
@[simp] theorem adJ (pos:Option Nat) (q:Bool) (args:List LV) (h:Heap):aC P (af P) pos q 229 args h=if q then none else bnd (ah args h) fun a=>sfn P 229 a.1 a.2:=aw Vz pos q args h
theorem TD:P 230=some xd:=Has.h 230 xd rfl
theorem aaK (args:List LV) (h:Heap):sfn P 230 args h=aZ [.tmp 0] (ac P (af P) wQ ⟨args,h⟩):=aU TD args h
@[simp] theorem aeW (pos:Option Nat) (q:Bool) (args:List LV) (h:Heap):aC P (af P) pos q 230 args h=if q then none else bnd (ah args h) fun a=>sfn P 230 a.1 a.2:=aw TD pos q args h
theorem Wq:P 231=some xT:=Has.h 231 xT rfl
theorem abt (args:List LV) (h:Heap):sfn P 231 args h=aZ [.tmp 0] (ac P (af P) M3 ⟨args,h⟩):=aU Wq args h
@[simp] theorem aeZ (pos:Option Nat) (q:Bool) (args:List LV) (h:Heap):aC P (af P) pos q 231 args h=if q then none else bnd (ah args h) fun a=>sfn P 231 a.1 a.2:=aw Wq pos q args h
theorem TX:P 232=some yj:=Has.h 232 yj rfl
theorem acg (args:List LV) (h:Heap):sfn P 232 args h=aZ [.tmp 0] (ac P (af P) o9 ⟨args,h⟩):=aU TX args h
@[simp] theorem aeh (pos:Option Nat) (q:Bool) (args:List LV) (h:Heap):aC P (af P) pos q 232 args h=if q then none else bnd (ah args h) fun a=>sfn P 232 a.1 a.2:=aw TX pos q args h
theorem US:P 233=some AN:=Has.h 233 AN rfl
theorem aam (args:List LV) (h:Heap):sfn P 233 args h=aZ [.tmp 0] (ac P (af P) pp ⟨args,h⟩):=aU US args h
@[simp] theorem aew (pos:Option Nat) (q:Bool) (args:List LV) (h:Heap):aC P (af P) pos q 233 args h=if q then none else bnd (ah args h) fun a=>sfn P 233 a.1 a.2:=aw US pos q args h
theorem Va:P 234=some zb:=Has.h 234 zb rfl
theorem ac6 (args:List LV) (h:Heap):sfn P 234 args h=aZ [.tmp 0] (ac P (af P) yL ⟨args,h⟩):=aU Va args h
@[simp] theorem adV (pos:Option Nat) (q:Bool) (args:List LV) (h:Heap):aC P (af P) pos q 234 args h=if q then none else bnd (ah args h) fun a=>sfn P 234 a.1 a.2:=aw Va pos q args h
theorem T3:P 235=some we:=Has.h 235 we rfl
theorem aaz (args:List LV) (h:Heap):sfn P 235 args h=aZ [.tmp 0] (ac P (af P) po ⟨args,h⟩):=aU T3 args h
@[simp] theorem adA (pos:Option Nat) (q:Bool) (args:List LV) (h:Heap):aC P (af P) pos q 235 args h=if q then none else bnd (ah args h) fun a=>sfn P 235 a.1 a.2:=aw T3 pos q args h
theorem Tc:P 236=some Ac:=Has.h 236 Ac rfl
theorem adq (args:List LV) (h:Heap):sfn P 236 args h=aZ [.tmp 0] (ac P (af P) zV ⟨args,h⟩):=aU Tc args h
@[simp] theorem adw (pos:Option Nat) (q:Bool) (args:List LV) (h:Heap):aC P (af P) pos q 236 args h=if q then none else bnd (ah args h) fun a=>sfn P 236 a.1 a.2:=aw Tc pos q args h
theorem W1:P 237=some yO:=Has.h 237 yO rfl
theorem adf (args:List LV) (h:Heap):sfn P 237 args h=aZ [.tmp 0] (ac P (af P) tU ⟨args,h⟩):=aU W1 args h
@[simp] theorem ael (pos:Option Nat) (q:Bool) (args:List LV) (h:Heap):aC P (af P) pos q 237 args h=if q then none else bnd (ah args h) fun a=>sfn P 237 a.1 a.2:=aw W1 pos q args h
theorem VW:P 238=some v7:=Has.h 238 v7 rfl
theorem aav:ar P 238 [.tmp 0] Oz:=ai VW
@[simp] theorem aeF:aB P 238:=ag VW
theorem S9:P 239=some AR:=Has.h 239 AR rfl
theorem adh:ar P 239 [.tmp 0] Oj:=ai S9
@[simp] theorem ad4:aB P 239:=ag S9
theorem Ux:P 240=some zO:=Has.h 240 zO rfl
theorem aaQ:ar P 240 [.tmp 0] L5:=ai Ux
@[simp] theorem aei:aB P 240:=ag Ux
theorem TR:P 241=some Bj:=Has.h 241 Bj rfl
theorem acF:ar P 241 [.tmp 0] Mn:=ai TR
@[simp] theorem aex:aB P 241:=ag TR
theorem CJ:aS P uf fY:=aj true fY
theorem UF:P 258=some Bx:=Has.h 258 Bx rfl
theorem abK (args:List LV) (h:Heap):sfn P 258 args h=aZ [] (ac P (af P) OI ⟨args,h⟩):=aU UF args h
@[simp] theorem aed (pos:Option Nat) (q:Bool) (args:List LV) (h:Heap):aC P (af P) pos q 258 args h=if q then none else bnd (ah args h) fun a=>sfn P 258 a.1 a.2:=aw UF pos q args h
theorem Tz:P 264=some wZ:=Has.h 264 wZ rfl
theorem aa0 (args:List LV) (h:Heap):sfn P 264 args h=aZ [] (ac P (af P) Nx ⟨args,h⟩):=aU Tz args h
@[simp] theorem adO (pos:Option Nat) (q:Bool) (args:List LV) (h:Heap):aC P (af P) pos q 264 args h=if q then none else bnd (ah args h) fun a=>sfn P 264 a.1 a.2:=aw Tz pos q args h
theorem WB:P 267=some zH:=Has.h 267 zH rfl
theorem acm (args:List LV) (h:Heap):sfn P 267 args h=aZ [] (ac P (af P) NQ ⟨args,h⟩):=aU WB args h
@[simp] theorem adB (pos:Option Nat) (q:Bool) (args:List LV) (h:Heap):aC P (af P) pos q 267 args h=if q then none else bnd (ah args h) fun a=>sfn P 267 a.1 a.2:=aw WB pos q args h
theorem aaw:P 268=some vY:=Has.h 268 vY rfl
@[simp] theorem ad8 (pos:Option Nat) (q:Bool) (args:List LV) (h:Heap):aC P (af P) pos q 268 args h=if q then none else bnd (ah args h) fun a=>sfn P 268 a.1 a.2:=aw aaw pos q args h
theorem Z5:P 269=some yG:=Has.h 269 yG rfl
@[simp] theorem ae5 (pos:Option Nat) (q:Bool) (args:List LV) (h:Heap):aC P (af P) pos q 269 args h=if q then none else bnd (ah args h) fun a=>sfn P 269 a.1 a.2:=aw Z5 pos q args h
theorem UY:P 275=some xf:=Has.h 275 xf rfl
theorem T5 (args:List LV) (h:Heap):sfn P 275 args h=aZ [.tmp 0] (ac P (af P) He ⟨args,h⟩):=gw UY args h
@[simp] theorem ad7 (pos:Option Nat) (q:Bool) (args:List LV) (h:Heap):aC P (af P) pos q 275 args h=if q then none else sfn P 275 args h:=fH UY pos q args h
theorem FA:aS P sm iD:=aj true iD
theorem SQ:P 276=some AV:=Has.h 276 AV rfl
theorem fL (args:List LV) (h:Heap):sfn P 276 args h=aZ [.tmp 0] (ac P (af P) eS ⟨args,h⟩):=gw SQ args h
@[simp] theorem aem (pos:Option Nat) (q:Bool) (args:List LV) (h:Heap):aC P (af P) pos q 276 args h=if q then none else sfn P 276 args h:=fH SQ pos q args h
theorem UO:P 277=some xM:=Has.h 277 xM rfl
theorem acq:ar P 277 [.tmp 0] Hc:=ai UO
@[simp] theorem ad2:aB P 277:=ag UO
theorem TA:P 278=some wE:=Has.h 278 wE rfl
theorem abl:ar P 278 [.tmp 0] NN:=ai TA
@[simp] theorem aeX:aB P 278:=ag TA
theorem VX:P 294=some wu:=Has.h 294 wu rfl
theorem abb (args:List LV) (h:Heap):sfn P 294 args h=aZ [] (ac P (af P) MD ⟨args,h⟩):=aU VX args h
@[simp] theorem adU (pos:Option Nat) (q:Bool) (args:List LV) (h:Heap):aC P (af P) pos q 294 args h=if q then none else bnd (ah args h) fun a=>sfn P 294 a.1 a.2:=aw VX pos q args h
set_option maxRecDepth 10000 in
theorem UM:P 296=some Aa:=Has.h 296 Aa rfl
theorem aaS (args:List LV) (h:Heap):sfn P 296 args h=aZ [] (ac P (af P) LY ⟨args,h⟩):=aU UM args h
@[simp] theorem adT (pos:Option Nat) (q:Bool) (args:List LV) (h:Heap):aC P (af P) pos q 296 args h=if q then none else bnd (ah args h) fun a=>sfn P 296 a.1 a.2:=aw UM pos q args h
set_option maxRecDepth 10000 in
theorem V7:P 297=some wk:=Has.h 297 wk rfl
theorem WR:ar P 297 [.tmp 0] Gc:=ai V7
@[simp] theorem ad5:aB P 297:=ag V7
theorem sE:aS P sh iu:=aj true iu
theorem TE:P 118=some (.fprim 1 (dp none 8)):=Has.h 118 _ rfl
theorem GX (args:List CV):ffn P 118 args=(dp none 8) args:=by simp only[ffn,TE]
@[simp] theorem aeM (pos:Option Nat) (q:Bool) (args:List LV) (h:Heap):aC P (af P) pos q 118 args h=if q && pos.isNone then none else bnd (aD q args h) fun a=>bnd (ffn P 118 a.1) fun v=>bW pos 1 v.1 v.2 a.2:=BE TE pos q args h
class HasP (P:Nat→Option SFunc):Prop where
 h:∀ f,f ∈ [10,81]→∃ g,P f=some (.prim g)
@[simp] theorem aff [HasP P] (pos:Option Nat) (q:Bool) (args:List LV) (h:Heap):aC P (af P) pos q 10 args h=bnd (aD q args h) fun a=>bnd (fn P 10 a.1) fun v=>some (.c v,if bE v then h else a.2):=by
 obtain⟨g,hg⟩:=HasP.h (P:=P) 10 (by simp)
 exact qF hg pos q args h
@[simp] theorem afB [HasP P] (pos:Option Nat) (q:Bool) (args:List LV) (h:Heap):aC P (af P) pos q 81 args h=bnd (aD q args h) fun a=>bnd (fn P 81 a.1) fun v=>some (.c v,if bE v then h else a.2):=by
 obtain⟨g,hg⟩:=HasP.h (P:=P) 81 (by simp)
 exact qF hg pos q args h
end LM.GZ
namespace LM.GZ
open Go LM
def eX:LCode:=(.seq (.region [.mk (some 2) (.box (.t 0)) none none .any,.mk (some 4) (.new [(.c (.int .i64 0)),.nil] 1) none none .any,.mk (some 5) (.mkNil (some 2)) none none .any]) (.seq (.draw 0 [.mk (some 10) (.load (some 4) (.t 2)) none none .var,.mk (some 11) (.load (some 4) (.t 2)) none none .var,.mk (some 12) (.call false (.k (.c (.func 151 [] []))) [(.t 11)]) none none .any,.mk (some 13) (.call false (.k (.c (.func 150 [] []))) [(.t 10),(.t 12)]) none none .any,.mk (some 6) (.move (.t 13)) none none .any]) (.seq (.region [.mk (some 7) (.new [.nil]) none none .any]) (.seq (.seq (.region [.mk (some 14) (.move (.t 6)) none none .any,.mk (some 15) (.move (.t 1)) none none .any,.mk (some 16) (.call false (.k (.c (.func 152 [] []))) [(.t 14),(.t 15)]) none none .any]) (.block 0 (.rangeFn (.t 16) [17,18] (.seq (.region [.mk (some 8) (.move (.t 17)) none none .any]) (.region [.mk (some 9) (.move (.t 18)) none none .any])) (.block 1 (.seq (.region [.mk (some 19) (.move (.t 9)) none none .any,.mk (some 20) (.bin .neq (.t 19) (.k (.c (.int .i64 0)))) none none .any]) (.cond (.t 20) (.region [.mk (some 21) (.load none (.t 7)) none none .any,.mk (some 22) (.move (.t 8)) none none .any,.mk (some 23) (.move (.t 9)) none none .any,.mk (some 24) (.build [(.c (.int .i64 0)),(.c (.int .i64 0))] [(0,1,(.t 22)),(1,1,(.t 23))]) none none .any,.mk (some 25) (.buildSlice 2 (some 2) 1 [(.c (.int .i64 0)),(.c (.int .i64 0))] [(0,(.t 24))]) none none .any,.mk (some 26) (.append (some 2) 16 (.t 21) (.t 25)) none none .any,.mk none (.store 1 (.t 7) (.t 26)) none none .any]) .skip)))))) (.seq (.draw 0 [.mk (some 27) (.move (.t 6)) none none .any,.mk (some 28) (.nilCheck (.t 27)) none none .any,.mk (some 29) (.fieldAddr 4 (.t 28)) none none .any,.mk (some 30) (.load (some 2) (.t 29)) none none .var,.mk (some 31) (.load none (.t 7)) none none .var,.mk none (.store 2 (.t 4) (.t 30)) none none .row,.mk (some 5) (.move (.t 31)) none none .any]) .ret)))))
def Ow:LFunc:=.code .pure 32 [.cell 4 (some 2),.tmp 5] eX
def ja:LCode:=(.seq (.region [.mk (some 7) (.load none (.t 1)) none none .any,.mk (some 8) (.len 1 (.t 7)) none none .any,.mk (some 9) (.move (.k (.c (.int .i64 0)))) none none .any]) (.block 0 (.loop true (.seq (.region [.mk (some 10) (.bin .lss (.t 9) (.t 8)) none none .any]) (.seq (.cond (.t 10) .skip (.exit 0)) (.seq (.block 1 (.seq (.region [.mk (some 11) (.move (.t 9)) none none .any,.mk (some 12) (.idxSlice 4 (.t 7) (.t 9)) none none .any,.mk (some 13) (.load (some 4) (.t 12)) none none .any,.mk (some 5) (.new [(.c (.int .i64 0)),(.c (.str [])),(.c (.int .i64 0)),(.c (.int .i64 0))]) none none .any,.mk (some 4) (.move (.t 11)) none none .any,.mk none (.store 4 (.t 5) (.t 13)) none none .any]) (.seq (.region [.mk (some 14) (.load none (.t 2)) none none .any,.mk (some 15) (.load (some 4) (.t 5)) none none .any,.mk (some 16) (.call false (.k (.c (.func 197 [] []))) [(.t 14),(.t 15)]) none none .any,.mk (some 6) (.move (.t 16)) none none .any]) (.seq (.seq (.region [.mk (some 17) (.move (.t 6)) none none .any,.mk (some 18) (.bin .eql (.t 17) (.k (.c (.int .i64 0)))) none none .any]) (.cond (.t 18) (.region [.mk (some 19) (.load none (.t 2)) none none .any,.mk (some 20) (.load (some 4) (.t 5)) none none .any,.mk (some 21) (.call false (.k (.c (.func 198 [] []))) [(.t 19),(.t 20)]) none none .any]) .skip)) (.seq (.region [.mk (some 22) (.move (.t 0)) none none .any,.mk (some 23) (.move (.t 4)) none none .any,.mk (some 24) (.bin .add (.t 23) (.k (.c (.int .i64 1)))) none none .any,.mk (some 25) (.move (.t 6)) none none .any,.mk (some 26) (.call false (.t 22) [(.t 24),(.t 25)]) none none .any,.mk (some 27) (.not (.t 26)) none none .any]) (.cond (.t 27) .ret .skip)))))) (.region [.mk (some 28) (.bin .add (.t 9) (.k (.c (.int .i64 1)))) none none .any,.mk (some 9) (.move (.t 28)) none none .any])))))))
def Hm:LFunc:=.code .shared 29 [] ja
def lprog:List (Nat × LFunc):=[(81,Ow),(196,Hm)]
@[simp] def Su:SCode:=(.region [.op 8 (.build [(.c (.int .i64 0)),(.c (.int .i64 0))] [(0,1,(.k (.c (.int .i64 150)))),(1,1,(.k (.c (.int .i64 7000))))]),.op 9 (.build [(.c (.int .i64 0)),(.c (.int .i64 0))] [(0,1,(.k (.c (.int .i64 120)))),(1,1,(.k (.c (.int .i64 7001))))]),.op 10 (.call false (.k (.c (.func 11 [] []))) [(.t 1),(.t 0)]),.op 7 (.move (.t 0)),.op 11 (.extract (.t 0) 0),.op 12 (.extract (.t 1) 1),.op 1 (.move (.t 1)),.op 2 (.move (.t 1))] [1,0])
@[simp] def Tb:SCode:=(.region [.op 14 (.build [(.c (.int .i64 0)),(.c (.int .i64 0))] [(0,1,(.k (.c (.int .i64 150)))),(1,1,(.k (.c (.int .i64 7000))))]),.op 15 (.build [(.c (.int .i64 0)),(.c (.int .i64 0))] [(0,1,(.k (.c (.int .i64 120)))),(1,1,(.k (.c (.int .i64 7001))))]),.op 16 (.call false (.k (.c (.func 12 [] []))) [(.t 1),(.t 0)]),.op 13 (.move (.t 0)),.op 17 (.extract (.t 0) 0),.op 18 (.extract (.t 1) 1),.op 3 (.move (.t 1)),.op 4 (.move (.t 1))] [8,9,1,0])
@[simp] def VG:SCode:=(.region [.op 20 (.move (.t 2)),.op 21 (.call false (.k (.c (.func 14 [] []))) [(.t 0),(.k (.c (.int .i64 1)))]),.op 19 (.move (.t 0)),.op 22 (.extract (.t 0) 0),.op 23 (.extract (.t 1) 1),.op 5 (.move (.t 1)),.op 6 (.move (.t 1))] [7,8,10,1,0])
@[simp] def Uk:SCode:=(.region [.op 24 (.move (.t 2)),.op 25 (.move (.t 0)),.andN 30 0 [.op 26 (.move (.t 3)),.op 27 (.move (.t 7)),.op 28 (.bin .add (.t 1) (.t 0)),.op 29 (.bin .eql (.t 0) (.k (.c (.int .i64 0))))] (.t 0),.op 31 (.move (.t 0)),.andN 34 0 [.op 32 (.move (.t 4)),.op 33 (.bin .eql (.t 0) (.k (.c (.int .i64 1))))] (.t 0),.op 35 (.move (.t 0)),.andN 39 0 [.op 36 (.move (.t 9)),.op 37 (.len 1 (.t 0)),.op 38 (.bin .eql (.t 0) (.k (.c (.int .i64 1))))] (.t 0),.op 40 (.move (.t 0)),.andN 45 0 [.op 41 (.move (.t 11)),.op 42 (.idxSlice 1 (.t 0) (.k (.c (.int .i64 0)))),.op 43 (.load none (.t 0)),.op 44 (.bin .eql (.t 0) (.k (.c (.str [97,110,110]))))] (.t 0),.op 0 (.move (.t 0))] [0])
def Uf:SCode:=.seq Uk .ret
def Uc:SCode:=.seq VG Uf
def SE:SCode:=.seq Tb Uc
def Xp:SCode:=.seq Su SE
def c10:SCode:=(.seq (.region [.op 0 (.move (.k (.c (.bool false))))] []) Xp)
def F10:SFunc:=.code .pure 46 0 [some 0] [.tmp 0] c10
end LM.GZ
