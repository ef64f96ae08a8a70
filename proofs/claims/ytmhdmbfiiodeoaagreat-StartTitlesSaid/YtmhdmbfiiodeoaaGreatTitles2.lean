/- Part 5 of what YtmhdmbfiiodeoaaGreatTitles leans on. -/
import Derived.Test.YtmhdmbfiiodeoaaGreatTitlesL1
import Derived.Test.YtmhdmbfiiodeoaaGreatTitlesL2
import Derived.Test.YtmhdmbfiiodeoaaGreatTitlesL3
import Derived.Test.YtmhdmbfiiodeoaaGreatTitles1
set_option linter.all false
namespace LM.G6
open Go LM
def table0 : List (Nat × SFunc) := [(8, F8), (12, F12), (19, F19), (20, F20), (21, F21), (22, F22), (23, F23), (28, F28), (29, F29), (32, F32), (33, F33), (34, F34), (35, F35), (39, F39), (40, F40), (45, F45), (46, F46), (50, F50), (51, F51), (54, F54), (55, F55), (56, F56), (57, F57), (58, F58), (59, F59), (60, F60), (61, F61), (63, F63), (64, F64), (65, F65), (67, F67), (68, F68), (69, F69), (70, F70), (73, F73), (74, F74), (75, F75), (80, F80), (81, F81), (82, F82), (83, F83), (84, F84), (85, F85), (86, F86), (87, F87), (88, F88), (89, F89), (90, F90), (91, F91), (92, F92), (93, F93), (94, F94), (95, F95), (96, F96), (100, F100), (101, F101), (102, F102), (103, F103), (104, F104), (105, F105), (106, F106), (107, F107), (108, F108), (109, F109), (110, F110), (111, F111), (112, F112), (113, F113), (114, F114), (115, F115), (116, F116), (117, F117), (118, F118), (119, F119), (120, F120), (121, F121), (122, F122), (124, F124), (125, F125), (126, F126), (127, F127), (128, F128), (129, F129), (131, F131), (132, F132), (133, F133), (134, F134), (135, F135), (136, F136), (137, .fprim 1 (cloneP (some 3) 56)), (138, F138), (140, F140), (141, F141), (142, F142), (143, F143), (144, .fprim 1 (cloneP none 8)), (145, F145), (146, F146), (147, F147), (148, F148), (149, F149), (150, F150), (151, F151), (152, F152), (153, F153), (154, F154), (157, F157), (158, F158), (159, F159), (160, F160), (161, F161), (162, F162), (163, F163), (164, F164), (165, F165), (166, F166), (167, F167), (168, F168), (169, F169), (170, F170), (171, F171), (172, F172), (173, F173), (174, F174), (175, F175), (176, F176), (177, F177)]
/-- A program with these functions. -/
class Has (P : Nat → Option SFunc) : Prop where
  h : ∀ f F, lookupPrim f table0 = some F → P f = some F
variable {P : Nat → Option SFunc} [Has P]
theorem p8 : P 8 = some F8 := Has.h 8 F8 rfl
theorem u8 : CodeEq P 8 [.tmp 0] c8 := fn_code p8
theorem r8_l0 : LoopT P c8_l0 c8_l0b := execS_loop true c8_l0b
theorem p12 : P 12 = some F12 := Has.h 12 F12 rfl
theorem u12 : CodeEq P 12 [.tmp 0] c12 := fn_code p12
theorem r12_l0 : LoopT P c12_l0 c12_l0b := execS_loop true c12_l0b
theorem r12_l1 : LoopT P c12_l1 c12_l1b := execS_loop true c12_l1b
theorem r12_l2 : LoopT P c12_l2 c12_l2b := execS_loop true c12_l2b
theorem r12_l3 : LoopT P c12_l3 c12_l3b := execS_loop true c12_l3b
theorem r12_l4 : LoopT P c12_l4 c12_l4b := execS_loop true c12_l4b
theorem r12_l5 : LoopT P c12_l5 c12_l5b := execS_loop true c12_l5b
theorem p22 : P 22 = some F22 := Has.h 22 F22 rfl
theorem u22 : CodeEq P 22 [.tmp 0] c22 := fn_code p22
@[simp] theorem call22 : CallP P 22 := callS_pure p22
theorem r22_l0 : LoopT P c22_l0 c22_l0b := execS_loop true c22_l0b
theorem p23 : P 23 = some F23 := Has.h 23 F23 rfl
theorem u23 : CodeEq P 23 [.tmp 0] c23 := fn_code p23
@[simp] theorem call23 : CallP P 23 := callS_pure p23
theorem p35 : P 35 = some F35 := Has.h 35 F35 rfl
@[simp] theorem call35 : CallP P 35 := callS_pure p35
theorem p50 : P 50 = some F50 := Has.h 50 F50 rfl
theorem u50 : CodeEq P 50 [.tmp 0, .tmp 1] c50 := fn_code p50
@[simp] theorem call50 : CallP P 50 := callS_pure p50
theorem r50_l0 : LoopT P c50_l0 c50_l0b := execS_loop true c50_l0b
theorem r50_l1 : LoopT P c50_l1 c50_l1b := execS_loop true c50_l1b
theorem p51 : P 51 = some F51 := Has.h 51 F51 rfl
theorem u51 : CodeEq P 51 [.tmp 0] c51 := fn_code p51
@[simp] theorem call51 : CallP P 51 := callS_pure p51
theorem r51_l0 : LoopT P c51_l0 c51_l0b := execS_loop true c51_l0b
theorem r51_l1 : LoopT P c51_l1 c51_l1b := execS_loop true c51_l1b
theorem p54 : P 54 = some F54 := Has.h 54 F54 rfl
theorem u54 : CodeEq P 54 [.tmp 0] c54 := fn_code p54
@[simp] theorem call54 : CallP P 54 := callS_pure p54
theorem r54_l0 : LoopT P c54_l0 c54_l0b := execS_loop true c54_l0b
theorem p55 : P 55 = some F55 := Has.h 55 F55 rfl
@[simp] theorem call55 : CallP P 55 := callS_pure p55
theorem p56 : P 56 = some F56 := Has.h 56 F56 rfl
theorem u56 : CodeEq P 56 [.tmp 0] c56 := fn_code p56
@[simp] theorem call56 : CallP P 56 := callS_pure p56
theorem r56_l0 : LoopT P c56_l0 c56_l0b := execS_loop true c56_l0b
theorem r56_l1 : LoopT P c56_l1 c56_l1b := execS_loop true c56_l1b
theorem r56_l2 : LoopT P c56_l2 c56_l2b := execS_loop true c56_l2b
theorem r56_l3 : LoopT P c56_l3 c56_l3b := execS_loop true c56_l3b
theorem p57 : P 57 = some F57 := Has.h 57 F57 rfl
theorem u57 : CodeEq P 57 [.tmp 0] c57 := fn_code p57
@[simp] theorem call57 : CallP P 57 := callS_pure p57
theorem r57_l0 : LoopT P c57_l0 c57_l0b := execS_loop true c57_l0b
theorem p58 : P 58 = some F58 := Has.h 58 F58 rfl
theorem u58 : CodeEq P 58 [.tmp 0, .tmp 1] c58 := fn_code p58
@[simp] theorem call58 : CallP P 58 := callS_pure p58
theorem p63 : P 63 = some F63 := Has.h 63 F63 rfl
@[simp] theorem call63 : CallP P 63 := callS_pure p63
theorem p64 : P 64 = some F64 := Has.h 64 F64 rfl
theorem u64 : CodeEq P 64 [.tmp 0] c64 := fn_code p64
@[simp] theorem call64 : CallP P 64 := callS_pure p64
theorem p65 : P 65 = some F65 := Has.h 65 F65 rfl
@[simp] theorem call65 : CallP P 65 := callS_pure p65
theorem p67 : P 67 = some F67 := Has.h 67 F67 rfl
@[simp] theorem call67 : CallP P 67 := callS_pure p67
theorem p68 : P 68 = some F68 := Has.h 68 F68 rfl
@[simp] theorem call68 : CallP P 68 := callS_pure p68
theorem p69 : P 69 = some F69 := Has.h 69 F69 rfl
@[simp] theorem call69 : CallP P 69 := callS_pure p69
theorem p70 : P 70 = some F70 := Has.h 70 F70 rfl
@[simp] theorem call70 : CallP P 70 := callS_pure p70
theorem p80 : P 80 = some F80 := Has.h 80 F80 rfl
theorem u80 : CodeEq P 80 [.tmp 0] c80 := fn_code p80
@[simp] theorem call80 : CallP P 80 := callS_pure p80
theorem r80_l0 : LoopT P c80_l0 c80_l0b := execS_loop true c80_l0b
theorem p81 : P 81 = some F81 := Has.h 81 F81 rfl
theorem u81 : CodeEq P 81 [.tmp 0] c81 := fn_code p81
@[simp] theorem call81 : CallP P 81 := callS_pure p81
theorem r81_l0 : LoopT P c81_l0 c81_l0b := execS_loop true c81_l0b
theorem p85 : P 85 = some F85 := Has.h 85 F85 rfl
theorem u85 : CodeEq P 85 [.tmp 0] c85 := fn_code p85
@[simp] theorem call85 : CallP P 85 := callS_pure p85
theorem r85_l0 : LoopT P c85_l0 c85_l0b := execS_loop true c85_l0b
theorem p88 : P 88 = some F88 := Has.h 88 F88 rfl
theorem u88 : CodeEq P 88 [.tmp 0] c88 := fn_code p88
@[simp] theorem call88 : CallP P 88 := callS_pure p88
theorem r88_l0 : LoopT P c88_l0 c88_l0b := execS_loop true c88_l0b
theorem p89 : P 89 = some F89 := Has.h 89 F89 rfl
theorem u89 : CodeEq P 89 [.tmp 0] c89 := fn_code p89
@[simp] theorem call89 : CallP P 89 := callS_pure p89
theorem p90 : P 90 = some F90 := Has.h 90 F90 rfl
theorem u90 : CodeEq P 90 [.tmp 0] c90 := fn_code p90
@[simp] theorem call90 : CallP P 90 := callS_pure p90
theorem r90_l0 : LoopT P c90_l0 c90_l0b := execS_loop true c90_l0b
theorem p91 : P 91 = some F91 := Has.h 91 F91 rfl
theorem u91 : CodeEq P 91 [.tmp 0] c91 := fn_code p91
@[simp] theorem call91 : CallP P 91 := callS_pure p91
theorem p110 : P 110 = some F110 := Has.h 110 F110 rfl
theorem u110 : CodeEq P 110 [.tmp 0] c110 := fn_code p110
@[simp] theorem call110 : CallP P 110 := callS_pure p110
theorem r110_l0 : LoopT P c110_l0 c110_l0b := execS_loop true c110_l0b
theorem r110_l1 : LoopF P c110_l1 c110_l1b := execS_loop false c110_l1b
theorem r110_l2 : LoopT P c110_l2 c110_l2b := execS_loop true c110_l2b
theorem p113 : P 113 = some F113 := Has.h 113 F113 rfl
theorem u113 : CodeEq P 113 [.tmp 0] c113 := fn_code p113
@[simp] theorem call113 : CallP P 113 := callS_pure p113
theorem p114 : P 114 = some F114 := Has.h 114 F114 rfl
theorem u114 : CodeEq P 114 [.tmp 0] c114 := fn_code p114
@[simp] theorem call114 : CallP P 114 := callS_pure p114
theorem r114_l0 : LoopT P c114_l0 c114_l0b := execS_loop true c114_l0b
theorem p116 : P 116 = some F116 := Has.h 116 F116 rfl
theorem u116 : CodeEq P 116 [.tmp 0] c116 := fn_code p116
@[simp] theorem call116 : CallP P 116 := callS_pure p116
theorem p117 : P 117 = some F117 := Has.h 117 F117 rfl
@[simp] theorem call117 : CallP P 117 := callS_pure p117
theorem p118 : P 118 = some F118 := Has.h 118 F118 rfl
theorem u118 : CodeEq P 118 [.cell 0 (some 3)] c118 := fn_code p118
@[simp] theorem call118 : CallP P 118 := callS_pure p118
theorem p119 : P 119 = some F119 := Has.h 119 F119 rfl
theorem u119 : CodeEq P 119 [.tmp 0] c119 := fn_code p119
@[simp] theorem call119 : CallP P 119 := callS_pure p119
theorem p120 : P 120 = some F120 := Has.h 120 F120 rfl
theorem u120 : CodeEq P 120 [.tmp 0] c120 := fn_code p120
@[simp] theorem call120 : CallP P 120 := callS_pure p120
theorem r120_l0 : LoopT P c120_l0 c120_l0b := execS_loop true c120_l0b
theorem p125 : P 125 = some F125 := Has.h 125 F125 rfl
theorem u125 : CodeEq P 125 [.tmp 0] c125 := fn_code p125
theorem r125_l0 : LoopT P c125_l0 c125_l0b := execS_loop true c125_l0b
theorem r125_l1 : LoopT P c125_l1 c125_l1b := execS_loop true c125_l1b
theorem p126 : P 126 = some F126 := Has.h 126 F126 rfl
theorem u126 : CodeEq P 126 [.tmp 0] c126 := fn_code p126
@[simp] theorem call126 : CallP P 126 := callS_pure p126
theorem p127 : P 127 = some F127 := Has.h 127 F127 rfl
theorem u127 : CodeEq P 127 [.tmp 0] c127 := fn_code p127
theorem p128 : P 128 = some F128 := Has.h 128 F128 rfl
theorem u128 : CodeEq P 128 [.tmp 0] c128 := fn_code p128
theorem p141 : P 141 = some F141 := Has.h 141 F141 rfl
theorem u141 : CodeEq P 141 [.tmp 0] c141 := fn_code p141
@[simp] theorem call141 : CallP P 141 := callS_pure p141
theorem p148 : P 148 = some F148 := Has.h 148 F148 rfl
theorem u148 : CodeEq P 148 [.tmp 0] c148 := fn_code p148
@[simp] theorem call148 : CallP P 148 := callS_pure p148
theorem r148_l0 : LoopT P c148_l0 c148_l0b := execS_loop true c148_l0b
theorem p151 : P 151 = some F151 := Has.h 151 F151 rfl
theorem u151 : CodeEq P 151 [.tmp 0] c151 := fn_code p151
@[simp] theorem call151 : CallP P 151 := callS_pure p151
theorem p152 : P 152 = some F152 := Has.h 152 F152 rfl
theorem u152 : CodeEq P 152 [.tmp 0] c152 := fn_code p152
@[simp] theorem call152 : CallP P 152 := callS_pure p152
theorem p169 : P 169 = some F169 := Has.h 169 F169 rfl
theorem u169 : CodeEq P 169 [.tmp 0] c169 := fn_code p169
@[simp] theorem call169 : CallP P 169 := callS_pure p169
theorem r169_l0 : LoopT P c169_l0 c169_l0b := execS_loop true c169_l0b
/-- A program in which some functions are primitives. -/
class HasP (P : Nat → Option SFunc) : Prop where
  h : ∀ f, f ∈ [16, 66] → ∃ g, P f = some (.prim g)
@[simp] theorem call16 [HasP P] (pos : Option Nat) (q : Bool) (args : List LV) (h : Heap) : callS P (limS P) pos q 16 args h = bnd (frzArgs q args h) fun a => bnd (fn P 16 a.1) fun v => some (.c v, if scalarC v then h else a.2) := by
  obtain ⟨g, hg⟩ := HasP.h (P := P) 16 (by simp)
  exact callS_prim hg pos q args h
@[simp] theorem call66 [HasP P] (pos : Option Nat) (q : Bool) (args : List LV) (h : Heap) : callS P (limS P) pos q 66 args h = bnd (frzArgs q args h) fun a => bnd (fn P 66 a.1) fun v => some (.c v, if scalarC v then h else a.2) := by
  obtain ⟨g, hg⟩ := HasP.h (P := P) 66 (by simp)
  exact callS_prim hg pos q args h
end LM.G6
namespace LM.G6
open Go LM
def lc66 : LCode := (.seq (.region [.mk (some 2) (.mkNil (some 2)) none none .any, .mk (some 3) (.move (.k (.c (.int .i64 0)))) none none .any]) (.seq (.seq (.region [.mk (some 10) (.move (.t 0)) none none .any, .mk (some 11) (.call false (.k (.c (.func 125 [] []))) [(.t 10)]) none none .any, .mk (some 4) (.move (.t 11)) none none .any]) (.seq (.region [.mk (some 12) (.move (.t 4)) none none .any, .mk (some 13) (.bin .neq (.t 12) (.k (.c (.int .i64 0)))) none none .any]) (.cond (.t 13) (.seq (.region [.mk (some 14) (.move (.t 4)) none none .any, .mk (some 2) (.mkNil (some 2)) none none .any, .mk (some 3) (.move (.t 14)) none none .any]) .ret) .skip))) (.seq (.region [.mk (some 5) (.new [.nil]) none none .any]) (.seq (.seq (.region [.mk (some 15) (.move (.t 0)) none none .any, .mk (some 16) (.move (.t 0)) none none .any, .mk (some 17) (.len 1 (.t 16)) none none .any, .mk (some 18) (.bin .sub (.t 17) (.k (.c (.int .i64 1)))) none none .any, .mk (some 19) (.idxSlice 1 (.t 15) (.t 18)) none none .any, .mk (some 20) (.load none (.t 19)) none none .any, .mk (some 21) (.idxSlice 3 (.t 20) (.k (.c (.int .i64 0)))) none none .any, .mk (some 22) (.load (some 3) (.t 21)) none none .any, .mk (some 23) (.call false (.k (.c (.func 126 [] []))) [(.t 22)]) none none .any, .mk (some 6) (.move (.t 23)) none none .any]) (.seq (.region [.mk (some 24) (.move (.t 6)) none none .any, .mk (some 25) (.bin .neq (.t 24) (.k (.c (.str [])))) none none .any]) (.cond (.t 25) (.region [.mk (some 26) (.load none (.t 5)) none none .any, .mk (some 27) (.move (.t 6)) none none .any, .mk (some 28) (.build [(.c (.str [])), (.c (.int .i64 0))] [(0, 1, (.t 27)), (1, 1, (.k (.c (.int .i64 1))))]) none none .any, .mk (some 29) (.buildSlice 2 (some 2) 1 [(.c (.str [])), (.c (.int .i64 0))] [(0, (.t 28))]) none none .any, .mk (some 30) (.append (some 2) 24 (.t 26) (.t 29)) none none .any, .mk none (.store 1 (.t 5) (.t 30)) none none .any]) .skip))) (.seq (.seq (.region [.mk (some 31) (.move (.t 0)) none none .any, .mk (some 32) (.call false (.k (.c (.func 127 [] []))) [(.t 31)]) none none .any]) (.block 0 (.rangeFn (.t 32) [33, 34] (.region [.mk (some 8) (.new [.nil]) none none .any, .mk none (.store 1 (.t 8) (.t 34)) none none .any]) (.block 1 (.seq (.region [.mk (some 35) (.load none (.t 8)) none none .any, .mk (some 36) (.call false (.k (.c (.func 128 [] []))) [(.t 35)]) none none .any]) (.block 2 (.rangeFn (.t 36) [37] (.region [.mk (some 9) (.move (.t 37)) none none .any]) (.block 3 (.region [.mk (some 38) (.load none (.t 5)) none none .any, .mk (some 39) (.move (.t 9)) none none .any, .mk (some 40) (.load none (.t 8)) none none .any, .mk (some 41) (.len 1 (.t 40)) none none .any, .mk (some 42) (.bin .add (.t 41) (.k (.c (.int .i64 1)))) none none .any, .mk (some 43) (.build [(.c (.str [])), (.c (.int .i64 0))] [(0, 1, (.t 39)), (1, 1, (.t 42))]) none none .any, .mk (some 44) (.buildSlice 2 (some 2) 1 [(.c (.str [])), (.c (.int .i64 0))] [(0, (.t 43))]) none none .any, .mk (some 45) (.append (some 2) 24 (.t 38) (.t 44)) none none .any, .mk none (.store 1 (.t 5) (.t 45)) none none .any]))))))))) (.seq (.region [.mk (some 46) (.load none (.t 5)) none none .any, .mk (some 2) (.move (.t 46)) none none .any, .mk (some 3) (.move (.k (.c (.int .i64 0)))) none none .any]) .ret))))))
def lf66 : LFunc := .code .pure 47 [.tmp 2, .tmp 3] lc66
def lc155 : LCode := (.seq (.region [.mk (some 4) (.load none (.t 1)) none none .any, .mk (some 5) (.len 1 (.t 4)) none none .any, .mk (some 6) (.bin .sub (.t 5) (.k (.c (.int .i64 1)))) none none .any, .mk (some 3) (.move (.t 6)) none none .any]) (.block 0 (.loop true (.seq (.seq (.region [.mk (some 7) (.move (.t 3)) none none .any, .mk (some 8) (.bin .geq (.t 7) (.k (.c (.int .i64 0)))) none none .any]) (.cond (.t 8) .skip (.exit 0))) (.seq (.block 1 (.seq (.region [.mk (some 11) (.move (.t 0)) none none .any, .mk (some 12) (.move (.t 3)) none none .any, .mk (some 13) (.load none (.t 1)) none none .any, .mk (some 14) (.move (.t 3)) none none .any, .mk (some 15) (.idxSlice 1 (.t 13) (.t 14)) none none .any, .mk (some 16) (.load none (.t 15)) none none .any, .mk (some 17) (.call false (.t 11) [(.t 12), (.t 16)]) none none .any, .mk (some 18) (.not (.t 17)) none none .any]) (.cond (.t 18) .ret .skip))) (.region [.mk (some 9) (.move (.t 3)) none none .any, .mk (some 10) (.bin .sub (.t 9) (.k (.c (.int .i64 1)))) none none .any, .mk (some 3) (.move (.t 10)) none none .any]))))))
def lf155 : LFunc := .code .shared 19 [] lc155
def lc156 : LCode := (.seq .skip (.seq (.region [.mk (some 7) (.load none (.t 1)) none none .any, .mk (some 8) (.len 1 (.t 7)) none none .any, .mk (some 9) (.move (.k (.c (.int .i64 0)))) none none .any]) (.block 0 (.loop true (.seq (.region [.mk (some 10) (.bin .lss (.t 9) (.t 8)) none none .any]) (.seq (.cond (.t 10) .skip (.exit 0)) (.seq (.block 1 (.seq (.region [.mk (some 11) (.idxSlice 3 (.t 7) (.t 9)) none none .any, .mk (some 12) (.load (some 3) (.t 11)) none none .any, .mk (some 4) (.new [(.c (.str [])), (.c (.str [])), (.c (.int .i64 0))]) none none .any, .mk none (.store 3 (.t 4) (.t 12)) none none .any]) (.seq (.region [.mk (some 13) (.fieldAddr 0 (.t 4)) none none .any, .mk (some 14) (.load none (.t 13)) none none .any, .mk (some 15) (.fieldAddr 1 (.t 4)) none none .any, .mk (some 16) (.load none (.t 15)) none none .any, .mk (some 17) (.build [(.c (.str [])), (.c (.str []))] [(0, 1, (.t 14)), (1, 1, (.t 16))]) none none .any, .mk (some 18) (.move (.k (.c (.int .i64 0)))) none none .any]) (.block 2 (.loop true (.seq (.region [.mk (some 19) (.bin .lss (.t 18) (.k (.c (.int .i64 2)))) none none .any]) (.seq (.cond (.t 19) .skip (.exit 2)) (.seq (.block 3 (.seq (.region [.mk (some 20) (.indexArr 2 none (.t 17) (.t 18)) none none .any, .mk (some 6) (.move (.t 20)) none none .any]) (.seq (.seq (.region [.mk (some 21) (.move (.t 6)) none none .any, .mk (some 22) (.bin .eql (.t 21) (.k (.c (.str [])))) none none .any, .mk (some 23) (.move (.t 22)) none none .any, .mk (some 24) (.move (.t 6)) (some (23, false)) none .any, .mk (some 25) (.load (some 3) (.t 4)) (some (23, false)) none .any, .mk (some 26) (.call false (.k (.c (.func 126 [] []))) [(.t 25)]) (some (23, false)) none .any, .mk (some 27) (.bin .eql (.t 24) (.t 26)) (some (23, false)) none .any, .mk (some 28) (.pick (.t 23) (.k (.c (.bool true))) (.t 27)) none none .any]) (.cond (.t 28) (.exit 3) .skip)) (.seq (.region [.mk (some 29) (.move (.t 0)) none none .any, .mk (some 30) (.move (.t 6)) none none .any, .mk (some 31) (.call false (.t 29) [(.t 30)]) none none .any, .mk (some 32) (.not (.t 31)) none none .any]) (.cond (.t 32) (.exit 0) .skip))))) (.region [.mk (some 33) (.bin .add (.t 18) (.k (.c (.int .i64 1)))) none none .any, .mk (some 18) (.move (.t 33)) none none .any]))))))))) (.region [.mk (some 34) (.bin .add (.t 9) (.k (.c (.int .i64 1)))) none none .any, .mk (some 9) (.move (.t 34)) none none .any]))))))))
def lf156 : LFunc := .code .shared 35 [] lc156
def lprog : List (Nat × LFunc) := [(66, lf66), (155, lf155), (156, lf156)]
@[simp] def c16_n2 : SCode := (.region [.op 38 (.call false (.k (.c (.func 83 [] []))) []), .op 39 (.call false (.k (.c (.func 20 [] []))) [(.t 0), (.k (.c (.int .i64 5)))]), .op 37 (.move (.t 0)), .op 40 (.extract (.t 0) 0), .op 41 (.extract (.t 1) 1), .op 1 (.move (.t 1)), .op 2 (.move (.t 1))] [1, 0])
@[simp] def c16_n4 : SCode := (.region [.op 43 (.call false (.k (.c (.func 83 [] []))) []), .op 44 (.call false (.k (.c (.func 21 [] []))) [(.t 0), (.k (.c (.int .i64 2))), (.k (.c (.int .i64 5)))]), .op 42 (.move (.t 0)), .op 45 (.extract (.t 0) 0), .op 46 (.extract (.t 1) 1), .op 3 (.move (.t 1)), .op 4 (.move (.t 1))] [7, 8, 1, 0])
@[simp] def c16_n6 : SCode := (.region [.op 48 (.buildSlice 2 none 4 [(.c (.int .i64 0))] [(0, (.k (.c (.int .i64 2)))), (1, (.k (.c (.int .i64 0)))), (2, (.k (.c (.int .i64 3)))), (3, (.k (.c (.int .i64 1))))]), .op 49 (.call false (.k (.c (.func 29 [] []))) [(.t 0)]), .op 47 (.move (.t 0)), .op 50 (.extract (.t 0) 0), .op 51 (.extract (.t 1) 1), .op 52 (.extract (.t 2) 2), .op 5 (.move (.t 2)), .op 6 (.move (.t 2)), .op 7 (.move (.t 2))] [9, 10, 11, 12, 1, 0])
@[simp] def c16_n8 : SCode := (.region [.op 54 (.call false (.k (.c (.func 83 [] []))) []), .op 55 (.buildSlice 2 none 4 [(.c (.int .i64 0))] [(0, (.k (.c (.int .i64 0)))), (1, (.k (.c (.int .i64 1)))), (2, (.k (.c (.int .i64 2)))), (3, (.k (.c (.int .i64 3))))]), .op 56 (.call false (.k (.c (.func 32 [] []))) [(.t 1), (.t 0)]), .op 53 (.move (.t 0)), .op 57 (.extract (.t 0) 0), .op 58 (.extract (.t 1) 1), .op 8 (.move (.t 1)), .op 9 (.move (.t 1))] [8, 9, 10, 11, 12, 13, 1, 0])
@[simp] def c16_n10 : SCode := (.region [.op 60 (.call false (.k (.c (.func 83 [] []))) []), .op 61 (.call false (.k (.c (.func 33 [] []))) [(.t 0)]), .op 59 (.move (.t 0)), .op 62 (.extract (.t 0) 0), .op 63 (.extract (.t 1) 1), .op 10 (.move (.t 1)), .op 11 (.move (.t 1))] [7, 8, 9, 10, 11, 12, 13, 14, 1, 0])
@[simp] def c16_n12 : SCode := (.region [.op 65 (.call false (.k (.c (.func 83 [] []))) []), .op 66 (.call false (.k (.c (.func 34 [] []))) [(.t 0)]), .op 64 (.move (.t 0)), .op 67 (.extract (.t 0) 0), .op 68 (.extract (.t 1) 1), .op 12 (.move (.t 1)), .op 13 (.move (.t 1))] [7, 8, 9, 10, 11, 12, 13, 14, 15, 16, 1, 0])
@[simp] def c16_n14 : SCode := (.region [.op 70 (.call false (.k (.c (.func 83 [] []))) []), .op 71 (.move (.t 11)), .op 72 (.call false (.k (.c (.func 32 [] []))) [(.t 1), (.t 0)]), .op 69 (.move (.t 0)), .op 73 (.extract (.t 0) 0), .op 74 (.extract (.t 1) 1), .op 14 (.move (.t 1)), .op 15 (.move (.t 1))] [8, 9, 10, 11, 12, 13, 14, 15, 16, 17, 19, 1, 0])
@[simp] def c16_n16 : SCode := (.region [.op 76 (.call false (.k (.c (.func 39 [] []))) [(.k (.c (.int .i64 3))), (.k (.c (.int .i64 60000))), (.k (.c (.int .i64 10000))), (.k (.c (.int .i64 65000)))]), .op 75 (.move (.t 0)), .op 77 (.extract (.t 0) 0), .op 78 (.extract (.t 1) 1), .op 16 (.move (.t 1)), .op 17 (.move (.t 1))] [6, 7, 8, 9, 10, 11, 12, 13, 14, 15, 16, 17, 18, 1, 0])
@[simp] def c16_n18 : SCode := (.region [.op 80 (.call false (.k (.c (.func 40 [] []))) [(.k (.c (.int .i64 3))), (.k (.c (.int .i64 60000))), (.k (.c (.int .i64 10000))), (.k (.c (.int .i64 0))), (.k (.c (.int .i64 70000)))]), .op 79 (.move (.t 0)), .op 81 (.extract (.t 0) 0), .op 82 (.extract (.t 1) 1), .op 18 (.move (.t 1)), .op 19 (.move (.t 1))] [6, 7, 8, 9, 10, 11, 12, 13, 14, 15, 16, 17, 18, 19, 20, 1, 0])
@[simp] def c16_n20 : SCode := (.region [.op 84 (.call false (.k (.c (.func 45 [] []))) [(.k (.c (.int .i64 5)))]), .op 83 (.move (.t 0)), .op 85 (.extract (.t 0) 0), .op 86 (.extract (.t 1) 1), .op 20 (.move (.t 1)), .op 21 (.move (.t 1))] [6, 7, 8, 9, 10, 11, 12, 13, 14, 15, 16, 17, 18, 19, 20, 21, 22, 1, 0])
@[simp] def c16_n22 : SCode := (.region [.op 88 (.call false (.k (.c (.func 46 [] []))) [(.k (.c (.int .i64 5))), (.k (.c (.int .i64 1))), (.k (.c (.int .i64 4)))]), .op 87 (.move (.t 0)), .op 89 (.extract (.t 0) 0), .op 90 (.extract (.t 1) 1), .op 22 (.move (.t 1)), .op 23 (.move (.t 1))] [6, 7, 8, 9, 10, 11, 12, 13, 14, 15, 16, 17, 18, 19, 20, 21, 22, 23, 24, 1, 0])
@[simp] def c16_n24 : SCode := (.region [.op 92 (.call false (.k (.c (.func 84 [] []))) []), .op 93 (.call false (.k (.c (.func 74 [] []))) [(.t 0), (.k (.c (.int .i64 2)))]), .op 91 (.move (.t 0)), .op 94 (.extract (.t 0) 0), .op 95 (.extract (.t 1) 1), .op 24 (.move (.t 1)), .op 25 (.move (.t 1))] [7, 8, 9, 10, 11, 12, 13, 14, 15, 16, 17, 18, 19, 20, 21, 22, 23, 24, 25, 26, 27, 1, 0])
@[simp] def c16_n26 : SCode := (.region [.op 97 (.call false (.k (.c (.func 84 [] []))) []), .op 98 (.buildSlice 2 none 2 [(.c (.str []))] [(0, (.k (.c (.str [98])))), (1, (.k (.c (.str [97]))))]), .op 99 (.call false (.k (.c (.func 75 [] []))) [(.t 1), (.k (.c (.int .i64 2))), (.t 0)]), .op 96 (.move (.t 0)), .op 100 (.extract (.t 0) 0), .op 101 (.extract (.t 1) 1), .op 26 (.move (.t 1)), .op 27 (.move (.t 1))] [8, 9, 10, 11, 12, 13, 14, 15, 16, 17, 18, 19, 20, 21, 22, 23, 24, 25, 26, 27, 28, 29, 30, 1, 0])
@[simp] def c16_n28 : SCode := (.seq (.region [.op 102 (.move (.t 1)), .op 103 (.move (.t 4)), .op 104 (.bin .add (.t 1) (.t 0)), .op 105 (.move (.t 8)), .op 106 (.bin .add (.t 1) (.t 0)), .op 107 (.move (.t 12)), .op 108 (.bin .add (.t 1) (.t 0)), .op 109 (.move (.t 16)), .op 110 (.bin .add (.t 1) (.t 0)), .op 111 (.move (.t 19)), .op 112 (.bin .add (.t 1) (.t 0)), .op 113 (.move (.t 23)), .op 114 (.bin .add (.t 1) (.t 0)), .op 115 (.move (.t 27)), .op 116 (.bin .add (.t 1) (.t 0)), .op 117 (.move (.t 31)), .op 118 (.bin .add (.t 1) (.t 0)), .op 119 (.move (.t 35)), .op 120 (.bin .add (.t 1) (.t 0)), .op 121 (.move (.t 39)), .op 122 (.bin .add (.t 1) (.t 0)), .op 123 (.move (.t 43)), .op 124 (.bin .add (.t 1) (.t 0)), .op 125 (.move (.t 47)), .op 126 (.bin .add (.t 1) (.t 0)), .op 127 (.bin .neq (.t 0) (.k (.c (.int .i64 0)))), .op 128 (.move (.t 0)), .orN 133 0 [.op 129 (.move (.t 27)), .op 130 (.buildSlice 2 none 4 [(.c (.int .i64 0))] [(0, (.k (.c (.int .i64 2)))), (1, (.k (.c (.int .i64 0)))), (2, (.k (.c (.int .i64 3)))), (3, (.k (.c (.int .i64 1))))]), .op 131 (.call false (.k (.c (.func 28 [] []))) [(.t 1), (.t 0)]), .op 132 (.not (.t 0))] (.t 0), .op 134 (.move (.t 0)), .orN 138 0 [.op 135 (.move (.t 31)), .op 136 (.len 1 (.t 0)), .op 137 (.bin .neq (.t 0) (.k (.c (.int .i64 2))))] (.t 0), .op 139 (.move (.t 0)), .orN 146 0 [.op 140 (.move (.t 33)), .op 141 (.idxSlice 1 (.t 0) (.k (.c (.int .i64 1)))), .op 142 (.load none (.t 0)), .op 143 (.buildSlice 2 none 2 [(.c (.int .i64 0))] [(0, (.k (.c (.int .i64 0)))), (1, (.k (.c (.int .i64 3))))]), .op 144 (.call false (.k (.c (.func 28 [] []))) [(.t 1), (.t 0)]), .op 145 (.not (.t 0))] (.t 0), .op 147 (.move (.t 0)), .orN 152 0 [.op 148 (.move (.t 37)), .op 149 (.buildSlice 2 none 4 [(.c (.int .i64 0))] [(0, (.k (.c (.int .i64 3)))), (1, (.k (.c (.int .i64 1)))), (2, (.k (.c (.int .i64 2)))), (3, (.k (.c (.int .i64 0))))]), .op 150 (.call false (.k (.c (.func 28 [] []))) [(.t 1), (.t 0)]), .op 151 (.not (.t 0))] (.t 0), .op 153 (.move (.t 0)), .orN 156 0 [.op 154 (.move (.t 41)), .op 155 (.bin .neq (.t 0) (.k (.c (.int .i64 1))))] (.t 0), .op 157 (.move (.t 0)), .orN 160 0 [.op 158 (.move (.t 45)), .op 159 (.bin .neq (.t 0) (.k (.c (.int .i64 1))))] (.t 0), .op 161 (.move (.t 0)), .orN 164 0 [.op 162 (.move (.t 50)), .op 163 (.bin .neq (.t 0) (.k (.c (.int .i64 1))))] (.t 0), .op 165 (.move (.t 0)), .orN 169 0 [.op 166 (.move (.t 54)), .op 167 (.len 1 (.t 0)), .op 168 (.bin .neq (.t 0) (.k (.c (.int .i64 3))))] (.t 0), .op 170 (.move (.t 0)), .orN 176 0 [.op 171 (.move (.t 56)), .op 172 (.idxSlice 2 (.t 0) (.k (.c (.int .i64 1)))), .op 173 (.load (some 2) (.t 0)), .op 174 (.build [(.c (.int .i64 0)), (.c (.int .i64 0))] [(0, 1, (.k (.c (.int .i64 5000)))), (1, 1, (.k (.c (.int .i64 70000))))]), .op 175 (.eqAgg (.many [0, 0]) true (.t 1) (.t 0))] (.t 0), .op 177 (.move (.t 0)), .orN 182 0 [.op 178 (.move (.t 60)), .op 179 (.buildSlice 2 none 1 [(.c (.int .i64 0))] [(0, (.k (.c (.int .i64 2))))]), .op 180 (.call false (.k (.c (.func 28 [] []))) [(.t 1), (.t 0)]), .op 181 (.not (.t 0))] (.t 0), .op 183 (.move (.t 0)), .orN 188 0 [.op 184 (.move (.t 64)), .op 185 (.buildSlice 2 none 8 [(.c (.int .i64 0))] [(0, (.k (.c (.int .i64 1)))), (1, (.k (.c (.int .i64 0)))), (2, (.k (.c (.int .i64 4)))), (3, (.k (.c (.int .i64 5)))), (4, (.k (.c (.int .i64 2)))), (5, (.k (.c (.int .i64 0)))), (6, (.k (.c (.int .i64 3)))), (7, (.k (.c (.int .i64 0))))]), .op 186 (.call false (.k (.c (.func 28 [] []))) [(.t 1), (.t 0)]), .op 187 (.not (.t 0))] (.t 0), .op 189 (.move (.t 0)), .orN 192 0 [.op 190 (.move (.t 68)), .op 191 (.bin .neq (.t 0) (.k (.c (.int .i64 2))))] (.t 0), .op 193 (.move (.t 0)), .orN 198 0 [.op 194 (.move (.t 72)), .op 195 (.buildSlice 2 none 3 [(.c (.str []))] [(0, (.k (.c (.str [97])))), (1, (.k (.c (.str [98])))), (2, (.k (.c (.str [99]))))]), .op 196 (.call false (.k (.c (.func 82 [] []))) [(.t 1), (.t 0)]), .op 197 (.not (.t 0))] (.t 0), .op 199 (.move (.t 0)), .orN 204 0 [.op 200 (.move (.t 76)), .op 201 (.buildSlice 2 none 2 [(.c (.str []))] [(0, (.k (.c (.str [99])))), (1, (.k (.c (.str [100]))))]), .op 202 (.call false (.k (.c (.func 82 [] []))) [(.t 1), (.t 0)]), .op 203 (.not (.t 0))] (.t 0)] [0]) (.cond (.t 0) (.seq (.region [.op 0 (.move (.k (.c (.bool false))))] [0]) .ret) (.pre [] .skip)))
@[simp] def c16_n30 : SCode := (.region [.op 206 (.buildSlice 2 none 5 [(.c (.str []))] [(0, (.k (.c (.str [97])))), (1, (.k (.c (.str [98])))), (2, (.k (.c (.str [99])))), (3, (.k (.c (.str [100])))), (4, (.k (.c (.str [101]))))]), .op 207 (.call false (.k (.c (.func 50 [] []))) [(.t 0)]), .op 205 (.move (.t 0)), .op 208 (.extract (.t 0) 0), .op 209 (.extract (.t 1) 1), .op 28 (.move (.t 1)), .op 2 (.move (.t 1))] [0, 1])
@[simp] def c16_n32 : SCode := (.seq (.region [.op 210 (.move (.t 0)), .op 211 (.bin .neq (.t 0) (.k (.c (.int .i64 0)))), .op 212 (.move (.t 0)), .orN 216 0 [.op 213 (.move (.t 4)), .op 214 (.len 1 (.t 0)), .op 215 (.bin .neq (.t 0) (.k (.c (.int .i64 4))))] (.t 0), .op 217 (.move (.t 0)), .orN 223 0 [.op 218 (.move (.t 6)), .op 219 (.idxSlice 3 (.t 0) (.k (.c (.int .i64 0)))), .op 220 (.load (some 3) (.t 0)), .op 221 (.build [(.c (.str [])), (.c (.str [])), (.c (.int .i64 0))] [(0, 1, (.k (.c (.str [97])))), (2, 1, (.k (.c (.int .i64 1))))]), .op 222 (.eqAgg (.many [1, 1, 0]) true (.t 1) (.t 0))] (.t 0), .op 224 (.move (.t 0)), .orN 230 0 [.op 225 (.move (.t 8)), .op 226 (.idxSlice 3 (.t 0) (.k (.c (.int .i64 1)))), .op 227 (.load (some 3) (.t 0)), .op 228 (.build [(.c (.str [])), (.c (.str [])), (.c (.int .i64 0))] [(0, 1, (.k (.c (.str [100])))), (1, 1, (.k (.c (.str [101]))))]), .op 229 (.eqAgg (.many [1, 1, 0]) true (.t 1) (.t 0))] (.t 0)] [9, 0]) (.cond (.t 1) (.seq (.region [.op 0 (.move (.k (.c (.bool false))))] [0]) .ret) (.pre [0] .skip)))
@[simp] def c16_n34 : SCode := (.region [.op 231 (.buildSlice 0 (some 3) 0 [(.c (.str [])), (.c (.str [])), (.c (.int .i64 0))] []), .op 232 (.move (.t 1)), .op 233 (.append (some 3) 40 (.t 1) (.t 0)), .op 29 (.move (.t 0))] [0])
@[simp] def c16_n36 : SCode := (.region [.op 234 (.move (.t 0)), .op 235 (.idxSlice 3 (.t 0) (.k (.c (.int .i64 1)))), .op 236 (.fieldAddr 2 (.t 0)), .eff (.store 1 (.t 0) (.k (.c (.int .i64 2))))] [3])
@[simp] def c16_n38 : SCode := (.region [.op 238 (.move (.t 0)), .op 239 (.call false (.k (.c (.func 58 [] []))) [(.t 0)]), .op 237 (.move (.t 0)), .op 240 (.extract (.t 0) 0), .op 241 (.extract (.t 1) 1), .op 30 (.move (.t 1)), .op 4 (.move (.t 1))] [0, 7, 1])
@[simp] def c16_n40 : SCode := (.seq (.region [.op 242 (.move (.t 0)), .op 243 (.bin .neq (.t 0) (.k (.c (.int .i64 0)))), .op 244 (.move (.t 0)), .orN 248 0 [.op 245 (.move (.t 5)), .op 246 (.len 1 (.t 0)), .op 247 (.bin .neq (.t 0) (.k (.c (.int .i64 2))))] (.t 0), .op 249 (.move (.t 0)), .orN 255 0 [.op 250 (.move (.t 7)), .op 251 (.idxSlice 3 (.t 0) (.k (.c (.int .i64 0)))), .op 252 (.load (some 3) (.t 0)), .op 253 (.build [(.c (.str [])), (.c (.str [])), (.c (.int .i64 0))] [(0, 1, (.k (.c (.str [97])))), (1, 1, (.k (.c (.str [101]))))]), .op 254 (.eqAgg (.many [1, 1, 0]) true (.t 1) (.t 0))] (.t 0)] [7, 8, 0]) (.cond (.t 2) (.seq (.region [.op 0 (.move (.k (.c (.bool false))))] [0]) .ret) (.pre [0, 1] .skip)))
@[simp] def c16_n42 : SCode := (.region [.op 256 (.buildSlice 0 (some 3) 0 [(.c (.str [])), (.c (.str [])), (.c (.int .i64 0))] []), .op 257 (.move (.t 2)), .op 258 (.append (some 3) 40 (.t 1) (.t 0)), .op 31 (.move (.t 0))] [4, 0])
@[simp] def c16_n44 : SCode := (.region [.op 259 (.move (.t 1)), .op 260 (.move (.t 2)), .op 261 (.idxSlice 3 (.t 1) (.k (.c (.int .i64 0)))), .op 262 (.fieldAddr 2 (.t 0)), .eff (.store 1 (.t 0) (.k (.c (.int .i64 1)))), .op 263 (.idxSlice 3 (.t 2) (.k (.c (.int .i64 1)))), .op 264 (.fieldAddr 2 (.t 0)), .eff (.store 1 (.t 0) (.k (.c (.int .i64 2))))] [6, 7])
@[simp] def c16_n46 : SCode := (.region [.op 266 (.move (.t 1)), .op 267 (.call false (.k (.c (.func 58 [] []))) [(.t 0)]), .op 265 (.move (.t 0)), .op 268 (.extract (.t 0) 0), .op 269 (.extract (.t 1) 1), .op 32 (.move (.t 1)), .op 7 (.move (.t 1))] [0, 7, 8, 1])
@[simp] def c16_n48 : SCode := (.region [.op 271 (.move (.t 2)), .op 272 (.call false (.k (.c (.func 59 [] []))) [(.t 0)]), .op 270 (.move (.t 0)), .op 273 (.extract (.t 0) 0), .op 274 (.extract (.t 1) 1), .op 33 (.new [(.c (.str [])), (.c (.str [])), (.c (.int .i64 0))]), .eff (.store 3 (.t 0) (.t 2)), .op 9 (.move (.t 1))] [7, 0, 8, 9, 10, 1])
@[simp] def c16_n50 : SCode := (.seq (.region [.op 275 (.move (.t 0)), .op 276 (.move (.t 2)), .op 277 (.bin .add (.t 1) (.t 0)), .op 278 (.bin .neq (.t 0) (.k (.c (.int .i64 0)))), .op 279 (.move (.t 0)), .orN 283 0 [.op 280 (.move (.t 9)), .op 281 (.len 1 (.t 0)), .op 282 (.bin .neq (.t 0) (.k (.c (.int .i64 1))))] (.t 0), .op 284 (.move (.t 0)), .orN 288 0 [.op 285 (.load (some 3) (.t 12)), .op 286 (.build [(.c (.str [])), (.c (.str [])), (.c (.int .i64 0))] [(0, 1, (.k (.c (.str [101])))), (1, 1, (.k (.c (.str [98]))))]), .op 287 (.eqAgg (.many [1, 1, 0]) true (.t 1) (.t 0))] (.t 0)] [10, 11, 12, 0]) (.cond (.t 3) (.seq (.region [.op 0 (.move (.k (.c (.bool false))))] [0]) .ret) (.pre [0, 1, 2] .skip)))
@[simp] def c16_n52 : SCode := (.region [.op 289 (.buildSlice 0 (some 3) 0 [(.c (.str [])), (.c (.str [])), (.c (.int .i64 0))] []), .op 290 (.move (.t 3)), .op 291 (.append (some 3) 40 (.t 1) (.t 0)), .op 34 (.move (.t 0))] [4, 5, 0])
@[simp] def c16_n54 : SCode := (.region [.op 292 (.move (.t 2)), .op 293 (.idxSlice 3 (.t 0) (.k (.c (.int .i64 0)))), .op 294 (.fieldAddr 2 (.t 0)), .eff (.store 1 (.t 0) (.k (.c (.int .i64 2))))] [3, 4, 5])
@[simp] def c16_n56 : SCode := (.region [.op 296 (.move (.t 0)), .op 297 (.move (.t 2)), .op 298 (.move (.t 4)), .op 299 (.buildSlice 2 none 3 [.nil] [(0, (.t 2)), (1, (.t 1)), (2, (.t 0))]), .op 300 (.call false (.k (.c (.func 66 [] []))) [(.t 0)]), .op 295 (.move (.t 0)), .op 301 (.extract (.t 0) 0), .op 302 (.extract (.t 1) 1), .op 35 (.move (.t 1)), .op 11 (.move (.t 1))] [0, 1])
@[simp] def c16_n58 : SCode := (.region [.op 304 (.build [(.c (.int .i64 0)), (.c (.int .i64 0))] [(0, 1, (.k (.c (.int .i64 120)))), (1, 1, (.k (.c (.int .i64 7000))))]), .op 305 (.build [(.c (.int .i64 0)), (.c (.int .i64 0))] [(0, 1, (.k (.c (.int .i64 130)))), (1, 1, (.k (.c (.int .i64 7000))))]), .op 306 (.call false (.k (.c (.func 63 [] []))) [(.t 1), (.t 0)]), .op 303 (.move (.t 0)), .op 307 (.extract (.t 0) 0), .op 308 (.extract (.t 1) 1), .op 36 (.move (.t 1)), .op 13 (.move (.t 1))] [8, 0, 9, 1])
@[simp] def c16_n60 : SCode := (.region [.op 309 (.move (.t 0)), .op 310 (.move (.t 2)), .op 311 (.bin .add (.t 1) (.t 0)), .op 312 (.bin .eql (.t 0) (.k (.c (.int .i64 0)))), .op 313 (.move (.t 0)), .andN 317 0 [.op 314 (.move (.t 7)), .op 315 (.len 1 (.t 0)), .op 316 (.bin .eql (.t 0) (.k (.c (.int .i64 5))))] (.t 0), .op 318 (.move (.t 0)), .andN 324 0 [.op 319 (.move (.t 9)), .op 320 (.idxSlice 2 (.t 0) (.k (.c (.int .i64 0)))), .op 321 (.load (some 2) (.t 0)), .op 322 (.build [(.c (.str [])), (.c (.int .i64 0))] [(0, 1, (.k (.c (.str [99])))), (1, 1, (.k (.c (.int .i64 1))))]), .op 323 (.eqAgg (.many [1, 0]) false (.t 1) (.t 0))] (.t 0), .op 325 (.move (.t 0)), .andN 331 0 [.op 326 (.move (.t 11)), .op 327 (.idxSlice 2 (.t 0) (.k (.c (.int .i64 4)))), .op 328 (.load (some 2) (.t 0)), .op 329 (.build [(.c (.str [])), (.c (.int .i64 0))] [(0, 1, (.k (.c (.str [100])))), (1, 1, (.k (.c (.int .i64 5))))]), .op 330 (.eqAgg (.many [1, 0]) false (.t 1) (.t 0))] (.t 0), .op 332 (.move (.t 0)), .andN 335 0 [.op 333 (.move (.t 14)), .op 334 (.bin .eql (.t 0) (.k (.c (.int .i64 1))))] (.t 0), .op 0 (.move (.t 0))] [0])
def c16_n59 : SCode := .seq c16_n60 .ret
def c16_n57 : SCode := .seq c16_n58 c16_n59
def c16_n55 : SCode := .seq c16_n56 c16_n57
def c16_n53 : SCode := .seq c16_n54 c16_n55
def c16_n51 : SCode := .seq c16_n52 c16_n53
def c16_n49 : SCode := .seq c16_n50 c16_n51
def c16_n47 : SCode := .seq c16_n48 c16_n49
def c16_n45 : SCode := .seq c16_n46 c16_n47
def c16_n43 : SCode := .seq c16_n44 c16_n45
def c16_n41 : SCode := .seq c16_n42 c16_n43
def c16_n39 : SCode := .seq c16_n40 c16_n41
def c16_n37 : SCode := .seq c16_n38 c16_n39
def c16_n35 : SCode := .seq c16_n36 c16_n37
def c16_n33 : SCode := .seq c16_n34 c16_n35
def c16_n31 : SCode := .seq c16_n32 c16_n33
def c16_n29 : SCode := .seq c16_n30 c16_n31
def c16_n27 : SCode := .seq c16_n28 c16_n29
def c16_n25 : SCode := .seq c16_n26 c16_n27
def c16_n23 : SCode := .seq c16_n24 c16_n25
def c16_n21 : SCode := .seq c16_n22 c16_n23
def c16_n19 : SCode := .seq c16_n20 c16_n21
def c16_n17 : SCode := .seq c16_n18 c16_n19
def c16_n15 : SCode := .seq c16_n16 c16_n17
def c16_n13 : SCode := .seq c16_n14 c16_n15
def c16_n11 : SCode := .seq c16_n12 c16_n13
def c16_n9 : SCode := .seq c16_n10 c16_n11
def c16_n7 : SCode := .seq c16_n8 c16_n9
def c16_n5 : SCode := .seq c16_n6 c16_n7
def c16_n3 : SCode := .seq c16_n4 c16_n5
def c16_n1 : SCode := .seq c16_n2 c16_n3
def c16 : SCode := (.seq (.region [.op 0 (.move (.k (.c (.bool false))))] []) c16_n1)
def F16 : SFunc := .code .pure 336 0 [some 0] [.tmp 0] c16
end LM.G6
