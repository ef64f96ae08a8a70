/- Part 5 of what YtmhdmbfiiodeoaaGreatNations leans on. -/
import Derived.Test.YtmhdmbfiiodeoaaGreatNationsL1
import Derived.Test.YtmhdmbfiiodeoaaGreatNationsL2
import Derived.Test.YtmhdmbfiiodeoaaGreatNationsL3
import Derived.Test.YtmhdmbfiiodeoaaGreatNations1
set_option linter.all false
namespace LM.G6
open Go LM
def table0 : List (Nat × SFunc) := [(4, F4), (15, F15), (17, F17), (18, F18), (19, F19), (20, F20), (21, F21), (23, F23), (25, F25), (28, F28), (29, F29), (30, F30), (31, F31), (32, F32), (33, F33), (34, F34), (35, F35), (36, F36), (37, F37), (38, F38), (39, F39), (40, F40), (45, F45), (46, F46), (50, F50), (57, F57), (58, F58), (59, F59), (63, F63), (64, F64), (73, F73), (74, F74), (75, F75), (82, F82), (83, F83), (84, F84), (85, F85), (86, F86), (87, F87), (88, F88), (89, F89), (90, F90), (91, F91), (92, F92), (93, F93), (94, F94), (95, F95), (96, F96), (100, F100), (101, F101), (102, F102), (103, F103), (104, F104), (105, F105), (106, F106), (107, F107), (108, F108), (109, F109), (110, F110), (111, F111), (112, F112), (113, F113), (114, F114), (117, F117), (118, F118), (119, F119), (120, F120), (121, F121), (124, F124), (125, F125), (126, F126), (127, F127), (128, F128), (131, F131), (132, F132), (133, F133), (134, F134), (135, F135), (136, F136), (137, .fprim 1 (cloneP (some 3) 56)), (138, F138), (140, F140), (141, F141), (142, F142), (143, F143), (144, .fprim 1 (cloneP none 8)), (145, F145), (146, F146), (147, F147), (148, F148), (149, F149), (150, F150), (151, F151), (152, F152), (153, F153), (154, F154), (157, F157), (158, F158), (159, F159), (160, F160), (161, F161), (162, F162), (163, F163), (164, F164), (165, F165), (166, F166), (167, F167), (168, F168), (169, F169), (170, F170), (171, F171), (172, F172), (173, F173), (174, F174), (175, F175), (176, F176), (177, F177)]
/-- A program with these functions. -/
class Has (P : Nat → Option SFunc) : Prop where
  h : ∀ f F, lookupPrim f table0 = some F → P f = some F
variable {P : Nat → Option SFunc} [Has P]
theorem p4 : P 4 = some F4 := Has.h 4 F4 rfl
theorem u4 : CodeEq P 4 [.tmp 0] c4 := fn_code p4
@[simp] theorem call4 : CallP P 4 := callS_pure p4
theorem p15 : P 15 = some F15 := Has.h 15 F15 rfl
theorem u15 : CodeEq P 15 [.tmp 0] c15 := fn_code p15
@[simp] theorem call15 : CallP P 15 := callS_pure p15
theorem r15_l0 : LoopT P c15_l0 c15_l0b := execS_loop true c15_l0b
theorem p17 : P 17 = some F17 := Has.h 17 F17 rfl
theorem u17 : CodeEq P 17 [.tmp 0] c17 := fn_code p17
@[simp] theorem call17 : CallP P 17 := callS_pure p17
theorem r17_l0 : LoopT P c17_l0 c17_l0b := execS_loop true c17_l0b
theorem p18 : P 18 = some F18 := Has.h 18 F18 rfl
theorem u18 : CodeEq P 18 [.tmp 0] c18 := fn_code p18
@[simp] theorem call18 : CallP P 18 := callS_pure p18
theorem r18_l0 : LoopT P c18_l0 c18_l0b := execS_loop true c18_l0b
theorem r18_l1 : LoopT P c18_l1 c18_l1b := execS_loop true c18_l1b
theorem p19 : P 19 = some F19 := Has.h 19 F19 rfl
theorem u19 : CodeEq P 19 [.tmp 0] c19 := fn_code p19
@[simp] theorem call19 : CallP P 19 := callS_pure p19
theorem r19_l0 : LoopT P c19_l0 c19_l0b := execS_loop true c19_l0b
theorem p20 : P 20 = some F20 := Has.h 20 F20 rfl
theorem u20 : CodeEq P 20 [.tmp 0, .tmp 1] c20 := fn_code p20
@[simp] theorem call20 : CallP P 20 := callS_pure p20
theorem p21 : P 21 = some F21 := Has.h 21 F21 rfl
theorem u21 : CodeEq P 21 [.tmp 0, .tmp 1] c21 := fn_code p21
@[simp] theorem call21 : CallP P 21 := callS_pure p21
theorem r21_l0 : LoopT P c21_l0 c21_l0b := execS_loop true c21_l0b
theorem p23 : P 23 = some F23 := Has.h 23 F23 rfl
theorem u23 : CodeEq P 23 [.tmp 0] c23 := fn_code p23
@[simp] theorem call23 : CallP P 23 := callS_pure p23
theorem p25 : P 25 = some F25 := Has.h 25 F25 rfl
theorem u25 : CodeEq P 25 [.tmp 0] c25 := fn_code p25
@[simp] theorem call25 : CallP P 25 := callS_pure p25
theorem p28 : P 28 = some F28 := Has.h 28 F28 rfl
theorem u28 : CodeEq P 28 [.tmp 0] c28 := fn_code p28
@[simp] theorem call28 : CallP P 28 := callS_pure p28
theorem r28_l0 : LoopT P c28_l0 c28_l0b := execS_loop true c28_l0b
theorem p29 : P 29 = some F29 := Has.h 29 F29 rfl
theorem u29 : CodeEq P 29 [.tmp 0, .tmp 1, .tmp 2] c29 := fn_code p29
@[simp] theorem call29 : CallP P 29 := callS_pure p29
theorem r29_l0 : LoopT P c29_l0 c29_l0b := execS_loop true c29_l0b
theorem p30 : P 30 = some F30 := Has.h 30 F30 rfl
theorem u30 : CodeEq P 30 [.tmp 0] c30 := fn_code p30
@[simp] theorem call30 : CallP P 30 := callS_pure p30
theorem r30_l0 : LoopT P c30_l0 c30_l0b := execS_loop true c30_l0b
theorem r30_l1 : LoopT P c30_l1 c30_l1b := execS_loop true c30_l1b
theorem p31 : P 31 = some F31 := Has.h 31 F31 rfl
theorem u31 : CodeEq P 31 [.tmp 0] c31 := fn_code p31
@[simp] theorem call31 : CallP P 31 := callS_pure p31
theorem p32 : P 32 = some F32 := Has.h 32 F32 rfl
theorem u32 : CodeEq P 32 [.tmp 0, .tmp 1] c32 := fn_code p32
@[simp] theorem call32 : CallP P 32 := callS_pure p32
theorem r32_l0 : LoopT P c32_l0 c32_l0b := execS_loop true c32_l0b
theorem r32_l1 : LoopT P c32_l1 c32_l1b := execS_loop true c32_l1b
theorem p33 : P 33 = some F33 := Has.h 33 F33 rfl
theorem u33 : CodeEq P 33 [.tmp 0, .tmp 1] c33 := fn_code p33
@[simp] theorem call33 : CallP P 33 := callS_pure p33
theorem p34 : P 34 = some F34 := Has.h 34 F34 rfl
theorem u34 : CodeEq P 34 [.tmp 0, .tmp 1] c34 := fn_code p34
@[simp] theorem call34 : CallP P 34 := callS_pure p34
theorem r34_l0 : LoopT P c34_l0 c34_l0b := execS_loop true c34_l0b
theorem r34_l1 : LoopT P c34_l1 c34_l1b := execS_loop true c34_l1b
theorem r34_l2 : LoopT P c34_l2 c34_l2b := execS_loop true c34_l2b
theorem p35 : P 35 = some F35 := Has.h 35 F35 rfl
theorem u35 : CodeEq P 35 [.tmp 0] c35 := fn_code p35
@[simp] theorem call35 : CallP P 35 := callS_pure p35
theorem p36 : P 36 = some F36 := Has.h 36 F36 rfl
theorem u36 : CodeEq P 36 [.tmp 0] c36 := fn_code p36
@[simp] theorem call36 : CallP P 36 := callS_pure p36
theorem r36_l0 : LoopT P c36_l0 c36_l0b := execS_loop true c36_l0b
theorem r36_l1 : LoopT P c36_l1 c36_l1b := execS_loop true c36_l1b
theorem p37 : P 37 = some F37 := Has.h 37 F37 rfl
theorem u37 : CodeEq P 37 [.tmp 0] c37 := fn_code p37
@[simp] theorem call37 : CallP P 37 := callS_pure p37
theorem r37_l0 : LoopT P c37_l0 c37_l0b := execS_loop true c37_l0b
theorem p38 : P 38 = some F38 := Has.h 38 F38 rfl
theorem u38 : CodeEq P 38 [.tmp 0] c38 := fn_code p38
@[simp] theorem call38 : CallP P 38 := callS_pure p38
theorem r38_l0 : LoopT P c38_l0 c38_l0b := execS_loop true c38_l0b
theorem p39 : P 39 = some F39 := Has.h 39 F39 rfl
theorem u39 : CodeEq P 39 [.tmp 0, .tmp 1] c39 := fn_code p39
@[simp] theorem call39 : CallP P 39 := callS_pure p39
theorem r39_l0 : LoopT P c39_l0 c39_l0b := execS_loop true c39_l0b
theorem p40 : P 40 = some F40 := Has.h 40 F40 rfl
theorem u40 : CodeEq P 40 [.tmp 0, .tmp 1] c40 := fn_code p40
@[simp] theorem call40 : CallP P 40 := callS_pure p40
theorem r40_l0 : LoopT P c40_l0 c40_l0b := execS_loop true c40_l0b
theorem p45 : P 45 = some F45 := Has.h 45 F45 rfl
theorem u45 : CodeEq P 45 [.tmp 0, .tmp 1] c45 := fn_code p45
@[simp] theorem call45 : CallP P 45 := callS_pure p45
theorem p46 : P 46 = some F46 := Has.h 46 F46 rfl
theorem u46 : CodeEq P 46 [.tmp 0, .tmp 1] c46 := fn_code p46
@[simp] theorem call46 : CallP P 46 := callS_pure p46
theorem p50 : P 50 = some F50 := Has.h 50 F50 rfl
theorem u50 : CodeEq P 50 [.tmp 0, .tmp 1] c50 := fn_code p50
@[simp] theorem call50 : CallP P 50 := callS_pure p50
theorem r50_l0 : LoopT P c50_l0 c50_l0b := execS_loop true c50_l0b
theorem r50_l1 : LoopT P c50_l1 c50_l1b := execS_loop true c50_l1b
theorem p57 : P 57 = some F57 := Has.h 57 F57 rfl
theorem u57 : CodeEq P 57 [.tmp 0] c57 := fn_code p57
@[simp] theorem call57 : CallP P 57 := callS_pure p57
theorem r57_l0 : LoopT P c57_l0 c57_l0b := execS_loop true c57_l0b
theorem p58 : P 58 = some F58 := Has.h 58 F58 rfl
theorem u58 : CodeEq P 58 [.tmp 0, .tmp 1] c58 := fn_code p58
@[simp] theorem call58 : CallP P 58 := callS_pure p58
theorem p59 : P 59 = some F59 := Has.h 59 F59 rfl
theorem u59 : CodeEq P 59 [.cell 0 (some 3), .tmp 1] c59 := fn_code p59
@[simp] theorem call59 : CallP P 59 := callS_pure p59
theorem p63 : P 63 = some F63 := Has.h 63 F63 rfl
theorem u63 : CodeEq P 63 [.tmp 0, .tmp 1] c63 := fn_code p63
@[simp] theorem call63 : CallP P 63 := callS_pure p63
theorem p64 : P 64 = some F64 := Has.h 64 F64 rfl
theorem u64 : CodeEq P 64 [.tmp 0] c64 := fn_code p64
@[simp] theorem call64 : CallP P 64 := callS_pure p64
theorem p73 : P 73 = some F73 := Has.h 73 F73 rfl
theorem u73 : CodeEq P 73 [.tmp 0] c73 := fn_code p73
@[simp] theorem call73 : CallP P 73 := callS_pure p73
theorem r73_l0 : LoopT P c73_l0 c73_l0b := execS_loop true c73_l0b
theorem p74 : P 74 = some F74 := Has.h 74 F74 rfl
theorem u74 : CodeEq P 74 [.tmp 0, .tmp 1] c74 := fn_code p74
@[simp] theorem call74 : CallP P 74 := callS_pure p74
theorem p75 : P 75 = some F75 := Has.h 75 F75 rfl
theorem u75 : CodeEq P 75 [.tmp 0, .tmp 1] c75 := fn_code p75
@[simp] theorem call75 : CallP P 75 := callS_pure p75
theorem r75_l0 : LoopT P c75_l0 c75_l0b := execS_loop true c75_l0b
theorem p82 : P 82 = some F82 := Has.h 82 F82 rfl
theorem u82 : CodeEq P 82 [.tmp 0] c82 := fn_code p82
@[simp] theorem call82 : CallP P 82 := callS_pure p82
theorem r82_l0 : LoopT P c82_l0 c82_l0b := execS_loop true c82_l0b
theorem p83 : P 83 = some F83 := Has.h 83 F83 rfl
theorem u83 : CodeEq P 83 [.tmp 0] c83 := fn_code p83
@[simp] theorem call83 : CallP P 83 := callS_pure p83
theorem p84 : P 84 = some F84 := Has.h 84 F84 rfl
theorem u84 : CodeEq P 84 [.tmp 0] c84 := fn_code p84
@[simp] theorem call84 : CallP P 84 := callS_pure p84
theorem p85 : P 85 = some F85 := Has.h 85 F85 rfl
theorem u85 : CodeEq P 85 [.tmp 0] c85 := fn_code p85
@[simp] theorem call85 : CallP P 85 := callS_pure p85
theorem r85_l0 : LoopT P c85_l0 c85_l0b := execS_loop true c85_l0b
theorem p86 : P 86 = some F86 := Has.h 86 F86 rfl
theorem u86 : CodeEq P 86 [.tmp 0] c86 := fn_code p86
@[simp] theorem call86 : CallP P 86 := callS_pure p86
theorem p87 : P 87 = some F87 := Has.h 87 F87 rfl
theorem u87 : CodeEq P 87 [.tmp 0] c87 := fn_code p87
@[simp] theorem call87 : CallP P 87 := callS_pure p87
theorem p88 : P 88 = some F88 := Has.h 88 F88 rfl
theorem u88 : CodeEq P 88 [.tmp 0] c88 := fn_code p88
@[simp] theorem call88 : CallP P 88 := callS_pure p88
theorem r88_l0 : LoopT P c88_l0 c88_l0b := execS_loop true c88_l0b
theorem p89 : P 89 = some F89 := Has.h 89 F89 rfl
theorem u89 : CodeEq P 89 [.tmp 0] c89 := fn_code p89
@[simp] theorem call89 : CallP P 89 := callS_pure p89
theorem p90 : P 90 = some F90 := Has.h 90 F90 rfl
theorem u90 : CodeEq P 90 [.tmp 0] c90 := fn_code p90
@[simp] theorem call90 : CallP P 90 := callS_pure p90
theorem r90_l0 : LoopT P c90_l0 c90_l0b := execS_loop true c90_l0b
theorem p91 : P 91 = some F91 := Has.h 91 F91 rfl
theorem u91 : CodeEq P 91 [.tmp 0] c91 := fn_code p91
@[simp] theorem call91 : CallP P 91 := callS_pure p91
theorem p92 : P 92 = some F92 := Has.h 92 F92 rfl
theorem u92 (args : List CV) : ffn P 92 args = resF [.tmp 0, .tmp 1] (execS P (limS P) c92 ⟨args.map .c, []⟩) := ffn_code p92 args
@[simp] theorem call92 (pos : Option Nat) (q : Bool) (args : List LV) (h : Heap) : callS P (limS P) pos q 92 args h = if q && pos.isNone then none else bnd (frzArgs q args h) fun a => bnd (ffn P 92 a.1) fun v => importB pos 2 v.1 v.2 a.2 := callS_fresh p92 pos q args h
theorem r92_l0 : LoopT P c92_l0 c92_l0b := execS_loop true c92_l0b
theorem r92_l1 : LoopT P c92_l1 c92_l1b := execS_loop true c92_l1b
theorem p93 : P 93 = some F93 := Has.h 93 F93 rfl
theorem u93 : CodeEq P 93 [.tmp 0] c93 := fn_code p93
@[simp] theorem call93 : CallP P 93 := callS_pure p93
theorem p94 : P 94 = some F94 := Has.h 94 F94 rfl
theorem u94 (args : List LV) (h : Heap) : sfn P 94 args h = resF [] (execS P (limS P) c94 ⟨args, h⟩) := sfn_code p94 args h
@[simp] theorem call94 (pos : Option Nat) (q : Bool) (args : List LV) (h : Heap) : callS P (limS P) pos q 94 args h = if q then none else bnd (frzFuncs args h) fun a => sfn P 94 a.1 a.2 := callS_shared p94 pos q args h
theorem p95 : P 95 = some F95 := Has.h 95 F95 rfl
theorem u95 : CodeEq P 95 [.tmp 0] c95 := fn_code p95
@[simp] theorem call95 : CallP P 95 := callS_pure p95
theorem p96 : P 96 = some F96 := Has.h 96 F96 rfl
theorem u96 : CodeEq P 96 [.tmp 0] c96 := fn_code p96
@[simp] theorem call96 : CallP P 96 := callS_pure p96
theorem p100 : P 100 = some F100 := Has.h 100 F100 rfl
theorem u100 : CodeEq P 100 [.tmp 0] c100 := fn_code p100
@[simp] theorem call100 : CallP P 100 := callS_pure p100
theorem p101 : P 101 = some F101 := Has.h 101 F101 rfl
theorem u101 : CodeEq P 101 [.tmp 0] c101 := fn_code p101
@[simp] theorem call101 : CallP P 101 := callS_pure p101
theorem p102 : P 102 = some F102 := Has.h 102 F102 rfl
theorem u102 : CodeEq P 102 [.tmp 0, .tmp 1] c102 := fn_code p102
@[simp] theorem call102 : CallP P 102 := callS_pure p102
theorem r102_l0 : LoopT P c102_l0 c102_l0b := execS_loop true c102_l0b
theorem p103 : P 103 = some F103 := Has.h 103 F103 rfl
theorem u103 : CodeEq P 103 [.tmp 0] c103 := fn_code p103
@[simp] theorem call103 : CallP P 103 := callS_pure p103
theorem p104 : P 104 = some F104 := Has.h 104 F104 rfl
theorem u104 : CodeEq P 104 [.tmp 0] c104 := fn_code p104
@[simp] theorem call104 : CallP P 104 := callS_pure p104
theorem r104_l0 : LoopT P c104_l0 c104_l0b := execS_loop true c104_l0b
theorem p105 : P 105 = some F105 := Has.h 105 F105 rfl
theorem u105 : CodeEq P 105 [.tmp 0] c105 := fn_code p105
@[simp] theorem call105 : CallP P 105 := callS_pure p105
theorem p106 : P 106 = some F106 := Has.h 106 F106 rfl
theorem u106 : CodeEq P 106 [.tmp 0] c106 := fn_code p106
@[simp] theorem call106 : CallP P 106 := callS_pure p106
theorem p107 : P 107 = some F107 := Has.h 107 F107 rfl
theorem u107 : CodeEq P 107 [.tmp 0] c107 := fn_code p107
@[simp] theorem call107 : CallP P 107 := callS_pure p107
theorem p108 : P 108 = some F108 := Has.h 108 F108 rfl
theorem u108 (args : List LV) (h : Heap) : sfn P 108 args h = resF [.tmp 0] (execS P (limS P) c108 ⟨args, h⟩) := sfn_code p108 args h
@[simp] theorem call108 (pos : Option Nat) (q : Bool) (args : List LV) (h : Heap) : callS P (limS P) pos q 108 args h = if q then none else bnd (frzFuncs args h) fun a => sfn P 108 a.1 a.2 := callS_shared p108 pos q args h
theorem p109 : P 109 = some F109 := Has.h 109 F109 rfl
theorem u109 : CodeEq P 109 [.tmp 0] c109 := fn_code p109
@[simp] theorem call109 : CallP P 109 := callS_pure p109
theorem p110 : P 110 = some F110 := Has.h 110 F110 rfl
theorem u110 : CodeEq P 110 [.tmp 0] c110 := fn_code p110
@[simp] theorem call110 : CallP P 110 := callS_pure p110
theorem r110_l0 : LoopT P c110_l0 c110_l0b := execS_loop true c110_l0b
theorem r110_l1 : LoopF P c110_l1 c110_l1b := execS_loop false c110_l1b
theorem r110_l2 : LoopT P c110_l2 c110_l2b := execS_loop true c110_l2b
theorem p111 : P 111 = some F111 := Has.h 111 F111 rfl
theorem u111 : CodeEq P 111 [.tmp 0] c111 := fn_code p111
@[simp] theorem call111 : CallP P 111 := callS_pure p111
theorem p112 : P 112 = some F112 := Has.h 112 F112 rfl
theorem u112 : CodeEq P 112 [.tmp 0] c112 := fn_code p112
@[simp] theorem call112 : CallP P 112 := callS_pure p112
theorem r112_l0 : LoopT P c112_l0 c112_l0b := execS_loop true c112_l0b
theorem p113 : P 113 = some F113 := Has.h 113 F113 rfl
theorem u113 : CodeEq P 113 [.tmp 0] c113 := fn_code p113
@[simp] theorem call113 : CallP P 113 := callS_pure p113
theorem p114 : P 114 = some F114 := Has.h 114 F114 rfl
theorem u114 : CodeEq P 114 [.tmp 0] c114 := fn_code p114
@[simp] theorem call114 : CallP P 114 := callS_pure p114
theorem r114_l0 : LoopT P c114_l0 c114_l0b := execS_loop true c114_l0b
theorem p117 : P 117 = some F117 := Has.h 117 F117 rfl
theorem u117 : CodeEq P 117 [.tmp 0] c117 := fn_code p117
@[simp] theorem call117 : CallP P 117 := callS_pure p117
theorem p118 : P 118 = some F118 := Has.h 118 F118 rfl
theorem u118 : CodeEq P 118 [.cell 0 (some 3)] c118 := fn_code p118
@[simp] theorem call118 : CallP P 118 := callS_pure p118
theorem p119 : P 119 = some F119 := Has.h 119 F119 rfl
theorem u119 : CodeEq P 119 [.tmp 0] c119 := fn_code p119
@[simp] theorem call119 : CallP P 119 := callS_pure p119
theorem p120 : P 120 = some F120 := Has.h 120 F120 rfl
theorem u120 : CodeEq P 120 [.tmp 0] c120 := fn_code p120
@[simp] theorem call120 : CallP P 120 := callS_pure p120
theorem r120_l0 : LoopT P c120_l0 c120_l0b := execS_loop true c120_l0b
theorem p121 : P 121 = some F121 := Has.h 121 F121 rfl
theorem u121 : CodeEq P 121 [.tmp 0] c121 := fn_code p121
@[simp] theorem call121 : CallP P 121 := callS_pure p121
theorem p124 : P 124 = some F124 := Has.h 124 F124 rfl
theorem u124 : CodeEq P 124 [.tmp 0] c124 := fn_code p124
@[simp] theorem call124 : CallP P 124 := callS_pure p124
theorem p125 : P 125 = some F125 := Has.h 125 F125 rfl
theorem u125 : CodeEq P 125 [.tmp 0] c125 := fn_code p125
@[simp] theorem call125 : CallP P 125 := callS_pure p125
theorem r125_l0 : LoopT P c125_l0 c125_l0b := execS_loop true c125_l0b
theorem r125_l1 : LoopT P c125_l1 c125_l1b := execS_loop true c125_l1b
theorem p126 : P 126 = some F126 := Has.h 126 F126 rfl
theorem u126 : CodeEq P 126 [.tmp 0] c126 := fn_code p126
@[simp] theorem call126 : CallP P 126 := callS_pure p126
theorem p127 : P 127 = some F127 := Has.h 127 F127 rfl
theorem u127 : CodeEq P 127 [.tmp 0] c127 := fn_code p127
@[simp] theorem call127 : CallP P 127 := callS_pure p127
theorem p128 : P 128 = some F128 := Has.h 128 F128 rfl
theorem u128 : CodeEq P 128 [.tmp 0] c128 := fn_code p128
@[simp] theorem call128 : CallP P 128 := callS_pure p128
theorem p131 : P 131 = some F131 := Has.h 131 F131 rfl
theorem u131 : CodeEq P 131 [.tmp 0] c131 := fn_code p131
@[simp] theorem call131 : CallP P 131 := callS_pure p131
theorem p132 : P 132 = some F132 := Has.h 132 F132 rfl
theorem u132 : CodeEq P 132 [.tmp 0] c132 := fn_code p132
@[simp] theorem call132 : CallP P 132 := callS_pure p132
theorem p133 : P 133 = some F133 := Has.h 133 F133 rfl
theorem u133 : CodeEq P 133 [.tmp 0] c133 := fn_code p133
@[simp] theorem call133 : CallP P 133 := callS_pure p133
theorem r133_l0 : LoopT P c133_l0 c133_l0b := execS_loop true c133_l0b
theorem p134 : P 134 = some F134 := Has.h 134 F134 rfl
theorem u134 : CodeEq P 134 [.tmp 0] c134 := fn_code p134
@[simp] theorem call134 : CallP P 134 := callS_pure p134
theorem p135 : P 135 = some F135 := Has.h 135 F135 rfl
theorem u135 : CodeEq P 135 [.tmp 0] c135 := fn_code p135
@[simp] theorem call135 : CallP P 135 := callS_pure p135
theorem p136 : P 136 = some F136 := Has.h 136 F136 rfl
theorem u136 (args : List LV) (h : Heap) : sfn P 136 args h = resF [.tmp 0] (execS P (limS P) c136 ⟨args, h⟩) := sfn_code p136 args h
@[simp] theorem call136 (pos : Option Nat) (q : Bool) (args : List LV) (h : Heap) : callS P (limS P) pos q 136 args h = if q then none else bnd (frzFuncs args h) fun a => sfn P 136 a.1 a.2 := callS_shared p136 pos q args h
theorem r136_l0 : LoopT P c136_l0 c136_l0b := execS_loop true c136_l0b
theorem p138 : P 138 = some F138 := Has.h 138 F138 rfl
theorem u138 : CodeEq P 138 [.tmp 0] c138 := fn_code p138
@[simp] theorem call138 : CallP P 138 := callS_pure p138
theorem p140 : P 140 = some F140 := Has.h 140 F140 rfl
theorem u140 : CodeEq P 140 [.tmp 0] c140 := fn_code p140
@[simp] theorem call140 : CallP P 140 := callS_pure p140
theorem r140_l0 : LoopT P c140_l0 c140_l0b := execS_loop true c140_l0b
theorem p141 : P 141 = some F141 := Has.h 141 F141 rfl
theorem u141 : CodeEq P 141 [.tmp 0] c141 := fn_code p141
@[simp] theorem call141 : CallP P 141 := callS_pure p141
theorem p142 : P 142 = some F142 := Has.h 142 F142 rfl
theorem u142 (args : List LV) (h : Heap) : sfn P 142 args h = resF [] (execS P (limS P) c142 ⟨args, h⟩) := sfn_code p142 args h
@[simp] theorem call142 (pos : Option Nat) (q : Bool) (args : List LV) (h : Heap) : callS P (limS P) pos q 142 args h = if q then none else bnd (frzFuncs args h) fun a => sfn P 142 a.1 a.2 := callS_shared p142 pos q args h
theorem r142_l0 : LoopT P c142_l0 c142_l0b := execS_loop true c142_l0b
theorem r142_l1 : LoopT P c142_l1 c142_l1b := execS_loop true c142_l1b
theorem r142_l2 : LoopT P c142_l2 c142_l2b := execS_loop true c142_l2b
theorem p143 : P 143 = some F143 := Has.h 143 F143 rfl
theorem u143 : CodeEq P 143 [.tmp 0] c143 := fn_code p143
@[simp] theorem call143 : CallP P 143 := callS_pure p143
theorem p145 : P 145 = some F145 := Has.h 145 F145 rfl
theorem u145 : CodeEq P 145 [.tmp 0] c145 := fn_code p145
@[simp] theorem call145 : CallP P 145 := callS_pure p145
theorem p146 : P 146 = some F146 := Has.h 146 F146 rfl
theorem u146 : CodeEq P 146 [.tmp 0] c146 := fn_code p146
@[simp] theorem call146 : CallP P 146 := callS_pure p146
theorem p147 : P 147 = some F147 := Has.h 147 F147 rfl
theorem u147 : CodeEq P 147 [.tmp 0] c147 := fn_code p147
@[simp] theorem call147 : CallP P 147 := callS_pure p147
theorem p148 : P 148 = some F148 := Has.h 148 F148 rfl
theorem u148 : CodeEq P 148 [.tmp 0] c148 := fn_code p148
@[simp] theorem call148 : CallP P 148 := callS_pure p148
theorem r148_l0 : LoopT P c148_l0 c148_l0b := execS_loop true c148_l0b
theorem p149 : P 149 = some F149 := Has.h 149 F149 rfl
theorem u149 : CodeEq P 149 [.tmp 0] c149 := fn_code p149
@[simp] theorem call149 : CallP P 149 := callS_pure p149
theorem p150 : P 150 = some F150 := Has.h 150 F150 rfl
theorem u150 : CodeEq P 150 [.tmp 0] c150 := fn_code p150
@[simp] theorem call150 : CallP P 150 := callS_pure p150
theorem p151 : P 151 = some F151 := Has.h 151 F151 rfl
theorem u151 : CodeEq P 151 [.tmp 0] c151 := fn_code p151
@[simp] theorem call151 : CallP P 151 := callS_pure p151
theorem p152 : P 152 = some F152 := Has.h 152 F152 rfl
theorem u152 : CodeEq P 152 [.tmp 0] c152 := fn_code p152
@[simp] theorem call152 : CallP P 152 := callS_pure p152
theorem p153 : P 153 = some F153 := Has.h 153 F153 rfl
theorem u153 : CodeEq P 153 [.tmp 0] c153 := fn_code p153
@[simp] theorem call153 : CallP P 153 := callS_pure p153
theorem r153_l0 : LoopT P c153_l0 c153_l0b := execS_loop true c153_l0b
theorem p154 : P 154 = some F154 := Has.h 154 F154 rfl
theorem u154 : CodeEq P 154 [.tmp 0] c154 := fn_code p154
@[simp] theorem call154 : CallP P 154 := callS_pure p154
theorem r154_l0 : LoopT P c154_l0 c154_l0b := execS_loop true c154_l0b
theorem p157 : P 157 = some F157 := Has.h 157 F157 rfl
theorem u157 : CodeEq P 157 [.tmp 0] c157 := fn_code p157
@[simp] theorem call157 : CallP P 157 := callS_pure p157
theorem p158 : P 158 = some F158 := Has.h 158 F158 rfl
theorem u158 : CodeEq P 158 [.tmp 0] c158 := fn_code p158
@[simp] theorem call158 : CallP P 158 := callS_pure p158
theorem p159 : P 159 = some F159 := Has.h 159 F159 rfl
theorem u159 : CodeEq P 159 [.tmp 0] c159 := fn_code p159
@[simp] theorem call159 : CallP P 159 := callS_pure p159
theorem p160 : P 160 = some F160 := Has.h 160 F160 rfl
theorem u160 (args : List LV) (h : Heap) : sfn P 160 args h = resF [.tmp 0] (execS P (limS P) c160 ⟨args, h⟩) := sfn_code p160 args h
@[simp] theorem call160 (pos : Option Nat) (q : Bool) (args : List LV) (h : Heap) : callS P (limS P) pos q 160 args h = if q then none else bnd (frzFuncs args h) fun a => sfn P 160 a.1 a.2 := callS_shared p160 pos q args h
theorem r160_l0 : LoopT P c160_l0 c160_l0b := execS_loop true c160_l0b
theorem p161 : P 161 = some F161 := Has.h 161 F161 rfl
theorem u161 : CodeEq P 161 [.tmp 0] c161 := fn_code p161
@[simp] theorem call161 : CallP P 161 := callS_pure p161
theorem p162 : P 162 = some F162 := Has.h 162 F162 rfl
theorem u162 : CodeEq P 162 [.tmp 0] c162 := fn_code p162
@[simp] theorem call162 : CallP P 162 := callS_pure p162
theorem p163 : P 163 = some F163 := Has.h 163 F163 rfl
theorem u163 (args : List LV) (h : Heap) : sfn P 163 args h = resF [] (execS P (limS P) c163 ⟨args, h⟩) := sfn_code p163 args h
@[simp] theorem call163 (pos : Option Nat) (q : Bool) (args : List LV) (h : Heap) : callS P (limS P) pos q 163 args h = if q then none else bnd (frzFuncs args h) fun a => sfn P 163 a.1 a.2 := callS_shared p163 pos q args h
theorem p164 : P 164 = some F164 := Has.h 164 F164 rfl
theorem u164 : CodeEq P 164 [.tmp 0] c164 := fn_code p164
@[simp] theorem call164 : CallP P 164 := callS_pure p164
theorem p165 : P 165 = some F165 := Has.h 165 F165 rfl
theorem u165 : CodeEq P 165 [.tmp 0] c165 := fn_code p165
@[simp] theorem call165 : CallP P 165 := callS_pure p165
theorem r165_l0 : LoopT P c165_l0 c165_l0b := execS_loop true c165_l0b
theorem p166 : P 166 = some F166 := Has.h 166 F166 rfl
theorem u166 : CodeEq P 166 [.tmp 0] c166 := fn_code p166
@[simp] theorem call166 : CallP P 166 := callS_pure p166
theorem r166_l0 : LoopT P c166_l0 c166_l0b := execS_loop true c166_l0b
theorem p167 : P 167 = some F167 := Has.h 167 F167 rfl
theorem u167 (args : List LV) (h : Heap) : sfn P 167 args h = resF [] (execS P (limS P) c167 ⟨args, h⟩) := sfn_code p167 args h
@[simp] theorem call167 (pos : Option Nat) (q : Bool) (args : List LV) (h : Heap) : callS P (limS P) pos q 167 args h = if q then none else bnd (frzFuncs args h) fun a => sfn P 167 a.1 a.2 := callS_shared p167 pos q args h
theorem r167_l0 : LoopT P c167_l0 c167_l0b := execS_loop true c167_l0b
theorem r167_l1 : LoopT P c167_l1 c167_l1b := execS_loop true c167_l1b
theorem p168 : P 168 = some F168 := Has.h 168 F168 rfl
theorem u168 (args : List LV) (h : Heap) : sfn P 168 args h = resF [] (execS P (limS P) c168 ⟨args, h⟩) := sfn_code p168 args h
@[simp] theorem call168 (pos : Option Nat) (q : Bool) (args : List LV) (h : Heap) : callS P (limS P) pos q 168 args h = if q then none else bnd (frzFuncs args h) fun a => sfn P 168 a.1 a.2 := callS_shared p168 pos q args h
theorem r168_l0 : LoopT P c168_l0 c168_l0b := execS_loop true c168_l0b
theorem r168_l1 : LoopT P c168_l1 c168_l1b := execS_loop true c168_l1b
theorem r168_l2 : LoopT P c168_l2 c168_l2b := execS_loop true c168_l2b
theorem r168_l3 : LoopT P c168_l3 c168_l3b := execS_loop true c168_l3b
theorem r168_l4 : LoopT P c168_l4 c168_l4b := execS_loop true c168_l4b
theorem p169 : P 169 = some F169 := Has.h 169 F169 rfl
theorem u169 : CodeEq P 169 [.tmp 0] c169 := fn_code p169
@[simp] theorem call169 : CallP P 169 := callS_pure p169
theorem r169_l0 : LoopT P c169_l0 c169_l0b := execS_loop true c169_l0b
theorem p170 : P 170 = some F170 := Has.h 170 F170 rfl
theorem u170 : CodeEq P 170 [.tmp 0] c170 := fn_code p170
@[simp] theorem call170 : CallP P 170 := callS_pure p170
theorem r170_l0 : LoopT P c170_l0 c170_l0b := execS_loop true c170_l0b
theorem p171 : P 171 = some F171 := Has.h 171 F171 rfl
theorem u171 (args : List LV) (h : Heap) : sfn P 171 args h = resF [] (execS P (limS P) c171 ⟨args, h⟩) := sfn_code p171 args h
@[simp] theorem call171 (pos : Option Nat) (q : Bool) (args : List LV) (h : Heap) : callS P (limS P) pos q 171 args h = if q then none else bnd (frzFuncs args h) fun a => sfn P 171 a.1 a.2 := callS_shared p171 pos q args h
theorem r171_l0 : LoopT P c171_l0 c171_l0b := execS_loop true c171_l0b
theorem r171_l1 : LoopT P c171_l1 c171_l1b := execS_loop true c171_l1b
theorem r171_l2 : LoopT P c171_l2 c171_l2b := execS_loop true c171_l2b
theorem p172 : P 172 = some F172 := Has.h 172 F172 rfl
theorem u172 (args : List LV) (h : Heap) : sfn P 172 args h = resF [] (execS P (limS P) c172 ⟨args, h⟩) := sfn_code p172 args h
@[simp] theorem call172 (pos : Option Nat) (q : Bool) (args : List LV) (h : Heap) : callS P (limS P) pos q 172 args h = if q then none else bnd (frzFuncs args h) fun a => sfn P 172 a.1 a.2 := callS_shared p172 pos q args h
theorem r172_l0 : LoopT P c172_l0 c172_l0b := execS_loop true c172_l0b
theorem p173 : P 173 = some F173 := Has.h 173 F173 rfl
theorem u173 (args : List LV) (h : Heap) : sfn P 173 args h = resF [] (execS P (limS P) c173 ⟨args, h⟩) := sfn_code p173 args h
@[simp] theorem call173 (pos : Option Nat) (q : Bool) (args : List LV) (h : Heap) : callS P (limS P) pos q 173 args h = if q then none else bnd (frzFuncs args h) fun a => sfn P 173 a.1 a.2 := callS_shared p173 pos q args h
theorem r173_l0 : LoopT P c173_l0 c173_l0b := execS_loop true c173_l0b
theorem r173_l1 : LoopT P c173_l1 c173_l1b := execS_loop true c173_l1b
theorem p174 : P 174 = some F174 := Has.h 174 F174 rfl
theorem u174 (args : List LV) (h : Heap) : sfn P 174 args h = resF [] (execS P (limS P) c174 ⟨args, h⟩) := sfn_code p174 args h
@[simp] theorem call174 (pos : Option Nat) (q : Bool) (args : List LV) (h : Heap) : callS P (limS P) pos q 174 args h = if q then none else bnd (frzFuncs args h) fun a => sfn P 174 a.1 a.2 := callS_shared p174 pos q args h
theorem r174_l0 : LoopT P c174_l0 c174_l0b := execS_loop true c174_l0b
theorem r174_l1 : LoopT P c174_l1 c174_l1b := execS_loop true c174_l1b
theorem r174_l2 : LoopT P c174_l2 c174_l2b := execS_loop true c174_l2b
theorem r174_l3 : LoopT P c174_l3 c174_l3b := execS_loop true c174_l3b
theorem r174_l4 : LoopT P c174_l4 c174_l4b := execS_loop true c174_l4b
theorem p175 : P 175 = some F175 := Has.h 175 F175 rfl
theorem u175 (args : List LV) (h : Heap) : sfn P 175 args h = resF [] (execS P (limS P) c175 ⟨args, h⟩) := sfn_code p175 args h
@[simp] theorem call175 (pos : Option Nat) (q : Bool) (args : List LV) (h : Heap) : callS P (limS P) pos q 175 args h = if q then none else bnd (frzFuncs args h) fun a => sfn P 175 a.1 a.2 := callS_shared p175 pos q args h
theorem r175_l0 : LoopT P c175_l0 c175_l0b := execS_loop true c175_l0b
theorem p176 : P 176 = some F176 := Has.h 176 F176 rfl
theorem u176 (args : List LV) (h : Heap) : sfn P 176 args h = resF [] (execS P (limS P) c176 ⟨args, h⟩) := sfn_code p176 args h
@[simp] theorem call176 (pos : Option Nat) (q : Bool) (args : List LV) (h : Heap) : callS P (limS P) pos q 176 args h = if q then none else bnd (frzFuncs args h) fun a => sfn P 176 a.1 a.2 := callS_shared p176 pos q args h
theorem r176_l0 : LoopT P c176_l0 c176_l0b := execS_loop true c176_l0b
theorem p177 : P 177 = some F177 := Has.h 177 F177 rfl
theorem u177 (args : List LV) (h : Heap) : sfn P 177 args h = resF [] (execS P (limS P) c177 ⟨args, h⟩) := sfn_code p177 args h
@[simp] theorem call177 (pos : Option Nat) (q : Bool) (args : List LV) (h : Heap) : callS P (limS P) pos q 177 args h = if q then none else bnd (frzFuncs args h) fun a => sfn P 177 a.1 a.2 := callS_shared p177 pos q args h
theorem r177_l0 : LoopT P c177_l0 c177_l0b := execS_loop true c177_l0b
theorem p137 : P 137 = some (.fprim 1 (cloneP (some 3) 56)) := Has.h 137 _ rfl
theorem u137 (args : List CV) : ffn P 137 args = (cloneP (some 3) 56) args := by simp only [ffn, p137]
@[simp] theorem call137 (pos : Option Nat) (q : Bool) (args : List LV) (h : Heap) : callS P (limS P) pos q 137 args h = if q && pos.isNone then none else bnd (frzArgs q args h) fun a => bnd (ffn P 137 a.1) fun v => importB pos 1 v.1 v.2 a.2 := callS_fprim p137 pos q args h
theorem p144 : P 144 = some (.fprim 1 (cloneP none 8)) := Has.h 144 _ rfl
theorem u144 (args : List CV) : ffn P 144 args = (cloneP none 8) args := by simp only [ffn, p144]
@[simp] theorem call144 (pos : Option Nat) (q : Bool) (args : List LV) (h : Heap) : callS P (limS P) pos q 144 args h = if q && pos.isNone then none else bnd (frzArgs q args h) fun a => bnd (ffn P 144 a.1) fun v => importB pos 1 v.1 v.2 a.2 := callS_fprim p144 pos q args h
/-- A program in which some functions are primitives. -/
class HasP (P : Nat → Option SFunc) : Prop where
  h : ∀ f, f ∈ [16, 66] → ∃ g, P f = some (.prim g)
@[simp] theorem call16 [HasP P] (pos : Option Nat) (q : Bool) (args : List LV) (h : Heap) : callS P (limS P) pos q 16 args h = bnd (frzArgs q args h) fun a => bnd (fn P 16 a.1) fun v => some (.c v, if scalarC v then h else a.2) := by
  obtain ⟨g, hg⟩ := HasP.h (P := P) 16 (by simp)
  exact callS_prim hg pos q args h
@[simp] theorem call66 [HasP P] (pos : Option Nat) (q : Bool) (args : List LV) (h : Heap) : callS P (limS P) pos q 66 args h = bnd (frzArgs q args h) fun a => bnd (fn P 66 a.1) fun v => some (.c v, if scalarC v then h else a.2) := by
  obtain ⟨g, hg⟩ := HasP.h (P := P) 66 (by simp)
  exact callS_prim hg pos q args h
end LM.G6
namespace LM.G6
open Go LM
def lc66 : LCode := (.seq (.region [.mk (some 2) (.mkNil (some 2)) none none .any, .mk (some 3) (.move (.k (.c (.int .i64 0)))) none none .any]) (.seq (.seq (.region [.mk (some 10) (.move (.t 0)) none none .any, .mk (some 11) (.call false (.k (.c (.func 125 [] []))) [(.t 10)]) none none .any, .mk (some 4) (.move (.t 11)) none none .any]) (.seq (.region [.mk (some 12) (.move (.t 4)) none none .any, .mk (some 13) (.bin .neq (.t 12) (.k (.c (.int .i64 0)))) none none .any]) (.cond (.t 13) (.seq (.region [.mk (some 14) (.move (.t 4)) none none .any, .mk (some 2) (.mkNil (some 2)) none none .any, .mk (some 3) (.move (.t 14)) none none .any]) .ret) .skip))) (.seq (.region [.mk (some 5) (.new [.nil]) none none .any]) (.seq (.seq (.region [.mk (some 15) (.move (.t 0)) none none .any, .mk (some 16) (.move (.t 0)) none none .any, .mk (some 17) (.len 1 (.t 16)) none none .any, .mk (some 18) (.bin .sub (.t 17) (.k (.c (.int .i64 1)))) none none .any, .mk (some 19) (.idxSlice 1 (.t 15) (.t 18)) none none .any, .mk (some 20) (.load none (.t 19)) none none .any, .mk (some 21) (.idxSlice 3 (.t 20) (.k (.c (.int .i64 0)))) none none .any, .mk (some 22) (.load (some 3) (.t 21)) none none .any, .mk (some 23) (.call false (.k (.c (.func 126 [] []))) [(.t 22)]) none none .any, .mk (some 6) (.move (.t 23)) none none .any]) (.seq (.region [.mk (some 24) (.move (.t 6)) none none .any, .mk (some 25) (.bin .neq (.t 24) (.k (.c (.str [])))) none none .any]) (.cond (.t 25) (.region [.mk (some 26) (.load none (.t 5)) none none .any, .mk (some 27) (.move (.t 6)) none none .any, .mk (some 28) (.build [(.c (.str [])), (.c (.int .i64 0))] [(0, 1, (.t 27)), (1, 1, (.k (.c (.int .i64 1))))]) none none .any, .mk (some 29) (.buildSlice 2 (some 2) 1 [(.c (.str [])), (.c (.int .i64 0))] [(0, (.t 28))]) none none .any, .mk (some 30) (.append (some 2) 24 (.t 26) (.t 29)) none none .any, .mk none (.store 1 (.t 5) (.t 30)) none none .any]) .skip))) (.seq (.seq (.region [.mk (some 31) (.move (.t 0)) none none .any, .mk (some 32) (.call false (.k (.c (.func 127 [] []))) [(.t 31)]) none none .any]) (.block 0 (.rangeFn (.t 32) [33, 34] (.region [.mk (some 8) (.new [.nil]) none none .any, .mk none (.store 1 (.t 8) (.t 34)) none none .any]) (.block 1 (.seq (.region [.mk (some 35) (.load none (.t 8)) none none .any, .mk (some 36) (.call false (.k (.c (.func 128 [] []))) [(.t 35)]) none none .any]) (.block 2 (.rangeFn (.t 36) [37] (.region [.mk (some 9) (.move (.t 37)) none none .any]) (.block 3 (.region [.mk (some 38) (.load none (.t 5)) none none .any, .mk (some 39) (.move (.t 9)) none none .any, .mk (some 40) (.load none (.t 8)) none none .any, .mk (some 41) (.len 1 (.t 40)) none none .any, .mk (some 42) (.bin .add (.t 41) (.k (.c (.int .i64 1)))) none none .any, .mk (some 43) (.build [(.c (.str [])), (.c (.int .i64 0))] [(0, 1, (.t 39)), (1, 1, (.t 42))]) none none .any, .mk (some 44) (.buildSlice 2 (some 2) 1 [(.c (.str [])), (.c (.int .i64 0))] [(0, (.t 43))]) none none .any, .mk (some 45) (.append (some 2) 24 (.t 38) (.t 44)) none none .any, .mk none (.store 1 (.t 5) (.t 45)) none none .any]))))))))) (.seq (.region [.mk (some 46) (.load none (.t 5)) none none .any, .mk (some 2) (.move (.t 46)) none none .any, .mk (some 3) (.move (.k (.c (.int .i64 0)))) none none .any]) .ret))))))
def lf66 : LFunc := .code .pure 47 [.tmp 2, .tmp 3] lc66
def lc155 : LCode := (.seq (.region [.mk (some 4) (.load none (.t 1)) none none .any, .mk (some 5) (.len 1 (.t 4)) none none .any, .mk (some 6) (.bin .sub (.t 5) (.k (.c (.int .i64 1)))) none none .any, .mk (some 3) (.move (.t 6)) none none .any]) (.block 0 (.loop true (.seq (.seq (.region [.mk (some 7) (.move (.t 3)) none none .any, .mk (some 8) (.bin .geq (.t 7) (.k (.c (.int .i64 0)))) none none .any]) (.cond (.t 8) .skip (.exit 0))) (.seq (.block 1 (.seq (.region [.mk (some 11) (.move (.t 0)) none none .any, .mk (some 12) (.move (.t 3)) none none .any, .mk (some 13) (.load none (.t 1)) none none .any, .mk (some 14) (.move (.t 3)) none none .any, .mk (some 15) (.idxSlice 1 (.t 13) (.t 14)) none none .any, .mk (some 16) (.load none (.t 15)) none none .any, .mk (some 17) (.call false (.t 11) [(.t 12), (.t 16)]) none none .any, .mk (some 18) (.not (.t 17)) none none .any]) (.cond (.t 18) .ret .skip))) (.region [.mk (some 9) (.move (.t 3)) none none .any, .mk (some 10) (.bin .sub (.t 9) (.k (.c (.int .i64 1)))) none none .any, .mk (some 3) (.move (.t 10)) none none .any]))))))
def lf155 : LFunc := .code .shared 19 [] lc155
def lc156 : LCode := (.seq .skip (.seq (.region [.mk (some 7) (.load none (.t 1)) none none .any, .mk (some 8) (.len 1 (.t 7)) none none .any, .mk (some 9) (.move (.k (.c (.int .i64 0)))) none none .any]) (.block 0 (.loop true (.seq (.region [.mk (some 10) (.bin .lss (.t 9) (.t 8)) none none .any]) (.seq (.cond (.t 10) .skip (.exit 0)) (.seq (.block 1 (.seq (.region [.mk (some 11) (.idxSlice 3 (.t 7) (.t 9)) none none .any, .mk (some 12) (.load (some 3) (.t 11)) none none .any, .mk (some 4) (.new [(.c (.str [])), (.c (.str [])), (.c (.int .i64 0))]) none none .any, .mk none (.store 3 (.t 4) (.t 12)) none none .any]) (.seq (.region [.mk (some 13) (.fieldAddr 0 (.t 4)) none none .any, .mk (some 14) (.load none (.t 13)) none none .any, .mk (some 15) (.fieldAddr 1 (.t 4)) none none .any, .mk (some 16) (.load none (.t 15)) none none .any, .mk (some 17) (.build [(.c (.str [])), (.c (.str []))] [(0, 1, (.t 14)), (1, 1, (.t 16))]) none none .any, .mk (some 18) (.move (.k (.c (.int .i64 0)))) none none .any]) (.block 2 (.loop true (.seq (.region [.mk (some 19) (.bin .lss (.t 18) (.k (.c (.int .i64 2)))) none none .any]) (.seq (.cond (.t 19) .skip (.exit 2)) (.seq (.block 3 (.seq (.region [.mk (some 20) (.indexArr 2 none (.t 17) (.t 18)) none none .any, .mk (some 6) (.move (.t 20)) none none .any]) (.seq (.seq (.region [.mk (some 21) (.move (.t 6)) none none .any, .mk (some 22) (.bin .eql (.t 21) (.k (.c (.str [])))) none none .any, .mk (some 23) (.move (.t 22)) none none .any, .mk (some 24) (.move (.t 6)) (some (23, false)) none .any, .mk (some 25) (.load (some 3) (.t 4)) (some (23, false)) none .any, .mk (some 26) (.call false (.k (.c (.func 126 [] []))) [(.t 25)]) (some (23, false)) none .any, .mk (some 27) (.bin .eql (.t 24) (.t 26)) (some (23, false)) none .any, .mk (some 28) (.pick (.t 23) (.k (.c (.bool true))) (.t 27)) none none .any]) (.cond (.t 28) (.exit 3) .skip)) (.seq (.region [.mk (some 29) (.move (.t 0)) none none .any, .mk (some 30) (.move (.t 6)) none none .any, .mk (some 31) (.call false (.t 29) [(.t 30)]) none none .any, .mk (some 32) (.not (.t 31)) none none .any]) (.cond (.t 32) (.exit 0) .skip))))) (.region [.mk (some 33) (.bin .add (.t 18) (.k (.c (.int .i64 1)))) none none .any, .mk (some 18) (.move (.t 33)) none none .any]))))))))) (.region [.mk (some 34) (.bin .add (.t 9) (.k (.c (.int .i64 1)))) none none .any, .mk (some 9) (.move (.t 34)) none none .any]))))))))
def lf156 : LFunc := .code .shared 35 [] lc156
def lprog : List (Nat × LFunc) := [(66, lf66), (155, lf155), (156, lf156)]
@[simp] def c16_n2 : SCode := (.region [.op 38 (.call false (.k (.c (.func 83 [] []))) []), .op 39 (.call false (.k (.c (.func 20 [] []))) [(.t 0), (.k (.c (.int .i64 5)))]), .op 37 (.move (.t 0)), .op 40 (.extract (.t 0) 0), .op 41 (.extract (.t 1) 1), .op 1 (.move (.t 1)), .op 2 (.move (.t 1))] [1, 0])
@[simp] def c16_n4 : SCode := (.region [.op 43 (.call false (.k (.c (.func 83 [] []))) []), .op 44 (.call false (.k (.c (.func 21 [] []))) [(.t 0), (.k (.c (.int .i64 2))), (.k (.c (.int .i64 5)))]), .op 42 (.move (.t 0)), .op 45 (.extract (.t 0) 0), .op 46 (.extract (.t 1) 1), .op 3 (.move (.t 1)), .op 4 (.move (.t 1))] [7, 8, 1, 0])
@[simp] def c16_n6 : SCode := (.region [.op 48 (.buildSlice 2 none 4 [(.c (.int .i64 0))] [(0, (.k (.c (.int .i64 2)))), (1, (.k (.c (.int .i64 0)))), (2, (.k (.c (.int .i64 3)))), (3, (.k (.c (.int .i64 1))))]), .op 49 (.call false (.k (.c (.func 29 [] []))) [(.t 0)]), .op 47 (.move (.t 0)), .op 50 (.extract (.t 0) 0), .op 51 (.extract (.t 1) 1), .op 52 (.extract (.t 2) 2), .op 5 (.move (.t 2)), .op 6 (.move (.t 2)), .op 7 (.move (.t 2))] [9, 10, 11, 12, 1, 0])
@[simp] def c16_n8 : SCode := (.region [.op 54 (.call false (.k (.c (.func 83 [] []))) []), .op 55 (.buildSlice 2 none 4 [(.c (.int .i64 0))] [(0, (.k (.c (.int .i64 0)))), (1, (.k (.c (.int .i64 1)))), (2, (.k (.c (.int .i64 2)))), (3, (.k (.c (.int .i64 3))))]), .op 56 (.call false (.k (.c (.func 32 [] []))) [(.t 1), (.t 0)]), .op 53 (.move (.t 0)), .op 57 (.extract (.t 0) 0), .op 58 (.extract (.t 1) 1), .op 8 (.move (.t 1)), .op 9 (.move (.t 1))] [8, 9, 10, 11, 12, 13, 1, 0])
@[simp] def c16_n10 : SCode := (.region [.op 60 (.call false (.k (.c (.func 83 [] []))) []), .op 61 (.call false (.k (.c (.func 33 [] []))) [(.t 0)]), .op 59 (.move (.t 0)), .op 62 (.extract (.t 0) 0), .op 63 (.extract (.t 1) 1), .op 10 (.move (.t 1)), .op 11 (.move (.t 1))] [7, 8, 9, 10, 11, 12, 13, 14, 1, 0])
@[simp] def c16_n12 : SCode := (.region [.op 65 (.call false (.k (.c (.func 83 [] []))) []), .op 66 (.call false (.k (.c (.func 34 [] []))) [(.t 0)]), .op 64 (.move (.t 0)), .op 67 (.extract (.t 0) 0), .op 68 (.extract (.t 1) 1), .op 12 (.move (.t 1)), .op 13 (.move (.t 1))] [7, 8, 9, 10, 11, 12, 13, 14, 15, 16, 1, 0])
@[simp] def c16_n14 : SCode := (.region [.op 70 (.call false (.k (.c (.func 83 [] []))) []), .op 71 (.move (.t 11)), .op 72 (.call false (.k (.c (.func 32 [] []))) [(.t 1), (.t 0)]), .op 69 (.move (.t 0)), .op 73 (.extract (.t 0) 0), .op 74 (.extract (.t 1) 1), .op 14 (.move (.t 1)), .op 15 (.move (.t 1))] [8, 9, 10, 11, 12, 13, 14, 15, 16, 17, 19, 1, 0])
@[simp] def c16_n16 : SCode := (.region [.op 76 (.call false (.k (.c (.func 39 [] []))) [(.k (.c (.int .i64 3))), (.k (.c (.int .i64 60000))), (.k (.c (.int .i64 10000))), (.k (.c (.int .i64 65000)))]), .op 75 (.move (.t 0)), .op 77 (.extract (.t 0) 0), .op 78 (.extract (.t 1) 1), .op 16 (.move (.t 1)), .op 17 (.move (.t 1))] [6, 7, 8, 9, 10, 11, 12, 13, 14, 15, 16, 17, 18, 1, 0])
@[simp] def c16_n18 : SCode := (.region [.op 80 (.call false (.k (.c (.func 40 [] []))) [(.k (.c (.int .i64 3))), (.k (.c (.int .i64 60000))), (.k (.c (.int .i64 10000))), (.k (.c (.int .i64 0))), (.k (.c (.int .i64 70000)))]), .op 79 (.move (.t 0)), .op 81 (.extract (.t 0) 0), .op 82 (.extract (.t 1) 1), .op 18 (.move (.t 1)), .op 19 (.move (.t 1))] [6, 7, 8, 9, 10, 11, 12, 13, 14, 15, 16, 17, 18, 19, 20, 1, 0])
@[simp] def c16_n20 : SCode := (.region [.op 84 (.call false (.k (.c (.func 45 [] []))) [(.k (.c (.int .i64 5)))]), .op 83 (.move (.t 0)), .op 85 (.extract (.t 0) 0), .op 86 (.extract (.t 1) 1), .op 20 (.move (.t 1)), .op 21 (.move (.t 1))] [6, 7, 8, 9, 10, 11, 12, 13, 14, 15, 16, 17, 18, 19, 20, 21, 22, 1, 0])
@[simp] def c16_n22 : SCode := (.region [.op 88 (.call false (.k (.c (.func 46 [] []))) [(.k (.c (.int .i64 5))), (.k (.c (.int .i64 1))), (.k (.c (.int .i64 4)))]), .op 87 (.move (.t 0)), .op 89 (.extract (.t 0) 0), .op 90 (.extract (.t 1) 1), .op 22 (.move (.t 1)), .op 23 (.move (.t 1))] [6, 7, 8, 9, 10, 11, 12, 13, 14, 15, 16, 17, 18, 19, 20, 21, 22, 23, 24, 1, 0])
@[simp] def c16_n24 : SCode := (.region [.op 92 (.call false (.k (.c (.func 84 [] []))) []), .op 93 (.call false (.k (.c (.func 74 [] []))) [(.t 0), (.k (.c (.int .i64 2)))]), .op 91 (.move (.t 0)), .op 94 (.extract (.t 0) 0), .op 95 (.extract (.t 1) 1), .op 24 (.move (.t 1)), .op 25 (.move (.t 1))] [7, 8, 9, 10, 11, 12, 13, 14, 15, 16, 17, 18, 19, 20, 21, 22, 23, 24, 25, 26, 27, 1, 0])
@[simp] def c16_n26 : SCode := (.region [.op 97 (.call false (.k (.c (.func 84 [] []))) []), .op 98 (.buildSlice 2 none 2 [(.c (.str []))] [(0, (.k (.c (.str [98])))), (1, (.k (.c (.str [97]))))]), .op 99 (.call false (.k (.c (.func 75 [] []))) [(.t 1), (.k (.c (.int .i64 2))), (.t 0)]), .op 96 (.move (.t 0)), .op 100 (.extract (.t 0) 0), .op 101 (.extract (.t 1) 1), .op 26 (.move (.t 1)), .op 27 (.move (.t 1))] [8, 9, 10, 11, 12, 13, 14, 15, 16, 17, 18, 19, 20, 21, 22, 23, 24, 25, 26, 27, 28, 29, 30, 1, 0])
@[simp] def c16_n28 : SCode := (.seq (.region [.op 102 (.move (.t 1)), .op 103 (.move (.t 4)), .op 104 (.bin .add (.t 1) (.t 0)), .op 105 (.move (.t 8)), .op 106 (.bin .add (.t 1) (.t 0)), .op 107 (.move (.t 12)), .op 108 (.bin .add (.t 1) (.t 0)), .op 109 (.move (.t 16)), .op 110 (.bin .add (.t 1) (.t 0)), .op 111 (.move (.t 19)), .op 112 (.bin .add (.t 1) (.t 0)), .op 113 (.move (.t 23)), .op 114 (.bin .add (.t 1) (.t 0)), .op 115 (.move (.t 27)), .op 116 (.bin .add (.t 1) (.t 0)), .op 117 (.move (.t 31)), .op 118 (.bin .add (.t 1) (.t 0)), .op 119 (.move (.t 35)), .op 120 (.bin .add (.t 1) (.t 0)), .op 121 (.move (.t 39)), .op 122 (.bin .add (.t 1) (.t 0)), .op 123 (.move (.t 43)), .op 124 (.bin .add (.t 1) (.t 0)), .op 125 (.move (.t 47)), .op 126 (.bin .add (.t 1) (.t 0)), .op 127 (.bin .neq (.t 0) (.k (.c (.int .i64 0)))), .op 128 (.move (.t 0)), .orN 133 0 [.op 129 (.move (.t 27)), .op 130 (.buildSlice 2 none 4 [(.c (.int .i64 0))] [(0, (.k (.c (.int .i64 2)))), (1, (.k (.c (.int .i64 0)))), (2, (.k (.c (.int .i64 3)))), (3, (.k (.c (.int .i64 1))))]), .op 131 (.call false (.k (.c (.func 28 [] []))) [(.t 1), (.t 0)]), .op 132 (.not (.t 0))] (.t 0), .op 134 (.move (.t 0)), .orN 138 0 [.op 135 (.move (.t 31)), .op 136 (.len 1 (.t 0)), .op 137 (.bin .neq (.t 0) (.k (.c (.int .i64 2))))] (.t 0), .op 139 (.move (.t 0)), .orN 146 0 [.op 140 (.move (.t 33)), .op 141 (.idxSlice 1 (.t 0) (.k (.c (.int .i64 1)))), .op 142 (.load none (.t 0)), .op 143 (.buildSlice 2 none 2 [(.c (.int .i64 0))] [(0, (.k (.c (.int .i64 0)))), (1, (.k (.c (.int .i64 3))))]), .op 144 (.call false (.k (.c (.func 28 [] []))) [(.t 1), (.t 0)]), .op 145 (.not (.t 0))] (.t 0), .op 147 (.move (.t 0)), .orN 152 0 [.op 148 (.move (.t 37)), .op 149 (.buildSlice 2 none 4 [(.c (.int .i64 0))] [(0, (.k (.c (.int .i64 3)))), (1, (.k (.c (.int .i64 1)))), (2, (.k (.c (.int .i64 2)))), (3, (.k (.c (.int .i64 0))))]), .op 150 (.call false (.k (.c (.func 28 [] []))) [(.t 1), (.t 0)]), .op 151 (.not (.t 0))] (.t 0), .op 153 (.move (.t 0)), .orN 156 0 [.op 154 (.move (.t 41)), .op 155 (.bin .neq (.t 0) (.k (.c (.int .i64 1))))] (.t 0), .op 157 (.move (.t 0)), .orN 160 0 [.op 158 (.move (.t 45)), .op 159 (.bin .neq (.t 0) (.k (.c (.int .i64 1))))] (.t 0), .op 161 (.move (.t 0)), .orN 164 0 [.op 162 (.move (.t 50)), .op 163 (.bin .neq (.t 0) (.k (.c (.int .i64 1))))] (.t 0), .op 165 (.move (.t 0)), .orN 169 0 [.op 166 (.move (.t 54)), .op 167 (.len 1 (.t 0)), .op 168 (.bin .neq (.t 0) (.k (.c (.int .i64 3))))] (.t 0), .op 170 (.move (.t 0)), .orN 176 0 [.op 171 (.move (.t 56)), .op 172 (.idxSlice 2 (.t 0) (.k (.c (.int .i64 1)))), .op 173 (.load (some 2) (.t 0)), .op 174 (.build [(.c (.int .i64 0)), (.c (.int .i64 0))] [(0, 1, (.k (.c (.int .i64 5000)))), (1, 1, (.k (.c (.int .i64 70000))))]), .op 175 (.eqAgg (.many [0, 0]) true (.t 1) (.t 0))] (.t 0), .op 177 (.move (.t 0)), .orN 182 0 [.op 178 (.move (.t 60)), .op 179 (.buildSlice 2 none 1 [(.c (.int .i64 0))] [(0, (.k (.c (.int .i64 2))))]), .op 180 (.call false (.k (.c (.func 28 [] []))) [(.t 1), (.t 0)]), .op 181 (.not (.t 0))] (.t 0), .op 183 (.move (.t 0)), .orN 188 0 [.op 184 (.move (.t 64)), .op 185 (.buildSlice 2 none 8 [(.c (.int .i64 0))] [(0, (.k (.c (.int .i64 1)))), (1, (.k (.c (.int .i64 0)))), (2, (.k (.c (.int .i64 4)))), (3, (.k (.c (.int .i64 5)))), (4, (.k (.c (.int .i64 2)))), (5, (.k (.c (.int .i64 0)))), (6, (.k (.c (.int .i64 3)))), (7, (.k (.c (.int .i64 0))))]), .op 186 (.call false (.k (.c (.func 28 [] []))) [(.t 1), (.t 0)]), .op 187 (.not (.t 0))] (.t 0), .op 189 (.move (.t 0)), .orN 192 0 [.op 190 (.move (.t 68)), .op 191 (.bin .neq (.t 0) (.k (.c (.int .i64 2))))] (.t 0), .op 193 (.move (.t 0)), .orN 198 0 [.op 194 (.move (.t 72)), .op 195 (.buildSlice 2 none 3 [(.c (.str []))] [(0, (.k (.c (.str [97])))), (1, (.k (.c (.str [98])))), (2, (.k (.c (.str [99]))))]), .op 196 (.call false (.k (.c (.func 82 [] []))) [(.t 1), (.t 0)]), .op 197 (.not (.t 0))] (.t 0), .op 199 (.move (.t 0)), .orN 204 0 [.op 200 (.move (.t 76)), .op 201 (.buildSlice 2 none 2 [(.c (.str []))] [(0, (.k (.c (.str [99])))), (1, (.k (.c (.str [100]))))]), .op 202 (.call false (.k (.c (.func 82 [] []))) [(.t 1), (.t 0)]), .op 203 (.not (.t 0))] (.t 0)] [0]) (.cond (.t 0) (.seq (.region [.op 0 (.move (.k (.c (.bool false))))] [0]) .ret) (.pre [] .skip)))
@[simp] def c16_n30 : SCode := (.region [.op 206 (.buildSlice 2 none 5 [(.c (.str []))] [(0, (.k (.c (.str [97])))), (1, (.k (.c (.str [98])))), (2, (.k (.c (.str [99])))), (3, (.k (.c (.str [100])))), (4, (.k (.c (.str [101]))))]), .op 207 (.call false (.k (.c (.func 50 [] []))) [(.t 0)]), .op 205 (.move (.t 0)), .op 208 (.extract (.t 0) 0), .op 209 (.extract (.t 1) 1), .op 28 (.move (.t 1)), .op 2 (.move (.t 1))] [0, 1])
@[simp] def c16_n32 : SCode := (.seq (.region [.op 210 (.move (.t 0)), .op 211 (.bin .neq (.t 0) (.k (.c (.int .i64 0)))), .op 212 (.move (.t 0)), .orN 216 0 [.op 213 (.move (.t 4)), .op 214 (.len 1 (.t 0)), .op 215 (.bin .neq (.t 0) (.k (.c (.int .i64 4))))] (.t 0), .op 217 (.move (.t 0)), .orN 223 0 [.op 218 (.move (.t 6)), .op 219 (.idxSlice 3 (.t 0) (.k (.c (.int .i64 0)))), .op 220 (.load (some 3) (.t 0)), .op 221 (.build [(.c (.str [])), (.c (.str [])), (.c (.int .i64 0))] [(0, 1, (.k (.c (.str [97])))), (2, 1, (.k (.c (.int .i64 1))))]), .op 222 (.eqAgg (.many [1, 1, 0]) true (.t 1) (.t 0))] (.t 0), .op 224 (.move (.t 0)), .orN 230 0 [.op 225 (.move (.t 8)), .op 226 (.idxSlice 3 (.t 0) (.k (.c (.int .i64 1)))), .op 227 (.load (some 3) (.t 0)), .op 228 (.build [(.c (.str [])), (.c (.str [])), (.c (.int .i64 0))] [(0, 1, (.k (.c (.str [100])))), (1, 1, (.k (.c (.str [101]))))]), .op 229 (.eqAgg (.many [1, 1, 0]) true (.t 1) (.t 0))] (.t 0)] [9, 0]) (.cond (.t 1) (.seq (.region [.op 0 (.move (.k (.c (.bool false))))] [0]) .ret) (.pre [0] .skip)))
@[simp] def c16_n34 : SCode := (.region [.op 231 (.buildSlice 0 (some 3) 0 [(.c (.str [])), (.c (.str [])), (.c (.int .i64 0))] []), .op 232 (.move (.t 1)), .op 233 (.append (some 3) 40 (.t 1) (.t 0)), .op 29 (.move (.t 0))] [0])
@[simp] def c16_n36 : SCode := (.region [.op 234 (.move (.t 0)), .op 235 (.idxSlice 3 (.t 0) (.k (.c (.int .i64 1)))), .op 236 (.fieldAddr 2 (.t 0)), .eff (.store 1 (.t 0) (.k (.c (.int .i64 2))))] [3])
@[simp] def c16_n38 : SCode := (.region [.op 238 (.move (.t 0)), .op 239 (.call false (.k (.c (.func 58 [] []))) [(.t 0)]), .op 237 (.move (.t 0)), .op 240 (.extract (.t 0) 0), .op 241 (.extract (.t 1) 1), .op 30 (.move (.t 1)), .op 4 (.move (.t 1))] [0, 7, 1])
@[simp] def c16_n40 : SCode := (.seq (.region [.op 242 (.move (.t 0)), .op 243 (.bin .neq (.t 0) (.k (.c (.int .i64 0)))), .op 244 (.move (.t 0)), .orN 248 0 [.op 245 (.move (.t 5)), .op 246 (.len 1 (.t 0)), .op 247 (.bin .neq (.t 0) (.k (.c (.int .i64 2))))] (.t 0), .op 249 (.move (.t 0)), .orN 255 0 [.op 250 (.move (.t 7)), .op 251 (.idxSlice 3 (.t 0) (.k (.c (.int .i64 0)))), .op 252 (.load (some 3) (.t 0)), .op 253 (.build [(.c (.str [])), (.c (.str [])), (.c (.int .i64 0))] [(0, 1, (.k (.c (.str [97])))), (1, 1, (.k (.c (.str [101]))))]), .op 254 (.eqAgg (.many [1, 1, 0]) true (.t 1) (.t 0))] (.t 0)] [7, 8, 0]) (.cond (.t 2) (.seq (.region [.op 0 (.move (.k (.c (.bool false))))] [0]) .ret) (.pre [0, 1] .skip)))
@[simp] def c16_n42 : SCode := (.region [.op 256 (.buildSlice 0 (some 3) 0 [(.c (.str [])), (.c (.str [])), (.c (.int .i64 0))] []), .op 257 (.move (.t 2)), .op 258 (.append (some 3) 40 (.t 1) (.t 0)), .op 31 (.move (.t 0))] [4, 0])
@[simp] def c16_n44 : SCode := (.region [.op 259 (.move (.t 1)), .op 260 (.move (.t 2)), .op 261 (.idxSlice 3 (.t 1) (.k (.c (.int .i64 0)))), .op 262 (.fieldAddr 2 (.t 0)), .eff (.store 1 (.t 0) (.k (.c (.int .i64 1)))), .op 263 (.idxSlice 3 (.t 2) (.k (.c (.int .i64 1)))), .op 264 (.fieldAddr 2 (.t 0)), .eff (.store 1 (.t 0) (.k (.c (.int .i64 2))))] [6, 7])
@[simp] def c16_n46 : SCode := (.region [.op 266 (.move (.t 1)), .op 267 (.call false (.k (.c (.func 58 [] []))) [(.t 0)]), .op 265 (.move (.t 0)), .op 268 (.extract (.t 0) 0), .op 269 (.extract (.t 1) 1), .op 32 (.move (.t 1)), .op 7 (.move (.t 1))] [0, 7, 8, 1])
@[simp] def c16_n48 : SCode := (.region [.op 271 (.move (.t 2)), .op 272 (.call false (.k (.c (.func 59 [] []))) [(.t 0)]), .op 270 (.move (.t 0)), .op 273 (.extract (.t 0) 0), .op 274 (.extract (.t 1) 1), .op 33 (.new [(.c (.str [])), (.c (.str [])), (.c (.int .i64 0))]), .eff (.store 3 (.t 0) (.t 2)), .op 9 (.move (.t 1))] [7, 0, 8, 9, 10, 1])
@[simp] def c16_n50 : SCode := (.seq (.region [.op 275 (.move (.t 0)), .op 276 (.move (.t 2)), .op 277 (.bin .add (.t 1) (.t 0)), .op 278 (.bin .neq (.t 0) (.k (.c (.int .i64 0)))), .op 279 (.move (.t 0)), .orN 283 0 [.op 280 (.move (.t 9)), .op 281 (.len 1 (.t 0)), .op 282 (.bin .neq (.t 0) (.k (.c (.int .i64 1))))] (.t 0), .op 284 (.move (.t 0)), .orN 288 0 [.op 285 (.load (some 3) (.t 12)), .op 286 (.build [(.c (.str [])), (.c (.str [])), (.c (.int .i64 0))] [(0, 1, (.k (.c (.str [101])))), (1, 1, (.k (.c (.str [98]))))]), .op 287 (.eqAgg (.many [1, 1, 0]) true (.t 1) (.t 0))] (.t 0)] [10, 11, 12, 0]) (.cond (.t 3) (.seq (.region [.op 0 (.move (.k (.c (.bool false))))] [0]) .ret) (.pre [0, 1, 2] .skip)))
@[simp] def c16_n52 : SCode := (.region [.op 289 (.buildSlice 0 (some 3) 0 [(.c (.str [])), (.c (.str [])), (.c (.int .i64 0))] []), .op 290 (.move (.t 3)), .op 291 (.append (some 3) 40 (.t 1) (.t 0)), .op 34 (.move (.t 0))] [4, 5, 0])
@[simp] def c16_n54 : SCode := (.region [.op 292 (.move (.t 2)), .op 293 (.idxSlice 3 (.t 0) (.k (.c (.int .i64 0)))), .op 294 (.fieldAddr 2 (.t 0)), .eff (.store 1 (.t 0) (.k (.c (.int .i64 2))))] [3, 4, 5])
@[simp] def c16_n56 : SCode := (.region [.op 296 (.move (.t 0)), .op 297 (.move (.t 2)), .op 298 (.move (.t 4)), .op 299 (.buildSlice 2 none 3 [.nil] [(0, (.t 2)), (1, (.t 1)), (2, (.t 0))]), .op 300 (.call false (.k (.c (.func 66 [] []))) [(.t 0)]), .op 295 (.move (.t 0)), .op 301 (.extract (.t 0) 0), .op 302 (.extract (.t 1) 1), .op 35 (.move (.t 1)), .op 11 (.move (.t 1))] [0, 1])
@[simp] def c16_n58 : SCode := (.region [.op 304 (.build [(.c (.int .i64 0)), (.c (.int .i64 0))] [(0, 1, (.k (.c (.int .i64 120)))), (1, 1, (.k (.c (.int .i64 7000))))]), .op 305 (.build [(.c (.int .i64 0)), (.c (.int .i64 0))] [(0, 1, (.k (.c (.int .i64 130)))), (1, 1, (.k (.c (.int .i64 7000))))]), .op 306 (.call false (.k (.c (.func 63 [] []))) [(.t 1), (.t 0)]), .op 303 (.move (.t 0)), .op 307 (.extract (.t 0) 0), .op 308 (.extract (.t 1) 1), .op 36 (.move (.t 1)), .op 13 (.move (.t 1))] [8, 0, 9, 1])
@[simp] def c16_n60 : SCode := (.region [.op 309 (.move (.t 0)), .op 310 (.move (.t 2)), .op 311 (.bin .add (.t 1) (.t 0)), .op 312 (.bin .eql (.t 0) (.k (.c (.int .i64 0)))), .op 313 (.move (.t 0)), .andN 317 0 [.op 314 (.move (.t 7)), .op 315 (.len 1 (.t 0)), .op 316 (.bin .eql (.t 0) (.k (.c (.int .i64 5))))] (.t 0), .op 318 (.move (.t 0)), .andN 324 0 [.op 319 (.move (.t 9)), .op 320 (.idxSlice 2 (.t 0) (.k (.c (.int .i64 0)))), .op 321 (.load (some 2) (.t 0)), .op 322 (.build [(.c (.str [])), (.c (.int .i64 0))] [(0, 1, (.k (.c (.str [99])))), (1, 1, (.k (.c (.int .i64 1))))]), .op 323 (.eqAgg (.many [1, 0]) false (.t 1) (.t 0))] (.t 0), .op 325 (.move (.t 0)), .andN 331 0 [.op 326 (.move (.t 11)), .op 327 (.idxSlice 2 (.t 0) (.k (.c (.int .i64 4)))), .op 328 (.load (some 2) (.t 0)), .op 329 (.build [(.c (.str [])), (.c (.int .i64 0))] [(0, 1, (.k (.c (.str [100])))), (1, 1, (.k (.c (.int .i64 5))))]), .op 330 (.eqAgg (.many [1, 0]) false (.t 1) (.t 0))] (.t 0), .op 332 (.move (.t 0)), .andN 335 0 [.op 333 (.move (.t 14)), .op 334 (.bin .eql (.t 0) (.k (.c (.int .i64 1))))] (.t 0), .op 0 (.move (.t 0))] [0])
def c16_n59 : SCode := .seq c16_n60 .ret
instance : IsSeq c16_n59 c16_n60 .ret := ⟨rfl⟩
def c16_n57 : SCode := .seq c16_n58 c16_n59
instance : IsSeq c16_n57 c16_n58 c16_n59 := ⟨rfl⟩
def c16_n55 : SCode := .seq c16_n56 c16_n57
instance : IsSeq c16_n55 c16_n56 c16_n57 := ⟨rfl⟩
def c16_n53 : SCode := .seq c16_n54 c16_n55
instance : IsSeq c16_n53 c16_n54 c16_n55 := ⟨rfl⟩
def c16_n51 : SCode := .seq c16_n52 c16_n53
instance : IsSeq c16_n51 c16_n52 c16_n53 := ⟨rfl⟩
def c16_n49 : SCode := .seq c16_n50 c16_n51
instance : IsSeq c16_n49 c16_n50 c16_n51 := ⟨rfl⟩
def c16_n47 : SCode := .seq c16_n48 c16_n49
instance : IsSeq c16_n47 c16_n48 c16_n49 := ⟨rfl⟩
def c16_n45 : SCode := .seq c16_n46 c16_n47
instance : IsSeq c16_n45 c16_n46 c16_n47 := ⟨rfl⟩
def c16_n43 : SCode := .seq c16_n44 c16_n45
instance : IsSeq c16_n43 c16_n44 c16_n45 := ⟨rfl⟩
def c16_n41 : SCode := .seq c16_n42 c16_n43
instance : IsSeq c16_n41 c16_n42 c16_n43 := ⟨rfl⟩
def c16_n39 : SCode := .seq c16_n40 c16_n41
instance : IsSeq c16_n39 c16_n40 c16_n41 := ⟨rfl⟩
def c16_n37 : SCode := .seq c16_n38 c16_n39
instance : IsSeq c16_n37 c16_n38 c16_n39 := ⟨rfl⟩
def c16_n35 : SCode := .seq c16_n36 c16_n37
instance : IsSeq c16_n35 c16_n36 c16_n37 := ⟨rfl⟩
def c16_n33 : SCode := .seq c16_n34 c16_n35
instance : IsSeq c16_n33 c16_n34 c16_n35 := ⟨rfl⟩
def c16_n31 : SCode := .seq c16_n32 c16_n33
instance : IsSeq c16_n31 c16_n32 c16_n33 := ⟨rfl⟩
def c16_n29 : SCode := .seq c16_n30 c16_n31
instance : IsSeq c16_n29 c16_n30 c16_n31 := ⟨rfl⟩
def c16_n27 : SCode := .seq c16_n28 c16_n29
instance : IsSeq c16_n27 c16_n28 c16_n29 := ⟨rfl⟩
def c16_n25 : SCode := .seq c16_n26 c16_n27
instance : IsSeq c16_n25 c16_n26 c16_n27 := ⟨rfl⟩
def c16_n23 : SCode := .seq c16_n24 c16_n25
instance : IsSeq c16_n23 c16_n24 c16_n25 := ⟨rfl⟩
def c16_n21 : SCode := .seq c16_n22 c16_n23
instance : IsSeq c16_n21 c16_n22 c16_n23 := ⟨rfl⟩
def c16_n19 : SCode := .seq c16_n20 c16_n21
instance : IsSeq c16_n19 c16_n20 c16_n21 := ⟨rfl⟩
def c16_n17 : SCode := .seq c16_n18 c16_n19
instance : IsSeq c16_n17 c16_n18 c16_n19 := ⟨rfl⟩
def c16_n15 : SCode := .seq c16_n16 c16_n17
instance : IsSeq c16_n15 c16_n16 c16_n17 := ⟨rfl⟩
def c16_n13 : SCode := .seq c16_n14 c16_n15
instance : IsSeq c16_n13 c16_n14 c16_n15 := ⟨rfl⟩
def c16_n11 : SCode := .seq c16_n12 c16_n13
instance : IsSeq c16_n11 c16_n12 c16_n13 := ⟨rfl⟩
def c16_n9 : SCode := .seq c16_n10 c16_n11
instance : IsSeq c16_n9 c16_n10 c16_n11 := ⟨rfl⟩
def c16_n7 : SCode := .seq c16_n8 c16_n9
instance : IsSeq c16_n7 c16_n8 c16_n9 := ⟨rfl⟩
def c16_n5 : SCode := .seq c16_n6 c16_n7
instance : IsSeq c16_n5 c16_n6 c16_n7 := ⟨rfl⟩
def c16_n3 : SCode := .seq c16_n4 c16_n5
instance : IsSeq c16_n3 c16_n4 c16_n5 := ⟨rfl⟩
def c16_n1 : SCode := .seq c16_n2 c16_n3
instance : IsSeq c16_n1 c16_n2 c16_n3 := ⟨rfl⟩
def c16 : SCode := (.seq (.region [.op 0 (.move (.k (.c (.bool false))))] []) c16_n1)
def F16 : SFunc := .code .pure 336 0 [some 0] [.tmp 0] c16
end LM.G6
