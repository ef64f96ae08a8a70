/- Part 5 of what YtmhdmbfiiodeoaaGreatSeeds leans on. -/
import Derived.Test.YtmhdmbfiiodeoaaGreatLib1
import Derived.Test.YtmhdmbfiiodeoaaGreatLib2
import Derived.Test.YtmhdmbfiiodeoaaGreatLib3
import Derived.Test.YtmhdmbfiiodeoaaGreatSeeds1
set_option linter.all false
namespace LM.G6
open Go LM
-- crux/start.open$1
def c152 : SCode := (.seq (.region [.op 1 (.box (.t 0)) none .any, .op 2 (.move (.k (.c (.bool false)))) none .any] [1]) (.seq (.region [.op 3 (.fieldAddr 2 (.t 0)) none .any, .op 4 (.load none (.t 0)) none .any, .op 5 (.bin .eql (.t 0) (.k (.c (.int .i64 0)))) none .any, .op 2 (.move (.t 0)) none .any] [0]) .ret))
def F152 : SFunc := .code .pure 6 1 [some 2] [.tmp 0] c152

-- slices.Min[[]int,int]
-- c153_l0: env [0, 3, 4]
@[simp] def c153_n2 : SCode := (.block 1 [some 0, some 3, some 4] (.region [.op 18 (.move (.t 1)) none .any, .op 19 (.move (.t 1)) none .any, .op 20 (.move (.t 4)) none .any, .op 21 (.idxSlice 1 (.t 1) (.t 0)) none .any, .op 22 (.load none (.t 0)) none .any, .op 23 (.min (.t 4) [(.t 0)]) none .any, .op 3 (.move (.t 0)) none .any] [7, 0, 9]))
def c153_n1 : SCode := .seq c153_n2 (.region [.op 16 (.move (.t 2)) none .any, .op 17 (.bin .add (.t 0) (.k (.c (.int .i64 1)))) none .any, .op 4 (.move (.t 0)) none .any] [3, 4, 0])
instance : IsSeq c153_n1 c153_n2 (.region [.op 16 (.move (.t 2)) none .any, .op 17 (.bin .add (.t 0) (.k (.c (.int .i64 1)))) none .any, .op 4 (.move (.t 0)) none .any] [3, 4, 0]) := ⟨rfl⟩
def c153_l0b : SCode := (.seq (.seq (.region [.op 12 (.move (.t 2)) none .any, .op 13 (.move (.t 1)) none .any, .op 14 (.len 1 (.t 0)) none .any, .op 15 (.bin .lss (.t 2) (.t 0)) none .any] [4, 5, 6, 0]) (.cond (.t 3) (.pre [0, 1, 2] .skip) (.pre [1] (.exit 0)))) c153_n1)
def c153_l0 : SCode := .loop true c153_l0b
@[simp] def c153_n4 : SCode := (.seq (.region [.op 5 (.move (.t 0)) none .any, .op 6 (.len 1 (.t 0)) none .any, .op 7 (.bin .lss (.t 0) (.k (.c (.int .i64 1)))) none .any] [3, 0]) (.cond (.t 1) (.region [.op 8 (.bad 18) none .any, .eff (.bad 41) none .any] [1]) (.pre [0] .skip)))
@[simp] def c153_n6 : SCode := (.region [.op 9 (.move (.t 0)) none .any, .op 10 (.idxSlice 1 (.t 0) (.k (.c (.int .i64 0)))) none .any, .op 11 (.load none (.t 0)) none .any, .op 3 (.move (.t 0)) none .any] [4, 0])
def c153_n5 : SCode := .seq c153_n6 (.seq (.seq (.region [.op 4 (.move (.k (.c (.int .i64 1)))) none .any] [1, 2, 0]) (.block 0 [some 3] c153_l0)) (.seq (.region [.op 24 (.move (.t 0)) none .any, .op 2 (.move (.t 0)) none .any] [0]) .ret))
instance : IsSeq c153_n5 c153_n6 (.seq (.seq (.region [.op 4 (.move (.k (.c (.int .i64 1)))) none .any] [1, 2, 0]) (.block 0 [some 3] c153_l0)) (.seq (.region [.op 24 (.move (.t 0)) none .any, .op 2 (.move (.t 0)) none .any] [0]) .ret)) := ⟨rfl⟩
def c153_n3 : SCode := .seq c153_n4 c153_n5
instance : IsSeq c153_n3 c153_n4 c153_n5 := ⟨rfl⟩
def c153 : SCode := (.seq (.region [.op 2 (.move (.k (.c (.int .i64 0)))) none .any] [1]) c153_n3)
def F153 : SFunc := .code .pure 25 1 [some 2] [.tmp 0] c153

-- slices.Max[[]int,int]
-- c154_l0: env [0, 3, 4]
@[simp] def c154_n2 : SCode := (.block 1 [some 0, some 3, some 4] (.region [.op 18 (.move (.t 1)) none .any, .op 19 (.move (.t 1)) none .any, .op 20 (.move (.t 4)) none .any, .op 21 (.idxSlice 1 (.t 1) (.t 0)) none .any, .op 22 (.load none (.t 0)) none .any, .op 23 (.max (.t 4) [(.t 0)]) none .any, .op 3 (.move (.t 0)) none .any] [7, 0, 9]))
def c154_n1 : SCode := .seq c154_n2 (.region [.op 16 (.move (.t 2)) none .any, .op 17 (.bin .add (.t 0) (.k (.c (.int .i64 1)))) none .any, .op 4 (.move (.t 0)) none .any] [3, 4, 0])
instance : IsSeq c154_n1 c154_n2 (.region [.op 16 (.move (.t 2)) none .any, .op 17 (.bin .add (.t 0) (.k (.c (.int .i64 1)))) none .any, .op 4 (.move (.t 0)) none .any] [3, 4, 0]) := ⟨rfl⟩
def c154_l0b : SCode := (.seq (.seq (.region [.op 12 (.move (.t 2)) none .any, .op 13 (.move (.t 1)) none .any, .op 14 (.len 1 (.t 0)) none .any, .op 15 (.bin .lss (.t 2) (.t 0)) none .any] [4, 5, 6, 0]) (.cond (.t 3) (.pre [0, 1, 2] .skip) (.pre [1] (.exit 0)))) c154_n1)
def c154_l0 : SCode := .loop true c154_l0b
@[simp] def c154_n4 : SCode := (.seq (.region [.op 5 (.move (.t 0)) none .any, .op 6 (.len 1 (.t 0)) none .any, .op 7 (.bin .lss (.t 0) (.k (.c (.int .i64 1)))) none .any] [3, 0]) (.cond (.t 1) (.region [.op 8 (.bad 18) none .any, .eff (.bad 41) none .any] [1]) (.pre [0] .skip)))
@[simp] def c154_n6 : SCode := (.region [.op 9 (.move (.t 0)) none .any, .op 10 (.idxSlice 1 (.t 0) (.k (.c (.int .i64 0)))) none .any, .op 11 (.load none (.t 0)) none .any, .op 3 (.move (.t 0)) none .any] [4, 0])
def c154_n5 : SCode := .seq c154_n6 (.seq (.seq (.region [.op 4 (.move (.k (.c (.int .i64 1)))) none .any] [1, 2, 0]) (.block 0 [some 3] c154_l0)) (.seq (.region [.op 24 (.move (.t 0)) none .any, .op 2 (.move (.t 0)) none .any] [0]) .ret))
instance : IsSeq c154_n5 c154_n6 (.seq (.seq (.region [.op 4 (.move (.k (.c (.int .i64 1)))) none .any] [1, 2, 0]) (.block 0 [some 3] c154_l0)) (.seq (.region [.op 24 (.move (.t 0)) none .any, .op 2 (.move (.t 0)) none .any] [0]) .ret)) := ⟨rfl⟩
def c154_n3 : SCode := .seq c154_n4 c154_n5
instance : IsSeq c154_n3 c154_n4 c154_n5 := ⟨rfl⟩
def c154 : SCode := (.seq (.region [.op 2 (.move (.k (.c (.int .i64 0)))) none .any] [1]) c154_n3)
def F154 : SFunc := .code .pure 25 1 [some 2] [.tmp 0] c154

-- crux/start.checkResult$1
def c157 : SCode := (.seq (.region [.op 2 (.box (.t 0)) none .any, .op 3 (.move (.k (.c (.bool false)))) none .any] [3, 1]) (.seq (.region [.op 4 (.fieldAddr 0 (.t 1)) none .any, .op 5 (.load none (.t 0)) none .any, .op 6 (.fieldAddr 0 (.t 2)) none .any, .op 7 (.load none (.t 0)) none .any, .op 8 (.bin .eql (.t 2) (.t 0)) none .any, .op 3 (.move (.t 0)) none .any] [0]) .ret))
def F157 : SFunc := .code .pure 9 2 [some 3] [.tmp 0] c157

-- slices.ContainsFunc[[]int,int]
def c158 : SCode := (.seq (.region [.op 4 (.move (.k (.c (.bool false)))) none .any] [1, 2]) (.seq (.region [.op 5 (.move (.t 0)) none .any, .op 6 (.move (.t 2)) none .any, .op 7 (.call false (.k (.c (.func 170 [] []))) [(.t 1), (.t 0)]) none .any, .op 8 (.bin .geq (.t 0) (.k (.c (.int .i64 0)))) none .any, .op 4 (.move (.t 0)) none .any] [0]) .ret))
def F158 : SFunc := .code .pure 9 2 [some 4] [.tmp 0] c158

-- crux/start.checkResult$2
def c159 : SCode := (.seq (.region [.op 2 (.move (.k (.c (.bool false)))) none .any] [1]) (.seq (.region [.op 3 (.move (.t 0)) none .any, .op 4 (.bin .lss (.t 0) (.k (.c (.int .i64 (-999999999))))) none .any, .op 5 (.move (.t 0)) none .any, .orN 8 0 [.op 6 (.move (.t 3)) none .any, .op 7 (.bin .gtr (.t 0) (.k (.c (.int .i64 999999999)))) none .any] (.t 0), .op 2 (.move (.t 0)) none .any] [0]) .ret))
def F159 : SFunc := .code .pure 9 1 [some 2] [.tmp 0] c159

-- slices.IndexFunc[[]crux/api.Result,crux/api.Result]
-- c160_l0: env [0, 1, 7, 8]
@[simp] def c160_n4 : SCode := (.region [.op 10 (.move (.t 3)) none .any, .op 5 (.move (.t 0)) none .any] [2, 3, 0, 4, 5])
@[simp] def c160_n6 : SCode := (.region [.op 11 (.move (.t 1)) none .any, .op 12 (.move (.t 1)) none .any, .op 13 (.move (.t 4)) none .any, .op 14 (.idxSlice 3 (.t 1) (.t 0)) none .any, .op 15 (.load (some 3) (.t 0)) none .any, .op 16 (.call false (.t 4) [(.t 0)]) none .any] [6, 7, 8, 9, 10, 0])
def c160_n5 : SCode := .seq c160_n6 (.cond (.t 5) (.seq (.region [.op 17 (.move (.t 2)) none .any, .op 4 (.move (.t 0)) none .any] [0]) .ret) (.pre [0, 1, 3, 4] .skip))
instance : IsSeq c160_n5 c160_n6 (.cond (.t 5) (.seq (.region [.op 17 (.move (.t 2)) none .any, .op 4 (.move (.t 0)) none .any] [0]) .ret) (.pre [0, 1, 3, 4] .skip)) := ⟨rfl⟩
def c160_n3 : SCode := .seq c160_n4 c160_n5
instance : IsSeq c160_n3 c160_n4 c160_n5 := ⟨rfl⟩
def c160_n2 : SCode := .seq (.block 1 [some 0, some 1, some 7, some 8] c160_n3) (.region [.op 18 (.bin .add (.t 3) (.k (.c (.int .i64 1)))) none .any, .op 8 (.move (.t 0)) none .any] [2, 3, 4, 0])
instance : IsSeq c160_n2 (.block 1 [some 0, some 1, some 7, some 8] c160_n3) (.region [.op 18 (.bin .add (.t 3) (.k (.c (.int .i64 1)))) none .any, .op 8 (.move (.t 0)) none .any] [2, 3, 4, 0]) := ⟨rfl⟩
def c160_n1 : SCode := .seq (.cond (.t 4) (.pre [0, 1, 2, 3] .skip) (.pre [] (.exit 0))) c160_n2
instance : IsSeq c160_n1 (.cond (.t 4) (.pre [0, 1, 2, 3] .skip) (.pre [] (.exit 0))) c160_n2 := ⟨rfl⟩
def c160_l0b : SCode := (.seq (.region [.op 9 (.bin .lss (.t 3) (.t 2)) none .any] [1, 2, 3, 4, 0]) c160_n1)
def c160_l0 : SCode := .loop true c160_l0b
def c160 : SCode := (.seq (.region [.op 4 (.move (.k (.c (.int .i64 0)))) none .any] [1, 2]) (.seq (.seq (.region [.op 6 (.move (.t 0)) none .any, .op 7 (.len 1 (.t 0)) none .any, .op 8 (.move (.k (.c (.int .i64 0)))) none .any] [3, 4, 1, 0]) (.block 0 [] c160_l0)) (.seq (.region [.op 4 (.move (.k (.c (.int .i64 (-1))))) none .any] [0]) .ret)))
def F160 : SFunc := .code .shared 19 2 [some 4] [.tmp 0] c160

-- crux/start.checkResult$3
def c161 : SCode := (.seq (.region [.op 1 (.box (.t 0)) none .any, .op 2 (.move (.k (.c (.bool false)))) none .any] [1]) (.seq (.region [.op 3 (.fieldAddr 1 (.t 0)) none .any, .op 4 (.load none (.t 0)) none .any, .op 5 (.bin .eql (.t 0) (.k (.c (.str [])))) none .any, .op 2 (.move (.t 0)) none .any] [0]) .ret))
def F161 : SFunc := .code .pure 6 1 [some 2] [.tmp 0] c161

-- crux/start.forward$1
def c162 : SCode := (.seq (.region [.op 1 (.box (.t 0)) none .any, .op 2 (.move (.k (.c (.bool false)))) none .any] [1]) (.seq (.region [.op 3 (.fieldAddr 1 (.t 0)) none .any, .op 4 (.load none (.t 0)) none .any, .op 5 (.bin .neq (.t 0) (.k (.c (.str [])))) none .any, .op 2 (.move (.t 0)) none .any] [0]) .ret))
def F162 : SFunc := .code .pure 6 1 [some 2] [.tmp 0] c162

-- slices.SortStableFunc[[]crux/api.Result,crux/api.Result]
def c163 : SCode := (.region [.op 4 (.move (.t 0)) none .any, .op 5 (.move (.t 1)) none .any, .op 6 (.len 1 (.t 0)) none .any, .op 7 (.move (.t 4)) none .any, .op 8 (.call false (.k (.c (.func 171 [] []))) [(.t 3), (.t 1), (.t 0)]) none .any] [])
def F163 : SFunc := .code .shared 9 2 [] [] c163

-- crux/start.forward$2
def c164 : SCode := (.seq (.region [.op 2 (.box (.t 0)) none .any, .op 3 (.box (.t 2)) none .any, .op 4 (.move (.k (.c (.int .i64 0)))) none .any] [2, 1]) (.seq (.region [.op 5 (.fieldAddr 2 (.t 1)) none .any, .op 6 (.load none (.t 0)) none .any, .op 7 (.fieldAddr 2 (.t 2)) none .any, .op 8 (.load none (.t 0)) none .any, .op 9 (.call false (.k (.c (.func 165 [] []))) [(.t 2), (.t 0)]) none .any, .op 4 (.move (.t 0)) none .any] [0]) .ret))
def F164 : SFunc := .code .pure 10 2 [some 4] [.tmp 0] c164

-- slices.Compare[[]int,int]
-- c165_l0: env [0, 1, 9, 10, 11]
@[simp] def c165_n4 : SCode := (.region [.op 13 (.move (.t 4)) none .any, .op 14 (.idxSlice 1 (.t 3) (.t 5)) none .any, .op 15 (.load none (.t 0)) none .any, .op 5 (.move (.t 2)) none .any, .op 6 (.move (.t 1)) none .any] [5, 6, 1, 0, 7, 8, 9])
@[simp] def c165_n6 : SCode := (.seq (.region [.op 16 (.move (.t 2)) none .any, .op 17 (.move (.t 2)) none .any, .op 18 (.len 1 (.t 0)) none .any, .op 19 (.bin .geq (.t 2) (.t 0)) none .any] [4, 5, 6, 7, 8, 9, 10, 0]) (.cond (.t 7) (.seq (.region [.op 4 (.move (.k (.c (.int .i64 1)))) none .any] [0]) .ret) (.pre [0, 1, 2, 3, 4, 5, 6] .skip)))
@[simp] def c165_n8 : SCode := (.region [.op 20 (.move (.t 1)) none .any, .op 21 (.move (.t 3)) none .any, .op 22 (.idxSlice 1 (.t 1) (.t 0)) none .any, .op 23 (.load none (.t 0)) none .any, .op 7 (.move (.t 0)) none .any] [5, 6, 8, 0, 9, 10, 11])
@[simp] def c165_n10 : SCode := (.region [.op 24 (.move (.t 2)) none .any, .op 25 (.move (.t 4)) none .any, .op 26 (.call false (.k (.c (.func 96 [] []))) [(.t 1), (.t 0)]) none .any, .op 8 (.move (.t 0)) none .any] [4, 5, 0, 8, 9, 10])
def c165_n9 : SCode := .seq c165_n10 (.seq (.region [.op 27 (.move (.t 2)) none .any, .op 28 (.bin .neq (.t 0) (.k (.c (.int .i64 0)))) none .any] [2, 3, 4, 5, 6, 7, 0]) (.cond (.t 6) (.seq (.region [.op 29 (.move (.t 2)) none .any, .op 4 (.move (.t 0)) none .any] [0]) .ret) (.pre [0, 1, 3, 4, 5] .skip)))
instance : IsSeq c165_n9 c165_n10 (.seq (.region [.op 27 (.move (.t 2)) none .any, .op 28 (.bin .neq (.t 0) (.k (.c (.int .i64 0)))) none .any] [2, 3, 4, 5, 6, 7, 0]) (.cond (.t 6) (.seq (.region [.op 29 (.move (.t 2)) none .any, .op 4 (.move (.t 0)) none .any] [0]) .ret) (.pre [0, 1, 3, 4, 5] .skip))) := ⟨rfl⟩
def c165_n7 : SCode := .seq c165_n8 c165_n9
instance : IsSeq c165_n7 c165_n8 c165_n9 := ⟨rfl⟩
def c165_n5 : SCode := .seq c165_n6 c165_n7
instance : IsSeq c165_n5 c165_n6 c165_n7 := ⟨rfl⟩
def c165_n3 : SCode := .seq c165_n4 c165_n5
instance : IsSeq c165_n3 c165_n4 c165_n5 := ⟨rfl⟩
def c165_n2 : SCode := .seq (.block 1 [some 0, some 1, some 9, some 10, some 11] c165_n3) (.region [.op 30 (.bin .add (.t 4) (.k (.c (.int .i64 1)))) none .any, .op 11 (.move (.t 0)) none .any] [2, 3, 4, 5, 0])
instance : IsSeq c165_n2 (.block 1 [some 0, some 1, some 9, some 10, some 11] c165_n3) (.region [.op 30 (.bin .add (.t 4) (.k (.c (.int .i64 1)))) none .any, .op 11 (.move (.t 0)) none .any] [2, 3, 4, 5, 0]) := ⟨rfl⟩
def c165_n1 : SCode := .seq (.cond (.t 5) (.pre [0, 1, 2, 3, 4] .skip) (.pre [0, 1] (.exit 0))) c165_n2
instance : IsSeq c165_n1 (.cond (.t 5) (.pre [0, 1, 2, 3, 4] .skip) (.pre [0, 1] (.exit 0))) c165_n2 := ⟨rfl⟩
def c165_l0b : SCode := (.seq (.region [.op 12 (.bin .lss (.t 4) (.t 3)) none .any] [1, 2, 3, 4, 5, 0]) c165_n1)
def c165_l0 : SCode := .loop true c165_l0b
@[simp] def c165_n12 : SCode := (.seq (.region [.op 9 (.move (.t 0)) none .any, .op 10 (.len 1 (.t 0)) none .any, .op 11 (.move (.k (.c (.int .i64 0)))) none .any] [3, 4, 2, 1, 0]) (.block 0 [some 0, some 1] c165_l0))
@[simp] def c165_n14 : SCode := (.seq (.region [.op 31 (.move (.t 0)) none .any, .op 32 (.len 1 (.t 0)) none .any, .op 33 (.move (.t 3)) none .any, .op 34 (.len 1 (.t 0)) none .any, .op 35 (.bin .lss (.t 2) (.t 0)) none .any] [0]) (.cond (.t 0) (.seq (.region [.op 4 (.move (.k (.c (.int .i64 (-1))))) none .any] [0]) .ret) (.pre [] .skip)))
def c165_n13 : SCode := .seq c165_n14 (.seq (.region [.op 4 (.move (.k (.c (.int .i64 0)))) none .any] [0]) .ret)
instance : IsSeq c165_n13 c165_n14 (.seq (.region [.op 4 (.move (.k (.c (.int .i64 0)))) none .any] [0]) .ret) := ⟨rfl⟩
def c165_n11 : SCode := .seq c165_n12 c165_n13
instance : IsSeq c165_n11 c165_n12 c165_n13 := ⟨rfl⟩
def c165 : SCode := (.seq (.region [.op 4 (.move (.k (.c (.int .i64 0)))) none .any] [1, 2]) c165_n11)
def F165 : SFunc := .code .pure 36 2 [some 4] [.tmp 0] c165

-- slices.Equal[[]int,int]
-- c166_l0: env [0, 1, 12, 13]
@[simp] def c166_n4 : SCode := (.region [.op 15 (.move (.t 3)) none .any, .op 5 (.move (.t 0)) none .any] [2, 3, 0, 4, 5])
@[simp] def c166_n6 : SCode := (.draw 0 [.op 16 (.move (.t 0)) none .any, .op 17 (.move (.t 3)) none .any, .op 18 (.idxSlice 1 (.t 1) (.t 0)) none .any, .op 19 (.load none (.t 0)) none .old, .op 20 (.move (.t 5)) none .any, .op 21 (.move (.t 7)) none .any, .op 22 (.idxSlice 1 (.t 1) (.t 0)) none .any, .op 23 (.load none (.t 0)) none .old, .op 24 (.bin .neq (.t 4) (.t 0)) none .any] [9, 10, 12, 13, 0])
def c166_n5 : SCode := .seq c166_n6 (.cond (.t 4) (.seq (.region [.op 4 (.move (.k (.c (.bool false)))) none .any] [0]) .ret) (.pre [0, 1, 2, 3] .skip))
instance : IsSeq c166_n5 c166_n6 (.cond (.t 4) (.seq (.region [.op 4 (.move (.k (.c (.bool false)))) none .any] [0]) .ret) (.pre [0, 1, 2, 3] .skip)) := ⟨rfl⟩
def c166_n3 : SCode := .seq c166_n4 c166_n5
instance : IsSeq c166_n3 c166_n4 c166_n5 := ⟨rfl⟩
def c166_n2 : SCode := .seq (.block 1 [some 0, some 1, some 12, some 13] c166_n3) (.region [.op 25 (.bin .add (.t 3) (.k (.c (.int .i64 1)))) none .any, .op 13 (.move (.t 0)) none .any] [2, 3, 4, 0])
instance : IsSeq c166_n2 (.block 1 [some 0, some 1, some 12, some 13] c166_n3) (.region [.op 25 (.bin .add (.t 3) (.k (.c (.int .i64 1)))) none .any, .op 13 (.move (.t 0)) none .any] [2, 3, 4, 0]) := ⟨rfl⟩
def c166_n1 : SCode := .seq (.cond (.t 4) (.pre [0, 1, 2, 3] .skip) (.pre [] (.exit 0))) c166_n2
instance : IsSeq c166_n1 (.cond (.t 4) (.pre [0, 1, 2, 3] .skip) (.pre [] (.exit 0))) c166_n2 := ⟨rfl⟩
def c166_l0b : SCode := (.seq (.region [.op 14 (.bin .lss (.t 3) (.t 2)) none .any] [1, 2, 3, 4, 0]) c166_n1)
def c166_l0 : SCode := .loop true c166_l0b
@[simp] def c166_n8 : SCode := (.seq (.region [.op 6 (.move (.t 0)) none .any, .op 7 (.len 1 (.t 0)) none .any, .op 8 (.move (.t 3)) none .any, .op 9 (.len 1 (.t 0)) none .any, .op 10 (.bin .neq (.t 2) (.t 0)) none .any] [5, 6, 0]) (.cond (.t 2) (.seq (.region [.op 4 (.move (.k (.c (.bool false)))) none .any] [0]) .ret) (.pre [0, 1] .skip)))
def c166_n7 : SCode := .seq c166_n8 (.seq (.seq (.region [.op 11 (.move (.t 0)) none .any, .op 12 (.len 1 (.t 0)) none .any, .op 13 (.move (.k (.c (.int .i64 0)))) none .any] [3, 4, 1, 0]) (.block 0 [] c166_l0)) (.seq (.region [.op 4 (.move (.k (.c (.bool true)))) none .any] [0]) .ret))
instance : IsSeq c166_n7 c166_n8 (.seq (.seq (.region [.op 11 (.move (.t 0)) none .any, .op 12 (.len 1 (.t 0)) none .any, .op 13 (.move (.k (.c (.int .i64 0)))) none .any] [3, 4, 1, 0]) (.block 0 [] c166_l0)) (.seq (.region [.op 4 (.move (.k (.c (.bool true)))) none .any] [0]) .ret)) := ⟨rfl⟩
def c166 : SCode := (.seq (.region [.op 4 (.move (.k (.c (.bool false)))) none .any] [1, 2]) c166_n7)
def F166 : SFunc := .code .pure 26 2 [some 4] [.tmp 0] c166

-- slices.insertionSortCmpFunc[int]
-- c167_l0: env [0, 1, 2, 3, 8, 9]
-- c167_l1: env [0, 1, 2, 3, 8]
@[simp] def c167_n2 : SCode := (.draw 0 [.op 37 (.move (.t 0)) none .any, .op 38 (.move (.t 6)) none .any, .op 39 (.move (.t 2)) none .any, .op 40 (.move (.t 8)) none .any, .op 41 (.bin .sub (.t 0) (.k (.c (.int .i64 1)))) none .any, .op 42 (.move (.t 5)) none .any, .op 43 (.move (.t 11)) none .any, .op 44 (.bin .sub (.t 0) (.k (.c (.int .i64 1)))) none .any, .op 45 (.idxSlice 1 (.t 2) (.t 0)) none .any, .op 46 (.load none (.t 0)) none .old, .op 47 (.move (.t 10)) none .any, .op 48 (.move (.t 16)) none .any, .op 49 (.idxSlice 1 (.t 1) (.t 0)) none .any, .op 50 (.load none (.t 0)) none .old, .op 51 (.idxSlice 1 (.t 13) (.t 12)) none .any, .eff (.store 1 (.t 0) (.t 5)) none .old, .op 52 (.idxSlice 1 (.t 12) (.t 10)) none .any, .eff (.store 1 (.t 0) (.t 2)) none .old] [16, 17, 18, 19, 20, 21])
def c167_n1 : SCode := .seq (.block 3 [some 0, some 1, some 2, some 3, some 8, some 9] c167_n2) (.region [.op 35 (.move (.t 5)) none .any, .op 36 (.bin .sub (.t 0) (.k (.c (.int .i64 1)))) none .any, .op 9 (.move (.t 0)) none .any] [3, 4, 5, 6, 7, 0])
instance : IsSeq c167_n1 (.block 3 [some 0, some 1, some 2, some 3, some 8, some 9] c167_n2) (.region [.op 35 (.move (.t 5)) none .any, .op 36 (.bin .sub (.t 0) (.k (.c (.int .i64 1)))) none .any, .op 9 (.move (.t 0)) none .any] [3, 4, 5, 6, 7, 0]) := ⟨rfl⟩
def c167_l0b : SCode := (.seq (.seq (.draw 0 [.op 18 (.move (.t 5)) none .any, .op 19 (.move (.t 2)) none .any, .op 20 (.bin .gtr (.t 1) (.t 0)) none .any, .op 21 (.move (.t 0)) none .any, .andN 34 0 [.op 22 (.move (.t 7)) none .any, .op 23 (.move (.t 5)) none .any, .op 24 (.move (.t 11)) none .any, .op 25 (.idxSlice 1 (.t 1) (.t 0)) none .any, .op 26 (.load none (.t 0)) none .old, .op 27 (.move (.t 9)) none .any, .op 28 (.move (.t 15)) none .any, .op 29 (.bin .sub (.t 0) (.k (.c (.int .i64 1)))) none .any, .op 30 (.idxSlice 1 (.t 2) (.t 0)) none .any, .op 31 (.load none (.t 0)) none .old, .op 32 (.call false (.t 9) [(.t 5), (.t 0)]) none .any, .op 33 (.bin .lss (.t 0) (.k (.c (.int .i64 0)))) none .any] (.t 0)] [5, 6, 7, 8, 9, 10, 0]) (.cond (.t 6) (.pre [0, 1, 2, 3, 4, 5] .skip) (.pre [0, 1, 2, 3, 4] (.exit 2)))) c167_n1)
def c167_l0 : SCode := .loop true c167_l0b
@[simp] def c167_n4 : SCode := (.block 1 [some 0, some 1, some 2, some 3, some 8] (.seq (.region [.op 17 (.move (.t 4)) none .any, .op 9 (.move (.t 0)) none .any] [2, 3, 4, 5, 6, 0]) (.block 2 [some 0, some 1, some 2, some 3, some 8] c167_l0)))
def c167_n3 : SCode := .seq c167_n4 (.region [.op 15 (.move (.t 4)) none .any, .op 16 (.bin .add (.t 0) (.k (.c (.int .i64 1)))) none .any, .op 8 (.move (.t 0)) none .any] [3, 4, 5, 6, 0])
instance : IsSeq c167_n3 c167_n4 (.region [.op 15 (.move (.t 4)) none .any, .op 16 (.bin .add (.t 0) (.k (.c (.int .i64 1)))) none .any, .op 8 (.move (.t 0)) none .any] [3, 4, 5, 6, 0]) := ⟨rfl⟩
def c167_l1b : SCode := (.seq (.seq (.region [.op 12 (.move (.t 4)) none .any, .op 13 (.move (.t 3)) none .any, .op 14 (.bin .lss (.t 1) (.t 0)) none .any] [3, 4, 5, 6, 7, 0]) (.cond (.t 5) (.pre [0, 1, 2, 3, 4] .skip) (.pre [] (.exit 0)))) c167_n3)
def c167_l1 : SCode := .loop true c167_l1b
def c167 : SCode := (.seq (.region [.op 10 (.move (.t 1)) none .any, .op 11 (.bin .add (.t 0) (.k (.c (.int .i64 1)))) none .any, .op 8 (.move (.t 0)) none .any] [3, 4, 5, 6, 0]) (.block 0 [] c167_l1))
def F167 : SFunc := .code .shared 53 4 [] [] c167

-- slices.symMergeCmpFunc[int]
-- c168_l0: env [0, 1, 4, 10, 11]
-- c168_l1: env [0, 10, 13]
-- c168_l2: env [0, 2, 4, 14, 15]
-- c168_l3: env [0, 14, 17]
-- c168_l4: env [0, 1, 2, 3, 4, 18, 19, 20, 21, 22]
@[simp] def c168_n3 : SCode := (.region [.op 34 (.move (.t 3)) none .any, .op 35 (.move (.t 5)) none .any, .op 36 (.bin .add (.t 1) (.t 0)) none .any, .op 37 (.conv .u64 (.t 0)) none .any, .op 38 (.bin .shr (.t 0) (.k (.c (.int .u64 1)))) none .any, .op 39 (.conv .i64 (.t 0)) none .any, .op 12 (.move (.t 0)) none .any] [7, 8, 9, 10, 11, 0])
@[simp] def c168_n5 : SCode := (.draw 0 [.op 40 (.move (.t 2)) none .any, .op 41 (.move (.t 1)) none .any, .op 42 (.move (.t 7)) none .any, .op 43 (.idxSlice 1 (.t 1) (.t 0)) none .any, .op 44 (.load none (.t 0)) none .old, .op 45 (.move (.t 5)) none .any, .op 46 (.move (.t 7)) none .any, .op 47 (.idxSlice 1 (.t 1) (.t 0)) none .any, .op 48 (.load none (.t 0)) none .old, .op 49 (.call false (.t 8) [(.t 4), (.t 0)]) none .any, .op 50 (.bin .lss (.t 0) (.k (.c (.int .i64 0)))) none .any] [11, 12, 13, 14, 15, 16, 0])
def c168_n4 : SCode := .seq c168_n5 (.cond (.t 6) (.region [.op 51 (.move (.t 5)) none .any, .op 52 (.bin .add (.t 0) (.k (.c (.int .i64 1)))) none .any, .op 10 (.move (.t 0)) none .any] [3, 4, 5, 0, 7]) (.region [.op 53 (.move (.t 5)) none .any, .op 11 (.move (.t 0)) none .any] [2, 3, 4, 5, 0]))
instance : IsSeq c168_n4 c168_n5 (.cond (.t 6) (.region [.op 51 (.move (.t 5)) none .any, .op 52 (.bin .add (.t 0) (.k (.c (.int .i64 1)))) none .any, .op 10 (.move (.t 0)) none .any] [3, 4, 5, 0, 7]) (.region [.op 53 (.move (.t 5)) none .any, .op 11 (.move (.t 0)) none .any] [2, 3, 4, 5, 0])) := ⟨rfl⟩
def c168_n2 : SCode := .seq c168_n3 c168_n4
instance : IsSeq c168_n2 c168_n3 c168_n4 := ⟨rfl⟩
def c168_n1 : SCode := .block 1 [some 0, some 1, some 4, some 10, some 11] c168_n2
instance : IsBlock c168_n1 1 [some 0, some 1, some 4, some 10, some 11] c168_n2 := ⟨rfl⟩
def c168_l0b : SCode := (.seq (.seq (.region [.op 31 (.move (.t 3)) none .any, .op 32 (.move (.t 5)) none .any, .op 33 (.bin .lss (.t 1) (.t 0)) none .any] [3, 4, 5, 6, 7, 0]) (.cond (.t 5) (.pre [0, 1, 2, 3, 4] .skip) (.pre [0, 1, 3] (.exit 0)))) c168_n1)
def c168_l0 : SCode := .loop true c168_l0b
@[simp] def c168_n7 : SCode := (.draw 0 [.op 61 (.move (.t 0)) none .any, .op 62 (.move (.t 3)) none .any, .op 63 (.move (.t 2)) none .any, .op 64 (.move (.t 5)) none .any, .op 65 (.bin .add (.t 0) (.k (.c (.int .i64 1)))) none .any, .op 66 (.move (.t 5)) none .any, .op 67 (.move (.t 8)) none .any, .op 68 (.bin .add (.t 0) (.k (.c (.int .i64 1)))) none .any, .op 69 (.idxSlice 1 (.t 2) (.t 0)) none .any, .op 70 (.load none (.t 0)) none .old, .op 71 (.move (.t 10)) none .any, .op 72 (.move (.t 13)) none .any, .op 73 (.idxSlice 1 (.t 1) (.t 0)) none .any, .op 74 (.load none (.t 0)) none .old, .op 75 (.idxSlice 1 (.t 13) (.t 12)) none .any, .eff (.store 1 (.t 0) (.t 5)) none .old, .op 76 (.idxSlice 1 (.t 12) (.t 10)) none .any, .eff (.store 1 (.t 0) (.t 2)) none .old] [16, 17, 18])
def c168_n6 : SCode := .seq (.block 3 [some 0, some 10, some 13] c168_n7) (.region [.op 59 (.move (.t 2)) none .any, .op 60 (.bin .add (.t 0) (.k (.c (.int .i64 1)))) none .any, .op 13 (.move (.t 0)) none .any] [3, 4, 0])
instance : IsSeq c168_n6 (.block 3 [some 0, some 10, some 13] c168_n7) (.region [.op 59 (.move (.t 2)) none .any, .op 60 (.bin .add (.t 0) (.k (.c (.int .i64 1)))) none .any, .op 13 (.move (.t 0)) none .any] [3, 4, 0]) := ⟨rfl⟩
def c168_l1b : SCode := (.seq (.seq (.region [.op 55 (.move (.t 2)) none .any, .op 56 (.move (.t 2)) none .any, .op 57 (.bin .sub (.t 0) (.k (.c (.int .i64 1)))) none .any, .op 58 (.bin .lss (.t 2) (.t 0)) none .any] [4, 5, 6, 0]) (.cond (.t 3) (.pre [0, 1, 2] .skip) (.pre [] (.exit 2)))) c168_n6)
def c168_l1 : SCode := .loop true c168_l1b
@[simp] def c168_n10 : SCode := (.region [.op 86 (.move (.t 3)) none .any, .op 87 (.move (.t 5)) none .any, .op 88 (.bin .add (.t 1) (.t 0)) none .any, .op 89 (.conv .u64 (.t 0)) none .any, .op 90 (.bin .shr (.t 0) (.k (.c (.int .u64 1)))) none .any, .op 91 (.conv .i64 (.t 0)) none .any, .op 16 (.move (.t 0)) none .any] [7, 8, 9, 10, 11, 0])
@[simp] def c168_n12 : SCode := (.draw 0 [.op 92 (.move (.t 2)) none .any, .op 93 (.move (.t 1)) none .any, .op 94 (.move (.t 3)) none .any, .op 95 (.idxSlice 1 (.t 1) (.t 0)) none .any, .op 96 (.load none (.t 0)) none .old, .op 97 (.move (.t 5)) none .any, .op 98 (.move (.t 11)) none .any, .op 99 (.idxSlice 1 (.t 1) (.t 0)) none .any, .op 100 (.load none (.t 0)) none .old, .op 101 (.call false (.t 8) [(.t 4), (.t 0)]) none .any, .op 102 (.bin .lss (.t 0) (.k (.c (.int .i64 0)))) none .any, .op 103 (.not (.t 0)) none .any] [12, 13, 14, 15, 16, 17, 0])
def c168_n11 : SCode := .seq c168_n12 (.cond (.t 6) (.region [.op 104 (.move (.t 5)) none .any, .op 105 (.bin .add (.t 0) (.k (.c (.int .i64 1)))) none .any, .op 14 (.move (.t 0)) none .any] [3, 4, 5, 0, 7]) (.region [.op 106 (.move (.t 5)) none .any, .op 15 (.move (.t 0)) none .any] [2, 3, 4, 5, 0]))
instance : IsSeq c168_n11 c168_n12 (.cond (.t 6) (.region [.op 104 (.move (.t 5)) none .any, .op 105 (.bin .add (.t 0) (.k (.c (.int .i64 1)))) none .any, .op 14 (.move (.t 0)) none .any] [3, 4, 5, 0, 7]) (.region [.op 106 (.move (.t 5)) none .any, .op 15 (.move (.t 0)) none .any] [2, 3, 4, 5, 0])) := ⟨rfl⟩
def c168_n9 : SCode := .seq c168_n10 c168_n11
instance : IsSeq c168_n9 c168_n10 c168_n11 := ⟨rfl⟩
def c168_n8 : SCode := .block 5 [some 0, some 2, some 4, some 14, some 15] c168_n9
instance : IsBlock c168_n8 5 [some 0, some 2, some 4, some 14, some 15] c168_n9 := ⟨rfl⟩
def c168_l2b : SCode := (.seq (.seq (.region [.op 83 (.move (.t 3)) none .any, .op 84 (.move (.t 5)) none .any, .op 85 (.bin .lss (.t 1) (.t 0)) none .any] [3, 4, 5, 6, 7, 0]) (.cond (.t 5) (.pre [0, 1, 2, 3, 4] .skip) (.pre [0, 1, 3] (.exit 4)))) c168_n8)
def c168_l2 : SCode := .loop true c168_l2b
@[simp] def c168_n14 : SCode := (.draw 0 [.op 113 (.move (.t 0)) none .any, .op 114 (.move (.t 3)) none .any, .op 115 (.move (.t 2)) none .any, .op 116 (.move (.t 5)) none .any, .op 117 (.bin .sub (.t 0) (.k (.c (.int .i64 1)))) none .any, .op 118 (.move (.t 5)) none .any, .op 119 (.move (.t 8)) none .any, .op 120 (.bin .sub (.t 0) (.k (.c (.int .i64 1)))) none .any, .op 121 (.idxSlice 1 (.t 2) (.t 0)) none .any, .op 122 (.load none (.t 0)) none .old, .op 123 (.move (.t 10)) none .any, .op 124 (.move (.t 13)) none .any, .op 125 (.idxSlice 1 (.t 1) (.t 0)) none .any, .op 126 (.load none (.t 0)) none .old, .op 127 (.idxSlice 1 (.t 13) (.t 12)) none .any, .eff (.store 1 (.t 0) (.t 5)) none .old, .op 128 (.idxSlice 1 (.t 12) (.t 10)) none .any, .eff (.store 1 (.t 0) (.t 2)) none .old] [16, 17, 18])
def c168_n13 : SCode := .seq (.block 7 [some 0, some 14, some 17] c168_n14) (.region [.op 111 (.move (.t 2)) none .any, .op 112 (.bin .sub (.t 0) (.k (.c (.int .i64 1)))) none .any, .op 17 (.move (.t 0)) none .any] [3, 4, 0])
instance : IsSeq c168_n13 (.block 7 [some 0, some 14, some 17] c168_n14) (.region [.op 111 (.move (.t 2)) none .any, .op 112 (.bin .sub (.t 0) (.k (.c (.int .i64 1)))) none .any, .op 17 (.move (.t 0)) none .any] [3, 4, 0]) := ⟨rfl⟩
def c168_l3b : SCode := (.seq (.seq (.region [.op 108 (.move (.t 2)) none .any, .op 109 (.move (.t 2)) none .any, .op 110 (.bin .gtr (.t 1) (.t 0)) none .any] [3, 4, 5, 0]) (.cond (.t 3) (.pre [0, 1, 2] .skip) (.pre [] (.exit 6)))) c168_n13)
def c168_l3 : SCode := .loop true c168_l3b
@[simp] def c168_n17 : SCode := (.region [.op 152 (.move (.t 7)) none .any, .op 153 (.move (.t 9)) none .any, .op 154 (.bin .add (.t 1) (.t 0)) none .any, .op 155 (.conv .u64 (.t 0)) none .any, .op 156 (.bin .shr (.t 0) (.k (.c (.int .u64 1)))) none .any, .op 157 (.conv .i64 (.t 0)) none .any, .op 23 (.move (.t 0)) none .any] [7, 8, 9, 10, 11, 12, 13, 14, 15, 16, 0])
@[simp] def c168_n19 : SCode := (.draw 0 [.op 158 (.move (.t 4)) none .any, .op 159 (.move (.t 1)) none .any, .op 160 (.move (.t 11)) none .any, .op 161 (.move (.t 13)) none .any, .op 162 (.bin .sub (.t 1) (.t 0)) none .any, .op 163 (.idxSlice 1 (.t 3) (.t 0)) none .any, .op 164 (.load none (.t 0)) none .old, .op 165 (.move (.t 7)) none .any, .op 166 (.move (.t 18)) none .any, .op 167 (.idxSlice 1 (.t 1) (.t 0)) none .any, .op 168 (.load none (.t 0)) none .old, .op 169 (.call false (.t 10) [(.t 4), (.t 0)]) none .any, .op 170 (.bin .lss (.t 0) (.k (.c (.int .i64 0)))) none .any, .op 171 (.not (.t 0)) none .any] [14, 15, 16, 17, 18, 19, 20, 21, 22, 23, 24, 0])
def c168_n18 : SCode := .seq c168_n19 (.cond (.t 11) (.region [.op 172 (.move (.t 10)) none .any, .op 173 (.bin .add (.t 0) (.k (.c (.int .i64 1)))) none .any, .op 20 (.move (.t 0)) none .any] [3, 4, 5, 6, 7, 8, 9, 0, 11, 12]) (.region [.op 174 (.move (.t 10)) none .any, .op 21 (.move (.t 0)) none .any] [2, 3, 4, 5, 6, 7, 8, 9, 0, 11]))
instance : IsSeq c168_n18 c168_n19 (.cond (.t 11) (.region [.op 172 (.move (.t 10)) none .any, .op 173 (.bin .add (.t 0) (.k (.c (.int .i64 1)))) none .any, .op 20 (.move (.t 0)) none .any] [3, 4, 5, 6, 7, 8, 9, 0, 11, 12]) (.region [.op 174 (.move (.t 10)) none .any, .op 21 (.move (.t 0)) none .any] [2, 3, 4, 5, 6, 7, 8, 9, 0, 11])) := ⟨rfl⟩
def c168_n16 : SCode := .seq c168_n17 c168_n18
instance : IsSeq c168_n16 c168_n17 c168_n18 := ⟨rfl⟩
def c168_n15 : SCode := .block 9 [some 0, some 1, some 2, some 3, some 4, some 18, some 19, some 20, some 21, some 22] c168_n16
instance : IsBlock c168_n15 9 [some 0, some 1, some 2, some 3, some 4, some 18, some 19, some 20, some 21, some 22] c168_n16 := ⟨rfl⟩
def c168_l4b : SCode := (.seq (.seq (.region [.op 149 (.move (.t 7)) none .any, .op 150 (.move (.t 9)) none .any, .op 151 (.bin .lss (.t 1) (.t 0)) none .any] [3, 4, 5, 6, 7, 8, 9, 10, 11, 12, 0]) (.cond (.t 10) (.pre [0, 1, 2, 3, 4, 5, 6, 7, 8, 9] .skip) (.pre [0, 1, 2, 3, 4, 5, 6, 7] (.exit 8)))) c168_n15)
def c168_l4 : SCode := .loop true c168_l4b
@[simp] def c168_n22 : SCode := (.region [.op 29 (.move (.t 2)) none .any, .op 10 (.move (.t 0)) none .any] [2, 3, 5, 6, 0])
def c168_n21 : SCode := .seq c168_n22 (.seq (.region [.op 30 (.move (.t 2)) none .any, .op 11 (.move (.t 0)) none .any] [2, 3, 5, 6, 0]) (.seq (.block 0 [some 0, some 1, some 10] c168_l0) (.seq (.seq (.region [.op 54 (.move (.t 1)) none .any, .op 13 (.move (.t 0)) none .any] [2, 4, 0]) (.block 2 [] c168_l1)) .ret)))
instance : IsSeq c168_n21 c168_n22 (.seq (.region [.op 30 (.move (.t 2)) none .any, .op 11 (.move (.t 0)) none .any] [2, 3, 5, 6, 0]) (.seq (.block 0 [some 0, some 1, some 10] c168_l0) (.seq (.seq (.region [.op 54 (.move (.t 1)) none .any, .op 13 (.move (.t 0)) none .any] [2, 4, 0]) (.block 2 [] c168_l1)) .ret))) := ⟨rfl⟩
def c168_n20 : SCode := .cond (.t 5) c168_n21 (.pre [0, 1, 2, 3, 4] .skip)
instance : IsCond c168_n20 (.t 5) c168_n21 (.pre [0, 1, 2, 3, 4] .skip) := ⟨rfl⟩
@[simp] def c168_n26 : SCode := (.region [.op 81 (.move (.t 1)) none .any, .op 14 (.move (.t 0)) none .any] [2, 4, 6, 0])
def c168_n25 : SCode := .seq c168_n26 (.seq (.region [.op 82 (.move (.t 1)) none .any, .op 15 (.move (.t 0)) none .any] [2, 3, 4, 5, 0]) (.seq (.block 4 [some 0, some 2, some 14] c168_l2) (.seq (.seq (.region [.op 107 (.move (.t 1)) none .any, .op 17 (.move (.t 0)) none .any] [2, 4, 0]) (.block 6 [] c168_l3)) .ret)))
instance : IsSeq c168_n25 c168_n26 (.seq (.region [.op 82 (.move (.t 1)) none .any, .op 15 (.move (.t 0)) none .any] [2, 3, 4, 5, 0]) (.seq (.block 4 [some 0, some 2, some 14] c168_l2) (.seq (.seq (.region [.op 107 (.move (.t 1)) none .any, .op 17 (.move (.t 0)) none .any] [2, 4, 0]) (.block 6 [] c168_l3)) .ret))) := ⟨rfl⟩
def c168_n24 : SCode := .cond (.t 5) c168_n25 (.pre [0, 1, 2, 3, 4] .skip)
instance : IsCond c168_n24 (.t 5) c168_n25 (.pre [0, 1, 2, 3, 4] .skip) := ⟨rfl⟩
@[simp] def c168_n27 : SCode := (.seq (.region [.op 77 (.move (.t 3)) none .any, .op 78 (.move (.t 3)) none .any, .op 79 (.bin .sub (.t 1) (.t 0)) none .any, .op 80 (.bin .eql (.t 0) (.k (.c (.int .i64 1)))) none .any] [4, 5, 6, 7, 8, 0]) c168_n24)
@[simp] def c168_n29 : SCode := (.region [.op 129 (.move (.t 1)) none .any, .op 130 (.move (.t 4)) none .any, .op 131 (.bin .add (.t 1) (.t 0)) none .any, .op 132 (.conv .u64 (.t 0)) none .any, .op 133 (.bin .shr (.t 0) (.k (.c (.int .u64 1)))) none .any, .op 134 (.conv .i64 (.t 0)) none .any, .op 18 (.move (.t 0)) none .any] [7, 8, 9, 10, 11, 0])
@[simp] def c168_n31 : SCode := (.region [.op 135 (.move (.t 5)) none .any, .op 136 (.move (.t 3)) none .any, .op 137 (.bin .add (.t 1) (.t 0)) none .any, .op 19 (.move (.t 0)) none .any] [4, 5, 6, 7, 8, 9, 0])
@[simp] def c168_n33 : SCode := (.region [.op 20 (.move (.k (.c (.int .i64 0)))) none .any, .op 21 (.move (.k (.c (.int .i64 0)))) none .any] [2, 3, 4, 5, 6, 7, 8])
def c168_n35 : SCode := .cond (.t 7) (.seq (.region [.op 141 (.move (.t 6)) none .any, .op 142 (.move (.t 4)) none .any, .op 143 (.bin .sub (.t 1) (.t 0)) none .any, .op 20 (.move (.t 0)) none .any] [4, 5, 6, 7, 8, 9, 10, 0]) (.region [.op 144 (.move (.t 5)) none .any, .op 21 (.move (.t 0)) none .any] [2, 3, 4, 5, 6, 7, 8, 9, 0])) (.seq (.region [.op 145 (.move (.t 1)) none .any, .op 20 (.move (.t 0)) none .any] [2, 3, 4, 5, 6, 7, 8, 0]) (.region [.op 146 (.move (.t 2)) none .any, .op 21 (.move (.t 0)) none .any] [2, 3, 4, 5, 6, 7, 8, 9, 0]))
instance : IsCond c168_n35 (.t 7) (.seq (.region [.op 141 (.move (.t 6)) none .any, .op 142 (.move (.t 4)) none .any, .op 143 (.bin .sub (.t 1) (.t 0)) none .any, .op 20 (.move (.t 0)) none .any] [4, 5, 6, 7, 8, 9, 10, 0]) (.region [.op 144 (.move (.t 5)) none .any, .op 21 (.move (.t 0)) none .any] [2, 3, 4, 5, 6, 7, 8, 9, 0])) (.seq (.region [.op 145 (.move (.t 1)) none .any, .op 20 (.move (.t 0)) none .any] [2, 3, 4, 5, 6, 7, 8, 0]) (.region [.op 146 (.move (.t 2)) none .any, .op 21 (.move (.t 0)) none .any] [2, 3, 4, 5, 6, 7, 8, 9, 0])) := ⟨rfl⟩
@[simp] def c168_n36 : SCode := (.seq (.region [.op 138 (.move (.t 2)) none .any, .op 139 (.move (.t 6)) none .any, .op 140 (.bin .gtr (.t 1) (.t 0)) none .any] [3, 4, 5, 6, 7, 8, 9, 0]) c168_n35)
@[simp] def c168_n38 : SCode := (.region [.op 147 (.move (.t 6)) none .any, .op 148 (.bin .sub (.t 0) (.k (.c (.int .i64 1)))) none .any, .op 22 (.move (.t 0)) none .any] [3, 4, 5, 6, 7, 8, 9, 10, 11, 0])
@[simp] def c168_n40 : SCode := (.block 8 [some 0, some 1, some 2, some 3, some 4, some 18, some 19, some 20] c168_l4)
@[simp] def c168_n42 : SCode := (.region [.op 175 (.move (.t 6)) none .any, .op 176 (.move (.t 8)) none .any, .op 177 (.bin .sub (.t 1) (.t 0)) none .any, .op 24 (.move (.t 0)) none .any] [4, 5, 6, 7, 8, 9, 11, 0])
def c168_n44 : SCode := .cond (.t 8) (.region [.op 186 (.move (.t 0)) none .any, .op 187 (.move (.t 7)) none .any, .op 188 (.move (.t 4)) none .any, .op 189 (.move (.t 10)) none .any, .op 190 (.move (.t 8)) none .any, .op 191 (.call false (.k (.c (.func 172 [] []))) [(.t 4), (.t 3), (.t 2), (.t 1), (.t 0)]) none .any] [6, 7, 9, 10, 11, 12, 13]) (.pre [0, 1, 3, 4, 5, 6, 7] .skip)
instance : IsCond c168_n44 (.t 8) (.region [.op 186 (.move (.t 0)) none .any, .op 187 (.move (.t 7)) none .any, .op 188 (.move (.t 4)) none .any, .op 189 (.move (.t 10)) none .any, .op 190 (.move (.t 8)) none .any, .op 191 (.call false (.k (.c (.func 172 [] []))) [(.t 4), (.t 3), (.t 2), (.t 1), (.t 0)]) none .any] [6, 7, 9, 10, 11, 12, 13]) (.pre [0, 1, 3, 4, 5, 6, 7] .skip) := ⟨rfl⟩
@[simp] def c168_n45 : SCode := (.seq (.region [.op 178 (.move (.t 6)) none .any, .op 179 (.move (.t 3)) none .any, .op 180 (.bin .lss (.t 1) (.t 0)) none .any, .op 181 (.move (.t 0)) none .any, .andN 185 0 [.op 182 (.move (.t 6)) none .any, .op 183 (.move (.t 12)) none .any, .op 184 (.bin .lss (.t 1) (.t 0)) none .any] (.t 0)] [5, 6, 7, 8, 9, 10, 11, 12, 0]) c168_n44)
@[simp] def c168_n47 : SCode := (.seq (.region [.op 192 (.move (.t 1)) none .any, .op 193 (.move (.t 6)) none .any, .op 194 (.bin .lss (.t 1) (.t 0)) none .any, .op 195 (.move (.t 0)) none .any, .andN 199 0 [.op 196 (.move (.t 9)) none .any, .op 197 (.move (.t 9)) none .any, .op 198 (.bin .lss (.t 1) (.t 0)) none .any] (.t 0)] [5, 6, 7, 8, 9, 10, 11, 0]) (.cond (.t 7) (.region [.op 200 (.move (.t 0)) none .any, .op 201 (.move (.t 2)) none .any, .op 202 (.move (.t 7)) none .any, .op 203 (.move (.t 7)) none .any, .op 204 (.move (.t 7)) none .any, .op 205 (.call false (.k (.c (.func 168 [] []))) [(.t 4), (.t 3), (.t 2), (.t 1), (.t 0)]) none .any] [6, 8, 9, 10, 12]) (.pre [0, 2, 3, 4, 6] .skip)))
@[simp] def c168_n49 : SCode := (.region [.op 206 (.move (.t 3)) none .any, .op 207 (.move (.t 5)) none .any, .op 208 (.bin .lss (.t 1) (.t 0)) none .any, .op 209 (.move (.t 0)) none .any, .andN 213 0 [.op 210 (.move (.t 8)) none .any, .op 211 (.move (.t 6)) none .any, .op 212 (.bin .lss (.t 1) (.t 0)) none .any] (.t 0)] [5, 6, 7, 8, 9, 0])
def c168_n48 : SCode := .seq c168_n49 (.cond (.t 5) (.region [.op 214 (.move (.t 0)) none .any, .op 215 (.move (.t 4)) none .any, .op 216 (.move (.t 6)) none .any, .op 217 (.move (.t 4)) none .any, .op 218 (.move (.t 6)) none .any, .op 219 (.call false (.k (.c (.func 168 [] []))) [(.t 4), (.t 3), (.t 2), (.t 1), (.t 0)]) none .any] []) (.pre [] .skip))
instance : IsSeq c168_n48 c168_n49 (.cond (.t 5) (.region [.op 214 (.move (.t 0)) none .any, .op 215 (.move (.t 4)) none .any, .op 216 (.move (.t 6)) none .any, .op 217 (.move (.t 4)) none .any, .op 218 (.move (.t 6)) none .any, .op 219 (.call false (.k (.c (.func 168 [] []))) [(.t 4), (.t 3), (.t 2), (.t 1), (.t 0)]) none .any] []) (.pre [] .skip)) := ⟨rfl⟩
def c168_n46 : SCode := .seq c168_n47 c168_n48
instance : IsSeq c168_n46 c168_n47 c168_n48 := ⟨rfl⟩
def c168_n43 : SCode := .seq c168_n45 c168_n46
instance : IsSeq c168_n43 c168_n45 c168_n46 := ⟨rfl⟩
def c168_n41 : SCode := .seq c168_n42 c168_n43
instance : IsSeq c168_n41 c168_n42 c168_n43 := ⟨rfl⟩
def c168_n39 : SCode := .seq c168_n40 c168_n41
instance : IsSeq c168_n39 c168_n40 c168_n41 := ⟨rfl⟩
def c168_n37 : SCode := .seq c168_n38 c168_n39
instance : IsSeq c168_n37 c168_n38 c168_n39 := ⟨rfl⟩
def c168_n34 : SCode := .seq c168_n36 c168_n37
instance : IsSeq c168_n34 c168_n36 c168_n37 := ⟨rfl⟩
def c168_n32 : SCode := .seq c168_n33 c168_n34
instance : IsSeq c168_n32 c168_n33 c168_n34 := ⟨rfl⟩
def c168_n30 : SCode := .seq c168_n31 c168_n32
instance : IsSeq c168_n30 c168_n31 c168_n32 := ⟨rfl⟩
def c168_n28 : SCode := .seq c168_n29 c168_n30
instance : IsSeq c168_n28 c168_n29 c168_n30 := ⟨rfl⟩
def c168_n23 : SCode := .seq c168_n27 c168_n28
instance : IsSeq c168_n23 c168_n27 c168_n28 := ⟨rfl⟩
def c168 : SCode := (.seq (.seq (.region [.op 25 (.move (.t 2)) none .any, .op 26 (.move (.t 2)) none .any, .op 27 (.bin .sub (.t 1) (.t 0)) none .any, .op 28 (.bin .eql (.t 0) (.k (.c (.int .i64 1)))) none .any] [4, 5, 6, 7, 8, 0]) c168_n20) c168_n23)
def F168 : SFunc := .code .shared 220 5 [] [] c168

-- slices.IndexFunc[[]crux/start.Race,crux/start.Race]
-- c169_l0: env [0, 1, 7, 8]
@[simp] def c169_n4 : SCode := (.region [.op 10 (.move (.t 3)) none .any, .op 5 (.move (.t 0)) none .any] [2, 3, 0, 4, 5])
@[simp] def c169_n6 : SCode := (.region [.op 11 (.move (.t 1)) none .any, .op 12 (.move (.t 1)) none .any, .op 13 (.move (.t 4)) none .any, .op 14 (.idxSlice 3 (.t 1) (.t 0)) none .any, .op 15 (.load (some 3) (.t 0)) none .any, .op 16 (.call false (.t 4) [(.t 0)]) none .any] [6, 7, 8, 9, 10, 0])
def c169_n5 : SCode := .seq c169_n6 (.cond (.t 5) (.seq (.region [.op 17 (.move (.t 2)) none .any, .op 4 (.move (.t 0)) none .any] [0]) .ret) (.pre [0, 1, 3, 4] .skip))
instance : IsSeq c169_n5 c169_n6 (.cond (.t 5) (.seq (.region [.op 17 (.move (.t 2)) none .any, .op 4 (.move (.t 0)) none .any] [0]) .ret) (.pre [0, 1, 3, 4] .skip)) := ⟨rfl⟩
def c169_n3 : SCode := .seq c169_n4 c169_n5
instance : IsSeq c169_n3 c169_n4 c169_n5 := ⟨rfl⟩
def c169_n2 : SCode := .seq (.block 1 [some 0, some 1, some 7, some 8] c169_n3) (.region [.op 18 (.bin .add (.t 3) (.k (.c (.int .i64 1)))) none .any, .op 8 (.move (.t 0)) none .any] [2, 3, 4, 0])
instance : IsSeq c169_n2 (.block 1 [some 0, some 1, some 7, some 8] c169_n3) (.region [.op 18 (.bin .add (.t 3) (.k (.c (.int .i64 1)))) none .any, .op 8 (.move (.t 0)) none .any] [2, 3, 4, 0]) := ⟨rfl⟩
def c169_n1 : SCode := .seq (.cond (.t 4) (.pre [0, 1, 2, 3] .skip) (.pre [] (.exit 0))) c169_n2
instance : IsSeq c169_n1 (.cond (.t 4) (.pre [0, 1, 2, 3] .skip) (.pre [] (.exit 0))) c169_n2 := ⟨rfl⟩
def c169_l0b : SCode := (.seq (.region [.op 9 (.bin .lss (.t 3) (.t 2)) none .any] [1, 2, 3, 4, 0]) c169_n1)
def c169_l0 : SCode := .loop true c169_l0b
def c169 : SCode := (.seq (.region [.op 4 (.move (.k (.c (.int .i64 0)))) none .any] [1, 2]) (.seq (.seq (.region [.op 6 (.move (.t 0)) none .any, .op 7 (.len 1 (.t 0)) none .any, .op 8 (.move (.k (.c (.int .i64 0)))) none .any] [3, 4, 1, 0]) (.block 0 [] c169_l0)) (.seq (.region [.op 4 (.move (.k (.c (.int .i64 (-1))))) none .any] [0]) .ret)))
def F169 : SFunc := .code .pure 19 2 [some 4] [.tmp 0] c169

-- slices.IndexFunc[[]int,int]
-- c170_l0: env [0, 1, 7, 8]
@[simp] def c170_n4 : SCode := (.region [.op 10 (.move (.t 3)) none .any, .op 5 (.move (.t 0)) none .any] [2, 3, 0, 4, 5])
@[simp] def c170_n6 : SCode := (.region [.op 11 (.move (.t 1)) none .any, .op 12 (.move (.t 1)) none .any, .op 13 (.move (.t 4)) none .any, .op 14 (.idxSlice 1 (.t 1) (.t 0)) none .any, .op 15 (.load none (.t 0)) none .any, .op 16 (.call false (.t 4) [(.t 0)]) none .any] [6, 7, 8, 9, 10, 0])
def c170_n5 : SCode := .seq c170_n6 (.cond (.t 5) (.seq (.region [.op 17 (.move (.t 2)) none .any, .op 4 (.move (.t 0)) none .any] [0]) .ret) (.pre [0, 1, 3, 4] .skip))
instance : IsSeq c170_n5 c170_n6 (.cond (.t 5) (.seq (.region [.op 17 (.move (.t 2)) none .any, .op 4 (.move (.t 0)) none .any] [0]) .ret) (.pre [0, 1, 3, 4] .skip)) := ⟨rfl⟩
def c170_n3 : SCode := .seq c170_n4 c170_n5
instance : IsSeq c170_n3 c170_n4 c170_n5 := ⟨rfl⟩
def c170_n2 : SCode := .seq (.block 1 [some 0, some 1, some 7, some 8] c170_n3) (.region [.op 18 (.bin .add (.t 3) (.k (.c (.int .i64 1)))) none .any, .op 8 (.move (.t 0)) none .any] [2, 3, 4, 0])
instance : IsSeq c170_n2 (.block 1 [some 0, some 1, some 7, some 8] c170_n3) (.region [.op 18 (.bin .add (.t 3) (.k (.c (.int .i64 1)))) none .any, .op 8 (.move (.t 0)) none .any] [2, 3, 4, 0]) := ⟨rfl⟩
def c170_n1 : SCode := .seq (.cond (.t 4) (.pre [0, 1, 2, 3] .skip) (.pre [] (.exit 0))) c170_n2
instance : IsSeq c170_n1 (.cond (.t 4) (.pre [0, 1, 2, 3] .skip) (.pre [] (.exit 0))) c170_n2 := ⟨rfl⟩
def c170_l0b : SCode := (.seq (.region [.op 9 (.bin .lss (.t 3) (.t 2)) none .any] [1, 2, 3, 4, 0]) c170_n1)
def c170_l0 : SCode := .loop true c170_l0b
def c170 : SCode := (.seq (.region [.op 4 (.move (.k (.c (.int .i64 0)))) none .any] [1, 2]) (.seq (.seq (.region [.op 6 (.move (.t 0)) none .any, .op 7 (.len 1 (.t 0)) none .any, .op 8 (.move (.k (.c (.int .i64 0)))) none .any] [3, 4, 1, 0]) (.block 0 [] c170_l0)) (.seq (.region [.op 4 (.move (.k (.c (.int .i64 (-1))))) none .any] [0]) .ret)))
def F170 : SFunc := .code .pure 19 2 [some 4] [.tmp 0] c170

-- slices.stableCmpFunc[crux/api.Result]
-- c171_l0: env [0, 1, 2, 6, 7, 8]
-- c171_l1: env [0, 1, 2, 6, 7, 8]
-- c171_l2: env [0, 1, 2, 6]
@[simp] def c171_n3 : SCode := (.region [.op 14 (.move (.t 0)) none .any, .op 15 (.move (.t 5)) none .any, .op 16 (.move (.t 7)) none .any, .op 17 (.move (.t 5)) none .any, .op 18 (.call false (.k (.c (.func 173 [] []))) [(.t 3), (.t 2), (.t 1), (.t 0)]) none .any] [5, 6, 7, 8, 10])
def c171_n2 : SCode := .seq c171_n3 (.seq (.region [.op 19 (.move (.t 4)) none .any, .op 7 (.move (.t 0)) none .any] [2, 3, 4, 5, 0, 6]) (.region [.op 20 (.move (.t 5)) none .any, .op 21 (.move (.t 4)) none .any, .op 22 (.bin .add (.t 1) (.t 0)) none .any, .op 8 (.move (.t 0)) none .any] [4, 5, 6, 7, 8, 0]))
instance : IsSeq c171_n2 c171_n3 (.seq (.region [.op 19 (.move (.t 4)) none .any, .op 7 (.move (.t 0)) none .any] [2, 3, 4, 5, 0, 6]) (.region [.op 20 (.move (.t 5)) none .any, .op 21 (.move (.t 4)) none .any, .op 22 (.bin .add (.t 1) (.t 0)) none .any, .op 8 (.move (.t 0)) none .any] [4, 5, 6, 7, 8, 0])) := ⟨rfl⟩
def c171_n1 : SCode := .block 1 [some 0, some 1, some 2, some 6, some 7, some 8] c171_n2
instance : IsBlock c171_n1 1 [some 0, some 1, some 2, some 6, some 7, some 8] c171_n2 := ⟨rfl⟩
def c171_l0b : SCode := (.seq (.seq (.region [.op 11 (.move (.t 5)) none .any, .op 12 (.move (.t 2)) none .any, .op 13 (.bin .leq (.t 1) (.t 0)) none .any] [3, 4, 5, 6, 7, 8, 0]) (.cond (.t 6) (.pre [0, 1, 2, 3, 4, 5] .skip) (.pre [0, 1, 2, 3, 4] (.exit 0)))) c171_n1)
def c171_l0 : SCode := .loop true c171_l0b
@[simp] def c171_n6 : SCode := (.region [.op 36 (.move (.t 0)) none .any, .op 37 (.move (.t 5)) none .any, .op 38 (.move (.t 6)) none .any, .op 39 (.move (.t 6)) none .any, .op 40 (.bin .add (.t 1) (.t 0)) none .any, .op 41 (.move (.t 10)) none .any, .op 42 (.move (.t 8)) none .any, .op 43 (.call false (.k (.c (.func 174 [] []))) [(.t 6), (.t 5), (.t 2), (.t 1), (.t 0)]) none .any] [8, 9, 10, 11, 13])
def c171_n5 : SCode := .seq c171_n6 (.seq (.region [.op 44 (.move (.t 4)) none .any, .op 7 (.move (.t 0)) none .any] [2, 3, 4, 5, 0, 6]) (.region [.op 45 (.move (.t 5)) none .any, .op 46 (.move (.t 4)) none .any, .op 47 (.bin .mul (.k (.c (.int .i64 2))) (.t 0)) none .any, .op 48 (.bin .add (.t 2) (.t 0)) none .any, .op 8 (.move (.t 0)) none .any] [5, 6, 7, 8, 9, 0]))
instance : IsSeq c171_n5 c171_n6 (.seq (.region [.op 44 (.move (.t 4)) none .any, .op 7 (.move (.t 0)) none .any] [2, 3, 4, 5, 0, 6]) (.region [.op 45 (.move (.t 5)) none .any, .op 46 (.move (.t 4)) none .any, .op 47 (.bin .mul (.k (.c (.int .i64 2))) (.t 0)) none .any, .op 48 (.bin .add (.t 2) (.t 0)) none .any, .op 8 (.move (.t 0)) none .any] [5, 6, 7, 8, 9, 0])) := ⟨rfl⟩
def c171_n4 : SCode := .block 5 [some 0, some 1, some 2, some 6, some 7, some 8] c171_n5
instance : IsBlock c171_n4 5 [some 0, some 1, some 2, some 6, some 7, some 8] c171_n5 := ⟨rfl⟩
def c171_l1b : SCode := (.seq (.seq (.region [.op 33 (.move (.t 5)) none .any, .op 34 (.move (.t 2)) none .any, .op 35 (.bin .leq (.t 1) (.t 0)) none .any] [3, 4, 5, 6, 7, 8, 0]) (.cond (.t 6) (.pre [0, 1, 2, 3, 4, 5] .skip) (.pre [0, 1, 2, 3, 4] (.exit 4)))) c171_n4)
def c171_l1 : SCode := .loop true c171_l1b
@[simp] def c171_n9 : SCode := (.region [.op 31 (.move (.t 3)) none .any, .op 32 (.bin .mul (.k (.c (.int .i64 2))) (.t 0)) none .any, .op 7 (.move (.k (.c (.int .i64 0)))) none .any, .op 8 (.move (.t 1)) none .any] [4, 5, 6, 7, 1, 0])
@[simp] def c171_n13 : SCode := (.region [.op 52 (.move (.t 5)) none .any, .op 53 (.move (.t 2)) none .any, .op 54 (.bin .lss (.t 1) (.t 0)) none .any] [3, 4, 5, 6, 7, 8, 0])
def c171_n12 : SCode := .seq c171_n13 (.cond (.t 6) (.region [.op 55 (.move (.t 0)) none .any, .op 56 (.move (.t 5)) none .any, .op 57 (.move (.t 7)) none .any, .op 58 (.move (.t 4)) none .any, .op 59 (.move (.t 6)) none .any, .op 60 (.call false (.k (.c (.func 174 [] []))) [(.t 4), (.t 3), (.t 2), (.t 1), (.t 0)]) none .any] [6, 7, 8, 9]) (.pre [0, 1, 2, 3] .skip))
instance : IsSeq c171_n12 c171_n13 (.cond (.t 6) (.region [.op 55 (.move (.t 0)) none .any, .op 56 (.move (.t 5)) none .any, .op 57 (.move (.t 7)) none .any, .op 58 (.move (.t 4)) none .any, .op 59 (.move (.t 6)) none .any, .op 60 (.call false (.k (.c (.func 174 [] []))) [(.t 4), (.t 3), (.t 2), (.t 1), (.t 0)]) none .any] [6, 7, 8, 9]) (.pre [0, 1, 2, 3] .skip)) := ⟨rfl⟩
@[simp] def c171_n14 : SCode := (.seq (.region [.op 49 (.move (.t 4)) none .any, .op 50 (.move (.t 4)) none .any, .op 51 (.bin .add (.t 1) (.t 0)) none .any, .op 9 (.move (.t 0)) none .any] [4, 5, 6, 7, 8, 0]) c171_n12)
def c171_n11 : SCode := .seq c171_n14 (.region [.op 61 (.move (.t 3)) none .any, .op 62 (.bin .mul (.t 0) (.k (.c (.int .i64 2)))) none .any, .op 6 (.move (.t 0)) none .any] [3, 4, 5, 0])
instance : IsSeq c171_n11 c171_n14 (.region [.op 61 (.move (.t 3)) none .any, .op 62 (.bin .mul (.t 0) (.k (.c (.int .i64 2)))) none .any, .op 6 (.move (.t 0)) none .any] [3, 4, 5, 0]) := ⟨rfl⟩
def c171_n10 : SCode := .seq (.block 4 [some 0, some 1, some 2, some 6, some 7] c171_l1) c171_n11
instance : IsSeq c171_n10 (.block 4 [some 0, some 1, some 2, some 6, some 7] c171_l1) c171_n11 := ⟨rfl⟩
def c171_n8 : SCode := .seq c171_n9 c171_n10
instance : IsSeq c171_n8 c171_n9 c171_n10 := ⟨rfl⟩
def c171_n7 : SCode := .block 3 [some 0, some 1, some 2, some 6] c171_n8
instance : IsBlock c171_n7 3 [some 0, some 1, some 2, some 6] c171_n8 := ⟨rfl⟩
def c171_l2b : SCode := (.seq (.seq (.region [.op 28 (.move (.t 3)) none .any, .op 29 (.move (.t 2)) none .any, .op 30 (.bin .lss (.t 1) (.t 0)) none .any] [3, 4, 5, 6, 0]) (.cond (.t 4) (.pre [0, 1, 2, 3] .skip) (.pre [] (.exit 2)))) c171_n7)
def c171_l2 : SCode := .loop true c171_l2b
@[simp] def c171_n16 : SCode := (.region [.op 10 (.move (.t 3)) none .any, .op 7 (.move (.k (.c (.int .i64 0)))) none .any, .op 8 (.move (.t 1)) none .any] [3, 4, 5, 6, 1, 0])
def c171_n15 : SCode := .seq c171_n16 (.seq (.block 0 [some 0, some 1, some 2, some 6, some 7] c171_l0) (.seq (.region [.op 23 (.move (.t 0)) none .any, .op 24 (.move (.t 5)) none .any, .op 25 (.move (.t 3)) none .any, .op 26 (.move (.t 5)) none .any, .op 27 (.call false (.k (.c (.func 173 [] []))) [(.t 3), (.t 2), (.t 1), (.t 0)]) none .any] [5, 6, 7, 8]) (.block 2 [] c171_l2)))
instance : IsSeq c171_n15 c171_n16 (.seq (.block 0 [some 0, some 1, some 2, some 6, some 7] c171_l0) (.seq (.region [.op 23 (.move (.t 0)) none .any, .op 24 (.move (.t 5)) none .any, .op 25 (.move (.t 3)) none .any, .op 26 (.move (.t 5)) none .any, .op 27 (.call false (.k (.c (.func 173 [] []))) [(.t 3), (.t 2), (.t 1), (.t 0)]) none .any] [5, 6, 7, 8]) (.block 2 [] c171_l2))) := ⟨rfl⟩
def c171 : SCode := (.seq (.region [.op 6 (.move (.k (.c (.int .i64 20)))) none .any] [1, 2, 3, 0]) c171_n15)
def F171 : SFunc := .code .shared 63 3 [] [] c171

-- slices.rotateCmpFunc[int]
-- c172_l0: env [0, 2, 4, 10, 11]
@[simp] def c172_n3 : SCode := (.region [.op 21 (.move (.t 3)) none .any, .op 22 (.move (.t 5)) none .any, .op 23 (.bin .gtr (.t 1) (.t 0)) none .any] [3, 4, 5, 6, 7, 0])
@[simp] def c172_n6 : SCode := (.region [.op 24 (.move (.t 0)) none .any, .op 25 (.move (.t 2)) none .any, .op 26 (.move (.t 5)) none .any, .op 27 (.bin .sub (.t 1) (.t 0)) none .any, .op 28 (.move (.t 5)) none .any, .op 29 (.move (.t 9)) none .any, .op 30 (.move (.t 8)) none .any, .op 31 (.call false (.k (.c (.func 175 [] []))) [(.t 6), (.t 3), (.t 2), (.t 1), (.t 0)]) none .any] [8, 9, 10, 11, 12])
def c172_n5 : SCode := .seq c172_n6 (.region [.op 32 (.move (.t 3)) none .any, .op 33 (.move (.t 5)) none .any, .op 34 (.bin .sub (.t 1) (.t 0)) none .any, .op 10 (.move (.t 0)) none .any] [4, 5, 6, 0, 8])
instance : IsSeq c172_n5 c172_n6 (.region [.op 32 (.move (.t 3)) none .any, .op 33 (.move (.t 5)) none .any, .op 34 (.bin .sub (.t 1) (.t 0)) none .any, .op 10 (.move (.t 0)) none .any] [4, 5, 6, 0, 8]) := ⟨rfl⟩
@[simp] def c172_n8 : SCode := (.region [.op 35 (.move (.t 0)) none .any, .op 36 (.move (.t 2)) none .any, .op 37 (.move (.t 5)) none .any, .op 38 (.bin .sub (.t 1) (.t 0)) none .any, .op 39 (.move (.t 5)) none .any, .op 40 (.move (.t 9)) none .any, .op 41 (.bin .add (.t 1) (.t 0)) none .any, .op 42 (.move (.t 10)) none .any, .op 43 (.bin .sub (.t 1) (.t 0)) none .any, .op 44 (.move (.t 12)) none .any, .op 45 (.move (.t 12)) none .any, .op 46 (.call false (.k (.c (.func 175 [] []))) [(.t 10), (.t 7), (.t 2), (.t 1), (.t 0)]) none .any] [12, 13, 14, 15, 16])
def c172_n7 : SCode := .seq c172_n8 (.region [.op 47 (.move (.t 4)) none .any, .op 48 (.move (.t 4)) none .any, .op 49 (.bin .sub (.t 1) (.t 0)) none .any, .op 11 (.move (.t 0)) none .any] [4, 5, 6, 7, 0])
instance : IsSeq c172_n7 c172_n8 (.region [.op 47 (.move (.t 4)) none .any, .op 48 (.move (.t 4)) none .any, .op 49 (.bin .sub (.t 1) (.t 0)) none .any, .op 11 (.move (.t 0)) none .any] [4, 5, 6, 7, 0]) := ⟨rfl⟩
def c172_n4 : SCode := .cond (.t 5) c172_n5 c172_n7
instance : IsCond c172_n4 (.t 5) c172_n5 c172_n7 := ⟨rfl⟩
def c172_n2 : SCode := .seq c172_n3 c172_n4
instance : IsSeq c172_n2 c172_n3 c172_n4 := ⟨rfl⟩
def c172_n1 : SCode := .block 1 [some 0, some 2, some 4, some 10, some 11] c172_n2
instance : IsBlock c172_n1 1 [some 0, some 2, some 4, some 10, some 11] c172_n2 := ⟨rfl⟩
def c172_l0b : SCode := (.seq (.seq (.region [.op 18 (.move (.t 3)) none .any, .op 19 (.move (.t 5)) none .any, .op 20 (.bin .neq (.t 1) (.t 0)) none .any] [3, 4, 5, 6, 7, 0]) (.cond (.t 5) (.pre [0, 1, 2, 3, 4] .skip) (.pre [0, 1, 2, 3] (.exit 0)))) c172_n1)
def c172_l0 : SCode := .loop true c172_l0b
@[simp] def c172_n10 : SCode := (.region [.op 15 (.move (.t 2)) none .any, .op 16 (.move (.t 2)) none .any, .op 17 (.bin .sub (.t 1) (.t 0)) none .any, .op 11 (.move (.t 0)) none .any] [4, 5, 7, 8, 0])
@[simp] def c172_n12 : SCode := (.region [.op 50 (.move (.t 0)) none .any, .op 51 (.move (.t 2)) none .any, .op 52 (.move (.t 5)) none .any, .op 53 (.bin .sub (.t 1) (.t 0)) none .any, .op 54 (.move (.t 5)) none .any, .op 55 (.move (.t 8)) none .any, .op 56 (.move (.t 8)) none .any, .op 57 (.call false (.k (.c (.func 175 [] []))) [(.t 6), (.t 3), (.t 2), (.t 1), (.t 0)]) none .any] [])
def c172_n11 : SCode := .seq (.block 0 [some 0, some 2, some 4, some 10] c172_l0) c172_n12
instance : IsSeq c172_n11 (.block 0 [some 0, some 2, some 4, some 10] c172_l0) c172_n12 := ⟨rfl⟩
def c172_n9 : SCode := .seq c172_n10 c172_n11
instance : IsSeq c172_n9 c172_n10 c172_n11 := ⟨rfl⟩
def c172 : SCode := (.seq (.region [.op 12 (.move (.t 2)) none .any, .op 13 (.move (.t 2)) none .any, .op 14 (.bin .sub (.t 1) (.t 0)) none .any, .op 10 (.move (.t 0)) none .any] [4, 6, 7, 8, 0]) c172_n9)
def F172 : SFunc := .code .shared 58 5 [] [] c172

-- slices.insertionSortCmpFunc[crux/api.Result]
-- c173_l0: env [0, 1, 2, 3, 8, 9]
-- c173_l1: env [0, 1, 2, 3, 8]
@[simp] def c173_n2 : SCode := (.draw 0 [.op 37 (.move (.t 0)) none .any, .op 38 (.move (.t 6)) none .any, .op 39 (.move (.t 2)) none .any, .op 40 (.move (.t 8)) none .any, .op 41 (.bin .sub (.t 0) (.k (.c (.int .i64 1)))) none .any, .op 42 (.move (.t 5)) none .any, .op 43 (.move (.t 11)) none .any, .op 44 (.bin .sub (.t 0) (.k (.c (.int .i64 1)))) none .any, .op 45 (.idxSlice 3 (.t 2) (.t 0)) none .any, .op 46 (.load (some 3) (.t 0)) none .old, .op 47 (.move (.t 10)) none .any, .op 48 (.move (.t 16)) none .any, .op 49 (.idxSlice 3 (.t 1) (.t 0)) none .any, .op 50 (.load (some 3) (.t 0)) none .old, .op 51 (.idxSlice 3 (.t 13) (.t 12)) none .any, .eff (.store 3 (.t 0) (.t 5)) none .old, .op 52 (.idxSlice 3 (.t 12) (.t 10)) none .any, .eff (.store 3 (.t 0) (.t 2)) none .old] [16, 17, 18, 19, 20, 21])
def c173_n1 : SCode := .seq (.block 3 [some 0, some 1, some 2, some 3, some 8, some 9] c173_n2) (.region [.op 35 (.move (.t 5)) none .any, .op 36 (.bin .sub (.t 0) (.k (.c (.int .i64 1)))) none .any, .op 9 (.move (.t 0)) none .any] [3, 4, 5, 6, 7, 0])
instance : IsSeq c173_n1 (.block 3 [some 0, some 1, some 2, some 3, some 8, some 9] c173_n2) (.region [.op 35 (.move (.t 5)) none .any, .op 36 (.bin .sub (.t 0) (.k (.c (.int .i64 1)))) none .any, .op 9 (.move (.t 0)) none .any] [3, 4, 5, 6, 7, 0]) := ⟨rfl⟩
def c173_l0b : SCode := (.seq (.seq (.draw 0 [.op 18 (.move (.t 5)) none .any, .op 19 (.move (.t 2)) none .any, .op 20 (.bin .gtr (.t 1) (.t 0)) none .any, .op 21 (.move (.t 0)) none .any, .andN 34 0 [.op 22 (.move (.t 7)) none .any, .op 23 (.move (.t 5)) none .any, .op 24 (.move (.t 11)) none .any, .op 25 (.idxSlice 3 (.t 1) (.t 0)) none .any, .op 26 (.load (some 3) (.t 0)) none .old, .op 27 (.move (.t 9)) none .any, .op 28 (.move (.t 15)) none .any, .op 29 (.bin .sub (.t 0) (.k (.c (.int .i64 1)))) none .any, .op 30 (.idxSlice 3 (.t 2) (.t 0)) none .any, .op 31 (.load (some 3) (.t 0)) none .old, .op 32 (.call false (.t 9) [(.t 5), (.t 0)]) none .any, .op 33 (.bin .lss (.t 0) (.k (.c (.int .i64 0)))) none .any] (.t 0)] [5, 6, 7, 8, 9, 10, 0]) (.cond (.t 6) (.pre [0, 1, 2, 3, 4, 5] .skip) (.pre [0, 1, 2, 3, 4] (.exit 2)))) c173_n1)
def c173_l0 : SCode := .loop true c173_l0b
@[simp] def c173_n4 : SCode := (.block 1 [some 0, some 1, some 2, some 3, some 8] (.seq (.region [.op 17 (.move (.t 4)) none .any, .op 9 (.move (.t 0)) none .any] [2, 3, 4, 5, 6, 0]) (.block 2 [some 0, some 1, some 2, some 3, some 8] c173_l0)))
def c173_n3 : SCode := .seq c173_n4 (.region [.op 15 (.move (.t 4)) none .any, .op 16 (.bin .add (.t 0) (.k (.c (.int .i64 1)))) none .any, .op 8 (.move (.t 0)) none .any] [3, 4, 5, 6, 0])
instance : IsSeq c173_n3 c173_n4 (.region [.op 15 (.move (.t 4)) none .any, .op 16 (.bin .add (.t 0) (.k (.c (.int .i64 1)))) none .any, .op 8 (.move (.t 0)) none .any] [3, 4, 5, 6, 0]) := ⟨rfl⟩
def c173_l1b : SCode := (.seq (.seq (.region [.op 12 (.move (.t 4)) none .any, .op 13 (.move (.t 3)) none .any, .op 14 (.bin .lss (.t 1) (.t 0)) none .any] [3, 4, 5, 6, 7, 0]) (.cond (.t 5) (.pre [0, 1, 2, 3, 4] .skip) (.pre [] (.exit 0)))) c173_n3)
def c173_l1 : SCode := .loop true c173_l1b
def c173 : SCode := (.seq (.region [.op 10 (.move (.t 1)) none .any, .op 11 (.bin .add (.t 0) (.k (.c (.int .i64 1)))) none .any, .op 8 (.move (.t 0)) none .any] [3, 4, 5, 6, 0]) (.block 0 [] c173_l1))
def F173 : SFunc := .code .shared 53 4 [] [] c173

-- slices.symMergeCmpFunc[crux/api.Result]
-- c174_l0: env [0, 1, 4, 10, 11]
-- c174_l1: env [0, 10, 13]
-- c174_l2: env [0, 2, 4, 14, 15]
-- c174_l3: env [0, 14, 17]
-- c174_l4: env [0, 1, 2, 3, 4, 18, 19, 20, 21, 22]
@[simp] def c174_n3 : SCode := (.region [.op 34 (.move (.t 3)) none .any, .op 35 (.move (.t 5)) none .any, .op 36 (.bin .add (.t 1) (.t 0)) none .any, .op 37 (.conv .u64 (.t 0)) none .any, .op 38 (.bin .shr (.t 0) (.k (.c (.int .u64 1)))) none .any, .op 39 (.conv .i64 (.t 0)) none .any, .op 12 (.move (.t 0)) none .any] [7, 8, 9, 10, 11, 0])
@[simp] def c174_n5 : SCode := (.draw 0 [.op 40 (.move (.t 2)) none .any, .op 41 (.move (.t 1)) none .any, .op 42 (.move (.t 7)) none .any, .op 43 (.idxSlice 3 (.t 1) (.t 0)) none .any, .op 44 (.load (some 3) (.t 0)) none .old, .op 45 (.move (.t 5)) none .any, .op 46 (.move (.t 7)) none .any, .op 47 (.idxSlice 3 (.t 1) (.t 0)) none .any, .op 48 (.load (some 3) (.t 0)) none .old, .op 49 (.call false (.t 8) [(.t 4), (.t 0)]) none .any, .op 50 (.bin .lss (.t 0) (.k (.c (.int .i64 0)))) none .any] [11, 12, 13, 14, 15, 16, 0])
def c174_n4 : SCode := .seq c174_n5 (.cond (.t 6) (.region [.op 51 (.move (.t 5)) none .any, .op 52 (.bin .add (.t 0) (.k (.c (.int .i64 1)))) none .any, .op 10 (.move (.t 0)) none .any] [3, 4, 5, 0, 7]) (.region [.op 53 (.move (.t 5)) none .any, .op 11 (.move (.t 0)) none .any] [2, 3, 4, 5, 0]))
instance : IsSeq c174_n4 c174_n5 (.cond (.t 6) (.region [.op 51 (.move (.t 5)) none .any, .op 52 (.bin .add (.t 0) (.k (.c (.int .i64 1)))) none .any, .op 10 (.move (.t 0)) none .any] [3, 4, 5, 0, 7]) (.region [.op 53 (.move (.t 5)) none .any, .op 11 (.move (.t 0)) none .any] [2, 3, 4, 5, 0])) := ⟨rfl⟩
def c174_n2 : SCode := .seq c174_n3 c174_n4
instance : IsSeq c174_n2 c174_n3 c174_n4 := ⟨rfl⟩
def c174_n1 : SCode := .block 1 [some 0, some 1, some 4, some 10, some 11] c174_n2
instance : IsBlock c174_n1 1 [some 0, some 1, some 4, some 10, some 11] c174_n2 := ⟨rfl⟩
def c174_l0b : SCode := (.seq (.seq (.region [.op 31 (.move (.t 3)) none .any, .op 32 (.move (.t 5)) none .any, .op 33 (.bin .lss (.t 1) (.t 0)) none .any] [3, 4, 5, 6, 7, 0]) (.cond (.t 5) (.pre [0, 1, 2, 3, 4] .skip) (.pre [0, 1, 3] (.exit 0)))) c174_n1)
def c174_l0 : SCode := .loop true c174_l0b
@[simp] def c174_n7 : SCode := (.draw 0 [.op 61 (.move (.t 0)) none .any, .op 62 (.move (.t 3)) none .any, .op 63 (.move (.t 2)) none .any, .op 64 (.move (.t 5)) none .any, .op 65 (.bin .add (.t 0) (.k (.c (.int .i64 1)))) none .any, .op 66 (.move (.t 5)) none .any, .op 67 (.move (.t 8)) none .any, .op 68 (.bin .add (.t 0) (.k (.c (.int .i64 1)))) none .any, .op 69 (.idxSlice 3 (.t 2) (.t 0)) none .any, .op 70 (.load (some 3) (.t 0)) none .old, .op 71 (.move (.t 10)) none .any, .op 72 (.move (.t 13)) none .any, .op 73 (.idxSlice 3 (.t 1) (.t 0)) none .any, .op 74 (.load (some 3) (.t 0)) none .old, .op 75 (.idxSlice 3 (.t 13) (.t 12)) none .any, .eff (.store 3 (.t 0) (.t 5)) none .old, .op 76 (.idxSlice 3 (.t 12) (.t 10)) none .any, .eff (.store 3 (.t 0) (.t 2)) none .old] [16, 17, 18])
def c174_n6 : SCode := .seq (.block 3 [some 0, some 10, some 13] c174_n7) (.region [.op 59 (.move (.t 2)) none .any, .op 60 (.bin .add (.t 0) (.k (.c (.int .i64 1)))) none .any, .op 13 (.move (.t 0)) none .any] [3, 4, 0])
instance : IsSeq c174_n6 (.block 3 [some 0, some 10, some 13] c174_n7) (.region [.op 59 (.move (.t 2)) none .any, .op 60 (.bin .add (.t 0) (.k (.c (.int .i64 1)))) none .any, .op 13 (.move (.t 0)) none .any] [3, 4, 0]) := ⟨rfl⟩
def c174_l1b : SCode := (.seq (.seq (.region [.op 55 (.move (.t 2)) none .any, .op 56 (.move (.t 2)) none .any, .op 57 (.bin .sub (.t 0) (.k (.c (.int .i64 1)))) none .any, .op 58 (.bin .lss (.t 2) (.t 0)) none .any] [4, 5, 6, 0]) (.cond (.t 3) (.pre [0, 1, 2] .skip) (.pre [] (.exit 2)))) c174_n6)
def c174_l1 : SCode := .loop true c174_l1b
@[simp] def c174_n10 : SCode := (.region [.op 86 (.move (.t 3)) none .any, .op 87 (.move (.t 5)) none .any, .op 88 (.bin .add (.t 1) (.t 0)) none .any, .op 89 (.conv .u64 (.t 0)) none .any, .op 90 (.bin .shr (.t 0) (.k (.c (.int .u64 1)))) none .any, .op 91 (.conv .i64 (.t 0)) none .any, .op 16 (.move (.t 0)) none .any] [7, 8, 9, 10, 11, 0])
@[simp] def c174_n12 : SCode := (.draw 0 [.op 92 (.move (.t 2)) none .any, .op 93 (.move (.t 1)) none .any, .op 94 (.move (.t 3)) none .any, .op 95 (.idxSlice 3 (.t 1) (.t 0)) none .any, .op 96 (.load (some 3) (.t 0)) none .old, .op 97 (.move (.t 5)) none .any, .op 98 (.move (.t 11)) none .any, .op 99 (.idxSlice 3 (.t 1) (.t 0)) none .any, .op 100 (.load (some 3) (.t 0)) none .old, .op 101 (.call false (.t 8) [(.t 4), (.t 0)]) none .any, .op 102 (.bin .lss (.t 0) (.k (.c (.int .i64 0)))) none .any, .op 103 (.not (.t 0)) none .any] [12, 13, 14, 15, 16, 17, 0])
def c174_n11 : SCode := .seq c174_n12 (.cond (.t 6) (.region [.op 104 (.move (.t 5)) none .any, .op 105 (.bin .add (.t 0) (.k (.c (.int .i64 1)))) none .any, .op 14 (.move (.t 0)) none .any] [3, 4, 5, 0, 7]) (.region [.op 106 (.move (.t 5)) none .any, .op 15 (.move (.t 0)) none .any] [2, 3, 4, 5, 0]))
instance : IsSeq c174_n11 c174_n12 (.cond (.t 6) (.region [.op 104 (.move (.t 5)) none .any, .op 105 (.bin .add (.t 0) (.k (.c (.int .i64 1)))) none .any, .op 14 (.move (.t 0)) none .any] [3, 4, 5, 0, 7]) (.region [.op 106 (.move (.t 5)) none .any, .op 15 (.move (.t 0)) none .any] [2, 3, 4, 5, 0])) := ⟨rfl⟩
def c174_n9 : SCode := .seq c174_n10 c174_n11
instance : IsSeq c174_n9 c174_n10 c174_n11 := ⟨rfl⟩
def c174_n8 : SCode := .block 5 [some 0, some 2, some 4, some 14, some 15] c174_n9
instance : IsBlock c174_n8 5 [some 0, some 2, some 4, some 14, some 15] c174_n9 := ⟨rfl⟩
def c174_l2b : SCode := (.seq (.seq (.region [.op 83 (.move (.t 3)) none .any, .op 84 (.move (.t 5)) none .any, .op 85 (.bin .lss (.t 1) (.t 0)) none .any] [3, 4, 5, 6, 7, 0]) (.cond (.t 5) (.pre [0, 1, 2, 3, 4] .skip) (.pre [0, 1, 3] (.exit 4)))) c174_n8)
def c174_l2 : SCode := .loop true c174_l2b
@[simp] def c174_n14 : SCode := (.draw 0 [.op 113 (.move (.t 0)) none .any, .op 114 (.move (.t 3)) none .any, .op 115 (.move (.t 2)) none .any, .op 116 (.move (.t 5)) none .any, .op 117 (.bin .sub (.t 0) (.k (.c (.int .i64 1)))) none .any, .op 118 (.move (.t 5)) none .any, .op 119 (.move (.t 8)) none .any, .op 120 (.bin .sub (.t 0) (.k (.c (.int .i64 1)))) none .any, .op 121 (.idxSlice 3 (.t 2) (.t 0)) none .any, .op 122 (.load (some 3) (.t 0)) none .old, .op 123 (.move (.t 10)) none .any, .op 124 (.move (.t 13)) none .any, .op 125 (.idxSlice 3 (.t 1) (.t 0)) none .any, .op 126 (.load (some 3) (.t 0)) none .old, .op 127 (.idxSlice 3 (.t 13) (.t 12)) none .any, .eff (.store 3 (.t 0) (.t 5)) none .old, .op 128 (.idxSlice 3 (.t 12) (.t 10)) none .any, .eff (.store 3 (.t 0) (.t 2)) none .old] [16, 17, 18])
def c174_n13 : SCode := .seq (.block 7 [some 0, some 14, some 17] c174_n14) (.region [.op 111 (.move (.t 2)) none .any, .op 112 (.bin .sub (.t 0) (.k (.c (.int .i64 1)))) none .any, .op 17 (.move (.t 0)) none .any] [3, 4, 0])
instance : IsSeq c174_n13 (.block 7 [some 0, some 14, some 17] c174_n14) (.region [.op 111 (.move (.t 2)) none .any, .op 112 (.bin .sub (.t 0) (.k (.c (.int .i64 1)))) none .any, .op 17 (.move (.t 0)) none .any] [3, 4, 0]) := ⟨rfl⟩
def c174_l3b : SCode := (.seq (.seq (.region [.op 108 (.move (.t 2)) none .any, .op 109 (.move (.t 2)) none .any, .op 110 (.bin .gtr (.t 1) (.t 0)) none .any] [3, 4, 5, 0]) (.cond (.t 3) (.pre [0, 1, 2] .skip) (.pre [] (.exit 6)))) c174_n13)
def c174_l3 : SCode := .loop true c174_l3b
@[simp] def c174_n17 : SCode := (.region [.op 152 (.move (.t 7)) none .any, .op 153 (.move (.t 9)) none .any, .op 154 (.bin .add (.t 1) (.t 0)) none .any, .op 155 (.conv .u64 (.t 0)) none .any, .op 156 (.bin .shr (.t 0) (.k (.c (.int .u64 1)))) none .any, .op 157 (.conv .i64 (.t 0)) none .any, .op 23 (.move (.t 0)) none .any] [7, 8, 9, 10, 11, 12, 13, 14, 15, 16, 0])
@[simp] def c174_n19 : SCode := (.draw 0 [.op 158 (.move (.t 4)) none .any, .op 159 (.move (.t 1)) none .any, .op 160 (.move (.t 11)) none .any, .op 161 (.move (.t 13)) none .any, .op 162 (.bin .sub (.t 1) (.t 0)) none .any, .op 163 (.idxSlice 3 (.t 3) (.t 0)) none .any, .op 164 (.load (some 3) (.t 0)) none .old, .op 165 (.move (.t 7)) none .any, .op 166 (.move (.t 18)) none .any, .op 167 (.idxSlice 3 (.t 1) (.t 0)) none .any, .op 168 (.load (some 3) (.t 0)) none .old, .op 169 (.call false (.t 10) [(.t 4), (.t 0)]) none .any, .op 170 (.bin .lss (.t 0) (.k (.c (.int .i64 0)))) none .any, .op 171 (.not (.t 0)) none .any] [14, 15, 16, 17, 18, 19, 20, 21, 22, 23, 24, 0])
def c174_n18 : SCode := .seq c174_n19 (.cond (.t 11) (.region [.op 172 (.move (.t 10)) none .any, .op 173 (.bin .add (.t 0) (.k (.c (.int .i64 1)))) none .any, .op 20 (.move (.t 0)) none .any] [3, 4, 5, 6, 7, 8, 9, 0, 11, 12]) (.region [.op 174 (.move (.t 10)) none .any, .op 21 (.move (.t 0)) none .any] [2, 3, 4, 5, 6, 7, 8, 9, 0, 11]))
instance : IsSeq c174_n18 c174_n19 (.cond (.t 11) (.region [.op 172 (.move (.t 10)) none .any, .op 173 (.bin .add (.t 0) (.k (.c (.int .i64 1)))) none .any, .op 20 (.move (.t 0)) none .any] [3, 4, 5, 6, 7, 8, 9, 0, 11, 12]) (.region [.op 174 (.move (.t 10)) none .any, .op 21 (.move (.t 0)) none .any] [2, 3, 4, 5, 6, 7, 8, 9, 0, 11])) := ⟨rfl⟩
def c174_n16 : SCode := .seq c174_n17 c174_n18
instance : IsSeq c174_n16 c174_n17 c174_n18 := ⟨rfl⟩
def c174_n15 : SCode := .block 9 [some 0, some 1, some 2, some 3, some 4, some 18, some 19, some 20, some 21, some 22] c174_n16
instance : IsBlock c174_n15 9 [some 0, some 1, some 2, some 3, some 4, some 18, some 19, some 20, some 21, some 22] c174_n16 := ⟨rfl⟩
def c174_l4b : SCode := (.seq (.seq (.region [.op 149 (.move (.t 7)) none .any, .op 150 (.move (.t 9)) none .any, .op 151 (.bin .lss (.t 1) (.t 0)) none .any] [3, 4, 5, 6, 7, 8, 9, 10, 11, 12, 0]) (.cond (.t 10) (.pre [0, 1, 2, 3, 4, 5, 6, 7, 8, 9] .skip) (.pre [0, 1, 2, 3, 4, 5, 6, 7] (.exit 8)))) c174_n15)
def c174_l4 : SCode := .loop true c174_l4b
@[simp] def c174_n22 : SCode := (.region [.op 29 (.move (.t 2)) none .any, .op 10 (.move (.t 0)) none .any] [2, 3, 5, 6, 0])
def c174_n21 : SCode := .seq c174_n22 (.seq (.region [.op 30 (.move (.t 2)) none .any, .op 11 (.move (.t 0)) none .any] [2, 3, 5, 6, 0]) (.seq (.block 0 [some 0, some 1, some 10] c174_l0) (.seq (.seq (.region [.op 54 (.move (.t 1)) none .any, .op 13 (.move (.t 0)) none .any] [2, 4, 0]) (.block 2 [] c174_l1)) .ret)))
instance : IsSeq c174_n21 c174_n22 (.seq (.region [.op 30 (.move (.t 2)) none .any, .op 11 (.move (.t 0)) none .any] [2, 3, 5, 6, 0]) (.seq (.block 0 [some 0, some 1, some 10] c174_l0) (.seq (.seq (.region [.op 54 (.move (.t 1)) none .any, .op 13 (.move (.t 0)) none .any] [2, 4, 0]) (.block 2 [] c174_l1)) .ret))) := ⟨rfl⟩
def c174_n20 : SCode := .cond (.t 5) c174_n21 (.pre [0, 1, 2, 3, 4] .skip)
instance : IsCond c174_n20 (.t 5) c174_n21 (.pre [0, 1, 2, 3, 4] .skip) := ⟨rfl⟩
@[simp] def c174_n26 : SCode := (.region [.op 81 (.move (.t 1)) none .any, .op 14 (.move (.t 0)) none .any] [2, 4, 6, 0])
def c174_n25 : SCode := .seq c174_n26 (.seq (.region [.op 82 (.move (.t 1)) none .any, .op 15 (.move (.t 0)) none .any] [2, 3, 4, 5, 0]) (.seq (.block 4 [some 0, some 2, some 14] c174_l2) (.seq (.seq (.region [.op 107 (.move (.t 1)) none .any, .op 17 (.move (.t 0)) none .any] [2, 4, 0]) (.block 6 [] c174_l3)) .ret)))
instance : IsSeq c174_n25 c174_n26 (.seq (.region [.op 82 (.move (.t 1)) none .any, .op 15 (.move (.t 0)) none .any] [2, 3, 4, 5, 0]) (.seq (.block 4 [some 0, some 2, some 14] c174_l2) (.seq (.seq (.region [.op 107 (.move (.t 1)) none .any, .op 17 (.move (.t 0)) none .any] [2, 4, 0]) (.block 6 [] c174_l3)) .ret))) := ⟨rfl⟩
def c174_n24 : SCode := .cond (.t 5) c174_n25 (.pre [0, 1, 2, 3, 4] .skip)
instance : IsCond c174_n24 (.t 5) c174_n25 (.pre [0, 1, 2, 3, 4] .skip) := ⟨rfl⟩
@[simp] def c174_n27 : SCode := (.seq (.region [.op 77 (.move (.t 3)) none .any, .op 78 (.move (.t 3)) none .any, .op 79 (.bin .sub (.t 1) (.t 0)) none .any, .op 80 (.bin .eql (.t 0) (.k (.c (.int .i64 1)))) none .any] [4, 5, 6, 7, 8, 0]) c174_n24)
@[simp] def c174_n29 : SCode := (.region [.op 129 (.move (.t 1)) none .any, .op 130 (.move (.t 4)) none .any, .op 131 (.bin .add (.t 1) (.t 0)) none .any, .op 132 (.conv .u64 (.t 0)) none .any, .op 133 (.bin .shr (.t 0) (.k (.c (.int .u64 1)))) none .any, .op 134 (.conv .i64 (.t 0)) none .any, .op 18 (.move (.t 0)) none .any] [7, 8, 9, 10, 11, 0])
@[simp] def c174_n31 : SCode := (.region [.op 135 (.move (.t 5)) none .any, .op 136 (.move (.t 3)) none .any, .op 137 (.bin .add (.t 1) (.t 0)) none .any, .op 19 (.move (.t 0)) none .any] [4, 5, 6, 7, 8, 9, 0])
@[simp] def c174_n33 : SCode := (.region [.op 20 (.move (.k (.c (.int .i64 0)))) none .any, .op 21 (.move (.k (.c (.int .i64 0)))) none .any] [2, 3, 4, 5, 6, 7, 8])
def c174_n35 : SCode := .cond (.t 7) (.seq (.region [.op 141 (.move (.t 6)) none .any, .op 142 (.move (.t 4)) none .any, .op 143 (.bin .sub (.t 1) (.t 0)) none .any, .op 20 (.move (.t 0)) none .any] [4, 5, 6, 7, 8, 9, 10, 0]) (.region [.op 144 (.move (.t 5)) none .any, .op 21 (.move (.t 0)) none .any] [2, 3, 4, 5, 6, 7, 8, 9, 0])) (.seq (.region [.op 145 (.move (.t 1)) none .any, .op 20 (.move (.t 0)) none .any] [2, 3, 4, 5, 6, 7, 8, 0]) (.region [.op 146 (.move (.t 2)) none .any, .op 21 (.move (.t 0)) none .any] [2, 3, 4, 5, 6, 7, 8, 9, 0]))
instance : IsCond c174_n35 (.t 7) (.seq (.region [.op 141 (.move (.t 6)) none .any, .op 142 (.move (.t 4)) none .any, .op 143 (.bin .sub (.t 1) (.t 0)) none .any, .op 20 (.move (.t 0)) none .any] [4, 5, 6, 7, 8, 9, 10, 0]) (.region [.op 144 (.move (.t 5)) none .any, .op 21 (.move (.t 0)) none .any] [2, 3, 4, 5, 6, 7, 8, 9, 0])) (.seq (.region [.op 145 (.move (.t 1)) none .any, .op 20 (.move (.t 0)) none .any] [2, 3, 4, 5, 6, 7, 8, 0]) (.region [.op 146 (.move (.t 2)) none .any, .op 21 (.move (.t 0)) none .any] [2, 3, 4, 5, 6, 7, 8, 9, 0])) := ⟨rfl⟩
@[simp] def c174_n36 : SCode := (.seq (.region [.op 138 (.move (.t 2)) none .any, .op 139 (.move (.t 6)) none .any, .op 140 (.bin .gtr (.t 1) (.t 0)) none .any] [3, 4, 5, 6, 7, 8, 9, 0]) c174_n35)
@[simp] def c174_n38 : SCode := (.region [.op 147 (.move (.t 6)) none .any, .op 148 (.bin .sub (.t 0) (.k (.c (.int .i64 1)))) none .any, .op 22 (.move (.t 0)) none .any] [3, 4, 5, 6, 7, 8, 9, 10, 11, 0])
@[simp] def c174_n40 : SCode := (.block 8 [some 0, some 1, some 2, some 3, some 4, some 18, some 19, some 20] c174_l4)
@[simp] def c174_n42 : SCode := (.region [.op 175 (.move (.t 6)) none .any, .op 176 (.move (.t 8)) none .any, .op 177 (.bin .sub (.t 1) (.t 0)) none .any, .op 24 (.move (.t 0)) none .any] [4, 5, 6, 7, 8, 9, 11, 0])
def c174_n44 : SCode := .cond (.t 8) (.region [.op 186 (.move (.t 0)) none .any, .op 187 (.move (.t 7)) none .any, .op 188 (.move (.t 4)) none .any, .op 189 (.move (.t 10)) none .any, .op 190 (.move (.t 8)) none .any, .op 191 (.call false (.k (.c (.func 176 [] []))) [(.t 4), (.t 3), (.t 2), (.t 1), (.t 0)]) none .any] [6, 7, 9, 10, 11, 12, 13]) (.pre [0, 1, 3, 4, 5, 6, 7] .skip)
instance : IsCond c174_n44 (.t 8) (.region [.op 186 (.move (.t 0)) none .any, .op 187 (.move (.t 7)) none .any, .op 188 (.move (.t 4)) none .any, .op 189 (.move (.t 10)) none .any, .op 190 (.move (.t 8)) none .any, .op 191 (.call false (.k (.c (.func 176 [] []))) [(.t 4), (.t 3), (.t 2), (.t 1), (.t 0)]) none .any] [6, 7, 9, 10, 11, 12, 13]) (.pre [0, 1, 3, 4, 5, 6, 7] .skip) := ⟨rfl⟩
@[simp] def c174_n45 : SCode := (.seq (.region [.op 178 (.move (.t 6)) none .any, .op 179 (.move (.t 3)) none .any, .op 180 (.bin .lss (.t 1) (.t 0)) none .any, .op 181 (.move (.t 0)) none .any, .andN 185 0 [.op 182 (.move (.t 6)) none .any, .op 183 (.move (.t 12)) none .any, .op 184 (.bin .lss (.t 1) (.t 0)) none .any] (.t 0)] [5, 6, 7, 8, 9, 10, 11, 12, 0]) c174_n44)
@[simp] def c174_n47 : SCode := (.seq (.region [.op 192 (.move (.t 1)) none .any, .op 193 (.move (.t 6)) none .any, .op 194 (.bin .lss (.t 1) (.t 0)) none .any, .op 195 (.move (.t 0)) none .any, .andN 199 0 [.op 196 (.move (.t 9)) none .any, .op 197 (.move (.t 9)) none .any, .op 198 (.bin .lss (.t 1) (.t 0)) none .any] (.t 0)] [5, 6, 7, 8, 9, 10, 11, 0]) (.cond (.t 7) (.region [.op 200 (.move (.t 0)) none .any, .op 201 (.move (.t 2)) none .any, .op 202 (.move (.t 7)) none .any, .op 203 (.move (.t 7)) none .any, .op 204 (.move (.t 7)) none .any, .op 205 (.call false (.k (.c (.func 174 [] []))) [(.t 4), (.t 3), (.t 2), (.t 1), (.t 0)]) none .any] [6, 8, 9, 10, 12]) (.pre [0, 2, 3, 4, 6] .skip)))
@[simp] def c174_n49 : SCode := (.region [.op 206 (.move (.t 3)) none .any, .op 207 (.move (.t 5)) none .any, .op 208 (.bin .lss (.t 1) (.t 0)) none .any, .op 209 (.move (.t 0)) none .any, .andN 213 0 [.op 210 (.move (.t 8)) none .any, .op 211 (.move (.t 6)) none .any, .op 212 (.bin .lss (.t 1) (.t 0)) none .any] (.t 0)] [5, 6, 7, 8, 9, 0])
def c174_n48 : SCode := .seq c174_n49 (.cond (.t 5) (.region [.op 214 (.move (.t 0)) none .any, .op 215 (.move (.t 4)) none .any, .op 216 (.move (.t 6)) none .any, .op 217 (.move (.t 4)) none .any, .op 218 (.move (.t 6)) none .any, .op 219 (.call false (.k (.c (.func 174 [] []))) [(.t 4), (.t 3), (.t 2), (.t 1), (.t 0)]) none .any] []) (.pre [] .skip))
instance : IsSeq c174_n48 c174_n49 (.cond (.t 5) (.region [.op 214 (.move (.t 0)) none .any, .op 215 (.move (.t 4)) none .any, .op 216 (.move (.t 6)) none .any, .op 217 (.move (.t 4)) none .any, .op 218 (.move (.t 6)) none .any, .op 219 (.call false (.k (.c (.func 174 [] []))) [(.t 4), (.t 3), (.t 2), (.t 1), (.t 0)]) none .any] []) (.pre [] .skip)) := ⟨rfl⟩
def c174_n46 : SCode := .seq c174_n47 c174_n48
instance : IsSeq c174_n46 c174_n47 c174_n48 := ⟨rfl⟩
def c174_n43 : SCode := .seq c174_n45 c174_n46
instance : IsSeq c174_n43 c174_n45 c174_n46 := ⟨rfl⟩
def c174_n41 : SCode := .seq c174_n42 c174_n43
instance : IsSeq c174_n41 c174_n42 c174_n43 := ⟨rfl⟩
def c174_n39 : SCode := .seq c174_n40 c174_n41
instance : IsSeq c174_n39 c174_n40 c174_n41 := ⟨rfl⟩
def c174_n37 : SCode := .seq c174_n38 c174_n39
instance : IsSeq c174_n37 c174_n38 c174_n39 := ⟨rfl⟩
def c174_n34 : SCode := .seq c174_n36 c174_n37
instance : IsSeq c174_n34 c174_n36 c174_n37 := ⟨rfl⟩
def c174_n32 : SCode := .seq c174_n33 c174_n34
instance : IsSeq c174_n32 c174_n33 c174_n34 := ⟨rfl⟩
def c174_n30 : SCode := .seq c174_n31 c174_n32
instance : IsSeq c174_n30 c174_n31 c174_n32 := ⟨rfl⟩
def c174_n28 : SCode := .seq c174_n29 c174_n30
instance : IsSeq c174_n28 c174_n29 c174_n30 := ⟨rfl⟩
def c174_n23 : SCode := .seq c174_n27 c174_n28
instance : IsSeq c174_n23 c174_n27 c174_n28 := ⟨rfl⟩
def c174 : SCode := (.seq (.seq (.region [.op 25 (.move (.t 2)) none .any, .op 26 (.move (.t 2)) none .any, .op 27 (.bin .sub (.t 1) (.t 0)) none .any, .op 28 (.bin .eql (.t 0) (.k (.c (.int .i64 1)))) none .any] [4, 5, 6, 7, 8, 0]) c174_n20) c174_n23)
def F174 : SFunc := .code .shared 220 5 [] [] c174

-- slices.swapRangeCmpFunc[int]
-- c175_l0: env [0, 1, 2, 3, 10]
@[simp] def c175_n2 : SCode := (.draw 0 [.op 16 (.move (.t 0)) none .any, .op 17 (.move (.t 2)) none .any, .op 18 (.move (.t 6)) none .any, .op 19 (.bin .add (.t 1) (.t 0)) none .any, .op 20 (.move (.t 4)) none .any, .op 21 (.move (.t 7)) none .any, .op 22 (.move (.t 10)) none .any, .op 23 (.bin .add (.t 1) (.t 0)) none .any, .op 24 (.move (.t 8)) none .any, .op 25 (.move (.t 11)) none .any, .op 26 (.move (.t 14)) none .any, .op 27 (.bin .add (.t 1) (.t 0)) none .any, .op 28 (.idxSlice 1 (.t 3) (.t 0)) none .any, .op 29 (.load none (.t 0)) none .old, .op 30 (.move (.t 14)) none .any, .op 31 (.move (.t 16)) none .any, .op 32 (.move (.t 20)) none .any, .op 33 (.bin .add (.t 1) (.t 0)) none .any, .op 34 (.idxSlice 1 (.t 3) (.t 0)) none .any, .op 35 (.load none (.t 0)) none .old, .op 36 (.idxSlice 1 (.t 19) (.t 16)) none .any, .eff (.store 1 (.t 0) (.t 7)) none .old, .op 37 (.idxSlice 1 (.t 16) (.t 13)) none .any, .eff (.store 1 (.t 0) (.t 2)) none .old] [22, 23, 24, 25, 26])
def c175_n1 : SCode := .seq (.block 1 [some 0, some 1, some 2, some 3, some 10] c175_n2) (.region [.op 14 (.move (.t 4)) none .any, .op 15 (.bin .add (.t 0) (.k (.c (.int .i64 1)))) none .any, .op 10 (.move (.t 0)) none .any] [3, 4, 5, 6, 0])
instance : IsSeq c175_n1 (.block 1 [some 0, some 1, some 2, some 3, some 10] c175_n2) (.region [.op 14 (.move (.t 4)) none .any, .op 15 (.bin .add (.t 0) (.k (.c (.int .i64 1)))) none .any, .op 10 (.move (.t 0)) none .any] [3, 4, 5, 6, 0]) := ⟨rfl⟩
def c175_l0b : SCode := (.seq (.seq (.region [.op 11 (.move (.t 4)) none .any, .op 12 (.move (.t 4)) none .any, .op 13 (.bin .lss (.t 1) (.t 0)) none .any] [3, 4, 5, 6, 7, 0]) (.cond (.t 5) (.pre [0, 1, 2, 3, 4] .skip) (.pre [] (.exit 0)))) c175_n1)
def c175_l0 : SCode := .loop true c175_l0b
def c175 : SCode := (.seq (.region [.op 10 (.move (.k (.c (.int .i64 0)))) none .any] [1, 2, 3, 4, 0]) (.block 0 [] c175_l0))
def F175 : SFunc := .code .shared 38 5 [] [] c175

-- slices.rotateCmpFunc[crux/api.Result]
-- c176_l0: env [0, 2, 4, 10, 11]
@[simp] def c176_n3 : SCode := (.region [.op 21 (.move (.t 3)) none .any, .op 22 (.move (.t 5)) none .any, .op 23 (.bin .gtr (.t 1) (.t 0)) none .any] [3, 4, 5, 6, 7, 0])
@[simp] def c176_n6 : SCode := (.region [.op 24 (.move (.t 0)) none .any, .op 25 (.move (.t 2)) none .any, .op 26 (.move (.t 5)) none .any, .op 27 (.bin .sub (.t 1) (.t 0)) none .any, .op 28 (.move (.t 5)) none .any, .op 29 (.move (.t 9)) none .any, .op 30 (.move (.t 8)) none .any, .op 31 (.call false (.k (.c (.func 177 [] []))) [(.t 6), (.t 3), (.t 2), (.t 1), (.t 0)]) none .any] [8, 9, 10, 11, 12])
def c176_n5 : SCode := .seq c176_n6 (.region [.op 32 (.move (.t 3)) none .any, .op 33 (.move (.t 5)) none .any, .op 34 (.bin .sub (.t 1) (.t 0)) none .any, .op 10 (.move (.t 0)) none .any] [4, 5, 6, 0, 8])
instance : IsSeq c176_n5 c176_n6 (.region [.op 32 (.move (.t 3)) none .any, .op 33 (.move (.t 5)) none .any, .op 34 (.bin .sub (.t 1) (.t 0)) none .any, .op 10 (.move (.t 0)) none .any] [4, 5, 6, 0, 8]) := ⟨rfl⟩
@[simp] def c176_n8 : SCode := (.region [.op 35 (.move (.t 0)) none .any, .op 36 (.move (.t 2)) none .any, .op 37 (.move (.t 5)) none .any, .op 38 (.bin .sub (.t 1) (.t 0)) none .any, .op 39 (.move (.t 5)) none .any, .op 40 (.move (.t 9)) none .any, .op 41 (.bin .add (.t 1) (.t 0)) none .any, .op 42 (.move (.t 10)) none .any, .op 43 (.bin .sub (.t 1) (.t 0)) none .any, .op 44 (.move (.t 12)) none .any, .op 45 (.move (.t 12)) none .any, .op 46 (.call false (.k (.c (.func 177 [] []))) [(.t 10), (.t 7), (.t 2), (.t 1), (.t 0)]) none .any] [12, 13, 14, 15, 16])
def c176_n7 : SCode := .seq c176_n8 (.region [.op 47 (.move (.t 4)) none .any, .op 48 (.move (.t 4)) none .any, .op 49 (.bin .sub (.t 1) (.t 0)) none .any, .op 11 (.move (.t 0)) none .any] [4, 5, 6, 7, 0])
instance : IsSeq c176_n7 c176_n8 (.region [.op 47 (.move (.t 4)) none .any, .op 48 (.move (.t 4)) none .any, .op 49 (.bin .sub (.t 1) (.t 0)) none .any, .op 11 (.move (.t 0)) none .any] [4, 5, 6, 7, 0]) := ⟨rfl⟩
def c176_n4 : SCode := .cond (.t 5) c176_n5 c176_n7
instance : IsCond c176_n4 (.t 5) c176_n5 c176_n7 := ⟨rfl⟩
def c176_n2 : SCode := .seq c176_n3 c176_n4
instance : IsSeq c176_n2 c176_n3 c176_n4 := ⟨rfl⟩
def c176_n1 : SCode := .block 1 [some 0, some 2, some 4, some 10, some 11] c176_n2
instance : IsBlock c176_n1 1 [some 0, some 2, some 4, some 10, some 11] c176_n2 := ⟨rfl⟩
def c176_l0b : SCode := (.seq (.seq (.region [.op 18 (.move (.t 3)) none .any, .op 19 (.move (.t 5)) none .any, .op 20 (.bin .neq (.t 1) (.t 0)) none .any] [3, 4, 5, 6, 7, 0]) (.cond (.t 5) (.pre [0, 1, 2, 3, 4] .skip) (.pre [0, 1, 2, 3] (.exit 0)))) c176_n1)
def c176_l0 : SCode := .loop true c176_l0b
@[simp] def c176_n10 : SCode := (.region [.op 15 (.move (.t 2)) none .any, .op 16 (.move (.t 2)) none .any, .op 17 (.bin .sub (.t 1) (.t 0)) none .any, .op 11 (.move (.t 0)) none .any] [4, 5, 7, 8, 0])
@[simp] def c176_n12 : SCode := (.region [.op 50 (.move (.t 0)) none .any, .op 51 (.move (.t 2)) none .any, .op 52 (.move (.t 5)) none .any, .op 53 (.bin .sub (.t 1) (.t 0)) none .any, .op 54 (.move (.t 5)) none .any, .op 55 (.move (.t 8)) none .any, .op 56 (.move (.t 8)) none .any, .op 57 (.call false (.k (.c (.func 177 [] []))) [(.t 6), (.t 3), (.t 2), (.t 1), (.t 0)]) none .any] [])
def c176_n11 : SCode := .seq (.block 0 [some 0, some 2, some 4, some 10] c176_l0) c176_n12
instance : IsSeq c176_n11 (.block 0 [some 0, some 2, some 4, some 10] c176_l0) c176_n12 := ⟨rfl⟩
def c176_n9 : SCode := .seq c176_n10 c176_n11
instance : IsSeq c176_n9 c176_n10 c176_n11 := ⟨rfl⟩
def c176 : SCode := (.seq (.region [.op 12 (.move (.t 2)) none .any, .op 13 (.move (.t 2)) none .any, .op 14 (.bin .sub (.t 1) (.t 0)) none .any, .op 10 (.move (.t 0)) none .any] [4, 6, 7, 8, 0]) c176_n9)
def F176 : SFunc := .code .shared 58 5 [] [] c176

-- slices.swapRangeCmpFunc[crux/api.Result]
-- c177_l0: env [0, 1, 2, 3, 10]
@[simp] def c177_n2 : SCode := (.draw 0 [.op 16 (.move (.t 0)) none .any, .op 17 (.move (.t 2)) none .any, .op 18 (.move (.t 6)) none .any, .op 19 (.bin .add (.t 1) (.t 0)) none .any, .op 20 (.move (.t 4)) none .any, .op 21 (.move (.t 7)) none .any, .op 22 (.move (.t 10)) none .any, .op 23 (.bin .add (.t 1) (.t 0)) none .any, .op 24 (.move (.t 8)) none .any, .op 25 (.move (.t 11)) none .any, .op 26 (.move (.t 14)) none .any, .op 27 (.bin .add (.t 1) (.t 0)) none .any, .op 28 (.idxSlice 3 (.t 3) (.t 0)) none .any, .op 29 (.load (some 3) (.t 0)) none .old, .op 30 (.move (.t 14)) none .any, .op 31 (.move (.t 16)) none .any, .op 32 (.move (.t 20)) none .any, .op 33 (.bin .add (.t 1) (.t 0)) none .any, .op 34 (.idxSlice 3 (.t 3) (.t 0)) none .any, .op 35 (.load (some 3) (.t 0)) none .old, .op 36 (.idxSlice 3 (.t 19) (.t 16)) none .any, .eff (.store 3 (.t 0) (.t 7)) none .old, .op 37 (.idxSlice 3 (.t 16) (.t 13)) none .any, .eff (.store 3 (.t 0) (.t 2)) none .old] [22, 23, 24, 25, 26])
def c177_n1 : SCode := .seq (.block 1 [some 0, some 1, some 2, some 3, some 10] c177_n2) (.region [.op 14 (.move (.t 4)) none .any, .op 15 (.bin .add (.t 0) (.k (.c (.int .i64 1)))) none .any, .op 10 (.move (.t 0)) none .any] [3, 4, 5, 6, 0])
instance : IsSeq c177_n1 (.block 1 [some 0, some 1, some 2, some 3, some 10] c177_n2) (.region [.op 14 (.move (.t 4)) none .any, .op 15 (.bin .add (.t 0) (.k (.c (.int .i64 1)))) none .any, .op 10 (.move (.t 0)) none .any] [3, 4, 5, 6, 0]) := ⟨rfl⟩
def c177_l0b : SCode := (.seq (.seq (.region [.op 11 (.move (.t 4)) none .any, .op 12 (.move (.t 4)) none .any, .op 13 (.bin .lss (.t 1) (.t 0)) none .any] [3, 4, 5, 6, 7, 0]) (.cond (.t 5) (.pre [0, 1, 2, 3, 4] .skip) (.pre [] (.exit 0)))) c177_n1)
def c177_l0 : SCode := .loop true c177_l0b
def c177 : SCode := (.seq (.region [.op 10 (.move (.k (.c (.int .i64 0)))) none .any] [1, 2, 3, 4, 0]) (.block 0 [] c177_l0))
def F177 : SFunc := .code .shared 38 5 [] [] c177

end LM.G6

namespace LM.G6
open Go LM
def table0 : List (Nat × SFunc) := [(6, F6), (11, F11), (19, F19), (20, F20), (21, F21), (22, F22), (23, F23), (24, F24), (25, F25), (28, F28), (29, F29), (32, F32), (33, F33), (34, F34), (35, F35), (39, F39), (40, F40), (41, F41), (42, F42), (43, F43), (44, F44), (45, F45), (46, F46), (47, F47), (48, F48), (49, F49), (50, F50), (51, F51), (52, F52), (53, F53), (57, F57), (58, F58), (59, F59), (63, F63), (73, F73), (74, F74), (75, F75), (81, F81), (82, F82), (83, F83), (84, F84), (85, F85), (86, F86), (87, F87), (88, F88), (89, F89), (90, F90), (91, F91), (92, F92), (93, F93), (94, F94), (95, F95), (96, F96), (100, F100), (101, F101), (102, F102), (103, F103), (104, F104), (105, F105), (106, F106), (107, F107), (108, F108), (109, F109), (110, F110), (111, F111), (112, F112), (113, F113), (114, F114), (115, F115), (116, F116), (117, F117), (118, F118), (119, F119), (120, F120), (121, F121), (124, F124), (125, F125), (126, F126), (127, F127), (128, F128), (131, F131), (132, F132), (133, F133), (134, F134), (135, F135), (136, F136), (137, .fprim 1 (cloneP (some 3) 56)), (138, F138), (140, F140), (141, F141), (142, F142), (143, F143), (144, .fprim 1 (cloneP none 8)), (145, F145), (146, F146), (147, F147), (148, F148), (149, F149), (150, F150), (151, F151), (152, F152), (153, F153), (154, F154), (157, F157), (158, F158), (159, F159), (160, F160), (161, F161), (162, F162), (163, F163), (164, F164), (165, F165), (166, F166), (167, F167), (168, F168), (169, F169), (170, F170), (171, F171), (172, F172), (173, F173), (174, F174), (175, F175), (176, F176), (177, F177)]
/-- A program with these functions. -/
class Has (P : Nat → Option SFunc) : Prop where
  h : ∀ f F, lookupPrim f table0 = some F → P f = some F
variable {P : Nat → Option SFunc} [Has P]
theorem p6 : P 6 = some F6 := Has.h 6 F6 rfl
theorem u6 (args : List CV) : fn P 6 args = resK [.tmp 0] (execS P (limS P) c6 ⟨args.map .c, []⟩) := fn_code p6 args
@[simp] theorem call6 (pos : Option Nat) (q : Bool) (args : List LV) (h : Heap) : callS P (limS P) pos q 6 args h = bnd (frzArgs q args h) fun a => bnd (fn P 6 a.1) fun v => some (.c v, if scalarC v then h else a.2) := callS_pure p6 pos q args h
theorem r6_l0 (s : St) : execS P (limS P) c6_l0 s = seqK (execS P (limS P) c6_l0b s) fun s' => execS P (limS P) c6_l0 (gc s.heap.length s') := execS_loop true c6_l0b s
theorem p11 : P 11 = some F11 := Has.h 11 F11 rfl
theorem u11 (args : List CV) : fn P 11 args = resK [.tmp 0] (execS P (limS P) c11 ⟨args.map .c, []⟩) := fn_code p11 args
@[simp] theorem call11 (pos : Option Nat) (q : Bool) (args : List LV) (h : Heap) : callS P (limS P) pos q 11 args h = bnd (frzArgs q args h) fun a => bnd (fn P 11 a.1) fun v => some (.c v, if scalarC v then h else a.2) := callS_pure p11 pos q args h
theorem r11_l0 (s : St) : execS P (limS P) c11_l0 s = seqK (execS P (limS P) c11_l0b s) fun s' => execS P (limS P) c11_l0 (gc s.heap.length s') := execS_loop true c11_l0b s
theorem r11_l1 (s : St) : execS P (limS P) c11_l1 s = seqK (execS P (limS P) c11_l1b s) fun s' => execS P (limS P) c11_l1 (gc s.heap.length s') := execS_loop true c11_l1b s
theorem r11_l2 (s : St) : execS P (limS P) c11_l2 s = seqK (execS P (limS P) c11_l2b s) fun s' => execS P (limS P) c11_l2 (gc s.heap.length s') := execS_loop true c11_l2b s
theorem r11_l3 (s : St) : execS P (limS P) c11_l3 s = seqK (execS P (limS P) c11_l3b s) fun s' => execS P (limS P) c11_l3 (gc s.heap.length s') := execS_loop true c11_l3b s
theorem p19 : P 19 = some F19 := Has.h 19 F19 rfl
theorem u19 (args : List CV) : fn P 19 args = resK [.tmp 0] (execS P (limS P) c19 ⟨args.map .c, []⟩) := fn_code p19 args
@[simp] theorem call19 (pos : Option Nat) (q : Bool) (args : List LV) (h : Heap) : callS P (limS P) pos q 19 args h = bnd (frzArgs q args h) fun a => bnd (fn P 19 a.1) fun v => some (.c v, if scalarC v then h else a.2) := callS_pure p19 pos q args h
theorem r19_l0 (s : St) : execS P (limS P) c19_l0 s = seqK (execS P (limS P) c19_l0b s) fun s' => execS P (limS P) c19_l0 (gc s.heap.length s') := execS_loop true c19_l0b s
theorem p20 : P 20 = some F20 := Has.h 20 F20 rfl
theorem u20 (args : List CV) : fn P 20 args = resK [.tmp 0, .tmp 1] (execS P (limS P) c20 ⟨args.map .c, []⟩) := fn_code p20 args
@[simp] theorem call20 (pos : Option Nat) (q : Bool) (args : List LV) (h : Heap) : callS P (limS P) pos q 20 args h = bnd (frzArgs q args h) fun a => bnd (fn P 20 a.1) fun v => some (.c v, if scalarC v then h else a.2) := callS_pure p20 pos q args h
theorem p21 : P 21 = some F21 := Has.h 21 F21 rfl
theorem u21 (args : List CV) : fn P 21 args = resK [.tmp 0, .tmp 1] (execS P (limS P) c21 ⟨args.map .c, []⟩) := fn_code p21 args
@[simp] theorem call21 (pos : Option Nat) (q : Bool) (args : List LV) (h : Heap) : callS P (limS P) pos q 21 args h = bnd (frzArgs q args h) fun a => bnd (fn P 21 a.1) fun v => some (.c v, if scalarC v then h else a.2) := callS_pure p21 pos q args h
theorem r21_l0 (s : St) : execS P (limS P) c21_l0 s = seqK (execS P (limS P) c21_l0b s) fun s' => execS P (limS P) c21_l0 (gc s.heap.length s') := execS_loop true c21_l0b s
theorem p22 : P 22 = some F22 := Has.h 22 F22 rfl
theorem u22 (args : List CV) : fn P 22 args = resK [.tmp 0] (execS P (limS P) c22 ⟨args.map .c, []⟩) := fn_code p22 args
@[simp] theorem call22 (pos : Option Nat) (q : Bool) (args : List LV) (h : Heap) : callS P (limS P) pos q 22 args h = bnd (frzArgs q args h) fun a => bnd (fn P 22 a.1) fun v => some (.c v, if scalarC v then h else a.2) := callS_pure p22 pos q args h
theorem r22_l0 (s : St) : execS P (limS P) c22_l0 s = seqK (execS P (limS P) c22_l0b s) fun s' => execS P (limS P) c22_l0 (gc s.heap.length s') := execS_loop true c22_l0b s
theorem p23 : P 23 = some F23 := Has.h 23 F23 rfl
theorem u23 (args : List CV) : fn P 23 args = resK [.tmp 0] (execS P (limS P) c23 ⟨args.map .c, []⟩) := fn_code p23 args
@[simp] theorem call23 (pos : Option Nat) (q : Bool) (args : List LV) (h : Heap) : callS P (limS P) pos q 23 args h = bnd (frzArgs q args h) fun a => bnd (fn P 23 a.1) fun v => some (.c v, if scalarC v then h else a.2) := callS_pure p23 pos q args h
theorem p24 : P 24 = some F24 := Has.h 24 F24 rfl
theorem u24 (args : List CV) : fn P 24 args = resK [.tmp 0] (execS P (limS P) c24 ⟨args.map .c, []⟩) := fn_code p24 args
@[simp] theorem call24 (pos : Option Nat) (q : Bool) (args : List LV) (h : Heap) : callS P (limS P) pos q 24 args h = bnd (frzArgs q args h) fun a => bnd (fn P 24 a.1) fun v => some (.c v, if scalarC v then h else a.2) := callS_pure p24 pos q args h
theorem p25 : P 25 = some F25 := Has.h 25 F25 rfl
theorem u25 (args : List CV) : fn P 25 args = resK [.tmp 0] (execS P (limS P) c25 ⟨args.map .c, []⟩) := fn_code p25 args
@[simp] theorem call25 (pos : Option Nat) (q : Bool) (args : List LV) (h : Heap) : callS P (limS P) pos q 25 args h = bnd (frzArgs q args h) fun a => bnd (fn P 25 a.1) fun v => some (.c v, if scalarC v then h else a.2) := callS_pure p25 pos q args h
theorem p28 : P 28 = some F28 := Has.h 28 F28 rfl
theorem u28 (args : List CV) : fn P 28 args = resK [.tmp 0] (execS P (limS P) c28 ⟨args.map .c, []⟩) := fn_code p28 args
@[simp] theorem call28 (pos : Option Nat) (q : Bool) (args : List LV) (h : Heap) : callS P (limS P) pos q 28 args h = bnd (frzArgs q args h) fun a => bnd (fn P 28 a.1) fun v => some (.c v, if scalarC v then h else a.2) := callS_pure p28 pos q args h
theorem r28_l0 (s : St) : execS P (limS P) c28_l0 s = seqK (execS P (limS P) c28_l0b s) fun s' => execS P (limS P) c28_l0 (gc s.heap.length s') := execS_loop true c28_l0b s
theorem p29 : P 29 = some F29 := Has.h 29 F29 rfl
theorem u29 (args : List CV) : fn P 29 args = resK [.tmp 0, .tmp 1, .tmp 2] (execS P (limS P) c29 ⟨args.map .c, []⟩) := fn_code p29 args
@[simp] theorem call29 (pos : Option Nat) (q : Bool) (args : List LV) (h : Heap) : callS P (limS P) pos q 29 args h = bnd (frzArgs q args h) fun a => bnd (fn P 29 a.1) fun v => some (.c v, if scalarC v then h else a.2) := callS_pure p29 pos q args h
theorem r29_l0 (s : St) : execS P (limS P) c29_l0 s = seqK (execS P (limS P) c29_l0b s) fun s' => execS P (limS P) c29_l0 (gc s.heap.length s') := execS_loop true c29_l0b s
theorem p32 : P 32 = some F32 := Has.h 32 F32 rfl
theorem u32 (args : List CV) : fn P 32 args = resK [.tmp 0, .tmp 1] (execS P (limS P) c32 ⟨args.map .c, []⟩) := fn_code p32 args
@[simp] theorem call32 (pos : Option Nat) (q : Bool) (args : List LV) (h : Heap) : callS P (limS P) pos q 32 args h = bnd (frzArgs q args h) fun a => bnd (fn P 32 a.1) fun v => some (.c v, if scalarC v then h else a.2) := callS_pure p32 pos q args h
theorem r32_l0 (s : St) : execS P (limS P) c32_l0 s = seqK (execS P (limS P) c32_l0b s) fun s' => execS P (limS P) c32_l0 (gc s.heap.length s') := execS_loop true c32_l0b s
theorem r32_l1 (s : St) : execS P (limS P) c32_l1 s = seqK (execS P (limS P) c32_l1b s) fun s' => execS P (limS P) c32_l1 (gc s.heap.length s') := execS_loop true c32_l1b s
theorem p33 : P 33 = some F33 := Has.h 33 F33 rfl
theorem u33 (args : List CV) : fn P 33 args = resK [.tmp 0, .tmp 1] (execS P (limS P) c33 ⟨args.map .c, []⟩) := fn_code p33 args
@[simp] theorem call33 (pos : Option Nat) (q : Bool) (args : List LV) (h : Heap) : callS P (limS P) pos q 33 args h = bnd (frzArgs q args h) fun a => bnd (fn P 33 a.1) fun v => some (.c v, if scalarC v then h else a.2) := callS_pure p33 pos q args h
theorem p34 : P 34 = some F34 := Has.h 34 F34 rfl
theorem u34 (args : List CV) : fn P 34 args = resK [.tmp 0, .tmp 1] (execS P (limS P) c34 ⟨args.map .c, []⟩) := fn_code p34 args
@[simp] theorem call34 (pos : Option Nat) (q : Bool) (args : List LV) (h : Heap) : callS P (limS P) pos q 34 args h = bnd (frzArgs q args h) fun a => bnd (fn P 34 a.1) fun v => some (.c v, if scalarC v then h else a.2) := callS_pure p34 pos q args h
theorem r34_l0 (s : St) : execS P (limS P) c34_l0 s = seqK (execS P (limS P) c34_l0b s) fun s' => execS P (limS P) c34_l0 (gc s.heap.length s') := execS_loop true c34_l0b s
theorem r34_l1 (s : St) : execS P (limS P) c34_l1 s = seqK (execS P (limS P) c34_l1b s) fun s' => execS P (limS P) c34_l1 (gc s.heap.length s') := execS_loop true c34_l1b s
theorem r34_l2 (s : St) : execS P (limS P) c34_l2 s = seqK (execS P (limS P) c34_l2b s) fun s' => execS P (limS P) c34_l2 (gc s.heap.length s') := execS_loop true c34_l2b s
theorem p35 : P 35 = some F35 := Has.h 35 F35 rfl
theorem u35 (args : List CV) : fn P 35 args = resK [.tmp 0] (execS P (limS P) c35 ⟨args.map .c, []⟩) := fn_code p35 args
@[simp] theorem call35 (pos : Option Nat) (q : Bool) (args : List LV) (h : Heap) : callS P (limS P) pos q 35 args h = bnd (frzArgs q args h) fun a => bnd (fn P 35 a.1) fun v => some (.c v, if scalarC v then h else a.2) := callS_pure p35 pos q args h
theorem p39 : P 39 = some F39 := Has.h 39 F39 rfl
theorem u39 (args : List CV) : fn P 39 args = resK [.tmp 0, .tmp 1] (execS P (limS P) c39 ⟨args.map .c, []⟩) := fn_code p39 args
@[simp] theorem call39 (pos : Option Nat) (q : Bool) (args : List LV) (h : Heap) : callS P (limS P) pos q 39 args h = bnd (frzArgs q args h) fun a => bnd (fn P 39 a.1) fun v => some (.c v, if scalarC v then h else a.2) := callS_pure p39 pos q args h
theorem r39_l0 (s : St) : execS P (limS P) c39_l0 s = seqK (execS P (limS P) c39_l0b s) fun s' => execS P (limS P) c39_l0 (gc s.heap.length s') := execS_loop true c39_l0b s
theorem p40 : P 40 = some F40 := Has.h 40 F40 rfl
theorem u40 (args : List CV) : fn P 40 args = resK [.tmp 0, .tmp 1] (execS P (limS P) c40 ⟨args.map .c, []⟩) := fn_code p40 args
@[simp] theorem call40 (pos : Option Nat) (q : Bool) (args : List LV) (h : Heap) : callS P (limS P) pos q 40 args h = bnd (frzArgs q args h) fun a => bnd (fn P 40 a.1) fun v => some (.c v, if scalarC v then h else a.2) := callS_pure p40 pos q args h
theorem r40_l0 (s : St) : execS P (limS P) c40_l0 s = seqK (execS P (limS P) c40_l0b s) fun s' => execS P (limS P) c40_l0 (gc s.heap.length s') := execS_loop true c40_l0b s
theorem p41 : P 41 = some F41 := Has.h 41 F41 rfl
theorem u41 (args : List CV) : fn P 41 args = resK [.tmp 0] (execS P (limS P) c41 ⟨args.map .c, []⟩) := fn_code p41 args
@[simp] theorem call41 (pos : Option Nat) (q : Bool) (args : List LV) (h : Heap) : callS P (limS P) pos q 41 args h = bnd (frzArgs q args h) fun a => bnd (fn P 41 a.1) fun v => some (.c v, if scalarC v then h else a.2) := callS_pure p41 pos q args h
theorem p42 : P 42 = some F42 := Has.h 42 F42 rfl
theorem u42 (args : List CV) : fn P 42 args = resK [.tmp 0] (execS P (limS P) c42 ⟨args.map .c, []⟩) := fn_code p42 args
@[simp] theorem call42 (pos : Option Nat) (q : Bool) (args : List LV) (h : Heap) : callS P (limS P) pos q 42 args h = bnd (frzArgs q args h) fun a => bnd (fn P 42 a.1) fun v => some (.c v, if scalarC v then h else a.2) := callS_pure p42 pos q args h
theorem p43 : P 43 = some F43 := Has.h 43 F43 rfl
theorem u43 (args : List CV) : fn P 43 args = resK [.tmp 0] (execS P (limS P) c43 ⟨args.map .c, []⟩) := fn_code p43 args
@[simp] theorem call43 (pos : Option Nat) (q : Bool) (args : List LV) (h : Heap) : callS P (limS P) pos q 43 args h = bnd (frzArgs q args h) fun a => bnd (fn P 43 a.1) fun v => some (.c v, if scalarC v then h else a.2) := callS_pure p43 pos q args h
theorem r43_l0 (s : St) : execS P (limS P) c43_l0 s = seqK (execS P (limS P) c43_l0b s) fun s' => execS P (limS P) c43_l0 (gc s.heap.length s') := execS_loop true c43_l0b s
theorem p44 : P 44 = some F44 := Has.h 44 F44 rfl
theorem u44 (args : List CV) : fn P 44 args = resK [.tmp 0] (execS P (limS P) c44 ⟨args.map .c, []⟩) := fn_code p44 args
@[simp] theorem call44 (pos : Option Nat) (q : Bool) (args : List LV) (h : Heap) : callS P (limS P) pos q 44 args h = bnd (frzArgs q args h) fun a => bnd (fn P 44 a.1) fun v => some (.c v, if scalarC v then h else a.2) := callS_pure p44 pos q args h
theorem r44_l0 (s : St) : execS P (limS P) c44_l0 s = seqK (execS P (limS P) c44_l0b s) fun s' => execS P (limS P) c44_l0 (gc s.heap.length s') := execS_loop true c44_l0b s
theorem p45 : P 45 = some F45 := Has.h 45 F45 rfl
theorem u45 (args : List CV) : fn P 45 args = resK [.tmp 0, .tmp 1] (execS P (limS P) c45 ⟨args.map .c, []⟩) := fn_code p45 args
@[simp] theorem call45 (pos : Option Nat) (q : Bool) (args : List LV) (h : Heap) : callS P (limS P) pos q 45 args h = bnd (frzArgs q args h) fun a => bnd (fn P 45 a.1) fun v => some (.c v, if scalarC v then h else a.2) := callS_pure p45 pos q args h
theorem p46 : P 46 = some F46 := Has.h 46 F46 rfl
theorem u46 (args : List CV) : fn P 46 args = resK [.tmp 0, .tmp 1] (execS P (limS P) c46 ⟨args.map .c, []⟩) := fn_code p46 args
@[simp] theorem call46 (pos : Option Nat) (q : Bool) (args : List LV) (h : Heap) : callS P (limS P) pos q 46 args h = bnd (frzArgs q args h) fun a => bnd (fn P 46 a.1) fun v => some (.c v, if scalarC v then h else a.2) := callS_pure p46 pos q args h
theorem p47 : P 47 = some F47 := Has.h 47 F47 rfl
theorem u47 (args : List CV) : fn P 47 args = resK [.tmp 0] (execS P (limS P) c47 ⟨args.map .c, []⟩) := fn_code p47 args
@[simp] theorem call47 (pos : Option Nat) (q : Bool) (args : List LV) (h : Heap) : callS P (limS P) pos q 47 args h = bnd (frzArgs q args h) fun a => bnd (fn P 47 a.1) fun v => some (.c v, if scalarC v then h else a.2) := callS_pure p47 pos q args h
theorem p48 : P 48 = some F48 := Has.h 48 F48 rfl
theorem u48 (args : List CV) : ffn P 48 args = resF [.tmp 0] (execS P (limS P) c48 ⟨args.map .c, []⟩) := ffn_code p48 args
@[simp] theorem call48 (pos : Option Nat) (q : Bool) (args : List LV) (h : Heap) : callS P (limS P) pos q 48 args h = if q && pos.isNone then none else bnd (frzArgs q args h) fun a => bnd (ffn P 48 a.1) fun v => importB pos 30 v.1 v.2 a.2 := callS_fresh p48 pos q args h
theorem r48_l0 (s : St) : execS P (limS P) c48_l0 s = seqK (execS P (limS P) c48_l0b s) fun s' => execS P (limS P) c48_l0 (gc s.heap.length s') := execS_loop true c48_l0b s
theorem r48_l1 (s : St) : execS P (limS P) c48_l1 s = seqK (execS P (limS P) c48_l1b s) fun s' => execS P (limS P) c48_l1 s' := execS_loop false c48_l1b s
theorem r48_l2 (s : St) : execS P (limS P) c48_l2 s = seqK (execS P (limS P) c48_l2b s) fun s' => execS P (limS P) c48_l2 (gc s.heap.length s') := execS_loop true c48_l2b s
theorem p49 : P 49 = some F49 := Has.h 49 F49 rfl
theorem u49 (args : List CV) : fn P 49 args = resK [.tmp 0] (execS P (limS P) c49 ⟨args.map .c, []⟩) := fn_code p49 args
@[simp] theorem call49 (pos : Option Nat) (q : Bool) (args : List LV) (h : Heap) : callS P (limS P) pos q 49 args h = bnd (frzArgs q args h) fun a => bnd (fn P 49 a.1) fun v => some (.c v, if scalarC v then h else a.2) := callS_pure p49 pos q args h
theorem r49_l0 (s : St) : execS P (limS P) c49_l0 s = seqK (execS P (limS P) c49_l0b s) fun s' => execS P (limS P) c49_l0 (gc s.heap.length s') := execS_loop true c49_l0b s
theorem r49_l1 (s : St) : execS P (limS P) c49_l1 s = seqK (execS P (limS P) c49_l1b s) fun s' => execS P (limS P) c49_l1 (gc s.heap.length s') := execS_loop true c49_l1b s
theorem p50 : P 50 = some F50 := Has.h 50 F50 rfl
theorem u50 (args : List CV) : fn P 50 args = resK [.tmp 0, .tmp 1] (execS P (limS P) c50 ⟨args.map .c, []⟩) := fn_code p50 args
@[simp] theorem call50 (pos : Option Nat) (q : Bool) (args : List LV) (h : Heap) : callS P (limS P) pos q 50 args h = bnd (frzArgs q args h) fun a => bnd (fn P 50 a.1) fun v => some (.c v, if scalarC v then h else a.2) := callS_pure p50 pos q args h
theorem r50_l0 (s : St) : execS P (limS P) c50_l0 s = seqK (execS P (limS P) c50_l0b s) fun s' => execS P (limS P) c50_l0 (gc s.heap.length s') := execS_loop true c50_l0b s
theorem r50_l1 (s : St) : execS P (limS P) c50_l1 s = seqK (execS P (limS P) c50_l1b s) fun s' => execS P (limS P) c50_l1 (gc s.heap.length s') := execS_loop true c50_l1b s
theorem p51 : P 51 = some F51 := Has.h 51 F51 rfl
theorem u51 (args : List CV) : fn P 51 args = resK [.tmp 0] (execS P (limS P) c51 ⟨args.map .c, []⟩) := fn_code p51 args
@[simp] theorem call51 (pos : Option Nat) (q : Bool) (args : List LV) (h : Heap) : callS P (limS P) pos q 51 args h = bnd (frzArgs q args h) fun a => bnd (fn P 51 a.1) fun v => some (.c v, if scalarC v then h else a.2) := callS_pure p51 pos q args h
theorem r51_l0 (s : St) : execS P (limS P) c51_l0 s = seqK (execS P (limS P) c51_l0b s) fun s' => execS P (limS P) c51_l0 (gc s.heap.length s') := execS_loop true c51_l0b s
theorem r51_l1 (s : St) : execS P (limS P) c51_l1 s = seqK (execS P (limS P) c51_l1b s) fun s' => execS P (limS P) c51_l1 (gc s.heap.length s') := execS_loop true c51_l1b s
theorem p52 : P 52 = some F52 := Has.h 52 F52 rfl
theorem u52 (args : List CV) : fn P 52 args = resK [.tmp 0] (execS P (limS P) c52 ⟨args.map .c, []⟩) := fn_code p52 args
@[simp] theorem call52 (pos : Option Nat) (q : Bool) (args : List LV) (h : Heap) : callS P (limS P) pos q 52 args h = bnd (frzArgs q args h) fun a => bnd (fn P 52 a.1) fun v => some (.c v, if scalarC v then h else a.2) := callS_pure p52 pos q args h
theorem r52_l0 (s : St) : execS P (limS P) c52_l0 s = seqK (execS P (limS P) c52_l0b s) fun s' => execS P (limS P) c52_l0 (gc s.heap.length s') := execS_loop true c52_l0b s
theorem p53 : P 53 = some F53 := Has.h 53 F53 rfl
theorem u53 (args : List CV) : fn P 53 args = resK [.tmp 0] (execS P (limS P) c53 ⟨args.map .c, []⟩) := fn_code p53 args
@[simp] theorem call53 (pos : Option Nat) (q : Bool) (args : List LV) (h : Heap) : callS P (limS P) pos q 53 args h = bnd (frzArgs q args h) fun a => bnd (fn P 53 a.1) fun v => some (.c v, if scalarC v then h else a.2) := callS_pure p53 pos q args h
theorem r53_l0 (s : St) : execS P (limS P) c53_l0 s = seqK (execS P (limS P) c53_l0b s) fun s' => execS P (limS P) c53_l0 (gc s.heap.length s') := execS_loop true c53_l0b s
theorem p57 : P 57 = some F57 := Has.h 57 F57 rfl
theorem u57 (args : List CV) : fn P 57 args = resK [.tmp 0] (execS P (limS P) c57 ⟨args.map .c, []⟩) := fn_code p57 args
@[simp] theorem call57 (pos : Option Nat) (q : Bool) (args : List LV) (h : Heap) : callS P (limS P) pos q 57 args h = bnd (frzArgs q args h) fun a => bnd (fn P 57 a.1) fun v => some (.c v, if scalarC v then h else a.2) := callS_pure p57 pos q args h
theorem r57_l0 (s : St) : execS P (limS P) c57_l0 s = seqK (execS P (limS P) c57_l0b s) fun s' => execS P (limS P) c57_l0 (gc s.heap.length s') := execS_loop true c57_l0b s
theorem p58 : P 58 = some F58 := Has.h 58 F58 rfl
theorem u58 (args : List CV) : fn P 58 args = resK [.tmp 0, .tmp 1] (execS P (limS P) c58 ⟨args.map .c, []⟩) := fn_code p58 args
@[simp] theorem call58 (pos : Option Nat) (q : Bool) (args : List LV) (h : Heap) : callS P (limS P) pos q 58 args h = bnd (frzArgs q args h) fun a => bnd (fn P 58 a.1) fun v => some (.c v, if scalarC v then h else a.2) := callS_pure p58 pos q args h
theorem p59 : P 59 = some F59 := Has.h 59 F59 rfl
theorem u59 (args : List CV) : fn P 59 args = resK [.cell 0 (some 3), .tmp 1] (execS P (limS P) c59 ⟨args.map .c, []⟩) := fn_code p59 args
@[simp] theorem call59 (pos : Option Nat) (q : Bool) (args : List LV) (h : Heap) : callS P (limS P) pos q 59 args h = bnd (frzArgs q args h) fun a => bnd (fn P 59 a.1) fun v => some (.c v, if scalarC v then h else a.2) := callS_pure p59 pos q args h
theorem p63 : P 63 = some F63 := Has.h 63 F63 rfl
theorem u63 (args : List CV) : fn P 63 args = resK [.tmp 0, .tmp 1] (execS P (limS P) c63 ⟨args.map .c, []⟩) := fn_code p63 args
@[simp] theorem call63 (pos : Option Nat) (q : Bool) (args : List LV) (h : Heap) : callS P (limS P) pos q 63 args h = bnd (frzArgs q args h) fun a => bnd (fn P 63 a.1) fun v => some (.c v, if scalarC v then h else a.2) := callS_pure p63 pos q args h
theorem p73 : P 73 = some F73 := Has.h 73 F73 rfl
theorem u73 (args : List CV) : fn P 73 args = resK [.tmp 0] (execS P (limS P) c73 ⟨args.map .c, []⟩) := fn_code p73 args
@[simp] theorem call73 (pos : Option Nat) (q : Bool) (args : List LV) (h : Heap) : callS P (limS P) pos q 73 args h = bnd (frzArgs q args h) fun a => bnd (fn P 73 a.1) fun v => some (.c v, if scalarC v then h else a.2) := callS_pure p73 pos q args h
theorem r73_l0 (s : St) : execS P (limS P) c73_l0 s = seqK (execS P (limS P) c73_l0b s) fun s' => execS P (limS P) c73_l0 (gc s.heap.length s') := execS_loop true c73_l0b s
theorem p74 : P 74 = some F74 := Has.h 74 F74 rfl
theorem u74 (args : List CV) : fn P 74 args = resK [.tmp 0, .tmp 1] (execS P (limS P) c74 ⟨args.map .c, []⟩) := fn_code p74 args
@[simp] theorem call74 (pos : Option Nat) (q : Bool) (args : List LV) (h : Heap) : callS P (limS P) pos q 74 args h = bnd (frzArgs q args h) fun a => bnd (fn P 74 a.1) fun v => some (.c v, if scalarC v then h else a.2) := callS_pure p74 pos q args h
theorem p75 : P 75 = some F75 := Has.h 75 F75 rfl
theorem u75 (args : List CV) : fn P 75 args = resK [.tmp 0, .tmp 1] (execS P (limS P) c75 ⟨args.map .c, []⟩) := fn_code p75 args
@[simp] theorem call75 (pos : Option Nat) (q : Bool) (args : List LV) (h : Heap) : callS P (limS P) pos q 75 args h = bnd (frzArgs q args h) fun a => bnd (fn P 75 a.1) fun v => some (.c v, if scalarC v then h else a.2) := callS_pure p75 pos q args h
theorem r75_l0 (s : St) : execS P (limS P) c75_l0 s = seqK (execS P (limS P) c75_l0b s) fun s' => execS P (limS P) c75_l0 (gc s.heap.length s') := execS_loop true c75_l0b s
theorem p81 : P 81 = some F81 := Has.h 81 F81 rfl
theorem u81 (args : List CV) : fn P 81 args = resK [.tmp 0] (execS P (limS P) c81 ⟨args.map .c, []⟩) := fn_code p81 args
@[simp] theorem call81 (pos : Option Nat) (q : Bool) (args : List LV) (h : Heap) : callS P (limS P) pos q 81 args h = bnd (frzArgs q args h) fun a => bnd (fn P 81 a.1) fun v => some (.c v, if scalarC v then h else a.2) := callS_pure p81 pos q args h
theorem r81_l0 (s : St) : execS P (limS P) c81_l0 s = seqK (execS P (limS P) c81_l0b s) fun s' => execS P (limS P) c81_l0 (gc s.heap.length s') := execS_loop true c81_l0b s
theorem p82 : P 82 = some F82 := Has.h 82 F82 rfl
theorem u82 (args : List CV) : fn P 82 args = resK [.tmp 0] (execS P (limS P) c82 ⟨args.map .c, []⟩) := fn_code p82 args
@[simp] theorem call82 (pos : Option Nat) (q : Bool) (args : List LV) (h : Heap) : callS P (limS P) pos q 82 args h = bnd (frzArgs q args h) fun a => bnd (fn P 82 a.1) fun v => some (.c v, if scalarC v then h else a.2) := callS_pure p82 pos q args h
theorem r82_l0 (s : St) : execS P (limS P) c82_l0 s = seqK (execS P (limS P) c82_l0b s) fun s' => execS P (limS P) c82_l0 (gc s.heap.length s') := execS_loop true c82_l0b s
theorem p83 : P 83 = some F83 := Has.h 83 F83 rfl
theorem u83 (args : List CV) : fn P 83 args = resK [.tmp 0] (execS P (limS P) c83 ⟨args.map .c, []⟩) := fn_code p83 args
@[simp] theorem call83 (pos : Option Nat) (q : Bool) (args : List LV) (h : Heap) : callS P (limS P) pos q 83 args h = bnd (frzArgs q args h) fun a => bnd (fn P 83 a.1) fun v => some (.c v, if scalarC v then h else a.2) := callS_pure p83 pos q args h
theorem p84 : P 84 = some F84 := Has.h 84 F84 rfl
theorem u84 (args : List CV) : fn P 84 args = resK [.tmp 0] (execS P (limS P) c84 ⟨args.map .c, []⟩) := fn_code p84 args
@[simp] theorem call84 (pos : Option Nat) (q : Bool) (args : List LV) (h : Heap) : callS P (limS P) pos q 84 args h = bnd (frzArgs q args h) fun a => bnd (fn P 84 a.1) fun v => some (.c v, if scalarC v then h else a.2) := callS_pure p84 pos q args h
theorem p85 : P 85 = some F85 := Has.h 85 F85 rfl
theorem u85 (args : List CV) : fn P 85 args = resK [.tmp 0] (execS P (limS P) c85 ⟨args.map .c, []⟩) := fn_code p85 args
@[simp] theorem call85 (pos : Option Nat) (q : Bool) (args : List LV) (h : Heap) : callS P (limS P) pos q 85 args h = bnd (frzArgs q args h) fun a => bnd (fn P 85 a.1) fun v => some (.c v, if scalarC v then h else a.2) := callS_pure p85 pos q args h
theorem r85_l0 (s : St) : execS P (limS P) c85_l0 s = seqK (execS P (limS P) c85_l0b s) fun s' => execS P (limS P) c85_l0 (gc s.heap.length s') := execS_loop true c85_l0b s
theorem p86 : P 86 = some F86 := Has.h 86 F86 rfl
theorem u86 (args : List CV) : fn P 86 args = resK [.tmp 0] (execS P (limS P) c86 ⟨args.map .c, []⟩) := fn_code p86 args
@[simp] theorem call86 (pos : Option Nat) (q : Bool) (args : List LV) (h : Heap) : callS P (limS P) pos q 86 args h = bnd (frzArgs q args h) fun a => bnd (fn P 86 a.1) fun v => some (.c v, if scalarC v then h else a.2) := callS_pure p86 pos q args h
theorem p87 : P 87 = some F87 := Has.h 87 F87 rfl
theorem u87 (args : List CV) : fn P 87 args = resK [.tmp 0] (execS P (limS P) c87 ⟨args.map .c, []⟩) := fn_code p87 args
@[simp] theorem call87 (pos : Option Nat) (q : Bool) (args : List LV) (h : Heap) : callS P (limS P) pos q 87 args h = bnd (frzArgs q args h) fun a => bnd (fn P 87 a.1) fun v => some (.c v, if scalarC v then h else a.2) := callS_pure p87 pos q args h
theorem p88 : P 88 = some F88 := Has.h 88 F88 rfl
theorem u88 (args : List CV) : fn P 88 args = resK [.tmp 0] (execS P (limS P) c88 ⟨args.map .c, []⟩) := fn_code p88 args
@[simp] theorem call88 (pos : Option Nat) (q : Bool) (args : List LV) (h : Heap) : callS P (limS P) pos q 88 args h = bnd (frzArgs q args h) fun a => bnd (fn P 88 a.1) fun v => some (.c v, if scalarC v then h else a.2) := callS_pure p88 pos q args h
theorem r88_l0 (s : St) : execS P (limS P) c88_l0 s = seqK (execS P (limS P) c88_l0b s) fun s' => execS P (limS P) c88_l0 (gc s.heap.length s') := execS_loop true c88_l0b s
theorem p89 : P 89 = some F89 := Has.h 89 F89 rfl
theorem u89 (args : List CV) : fn P 89 args = resK [.tmp 0] (execS P (limS P) c89 ⟨args.map .c, []⟩) := fn_code p89 args
@[simp] theorem call89 (pos : Option Nat) (q : Bool) (args : List LV) (h : Heap) : callS P (limS P) pos q 89 args h = bnd (frzArgs q args h) fun a => bnd (fn P 89 a.1) fun v => some (.c v, if scalarC v then h else a.2) := callS_pure p89 pos q args h
theorem p90 : P 90 = some F90 := Has.h 90 F90 rfl
theorem u90 (args : List CV) : fn P 90 args = resK [.tmp 0] (execS P (limS P) c90 ⟨args.map .c, []⟩) := fn_code p90 args
@[simp] theorem call90 (pos : Option Nat) (q : Bool) (args : List LV) (h : Heap) : callS P (limS P) pos q 90 args h = bnd (frzArgs q args h) fun a => bnd (fn P 90 a.1) fun v => some (.c v, if scalarC v then h else a.2) := callS_pure p90 pos q args h
theorem r90_l0 (s : St) : execS P (limS P) c90_l0 s = seqK (execS P (limS P) c90_l0b s) fun s' => execS P (limS P) c90_l0 (gc s.heap.length s') := execS_loop true c90_l0b s
theorem p91 : P 91 = some F91 := Has.h 91 F91 rfl
theorem u91 (args : List CV) : fn P 91 args = resK [.tmp 0] (execS P (limS P) c91 ⟨args.map .c, []⟩) := fn_code p91 args
@[simp] theorem call91 (pos : Option Nat) (q : Bool) (args : List LV) (h : Heap) : callS P (limS P) pos q 91 args h = bnd (frzArgs q args h) fun a => bnd (fn P 91 a.1) fun v => some (.c v, if scalarC v then h else a.2) := callS_pure p91 pos q args h
theorem p92 : P 92 = some F92 := Has.h 92 F92 rfl
theorem u92 (args : List CV) : ffn P 92 args = resF [.tmp 0, .tmp 1] (execS P (limS P) c92 ⟨args.map .c, []⟩) := ffn_code p92 args
@[simp] theorem call92 (pos : Option Nat) (q : Bool) (args : List LV) (h : Heap) : callS P (limS P) pos q 92 args h = if q && pos.isNone then none else bnd (frzArgs q args h) fun a => bnd (ffn P 92 a.1) fun v => importB pos 2 v.1 v.2 a.2 := callS_fresh p92 pos q args h
theorem r92_l0 (s : St) : execS P (limS P) c92_l0 s = seqK (execS P (limS P) c92_l0b s) fun s' => execS P (limS P) c92_l0 (gc s.heap.length s') := execS_loop true c92_l0b s
theorem r92_l1 (s : St) : execS P (limS P) c92_l1 s = seqK (execS P (limS P) c92_l1b s) fun s' => execS P (limS P) c92_l1 (gc s.heap.length s') := execS_loop true c92_l1b s
theorem p93 : P 93 = some F93 := Has.h 93 F93 rfl
theorem u93 (args : List CV) : fn P 93 args = resK [.tmp 0] (execS P (limS P) c93 ⟨args.map .c, []⟩) := fn_code p93 args
@[simp] theorem call93 (pos : Option Nat) (q : Bool) (args : List LV) (h : Heap) : callS P (limS P) pos q 93 args h = bnd (frzArgs q args h) fun a => bnd (fn P 93 a.1) fun v => some (.c v, if scalarC v then h else a.2) := callS_pure p93 pos q args h
theorem p94 : P 94 = some F94 := Has.h 94 F94 rfl
theorem u94 (args : List LV) (h : Heap) : sfn P 94 args h = resF [] (execS P (limS P) c94 ⟨args, h⟩) := sfn_code p94 args h
@[simp] theorem call94 (pos : Option Nat) (q : Bool) (args : List LV) (h : Heap) : callS P (limS P) pos q 94 args h = if q then none else bnd (frzFuncs args h) fun a => sfn P 94 a.1 a.2 := callS_shared p94 pos q args h
theorem p95 : P 95 = some F95 := Has.h 95 F95 rfl
theorem u95 (args : List CV) : fn P 95 args = resK [.tmp 0] (execS P (limS P) c95 ⟨args.map .c, []⟩) := fn_code p95 args
@[simp] theorem call95 (pos : Option Nat) (q : Bool) (args : List LV) (h : Heap) : callS P (limS P) pos q 95 args h = bnd (frzArgs q args h) fun a => bnd (fn P 95 a.1) fun v => some (.c v, if scalarC v then h else a.2) := callS_pure p95 pos q args h
theorem p96 : P 96 = some F96 := Has.h 96 F96 rfl
theorem u96 (args : List CV) : fn P 96 args = resK [.tmp 0] (execS P (limS P) c96 ⟨args.map .c, []⟩) := fn_code p96 args
@[simp] theorem call96 (pos : Option Nat) (q : Bool) (args : List LV) (h : Heap) : callS P (limS P) pos q 96 args h = bnd (frzArgs q args h) fun a => bnd (fn P 96 a.1) fun v => some (.c v, if scalarC v then h else a.2) := callS_pure p96 pos q args h
theorem p100 : P 100 = some F100 := Has.h 100 F100 rfl
theorem u100 (args : List CV) : fn P 100 args = resK [.tmp 0] (execS P (limS P) c100 ⟨args.map .c, []⟩) := fn_code p100 args
@[simp] theorem call100 (pos : Option Nat) (q : Bool) (args : List LV) (h : Heap) : callS P (limS P) pos q 100 args h = bnd (frzArgs q args h) fun a => bnd (fn P 100 a.1) fun v => some (.c v, if scalarC v then h else a.2) := callS_pure p100 pos q args h
theorem p101 : P 101 = some F101 := Has.h 101 F101 rfl
theorem u101 (args : List CV) : fn P 101 args = resK [.tmp 0] (execS P (limS P) c101 ⟨args.map .c, []⟩) := fn_code p101 args
@[simp] theorem call101 (pos : Option Nat) (q : Bool) (args : List LV) (h : Heap) : callS P (limS P) pos q 101 args h = bnd (frzArgs q args h) fun a => bnd (fn P 101 a.1) fun v => some (.c v, if scalarC v then h else a.2) := callS_pure p101 pos q args h
theorem p102 : P 102 = some F102 := Has.h 102 F102 rfl
theorem u102 (args : List CV) : fn P 102 args = resK [.tmp 0, .tmp 1] (execS P (limS P) c102 ⟨args.map .c, []⟩) := fn_code p102 args
@[simp] theorem call102 (pos : Option Nat) (q : Bool) (args : List LV) (h : Heap) : callS P (limS P) pos q 102 args h = bnd (frzArgs q args h) fun a => bnd (fn P 102 a.1) fun v => some (.c v, if scalarC v then h else a.2) := callS_pure p102 pos q args h
theorem r102_l0 (s : St) : execS P (limS P) c102_l0 s = seqK (execS P (limS P) c102_l0b s) fun s' => execS P (limS P) c102_l0 (gc s.heap.length s') := execS_loop true c102_l0b s
theorem p103 : P 103 = some F103 := Has.h 103 F103 rfl
theorem u103 (args : List CV) : fn P 103 args = resK [.tmp 0] (execS P (limS P) c103 ⟨args.map .c, []⟩) := fn_code p103 args
@[simp] theorem call103 (pos : Option Nat) (q : Bool) (args : List LV) (h : Heap) : callS P (limS P) pos q 103 args h = bnd (frzArgs q args h) fun a => bnd (fn P 103 a.1) fun v => some (.c v, if scalarC v then h else a.2) := callS_pure p103 pos q args h
theorem p104 : P 104 = some F104 := Has.h 104 F104 rfl
theorem u104 (args : List CV) : fn P 104 args = resK [.tmp 0] (execS P (limS P) c104 ⟨args.map .c, []⟩) := fn_code p104 args
@[simp] theorem call104 (pos : Option Nat) (q : Bool) (args : List LV) (h : Heap) : callS P (limS P) pos q 104 args h = bnd (frzArgs q args h) fun a => bnd (fn P 104 a.1) fun v => some (.c v, if scalarC v then h else a.2) := callS_pure p104 pos q args h
theorem r104_l0 (s : St) : execS P (limS P) c104_l0 s = seqK (execS P (limS P) c104_l0b s) fun s' => execS P (limS P) c104_l0 (gc s.heap.length s') := execS_loop true c104_l0b s
theorem p105 : P 105 = some F105 := Has.h 105 F105 rfl
theorem u105 (args : List CV) : fn P 105 args = resK [.tmp 0] (execS P (limS P) c105 ⟨args.map .c, []⟩) := fn_code p105 args
@[simp] theorem call105 (pos : Option Nat) (q : Bool) (args : List LV) (h : Heap) : callS P (limS P) pos q 105 args h = bnd (frzArgs q args h) fun a => bnd (fn P 105 a.1) fun v => some (.c v, if scalarC v then h else a.2) := callS_pure p105 pos q args h
theorem p106 : P 106 = some F106 := Has.h 106 F106 rfl
theorem u106 (args : List CV) : fn P 106 args = resK [.tmp 0] (execS P (limS P) c106 ⟨args.map .c, []⟩) := fn_code p106 args
@[simp] theorem call106 (pos : Option Nat) (q : Bool) (args : List LV) (h : Heap) : callS P (limS P) pos q 106 args h = bnd (frzArgs q args h) fun a => bnd (fn P 106 a.1) fun v => some (.c v, if scalarC v then h else a.2) := callS_pure p106 pos q args h
theorem p107 : P 107 = some F107 := Has.h 107 F107 rfl
theorem u107 (args : List CV) : fn P 107 args = resK [.tmp 0] (execS P (limS P) c107 ⟨args.map .c, []⟩) := fn_code p107 args
@[simp] theorem call107 (pos : Option Nat) (q : Bool) (args : List LV) (h : Heap) : callS P (limS P) pos q 107 args h = bnd (frzArgs q args h) fun a => bnd (fn P 107 a.1) fun v => some (.c v, if scalarC v then h else a.2) := callS_pure p107 pos q args h
theorem p108 : P 108 = some F108 := Has.h 108 F108 rfl
theorem u108 (args : List LV) (h : Heap) : sfn P 108 args h = resF [.tmp 0] (execS P (limS P) c108 ⟨args, h⟩) := sfn_code p108 args h
@[simp] theorem call108 (pos : Option Nat) (q : Bool) (args : List LV) (h : Heap) : callS P (limS P) pos q 108 args h = if q then none else bnd (frzFuncs args h) fun a => sfn P 108 a.1 a.2 := callS_shared p108 pos q args h
theorem p109 : P 109 = some F109 := Has.h 109 F109 rfl
theorem u109 (args : List CV) : fn P 109 args = resK [.tmp 0] (execS P (limS P) c109 ⟨args.map .c, []⟩) := fn_code p109 args
@[simp] theorem call109 (pos : Option Nat) (q : Bool) (args : List LV) (h : Heap) : callS P (limS P) pos q 109 args h = bnd (frzArgs q args h) fun a => bnd (fn P 109 a.1) fun v => some (.c v, if scalarC v then h else a.2) := callS_pure p109 pos q args h
theorem p110 : P 110 = some F110 := Has.h 110 F110 rfl
theorem u110 (args : List CV) : fn P 110 args = resK [.tmp 0] (execS P (limS P) c110 ⟨args.map .c, []⟩) := fn_code p110 args
@[simp] theorem call110 (pos : Option Nat) (q : Bool) (args : List LV) (h : Heap) : callS P (limS P) pos q 110 args h = bnd (frzArgs q args h) fun a => bnd (fn P 110 a.1) fun v => some (.c v, if scalarC v then h else a.2) := callS_pure p110 pos q args h
theorem r110_l0 (s : St) : execS P (limS P) c110_l0 s = seqK (execS P (limS P) c110_l0b s) fun s' => execS P (limS P) c110_l0 (gc s.heap.length s') := execS_loop true c110_l0b s
theorem r110_l1 (s : St) : execS P (limS P) c110_l1 s = seqK (execS P (limS P) c110_l1b s) fun s' => execS P (limS P) c110_l1 s' := execS_loop false c110_l1b s
theorem r110_l2 (s : St) : execS P (limS P) c110_l2 s = seqK (execS P (limS P) c110_l2b s) fun s' => execS P (limS P) c110_l2 (gc s.heap.length s') := execS_loop true c110_l2b s
theorem p111 : P 111 = some F111 := Has.h 111 F111 rfl
theorem u111 (args : List CV) : fn P 111 args = resK [.tmp 0] (execS P (limS P) c111 ⟨args.map .c, []⟩) := fn_code p111 args
@[simp] theorem call111 (pos : Option Nat) (q : Bool) (args : List LV) (h : Heap) : callS P (limS P) pos q 111 args h = bnd (frzArgs q args h) fun a => bnd (fn P 111 a.1) fun v => some (.c v, if scalarC v then h else a.2) := callS_pure p111 pos q args h
theorem p112 : P 112 = some F112 := Has.h 112 F112 rfl
theorem u112 (args : List CV) : fn P 112 args = resK [.tmp 0] (execS P (limS P) c112 ⟨args.map .c, []⟩) := fn_code p112 args
@[simp] theorem call112 (pos : Option Nat) (q : Bool) (args : List LV) (h : Heap) : callS P (limS P) pos q 112 args h = bnd (frzArgs q args h) fun a => bnd (fn P 112 a.1) fun v => some (.c v, if scalarC v then h else a.2) := callS_pure p112 pos q args h
theorem r112_l0 (s : St) : execS P (limS P) c112_l0 s = seqK (execS P (limS P) c112_l0b s) fun s' => execS P (limS P) c112_l0 (gc s.heap.length s') := execS_loop true c112_l0b s
theorem p113 : P 113 = some F113 := Has.h 113 F113 rfl
theorem u113 (args : List CV) : fn P 113 args = resK [.tmp 0] (execS P (limS P) c113 ⟨args.map .c, []⟩) := fn_code p113 args
@[simp] theorem call113 (pos : Option Nat) (q : Bool) (args : List LV) (h : Heap) : callS P (limS P) pos q 113 args h = bnd (frzArgs q args h) fun a => bnd (fn P 113 a.1) fun v => some (.c v, if scalarC v then h else a.2) := callS_pure p113 pos q args h
theorem p114 : P 114 = some F114 := Has.h 114 F114 rfl
theorem u114 (args : List CV) : fn P 114 args = resK [.tmp 0] (execS P (limS P) c114 ⟨args.map .c, []⟩) := fn_code p114 args
@[simp] theorem call114 (pos : Option Nat) (q : Bool) (args : List LV) (h : Heap) : callS P (limS P) pos q 114 args h = bnd (frzArgs q args h) fun a => bnd (fn P 114 a.1) fun v => some (.c v, if scalarC v then h else a.2) := callS_pure p114 pos q args h
theorem r114_l0 (s : St) : execS P (limS P) c114_l0 s = seqK (execS P (limS P) c114_l0b s) fun s' => execS P (limS P) c114_l0 (gc s.heap.length s') := execS_loop true c114_l0b s
theorem p115 : P 115 = some F115 := Has.h 115 F115 rfl
theorem u115 (args : List CV) : fn P 115 args = resK [.tmp 0] (execS P (limS P) c115 ⟨args.map .c, []⟩) := fn_code p115 args
@[simp] theorem call115 (pos : Option Nat) (q : Bool) (args : List LV) (h : Heap) : callS P (limS P) pos q 115 args h = bnd (frzArgs q args h) fun a => bnd (fn P 115 a.1) fun v => some (.c v, if scalarC v then h else a.2) := callS_pure p115 pos q args h
theorem r115_l0 (s : St) : execS P (limS P) c115_l0 s = seqK (execS P (limS P) c115_l0b s) fun s' => execS P (limS P) c115_l0 (gc s.heap.length s') := execS_loop true c115_l0b s
theorem p116 : P 116 = some F116 := Has.h 116 F116 rfl
theorem u116 (args : List CV) : fn P 116 args = resK [.tmp 0] (execS P (limS P) c116 ⟨args.map .c, []⟩) := fn_code p116 args
@[simp] theorem call116 (pos : Option Nat) (q : Bool) (args : List LV) (h : Heap) : callS P (limS P) pos q 116 args h = bnd (frzArgs q args h) fun a => bnd (fn P 116 a.1) fun v => some (.c v, if scalarC v then h else a.2) := callS_pure p116 pos q args h
theorem p117 : P 117 = some F117 := Has.h 117 F117 rfl
theorem u117 (args : List CV) : fn P 117 args = resK [.tmp 0] (execS P (limS P) c117 ⟨args.map .c, []⟩) := fn_code p117 args
@[simp] theorem call117 (pos : Option Nat) (q : Bool) (args : List LV) (h : Heap) : callS P (limS P) pos q 117 args h = bnd (frzArgs q args h) fun a => bnd (fn P 117 a.1) fun v => some (.c v, if scalarC v then h else a.2) := callS_pure p117 pos q args h
theorem p118 : P 118 = some F118 := Has.h 118 F118 rfl
theorem u118 (args : List CV) : fn P 118 args = resK [.cell 0 (some 3)] (execS P (limS P) c118 ⟨args.map .c, []⟩) := fn_code p118 args
@[simp] theorem call118 (pos : Option Nat) (q : Bool) (args : List LV) (h : Heap) : callS P (limS P) pos q 118 args h = bnd (frzArgs q args h) fun a => bnd (fn P 118 a.1) fun v => some (.c v, if scalarC v then h else a.2) := callS_pure p118 pos q args h
theorem p119 : P 119 = some F119 := Has.h 119 F119 rfl
theorem u119 (args : List CV) : fn P 119 args = resK [.tmp 0] (execS P (limS P) c119 ⟨args.map .c, []⟩) := fn_code p119 args
@[simp] theorem call119 (pos : Option Nat) (q : Bool) (args : List LV) (h : Heap) : callS P (limS P) pos q 119 args h = bnd (frzArgs q args h) fun a => bnd (fn P 119 a.1) fun v => some (.c v, if scalarC v then h else a.2) := callS_pure p119 pos q args h
theorem p120 : P 120 = some F120 := Has.h 120 F120 rfl
theorem u120 (args : List CV) : fn P 120 args = resK [.tmp 0] (execS P (limS P) c120 ⟨args.map .c, []⟩) := fn_code p120 args
@[simp] theorem call120 (pos : Option Nat) (q : Bool) (args : List LV) (h : Heap) : callS P (limS P) pos q 120 args h = bnd (frzArgs q args h) fun a => bnd (fn P 120 a.1) fun v => some (.c v, if scalarC v then h else a.2) := callS_pure p120 pos q args h
theorem r120_l0 (s : St) : execS P (limS P) c120_l0 s = seqK (execS P (limS P) c120_l0b s) fun s' => execS P (limS P) c120_l0 (gc s.heap.length s') := execS_loop true c120_l0b s
theorem p121 : P 121 = some F121 := Has.h 121 F121 rfl
theorem u121 (args : List CV) : fn P 121 args = resK [.tmp 0] (execS P (limS P) c121 ⟨args.map .c, []⟩) := fn_code p121 args
@[simp] theorem call121 (pos : Option Nat) (q : Bool) (args : List LV) (h : Heap) : callS P (limS P) pos q 121 args h = bnd (frzArgs q args h) fun a => bnd (fn P 121 a.1) fun v => some (.c v, if scalarC v then h else a.2) := callS_pure p121 pos q args h
theorem p124 : P 124 = some F124 := Has.h 124 F124 rfl
theorem u124 (args : List CV) : fn P 124 args = resK [.tmp 0] (execS P (limS P) c124 ⟨args.map .c, []⟩) := fn_code p124 args
@[simp] theorem call124 (pos : Option Nat) (q : Bool) (args : List LV) (h : Heap) : callS P (limS P) pos q 124 args h = bnd (frzArgs q args h) fun a => bnd (fn P 124 a.1) fun v => some (.c v, if scalarC v then h else a.2) := callS_pure p124 pos q args h
theorem p125 : P 125 = some F125 := Has.h 125 F125 rfl
theorem u125 (args : List CV) : fn P 125 args = resK [.tmp 0] (execS P (limS P) c125 ⟨args.map .c, []⟩) := fn_code p125 args
@[simp] theorem call125 (pos : Option Nat) (q : Bool) (args : List LV) (h : Heap) : callS P (limS P) pos q 125 args h = bnd (frzArgs q args h) fun a => bnd (fn P 125 a.1) fun v => some (.c v, if scalarC v then h else a.2) := callS_pure p125 pos q args h
theorem r125_l0 (s : St) : execS P (limS P) c125_l0 s = seqK (execS P (limS P) c125_l0b s) fun s' => execS P (limS P) c125_l0 (gc s.heap.length s') := execS_loop true c125_l0b s
theorem r125_l1 (s : St) : execS P (limS P) c125_l1 s = seqK (execS P (limS P) c125_l1b s) fun s' => execS P (limS P) c125_l1 (gc s.heap.length s') := execS_loop true c125_l1b s
theorem p126 : P 126 = some F126 := Has.h 126 F126 rfl
theorem u126 (args : List CV) : fn P 126 args = resK [.tmp 0] (execS P (limS P) c126 ⟨args.map .c, []⟩) := fn_code p126 args
@[simp] theorem call126 (pos : Option Nat) (q : Bool) (args : List LV) (h : Heap) : callS P (limS P) pos q 126 args h = bnd (frzArgs q args h) fun a => bnd (fn P 126 a.1) fun v => some (.c v, if scalarC v then h else a.2) := callS_pure p126 pos q args h
theorem p127 : P 127 = some F127 := Has.h 127 F127 rfl
theorem u127 (args : List CV) : fn P 127 args = resK [.tmp 0] (execS P (limS P) c127 ⟨args.map .c, []⟩) := fn_code p127 args
@[simp] theorem call127 (pos : Option Nat) (q : Bool) (args : List LV) (h : Heap) : callS P (limS P) pos q 127 args h = bnd (frzArgs q args h) fun a => bnd (fn P 127 a.1) fun v => some (.c v, if scalarC v then h else a.2) := callS_pure p127 pos q args h
theorem p128 : P 128 = some F128 := Has.h 128 F128 rfl
theorem u128 (args : List CV) : fn P 128 args = resK [.tmp 0] (execS P (limS P) c128 ⟨args.map .c, []⟩) := fn_code p128 args
@[simp] theorem call128 (pos : Option Nat) (q : Bool) (args : List LV) (h : Heap) : callS P (limS P) pos q 128 args h = bnd (frzArgs q args h) fun a => bnd (fn P 128 a.1) fun v => some (.c v, if scalarC v then h else a.2) := callS_pure p128 pos q args h
theorem p131 : P 131 = some F131 := Has.h 131 F131 rfl
theorem u131 (args : List CV) : fn P 131 args = resK [.tmp 0] (execS P (limS P) c131 ⟨args.map .c, []⟩) := fn_code p131 args
@[simp] theorem call131 (pos : Option Nat) (q : Bool) (args : List LV) (h : Heap) : callS P (limS P) pos q 131 args h = bnd (frzArgs q args h) fun a => bnd (fn P 131 a.1) fun v => some (.c v, if scalarC v then h else a.2) := callS_pure p131 pos q args h
theorem p132 : P 132 = some F132 := Has.h 132 F132 rfl
theorem u132 (args : List CV) : fn P 132 args = resK [.tmp 0] (execS P (limS P) c132 ⟨args.map .c, []⟩) := fn_code p132 args
@[simp] theorem call132 (pos : Option Nat) (q : Bool) (args : List LV) (h : Heap) : callS P (limS P) pos q 132 args h = bnd (frzArgs q args h) fun a => bnd (fn P 132 a.1) fun v => some (.c v, if scalarC v then h else a.2) := callS_pure p132 pos q args h
theorem p133 : P 133 = some F133 := Has.h 133 F133 rfl
theorem u133 (args : List CV) : fn P 133 args = resK [.tmp 0] (execS P (limS P) c133 ⟨args.map .c, []⟩) := fn_code p133 args
@[simp] theorem call133 (pos : Option Nat) (q : Bool) (args : List LV) (h : Heap) : callS P (limS P) pos q 133 args h = bnd (frzArgs q args h) fun a => bnd (fn P 133 a.1) fun v => some (.c v, if scalarC v then h else a.2) := callS_pure p133 pos q args h
theorem r133_l0 (s : St) : execS P (limS P) c133_l0 s = seqK (execS P (limS P) c133_l0b s) fun s' => execS P (limS P) c133_l0 (gc s.heap.length s') := execS_loop true c133_l0b s
theorem p134 : P 134 = some F134 := Has.h 134 F134 rfl
theorem u134 (args : List CV) : fn P 134 args = resK [.tmp 0] (execS P (limS P) c134 ⟨args.map .c, []⟩) := fn_code p134 args
@[simp] theorem call134 (pos : Option Nat) (q : Bool) (args : List LV) (h : Heap) : callS P (limS P) pos q 134 args h = bnd (frzArgs q args h) fun a => bnd (fn P 134 a.1) fun v => some (.c v, if scalarC v then h else a.2) := callS_pure p134 pos q args h
theorem p135 : P 135 = some F135 := Has.h 135 F135 rfl
theorem u135 (args : List CV) : fn P 135 args = resK [.tmp 0] (execS P (limS P) c135 ⟨args.map .c, []⟩) := fn_code p135 args
@[simp] theorem call135 (pos : Option Nat) (q : Bool) (args : List LV) (h : Heap) : callS P (limS P) pos q 135 args h = bnd (frzArgs q args h) fun a => bnd (fn P 135 a.1) fun v => some (.c v, if scalarC v then h else a.2) := callS_pure p135 pos q args h
theorem p136 : P 136 = some F136 := Has.h 136 F136 rfl
theorem u136 (args : List LV) (h : Heap) : sfn P 136 args h = resF [.tmp 0] (execS P (limS P) c136 ⟨args, h⟩) := sfn_code p136 args h
@[simp] theorem call136 (pos : Option Nat) (q : Bool) (args : List LV) (h : Heap) : callS P (limS P) pos q 136 args h = if q then none else bnd (frzFuncs args h) fun a => sfn P 136 a.1 a.2 := callS_shared p136 pos q args h
theorem r136_l0 (s : St) : execS P (limS P) c136_l0 s = seqK (execS P (limS P) c136_l0b s) fun s' => execS P (limS P) c136_l0 (gc s.heap.length s') := execS_loop true c136_l0b s
theorem p138 : P 138 = some F138 := Has.h 138 F138 rfl
theorem u138 (args : List CV) : fn P 138 args = resK [.tmp 0] (execS P (limS P) c138 ⟨args.map .c, []⟩) := fn_code p138 args
@[simp] theorem call138 (pos : Option Nat) (q : Bool) (args : List LV) (h : Heap) : callS P (limS P) pos q 138 args h = bnd (frzArgs q args h) fun a => bnd (fn P 138 a.1) fun v => some (.c v, if scalarC v then h else a.2) := callS_pure p138 pos q args h
theorem p140 : P 140 = some F140 := Has.h 140 F140 rfl
theorem u140 (args : List CV) : fn P 140 args = resK [.tmp 0] (execS P (limS P) c140 ⟨args.map .c, []⟩) := fn_code p140 args
@[simp] theorem call140 (pos : Option Nat) (q : Bool) (args : List LV) (h : Heap) : callS P (limS P) pos q 140 args h = bnd (frzArgs q args h) fun a => bnd (fn P 140 a.1) fun v => some (.c v, if scalarC v then h else a.2) := callS_pure p140 pos q args h
theorem r140_l0 (s : St) : execS P (limS P) c140_l0 s = seqK (execS P (limS P) c140_l0b s) fun s' => execS P (limS P) c140_l0 (gc s.heap.length s') := execS_loop true c140_l0b s
theorem p141 : P 141 = some F141 := Has.h 141 F141 rfl
theorem u141 (args : List CV) : fn P 141 args = resK [.tmp 0] (execS P (limS P) c141 ⟨args.map .c, []⟩) := fn_code p141 args
@[simp] theorem call141 (pos : Option Nat) (q : Bool) (args : List LV) (h : Heap) : callS P (limS P) pos q 141 args h = bnd (frzArgs q args h) fun a => bnd (fn P 141 a.1) fun v => some (.c v, if scalarC v then h else a.2) := callS_pure p141 pos q args h
theorem p142 : P 142 = some F142 := Has.h 142 F142 rfl
theorem u142 (args : List LV) (h : Heap) : sfn P 142 args h = resF [] (execS P (limS P) c142 ⟨args, h⟩) := sfn_code p142 args h
@[simp] theorem call142 (pos : Option Nat) (q : Bool) (args : List LV) (h : Heap) : callS P (limS P) pos q 142 args h = if q then none else bnd (frzFuncs args h) fun a => sfn P 142 a.1 a.2 := callS_shared p142 pos q args h
theorem r142_l0 (s : St) : execS P (limS P) c142_l0 s = seqK (execS P (limS P) c142_l0b s) fun s' => execS P (limS P) c142_l0 (gc s.heap.length s') := execS_loop true c142_l0b s
theorem r142_l1 (s : St) : execS P (limS P) c142_l1 s = seqK (execS P (limS P) c142_l1b s) fun s' => execS P (limS P) c142_l1 (gc s.heap.length s') := execS_loop true c142_l1b s
theorem r142_l2 (s : St) : execS P (limS P) c142_l2 s = seqK (execS P (limS P) c142_l2b s) fun s' => execS P (limS P) c142_l2 (gc s.heap.length s') := execS_loop true c142_l2b s
theorem p143 : P 143 = some F143 := Has.h 143 F143 rfl
theorem u143 (args : List CV) : fn P 143 args = resK [.tmp 0] (execS P (limS P) c143 ⟨args.map .c, []⟩) := fn_code p143 args
@[simp] theorem call143 (pos : Option Nat) (q : Bool) (args : List LV) (h : Heap) : callS P (limS P) pos q 143 args h = bnd (frzArgs q args h) fun a => bnd (fn P 143 a.1) fun v => some (.c v, if scalarC v then h else a.2) := callS_pure p143 pos q args h
theorem p145 : P 145 = some F145 := Has.h 145 F145 rfl
theorem u145 (args : List CV) : fn P 145 args = resK [.tmp 0] (execS P (limS P) c145 ⟨args.map .c, []⟩) := fn_code p145 args
@[simp] theorem call145 (pos : Option Nat) (q : Bool) (args : List LV) (h : Heap) : callS P (limS P) pos q 145 args h = bnd (frzArgs q args h) fun a => bnd (fn P 145 a.1) fun v => some (.c v, if scalarC v then h else a.2) := callS_pure p145 pos q args h
theorem p146 : P 146 = some F146 := Has.h 146 F146 rfl
theorem u146 (args : List CV) : fn P 146 args = resK [.tmp 0] (execS P (limS P) c146 ⟨args.map .c, []⟩) := fn_code p146 args
@[simp] theorem call146 (pos : Option Nat) (q : Bool) (args : List LV) (h : Heap) : callS P (limS P) pos q 146 args h = bnd (frzArgs q args h) fun a => bnd (fn P 146 a.1) fun v => some (.c v, if scalarC v then h else a.2) := callS_pure p146 pos q args h
theorem p147 : P 147 = some F147 := Has.h 147 F147 rfl
theorem u147 (args : List CV) : fn P 147 args = resK [.tmp 0] (execS P (limS P) c147 ⟨args.map .c, []⟩) := fn_code p147 args
@[simp] theorem call147 (pos : Option Nat) (q : Bool) (args : List LV) (h : Heap) : callS P (limS P) pos q 147 args h = bnd (frzArgs q args h) fun a => bnd (fn P 147 a.1) fun v => some (.c v, if scalarC v then h else a.2) := callS_pure p147 pos q args h
theorem p148 : P 148 = some F148 := Has.h 148 F148 rfl
theorem u148 (args : List CV) : fn P 148 args = resK [.tmp 0] (execS P (limS P) c148 ⟨args.map .c, []⟩) := fn_code p148 args
@[simp] theorem call148 (pos : Option Nat) (q : Bool) (args : List LV) (h : Heap) : callS P (limS P) pos q 148 args h = bnd (frzArgs q args h) fun a => bnd (fn P 148 a.1) fun v => some (.c v, if scalarC v then h else a.2) := callS_pure p148 pos q args h
theorem r148_l0 (s : St) : execS P (limS P) c148_l0 s = seqK (execS P (limS P) c148_l0b s) fun s' => execS P (limS P) c148_l0 (gc s.heap.length s') := execS_loop true c148_l0b s
theorem p149 : P 149 = some F149 := Has.h 149 F149 rfl
theorem u149 (args : List CV) : fn P 149 args = resK [.tmp 0] (execS P (limS P) c149 ⟨args.map .c, []⟩) := fn_code p149 args
@[simp] theorem call149 (pos : Option Nat) (q : Bool) (args : List LV) (h : Heap) : callS P (limS P) pos q 149 args h = bnd (frzArgs q args h) fun a => bnd (fn P 149 a.1) fun v => some (.c v, if scalarC v then h else a.2) := callS_pure p149 pos q args h
theorem p150 : P 150 = some F150 := Has.h 150 F150 rfl
theorem u150 (args : List CV) : fn P 150 args = resK [.tmp 0] (execS P (limS P) c150 ⟨args.map .c, []⟩) := fn_code p150 args
@[simp] theorem call150 (pos : Option Nat) (q : Bool) (args : List LV) (h : Heap) : callS P (limS P) pos q 150 args h = bnd (frzArgs q args h) fun a => bnd (fn P 150 a.1) fun v => some (.c v, if scalarC v then h else a.2) := callS_pure p150 pos q args h
theorem p151 : P 151 = some F151 := Has.h 151 F151 rfl
theorem u151 (args : List CV) : fn P 151 args = resK [.tmp 0] (execS P (limS P) c151 ⟨args.map .c, []⟩) := fn_code p151 args
@[simp] theorem call151 (pos : Option Nat) (q : Bool) (args : List LV) (h : Heap) : callS P (limS P) pos q 151 args h = bnd (frzArgs q args h) fun a => bnd (fn P 151 a.1) fun v => some (.c v, if scalarC v then h else a.2) := callS_pure p151 pos q args h
theorem p152 : P 152 = some F152 := Has.h 152 F152 rfl
theorem u152 (args : List CV) : fn P 152 args = resK [.tmp 0] (execS P (limS P) c152 ⟨args.map .c, []⟩) := fn_code p152 args
@[simp] theorem call152 (pos : Option Nat) (q : Bool) (args : List LV) (h : Heap) : callS P (limS P) pos q 152 args h = bnd (frzArgs q args h) fun a => bnd (fn P 152 a.1) fun v => some (.c v, if scalarC v then h else a.2) := callS_pure p152 pos q args h
theorem p153 : P 153 = some F153 := Has.h 153 F153 rfl
theorem u153 (args : List CV) : fn P 153 args = resK [.tmp 0] (execS P (limS P) c153 ⟨args.map .c, []⟩) := fn_code p153 args
@[simp] theorem call153 (pos : Option Nat) (q : Bool) (args : List LV) (h : Heap) : callS P (limS P) pos q 153 args h = bnd (frzArgs q args h) fun a => bnd (fn P 153 a.1) fun v => some (.c v, if scalarC v then h else a.2) := callS_pure p153 pos q args h
theorem r153_l0 (s : St) : execS P (limS P) c153_l0 s = seqK (execS P (limS P) c153_l0b s) fun s' => execS P (limS P) c153_l0 (gc s.heap.length s') := execS_loop true c153_l0b s
theorem p154 : P 154 = some F154 := Has.h 154 F154 rfl
theorem u154 (args : List CV) : fn P 154 args = resK [.tmp 0] (execS P (limS P) c154 ⟨args.map .c, []⟩) := fn_code p154 args
@[simp] theorem call154 (pos : Option Nat) (q : Bool) (args : List LV) (h : Heap) : callS P (limS P) pos q 154 args h = bnd (frzArgs q args h) fun a => bnd (fn P 154 a.1) fun v => some (.c v, if scalarC v then h else a.2) := callS_pure p154 pos q args h
theorem r154_l0 (s : St) : execS P (limS P) c154_l0 s = seqK (execS P (limS P) c154_l0b s) fun s' => execS P (limS P) c154_l0 (gc s.heap.length s') := execS_loop true c154_l0b s
theorem p157 : P 157 = some F157 := Has.h 157 F157 rfl
theorem u157 (args : List CV) : fn P 157 args = resK [.tmp 0] (execS P (limS P) c157 ⟨args.map .c, []⟩) := fn_code p157 args
@[simp] theorem call157 (pos : Option Nat) (q : Bool) (args : List LV) (h : Heap) : callS P (limS P) pos q 157 args h = bnd (frzArgs q args h) fun a => bnd (fn P 157 a.1) fun v => some (.c v, if scalarC v then h else a.2) := callS_pure p157 pos q args h
theorem p158 : P 158 = some F158 := Has.h 158 F158 rfl
theorem u158 (args : List CV) : fn P 158 args = resK [.tmp 0] (execS P (limS P) c158 ⟨args.map .c, []⟩) := fn_code p158 args
@[simp] theorem call158 (pos : Option Nat) (q : Bool) (args : List LV) (h : Heap) : callS P (limS P) pos q 158 args h = bnd (frzArgs q args h) fun a => bnd (fn P 158 a.1) fun v => some (.c v, if scalarC v then h else a.2) := callS_pure p158 pos q args h
theorem p159 : P 159 = some F159 := Has.h 159 F159 rfl
theorem u159 (args : List CV) : fn P 159 args = resK [.tmp 0] (execS P (limS P) c159 ⟨args.map .c, []⟩) := fn_code p159 args
@[simp] theorem call159 (pos : Option Nat) (q : Bool) (args : List LV) (h : Heap) : callS P (limS P) pos q 159 args h = bnd (frzArgs q args h) fun a => bnd (fn P 159 a.1) fun v => some (.c v, if scalarC v then h else a.2) := callS_pure p159 pos q args h
theorem p160 : P 160 = some F160 := Has.h 160 F160 rfl
theorem u160 (args : List LV) (h : Heap) : sfn P 160 args h = resF [.tmp 0] (execS P (limS P) c160 ⟨args, h⟩) := sfn_code p160 args h
@[simp] theorem call160 (pos : Option Nat) (q : Bool) (args : List LV) (h : Heap) : callS P (limS P) pos q 160 args h = if q then none else bnd (frzFuncs args h) fun a => sfn P 160 a.1 a.2 := callS_shared p160 pos q args h
theorem r160_l0 (s : St) : execS P (limS P) c160_l0 s = seqK (execS P (limS P) c160_l0b s) fun s' => execS P (limS P) c160_l0 (gc s.heap.length s') := execS_loop true c160_l0b s
theorem p161 : P 161 = some F161 := Has.h 161 F161 rfl
theorem u161 (args : List CV) : fn P 161 args = resK [.tmp 0] (execS P (limS P) c161 ⟨args.map .c, []⟩) := fn_code p161 args
@[simp] theorem call161 (pos : Option Nat) (q : Bool) (args : List LV) (h : Heap) : callS P (limS P) pos q 161 args h = bnd (frzArgs q args h) fun a => bnd (fn P 161 a.1) fun v => some (.c v, if scalarC v then h else a.2) := callS_pure p161 pos q args h
theorem p162 : P 162 = some F162 := Has.h 162 F162 rfl
theorem u162 (args : List CV) : fn P 162 args = resK [.tmp 0] (execS P (limS P) c162 ⟨args.map .c, []⟩) := fn_code p162 args
@[simp] theorem call162 (pos : Option Nat) (q : Bool) (args : List LV) (h : Heap) : callS P (limS P) pos q 162 args h = bnd (frzArgs q args h) fun a => bnd (fn P 162 a.1) fun v => some (.c v, if scalarC v then h else a.2) := callS_pure p162 pos q args h
theorem p163 : P 163 = some F163 := Has.h 163 F163 rfl
theorem u163 (args : List LV) (h : Heap) : sfn P 163 args h = resF [] (execS P (limS P) c163 ⟨args, h⟩) := sfn_code p163 args h
@[simp] theorem call163 (pos : Option Nat) (q : Bool) (args : List LV) (h : Heap) : callS P (limS P) pos q 163 args h = if q then none else bnd (frzFuncs args h) fun a => sfn P 163 a.1 a.2 := callS_shared p163 pos q args h
theorem p164 : P 164 = some F164 := Has.h 164 F164 rfl
theorem u164 (args : List CV) : fn P 164 args = resK [.tmp 0] (execS P (limS P) c164 ⟨args.map .c, []⟩) := fn_code p164 args
@[simp] theorem call164 (pos : Option Nat) (q : Bool) (args : List LV) (h : Heap) : callS P (limS P) pos q 164 args h = bnd (frzArgs q args h) fun a => bnd (fn P 164 a.1) fun v => some (.c v, if scalarC v then h else a.2) := callS_pure p164 pos q args h
theorem p165 : P 165 = some F165 := Has.h 165 F165 rfl
theorem u165 (args : List CV) : fn P 165 args = resK [.tmp 0] (execS P (limS P) c165 ⟨args.map .c, []⟩) := fn_code p165 args
@[simp] theorem call165 (pos : Option Nat) (q : Bool) (args : List LV) (h : Heap) : callS P (limS P) pos q 165 args h = bnd (frzArgs q args h) fun a => bnd (fn P 165 a.1) fun v => some (.c v, if scalarC v then h else a.2) := callS_pure p165 pos q args h
theorem r165_l0 (s : St) : execS P (limS P) c165_l0 s = seqK (execS P (limS P) c165_l0b s) fun s' => execS P (limS P) c165_l0 (gc s.heap.length s') := execS_loop true c165_l0b s
theorem p166 : P 166 = some F166 := Has.h 166 F166 rfl
theorem u166 (args : List CV) : fn P 166 args = resK [.tmp 0] (execS P (limS P) c166 ⟨args.map .c, []⟩) := fn_code p166 args
@[simp] theorem call166 (pos : Option Nat) (q : Bool) (args : List LV) (h : Heap) : callS P (limS P) pos q 166 args h = bnd (frzArgs q args h) fun a => bnd (fn P 166 a.1) fun v => some (.c v, if scalarC v then h else a.2) := callS_pure p166 pos q args h
theorem r166_l0 (s : St) : execS P (limS P) c166_l0 s = seqK (execS P (limS P) c166_l0b s) fun s' => execS P (limS P) c166_l0 (gc s.heap.length s') := execS_loop true c166_l0b s
theorem p167 : P 167 = some F167 := Has.h 167 F167 rfl
theorem u167 (args : List LV) (h : Heap) : sfn P 167 args h = resF [] (execS P (limS P) c167 ⟨args, h⟩) := sfn_code p167 args h
@[simp] theorem call167 (pos : Option Nat) (q : Bool) (args : List LV) (h : Heap) : callS P (limS P) pos q 167 args h = if q then none else bnd (frzFuncs args h) fun a => sfn P 167 a.1 a.2 := callS_shared p167 pos q args h
theorem r167_l0 (s : St) : execS P (limS P) c167_l0 s = seqK (execS P (limS P) c167_l0b s) fun s' => execS P (limS P) c167_l0 (gc s.heap.length s') := execS_loop true c167_l0b s
theorem r167_l1 (s : St) : execS P (limS P) c167_l1 s = seqK (execS P (limS P) c167_l1b s) fun s' => execS P (limS P) c167_l1 (gc s.heap.length s') := execS_loop true c167_l1b s
theorem p168 : P 168 = some F168 := Has.h 168 F168 rfl
theorem u168 (args : List LV) (h : Heap) : sfn P 168 args h = resF [] (execS P (limS P) c168 ⟨args, h⟩) := sfn_code p168 args h
@[simp] theorem call168 (pos : Option Nat) (q : Bool) (args : List LV) (h : Heap) : callS P (limS P) pos q 168 args h = if q then none else bnd (frzFuncs args h) fun a => sfn P 168 a.1 a.2 := callS_shared p168 pos q args h
theorem r168_l0 (s : St) : execS P (limS P) c168_l0 s = seqK (execS P (limS P) c168_l0b s) fun s' => execS P (limS P) c168_l0 (gc s.heap.length s') := execS_loop true c168_l0b s
theorem r168_l1 (s : St) : execS P (limS P) c168_l1 s = seqK (execS P (limS P) c168_l1b s) fun s' => execS P (limS P) c168_l1 (gc s.heap.length s') := execS_loop true c168_l1b s
theorem r168_l2 (s : St) : execS P (limS P) c168_l2 s = seqK (execS P (limS P) c168_l2b s) fun s' => execS P (limS P) c168_l2 (gc s.heap.length s') := execS_loop true c168_l2b s
theorem r168_l3 (s : St) : execS P (limS P) c168_l3 s = seqK (execS P (limS P) c168_l3b s) fun s' => execS P (limS P) c168_l3 (gc s.heap.length s') := execS_loop true c168_l3b s
theorem r168_l4 (s : St) : execS P (limS P) c168_l4 s = seqK (execS P (limS P) c168_l4b s) fun s' => execS P (limS P) c168_l4 (gc s.heap.length s') := execS_loop true c168_l4b s
theorem p169 : P 169 = some F169 := Has.h 169 F169 rfl
theorem u169 (args : List CV) : fn P 169 args = resK [.tmp 0] (execS P (limS P) c169 ⟨args.map .c, []⟩) := fn_code p169 args
@[simp] theorem call169 (pos : Option Nat) (q : Bool) (args : List LV) (h : Heap) : callS P (limS P) pos q 169 args h = bnd (frzArgs q args h) fun a => bnd (fn P 169 a.1) fun v => some (.c v, if scalarC v then h else a.2) := callS_pure p169 pos q args h
theorem r169_l0 (s : St) : execS P (limS P) c169_l0 s = seqK (execS P (limS P) c169_l0b s) fun s' => execS P (limS P) c169_l0 (gc s.heap.length s') := execS_loop true c169_l0b s
theorem p170 : P 170 = some F170 := Has.h 170 F170 rfl
theorem u170 (args : List CV) : fn P 170 args = resK [.tmp 0] (execS P (limS P) c170 ⟨args.map .c, []⟩) := fn_code p170 args
@[simp] theorem call170 (pos : Option Nat) (q : Bool) (args : List LV) (h : Heap) : callS P (limS P) pos q 170 args h = bnd (frzArgs q args h) fun a => bnd (fn P 170 a.1) fun v => some (.c v, if scalarC v then h else a.2) := callS_pure p170 pos q args h
theorem r170_l0 (s : St) : execS P (limS P) c170_l0 s = seqK (execS P (limS P) c170_l0b s) fun s' => execS P (limS P) c170_l0 (gc s.heap.length s') := execS_loop true c170_l0b s
theorem p171 : P 171 = some F171 := Has.h 171 F171 rfl
theorem u171 (args : List LV) (h : Heap) : sfn P 171 args h = resF [] (execS P (limS P) c171 ⟨args, h⟩) := sfn_code p171 args h
@[simp] theorem call171 (pos : Option Nat) (q : Bool) (args : List LV) (h : Heap) : callS P (limS P) pos q 171 args h = if q then none else bnd (frzFuncs args h) fun a => sfn P 171 a.1 a.2 := callS_shared p171 pos q args h
theorem r171_l0 (s : St) : execS P (limS P) c171_l0 s = seqK (execS P (limS P) c171_l0b s) fun s' => execS P (limS P) c171_l0 (gc s.heap.length s') := execS_loop true c171_l0b s
theorem r171_l1 (s : St) : execS P (limS P) c171_l1 s = seqK (execS P (limS P) c171_l1b s) fun s' => execS P (limS P) c171_l1 (gc s.heap.length s') := execS_loop true c171_l1b s
theorem r171_l2 (s : St) : execS P (limS P) c171_l2 s = seqK (execS P (limS P) c171_l2b s) fun s' => execS P (limS P) c171_l2 (gc s.heap.length s') := execS_loop true c171_l2b s
theorem p172 : P 172 = some F172 := Has.h 172 F172 rfl
theorem u172 (args : List LV) (h : Heap) : sfn P 172 args h = resF [] (execS P (limS P) c172 ⟨args, h⟩) := sfn_code p172 args h
@[simp] theorem call172 (pos : Option Nat) (q : Bool) (args : List LV) (h : Heap) : callS P (limS P) pos q 172 args h = if q then none else bnd (frzFuncs args h) fun a => sfn P 172 a.1 a.2 := callS_shared p172 pos q args h
theorem r172_l0 (s : St) : execS P (limS P) c172_l0 s = seqK (execS P (limS P) c172_l0b s) fun s' => execS P (limS P) c172_l0 (gc s.heap.length s') := execS_loop true c172_l0b s
theorem p173 : P 173 = some F173 := Has.h 173 F173 rfl
theorem u173 (args : List LV) (h : Heap) : sfn P 173 args h = resF [] (execS P (limS P) c173 ⟨args, h⟩) := sfn_code p173 args h
@[simp] theorem call173 (pos : Option Nat) (q : Bool) (args : List LV) (h : Heap) : callS P (limS P) pos q 173 args h = if q then none else bnd (frzFuncs args h) fun a => sfn P 173 a.1 a.2 := callS_shared p173 pos q args h
theorem r173_l0 (s : St) : execS P (limS P) c173_l0 s = seqK (execS P (limS P) c173_l0b s) fun s' => execS P (limS P) c173_l0 (gc s.heap.length s') := execS_loop true c173_l0b s
theorem r173_l1 (s : St) : execS P (limS P) c173_l1 s = seqK (execS P (limS P) c173_l1b s) fun s' => execS P (limS P) c173_l1 (gc s.heap.length s') := execS_loop true c173_l1b s
theorem p174 : P 174 = some F174 := Has.h 174 F174 rfl
theorem u174 (args : List LV) (h : Heap) : sfn P 174 args h = resF [] (execS P (limS P) c174 ⟨args, h⟩) := sfn_code p174 args h
@[simp] theorem call174 (pos : Option Nat) (q : Bool) (args : List LV) (h : Heap) : callS P (limS P) pos q 174 args h = if q then none else bnd (frzFuncs args h) fun a => sfn P 174 a.1 a.2 := callS_shared p174 pos q args h
theorem r174_l0 (s : St) : execS P (limS P) c174_l0 s = seqK (execS P (limS P) c174_l0b s) fun s' => execS P (limS P) c174_l0 (gc s.heap.length s') := execS_loop true c174_l0b s
theorem r174_l1 (s : St) : execS P (limS P) c174_l1 s = seqK (execS P (limS P) c174_l1b s) fun s' => execS P (limS P) c174_l1 (gc s.heap.length s') := execS_loop true c174_l1b s
theorem r174_l2 (s : St) : execS P (limS P) c174_l2 s = seqK (execS P (limS P) c174_l2b s) fun s' => execS P (limS P) c174_l2 (gc s.heap.length s') := execS_loop true c174_l2b s
theorem r174_l3 (s : St) : execS P (limS P) c174_l3 s = seqK (execS P (limS P) c174_l3b s) fun s' => execS P (limS P) c174_l3 (gc s.heap.length s') := execS_loop true c174_l3b s
theorem r174_l4 (s : St) : execS P (limS P) c174_l4 s = seqK (execS P (limS P) c174_l4b s) fun s' => execS P (limS P) c174_l4 (gc s.heap.length s') := execS_loop true c174_l4b s
theorem p175 : P 175 = some F175 := Has.h 175 F175 rfl
theorem u175 (args : List LV) (h : Heap) : sfn P 175 args h = resF [] (execS P (limS P) c175 ⟨args, h⟩) := sfn_code p175 args h
@[simp] theorem call175 (pos : Option Nat) (q : Bool) (args : List LV) (h : Heap) : callS P (limS P) pos q 175 args h = if q then none else bnd (frzFuncs args h) fun a => sfn P 175 a.1 a.2 := callS_shared p175 pos q args h
theorem r175_l0 (s : St) : execS P (limS P) c175_l0 s = seqK (execS P (limS P) c175_l0b s) fun s' => execS P (limS P) c175_l0 (gc s.heap.length s') := execS_loop true c175_l0b s
theorem p176 : P 176 = some F176 := Has.h 176 F176 rfl
theorem u176 (args : List LV) (h : Heap) : sfn P 176 args h = resF [] (execS P (limS P) c176 ⟨args, h⟩) := sfn_code p176 args h
@[simp] theorem call176 (pos : Option Nat) (q : Bool) (args : List LV) (h : Heap) : callS P (limS P) pos q 176 args h = if q then none else bnd (frzFuncs args h) fun a => sfn P 176 a.1 a.2 := callS_shared p176 pos q args h
theorem r176_l0 (s : St) : execS P (limS P) c176_l0 s = seqK (execS P (limS P) c176_l0b s) fun s' => execS P (limS P) c176_l0 (gc s.heap.length s') := execS_loop true c176_l0b s
theorem p177 : P 177 = some F177 := Has.h 177 F177 rfl
theorem u177 (args : List LV) (h : Heap) : sfn P 177 args h = resF [] (execS P (limS P) c177 ⟨args, h⟩) := sfn_code p177 args h
@[simp] theorem call177 (pos : Option Nat) (q : Bool) (args : List LV) (h : Heap) : callS P (limS P) pos q 177 args h = if q then none else bnd (frzFuncs args h) fun a => sfn P 177 a.1 a.2 := callS_shared p177 pos q args h
theorem r177_l0 (s : St) : execS P (limS P) c177_l0 s = seqK (execS P (limS P) c177_l0b s) fun s' => execS P (limS P) c177_l0 (gc s.heap.length s') := execS_loop true c177_l0b s
theorem p137 : P 137 = some (.fprim 1 (cloneP (some 3) 56)) := Has.h 137 _ rfl
theorem u137 (args : List CV) : ffn P 137 args = (cloneP (some 3) 56) args := by simp only [ffn, p137]
@[simp] theorem call137 (pos : Option Nat) (q : Bool) (args : List LV) (h : Heap) : callS P (limS P) pos q 137 args h = if q && pos.isNone then none else bnd (frzArgs q args h) fun a => bnd (ffn P 137 a.1) fun v => importB pos 1 v.1 v.2 a.2 := callS_fprim p137 pos q args h
theorem p144 : P 144 = some (.fprim 1 (cloneP none 8)) := Has.h 144 _ rfl
theorem u144 (args : List CV) : ffn P 144 args = (cloneP none 8) args := by simp only [ffn, p144]
@[simp] theorem call144 (pos : Option Nat) (q : Bool) (args : List LV) (h : Heap) : callS P (limS P) pos q 144 args h = if q && pos.isNone then none else bnd (frzArgs q args h) fun a => bnd (ffn P 144 a.1) fun v => importB pos 1 v.1 v.2 a.2 := callS_fprim p144 pos q args h
/-- A program in which some functions are primitives. -/
class HasP (P : Nat → Option SFunc) : Prop where
  h : ∀ f, f ∈ [16, 66] → ∃ g, P f = some (.prim g)
@[simp] theorem call16 [HasP P] (pos : Option Nat) (q : Bool) (args : List LV) (h : Heap) : callS P (limS P) pos q 16 args h = bnd (frzArgs q args h) fun a => bnd (fn P 16 a.1) fun v => some (.c v, if scalarC v then h else a.2) := by
  obtain ⟨g, hg⟩ := HasP.h (P := P) 16 (by simp)
  exact callS_prim hg pos q args h
@[simp] theorem call66 [HasP P] (pos : Option Nat) (q : Bool) (args : List LV) (h : Heap) : callS P (limS P) pos q 66 args h = bnd (frzArgs q args h) fun a => bnd (fn P 66 a.1) fun v => some (.c v, if scalarC v then h else a.2) := by
  obtain ⟨g, hg⟩ := HasP.h (P := P) 66 (by simp)
  exact callS_prim hg pos q args h
end LM.G6

namespace LM.G6
open Go LM
def lc66 : LCode := (.seq (.region [.mk (some 2) (.mkNil (some 2)) none none .any, .mk (some 3) (.move (.k (.c (.int .i64 0)))) none none .any]) (.seq (.seq (.region [.mk (some 10) (.move (.t 0)) none none .any, .mk (some 11) (.call false (.k (.c (.func 125 [] []))) [(.t 10)]) none none .any, .mk (some 4) (.move (.t 11)) none none .any]) (.seq (.region [.mk (some 12) (.move (.t 4)) none none .any, .mk (some 13) (.bin .neq (.t 12) (.k (.c (.int .i64 0)))) none none .any]) (.cond (.t 13) (.seq (.region [.mk (some 14) (.move (.t 4)) none none .any, .mk (some 2) (.mkNil (some 2)) none none .any, .mk (some 3) (.move (.t 14)) none none .any]) .ret) .skip))) (.seq (.region [.mk (some 5) (.new [.nil]) none none .any]) (.seq (.seq (.region [.mk (some 15) (.move (.t 0)) none none .any, .mk (some 16) (.move (.t 0)) none none .any, .mk (some 17) (.len 1 (.t 16)) none none .any, .mk (some 18) (.bin .sub (.t 17) (.k (.c (.int .i64 1)))) none none .any, .mk (some 19) (.idxSlice 1 (.t 15) (.t 18)) none none .any, .mk (some 20) (.load none (.t 19)) none none .any, .mk (some 21) (.idxSlice 3 (.t 20) (.k (.c (.int .i64 0)))) none none .any, .mk (some 22) (.load (some 3) (.t 21)) none none .any, .mk (some 23) (.call false (.k (.c (.func 126 [] []))) [(.t 22)]) none none .any, .mk (some 6) (.move (.t 23)) none none .any]) (.seq (.region [.mk (some 24) (.move (.t 6)) none none .any, .mk (some 25) (.bin .neq (.t 24) (.k (.c (.str [])))) none none .any]) (.cond (.t 25) (.region [.mk (some 26) (.load none (.t 5)) none none .any, .mk (some 27) (.move (.t 6)) none none .any, .mk (some 28) (.build [(.c (.str [])), (.c (.int .i64 0))] [(0, 1, (.t 27)), (1, 1, (.k (.c (.int .i64 1))))]) none none .any, .mk (some 29) (.buildSlice 2 (some 2) 1 [(.c (.str [])), (.c (.int .i64 0))] [(0, (.t 28))]) none none .any, .mk (some 30) (.append (some 2) 24 (.t 26) (.t 29)) none none .any, .mk none (.store 1 (.t 5) (.t 30)) none none .any]) .skip))) (.seq (.seq (.region [.mk (some 31) (.move (.t 0)) none none .any, .mk (some 32) (.call false (.k (.c (.func 127 [] []))) [(.t 31)]) none none .any]) (.block 0 (.rangeFn (.t 32) [33, 34] (.region [.mk (some 8) (.new [.nil]) none none .any, .mk none (.store 1 (.t 8) (.t 34)) none none .any]) (.block 1 (.seq (.region [.mk (some 35) (.load none (.t 8)) none none .any, .mk (some 36) (.call false (.k (.c (.func 128 [] []))) [(.t 35)]) none none .any]) (.block 2 (.rangeFn (.t 36) [37] (.region [.mk (some 9) (.move (.t 37)) none none .any]) (.block 3 (.region [.mk (some 38) (.load none (.t 5)) none none .any, .mk (some 39) (.move (.t 9)) none none .any, .mk (some 40) (.load none (.t 8)) none none .any, .mk (some 41) (.len 1 (.t 40)) none none .any, .mk (some 42) (.bin .add (.t 41) (.k (.c (.int .i64 1)))) none none .any, .mk (some 43) (.build [(.c (.str [])), (.c (.int .i64 0))] [(0, 1, (.t 39)), (1, 1, (.t 42))]) none none .any, .mk (some 44) (.buildSlice 2 (some 2) 1 [(.c (.str [])), (.c (.int .i64 0))] [(0, (.t 43))]) none none .any, .mk (some 45) (.append (some 2) 24 (.t 38) (.t 44)) none none .any, .mk none (.store 1 (.t 5) (.t 45)) none none .any]))))))))) (.seq (.region [.mk (some 46) (.load none (.t 5)) none none .any, .mk (some 2) (.move (.t 46)) none none .any, .mk (some 3) (.move (.k (.c (.int .i64 0)))) none none .any]) .ret))))))
def lf66 : LFunc := .code .pure 47 [.tmp 2, .tmp 3] lc66
def lc155 : LCode := (.seq (.region [.mk (some 4) (.load none (.t 1)) none none .any, .mk (some 5) (.len 1 (.t 4)) none none .any, .mk (some 6) (.bin .sub (.t 5) (.k (.c (.int .i64 1)))) none none .any, .mk (some 3) (.move (.t 6)) none none .any]) (.block 0 (.loop true (.seq (.seq (.region [.mk (some 7) (.move (.t 3)) none none .any, .mk (some 8) (.bin .geq (.t 7) (.k (.c (.int .i64 0)))) none none .any]) (.cond (.t 8) .skip (.exit 0))) (.seq (.block 1 (.seq (.region [.mk (some 11) (.move (.t 0)) none none .any, .mk (some 12) (.move (.t 3)) none none .any, .mk (some 13) (.load none (.t 1)) none none .any, .mk (some 14) (.move (.t 3)) none none .any, .mk (some 15) (.idxSlice 1 (.t 13) (.t 14)) none none .any, .mk (some 16) (.load none (.t 15)) none none .any, .mk (some 17) (.call false (.t 11) [(.t 12), (.t 16)]) none none .any, .mk (some 18) (.not (.t 17)) none none .any]) (.cond (.t 18) .ret .skip))) (.region [.mk (some 9) (.move (.t 3)) none none .any, .mk (some 10) (.bin .sub (.t 9) (.k (.c (.int .i64 1)))) none none .any, .mk (some 3) (.move (.t 10)) none none .any]))))))
def lf155 : LFunc := .code .shared 19 [] lc155
def lc156 : LCode := (.seq .skip (.seq (.region [.mk (some 7) (.load none (.t 1)) none none .any, .mk (some 8) (.len 1 (.t 7)) none none .any, .mk (some 9) (.move (.k (.c (.int .i64 0)))) none none .any]) (.block 0 (.loop true (.seq (.region [.mk (some 10) (.bin .lss (.t 9) (.t 8)) none none .any]) (.seq (.cond (.t 10) .skip (.exit 0)) (.seq (.block 1 (.seq (.region [.mk (some 11) (.idxSlice 3 (.t 7) (.t 9)) none none .any, .mk (some 12) (.load (some 3) (.t 11)) none none .any, .mk (some 4) (.new [(.c (.str [])), (.c (.str [])), (.c (.int .i64 0))]) none none .any, .mk none (.store 3 (.t 4) (.t 12)) none none .any]) (.seq (.region [.mk (some 13) (.fieldAddr 0 (.t 4)) none none .any, .mk (some 14) (.load none (.t 13)) none none .any, .mk (some 15) (.fieldAddr 1 (.t 4)) none none .any, .mk (some 16) (.load none (.t 15)) none none .any, .mk (some 17) (.build [(.c (.str [])), (.c (.str []))] [(0, 1, (.t 14)), (1, 1, (.t 16))]) none none .any, .mk (some 18) (.move (.k (.c (.int .i64 0)))) none none .any]) (.block 2 (.loop true (.seq (.region [.mk (some 19) (.bin .lss (.t 18) (.k (.c (.int .i64 2)))) none none .any]) (.seq (.cond (.t 19) .skip (.exit 2)) (.seq (.block 3 (.seq (.region [.mk (some 20) (.indexArr 2 none (.t 17) (.t 18)) none none .any, .mk (some 6) (.move (.t 20)) none none .any]) (.seq (.seq (.region [.mk (some 21) (.move (.t 6)) none none .any, .mk (some 22) (.bin .eql (.t 21) (.k (.c (.str [])))) none none .any, .mk (some 23) (.move (.t 22)) none none .any, .mk (some 24) (.move (.t 6)) (some (23, false)) none .any, .mk (some 25) (.load (some 3) (.t 4)) (some (23, false)) none .any, .mk (some 26) (.call false (.k (.c (.func 126 [] []))) [(.t 25)]) (some (23, false)) none .any, .mk (some 27) (.bin .eql (.t 24) (.t 26)) (some (23, false)) none .any, .mk (some 28) (.pick (.t 23) (.k (.c (.bool true))) (.t 27)) none none .any]) (.cond (.t 28) (.exit 3) .skip)) (.seq (.region [.mk (some 29) (.move (.t 0)) none none .any, .mk (some 30) (.move (.t 6)) none none .any, .mk (some 31) (.call false (.t 29) [(.t 30)]) none none .any, .mk (some 32) (.not (.t 31)) none none .any]) (.cond (.t 32) (.exit 0) .skip))))) (.region [.mk (some 33) (.bin .add (.t 18) (.k (.c (.int .i64 1)))) none none .any, .mk (some 18) (.move (.t 33)) none none .any]))))))))) (.region [.mk (some 34) (.bin .add (.t 9) (.k (.c (.int .i64 1)))) none none .any, .mk (some 9) (.move (.t 34)) none none .any]))))))))
def lf156 : LFunc := .code .shared 35 [] lc156
def lprog : List (Nat × LFunc) := [(66, lf66), (155, lf155), (156, lf156)]
-- crux/cruxlaw06.awake
@[simp] def c16_n2 : SCode := (.region [.op 38 (.call false (.k (.c (.func 83 [] []))) []) none .any, .op 39 (.call false (.k (.c (.func 20 [] []))) [(.t 0), (.k (.c (.int .i64 5)))]) none .any, .op 37 (.move (.t 0)) none .any, .op 40 (.extract (.t 0) 0) none .any, .op 41 (.extract (.t 1) 1) none .any, .op 1 (.move (.t 1)) none .any, .op 2 (.move (.t 1)) none .any] [1, 0])
@[simp] def c16_n4 : SCode := (.region [.op 43 (.call false (.k (.c (.func 83 [] []))) []) none .any, .op 44 (.call false (.k (.c (.func 21 [] []))) [(.t 0), (.k (.c (.int .i64 2))), (.k (.c (.int .i64 5)))]) none .any, .op 42 (.move (.t 0)) none .any, .op 45 (.extract (.t 0) 0) none .any, .op 46 (.extract (.t 1) 1) none .any, .op 3 (.move (.t 1)) none .any, .op 4 (.move (.t 1)) none .any] [7, 8, 1, 0])
@[simp] def c16_n6 : SCode := (.region [.op 48 (.buildSlice 2 none 4 [(.c (.int .i64 0))] [(0, (.k (.c (.int .i64 2)))), (1, (.k (.c (.int .i64 0)))), (2, (.k (.c (.int .i64 3)))), (3, (.k (.c (.int .i64 1))))]) none .any, .op 49 (.call false (.k (.c (.func 29 [] []))) [(.t 0)]) none .any, .op 47 (.move (.t 0)) none .any, .op 50 (.extract (.t 0) 0) none .any, .op 51 (.extract (.t 1) 1) none .any, .op 52 (.extract (.t 2) 2) none .any, .op 5 (.move (.t 2)) none .any, .op 6 (.move (.t 2)) none .any, .op 7 (.move (.t 2)) none .any] [9, 10, 11, 12, 1, 0])
@[simp] def c16_n8 : SCode := (.region [.op 54 (.call false (.k (.c (.func 83 [] []))) []) none .any, .op 55 (.buildSlice 2 none 4 [(.c (.int .i64 0))] [(0, (.k (.c (.int .i64 0)))), (1, (.k (.c (.int .i64 1)))), (2, (.k (.c (.int .i64 2)))), (3, (.k (.c (.int .i64 3))))]) none .any, .op 56 (.call false (.k (.c (.func 32 [] []))) [(.t 1), (.t 0)]) none .any, .op 53 (.move (.t 0)) none .any, .op 57 (.extract (.t 0) 0) none .any, .op 58 (.extract (.t 1) 1) none .any, .op 8 (.move (.t 1)) none .any, .op 9 (.move (.t 1)) none .any] [8, 9, 10, 11, 12, 13, 1, 0])
@[simp] def c16_n10 : SCode := (.region [.op 60 (.call false (.k (.c (.func 83 [] []))) []) none .any, .op 61 (.call false (.k (.c (.func 33 [] []))) [(.t 0)]) none .any, .op 59 (.move (.t 0)) none .any, .op 62 (.extract (.t 0) 0) none .any, .op 63 (.extract (.t 1) 1) none .any, .op 10 (.move (.t 1)) none .any, .op 11 (.move (.t 1)) none .any] [7, 8, 9, 10, 11, 12, 13, 14, 1, 0])
@[simp] def c16_n12 : SCode := (.region [.op 65 (.call false (.k (.c (.func 83 [] []))) []) none .any, .op 66 (.call false (.k (.c (.func 34 [] []))) [(.t 0)]) none .any, .op 64 (.move (.t 0)) none .any, .op 67 (.extract (.t 0) 0) none .any, .op 68 (.extract (.t 1) 1) none .any, .op 12 (.move (.t 1)) none .any, .op 13 (.move (.t 1)) none .any] [7, 8, 9, 10, 11, 12, 13, 14, 15, 16, 1, 0])
@[simp] def c16_n14 : SCode := (.region [.op 70 (.call false (.k (.c (.func 83 [] []))) []) none .any, .op 71 (.move (.t 11)) none .any, .op 72 (.call false (.k (.c (.func 32 [] []))) [(.t 1), (.t 0)]) none .any, .op 69 (.move (.t 0)) none .any, .op 73 (.extract (.t 0) 0) none .any, .op 74 (.extract (.t 1) 1) none .any, .op 14 (.move (.t 1)) none .any, .op 15 (.move (.t 1)) none .any] [8, 9, 10, 11, 12, 13, 14, 15, 16, 17, 19, 1, 0])
@[simp] def c16_n16 : SCode := (.region [.op 76 (.call false (.k (.c (.func 39 [] []))) [(.k (.c (.int .i64 3))), (.k (.c (.int .i64 60000))), (.k (.c (.int .i64 10000))), (.k (.c (.int .i64 65000)))]) none .any, .op 75 (.move (.t 0)) none .any, .op 77 (.extract (.t 0) 0) none .any, .op 78 (.extract (.t 1) 1) none .any, .op 16 (.move (.t 1)) none .any, .op 17 (.move (.t 1)) none .any] [6, 7, 8, 9, 10, 11, 12, 13, 14, 15, 16, 17, 18, 1, 0])
@[simp] def c16_n18 : SCode := (.region [.op 80 (.call false (.k (.c (.func 40 [] []))) [(.k (.c (.int .i64 3))), (.k (.c (.int .i64 60000))), (.k (.c (.int .i64 10000))), (.k (.c (.int .i64 0))), (.k (.c (.int .i64 70000)))]) none .any, .op 79 (.move (.t 0)) none .any, .op 81 (.extract (.t 0) 0) none .any, .op 82 (.extract (.t 1) 1) none .any, .op 18 (.move (.t 1)) none .any, .op 19 (.move (.t 1)) none .any] [6, 7, 8, 9, 10, 11, 12, 13, 14, 15, 16, 17, 18, 19, 20, 1, 0])
@[simp] def c16_n20 : SCode := (.region [.op 84 (.call false (.k (.c (.func 45 [] []))) [(.k (.c (.int .i64 5)))]) none .any, .op 83 (.move (.t 0)) none .any, .op 85 (.extract (.t 0) 0) none .any, .op 86 (.extract (.t 1) 1) none .any, .op 20 (.move (.t 1)) none .any, .op 21 (.move (.t 1)) none .any] [6, 7, 8, 9, 10, 11, 12, 13, 14, 15, 16, 17, 18, 19, 20, 21, 22, 1, 0])
@[simp] def c16_n22 : SCode := (.region [.op 88 (.call false (.k (.c (.func 46 [] []))) [(.k (.c (.int .i64 5))), (.k (.c (.int .i64 1))), (.k (.c (.int .i64 4)))]) none .any, .op 87 (.move (.t 0)) none .any, .op 89 (.extract (.t 0) 0) none .any, .op 90 (.extract (.t 1) 1) none .any, .op 22 (.move (.t 1)) none .any, .op 23 (.move (.t 1)) none .any] [6, 7, 8, 9, 10, 11, 12, 13, 14, 15, 16, 17, 18, 19, 20, 21, 22, 23, 24, 1, 0])
@[simp] def c16_n24 : SCode := (.region [.op 92 (.call false (.k (.c (.func 84 [] []))) []) none .any, .op 93 (.call false (.k (.c (.func 74 [] []))) [(.t 0), (.k (.c (.int .i64 2)))]) none .any, .op 91 (.move (.t 0)) none .any, .op 94 (.extract (.t 0) 0) none .any, .op 95 (.extract (.t 1) 1) none .any, .op 24 (.move (.t 1)) none .any, .op 25 (.move (.t 1)) none .any] [7, 8, 9, 10, 11, 12, 13, 14, 15, 16, 17, 18, 19, 20, 21, 22, 23, 24, 25, 26, 27, 1, 0])
@[simp] def c16_n26 : SCode := (.region [.op 97 (.call false (.k (.c (.func 84 [] []))) []) none .any, .op 98 (.buildSlice 2 none 2 [(.c (.str []))] [(0, (.k (.c (.str [98])))), (1, (.k (.c (.str [97]))))]) none .any, .op 99 (.call false (.k (.c (.func 75 [] []))) [(.t 1), (.k (.c (.int .i64 2))), (.t 0)]) none .any, .op 96 (.move (.t 0)) none .any, .op 100 (.extract (.t 0) 0) none .any, .op 101 (.extract (.t 1) 1) none .any, .op 26 (.move (.t 1)) none .any, .op 27 (.move (.t 1)) none .any] [8, 9, 10, 11, 12, 13, 14, 15, 16, 17, 18, 19, 20, 21, 22, 23, 24, 25, 26, 27, 28, 29, 30, 1, 0])
@[simp] def c16_n28 : SCode := (.seq (.region [.op 102 (.move (.t 1)) none .any, .op 103 (.move (.t 4)) none .any, .op 104 (.bin .add (.t 1) (.t 0)) none .any, .op 105 (.move (.t 8)) none .any, .op 106 (.bin .add (.t 1) (.t 0)) none .any, .op 107 (.move (.t 12)) none .any, .op 108 (.bin .add (.t 1) (.t 0)) none .any, .op 109 (.move (.t 16)) none .any, .op 110 (.bin .add (.t 1) (.t 0)) none .any, .op 111 (.move (.t 19)) none .any, .op 112 (.bin .add (.t 1) (.t 0)) none .any, .op 113 (.move (.t 23)) none .any, .op 114 (.bin .add (.t 1) (.t 0)) none .any, .op 115 (.move (.t 27)) none .any, .op 116 (.bin .add (.t 1) (.t 0)) none .any, .op 117 (.move (.t 31)) none .any, .op 118 (.bin .add (.t 1) (.t 0)) none .any, .op 119 (.move (.t 35)) none .any, .op 120 (.bin .add (.t 1) (.t 0)) none .any, .op 121 (.move (.t 39)) none .any, .op 122 (.bin .add (.t 1) (.t 0)) none .any, .op 123 (.move (.t 43)) none .any, .op 124 (.bin .add (.t 1) (.t 0)) none .any, .op 125 (.move (.t 47)) none .any, .op 126 (.bin .add (.t 1) (.t 0)) none .any, .op 127 (.bin .neq (.t 0) (.k (.c (.int .i64 0)))) none .any, .op 128 (.move (.t 0)) none .any, .orN 133 0 [.op 129 (.move (.t 27)) none .any, .op 130 (.buildSlice 2 none 4 [(.c (.int .i64 0))] [(0, (.k (.c (.int .i64 2)))), (1, (.k (.c (.int .i64 0)))), (2, (.k (.c (.int .i64 3)))), (3, (.k (.c (.int .i64 1))))]) none .any, .op 131 (.call false (.k (.c (.func 28 [] []))) [(.t 1), (.t 0)]) none .any, .op 132 (.not (.t 0)) none .any] (.t 0), .op 134 (.move (.t 0)) none .any, .orN 138 0 [.op 135 (.move (.t 31)) none .any, .op 136 (.len 1 (.t 0)) none .any, .op 137 (.bin .neq (.t 0) (.k (.c (.int .i64 2)))) none .any] (.t 0), .op 139 (.move (.t 0)) none .any, .orN 146 0 [.op 140 (.move (.t 33)) none .any, .op 141 (.idxSlice 1 (.t 0) (.k (.c (.int .i64 1)))) none .any, .op 142 (.load none (.t 0)) none .any, .op 143 (.buildSlice 2 none 2 [(.c (.int .i64 0))] [(0, (.k (.c (.int .i64 0)))), (1, (.k (.c (.int .i64 3))))]) none .any, .op 144 (.call false (.k (.c (.func 28 [] []))) [(.t 1), (.t 0)]) none .any, .op 145 (.not (.t 0)) none .any] (.t 0), .op 147 (.move (.t 0)) none .any, .orN 152 0 [.op 148 (.move (.t 37)) none .any, .op 149 (.buildSlice 2 none 4 [(.c (.int .i64 0))] [(0, (.k (.c (.int .i64 3)))), (1, (.k (.c (.int .i64 1)))), (2, (.k (.c (.int .i64 2)))), (3, (.k (.c (.int .i64 0))))]) none .any, .op 150 (.call false (.k (.c (.func 28 [] []))) [(.t 1), (.t 0)]) none .any, .op 151 (.not (.t 0)) none .any] (.t 0), .op 153 (.move (.t 0)) none .any, .orN 156 0 [.op 154 (.move (.t 41)) none .any, .op 155 (.bin .neq (.t 0) (.k (.c (.int .i64 1)))) none .any] (.t 0), .op 157 (.move (.t 0)) none .any, .orN 160 0 [.op 158 (.move (.t 45)) none .any, .op 159 (.bin .neq (.t 0) (.k (.c (.int .i64 1)))) none .any] (.t 0), .op 161 (.move (.t 0)) none .any, .orN 164 0 [.op 162 (.move (.t 50)) none .any, .op 163 (.bin .neq (.t 0) (.k (.c (.int .i64 1)))) none .any] (.t 0), .op 165 (.move (.t 0)) none .any, .orN 169 0 [.op 166 (.move (.t 54)) none .any, .op 167 (.len 1 (.t 0)) none .any, .op 168 (.bin .neq (.t 0) (.k (.c (.int .i64 3)))) none .any] (.t 0), .op 170 (.move (.t 0)) none .any, .orN 176 0 [.op 171 (.move (.t 56)) none .any, .op 172 (.idxSlice 2 (.t 0) (.k (.c (.int .i64 1)))) none .any, .op 173 (.load (some 2) (.t 0)) none .any, .op 174 (.build [(.c (.int .i64 0)), (.c (.int .i64 0))] [(0, 1, (.k (.c (.int .i64 5000)))), (1, 1, (.k (.c (.int .i64 70000))))]) none .any, .op 175 (.eqAgg (.many [0, 0]) true (.t 1) (.t 0)) none .any] (.t 0), .op 177 (.move (.t 0)) none .any, .orN 182 0 [.op 178 (.move (.t 60)) none .any, .op 179 (.buildSlice 2 none 1 [(.c (.int .i64 0))] [(0, (.k (.c (.int .i64 2))))]) none .any, .op 180 (.call false (.k (.c (.func 28 [] []))) [(.t 1), (.t 0)]) none .any, .op 181 (.not (.t 0)) none .any] (.t 0), .op 183 (.move (.t 0)) none .any, .orN 188 0 [.op 184 (.move (.t 64)) none .any, .op 185 (.buildSlice 2 none 8 [(.c (.int .i64 0))] [(0, (.k (.c (.int .i64 1)))), (1, (.k (.c (.int .i64 0)))), (2, (.k (.c (.int .i64 4)))), (3, (.k (.c (.int .i64 5)))), (4, (.k (.c (.int .i64 2)))), (5, (.k (.c (.int .i64 0)))), (6, (.k (.c (.int .i64 3)))), (7, (.k (.c (.int .i64 0))))]) none .any, .op 186 (.call false (.k (.c (.func 28 [] []))) [(.t 1), (.t 0)]) none .any, .op 187 (.not (.t 0)) none .any] (.t 0), .op 189 (.move (.t 0)) none .any, .orN 192 0 [.op 190 (.move (.t 68)) none .any, .op 191 (.bin .neq (.t 0) (.k (.c (.int .i64 2)))) none .any] (.t 0), .op 193 (.move (.t 0)) none .any, .orN 198 0 [.op 194 (.move (.t 72)) none .any, .op 195 (.buildSlice 2 none 3 [(.c (.str []))] [(0, (.k (.c (.str [97])))), (1, (.k (.c (.str [98])))), (2, (.k (.c (.str [99]))))]) none .any, .op 196 (.call false (.k (.c (.func 82 [] []))) [(.t 1), (.t 0)]) none .any, .op 197 (.not (.t 0)) none .any] (.t 0), .op 199 (.move (.t 0)) none .any, .orN 204 0 [.op 200 (.move (.t 76)) none .any, .op 201 (.buildSlice 2 none 2 [(.c (.str []))] [(0, (.k (.c (.str [99])))), (1, (.k (.c (.str [100]))))]) none .any, .op 202 (.call false (.k (.c (.func 82 [] []))) [(.t 1), (.t 0)]) none .any, .op 203 (.not (.t 0)) none .any] (.t 0)] [0]) (.cond (.t 0) (.seq (.region [.op 0 (.move (.k (.c (.bool false)))) none .any] [0]) .ret) (.pre [] .skip)))
@[simp] def c16_n30 : SCode := (.region [.op 206 (.buildSlice 2 none 5 [(.c (.str []))] [(0, (.k (.c (.str [97])))), (1, (.k (.c (.str [98])))), (2, (.k (.c (.str [99])))), (3, (.k (.c (.str [100])))), (4, (.k (.c (.str [101]))))]) none .any, .op 207 (.call false (.k (.c (.func 50 [] []))) [(.t 0)]) none .any, .op 205 (.move (.t 0)) none .any, .op 208 (.extract (.t 0) 0) none .any, .op 209 (.extract (.t 1) 1) none .any, .op 28 (.move (.t 1)) none .any, .op 2 (.move (.t 1)) none .any] [0, 1])
@[simp] def c16_n32 : SCode := (.seq (.region [.op 210 (.move (.t 0)) none .any, .op 211 (.bin .neq (.t 0) (.k (.c (.int .i64 0)))) none .any, .op 212 (.move (.t 0)) none .any, .orN 216 0 [.op 213 (.move (.t 4)) none .any, .op 214 (.len 1 (.t 0)) none .any, .op 215 (.bin .neq (.t 0) (.k (.c (.int .i64 4)))) none .any] (.t 0), .op 217 (.move (.t 0)) none .any, .orN 223 0 [.op 218 (.move (.t 6)) none .any, .op 219 (.idxSlice 3 (.t 0) (.k (.c (.int .i64 0)))) none .any, .op 220 (.load (some 3) (.t 0)) none .any, .op 221 (.build [(.c (.str [])), (.c (.str [])), (.c (.int .i64 0))] [(0, 1, (.k (.c (.str [97])))), (2, 1, (.k (.c (.int .i64 1))))]) none .any, .op 222 (.eqAgg (.many [1, 1, 0]) true (.t 1) (.t 0)) none .any] (.t 0), .op 224 (.move (.t 0)) none .any, .orN 230 0 [.op 225 (.move (.t 8)) none .any, .op 226 (.idxSlice 3 (.t 0) (.k (.c (.int .i64 1)))) none .any, .op 227 (.load (some 3) (.t 0)) none .any, .op 228 (.build [(.c (.str [])), (.c (.str [])), (.c (.int .i64 0))] [(0, 1, (.k (.c (.str [100])))), (1, 1, (.k (.c (.str [101]))))]) none .any, .op 229 (.eqAgg (.many [1, 1, 0]) true (.t 1) (.t 0)) none .any] (.t 0)] [9, 0]) (.cond (.t 1) (.seq (.region [.op 0 (.move (.k (.c (.bool false)))) none .any] [0]) .ret) (.pre [0] .skip)))
@[simp] def c16_n34 : SCode := (.region [.op 231 (.buildSlice 0 (some 3) 0 [(.c (.str [])), (.c (.str [])), (.c (.int .i64 0))] []) none .any, .op 232 (.move (.t 1)) none .any, .op 233 (.append (some 3) 40 (.t 1) (.t 0)) none .any, .op 29 (.move (.t 0)) none .any] [0])
@[simp] def c16_n36 : SCode := (.region [.op 234 (.move (.t 0)) none .any, .op 235 (.idxSlice 3 (.t 0) (.k (.c (.int .i64 1)))) none .any, .op 236 (.fieldAddr 2 (.t 0)) none .any, .eff (.store 1 (.t 0) (.k (.c (.int .i64 2)))) none .any] [3])
@[simp] def c16_n38 : SCode := (.region [.op 238 (.move (.t 0)) none .any, .op 239 (.call false (.k (.c (.func 58 [] []))) [(.t 0)]) none .any, .op 237 (.move (.t 0)) none .any, .op 240 (.extract (.t 0) 0) none .any, .op 241 (.extract (.t 1) 1) none .any, .op 30 (.move (.t 1)) none .any, .op 4 (.move (.t 1)) none .any] [0, 7, 1])
@[simp] def c16_n40 : SCode := (.seq (.region [.op 242 (.move (.t 0)) none .any, .op 243 (.bin .neq (.t 0) (.k (.c (.int .i64 0)))) none .any, .op 244 (.move (.t 0)) none .any, .orN 248 0 [.op 245 (.move (.t 5)) none .any, .op 246 (.len 1 (.t 0)) none .any, .op 247 (.bin .neq (.t 0) (.k (.c (.int .i64 2)))) none .any] (.t 0), .op 249 (.move (.t 0)) none .any, .orN 255 0 [.op 250 (.move (.t 7)) none .any, .op 251 (.idxSlice 3 (.t 0) (.k (.c (.int .i64 0)))) none .any, .op 252 (.load (some 3) (.t 0)) none .any, .op 253 (.build [(.c (.str [])), (.c (.str [])), (.c (.int .i64 0))] [(0, 1, (.k (.c (.str [97])))), (1, 1, (.k (.c (.str [101]))))]) none .any, .op 254 (.eqAgg (.many [1, 1, 0]) true (.t 1) (.t 0)) none .any] (.t 0)] [7, 8, 0]) (.cond (.t 2) (.seq (.region [.op 0 (.move (.k (.c (.bool false)))) none .any] [0]) .ret) (.pre [0, 1] .skip)))
@[simp] def c16_n42 : SCode := (.region [.op 256 (.buildSlice 0 (some 3) 0 [(.c (.str [])), (.c (.str [])), (.c (.int .i64 0))] []) none .any, .op 257 (.move (.t 2)) none .any, .op 258 (.append (some 3) 40 (.t 1) (.t 0)) none .any, .op 31 (.move (.t 0)) none .any] [4, 0])
@[simp] def c16_n44 : SCode := (.region [.op 259 (.move (.t 1)) none .any, .op 260 (.move (.t 2)) none .any, .op 261 (.idxSlice 3 (.t 1) (.k (.c (.int .i64 0)))) none .any, .op 262 (.fieldAddr 2 (.t 0)) none .any, .eff (.store 1 (.t 0) (.k (.c (.int .i64 1)))) none .any, .op 263 (.idxSlice 3 (.t 2) (.k (.c (.int .i64 1)))) none .any, .op 264 (.fieldAddr 2 (.t 0)) none .any, .eff (.store 1 (.t 0) (.k (.c (.int .i64 2)))) none .any] [6, 7])
@[simp] def c16_n46 : SCode := (.region [.op 266 (.move (.t 1)) none .any, .op 267 (.call false (.k (.c (.func 58 [] []))) [(.t 0)]) none .any, .op 265 (.move (.t 0)) none .any, .op 268 (.extract (.t 0) 0) none .any, .op 269 (.extract (.t 1) 1) none .any, .op 32 (.move (.t 1)) none .any, .op 7 (.move (.t 1)) none .any] [0, 7, 8, 1])
@[simp] def c16_n48 : SCode := (.region [.op 271 (.move (.t 2)) none .any, .op 272 (.call false (.k (.c (.func 59 [] []))) [(.t 0)]) none .any, .op 270 (.move (.t 0)) none .any, .op 273 (.extract (.t 0) 0) none .any, .op 274 (.extract (.t 1) 1) none .any, .op 33 (.new [(.c (.str [])), (.c (.str [])), (.c (.int .i64 0))]) none .any, .eff (.store 3 (.t 0) (.t 2)) none .any, .op 9 (.move (.t 1)) none .any] [7, 0, 8, 9, 10, 1])
@[simp] def c16_n50 : SCode := (.seq (.region [.op 275 (.move (.t 0)) none .any, .op 276 (.move (.t 2)) none .any, .op 277 (.bin .add (.t 1) (.t 0)) none .any, .op 278 (.bin .neq (.t 0) (.k (.c (.int .i64 0)))) none .any, .op 279 (.move (.t 0)) none .any, .orN 283 0 [.op 280 (.move (.t 9)) none .any, .op 281 (.len 1 (.t 0)) none .any, .op 282 (.bin .neq (.t 0) (.k (.c (.int .i64 1)))) none .any] (.t 0), .op 284 (.move (.t 0)) none .any, .orN 288 0 [.op 285 (.load (some 3) (.t 12)) none .any, .op 286 (.build [(.c (.str [])), (.c (.str [])), (.c (.int .i64 0))] [(0, 1, (.k (.c (.str [101])))), (1, 1, (.k (.c (.str [98]))))]) none .any, .op 287 (.eqAgg (.many [1, 1, 0]) true (.t 1) (.t 0)) none .any] (.t 0)] [10, 11, 12, 0]) (.cond (.t 3) (.seq (.region [.op 0 (.move (.k (.c (.bool false)))) none .any] [0]) .ret) (.pre [0, 1, 2] .skip)))
@[simp] def c16_n52 : SCode := (.region [.op 289 (.buildSlice 0 (some 3) 0 [(.c (.str [])), (.c (.str [])), (.c (.int .i64 0))] []) none .any, .op 290 (.move (.t 3)) none .any, .op 291 (.append (some 3) 40 (.t 1) (.t 0)) none .any, .op 34 (.move (.t 0)) none .any] [4, 5, 0])
@[simp] def c16_n54 : SCode := (.region [.op 292 (.move (.t 2)) none .any, .op 293 (.idxSlice 3 (.t 0) (.k (.c (.int .i64 0)))) none .any, .op 294 (.fieldAddr 2 (.t 0)) none .any, .eff (.store 1 (.t 0) (.k (.c (.int .i64 2)))) none .any] [3, 4, 5])
@[simp] def c16_n56 : SCode := (.region [.op 296 (.move (.t 0)) none .any, .op 297 (.move (.t 2)) none .any, .op 298 (.move (.t 4)) none .any, .op 299 (.buildSlice 2 none 3 [.nil] [(0, (.t 2)), (1, (.t 1)), (2, (.t 0))]) none .any, .op 300 (.call false (.k (.c (.func 66 [] []))) [(.t 0)]) none .any, .op 295 (.move (.t 0)) none .any, .op 301 (.extract (.t 0) 0) none .any, .op 302 (.extract (.t 1) 1) none .any, .op 35 (.move (.t 1)) none .any, .op 11 (.move (.t 1)) none .any] [0, 1])
@[simp] def c16_n58 : SCode := (.region [.op 304 (.build [(.c (.int .i64 0)), (.c (.int .i64 0))] [(0, 1, (.k (.c (.int .i64 120)))), (1, 1, (.k (.c (.int .i64 7000))))]) none .any, .op 305 (.build [(.c (.int .i64 0)), (.c (.int .i64 0))] [(0, 1, (.k (.c (.int .i64 130)))), (1, 1, (.k (.c (.int .i64 7000))))]) none .any, .op 306 (.call false (.k (.c (.func 63 [] []))) [(.t 1), (.t 0)]) none .any, .op 303 (.move (.t 0)) none .any, .op 307 (.extract (.t 0) 0) none .any, .op 308 (.extract (.t 1) 1) none .any, .op 36 (.move (.t 1)) none .any, .op 13 (.move (.t 1)) none .any] [8, 0, 9, 1])
@[simp] def c16_n60 : SCode := (.region [.op 309 (.move (.t 0)) none .any, .op 310 (.move (.t 2)) none .any, .op 311 (.bin .add (.t 1) (.t 0)) none .any, .op 312 (.bin .eql (.t 0) (.k (.c (.int .i64 0)))) none .any, .op 313 (.move (.t 0)) none .any, .andN 317 0 [.op 314 (.move (.t 7)) none .any, .op 315 (.len 1 (.t 0)) none .any, .op 316 (.bin .eql (.t 0) (.k (.c (.int .i64 5)))) none .any] (.t 0), .op 318 (.move (.t 0)) none .any, .andN 324 0 [.op 319 (.move (.t 9)) none .any, .op 320 (.idxSlice 2 (.t 0) (.k (.c (.int .i64 0)))) none .any, .op 321 (.load (some 2) (.t 0)) none .any, .op 322 (.build [(.c (.str [])), (.c (.int .i64 0))] [(0, 1, (.k (.c (.str [99])))), (1, 1, (.k (.c (.int .i64 1))))]) none .any, .op 323 (.eqAgg (.many [1, 0]) false (.t 1) (.t 0)) none .any] (.t 0), .op 325 (.move (.t 0)) none .any, .andN 331 0 [.op 326 (.move (.t 11)) none .any, .op 327 (.idxSlice 2 (.t 0) (.k (.c (.int .i64 4)))) none .any, .op 328 (.load (some 2) (.t 0)) none .any, .op 329 (.build [(.c (.str [])), (.c (.int .i64 0))] [(0, 1, (.k (.c (.str [100])))), (1, 1, (.k (.c (.int .i64 5))))]) none .any, .op 330 (.eqAgg (.many [1, 0]) false (.t 1) (.t 0)) none .any] (.t 0), .op 332 (.move (.t 0)) none .any, .andN 335 0 [.op 333 (.move (.t 14)) none .any, .op 334 (.bin .eql (.t 0) (.k (.c (.int .i64 1)))) none .any] (.t 0), .op 0 (.move (.t 0)) none .any] [0])
def c16_n59 : SCode := .seq c16_n60 .ret
instance : IsSeq c16_n59 c16_n60 .ret := ⟨rfl⟩
def c16_n57 : SCode := .seq c16_n58 c16_n59
instance : IsSeq c16_n57 c16_n58 c16_n59 := ⟨rfl⟩
def c16_n55 : SCode := .seq c16_n56 c16_n57
instance : IsSeq c16_n55 c16_n56 c16_n57 := ⟨rfl⟩
def c16_n53 : SCode := .seq c16_n54 c16_n55
instance : IsSeq c16_n53 c16_n54 c16_n55 := ⟨rfl⟩
def c16_n51 : SCode := .seq c16_n52 c16_n53
instance : IsSeq c16_n51 c16_n52 c16_n53 := ⟨rfl⟩
def c16_n49 : SCode := .seq c16_n50 c16_n51
instance : IsSeq c16_n49 c16_n50 c16_n51 := ⟨rfl⟩
def c16_n47 : SCode := .seq c16_n48 c16_n49
instance : IsSeq c16_n47 c16_n48 c16_n49 := ⟨rfl⟩
def c16_n45 : SCode := .seq c16_n46 c16_n47
instance : IsSeq c16_n45 c16_n46 c16_n47 := ⟨rfl⟩
def c16_n43 : SCode := .seq c16_n44 c16_n45
instance : IsSeq c16_n43 c16_n44 c16_n45 := ⟨rfl⟩
def c16_n41 : SCode := .seq c16_n42 c16_n43
instance : IsSeq c16_n41 c16_n42 c16_n43 := ⟨rfl⟩
def c16_n39 : SCode := .seq c16_n40 c16_n41
instance : IsSeq c16_n39 c16_n40 c16_n41 := ⟨rfl⟩
def c16_n37 : SCode := .seq c16_n38 c16_n39
instance : IsSeq c16_n37 c16_n38 c16_n39 := ⟨rfl⟩
def c16_n35 : SCode := .seq c16_n36 c16_n37
instance : IsSeq c16_n35 c16_n36 c16_n37 := ⟨rfl⟩
def c16_n33 : SCode := .seq c16_n34 c16_n35
instance : IsSeq c16_n33 c16_n34 c16_n35 := ⟨rfl⟩
def c16_n31 : SCode := .seq c16_n32 c16_n33
instance : IsSeq c16_n31 c16_n32 c16_n33 := ⟨rfl⟩
def c16_n29 : SCode := .seq c16_n30 c16_n31
instance : IsSeq c16_n29 c16_n30 c16_n31 := ⟨rfl⟩
def c16_n27 : SCode := .seq c16_n28 c16_n29
instance : IsSeq c16_n27 c16_n28 c16_n29 := ⟨rfl⟩
def c16_n25 : SCode := .seq c16_n26 c16_n27
instance : IsSeq c16_n25 c16_n26 c16_n27 := ⟨rfl⟩
def c16_n23 : SCode := .seq c16_n24 c16_n25
instance : IsSeq c16_n23 c16_n24 c16_n25 := ⟨rfl⟩
def c16_n21 : SCode := .seq c16_n22 c16_n23
instance : IsSeq c16_n21 c16_n22 c16_n23 := ⟨rfl⟩
def c16_n19 : SCode := .seq c16_n20 c16_n21
instance : IsSeq c16_n19 c16_n20 c16_n21 := ⟨rfl⟩
def c16_n17 : SCode := .seq c16_n18 c16_n19
instance : IsSeq c16_n17 c16_n18 c16_n19 := ⟨rfl⟩
def c16_n15 : SCode := .seq c16_n16 c16_n17
instance : IsSeq c16_n15 c16_n16 c16_n17 := ⟨rfl⟩
def c16_n13 : SCode := .seq c16_n14 c16_n15
instance : IsSeq c16_n13 c16_n14 c16_n15 := ⟨rfl⟩
def c16_n11 : SCode := .seq c16_n12 c16_n13
instance : IsSeq c16_n11 c16_n12 c16_n13 := ⟨rfl⟩
def c16_n9 : SCode := .seq c16_n10 c16_n11
instance : IsSeq c16_n9 c16_n10 c16_n11 := ⟨rfl⟩
def c16_n7 : SCode := .seq c16_n8 c16_n9
instance : IsSeq c16_n7 c16_n8 c16_n9 := ⟨rfl⟩
def c16_n5 : SCode := .seq c16_n6 c16_n7
instance : IsSeq c16_n5 c16_n6 c16_n7 := ⟨rfl⟩
def c16_n3 : SCode := .seq c16_n4 c16_n5
instance : IsSeq c16_n3 c16_n4 c16_n5 := ⟨rfl⟩
def c16_n1 : SCode := .seq c16_n2 c16_n3
instance : IsSeq c16_n1 c16_n2 c16_n3 := ⟨rfl⟩
def c16 : SCode := (.seq (.region [.op 0 (.move (.k (.c (.bool false)))) none .any] []) c16_n1)
def F16 : SFunc := .code .pure 336 0 [some 0] [.tmp 0] c16
end LM.G6

