/- Part 7 of what YteihlaoeolfkfaaGreatRepl leans on. -/
import Derived.Test.YteihlaoeolfkfaaGreatReplL1
import Derived.Test.YteihlaoeolfkfaaGreatReplL2
import Derived.Test.YteihlaoeolfkfaaGreatReplL3
import Derived.Test.YteihlaoeolfkfaaGreatRepl1
import Derived.Test.YteihlaoeolfkfaaGreatRepl2
import Derived.Test.YteihlaoeolfkfaaGreatRepl3
set_option linter.all false
namespace LM.G9
open Go LM
set_option maxRecDepth 100000 in
theorem memo0 : pcallS progS 1000 59 [juryV 1 []] = some (.tuple [ni 2, ni 0]) := by kernel_rfl
end LM.G9
namespace LM.G9
open Go LM
set_option maxRecDepth 100000 in
theorem memo1 : pcallS progS 1000 73 [juryV 1 []] = some (.tuple [.slice [ni 0, ni 2], ni 0]) := by kernel_rfl
end LM.G9
namespace LM.G9
open Go LM
set_option maxRecDepth 100000 in
theorem memo2 : pcallS progS 1000 74 [juryV 2 []] = some (.tuple [.slice [ni 1, ni 0, ni 1], ni 0]) := by kernel_rfl
end LM.G9
