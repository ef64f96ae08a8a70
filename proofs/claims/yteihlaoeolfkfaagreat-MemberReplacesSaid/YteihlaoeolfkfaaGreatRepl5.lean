/- Part 8 of what YteihlaoeolfkfaaGreatRepl leans on. -/
import Derived.Test.YteihlaoeolfkfaaGreatReplL1
import Derived.Test.YteihlaoeolfkfaaGreatReplL2
import Derived.Test.YteihlaoeolfkfaaGreatReplL3
import Derived.Test.YteihlaoeolfkfaaGreatRepl1
import Derived.Test.YteihlaoeolfkfaaGreatRepl2
import Derived.Test.YteihlaoeolfkfaaGreatRepl3
import Derived.Test.YteihlaoeolfkfaaGreatRepl4
set_option linter.all false
namespace LM.G9
open Go LM
set_option maxRecDepth 100000 in
theorem memo3 : pcallS progS 1000 60 [juryV 2 []] = some (.tuple [ni 2, ni 0]) := by kernel_rfl
end LM.G9
namespace LM.G9
open Go LM
set_option maxRecDepth 100000 in
theorem memo4 : pcallS progS 1000 48 [juryV 2 [], .slice [ni 1, ni 0, ni 1], ni 1] = some (.tuple [.slice [], ni 23]) := by kernel_rfl
end LM.G9
namespace LM.G9
open Go LM
set_option maxRecDepth 100000 in
theorem memo5 : pcallS progS 1000 48 [juryV 2 [.agg [.str [119], .str [67], .slice [.str [106,117,100,103,101], .str [115,101,116,116,101,114]], ni 2]], .slice [ni 1, ni 0, ni 1], ni 1] = some (.tuple [.slice [ni 2, ni 0, ni 2], ni 0]) := by kernel_rfl
end LM.G9
namespace LM.G9
open Go LM
set_option maxRecDepth 100000 in
theorem memo6 : pcallS progS 1000 75 [juryV 2 []] = some (.tuple [.slice [ni 1, ni 0, ni 1], ni 0]) := by kernel_rfl
end LM.G9
