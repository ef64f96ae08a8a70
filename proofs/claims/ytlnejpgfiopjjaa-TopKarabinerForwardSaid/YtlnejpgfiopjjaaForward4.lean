/- Part 7 of what YtlnejpgfiopjjaaForward leans on. -/
import Derived.Test.YtlnejpgfiopjjaaForwardL1
import Derived.Test.YtlnejpgfiopjjaaForwardL2
import Derived.Test.YtlnejpgfiopjjaaForwardL3
import Derived.Test.YtlnejpgfiopjjaaForward1
import Derived.Test.YtlnejpgfiopjjaaForward2
import Derived.Test.YtlnejpgfiopjjaaForward3
set_option linter.all false
namespace LM.GK
open Go LM
theorem awakeS : pcallS progG 1000 7 [] = some (.bool true) := by kernel_rfl
theorem S7 : fn prog 7 [] = some (.bool true) := g7_of (pcallS_ok readG awakeS)
end LM.GK
