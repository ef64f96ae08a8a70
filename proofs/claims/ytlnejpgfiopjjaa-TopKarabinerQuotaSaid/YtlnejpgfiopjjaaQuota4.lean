/- Part 7 of what YtlnejpgfiopjjaaQuota leans on. -/
import Derived.Test.YtlnejpgfiopjjaaQuotaL1
import Derived.Test.YtlnejpgfiopjjaaQuotaL2
import Derived.Test.YtlnejpgfiopjjaaQuotaL3
import Derived.Test.YtlnejpgfiopjjaaQuota1
import Derived.Test.YtlnejpgfiopjjaaQuota2
import Derived.Test.YtlnejpgfiopjjaaQuota3
set_option linter.all false
namespace LM.GK
open Go LM
theorem awakeS : pcallS progG 1000 7 [] = some (.bool true) := by kernel_rfl
theorem S7 : fn prog 7 [] = some (.bool true) := g7_of (pcallS_ok readG awakeS)
end LM.GK
