/- Part 8 of what YtlnejpgfiopjjaaGreatOutcomes leans on. -/
import Derived.Test.YtlnejpgfiopjjaaGreatOutcomesL1
import Derived.Test.YtlnejpgfiopjjaaGreatOutcomesL2
import Derived.Test.YtlnejpgfiopjjaaGreatOutcomesL3
import Derived.Test.YtlnejpgfiopjjaaGreatOutcomes1
import Derived.Test.YtlnejpgfiopjjaaGreatOutcomes2
import Derived.Test.YtlnejpgfiopjjaaGreatOutcomes3
import Derived.Test.YtlnejpgfiopjjaaGreatOutcomes4
set_option linter.all false
namespace LM.GZ
open Go LM
theorem awakeS : pcallS progG 1000 38 [] = some (.bool true) := by kernel_rfl
theorem S38 : fn prog 38 [] = some (.bool true) := g38_of (pcallS_ok readG awakeS)
end LM.GZ
