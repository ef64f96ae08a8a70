/- Part 8 of what YtlnejpgfiopjjaaGreatCompletions leans on. -/
import Derived.Test.YtlnejpgfiopjjaaGreatCompletionsL1
import Derived.Test.YtlnejpgfiopjjaaGreatCompletionsL2
import Derived.Test.YtlnejpgfiopjjaaGreatCompletionsL3
import Derived.Test.YtlnejpgfiopjjaaGreatCompletions1
import Derived.Test.YtlnejpgfiopjjaaGreatCompletions2
import Derived.Test.YtlnejpgfiopjjaaGreatCompletions3
import Derived.Test.YtlnejpgfiopjjaaGreatCompletions4
set_option linter.all false
namespace LM.GZ
open Go LM
theorem awakeS : pcallS progG 1000 38 [] = some (.bool true) := by kernel_rfl
theorem S38 : fn prog 38 [] = some (.bool true) := g38_of (pcallS_ok readG awakeS)
end LM.GZ
