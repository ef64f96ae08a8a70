/- Part 7 of what YtlnejpgfiopjjaaGreatParted leans on. -/
import Derived.Test.YtlnejpgfiopjjaaGreatPartedL1
import Derived.Test.YtlnejpgfiopjjaaGreatPartedL2
import Derived.Test.YtlnejpgfiopjjaaGreatPartedL3
import Derived.Test.YtlnejpgfiopjjaaGreatParted1
import Derived.Test.YtlnejpgfiopjjaaGreatParted2
import Derived.Test.YtlnejpgfiopjjaaGreatParted3
set_option linter.all false
namespace LM.GZ
open Go LM
theorem N6:m6 kE 1000 10 []=some (.bool true):=by kernel_rfl
theorem S10:fn prog 10 []=some (.bool true):=Vg (uX Zk N6)
end LM.GZ
