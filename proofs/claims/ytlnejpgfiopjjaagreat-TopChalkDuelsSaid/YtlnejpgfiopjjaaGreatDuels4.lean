/- Part 7 of what YtlnejpgfiopjjaaGreatDuels leans on. -/
import Derived.Test.YtlnejpgfiopjjaaGreatDuelsL1
import Derived.Test.YtlnejpgfiopjjaaGreatDuelsL2
import Derived.Test.YtlnejpgfiopjjaaGreatDuelsL3
import Derived.Test.YtlnejpgfiopjjaaGreatDuels1
import Derived.Test.YtlnejpgfiopjjaaGreatDuels2
import Derived.Test.YtlnejpgfiopjjaaGreatDuels3
set_option linter.all false
namespace LM.GZ
open Go LM
theorem awakeS10:pcallS progG 1000 10 []=some (.bool true):=by kernel_rfl
theorem S10:fn prog 10 []=some (.bool true):=g10_of (pcallS_ok readG awakeS10)
end LM.GZ
