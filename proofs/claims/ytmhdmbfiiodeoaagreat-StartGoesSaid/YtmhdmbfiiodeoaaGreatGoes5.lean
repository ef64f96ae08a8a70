/- Part 8 of what YtmhdmbfiiodeoaaGreatGoes leans on. -/
import Derived.Test.YtmhdmbfiiodeoaaGreatGoesL1
import Derived.Test.YtmhdmbfiiodeoaaGreatGoesL2
import Derived.Test.YtmhdmbfiiodeoaaGreatGoesL3
import Derived.Test.YtmhdmbfiiodeoaaGreatGoes1
import Derived.Test.YtmhdmbfiiodeoaaGreatGoes2
import Derived.Test.YtmhdmbfiiodeoaaGreatGoes3
import Derived.Test.YtmhdmbfiiodeoaaGreatGoes4
set_option linter.all false
namespace LM.G6
open Go LM
theorem awakeS : pcallS progG 1000 16 [] = some (.bool true) := by kernel_rfl
theorem S16 : fn prog 16 [] = some (.bool true) := g16_of (pcallS_ok readG awakeS)
end LM.G6
