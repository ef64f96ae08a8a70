/- Part 8 of what YtmhdmbfiiodeoaaGreatNations leans on. -/
import Derived.Test.YtmhdmbfiiodeoaaGreatNationsL1
import Derived.Test.YtmhdmbfiiodeoaaGreatNationsL2
import Derived.Test.YtmhdmbfiiodeoaaGreatNationsL3
import Derived.Test.YtmhdmbfiiodeoaaGreatNations1
import Derived.Test.YtmhdmbfiiodeoaaGreatNations2
import Derived.Test.YtmhdmbfiiodeoaaGreatNations3
import Derived.Test.YtmhdmbfiiodeoaaGreatNations4
set_option linter.all false
namespace LM.G6
open Go LM
theorem awakeS : pcallS progG 1000 16 [] = some (.bool true) := by kernel_rfl
theorem S16 : fn prog 16 [] = some (.bool true) := g16_of (pcallS_ok readG awakeS)
end LM.G6
