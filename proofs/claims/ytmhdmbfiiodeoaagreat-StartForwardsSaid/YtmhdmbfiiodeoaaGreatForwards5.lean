/- Part 8 of what YtmhdmbfiiodeoaaGreatForwards leans on. -/
import Derived.Test.YtmhdmbfiiodeoaaGreatForwardsL1
import Derived.Test.YtmhdmbfiiodeoaaGreatForwardsL2
import Derived.Test.YtmhdmbfiiodeoaaGreatForwardsL3
import Derived.Test.YtmhdmbfiiodeoaaGreatForwards1
import Derived.Test.YtmhdmbfiiodeoaaGreatForwards2
import Derived.Test.YtmhdmbfiiodeoaaGreatForwards3
import Derived.Test.YtmhdmbfiiodeoaaGreatForwards4
set_option linter.all false
namespace LM.G6
open Go LM
theorem awakeS : pcallS progG 1000 16 [] = some (.bool true) := by kernel_rfl
theorem S16 : fn prog 16 [] = some (.bool true) := g16_of (pcallS_ok readG awakeS)
end LM.G6
