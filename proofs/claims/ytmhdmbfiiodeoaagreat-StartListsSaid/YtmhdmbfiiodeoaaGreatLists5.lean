/- Part 8 of what YtmhdmbfiiodeoaaGreatLists leans on. -/
import Derived.Test.YtmhdmbfiiodeoaaGreatLib1
import Derived.Test.YtmhdmbfiiodeoaaGreatLib2
import Derived.Test.YtmhdmbfiiodeoaaGreatLib3
import Derived.Test.YtmhdmbfiiodeoaaGreatLists1
import Derived.Test.YtmhdmbfiiodeoaaGreatLists2
import Derived.Test.YtmhdmbfiiodeoaaGreatLists3
import Derived.Test.YtmhdmbfiiodeoaaGreatLists4
set_option linter.all false
namespace LM.G6
open Go LM
theorem awakeS : pcallS progG 1000 16 [] = some (.bool true) := by kernel_rfl
theorem S16 : fn prog 16 [] = some (.bool true) := g16_of (pcallS_ok readG awakeS)
end LM.G6

