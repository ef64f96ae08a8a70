/- Part 8 of what YtmhdmbfiiodeoaaGreatSpreads leans on. -/
import Derived.Test.YtmhdmbfiiodeoaaGreatSpreadsL1
import Derived.Test.YtmhdmbfiiodeoaaGreatSpreadsL2
import Derived.Test.YtmhdmbfiiodeoaaGreatSpreadsL3
import Derived.Test.YtmhdmbfiiodeoaaGreatSpreads1
import Derived.Test.YtmhdmbfiiodeoaaGreatSpreads2
import Derived.Test.YtmhdmbfiiodeoaaGreatSpreads3
import Derived.Test.YtmhdmbfiiodeoaaGreatSpreads4
set_option linter.all false
namespace LM.G6
open Go LM
theorem awakeS : pcallS progG 1000 16 [] = some (.bool true) := by kernel_rfl
theorem S16 : fn prog 16 [] = some (.bool true) := g16_of (pcallS_ok readG awakeS)
end LM.G6
