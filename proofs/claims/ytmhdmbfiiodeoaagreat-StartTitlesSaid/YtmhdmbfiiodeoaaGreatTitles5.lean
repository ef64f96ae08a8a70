/- Part 8 of what YtmhdmbfiiodeoaaGreatTitles leans on. -/
import Derived.Test.YtmhdmbfiiodeoaaGreatTitlesL1
import Derived.Test.YtmhdmbfiiodeoaaGreatTitlesL2
import Derived.Test.YtmhdmbfiiodeoaaGreatTitlesL3
import Derived.Test.YtmhdmbfiiodeoaaGreatTitles1
import Derived.Test.YtmhdmbfiiodeoaaGreatTitles2
import Derived.Test.YtmhdmbfiiodeoaaGreatTitles3
import Derived.Test.YtmhdmbfiiodeoaaGreatTitles4
set_option linter.all false
namespace LM.G6
open Go LM
theorem awakeS : pcallS progG 1000 16 [] = some (.bool true) := by kernel_rfl
theorem S16 : fn prog 16 [] = some (.bool true) := g16_of (pcallS_ok readG awakeS)
end LM.G6
