/- Part 8 of what YtmhdmbfiiodeoaaGreatPlaces leans on. -/
import Derived.Test.YtmhdmbfiiodeoaaGreatPlacesL1
import Derived.Test.YtmhdmbfiiodeoaaGreatPlacesL2
import Derived.Test.YtmhdmbfiiodeoaaGreatPlacesL3
import Derived.Test.YtmhdmbfiiodeoaaGreatPlaces1
import Derived.Test.YtmhdmbfiiodeoaaGreatPlaces2
import Derived.Test.YtmhdmbfiiodeoaaGreatPlaces3
import Derived.Test.YtmhdmbfiiodeoaaGreatPlaces4
set_option linter.all false
namespace LM.G6
open Go LM
theorem awakeS : pcallS progG 1000 16 [] = some (.bool true) := by kernel_rfl
theorem S16 : fn prog 16 [] = some (.bool true) := g16_of (pcallS_ok readG awakeS)
end LM.G6
