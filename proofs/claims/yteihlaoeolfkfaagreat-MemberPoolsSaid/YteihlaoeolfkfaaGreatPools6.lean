/- Part 9 of what YteihlaoeolfkfaaGreatPools leans on. -/
import Derived.Test.YteihlaoeolfkfaaGreatPoolsL1
import Derived.Test.YteihlaoeolfkfaaGreatPoolsL2
import Derived.Test.YteihlaoeolfkfaaGreatPoolsL3
import Derived.Test.YteihlaoeolfkfaaGreatPools1
import Derived.Test.YteihlaoeolfkfaaGreatPools2
import Derived.Test.YteihlaoeolfkfaaGreatPools3
import Derived.Test.YteihlaoeolfkfaaGreatPools4
import Derived.Test.YteihlaoeolfkfaaGreatPools5
set_option linter.all false
namespace LM.G9
open Go LM
theorem awakeS : pcallS progG 1000 14 [] = some (.bool true) := by kernel_rfl
theorem S14 : fn prog 14 [] = some (.bool true) := g14_of (pcallS_ok readG awakeS)
end LM.G9
