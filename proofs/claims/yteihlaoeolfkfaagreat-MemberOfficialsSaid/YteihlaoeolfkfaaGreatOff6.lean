/- Part 9 of what YteihlaoeolfkfaaGreatOff leans on. -/
import Derived.Test.YteihlaoeolfkfaaGreatOffL1
import Derived.Test.YteihlaoeolfkfaaGreatOffL2
import Derived.Test.YteihlaoeolfkfaaGreatOffL3
import Derived.Test.YteihlaoeolfkfaaGreatOff1
import Derived.Test.YteihlaoeolfkfaaGreatOff2
import Derived.Test.YteihlaoeolfkfaaGreatOff3
import Derived.Test.YteihlaoeolfkfaaGreatOff4
import Derived.Test.YteihlaoeolfkfaaGreatOff5
set_option linter.all false
namespace LM.G9
open Go LM
theorem awakeS : pcallS progG 1000 14 [] = some (.bool true) := by kernel_rfl
theorem S14 : fn prog 14 [] = some (.bool true) := g14_of (pcallS_ok readG awakeS)
end LM.G9
