/- Part 10 of what YteihlaoeolfkfaaGreatStands leans on. -/
import Derived.Test.YteihlaoeolfkfaaGreatStandsL1
import Derived.Test.YteihlaoeolfkfaaGreatStandsL2
import Derived.Test.YteihlaoeolfkfaaGreatStandsL3
import Derived.Test.YteihlaoeolfkfaaGreatStands1
import Derived.Test.YteihlaoeolfkfaaGreatStands2
import Derived.Test.YteihlaoeolfkfaaGreatStands3
import Derived.Test.YteihlaoeolfkfaaGreatStands4
import Derived.Test.YteihlaoeolfkfaaGreatStands5
import Derived.Test.YteihlaoeolfkfaaGreatStands6
set_option linter.all false
namespace LM.G9
open Go LM
theorem awakeS : pcallS progG 1000 14 [] = some (.bool true) := by kernel_rfl
theorem S14 : fn prog 14 [] = some (.bool true) := g14_of (pcallS_ok readG awakeS)
end LM.G9
