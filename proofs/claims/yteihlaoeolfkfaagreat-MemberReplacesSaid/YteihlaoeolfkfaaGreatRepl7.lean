/- Part 10 of what YteihlaoeolfkfaaGreatRepl leans on. -/
import Derived.Test.YteihlaoeolfkfaaGreatReplL1
import Derived.Test.YteihlaoeolfkfaaGreatReplL2
import Derived.Test.YteihlaoeolfkfaaGreatReplL3
import Derived.Test.YteihlaoeolfkfaaGreatRepl1
import Derived.Test.YteihlaoeolfkfaaGreatRepl2
import Derived.Test.YteihlaoeolfkfaaGreatRepl3
import Derived.Test.YteihlaoeolfkfaaGreatRepl4
import Derived.Test.YteihlaoeolfkfaaGreatRepl5
import Derived.Test.YteihlaoeolfkfaaGreatRepl6
set_option linter.all false
namespace LM.G9
open Go LM
theorem awakeS : pcallS progG 1000 14 [] = some (.bool true) := by kernel_rfl
theorem S14 : fn prog 14 [] = some (.bool true) := g14_of (pcallS_ok readG awakeS)
end LM.G9
