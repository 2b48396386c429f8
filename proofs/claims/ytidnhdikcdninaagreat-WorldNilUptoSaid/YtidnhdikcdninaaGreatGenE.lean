/- What the machine makes of awake, slot by slot. Printed by a program of mine. -/
import Derived.Test.YtidnhdikcdninaaGreatGenA
set_option linter.unnecessarySimpa false
set_option linter.unusedVariables false
set_option linter.unusedSimpArgs false
set_option linter.unusedSectionVars false
namespace Camp
open Go
section
theorem p17:K.piece N0 200 600 350 [.c wp,stp] 526 h17 v18 543 h18=true:=by decide +kernel
theorem p18:K.piece N0 200 600 350 [.c wp,stp] 543 h18 v19 668 h19=true:=by decide +kernel
theorem p19:K.piece N0 200 600 350 [.c wp,stp] 668 h19 v20 777 h20=true:=by decide +kernel
theorem p20:K.piece N0 200 600 350 [.c wp,stp] 777 h20 v21 886 h21=true:=by decide +kernel
theorem p21:K.piece N0 200 600 350 [.c wp,stp] 886 h21 v22 905 h22=true:=by decide +kernel
end
end Camp
