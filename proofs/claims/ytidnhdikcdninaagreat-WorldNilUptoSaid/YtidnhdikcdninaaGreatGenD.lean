/- What the machine makes of awake, slot by slot. Printed by a program of mine. -/
import Derived.Test.YtidnhdikcdninaaGreatGenA
set_option linter.unnecessarySimpa false
set_option linter.unusedVariables false
set_option linter.unusedSimpArgs false
set_option linter.unusedSectionVars false
namespace Camp
open Go
section
theorem p12:K.piece N0 200 600 350 [.c wp,stp] 402 h12 v13 419 h13=true:=by decide +kernel
theorem p13:K.piece N0 200 600 350 [.c wp,stp] 419 h13 v14 436 h14=true:=by decide +kernel
theorem p14:K.piece N0 200 600 350 [.c wp,stp] 436 h14 v15 492 h15=true:=by decide +kernel
theorem p15:K.piece N0 200 600 350 [.c wp,stp] 492 h15 v16 509 h16=true:=by decide +kernel
theorem p16:K.piece N0 200 600 350 [.c wp,stp] 509 h16 v17 526 h17=true:=by decide +kernel
end
end Camp
