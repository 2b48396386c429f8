/- What the machine makes of awake, slot by slot. Printed by a program of mine. -/
import Derived.Test.YtidnhdikcdninaaGreatGenA
set_option linter.unnecessarySimpa false
set_option linter.unusedVariables false
set_option linter.unusedSimpArgs false
set_option linter.unusedSectionVars false
namespace Camp
open Go
section
theorem p32:K.piece N0 200 600 350 [.c wp,stp] 2145 h32 v33 2283 h33=true:=by decide +kernel
theorem p33:K.piece N0 200 600 350 [.c wp,stp] 2283 h33 v34 2395 h34=true:=by decide +kernel
theorem p34:K.piece N0 200 600 350 [.c wp,stp] 2395 h34 v35 2511 h35=true:=by decide +kernel
theorem p35:K.piece N0 200 600 350 [.c wp,stp] 2511 h35 v36 2650 h36=true:=by decide +kernel
theorem p36:K.piece N0 200 600 350 [.c wp,stp] 2650 h36 v37 2788 h37=true:=by decide +kernel
end
end Camp
