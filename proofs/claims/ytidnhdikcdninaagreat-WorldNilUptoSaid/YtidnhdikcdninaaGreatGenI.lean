/- What the machine makes of awake, slot by slot. Printed by a program of mine. -/
import Derived.Test.YtidnhdikcdninaaGreatGenA
set_option linter.unnecessarySimpa false
set_option linter.unusedVariables false
set_option linter.unusedSimpArgs false
set_option linter.unusedSectionVars false
namespace Camp
open Go
section
theorem p37:K.piece N0 200 600 350 [.c wp,stp] 2788 h37 v38 2900 h38=true:=by decide +kernel
theorem p38:K.piece N0 200 600 350 [.c wp,stp] 2900 h38 v39 3016 h39=true:=by decide +kernel
theorem p39:K.piece N0 200 600 350 [.c wp,stp] 3016 h39 v40 3155 h40=true:=by decide +kernel
theorem p40:K.piece N0 200 600 350 [.c wp,stp] 3155 h40 v41 3293 h41=true:=by decide +kernel
theorem p41:K.piece N0 200 600 350 [.c wp,stp] 3293 h41 v42 3405 h42=true:=by decide +kernel
end
end Camp
