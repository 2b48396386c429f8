/- What the machine makes of awake, slot by slot. Printed by a program of mine. -/
import Derived.Test.YtidnhdikcdninaaGreatGenA
set_option linter.unnecessarySimpa false
set_option linter.unusedVariables false
set_option linter.unusedSimpArgs false
set_option linter.unusedSectionVars false
namespace Camp
open Go
section
theorem p27:K.piece N0 200 600 350 [.c wp,stp] 1500 h27 v28 1640 h28=true:=by decide +kernel
theorem p28:K.piece N0 200 600 350 [.c wp,stp] 1640 h28 v29 1778 h29=true:=by decide +kernel
theorem p29:K.piece N0 200 600 350 [.c wp,stp] 1778 h29 v30 1890 h30=true:=by decide +kernel
theorem p30:K.piece N0 200 600 350 [.c wp,stp] 1890 h30 v31 2006 h31=true:=by decide +kernel
theorem p31:K.piece N0 200 600 350 [.c wp,stp] 2006 h31 v32 2145 h32=true:=by decide +kernel
end
end Camp
