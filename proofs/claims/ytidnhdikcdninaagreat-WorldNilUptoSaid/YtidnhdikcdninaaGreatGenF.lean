/- What the machine makes of awake, slot by slot. Printed by a program of mine. -/
import Derived.Test.YtidnhdikcdninaaGreatGenA
set_option linter.unnecessarySimpa false
set_option linter.unusedVariables false
set_option linter.unusedSimpArgs false
set_option linter.unusedSectionVars false
namespace Camp
open Go
section
theorem p22:K.piece N0 200 600 350 [.c wp,stp] 905 h22 v23 1020 h23=true:=by decide +kernel
theorem p23:K.piece N0 200 600 350 [.c wp,stp] 1020 h23 v24 1129 h24=true:=by decide +kernel
theorem p24:K.piece N0 200 600 350 [.c wp,stp] 1129 h24 v25 1272 h25=true:=by decide +kernel
theorem p25:K.piece N0 200 600 350 [.c wp,stp] 1272 h25 v26 1384 h26=true:=by decide +kernel
theorem p26:K.piece N0 200 600 350 [.c wp,stp] 1384 h26 v27 1500 h27=true:=by decide +kernel
end
end Camp
