/- What the machine makes of awake, slot by slot. Printed by a program of mine. -/
import Derived.Test.YtidnhdikcdninaaGreatGenA
set_option linter.unnecessarySimpa false
set_option linter.unusedVariables false
set_option linter.unusedSimpArgs false
set_option linter.unusedSectionVars false
namespace Camp
open Go
section
theorem p2:K.piece N0 200 600 350 [.c wp,stp] 71 h2 v3 171 h3=true:=by decide +kernel
theorem p3:K.piece N0 200 600 350 [.c wp,stp] 171 h3 v4 188 h4=true:=by decide +kernel
theorem p4:K.piece N0 200 600 350 [.c wp,stp] 188 h4 v5 205 h5=true:=by decide +kernel
theorem p5:K.piece N0 200 600 350 [.c wp,stp] 205 h5 v6 222 h6=true:=by decide +kernel
theorem p6:K.piece N0 200 600 350 [.c wp,stp] 222 h6 v7 278 h7=true:=by decide +kernel
end
end Camp
