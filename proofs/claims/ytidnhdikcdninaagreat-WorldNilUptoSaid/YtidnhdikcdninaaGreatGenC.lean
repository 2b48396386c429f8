/- What the machine makes of awake, slot by slot. Printed by a program of mine. -/
import Derived.Test.YtidnhdikcdninaaGreatGenA
set_option linter.unnecessarySimpa false
set_option linter.unusedVariables false
set_option linter.unusedSimpArgs false
set_option linter.unusedSectionVars false
namespace Camp
open Go
section
theorem p7:K.piece N0 200 600 350 [.c wp,stp] 278 h7 v8 295 h8=true:=by decide +kernel
theorem p8:K.piece N0 200 600 350 [.c wp,stp] 295 h8 v9 312 h9=true:=by decide +kernel
theorem p9:K.piece N0 200 600 350 [.c wp,stp] 312 h9 v10 329 h10=true:=by decide +kernel
theorem p10:K.piece N0 200 600 350 [.c wp,stp] 329 h10 v11 385 h11=true:=by decide +kernel
theorem p11:K.piece N0 200 600 350 [.c wp,stp] 385 h11 v12 402 h12=true:=by decide +kernel
end
end Camp
