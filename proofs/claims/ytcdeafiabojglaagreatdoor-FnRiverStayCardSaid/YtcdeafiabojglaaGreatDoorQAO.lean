/- Part 5. -/
import Derived.Test.YtcdeafiabojglaaGreatDoorQAN
open List renaming range->B1
set_option linter.all false
noncomputable section
namespace Go.VS
open Go Go.Proofs
set_option linter.unusedVariables false
set_option maxRecDepth 100000
def ay5:∀x,PJ S4 (Nd S4 3) Tryz.f44 (B1 5) 5 (aft 5 12) Li.2.2 x=Li.2.2.g x:=λ_=>by kernel_rfl
end Go.VS
end
