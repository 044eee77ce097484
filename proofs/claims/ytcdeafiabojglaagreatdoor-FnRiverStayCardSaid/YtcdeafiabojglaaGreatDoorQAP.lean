/- Part 6. -/
import Derived.Test.YtcdeafiabojglaaGreatDoorQAO
open List renaming range->B1
set_option linter.all false
noncomputable section
namespace Go.VS
open Go Go.Proofs
set_option linter.unusedVariables false
set_option maxRecDepth 100000
def ay4:∀x,PJ S4 (Nd S4 3) Tryz.f44 (B1 5++[9]) 5 (KN 5 12 9) Li.2.2 x=Li.2.2.g x:=λ_=>by kernel_rfl
end Go.VS
end
