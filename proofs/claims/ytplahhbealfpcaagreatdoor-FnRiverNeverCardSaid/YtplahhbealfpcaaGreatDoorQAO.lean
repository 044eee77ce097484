/- Part 15. -/
import Derived.Test.YtplahhbealfpcaaGreatDoorQAN
open List renaming range->BJ
set_option linter.all false
noncomputable section
namespace Go.VS
open Go Go.Proofs
set_option linter.unusedVariables false
set_option maxRecDepth 100000
def aws:∀x,PE RR (NT RR 3) Tryz.f59 (BJ 5) 5 (aft 5 12) LM.2.2 x=LM.2.2.g x:=λ_=>by kernel_rfl
end Go.VS
end
