/- Part 15. -/
import Derived.Test.YtadnafhbeojhoaaGreatDoorQAN
open List renaming range->BN
set_option linter.all false
noncomputable section
namespace Go.VS
open Go Go.Proofs
set_option linter.unusedVariables false
set_option maxRecDepth 100000
def aot:∀x,Ol Qb (Nc Qb 3) Tryz.f20 (BN 5) 5 (aft 5 12) KP.2.2 x=KP.2.2.g x:=λ_=>by kernel_rfl
end Go.VS
end
