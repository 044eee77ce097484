/- Part 16. -/
import Derived.Test.YtadnafhbeojhoaaGreatDoorQAO
open List renaming range->BN
set_option linter.all false
noncomputable section
namespace Go.VS
open Go Go.Proofs
set_option linter.unusedVariables false
set_option maxRecDepth 100000
def agI:∀x,Ol Qb (Nc Qb 3) Tryz.f20 (BN 5++[9]) 5 (K9 5 12 9) KP.2.2 x=KP.2.2.g x:=λ_=>by kernel_rfl
end Go.VS
end
