/- Part 5. -/
import Derived.Test.YtnbfoldcjgdomaaGreatDoorQAN
open List renaming range->B8
set_option linter.all false
noncomputable section
namespace Go.VS
open Go Go.Proofs
set_option linter.unusedVariables false
set_option maxRecDepth 100000
def ayL:∀x,PS S8 (NT S8 3) Tryz.f67 (B8 5) 5 (aft 5 12) Lc.2.2 x=Lc.2.2.g x:=λ_=>by kernel_rfl
end Go.VS
end
