/- Part 6. -/
import Derived.Test.YtnbfoldcjgdomaaGreatDoorQAO
open List renaming range->B8
set_option linter.all false
noncomputable section
namespace Go.VS
open Go Go.Proofs
set_option linter.unusedVariables false
set_option maxRecDepth 100000
def ayK:∀x,PS S8 (NT S8 3) Tryz.f67 (B8 5++[9]) 5 (KP 5 12 9) Lc.2.2 x=Lc.2.2.g x:=λ_=>by kernel_rfl
end Go.VS
end
