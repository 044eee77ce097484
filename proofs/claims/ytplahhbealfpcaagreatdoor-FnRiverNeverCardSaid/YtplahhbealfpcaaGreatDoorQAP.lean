/- Part 16. -/
import Derived.Test.YtplahhbealfpcaaGreatDoorQAO
open List renaming range->BJ
set_option linter.all false
noncomputable section
namespace Go.VS
open Go Go.Proofs
set_option linter.unusedVariables false
set_option maxRecDepth 100000
def awr:∀x,PE RR (NT RR 3) Tryz.f59 (BJ 5++[9]) 5 (Jz 5 12 9) LM.2.2 x=LM.2.2.g x:=λ_=>by kernel_rfl
end Go.VS
end
