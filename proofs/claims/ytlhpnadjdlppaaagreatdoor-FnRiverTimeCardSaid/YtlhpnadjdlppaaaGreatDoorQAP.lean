/- Part 16. -/
import Derived.Test.YtlhpnadjdlppaaaGreatDoorQAO
open List renaming range->BO
set_option linter.all false
noncomputable section
namespace Go.VS
open Go Go.Proofs
set_option linter.unusedVariables false
set_option maxRecDepth 100000
def av3:∀x,Oe QU (N0 QU 3) Tryz.f27 (BO 5++[9]) 5 (K9 5 12 9) KB.2.2 x=KB.2.2.g x:=λ_=>by kernel_rfl
end Go.VS
end
