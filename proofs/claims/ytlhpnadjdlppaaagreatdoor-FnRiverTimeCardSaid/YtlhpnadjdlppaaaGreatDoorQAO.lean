/- Part 15. -/
import Derived.Test.YtlhpnadjdlppaaaGreatDoorQAN
open List renaming range->BO
set_option linter.all false
noncomputable section
namespace Go.VS
open Go Go.Proofs
set_option linter.unusedVariables false
set_option maxRecDepth 100000
def alF:∀x,Oe QU (N0 QU 3) Tryz.f27 (BO 5) 5 (aft 5 12) KB.2.2 x=KB.2.2.g x:=λ_=>by kernel_rfl
end Go.VS
end
