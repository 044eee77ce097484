/- Part 5. -/
import Derived.Test.YtgjljlpdfceilaaGreatDoorQAN
open List renaming range->B7
set_option linter.all false
noncomputable section
namespace Go.VS
open Go Go.Proofs
set_option linter.unusedVariables false
set_option maxRecDepth 100000
def awb:∀x,Ox RG (NC RG 3) Tryz.f85 (B7 5) 5 (aft 5 12) LM.2.2 x=LM.2.2.g x:=λ_=>by kernel_rfl
end Go.VS
end
