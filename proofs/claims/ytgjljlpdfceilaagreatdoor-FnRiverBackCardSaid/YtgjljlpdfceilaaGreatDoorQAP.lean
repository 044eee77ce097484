/- Part 6. -/
import Derived.Test.YtgjljlpdfceilaaGreatDoorQAO
open List renaming range->B7
set_option linter.all false
noncomputable section
namespace Go.VS
open Go Go.Proofs
set_option linter.unusedVariables false
set_option maxRecDepth 100000
def awa:∀x,Ox RG (NC RG 3) Tryz.f85 (B7 5++[9]) 5 (K9 5 12 9) LM.2.2 x=LM.2.2.g x:=λ_=>by kernel_rfl
end Go.VS
end
