/- Part 6. -/
import Derived.Test.YtgjljlpdfceilaaGreatDoorQAO
open List renaming range->B7
set_option linter.all false
noncomputable section
namespace Go.VS
open Go Go.Proofs
set_option linter.unusedVariables false
set_option maxRecDepth 100000
def axc:∀x,Ou RD (NE RD 3) Tryz.f85 (B7 5++[9]) 5 (KC 5 12 9) LJ.2.2 x=LJ.2.2.g x:=λ_=>by kernel_rfl
end Go.VS
end
