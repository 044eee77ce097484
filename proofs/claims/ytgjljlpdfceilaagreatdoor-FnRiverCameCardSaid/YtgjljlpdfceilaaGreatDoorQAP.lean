/- Part 6. -/
import Derived.Test.YtgjljlpdfceilaaGreatDoorQAO
open List renaming range->B9
set_option linter.all false
noncomputable section
namespace Go.VS
open Go Go.Proofs
set_option linter.unusedVariables false
set_option maxRecDepth 100000
def ay8:∀x,Py Sd (O0 Sd 3) Tryz.f85 (B9 5++[9]) 5 (Kq 5 12 9) M1.2.2 x=M1.2.2.g x:=λ_=>by kernel_rfl
end Go.VS
end
