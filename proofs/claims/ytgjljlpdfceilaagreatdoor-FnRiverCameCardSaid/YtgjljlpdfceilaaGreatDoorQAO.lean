/- Part 5. -/
import Derived.Test.YtgjljlpdfceilaaGreatDoorQAN
open List renaming range->B9
set_option linter.all false
noncomputable section
namespace Go.VS
open Go Go.Proofs
set_option linter.unusedVariables false
set_option maxRecDepth 100000
def ay9:∀x,Py Sd (O0 Sd 3) Tryz.f85 (B9 5) 5 (aft 5 12) M1.2.2 x=M1.2.2.g x:=λ_=>by kernel_rfl
end Go.VS
end
