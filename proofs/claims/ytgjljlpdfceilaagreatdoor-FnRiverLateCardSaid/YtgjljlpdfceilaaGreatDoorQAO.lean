/- Part 15. -/
import Derived.Test.YtgjljlpdfceilaaGreatDoorQAN
open List renaming range->BB
set_option linter.all false
noncomputable section
namespace Go.VS
open Go Go.Proofs
set_option linter.unusedVariables false
set_option maxRecDepth 100000
def ay9:∀x,Py Sd (O0 Sd 3) Tryz.f85 (BB 5) 5 (aft 5 12) M1.2.2 x=M1.2.2.g x:=λ_=>by kernel_rfl
end Go.VS
end
