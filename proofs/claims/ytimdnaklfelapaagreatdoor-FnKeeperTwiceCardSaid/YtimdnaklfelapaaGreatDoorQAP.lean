/- Part 16. -/
import Derived.Test.YtimdnaklfelapaaGreatDoorQAO
open List renaming range→au9
set_option linter.unusedVariables false
set_option linter.unusedSimpArgs false
set_option linter.defProp false
noncomputable section
namespace Go.VS
open Go Go.Proofs
set_option maxRecDepth 100000
def amO: ∀ x,aea fM (adU fM 3) Tryz.f130 (au9 5++[9]) 5 (WT 5 12 9) cK.2.2 x=cK.2.2.g x:=fun _=>by kernel_rfl
end Go.VS
end
