/- An evaluator of the program's own code with its soundness, the printed texts of the functions, and plain laws of them (part 15). -/
import Derived.Test.YtimdnaklfelapaaGreatDoorQAN
set_option linter.unusedVariables false
set_option linter.unusedSimpArgs false
set_option linter.defProp false
open List renaming range→aqW
noncomputable section
namespace Go.VS
open Go Go.Proofs
set_option linter.unusedVariables false
set_option maxRecDepth 100000
def ajc: ∀ x,aaF eQ (aar eQ 3) Tryz.f130 (aqW 5) 5 (aft 5 12) cb.2.2 x=cb.2.2.g x:=fun _=>by kernel_rfl
end Go.VS
end
