/- An evaluator of the program's own code with its soundness, the printed texts of the functions, and plain laws of them (part 16). -/
import Derived.Test.YtimdnaklfelapaaGreatDoorQAO
set_option linter.unusedVariables false
set_option linter.unusedSimpArgs false
set_option linter.defProp false
open List renaming range→aqW
noncomputable section
namespace Go.VS
open Go Go.Proofs
set_option linter.unusedVariables false
set_option maxRecDepth 100000
def ajb: ∀ x,aaF eQ (aar eQ 3) Tryz.f130 (aqW 5++[9]) 5 (Tq 5 12 9) cb.2.2 x=cb.2.2.g x:=fun _=>by kernel_rfl
end Go.VS
end
