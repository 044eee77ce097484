/- Part 11. -/
import Derived.Test.YtgjljlpdfceilaaGreatDoorQAU
set_option linter.unusedVariables false
set_option linter.unusedSimpArgs false
set_option linter.defProp false


