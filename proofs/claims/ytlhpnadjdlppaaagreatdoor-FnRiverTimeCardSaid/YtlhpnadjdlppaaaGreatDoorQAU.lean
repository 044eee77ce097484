/- Part 21. -/
import Derived.Test.YtlhpnadjdlppaaaGreatDoorQAT
set_option linter.all false
