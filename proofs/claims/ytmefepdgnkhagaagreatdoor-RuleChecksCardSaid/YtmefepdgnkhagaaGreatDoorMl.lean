/- Chapter 21: what the join of RuleChecks leans on. Conditions: none. -/
import Derived.Test.YtmefepdgnkhagaaGreatDoorMk
import Derived.Test.YtmefepdgnkhagaaGreatDoorW21
