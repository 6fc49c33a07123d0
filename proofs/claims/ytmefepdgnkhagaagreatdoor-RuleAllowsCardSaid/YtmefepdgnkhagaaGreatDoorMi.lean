/- Chapter 21: what the joins of RuleStays and RuleAllows lean on. Conditions: none. -/
import Derived.Test.YtmefepdgnkhagaaGreatDoorMh
import Derived.Test.YtmefepdgnkhagaaGreatDoorW21
