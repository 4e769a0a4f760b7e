/- All equations; no condition. -/
import Derived.Test.YtffdfjilpleljaaCuEq0
import Derived.Test.YtffdfjilpleljaaCuEq1
import Derived.Test.YtffdfjilpleljaaCuEq2
