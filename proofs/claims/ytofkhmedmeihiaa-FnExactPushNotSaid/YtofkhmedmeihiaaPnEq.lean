/- All equations; no condition. -/
import Derived.Test.YtofkhmedmeihiaaPnEq0
import Derived.Test.YtofkhmedmeihiaaPnEq1
