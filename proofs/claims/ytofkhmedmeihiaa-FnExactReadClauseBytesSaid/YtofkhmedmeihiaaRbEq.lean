/- All equations; no condition. -/
import Derived.Test.YtofkhmedmeihiaaRbEq0
import Derived.Test.YtofkhmedmeihiaaRbEq1
