/- All equations; no condition. -/
import Derived.Test.YtofkhmedmeihiaaRfEq0
import Derived.Test.YtofkhmedmeihiaaRfEq1
