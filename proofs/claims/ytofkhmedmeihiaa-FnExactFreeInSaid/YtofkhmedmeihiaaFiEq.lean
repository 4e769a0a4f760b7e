/- A text of its own: Eq; no condition but those that each theorem names. -/
import Derived.Test.YtofkhmedmeihiaaFiEq0
import Derived.Test.YtofkhmedmeihiaaFiEq1
import Derived.Test.YtofkhmedmeihiaaFiEq2
/- All equations; no condition. -/
