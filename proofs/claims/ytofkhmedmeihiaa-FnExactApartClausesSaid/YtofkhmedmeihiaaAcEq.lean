/- A text of its own: Eq; no condition but those that each theorem names. -/
import Derived.Test.YtofkhmedmeihiaaAcEq0
import Derived.Test.YtofkhmedmeihiaaAcEq1
import Derived.Test.YtofkhmedmeihiaaAcEq2
/- All equations; no condition. -/
