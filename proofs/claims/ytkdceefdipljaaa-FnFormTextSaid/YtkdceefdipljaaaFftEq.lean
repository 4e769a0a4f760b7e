/- A text of its own: Eq; no condition but those that each theorem names. -/
import Derived.Test.YtkdceefdipljaaaFftEq0
import Derived.Test.YtkdceefdipljaaaFftEq1
import Derived.Test.YtkdceefdipljaaaFftEq2
import Derived.Test.YtkdceefdipljaaaFftEq3
/- All equations; no condition. -/
