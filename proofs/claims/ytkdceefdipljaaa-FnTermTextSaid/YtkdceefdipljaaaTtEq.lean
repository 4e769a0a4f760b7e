/- A text of its own: Eq; no condition but those that each theorem names. -/
import Derived.Test.YtkdceefdipljaaaTtEq0
import Derived.Test.YtkdceefdipljaaaTtEq1
/- All equations; no condition. -/
