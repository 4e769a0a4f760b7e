/- A text of its own: Eq; no condition but those that each theorem names. -/
import Derived.Test.YtkdceefdipljaaaGreatFwoEq0
import Derived.Test.YtkdceefdipljaaaGreatFwoEq1
import Derived.Test.YtkdceefdipljaaaGreatFwoEq2
import Derived.Test.YtkdceefdipljaaaGreatFwoEq3
import Derived.Test.YtkdceefdipljaaaGreatFwoEq4
/- All equations; no condition. -/
