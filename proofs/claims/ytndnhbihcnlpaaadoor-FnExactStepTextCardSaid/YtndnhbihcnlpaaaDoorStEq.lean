/- A text of its own: Eq; no condition but those that each theorem names. -/
import Derived.Test.YtndnhbihcnlpaaaDoorStEq0
import Derived.Test.YtndnhbihcnlpaaaDoorStEq1
/- All equations; no condition. -/
