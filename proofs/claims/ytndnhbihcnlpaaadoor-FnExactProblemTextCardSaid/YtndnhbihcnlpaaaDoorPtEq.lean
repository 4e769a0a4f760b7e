/- A text of its own: Eq; no condition but those that each theorem names. -/
import Derived.Test.YtndnhbihcnlpaaaDoorPtEq0
import Derived.Test.YtndnhbihcnlpaaaDoorPtEq1
/- All equations; no condition. -/
