/- A text of its own: Eq; no condition but those that each theorem names. -/
import Derived.Test.YtpdbffngomlleaaDoorPtEq0
import Derived.Test.YtpdbffngomlleaaDoorPtEq1
import Derived.Test.YtpdbffngomlleaaDoorPtEq2
