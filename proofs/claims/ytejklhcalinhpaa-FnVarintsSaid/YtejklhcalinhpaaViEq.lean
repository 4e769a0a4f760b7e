/- All equations; no condition. -/
import Derived.Test.YtejklhcalinhpaaViEq0
import Derived.Test.YtejklhcalinhpaaViEq1
