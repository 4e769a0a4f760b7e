/- All equations; no condition. -/
import Derived.Test.YtejklhcalinhpaaOwEq0
import Derived.Test.YtejklhcalinhpaaOwEq1
