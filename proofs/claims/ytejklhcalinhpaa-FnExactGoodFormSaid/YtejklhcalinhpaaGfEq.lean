/- All equations; no condition. -/
import Derived.Test.YtejklhcalinhpaaGfEq0
import Derived.Test.YtejklhcalinhpaaGfEq1
