/- All equations; no condition. -/
import Derived.Test.YtejklhcalinhpaaIpEq0
import Derived.Test.YtejklhcalinhpaaIpEq1
