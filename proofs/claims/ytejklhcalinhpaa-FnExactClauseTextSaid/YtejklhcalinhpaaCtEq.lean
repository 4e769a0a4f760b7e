/- All equations; no condition. -/
import Derived.Test.YtejklhcalinhpaaCtEq0
import Derived.Test.YtejklhcalinhpaaCtEq1
