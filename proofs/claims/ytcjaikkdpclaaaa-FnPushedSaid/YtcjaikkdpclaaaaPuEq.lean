/- A text of its own: Eq; no condition but those that each theorem names. -/
import Derived.Test.YtcjaikkdpclaaaaPuEq0
import Derived.Test.YtcjaikkdpclaaaaPuEq1
import Derived.Test.YtcjaikkdpclaaaaPuEq2
import Derived.Test.YtcjaikkdpclaaaaPuEq3
import Derived.Test.YtcjaikkdpclaaaaPuEq4
/- All equations; no condition. -/
