/- A text of its own: Eq; no condition but those that each theorem names. -/
import Derived.Test.YtcjaikkdpclaaaaSkEq0
import Derived.Test.YtcjaikkdpclaaaaSkEq1
import Derived.Test.YtcjaikkdpclaaaaSkEq2
import Derived.Test.YtcjaikkdpclaaaaSkEq3
/- All equations; no condition. -/
