/- A text of its own: Eq; no condition but those that each theorem names. -/
import Derived.Test.YtcjaikkdpclaaaaCoEq0
import Derived.Test.YtcjaikkdpclaaaaCoEq1
import Derived.Test.YtcjaikkdpclaaaaCoEq2
import Derived.Test.YtcjaikkdpclaaaaCoEq3
/- All equations; no condition. -/
