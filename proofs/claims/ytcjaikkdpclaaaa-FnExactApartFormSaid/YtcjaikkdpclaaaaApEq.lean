/- A text of its own: Eq; no condition but those that each theorem names. -/
import Derived.Test.YtcjaikkdpclaaaaApEq0
import Derived.Test.YtcjaikkdpclaaaaApEq1
import Derived.Test.YtcjaikkdpclaaaaApEq2
/- All equations; no condition. -/
