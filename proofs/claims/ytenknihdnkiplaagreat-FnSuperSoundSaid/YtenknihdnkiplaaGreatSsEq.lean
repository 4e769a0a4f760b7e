/- A text of its own: Eq; no condition but those that each theorem names. -/
import Derived.Test.YtenknihdnkiplaaGreatSsEq0
import Derived.Test.YtenknihdnkiplaaGreatSsEq1
import Derived.Test.YtenknihdnkiplaaGreatSsEq2
import Derived.Test.YtenknihdnkiplaaGreatSsEq3
import Derived.Test.YtenknihdnkiplaaGreatSsEq4
import Derived.Test.YtenknihdnkiplaaGreatSsEq5
