/- A text of its own: Eq; no condition but those that each theorem names. -/
import Derived.Test.YtpmjpijpjmphnaaGreatWiEq0
import Derived.Test.YtpmjpijpjmphnaaGreatWiEq1
import Derived.Test.YtpmjpijpjmphnaaGreatWiEq2
import Derived.Test.YtpmjpijpjmphnaaGreatWiEq3
import Derived.Test.YtpmjpijpjmphnaaGreatWiEq4
import Derived.Test.YtpmjpijpjmphnaaGreatWiEq5
/- All equations; no condition. -/
