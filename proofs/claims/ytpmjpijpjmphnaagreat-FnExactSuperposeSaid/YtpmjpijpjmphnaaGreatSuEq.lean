/- A text of its own: Eq; no condition but those that each theorem names. -/
import Derived.Test.YtpmjpijpjmphnaaGreatSuEq0
import Derived.Test.YtpmjpijpjmphnaaGreatSuEq1
import Derived.Test.YtpmjpijpjmphnaaGreatSuEq2
import Derived.Test.YtpmjpijpjmphnaaGreatSuEq3
import Derived.Test.YtpmjpijpjmphnaaGreatSuEq4
import Derived.Test.YtpmjpijpjmphnaaGreatSuEq5
/- All equations; no condition. -/
