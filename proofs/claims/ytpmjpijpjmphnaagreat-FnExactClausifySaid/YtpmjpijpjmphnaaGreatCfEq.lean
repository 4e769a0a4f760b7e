/- A text of its own: Eq; no condition but those that each theorem names. -/
import Derived.Test.YtpmjpijpjmphnaaGreatCfEq0
import Derived.Test.YtpmjpijpjmphnaaGreatCfEq1
import Derived.Test.YtpmjpijpjmphnaaGreatCfEq2
import Derived.Test.YtpmjpijpjmphnaaGreatCfEq3
import Derived.Test.YtpmjpijpjmphnaaGreatCfEq4
/- All equations; no condition. -/
