/- A text of its own: Eq; no condition but those that each theorem names. -/
import Derived.Test.YtkgpnekonnopgaaGreatCsEq0
import Derived.Test.YtkgpnekonnopgaaGreatCsEq1
import Derived.Test.YtkgpnekonnopgaaGreatCsEq2
import Derived.Test.YtkgpnekonnopgaaGreatCsEq3
import Derived.Test.YtkgpnekonnopgaaGreatCsEq4
import Derived.Test.YtkgpnekonnopgaaGreatCsEq5
import Derived.Test.YtkgpnekonnopgaaGreatCsEq6
