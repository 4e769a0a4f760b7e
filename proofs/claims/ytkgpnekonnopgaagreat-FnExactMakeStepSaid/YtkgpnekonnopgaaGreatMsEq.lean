/- A text of its own: Eq; no condition but those that each theorem names. -/
import Derived.Test.YtkgpnekonnopgaaGreatMsEq0
import Derived.Test.YtkgpnekonnopgaaGreatMsEq1
import Derived.Test.YtkgpnekonnopgaaGreatMsEq2
import Derived.Test.YtkgpnekonnopgaaGreatMsEq3
import Derived.Test.YtkgpnekonnopgaaGreatMsEq4
import Derived.Test.YtkgpnekonnopgaaGreatMsEq5
import Derived.Test.YtkgpnekonnopgaaGreatMsEq6
