/- A text of its own: Eq; no condition but those that each theorem names. -/
import Derived.Test.YtkgpnekonnopgaaGreatIrEq0
import Derived.Test.YtkgpnekonnopgaaGreatIrEq1
import Derived.Test.YtkgpnekonnopgaaGreatIrEq2
import Derived.Test.YtkgpnekonnopgaaGreatIrEq3
import Derived.Test.YtkgpnekonnopgaaGreatIrEq4
import Derived.Test.YtkgpnekonnopgaaGreatIrEq5
import Derived.Test.YtkgpnekonnopgaaGreatIrEq6
import Derived.Test.YtkgpnekonnopgaaGreatIrEq7
