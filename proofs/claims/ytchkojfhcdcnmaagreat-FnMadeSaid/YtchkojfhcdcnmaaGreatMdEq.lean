/- A text of its own: Eq; no condition but those that each theorem names. -/
import Derived.Test.YtchkojfhcdcnmaaGreatMdEq0
import Derived.Test.YtchkojfhcdcnmaaGreatMdEq1
import Derived.Test.YtchkojfhcdcnmaaGreatMdEq2
import Derived.Test.YtchkojfhcdcnmaaGreatMdEq3
import Derived.Test.YtchkojfhcdcnmaaGreatMdEq4
import Derived.Test.YtchkojfhcdcnmaaGreatMdEq5
import Derived.Test.YtchkojfhcdcnmaaGreatMdEq6
import Derived.Test.YtchkojfhcdcnmaaGreatMdEq7
import Derived.Test.YtchkojfhcdcnmaaGreatMdEq8
import Derived.Test.YtchkojfhcdcnmaaGreatMdEq9
