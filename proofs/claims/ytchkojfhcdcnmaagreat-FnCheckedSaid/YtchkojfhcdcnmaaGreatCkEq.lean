/- A text of its own: Eq; no condition but those that each theorem names. -/
import Derived.Test.YtchkojfhcdcnmaaGreatCkEq0
import Derived.Test.YtchkojfhcdcnmaaGreatCkEq1
import Derived.Test.YtchkojfhcdcnmaaGreatCkEq2
import Derived.Test.YtchkojfhcdcnmaaGreatCkEq3
import Derived.Test.YtchkojfhcdcnmaaGreatCkEq4
import Derived.Test.YtchkojfhcdcnmaaGreatCkEq5
import Derived.Test.YtchkojfhcdcnmaaGreatCkEq6
import Derived.Test.YtchkojfhcdcnmaaGreatCkEq7
import Derived.Test.YtchkojfhcdcnmaaGreatCkEq8
import Derived.Test.YtchkojfhcdcnmaaGreatCkEq9
