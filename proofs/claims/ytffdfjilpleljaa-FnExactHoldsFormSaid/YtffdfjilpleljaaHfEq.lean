/- All equations; no condition. -/
import Derived.Test.YtffdfjilpleljaaHfEq0
import Derived.Test.YtffdfjilpleljaaHfEq1
import Derived.Test.YtffdfjilpleljaaHfEq2
