/- All equations; no condition. -/
import Derived.Test.YtffdfjilpleljaaFtEq0
import Derived.Test.YtffdfjilpleljaaFtEq1
