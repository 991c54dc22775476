/- All parts. -/
import Derived.Test.YtckmganidgbpgaaG_towpathref02_0
import Derived.Test.YtckmganidgbpgaaG_towpathref02_1
