/- All parts. -/
import Derived.Test.YtckmganidgbpgaaGcodec0
import Derived.Test.YtckmganidgbpgaaGcodec1
