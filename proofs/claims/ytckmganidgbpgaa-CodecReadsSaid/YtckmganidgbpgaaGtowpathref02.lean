/- All parts. -/
import Derived.Test.YtckmganidgbpgaaGtowpathref020
import Derived.Test.YtckmganidgbpgaaGtowpathref021
