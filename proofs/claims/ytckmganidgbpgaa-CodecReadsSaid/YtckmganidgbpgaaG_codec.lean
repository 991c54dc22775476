/- All parts. -/
import Derived.Test.YtckmganidgbpgaaG_codec_0
import Derived.Test.YtckmganidgbpgaaG_codec_1
