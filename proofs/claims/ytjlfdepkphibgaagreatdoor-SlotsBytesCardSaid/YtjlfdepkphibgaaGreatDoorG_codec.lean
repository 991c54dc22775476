/- All parts. -/
import Derived.Test.YtjlfdepkphibgaaGreatDoorG_codec_0
import Derived.Test.YtjlfdepkphibgaaGreatDoorG_codec_1
