/- All parts. -/
import Derived.Test.YtfmkemmgakdddaaG_codec_0
import Derived.Test.YtfmkemmgakdddaaG_codec_1
