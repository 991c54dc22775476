/- All parts. -/
import Derived.Test.YtpdegdnigcnjiaaG_codec_0
import Derived.Test.YtpdegdnigcnjiaaG_codec_1
