/- All parts. -/
import Derived.Test.YtckmganidgbpgaaDoorGtowpathlaw010
import Derived.Test.YtckmganidgbpgaaDoorGtowpathlaw011
import Derived.Test.YtckmganidgbpgaaDoorGtowpathlaw012
import Derived.Test.YtckmganidgbpgaaDoorGtowpathlaw013
