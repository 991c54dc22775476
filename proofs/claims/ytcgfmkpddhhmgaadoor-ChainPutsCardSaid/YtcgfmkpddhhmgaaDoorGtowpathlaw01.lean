/- All parts. -/
import Derived.Test.YtcgfmkpddhhmgaaDoorGtowpathlaw010
import Derived.Test.YtcgfmkpddhhmgaaDoorGtowpathlaw011
import Derived.Test.YtcgfmkpddhhmgaaDoorGtowpathlaw012
import Derived.Test.YtcgfmkpddhhmgaaDoorGtowpathlaw013
