/- All parts. -/
import Derived.Test.YtchcljkflklddaaDoorGtowpathlaw010
import Derived.Test.YtchcljkflklddaaDoorGtowpathlaw011
import Derived.Test.YtchcljkflklddaaDoorGtowpathlaw012
import Derived.Test.YtchcljkflklddaaDoorGtowpathlaw013
