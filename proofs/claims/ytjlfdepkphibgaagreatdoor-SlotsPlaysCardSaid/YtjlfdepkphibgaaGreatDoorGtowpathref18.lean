/- All parts. -/
import Derived.Test.YtjlfdepkphibgaaGreatDoorGtowpathref180
import Derived.Test.YtjlfdepkphibgaaGreatDoorGtowpathref181
import Derived.Test.YtjlfdepkphibgaaGreatDoorGtowpathref182
