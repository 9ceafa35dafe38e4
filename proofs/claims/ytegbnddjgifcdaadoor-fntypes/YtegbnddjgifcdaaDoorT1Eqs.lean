/- What the functions come to: all. -/
import Derived.Test.YtegbnddjgifcdaaDoorT1Eqs0
import Derived.Test.YtegbnddjgifcdaaDoorT1Eqs1
import Derived.Test.YtegbnddjgifcdaaDoorT1Eqs2
import Derived.Test.YtegbnddjgifcdaaDoorT1Eqs3
