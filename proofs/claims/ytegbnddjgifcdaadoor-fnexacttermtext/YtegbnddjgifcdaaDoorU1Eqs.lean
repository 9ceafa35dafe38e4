/- What the functions come to: all. -/
import Derived.Test.YtegbnddjgifcdaaDoorU1Eqs0
import Derived.Test.YtegbnddjgifcdaaDoorU1Eqs1
import Derived.Test.YtegbnddjgifcdaaDoorU1Eqs2
import Derived.Test.YtegbnddjgifcdaaDoorU1Eqs3
