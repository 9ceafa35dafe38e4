/- What the functions come to: all. -/
import Derived.Test.YtegbnddjgifcdaaDoorB1Eqs0
import Derived.Test.YtegbnddjgifcdaaDoorB1Eqs1
import Derived.Test.YtegbnddjgifcdaaDoorB1Eqs2
import Derived.Test.YtegbnddjgifcdaaDoorB1Eqs3
