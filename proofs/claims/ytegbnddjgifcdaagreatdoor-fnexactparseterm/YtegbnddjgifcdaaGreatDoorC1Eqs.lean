/- What the functions come to: all. -/
import Derived.Test.YtegbnddjgifcdaaGreatDoorC1Eqs0
import Derived.Test.YtegbnddjgifcdaaGreatDoorC1Eqs1
import Derived.Test.YtegbnddjgifcdaaGreatDoorC1Eqs2
import Derived.Test.YtegbnddjgifcdaaGreatDoorC1Eqs3
import Derived.Test.YtegbnddjgifcdaaGreatDoorC1Eqs4
import Derived.Test.YtegbnddjgifcdaaGreatDoorC1Eqs5
