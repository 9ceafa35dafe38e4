/- What the functions come to: all. -/
import Derived.Test.YtbimglfmmmlicaaP1Eqs0
import Derived.Test.YtbimglfmmmlicaaP1Eqs1
import Derived.Test.YtbimglfmmmlicaaP1Eqs2
import Derived.Test.YtbimglfmmmlicaaP1Eqs3
