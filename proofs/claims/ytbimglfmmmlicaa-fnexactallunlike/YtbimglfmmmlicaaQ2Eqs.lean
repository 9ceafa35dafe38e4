/- What the functions come to: all. -/
import Derived.Test.YtbimglfmmmlicaaQ2Eqs0
import Derived.Test.YtbimglfmmmlicaaQ2Eqs1
import Derived.Test.YtbimglfmmmlicaaQ2Eqs2
import Derived.Test.YtbimglfmmmlicaaQ2Eqs3
