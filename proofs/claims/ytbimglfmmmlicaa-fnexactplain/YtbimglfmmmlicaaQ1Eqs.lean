/- What the functions come to: all. -/
import Derived.Test.YtbimglfmmmlicaaQ1Eqs0
import Derived.Test.YtbimglfmmmlicaaQ1Eqs1
import Derived.Test.YtbimglfmmmlicaaQ1Eqs2
import Derived.Test.YtbimglfmmmlicaaQ1Eqs3
