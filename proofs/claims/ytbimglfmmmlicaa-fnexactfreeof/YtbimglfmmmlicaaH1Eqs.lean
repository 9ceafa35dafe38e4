/- What the functions come to: all. -/
import Derived.Test.YtbimglfmmmlicaaH1Eqs0
import Derived.Test.YtbimglfmmmlicaaH1Eqs1
import Derived.Test.YtbimglfmmmlicaaH1Eqs2
import Derived.Test.YtbimglfmmmlicaaH1Eqs3
import Derived.Test.YtbimglfmmmlicaaH1Eqs4
import Derived.Test.YtbimglfmmmlicaaH1Eqs5
