/- What the functions come to: all. -/
import Derived.Test.YtdbgiclddcphfaaT2Eqs0
import Derived.Test.YtdbgiclddcphfaaT2Eqs1
import Derived.Test.YtdbgiclddcphfaaT2Eqs2
import Derived.Test.YtdbgiclddcphfaaT2Eqs3
import Derived.Test.YtdbgiclddcphfaaT2Eqs4
import Derived.Test.YtdbgiclddcphfaaT2Eqs5
import Derived.Test.YtdbgiclddcphfaaT2Eqs6
import Derived.Test.YtdbgiclddcphfaaT2Eqs7
