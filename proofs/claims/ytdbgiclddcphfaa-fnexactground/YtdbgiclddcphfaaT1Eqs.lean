/- What the functions come to: all. -/
import Derived.Test.YtdbgiclddcphfaaT1Eqs0
import Derived.Test.YtdbgiclddcphfaaT1Eqs1
import Derived.Test.YtdbgiclddcphfaaT1Eqs2
import Derived.Test.YtdbgiclddcphfaaT1Eqs3
