/- What the functions come to: all. -/
import Derived.Test.YtomkegeojknihaaU1Eqs0
import Derived.Test.YtomkegeojknihaaU1Eqs1
import Derived.Test.YtomkegeojknihaaU1Eqs2
import Derived.Test.YtomkegeojknihaaU1Eqs3
import Derived.Test.YtomkegeojknihaaU1Eqs4
import Derived.Test.YtomkegeojknihaaU1Eqs5
import Derived.Test.YtomkegeojknihaaU1Eqs6
import Derived.Test.YtomkegeojknihaaU1Eqs7
