/- What the functions come to: all. -/
import Derived.Test.YtmjjaoffeajcbaaL1Eqs0
import Derived.Test.YtmjjaoffeajcbaaL1Eqs1
import Derived.Test.YtmjjaoffeajcbaaL1Eqs2
import Derived.Test.YtmjjaoffeajcbaaL1Eqs3
