/- What the functions come to: all. -/
import Derived.Test.YtmjjaoffeajcbaaL3Eqs0
import Derived.Test.YtmjjaoffeajcbaaL3Eqs1
import Derived.Test.YtmjjaoffeajcbaaL3Eqs2
import Derived.Test.YtmjjaoffeajcbaaL3Eqs3
import Derived.Test.YtmjjaoffeajcbaaL3Eqs4
