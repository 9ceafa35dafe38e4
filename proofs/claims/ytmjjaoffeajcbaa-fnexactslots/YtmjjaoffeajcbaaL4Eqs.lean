/- What the functions come to: all. -/
import Derived.Test.YtmjjaoffeajcbaaL4Eqs0
import Derived.Test.YtmjjaoffeajcbaaL4Eqs1
import Derived.Test.YtmjjaoffeajcbaaL4Eqs2
import Derived.Test.YtmjjaoffeajcbaaL4Eqs3
