/- What the functions come to: all. -/
import Derived.Test.YtmjjaoffeajcbaaL5Eqs0
import Derived.Test.YtmjjaoffeajcbaaL5Eqs1
import Derived.Test.YtmjjaoffeajcbaaL5Eqs2
import Derived.Test.YtmjjaoffeajcbaaL5Eqs3
