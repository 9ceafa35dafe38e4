/- What the functions come to: all. -/
import Derived.Test.YtmjjaoffeajcbaaF1Eqs0
import Derived.Test.YtmjjaoffeajcbaaF1Eqs1
import Derived.Test.YtmjjaoffeajcbaaF1Eqs2
import Derived.Test.YtmjjaoffeajcbaaF1Eqs3
