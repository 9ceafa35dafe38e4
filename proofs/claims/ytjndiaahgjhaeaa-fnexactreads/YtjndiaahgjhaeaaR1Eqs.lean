/- What the functions come to: all. -/
import Derived.Test.YtjndiaahgjhaeaaR1Eqs0
import Derived.Test.YtjndiaahgjhaeaaR1Eqs1
import Derived.Test.YtjndiaahgjhaeaaR1Eqs2
import Derived.Test.YtjndiaahgjhaeaaR1Eqs3
