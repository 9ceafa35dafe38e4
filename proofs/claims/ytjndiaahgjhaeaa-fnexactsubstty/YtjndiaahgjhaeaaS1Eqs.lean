/- What the functions come to: all. -/
import Derived.Test.YtjndiaahgjhaeaaS1Eqs0
import Derived.Test.YtjndiaahgjhaeaaS1Eqs1
import Derived.Test.YtjndiaahgjhaeaaS1Eqs2
import Derived.Test.YtjndiaahgjhaeaaS1Eqs3
