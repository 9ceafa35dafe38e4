/- What the functions come to: all. -/
import Derived.Test.YtomkegeojknihaaDoorV1Eqs0
import Derived.Test.YtomkegeojknihaaDoorV1Eqs1
import Derived.Test.YtomkegeojknihaaDoorV1Eqs2
import Derived.Test.YtomkegeojknihaaDoorV1Eqs3
