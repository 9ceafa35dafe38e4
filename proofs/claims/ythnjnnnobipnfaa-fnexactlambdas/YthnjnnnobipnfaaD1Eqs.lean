/- What the functions come to: all. -/
import Derived.Test.YthnjnnnobipnfaaD1Eqs0
import Derived.Test.YthnjnnnobipnfaaD1Eqs1
import Derived.Test.YthnjnnnobipnfaaD1Eqs2
import Derived.Test.YthnjnnnobipnfaaD1Eqs3
import Derived.Test.YthnjnnnobipnfaaD1Eqs4
import Derived.Test.YthnjnnnobipnfaaD1Eqs5
