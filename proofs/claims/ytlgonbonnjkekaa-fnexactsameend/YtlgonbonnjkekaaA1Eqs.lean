/- What the functions come to: all. -/
import Derived.Test.YtlgonbonnjkekaaA1Eqs0
import Derived.Test.YtlgonbonnjkekaaA1Eqs1
import Derived.Test.YtlgonbonnjkekaaA1Eqs2
