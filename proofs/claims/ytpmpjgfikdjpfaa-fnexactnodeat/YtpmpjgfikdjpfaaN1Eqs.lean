/- What the functions come to: all. -/
import Derived.Test.YtpmpjgfikdjpfaaN1Eqs0
import Derived.Test.YtpmpjgfikdjpfaaN1Eqs1
import Derived.Test.YtpmpjgfikdjpfaaN1Eqs2
import Derived.Test.YtpmpjgfikdjpfaaN1Eqs3
import Derived.Test.YtpmpjgfikdjpfaaN1Eqs4
import Derived.Test.YtpmpjgfikdjpfaaN1Eqs5
