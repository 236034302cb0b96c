/- Own layer: part of this seat (LI). Plain theorems; no conditions. -/
import Derived.Test.YtgflcaeibbnkcaaG2
import Derived.Test.YtgflcaeibbnkcaaLF
import Derived.Test.YtgflcaeibbnkcaaLG
import Derived.Test.YtgflcaeibbnkcaaLH
set_option linter.unusedVariables false
set_option linter.unusedSimpArgs false
namespace Go.Proofs.Ytgflcaeibbnkcaa
open Go.Px
end Go.Proofs.Ytgflcaeibbnkcaa
