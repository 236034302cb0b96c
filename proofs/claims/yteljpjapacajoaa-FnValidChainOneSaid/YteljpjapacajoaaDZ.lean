/- Own layer: part of this seat (DZ). Plain theorems; no conditions. -/
import Derived.Test.YteljpjapacajoaaCA
import Derived.Test.YteljpjapacajoaaDJ
set_option linter.unusedVariables false
set_option linter.unusedSimpArgs false
namespace Go.Proofs.Yteljpjapacajoaa
open Go.Px
end Go.Proofs.Yteljpjapacajoaa
