/- Own layer: part of this seat (DY). Plain theorems; no conditions. -/
import Derived.Test.YteljpjapacajoaaDL
set_option linter.unusedVariables false
set_option linter.unusedSimpArgs false
namespace Go.Proofs.Yteljpjapacajoaa
open Go.Px
end Go.Proofs.Yteljpjapacajoaa
