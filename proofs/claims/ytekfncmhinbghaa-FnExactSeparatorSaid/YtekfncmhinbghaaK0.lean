/- Own layer: part of this seat (K0). Plain theorems; no conditions. -/
import Derived.Test.YtekfncmhinbghaaPx5
import Derived.Test.YtekfncmhinbghaaW0
import Derived.Test.YtekfncmhinbghaaProg
set_option linter.unusedVariables false
set_option linter.unusedSimpArgs false
namespace Go.Proofs.Ytekfncmhinbghaa
open Go.Px
theorem mixed : Try.prog.follows .mixedOrders = true := by kernel_rfl
theorem el3 : ElT Try.prog 3 [.int .i64 0] 8 false := ElT.of (z := .int .i64 0) (by kernel_rfl) rfl (by kernel_rfl)
theorem el5 : ElT Try.prog 5 [.int .u8 0] 1 false := ElT.of (z := .int .u8 0) (by kernel_rfl) rfl (by kernel_rfl)
theorem el9 : ElT Try.prog 9 [S []] 16 false := ElT.of (z := S []) (by kernel_rfl) rfl (by kernel_rfl)
theorem el29 : ElT Try.prog 29 [.slice none 0 0] 24 false := ElT.of (z := .slice none 0 0) (by kernel_rfl) rfl (by kernel_rfl)
theorem fl66_0 : FlT Try.prog 66 0 0 := FlT.of (by kernel_rfl)
theorem fl66_1 : FlT Try.prog 66 1 1 := FlT.of (by kernel_rfl)
theorem of66 : OneF Try.prog 66 [.slice none 0 0, .int .i64 0] := OneF.of (z := .agg #[.slice none 0 0, .int .i64 0]) (by kernel_rfl) rfl (by kernel_rfl)
theorem en20 : Enters Try.prog 20 := enters_of Try.func20 (by kernel_rfl) (by kernel_rfl)
theorem en21 : Enters Try.prog 21 := enters_of Try.func21 (by kernel_rfl) (by kernel_rfl)
theorem en22 : Enters Try.prog 22 := enters_of Try.func22 (by kernel_rfl) (by kernel_rfl)
theorem en23 : Enters Try.prog 23 := enters_of Try.func23 (by kernel_rfl) (by kernel_rfl)
theorem en24 : Enters Try.prog 24 := enters_of Try.func24 (by kernel_rfl) (by kernel_rfl)
theorem en25 : Enters Try.prog 25 := enters_of Try.func25 (by kernel_rfl) (by kernel_rfl)
theorem en26 : Enters Try.prog 26 := enters_of Try.func26 (by kernel_rfl) (by kernel_rfl)
theorem en27 : Enters Try.prog 27 := enters_of Try.func27 (by kernel_rfl) (by kernel_rfl)
theorem en47 : Enters Try.prog 47 := enters_of Try.func47 (by kernel_rfl) (by kernel_rfl)
theorem en48 : Enters Try.prog 48 := enters_of Try.func48 (by kernel_rfl) (by kernel_rfl)
theorem en49 : Enters Try.prog 49 := enters_of Try.func49 (by kernel_rfl) (by kernel_rfl)
theorem en50 : Enters Try.prog 50 := enters_of Try.func50 (by kernel_rfl) (by kernel_rfl)
theorem en51 : Enters Try.prog 51 := enters_of Try.func51 (by kernel_rfl) (by kernel_rfl)
theorem en52 : Enters Try.prog 52 := enters_of Try.func52 (by kernel_rfl) (by kernel_rfl)
theorem en53 : Enters Try.prog 53 := enters_of Try.func53 (by kernel_rfl) (by kernel_rfl)
theorem en54 : Enters Try.prog 54 := enters_of Try.func54 (by kernel_rfl) (by kernel_rfl)
theorem en55 : Enters Try.prog 55 := enters_of Try.func55 (by kernel_rfl) (by kernel_rfl)
theorem en61 : Enters Try.prog 61 := enters_of Try.func61 (by kernel_rfl) (by kernel_rfl)
theorem en62 : Enters Try.prog 62 := enters_of Try.func62 (by kernel_rfl) (by kernel_rfl)
theorem en65 : Enters Try.prog 65 := enters_of Try.func65 (by kernel_rfl) (by kernel_rfl)
end Go.Proofs.Ytekfncmhinbghaa
