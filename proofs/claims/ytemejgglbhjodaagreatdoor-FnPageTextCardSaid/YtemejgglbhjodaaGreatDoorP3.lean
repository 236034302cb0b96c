/- Own layer, part 4: plain theorems on the walk of this program's functions and on what they compute; no conditions. -/
import Derived.Test.YtemejgglbhjodaaGreatDoorP2
import Derived.Test.YtemejgglbhjodaaGreatDoorProg
import Derived.Shelf.Strings.Builder1
import Derived.Test.YtemejgglbhjodaaGreatDoorRows
set_option linter.unusedVariables false
set_option linter.unusedSimpArgs false
section
namespace Go.Proofs.YtemejgglbhjodaaGreatDoor
open Go.Px
theorem mixed : Tryz.prog.follows .mixedOrders = true := by kernel_rfl
theorem el3 : ElT Tryz.prog 3 [.int .i64 0] 8 false := ElT.of (z := .int .i64 0) (by kernel_rfl) rfl (by kernel_rfl)
theorem el4 : ElT Tryz.prog 4 [.bool false] 1 false := ElT.of (z := .bool false) (by kernel_rfl) rfl (by kernel_rfl)
theorem el5 : ElT Tryz.prog 5 [.int .u8 0] 1 false := ElT.of (z := .int .u8 0) (by kernel_rfl) rfl (by kernel_rfl)
theorem el9 : ElT Tryz.prog 9 [S []] 16 false := ElT.of (z := S []) (by kernel_rfl) rfl (by kernel_rfl)
theorem el22 : ElT Tryz.prog 22 [.slice none 0 0] 24 false := ElT.of (z := .slice none 0 0) (by kernel_rfl) rfl (by kernel_rfl)
theorem el23 : ElT Tryz.prog 23 [.slice none 0 0] 24 false := ElT.of (z := .slice none 0 0) (by kernel_rfl) rfl (by kernel_rfl)
theorem el25 : ElT Tryz.prog 25 [.int .i64 0, .slice none 0 0] 32 true := ElT.of (z := .agg #[.int .i64 0, .slice none 0 0]) (by kernel_rfl) rfl (by kernel_rfl)
theorem el27 : ElT Tryz.prog 27 [.int .i64 0, .int .i64 0] 16 true := ElT.of (z := .agg #[.int .i64 0, .int .i64 0]) (by kernel_rfl) rfl (by kernel_rfl)
theorem el30 : ElT Tryz.prog 30 [.slice none 0 0] 24 false := ElT.of (z := .slice none 0 0) (by kernel_rfl) rfl (by kernel_rfl)
theorem el42 : ElT Tryz.prog 42 [.slice none 0 0, .slice none 0 0, .slice none 0 0] 72 true := ElT.of (z := .agg #[.slice none 0 0, .slice none 0 0, .slice none 0 0]) (by kernel_rfl) rfl (by kernel_rfl)
theorem el43 : ElT Tryz.prog 43 [.slice none 0 0] 24 false := ElT.of (z := .slice none 0 0) (by kernel_rfl) rfl (by kernel_rfl)
theorem el65 : ElT Tryz.prog 65 [.slice none 0 0, .slice none 0 0] 48 true := ElT.of (z := .agg #[.slice none 0 0, .slice none 0 0]) (by kernel_rfl) rfl (by kernel_rfl)
theorem el75 : ElT Tryz.prog 75 [.bool false, .bool false, .bool false, .bool false, .bool false, .bool false, .bool false, .bool false, .bool false, .bool false, .bool false, .bool false, .bool false, .bool false, .bool false, .bool false] 16 true := ElT.of (z := .agg #[.bool false, .bool false, .bool false, .bool false, .bool false, .bool false, .bool false, .bool false, .bool false, .bool false, .bool false, .bool false, .bool false, .bool false, .bool false, .bool false]) (by kernel_rfl) rfl (by kernel_rfl)
theorem el77 : ElT Tryz.prog 77 [.int .i64 0, .slice none 0 0, .bool false, .bool false, .bool false, .bool false, .bool false, .bool false, .bool false, .bool false, .bool false, .bool false, .bool false, .bool false, .bool false, .bool false, .bool false, .bool false, .int .i64 0] 56 true := ElT.of (z := .agg #[.int .i64 0, .slice none 0 0, .bool false, .bool false, .bool false, .bool false, .bool false, .bool false, .bool false, .bool false, .bool false, .bool false, .bool false, .bool false, .bool false, .bool false, .bool false, .bool false, .int .i64 0]) (by kernel_rfl) rfl (by kernel_rfl)
theorem el90 : ElT Tryz.prog 90 [.int .i64 0, .slice none 0 0] 32 true := ElT.of (z := .agg #[.int .i64 0, .slice none 0 0]) (by kernel_rfl) rfl (by kernel_rfl)
theorem el91 : ElT Tryz.prog 91 [.pointer none] 8 false := ElT.of (z := .pointer none) (by kernel_rfl) rfl (by kernel_rfl)
theorem el93 : ElT Tryz.prog 93 [.pointer none, .slice none 0 0] 32 true := ElT.of (z := .agg #[.pointer none, .slice none 0 0]) (by kernel_rfl) rfl (by kernel_rfl)
theorem el95 : ElT Tryz.prog 95 [.nilIface] 16 false := ElT.of (z := .nilIface) (by kernel_rfl) rfl (by kernel_rfl)
theorem el103 : ElT Tryz.prog 103 [.int .i64 0, .slice none 0 0] 32 true := ElT.of (z := .agg #[.int .i64 0, .slice none 0 0]) (by kernel_rfl) rfl (by kernel_rfl)
theorem el131 : ElT Tryz.prog 131 [.slice none 0 0, .int .i64 0] 32 true := ElT.of (z := .agg #[.slice none 0 0, .int .i64 0]) (by kernel_rfl) rfl (by kernel_rfl)
theorem el134 : ElT Tryz.prog 134 [.int .i64 0, .int .i64 0] 16 true := ElT.of (z := .agg #[.int .i64 0, .int .i64 0]) (by kernel_rfl) rfl (by kernel_rfl)
theorem el169 : ElT Tryz.prog 169 [.slice none 0 0, .bool false, .bool false, .bool false, .bool false, .bool false, .bool false, .bool false, .bool false, .bool false, .bool false, .bool false, .bool false, .bool false, .bool false, .bool false, .bool false, .int .i64 0] 48 true := ElT.of (z := .agg #[.slice none 0 0, .bool false, .bool false, .bool false, .bool false, .bool false, .bool false, .bool false, .bool false, .bool false, .bool false, .bool false, .bool false, .bool false, .bool false, .bool false, .bool false, .int .i64 0]) (by kernel_rfl) rfl (by kernel_rfl)
theorem el179 : ElT Tryz.prog 179 [.int .u8 0, .int .u8 0, .int .u8 0, .int .u8 0, .int .u8 0, .int .u8 0, .int .u8 0, .int .u8 0, .int .u8 0, .int .u8 0, .int .u8 0, .int .u8 0, .int .u8 0, .int .u8 0, .int .u8 0, .int .u8 0, .int .u8 0, .int .u8 0, .int .u8 0, .int .u8 0, .int .u8 0, .int .u8 0, .int .u8 0, .int .u8 0] 24 true := ElT.of (z := .agg #[.int .u8 0, .int .u8 0, .int .u8 0, .int .u8 0, .int .u8 0, .int .u8 0, .int .u8 0, .int .u8 0, .int .u8 0, .int .u8 0, .int .u8 0, .int .u8 0, .int .u8 0, .int .u8 0, .int .u8 0, .int .u8 0, .int .u8 0, .int .u8 0, .int .u8 0, .int .u8 0, .int .u8 0, .int .u8 0, .int .u8 0, .int .u8 0]) (by kernel_rfl) rfl (by kernel_rfl)
theorem el180 : ElT Tryz.prog 180 [.int .u64 0] 8 false := ElT.of (z := .int .u64 0) (by kernel_rfl) rfl (by kernel_rfl)
theorem el196 : ElT Tryz.prog 196 [.int .i64 0, .int .i64 0, .int .i64 0, .int .i64 0, .int .i64 0, .int .i64 0, .int .i64 0, .int .i64 0, .int .i64 0, .int .i64 0, .int .i64 0, .int .i64 0, .int .i64 0, .int .i64 0, .int .i64 0, .int .i64 0] 128 true := ElT.of (z := .agg #[.int .i64 0, .int .i64 0, .int .i64 0, .int .i64 0, .int .i64 0, .int .i64 0, .int .i64 0, .int .i64 0, .int .i64 0, .int .i64 0, .int .i64 0, .int .i64 0, .int .i64 0, .int .i64 0, .int .i64 0, .int .i64 0]) (by kernel_rfl) rfl (by kernel_rfl)
theorem el201 : ElT Tryz.prog 201 [.int .u64 0, .int .u64 0, .int .u64 0, .int .u64 0, .int .u64 0, .int .u64 0, .int .u64 0, .int .u64 0, .int .u64 0, .int .u64 0, .int .u64 0, .int .u64 0, .int .u64 0, .int .u64 0, .int .u64 0, .int .u64 0, .int .u64 0, .int .u64 0, .int .u64 0, .int .u64 0] 160 true := ElT.of (z := .agg #[.int .u64 0, .int .u64 0, .int .u64 0, .int .u64 0, .int .u64 0, .int .u64 0, .int .u64 0, .int .u64 0, .int .u64 0, .int .u64 0, .int .u64 0, .int .u64 0, .int .u64 0, .int .u64 0, .int .u64 0, .int .u64 0, .int .u64 0, .int .u64 0, .int .u64 0, .int .u64 0]) (by kernel_rfl) rfl (by kernel_rfl)
theorem el203 : ElT Tryz.prog 203 [.int .u8 0, .int .u8 0, .int .u8 0, .int .u8 0, .int .u8 0, .int .u8 0, .int .u8 0, .int .u8 0, .int .u8 0, .int .u8 0, .int .u8 0, .int .u8 0, .int .u8 0, .int .u8 0, .int .u8 0, .int .u8 0, .int .u8 0, .int .u8 0, .int .u8 0, .int .u8 0, .int .u8 0, .int .u8 0, .int .u8 0, .int .u8 0, .int .u8 0, .int .u8 0, .int .u8 0, .int .u8 0, .int .u8 0, .int .u8 0, .int .u8 0, .int .u8 0, .int .u8 0, .int .u8 0, .int .u8 0, .int .u8 0, .int .u8 0, .int .u8 0, .int .u8 0, .int .u8 0, .int .u8 0, .int .u8 0, .int .u8 0, .int .u8 0, .int .u8 0, .int .u8 0, .int .u8 0, .int .u8 0, .int .u8 0, .int .u8 0, .int .u8 0, .int .u8 0, .int .u8 0, .int .u8 0, .int .u8 0, .int .u8 0, .int .u8 0, .int .u8 0, .int .u8 0, .int .u8 0, .int .u8 0, .int .u8 0, .int .u8 0, .int .u8 0, .int .u8 0] 65 true := ElT.of (z := .agg #[.int .u8 0, .int .u8 0, .int .u8 0, .int .u8 0, .int .u8 0, .int .u8 0, .int .u8 0, .int .u8 0, .int .u8 0, .int .u8 0, .int .u8 0, .int .u8 0, .int .u8 0, .int .u8 0, .int .u8 0, .int .u8 0, .int .u8 0, .int .u8 0, .int .u8 0, .int .u8 0, .int .u8 0, .int .u8 0, .int .u8 0, .int .u8 0, .int .u8 0, .int .u8 0, .int .u8 0, .int .u8 0, .int .u8 0, .int .u8 0, .int .u8 0, .int .u8 0, .int .u8 0, .int .u8 0, .int .u8 0, .int .u8 0, .int .u8 0, .int .u8 0, .int .u8 0, .int .u8 0, .int .u8 0, .int .u8 0, .int .u8 0, .int .u8 0, .int .u8 0, .int .u8 0, .int .u8 0, .int .u8 0, .int .u8 0, .int .u8 0, .int .u8 0, .int .u8 0, .int .u8 0, .int .u8 0, .int .u8 0, .int .u8 0, .int .u8 0, .int .u8 0, .int .u8 0, .int .u8 0, .int .u8 0, .int .u8 0, .int .u8 0, .int .u8 0, .int .u8 0]) (by kernel_rfl) rfl (by kernel_rfl)
theorem el207 : ElT Tryz.prog 207 [.int .u8 0, .int .u8 0] 2 true := ElT.of (z := .agg #[.int .u8 0, .int .u8 0]) (by kernel_rfl) rfl (by kernel_rfl)
theorem el208 : ElT Tryz.prog 208 [.int .u8 0, .int .u8 0, .int .u8 0, .int .u8 0, .int .u8 0, .int .u8 0, .int .u8 0, .int .u8 0, .int .u8 0, .int .u8 0, .int .u8 0, .int .u8 0, .int .u8 0, .int .u8 0, .int .u8 0, .int .u8 0, .int .u8 0, .int .u8 0, .int .u8 0, .int .u8 0, .int .u8 0, .int .u8 0, .int .u8 0, .int .u8 0, .int .u8 0, .int .u8 0, .int .u8 0, .int .u8 0, .int .u8 0, .int .u8 0, .int .u8 0, .int .u8 0] 32 true := ElT.of (z := .agg #[.int .u8 0, .int .u8 0, .int .u8 0, .int .u8 0, .int .u8 0, .int .u8 0, .int .u8 0, .int .u8 0, .int .u8 0, .int .u8 0, .int .u8 0, .int .u8 0, .int .u8 0, .int .u8 0, .int .u8 0, .int .u8 0, .int .u8 0, .int .u8 0, .int .u8 0, .int .u8 0, .int .u8 0, .int .u8 0, .int .u8 0, .int .u8 0, .int .u8 0, .int .u8 0, .int .u8 0, .int .u8 0, .int .u8 0, .int .u8 0, .int .u8 0, .int .u8 0]) (by kernel_rfl) rfl (by kernel_rfl)
theorem el214 : ElT Tryz.prog 214 [S [], S [], .nilIface] 48 true := ElT.of (z := .agg #[S [], S [], .nilIface]) (by kernel_rfl) rfl (by kernel_rfl)
theorem el225 : ElT Tryz.prog 225 [S []] 16 true := ElT.of (z := .agg #[S []]) (by kernel_rfl) rfl (by kernel_rfl)
theorem el229 : ElT Tryz.prog 229 [.int .u8 0, .int .u8 0, .int .u8 0, .int .u8 0, .int .u8 0, .int .u8 0, .int .u8 0, .int .u8 0, .int .u8 0, .int .u8 0, .int .u8 0, .int .u8 0, .int .u8 0, .int .u8 0, .int .u8 0, .int .u8 0, .int .u8 0, .int .u8 0, .int .u8 0, .int .u8 0, .int .u8 0, .int .u8 0, .int .u8 0, .int .u8 0, .int .u8 0, .int .u8 0, .int .u8 0, .int .u8 0, .int .u8 0, .int .u8 0, .int .u8 0, .int .u8 0] 32 true := ElT.of (z := .agg #[.int .u8 0, .int .u8 0, .int .u8 0, .int .u8 0, .int .u8 0, .int .u8 0, .int .u8 0, .int .u8 0, .int .u8 0, .int .u8 0, .int .u8 0, .int .u8 0, .int .u8 0, .int .u8 0, .int .u8 0, .int .u8 0, .int .u8 0, .int .u8 0, .int .u8 0, .int .u8 0, .int .u8 0, .int .u8 0, .int .u8 0, .int .u8 0, .int .u8 0, .int .u8 0, .int .u8 0, .int .u8 0, .int .u8 0, .int .u8 0, .int .u8 0, .int .u8 0]) (by kernel_rfl) rfl (by kernel_rfl)
theorem el230 : ElT Tryz.prog 230 [.int .u8 0, .int .u8 0, .int .u8 0, .int .u8 0, .int .u8 0, .int .u8 0, .int .u8 0, .int .u8 0, .int .u8 0, .int .u8 0, .int .u8 0, .int .u8 0, .int .u8 0, .int .u8 0, .int .u8 0, .int .u8 0, .int .u8 0, .int .u8 0, .int .u8 0, .int .u8 0, .int .u8 0, .int .u8 0, .int .u8 0, .int .u8 0, .int .u8 0, .int .u8 0, .int .u8 0, .int .u8 0, .int .u8 0, .int .u8 0, .int .u8 0, .int .u8 0, .int .u8 0, .int .u8 0, .int .u8 0, .int .u8 0, .int .u8 0, .int .u8 0, .int .u8 0, .int .u8 0, .int .u8 0, .int .u8 0, .int .u8 0, .int .u8 0, .int .u8 0, .int .u8 0, .int .u8 0, .int .u8 0, .int .u8 0, .int .u8 0, .int .u8 0, .int .u8 0, .int .u8 0, .int .u8 0, .int .u8 0, .int .u8 0, .int .u8 0, .int .u8 0, .int .u8 0, .int .u8 0, .int .u8 0, .int .u8 0, .int .u8 0, .int .u8 0] 64 true := ElT.of (z := .agg #[.int .u8 0, .int .u8 0, .int .u8 0, .int .u8 0, .int .u8 0, .int .u8 0, .int .u8 0, .int .u8 0, .int .u8 0, .int .u8 0, .int .u8 0, .int .u8 0, .int .u8 0, .int .u8 0, .int .u8 0, .int .u8 0, .int .u8 0, .int .u8 0, .int .u8 0, .int .u8 0, .int .u8 0, .int .u8 0, .int .u8 0, .int .u8 0, .int .u8 0, .int .u8 0, .int .u8 0, .int .u8 0, .int .u8 0, .int .u8 0, .int .u8 0, .int .u8 0, .int .u8 0, .int .u8 0, .int .u8 0, .int .u8 0, .int .u8 0, .int .u8 0, .int .u8 0, .int .u8 0, .int .u8 0, .int .u8 0, .int .u8 0, .int .u8 0, .int .u8 0, .int .u8 0, .int .u8 0, .int .u8 0, .int .u8 0, .int .u8 0, .int .u8 0, .int .u8 0, .int .u8 0, .int .u8 0, .int .u8 0, .int .u8 0, .int .u8 0, .int .u8 0, .int .u8 0, .int .u8 0, .int .u8 0, .int .u8 0, .int .u8 0, .int .u8 0]) (by kernel_rfl) rfl (by kernel_rfl)
theorem fl25_0 : FlT Tryz.prog 25 0 0 := FlT.of (by kernel_rfl)
theorem fl25_1 : FlT Tryz.prog 25 1 1 := FlT.of (by kernel_rfl)
theorem fl27_0 : FlT Tryz.prog 27 0 0 := FlT.of (by kernel_rfl)
theorem fl27_1 : FlT Tryz.prog 27 1 1 := FlT.of (by kernel_rfl)
theorem fl42_0 : FlT Tryz.prog 42 0 0 := FlT.of (by kernel_rfl)
theorem fl42_1 : FlT Tryz.prog 42 1 1 := FlT.of (by kernel_rfl)
theorem fl42_2 : FlT Tryz.prog 42 2 2 := FlT.of (by kernel_rfl)
theorem fl65_0 : FlT Tryz.prog 65 0 0 := FlT.of (by kernel_rfl)
theorem fl65_1 : FlT Tryz.prog 65 1 1 := FlT.of (by kernel_rfl)
theorem fl77_0 : FlT Tryz.prog 77 0 0 := FlT.of (by kernel_rfl)
theorem fl77_1 : FlT Tryz.prog 77 1 2 := FlT.of (by kernel_rfl)
theorem fl77_2 : FlT Tryz.prog 77 2 18 := FlT.of (by kernel_rfl)
theorem fl90_0 : FlT Tryz.prog 90 0 0 := FlT.of (by kernel_rfl)
theorem fl93_0 : FlT Tryz.prog 93 0 0 := FlT.of (by kernel_rfl)
theorem fl93_1 : FlT Tryz.prog 93 1 1 := FlT.of (by kernel_rfl)
theorem fl103_0 : FlT Tryz.prog 103 0 0 := FlT.of (by kernel_rfl)
theorem fl131_0 : FlT Tryz.prog 131 0 0 := FlT.of (by kernel_rfl)
theorem fl131_1 : FlT Tryz.prog 131 1 1 := FlT.of (by kernel_rfl)
theorem fl169_0 : FlT Tryz.prog 169 0 0 := FlT.of (by kernel_rfl)
theorem fl169_1 : FlT Tryz.prog 169 1 1 := FlT.of (by kernel_rfl)
theorem fl169_2 : FlT Tryz.prog 169 2 17 := FlT.of (by kernel_rfl)
theorem fl207_0 : FlT Tryz.prog 207 0 0 := FlT.of (by kernel_rfl)
theorem fl207_1 : FlT Tryz.prog 207 1 1 := FlT.of (by kernel_rfl)
theorem of25 : OneF Tryz.prog 25 [.int .i64 0, .slice none 0 0] := OneF.of (z := .agg #[.int .i64 0, .slice none 0 0]) (by kernel_rfl) rfl (by kernel_rfl)
theorem of27 : OneF Tryz.prog 27 [.int .i64 0, .int .i64 0] := OneF.of (z := .agg #[.int .i64 0, .int .i64 0]) (by kernel_rfl) rfl (by kernel_rfl)
theorem of42 : OneF Tryz.prog 42 [.slice none 0 0, .slice none 0 0, .slice none 0 0] := OneF.of (z := .agg #[.slice none 0 0, .slice none 0 0, .slice none 0 0]) (by kernel_rfl) rfl (by kernel_rfl)
theorem of65 : OneF Tryz.prog 65 [.slice none 0 0, .slice none 0 0] := OneF.of (z := .agg #[.slice none 0 0, .slice none 0 0]) (by kernel_rfl) rfl (by kernel_rfl)
theorem of131 : OneF Tryz.prog 131 [.slice none 0 0, .int .i64 0] := OneF.of (z := .agg #[.slice none 0 0, .int .i64 0]) (by kernel_rfl) rfl (by kernel_rfl)
theorem of207 : OneF Tryz.prog 207 [.int .u8 0, .int .u8 0] := OneF.of (z := .agg #[.int .u8 0, .int .u8 0]) (by kernel_rfl) rfl (by kernel_rfl)
theorem of214 : OneF Tryz.prog 214 [S [], S [], .nilIface] := OneF.of (z := .agg #[S [], S [], .nilIface]) (by kernel_rfl) rfl (by kernel_rfl)
theorem of225 : OneF Tryz.prog 225 [S []] := OneF.of (z := .agg #[S []]) (by kernel_rfl) rfl (by kernel_rfl)
theorem en13 : Enters Tryz.prog 13 := Px.enters_of Tryz.func13 (by kernel_rfl) (by kernel_rfl)
theorem en16 : Enters Tryz.prog 16 := Px.enters_of Tryz.func16 (by kernel_rfl) (by kernel_rfl)
theorem en17 : Enters Tryz.prog 17 := Px.enters_of Tryz.func17 (by kernel_rfl) (by kernel_rfl)
theorem en18 : Enters Tryz.prog 18 := Px.enters_of Tryz.func18 (by kernel_rfl) (by kernel_rfl)
theorem en19 : Enters Tryz.prog 19 := Px.enters_of Tryz.func19 (by kernel_rfl) (by kernel_rfl)
theorem en20 : Enters Tryz.prog 20 := Px.enters_of Tryz.func20 (by kernel_rfl) (by kernel_rfl)
theorem en21 : Enters Tryz.prog 21 := Px.enters_of Tryz.func21 (by kernel_rfl) (by kernel_rfl)
theorem en35 : Enters Tryz.prog 35 := Px.enters_of Tryz.func35 (by kernel_rfl) (by kernel_rfl)
theorem en41 : Enters Tryz.prog 41 := Px.enters_of Tryz.func41 (by kernel_rfl) (by kernel_rfl)
theorem en43 : Enters Tryz.prog 43 := Px.enters_of Tryz.func43 (by kernel_rfl) (by kernel_rfl)
theorem en44 : Enters Tryz.prog 44 := Px.enters_of Tryz.func44 (by kernel_rfl) (by kernel_rfl)
theorem en45 : Enters Tryz.prog 45 := Px.enters_of Tryz.func45 (by kernel_rfl) (by kernel_rfl)
theorem en46 : Enters Tryz.prog 46 := Px.enters_of Tryz.func46 (by kernel_rfl) (by kernel_rfl)
theorem en47 : Enters Tryz.prog 47 := Px.enters_of Tryz.func47 (by kernel_rfl) (by kernel_rfl)
theorem en48 : Enters Tryz.prog 48 := Px.enters_of Tryz.func48 (by kernel_rfl) (by kernel_rfl)
theorem en49 : Enters Tryz.prog 49 := Px.enters_of Tryz.func49 (by kernel_rfl) (by kernel_rfl)
theorem en50 : Enters Tryz.prog 50 := Px.enters_of Tryz.func50 (by kernel_rfl) (by kernel_rfl)
theorem en51 : Enters Tryz.prog 51 := Px.enters_of Tryz.func51 (by kernel_rfl) (by kernel_rfl)
theorem en52 : Enters Tryz.prog 52 := Px.enters_of Tryz.func52 (by kernel_rfl) (by kernel_rfl)
theorem en53 : Enters Tryz.prog 53 := Px.enters_of Tryz.func53 (by kernel_rfl) (by kernel_rfl)
theorem en54 : Enters Tryz.prog 54 := Px.enters_of Tryz.func54 (by kernel_rfl) (by kernel_rfl)
theorem en55 : Enters Tryz.prog 55 := Px.enters_of Tryz.func55 (by kernel_rfl) (by kernel_rfl)
theorem en56 : Enters Tryz.prog 56 := Px.enters_of Tryz.func56 (by kernel_rfl) (by kernel_rfl)
theorem en57 : Enters Tryz.prog 57 := Px.enters_of Tryz.func57 (by kernel_rfl) (by kernel_rfl)
theorem en58 : Enters Tryz.prog 58 := Px.enters_of Tryz.func58 (by kernel_rfl) (by kernel_rfl)
theorem en61 : Enters Tryz.prog 61 := Px.enters_of Tryz.func61 (by kernel_rfl) (by kernel_rfl)
theorem en63 : Enters Tryz.prog 63 := Px.enters_of Tryz.func63 (by kernel_rfl) (by kernel_rfl)
theorem en64 : Enters Tryz.prog 64 := Px.enters_of Tryz.func64 (by kernel_rfl) (by kernel_rfl)
theorem en65 : Enters Tryz.prog 65 := Px.enters_of Tryz.func65 (by kernel_rfl) (by kernel_rfl)
theorem en67 : Enters Tryz.prog 67 := Px.enters_of Tryz.func67 (by kernel_rfl) (by kernel_rfl)
theorem en72 : Enters Tryz.prog 72 := Px.enters_of Tryz.func72 (by kernel_rfl) (by kernel_rfl)
theorem en73 : Enters Tryz.prog 73 := Px.enters_of Tryz.func73 (by kernel_rfl) (by kernel_rfl)
theorem en76 : Enters Tryz.prog 76 := Px.enters_of Tryz.func76 (by kernel_rfl) (by kernel_rfl)
theorem en85 : Enters Tryz.prog 85 := Px.enters_of Tryz.func85 (by kernel_rfl) (by kernel_rfl)
theorem en86 : Enters Tryz.prog 86 := Px.enters_of Tryz.func86 (by kernel_rfl) (by kernel_rfl)
theorem en88 : Enters Tryz.prog 88 := Px.enters_of Tryz.func88 (by kernel_rfl) (by kernel_rfl)
theorem en89 : Enters Tryz.prog 89 := Px.enters_of Tryz.func89 (by kernel_rfl) (by kernel_rfl)
theorem en90 : Enters Tryz.prog 90 := Px.enters_of Tryz.func90 (by kernel_rfl) (by kernel_rfl)
theorem en91 : Enters Tryz.prog 91 := Px.enters_of Tryz.func91 (by kernel_rfl) (by kernel_rfl)
theorem en92 : Enters Tryz.prog 92 := Px.enters_of Tryz.func92 (by kernel_rfl) (by kernel_rfl)
theorem en93 : Enters Tryz.prog 93 := Px.enters_of Tryz.func93 (by kernel_rfl) (by kernel_rfl)
theorem en95 : Enters Tryz.prog 95 := Px.enters_of Tryz.func95 (by kernel_rfl) (by kernel_rfl)
theorem en96 : Enters Tryz.prog 96 := Px.enters_of Tryz.func96 (by kernel_rfl) (by kernel_rfl)
theorem en97 : Enters Tryz.prog 97 := Px.enters_of Tryz.func97 (by kernel_rfl) (by kernel_rfl)
theorem en98 : Enters Tryz.prog 98 := Px.enters_of Tryz.func98 (by kernel_rfl) (by kernel_rfl)
theorem en106 : Enters Tryz.prog 106 := Px.enters_of Tryz.func106 (by kernel_rfl) (by kernel_rfl)
theorem en113 : Enters Tryz.prog 113 := Px.enters_of Tryz.func113 (by kernel_rfl) (by kernel_rfl)
theorem en114 : Enters Tryz.prog 114 := Px.enters_of Tryz.func114 (by kernel_rfl) (by kernel_rfl)
theorem en115 : Enters Tryz.prog 115 := Px.enters_of Tryz.func115 (by kernel_rfl) (by kernel_rfl)
theorem en116 : Enters Tryz.prog 116 := Px.enters_of Tryz.func116 (by kernel_rfl) (by kernel_rfl)
theorem en123 : Enters Tryz.prog 123 := Px.enters_of Tryz.func123 (by kernel_rfl) (by kernel_rfl)
theorem en124 : Enters Tryz.prog 124 := Px.enters_of Tryz.func124 (by kernel_rfl) (by kernel_rfl)
theorem en125 : Enters Tryz.prog 125 := Px.enters_of Tryz.func125 (by kernel_rfl) (by kernel_rfl)
theorem en126 : Enters Tryz.prog 126 := Px.enters_of Tryz.func126 (by kernel_rfl) (by kernel_rfl)
theorem en127 : Enters Tryz.prog 127 := Px.enters_of Tryz.func127 (by kernel_rfl) (by kernel_rfl)
theorem en128 : Enters Tryz.prog 128 := Px.enters_of Tryz.func128 (by kernel_rfl) (by kernel_rfl)
theorem en129 : Enters Tryz.prog 129 := Px.enters_of Tryz.func129 (by kernel_rfl) (by kernel_rfl)
theorem en130 : Enters Tryz.prog 130 := Px.enters_of Tryz.func130 (by kernel_rfl) (by kernel_rfl)
theorem en131 : Enters Tryz.prog 131 := Px.enters_of Tryz.func131 (by kernel_rfl) (by kernel_rfl)
theorem en132 : Enters Tryz.prog 132 := Px.enters_of Tryz.func132 (by kernel_rfl) (by kernel_rfl)
theorem en134 : Enters Tryz.prog 134 := Px.enters_of Tryz.func134 (by kernel_rfl) (by kernel_rfl)
theorem en139 : Enters Tryz.prog 139 := Px.enters_of Tryz.func139 (by kernel_rfl) (by kernel_rfl)
theorem en146 : Enters Tryz.prog 146 := Px.enters_of Tryz.func146 (by kernel_rfl) (by kernel_rfl)
theorem en150 : Enters Tryz.prog 150 := Px.enters_of Tryz.func150 (by kernel_rfl) (by kernel_rfl)
theorem en151 : Enters Tryz.prog 151 := Px.enters_of Tryz.func151 (by kernel_rfl) (by kernel_rfl)
theorem en152 : Enters Tryz.prog 152 := Px.enters_of Tryz.func152 (by kernel_rfl) (by kernel_rfl)
theorem en158 : Enters Tryz.prog 158 := Px.enters_of Tryz.func158 (by kernel_rfl) (by kernel_rfl)
theorem en159 : Enters Tryz.prog 159 := Px.enters_of Tryz.func159 (by kernel_rfl) (by kernel_rfl)
theorem en160 : Enters Tryz.prog 160 := Px.enters_of Tryz.func160 (by kernel_rfl) (by kernel_rfl)
theorem en161 : Enters Tryz.prog 161 := Px.enters_of Tryz.func161 (by kernel_rfl) (by kernel_rfl)
theorem en175 : Enters Tryz.prog 175 := Px.enters_of Tryz.func175 (by kernel_rfl) (by kernel_rfl)
theorem en176 : Enters Tryz.prog 176 := Px.enters_of Tryz.func176 (by kernel_rfl) (by kernel_rfl)
theorem en178 : Enters Tryz.prog 178 := Px.enters_of Tryz.func178 (by kernel_rfl) (by kernel_rfl)
theorem en200 : Enters Tryz.prog 200 := Px.enters_of Tryz.func200 (by kernel_rfl) (by kernel_rfl)
theorem en201 : Enters Tryz.prog 201 := Px.enters_of Tryz.func201 (by kernel_rfl) (by kernel_rfl)
theorem en202 : Enters Tryz.prog 202 := Px.enters_of Tryz.func202 (by kernel_rfl) (by kernel_rfl)
theorem en203 : Enters Tryz.prog 203 := Px.enters_of Tryz.func203 (by kernel_rfl) (by kernel_rfl)
theorem en218 : Enters Tryz.prog 218 := Px.enters_of Tryz.func218 (by kernel_rfl) (by kernel_rfl)
def tyL : List (List TyI) := [[ty0, ty0, ty0, ⟨[], some (1, false), false, false, none⟩, ⟨[], some (1, false), false, false, none⟩, ⟨[], some (1, false), false, false, none⟩, ty0, ty0, ty0, ⟨[], some (1, false), false, true, none⟩, ty0, ty0],
  [ty0, ty0, ty0, ty0, ty0, ty0, ty0, ty0, ty0, ty0, ⟨[], some (1, false), true, false, none⟩, ⟨[], some (1, false), true, false, none⟩],
  [ty0, ⟨[(0, 0), (1, 1)], some (2, true), false, false, some [.i 0, .sl none 0 0]⟩, ty0, ⟨[(0, 0), (1, 1)], some (2, true), false, false, some [.i 0, .i 0]⟩, ty0, ty0, ⟨[], some (1, false), true, false, none⟩, ty0, ty0, ty0, ty0, ty0],
  [ty0, ty0, ty0, ty0, ty0, ty0, ⟨[(0, 0), (1, 1), (2, 2)], some (3, true), false, false, some [.sl none 0 0, .sl none 0 0, .sl none 0 0]⟩, ⟨[], some (1, false), true, false, none⟩, ty0, ty0, ty0, ⟨[], none, true, false, none⟩],
  [ty0, ty0, ty0, ty0, ty0, ty0, ty0, ty0, ty0, ty0, ty0, ty0],
  [ty0, ty0, ty0, ty0, ty0, ⟨[(0, 0), (1, 1)], some (2, true), false, false, some [.sl none 0 0, .sl none 0 0]⟩, ty0, ty0, ty0, ty0, ty0, ty0],
  [ty0, ty0, ty0, ⟨[], some (16, true), false, false, none⟩, ty0, ⟨[(0, 0), (1, 2), (2, 18)], some (19, true), false, false, none⟩, ty0, ty0, ty0, ty0, ty0, ty0],
  [ty0, ty0, ty0, ty0, ty0, ty0, ⟨[(0, 0)], some (2, true), false, false, none⟩, ⟨[], some (1, false), false, false, none⟩, ty0, ⟨[(0, 0), (1, 1)], some (2, true), false, false, none⟩, ty0, ⟨[], some (1, false), false, false, none⟩],
  [ty0, ty0, ty0, ty0, ty0, ty0, ty0, ⟨[(0, 0)], some (2, true), false, false, none⟩, ty0, ty0, ty0, ty0],
  [ty0, ty0, ty0, ty0, ty0, ty0, ty0, ty0, ty0, ty0, ty0, ty0],
  [ty0, ty0, ty0, ty0, ty0, ty0, ty0, ty0, ty0, ty0, ty0, ⟨[(0, 0), (1, 1)], some (2, true), false, false, some [.sl none 0 0, .i 0]⟩],
  [ty0, ty0, ⟨[], some (2, true), false, false, none⟩, ty0, ty0, ty0, ty0, ty0, ty0, ty0, ty0, ty0],
  [ty0, ty0, ty0, ty0, ty0, ty0, ty0, ty0, ty0, ty0, ty0, ty0],
  [ty0, ty0, ty0, ty0, ty0, ty0, ty0, ty0, ty0, ty0, ty0, ty0],
  [ty0, ⟨[(0, 0), (1, 1), (2, 17)], some (18, true), false, false, none⟩, ty0, ty0, ty0, ty0, ty0, ty0, ty0, ty0, ty0, ⟨[], some (24, true), false, false, none⟩],
  [⟨[], some (1, false), false, false, none⟩, ty0, ty0, ty0, ty0, ty0, ty0, ty0, ty0, ty0, ty0, ty0],
  [ty0, ty0, ty0, ty0, ⟨[], some (16, true), false, false, none⟩, ty0, ty0, ty0, ty0, ⟨[], some (20, true), false, false, none⟩, ty0, ⟨[], some (65, true), false, false, none⟩],
  [ty0, ty0, ty0, ⟨[(0, 0), (1, 1)], some (2, true), false, false, some [.n .u8 0, .n .u8 0]⟩, ⟨[], some (32, true), false, false, none⟩, ty0, ty0, ty0, ty0, ty0, ⟨[], some (3, true), false, false, some [.s [], .s [], .r (.nilIface)]⟩, ty0],
  [ty0, ty0, ty0, ty0, ty0, ty0, ty0, ty0, ty0, ⟨[], some (1, true), false, false, some [.s []]⟩, ⟨[], none, true, false, none⟩, ty0],
  [ty0, ⟨[], some (32, true), false, false, none⟩, ⟨[], some (64, true), false, false, none⟩, ⟨[], none, true, false, none⟩, ty0, ty0, ty0, ty0, ty0, ty0, ty0, ty0],
  [ty0, ty0, ty0, ty0, ty0]]
theorem tyOK : AllT2 Tryz.prog 12 0 tyL := ⟨⟨.nil, ⟨.nil, ⟨.nil, ⟨⟨trivial, ⟨_, _, el3, rfl⟩, nofun, nofun, trivial⟩, ⟨⟨trivial, ⟨_, _, el4, rfl⟩, nofun, nofun, trivial⟩, ⟨⟨trivial, ⟨_, _, el5, rfl⟩, nofun, nofun, trivial⟩, ⟨.nil, ⟨.nil, ⟨.nil, ⟨⟨trivial, ⟨_, _, el9, rfl⟩, nofun, fun _ => Tryz.underlying9, trivial⟩, ⟨.nil, ⟨.nil, trivial⟩⟩⟩⟩⟩⟩⟩⟩⟩⟩⟩⟩,
  ⟨⟨.nil, ⟨.nil, ⟨.nil, ⟨.nil, ⟨.nil, ⟨.nil, ⟨.nil, ⟨.nil, ⟨.nil, ⟨.nil, ⟨⟨trivial, ⟨_, _, el22, rfl⟩, fun _ => ⟨_, Tryz.underlying22⟩, nofun, trivial⟩, ⟨⟨trivial, ⟨_, _, el23, rfl⟩, fun _ => ⟨_, Tryz.underlying23⟩, nofun, trivial⟩, trivial⟩⟩⟩⟩⟩⟩⟩⟩⟩⟩⟩⟩,
  ⟨⟨.nil, ⟨⟨⟨fl25_0, ⟨fl25_1, trivial⟩⟩, ⟨_, _, el25, rfl⟩, nofun, nofun, of25⟩, ⟨.nil, ⟨⟨⟨fl27_0, ⟨fl27_1, trivial⟩⟩, ⟨_, _, el27, rfl⟩, nofun, nofun, of27⟩, ⟨.nil, ⟨.nil, ⟨⟨trivial, ⟨_, _, el30, rfl⟩, fun _ => ⟨_, Tryz.underlying30⟩, nofun, trivial⟩, ⟨.nil, ⟨.nil, ⟨.nil, ⟨.nil, ⟨.nil, trivial⟩⟩⟩⟩⟩⟩⟩⟩⟩⟩⟩⟩,
  ⟨⟨.nil, ⟨.nil, ⟨.nil, ⟨.nil, ⟨.nil, ⟨.nil, ⟨⟨⟨fl42_0, ⟨fl42_1, ⟨fl42_2, trivial⟩⟩⟩, ⟨_, _, el42, rfl⟩, nofun, nofun, of42⟩, ⟨⟨trivial, ⟨_, _, el43, rfl⟩, fun _ => ⟨_, Tryz.underlying43⟩, nofun, trivial⟩, ⟨.nil, ⟨.nil, ⟨.nil, ⟨⟨trivial, trivial, fun _ => ⟨_, Tryz.underlying47⟩, nofun, trivial⟩, trivial⟩⟩⟩⟩⟩⟩⟩⟩⟩⟩⟩⟩,
  ⟨⟨.nil, ⟨.nil, ⟨.nil, ⟨.nil, ⟨.nil, ⟨.nil, ⟨.nil, ⟨.nil, ⟨.nil, ⟨.nil, ⟨.nil, ⟨.nil, trivial⟩⟩⟩⟩⟩⟩⟩⟩⟩⟩⟩⟩,
  ⟨⟨.nil, ⟨.nil, ⟨.nil, ⟨.nil, ⟨.nil, ⟨⟨⟨fl65_0, ⟨fl65_1, trivial⟩⟩, ⟨_, _, el65, rfl⟩, nofun, nofun, of65⟩, ⟨.nil, ⟨.nil, ⟨.nil, ⟨.nil, ⟨.nil, ⟨.nil, trivial⟩⟩⟩⟩⟩⟩⟩⟩⟩⟩⟩⟩,
  ⟨⟨.nil, ⟨.nil, ⟨.nil, ⟨⟨trivial, ⟨_, _, el75, rfl⟩, nofun, nofun, trivial⟩, ⟨.nil, ⟨⟨⟨fl77_0, ⟨fl77_1, ⟨fl77_2, trivial⟩⟩⟩, ⟨_, _, el77, rfl⟩, nofun, nofun, trivial⟩, ⟨.nil, ⟨.nil, ⟨.nil, ⟨.nil, ⟨.nil, ⟨.nil, trivial⟩⟩⟩⟩⟩⟩⟩⟩⟩⟩⟩⟩,
  ⟨⟨.nil, ⟨.nil, ⟨.nil, ⟨.nil, ⟨.nil, ⟨.nil, ⟨⟨⟨fl90_0, trivial⟩, ⟨_, _, el90, rfl⟩, nofun, nofun, trivial⟩, ⟨⟨trivial, ⟨_, _, el91, rfl⟩, nofun, nofun, trivial⟩, ⟨.nil, ⟨⟨⟨fl93_0, ⟨fl93_1, trivial⟩⟩, ⟨_, _, el93, rfl⟩, nofun, nofun, trivial⟩, ⟨.nil, ⟨⟨trivial, ⟨_, _, el95, rfl⟩, nofun, nofun, trivial⟩, trivial⟩⟩⟩⟩⟩⟩⟩⟩⟩⟩⟩⟩,
  ⟨⟨.nil, ⟨.nil, ⟨.nil, ⟨.nil, ⟨.nil, ⟨.nil, ⟨.nil, ⟨⟨⟨fl103_0, trivial⟩, ⟨_, _, el103, rfl⟩, nofun, nofun, trivial⟩, ⟨.nil, ⟨.nil, ⟨.nil, ⟨.nil, trivial⟩⟩⟩⟩⟩⟩⟩⟩⟩⟩⟩⟩,
  ⟨⟨.nil, ⟨.nil, ⟨.nil, ⟨.nil, ⟨.nil, ⟨.nil, ⟨.nil, ⟨.nil, ⟨.nil, ⟨.nil, ⟨.nil, ⟨.nil, trivial⟩⟩⟩⟩⟩⟩⟩⟩⟩⟩⟩⟩,
  ⟨⟨.nil, ⟨.nil, ⟨.nil, ⟨.nil, ⟨.nil, ⟨.nil, ⟨.nil, ⟨.nil, ⟨.nil, ⟨.nil, ⟨.nil, ⟨⟨⟨fl131_0, ⟨fl131_1, trivial⟩⟩, ⟨_, _, el131, rfl⟩, nofun, nofun, of131⟩, trivial⟩⟩⟩⟩⟩⟩⟩⟩⟩⟩⟩⟩,
  ⟨⟨.nil, ⟨.nil, ⟨⟨trivial, ⟨_, _, el134, rfl⟩, nofun, nofun, trivial⟩, ⟨.nil, ⟨.nil, ⟨.nil, ⟨.nil, ⟨.nil, ⟨.nil, ⟨.nil, ⟨.nil, ⟨.nil, trivial⟩⟩⟩⟩⟩⟩⟩⟩⟩⟩⟩⟩,
  ⟨⟨.nil, ⟨.nil, ⟨.nil, ⟨.nil, ⟨.nil, ⟨.nil, ⟨.nil, ⟨.nil, ⟨.nil, ⟨.nil, ⟨.nil, ⟨.nil, trivial⟩⟩⟩⟩⟩⟩⟩⟩⟩⟩⟩⟩,
  ⟨⟨.nil, ⟨.nil, ⟨.nil, ⟨.nil, ⟨.nil, ⟨.nil, ⟨.nil, ⟨.nil, ⟨.nil, ⟨.nil, ⟨.nil, ⟨.nil, trivial⟩⟩⟩⟩⟩⟩⟩⟩⟩⟩⟩⟩,
  ⟨⟨.nil, ⟨⟨⟨fl169_0, ⟨fl169_1, ⟨fl169_2, trivial⟩⟩⟩, ⟨_, _, el169, rfl⟩, nofun, nofun, trivial⟩, ⟨.nil, ⟨.nil, ⟨.nil, ⟨.nil, ⟨.nil, ⟨.nil, ⟨.nil, ⟨.nil, ⟨.nil, ⟨⟨trivial, ⟨_, _, el179, rfl⟩, nofun, nofun, trivial⟩, trivial⟩⟩⟩⟩⟩⟩⟩⟩⟩⟩⟩⟩,
  ⟨⟨⟨trivial, ⟨_, _, el180, rfl⟩, nofun, nofun, trivial⟩, ⟨.nil, ⟨.nil, ⟨.nil, ⟨.nil, ⟨.nil, ⟨.nil, ⟨.nil, ⟨.nil, ⟨.nil, ⟨.nil, ⟨.nil, trivial⟩⟩⟩⟩⟩⟩⟩⟩⟩⟩⟩⟩,
  ⟨⟨.nil, ⟨.nil, ⟨.nil, ⟨.nil, ⟨⟨trivial, ⟨_, _, el196, rfl⟩, nofun, nofun, trivial⟩, ⟨.nil, ⟨.nil, ⟨.nil, ⟨.nil, ⟨⟨trivial, ⟨_, _, el201, rfl⟩, nofun, nofun, trivial⟩, ⟨.nil, ⟨⟨trivial, ⟨_, _, el203, rfl⟩, nofun, nofun, trivial⟩, trivial⟩⟩⟩⟩⟩⟩⟩⟩⟩⟩⟩⟩,
  ⟨⟨.nil, ⟨.nil, ⟨.nil, ⟨⟨⟨fl207_0, ⟨fl207_1, trivial⟩⟩, ⟨_, _, el207, rfl⟩, nofun, nofun, of207⟩, ⟨⟨trivial, ⟨_, _, el208, rfl⟩, nofun, nofun, trivial⟩, ⟨.nil, ⟨.nil, ⟨.nil, ⟨.nil, ⟨.nil, ⟨⟨trivial, ⟨_, _, el214, rfl⟩, nofun, nofun, of214⟩, ⟨.nil, trivial⟩⟩⟩⟩⟩⟩⟩⟩⟩⟩⟩⟩,
  ⟨⟨.nil, ⟨.nil, ⟨.nil, ⟨.nil, ⟨.nil, ⟨.nil, ⟨.nil, ⟨.nil, ⟨.nil, ⟨⟨trivial, ⟨_, _, el225, rfl⟩, nofun, nofun, of225⟩, ⟨⟨trivial, trivial, fun _ => ⟨_, Tryz.underlying226⟩, nofun, trivial⟩, ⟨.nil, trivial⟩⟩⟩⟩⟩⟩⟩⟩⟩⟩⟩⟩,
  ⟨⟨.nil, ⟨⟨trivial, ⟨_, _, el229, rfl⟩, nofun, nofun, trivial⟩, ⟨⟨trivial, ⟨_, _, el230, rfl⟩, nofun, nofun, trivial⟩, ⟨⟨trivial, trivial, fun _ => ⟨_, Tryz.underlying231⟩, nofun, trivial⟩, ⟨.nil, ⟨.nil, ⟨.nil, ⟨.nil, ⟨.nil, ⟨.nil, ⟨.nil, ⟨.nil, trivial⟩⟩⟩⟩⟩⟩⟩⟩⟩⟩⟩⟩,
  ⟨⟨.nil, ⟨.nil, ⟨.nil, ⟨.nil, ⟨.nil, trivial⟩⟩⟩⟩⟩,
  trivial⟩⟩⟩⟩⟩⟩⟩⟩⟩⟩⟩⟩⟩⟩⟩⟩⟩⟩⟩⟩⟩
instance itab : TabC Tryz.prog (tyGet 12 tyL) := ⟨tab_ok (by decide) tyOK (by kernel_rfl)⟩
instance imx : MxC Tryz.prog := ⟨mixed⟩
instance iel3 : ElC Tryz.prog 3 [.int .i64 0] 8 false := ⟨el3⟩
instance iel4 : ElC Tryz.prog 4 [.bool false] 1 false := ⟨el4⟩
instance iel5 : ElC Tryz.prog 5 [.int .u8 0] 1 false := ⟨el5⟩
instance iel9 : ElC Tryz.prog 9 [S []] 16 false := ⟨el9⟩
instance iel22 : ElC Tryz.prog 22 [.slice none 0 0] 24 false := ⟨el22⟩
instance iel23 : ElC Tryz.prog 23 [.slice none 0 0] 24 false := ⟨el23⟩
instance iel25 : ElC Tryz.prog 25 [.int .i64 0, .slice none 0 0] 32 true := ⟨el25⟩
instance iel27 : ElC Tryz.prog 27 [.int .i64 0, .int .i64 0] 16 true := ⟨el27⟩
instance iel30 : ElC Tryz.prog 30 [.slice none 0 0] 24 false := ⟨el30⟩
instance iel42 : ElC Tryz.prog 42 [.slice none 0 0, .slice none 0 0, .slice none 0 0] 72 true := ⟨el42⟩
instance iel65 : ElC Tryz.prog 65 [.slice none 0 0, .slice none 0 0] 48 true := ⟨el65⟩
instance iel77 : ElC Tryz.prog 77 [.int .i64 0, .slice none 0 0, .bool false, .bool false, .bool false, .bool false, .bool false, .bool false, .bool false, .bool false, .bool false, .bool false, .bool false, .bool false, .bool false, .bool false, .bool false, .bool false, .int .i64 0] 56 true := ⟨el77⟩
instance iel91 : ElC Tryz.prog 91 [.pointer none] 8 false := ⟨el91⟩
instance iel93 : ElC Tryz.prog 93 [.pointer none, .slice none 0 0] 32 true := ⟨el93⟩
instance ifl27_0 : FlC Tryz.prog 27 0 0 := ⟨fl27_0⟩
instance ifl27_1 : FlC Tryz.prog 27 1 1 := ⟨fl27_1⟩
instance ifl42_0 : FlC Tryz.prog 42 0 0 := ⟨fl42_0⟩
instance ifl42_1 : FlC Tryz.prog 42 1 1 := ⟨fl42_1⟩
instance ifl42_2 : FlC Tryz.prog 42 2 2 := ⟨fl42_2⟩
instance ien13 : EnC Tryz.prog 13 := ⟨en13⟩
instance ien16 : EnC Tryz.prog 16 := ⟨en16⟩
instance ien17 : EnC Tryz.prog 17 := ⟨en17⟩
instance ien18 : EnC Tryz.prog 18 := ⟨en18⟩
instance ien19 : EnC Tryz.prog 19 := ⟨en19⟩
instance ien20 : EnC Tryz.prog 20 := ⟨en20⟩
instance ien21 : EnC Tryz.prog 21 := ⟨en21⟩
instance ien35 : EnC Tryz.prog 35 := ⟨en35⟩
instance ien41 : EnC Tryz.prog 41 := ⟨en41⟩
instance ien43 : EnC Tryz.prog 43 := ⟨en43⟩
instance ien44 : EnC Tryz.prog 44 := ⟨en44⟩
instance ien45 : EnC Tryz.prog 45 := ⟨en45⟩
instance ien46 : EnC Tryz.prog 46 := ⟨en46⟩
instance ien47 : EnC Tryz.prog 47 := ⟨en47⟩
instance ien48 : EnC Tryz.prog 48 := ⟨en48⟩
instance ien49 : EnC Tryz.prog 49 := ⟨en49⟩
instance ien50 : EnC Tryz.prog 50 := ⟨en50⟩
instance ien51 : EnC Tryz.prog 51 := ⟨en51⟩
instance ien52 : EnC Tryz.prog 52 := ⟨en52⟩
instance ien53 : EnC Tryz.prog 53 := ⟨en53⟩
instance ien54 : EnC Tryz.prog 54 := ⟨en54⟩
instance ien55 : EnC Tryz.prog 55 := ⟨en55⟩
instance ien56 : EnC Tryz.prog 56 := ⟨en56⟩
instance ien57 : EnC Tryz.prog 57 := ⟨en57⟩
instance ien58 : EnC Tryz.prog 58 := ⟨en58⟩
instance ien61 : EnC Tryz.prog 61 := ⟨en61⟩
instance ien63 : EnC Tryz.prog 63 := ⟨en63⟩
instance ien65 : EnC Tryz.prog 65 := ⟨en65⟩
instance ien67 : EnC Tryz.prog 67 := ⟨en67⟩
instance ien72 : EnC Tryz.prog 72 := ⟨en72⟩
instance ien73 : EnC Tryz.prog 73 := ⟨en73⟩
instance ien76 : EnC Tryz.prog 76 := ⟨en76⟩
instance ien85 : EnC Tryz.prog 85 := ⟨en85⟩
instance ien86 : EnC Tryz.prog 86 := ⟨en86⟩
instance ien88 : EnC Tryz.prog 88 := ⟨en88⟩
instance ien89 : EnC Tryz.prog 89 := ⟨en89⟩
instance ien90 : EnC Tryz.prog 90 := ⟨en90⟩
instance ien91 : EnC Tryz.prog 91 := ⟨en91⟩
instance ien92 : EnC Tryz.prog 92 := ⟨en92⟩
instance ien93 : EnC Tryz.prog 93 := ⟨en93⟩
instance ien95 : EnC Tryz.prog 95 := ⟨en95⟩
instance ien96 : EnC Tryz.prog 96 := ⟨en96⟩
instance ien97 : EnC Tryz.prog 97 := ⟨en97⟩
instance ien98 : EnC Tryz.prog 98 := ⟨en98⟩
instance ien106 : EnC Tryz.prog 106 := ⟨en106⟩
instance ien113 : EnC Tryz.prog 113 := ⟨en113⟩
instance ien114 : EnC Tryz.prog 114 := ⟨en114⟩
instance ien115 : EnC Tryz.prog 115 := ⟨en115⟩
instance ien116 : EnC Tryz.prog 116 := ⟨en116⟩
instance ien123 : EnC Tryz.prog 123 := ⟨en123⟩
instance ien124 : EnC Tryz.prog 124 := ⟨en124⟩
instance ien125 : EnC Tryz.prog 125 := ⟨en125⟩
instance ien126 : EnC Tryz.prog 126 := ⟨en126⟩
instance ien127 : EnC Tryz.prog 127 := ⟨en127⟩
instance ien128 : EnC Tryz.prog 128 := ⟨en128⟩
instance ien129 : EnC Tryz.prog 129 := ⟨en129⟩
instance ien130 : EnC Tryz.prog 130 := ⟨en130⟩
instance ien131 : EnC Tryz.prog 131 := ⟨en131⟩
instance ien132 : EnC Tryz.prog 132 := ⟨en132⟩
instance ien134 : EnC Tryz.prog 134 := ⟨en134⟩
instance ien139 : EnC Tryz.prog 139 := ⟨en139⟩
instance ien146 : EnC Tryz.prog 146 := ⟨en146⟩
instance ien150 : EnC Tryz.prog 150 := ⟨en150⟩
instance ien151 : EnC Tryz.prog 151 := ⟨en151⟩
instance ien152 : EnC Tryz.prog 152 := ⟨en152⟩
instance ien158 : EnC Tryz.prog 158 := ⟨en158⟩
instance ien159 : EnC Tryz.prog 159 := ⟨en159⟩
instance ien160 : EnC Tryz.prog 160 := ⟨en160⟩
instance ien161 : EnC Tryz.prog 161 := ⟨en161⟩
instance ien175 : EnC Tryz.prog 175 := ⟨en175⟩
instance ien176 : EnC Tryz.prog 176 := ⟨en176⟩
instance ien178 : EnC Tryz.prog 178 := ⟨en178⟩
instance ien200 : EnC Tryz.prog 200 := ⟨en200⟩
instance ien201 : EnC Tryz.prog 201 := ⟨en201⟩
instance ien202 : EnC Tryz.prog 202 := ⟨en202⟩
instance ien203 : EnC Tryz.prog 203 := ⟨en203⟩
instance ien218 : EnC Tryz.prog 218 := ⟨en218⟩
instance ienl_encP : EnL encP 2 := ⟨encP_len⟩
instance iun3 : UnC Tryz.prog 3 (.int .i64) := ⟨Tryz.underlying3⟩
instance iun5 : UnC Tryz.prog 5 (.int .u8) := ⟨Tryz.underlying5⟩
instance iun22 : UnC Tryz.prog 22 (.slice 5) := ⟨Tryz.underlying22⟩
instance iun23 : UnC Tryz.prog 23 (.slice 42) := ⟨Tryz.underlying23⟩
instance iun30 : UnC Tryz.prog 30 (.slice 3) := ⟨Tryz.underlying30⟩
instance iun43 : UnC Tryz.prog 43 (.slice 27) := ⟨Tryz.underlying43⟩
instance iun47 : UnC Tryz.prog 47 (.slice 9) := ⟨Tryz.underlying47⟩
end Go.Proofs.YtemejgglbhjodaaGreatDoor
end
section
namespace Go.Proofs.YtemejgglbhjodaaGreatDoor
open Go.Px
theorem pick_fn (gr : Nat) (rA : Option Addr) (rc : Nat) (rl : List UInt8) (rq : Nat) (n : Int) (w : World) (hrA : Rd w rA (rl.map byteV)) (hro : Off rA (rl.map byteV) [some gr]) (hrl : rl.length ≤ 2000) (hM : Mem w w [some gr] [[⟨.slice (bl gr) 1 1, 131, 2, 1, [.slice (rA) ((rl).length) (rc), I (((rq : Nat) : Int))]⟩]]) (hrq : rq ≤ 1000000000) :
    Does Tryz.prog 58 [.pointer (ofs (bl gr) (0)), I (n)] w (fun v w1 => ∃ (k : Int), v = I (k) ∧ (0 ≤ k ∧ (k < n ∨ k = 0)) ∧ Mem w w1 [some gr] [[⟨.slice (bl gr) 1 1, 131, 2, 1, [.slice (rA) ((rl).length) (rc), I (((rq + 1 : Nat) : Int))]⟩]]) := by
  refine Does.n1 Tryz.func58 rfl Tryz.results58 Tryz.ntmps58 rfl ?_
  refine ov 11 [0] (a := kaddN (rq + 1)) (b := ?_)
  refine Sb 2 [] 0 fun w1_8 hM1_8 => ?_
  refine pp 7 [] 17 (fun g17 => ?_) (fun g17 => ?_)
  · refine E1 14 [] (I (0)) ?_
    exact ⟨0, (by first | rfl | exact sl_congr (by first | omega | (simp; done) | (simp; omega)) | (simp; done)), ⟨by decide, .inr rfl⟩, (hM1_8.pk [0])⟩
  · refine cd 8 [0] (fun c24 => ?_) (fun c24 => ?_)
    · refine E1 5 [] (I (0)) ?_
      exact ⟨0, (by first | rfl | exact sl_congr (by first | omega | (simp; done) | (simp; omega)) | (simp; done)), ⟨by decide, .inr rfl⟩, (hM1_8.pk [0])⟩
    · refine ov 7 [0] (s := Vi (((rq : Nat) : Int))) (a := by exact cv (Ru.congr (v := I (((((rq + 1) : Nat) : Int) - 1))) (v' := I (((rq : Nat) : Int))) (Ru.sub rfl rfl (by omega)) (I_congr (by omega))) rfl) (b := ?_)
      refine cd 13 [0] (fun c36 => ?_) (fun c36 => ?_)
      · have hu2 := u8_le (rl[rq])
        have hx6_5 : rq < (rl).length := (by first | omega | (simp; omega))
        refine ov 7 [0] (a := kixM hx6_5 (hrA.atR hM1_8 hro)) (b := ?_)
        refine ov 0 [] (a := kldM hx6_5 (hrA.atR hM1_8 hro)) (b := ?_)
        refine ov 0 [] (a := kcv) (b := ?_)
        refine ov 1 [] (a := krem) (b := ?_)
        refine E1 3 [] (I (((((rl)[rq]'hx6_5).toNat : Int) % n))) ?_
        have hZ := (hM1_8.pk [0])
        exact ⟨_, (by first | rfl | exact sl_congr (by first | omega | (simp; done) | (simp; omega)) | (simp; done)), ⟨Int.emod_nonneg _ (by omega), .inl (Int.emod_lt_of_pos _ (by omega))⟩, hZ⟩
      · have hq0 := Nat.mod_lt rq (show 0 < rl.length by omega)
        have hq1 := Nat.mod_lt (rq * 7 + 3) (show 0 < rl.length by omega)
        have hu0 := u8_le (rl[rq % rl.length])
        have hu1 := u8_le (rl[(rq * 7 + 3) % rl.length])
        obtain ⟨dv, hdq, hdv⟩ : ∃ dv : Nat, dv = rq / rl.length ∧ dv ≤ rq := ⟨_, rfl, Nat.div_le_self _ _⟩
        refine dr 2 [] ?_
        refine qv 10 [0, 0] (a := by exact fun _ hw2 => kremN (rq % (rl).length)) (b := ?_)
        have hx7_11 : (rq % (rl).length) < (rl).length := (by first | omega | (simp; omega))
        refine qv 0 [] (a := by exact fun _ hw2 => kixM hx7_11 (hrA.atR hw2 hro)) (b := ?_)
        refine qv 0 [] (a := by exact fun _ hw2 => kldM hx7_11 (hrA.atR hw2 hro)) (b := ?_)
        refine qv 0 [] (a := by exact fun _ hw2 => kcv) (b := ?_)
        refine qv 0 [] (a := by exact fun _ hw2 => kmulN (((rl)[(rq % (rl).length)]'hx7_11).toNat * 131)) (b := ?_)
        refine qv 5 [0] (a := by exact fun _ hw2 => kmulN (rq * 7)) (b := ?_)
        refine qv 0 [] (a := by exact fun _ hw2 => kaddN ((rq * 7) + 3)) (b := ?_)
        refine qv 5 [0] (a := by exact fun _ hw2 => kremN (((rq * 7) + 3) % (rl).length)) (b := ?_)
        have hx7_28 : (((rq * 7) + 3) % (rl).length) < (rl).length := (by first | omega | (simp; omega))
        refine qv 0 [] (a := by exact fun _ hw2 => kixM hx7_28 (hrA.atR hw2 hro)) (b := ?_)
        refine qv 0 [] (a := by exact fun _ hw2 => kldM hx7_28 (hrA.atR hw2 hro)) (b := ?_)
        refine qv 0 [] (a := by exact fun _ hw2 => kcv) (b := ?_)
        refine qv 0 [] (a := by exact fun _ hw2 => kmulN (((rl)[(((rq * 7) + 3) % (rl).length)]'hx7_28).toNat * 1117)) (b := ?_)
        refine qv 0 [] (a := by exact fun _ hw2 => kaddN ((((rl)[(rq % (rl).length)]'hx7_11).toNat * 131) + (((rl)[(((rq * 7) + 3) % (rl).length)]'hx7_28).toNat * 1117))) (b := ?_)
        refine qv 1 [] (a := by exact fun _ hw2 => kmulN (rq * 29)) (b := ?_)
        refine qv 0 [] (a := by exact fun _ hw2 => kaddN (((((rl)[(rq % (rl).length)]'hx7_11).toNat * 131) + (((rl)[(((rq * 7) + 3) % (rl).length)]'hx7_28).toNat * 1117)) + (rq * 29))) (b := ?_)
        refine qv 6 [0] (s := Vi (((dv : Nat) : Int))) (a := by exact fun w2 hw2 => cv (Ru.congr (v := I ((((rq : Nat) : Int) / (((rl).length : Nat) : Int)))) (v' := I (((dv : Nat) : Int))) (Ru.quo rfl rfl (by omega)) (I_congr (by rw [hdq]; simp))) rfl) (b := ?_)
        refine qv 0 [] (a := by exact fun _ hw2 => kmulN (dv * 53)) (b := ?_)
        refine qv 0 [] (a := by exact fun _ hw2 => kaddN ((((((rl)[(rq % (rl).length)]'hx7_11).toNat * 131) + (((rl)[(((rq * 7) + 3) % (rl).length)]'hx7_28).toNat * 1117)) + (rq * 29)) + (dv * 53))) (b := ?_)
        refine qn 1 [] fun w7d hM7d => ?_
        refine ov 4 [] (a := kquoN (((((((rl)[(rq % (rl).length)]'hx7_11).toNat * 131) + (((rl)[(((rq * 7) + 3) % (rl).length)]'hx7_28).toNat * 1117)) + (rq * 29)) + (dv * 53)) / 64)) (b := ?_)
        refine ov 0 [] (s := Vi ((((((((((((rl)[(rq % (rl).length)]'hx7_11).toNat * 131) + (((rl)[(((rq * 7) + 3) % (rl).length)]'hx7_28).toNat * 1117)) + (rq * 29)) + (dv * 53)) : Nat) : Int)).toNat ^^^ ((((((((((rl)[(rq % (rl).length)]'hx7_11).toNat * 131) + (((rl)[(((rq * 7) + 3) % (rl).length)]'hx7_28).toNat * 1117)) + (rq * 29)) + (dv * 53)) / 64) : Nat) : Int)).toNat : Nat) : Int))) (a := by exact cv (Ru.xor rfl rfl (by omega) (by omega)) rfl) (b := ?_)
        refine ov 6 [] (a := krem) (b := ?_)
        refine E1 3 [] (I (((((((((((((rl)[(rq % (rl).length)]'hx7_11).toNat * 131) + (((rl)[(((rq * 7) + 3) % (rl).length)]'hx7_28).toNat * 1117)) + (rq * 29)) + (dv * 53)) : Nat) : Int)).toNat ^^^ ((((((((((rl)[(rq % (rl).length)]'hx7_11).toNat * 131) + (((rl)[(((rq * 7) + 3) % (rl).length)]'hx7_28).toNat * 1117)) + (rq * 29)) + (dv * 53)) / 64) : Nat) : Int)).toNat : Nat) : Int) % n))) ?_
        have hZ := (hM7d.pk [0])
        exact ⟨_, (by first | rfl | exact sl_congr (by first | omega | (simp; done) | (simp; omega)) | (simp; done)), ⟨Int.emod_nonneg _ (by omega), .inl (Int.emod_lt_of_pos _ (by omega))⟩, hZ⟩
theorem one_fn (gr : Nat) (rA : Option Addr) (rc : Nat) (rl : List UInt8) (rq : Nat) (A : Option Addr) (c : Nat) (l : List Int) (w : World) (hrA : Rd w rA (rl.map byteV)) (hro : Off rA (rl.map byteV) [some gr]) (hrl : rl.length ≤ 2000) (hA : Rd w A ((l).map I)) (hoA : Off A ((l).map I) [some gr]) (hM : Mem w w [some gr] [[⟨.slice (bl gr) 1 1, 131, 2, 1, [.slice (rA) ((rl).length) (rc), I (((rq : Nat) : Int))]⟩]]) (hrq : rq ≤ 999999990) (hl : 0 < l.length) (hm : l.length ≤ 1000) :
    Does Tryz.prog 56 [.pointer (ofs (bl gr) (0)), .slice (A) ((l).length) (c)] w (fun v w1 => ∃ (k : Int), v = I (k) ∧ (k ∈ l) ∧ Mem w w1 [some gr] [[⟨.slice (bl gr) 1 1, 131, 2, 1, [.slice (rA) ((rl).length) (rc), I (((rq + 1 : Nat) : Int))]⟩]]) := by
  refine Does.n1 Tryz.func56 rfl Tryz.results56 Tryz.ntmps56 rfl ?_
  refine cq 10 [] (b := pick_fn gr rA rc rl rq _ w (hrA.atR hM hro) hro hrl (hM.fp [0] rfl rfl) q0) (c := ?_)
  rintro _ w1_4 ⟨k1_4, rfl, hk1_4, hR1_4⟩
  have hM1_4 := hM.cl 1 hR1_4
  have hkk := hk1_4
  have hx1_5 : (k1_4).toNat < (l).length := (by first | omega | (simp; omega))
  refine ov 0 [] (a := kixM hx1_5 (hA.atR hM1_4 hoA)) (b := ?_)
  refine ov 0 [] (a := kldM hx1_5 (hA.atR hM1_4 hoA)) (b := ?_)
  refine E1 3 [] (I ((l)[(k1_4).toNat]'hx1_5)) ?_
  have hZ := (hM1_4.pk [0])
  exact ⟨_, (by first | rfl | exact sl_congr (by first | omega | (simp; done) | (simp; omega)) | (simp; done)), List.getElem_mem _, hZ⟩
theorem newReader_fn (A : Option Addr) (c : Nat) (l : List UInt8) (w : World) (hA : Rd w A ((l).map byteV)) (hl : l.length ≤ 1048576) (hc : l.length ≤ c) :
    Does Tryz.prog 55 [.slice (A) ((l).length) (c)] w (fun v w1 => ∃ (gr : Nat) (l1 : List UInt8), v = .pointer (ofs (bl gr) (0)) ∧ (l1 = l ∨ l1 = l.take 2000) ∧ (l1.length ≤ 2000) ∧ Mem w w1 [] [[⟨.slice (bl gr) 1 1, 131, 2, 1, [.slice (A) ((l1).length) (c), I (((0 : Nat) : Int))]⟩]]) := by
  have hM : Mem w w [] [] := Mem.refl
  refine Does.n1 Tryz.func55 rfl Tryz.results55 Tryz.ntmps55 rfl ?_
  refine cd 11 [] (fun c5 => ?_) (fun c5 => ?_)
  · refine ov 2 [] (s := Vl (A) ((l.take 2000).length) (c)) (a := by exact cv (Ru.congr (v := .slice (A) (2000) (c)) (v' := .slice (A) ((l.take 2000).length) (c)) (Ru.lsliceTo (h := 2000) Tryz.underlying22 el5 rfl rfl (by omega) (by omega)) (sl_congr (by simp; omega))) rfl) (b := ?_)
    refine Bx 6 [] fun w3_2 b3_2 hb3_2 hM3_2 => ?_
    refine E1 3 [] (.pointer (ofs (bl b3_2) (0))) ?_
    exact ⟨b3_2, l.take 2000, (by first | rfl | exact sl_congr (by first | omega | (simp; done) | (simp; omega)) | (simp; done)), (by first | exact .inl rfl | exact .inr rfl), (by simp; omega), (hM3_2.pk [0])⟩
  · refine Bx 5 [] fun w3_2 b3_2 hb3_2 hM3_2 => ?_
    refine E1 3 [] (.pointer (ofs (bl b3_2) (0))) ?_
    exact ⟨b3_2, l, (by first | rfl | exact sl_congr (by first | omega | (simp; done) | (simp; omega)) | (simp; done)), (.inl rfl), (by omega), (hM3_2.pk [0])⟩
theorem inRange_fn (a : Int) (b : Int) (c : Int) (w : World) :
    Does Tryz.prog 47 [I (a), I (b), I (c)] w (fun v w1 => v = .bool (decide (b ≤ a) && decide (a ≤ c)) ∧ Mem w w1 [] []) := by
  have hM : Mem w w [] [] := Mem.refl
  refine Does.n1 Tryz.func47 rfl Tryz.results47 Tryz.ntmps47 rfl ?_
  refine pp 10 [] 10 (fun g10 => ?_) (fun g10 => ?_)
  · refine E1 7 [] (.bool (decide (a ≤ c))) ?_
    exact ⟨(by simp [g10]), (Mem.none hM)⟩
  · refine E1 7 [] (.bool (false)) ?_
    exact ⟨(by simp [g10]), (Mem.none hM)⟩
theorem isKey_fn (k : Int) (w : World) :
    Does Tryz.prog 72 [I (k)] w (fun v w1 => v = .bool (isKeyB k) ∧ Mem w w1 [] []) := by
  have hM : Mem w w [] [] := Mem.refl
  refine Does.n1 Tryz.func72 rfl Tryz.results72 Tryz.ntmps72 rfl ?_
  refine pp 9 [] 5 (fun g5 => ?_) (fun g5 => ?_)
  · refine E1 6 [] (.bool (decide (k ≤ 99))) ?_
    exact ⟨(by simp [isKeyB, g5]), (Mem.none hM)⟩
  · refine E1 6 [] (.bool (false)) ?_
    exact ⟨(by simp [isKeyB, g5]), (Mem.none hM)⟩
theorem isValue_fn (k : Int) (w : World) :
    Does Tryz.prog 73 [I (k)] w (fun v w1 => v = .bool (isValB k) ∧ Mem w w1 [] []) := by
  have hM : Mem w w [] [] := Mem.refl
  refine Does.n1 Tryz.func73 rfl Tryz.results73 Tryz.ntmps73 rfl ?_
  refine pp 9 [] 5 (fun g5 => ?_) (fun g5 => ?_)
  · refine E1 6 [] (.bool (decide (k ≤ 1000))) ?_
    exact ⟨(by simp [isValB, g5]), (Mem.none hM)⟩
  · refine E1 6 [] (.bool (false)) ?_
    exact ⟨(by simp [isValB, g5]), (Mem.none hM)⟩
theorem ValidKeys_fn (A : Option Addr) (c : Nat) (l : List Int) (w : World) (hA : Rd w A ((l).map I)) (hl : l.length ≤ 1048576) :
    Does Tryz.prog 97 [.slice (A) ((l).length) (c)] w (fun v w1 => v = .bool (validK l) ∧ Mem w w1 [] []) := by
  have hM : Mem w w [] [] := Mem.refl
  refine Does.n1 Tryz.func97 rfl Tryz.results97 Tryz.ntmps97 rfl ?_
  refine lp1 12 [] (fun (k : Nat) => ([(7, Vi (((k : Nat) : Int)))] : List (Nat × SV))) (fun (k : Nat) => (k ≤ l.length) ∧ ((l.take k).all isKeyB = true) ∧ (asc (l.take k) = true)) (fun (k : Nat) => []) (fun (k : Nat) => l.length - k) [0, 5, 6] [] [] 0 (fun k σ w_l2 hI hM_l2 => ?_) (h0 := ⟨(Nat.zero_le _), (by (try dsimp only); simp), (by (try dsimp only); simp [asc])⟩)
  obtain ⟨hi0_l2, hi1_l2, hi2_l2⟩ := hI
  refine cd 5 [] (fun c8 => ?_) (fun c8 => ?_)
  · have hx3_1 : k < (l).length := (by first | omega | (simp; omega))
    refine ov 6 [] (a := kixM hx3_1 (hA.at hM_l2)) (b := ?_)
    refine ov 0 [] (a := kldM hx3_1 (hA.at hM_l2)) (b := ?_)
    refine cp 7 [] (b := isKey_fn _ w_l2 ) (c := fun w4_1 hM4_1 => ?_)
    refine cn 2 [] (fun c14 => ?_) (fun c14 => ?_)
    · refine E1 5 [] (.bool (false)) ?_
      exact ⟨(by rw [validK_no1 hx3_1 c14]), (Mem.none hM4_1)⟩
    · refine pp 6 [] 17 (fun g17 => ?_) (fun g17 => ?_)
      · refine ov 2 [] (a := ksub) (b := ?_)
        have hx6_6 : k - 1 < (l).length := (by first | omega | (simp; omega))
        refine ov 0 [] (a := kixM hx6_6 (hA.at hM4_1)) (b := ?_)
        refine ov 0 [] (a := kldM hx6_6 (hA.at hM4_1)) (b := ?_)
        refine cd 4 [] (fun c25 => ?_) (fun c25 => ?_)
        · refine E1 5 [] (.bool (false)) ?_
          exact ⟨(by rw [validK_no2 (by omega) hx3_1 (by omega)]), (Mem.none hM4_1)⟩
        · refine ov 2 [] (a := kaddN (k + 1)) (b := ?_)
          exact le1 2 [] (k + 1) [] (h := by exact ⟨(by (try dsimp only); omega), (all_step hi1_l2 hx3_1 c14), (asc_take hi2_l2 hx3_1 (fun h0 => by omega))⟩)
      · refine ov 12 [] (a := kaddN (k + 1)) (b := ?_)
        exact le1 2 [] (k + 1) [] (h := by exact ⟨(by (try dsimp only); omega), (all_step hi1_l2 hx3_1 c14), (asc_take hi2_l2 hx3_1 (fun h0 => by omega))⟩)
  · refine E1 6 [] (.bool (true)) ?_
    exact ⟨(by rw [validK_yes hi1_l2 hi2_l2 (by omega)]), (Mem.none hM_l2)⟩
theorem allIn_fn (A : Option Addr) (c : Nat) (l : List Int) (lo : Int) (hi : Int) (w : World) (hA : Rd w A ((l).map I)) (hl : l.length ≤ 1048576) :
    Does Tryz.prog 134 [.slice (A) ((l).length) (c), I (lo), I (hi)] w (fun v w1 => v = .bool (l.all (fun a => decide (lo ≤ a) && decide (a ≤ hi))) ∧ Mem w w1 [] []) := by
  have hM : Mem w w [] [] := Mem.refl
  refine Does.n1 Tryz.func134 rfl Tryz.results134 Tryz.ntmps134 rfl ?_
  refine lp1 10 [] (fun (k : Nat) => ([(7, Vi (((k : Nat) : Int)))] : List (Nat × SV))) (fun (k : Nat) => (k ≤ l.length) ∧ ((l.take k).all (fun a => decide (lo ≤ a) && decide (a ≤ hi)) = true)) (fun (k : Nat) => []) (fun (k : Nat) => l.length - k) [0, 1, 2] [] [] 0 (fun k σ w_l2 hI hM_l2 => ?_) (h0 := ⟨(Nat.zero_le _), (by (try dsimp only); simp)⟩)
  obtain ⟨hi0_l2, hi1_l2⟩ := hI
  refine cd 8 [] (fun c11 => ?_) (fun c11 => ?_)
  · have hx4_2 : k < (l).length := (by first | omega | (simp; omega))
    refine ov 7 [] (a := kixM hx4_2 (hA.at hM_l2)) (b := ?_)
    refine ov 0 [] (a := kldM hx4_2 (hA.at hM_l2)) (b := ?_)
    refine cp 2 [] (b := inRange_fn _ _ _ w_l2 ) (c := fun w4_6 hM4_6 => ?_)
    refine cn 2 [] (fun c21 => ?_) (fun c21 => ?_)
    · refine E1 5 [] (.bool (false)) ?_
      exact ⟨(by rw [all_fail (p := fun a => decide (lo ≤ a) && decide (a ≤ hi)) hx4_2 c21]), (Mem.none hM4_6)⟩
    · refine ov 3 [] (a := kaddN (k + 1)) (b := ?_)
      exact le1 2 [] (k + 1) [] (h := by exact ⟨(by (try dsimp only); omega), (all_step hi1_l2 hx4_2 c21)⟩)
  · refine E1 6 [] (.bool (true)) ?_
    exact ⟨(by rw [all_end hi1_l2 (by omega)]), (Mem.none hM_l2)⟩
theorem validKeys_fn (A : Option Addr) (c : Nat) (l : List Int) (w : World) (hA : Rd w A ((l).map I)) (hl : l.length ≤ 1048576) :
    Does Tryz.prog 123 [.slice (A) ((l).length) (c)] w (fun v w1 => v = .bool (validK l) ∧ Mem w w1 [] []) := by
  have hM : Mem w w [] [] := Mem.refl
  refine Does.n1 Tryz.func123 rfl Tryz.results123 Tryz.ntmps123 rfl ?_
  refine lp1 10 [] (fun (k : Nat) => ([(3, Vi (((k : Nat) : Int)))] : List (Nat × SV))) (fun (k : Nat) => (1 ≤ k ∧ k ≤ l.length + 1) ∧ (asc (l.take k) = true)) (fun (k : Nat) => []) (fun (k : Nat) => l.length + 1 - k) [0] [] [] 1 (fun k σ w_l2 hI hM_l2 => ?_) (h0 := ⟨(by (try dsimp only); omega), (by (try dsimp only); cases l with | nil => rfl | cons a l => simp [asc])⟩)
  obtain ⟨hi0_l2, hi1_l2⟩ := hI
  refine cd 8 [] (fun c7 => ?_) (fun c7 => ?_)
  · refine dr 4 [] ?_
    have hx4_2 : k < (l).length := (by first | omega | (simp; omega))
    refine qv 2 [] (a := by exact fun _ hw2 => kixM hx4_2 (hA.at hw2)) (b := ?_)
    refine qv 0 [] (a := by exact fun _ hw2 => kldM hx4_2 (hA.at hw2)) (b := ?_)
    refine qv 2 [] (a := by exact fun _ hw2 => ksub) (b := ?_)
    have hx4_7 : k - 1 < (l).length := (by first | omega | (simp; omega))
    refine qv 0 [] (a := by exact fun _ hw2 => kixM hx4_7 (hA.at hw2)) (b := ?_)
    refine qv 0 [] (a := by exact fun _ hw2 => kldM hx4_7 (hA.at hw2)) (b := ?_)
    refine qn 1 [] fun w4d hM4d => ?_
    refine cd 0 [] (fun c19 => ?_) (fun c19 => ?_)
    · refine E1 5 [] (.bool (false)) ?_
      exact ⟨(by rw [validK_no2 (by omega) hx4_2 (by omega)]), (Mem.none hM4d)⟩
    · refine ov 3 [] (a := kaddN (k + 1)) (b := ?_)
      exact le1 2 [] (k + 1) [] (h := by exact ⟨(by (try dsimp only); omega), (asc_take hi1_l2 hx4_2 (fun h0 => by omega))⟩)
  · refine cp 4 [] (b := allIn_fn _ _ _ _ _ w_l2 (hA.at hM_l2) q0) (c := fun w6_1 hM6_1 => ?_)
    refine E1 3 [] (.bool (l.all (fun a => decide (0 ≤ a) && decide (a ≤ 99)))) ?_
    exact ⟨(by rw [validK, show asc l = true from by rwa [take_all (by omega)] at hi1_l2, Bool.and_true]; rfl), (Mem.none hM6_1)⟩
theorem isIn_fn (A : Option Addr) (c : Nat) (l : List Int) (n : Int) (w : World) (hA : Rd w A ((l).map I)) (hl : l.length ≤ 1048576) :
    Does Tryz.prog 92 [.slice (A) ((l).length) (c), I (n)] w (fun v w1 => v = .bool (decide (n ∈ l)) ∧ Mem w w1 [] []) := by
  have hM : Mem w w [] [] := Mem.refl
  refine Does.n1 Tryz.func92 rfl Tryz.results92 Tryz.ntmps92 rfl ?_
  refine lp1 10 [] (fun (k : Nat) => ([(5, Vi (((k : Nat) : Int)))] : List (Nat × SV))) (fun (k : Nat) => (k ≤ l.length) ∧ (∀ x ∈ l.take k, x ≠ n)) (fun (k : Nat) => []) (fun (k : Nat) => l.length - k) [0, 1] [] [] 0 (fun k σ w_l2 hI hM_l2 => ?_) (h0 := ⟨(Nat.zero_le _), (by (try dsimp only); simp)⟩)
  obtain ⟨hi0_l2, hi1_l2⟩ := hI
  refine cd 8 [] (fun c9 => ?_) (fun c9 => ?_)
  · have hx4_2 : k < (l).length := (by first | omega | (simp; omega))
    refine ov 7 [] (a := kixM hx4_2 (hA.at hM_l2)) (b := ?_)
    refine ov 0 [] (a := kldM hx4_2 (hA.at hM_l2)) (b := ?_)
    refine cd 3 [] (fun c17 => ?_) (fun c17 => ?_)
    · refine E1 5 [] (.bool (true)) ?_
      exact ⟨(by rw [decide_eq_true (by rw [← c17]; exact List.getElem_mem hx4_2)]), (Mem.none hM_l2)⟩
    · refine ov 3 [] (a := kaddN (k + 1)) (b := ?_)
      exact le1 2 [] (k + 1) [] (h := by exact ⟨(by (try dsimp only); omega), (mem_step hi1_l2 hx4_2 c17)⟩)
  · refine E1 6 [] (.bool (false)) ?_
    exact ⟨(by rw [mem_end hi1_l2 (by omega)]), (Mem.none hM_l2)⟩
theorem sbelow_fn (A : Option Addr) (c : Nat) (l : List Int) (k : Int) (w : World) (hA : Rd w A ((l).map I)) (hl : l.length ≤ 1048576) :
    Does Tryz.prog 160 [.slice (A) ((l).length) (c), I (k)] w (fun v w1 => v = I ((below l k : Int)) ∧ Mem w w1 [] []) := by
  have hM : Mem w w [] [] := Mem.refl
  refine Does.n1 Tryz.func160 rfl Tryz.results160 Tryz.ntmps160 rfl ?_
  refine lp1 10 [] (fun (n : Nat) => ([(5, Vi (((n : Nat) : Int)))] : List (Nat × SV))) (fun (n : Nat) => (n ≤ below l k)) (fun (n : Nat) => []) (fun (n : Nat) => l.length - n) [0, 1] [] [] 0 (fun n σ w_l2 hI hM_l2 => ?_) (h0 := (Nat.zero_le _))
  have hi0_l2 := hI
  refine pp 8 [] 10 (fun g10 => ?_) (fun g10 => ?_)
  · have hx2_7 : n < (l).length := (by first | omega | (simp; omega))
    refine ov 2 [] (a := kixM hx2_7 (hA.at hM_l2)) (b := ?_)
    refine ov 0 [] (a := kldM hx2_7 (hA.at hM_l2)) (b := ?_)
    refine cd 4 [] (fun c17 => ?_) (fun c17 => ?_)
    · refine ov 4 [] (a := kaddN (n + 1)) (b := ?_)
      exact le1 2 [] (n + 1) [] (h := by exact (below_step hi0_l2 hx2_7 c17))
    · refine E1 7 [] (I (((n : Nat) : Int))) ?_
      exact ⟨(I_congr (by rw [below_end hi0_l2 (by first | exact .inl (by omega) | exact .inr ⟨hx2_7, by omega⟩)])), (Mem.none hM_l2)⟩
  · refine E1 16 [] (I (((n : Nat) : Int))) ?_
    exact ⟨(I_congr (by rw [below_end hi0_l2 (by first | exact .inl (by omega) | exact .inr ⟨hx2_7, by omega⟩)])), (Mem.none hM_l2)⟩
theorem supTo_fn (A : Option Addr) (c : Nat) (l : List Int) (k : Int) (w : World) (hA : Rd w A ((l).map I)) (hl : l.length ≤ 1048576) :
    Does Tryz.prog 159 [.slice (A) ((l).length) (c), I (k)] w (fun v w1 => v = I ((upTo l k : Int)) ∧ Mem w w1 [] []) := by
  have hM : Mem w w [] [] := Mem.refl
  refine Does.n1 Tryz.func159 rfl Tryz.results159 Tryz.ntmps159 rfl ?_
  refine lp1 10 [] (fun (n : Nat) => ([(5, Vi (((n : Nat) : Int)))] : List (Nat × SV))) (fun (n : Nat) => (n ≤ upTo l k)) (fun (n : Nat) => []) (fun (n : Nat) => l.length - n) [0, 1] [] [] 0 (fun n σ w_l2 hI hM_l2 => ?_) (h0 := (Nat.zero_le _))
  have hi0_l2 := hI
  refine pp 8 [] 10 (fun g10 => ?_) (fun g10 => ?_)
  · have hx2_7 : n < (l).length := (by first | omega | (simp; omega))
    refine ov 2 [] (a := kixM hx2_7 (hA.at hM_l2)) (b := ?_)
    refine ov 0 [] (a := kldM hx2_7 (hA.at hM_l2)) (b := ?_)
    refine cd 4 [] (fun c17 => ?_) (fun c17 => ?_)
    · refine ov 4 [] (a := kaddN (n + 1)) (b := ?_)
      exact le1 2 [] (n + 1) [] (h := by exact (upTo_step hi0_l2 hx2_7 c17))
    · refine E1 7 [] (I (((n : Nat) : Int))) ?_
      exact ⟨(I_congr (by rw [upTo_end hi0_l2 (by first | exact .inl (by omega) | exact .inr ⟨hx2_7, by omega⟩)])), (Mem.none hM_l2)⟩
  · refine E1 16 [] (I (((n : Nat) : Int))) ?_
    exact ⟨(I_congr (by rw [upTo_end hi0_l2 (by first | exact .inl (by omega) | exact .inr ⟨hx2_7, by omega⟩)])), (Mem.none hM_l2)⟩
theorem skeysOf_fn (A : Option Addr) (c : Nat) (l : List PairT) (w : World) (hA : Rd w A ((l).flatMap encP)) (hl : l.length ≤ 1048576) :
    Does Tryz.prog 106 [.slice (A) ((l).length) (c)] w (fun v w1 => ∃ (A1 : Option Addr) (c1 : Nat), v = .slice (A1) ((keysP l).length) (c1) ∧ Mem w w1 [] [[⟨.slice (A1) ((keysP l).length) (c1), 3, 1, ((keysP l).length), (keysP l).map I⟩]]) := by
  have hM : Mem w w [] [] := Mem.refl
  refine Does.n1 Tryz.func106 rfl Tryz.results106 Tryz.ntmps106 rfl ?_
  refine Lt 6 [] (([]).map I) (fun w1_0 b1_0 hb1_0 hM1_0 => ?_)
  have hq1 : ([] : List Int) = keysP (l.take 0) := (by first | rfl | simp | (simp; omega))
  have hMn1 := hM1_0.reM 0 hq1 (f := I)
  refine lp3 8 [] (fun (k : Nat) (A2 : Option Addr) (c2 : Nat) => ([(3, Vl (A2) ((keysP (l.take k)).length) (c2)), (4, Vi (((k : Nat) : Int)))] : List (Nat × SV))) (fun (k : Nat) (A2 : Option Addr) (c2 : Nat) => (k ≤ l.length)) (fun (k : Nat) (A2 : Option Addr) (c2 : Nat) => [[⟨.slice (A2) ((keysP (l.take k)).length) (c2), 3, 1, ((keysP (l.take k)).length), (keysP (l.take k)).map I⟩]]) (fun (k : Nat) (A2 : Option Addr) (c2 : Nat) => l.length - k) [0] [0] [] 0 (bl b1_0) 0 (fun k A2 c2 σ w_l3 hI hM_l3 => ?_) (h0 := (Nat.zero_le _))
  have hi0_l3 := hI
  have hcl0_l3 := (hM_l3.cap 0 rfl).1
  refine cd 8 [] (fun c9 => ?_) (fun c9 => ?_)
  · have hx5_3 : k < (l).length := (by first | omega | (simp; omega))
    refine ov 7 [] (a := kixF hx5_3 (hA.at hM_l3)) (b := ?_)
    refine ov 0 [] (a := kflF hx5_3 (hA.at hM_l3)) (b := ?_)
    refine ov 0 [] (a := kldF hx5_3 (hA.at hM_l3)) (b := ?_)
    refine Lt 0 [] (([((l)[k]'hx5_3).key]).map I) (fun w5_6 b5_6 hb5_6 hM5_6 => ?_)
    refine aM 0 [] 1 (hM5_6.rd 0 rfl) (fun w5_7 A5_7 c5_7 hc5_7 hM5_7 => ?_)
    refine ov 4 [] (a := kaddN (k + 1)) (b := ?_)
    have hq2 : (keysP (l.take k) ++ [((l)[k]'hx5_3).key] : List Int) = keysP (l.take (k + 1)) := (map_snoc hx5_3)
    have hMn2 := hM5_7.reM 1 hq2
    exact le3 2 [] (k + 1) A5_7 c5_7 [1] (h := by exact (by (try dsimp only); omega))
  · refine E1 7 [] (.slice (A2) ((keysP (l.take k)).length) (c2)) ?_
    have hq3 : (keysP (l.take k) : List Int) = keysP l := (by rw [take_all (by omega)])
    have hMn3 := hM_l3.reM 0 hq3
    exact ⟨A2, c2, (by first | rfl | exact sl_congr (by first | omega | (simp; done) | (simp; omega)) | (simp; done)), (hMn3.pk [0])⟩
theorem keysOfRow_fn (A : Option Addr) (c : Nat) (l : List PairT) (w : World) (hA : Rd w A ((l).flatMap encP)) (hl : l.length ≤ 1048576) :
    Does Tryz.prog 76 [.slice (A) ((l).length) (c)] w (fun v w1 => ∃ (A1 : Option Addr) (c1 : Nat), v = .slice (A1) ((keysP l).length) (c1) ∧ Mem w w1 [] [[⟨.slice (A1) ((keysP l).length) (c1), 3, 1, ((keysP l).length), (keysP l).map I⟩]]) := by
  have hM : Mem w w [] [] := Mem.refl
  refine Does.n1 Tryz.func76 rfl Tryz.results76 Tryz.ntmps76 rfl ?_
  refine go 8 [] ?_
  refine O.mmake (k := (l).length) (sz := 1) (xs := (List.replicate ((l).length) (0 : Int)).map I) hM rfl Tryz.underlying30 el3 rfl rfl rfl rfl (by omega) (by omega) (zer_map rfl) (fun w1_2 b1_2 hb1_2 hM1_2 => ?_)
  have hq1 : (List.replicate ((l).length) (0 : Int) : List Int) = keysP (l.take 0) ++ List.replicate (l.length - 0) (0 : Int) := fill_zero
  have hMn1 : Mem w w1_2 [] [[⟨.slice (bl b1_2) (l.length) ((l).length), 3, 1, (l.length), (keysP (l.take 0) ++ List.replicate (l.length - 0) (0 : Int)).map I⟩]] := hM1_2.relen 0 (n' := l.length) (xs' := (keysP (l.take 0) ++ List.replicate (l.length - 0) (0 : Int)).map I) rfl (by first | rfl | exact congrArg List.length hq1 | (have hqq := congrArg List.length hq1; first | omega | (simp at hqq ⊢; omega)) | (simp; done) | (simp; omega)) (congrArg (fun z_ => (z_).map I) hq1) rfl
  refine lp1 10 [] (fun (k : Nat) => ([(3, Vl (bl b1_2) (l.length) (l.length)), (11, Vi (((k : Nat) : Int)))] : List (Nat × SV))) (fun (k : Nat) => (k ≤ l.length)) (fun (k : Nat) => [[⟨.slice (bl b1_2) (l.length) (l.length), 3, 1, (l.length), (keysP (l.take k) ++ List.replicate (l.length - k) (0 : Int)).map I⟩]]) (fun (k : Nat) => l.length - k) [9, 10] [0] [] 0 (fun k σ w_l3 hI hM_l3 => ?_) (h0 := (Nat.zero_le _))
  have hi0_l3 := hI
  have hcl0_l3 := (hM_l3.cap 0 rfl).1
  refine cd 5 [] (fun c12 => ?_) (fun c12 => ?_)
  · have hx4_1 : k < (l).length := (by first | omega | (simp; omega))
    refine ov 6 [] (a := kixF hx4_1 (hA.at hM_l3)) (b := ?_)
    refine ov 0 [] (a := kldN hx4_1 (hA.at hM_l3)) (b := ?_)
    refine Al 0 [] fun w4_3 b4_3 hb4_3 hM4_3 => ?_
    refine Sb 1 [] 0 fun w4_5 hM4_5 => ?_
    have hx5_4 : k < (keysP (l.take k) ++ List.replicate (l.length - k) (0 : Int)).length := (by rw [fill_len hi0_l3]; exact hx4_1)
    refine ov 6 [0] (a := kixM hx5_4 (hM4_5.rd 1 rfl) (h0 := by omega)) (b := ?_)
    refine sM 0 [] 1 hx5_4 fun w5_5 hM5_5 => ?_
    refine ov 2 [] (a := kaddN (k + 1)) (b := ?_)
    have hq2 : ((keysP (l.take k) ++ List.replicate (l.length - k) (0 : Int)).set (k) (((l)[k]'hx4_1).key) : List Int) = keysP (l.take (k + 1)) ++ List.replicate (l.length - (k + 1)) (0 : Int) := (fill_set hx4_1)
    have hMn2 : Mem w w5_5 [] [[⟨.slice (bl b4_3) 1 1, 27, 2, 1, [I (((l)[k]'hx4_1).key), I (((l)[k]'hx4_1).val)]⟩], [⟨.slice (bl b1_2) (l.length) (l.length), 3, 1, (l.length), (keysP (l.take (k + 1)) ++ List.replicate (l.length - (k + 1)) (0 : Int)).map I⟩]] := hM5_5.relen 1 (n' := l.length) (xs' := (keysP (l.take (k + 1)) ++ List.replicate (l.length - (k + 1)) (0 : Int)).map I) rfl (by first | rfl | exact congrArg List.length hq2 | (have hqq := congrArg List.length hq2; first | omega | (simp at hqq ⊢; omega)) | (simp; done) | (simp; omega)) (congrArg (fun z_ => (z_).map I) hq2) rfl
    exact le1 2 [] (k + 1) [1] (h := by exact (by (try dsimp only); omega))
  · refine E1 7 [] (.slice (bl b1_2) (l.length) (l.length)) ?_
    have hq3 : (keysP (l.take k) ++ List.replicate (l.length - k) (0 : Int) : List Int) = keysP l := (fill_all (by omega))
    have hMn3 := hM_l3.reM 0 hq3
    exact ⟨bl b1_2, l.length, (by first | rfl | exact sl_congr (by first | omega | (simp; done) | (simp; omega)) | (simp; done)), (hMn3.pk [0])⟩
theorem scopyRow_fn (A : Option Addr) (c : Nat) (l : List PairT) (w : World) (hA : Rd w A ((l).flatMap encP)) (hl : l.length ≤ 1048576) :
    Does Tryz.prog 161 [.slice (A) ((l).length) (c)] w (fun v w1 => ∃ (A1 : Option Addr) (c1 : Nat), v = .slice (A1) ((l).length) (c1) ∧ Mem w w1 [] [[⟨.slice (A1) ((l).length) (c1), 27, 2, ((l).length), (l).flatMap encP⟩]]) := by
  have hM : Mem w w [] [] := Mem.refl
  refine Does.n1 Tryz.func161 rfl Tryz.results161 Tryz.ntmps161 rfl ?_
  refine Lt 6 [] (([]).flatMap encP) (fun w1_0 b1_0 hb1_0 hM1_0 => ?_)
  refine aF0 1 [] 0 (hA.at hM1_0) (fun w1_2 A1_2 c1_2 hc1_2 hM1_2 => ?_)
  refine E1 3 [] (.slice (A1_2) ((l).length) (c1_2)) ?_
  exact ⟨A1_2, c1_2, (by first | rfl | exact sl_congr (by first | omega | (simp; done) | (simp; omega)) | (simp; done)), (hM1_2.pk [0])⟩
theorem scopyInts_fn (A : Option Addr) (c : Nat) (l : List Int) (w : World) (hA : Rd w A ((l).map I)) (hl : l.length ≤ 1048576) :
    Does Tryz.prog 115 [.slice (A) ((l).length) (c)] w (fun v w1 => ∃ (A1 : Option Addr) (c1 : Nat), v = .slice (A1) ((l).length) (c1) ∧ Mem w w1 [] [[⟨.slice (A1) ((l).length) (c1), 3, 1, ((l).length), (l).map I⟩]]) := by
  have hM : Mem w w [] [] := Mem.refl
  refine Does.n1 Tryz.func115 rfl Tryz.results115 Tryz.ntmps115 rfl ?_
  refine Lt 6 [] (([]).map I) (fun w1_0 b1_0 hb1_0 hM1_0 => ?_)
  refine aM0 1 [] 0 (hA.at hM1_0) (fun w1_2 A1_2 c1_2 hc1_2 hM1_2 => ?_)
  refine E1 3 [] (.slice (A1_2) ((l).length) (c1_2)) ?_
  exact ⟨A1_2, c1_2, (by first | rfl | exact sl_congr (by first | omega | (simp; done) | (simp; omega)) | (simp; done)), (hM1_2.pk [0])⟩
theorem ValidRow_fn (A : Option Addr) (c : Nat) (l : List PairT) (w : World) (hA : Rd w A ((l).flatMap encP)) (hl : l.length ≤ 1048576) :
    Does Tryz.prog 54 [.slice (A) ((l).length) (c)] w (fun v w1 => v = .bool (validR l) ∧ Mem w w1 [] []) := by
  have hM : Mem w w [] [] := Mem.refl
  refine Does.n1 Tryz.func54 rfl Tryz.results54 Tryz.ntmps54 rfl ?_
  refine cd 11 [] (fun c7 => ?_) (fun c7 => ?_)
  · refine E1 5 [] (.bool (false)) ?_
    exact ⟨(by simp [validR]; omega), (Mem.none hM)⟩
  · refine lp1 9 [] (fun (k : Nat) => ([(10, Vi (((k : Nat) : Int)))] : List (Nat × SV))) (fun (k : Nat) => (k ≤ l.length) ∧ ((l.take k).all (fun p => isValB p.val) = true)) (fun (k : Nat) => []) (fun (k : Nat) => l.length - k) [0, 8, 9] [] [] 0 (fun k σ w_l4 hI hM_l4 => ?_) (h0 := ⟨(Nat.zero_le _), (by (try dsimp only); simp)⟩)
    obtain ⟨hi0_l4, hi1_l4⟩ := hI
    refine cd 5 [] (fun c11 => ?_) (fun c11 => ?_)
    · have hx5_0 : k < (l).length := (by first | omega | (simp; omega))
      refine ov 5 [] (a := kixF hx5_0 (hA.at hM_l4)) (b := ?_)
      refine ov 0 [] (a := kldN hx5_0 (hA.at hM_l4)) (b := ?_)
      refine Al 0 [] fun w5_2 b5_2 hb5_2 hM5_2 => ?_
      refine Sb 0 [] 0 fun w5_3 hM5_3 => ?_
      refine cp 5 [0] (b := isValue_fn _ w5_3 ) (c := fun w6_2 hM6_2 => ?_)
      refine cn 2 [] (fun c17 => ?_) (fun c17 => ?_)
      · refine E1 5 [] (.bool (false)) ?_
        exact ⟨(by rw [validR_no hx5_0 c17]), (Mem.none hM6_2)⟩
      · refine ov 2 [] (a := kaddN (k + 1)) (b := ?_)
        exact le1 2 [] (k + 1) [] (h := by exact ⟨(by (try dsimp only); omega), (all_step hi1_l4 hx5_0 c17)⟩)
    · refine cq 4 [] (b := keysOfRow_fn _ _ _ w_l4 (hA.at hM_l4) q0) (c := ?_)
      rintro _ w9_1 ⟨A19_1, c19_1, rfl, hR9_1⟩
      have hM9_1 := hM_l4.cl 0 hR9_1
      have hcr9_1_0 := (hM9_1.cap 0 rfl).1
      refine cp 0 [] (b := ValidKeys_fn _ _ _ w9_1 (hM9_1.rd 0 rfl) q0) (c := fun w9_2 hM9_2 => ?_)
      refine E1 3 [] (.bool (validK (keysP l))) ?_
      exact ⟨(by rw [validR, all_end hi1_l4 (by omega), decide_eq_true (by omega)]; simp), (Mem.none hM9_2)⟩
theorem validRow_fn (A : Option Addr) (c : Nat) (l : List PairT) (w : World) (hA : Rd w A ((l).flatMap encP)) (hl : l.length ≤ 1048576) :
    Does Tryz.prog 85 [.slice (A) ((l).length) (c)] w (fun v w1 => v = .bool (validR l) ∧ Mem w w1 [] []) := by
  have hM : Mem w w [] [] := Mem.refl
  refine Does.n1 Tryz.func85 rfl Tryz.results85 Tryz.ntmps85 rfl ?_
  refine lp1 10 [] (fun (k : Nat) => ([(3, Vi (((k : Nat) : Int)))] : List (Nat × SV))) (fun (k : Nat) => (k ≤ l.length) ∧ ((l.take k).all (fun p => isValB p.val) = true)) (fun (k : Nat) => []) (fun (k : Nat) => l.length - k) [0] [] [] 0 (fun k σ w_l2 hI hM_l2 => ?_) (h0 := ⟨(Nat.zero_le _), (by (try dsimp only); simp)⟩)
  obtain ⟨hi0_l2, hi1_l2⟩ := hI
  refine cd 8 [] (fun c7 => ?_) (fun c7 => ?_)
  · have hx4_2 : k < (l).length := (by first | omega | (simp; omega))
    refine ov 7 [] (a := kixF hx4_2 (hA.at hM_l2)) (b := ?_)
    refine ov 0 [] (a := kflF hx4_2 (hA.at hM_l2)) (b := ?_)
    refine ov 0 [] (a := kldF hx4_2 (hA.at hM_l2)) (b := ?_)
    refine cp 0 [] (b := inRange_fn _ _ _ w_l2 ) (c := fun w4_5 hM4_5 => ?_)
    refine cn 2 [] (fun c16 => ?_) (fun c16 => ?_)
    · refine E1 5 [] (.bool (false)) ?_
      exact ⟨(by rw [validR_no hx4_2 c16]), (Mem.none hM4_5)⟩
    · refine ov 3 [] (a := kaddN (k + 1)) (b := ?_)
      exact le1 2 [] (k + 1) [] (h := by exact ⟨(by (try dsimp only); omega), (all_step hi1_l2 hx4_2 c16)⟩)
  · refine pp 7 [] 20 (fun g20 => ?_) (fun g20 => ?_)
    · refine cq 1 [] (b := skeysOf_fn _ _ _ w_l2 (hA.at hM_l2) q0) (c := ?_)
      rintro _ w6_5 ⟨A16_5, c16_5, rfl, hR6_5⟩
      have hM6_5 := hM_l2.cl 0 hR6_5
      have hcr6_5_0 := (hM6_5.cap 0 rfl).1
      refine cp 0 [] (b := validKeys_fn _ _ _ w6_5 (hM6_5.rd 0 rfl) q0) (c := fun w6_6 hM6_6 => ?_)
      refine E1 4 [] (.bool (validK (keysP l))) ?_
      exact ⟨(by first | (rw [validR, all_end hi1_l2 (by omega), decide_eq_true (by omega)]; simp; done) | (rw [validR, decide_eq_false (by omega)]; simp)), (Mem.none hM6_6)⟩
    · refine E1 7 [] (.bool (false)) ?_
      exact ⟨(by first | (rw [validR, all_end hi1_l2 (by omega), decide_eq_true (by omega)]; simp; done) | (rw [validR, decide_eq_false (by omega)]; simp)), (Mem.none hM_l2)⟩
end Go.Proofs.YtemejgglbhjodaaGreatDoor
end
section
namespace Go.Proofs.YtemejgglbhjodaaGreatDoor
open Go.Px
theorem sput_fn (A : Option Addr) (c : Nat) (l : List PairT) (x : PairT) (w : World) (hA : Rd w A ((l).flatMap encP)) (hl : l.length ≤ 1048576) (ha : asc (keysP l) = true) (hc : l.length ≤ c) :
    Does Tryz.prog 126 [.slice (A) ((l).length) (c), .agg #[I ((x).key), I ((x).val)]] w (fun v w1 => ∃ (A1 : Option Addr) (c1 : Nat), v = .slice (A1) ((putP l x).length) (c1) ∧ Mem w w1 [] [[⟨.slice (A1) ((putP l x).length) (c1), 27, 2, ((putP l x).length), (putP l x).flatMap encP⟩]]) := by
  have hM : Mem w w [] [] := Mem.refl
  refine Does.n1 Tryz.func126 rfl Tryz.results126 Tryz.ntmps126 rfl ?_
  refine Bx 2 [] fun w0_0 b0_0 hb0_0 hM0_0 => ?_
  refine ct0 2 [] (([(5, Vi (((plc l x.key : Nat) : Int)))] : List (Nat × SV))) (True) ([]) [0, 3] [0] ?_ (fun σ w_r1 hI hM_r1 => ?_)
  · refine any 0 [] 6 [0] fun w1a hM1a => ?_
    refine aO [0, 2, 3] [0] 1 ?_
    refine cq 0 [] (b := skeysOf_fn _ _ _ w1a (hA.at hM1a) q0) (c := ?_)
    rintro _ w1_1 ⟨A11_1, c11_1, rfl, hR1_1⟩
    have hM1_1 := hM1a.cl 0 hR1_1
    have hcr1_1_0 := (hM1_1.cap 0 rfl).1
    refine os 0 [] [1] ?_
    refine aO [] [] 4 ?_
    refine cp 0 [] (b := sbelow_fn _ _ _ _ w1_1 (hM1_1.rd 0 rfl) q0) (c := fun w1_4 hM1_4 => ?_)
    refine os 0 [] [1] ?_
    refine an [5] [] ?_
    exact ce0 0 [] [1] (h := by exact trivial)
  · have hpl := plc_le l x.key
    refine ct2 0 [] (fun (A2 : Option Addr) (c2 : Nat) => ([(6, Vl (A2) ((l.take (plc l x.key) ++ [x]).length) (c2))] : List (Nat × SV))) (fun (A2 : Option Addr) (c2 : Nat) => True) (fun (A2 : Option Addr) (c2 : Nat) => [[⟨.slice (A2) ((l.take (plc l x.key) ++ [x]).length) (c2), 27, 2, ((l.take (plc l x.key) ++ [x]).length), (l.take (plc l x.key) ++ [x]).flatMap encP⟩]]) [0, 3, 5] [0] ?_ (fun A2 c2 σ w_r2 hI hM_r2 => ?_)
    · refine any 0 [] 8 [0] fun w2a hM2a => ?_
      refine av [0, 1] [] 2 (s := Vl (A) (((l).take (plc l x.key)).length) (c)) (a := by exact fun w2 hw2 => cv (Ru.congr (v := .slice (A) (plc l x.key) (c)) (v' := .slice (A) (((l).take (plc l x.key)).length) (c)) (Ru.lsliceTo (h := plc l x.key) Tryz.underlying43 el27 rfl rfl (by omega) (by omega)) (sl_congr (by first | rfl | (simp; done) | omega | (simp; omega)))) rfl) (b := ?_)
      refine aT [4] [0] 3 5 ?_ ?_
      · refine cq 0 [] (b := scopyRow_fn _ _ _ w2a (rd_takeN encP_len (hA.at hM2a)) q0) (c := ?_)
        rintro _ w2_3 ⟨A12_3, c12_3, rfl, hR2_3⟩
        have hM2_3 := hM2a.cl 0 hR2_3
        have hcr2_3_0 := (hM2_3.cap 0 rfl).1
        refine os 0 [] [1] ?_
        refine aO [] [] 5 ?_
        refine Lt 0 [] (([x]).flatMap encP) (fun w2_5 b2_5 hb2_5 hM2_5 => ?_)
        refine os 0 [] [2] ?_
        refine aO [] [] 6 ?_
        refine aF 0 [] 1 (hM2_5.rd 0 rfl) (fun w2_6 A2_6 c2_6 hc2_6 hM2_6 => ?_)
        refine os 0 [] [2] ?_
        refine an [7] [] ?_
        have hq1 : (((l).take (plc l x.key)) ++ [x] : List PairT) = l.take (plc l x.key) ++ [x] := (by first | rfl | simp | (simp; omega))
        have hMn1 := hM2_6.reF 1 hq1
        exact ce2 0 [] A2_6 c2_6 [1, 2] (h := by exact trivial)
      · refine Lt 0 [] (([x]).flatMap encP) (fun w2_5 b2_5 hb2_5 hM2_5 => ?_)
        refine os 0 [] [1] ?_
        refine aO [] [] 3 ?_
        refine cq 0 [] (b := scopyRow_fn _ _ _ w2_5 (rd_takeN encP_len (hA.at hM2_5)) q0) (c := ?_)
        rintro _ w2_3 ⟨A12_3, c12_3, rfl, hR2_3⟩
        have hM2_3 := hM2_5.cl 0 hR2_3
        have hcr2_3_0 := (hM2_3.cap 0 rfl).1
        refine os 0 [] [2] ?_
        refine aO [] [] 6 ?_
        refine aF 0 [] 0 (hM2_3.rd 1 rfl) (fun w2_6 A2_6 c2_6 hc2_6 hM2_6 => ?_)
        refine os 0 [] [2] ?_
        refine an [7] [] ?_
        have hq2 : (((l).take (plc l x.key)) ++ [x] : List PairT) = l.take (plc l x.key) ++ [x] := (by first | rfl | simp | (simp; omega))
        have hMn2 := hM2_6.reF 0 hq2
        exact ce2 0 [] A2_6 c2_6 [0, 2] (h := by exact trivial)
    · have hcl0_r2 := (hM_r2.cap 0 rfl).1
      refine dr 2 [] ?_
      refine qp 5 [] 23 (fun g23 => ?_) (fun g23 => ?_)
      · have hx3_7 : plc l x.key < (l).length := (by first | omega | (simp; omega))
        refine qv 2 [] (a := by exact fun _ hw2 => kixF hx3_7 (hA.at hw2)) (b := ?_)
        refine qv 0 [] (a := by exact fun _ hw2 => kflF hx3_7 (hA.at hw2)) (b := ?_)
        refine qv 0 [] (a := by exact fun _ hw2 => kldF hx3_7 (hA.at hw2)) (b := ?_)
        refine qn 4 [1] fun w3d hM3d => ?_
        refine cd 0 [] (fun c32 => ?_) (fun c32 => ?_)
        · have hin := isIn_yes ha hx3_7 c32
          refine ov 2 [] (a := kaddN (plc l x.key + 1)) (b := ?_)
          refine ov 7 [] (s := Vl (if c = (plc l x.key + 1) then A else ofs (A) ((plc l x.key + 1) * 2)) (((l).drop ((plc l x.key + 1))).length) (c - (plc l x.key + 1))) (a := by exact cv (Ru.congr (v := .slice (if c = (plc l x.key + 1) then A else ofs (A) ((plc l x.key + 1) * 2)) (((l).length) - (plc l x.key + 1)) (c - (plc l x.key + 1))) (v' := .slice (if c = (plc l x.key + 1) then A else ofs (A) ((plc l x.key + 1) * 2)) (((l).drop ((plc l x.key + 1))).length) (c - (plc l x.key + 1))) (Ru.lsliceFrom (l := (plc l x.key + 1)) Tryz.underlying43 el27 rfl rfl (by omega) (by omega)) (sl_congr (by first | rfl | (simp; done) | omega | (simp; omega)))) rfl) (b := ?_)
          refine aF 0 [] 0 (rd_dropN (k := (plc l x.key + 1)) (c := c) encP_len (hA.at hM3d) q2 q2) (fun w5_4 A5_4 c5_4 hc5_4 hM5_4 => ?_)
          refine E1 3 [] (.slice (A5_4) ((l.take (plc l x.key) ++ [x] ++ (l).drop ((plc l x.key + 1))).length) (c5_4)) ?_
          have hq3 : (l.take (plc l x.key) ++ [x] ++ (l).drop ((plc l x.key + 1)) : List PairT) = putP l x := (by first | (unfold putP; rw [if_pos (isIn_yes ha hx3_7 c32)]; simp; done) | (unfold putP; rw [isIn_no ha (fun hb => by first | omega | exact fun e => c32 e)]; simp))
          have hMn3 := hM5_4.reF 0 hq3
          exact ⟨A5_4, c5_4, (sl_congr (by first | (unfold putP; rw [if_pos (isIn_yes ha hx3_7 c32)]; simp; done) | (unfold putP; rw [isIn_no ha (fun hb => by first | omega | exact fun e => c32 e)]; simp))), (hMn3.pk [0])⟩
        · refine ov 6 [] (s := Vl (if c = plc l x.key then A else ofs (A) ((plc l x.key) * 2)) (((l).drop (plc l x.key)).length) (c - (plc l x.key))) (a := by exact cv (Ru.congr (v := .slice (if c = plc l x.key then A else ofs (A) ((plc l x.key) * 2)) (((l).length) - (plc l x.key)) (c - (plc l x.key))) (v' := .slice (if c = plc l x.key then A else ofs (A) ((plc l x.key) * 2)) (((l).drop (plc l x.key)).length) (c - (plc l x.key))) (Ru.lsliceFrom (l := plc l x.key) Tryz.underlying43 el27 rfl rfl (by omega) (by omega)) (sl_congr (by first | rfl | (simp; done) | omega | (simp; omega)))) rfl) (b := ?_)
          refine aF 0 [] 0 (rd_dropN (k := plc l x.key) (c := c) encP_len (hA.at hM3d) q2 q2) (fun w5_4 A5_4 c5_4 hc5_4 hM5_4 => ?_)
          refine E1 3 [] (.slice (A5_4) ((l.take (plc l x.key) ++ [x] ++ (l).drop (plc l x.key)).length) (c5_4)) ?_
          have hq4 : (l.take (plc l x.key) ++ [x] ++ (l).drop (plc l x.key) : List PairT) = putP l x := (by first | (unfold putP; rw [if_pos (isIn_yes ha hx3_7 c32)]; simp; done) | (unfold putP; rw [isIn_no ha (fun hb => by first | omega | exact fun e => c32 e)]; simp))
          have hMn4 := hM5_4.reF 0 hq4
          exact ⟨A5_4, c5_4, (sl_congr (by first | (unfold putP; rw [if_pos (isIn_yes ha hx3_7 c32)]; simp; done) | (unfold putP; rw [isIn_no ha (fun hb => by first | omega | exact fun e => c32 e)]; simp))), (hMn4.pk [0])⟩
      · refine qn 9 [] fun w3d hM3d => ?_
        refine ov 7 [] (s := Vl (if c = plc l x.key then A else ofs (A) ((plc l x.key) * 2)) (((l).drop (plc l x.key)).length) (c - (plc l x.key))) (a := by exact cv (Ru.congr (v := .slice (if c = plc l x.key then A else ofs (A) ((plc l x.key) * 2)) (((l).length) - (plc l x.key)) (c - (plc l x.key))) (v' := .slice (if c = plc l x.key then A else ofs (A) ((plc l x.key) * 2)) (((l).drop (plc l x.key)).length) (c - (plc l x.key))) (Ru.lsliceFrom (l := plc l x.key) Tryz.underlying43 el27 rfl rfl (by omega) (by omega)) (sl_congr (by first | rfl | (simp; done) | omega | (simp; omega)))) rfl) (b := ?_)
        refine aF 0 [] 0 (rd_dropN (k := plc l x.key) (c := c) encP_len (hA.at hM3d) q2 q2) (fun w5_4 A5_4 c5_4 hc5_4 hM5_4 => ?_)
        refine E1 3 [] (.slice (A5_4) ((l.take (plc l x.key) ++ [x] ++ (l).drop (plc l x.key)).length) (c5_4)) ?_
        have hq5 : (l.take (plc l x.key) ++ [x] ++ (l).drop (plc l x.key) : List PairT) = putP l x := (by first | (unfold putP; rw [if_pos (isIn_yes ha hx3_7 c32)]; simp; done) | (unfold putP; rw [isIn_no ha (fun hb => by first | omega | exact fun e => c32 e)]; simp))
        have hMn5 := hM5_4.reF 0 hq5
        exact ⟨A5_4, c5_4, (sl_congr (by first | (unfold putP; rw [if_pos (isIn_yes ha hx3_7 c32)]; simp; done) | (unfold putP; rw [isIn_no ha (fun hb => by first | omega | exact fun e => c32 e)]; simp))), (hMn5.pk [0])⟩
end Go.Proofs.YtemejgglbhjodaaGreatDoor
end
section
namespace Go.Proofs.YtemejgglbhjodaaGreatDoor
open Go.Px
theorem dec0_fn (n : Int) (w : World) (hn : 0 ≤ n ∧ n < 10) :
    Does Tryz.prog 57 [I (n)] w (fun v w1 => v = S (itoaS n) ∧ Mem w w1 [] []) := by
  have hM : Mem w w [] [] := Mem.refl
  refine Does.n1 Tryz.func57 rfl Tryz.results57 Tryz.ntmps57 rfl ?_
  refine pp 10 [] 5 (fun g5 => ?_) (fun g5 => ?_)
  · exfalso; omega
  · refine cd 14 [] (fun c12 => ?_) (fun c12 => ?_)
    · exfalso; omega
    · refine cd 7 [] (fun c18 => ?_) (fun c18 => ?_)
      · refine ov 3 [] (a := kadd) (b := ?_)
        refine ov 0 [] (s := Vn .u8 ((((UInt8.ofNat (48 + n.toNat))).toNat : Int))) (a := by exact cv (Ru.conv (c := (((UInt8.ofNat (48 + n.toNat))).toNat : Int)) Tryz.underlying3 Tryz.underlying5 rfl (by exact (IntKind.wrap_u8_of _ (by omega)).trans (by rw [UInt8.toNat_ofNat']; omega))) rfl) (b := ?_)
        refine Lt 0 [] (([(UInt8.ofNat (48 + n.toNat))]).map byteV) (fun w6_3 b6_3 hb6_3 hM6_3 => ?_)
        refine ov 0 [] (s := Vs ([(UInt8.ofNat (48 + n.toNat))])) (a := by exact cv (Ru.b2s (l := [(UInt8.ofNat (48 + n.toNat))]) Tryz.underlying22 Tryz.underlying5 Tryz.underlying9 rfl (hM6_3.rd 0 rfl)) rfl) (b := ?_)
        refine E1 3 [] (S ([(UInt8.ofNat (48 + n.toNat))])) ?_
        exact ⟨(by rw [itoa_dig (by omega) (by omega)]), (Mem.none hM6_3)⟩
      · exfalso; omega
theorem dec1_fn (n : Int) (w : World) (hn : 0 ≤ n ∧ n < 100) :
    Does Tryz.prog 57 [I (n)] w (fun v w1 => v = S (itoaS n) ∧ Mem w w1 [] []) := by
  have hM : Mem w w [] [] := Mem.refl
  refine Does.n1 Tryz.func57 rfl Tryz.results57 Tryz.ntmps57 rfl ?_
  refine pp 10 [] 5 (fun g5 => ?_) (fun g5 => ?_)
  · exfalso; omega
  · refine cd 14 [] (fun c12 => ?_) (fun c12 => ?_)
    · exfalso; omega
    · refine cd 7 [] (fun c18 => ?_) (fun c18 => ?_)
      · refine ov 3 [] (a := kadd) (b := ?_)
        refine ov 0 [] (s := Vn .u8 ((((UInt8.ofNat (48 + n.toNat))).toNat : Int))) (a := by exact cv (Ru.conv (c := (((UInt8.ofNat (48 + n.toNat))).toNat : Int)) Tryz.underlying3 Tryz.underlying5 rfl (by exact (IntKind.wrap_u8_of _ (by omega)).trans (by rw [UInt8.toNat_ofNat']; omega))) rfl) (b := ?_)
        refine Lt 0 [] (([(UInt8.ofNat (48 + n.toNat))]).map byteV) (fun w6_3 b6_3 hb6_3 hM6_3 => ?_)
        refine ov 0 [] (s := Vs ([(UInt8.ofNat (48 + n.toNat))])) (a := by exact cv (Ru.b2s (l := [(UInt8.ofNat (48 + n.toNat))]) Tryz.underlying22 Tryz.underlying5 Tryz.underlying9 rfl (hM6_3.rd 0 rfl)) rfl) (b := ?_)
        refine E1 3 [] (S ([(UInt8.ofNat (48 + n.toNat))])) ?_
        exact ⟨(by rw [itoa_dig (by omega) (by omega)]), (Mem.none hM6_3)⟩
      · refine any 2 [] 11 [] fun w7a hM7a => ?_
        refine av [0] [] 1 (s := Vi ((n / 10))) (a := by exact fun w2 hw2 => cv (Ru.quo rfl rfl (by omega)) rfl) (b := ?_)
        refine av [3] [] 4 (a := by exact fun _ hw2 => krem) (b := ?_)
        refine av [] [] 5 (a := by exact fun _ hw2 => kadd) (b := ?_)
        refine av [] [] 6 (s := Vn .u8 ((((UInt8.ofNat (48 + n.toNat % 10))).toNat : Int))) (a := by exact fun w2 hw2 => cv (Ru.conv (c := (((UInt8.ofNat (48 + n.toNat % 10))).toNat : Int)) Tryz.underlying3 Tryz.underlying5 rfl (by exact (IntKind.wrap_u8_of _ (by omega)).trans (by rw [UInt8.toNat_ofNat']; omega))) rfl) (b := ?_)
        refine aT [] [] 2 7 ?_ ?_
        · refine cp 0 [] (b := dec0_fn _ w7a qo) (c := fun w7_2 hM7_2 => ?_)
          refine os 0 [] [] ?_
          refine aO [] [] 7 ?_
          refine Lt 0 [] (([(UInt8.ofNat (48 + n.toNat % 10))]).map byteV) (fun w7_7 b7_7 hb7_7 hM7_7 => ?_)
          refine os 0 [] [] ?_
          refine aO [] [] 8 ?_
          refine ov 0 [] (s := Vs ([(UInt8.ofNat (48 + n.toNat % 10))])) (a := by exact cv (Ru.b2s (l := [(UInt8.ofNat (48 + n.toNat % 10))]) Tryz.underlying22 Tryz.underlying5 Tryz.underlying9 rfl (hM7_7.rd 0 rfl)) rfl) (b := ?_)
          refine os 0 [] [] ?_
          refine av [] [] 9 (a := by exact fun _ hw2 => kcat (h := by have := itoa_len (n := n / 10) (by omega) (by omega); simp; omega)) (b := ?_)
          refine an [10] [] ?_
          refine E1 1 [] (S ((itoaS (n / 10) ++ [(UInt8.ofNat (48 + n.toNat % 10))]))) ?_
          exact ⟨(by rw [itoa_ten (n := n) (by omega)]), (Mem.none hM7_7)⟩
        · refine Lt 0 [] (([(UInt8.ofNat (48 + n.toNat % 10))]).map byteV) (fun w7_7 b7_7 hb7_7 hM7_7 => ?_)
          refine os 0 [] [] ?_
          refine aT [] [] 2 8 ?_ ?_
          · refine cp 0 [] (b := dec0_fn _ w7_7 qo) (c := fun w7_2 hM7_2 => ?_)
            refine os 0 [] [] ?_
            refine aO [] [] 8 ?_
            refine ov 0 [] (s := Vs ([(UInt8.ofNat (48 + n.toNat % 10))])) (a := by exact cv (Ru.b2s (l := [(UInt8.ofNat (48 + n.toNat % 10))]) Tryz.underlying22 Tryz.underlying5 Tryz.underlying9 rfl (hM7_2.rd 0 rfl)) rfl) (b := ?_)
            refine os 0 [] [] ?_
            refine av [] [] 9 (a := by exact fun _ hw2 => kcat (h := by have := itoa_len (n := n / 10) (by omega) (by omega); simp; omega)) (b := ?_)
            refine an [10] [] ?_
            refine E1 1 [] (S ((itoaS (n / 10) ++ [(UInt8.ofNat (48 + n.toNat % 10))]))) ?_
            exact ⟨(by rw [itoa_ten (n := n) (by omega)]), (Mem.none hM7_2)⟩
          · refine ov 0 [] (s := Vs ([(UInt8.ofNat (48 + n.toNat % 10))])) (a := by exact cv (Ru.b2s (l := [(UInt8.ofNat (48 + n.toNat % 10))]) Tryz.underlying22 Tryz.underlying5 Tryz.underlying9 rfl (hM7_7.rd 0 rfl)) rfl) (b := ?_)
            refine os 0 [] [] ?_
            refine aO [] [] 2 ?_
            refine cp 0 [] (b := dec0_fn _ w7_7 qo) (c := fun w7_2 hM7_2 => ?_)
            refine os 0 [] [] ?_
            refine av [] [] 9 (a := by exact fun _ hw2 => kcat (h := by have := itoa_len (n := n / 10) (by omega) (by omega); simp; omega)) (b := ?_)
            refine an [10] [] ?_
            refine E1 1 [] (S ((itoaS (n / 10) ++ [(UInt8.ofNat (48 + n.toNat % 10))]))) ?_
            exact ⟨(by rw [itoa_ten (n := n) (by omega)]), (Mem.none hM7_2)⟩
theorem dec2_fn (n : Int) (w : World) (hn : 0 ≤ n ∧ n < 1000) :
    Does Tryz.prog 57 [I (n)] w (fun v w1 => v = S (itoaS n) ∧ Mem w w1 [] []) := by
  have hM : Mem w w [] [] := Mem.refl
  refine Does.n1 Tryz.func57 rfl Tryz.results57 Tryz.ntmps57 rfl ?_
  refine pp 10 [] 5 (fun g5 => ?_) (fun g5 => ?_)
  · exfalso; omega
  · refine cd 14 [] (fun c12 => ?_) (fun c12 => ?_)
    · exfalso; omega
    · refine cd 7 [] (fun c18 => ?_) (fun c18 => ?_)
      · refine ov 3 [] (a := kadd) (b := ?_)
        refine ov 0 [] (s := Vn .u8 ((((UInt8.ofNat (48 + n.toNat))).toNat : Int))) (a := by exact cv (Ru.conv (c := (((UInt8.ofNat (48 + n.toNat))).toNat : Int)) Tryz.underlying3 Tryz.underlying5 rfl (by exact (IntKind.wrap_u8_of _ (by omega)).trans (by rw [UInt8.toNat_ofNat']; omega))) rfl) (b := ?_)
        refine Lt 0 [] (([(UInt8.ofNat (48 + n.toNat))]).map byteV) (fun w6_3 b6_3 hb6_3 hM6_3 => ?_)
        refine ov 0 [] (s := Vs ([(UInt8.ofNat (48 + n.toNat))])) (a := by exact cv (Ru.b2s (l := [(UInt8.ofNat (48 + n.toNat))]) Tryz.underlying22 Tryz.underlying5 Tryz.underlying9 rfl (hM6_3.rd 0 rfl)) rfl) (b := ?_)
        refine E1 3 [] (S ([(UInt8.ofNat (48 + n.toNat))])) ?_
        exact ⟨(by rw [itoa_dig (by omega) (by omega)]), (Mem.none hM6_3)⟩
      · refine any 2 [] 11 [] fun w7a hM7a => ?_
        refine av [0] [] 1 (s := Vi ((n / 10))) (a := by exact fun w2 hw2 => cv (Ru.quo rfl rfl (by omega)) rfl) (b := ?_)
        refine av [3] [] 4 (a := by exact fun _ hw2 => krem) (b := ?_)
        refine av [] [] 5 (a := by exact fun _ hw2 => kadd) (b := ?_)
        refine av [] [] 6 (s := Vn .u8 ((((UInt8.ofNat (48 + n.toNat % 10))).toNat : Int))) (a := by exact fun w2 hw2 => cv (Ru.conv (c := (((UInt8.ofNat (48 + n.toNat % 10))).toNat : Int)) Tryz.underlying3 Tryz.underlying5 rfl (by exact (IntKind.wrap_u8_of _ (by omega)).trans (by rw [UInt8.toNat_ofNat']; omega))) rfl) (b := ?_)
        refine aT [] [] 2 7 ?_ ?_
        · refine cp 0 [] (b := dec1_fn _ w7a qo) (c := fun w7_2 hM7_2 => ?_)
          refine os 0 [] [] ?_
          refine aO [] [] 7 ?_
          refine Lt 0 [] (([(UInt8.ofNat (48 + n.toNat % 10))]).map byteV) (fun w7_7 b7_7 hb7_7 hM7_7 => ?_)
          refine os 0 [] [] ?_
          refine aO [] [] 8 ?_
          refine ov 0 [] (s := Vs ([(UInt8.ofNat (48 + n.toNat % 10))])) (a := by exact cv (Ru.b2s (l := [(UInt8.ofNat (48 + n.toNat % 10))]) Tryz.underlying22 Tryz.underlying5 Tryz.underlying9 rfl (hM7_7.rd 0 rfl)) rfl) (b := ?_)
          refine os 0 [] [] ?_
          refine av [] [] 9 (a := by exact fun _ hw2 => kcat (h := by have := itoa_len (n := n / 10) (by omega) (by omega); simp; omega)) (b := ?_)
          refine an [10] [] ?_
          refine E1 1 [] (S ((itoaS (n / 10) ++ [(UInt8.ofNat (48 + n.toNat % 10))]))) ?_
          exact ⟨(by rw [itoa_ten (n := n) (by omega)]), (Mem.none hM7_7)⟩
        · refine Lt 0 [] (([(UInt8.ofNat (48 + n.toNat % 10))]).map byteV) (fun w7_7 b7_7 hb7_7 hM7_7 => ?_)
          refine os 0 [] [] ?_
          refine aT [] [] 2 8 ?_ ?_
          · refine cp 0 [] (b := dec1_fn _ w7_7 qo) (c := fun w7_2 hM7_2 => ?_)
            refine os 0 [] [] ?_
            refine aO [] [] 8 ?_
            refine ov 0 [] (s := Vs ([(UInt8.ofNat (48 + n.toNat % 10))])) (a := by exact cv (Ru.b2s (l := [(UInt8.ofNat (48 + n.toNat % 10))]) Tryz.underlying22 Tryz.underlying5 Tryz.underlying9 rfl (hM7_2.rd 0 rfl)) rfl) (b := ?_)
            refine os 0 [] [] ?_
            refine av [] [] 9 (a := by exact fun _ hw2 => kcat (h := by have := itoa_len (n := n / 10) (by omega) (by omega); simp; omega)) (b := ?_)
            refine an [10] [] ?_
            refine E1 1 [] (S ((itoaS (n / 10) ++ [(UInt8.ofNat (48 + n.toNat % 10))]))) ?_
            exact ⟨(by rw [itoa_ten (n := n) (by omega)]), (Mem.none hM7_2)⟩
          · refine ov 0 [] (s := Vs ([(UInt8.ofNat (48 + n.toNat % 10))])) (a := by exact cv (Ru.b2s (l := [(UInt8.ofNat (48 + n.toNat % 10))]) Tryz.underlying22 Tryz.underlying5 Tryz.underlying9 rfl (hM7_7.rd 0 rfl)) rfl) (b := ?_)
            refine os 0 [] [] ?_
            refine aO [] [] 2 ?_
            refine cp 0 [] (b := dec1_fn _ w7_7 qo) (c := fun w7_2 hM7_2 => ?_)
            refine os 0 [] [] ?_
            refine av [] [] 9 (a := by exact fun _ hw2 => kcat (h := by have := itoa_len (n := n / 10) (by omega) (by omega); simp; omega)) (b := ?_)
            refine an [10] [] ?_
            refine E1 1 [] (S ((itoaS (n / 10) ++ [(UInt8.ofNat (48 + n.toNat % 10))]))) ?_
            exact ⟨(by rw [itoa_ten (n := n) (by omega)]), (Mem.none hM7_2)⟩
theorem dec3_fn (n : Int) (w : World) (hn : 0 ≤ n ∧ n < 10000) :
    Does Tryz.prog 57 [I (n)] w (fun v w1 => v = S (itoaS n) ∧ Mem w w1 [] []) := by
  have hM : Mem w w [] [] := Mem.refl
  refine Does.n1 Tryz.func57 rfl Tryz.results57 Tryz.ntmps57 rfl ?_
  refine pp 10 [] 5 (fun g5 => ?_) (fun g5 => ?_)
  · exfalso; omega
  · refine cd 14 [] (fun c12 => ?_) (fun c12 => ?_)
    · exfalso; omega
    · refine cd 7 [] (fun c18 => ?_) (fun c18 => ?_)
      · refine ov 3 [] (a := kadd) (b := ?_)
        refine ov 0 [] (s := Vn .u8 ((((UInt8.ofNat (48 + n.toNat))).toNat : Int))) (a := by exact cv (Ru.conv (c := (((UInt8.ofNat (48 + n.toNat))).toNat : Int)) Tryz.underlying3 Tryz.underlying5 rfl (by exact (IntKind.wrap_u8_of _ (by omega)).trans (by rw [UInt8.toNat_ofNat']; omega))) rfl) (b := ?_)
        refine Lt 0 [] (([(UInt8.ofNat (48 + n.toNat))]).map byteV) (fun w6_3 b6_3 hb6_3 hM6_3 => ?_)
        refine ov 0 [] (s := Vs ([(UInt8.ofNat (48 + n.toNat))])) (a := by exact cv (Ru.b2s (l := [(UInt8.ofNat (48 + n.toNat))]) Tryz.underlying22 Tryz.underlying5 Tryz.underlying9 rfl (hM6_3.rd 0 rfl)) rfl) (b := ?_)
        refine E1 3 [] (S ([(UInt8.ofNat (48 + n.toNat))])) ?_
        exact ⟨(by rw [itoa_dig (by omega) (by omega)]), (Mem.none hM6_3)⟩
      · refine any 2 [] 11 [] fun w7a hM7a => ?_
        refine av [0] [] 1 (s := Vi ((n / 10))) (a := by exact fun w2 hw2 => cv (Ru.quo rfl rfl (by omega)) rfl) (b := ?_)
        refine av [3] [] 4 (a := by exact fun _ hw2 => krem) (b := ?_)
        refine av [] [] 5 (a := by exact fun _ hw2 => kadd) (b := ?_)
        refine av [] [] 6 (s := Vn .u8 ((((UInt8.ofNat (48 + n.toNat % 10))).toNat : Int))) (a := by exact fun w2 hw2 => cv (Ru.conv (c := (((UInt8.ofNat (48 + n.toNat % 10))).toNat : Int)) Tryz.underlying3 Tryz.underlying5 rfl (by exact (IntKind.wrap_u8_of _ (by omega)).trans (by rw [UInt8.toNat_ofNat']; omega))) rfl) (b := ?_)
        refine aT [] [] 2 7 ?_ ?_
        · refine cp 0 [] (b := dec2_fn _ w7a qo) (c := fun w7_2 hM7_2 => ?_)
          refine os 0 [] [] ?_
          refine aO [] [] 7 ?_
          refine Lt 0 [] (([(UInt8.ofNat (48 + n.toNat % 10))]).map byteV) (fun w7_7 b7_7 hb7_7 hM7_7 => ?_)
          refine os 0 [] [] ?_
          refine aO [] [] 8 ?_
          refine ov 0 [] (s := Vs ([(UInt8.ofNat (48 + n.toNat % 10))])) (a := by exact cv (Ru.b2s (l := [(UInt8.ofNat (48 + n.toNat % 10))]) Tryz.underlying22 Tryz.underlying5 Tryz.underlying9 rfl (hM7_7.rd 0 rfl)) rfl) (b := ?_)
          refine os 0 [] [] ?_
          refine av [] [] 9 (a := by exact fun _ hw2 => kcat (h := by have := itoa_len (n := n / 10) (by omega) (by omega); simp; omega)) (b := ?_)
          refine an [10] [] ?_
          refine E1 1 [] (S ((itoaS (n / 10) ++ [(UInt8.ofNat (48 + n.toNat % 10))]))) ?_
          exact ⟨(by rw [itoa_ten (n := n) (by omega)]), (Mem.none hM7_7)⟩
        · refine Lt 0 [] (([(UInt8.ofNat (48 + n.toNat % 10))]).map byteV) (fun w7_7 b7_7 hb7_7 hM7_7 => ?_)
          refine os 0 [] [] ?_
          refine aT [] [] 2 8 ?_ ?_
          · refine cp 0 [] (b := dec2_fn _ w7_7 qo) (c := fun w7_2 hM7_2 => ?_)
            refine os 0 [] [] ?_
            refine aO [] [] 8 ?_
            refine ov 0 [] (s := Vs ([(UInt8.ofNat (48 + n.toNat % 10))])) (a := by exact cv (Ru.b2s (l := [(UInt8.ofNat (48 + n.toNat % 10))]) Tryz.underlying22 Tryz.underlying5 Tryz.underlying9 rfl (hM7_2.rd 0 rfl)) rfl) (b := ?_)
            refine os 0 [] [] ?_
            refine av [] [] 9 (a := by exact fun _ hw2 => kcat (h := by have := itoa_len (n := n / 10) (by omega) (by omega); simp; omega)) (b := ?_)
            refine an [10] [] ?_
            refine E1 1 [] (S ((itoaS (n / 10) ++ [(UInt8.ofNat (48 + n.toNat % 10))]))) ?_
            exact ⟨(by rw [itoa_ten (n := n) (by omega)]), (Mem.none hM7_2)⟩
          · refine ov 0 [] (s := Vs ([(UInt8.ofNat (48 + n.toNat % 10))])) (a := by exact cv (Ru.b2s (l := [(UInt8.ofNat (48 + n.toNat % 10))]) Tryz.underlying22 Tryz.underlying5 Tryz.underlying9 rfl (hM7_7.rd 0 rfl)) rfl) (b := ?_)
            refine os 0 [] [] ?_
            refine aO [] [] 2 ?_
            refine cp 0 [] (b := dec2_fn _ w7_7 qo) (c := fun w7_2 hM7_2 => ?_)
            refine os 0 [] [] ?_
            refine av [] [] 9 (a := by exact fun _ hw2 => kcat (h := by have := itoa_len (n := n / 10) (by omega) (by omega); simp; omega)) (b := ?_)
            refine an [10] [] ?_
            refine E1 1 [] (S ((itoaS (n / 10) ++ [(UInt8.ofNat (48 + n.toNat % 10))]))) ?_
            exact ⟨(by rw [itoa_ten (n := n) (by omega)]), (Mem.none hM7_2)⟩
theorem dec4_fn (n : Int) (w : World) (hn : 0 ≤ n ∧ n < 100000) :
    Does Tryz.prog 57 [I (n)] w (fun v w1 => v = S (itoaS n) ∧ Mem w w1 [] []) := by
  have hM : Mem w w [] [] := Mem.refl
  refine Does.n1 Tryz.func57 rfl Tryz.results57 Tryz.ntmps57 rfl ?_
  refine pp 10 [] 5 (fun g5 => ?_) (fun g5 => ?_)
  · exfalso; omega
  · refine cd 14 [] (fun c12 => ?_) (fun c12 => ?_)
    · exfalso; omega
    · refine cd 7 [] (fun c18 => ?_) (fun c18 => ?_)
      · refine ov 3 [] (a := kadd) (b := ?_)
        refine ov 0 [] (s := Vn .u8 ((((UInt8.ofNat (48 + n.toNat))).toNat : Int))) (a := by exact cv (Ru.conv (c := (((UInt8.ofNat (48 + n.toNat))).toNat : Int)) Tryz.underlying3 Tryz.underlying5 rfl (by exact (IntKind.wrap_u8_of _ (by omega)).trans (by rw [UInt8.toNat_ofNat']; omega))) rfl) (b := ?_)
        refine Lt 0 [] (([(UInt8.ofNat (48 + n.toNat))]).map byteV) (fun w6_3 b6_3 hb6_3 hM6_3 => ?_)
        refine ov 0 [] (s := Vs ([(UInt8.ofNat (48 + n.toNat))])) (a := by exact cv (Ru.b2s (l := [(UInt8.ofNat (48 + n.toNat))]) Tryz.underlying22 Tryz.underlying5 Tryz.underlying9 rfl (hM6_3.rd 0 rfl)) rfl) (b := ?_)
        refine E1 3 [] (S ([(UInt8.ofNat (48 + n.toNat))])) ?_
        exact ⟨(by rw [itoa_dig (by omega) (by omega)]), (Mem.none hM6_3)⟩
      · refine any 2 [] 11 [] fun w7a hM7a => ?_
        refine av [0] [] 1 (s := Vi ((n / 10))) (a := by exact fun w2 hw2 => cv (Ru.quo rfl rfl (by omega)) rfl) (b := ?_)
        refine av [3] [] 4 (a := by exact fun _ hw2 => krem) (b := ?_)
        refine av [] [] 5 (a := by exact fun _ hw2 => kadd) (b := ?_)
        refine av [] [] 6 (s := Vn .u8 ((((UInt8.ofNat (48 + n.toNat % 10))).toNat : Int))) (a := by exact fun w2 hw2 => cv (Ru.conv (c := (((UInt8.ofNat (48 + n.toNat % 10))).toNat : Int)) Tryz.underlying3 Tryz.underlying5 rfl (by exact (IntKind.wrap_u8_of _ (by omega)).trans (by rw [UInt8.toNat_ofNat']; omega))) rfl) (b := ?_)
        refine aT [] [] 2 7 ?_ ?_
        · refine cp 0 [] (b := dec3_fn _ w7a qo) (c := fun w7_2 hM7_2 => ?_)
          refine os 0 [] [] ?_
          refine aO [] [] 7 ?_
          refine Lt 0 [] (([(UInt8.ofNat (48 + n.toNat % 10))]).map byteV) (fun w7_7 b7_7 hb7_7 hM7_7 => ?_)
          refine os 0 [] [] ?_
          refine aO [] [] 8 ?_
          refine ov 0 [] (s := Vs ([(UInt8.ofNat (48 + n.toNat % 10))])) (a := by exact cv (Ru.b2s (l := [(UInt8.ofNat (48 + n.toNat % 10))]) Tryz.underlying22 Tryz.underlying5 Tryz.underlying9 rfl (hM7_7.rd 0 rfl)) rfl) (b := ?_)
          refine os 0 [] [] ?_
          refine av [] [] 9 (a := by exact fun _ hw2 => kcat (h := by have := itoa_len (n := n / 10) (by omega) (by omega); simp; omega)) (b := ?_)
          refine an [10] [] ?_
          refine E1 1 [] (S ((itoaS (n / 10) ++ [(UInt8.ofNat (48 + n.toNat % 10))]))) ?_
          exact ⟨(by rw [itoa_ten (n := n) (by omega)]), (Mem.none hM7_7)⟩
        · refine Lt 0 [] (([(UInt8.ofNat (48 + n.toNat % 10))]).map byteV) (fun w7_7 b7_7 hb7_7 hM7_7 => ?_)
          refine os 0 [] [] ?_
          refine aT [] [] 2 8 ?_ ?_
          · refine cp 0 [] (b := dec3_fn _ w7_7 qo) (c := fun w7_2 hM7_2 => ?_)
            refine os 0 [] [] ?_
            refine aO [] [] 8 ?_
            refine ov 0 [] (s := Vs ([(UInt8.ofNat (48 + n.toNat % 10))])) (a := by exact cv (Ru.b2s (l := [(UInt8.ofNat (48 + n.toNat % 10))]) Tryz.underlying22 Tryz.underlying5 Tryz.underlying9 rfl (hM7_2.rd 0 rfl)) rfl) (b := ?_)
            refine os 0 [] [] ?_
            refine av [] [] 9 (a := by exact fun _ hw2 => kcat (h := by have := itoa_len (n := n / 10) (by omega) (by omega); simp; omega)) (b := ?_)
            refine an [10] [] ?_
            refine E1 1 [] (S ((itoaS (n / 10) ++ [(UInt8.ofNat (48 + n.toNat % 10))]))) ?_
            exact ⟨(by rw [itoa_ten (n := n) (by omega)]), (Mem.none hM7_2)⟩
          · refine ov 0 [] (s := Vs ([(UInt8.ofNat (48 + n.toNat % 10))])) (a := by exact cv (Ru.b2s (l := [(UInt8.ofNat (48 + n.toNat % 10))]) Tryz.underlying22 Tryz.underlying5 Tryz.underlying9 rfl (hM7_7.rd 0 rfl)) rfl) (b := ?_)
            refine os 0 [] [] ?_
            refine aO [] [] 2 ?_
            refine cp 0 [] (b := dec3_fn _ w7_7 qo) (c := fun w7_2 hM7_2 => ?_)
            refine os 0 [] [] ?_
            refine av [] [] 9 (a := by exact fun _ hw2 => kcat (h := by have := itoa_len (n := n / 10) (by omega) (by omega); simp; omega)) (b := ?_)
            refine an [10] [] ?_
            refine E1 1 [] (S ((itoaS (n / 10) ++ [(UInt8.ofNat (48 + n.toNat % 10))]))) ?_
            exact ⟨(by rw [itoa_ten (n := n) (by omega)]), (Mem.none hM7_2)⟩
theorem decimal_fn (n : Int) (w : World) (hn : -99999 ≤ n ∧ n ≤ 99999) :
    Does Tryz.prog 57 [I (n)] w (fun v w1 => v = S (itoaS n) ∧ Mem w w1 [] []) := by
  have hM : Mem w w [] [] := Mem.refl
  refine Does.n1 Tryz.func57 rfl Tryz.results57 Tryz.ntmps57 rfl ?_
  refine pp 10 [] 5 (fun g5 => ?_) (fun g5 => ?_)
  · refine ov 2 [] (s := Vi (-(n))) (a := by exact cv (Ru.neg rfl (by omega)) rfl) (b := ?_)
    refine ov 0 [] (s := Vb (false)) (a := by exact cv (Ru.congr (v := .bool (decide (n = -(n)))) (v' := .bool (false)) (Ru.eql rfl rfl) ((congrArg Value.bool (decide_eq_false (by omega))))) rfl) (b := ?_)
    refine cd 10 [] (fun c12 => ?_) (fun c12 => ?_)
    · refine ov 3 [] (s := Vi (-(n))) (a := by exact cv (Ru.neg rfl (by omega)) rfl) (b := ?_)
      refine cp 0 [] (b := dec4_fn _ w qo) (c := fun w4_2 hM4_2 => ?_)
      refine ov 0 [] (a := kcat (h := by have := itoa_len (n := -n) (by omega) (by omega); simp; omega)) (b := ?_)
      refine E1 3 [] (S (([45] ++ itoaS (-(n))))) ?_
      exact ⟨(by rw [itoa_min (n := n) (by omega)]; rfl), (Mem.none hM4_2)⟩
    · refine cd 7 [] (fun c18 => ?_) (fun c18 => ?_)
      · refine ov 3 [] (a := kadd) (b := ?_)
        refine ov 0 [] (s := Vn .u8 ((((UInt8.ofNat (48 + n.toNat))).toNat : Int))) (a := by exact cv (Ru.conv (c := (((UInt8.ofNat (48 + n.toNat))).toNat : Int)) Tryz.underlying3 Tryz.underlying5 rfl (by exact (IntKind.wrap_u8_of _ (by omega)).trans (by rw [UInt8.toNat_ofNat']; omega))) rfl) (b := ?_)
        refine Lt 0 [] (([(UInt8.ofNat (48 + n.toNat))]).map byteV) (fun w6_3 b6_3 hb6_3 hM6_3 => ?_)
        refine ov 0 [] (s := Vs ([(UInt8.ofNat (48 + n.toNat))])) (a := by exact cv (Ru.b2s (l := [(UInt8.ofNat (48 + n.toNat))]) Tryz.underlying22 Tryz.underlying5 Tryz.underlying9 rfl (hM6_3.rd 0 rfl)) rfl) (b := ?_)
        refine E1 3 [] (S ([(UInt8.ofNat (48 + n.toNat))])) ?_
        exact ⟨(by rw [itoa_dig (by omega) (by omega)]), (Mem.none hM6_3)⟩
      · refine any 2 [] 11 [] fun w7a hM7a => ?_
        refine av [0] [] 1 (s := Vi ((n / 10))) (a := by exact fun w2 hw2 => cv (Ru.quo rfl rfl (by omega)) rfl) (b := ?_)
        refine av [3] [] 4 (a := by exact fun _ hw2 => krem) (b := ?_)
        refine av [] [] 5 (a := by exact fun _ hw2 => kadd) (b := ?_)
        refine av [] [] 6 (s := Vn .u8 ((((UInt8.ofNat (48 + n.toNat % 10))).toNat : Int))) (a := by exact fun w2 hw2 => cv (Ru.conv (c := (((UInt8.ofNat (48 + n.toNat % 10))).toNat : Int)) Tryz.underlying3 Tryz.underlying5 rfl (by exact (IntKind.wrap_u8_of _ (by omega)).trans (by rw [UInt8.toNat_ofNat']; omega))) rfl) (b := ?_)
        refine aT [] [] 2 7 ?_ ?_
        · refine cp 0 [] (b := dec4_fn _ w7a qo) (c := fun w7_2 hM7_2 => ?_)
          refine os 0 [] [] ?_
          refine aO [] [] 7 ?_
          refine Lt 0 [] (([(UInt8.ofNat (48 + n.toNat % 10))]).map byteV) (fun w7_7 b7_7 hb7_7 hM7_7 => ?_)
          refine os 0 [] [] ?_
          refine aO [] [] 8 ?_
          refine ov 0 [] (s := Vs ([(UInt8.ofNat (48 + n.toNat % 10))])) (a := by exact cv (Ru.b2s (l := [(UInt8.ofNat (48 + n.toNat % 10))]) Tryz.underlying22 Tryz.underlying5 Tryz.underlying9 rfl (hM7_7.rd 0 rfl)) rfl) (b := ?_)
          refine os 0 [] [] ?_
          refine av [] [] 9 (a := by exact fun _ hw2 => kcat (h := by have := itoa_len (n := n / 10) (by omega) (by omega); simp; omega)) (b := ?_)
          refine an [10] [] ?_
          refine E1 1 [] (S ((itoaS (n / 10) ++ [(UInt8.ofNat (48 + n.toNat % 10))]))) ?_
          exact ⟨(by rw [itoa_ten (n := n) (by omega)]), (Mem.none hM7_7)⟩
        · refine Lt 0 [] (([(UInt8.ofNat (48 + n.toNat % 10))]).map byteV) (fun w7_7 b7_7 hb7_7 hM7_7 => ?_)
          refine os 0 [] [] ?_
          refine aT [] [] 2 8 ?_ ?_
          · refine cp 0 [] (b := dec4_fn _ w7_7 qo) (c := fun w7_2 hM7_2 => ?_)
            refine os 0 [] [] ?_
            refine aO [] [] 8 ?_
            refine ov 0 [] (s := Vs ([(UInt8.ofNat (48 + n.toNat % 10))])) (a := by exact cv (Ru.b2s (l := [(UInt8.ofNat (48 + n.toNat % 10))]) Tryz.underlying22 Tryz.underlying5 Tryz.underlying9 rfl (hM7_2.rd 0 rfl)) rfl) (b := ?_)
            refine os 0 [] [] ?_
            refine av [] [] 9 (a := by exact fun _ hw2 => kcat (h := by have := itoa_len (n := n / 10) (by omega) (by omega); simp; omega)) (b := ?_)
            refine an [10] [] ?_
            refine E1 1 [] (S ((itoaS (n / 10) ++ [(UInt8.ofNat (48 + n.toNat % 10))]))) ?_
            exact ⟨(by rw [itoa_ten (n := n) (by omega)]), (Mem.none hM7_2)⟩
          · refine ov 0 [] (s := Vs ([(UInt8.ofNat (48 + n.toNat % 10))])) (a := by exact cv (Ru.b2s (l := [(UInt8.ofNat (48 + n.toNat % 10))]) Tryz.underlying22 Tryz.underlying5 Tryz.underlying9 rfl (hM7_7.rd 0 rfl)) rfl) (b := ?_)
            refine os 0 [] [] ?_
            refine aO [] [] 2 ?_
            refine cp 0 [] (b := dec4_fn _ w7_7 qo) (c := fun w7_2 hM7_2 => ?_)
            refine os 0 [] [] ?_
            refine av [] [] 9 (a := by exact fun _ hw2 => kcat (h := by have := itoa_len (n := n / 10) (by omega) (by omega); simp; omega)) (b := ?_)
            refine an [10] [] ?_
            refine E1 1 [] (S ((itoaS (n / 10) ++ [(UInt8.ofNat (48 + n.toNat % 10))]))) ?_
            exact ⟨(by rw [itoa_ten (n := n) (by omega)]), (Mem.none hM7_2)⟩
  · refine cd 14 [] (fun c12 => ?_) (fun c12 => ?_)
    · refine ov 3 [] (s := Vi (-(n))) (a := by exact cv (Ru.neg rfl (by omega)) rfl) (b := ?_)
      refine cp 0 [] (b := dec4_fn _ w qo) (c := fun w4_2 hM4_2 => ?_)
      refine ov 0 [] (a := kcat (h := by have := itoa_len (n := -n) (by omega) (by omega); simp; omega)) (b := ?_)
      refine E1 3 [] (S (([45] ++ itoaS (-(n))))) ?_
      exact ⟨(by rw [itoa_min (n := n) (by omega)]; rfl), (Mem.none hM4_2)⟩
    · refine cd 7 [] (fun c18 => ?_) (fun c18 => ?_)
      · refine ov 3 [] (a := kadd) (b := ?_)
        refine ov 0 [] (s := Vn .u8 ((((UInt8.ofNat (48 + n.toNat))).toNat : Int))) (a := by exact cv (Ru.conv (c := (((UInt8.ofNat (48 + n.toNat))).toNat : Int)) Tryz.underlying3 Tryz.underlying5 rfl (by exact (IntKind.wrap_u8_of _ (by omega)).trans (by rw [UInt8.toNat_ofNat']; omega))) rfl) (b := ?_)
        refine Lt 0 [] (([(UInt8.ofNat (48 + n.toNat))]).map byteV) (fun w6_3 b6_3 hb6_3 hM6_3 => ?_)
        refine ov 0 [] (s := Vs ([(UInt8.ofNat (48 + n.toNat))])) (a := by exact cv (Ru.b2s (l := [(UInt8.ofNat (48 + n.toNat))]) Tryz.underlying22 Tryz.underlying5 Tryz.underlying9 rfl (hM6_3.rd 0 rfl)) rfl) (b := ?_)
        refine E1 3 [] (S ([(UInt8.ofNat (48 + n.toNat))])) ?_
        exact ⟨(by rw [itoa_dig (by omega) (by omega)]), (Mem.none hM6_3)⟩
      · refine any 2 [] 11 [] fun w7a hM7a => ?_
        refine av [0] [] 1 (s := Vi ((n / 10))) (a := by exact fun w2 hw2 => cv (Ru.quo rfl rfl (by omega)) rfl) (b := ?_)
        refine av [3] [] 4 (a := by exact fun _ hw2 => krem) (b := ?_)
        refine av [] [] 5 (a := by exact fun _ hw2 => kadd) (b := ?_)
        refine av [] [] 6 (s := Vn .u8 ((((UInt8.ofNat (48 + n.toNat % 10))).toNat : Int))) (a := by exact fun w2 hw2 => cv (Ru.conv (c := (((UInt8.ofNat (48 + n.toNat % 10))).toNat : Int)) Tryz.underlying3 Tryz.underlying5 rfl (by exact (IntKind.wrap_u8_of _ (by omega)).trans (by rw [UInt8.toNat_ofNat']; omega))) rfl) (b := ?_)
        refine aT [] [] 2 7 ?_ ?_
        · refine cp 0 [] (b := dec4_fn _ w7a qo) (c := fun w7_2 hM7_2 => ?_)
          refine os 0 [] [] ?_
          refine aO [] [] 7 ?_
          refine Lt 0 [] (([(UInt8.ofNat (48 + n.toNat % 10))]).map byteV) (fun w7_7 b7_7 hb7_7 hM7_7 => ?_)
          refine os 0 [] [] ?_
          refine aO [] [] 8 ?_
          refine ov 0 [] (s := Vs ([(UInt8.ofNat (48 + n.toNat % 10))])) (a := by exact cv (Ru.b2s (l := [(UInt8.ofNat (48 + n.toNat % 10))]) Tryz.underlying22 Tryz.underlying5 Tryz.underlying9 rfl (hM7_7.rd 0 rfl)) rfl) (b := ?_)
          refine os 0 [] [] ?_
          refine av [] [] 9 (a := by exact fun _ hw2 => kcat (h := by have := itoa_len (n := n / 10) (by omega) (by omega); simp; omega)) (b := ?_)
          refine an [10] [] ?_
          refine E1 1 [] (S ((itoaS (n / 10) ++ [(UInt8.ofNat (48 + n.toNat % 10))]))) ?_
          exact ⟨(by rw [itoa_ten (n := n) (by omega)]), (Mem.none hM7_7)⟩
        · refine Lt 0 [] (([(UInt8.ofNat (48 + n.toNat % 10))]).map byteV) (fun w7_7 b7_7 hb7_7 hM7_7 => ?_)
          refine os 0 [] [] ?_
          refine aT [] [] 2 8 ?_ ?_
          · refine cp 0 [] (b := dec4_fn _ w7_7 qo) (c := fun w7_2 hM7_2 => ?_)
            refine os 0 [] [] ?_
            refine aO [] [] 8 ?_
            refine ov 0 [] (s := Vs ([(UInt8.ofNat (48 + n.toNat % 10))])) (a := by exact cv (Ru.b2s (l := [(UInt8.ofNat (48 + n.toNat % 10))]) Tryz.underlying22 Tryz.underlying5 Tryz.underlying9 rfl (hM7_2.rd 0 rfl)) rfl) (b := ?_)
            refine os 0 [] [] ?_
            refine av [] [] 9 (a := by exact fun _ hw2 => kcat (h := by have := itoa_len (n := n / 10) (by omega) (by omega); simp; omega)) (b := ?_)
            refine an [10] [] ?_
            refine E1 1 [] (S ((itoaS (n / 10) ++ [(UInt8.ofNat (48 + n.toNat % 10))]))) ?_
            exact ⟨(by rw [itoa_ten (n := n) (by omega)]), (Mem.none hM7_2)⟩
          · refine ov 0 [] (s := Vs ([(UInt8.ofNat (48 + n.toNat % 10))])) (a := by exact cv (Ru.b2s (l := [(UInt8.ofNat (48 + n.toNat % 10))]) Tryz.underlying22 Tryz.underlying5 Tryz.underlying9 rfl (hM7_7.rd 0 rfl)) rfl) (b := ?_)
            refine os 0 [] [] ?_
            refine aO [] [] 2 ?_
            refine cp 0 [] (b := dec4_fn _ w7_7 qo) (c := fun w7_2 hM7_2 => ?_)
            refine os 0 [] [] ?_
            refine av [] [] 9 (a := by exact fun _ hw2 => kcat (h := by have := itoa_len (n := n / 10) (by omega) (by omega); simp; omega)) (b := ?_)
            refine an [10] [] ?_
            refine E1 1 [] (S ((itoaS (n / 10) ++ [(UInt8.ofNat (48 + n.toNat % 10))]))) ?_
            exact ⟨(by rw [itoa_ten (n := n) (by omega)]), (Mem.none hM7_2)⟩
end Go.Proofs.YtemejgglbhjodaaGreatDoor
end
section
namespace Go.Proofs.YtemejgglbhjodaaGreatDoor
open Go.Px
theorem rowText_fn (A : Option Addr) (c : Nat) (l : List PairT) (w : World) (hA : Rd w A ((l).flatMap encP)) (hl : l.length ≤ 1048576) (hv : ∀ p ∈ l, small p) (h24 : l.length ≤ 24) :
    Does Tryz.prog 48 [.slice (A) ((l).length) (c)] w (fun v w1 => v = S (fmtL l) ∧ Mem w w1 [] []) := by
  have hM : Mem w w [] [] := Mem.refl
  refine Does.n1 Tryz.func48 rfl Tryz.results48 Tryz.ntmps48 rfl ?_
  refine lp1 14 [] (fun (k : Nat) => ([(3, Vs (fmtL (l.take k))), (4, Vi (((k : Nat) : Int)))] : List (Nat × SV))) (fun (k : Nat) => (k ≤ l.length)) (fun (k : Nat) => []) (fun (k : Nat) => l.length - k) [0] [] [] 0 (fun k σ w_l3 hI hM_l3 => ?_) (hL := by exact (Has.cons (congrArg S (by simp [fmtL])) (Has.cons (I_congr (by first | rfl | omega | (simp; omega) | simp)) Has.nil))) (h0 := (Nat.zero_le _))
  have hi0_l3 := hI
  refine cd 8 [] (fun c8 => ?_) (fun c8 => ?_)
  · have hkl : k < l.length := by omega
    have hsm := hv _ (List.getElem_mem hkl)
    have hfl := fmtL_len (l := l) k hv hi0_l3
    have hl1 := itoa_len (n := l[k].key) (by have := hsm.1; omega) (by have := hsm.1; omega)
    have hl2 := itoa_len (n := l[k].val) (by have := hsm.2; omega) (by have := hsm.2; omega)
    have hs1 := hsm.1
    have hs2 := hsm.2
    refine cd 9 [] (fun c12 => ?_) (fun c12 => ?_)
    · have hk0 : k ≠ 0 := by omega
      refine ov 2 [] (a := kcat (h := by first | omega | (simp; omega))) (b := ?_)
      refine dr 2 [] ?_
      have hx7_3 : k < (l).length := (by first | omega | (simp; omega))
      refine qv 3 [] (a := by exact fun _ hw2 => kixF hx7_3 (hA.at hw2)) (b := ?_)
      refine qv 0 [] (a := by exact fun _ hw2 => kflF hx7_3 (hA.at hw2)) (b := ?_)
      refine qv 0 [] (a := by exact fun _ hw2 => kldF hx7_3 (hA.at hw2)) (b := ?_)
      refine qc 0 [] (X := S (itoaS (((l)[k]'hx7_3).key))) (b := by exact fun w2 hw2 => (decimal_fn (((l)[k]'hx7_3).key) w2 qo).mono fun _ _ h => ⟨h.1, Mem.call0 hw2 h.2⟩) (c := ?_)
      refine qv 0 [] (a := by exact fun _ hw2 => kcat (h := by first | omega | (simp; omega))) (b := ?_)
      refine qv 0 [] (a := by exact fun _ hw2 => kcat (h := by first | omega | (simp; omega))) (b := ?_)
      have hx7_11 : k < (l).length := (by first | omega | (simp; omega))
      refine qv 2 [] (a := by exact fun _ hw2 => kixF hx7_11 (hA.at hw2)) (b := ?_)
      refine qv 0 [] (a := by exact fun _ hw2 => kflF hx7_11 (hA.at hw2)) (b := ?_)
      refine qv 0 [] (a := by exact fun _ hw2 => kldF hx7_11 (hA.at hw2)) (b := ?_)
      refine qc 0 [] (X := S (itoaS (((l)[k]'hx7_11).val))) (b := by exact fun w2 hw2 => (decimal_fn (((l)[k]'hx7_11).val) w2 qo).mono fun _ _ h => ⟨h.1, Mem.call0 hw2 h.2⟩) (c := ?_)
      refine qv 0 [] (a := by exact fun _ hw2 => kcat (h := by first | omega | (simp; omega))) (b := ?_)
      refine qn 1 [] fun w7d hM7d => ?_
      refine ov 2 [] (a := kaddN (k + 1)) (b := ?_)
      exact le1 2 [] (k + 1) [] (hL := by exact (Has.cons (congrArg S (by rw [fmtL_take hkl]; simp [fmtP, hk0])) (Has.cons (I_congr (by first | rfl | omega | (simp; omega) | simp)) Has.nil))) (h := by exact (by (try dsimp only); omega))
    · have hk0 : k = 0 := by omega
      refine dr 1 [] ?_
      have hx7_3 : k < (l).length := (by first | omega | (simp; omega))
      refine qv 3 [] (a := by exact fun _ hw2 => kixF hx7_3 (hA.at hw2)) (b := ?_)
      refine qv 0 [] (a := by exact fun _ hw2 => kflF hx7_3 (hA.at hw2)) (b := ?_)
      refine qv 0 [] (a := by exact fun _ hw2 => kldF hx7_3 (hA.at hw2)) (b := ?_)
      refine qc 0 [] (X := S (itoaS (((l)[k]'hx7_3).key))) (b := by exact fun w2 hw2 => (decimal_fn (((l)[k]'hx7_3).key) w2 qo).mono fun _ _ h => ⟨h.1, Mem.call0 hw2 h.2⟩) (c := ?_)
      refine qv 0 [] (a := by exact fun _ hw2 => kcat (h := by first | omega | (simp; omega))) (b := ?_)
      refine qv 0 [] (a := by exact fun _ hw2 => kcat (h := by first | omega | (simp; omega))) (b := ?_)
      have hx7_11 : k < (l).length := (by first | omega | (simp; omega))
      refine qv 2 [] (a := by exact fun _ hw2 => kixF hx7_11 (hA.at hw2)) (b := ?_)
      refine qv 0 [] (a := by exact fun _ hw2 => kflF hx7_11 (hA.at hw2)) (b := ?_)
      refine qv 0 [] (a := by exact fun _ hw2 => kldF hx7_11 (hA.at hw2)) (b := ?_)
      refine qc 0 [] (X := S (itoaS (((l)[k]'hx7_11).val))) (b := by exact fun w2 hw2 => (decimal_fn (((l)[k]'hx7_11).val) w2 qo).mono fun _ _ h => ⟨h.1, Mem.call0 hw2 h.2⟩) (c := ?_)
      refine qv 0 [] (a := by exact fun _ hw2 => kcat (h := by first | omega | (simp; omega))) (b := ?_)
      refine qn 1 [] fun w7d hM7d => ?_
      refine ov 2 [] (a := kaddN (k + 1)) (b := ?_)
      exact le1 2 [] (k + 1) [] (hL := by exact (Has.cons (congrArg S (by rw [fmtL_take hkl]; simp [fmtP, hk0])) (Has.cons (I_congr (by first | rfl | omega | (simp; omega) | simp)) Has.nil))) (h := by exact (by (try dsimp only); omega))
  · refine E1 7 [] (S (fmtL (l.take k))) ?_
    exact ⟨(congrArg S (by rw [take_all (by omega)])), (Mem.none hM_l3)⟩
end Go.Proofs.YtemejgglbhjodaaGreatDoor
end
section
namespace Go.Proofs
open Go.Shelf
def Tryz.lays169_ren : Go.Shelf.Ren := ⟨fun | 169 => 64 | n => n, fun | 70 => 91 | 9 => 9 | 0 => 0 | 72 => 93 | 37 => 22 | 127 => 139 | 3 => 3 | 5 => 5 | n => n, fun | n => n⟩
theorem Tryz.lays169 : Go.Proofs.Lays.n169 Tryz.prog Tryz.lays169_ren := {
  mixed := by kernel_rfl
  f169 := Tryz.func64.trans (congrArg some (by kernel_rfl))
  t0 := Tryz.underlying0
  a0 := Tryz.isAgg0
  z0 := Tryz.sizeOf0
  v0 := Tryz.zeroValue0
  t3 := Tryz.underlying3
  a3 := Tryz.isAgg3
  z3 := Tryz.sizeOf3
  v3 := Tryz.zeroValue3
  t9 := Tryz.underlying9
  a9 := Tryz.isAgg9
  z9 := Tryz.sizeOf9
  v9 := Tryz.zeroValue9
  t37 := Tryz.underlying22
  a37 := Tryz.isAgg22
  z37 := Tryz.sizeOf22
  v37 := Tryz.zeroValue22
  t70 := Tryz.underlying91
  a70 := Tryz.isAgg91
  z70 := Tryz.sizeOf91
  v70 := Tryz.zeroValue91
  t72 := Tryz.underlying93
  a72 := Tryz.isAgg93
  z72 := Tryz.sizeOf93
  v72 := Tryz.zeroValue93
  t127 := Tryz.underlying139
  a127 := Tryz.isAgg139
  z127 := Tryz.sizeOf139
  v127 := Tryz.zeroValue139 }
theorem Tryz.Builder_Extra_169 : Builder.Extra Tryz.prog Tryz.lays169_ren := {
  sizeBuilder := by kernel_rfl
  liesBuilder := by kernel_rfl
  t5 := Tryz.underlying5
  a5 := Tryz.isAgg5
  z5 := Tryz.sizeOf5
  v5 := Tryz.zeroValue5
  infoByte := by kernel_rfl
  cellsByte := by kernel_rfl
  sizeByte := by kernel_rfl
  neB5 := by decide }
open Go.RowKit in
theorem Tryz.Builder_String_any (B b : Nat) (l : List UInt8) (w : World) (h : Lib.IsBuilder 93 5 B b (Lib.byteCells l) w) (hBw : B ≤ w.heap.size) :
    Calls Tryz.prog 64 #[.pointer (some ⟨b, 0, none⟩)] w fun e w' => e = .returned (.string ⟨l.toArray⟩) ∧ Below B w w' := Any.Builder_String_any Tryz.lays169 Tryz.Builder_Extra_169 B b l w h hBw
def Tryz.laysM171_ren : Go.Shelf.Ren := ⟨fun | 171 => 88 | 243 => 133 | 246 => 162 | 283 => 181 | 284 => 182 | 285 => 183 | 286 => 184 | 129 => 205 | 317 => 204 | 318 => 206 | 319 => 207 | 320 => 208 | 337 => 219 | 338 => 220 | n => n, fun | 3 => 3 | 9 => 9 | 2 => 2 | 4 => 4 | 171 => 179 | 0 => 0 | 53 => 180 | 37 => 22 | 5 => 5 | 173 => 183 | 212 => 201 | 51 => 202 | 20 => 20 | 213 => 203 | 46 => 176 | 232 => 229 | 233 => 230 | n => n, fun | 17 => 1 | 18 => 6 | 19 => 7 | n => n⟩
theorem Tryz.laysM171 : Go.Proofs.LaysM.n171 Tryz.prog Tryz.laysM171_ren := {
  mixed := by kernel_rfl
  f129 := Tryz.func205.trans (congrArg some (by kernel_rfl))
  f171 := Tryz.func88.trans (congrArg some (by kernel_rfl))
  f243 := Tryz.func133.trans (congrArg some (by kernel_rfl))
  f246 := Tryz.func162.trans (congrArg some (by kernel_rfl))
  f283 := Tryz.func181.trans (congrArg some (by kernel_rfl))
  f284 := Tryz.func182.trans (congrArg some (by kernel_rfl))
  f285 := Tryz.func183.trans (congrArg some (by kernel_rfl))
  f286 := Tryz.func184.trans (congrArg some (by kernel_rfl))
  f317 := Tryz.func204.trans (congrArg some (by kernel_rfl))
  f318 := Tryz.func206.trans (congrArg some (by kernel_rfl))
  f319 := Tryz.func207.trans (congrArg some (by kernel_rfl))
  f320 := Tryz.func208.trans (congrArg some (by kernel_rfl))
  f337 := Tryz.func219.trans (congrArg some (by kernel_rfl))
  f338 := Tryz.func220.trans (congrArg some (by kernel_rfl))
  t0 := Tryz.underlying0
  a0 := Tryz.isAgg0
  z0 := Tryz.sizeOf0
  v0 := Tryz.zeroValue0
  t2 := Tryz.underlying2
  a2 := Tryz.isAgg2
  z2 := Tryz.sizeOf2
  v2 := Tryz.zeroValue2
  t3 := Tryz.underlying3
  a3 := Tryz.isAgg3
  z3 := Tryz.sizeOf3
  v3 := Tryz.zeroValue3
  t4 := Tryz.underlying4
  a4 := Tryz.isAgg4
  z4 := Tryz.sizeOf4
  v4 := Tryz.zeroValue4
  t5 := Tryz.underlying5
  a5 := Tryz.isAgg5
  z5 := Tryz.sizeOf5
  v5 := Tryz.zeroValue5
  t9 := Tryz.underlying9
  a9 := Tryz.isAgg9
  z9 := Tryz.sizeOf9
  v9 := Tryz.zeroValue9
  t20 := Tryz.underlying20
  a20 := Tryz.isAgg20
  z20 := Tryz.sizeOf20
  v20 := Tryz.zeroValue20
  t37 := Tryz.underlying22
  a37 := Tryz.isAgg22
  z37 := Tryz.sizeOf22
  v37 := Tryz.zeroValue22
  t46 := Tryz.underlying176
  a46 := Tryz.isAgg176
  z46 := Tryz.sizeOf176
  v46 := Tryz.zeroValue176
  t51 := Tryz.underlying202
  a51 := Tryz.isAgg202
  z51 := Tryz.sizeOf202
  v51 := Tryz.zeroValue202
  t53 := Tryz.underlying180
  a53 := Tryz.isAgg180
  z53 := Tryz.sizeOf180
  v53 := Tryz.zeroValue180
  t171 := Tryz.underlying179
  a171 := Tryz.isAgg179
  z171 := Tryz.sizeOf179
  v171 := Tryz.zeroValue179
  t173 := Tryz.underlying183
  a173 := Tryz.isAgg183
  z173 := Tryz.sizeOf183
  v173 := Tryz.zeroValue183
  t212 := Tryz.underlying201
  a212 := Tryz.isAgg201
  z212 := Tryz.sizeOf201
  v212 := Tryz.zeroValue201
  t213 := Tryz.underlying203
  a213 := Tryz.isAgg203
  z213 := Tryz.sizeOf203
  t232 := Tryz.underlying229
  a232 := Tryz.isAgg229
  z232 := Tryz.sizeOf229
  v232 := Tryz.zeroValue229
  t233 := Tryz.underlying230
  a233 := Tryz.isAgg230
  z233 := Tryz.sizeOf230
  v233 := Tryz.zeroValue230
  g17 := by kernel_rfl
  g18 := by kernel_rfl
  g19 := by kernel_rfl
  i0 := by kernel_rfl
  i2 := by kernel_rfl
  i3 := by kernel_rfl
  i4 := by kernel_rfl
  i5 := by kernel_rfl
  i9 := by kernel_rfl
  i20 := by kernel_rfl
  i37 := by kernel_rfl
  i46 := by kernel_rfl
  i51 := by kernel_rfl
  i53 := by kernel_rfl
  i171 := by kernel_rfl
  i173 := by kernel_rfl
  i212 := by kernel_rfl
  i232 := by kernel_rfl
  i233 := by kernel_rfl
  m17 := by kernel_rfl
  m18 := by kernel_rfl
  m19 := by kernel_rfl }
end Go.Proofs
end
section
namespace Go.Proofs.YtemejgglbhjodaaGreatDoor
open Go.Px Go.RowKit
def tabN : String := Rows.fnPageTextRow.named.headD ""
abbrev TAB (w : World) : Prop := Lib.TabIs Tryz.prog w tabN .u64 Lib.pow10Tab
theorem Itoa_fn (n : Int) (w : World) (htab : TAB w) (hn : -9223372036854775808 ≤ n ∧ n ≤ 9223372036854775807) : Does Tryz.prog 88 [I (n)] w (fun v w1 => v = S (itoaS n) ∧ Mem w w1 [] []) :=
  ⟨(Any.strconv_Itoa Tryz.laysM171 n hn.1 hn.2 w htab).mono fun e w' ⟨he, k, os, hw⟩ => ⟨_, he, rfl, by rw [hw]; exact Px.mem_grow⟩⟩
theorem String_fn {l : Str} {b : Nat} (w : World) {B : Nat} (hBw : B ≤ w.heap.size) (h : Lib.IsBuilder 93 5 B b (Lib.byteCells l) w) : Does Tryz.prog 64 [.pointer (ofs (bl b) 0)] w (fun v w1 => v = S l ∧ Below B w w1) :=
  ⟨(Tryz.Builder_String_any B b l w h hBw).mono fun e w' ⟨he, hw⟩ => ⟨_, he, rfl, hw⟩⟩
end Go.Proofs.YtemejgglbhjodaaGreatDoor
namespace Go.Px
open Go.RowKit
section
variable {w0 w w1 : World} {M : List (List FE)}
theorem mem_below (h : Mem w0 w [] M) (hB : Below w0.heap.size w w1) : Mem w0 w1 [] [] :=
  ⟨hB.os.trans h.os, hB.tape.trans h.tape, hB.output.trans h.output, Nat.le_trans h.size hB.size, fun k hk hr => (hB.block k hk).trans (h.block k hk hr), by simp, by simp, by simp⟩
theorem Mem0.builder {A : Option Addr} {b c T e : Nat} {p : Value} {l : Str} (h : Mem w0 w [] M) (i j : Nat) (hi : M[i]? = some [⟨.slice (bl b) 1 1, T, 2, 1, [p, .slice A l.length c]⟩]) (hj : M[j]? = some [⟨.slice A l.length c, e, 1, l.length, l.map byteV⟩]) (hp : p = .pointer none ∨ p = .pointer (ofs (bl b) 0)) (hij : i ≠ j := by decide) : Lib.IsBuilder T e w0.heap.size b (Lib.byteCells l) w := by
  have hb := mem_blk (i := i) (j := 0) h hi rfl
  have ho : Px.own w 0 e 1 (.slice A l.length c) l.length (l.map byteV) := h.get hj (j := 0) rfl
  have hbb : w0.heap.size ≤ b := by
    rcases h.born _ (List.mem_flatten.2 ⟨_, List.mem_of_getElem? hi, List.mem_singleton.2 rfl⟩) b rfl with h1 | h1
    · exact h1
    · simp at h1
  have hg := Px.grp_get (List.pairwise_flatten.1 h.apart).2 hi hj hij
  have hap : Apart _ _ := hg _ (List.mem_singleton.2 rfl) _ (List.mem_singleton.2 rfl)
  have key : ∀ q : Value, p = q → Lib.BuilderAt T e w0.heap.size b q (Lib.byteCells l) w := by
    rintro q rfl
    refine ⟨hbb, _, hb, ⟨?_, ?_⟩, ?_⟩
    · simp [Lib.byteCells]
    · have hlen : (Lib.byteCells l).length = l.length := by simp [Lib.byteCells]
      rw [hlen]
      obtain ⟨_, ⟨hv, h0⟩ | ⟨g, cap, cur, hv, hbg, hgg, hnc, hcm, hcs, ht⟩⟩ := ho
      · left; exact ⟨hv, h0⟩
      · right
        refine ⟨g, cap, cur, hv, ?_, hgg, hnc, hcm, hcs, ht⟩
        rcases h.born _ (List.mem_flatten.2 ⟨_, List.mem_of_getElem? hj, List.mem_singleton.2 rfl⟩) g (by rw [FE.blk, hv]; rfl) with h1 | h1
        · exact h1
        · simp at h1
    · intro e'
      exact hap b rfl e'
  rcases hp with hp | hp
  · exact .inl (key _ hp)
  · exact .inr (key _ hp)
end
end Go.Px
end
section
namespace Go.Proofs.YtemejgglbhjodaaGreatDoor
open Go.Px
theorem copyN_fn (b : Nat) (A : Option Addr) (n : Nat) (c : Nat) (w : World) (hM : Mem w w [some b] [[⟨.slice (bl b) 1 1, 93, 2, 1, [(.pointer none), .slice (A) (n) (c)]⟩]]) :
    Does Tryz.prog 98 [.pointer (ofs (bl b) (0))] w (fun v w1 => v = (.tuple #[]) ∧ Mem w w1 [some b] [[⟨.slice (bl b) 1 1, 93, 2, 1, [.pointer (ofs (bl b) (0)), .slice (A) (n) (c)]⟩]]) := by
  refine Does.n0 Tryz.func98 rfl Tryz.results98 Tryz.ntmps98 rfl ?_
  refine ov 6 [0] (s := Vb (true)) (a := by exact cv (Ru.peqN (a := none) Tryz.underlying91 rfl rfl) rfl) (b := ?_)
  refine ov 5 [] (s := Vp (bl b) (0)) (a := by exact cv (Ru.toUns (l := [(.pointer none), .slice (A) (n) (c)]) Tryz.underlying91 Tryz.underlying152 el93 (by decide) (mem_blk (i := 0) (j := 0) hM rfl rfl) (by simp) rfl) rfl) (b := ?_)
  refine ov 0 [] (s := Vp (bl b) (0)) (a := by exact cv (Ru.noEsc Tryz.func140 (by kernel_rfl) (by kernel_rfl) (by kernel_rfl) (by kernel_rfl) rfl) rfl) (b := ?_)
  refine ov 0 [] (s := Vp (bl b) (0)) (a := by exact cv (Ru.frUns (l := [(.pointer none), .slice (A) (n) (c)]) Tryz.underlying152 Tryz.underlying91 el93 (mem_blk (i := 0) (j := 0) hM rfl rfl) (by kernel_rfl) rfl) rfl) (b := ?_)
  refine Sb 2 [] 0 fun w1_7 hM1_7 => ?_
  refine E0 1 [] ?_
  exact ⟨(by first | rfl | exact sl_congr (by first | omega | (simp; done) | (simp; omega)) | (simp; done)), (hM1_7.pk [0])⟩
theorem copyS_fn (b : Nat) (A : Option Addr) (n : Nat) (c : Nat) (w : World) (hM : Mem w w [some b] [[⟨.slice (bl b) 1 1, 93, 2, 1, [.pointer (ofs (bl b) (0)), .slice (A) (n) (c)]⟩]]) :
    Does Tryz.prog 98 [.pointer (ofs (bl b) (0))] w (fun v w1 => v = (.tuple #[]) ∧ Mem w w1 [some b] [[⟨.slice (bl b) 1 1, 93, 2, 1, [.pointer (ofs (bl b) (0)), .slice (A) (n) (c)]⟩]]) := by
  refine Does.n0 Tryz.func98 rfl Tryz.results98 Tryz.ntmps98 rfl ?_
  refine ov 6 [0] (s := Vb (false)) (a := by exact cv (Ru.peqN (a := ofs (bl b) (0)) Tryz.underlying91 rfl rfl) rfl) (b := ?_)
  refine ov 9 [0] (s := Vb (false)) (a := by exact cv (Ru.pneS (a := ⟨b, 0, Option.none⟩) Tryz.underlying91 el93 rfl rfl) rfl) (b := ?_)
  refine E0 3 [] ?_
  exact ⟨(by first | rfl | exact sl_congr (by first | omega | (simp; done) | (simp; omega)) | (simp; done)), (hM.pk [0])⟩
theorem copyCheck_fn (b : Nat) (p : Value) (A : Option Addr) (n : Nat) (c : Nat) (w : World) (hM : Mem w w [some b] [[⟨.slice (bl b) 1 1, 93, 2, 1, [(p), .slice (A) (n) (c)]⟩]]) (hp : p = .pointer none ∨ p = .pointer (ofs (bl b) 0)) :
    Does Tryz.prog 98 [.pointer (ofs (bl b) (0))] w (fun v w1 => v = (.tuple #[]) ∧ Mem w w1 [some b] [[⟨.slice (bl b) 1 1, 93, 2, 1, [.pointer (ofs (bl b) (0)), .slice (A) (n) (c)]⟩]]) := by
  rcases hp with rfl | rfl
  · exact copyN_fn b A n c w hM
  · exact copyS_fn b A n c w hM
theorem WriteByte_fn (b : Nat) (A : Option Addr) (c : Nat) (l : List UInt8) (p : Value) (ch : UInt8) (w : World) (hM : Mem w w [some b, (Value.slice (A) ((l).length) (c)).ownBlock] [[⟨.slice (bl b) 1 1, 93, 2, 1, [(p), .slice (A) ((l).length) (c)]⟩], [⟨.slice (A) ((l).length) (c), 5, 1, ((l).length), (l).map byteV⟩]]) (hp : p = .pointer none ∨ p = .pointer (ofs (bl b) 0)) (hl : l.length ≤ 1000000) :
    Does Tryz.prog 63 [.pointer (ofs (bl b) (0)), .int .u8 (((ch).toNat : Int))] w (fun v w1 => ∃ (A1 : Option Addr) (c1 : Nat), v = (.nilIface) ∧ Mem w w1 [some b, (Value.slice (A) ((l).length) (c)).ownBlock] [[⟨.slice (bl b) 1 1, 93, 2, 1, [.pointer (ofs (bl b) (0)), .slice (A1) ((l ++ [ch]).length) (c1)]⟩], [⟨.slice (A1) ((l ++ [ch]).length) (c1), 5, 1, ((l ++ [ch]).length), (l ++ [ch]).map byteV⟩]]) := by
  refine Does.n1 Tryz.func63 rfl Tryz.results63 Tryz.ntmps63 rfl ?_
  refine cq 7 [] (b := copyCheck_fn _ (p) A ((l).length) c w (hM.fp [0] rfl rfl) (by first | exact .inl rfl | exact .inr rfl | assumption)) (c := ?_)
  rintro _ w1_1 ⟨rfl, hR1_1⟩
  have hM1_1 := hM.cl 1 hR1_1
  refine Lt 9 [0] (([ch]).map byteV) (fun w2_6 b2_6 hb2_6 hM2_6 => ?_)
  refine aM 0 [] 2 (hM2_6.rd 0 rfl) (fun w2_7 A2_7 c2_7 hc2_7 hM2_7 => ?_)
  refine Sb 2 [] 1 fun w2_10 hM2_10 => ?_
  refine E1 6 [] (.nilIface) ?_
  exact ⟨A2_7, c2_7, (by first | rfl | exact sl_congr (by first | omega | (simp; done) | (simp; omega)) | (simp; done)), (hM2_10.pk [1, 2])⟩
theorem WriteString_fn (b : Nat) (A : Option Addr) (c : Nat) (l : List UInt8) (p : Value) (s : Str) (w : World) (hM : Mem w w [some b, (Value.slice (A) ((l).length) (c)).ownBlock] [[⟨.slice (bl b) 1 1, 93, 2, 1, [(p), .slice (A) ((l).length) (c)]⟩], [⟨.slice (A) ((l).length) (c), 5, 1, ((l).length), (l).map byteV⟩]]) (hp : p = .pointer none ∨ p = .pointer (ofs (bl b) 0)) (hl : l.length + s.length ≤ 1000000) :
    Does Tryz.prog 61 [.pointer (ofs (bl b) (0)), S (s)] w (fun v w1 => ∃ (A1 : Option Addr) (c1 : Nat), v = .tuple #[I (((s.length : Nat) : Int)), (.nilIface)] ∧ Mem w w1 [some b, (Value.slice (A) ((l).length) (c)).ownBlock] [[⟨.slice (bl b) 1 1, 93, 2, 1, [.pointer (ofs (bl b) (0)), .slice (A1) ((l ++ s).length) (c1)]⟩], [⟨.slice (A1) ((l ++ s).length) (c1), 5, 1, ((l ++ s).length), (l ++ s).map byteV⟩]]) := by
  refine Does.n2 Tryz.func61 rfl Tryz.results61 Tryz.ntmps61 rfl ?_
  refine cq 8 [] (b := copyCheck_fn _ (p) A ((l).length) c w (hM.fp [0] rfl rfl) (by first | exact .inl rfl | exact .inr rfl | assumption)) (c := ?_)
  rintro _ w1_1 ⟨rfl, hR1_1⟩
  have hM1_1 := hM.cl 1 hR1_1
  refine go 9 [0] ?_
  refine O.mappendS (l := s) (m1 := (l ++ s).length) (xs1 := (l ++ s).map byteV) (M' := fun A2_6 c2_6 => [[⟨.slice (bl b) 1 1, 93, 2, 1, [.pointer (ofs (bl b) (0)), .slice (A) (((l).length)) (c)]⟩], [⟨.slice (A2_6) ((l ++ s).length) (c2_6), 5, 1, ((l ++ s).length), (l ++ s).map byteV⟩]]) 1 hM1_1 rfl rfl Tryz.underlying22 Tryz.underlying9 (by kernel_rfl) rfl rfl rfl (by first | omega | (simp; omega)) (by first | (simp; done) | (simp; omega)) (by simp) (fun _ _ => rfl) (fun w2_6 A2_6 c2_6 hc2_6 hM2_6 => ?_)
  try dsimp only at hM2_6
  refine Sb 2 [] 0 fun w2_9 hM2_9 => ?_
  refine E2 9 [] (I (((s).length : Int))) (.nilIface) ?_
  exact ⟨A2_6, c2_6, (by first | rfl | exact sl_congr (by first | omega | (simp; done) | (simp; omega)) | (simp; done)), (hM2_9.pk [0, 1])⟩
end Go.Proofs.YtemejgglbhjodaaGreatDoor
end
section
namespace Go.Proofs.YtemejgglbhjodaaGreatDoor
open Go.Px
set_option maxHeartbeats 2000000 in
theorem FormatRow_fn (A : Option Addr) (c : Nat) (l : List PairT) (w : World) (hA : Rd w A ((l).flatMap encP)) (hl : l.length ≤ 1048576) (htab : TAB w) :
    Does Tryz.prog 43 [.slice (A) ((l).length) (c)] w (fun v w1 => v = S (fmtR l) ∧ Mem w w1 [] []) := by
  have hM : Mem w w [] [] := Mem.refl
  refine Does.n1 Tryz.func43 rfl Tryz.results43 Tryz.ntmps43 rfl ?_
  refine cp 8 [] (b := ValidRow_fn _ _ _ w (hA.at hM) q0) (c := fun w1_1 hM1_1 => ?_)
  refine cn 2 [] (fun c8 => ?_) (fun c8 => ?_)
  · refine E1 5 [] (S ([])) ?_
    exact ⟨(by rw [fmtR_no (by simpa using c8)]), (Mem.none hM1_1)⟩
  · have hv : validR l = true := by simpa using c8
    have hvs := valid_small hv
    have h24 := validR_len hv
    refine Al 3 [] fun w3_0 b3_0 hb3_0 hM3_0 => ?_
    have hMn1 := Mem.addNil (e := 5) (sz := 1) hM3_0
    have hq2 : ([] : List UInt8) = fmtL (l.take 0) := (by simp [fmtL])
    have hMn2 := hMn1.reM 0 hq2 (f := byteV)
    have hMn3 := hMn2.reB 1 1 (show 0 = (fmtL (l.take 0)).length from (by simp [fmtL]))
    refine lp4 9 [] (fun (k : Nat) (pv : Value) (A2 : Option Addr) (c2 : Nat) => ([(11, Vi (((k : Nat) : Int)))] : List (Nat × SV))) (fun (k : Nat) (pv : Value) (A2 : Option Addr) (c2 : Nat) => (k ≤ l.length) ∧ (pv = .pointer none ∨ pv = .pointer (ofs (bl b3_0) 0))) (fun (k : Nat) (pv : Value) (A2 : Option Addr) (c2 : Nat) => [[⟨.slice (A2) ((fmtL (l.take k)).length) (c2), 5, 1, ((fmtL (l.take k)).length), (fmtL (l.take k)).map byteV⟩], [⟨.slice (bl b3_0) 1 1, 93, 2, 1, [(pv), .slice (A2) ((fmtL (l.take k)).length) (c2)]⟩]]) (fun (k : Nat) (pv : Value) (A2 : Option Addr) (c2 : Nat) => l.length - k) [3, 9, 10] [0, 1] [] 0 ((.pointer none) : Value) none 0 (fun k pv A2 c2 σ w_l5 hI hM_l5 => ?_) (h0 := ⟨(Nat.zero_le _), (.inl rfl)⟩)
    obtain ⟨hi0_l5, hi1_l5⟩ := hI
    have hcl0_l5 := (hM_l5.cap 0 rfl).1
    refine cd 5 [] (fun c12 => ?_) (fun c12 => ?_)
    · have hkl : k < l.length := by omega
      have hsm := hvs _ (List.getElem_mem hkl)
      have hfl := fmtL_len (l := l) k hvs hi0_l5
      have hl1 := itoa_len (n := l[k].key) (by have := hsm.1; omega) (by have := hsm.1; omega)
      have hl2 := itoa_len (n := l[k].val) (by have := hsm.2; omega) (by have := hsm.2; omega)
      have hs1 := hsm.1
      have hs2 := hsm.2
      have hx6_1 : k < (l).length := (by first | omega | (simp; omega))
      refine ov 6 [] (a := kixF hx6_1 (hA.at hM_l5)) (b := ?_)
      refine ov 0 [] (a := kldN hx6_1 (hA.at hM_l5)) (b := ?_)
      refine Al 0 [] fun w6_3 b6_3 hb6_3 hM6_3 => ?_
      refine Sb 1 [] 0 fun w6_5 hM6_5 => ?_
      refine cd 7 [] (fun c17 => ?_) (fun c17 => ?_)
      · have hk0 : k ≠ 0 := by omega
        have hMf8_0 := hM6_5.pk [2, 1, 0]
        refine cq 1 [] (b := WriteByte_fn b3_0 A2 c2 (fmtL (l.take k)) (pv) (44 : UInt8) w6_5 (hMf8_0.fp [0, 1] rfl rfl) (by first | exact .inl rfl | exact .inr rfl | assumption) (by first | omega | (simp; omega))) (c := ?_)
        rintro _ w8_0 ⟨A18_0, c18_0, rfl, hR8_0⟩
        have hM8_0 := hMf8_0.cl 2 hR8_0
        have hcr8_0_1 := (hM8_0.cap 1 rfl).1
        refine cp 5 [2] (b := Itoa_fn _ w8_0 (tab_at htab hM8_0) (by first | omega | (constructor <;> omega))) (c := fun w9_2 hM9_2 => ?_)
        refine cq 0 [] (b := WriteString_fn b3_0 A18_0 c18_0 ((fmtL (l.take k)) ++ [(44 : UInt8)]) (.pointer (ofs (bl b3_0) (0))) _ w9_2 (hM9_2.fp [0, 1] rfl rfl) (by first | exact .inl rfl | exact .inr rfl | assumption) (by first | omega | (simp; omega))) (c := ?_)
        rintro _ w9_3 ⟨A19_3, c19_3, rfl, hR9_3⟩
        have hM9_3 := hM9_2.cl 2 hR9_3
        have hcr9_3_1 := (hM9_3.cap 1 rfl).1
        refine cq 3 [] (b := WriteByte_fn b3_0 A19_3 c19_3 (((fmtL (l.take k)) ++ [(44 : UInt8)]) ++ (itoaS (((l)[k]'hx6_1).key))) (.pointer (ofs (bl b3_0) (0))) (58 : UInt8) w9_3 (hM9_3.fp [0, 1] rfl rfl) (by first | exact .inl rfl | exact .inr rfl | assumption) (by first | omega | (simp; omega))) (c := ?_)
        rintro _ w10_0 ⟨A110_0, c110_0, rfl, hR10_0⟩
        have hM10_0 := hM9_3.cl 2 hR10_0
        have hcr10_0_1 := (hM10_0.cap 1 rfl).1
        refine cp 4 [2] (b := Itoa_fn _ w10_0 (tab_at htab hM10_0) (by first | omega | (constructor <;> omega))) (c := fun w11_2 hM11_2 => ?_)
        refine cq 0 [] (b := WriteString_fn b3_0 A110_0 c110_0 ((((fmtL (l.take k)) ++ [(44 : UInt8)]) ++ (itoaS (((l)[k]'hx6_1).key))) ++ [(58 : UInt8)]) (.pointer (ofs (bl b3_0) (0))) _ w11_2 (hM11_2.fp [0, 1] rfl rfl) (by first | exact .inl rfl | exact .inr rfl | assumption) (by first | omega | (simp; omega))) (c := ?_)
        rintro _ w11_3 ⟨A111_3, c111_3, rfl, hR11_3⟩
        have hM11_3 := hM11_2.cl 2 hR11_3
        have hcr11_3_1 := (hM11_3.cap 1 rfl).1
        refine ov 2 [] (a := kaddN (k + 1)) (b := ?_)
        have hq4 : (((((fmtL (l.take k)) ++ [(44 : UInt8)]) ++ (itoaS (((l)[k]'hx6_1).key))) ++ [(58 : UInt8)]) ++ (itoaS (((l)[k]'hx6_1).val)) : List UInt8) = fmtL (l.take (k + 1)) := (by rw [fmtL_take hkl]; simp [fmtP, hk0])
        have hMn4 := hM11_3.reM 1 hq4
        have hMn5 := hMn4.reB 0 1 (show (((((fmtL (l.take k)) ++ [(44 : UInt8)]) ++ (itoaS (((l)[k]'hx6_1).key))) ++ [(58 : UInt8)]) ++ (itoaS (((l)[k]'hx6_1).val))).length = (fmtL (l.take (k + 1))).length from congrArg List.length hq4)
        exact le4 2 [] (k + 1) ((.pointer (ofs (bl b3_0) (0))) : Value) A111_3 c111_3 [1, 0] (h := by exact ⟨(by (try dsimp only); omega), (.inr rfl)⟩)
      · have hk0 : k = 0 := by omega
        refine cp 5 [0] (b := Itoa_fn _ w6_5 (tab_at htab hM6_5) (by first | omega | (constructor <;> omega))) (c := fun w9_2 hM9_2 => ?_)
        have hMf9_3 := hM9_2.pk [2, 1, 0]
        refine cq 0 [] (b := WriteString_fn b3_0 A2 c2 (fmtL (l.take k)) (pv) _ w9_2 (hMf9_3.fp [0, 1] rfl rfl) (by first | exact .inl rfl | exact .inr rfl | assumption) (by first | omega | (simp; omega))) (c := ?_)
        rintro _ w9_3 ⟨A19_3, c19_3, rfl, hR9_3⟩
        have hM9_3 := hMf9_3.cl 2 hR9_3
        have hcr9_3_1 := (hM9_3.cap 1 rfl).1
        refine cq 3 [] (b := WriteByte_fn b3_0 A19_3 c19_3 ((fmtL (l.take k)) ++ (itoaS (((l)[k]'hx6_1).key))) (.pointer (ofs (bl b3_0) (0))) (58 : UInt8) w9_3 (hM9_3.fp [0, 1] rfl rfl) (by first | exact .inl rfl | exact .inr rfl | assumption) (by first | omega | (simp; omega))) (c := ?_)
        rintro _ w10_0 ⟨A110_0, c110_0, rfl, hR10_0⟩
        have hM10_0 := hM9_3.cl 2 hR10_0
        have hcr10_0_1 := (hM10_0.cap 1 rfl).1
        refine cp 4 [2] (b := Itoa_fn _ w10_0 (tab_at htab hM10_0) (by first | omega | (constructor <;> omega))) (c := fun w11_2 hM11_2 => ?_)
        refine cq 0 [] (b := WriteString_fn b3_0 A110_0 c110_0 (((fmtL (l.take k)) ++ (itoaS (((l)[k]'hx6_1).key))) ++ [(58 : UInt8)]) (.pointer (ofs (bl b3_0) (0))) _ w11_2 (hM11_2.fp [0, 1] rfl rfl) (by first | exact .inl rfl | exact .inr rfl | assumption) (by first | omega | (simp; omega))) (c := ?_)
        rintro _ w11_3 ⟨A111_3, c111_3, rfl, hR11_3⟩
        have hM11_3 := hM11_2.cl 2 hR11_3
        have hcr11_3_1 := (hM11_3.cap 1 rfl).1
        refine ov 2 [] (a := kaddN (k + 1)) (b := ?_)
        have hq6 : ((((fmtL (l.take k)) ++ (itoaS (((l)[k]'hx6_1).key))) ++ [(58 : UInt8)]) ++ (itoaS (((l)[k]'hx6_1).val)) : List UInt8) = fmtL (l.take (k + 1)) := (by rw [fmtL_take hkl]; simp [fmtP, hk0])
        have hMn6 := hM11_3.reM 1 hq6
        have hMn7 := hMn6.reB 0 1 (show ((((fmtL (l.take k)) ++ (itoaS (((l)[k]'hx6_1).key))) ++ [(58 : UInt8)]) ++ (itoaS (((l)[k]'hx6_1).val))).length = (fmtL (l.take (k + 1))).length from congrArg List.length hq6)
        exact le4 2 [] (k + 1) ((.pointer (ofs (bl b3_0) (0))) : Value) A111_3 c111_3 [1, 0] (h := by exact ⟨(by (try dsimp only); omega), (.inr rfl)⟩)
    · refine go 3 [] ?_
      refine O.callg [.pointer (ofs (bl b3_0) (0))] rfl en64 rfl rfl (String_fn (l := fmtL (l.take k)) w_l5 hM_l5.size (hM_l5.builder 1 0 rfl rfl (by exact hi1_l5))) ?_
      rintro _ w13_0 ⟨rfl, hB13_0⟩
      have hM13_0 : Mem w w13_0 [] [] := mem_below hM_l5 hB13_0
      refine E1 3 [] (S (fmtL (l.take k))) ?_
      exact ⟨(congrArg S (by rw [fmtR_yes hv, take_all (by omega)])), (Mem.none hM13_0)⟩
end Go.Proofs.YtemejgglbhjodaaGreatDoor
end
section
namespace Go.Proofs.YtemejgglbhjodaaGreatDoor
open Go.Px
theorem mf77 : ManyF Tryz.prog 77 [.int .i64 0, .slice none 0 0, .bool false, .bool false, .bool false, .bool false, .bool false, .bool false, .bool false, .bool false, .bool false, .bool false, .bool false, .bool false, .bool false, .bool false, .bool false, .bool false, .int .i64 0] [(0, 2), (2, 16), (18, 1)] := ManyF.of (z := .agg #[.int .i64 0, .slice none 0 0, .bool false, .bool false, .bool false, .bool false, .bool false, .bool false, .bool false, .bool false, .bool false, .bool false, .bool false, .bool false, .bool false, .bool false, .bool false, .bool false, .int .i64 0]) (by kernel_rfl) rfl (by kernel_rfl)
instance ienl_encPg : EnL encPg 3 := ⟨encPg_len⟩
end Go.Proofs.YtemejgglbhjodaaGreatDoor
end
section
namespace Go.Proofs.YtemejgglbhjodaaGreatDoor
open Go.Px
theorem filledRight_fn (b : Nat) (at0 : Int) (T : TreeL) (s : List Int) (ld : Int) (w : World) (hNT : TrN w T) (hOT : TrO T [some b]) (hM : Mem w w [some b] [[⟨.slice (bl b) 1 1, 77, 19, 1, ckC T s ld⟩]]) (hs : SzT T) (hat : 0 ≤ at0 ∧ at0 < ((T).l.length : Int)) :
    Does Tryz.prog 93 [.pointer (ofs (bl b) (0)), I (at0)] w (fun v w1 => v = .bool (frB (T).t at0) ∧ Mem w w1 [some b] [[⟨.slice (bl b) 1 1, 77, 19, 1, ckC T s ld⟩]]) := by
  refine Does.n1 Tryz.func93 rfl Tryz.results93 Tryz.ntmps93 rfl ?_
  refine ov 10 [] (s := Vl ((T).A) ((T).l.length) ((T).cp)) (a := by exact cv (Ru.load1 el23 rfl ((hM.rd 0 rfl).ld (k := 1) rfl)) rfl) (b := ?_)
  have hx1_6 : (at0).toNat < ((T).l).length := (by first | omega | (simp; omega))
  refine ov 1 [] (a := kixF hx1_6 (hNT.atR hM hOT).1) (b := ?_)
  refine ov 0 [] (a := kldN hx1_6 (hNT.atR hM hOT).1) (b := ?_)
  have hgp : gP (T).t at0 = (((T).l[(at0).toNat]'hx1_6)).t := gP_at rfl hx1_6
  have hsz := hs.at hx1_6
  refine Al 0 [] fun w1_8 b1_8 hb1_8 hM1_8 => ?_
  refine Sb 0 [] 0 fun w1_9 hM1_9 => ?_
  refine pp 9 [0] 20 (fun g20 => ?_) (fun g20 => ?_)
  · refine E1 12 [] (.bool (false)) ?_
    exact ⟨(by rw [frB_L, hgp]; first | rw [fr_n1 (by show ¬ ((((T).l[(at0).toNat]'hx1_6)).k.l).length ≤ 4; omega)] | rw [fr_n2 (show validK (((T).l[(at0).toNat]'hx1_6)).t.keys = false from (show validK ((((T).l[(at0).toNat]'hx1_6)).k.l) = false from (by simpa using c25)))]), (hM1_9.pk [1])⟩
  · refine cq 2 [0] (vs := [.slice ((((T).l)[(at0).toNat]'hx1_6).k.A) (((((T).l)[(at0).toNat]'hx1_6).k.l).length) ((((T).l)[(at0).toNat]'hx1_6).k.cp)]) (hvs := (by first | rfl | (rw [show ((((T).l)[(at0).toNat]'hx1_6).k.l).length = (((T).l)[(at0).toNat]'hx1_6).k.l.length from (by first | rfl | (simp; done) | omega | (simp; omega))]; rfl))) (b := ValidKeys_fn ((((T).l)[(at0).toNat]'hx1_6).k.A) ((((T).l)[(at0).toNat]'hx1_6).k.cp) ((((T).l)[(at0).toNat]'hx1_6).k.l) w1_9 (((hNT.atR hM1_9 hOT)).2.get hx1_6).1 qo) (c := ?_)
    rintro _ w2_7 ⟨rfl, hR2_7⟩
    have hM2_7 := hM1_9.cl 0 hR2_7
    refine cn 3 [] (fun c25 => ?_) (fun c25 => ?_)
    · refine E1 5 [] (.bool (false)) ?_
      exact ⟨(by rw [frB_L, hgp]; first | rw [fr_n1 (by show ¬ ((((T).l[(at0).toNat]'hx1_6)).k.l).length ≤ 4; omega)] | rw [fr_n2 (show validK (((T).l[(at0).toNat]'hx1_6)).t.keys = false from (show validK ((((T).l[(at0).toNat]'hx1_6)).k.l) = false from (by simpa using c25)))]), (hM2_7.pk [1])⟩
    · have hvk : validK (((T).l[(at0).toNat]'hx1_6)).k.l = true := by simpa using c25
      refine ov 9 [] (s := Vi ((T).root)) (a := by exact cv (Ru.load1 el3 rfl ((hM2_7.rd 1 rfl).ld (k := 0) rfl)) rfl) (b := ?_)
      refine pp 2 [] 33 (fun g33 => ?_) (fun g33 => ?_)
      · refine cd 6 [0] (fun c38 => ?_) (fun c38 => ?_)
        · refine E1 5 [] (.bool (false)) ?_
          exact ⟨(by rw [frB_L, hgp, fr_n3 (root := (T).t.root) g33 (by show ¬ 2 ≤ ((((T).l[(at0).toNat]'hx1_6)).k.l).length; omega)]), (hM2_7.pk [1])⟩
        · have hr : at0 = (T).t.root ∨ 2 ≤ (((T).l[(at0).toNat]'hx1_6)).t.keys.length := by first | (left; exact Classical.not_not.1 g33) | (left; simpa using g33) | (right; show 2 ≤ ((((T).l[(at0).toNat]'hx1_6)).k.l).length; omega)
          refine cd 9 [0] (fun c42 => ?_) (fun c42 => ?_)
          · refine pp 7 [0] 47 (fun g47 => ?_) (fun g47 => ?_)
            · refine pp 6 [0] 53 (fun g53 => ?_) (fun g53 => ?_)
              · refine ov 6 [0, 0] (a := kaddN ((((T).l)[(at0).toNat]'hx1_6).k.l.length + 1)) (b := ?_)
                refine E1 5 [] (.bool (decide ((((((T).l)[(at0).toNat]'hx1_6).c.l.length : Nat) : Int) = ((((((T).l)[(at0).toNat]'hx1_6).k.l.length + 1) : Nat) : Int)))) ?_
                exact ⟨(by rw [frB_L, hgp, fr_yi' (show (((T).l[(at0).toNat]'hx1_6)).t.keys.length ≤ 4 from (by show ((((T).l[(at0).toNat]'hx1_6)).k.l).length ≤ 4; omega)) (show validK (((T).l[(at0).toNat]'hx1_6)).t.keys = true from hvk) hr (by show 0 < (((T).l[(at0).toNat]'hx1_6)).c.l.length; omega) (vl := ((((T).l[(at0).toNat]'hx1_6)).v.l).length) (kl := ((((T).l[(at0).toNat]'hx1_6)).k.l).length) (cl := (((T).l[(at0).toNat]'hx1_6)).c.l.length) rfl rfl rfl]; refine congrArg Value.bool ?_; rw [Bool.eq_iff_iff]; simp only [Bool.and_eq_true, decide_eq_true_eq, reduceCtorEq, true_iff, false_iff]; omega), (hM2_7.pk [1])⟩
              · refine E1 12 [] (.bool (false)) ?_
                exact ⟨(by rw [frB_L, hgp, fr_yi' (show (((T).l[(at0).toNat]'hx1_6)).t.keys.length ≤ 4 from (by show ((((T).l[(at0).toNat]'hx1_6)).k.l).length ≤ 4; omega)) (show validK (((T).l[(at0).toNat]'hx1_6)).t.keys = true from hvk) hr (by show 0 < (((T).l[(at0).toNat]'hx1_6)).c.l.length; omega) (vl := ((((T).l[(at0).toNat]'hx1_6)).v.l).length) (kl := ((((T).l[(at0).toNat]'hx1_6)).k.l).length) (cl := (((T).l[(at0).toNat]'hx1_6)).c.l.length) rfl rfl rfl]; refine congrArg Value.bool ?_; rw [Bool.eq_iff_iff]; simp only [Bool.and_eq_true, decide_eq_true_eq, reduceCtorEq, true_iff, false_iff]; omega), (hM2_7.pk [1])⟩
            · refine E1 18 [] (.bool (false)) ?_
              exact ⟨(by rw [frB_L, hgp, fr_yi' (show (((T).l[(at0).toNat]'hx1_6)).t.keys.length ≤ 4 from (by show ((((T).l[(at0).toNat]'hx1_6)).k.l).length ≤ 4; omega)) (show validK (((T).l[(at0).toNat]'hx1_6)).t.keys = true from hvk) hr (by show 0 < (((T).l[(at0).toNat]'hx1_6)).c.l.length; omega) (vl := ((((T).l[(at0).toNat]'hx1_6)).v.l).length) (kl := ((((T).l[(at0).toNat]'hx1_6)).k.l).length) (cl := (((T).l[(at0).toNat]'hx1_6)).c.l.length) rfl rfl rfl]; refine congrArg Value.bool ?_; rw [Bool.eq_iff_iff]; simp only [Bool.and_eq_true, decide_eq_true_eq, reduceCtorEq, true_iff, false_iff]; omega), (hM2_7.pk [1])⟩
          · refine cd 12 [0, 0] (fun c69 => ?_) (fun c69 => ?_)
            · refine E1 5 [] (.bool (false)) ?_
              exact ⟨(by rw [frB_L, hgp, fr_yl' (show (((T).l[(at0).toNat]'hx1_6)).t.keys.length ≤ 4 from (by show ((((T).l[(at0).toNat]'hx1_6)).k.l).length ≤ 4; omega)) (show validK (((T).l[(at0).toNat]'hx1_6)).t.keys = true from hvk) hr (by show (((T).l[(at0).toNat]'hx1_6)).c.l.length = 0; omega) (V := (((T).l[(at0).toNat]'hx1_6)).v.l) (kl := ((((T).l[(at0).toNat]'hx1_6)).k.l).length) rfl rfl]; refine congrArg Value.bool (Eq.symm ?_); rw [Bool.and_eq_false_iff]; left; exact decide_eq_false (by omega)), (hM2_7.pk [1])⟩
            · refine lp1 10 [0] (fun (k : Nat) => ([(73, Vi (((k : Nat) : Int)))] : List (Nat × SV))) (fun (k : Nat) => (k ≤ ((((T).l[(at0).toNat]'hx1_6)).v.l).length) ∧ ((((((T).l[(at0).toNat]'hx1_6)).v.l).take k).all isValB = true)) (fun (k : Nat) => []) (fun (k : Nat) => ((((T).l[(at0).toNat]'hx1_6)).v.l).length - k) [71, 72] [] [0, 1] 0 (fun k σ w_l11 hI hM_l11 => ?_) (h0 := ⟨(Nat.zero_le _), (by (try dsimp only); simp)⟩)
              obtain ⟨hi0_l11, hi1_l11⟩ := hI
              refine cd 5 [] (fun c74 => ?_) (fun c74 => ?_)
              · have hx12_0 : k < ((((T).l)[(at0).toNat]'hx1_6).v.l).length := (by first | omega | (simp; omega))
                refine ov 5 [] (a := kixM hx12_0 (((hNT.atR hM_l11 hOT)).2.get hx1_6).2.2) (b := ?_)
                refine ov 0 [] (a := kldM hx12_0 (((hNT.atR hM_l11 hOT)).2.get hx1_6).2.2) (b := ?_)
                refine cp 5 [] (b := isValue_fn _ w_l11 ) (c := fun w13_1 hM13_1 => ?_)
                refine cn 2 [] (fun c79 => ?_) (fun c79 => ?_)
                · refine E1 5 [] (.bool (false)) ?_
                  exact ⟨(by rw [frB_L, hgp, fr_yl' (show (((T).l[(at0).toNat]'hx1_6)).t.keys.length ≤ 4 from (by show ((((T).l[(at0).toNat]'hx1_6)).k.l).length ≤ 4; omega)) (show validK (((T).l[(at0).toNat]'hx1_6)).t.keys = true from hvk) hr (by show (((T).l[(at0).toNat]'hx1_6)).c.l.length = 0; omega) (V := (((T).l[(at0).toNat]'hx1_6)).v.l) (kl := ((((T).l[(at0).toNat]'hx1_6)).k.l).length) rfl rfl]; refine congrArg Value.bool (Eq.symm ?_); rw [Bool.and_eq_false_iff]; right; exact all_no hx12_0 (by simpa using c79)), (hM13_1.pk [1])⟩
                · refine ov 2 [] (a := kaddN (k + 1)) (b := ?_)
                  exact le1 2 [] (k + 1) [0, 1] (h := by exact ⟨(by (try dsimp only); omega), (all_keep hx12_0 hi1_l11 (by simpa using c79))⟩)
              · refine E1 6 [] (.bool (true)) ?_
                exact ⟨(by rw [frB_L, hgp, fr_yl' (show (((T).l[(at0).toNat]'hx1_6)).t.keys.length ≤ 4 from (by show ((((T).l[(at0).toNat]'hx1_6)).k.l).length ≤ 4; omega)) (show validK (((T).l[(at0).toNat]'hx1_6)).t.keys = true from hvk) hr (by show (((T).l[(at0).toNat]'hx1_6)).c.l.length = 0; omega) (V := (((T).l[(at0).toNat]'hx1_6)).v.l) (kl := ((((T).l[(at0).toNat]'hx1_6)).k.l).length) rfl rfl]; refine congrArg Value.bool (Eq.symm ?_); rw [Bool.and_eq_true]; exact ⟨decide_eq_true (by omega), all_done (by omega) hi1_l11⟩), (hM_l11.pk [1])⟩
      · have hr : at0 = (T).t.root ∨ 2 ≤ (((T).l[(at0).toNat]'hx1_6)).t.keys.length := by first | (left; exact Classical.not_not.1 g33) | (left; simpa using g33) | (right; show 2 ≤ ((((T).l[(at0).toNat]'hx1_6)).k.l).length; omega)
        refine cd 16 [0] (fun c42 => ?_) (fun c42 => ?_)
        · refine pp 7 [0] 47 (fun g47 => ?_) (fun g47 => ?_)
          · refine pp 6 [0] 53 (fun g53 => ?_) (fun g53 => ?_)
            · refine ov 6 [0, 0] (a := kaddN ((((T).l)[(at0).toNat]'hx1_6).k.l.length + 1)) (b := ?_)
              refine E1 5 [] (.bool (decide ((((((T).l)[(at0).toNat]'hx1_6).c.l.length : Nat) : Int) = ((((((T).l)[(at0).toNat]'hx1_6).k.l.length + 1) : Nat) : Int)))) ?_
              exact ⟨(by rw [frB_L, hgp, fr_yi' (show (((T).l[(at0).toNat]'hx1_6)).t.keys.length ≤ 4 from (by show ((((T).l[(at0).toNat]'hx1_6)).k.l).length ≤ 4; omega)) (show validK (((T).l[(at0).toNat]'hx1_6)).t.keys = true from hvk) hr (by show 0 < (((T).l[(at0).toNat]'hx1_6)).c.l.length; omega) (vl := ((((T).l[(at0).toNat]'hx1_6)).v.l).length) (kl := ((((T).l[(at0).toNat]'hx1_6)).k.l).length) (cl := (((T).l[(at0).toNat]'hx1_6)).c.l.length) rfl rfl rfl]; refine congrArg Value.bool ?_; rw [Bool.eq_iff_iff]; simp only [Bool.and_eq_true, decide_eq_true_eq, reduceCtorEq, true_iff, false_iff]; omega), (hM2_7.pk [1])⟩
            · refine E1 12 [] (.bool (false)) ?_
              exact ⟨(by rw [frB_L, hgp, fr_yi' (show (((T).l[(at0).toNat]'hx1_6)).t.keys.length ≤ 4 from (by show ((((T).l[(at0).toNat]'hx1_6)).k.l).length ≤ 4; omega)) (show validK (((T).l[(at0).toNat]'hx1_6)).t.keys = true from hvk) hr (by show 0 < (((T).l[(at0).toNat]'hx1_6)).c.l.length; omega) (vl := ((((T).l[(at0).toNat]'hx1_6)).v.l).length) (kl := ((((T).l[(at0).toNat]'hx1_6)).k.l).length) (cl := (((T).l[(at0).toNat]'hx1_6)).c.l.length) rfl rfl rfl]; refine congrArg Value.bool ?_; rw [Bool.eq_iff_iff]; simp only [Bool.and_eq_true, decide_eq_true_eq, reduceCtorEq, true_iff, false_iff]; omega), (hM2_7.pk [1])⟩
          · refine E1 18 [] (.bool (false)) ?_
            exact ⟨(by rw [frB_L, hgp, fr_yi' (show (((T).l[(at0).toNat]'hx1_6)).t.keys.length ≤ 4 from (by show ((((T).l[(at0).toNat]'hx1_6)).k.l).length ≤ 4; omega)) (show validK (((T).l[(at0).toNat]'hx1_6)).t.keys = true from hvk) hr (by show 0 < (((T).l[(at0).toNat]'hx1_6)).c.l.length; omega) (vl := ((((T).l[(at0).toNat]'hx1_6)).v.l).length) (kl := ((((T).l[(at0).toNat]'hx1_6)).k.l).length) (cl := (((T).l[(at0).toNat]'hx1_6)).c.l.length) rfl rfl rfl]; refine congrArg Value.bool ?_; rw [Bool.eq_iff_iff]; simp only [Bool.and_eq_true, decide_eq_true_eq, reduceCtorEq, true_iff, false_iff]; omega), (hM2_7.pk [1])⟩
        · refine cd 12 [0, 0] (fun c69 => ?_) (fun c69 => ?_)
          · refine E1 5 [] (.bool (false)) ?_
            exact ⟨(by rw [frB_L, hgp, fr_yl' (show (((T).l[(at0).toNat]'hx1_6)).t.keys.length ≤ 4 from (by show ((((T).l[(at0).toNat]'hx1_6)).k.l).length ≤ 4; omega)) (show validK (((T).l[(at0).toNat]'hx1_6)).t.keys = true from hvk) hr (by show (((T).l[(at0).toNat]'hx1_6)).c.l.length = 0; omega) (V := (((T).l[(at0).toNat]'hx1_6)).v.l) (kl := ((((T).l[(at0).toNat]'hx1_6)).k.l).length) rfl rfl]; refine congrArg Value.bool (Eq.symm ?_); rw [Bool.and_eq_false_iff]; left; exact decide_eq_false (by omega)), (hM2_7.pk [1])⟩
          · refine lp1 10 [0] (fun (k : Nat) => ([(73, Vi (((k : Nat) : Int)))] : List (Nat × SV))) (fun (k : Nat) => (k ≤ ((((T).l[(at0).toNat]'hx1_6)).v.l).length) ∧ ((((((T).l[(at0).toNat]'hx1_6)).v.l).take k).all isValB = true)) (fun (k : Nat) => []) (fun (k : Nat) => ((((T).l[(at0).toNat]'hx1_6)).v.l).length - k) [71, 72] [] [0, 1] 0 (fun k σ w_l11 hI hM_l11 => ?_) (h0 := ⟨(Nat.zero_le _), (by (try dsimp only); simp)⟩)
            obtain ⟨hi0_l11, hi1_l11⟩ := hI
            refine cd 5 [] (fun c74 => ?_) (fun c74 => ?_)
            · have hx12_0 : k < ((((T).l)[(at0).toNat]'hx1_6).v.l).length := (by first | omega | (simp; omega))
              refine ov 5 [] (a := kixM hx12_0 (((hNT.atR hM_l11 hOT)).2.get hx1_6).2.2) (b := ?_)
              refine ov 0 [] (a := kldM hx12_0 (((hNT.atR hM_l11 hOT)).2.get hx1_6).2.2) (b := ?_)
              refine cp 5 [] (b := isValue_fn _ w_l11 ) (c := fun w13_1 hM13_1 => ?_)
              refine cn 2 [] (fun c79 => ?_) (fun c79 => ?_)
              · refine E1 5 [] (.bool (false)) ?_
                exact ⟨(by rw [frB_L, hgp, fr_yl' (show (((T).l[(at0).toNat]'hx1_6)).t.keys.length ≤ 4 from (by show ((((T).l[(at0).toNat]'hx1_6)).k.l).length ≤ 4; omega)) (show validK (((T).l[(at0).toNat]'hx1_6)).t.keys = true from hvk) hr (by show (((T).l[(at0).toNat]'hx1_6)).c.l.length = 0; omega) (V := (((T).l[(at0).toNat]'hx1_6)).v.l) (kl := ((((T).l[(at0).toNat]'hx1_6)).k.l).length) rfl rfl]; refine congrArg Value.bool (Eq.symm ?_); rw [Bool.and_eq_false_iff]; right; exact all_no hx12_0 (by simpa using c79)), (hM13_1.pk [1])⟩
              · refine ov 2 [] (a := kaddN (k + 1)) (b := ?_)
                exact le1 2 [] (k + 1) [0, 1] (h := by exact ⟨(by (try dsimp only); omega), (all_keep hx12_0 hi1_l11 (by simpa using c79))⟩)
            · refine E1 6 [] (.bool (true)) ?_
              exact ⟨(by rw [frB_L, hgp, fr_yl' (show (((T).l[(at0).toNat]'hx1_6)).t.keys.length ≤ 4 from (by show ((((T).l[(at0).toNat]'hx1_6)).k.l).length ≤ 4; omega)) (show validK (((T).l[(at0).toNat]'hx1_6)).t.keys = true from hvk) hr (by show (((T).l[(at0).toNat]'hx1_6)).c.l.length = 0; omega) (V := (((T).l[(at0).toNat]'hx1_6)).v.l) (kl := ((((T).l[(at0).toNat]'hx1_6)).k.l).length) rfl rfl]; refine congrArg Value.bool (Eq.symm ?_); rw [Bool.and_eq_true]; exact ⟨decide_eq_true (by omega), all_done (by omega) hi1_l11⟩), (hM_l11.pk [1])⟩
theorem visit0_fn (b : Nat) (at0 : Int) (dp : Int) (low : Int) (high : Int) (T : TreeL) (s : List Int) (ld : Int) (w : World) (hNT : TrN w T) (hOT : TrO T [some b]) (hM : Mem w w [some b] [[⟨.slice (bl b) 1 1, 77, 19, 1, ckC T s ld⟩]]) (hs : SzT T) (h16 : (T).l.length ≤ 16) (hn : 0 ≤ 3) (hd : dp = 3 - (0 : Int)) :
    Does Tryz.prog 51 [.pointer (ofs (bl b) (0)), I (at0), I (dp), I (low), I (high)] w (fun v w1 => ∃ (s1 : List Int) (l1 : Int), v = .bool ((visT (T).t 0 at0 low high s ld).isSome) ∧ (∀ q, visT (T).t 0 at0 low high s ld = some q → q = (s1, l1)) ∧ Mem w w1 [some b] [[⟨.slice (bl b) 1 1, 77, 19, 1, ckC T s1 l1⟩]]) := by
  refine Does.n1 Tryz.func51 rfl Tryz.results51 Tryz.ntmps51 rfl ?_
  refine pp 10 [] 20 (fun g20 => ?_) (fun g20 => ?_)
  · refine E1 28 [] (.bool (false)) ?_
    exact ⟨s, ld, rfl, (fun q9 hq9 => by cases hq9), (hM.pk [0])⟩
  · refine ov 5 [] (s := Vl ((T).A) ((T).l.length) ((T).cp)) (a := by exact cv (Ru.load1 el23 rfl ((hM.rd 0 rfl).ld (k := 1) rfl)) rfl) (b := ?_)
    refine pp 4 [] 30 (fun g30 => ?_) (fun g30 => ?_)
    · refine E1 18 [] (.bool (false)) ?_
      exact ⟨s, ld, rfl, (fun q9 hq9 => by cases hq9), (hM.pk [0])⟩
    · refine pp 4 [] 34 (fun g34 => ?_) (fun g34 => ?_)
      · refine E1 14 [] (.bool (false)) ?_
        exact ⟨s, ld, rfl, (fun q9 hq9 => by cases hq9), (hM.pk [0])⟩
      · exfalso; omega
set_option maxHeartbeats 2000000 in
theorem visitS_fn (n : Nat) (ih_fn : ∀ (b : Nat) (at0 : Int) (dp : Int) (low : Int) (high : Int) (T : TreeL) (s : List Int) (ld : Int) (w : World) (hNT : TrN w T) (hOT : TrO T [some b]) (hM : Mem w w [some b] [[⟨.slice (bl b) 1 1, 77, 19, 1, ckC T s ld⟩]]) (hs : SzT T) (h16 : (T).l.length ≤ 16) (hn : n ≤ 3) (hd : dp = 3 - (n : Int)), Does Tryz.prog 51 [.pointer (ofs (bl b) (0)), I (at0), I (dp), I (low), I (high)] w (fun v w1 => ∃ (s1 : List Int) (l1 : Int), v = .bool ((visT (T).t n at0 low high s ld).isSome) ∧ (∀ q, visT (T).t n at0 low high s ld = some q → q = (s1, l1)) ∧ Mem w w1 [some b] [[⟨.slice (bl b) 1 1, 77, 19, 1, ckC T s1 l1⟩]])) (b : Nat) (at0 : Int) (dp : Int) (low : Int) (high : Int) (T : TreeL) (s : List Int) (ld : Int) (w : World) (hNT : TrN w T) (hOT : TrO T [some b]) (hM : Mem w w [some b] [[⟨.slice (bl b) 1 1, 77, 19, 1, ckC T s ld⟩]]) (hs : SzT T) (h16 : (T).l.length ≤ 16) (hn : (n + 1) ≤ 3) (hd : dp = 3 - ((n + 1) : Int)) :
    Does Tryz.prog 51 [.pointer (ofs (bl b) (0)), I (at0), I (dp), I (low), I (high)] w (fun v w1 => ∃ (s1 : List Int) (l1 : Int), v = .bool ((visT (T).t (n + 1) at0 low high s ld).isSome) ∧ (∀ q, visT (T).t (n + 1) at0 low high s ld = some q → q = (s1, l1)) ∧ Mem w w1 [some b] [[⟨.slice (bl b) 1 1, 77, 19, 1, ckC T s1 l1⟩]]) := by
  refine Does.n1 Tryz.func51 rfl Tryz.results51 Tryz.ntmps51 rfl ?_
  refine pp 10 [] 20 (fun g20 => ?_) (fun g20 => ?_)
  · refine E1 28 [] (.bool (false)) ?_
    have hno : visT (T).t (n + 1) at0 low high s ld = none := vis_no1 (by first | exact .inr (by assumption) | (left; cases h9 : inT (T).t at0 with | false => rfl | true => (have := inT_t.1 h9; exfalso; omega)))
    exact ⟨s, ld, (by rw [hno]; rfl), (fun q9 hq9 => by rw [hno] at hq9; cases hq9), (hM.pk [0])⟩
  · refine ov 5 [] (s := Vl ((T).A) ((T).l.length) ((T).cp)) (a := by exact cv (Ru.load1 el23 rfl ((hM.rd 0 rfl).ld (k := 1) rfl)) rfl) (b := ?_)
    refine pp 4 [] 30 (fun g30 => ?_) (fun g30 => ?_)
    · refine E1 18 [] (.bool (false)) ?_
      have hno : visT (T).t (n + 1) at0 low high s ld = none := vis_no1 (by first | exact .inr (by assumption) | (left; cases h9 : inT (T).t at0 with | false => rfl | true => (have := inT_t.1 h9; exfalso; omega)))
      exact ⟨s, ld, (by rw [hno]; rfl), (fun q9 hq9 => by rw [hno] at hq9; cases hq9), (hM.pk [0])⟩
    · refine pp 4 [] 34 (fun g34 => ?_) (fun g34 => ?_)
      · exfalso; omega
      · have hx1_21 : 0 ≤ at0 ∧ at0 < 16 := (by omega)
        refine ov 4 [] (s := Vp (bl b) (2 + (at0).toNat)) (a := by exact cv (Ru.indexArrK (j := (at0).toNat) Tryz.underlying75 el4 rfl rfl rfl rfl rfl hx1_21) rfl) (b := ?_)
        refine ov 0 [] (s := Vd (at0 ∈ s)) (a := by exact cv (Ru.load1 el4 rfl ((hM.rd 0 rfl).ld (ck_getI hx1_21))) rfl) (b := ?_)
        refine cd 2 [] (fun c41 => ?_) (fun c41 => ?_)
        · refine E1 5 [] (.bool (false)) ?_
          have hno : visT (T).t (n + 1) at0 low high s ld = none := vis_no1 (by first | exact .inr (by assumption) | (left; cases h9 : inT (T).t at0 with | false => rfl | true => (have := inT_t.1 h9; exfalso; omega)))
          exact ⟨s, ld, (by rw [hno]; rfl), (fun q9 hq9 => by rw [hno] at hq9; cases hq9), (hM.pk [0])⟩
        · have hx3_4 : 0 ≤ at0 ∧ at0 < 16 := (by omega)
          refine ov 7 [] (s := Vp (bl b) (2 + (at0).toNat)) (a := by exact cv (Ru.indexArrK (j := (at0).toNat) Tryz.underlying75 el4 rfl rfl rfl rfl rfl hx3_4) rfl) (b := ?_)
          refine sX 0 [] 0 (ckC T (s ++ [at0]) ld) (hk := (by simp [ckC]; omega)) (hq := (ck_setI hx3_4)) (h := fun w3_5 hM3_5 => ?_)
          refine cq 6 [] (b := filledRight_fn _ _ T (s ++ [at0]) (ld) w3_5 (hNT.atR hM3_5 hOT) (TrO.cons (TrO.own hM3_5 hNT hOT 0 rfl) TrO.nil) (hM3_5.fp [0] rfl rfl) q0 qo) (c := ?_)
          rintro _ w4_2 ⟨rfl, hR4_2⟩
          have hM4_2 := hM3_5.cl 1 hR4_2
          refine cn 2 [] (fun c50 => ?_) (fun c50 => ?_)
          · refine E1 5 [] (.bool (false)) ?_
            have hno : visT (T).t (n + 1) at0 low high s ld = none := vis_no2 (.inl (by simpa using c50))
            exact ⟨(s ++ [at0]), (ld), (by rw [hno]; rfl), (fun q9 hq9 => by rw [hno] at hq9; cases hq9), (hM4_2.pk [0])⟩
          · have hfb : frB (T).t at0 = true := by simpa using c50
            refine ov 7 [] (s := Vl ((T).A) ((T).l.length) ((T).cp)) (a := by exact cv (Ru.load1 el23 rfl ((hM4_2.rd 0 rfl).ld (k := 1) rfl)) rfl) (b := ?_)
            have hx6_6 : (at0).toNat < ((T).l).length := (by first | omega | (simp; omega))
            refine ov 1 [] (a := kixF hx6_6 (hNT.atR hM4_2 hOT).1) (b := ?_)
            refine ov 0 [] (a := kldN hx6_6 (hNT.atR hM4_2 hOT).1) (b := ?_)
            have hgp : gP (T).t at0 = (((T).l[(at0).toNat]'hx6_6)).t := gP_at rfl hx6_6
            have hsz := hs.at hx6_6
            have hl4 := fr_len hfb
            rw [hgp] at hl4
            simp only [PgL.t] at hl4
            have hki : (gP (T).t at0).kids = (((T).l[(at0).toNat]'hx6_6)).c.l := by rw [hgp]; rfl
            refine Al 0 [] fun w6_8 b6_8 hb6_8 hM6_8 => ?_
            refine Sb 0 [] 0 fun w6_9 hM6_9 => ?_
            refine lp1 10 [0] (fun (k : Nat) => ([(62, Vi (((k : Nat) : Int)))] : List (Nat × SV))) (fun (k : Nat) => (k ≤ ((((T).l[(at0).toNat]'hx6_6)).k.l).length) ∧ ((((((T).l[(at0).toNat]'hx6_6)).k.l).take k).all (fun k9 => decide (low ≤ k9) && decide (k9 < high)) = true)) (fun (k : Nat) => []) (fun (k : Nat) => ((((T).l[(at0).toNat]'hx6_6)).k.l).length - k) [0, 2, 3, 4, 11, 60, 61] [] [0, 1] 0 (fun k σ w_l8 hI hM_l8 => ?_) (h0 := ⟨(Nat.zero_le _), (by (try dsimp only); simp)⟩)
            obtain ⟨hi0_l8, hi1_l8⟩ := hI
            refine cd 5 [] (fun c63 => ?_) (fun c63 => ?_)
            · have hx9_0 : k < ((((T).l)[(at0).toNat]'hx6_6).k.l).length := (by first | omega | (simp; omega))
              refine ov 5 [] (a := kixM hx9_0 (((hNT.atR hM_l8 hOT)).2.get hx6_6).1) (b := ?_)
              refine ov 0 [] (a := kldM hx9_0 (((hNT.atR hM_l8 hOT)).2.get hx6_6).1) (b := ?_)
              refine pp 8 [] 69 (fun g69 => ?_) (fun g69 => ?_)
              · refine E1 11 [] (.bool (false)) ?_
                have hno : visT (T).t (n + 1) at0 low high s ld = none := vis_no2 (.inr (by rw [hgp]; exact kin_bad (show k < (((T).l[(at0).toNat]'hx6_6)).t.keys.length from hx9_0) (by first | (left; assumption) | (right; assumption) | (show ((((T).l[(at0).toNat]'hx6_6)).k.l)[k] < low ∨ ((((T).l[(at0).toNat]'hx6_6)).k.l)[k] ≥ high; omega))))
                exact ⟨(s ++ [at0]), (ld), (by rw [hno]; rfl), (fun q9 hq9 => by rw [hno] at hq9; cases hq9), (hM_l8.pk [1])⟩
              · refine cd 5 [] (fun c73 => ?_) (fun c73 => ?_)
                · refine E1 5 [] (.bool (false)) ?_
                  have hno : visT (T).t (n + 1) at0 low high s ld = none := vis_no2 (.inr (by rw [hgp]; exact kin_bad (show k < (((T).l[(at0).toNat]'hx6_6)).t.keys.length from hx9_0) (by first | (left; assumption) | (right; assumption) | (show ((((T).l[(at0).toNat]'hx6_6)).k.l)[k] < low ∨ ((((T).l[(at0).toNat]'hx6_6)).k.l)[k] ≥ high; omega))))
                  exact ⟨(s ++ [at0]), (ld), (by rw [hno]; rfl), (fun q9 hq9 => by rw [hno] at hq9; cases hq9), (hM_l8.pk [1])⟩
                · refine ov 2 [] (a := kaddN (k + 1)) (b := ?_)
                  exact le1 2 [] (k + 1) [0, 1] (h := by exact ⟨(by (try dsimp only); omega), (all_keep hx9_0 hi1_l8 (by simp; omega))⟩)
            · have hkin : keysIn (gP (T).t at0) low high = true := by rw [hgp]; exact all_done (by show ((((T).l[(at0).toNat]'hx6_6)).k.l).length ≤ k; omega) hi1_l8
              refine cd 9 [0] (fun c78 => ?_) (fun c78 => ?_)
              · have hk0 : (gP (T).t at0).kids = [] := by rw [hki]; exact List.eq_nil_of_length_eq_zero (by omega)
                have hvl := vis_leaf (T := (T).t) (n := n) (low := low) (high := high) (ld := ld) (inT_t.2 (by omega)) c41 hfb (by first | assumption | exact hkin) hk0
                refine ov 6 [] (s := Vi ((ld))) (a := by exact cv (Ru.load1 el3 rfl ((hM_l8.rd 1 rfl).ld (k := 18) rfl)) rfl) (b := ?_)
                refine cd 2 [] (fun c83 => ?_) (fun c83 => ?_)
                · refine sX 5 [] 1 (ckC T (s ++ [at0]) dp) (hk := (by simp [ckC])) (hq := ck_ld) (h := fun w15_4 hM15_4 => ?_)
                  refine ov 6 [] (s := Vi (dp)) (a := by exact cv (Ru.load1 el3 rfl ((hM15_4.rd 1 rfl).ld (k := 18) rfl)) rfl) (b := ?_)
                  refine ov 1 [] (s := Vb (true)) (a := by exact cv (Ru.congr (v := .bool (decide (dp = dp))) (v' := .bool (true)) (Ru.eql rfl rfl) (congrArg Value.bool (by simp))) rfl) (b := ?_)
                  refine E1 3 [] (.bool (true)) ?_
                  exact ⟨(s ++ [at0]), dp, (by rw [hvl]; first | (split <;> simp <;> omega) | (rw [if_pos (.inl c83)]; rfl)), (fun q9 hq9 => by rw [hvl] at hq9; split at hq9; (have h8 := Option.some.inj hq9; rw [← h8]; congr 1; omega); cases hq9), (hM15_4.pk [1])⟩
                · refine ov 6 [] (s := Vi ((ld))) (a := by exact cv (Ru.load1 el3 rfl ((hM_l8.rd 1 rfl).ld (k := 18) rfl)) rfl) (b := ?_)
                  refine E1 5 [] (.bool (decide ((ld) = dp))) ?_
                  exact ⟨(s ++ [at0]), (ld), (by rw [hvl]; first | (split <;> simp <;> omega) | (rw [if_pos (.inl c83)]; rfl)), (fun q9 hq9 => by rw [hvl] at hq9; split at hq9; (have h8 := Option.some.inj hq9; rw [← h8]; congr 1; omega); cases hq9), (hM_l8.pk [1])⟩
              · have hk0 : (gP (T).t at0).kids ≠ [] := by rw [hki]; intro e9; apply c78; rw [e9]; rfl
                have hvi := vis_in (T := (T).t) (n := n) (low := low) (high := high) (ld := ld) (inT_t.2 (by omega)) c41 hfb (by first | assumption | exact hkin) hk0
                have hkl := (fr_in hfb hk0).2
                rw [hki, hgp] at hkl
                simp only [PgL.t] at hkl
                rw [hki] at hvi
                refine lp3 10 [0] (fun (k : Nat) (s2 : List Int) (l2 : Int) => ([(97, Vi (((k : Nat) : Int)))] : List (Nat × SV))) (fun (k : Nat) (s2 : List Int) (l2 : Int) => (k ≤ ((((T).l[(at0).toNat]'hx6_6)).c.l).length) ∧ (visK (fun k9 x9 s9 l9 => visT (T).t n x9 (lowK (gP (T).t at0) low k9) (highK (gP (T).t at0) high k9) s9 l9) k (((((T).l[(at0).toNat]'hx6_6)).c.l).drop k) s2 l2 = visT (T).t (n + 1) at0 low high s ld)) (fun (k : Nat) (s2 : List Int) (l2 : Int) => [[⟨.slice (bl b) 1 1, 77, 19, 1, ckC T s2 l2⟩]]) (fun (k : Nat) (s2 : List Int) (l2 : Int) => ((((T).l[(at0).toNat]'hx6_6)).c.l).length - k) [0, 2, 3, 4, 11, 95, 96] [1] [0] 0 ((s ++ [at0])) ((ld)) (fun k s2 l2 σ w_l18 hI hM_l18 => ?_) (h0 := ⟨(Nat.zero_le _), (by (try dsimp only); rw [List.drop_zero]; exact hvi.symm)⟩)
                obtain ⟨hi0_l18, hi1_l18⟩ := hI
                refine cd 5 [] (fun c98 => ?_) (fun c98 => ?_)
                · have hx19_1 : k < ((((T).l)[(at0).toNat]'hx6_6).c.l).length := (by first | omega | (simp; omega))
                  refine ov 6 [] (a := kixM hx19_1 (((hNT.atR hM_l18 hOT)).2.get hx6_6).2.1) (b := ?_)
                  refine ov 0 [] (a := kldM hx19_1 (((hNT.atR hM_l18 hOT)).2.get hx6_6).2.1) (b := ?_)
                  refine ct0 10 [] (([(16, Vi (lowK (gP (T).t at0) low k))] : List (Nat × SV))) (True) ([]) [0, 2, 3, 4, 11, 14, 15, 17, 95, 96, 97] [0, 1] ?_ (fun σ w_c105 hI hM_c105 => ?_)
                  · refine cd 5 [] (fun c105 => ?_) (fun c105 => ?_)
                    · refine ov 4 [1] (a := ksub) (b := ?_)
                      have hx22_4 : k - 1 < ((((T).l)[(at0).toNat]'hx6_6).k.l).length := (by first | omega | (simp; omega))
                      refine ov 0 [] (a := kixM hx22_4 (((hNT.atR hM_l18 hOT)).2.get hx6_6).1 (h0 := by omega)) (b := ?_)
                      refine ov 0 [] (a := kldM hx22_4 (((hNT.atR hM_l18 hOT)).2.get hx6_6).1) (b := ?_)
                      exact ce0 2 [] [0, 1] (hL := by exact (Has.cons (I_congr (by rw [hgp]; exact (lowK_pos (by omega) (show k - 1 < (((T).l[(at0).toNat]'hx6_6)).t.keys.length from hx22_4)).symm)) Has.nil)) (h := by exact trivial)
                    · exact ce0 1 [] [0, 1] (hL := by exact (Has.cons (I_congr (lowK_zero (by omega)).symm) Has.nil)) (h := by exact trivial)
                  · refine ct0 0 [] (([(17, Vi (highK (gP (T).t at0) high k))] : List (Nat × SV))) (True) ([]) [0, 2, 3, 4, 11, 15, 16, 95, 96, 97] [0, 1] ?_ (fun σ w_c116 hI hM_c116 => ?_)
                    · refine cd 8 [1] (fun c116 => ?_) (fun c116 => ?_)
                      · have hx24_3 : k < ((((T).l)[(at0).toNat]'hx6_6).k.l).length := (by first | omega | (simp; omega))
                        refine ov 4 [1] (a := kixM hx24_3 (((hNT.atR hM_c105 hOT)).2.get hx6_6).1) (b := ?_)
                        refine ov 0 [] (a := kldM hx24_3 (((hNT.atR hM_c105 hOT)).2.get hx6_6).1) (b := ?_)
                        exact ce0 2 [] [0, 1] (hL := by exact (Has.cons (I_congr (by rw [hgp]; exact (highK_in (show k < (((T).l[(at0).toNat]'hx6_6)).t.keys.length from hx24_3)).symm)) Has.nil)) (h := by exact trivial)
                      · exact ce0 1 [] [0, 1] (hL := by exact (Has.cons (I_congr (by rw [hgp]; exact (highK_end (show ¬ k < (((T).l[(at0).toNat]'hx6_6)).t.keys.length from (by show ¬ k < ((((T).l[(at0).toNat]'hx6_6)).k.l).length; omega))).symm)) Has.nil)) (h := by exact trivial)
                    · refine ov 5 [] (a := kadd) (b := ?_)
                      refine cq 2 [] (b := ih_fn _ _ _ _ _ T (s2) (l2) w_c116 (hNT.atR hM_c116 hOT) (TrO.cons (TrO.own hM_c116 hNT hOT 0 rfl) TrO.nil) (hM_c116.fp [0] rfl rfl) q0 q0 qo qo) (c := ?_)
                      rintro _ w25_6 ⟨s125_6, l125_6, rfl, hv25_6, hR25_6⟩
                      have hM25_6 := hM_c116.cl 1 hR25_6
                      refine cn 2 [] (fun c129 => ?_) (fun c129 => ?_)
                      · have hn1 := vis_none c129
                        refine E1 5 [] (.bool (false)) ?_
                        have hno : visT (T).t (n + 1) at0 low high s ld = none := by rw [← hi1_l18]; exact visK_no hx19_1 hn1
                        exact ⟨s125_6, l125_6, (by rw [hno]; rfl), (fun q9 hq9 => by rw [hno] at hq9; cases hq9), (hM25_6.pk [0])⟩
                      · have hs1 := vis_some (by simpa using c129) hv25_6
                        refine ov 2 [] (a := kaddN (k + 1)) (b := ?_)
                        exact le3 2 [] (k + 1) (s125_6) (l125_6) [0, 1] (h := by exact ⟨(by (try dsimp only); omega), (by (try dsimp only); rw [← visK_ok hx19_1 hs1]; exact hi1_l18)⟩)
                · refine E1 6 [] (.bool (true)) ?_
                  have hve : visT (T).t (n + 1) at0 low high s ld = some (s2, l2) := by rw [← hi1_l18]; exact visK_end (by omega)
                  exact ⟨s2, l2, (by rw [hve]; rfl), (fun q9 hq9 => by rw [hve] at hq9; exact (Option.some.inj hq9).symm), (hM_l18.pk [0])⟩
theorem visit_fn : ∀ (n : Nat), ∀ (b : Nat) (at0 : Int) (dp : Int) (low : Int) (high : Int) (T : TreeL) (s : List Int) (ld : Int) (w : World) (hNT : TrN w T) (hOT : TrO T [some b]) (hM : Mem w w [some b] [[⟨.slice (bl b) 1 1, 77, 19, 1, ckC T s ld⟩]]) (hs : SzT T) (h16 : (T).l.length ≤ 16) (hn : n ≤ 3) (hd : dp = 3 - (n : Int)), Does Tryz.prog 51 [.pointer (ofs (bl b) (0)), I (at0), I (dp), I (low), I (high)] w (fun v w1 => ∃ (s1 : List Int) (l1 : Int), v = .bool ((visT (T).t n at0 low high s ld).isSome) ∧ (∀ q, visT (T).t n at0 low high s ld = some q → q = (s1, l1)) ∧ Mem w w1 [some b] [[⟨.slice (bl b) 1 1, 77, 19, 1, ckC T s1 l1⟩]]) := by
  intro n
  induction n with
  | zero => exact visit0_fn
  | succ n ih => exact visitS_fn n ih
theorem ValidTree_fn (T : TreeL) (w : World) (hNT : TrN w T) (hs : SzT T) :
    Does Tryz.prog 19 [.agg #[I ((T).root), .slice ((T).A) ((T).l.length) ((T).cp)]] w (fun v w1 => v = .bool (validT (T).t) ∧ Mem w w1 [] []) := by
  have hM : Mem w w [] [] := Mem.refl
  refine Does.n1 Tryz.func19 rfl Tryz.results19 Tryz.ntmps19 rfl ?_
  refine Bx 2 [] fun w0_0 b0_0 hb0_0 hM0_0 => ?_
  refine pp 10 [0] 9 (fun g9 => ?_) (fun g9 => ?_)
  · refine E1 12 [] (.bool (false)) ?_
    exact ⟨(by rw [validT_len (by rw [pages_len]; omega)]), (Mem.none hM0_0)⟩
  · refine cd 6 [0] (fun c14 => ?_) (fun c14 => ?_)
    · refine E1 5 [] (.bool (false)) ?_
      exact ⟨(by rw [validT_len (by rw [pages_len]; omega)]), (Mem.none hM0_0)⟩
    · have hpl : 1 ≤ (T).t.pages.length ∧ (T).t.pages.length ≤ 16 := by rw [pages_len]; omega
      refine ov 4 [0] (s := Va [.i ((T).root), .sl ((T).A) ((T).l.length) ((T).cp), .b (false), .b (false), .b (false), .b (false), .b (false), .b (false), .b (false), .b (false), .b (false), .b (false), .b (false), .b (false), .b (false), .b (false), .b (false), .b (false), .i ((-1))]) (a := by exact cv (Ru.buildN (cs := [I ((T).root), .slice ((T).A) ((T).l.length) ((T).cp), .bool (false), .bool (false), .bool (false), .bool (false), .bool (false), .bool (false), .bool (false), .bool (false), .bool (false), .bool (false), .bool (false), .bool (false), .bool (false), .bool (false), .bool (false), .bool (false), I ((-1))]) mf77 rfl (by kernel_rfl)) rfl) (b := ?_)
      refine Al 0 [] fun w3_2 b3_2 hb3_2 hM3_2 => ?_
      refine Sb 0 [] 0 fun w3_3 hM3_3 => ?_
      have hMk1 := hM3_3.reC 0 (ck_nil (T := T) (ld := (-1)))
      refine cq 6 [1] (b := visit_fn 3 _ _ _ _ _ T (([] : List Int)) ((-1)) w3_3 (hNT.at hMk1) (TrO.cons (TrO.old hMk1 hNT 0 rfl) TrO.nil) (hMk1.fp [0] rfl rfl) q0 qo qo (by rfl)) (c := ?_)
      rintro _ w4_2 ⟨s14_2, l14_2, rfl, hv4_2, hR4_2⟩
      have hM4_2 := hMk1.cl 1 hR4_2
      refine cn 2 [] (fun c20 => ?_) (fun c20 => ?_)
      · have hno := vis_none c20
        refine E1 5 [] (.bool (false)) ?_
        exact ⟨(by rw [valid_vis_no hno]), (Mem.none hM4_2)⟩
      · have hve := vis_some (by simpa using c20) hv4_2
        refine lp1 10 [1] (fun (k : Nat) => ([(24, Vi (((k : Nat) : Int)))] : List (Nat × SV))) (fun (k : Nat) => (k ≤ (T).l.length) ∧ (∀ j : Nat, j < k → (j : Int) ∈ s14_2)) (fun (k : Nat) => []) (fun (k : Nat) => (T).l.length - k) [3, 23] [] [0, 1] 0 (fun k σ w_l7 hI hM_l7 => ?_) (h0 := ⟨(Nat.zero_le _), (fun j hj => absurd hj (by omega))⟩)
        obtain ⟨hi0_l7, hi1_l7⟩ := hI
        refine cd 5 [] (fun c25 => ?_) (fun c25 => ?_)
        · have hx9_2 : 0 ≤ ((k : Nat) : Int) ∧ ((k : Nat) : Int) < 16 := (by omega)
          refine ov 12 [] (s := Vp (bl b3_2) (2 + (((k : Nat) : Int)).toNat)) (a := by exact cv (Ru.indexArrK (j := (((k : Nat) : Int)).toNat) Tryz.underlying75 el4 rfl rfl rfl rfl rfl hx9_2) rfl) (b := ?_)
          refine ov 0 [] (s := Vd (((k : Nat) : Int) ∈ s14_2)) (a := by exact cv (Ru.load1 el4 rfl ((hM_l7.rd 0 rfl).ld (ck_getI hx9_2))) rfl) (b := ?_)
          refine cd 2 [] (fun c31 => ?_) (fun c31 => ?_)
          · refine E1 5 [] (.bool (false)) ?_
            exact ⟨(by rw [valid_f (i := k) hpl hve (by rw [pages_len]; omega) (by simpa using c31)]), (Mem.none hM_l7)⟩
          · refine ov 2 [] (a := kaddN (k + 1)) (b := ?_)
            exact le1 2 [] (k + 1) [0, 1] (h := by exact ⟨(by (try dsimp only); omega), (fun j hj => by rcases Nat.lt_succ_iff_lt_or_eq.1 hj with h | h; exact hi1_l7 j h; subst h; simpa using c31)⟩)
        · refine E1 6 [] (.bool (true)) ?_
          exact ⟨(by rw [(valid_vis hpl hve).2 (fun (i9 : Nat) (hi9 : i9 < (T).t.pages.length) => hi1_l7 i9 (by have := pages_len (T := T); omega))]), (Mem.none hM_l7)⟩
end Go.Proofs.YtemejgglbhjodaaGreatDoor
end
