/- Own layer, part 4: plain theorems on the walk of this program's functions and on what they compute; no conditions. -/
import Derived.Test.YtemejgglbhjodaaDoorP2
import Derived.Test.YtemejgglbhjodaaDoorProg
import Derived.Shelf.Strings.Builder1
import Derived.Test.YtemejgglbhjodaaDoorRows
set_option linter.unusedVariables false
set_option linter.unusedSimpArgs false
section
namespace Go.Proofs.YtemejgglbhjodaaDoor
open Go.Px
theorem mixed : Tryd.prog.follows .mixedOrders = true := by kernel_rfl
theorem el3 : ElT Tryd.prog 3 [.int .i64 0] 8 false := ElT.of (z := .int .i64 0) (by kernel_rfl) rfl (by kernel_rfl)
theorem el4 : ElT Tryd.prog 4 [.bool false] 1 false := ElT.of (z := .bool false) (by kernel_rfl) rfl (by kernel_rfl)
theorem el5 : ElT Tryd.prog 5 [.int .u8 0] 1 false := ElT.of (z := .int .u8 0) (by kernel_rfl) rfl (by kernel_rfl)
theorem el22 : ElT Tryd.prog 22 [.slice none 0 0] 24 false := ElT.of (z := .slice none 0 0) (by kernel_rfl) rfl (by kernel_rfl)
theorem el23 : ElT Tryd.prog 23 [.slice none 0 0] 24 false := ElT.of (z := .slice none 0 0) (by kernel_rfl) rfl (by kernel_rfl)
theorem el25 : ElT Tryd.prog 25 [.int .i64 0, .slice none 0 0] 32 true := ElT.of (z := .agg #[.int .i64 0, .slice none 0 0]) (by kernel_rfl) rfl (by kernel_rfl)
theorem el29 : ElT Tryd.prog 29 [.slice none 0 0] 24 false := ElT.of (z := .slice none 0 0) (by kernel_rfl) rfl (by kernel_rfl)
theorem el39 : ElT Tryd.prog 39 [.slice none 0 0, .slice none 0 0, .slice none 0 0] 72 true := ElT.of (z := .agg #[.slice none 0 0, .slice none 0 0, .slice none 0 0]) (by kernel_rfl) rfl (by kernel_rfl)
theorem el43 : ElT Tryd.prog 43 [.pointer none] 8 false := ElT.of (z := .pointer none) (by kernel_rfl) rfl (by kernel_rfl)
theorem el45 : ElT Tryd.prog 45 [.pointer none, .slice none 0 0] 32 true := ElT.of (z := .agg #[.pointer none, .slice none 0 0]) (by kernel_rfl) rfl (by kernel_rfl)
theorem el51 : ElT Tryd.prog 51 [.int .i64 0, .slice none 0 0, .bool false, .bool false, .bool false, .bool false, .bool false, .bool false, .bool false, .bool false, .bool false, .bool false, .bool false, .bool false, .bool false, .bool false, .bool false, .bool false, .int .i64 0] 56 true := ElT.of (z := .agg #[.int .i64 0, .slice none 0 0, .bool false, .bool false, .bool false, .bool false, .bool false, .bool false, .bool false, .bool false, .bool false, .bool false, .bool false, .bool false, .bool false, .bool false, .bool false, .bool false, .int .i64 0]) (by kernel_rfl) rfl (by kernel_rfl)
theorem el57 : ElT Tryd.prog 57 [.int .i64 0, .int .i64 0] 16 true := ElT.of (z := .agg #[.int .i64 0, .int .i64 0]) (by kernel_rfl) rfl (by kernel_rfl)
theorem el64 : ElT Tryd.prog 64 [.int .i64 0, .int .i64 0, .int .i64 0, .int .i64 0, .int .i64 0, .int .i64 0, .int .i64 0, .int .i64 0, .int .i64 0, .int .i64 0, .int .i64 0, .int .i64 0, .int .i64 0, .int .i64 0, .int .i64 0, .int .i64 0] 128 true := ElT.of (z := .agg #[.int .i64 0, .int .i64 0, .int .i64 0, .int .i64 0, .int .i64 0, .int .i64 0, .int .i64 0, .int .i64 0, .int .i64 0, .int .i64 0, .int .i64 0, .int .i64 0, .int .i64 0, .int .i64 0, .int .i64 0, .int .i64 0]) (by kernel_rfl) rfl (by kernel_rfl)
theorem el73 : ElT Tryd.prog 73 [.slice none 0 0, .int .i64 0] 32 true := ElT.of (z := .agg #[.slice none 0 0, .int .i64 0]) (by kernel_rfl) rfl (by kernel_rfl)
theorem el98 : ElT Tryd.prog 98 [.slice none 0 0, .slice none 0 0] 48 true := ElT.of (z := .agg #[.slice none 0 0, .slice none 0 0]) (by kernel_rfl) rfl (by kernel_rfl)
theorem el106 : ElT Tryd.prog 106 [.int .u64 0] 8 false := ElT.of (z := .int .u64 0) (by kernel_rfl) rfl (by kernel_rfl)
theorem fl25_0 : FlT Tryd.prog 25 0 0 := FlT.of (by kernel_rfl)
theorem fl25_1 : FlT Tryd.prog 25 1 1 := FlT.of (by kernel_rfl)
theorem fl39_0 : FlT Tryd.prog 39 0 0 := FlT.of (by kernel_rfl)
theorem fl39_1 : FlT Tryd.prog 39 1 1 := FlT.of (by kernel_rfl)
theorem fl39_2 : FlT Tryd.prog 39 2 2 := FlT.of (by kernel_rfl)
theorem fl45_0 : FlT Tryd.prog 45 0 0 := FlT.of (by kernel_rfl)
theorem fl45_1 : FlT Tryd.prog 45 1 1 := FlT.of (by kernel_rfl)
theorem fl51_0 : FlT Tryd.prog 51 0 0 := FlT.of (by kernel_rfl)
theorem fl51_1 : FlT Tryd.prog 51 1 2 := FlT.of (by kernel_rfl)
theorem fl51_2 : FlT Tryd.prog 51 2 18 := FlT.of (by kernel_rfl)
theorem fl57_0 : FlT Tryd.prog 57 0 0 := FlT.of (by kernel_rfl)
theorem fl57_1 : FlT Tryd.prog 57 1 1 := FlT.of (by kernel_rfl)
theorem fl73_0 : FlT Tryd.prog 73 0 0 := FlT.of (by kernel_rfl)
theorem fl73_1 : FlT Tryd.prog 73 1 1 := FlT.of (by kernel_rfl)
theorem fl98_0 : FlT Tryd.prog 98 0 0 := FlT.of (by kernel_rfl)
theorem fl98_1 : FlT Tryd.prog 98 1 1 := FlT.of (by kernel_rfl)
theorem of25 : OneF Tryd.prog 25 [.int .i64 0, .slice none 0 0] := OneF.of (z := .agg #[.int .i64 0, .slice none 0 0]) (by kernel_rfl) rfl (by kernel_rfl)
theorem of39 : OneF Tryd.prog 39 [.slice none 0 0, .slice none 0 0, .slice none 0 0] := OneF.of (z := .agg #[.slice none 0 0, .slice none 0 0, .slice none 0 0]) (by kernel_rfl) rfl (by kernel_rfl)
theorem of57 : OneF Tryd.prog 57 [.int .i64 0, .int .i64 0] := OneF.of (z := .agg #[.int .i64 0, .int .i64 0]) (by kernel_rfl) rfl (by kernel_rfl)
theorem of73 : OneF Tryd.prog 73 [.slice none 0 0, .int .i64 0] := OneF.of (z := .agg #[.slice none 0 0, .int .i64 0]) (by kernel_rfl) rfl (by kernel_rfl)
theorem of98 : OneF Tryd.prog 98 [.slice none 0 0, .slice none 0 0] := OneF.of (z := .agg #[.slice none 0 0, .slice none 0 0]) (by kernel_rfl) rfl (by kernel_rfl)
theorem en7 : Enters Tryd.prog 7 := Px.enters_of Tryd.func7 (by kernel_rfl) (by kernel_rfl)
theorem en9 : Enters Tryd.prog 9 := Px.enters_of Tryd.func9 (by kernel_rfl) (by kernel_rfl)
theorem en10 : Enters Tryd.prog 10 := Px.enters_of Tryd.func10 (by kernel_rfl) (by kernel_rfl)
theorem en11 : Enters Tryd.prog 11 := Px.enters_of Tryd.func11 (by kernel_rfl) (by kernel_rfl)
theorem en12 : Enters Tryd.prog 12 := Px.enters_of Tryd.func12 (by kernel_rfl) (by kernel_rfl)
theorem en13 : Enters Tryd.prog 13 := Px.enters_of Tryd.func13 (by kernel_rfl) (by kernel_rfl)
theorem en14 : Enters Tryd.prog 14 := Px.enters_of Tryd.func14 (by kernel_rfl) (by kernel_rfl)
theorem en15 : Enters Tryd.prog 15 := Px.enters_of Tryd.func15 (by kernel_rfl) (by kernel_rfl)
theorem en16 : Enters Tryd.prog 16 := Px.enters_of Tryd.func16 (by kernel_rfl) (by kernel_rfl)
theorem en17 : Enters Tryd.prog 17 := Px.enters_of Tryd.func17 (by kernel_rfl) (by kernel_rfl)
theorem en18 : Enters Tryd.prog 18 := Px.enters_of Tryd.func18 (by kernel_rfl) (by kernel_rfl)
theorem en19 : Enters Tryd.prog 19 := Px.enters_of Tryd.func19 (by kernel_rfl) (by kernel_rfl)
theorem en20 : Enters Tryd.prog 20 := Px.enters_of Tryd.func20 (by kernel_rfl) (by kernel_rfl)
theorem en21 : Enters Tryd.prog 21 := Px.enters_of Tryd.func21 (by kernel_rfl) (by kernel_rfl)
theorem en22 : Enters Tryd.prog 22 := Px.enters_of Tryd.func22 (by kernel_rfl) (by kernel_rfl)
theorem en24 : Enters Tryd.prog 24 := Px.enters_of Tryd.func24 (by kernel_rfl) (by kernel_rfl)
theorem en25 : Enters Tryd.prog 25 := Px.enters_of Tryd.func25 (by kernel_rfl) (by kernel_rfl)
theorem en26 : Enters Tryd.prog 26 := Px.enters_of Tryd.func26 (by kernel_rfl) (by kernel_rfl)
theorem en27 : Enters Tryd.prog 27 := Px.enters_of Tryd.func27 (by kernel_rfl) (by kernel_rfl)
theorem en28 : Enters Tryd.prog 28 := Px.enters_of Tryd.func28 (by kernel_rfl) (by kernel_rfl)
theorem en29 : Enters Tryd.prog 29 := Px.enters_of Tryd.func29 (by kernel_rfl) (by kernel_rfl)
theorem en30 : Enters Tryd.prog 30 := Px.enters_of Tryd.func30 (by kernel_rfl) (by kernel_rfl)
theorem en31 : Enters Tryd.prog 31 := Px.enters_of Tryd.func31 (by kernel_rfl) (by kernel_rfl)
theorem en32 : Enters Tryd.prog 32 := Px.enters_of Tryd.func32 (by kernel_rfl) (by kernel_rfl)
theorem en33 : Enters Tryd.prog 33 := Px.enters_of Tryd.func33 (by kernel_rfl) (by kernel_rfl)
theorem en34 : Enters Tryd.prog 34 := Px.enters_of Tryd.func34 (by kernel_rfl) (by kernel_rfl)
theorem en35 : Enters Tryd.prog 35 := Px.enters_of Tryd.func35 (by kernel_rfl) (by kernel_rfl)
theorem en36 : Enters Tryd.prog 36 := Px.enters_of Tryd.func36 (by kernel_rfl) (by kernel_rfl)
theorem en37 : Enters Tryd.prog 37 := Px.enters_of Tryd.func37 (by kernel_rfl) (by kernel_rfl)
theorem en38 : Enters Tryd.prog 38 := Px.enters_of Tryd.func38 (by kernel_rfl) (by kernel_rfl)
theorem en39 : Enters Tryd.prog 39 := Px.enters_of Tryd.func39 (by kernel_rfl) (by kernel_rfl)
theorem en40 : Enters Tryd.prog 40 := Px.enters_of Tryd.func40 (by kernel_rfl) (by kernel_rfl)
theorem en41 : Enters Tryd.prog 41 := Px.enters_of Tryd.func41 (by kernel_rfl) (by kernel_rfl)
theorem en42 : Enters Tryd.prog 42 := Px.enters_of Tryd.func42 (by kernel_rfl) (by kernel_rfl)
theorem en43 : Enters Tryd.prog 43 := Px.enters_of Tryd.func43 (by kernel_rfl) (by kernel_rfl)
theorem en44 : Enters Tryd.prog 44 := Px.enters_of Tryd.func44 (by kernel_rfl) (by kernel_rfl)
theorem en45 : Enters Tryd.prog 45 := Px.enters_of Tryd.func45 (by kernel_rfl) (by kernel_rfl)
theorem en47 : Enters Tryd.prog 47 := Px.enters_of Tryd.func47 (by kernel_rfl) (by kernel_rfl)
theorem en49 : Enters Tryd.prog 49 := Px.enters_of Tryd.func49 (by kernel_rfl) (by kernel_rfl)
theorem en50 : Enters Tryd.prog 50 := Px.enters_of Tryd.func50 (by kernel_rfl) (by kernel_rfl)
theorem en51 : Enters Tryd.prog 51 := Px.enters_of Tryd.func51 (by kernel_rfl) (by kernel_rfl)
theorem en52 : Enters Tryd.prog 52 := Px.enters_of Tryd.func52 (by kernel_rfl) (by kernel_rfl)
theorem en53 : Enters Tryd.prog 53 := Px.enters_of Tryd.func53 (by kernel_rfl) (by kernel_rfl)
theorem en55 : Enters Tryd.prog 55 := Px.enters_of Tryd.func55 (by kernel_rfl) (by kernel_rfl)
theorem en56 : Enters Tryd.prog 56 := Px.enters_of Tryd.func56 (by kernel_rfl) (by kernel_rfl)
theorem en57 : Enters Tryd.prog 57 := Px.enters_of Tryd.func57 (by kernel_rfl) (by kernel_rfl)
theorem en58 : Enters Tryd.prog 58 := Px.enters_of Tryd.func58 (by kernel_rfl) (by kernel_rfl)
theorem en59 : Enters Tryd.prog 59 := Px.enters_of Tryd.func59 (by kernel_rfl) (by kernel_rfl)
theorem en60 : Enters Tryd.prog 60 := Px.enters_of Tryd.func60 (by kernel_rfl) (by kernel_rfl)
theorem en61 : Enters Tryd.prog 61 := Px.enters_of Tryd.func61 (by kernel_rfl) (by kernel_rfl)
theorem en62 : Enters Tryd.prog 62 := Px.enters_of Tryd.func62 (by kernel_rfl) (by kernel_rfl)
theorem en63 : Enters Tryd.prog 63 := Px.enters_of Tryd.func63 (by kernel_rfl) (by kernel_rfl)
theorem en64 : Enters Tryd.prog 64 := Px.enters_of Tryd.func64 (by kernel_rfl) (by kernel_rfl)
theorem en65 : Enters Tryd.prog 65 := Px.enters_of Tryd.func65 (by kernel_rfl) (by kernel_rfl)
theorem en66 : Enters Tryd.prog 66 := Px.enters_of Tryd.func66 (by kernel_rfl) (by kernel_rfl)
theorem en67 : Enters Tryd.prog 67 := Px.enters_of Tryd.func67 (by kernel_rfl) (by kernel_rfl)
theorem en70 : Enters Tryd.prog 70 := Px.enters_of Tryd.func70 (by kernel_rfl) (by kernel_rfl)
theorem en71 : Enters Tryd.prog 71 := Px.enters_of Tryd.func71 (by kernel_rfl) (by kernel_rfl)
theorem en72 : Enters Tryd.prog 72 := Px.enters_of Tryd.func72 (by kernel_rfl) (by kernel_rfl)
theorem en73 : Enters Tryd.prog 73 := Px.enters_of Tryd.func73 (by kernel_rfl) (by kernel_rfl)
theorem en74 : Enters Tryd.prog 74 := Px.enters_of Tryd.func74 (by kernel_rfl) (by kernel_rfl)
theorem en75 : Enters Tryd.prog 75 := Px.enters_of Tryd.func75 (by kernel_rfl) (by kernel_rfl)
theorem en76 : Enters Tryd.prog 76 := Px.enters_of Tryd.func76 (by kernel_rfl) (by kernel_rfl)
theorem en77 : Enters Tryd.prog 77 := Px.enters_of Tryd.func77 (by kernel_rfl) (by kernel_rfl)
theorem en78 : Enters Tryd.prog 78 := Px.enters_of Tryd.func78 (by kernel_rfl) (by kernel_rfl)
theorem en83 : Enters Tryd.prog 83 := Px.enters_of Tryd.func83 (by kernel_rfl) (by kernel_rfl)
theorem en84 : Enters Tryd.prog 84 := Px.enters_of Tryd.func84 (by kernel_rfl) (by kernel_rfl)
theorem en85 : Enters Tryd.prog 85 := Px.enters_of Tryd.func85 (by kernel_rfl) (by kernel_rfl)
theorem en86 : Enters Tryd.prog 86 := Px.enters_of Tryd.func86 (by kernel_rfl) (by kernel_rfl)
theorem en87 : Enters Tryd.prog 87 := Px.enters_of Tryd.func87 (by kernel_rfl) (by kernel_rfl)
theorem en88 : Enters Tryd.prog 88 := Px.enters_of Tryd.func88 (by kernel_rfl) (by kernel_rfl)
theorem en89 : Enters Tryd.prog 89 := Px.enters_of Tryd.func89 (by kernel_rfl) (by kernel_rfl)
theorem en90 : Enters Tryd.prog 90 := Px.enters_of Tryd.func90 (by kernel_rfl) (by kernel_rfl)
theorem en91 : Enters Tryd.prog 91 := Px.enters_of Tryd.func91 (by kernel_rfl) (by kernel_rfl)
theorem en92 : Enters Tryd.prog 92 := Px.enters_of Tryd.func92 (by kernel_rfl) (by kernel_rfl)
theorem en93 : Enters Tryd.prog 93 := Px.enters_of Tryd.func93 (by kernel_rfl) (by kernel_rfl)
theorem en94 : Enters Tryd.prog 94 := Px.enters_of Tryd.func94 (by kernel_rfl) (by kernel_rfl)
theorem en100 : Enters Tryd.prog 100 := Px.enters_of Tryd.func100 (by kernel_rfl) (by kernel_rfl)
theorem en101 : Enters Tryd.prog 101 := Px.enters_of Tryd.func101 (by kernel_rfl) (by kernel_rfl)
def tyL : List (List TyI) := [[ty0, ty0, ty0, ⟨[], some (1, false), false, false, none⟩, ⟨[], some (1, false), false, false, none⟩, ⟨[], some (1, false), false, false, none⟩, ty0, ty0, ty0, ⟨[], none, false, true, none⟩, ty0, ty0],
  [ty0, ty0, ty0, ty0, ty0, ty0, ty0, ty0, ty0, ty0, ⟨[], some (1, false), true, false, none⟩, ⟨[], some (1, false), true, false, none⟩],
  [ty0, ⟨[(0, 0), (1, 1)], some (2, true), false, false, some [.i 0, .sl none 0 0]⟩, ty0, ty0, ty0, ⟨[], some (1, false), true, false, none⟩, ty0, ⟨[], none, true, false, none⟩, ty0, ty0, ty0, ty0],
  [ty0, ty0, ty0, ⟨[(0, 0), (1, 1), (2, 2)], some (3, true), false, false, some [.sl none 0 0, .sl none 0 0, .sl none 0 0]⟩, ty0, ty0, ty0, ⟨[], some (1, false), false, false, none⟩, ty0, ⟨[(0, 0), (1, 1)], some (2, true), false, false, none⟩, ty0, ty0],
  [ty0, ty0, ty0, ⟨[(0, 0), (1, 2), (2, 18)], some (19, true), false, false, none⟩, ty0, ty0, ty0, ty0, ty0, ⟨[(0, 0), (1, 1)], some (2, true), false, false, some [.i 0, .i 0]⟩, ty0, ty0],
  [ty0, ty0, ty0, ty0, ty0, ty0, ty0, ty0, ty0, ty0, ty0, ty0],
  [ty0, ⟨[(0, 0), (1, 1)], some (2, true), false, false, some [.sl none 0 0, .i 0]⟩, ty0, ty0, ty0, ty0, ty0, ty0, ty0, ty0, ty0, ty0],
  [ty0, ty0, ty0, ty0, ty0, ty0, ty0, ty0, ty0, ty0, ty0, ty0],
  [ty0, ty0, ⟨[(0, 0), (1, 1)], some (2, true), false, false, some [.sl none 0 0, .sl none 0 0]⟩, ty0, ty0, ty0, ty0, ty0, ty0, ty0, ⟨[], some (1, false), false, false, none⟩, ty0],
  [ty0, ty0, ty0, ty0, ty0, ty0, ty0, ty0, ty0, ty0, ty0, ty0],
  [ty0, ty0, ty0, ty0, ty0, ty0, ty0, ty0, ty0, ty0, ty0, ty0],
  [ty0, ty0, ty0, ty0, ty0, ty0, ty0, ty0, ty0, ty0, ty0, ty0],
  [ty0]]
theorem tyOK : AllT2 Tryd.prog 12 0 tyL := ⟨⟨.nil, ⟨.nil, ⟨.nil, ⟨⟨trivial, ⟨_, _, el3, rfl⟩, nofun, nofun, trivial⟩, ⟨⟨trivial, ⟨_, _, el4, rfl⟩, nofun, nofun, trivial⟩, ⟨⟨trivial, ⟨_, _, el5, rfl⟩, nofun, nofun, trivial⟩, ⟨.nil, ⟨.nil, ⟨.nil, ⟨⟨trivial, trivial, nofun, fun _ => Tryd.underlying9, trivial⟩, ⟨.nil, ⟨.nil, trivial⟩⟩⟩⟩⟩⟩⟩⟩⟩⟩⟩⟩,
  ⟨⟨.nil, ⟨.nil, ⟨.nil, ⟨.nil, ⟨.nil, ⟨.nil, ⟨.nil, ⟨.nil, ⟨.nil, ⟨.nil, ⟨⟨trivial, ⟨_, _, el22, rfl⟩, fun _ => ⟨_, Tryd.underlying22⟩, nofun, trivial⟩, ⟨⟨trivial, ⟨_, _, el23, rfl⟩, fun _ => ⟨_, Tryd.underlying23⟩, nofun, trivial⟩, trivial⟩⟩⟩⟩⟩⟩⟩⟩⟩⟩⟩⟩,
  ⟨⟨.nil, ⟨⟨⟨fl25_0, ⟨fl25_1, trivial⟩⟩, ⟨_, _, el25, rfl⟩, nofun, nofun, of25⟩, ⟨.nil, ⟨.nil, ⟨.nil, ⟨⟨trivial, ⟨_, _, el29, rfl⟩, fun _ => ⟨_, Tryd.underlying29⟩, nofun, trivial⟩, ⟨.nil, ⟨⟨trivial, trivial, fun _ => ⟨_, Tryd.underlying31⟩, nofun, trivial⟩, ⟨.nil, ⟨.nil, ⟨.nil, ⟨.nil, trivial⟩⟩⟩⟩⟩⟩⟩⟩⟩⟩⟩⟩,
  ⟨⟨.nil, ⟨.nil, ⟨.nil, ⟨⟨⟨fl39_0, ⟨fl39_1, ⟨fl39_2, trivial⟩⟩⟩, ⟨_, _, el39, rfl⟩, nofun, nofun, of39⟩, ⟨.nil, ⟨.nil, ⟨.nil, ⟨⟨trivial, ⟨_, _, el43, rfl⟩, nofun, nofun, trivial⟩, ⟨.nil, ⟨⟨⟨fl45_0, ⟨fl45_1, trivial⟩⟩, ⟨_, _, el45, rfl⟩, nofun, nofun, trivial⟩, ⟨.nil, ⟨.nil, trivial⟩⟩⟩⟩⟩⟩⟩⟩⟩⟩⟩⟩,
  ⟨⟨.nil, ⟨.nil, ⟨.nil, ⟨⟨⟨fl51_0, ⟨fl51_1, ⟨fl51_2, trivial⟩⟩⟩, ⟨_, _, el51, rfl⟩, nofun, nofun, trivial⟩, ⟨.nil, ⟨.nil, ⟨.nil, ⟨.nil, ⟨.nil, ⟨⟨⟨fl57_0, ⟨fl57_1, trivial⟩⟩, ⟨_, _, el57, rfl⟩, nofun, nofun, of57⟩, ⟨.nil, ⟨.nil, trivial⟩⟩⟩⟩⟩⟩⟩⟩⟩⟩⟩⟩,
  ⟨⟨.nil, ⟨.nil, ⟨.nil, ⟨.nil, ⟨.nil, ⟨.nil, ⟨.nil, ⟨.nil, ⟨.nil, ⟨.nil, ⟨.nil, ⟨.nil, trivial⟩⟩⟩⟩⟩⟩⟩⟩⟩⟩⟩⟩,
  ⟨⟨.nil, ⟨⟨⟨fl73_0, ⟨fl73_1, trivial⟩⟩, ⟨_, _, el73, rfl⟩, nofun, nofun, of73⟩, ⟨.nil, ⟨.nil, ⟨.nil, ⟨.nil, ⟨.nil, ⟨.nil, ⟨.nil, ⟨.nil, ⟨.nil, ⟨.nil, trivial⟩⟩⟩⟩⟩⟩⟩⟩⟩⟩⟩⟩,
  ⟨⟨.nil, ⟨.nil, ⟨.nil, ⟨.nil, ⟨.nil, ⟨.nil, ⟨.nil, ⟨.nil, ⟨.nil, ⟨.nil, ⟨.nil, ⟨.nil, trivial⟩⟩⟩⟩⟩⟩⟩⟩⟩⟩⟩⟩,
  ⟨⟨.nil, ⟨.nil, ⟨⟨⟨fl98_0, ⟨fl98_1, trivial⟩⟩, ⟨_, _, el98, rfl⟩, nofun, nofun, of98⟩, ⟨.nil, ⟨.nil, ⟨.nil, ⟨.nil, ⟨.nil, ⟨.nil, ⟨.nil, ⟨⟨trivial, ⟨_, _, el106, rfl⟩, nofun, nofun, trivial⟩, ⟨.nil, trivial⟩⟩⟩⟩⟩⟩⟩⟩⟩⟩⟩⟩,
  ⟨⟨.nil, ⟨.nil, ⟨.nil, ⟨.nil, ⟨.nil, ⟨.nil, ⟨.nil, ⟨.nil, ⟨.nil, ⟨.nil, ⟨.nil, ⟨.nil, trivial⟩⟩⟩⟩⟩⟩⟩⟩⟩⟩⟩⟩,
  ⟨⟨.nil, ⟨.nil, ⟨.nil, ⟨.nil, ⟨.nil, ⟨.nil, ⟨.nil, ⟨.nil, ⟨.nil, ⟨.nil, ⟨.nil, ⟨.nil, trivial⟩⟩⟩⟩⟩⟩⟩⟩⟩⟩⟩⟩,
  ⟨⟨.nil, ⟨.nil, ⟨.nil, ⟨.nil, ⟨.nil, ⟨.nil, ⟨.nil, ⟨.nil, ⟨.nil, ⟨.nil, ⟨.nil, ⟨.nil, trivial⟩⟩⟩⟩⟩⟩⟩⟩⟩⟩⟩⟩,
  ⟨⟨.nil, trivial⟩,
  trivial⟩⟩⟩⟩⟩⟩⟩⟩⟩⟩⟩⟩⟩
instance itab : TabC Tryd.prog (tyGet 12 tyL) := ⟨tab_ok (by decide) tyOK (by kernel_rfl)⟩
instance imx : MxC Tryd.prog := ⟨mixed⟩
instance iel3 : ElC Tryd.prog 3 [.int .i64 0] 8 false := ⟨el3⟩
instance iel4 : ElC Tryd.prog 4 [.bool false] 1 false := ⟨el4⟩
instance iel5 : ElC Tryd.prog 5 [.int .u8 0] 1 false := ⟨el5⟩
instance iel22 : ElC Tryd.prog 22 [.slice none 0 0] 24 false := ⟨el22⟩
instance iel23 : ElC Tryd.prog 23 [.slice none 0 0] 24 false := ⟨el23⟩
instance iel25 : ElC Tryd.prog 25 [.int .i64 0, .slice none 0 0] 32 true := ⟨el25⟩
instance iel29 : ElC Tryd.prog 29 [.slice none 0 0] 24 false := ⟨el29⟩
instance iel39 : ElC Tryd.prog 39 [.slice none 0 0, .slice none 0 0, .slice none 0 0] 72 true := ⟨el39⟩
instance iel43 : ElC Tryd.prog 43 [.pointer none] 8 false := ⟨el43⟩
instance iel45 : ElC Tryd.prog 45 [.pointer none, .slice none 0 0] 32 true := ⟨el45⟩
instance iel51 : ElC Tryd.prog 51 [.int .i64 0, .slice none 0 0, .bool false, .bool false, .bool false, .bool false, .bool false, .bool false, .bool false, .bool false, .bool false, .bool false, .bool false, .bool false, .bool false, .bool false, .bool false, .bool false, .int .i64 0] 56 true := ⟨el51⟩
instance iel57 : ElC Tryd.prog 57 [.int .i64 0, .int .i64 0] 16 true := ⟨el57⟩
instance iel98 : ElC Tryd.prog 98 [.slice none 0 0, .slice none 0 0] 48 true := ⟨el98⟩
instance ifl39_0 : FlC Tryd.prog 39 0 0 := ⟨fl39_0⟩
instance ifl39_1 : FlC Tryd.prog 39 1 1 := ⟨fl39_1⟩
instance ifl39_2 : FlC Tryd.prog 39 2 2 := ⟨fl39_2⟩
instance ifl57_0 : FlC Tryd.prog 57 0 0 := ⟨fl57_0⟩
instance ifl57_1 : FlC Tryd.prog 57 1 1 := ⟨fl57_1⟩
instance ien7 : EnC Tryd.prog 7 := ⟨en7⟩
instance ien9 : EnC Tryd.prog 9 := ⟨en9⟩
instance ien10 : EnC Tryd.prog 10 := ⟨en10⟩
instance ien11 : EnC Tryd.prog 11 := ⟨en11⟩
instance ien12 : EnC Tryd.prog 12 := ⟨en12⟩
instance ien13 : EnC Tryd.prog 13 := ⟨en13⟩
instance ien14 : EnC Tryd.prog 14 := ⟨en14⟩
instance ien15 : EnC Tryd.prog 15 := ⟨en15⟩
instance ien16 : EnC Tryd.prog 16 := ⟨en16⟩
instance ien17 : EnC Tryd.prog 17 := ⟨en17⟩
instance ien18 : EnC Tryd.prog 18 := ⟨en18⟩
instance ien19 : EnC Tryd.prog 19 := ⟨en19⟩
instance ien20 : EnC Tryd.prog 20 := ⟨en20⟩
instance ien22 : EnC Tryd.prog 22 := ⟨en22⟩
instance ien24 : EnC Tryd.prog 24 := ⟨en24⟩
instance ien25 : EnC Tryd.prog 25 := ⟨en25⟩
instance ien26 : EnC Tryd.prog 26 := ⟨en26⟩
instance ien27 : EnC Tryd.prog 27 := ⟨en27⟩
instance ien28 : EnC Tryd.prog 28 := ⟨en28⟩
instance ien29 : EnC Tryd.prog 29 := ⟨en29⟩
instance ien30 : EnC Tryd.prog 30 := ⟨en30⟩
instance ien31 : EnC Tryd.prog 31 := ⟨en31⟩
instance ien32 : EnC Tryd.prog 32 := ⟨en32⟩
instance ien33 : EnC Tryd.prog 33 := ⟨en33⟩
instance ien34 : EnC Tryd.prog 34 := ⟨en34⟩
instance ien35 : EnC Tryd.prog 35 := ⟨en35⟩
instance ien36 : EnC Tryd.prog 36 := ⟨en36⟩
instance ien37 : EnC Tryd.prog 37 := ⟨en37⟩
instance ien38 : EnC Tryd.prog 38 := ⟨en38⟩
instance ien39 : EnC Tryd.prog 39 := ⟨en39⟩
instance ien40 : EnC Tryd.prog 40 := ⟨en40⟩
instance ien41 : EnC Tryd.prog 41 := ⟨en41⟩
instance ien42 : EnC Tryd.prog 42 := ⟨en42⟩
instance ien43 : EnC Tryd.prog 43 := ⟨en43⟩
instance ien44 : EnC Tryd.prog 44 := ⟨en44⟩
instance ien45 : EnC Tryd.prog 45 := ⟨en45⟩
instance ien47 : EnC Tryd.prog 47 := ⟨en47⟩
instance ien49 : EnC Tryd.prog 49 := ⟨en49⟩
instance ien50 : EnC Tryd.prog 50 := ⟨en50⟩
instance ien51 : EnC Tryd.prog 51 := ⟨en51⟩
instance ien52 : EnC Tryd.prog 52 := ⟨en52⟩
instance ien53 : EnC Tryd.prog 53 := ⟨en53⟩
instance ien55 : EnC Tryd.prog 55 := ⟨en55⟩
instance ien56 : EnC Tryd.prog 56 := ⟨en56⟩
instance ien57 : EnC Tryd.prog 57 := ⟨en57⟩
instance ien58 : EnC Tryd.prog 58 := ⟨en58⟩
instance ien59 : EnC Tryd.prog 59 := ⟨en59⟩
instance ien60 : EnC Tryd.prog 60 := ⟨en60⟩
instance ien61 : EnC Tryd.prog 61 := ⟨en61⟩
instance ien62 : EnC Tryd.prog 62 := ⟨en62⟩
instance ien63 : EnC Tryd.prog 63 := ⟨en63⟩
instance ien64 : EnC Tryd.prog 64 := ⟨en64⟩
instance ien65 : EnC Tryd.prog 65 := ⟨en65⟩
instance ien66 : EnC Tryd.prog 66 := ⟨en66⟩
instance ien67 : EnC Tryd.prog 67 := ⟨en67⟩
instance ien70 : EnC Tryd.prog 70 := ⟨en70⟩
instance ien71 : EnC Tryd.prog 71 := ⟨en71⟩
instance ien72 : EnC Tryd.prog 72 := ⟨en72⟩
instance ien73 : EnC Tryd.prog 73 := ⟨en73⟩
instance ien74 : EnC Tryd.prog 74 := ⟨en74⟩
instance ien75 : EnC Tryd.prog 75 := ⟨en75⟩
instance ien76 : EnC Tryd.prog 76 := ⟨en76⟩
instance ien77 : EnC Tryd.prog 77 := ⟨en77⟩
instance ien78 : EnC Tryd.prog 78 := ⟨en78⟩
instance ien83 : EnC Tryd.prog 83 := ⟨en83⟩
instance ien84 : EnC Tryd.prog 84 := ⟨en84⟩
instance ien85 : EnC Tryd.prog 85 := ⟨en85⟩
instance ien86 : EnC Tryd.prog 86 := ⟨en86⟩
instance ien87 : EnC Tryd.prog 87 := ⟨en87⟩
instance ien88 : EnC Tryd.prog 88 := ⟨en88⟩
instance ien89 : EnC Tryd.prog 89 := ⟨en89⟩
instance ien90 : EnC Tryd.prog 90 := ⟨en90⟩
instance ien91 : EnC Tryd.prog 91 := ⟨en91⟩
instance ien92 : EnC Tryd.prog 92 := ⟨en92⟩
instance ien93 : EnC Tryd.prog 93 := ⟨en93⟩
instance ien94 : EnC Tryd.prog 94 := ⟨en94⟩
instance ien100 : EnC Tryd.prog 100 := ⟨en100⟩
instance ien101 : EnC Tryd.prog 101 := ⟨en101⟩
instance ienl_encP : EnL encP 2 := ⟨encP_len⟩
instance iun3 : UnC Tryd.prog 3 (.int .i64) := ⟨Tryd.underlying3⟩
instance iun5 : UnC Tryd.prog 5 (.int .u8) := ⟨Tryd.underlying5⟩
instance iun22 : UnC Tryd.prog 22 (.slice 5) := ⟨Tryd.underlying22⟩
instance iun23 : UnC Tryd.prog 23 (.slice 39) := ⟨Tryd.underlying23⟩
instance iun29 : UnC Tryd.prog 29 (.slice 3) := ⟨Tryd.underlying29⟩
instance iun31 : UnC Tryd.prog 31 (.slice 57) := ⟨Tryd.underlying31⟩
end Go.Proofs.YtemejgglbhjodaaDoor
end
section
namespace Go.Proofs.YtemejgglbhjodaaDoor
open Go.Px
theorem pick_fn (gr : Nat) (rA : Option Addr) (rc : Nat) (rl : List UInt8) (rq : Nat) (n : Int) (w : World) (hrA : Rd w rA (rl.map byteV)) (hro : Off rA (rl.map byteV) [some gr]) (hrl : rl.length ≤ 2000) (hM : Mem w w [some gr] [[⟨.slice (bl gr) 1 1, 73, 2, 1, [.slice (rA) ((rl).length) (rc), I (((rq : Nat) : Int))]⟩]]) (hrq : rq ≤ 1000000000) :
    Does Tryd.prog 37 [.pointer (ofs (bl gr) (0)), I (n)] w (fun v w1 => ∃ (k : Int), v = I (k) ∧ (0 ≤ k ∧ (k < n ∨ k = 0)) ∧ Mem w w1 [some gr] [[⟨.slice (bl gr) 1 1, 73, 2, 1, [.slice (rA) ((rl).length) (rc), I (((rq + 1 : Nat) : Int))]⟩]]) := by
  refine Does.n1 Tryd.func37 rfl Tryd.results37 Tryd.ntmps37 rfl ?_
  refine ov 11 [0] (a := kaddN (rq + 1)) (b := ?_)
  refine Sb 2 [] 0 fun w1_8 hM1_8 => ?_
  refine pp 7 [] 17 (fun g17 => ?_) (fun g17 => ?_)
  · refine E1 14 [] (I (0)) ?_
    exact ⟨0, (by first | rfl | exact sl_congr (by first | omega | (simp; done) | (simp; omega)) | (simp; done)), ⟨by decide, .inr rfl⟩, (hM1_8.pk [0])⟩
  refine cd 8 [0] (fun c24 => ?_) (fun c24 => ?_)
  · refine E1 5 [] (I (0)) ?_
    exact ⟨0, (by first | rfl | exact sl_congr (by first | omega | (simp; done) | (simp; omega)) | (simp; done)), ⟨by decide, .inr rfl⟩, (hM1_8.pk [0])⟩
  refine ov 7 [0] (s := Vi (((rq : Nat) : Int))) (a := by exact cv (Ru.congr (v := I (((((rq + 1) : Nat) : Int) - 1))) (v' := I (((rq : Nat) : Int))) (Ru.sub rfl rfl (by omega)) (I_congr (by omega))) rfl) (b := ?_)
  refine cd 13 [0] (fun c36 => ?_) (fun c36 => ?_)
  · have hu2 := u8_le (rl[rq])
    have hx6_5 : rq < (rl).length := (by first | omega | (simp; omega))
    refine ov 7 [0] (a := kixM hx6_5 (hrA.atR hM1_8 hro)) (b := ?_)
    refine ov 0 [] (a := kldM hx6_5 (hrA.atR hM1_8 hro)) (b := ?_)
    refine ov 0 [] (a := kcv) (b := ?_)
    refine ov 1 [] (a := krem) (b := ?_)
    refine E1 3 [] (I (((((rl)[rq]'hx6_5).toNat : Int) % n))) ?_
    have hZ := (hM1_8.pk [0])
    exact ⟨_, (by first | rfl | exact sl_congr (by first | omega | (simp; done) | (simp; omega)) | (simp; done)), ⟨Int.emod_nonneg _ (by omega), .inl (Int.emod_lt_of_pos _ (by omega))⟩, hZ⟩
  have hq0 := Nat.mod_lt rq (show 0 < rl.length by omega)
  have hq1 := Nat.mod_lt (rq * 7 + 3) (show 0 < rl.length by omega)
  have hu0 := u8_le (rl[rq % rl.length])
  have hu1 := u8_le (rl[(rq * 7 + 3) % rl.length])
  obtain ⟨dv, hdq, hdv⟩ : ∃ dv : Nat, dv = rq / rl.length ∧ dv ≤ rq := ⟨_, rfl, Nat.div_le_self _ _⟩
  refine dr 2 [] ?_
  refine qv 10 [0, 0] (a := by exact fun _ hw2 => kremN (rq % (rl).length)) (b := ?_)
  have hx7_11 : (rq % (rl).length) < (rl).length := (by first | omega | (simp; omega))
  refine qv 0 [] (a := by exact fun _ hw2 => kixM hx7_11 (hrA.atR hw2 hro)) (b := ?_)
  refine qv 0 [] (a := by exact fun _ hw2 => kldM hx7_11 (hrA.atR hw2 hro)) (b := ?_)
  refine qv 0 [] (a := by exact fun _ hw2 => kcv) (b := ?_)
  refine qv 0 [] (a := by exact fun _ hw2 => kmulN (((rl)[(rq % (rl).length)]'hx7_11).toNat * 131)) (b := ?_)
  refine qv 5 [0] (a := by exact fun _ hw2 => kmulN (rq * 7)) (b := ?_)
  refine qv 0 [] (a := by exact fun _ hw2 => kaddN ((rq * 7) + 3)) (b := ?_)
  refine qv 5 [0] (a := by exact fun _ hw2 => kremN (((rq * 7) + 3) % (rl).length)) (b := ?_)
  have hx7_28 : (((rq * 7) + 3) % (rl).length) < (rl).length := (by first | omega | (simp; omega))
  refine qv 0 [] (a := by exact fun _ hw2 => kixM hx7_28 (hrA.atR hw2 hro)) (b := ?_)
  refine qv 0 [] (a := by exact fun _ hw2 => kldM hx7_28 (hrA.atR hw2 hro)) (b := ?_)
  refine qv 0 [] (a := by exact fun _ hw2 => kcv) (b := ?_)
  refine qv 0 [] (a := by exact fun _ hw2 => kmulN (((rl)[(((rq * 7) + 3) % (rl).length)]'hx7_28).toNat * 1117)) (b := ?_)
  refine qv 0 [] (a := by exact fun _ hw2 => kaddN ((((rl)[(rq % (rl).length)]'hx7_11).toNat * 131) + (((rl)[(((rq * 7) + 3) % (rl).length)]'hx7_28).toNat * 1117))) (b := ?_)
  refine qv 1 [] (a := by exact fun _ hw2 => kmulN (rq * 29)) (b := ?_)
  refine qv 0 [] (a := by exact fun _ hw2 => kaddN (((((rl)[(rq % (rl).length)]'hx7_11).toNat * 131) + (((rl)[(((rq * 7) + 3) % (rl).length)]'hx7_28).toNat * 1117)) + (rq * 29))) (b := ?_)
  refine qv 6 [0] (s := Vi (((dv : Nat) : Int))) (a := by exact fun w2 hw2 => cv (Ru.congr (v := I ((((rq : Nat) : Int) / (((rl).length : Nat) : Int)))) (v' := I (((dv : Nat) : Int))) (Ru.quo rfl rfl (by omega)) (I_congr (by rw [hdq]; simp))) rfl) (b := ?_)
  refine qv 0 [] (a := by exact fun _ hw2 => kmulN (dv * 53)) (b := ?_)
  refine qv 0 [] (a := by exact fun _ hw2 => kaddN ((((((rl)[(rq % (rl).length)]'hx7_11).toNat * 131) + (((rl)[(((rq * 7) + 3) % (rl).length)]'hx7_28).toNat * 1117)) + (rq * 29)) + (dv * 53))) (b := ?_)
  refine qn 1 [] fun w7d hM7d => ?_
  refine ov 4 [] (a := kquoN (((((((rl)[(rq % (rl).length)]'hx7_11).toNat * 131) + (((rl)[(((rq * 7) + 3) % (rl).length)]'hx7_28).toNat * 1117)) + (rq * 29)) + (dv * 53)) / 64)) (b := ?_)
  refine ov 0 [] (s := Vi ((((((((((((rl)[(rq % (rl).length)]'hx7_11).toNat * 131) + (((rl)[(((rq * 7) + 3) % (rl).length)]'hx7_28).toNat * 1117)) + (rq * 29)) + (dv * 53)) : Nat) : Int)).toNat ^^^ ((((((((((rl)[(rq % (rl).length)]'hx7_11).toNat * 131) + (((rl)[(((rq * 7) + 3) % (rl).length)]'hx7_28).toNat * 1117)) + (rq * 29)) + (dv * 53)) / 64) : Nat) : Int)).toNat : Nat) : Int))) (a := by exact cv (Ru.xor rfl rfl (by omega) (by omega)) rfl) (b := ?_)
  refine ov 6 [] (a := krem) (b := ?_)
  refine E1 3 [] (I (((((((((((((rl)[(rq % (rl).length)]'hx7_11).toNat * 131) + (((rl)[(((rq * 7) + 3) % (rl).length)]'hx7_28).toNat * 1117)) + (rq * 29)) + (dv * 53)) : Nat) : Int)).toNat ^^^ ((((((((((rl)[(rq % (rl).length)]'hx7_11).toNat * 131) + (((rl)[(((rq * 7) + 3) % (rl).length)]'hx7_28).toNat * 1117)) + (rq * 29)) + (dv * 53)) / 64) : Nat) : Int)).toNat : Nat) : Int) % n))) ?_
  have hZ := (hM7d.pk [0])
  exact ⟨_, (by first | rfl | exact sl_congr (by first | omega | (simp; done) | (simp; omega)) | (simp; done)), ⟨Int.emod_nonneg _ (by omega), .inl (Int.emod_lt_of_pos _ (by omega))⟩, hZ⟩
theorem one_fn (gr : Nat) (rA : Option Addr) (rc : Nat) (rl : List UInt8) (rq : Nat) (A : Option Addr) (c : Nat) (l : List Int) (w : World) (hrA : Rd w rA (rl.map byteV)) (hro : Off rA (rl.map byteV) [some gr]) (hrl : rl.length ≤ 2000) (hA : Rd w A ((l).map I)) (hoA : Off A ((l).map I) [some gr]) (hM : Mem w w [some gr] [[⟨.slice (bl gr) 1 1, 73, 2, 1, [.slice (rA) ((rl).length) (rc), I (((rq : Nat) : Int))]⟩]]) (hrq : rq ≤ 999999990) (hl : 0 < l.length) (hm : l.length ≤ 1000) :
    Does Tryd.prog 38 [.pointer (ofs (bl gr) (0)), .slice (A) ((l).length) (c)] w (fun v w1 => ∃ (k : Int), v = I (k) ∧ (k ∈ l) ∧ Mem w w1 [some gr] [[⟨.slice (bl gr) 1 1, 73, 2, 1, [.slice (rA) ((rl).length) (rc), I (((rq + 1 : Nat) : Int))]⟩]]) := by
  refine Does.n1 Tryd.func38 rfl Tryd.results38 Tryd.ntmps38 rfl ?_
  refine cq 10 [] (b := pick_fn gr rA rc rl rq _ w (hrA.atR hM hro) hro hrl (hM.fp [0] rfl rfl) q0) (c := ?_)
  rintro _ w1_4 ⟨k1_4, rfl, hk1_4, hR1_4⟩
  have hM1_4 := hM.cl 1 hR1_4
  have hkk := hk1_4
  have hx1_5 : (k1_4).toNat < (l).length := (by first | omega | (simp; omega))
  refine ov 0 [] (a := kixM hx1_5 (hA.atR hM1_4 hoA)) (b := ?_)
  refine ov 0 [] (a := kldM hx1_5 (hA.atR hM1_4 hoA)) (b := ?_)
  refine E1 3 [] (I ((l)[(k1_4).toNat]'hx1_5)) ?_
  have hZ := (hM1_4.pk [0])
  exact ⟨_, (by first | rfl | exact sl_congr (by first | omega | (simp; done) | (simp; omega)) | (simp; done)), List.getElem_mem _, hZ⟩
theorem newReader_fn (A : Option Addr) (c : Nat) (l : List UInt8) (w : World) (hA : Rd w A ((l).map byteV)) (hl : l.length ≤ 1048576) (hc : l.length ≤ c) :
    Does Tryd.prog 19 [.slice (A) ((l).length) (c)] w (fun v w1 => ∃ (gr : Nat) (l1 : List UInt8), v = .pointer (ofs (bl gr) (0)) ∧ (l1 = l ∨ l1 = l.take 2000) ∧ (l1.length ≤ 2000) ∧ Mem w w1 [] [[⟨.slice (bl gr) 1 1, 73, 2, 1, [.slice (A) ((l1).length) (c), I (((0 : Nat) : Int))]⟩]]) := by
  have hM : Mem w w [] [] := Mem.refl
  refine Does.n1 Tryd.func19 rfl Tryd.results19 Tryd.ntmps19 rfl ?_
  refine cd 11 [] (fun c5 => ?_) (fun c5 => ?_)
  · refine ov 2 [] (s := Vl (A) ((l.take 2000).length) (c)) (a := by exact cv (Ru.congr (v := .slice (A) (2000) (c)) (v' := .slice (A) ((l.take 2000).length) (c)) (Ru.lsliceTo (h := 2000) Tryd.underlying22 el5 rfl rfl (by omega) (by omega)) (sl_congr (by simp; omega))) rfl) (b := ?_)
    refine Bx 6 [] fun w3_2 b3_2 hb3_2 hM3_2 => ?_
    refine E1 3 [] (.pointer (ofs (bl b3_2) (0))) ?_
    exact ⟨b3_2, l.take 2000, (by first | rfl | exact sl_congr (by first | omega | (simp; done) | (simp; omega)) | (simp; done)), (by first | exact .inl rfl | exact .inr rfl), (by simp; omega), (hM3_2.pk [0])⟩
  refine Bx 5 [] fun w3_2 b3_2 hb3_2 hM3_2 => ?_
  refine E1 3 [] (.pointer (ofs (bl b3_2) (0))) ?_
  exact ⟨b3_2, l, (by first | rfl | exact sl_congr (by first | omega | (simp; done) | (simp; omega)) | (simp; done)), (.inl rfl), (by omega), (hM3_2.pk [0])⟩
theorem inRange_fn (a : Int) (b : Int) (c : Int) (w : World) :
    Does Tryd.prog 41 [I (a), I (b), I (c)] w (fun v w1 => v = .bool (decide (b ≤ a) && decide (a ≤ c)) ∧ Mem w w1 [] []) := by
  have hM : Mem w w [] [] := Mem.refl
  refine Does.n1 Tryd.func41 rfl Tryd.results41 Tryd.ntmps41 rfl ?_
  refine pp 10 [] 10 (fun g10 => ?_) (fun g10 => ?_)
  · refine E1 7 [] (.bool (decide (a ≤ c))) ?_
    exact ⟨(by simp [g10]), (Mem.none hM)⟩
  refine E1 7 [] (.bool (false)) ?_
  exact ⟨(by simp [g10]), (Mem.none hM)⟩
theorem isKey_fn (k : Int) (w : World) :
    Does Tryd.prog 67 [I (k)] w (fun v w1 => v = .bool (isKeyB k) ∧ Mem w w1 [] []) := by
  have hM : Mem w w [] [] := Mem.refl
  refine Does.n1 Tryd.func67 rfl Tryd.results67 Tryd.ntmps67 rfl ?_
  refine pp 9 [] 5 (fun g5 => ?_) (fun g5 => ?_)
  · refine E1 6 [] (.bool (decide (k ≤ 99))) ?_
    exact ⟨(by simp [isKeyB, g5]), (Mem.none hM)⟩
  refine E1 6 [] (.bool (false)) ?_
  exact ⟨(by simp [isKeyB, g5]), (Mem.none hM)⟩
theorem isValue_fn (k : Int) (w : World) :
    Does Tryd.prog 50 [I (k)] w (fun v w1 => v = .bool (isValB k) ∧ Mem w w1 [] []) := by
  have hM : Mem w w [] [] := Mem.refl
  refine Does.n1 Tryd.func50 rfl Tryd.results50 Tryd.ntmps50 rfl ?_
  refine pp 9 [] 5 (fun g5 => ?_) (fun g5 => ?_)
  · refine E1 6 [] (.bool (decide (k ≤ 1000))) ?_
    exact ⟨(by simp [isValB, g5]), (Mem.none hM)⟩
  refine E1 6 [] (.bool (false)) ?_
  exact ⟨(by simp [isValB, g5]), (Mem.none hM)⟩
theorem ValidKeys_fn (A : Option Addr) (c : Nat) (l : List Int) (w : World) (hA : Rd w A ((l).map I)) (hl : l.length ≤ 1048576) :
    Does Tryd.prog 51 [.slice (A) ((l).length) (c)] w (fun v w1 => v = .bool (validK l) ∧ Mem w w1 [] []) := by
  have hM : Mem w w [] [] := Mem.refl
  refine Does.n1 Tryd.func51 rfl Tryd.results51 Tryd.ntmps51 rfl ?_
  refine lp1 12 [] (fun (k : Nat) => ([(7, Vi (((k : Nat) : Int)))] : List (Nat × SV))) (fun (k : Nat) => (k ≤ l.length) ∧ ((l.take k).all isKeyB = true) ∧ (asc (l.take k) = true)) (fun (k : Nat) => []) (fun (k : Nat) => l.length - k) [0, 5, 6] [] [] 0 (fun k σ w_l2 hI hM_l2 => ?_) (h0 := ⟨(Nat.zero_le _), (by (try dsimp only); simp), (by (try dsimp only); simp [asc])⟩)
  obtain ⟨hi0_l2, hi1_l2, hi2_l2⟩ := hI
  refine cd 5 [] (fun c8 => ?_) (fun c8 => ?_)
  · have hx3_1 : k < (l).length := (by first | omega | (simp; omega))
    refine ov 6 [] (a := kixM hx3_1 (hA.at hM_l2)) (b := ?_)
    refine ov 0 [] (a := kldM hx3_1 (hA.at hM_l2)) (b := ?_)
    refine cp 7 [] (b := isKey_fn _ w_l2 ) (c := fun w4_1 hM4_1 => ?_)
    refine cn 2 [] (fun c14 => ?_) (fun c14 => ?_)
    · refine E1 5 [] (.bool (false)) ?_
      exact ⟨(by rw [validK_no1 hx3_1 c14]), (Mem.none hM4_1)⟩
    refine pp 6 [] 17 (fun g17 => ?_) (fun g17 => ?_)
    · refine ov 2 [] (a := ksub) (b := ?_)
      have hx6_6 : k - 1 < (l).length := (by first | omega | (simp; omega))
      refine ov 0 [] (a := kixM hx6_6 (hA.at hM4_1)) (b := ?_)
      refine ov 0 [] (a := kldM hx6_6 (hA.at hM4_1)) (b := ?_)
      refine cd 4 [] (fun c25 => ?_) (fun c25 => ?_)
      · refine E1 5 [] (.bool (false)) ?_
        exact ⟨(by rw [validK_no2 (by omega) hx3_1 (by omega)]), (Mem.none hM4_1)⟩
      refine ov 2 [] (a := kaddN (k + 1)) (b := ?_)
      exact le1 2 [] (k + 1) [] (h := by exact ⟨(by (try dsimp only); omega), (all_step hi1_l2 hx3_1 c14), (asc_take hi2_l2 hx3_1 (fun h0 => by omega))⟩)
    refine ov 12 [] (a := kaddN (k + 1)) (b := ?_)
    exact le1 2 [] (k + 1) [] (h := by exact ⟨(by (try dsimp only); omega), (all_step hi1_l2 hx3_1 c14), (asc_take hi2_l2 hx3_1 (fun h0 => by omega))⟩)
  refine E1 6 [] (.bool (true)) ?_
  exact ⟨(by rw [validK_yes hi1_l2 hi2_l2 (by omega)]), (Mem.none hM_l2)⟩
theorem allIn_fn (A : Option Addr) (c : Nat) (l : List Int) (lo : Int) (hi : Int) (w : World) (hA : Rd w A ((l).map I)) (hl : l.length ≤ 1048576) :
    Does Tryd.prog 66 [.slice (A) ((l).length) (c), I (lo), I (hi)] w (fun v w1 => v = .bool (l.all (fun a => decide (lo ≤ a) && decide (a ≤ hi))) ∧ Mem w w1 [] []) := by
  have hM : Mem w w [] [] := Mem.refl
  refine Does.n1 Tryd.func66 rfl Tryd.results66 Tryd.ntmps66 rfl ?_
  refine lp1 10 [] (fun (k : Nat) => ([(7, Vi (((k : Nat) : Int)))] : List (Nat × SV))) (fun (k : Nat) => (k ≤ l.length) ∧ ((l.take k).all (fun a => decide (lo ≤ a) && decide (a ≤ hi)) = true)) (fun (k : Nat) => []) (fun (k : Nat) => l.length - k) [0, 1, 2] [] [] 0 (fun k σ w_l2 hI hM_l2 => ?_) (h0 := ⟨(Nat.zero_le _), (by (try dsimp only); simp)⟩)
  obtain ⟨hi0_l2, hi1_l2⟩ := hI
  refine cd 8 [] (fun c11 => ?_) (fun c11 => ?_)
  · have hx4_2 : k < (l).length := (by first | omega | (simp; omega))
    refine ov 7 [] (a := kixM hx4_2 (hA.at hM_l2)) (b := ?_)
    refine ov 0 [] (a := kldM hx4_2 (hA.at hM_l2)) (b := ?_)
    refine cp 2 [] (b := inRange_fn _ _ _ w_l2 ) (c := fun w4_6 hM4_6 => ?_)
    refine cn 2 [] (fun c21 => ?_) (fun c21 => ?_)
    · refine E1 5 [] (.bool (false)) ?_
      exact ⟨(by rw [all_fail (p := fun a => decide (lo ≤ a) && decide (a ≤ hi)) hx4_2 c21]), (Mem.none hM4_6)⟩
    refine ov 3 [] (a := kaddN (k + 1)) (b := ?_)
    exact le1 2 [] (k + 1) [] (h := by exact ⟨(by (try dsimp only); omega), (all_step hi1_l2 hx4_2 c21)⟩)
  refine E1 6 [] (.bool (true)) ?_
  exact ⟨(by rw [all_end hi1_l2 (by omega)]), (Mem.none hM_l2)⟩
theorem validKeys_fn (A : Option Addr) (c : Nat) (l : List Int) (w : World) (hA : Rd w A ((l).map I)) (hl : l.length ≤ 1048576) :
    Does Tryd.prog 65 [.slice (A) ((l).length) (c)] w (fun v w1 => v = .bool (validK l) ∧ Mem w w1 [] []) := by
  have hM : Mem w w [] [] := Mem.refl
  refine Does.n1 Tryd.func65 rfl Tryd.results65 Tryd.ntmps65 rfl ?_
  refine lp1 10 [] (fun (k : Nat) => ([(3, Vi (((k : Nat) : Int)))] : List (Nat × SV))) (fun (k : Nat) => (1 ≤ k ∧ k ≤ l.length + 1) ∧ (asc (l.take k) = true)) (fun (k : Nat) => []) (fun (k : Nat) => l.length + 1 - k) [0] [] [] 1 (fun k σ w_l2 hI hM_l2 => ?_) (h0 := ⟨(by (try dsimp only); omega), (by (try dsimp only); cases l with | nil => rfl | cons a l => simp [asc])⟩)
  obtain ⟨hi0_l2, hi1_l2⟩ := hI
  refine cd 8 [] (fun c7 => ?_) (fun c7 => ?_)
  · refine dr 4 [] ?_
    have hx4_2 : k < (l).length := (by first | omega | (simp; omega))
    refine qv 2 [] (a := by exact fun _ hw2 => kixM hx4_2 (hA.at hw2)) (b := ?_)
    refine qv 0 [] (a := by exact fun _ hw2 => kldM hx4_2 (hA.at hw2)) (b := ?_)
    refine qv 2 [] (a := by exact fun _ hw2 => ksub) (b := ?_)
    have hx4_7 : k - 1 < (l).length := (by first | omega | (simp; omega))
    refine qv 0 [] (a := by exact fun _ hw2 => kixM hx4_7 (hA.at hw2)) (b := ?_)
    refine qv 0 [] (a := by exact fun _ hw2 => kldM hx4_7 (hA.at hw2)) (b := ?_)
    refine qn 1 [] fun w4d hM4d => ?_
    refine cd 0 [] (fun c19 => ?_) (fun c19 => ?_)
    · refine E1 5 [] (.bool (false)) ?_
      exact ⟨(by rw [validK_no2 (by omega) hx4_2 (by omega)]), (Mem.none hM4d)⟩
    refine ov 3 [] (a := kaddN (k + 1)) (b := ?_)
    exact le1 2 [] (k + 1) [] (h := by exact ⟨(by (try dsimp only); omega), (asc_take hi1_l2 hx4_2 (fun h0 => by omega))⟩)
  refine cp 4 [] (b := allIn_fn _ _ _ _ _ w_l2 (hA.at hM_l2) q0) (c := fun w6_1 hM6_1 => ?_)
  refine E1 3 [] (.bool (l.all (fun a => decide (0 ≤ a) && decide (a ≤ 99)))) ?_
  exact ⟨(by rw [validK, show asc l = true from by rwa [take_all (by omega)] at hi1_l2, Bool.and_true]; rfl), (Mem.none hM6_1)⟩
theorem isIn_fn (A : Option Addr) (c : Nat) (l : List Int) (n : Int) (w : World) (hA : Rd w A ((l).map I)) (hl : l.length ≤ 1048576) :
    Does Tryd.prog 45 [.slice (A) ((l).length) (c), I (n)] w (fun v w1 => v = .bool (decide (n ∈ l)) ∧ Mem w w1 [] []) := by
  have hM : Mem w w [] [] := Mem.refl
  refine Does.n1 Tryd.func45 rfl Tryd.results45 Tryd.ntmps45 rfl ?_
  refine lp1 10 [] (fun (k : Nat) => ([(5, Vi (((k : Nat) : Int)))] : List (Nat × SV))) (fun (k : Nat) => (k ≤ l.length) ∧ (∀ x ∈ l.take k, x ≠ n)) (fun (k : Nat) => []) (fun (k : Nat) => l.length - k) [0, 1] [] [] 0 (fun k σ w_l2 hI hM_l2 => ?_) (h0 := ⟨(Nat.zero_le _), (by (try dsimp only); simp)⟩)
  obtain ⟨hi0_l2, hi1_l2⟩ := hI
  refine cd 8 [] (fun c9 => ?_) (fun c9 => ?_)
  · have hx4_2 : k < (l).length := (by first | omega | (simp; omega))
    refine ov 7 [] (a := kixM hx4_2 (hA.at hM_l2)) (b := ?_)
    refine ov 0 [] (a := kldM hx4_2 (hA.at hM_l2)) (b := ?_)
    refine cd 3 [] (fun c17 => ?_) (fun c17 => ?_)
    · refine E1 5 [] (.bool (true)) ?_
      exact ⟨(by rw [decide_eq_true (by rw [← c17]; exact List.getElem_mem hx4_2)]), (Mem.none hM_l2)⟩
    refine ov 3 [] (a := kaddN (k + 1)) (b := ?_)
    exact le1 2 [] (k + 1) [] (h := by exact ⟨(by (try dsimp only); omega), (mem_step hi1_l2 hx4_2 c17)⟩)
  refine E1 6 [] (.bool (false)) ?_
  exact ⟨(by rw [mem_end hi1_l2 (by omega)]), (Mem.none hM_l2)⟩
theorem sbelow_fn (A : Option Addr) (c : Nat) (l : List Int) (k : Int) (w : World) (hA : Rd w A ((l).map I)) (hl : l.length ≤ 1048576) :
    Does Tryd.prog 83 [.slice (A) ((l).length) (c), I (k)] w (fun v w1 => v = I ((below l k : Int)) ∧ Mem w w1 [] []) := by
  have hM : Mem w w [] [] := Mem.refl
  refine Does.n1 Tryd.func83 rfl Tryd.results83 Tryd.ntmps83 rfl ?_
  refine lp1 10 [] (fun (n : Nat) => ([(5, Vi (((n : Nat) : Int)))] : List (Nat × SV))) (fun (n : Nat) => (n ≤ below l k)) (fun (n : Nat) => []) (fun (n : Nat) => l.length - n) [0, 1] [] [] 0 (fun n σ w_l2 hI hM_l2 => ?_) (h0 := (Nat.zero_le _))
  have hi0_l2 := hI
  refine pp 8 [] 10 (fun g10 => ?_) (fun g10 => ?_)
  · have hx2_7 : n < (l).length := (by first | omega | (simp; omega))
    refine ov 2 [] (a := kixM hx2_7 (hA.at hM_l2)) (b := ?_)
    refine ov 0 [] (a := kldM hx2_7 (hA.at hM_l2)) (b := ?_)
    refine cd 4 [] (fun c17 => ?_) (fun c17 => ?_)
    · refine ov 4 [] (a := kaddN (n + 1)) (b := ?_)
      exact le1 2 [] (n + 1) [] (h := by exact (below_step hi0_l2 hx2_7 c17))
    refine E1 7 [] (I (((n : Nat) : Int))) ?_
    exact ⟨(I_congr (by rw [below_end hi0_l2 (by first | exact .inl (by omega) | exact .inr ⟨hx2_7, by omega⟩)])), (Mem.none hM_l2)⟩
  refine E1 16 [] (I (((n : Nat) : Int))) ?_
  exact ⟨(I_congr (by rw [below_end hi0_l2 (by first | exact .inl (by omega) | exact .inr ⟨hx2_7, by omega⟩)])), (Mem.none hM_l2)⟩
theorem supTo_fn (A : Option Addr) (c : Nat) (l : List Int) (k : Int) (w : World) (hA : Rd w A ((l).map I)) (hl : l.length ≤ 1048576) :
    Does Tryd.prog 100 [.slice (A) ((l).length) (c), I (k)] w (fun v w1 => v = I ((upTo l k : Int)) ∧ Mem w w1 [] []) := by
  have hM : Mem w w [] [] := Mem.refl
  refine Does.n1 Tryd.func100 rfl Tryd.results100 Tryd.ntmps100 rfl ?_
  refine lp1 10 [] (fun (n : Nat) => ([(5, Vi (((n : Nat) : Int)))] : List (Nat × SV))) (fun (n : Nat) => (n ≤ upTo l k)) (fun (n : Nat) => []) (fun (n : Nat) => l.length - n) [0, 1] [] [] 0 (fun n σ w_l2 hI hM_l2 => ?_) (h0 := (Nat.zero_le _))
  have hi0_l2 := hI
  refine pp 8 [] 10 (fun g10 => ?_) (fun g10 => ?_)
  · have hx2_7 : n < (l).length := (by first | omega | (simp; omega))
    refine ov 2 [] (a := kixM hx2_7 (hA.at hM_l2)) (b := ?_)
    refine ov 0 [] (a := kldM hx2_7 (hA.at hM_l2)) (b := ?_)
    refine cd 4 [] (fun c17 => ?_) (fun c17 => ?_)
    · refine ov 4 [] (a := kaddN (n + 1)) (b := ?_)
      exact le1 2 [] (n + 1) [] (h := by exact (upTo_step hi0_l2 hx2_7 c17))
    refine E1 7 [] (I (((n : Nat) : Int))) ?_
    exact ⟨(I_congr (by rw [upTo_end hi0_l2 (by first | exact .inl (by omega) | exact .inr ⟨hx2_7, by omega⟩)])), (Mem.none hM_l2)⟩
  refine E1 16 [] (I (((n : Nat) : Int))) ?_
  exact ⟨(I_congr (by rw [upTo_end hi0_l2 (by first | exact .inl (by omega) | exact .inr ⟨hx2_7, by omega⟩)])), (Mem.none hM_l2)⟩
theorem skeysOf_fn (A : Option Addr) (c : Nat) (l : List PairT) (w : World) (hA : Rd w A ((l).flatMap encP)) (hl : l.length ≤ 1048576) :
    Does Tryd.prog 62 [.slice (A) ((l).length) (c)] w (fun v w1 => ∃ (A1 : Option Addr) (c1 : Nat), v = .slice (A1) ((keysP l).length) (c1) ∧ Mem w w1 [] [[⟨.slice (A1) ((keysP l).length) (c1), 3, 1, ((keysP l).length), (keysP l).map I⟩]]) := by
  have hM : Mem w w [] [] := Mem.refl
  refine Does.n1 Tryd.func62 rfl Tryd.results62 Tryd.ntmps62 rfl ?_
  refine Lt 6 [] (([]).map I) (fun w1_0 b1_0 hb1_0 hM1_0 => ?_)
  have hq1 : ([] : List Int) = keysP (l.take 0) := (by first | rfl | simp | (simp; omega))
  have hMn1 := hM1_0.reM 0 hq1 (f := I)
  refine lp3 8 [] (fun (k : Nat) (A2 : Option Addr) (c2 : Nat) => ([(3, Vl (A2) ((keysP (l.take k)).length) (c2)), (4, Vi (((k : Nat) : Int)))] : List (Nat × SV))) (fun (k : Nat) (A2 : Option Addr) (c2 : Nat) => (k ≤ l.length)) (fun (k : Nat) (A2 : Option Addr) (c2 : Nat) => [[⟨.slice (A2) ((keysP (l.take k)).length) (c2), 3, 1, ((keysP (l.take k)).length), (keysP (l.take k)).map I⟩]]) (fun (k : Nat) (A2 : Option Addr) (c2 : Nat) => l.length - k) [0] [0] [] 0 (bl b1_0) 0 (fun k A2 c2 σ w_l3 hI hM_l3 => ?_) (h0 := (Nat.zero_le _))
  have hi0_l3 := hI
  have hcl0_l3 := (hM_l3.cap 0 rfl).1
  refine cd 8 [] (fun c9 => ?_) (fun c9 => ?_)
  · have hx5_3 : k < (l).length := (by first | omega | (simp; omega))
    refine ov 7 [] (a := kixF hx5_3 (hA.at hM_l3)) (b := ?_)
    refine ov 0 [] (a := kflF hx5_3 (hA.at hM_l3)) (b := ?_)
    refine ov 0 [] (a := kldF hx5_3 (hA.at hM_l3)) (b := ?_)
    refine Lt 0 [] (([((l)[k]'hx5_3).key]).map I) (fun w5_6 b5_6 hb5_6 hM5_6 => ?_)
    refine aM 0 [] 1 (hM5_6.rd 0 rfl) (fun w5_7 A5_7 c5_7 hc5_7 hM5_7 => ?_)
    refine ov 4 [] (a := kaddN (k + 1)) (b := ?_)
    have hq2 : (keysP (l.take k) ++ [((l)[k]'hx5_3).key] : List Int) = keysP (l.take (k + 1)) := (map_snoc hx5_3)
    have hMn2 := hM5_7.reM 1 hq2
    exact le3 2 [] (k + 1) A5_7 c5_7 [1] (h := by exact (by (try dsimp only); omega))
  refine E1 7 [] (.slice (A2) ((keysP (l.take k)).length) (c2)) ?_
  have hq3 : (keysP (l.take k) : List Int) = keysP l := (by rw [take_all (by omega)])
  have hMn3 := hM_l3.reM 0 hq3
  exact ⟨A2, c2, (by first | rfl | exact sl_congr (by first | omega | (simp; done) | (simp; omega)) | (simp; done)), (hMn3.pk [0])⟩
theorem keysOfRow_fn (A : Option Addr) (c : Nat) (l : List PairT) (w : World) (hA : Rd w A ((l).flatMap encP)) (hl : l.length ≤ 1048576) :
    Does Tryd.prog 52 [.slice (A) ((l).length) (c)] w (fun v w1 => ∃ (A1 : Option Addr) (c1 : Nat), v = .slice (A1) ((keysP l).length) (c1) ∧ Mem w w1 [] [[⟨.slice (A1) ((keysP l).length) (c1), 3, 1, ((keysP l).length), (keysP l).map I⟩]]) := by
  have hM : Mem w w [] [] := Mem.refl
  refine Does.n1 Tryd.func52 rfl Tryd.results52 Tryd.ntmps52 rfl ?_
  refine go 8 [] ?_
  refine O.mmake (k := (l).length) (sz := 1) (xs := (List.replicate ((l).length) (0 : Int)).map I) hM rfl Tryd.underlying29 el3 rfl rfl rfl rfl (by omega) (by omega) (zer_map rfl) (fun w1_2 b1_2 hb1_2 hM1_2 => ?_)
  have hq1 : (List.replicate ((l).length) (0 : Int) : List Int) = keysP (l.take 0) ++ List.replicate (l.length - 0) (0 : Int) := fill_zero
  have hMn1 : Mem w w1_2 [] [[⟨.slice (bl b1_2) (l.length) ((l).length), 3, 1, (l.length), (keysP (l.take 0) ++ List.replicate (l.length - 0) (0 : Int)).map I⟩]] := hM1_2.relen 0 (n' := l.length) (xs' := (keysP (l.take 0) ++ List.replicate (l.length - 0) (0 : Int)).map I) rfl (by first | rfl | exact congrArg List.length hq1 | (have hqq := congrArg List.length hq1; first | omega | (simp at hqq ⊢; omega)) | (simp; done) | (simp; omega)) (congrArg (fun z_ => (z_).map I) hq1) rfl
  refine lp1 10 [] (fun (k : Nat) => ([(3, Vl (bl b1_2) (l.length) (l.length)), (11, Vi (((k : Nat) : Int)))] : List (Nat × SV))) (fun (k : Nat) => (k ≤ l.length)) (fun (k : Nat) => [[⟨.slice (bl b1_2) (l.length) (l.length), 3, 1, (l.length), (keysP (l.take k) ++ List.replicate (l.length - k) (0 : Int)).map I⟩]]) (fun (k : Nat) => l.length - k) [9, 10] [0] [] 0 (fun k σ w_l3 hI hM_l3 => ?_) (h0 := (Nat.zero_le _))
  have hi0_l3 := hI
  have hcl0_l3 := (hM_l3.cap 0 rfl).1
  refine cd 5 [] (fun c12 => ?_) (fun c12 => ?_)
  · have hx4_1 : k < (l).length := (by first | omega | (simp; omega))
    refine ov 6 [] (a := kixF hx4_1 (hA.at hM_l3)) (b := ?_)
    refine ov 0 [] (a := kldN hx4_1 (hA.at hM_l3)) (b := ?_)
    refine Al 0 [] fun w4_3 b4_3 hb4_3 hM4_3 => ?_
    refine Sb 1 [] 0 fun w4_5 hM4_5 => ?_
    have hx5_4 : k < (keysP (l.take k) ++ List.replicate (l.length - k) (0 : Int)).length := (by rw [fill_len hi0_l3]; exact hx4_1)
    refine ov 6 [0] (a := kixM hx5_4 (hM4_5.rd 1 rfl) (h0 := by omega)) (b := ?_)
    refine sM 0 [] 1 hx5_4 fun w5_5 hM5_5 => ?_
    refine ov 2 [] (a := kaddN (k + 1)) (b := ?_)
    have hq2 : ((keysP (l.take k) ++ List.replicate (l.length - k) (0 : Int)).set (k) (((l)[k]'hx4_1).key) : List Int) = keysP (l.take (k + 1)) ++ List.replicate (l.length - (k + 1)) (0 : Int) := (fill_set hx4_1)
    have hMn2 : Mem w w5_5 [] [[⟨.slice (bl b4_3) 1 1, 57, 2, 1, [I (((l)[k]'hx4_1).key), I (((l)[k]'hx4_1).val)]⟩], [⟨.slice (bl b1_2) (l.length) (l.length), 3, 1, (l.length), (keysP (l.take (k + 1)) ++ List.replicate (l.length - (k + 1)) (0 : Int)).map I⟩]] := hM5_5.relen 1 (n' := l.length) (xs' := (keysP (l.take (k + 1)) ++ List.replicate (l.length - (k + 1)) (0 : Int)).map I) rfl (by first | rfl | exact congrArg List.length hq2 | (have hqq := congrArg List.length hq2; first | omega | (simp at hqq ⊢; omega)) | (simp; done) | (simp; omega)) (congrArg (fun z_ => (z_).map I) hq2) rfl
    exact le1 2 [] (k + 1) [1] (h := by exact (by (try dsimp only); omega))
  refine E1 7 [] (.slice (bl b1_2) (l.length) (l.length)) ?_
  have hq3 : (keysP (l.take k) ++ List.replicate (l.length - k) (0 : Int) : List Int) = keysP l := (fill_all (by omega))
  have hMn3 := hM_l3.reM 0 hq3
  exact ⟨bl b1_2, l.length, (by first | rfl | exact sl_congr (by first | omega | (simp; done) | (simp; omega)) | (simp; done)), (hMn3.pk [0])⟩
theorem scopyRow_fn (A : Option Addr) (c : Nat) (l : List PairT) (w : World) (hA : Rd w A ((l).flatMap encP)) (hl : l.length ≤ 1048576) :
    Does Tryd.prog 84 [.slice (A) ((l).length) (c)] w (fun v w1 => ∃ (A1 : Option Addr) (c1 : Nat), v = .slice (A1) ((l).length) (c1) ∧ Mem w w1 [] [[⟨.slice (A1) ((l).length) (c1), 57, 2, ((l).length), (l).flatMap encP⟩]]) := by
  have hM : Mem w w [] [] := Mem.refl
  refine Does.n1 Tryd.func84 rfl Tryd.results84 Tryd.ntmps84 rfl ?_
  refine Lt 6 [] (([]).flatMap encP) (fun w1_0 b1_0 hb1_0 hM1_0 => ?_)
  refine aF0 1 [] 0 (hA.at hM1_0) (fun w1_2 A1_2 c1_2 hc1_2 hM1_2 => ?_)
  refine E1 3 [] (.slice (A1_2) ((l).length) (c1_2)) ?_
  exact ⟨A1_2, c1_2, (by first | rfl | exact sl_congr (by first | omega | (simp; done) | (simp; omega)) | (simp; done)), (hM1_2.pk [0])⟩
theorem scopyInts_fn (A : Option Addr) (c : Nat) (l : List Int) (w : World) (hA : Rd w A ((l).map I)) (hl : l.length ≤ 1048576) :
    Does Tryd.prog 40 [.slice (A) ((l).length) (c)] w (fun v w1 => ∃ (A1 : Option Addr) (c1 : Nat), v = .slice (A1) ((l).length) (c1) ∧ Mem w w1 [] [[⟨.slice (A1) ((l).length) (c1), 3, 1, ((l).length), (l).map I⟩]]) := by
  have hM : Mem w w [] [] := Mem.refl
  refine Does.n1 Tryd.func40 rfl Tryd.results40 Tryd.ntmps40 rfl ?_
  refine Lt 6 [] (([]).map I) (fun w1_0 b1_0 hb1_0 hM1_0 => ?_)
  refine aM0 1 [] 0 (hA.at hM1_0) (fun w1_2 A1_2 c1_2 hc1_2 hM1_2 => ?_)
  refine E1 3 [] (.slice (A1_2) ((l).length) (c1_2)) ?_
  exact ⟨A1_2, c1_2, (by first | rfl | exact sl_congr (by first | omega | (simp; done) | (simp; omega)) | (simp; done)), (hM1_2.pk [0])⟩
theorem Cloneint_fn (A : Option Addr) (c : Nat) (l : List Int) (w : World) (hA : Rd w A ((l).map I)) (hl : l.length ≤ 1048576) :
    Does Tryd.prog 55 [.slice (A) ((l).length) (c)] w (fun v w1 => ∃ (A1 : Option Addr) (c1 : Nat), v = .slice (A1) ((l).length) (c1) ∧ Mem w w1 [] [[⟨.slice (A1) ((l).length) (c1), 3, 1, ((l).length), (l).map I⟩]]) := by
  have hM : Mem w w [] [] := Mem.refl
  refine Does.n1 Tryd.func55 rfl Tryd.results55 Tryd.ntmps55 rfl ?_
  refine ov 8 [] (s := Vb ((A).isNone)) (a := by exact cv (Ru.slnil Tryd.underlying29 rfl rfl) rfl) (b := ?_)
  refine cb 1 [] (fun c4 => ?_) (fun c4 => ?_)
  · refine E1 5 [] (.slice (none) (0) (0)) ?_
    have hl0 := isNone_map hA c4
    have hMn1 := Mem.addNil (e := 3) (sz := 1) hM
    have hq2 : ([] : List Int) = l := hl0.symm
    have hMn2 := hMn1.reM 0 hq2 (f := I)
    exact ⟨none, 0, (sl_congr (by rw [hl0]; rfl)), (hMn2.pk [0])⟩
  refine Lt 3 [] (([]).map I) (fun w3_0 b3_0 hb3_0 hM3_0 => ?_)
  refine aM0 1 [] 0 (hA.at hM3_0) (fun w3_2 A3_2 c3_2 hc3_2 hM3_2 => ?_)
  refine E1 3 [] (.slice (A3_2) ((l).length) (c3_2)) ?_
  exact ⟨A3_2, c3_2, (by first | rfl | exact sl_congr (by first | omega | (simp; done) | (simp; omega)) | (simp; done)), (hM3_2.pk [0])⟩
theorem ValidRow_fn (A : Option Addr) (c : Nat) (l : List PairT) (w : World) (hA : Rd w A ((l).flatMap encP)) (hl : l.length ≤ 1048576) :
    Does Tryd.prog 27 [.slice (A) ((l).length) (c)] w (fun v w1 => v = .bool (validR l) ∧ Mem w w1 [] []) := by
  have hM : Mem w w [] [] := Mem.refl
  refine Does.n1 Tryd.func27 rfl Tryd.results27 Tryd.ntmps27 rfl ?_
  refine cd 11 [] (fun c7 => ?_) (fun c7 => ?_)
  · refine E1 5 [] (.bool (false)) ?_
    exact ⟨(by simp [validR]; omega), (Mem.none hM)⟩
  refine lp1 9 [] (fun (k : Nat) => ([(10, Vi (((k : Nat) : Int)))] : List (Nat × SV))) (fun (k : Nat) => (k ≤ l.length) ∧ ((l.take k).all (fun p => isValB p.val) = true)) (fun (k : Nat) => []) (fun (k : Nat) => l.length - k) [0, 8, 9] [] [] 0 (fun k σ w_l4 hI hM_l4 => ?_) (h0 := ⟨(Nat.zero_le _), (by (try dsimp only); simp)⟩)
  obtain ⟨hi0_l4, hi1_l4⟩ := hI
  refine cd 5 [] (fun c11 => ?_) (fun c11 => ?_)
  · have hx5_0 : k < (l).length := (by first | omega | (simp; omega))
    refine ov 5 [] (a := kixF hx5_0 (hA.at hM_l4)) (b := ?_)
    refine ov 0 [] (a := kldN hx5_0 (hA.at hM_l4)) (b := ?_)
    refine Al 0 [] fun w5_2 b5_2 hb5_2 hM5_2 => ?_
    refine Sb 0 [] 0 fun w5_3 hM5_3 => ?_
    refine cp 5 [0] (b := isValue_fn _ w5_3 ) (c := fun w6_2 hM6_2 => ?_)
    refine cn 2 [] (fun c17 => ?_) (fun c17 => ?_)
    · refine E1 5 [] (.bool (false)) ?_
      exact ⟨(by rw [validR_no hx5_0 c17]), (Mem.none hM6_2)⟩
    refine ov 2 [] (a := kaddN (k + 1)) (b := ?_)
    exact le1 2 [] (k + 1) [] (h := by exact ⟨(by (try dsimp only); omega), (all_step hi1_l4 hx5_0 c17)⟩)
  refine cq 4 [] (b := keysOfRow_fn _ _ _ w_l4 (hA.at hM_l4) q0) (c := ?_)
  rintro _ w9_1 ⟨A19_1, c19_1, rfl, hR9_1⟩
  have hM9_1 := hM_l4.cl 0 hR9_1
  have hcr9_1_0 := (hM9_1.cap 0 rfl).1
  refine cp 0 [] (b := ValidKeys_fn _ _ _ w9_1 (hM9_1.rd 0 rfl) q0) (c := fun w9_2 hM9_2 => ?_)
  refine E1 3 [] (.bool (validK (keysP l))) ?_
  exact ⟨(by rw [validR, all_end hi1_l4 (by omega), decide_eq_true (by omega)]; simp), (Mem.none hM9_2)⟩
theorem validRow_fn (A : Option Addr) (c : Nat) (l : List PairT) (w : World) (hA : Rd w A ((l).flatMap encP)) (hl : l.length ≤ 1048576) :
    Does Tryd.prog 74 [.slice (A) ((l).length) (c)] w (fun v w1 => v = .bool (validR l) ∧ Mem w w1 [] []) := by
  have hM : Mem w w [] [] := Mem.refl
  refine Does.n1 Tryd.func74 rfl Tryd.results74 Tryd.ntmps74 rfl ?_
  refine lp1 10 [] (fun (k : Nat) => ([(3, Vi (((k : Nat) : Int)))] : List (Nat × SV))) (fun (k : Nat) => (k ≤ l.length) ∧ ((l.take k).all (fun p => isValB p.val) = true)) (fun (k : Nat) => []) (fun (k : Nat) => l.length - k) [0] [] [] 0 (fun k σ w_l2 hI hM_l2 => ?_) (h0 := ⟨(Nat.zero_le _), (by (try dsimp only); simp)⟩)
  obtain ⟨hi0_l2, hi1_l2⟩ := hI
  refine cd 8 [] (fun c7 => ?_) (fun c7 => ?_)
  · have hx4_2 : k < (l).length := (by first | omega | (simp; omega))
    refine ov 7 [] (a := kixF hx4_2 (hA.at hM_l2)) (b := ?_)
    refine ov 0 [] (a := kflF hx4_2 (hA.at hM_l2)) (b := ?_)
    refine ov 0 [] (a := kldF hx4_2 (hA.at hM_l2)) (b := ?_)
    refine cp 0 [] (b := inRange_fn _ _ _ w_l2 ) (c := fun w4_5 hM4_5 => ?_)
    refine cn 2 [] (fun c16 => ?_) (fun c16 => ?_)
    · refine E1 5 [] (.bool (false)) ?_
      exact ⟨(by rw [validR_no hx4_2 c16]), (Mem.none hM4_5)⟩
    refine ov 3 [] (a := kaddN (k + 1)) (b := ?_)
    exact le1 2 [] (k + 1) [] (h := by exact ⟨(by (try dsimp only); omega), (all_step hi1_l2 hx4_2 c16)⟩)
  refine pp 7 [] 20 (fun g20 => ?_) (fun g20 => ?_)
  · refine cq 1 [] (b := skeysOf_fn _ _ _ w_l2 (hA.at hM_l2) q0) (c := ?_)
    rintro _ w6_5 ⟨A16_5, c16_5, rfl, hR6_5⟩
    have hM6_5 := hM_l2.cl 0 hR6_5
    have hcr6_5_0 := (hM6_5.cap 0 rfl).1
    refine cp 0 [] (b := validKeys_fn _ _ _ w6_5 (hM6_5.rd 0 rfl) q0) (c := fun w6_6 hM6_6 => ?_)
    refine E1 4 [] (.bool (validK (keysP l))) ?_
    exact ⟨(by first | (rw [validR, all_end hi1_l2 (by omega), decide_eq_true (by omega)]; simp; done) | (rw [validR, decide_eq_false (by omega)]; simp)), (Mem.none hM6_6)⟩
  refine E1 7 [] (.bool (false)) ?_
  exact ⟨(by first | (rw [validR, all_end hi1_l2 (by omega), decide_eq_true (by omega)]; simp; done) | (rw [validR, decide_eq_false (by omega)]; simp)), (Mem.none hM_l2)⟩
end Go.Proofs.YtemejgglbhjodaaDoor
end
section
namespace Go.Proofs.YtemejgglbhjodaaDoor
open Go.Px
theorem sput_fn (A : Option Addr) (c : Nat) (l : List PairT) (x : PairT) (w : World) (hA : Rd w A ((l).flatMap encP)) (hl : l.length ≤ 1048576) (ha : asc (keysP l) = true) (hc : l.length ≤ c) :
    Does Tryd.prog 73 [.slice (A) ((l).length) (c), .agg #[I ((x).key), I ((x).val)]] w (fun v w1 => ∃ (A1 : Option Addr) (c1 : Nat), v = .slice (A1) ((putP l x).length) (c1) ∧ Mem w w1 [] [[⟨.slice (A1) ((putP l x).length) (c1), 57, 2, ((putP l x).length), (putP l x).flatMap encP⟩]]) := by
  have hM : Mem w w [] [] := Mem.refl
  refine Does.n1 Tryd.func73 rfl Tryd.results73 Tryd.ntmps73 rfl ?_
  refine Bx 2 [] fun w0_0 b0_0 hb0_0 hM0_0 => ?_
  refine ct0 2 [] (([(5, Vi (((plc l x.key : Nat) : Int)))] : List (Nat × SV))) (True) ([]) [0, 3] [0] ?_ (fun σ w_r1 hI hM_r1 => ?_)
  · refine any 0 [] 6 [0] fun w1a hM1a => ?_
    refine aO [0, 2, 3] [0] 1 ?_
    refine cq 0 [] (b := skeysOf_fn _ _ _ w1a (hA.at hM1a) q0) (c := ?_)
    rintro _ w1_1 ⟨A11_1, c11_1, rfl, hR1_1⟩
    have hM1_1 := hM1a.cl 0 hR1_1
    have hcr1_1_0 := (hM1_1.cap 0 rfl).1
    refine os 0 [] [1] ?_
    refine aO [] [] 4 ?_
    refine cp 0 [] (b := sbelow_fn _ _ _ _ w1_1 (hM1_1.rd 0 rfl) q0) (c := fun w1_4 hM1_4 => ?_)
    refine os 0 [] [1] ?_
    refine an [5] [] ?_
    exact ce0 0 [] [1] (h := by exact trivial)
  have hpl := plc_le l x.key
  refine ct2 0 [] (fun (A2 : Option Addr) (c2 : Nat) => ([(6, Vl (A2) ((l.take (plc l x.key) ++ [x]).length) (c2))] : List (Nat × SV))) (fun (A2 : Option Addr) (c2 : Nat) => True) (fun (A2 : Option Addr) (c2 : Nat) => [[⟨.slice (A2) ((l.take (plc l x.key) ++ [x]).length) (c2), 57, 2, ((l.take (plc l x.key) ++ [x]).length), (l.take (plc l x.key) ++ [x]).flatMap encP⟩]]) [0, 3, 5] [0] ?_ (fun A2 c2 σ w_r2 hI hM_r2 => ?_)
  · refine any 0 [] 8 [0] fun w2a hM2a => ?_
    refine av [0, 1] [] 2 (s := Vl (A) (((l).take (plc l x.key)).length) (c)) (a := by exact fun w2 hw2 => cv (Ru.congr (v := .slice (A) (plc l x.key) (c)) (v' := .slice (A) (((l).take (plc l x.key)).length) (c)) (Ru.lsliceTo (h := plc l x.key) Tryd.underlying31 el57 rfl rfl (by omega) (by omega)) (sl_congr (by first | rfl | (simp; done) | omega | (simp; omega)))) rfl) (b := ?_)
    refine aT [4] [0] 3 5 ?_ ?_
    · refine cq 0 [] (b := scopyRow_fn _ _ _ w2a (rd_takeN encP_len (hA.at hM2a)) q0) (c := ?_)
      rintro _ w2_3 ⟨A12_3, c12_3, rfl, hR2_3⟩
      have hM2_3 := hM2a.cl 0 hR2_3
      have hcr2_3_0 := (hM2_3.cap 0 rfl).1
      refine os 0 [] [1] ?_
      refine aO [] [] 5 ?_
      refine Lt 0 [] (([x]).flatMap encP) (fun w2_5 b2_5 hb2_5 hM2_5 => ?_)
      refine os 0 [] [2] ?_
      refine aO [] [] 6 ?_
      refine aF 0 [] 1 (hM2_5.rd 0 rfl) (fun w2_6 A2_6 c2_6 hc2_6 hM2_6 => ?_)
      refine os 0 [] [2] ?_
      refine an [7] [] ?_
      have hq1 : (((l).take (plc l x.key)) ++ [x] : List PairT) = l.take (plc l x.key) ++ [x] := (by first | rfl | simp | (simp; omega))
      have hMn1 := hM2_6.reF 1 hq1
      exact ce2 0 [] A2_6 c2_6 [1, 2] (h := by exact trivial)
    refine Lt 0 [] (([x]).flatMap encP) (fun w2_5 b2_5 hb2_5 hM2_5 => ?_)
    refine os 0 [] [1] ?_
    refine aO [] [] 3 ?_
    refine cq 0 [] (b := scopyRow_fn _ _ _ w2_5 (rd_takeN encP_len (hA.at hM2_5)) q0) (c := ?_)
    rintro _ w2_3 ⟨A12_3, c12_3, rfl, hR2_3⟩
    have hM2_3 := hM2_5.cl 0 hR2_3
    have hcr2_3_0 := (hM2_3.cap 0 rfl).1
    refine os 0 [] [2] ?_
    refine aO [] [] 6 ?_
    refine aF 0 [] 0 (hM2_3.rd 1 rfl) (fun w2_6 A2_6 c2_6 hc2_6 hM2_6 => ?_)
    refine os 0 [] [2] ?_
    refine an [7] [] ?_
    have hq2 : (((l).take (plc l x.key)) ++ [x] : List PairT) = l.take (plc l x.key) ++ [x] := (by first | rfl | simp | (simp; omega))
    have hMn2 := hM2_6.reF 0 hq2
    exact ce2 0 [] A2_6 c2_6 [0, 2] (h := by exact trivial)
  have hcl0_r2 := (hM_r2.cap 0 rfl).1
  refine dr 2 [] ?_
  refine qp 5 [] 23 (fun g23 => ?_) (fun g23 => ?_)
  · have hx3_7 : plc l x.key < (l).length := (by first | omega | (simp; omega))
    refine qv 2 [] (a := by exact fun _ hw2 => kixF hx3_7 (hA.at hw2)) (b := ?_)
    refine qv 0 [] (a := by exact fun _ hw2 => kflF hx3_7 (hA.at hw2)) (b := ?_)
    refine qv 0 [] (a := by exact fun _ hw2 => kldF hx3_7 (hA.at hw2)) (b := ?_)
    refine qn 4 [1] fun w3d hM3d => ?_
    refine cd 0 [] (fun c32 => ?_) (fun c32 => ?_)
    · have hin := isIn_yes ha hx3_7 c32
      refine ov 2 [] (a := kaddN (plc l x.key + 1)) (b := ?_)
      refine ov 7 [] (s := Vl (if c = (plc l x.key + 1) then A else ofs (A) ((plc l x.key + 1) * 2)) (((l).drop ((plc l x.key + 1))).length) (c - (plc l x.key + 1))) (a := by exact cv (Ru.congr (v := .slice (if c = (plc l x.key + 1) then A else ofs (A) ((plc l x.key + 1) * 2)) (((l).length) - (plc l x.key + 1)) (c - (plc l x.key + 1))) (v' := .slice (if c = (plc l x.key + 1) then A else ofs (A) ((plc l x.key + 1) * 2)) (((l).drop ((plc l x.key + 1))).length) (c - (plc l x.key + 1))) (Ru.lsliceFrom (l := (plc l x.key + 1)) Tryd.underlying31 el57 rfl rfl (by omega) (by omega)) (sl_congr (by first | rfl | (simp; done) | omega | (simp; omega)))) rfl) (b := ?_)
      refine aF 0 [] 0 (rd_dropN (k := (plc l x.key + 1)) (c := c) encP_len (hA.at hM3d) q2 q2) (fun w5_4 A5_4 c5_4 hc5_4 hM5_4 => ?_)
      refine E1 3 [] (.slice (A5_4) ((l.take (plc l x.key) ++ [x] ++ (l).drop ((plc l x.key + 1))).length) (c5_4)) ?_
      have hq3 : (l.take (plc l x.key) ++ [x] ++ (l).drop ((plc l x.key + 1)) : List PairT) = putP l x := (by first | (unfold putP; rw [if_pos (isIn_yes ha hx3_7 c32)]; simp; done) | (unfold putP; rw [isIn_no ha (fun hb => by first | omega | exact fun e => c32 e)]; simp))
      have hMn3 := hM5_4.reF 0 hq3
      exact ⟨A5_4, c5_4, (sl_congr (by first | (unfold putP; rw [if_pos (isIn_yes ha hx3_7 c32)]; simp; done) | (unfold putP; rw [isIn_no ha (fun hb => by first | omega | exact fun e => c32 e)]; simp))), (hMn3.pk [0])⟩
    refine ov 6 [] (s := Vl (if c = plc l x.key then A else ofs (A) ((plc l x.key) * 2)) (((l).drop (plc l x.key)).length) (c - (plc l x.key))) (a := by exact cv (Ru.congr (v := .slice (if c = plc l x.key then A else ofs (A) ((plc l x.key) * 2)) (((l).length) - (plc l x.key)) (c - (plc l x.key))) (v' := .slice (if c = plc l x.key then A else ofs (A) ((plc l x.key) * 2)) (((l).drop (plc l x.key)).length) (c - (plc l x.key))) (Ru.lsliceFrom (l := plc l x.key) Tryd.underlying31 el57 rfl rfl (by omega) (by omega)) (sl_congr (by first | rfl | (simp; done) | omega | (simp; omega)))) rfl) (b := ?_)
    refine aF 0 [] 0 (rd_dropN (k := plc l x.key) (c := c) encP_len (hA.at hM3d) q2 q2) (fun w5_4 A5_4 c5_4 hc5_4 hM5_4 => ?_)
    refine E1 3 [] (.slice (A5_4) ((l.take (plc l x.key) ++ [x] ++ (l).drop (plc l x.key)).length) (c5_4)) ?_
    have hq4 : (l.take (plc l x.key) ++ [x] ++ (l).drop (plc l x.key) : List PairT) = putP l x := (by first | (unfold putP; rw [if_pos (isIn_yes ha hx3_7 c32)]; simp; done) | (unfold putP; rw [isIn_no ha (fun hb => by first | omega | exact fun e => c32 e)]; simp))
    have hMn4 := hM5_4.reF 0 hq4
    exact ⟨A5_4, c5_4, (sl_congr (by first | (unfold putP; rw [if_pos (isIn_yes ha hx3_7 c32)]; simp; done) | (unfold putP; rw [isIn_no ha (fun hb => by first | omega | exact fun e => c32 e)]; simp))), (hMn4.pk [0])⟩
  refine qn 9 [] fun w3d hM3d => ?_
  refine ov 7 [] (s := Vl (if c = plc l x.key then A else ofs (A) ((plc l x.key) * 2)) (((l).drop (plc l x.key)).length) (c - (plc l x.key))) (a := by exact cv (Ru.congr (v := .slice (if c = plc l x.key then A else ofs (A) ((plc l x.key) * 2)) (((l).length) - (plc l x.key)) (c - (plc l x.key))) (v' := .slice (if c = plc l x.key then A else ofs (A) ((plc l x.key) * 2)) (((l).drop (plc l x.key)).length) (c - (plc l x.key))) (Ru.lsliceFrom (l := plc l x.key) Tryd.underlying31 el57 rfl rfl (by omega) (by omega)) (sl_congr (by first | rfl | (simp; done) | omega | (simp; omega)))) rfl) (b := ?_)
  refine aF 0 [] 0 (rd_dropN (k := plc l x.key) (c := c) encP_len (hA.at hM3d) q2 q2) (fun w5_4 A5_4 c5_4 hc5_4 hM5_4 => ?_)
  refine E1 3 [] (.slice (A5_4) ((l.take (plc l x.key) ++ [x] ++ (l).drop (plc l x.key)).length) (c5_4)) ?_
  have hq5 : (l.take (plc l x.key) ++ [x] ++ (l).drop (plc l x.key) : List PairT) = putP l x := (by first | (unfold putP; rw [if_pos (isIn_yes ha hx3_7 c32)]; simp; done) | (unfold putP; rw [isIn_no ha (fun hb => by first | omega | exact fun e => c32 e)]; simp))
  have hMn5 := hM5_4.reF 0 hq5
  exact ⟨A5_4, c5_4, (sl_congr (by first | (unfold putP; rw [if_pos (isIn_yes ha hx3_7 c32)]; simp; done) | (unfold putP; rw [isIn_no ha (fun hb => by first | omega | exact fun e => c32 e)]; simp))), (hMn5.pk [0])⟩
end Go.Proofs.YtemejgglbhjodaaDoor
end
section
namespace Go.Proofs
open Go.Shelf
def Tryd.lays169_ren : Go.Shelf.Ren := ⟨fun | 169 => 21 | n => n, fun | 70 => 43 | 9 => 9 | 0 => 0 | 72 => 45 | 37 => 22 | 127 => 74 | 3 => 3 | 5 => 5 | n => n, fun | n => n⟩
theorem Tryd.lays169 : Go.Proofs.Lays.n169 Tryd.prog Tryd.lays169_ren := {
  mixed := by kernel_rfl
  f169 := Tryd.func21.trans (congrArg some (by kernel_rfl))
  t0 := Tryd.underlying0
  a0 := Tryd.isAgg0
  z0 := Tryd.sizeOf0
  v0 := Tryd.zeroValue0
  t3 := Tryd.underlying3
  a3 := Tryd.isAgg3
  z3 := Tryd.sizeOf3
  v3 := Tryd.zeroValue3
  t9 := Tryd.underlying9
  a9 := Tryd.isAgg9
  z9 := Tryd.sizeOf9
  v9 := Tryd.zeroValue9
  t37 := Tryd.underlying22
  a37 := Tryd.isAgg22
  z37 := Tryd.sizeOf22
  v37 := Tryd.zeroValue22
  t70 := Tryd.underlying43
  a70 := Tryd.isAgg43
  z70 := Tryd.sizeOf43
  v70 := Tryd.zeroValue43
  t72 := Tryd.underlying45
  a72 := Tryd.isAgg45
  z72 := Tryd.sizeOf45
  v72 := Tryd.zeroValue45
  t127 := Tryd.underlying74
  a127 := Tryd.isAgg74
  z127 := Tryd.sizeOf74
  v127 := Tryd.zeroValue74 }
theorem Tryd.Builder_Extra_169 : Builder.Extra Tryd.prog Tryd.lays169_ren := {
  sizeBuilder := by kernel_rfl
  liesBuilder := by kernel_rfl
  t5 := Tryd.underlying5
  a5 := Tryd.isAgg5
  z5 := Tryd.sizeOf5
  v5 := Tryd.zeroValue5
  infoByte := by kernel_rfl
  cellsByte := by kernel_rfl
  sizeByte := by kernel_rfl
  neB5 := by decide }
open Go.RowKit in
theorem Tryd.Builder_String_any (B b : Nat) (l : List UInt8) (w : World) (h : Lib.IsBuilder 45 5 B b (Lib.byteCells l) w) (hBw : B ≤ w.heap.size) :
    Calls Tryd.prog 21 #[.pointer (some ⟨b, 0, none⟩)] w fun e w' => e = .returned (.string ⟨l.toArray⟩) ∧ Below B w w' := Any.Builder_String_any Tryd.lays169 Tryd.Builder_Extra_169 B b l w h hBw
def Tryd.laysM171_ren : Go.Shelf.Ren := ⟨fun | 171 => 30 | 243 => 54 | 246 => 69 | 283 => 79 | 284 => 80 | 285 => 81 | 286 => 82 | 129 => 96 | 317 => 95 | 318 => 97 | 319 => 98 | 320 => 99 | 337 => 102 | 338 => 103 | n => n, fun | 3 => 3 | 9 => 9 | 2 => 2 | 4 => 4 | 171 => 105 | 0 => 0 | 53 => 106 | 37 => 22 | 5 => 5 | 173 => 109 | 212 => 123 | 51 => 124 | 20 => 20 | 213 => 125 | 46 => 126 | 232 => 130 | 233 => 131 | n => n, fun | 17 => 0 | 18 => 1 | 19 => 2 | n => n⟩
theorem Tryd.laysM171 : Go.Proofs.LaysM.n171 Tryd.prog Tryd.laysM171_ren := {
  mixed := by kernel_rfl
  f129 := Tryd.func96.trans (congrArg some (by kernel_rfl))
  f171 := Tryd.func30.trans (congrArg some (by kernel_rfl))
  f243 := Tryd.func54.trans (congrArg some (by kernel_rfl))
  f246 := Tryd.func69.trans (congrArg some (by kernel_rfl))
  f283 := Tryd.func79.trans (congrArg some (by kernel_rfl))
  f284 := Tryd.func80.trans (congrArg some (by kernel_rfl))
  f285 := Tryd.func81.trans (congrArg some (by kernel_rfl))
  f286 := Tryd.func82.trans (congrArg some (by kernel_rfl))
  f317 := Tryd.func95.trans (congrArg some (by kernel_rfl))
  f318 := Tryd.func97.trans (congrArg some (by kernel_rfl))
  f319 := Tryd.func98.trans (congrArg some (by kernel_rfl))
  f320 := Tryd.func99.trans (congrArg some (by kernel_rfl))
  f337 := Tryd.func102.trans (congrArg some (by kernel_rfl))
  f338 := Tryd.func103.trans (congrArg some (by kernel_rfl))
  t0 := Tryd.underlying0
  a0 := Tryd.isAgg0
  z0 := Tryd.sizeOf0
  v0 := Tryd.zeroValue0
  t2 := Tryd.underlying2
  a2 := Tryd.isAgg2
  z2 := Tryd.sizeOf2
  v2 := Tryd.zeroValue2
  t3 := Tryd.underlying3
  a3 := Tryd.isAgg3
  z3 := Tryd.sizeOf3
  v3 := Tryd.zeroValue3
  t4 := Tryd.underlying4
  a4 := Tryd.isAgg4
  z4 := Tryd.sizeOf4
  v4 := Tryd.zeroValue4
  t5 := Tryd.underlying5
  a5 := Tryd.isAgg5
  z5 := Tryd.sizeOf5
  v5 := Tryd.zeroValue5
  t9 := Tryd.underlying9
  a9 := Tryd.isAgg9
  z9 := Tryd.sizeOf9
  v9 := Tryd.zeroValue9
  t20 := Tryd.underlying20
  a20 := Tryd.isAgg20
  z20 := Tryd.sizeOf20
  v20 := Tryd.zeroValue20
  t37 := Tryd.underlying22
  a37 := Tryd.isAgg22
  z37 := Tryd.sizeOf22
  v37 := Tryd.zeroValue22
  t46 := Tryd.underlying126
  a46 := Tryd.isAgg126
  z46 := Tryd.sizeOf126
  v46 := Tryd.zeroValue126
  t51 := Tryd.underlying124
  a51 := Tryd.isAgg124
  z51 := Tryd.sizeOf124
  v51 := Tryd.zeroValue124
  t53 := Tryd.underlying106
  a53 := Tryd.isAgg106
  z53 := Tryd.sizeOf106
  v53 := Tryd.zeroValue106
  t171 := Tryd.underlying105
  a171 := Tryd.isAgg105
  z171 := Tryd.sizeOf105
  v171 := Tryd.zeroValue105
  t173 := Tryd.underlying109
  a173 := Tryd.isAgg109
  z173 := Tryd.sizeOf109
  v173 := Tryd.zeroValue109
  t212 := Tryd.underlying123
  a212 := Tryd.isAgg123
  z212 := Tryd.sizeOf123
  v212 := Tryd.zeroValue123
  t213 := Tryd.underlying125
  a213 := Tryd.isAgg125
  z213 := Tryd.sizeOf125
  t232 := Tryd.underlying130
  a232 := Tryd.isAgg130
  z232 := Tryd.sizeOf130
  v232 := Tryd.zeroValue130
  t233 := Tryd.underlying131
  a233 := Tryd.isAgg131
  z233 := Tryd.sizeOf131
  v233 := Tryd.zeroValue131
  g17 := by kernel_rfl
  g18 := by kernel_rfl
  g19 := by kernel_rfl
  i0 := by kernel_rfl
  i2 := by kernel_rfl
  i3 := by kernel_rfl
  i4 := by kernel_rfl
  i5 := by kernel_rfl
  i9 := by kernel_rfl
  i20 := by kernel_rfl
  i37 := by kernel_rfl
  i46 := by kernel_rfl
  i51 := by kernel_rfl
  i53 := by kernel_rfl
  i171 := by kernel_rfl
  i173 := by kernel_rfl
  i212 := by kernel_rfl
  i232 := by kernel_rfl
  i233 := by kernel_rfl
  m17 := by kernel_rfl
  m18 := by kernel_rfl
  m19 := by kernel_rfl }
end Go.Proofs
end
section
namespace Go.Proofs.YtemejgglbhjodaaDoor
open Go.Px Go.RowKit
def tabN : String := Rows.fnTreeTextRow.named.headD ""
abbrev TAB (w : World) : Prop := Lib.TabIs Tryd.prog w tabN .u64 Lib.pow10Tab
theorem Itoa_fn (n : Int) (w : World) (htab : TAB w) (hn : -9223372036854775808 ≤ n ∧ n ≤ 9223372036854775807) : Does Tryd.prog 30 [I (n)] w (fun v w1 => v = S (itoaS n) ∧ Mem w w1 [] []) :=
  ⟨(Any.strconv_Itoa Tryd.laysM171 n hn.1 hn.2 w htab).mono fun e w' ⟨he, k, os, hw⟩ => ⟨_, he, rfl, by rw [hw]; exact Px.mem_grow⟩⟩
theorem String_fn {l : Str} {b : Nat} (w : World) {B : Nat} (hBw : B ≤ w.heap.size) (h : Lib.IsBuilder 45 5 B b (Lib.byteCells l) w) : Does Tryd.prog 21 [.pointer (ofs (bl b) 0)] w (fun v w1 => v = S l ∧ Below B w w1) :=
  ⟨(Tryd.Builder_String_any B b l w h hBw).mono fun e w' ⟨he, hw⟩ => ⟨_, he, rfl, hw⟩⟩
end Go.Proofs.YtemejgglbhjodaaDoor
namespace Go.Px
open Go.RowKit
section
variable {w0 w w1 : World} {M : List (List FE)}
theorem mem_below (h : Mem w0 w [] M) (hB : Below w0.heap.size w w1) : Mem w0 w1 [] [] :=
  ⟨hB.os.trans h.os, hB.tape.trans h.tape, hB.output.trans h.output, Nat.le_trans h.size hB.size, fun k hk hr => (hB.block k hk).trans (h.block k hk hr), by simp, by simp, by simp⟩
theorem Mem0.builder {A : Option Addr} {b c T e : Nat} {p : Value} {l : Str} (h : Mem w0 w [] M) (i j : Nat) (hi : M[i]? = some [⟨.slice (bl b) 1 1, T, 2, 1, [p, .slice A l.length c]⟩]) (hj : M[j]? = some [⟨.slice A l.length c, e, 1, l.length, l.map byteV⟩]) (hp : p = .pointer none ∨ p = .pointer (ofs (bl b) 0)) (hij : i ≠ j := by decide) : Lib.IsBuilder T e w0.heap.size b (Lib.byteCells l) w := by
  have hb := mem_blk (i := i) (j := 0) h hi rfl
  have ho : Px.own w 0 e 1 (.slice A l.length c) l.length (l.map byteV) := h.get hj (j := 0) rfl
  have hbb : w0.heap.size ≤ b := by
    rcases h.born _ (List.mem_flatten.2 ⟨_, List.mem_of_getElem? hi, List.mem_singleton.2 rfl⟩) b rfl with h1 | h1
    · exact h1
    simp at h1
  have hg := Px.grp_get (List.pairwise_flatten.1 h.apart).2 hi hj hij
  have hap : Apart _ _ := hg _ (List.mem_singleton.2 rfl) _ (List.mem_singleton.2 rfl)
  have key : ∀ q : Value, p = q → Lib.BuilderAt T e w0.heap.size b q (Lib.byteCells l) w := by
    rintro q rfl
    refine ⟨hbb, _, hb, ⟨?_, ?_⟩, ?_⟩
    · simp [Lib.byteCells]
    · have hlen : (Lib.byteCells l).length = l.length := by simp [Lib.byteCells]
      rw [hlen]
      obtain ⟨_, ⟨hv, h0⟩ | ⟨g, cap, cur, hv, hbg, hgg, hnc, hcm, hcs, ht⟩⟩ := ho
      · left; exact ⟨hv, h0⟩
      right
      refine ⟨g, cap, cur, hv, ?_, hgg, hnc, hcm, hcs, ht⟩
      rcases h.born _ (List.mem_flatten.2 ⟨_, List.mem_of_getElem? hj, List.mem_singleton.2 rfl⟩) g (by rw [FE.blk, hv]; rfl) with h1 | h1
      · exact h1
      simp at h1
    intro e'
    exact hap b rfl e'
  rcases hp with hp | hp
  · exact .inl (key _ hp)
  exact .inr (key _ hp)
end
end Go.Px
end
section
namespace Go.Proofs.YtemejgglbhjodaaDoor
open Go.Px
theorem copyN_fn (b : Nat) (A : Option Addr) (n : Nat) (c : Nat) (w : World) (hM : Mem w w [some b] [[⟨.slice (bl b) 1 1, 45, 2, 1, [(.pointer none), .slice (A) (n) (c)]⟩]]) :
    Does Tryd.prog 53 [.pointer (ofs (bl b) (0))] w (fun v w1 => v = (.tuple #[]) ∧ Mem w w1 [some b] [[⟨.slice (bl b) 1 1, 45, 2, 1, [.pointer (ofs (bl b) (0)), .slice (A) (n) (c)]⟩]]) := by
  refine Does.n0 Tryd.func53 rfl Tryd.results53 Tryd.ntmps53 rfl ?_
  refine ov 6 [0] (s := Vb (true)) (a := by exact cv (Ru.peqN (a := none) Tryd.underlying43 rfl rfl) rfl) (b := ?_)
  refine ov 5 [] (s := Vp (bl b) (0)) (a := by exact cv (Ru.toUns (l := [(.pointer none), .slice (A) (n) (c)]) Tryd.underlying43 Tryd.underlying92 el45 (by decide) (mem_blk (i := 0) (j := 0) hM rfl rfl) (by simp) rfl) rfl) (b := ?_)
  refine ov 0 [] (s := Vp (bl b) (0)) (a := by exact cv (Ru.noEsc Tryd.func68 (by kernel_rfl) (by kernel_rfl) (by kernel_rfl) (by kernel_rfl) rfl) rfl) (b := ?_)
  refine ov 0 [] (s := Vp (bl b) (0)) (a := by exact cv (Ru.frUns (l := [(.pointer none), .slice (A) (n) (c)]) Tryd.underlying92 Tryd.underlying43 el45 (mem_blk (i := 0) (j := 0) hM rfl rfl) (by kernel_rfl) rfl) rfl) (b := ?_)
  refine Sb 2 [] 0 fun w1_7 hM1_7 => ?_
  refine E0 1 [] ?_
  exact ⟨(by first | rfl | exact sl_congr (by first | omega | (simp; done) | (simp; omega)) | (simp; done)), (hM1_7.pk [0])⟩
theorem copyS_fn (b : Nat) (A : Option Addr) (n : Nat) (c : Nat) (w : World) (hM : Mem w w [some b] [[⟨.slice (bl b) 1 1, 45, 2, 1, [.pointer (ofs (bl b) (0)), .slice (A) (n) (c)]⟩]]) :
    Does Tryd.prog 53 [.pointer (ofs (bl b) (0))] w (fun v w1 => v = (.tuple #[]) ∧ Mem w w1 [some b] [[⟨.slice (bl b) 1 1, 45, 2, 1, [.pointer (ofs (bl b) (0)), .slice (A) (n) (c)]⟩]]) := by
  refine Does.n0 Tryd.func53 rfl Tryd.results53 Tryd.ntmps53 rfl ?_
  refine ov 6 [0] (s := Vb (false)) (a := by exact cv (Ru.peqN (a := ofs (bl b) (0)) Tryd.underlying43 rfl rfl) rfl) (b := ?_)
  refine ov 9 [0] (s := Vb (false)) (a := by exact cv (Ru.pneS (a := ⟨b, 0, Option.none⟩) Tryd.underlying43 el45 rfl rfl) rfl) (b := ?_)
  refine E0 3 [] ?_
  exact ⟨(by first | rfl | exact sl_congr (by first | omega | (simp; done) | (simp; omega)) | (simp; done)), (hM.pk [0])⟩
theorem copyCheck_fn (b : Nat) (p : Value) (A : Option Addr) (n : Nat) (c : Nat) (w : World) (hM : Mem w w [some b] [[⟨.slice (bl b) 1 1, 45, 2, 1, [(p), .slice (A) (n) (c)]⟩]]) (hp : p = .pointer none ∨ p = .pointer (ofs (bl b) 0)) :
    Does Tryd.prog 53 [.pointer (ofs (bl b) (0))] w (fun v w1 => v = (.tuple #[]) ∧ Mem w w1 [some b] [[⟨.slice (bl b) 1 1, 45, 2, 1, [.pointer (ofs (bl b) (0)), .slice (A) (n) (c)]⟩]]) := by
  rcases hp with rfl | rfl
  · exact copyN_fn b A n c w hM
  exact copyS_fn b A n c w hM
theorem WriteByte_fn (b : Nat) (A : Option Addr) (c : Nat) (l : List UInt8) (p : Value) (ch : UInt8) (w : World) (hM : Mem w w [some b, (Value.slice (A) ((l).length) (c)).ownBlock] [[⟨.slice (bl b) 1 1, 45, 2, 1, [(p), .slice (A) ((l).length) (c)]⟩], [⟨.slice (A) ((l).length) (c), 5, 1, ((l).length), (l).map byteV⟩]]) (hp : p = .pointer none ∨ p = .pointer (ofs (bl b) 0)) (hl : l.length ≤ 1000000) :
    Does Tryd.prog 28 [.pointer (ofs (bl b) (0)), .int .u8 (((ch).toNat : Int))] w (fun v w1 => ∃ (A1 : Option Addr) (c1 : Nat), v = (.nilIface) ∧ Mem w w1 [some b, (Value.slice (A) ((l).length) (c)).ownBlock] [[⟨.slice (bl b) 1 1, 45, 2, 1, [.pointer (ofs (bl b) (0)), .slice (A1) ((l ++ [ch]).length) (c1)]⟩], [⟨.slice (A1) ((l ++ [ch]).length) (c1), 5, 1, ((l ++ [ch]).length), (l ++ [ch]).map byteV⟩]]) := by
  refine Does.n1 Tryd.func28 rfl Tryd.results28 Tryd.ntmps28 rfl ?_
  refine cq 7 [] (b := copyCheck_fn _ (p) A ((l).length) c w (hM.fp [0] rfl rfl) (by first | exact .inl rfl | exact .inr rfl | assumption)) (c := ?_)
  rintro _ w1_1 ⟨rfl, hR1_1⟩
  have hM1_1 := hM.cl 1 hR1_1
  refine Lt 9 [0] (([ch]).map byteV) (fun w2_6 b2_6 hb2_6 hM2_6 => ?_)
  refine aM 0 [] 2 (hM2_6.rd 0 rfl) (fun w2_7 A2_7 c2_7 hc2_7 hM2_7 => ?_)
  refine Sb 2 [] 1 fun w2_10 hM2_10 => ?_
  refine E1 6 [] (.nilIface) ?_
  exact ⟨A2_7, c2_7, (by first | rfl | exact sl_congr (by first | omega | (simp; done) | (simp; omega)) | (simp; done)), (hM2_10.pk [1, 2])⟩
theorem WriteString_fn (b : Nat) (A : Option Addr) (c : Nat) (l : List UInt8) (p : Value) (s : Str) (w : World) (hM : Mem w w [some b, (Value.slice (A) ((l).length) (c)).ownBlock] [[⟨.slice (bl b) 1 1, 45, 2, 1, [(p), .slice (A) ((l).length) (c)]⟩], [⟨.slice (A) ((l).length) (c), 5, 1, ((l).length), (l).map byteV⟩]]) (hp : p = .pointer none ∨ p = .pointer (ofs (bl b) 0)) (hl : l.length + s.length ≤ 1000000) :
    Does Tryd.prog 29 [.pointer (ofs (bl b) (0)), S (s)] w (fun v w1 => ∃ (A1 : Option Addr) (c1 : Nat), v = .tuple #[I (((s.length : Nat) : Int)), (.nilIface)] ∧ Mem w w1 [some b, (Value.slice (A) ((l).length) (c)).ownBlock] [[⟨.slice (bl b) 1 1, 45, 2, 1, [.pointer (ofs (bl b) (0)), .slice (A1) ((l ++ s).length) (c1)]⟩], [⟨.slice (A1) ((l ++ s).length) (c1), 5, 1, ((l ++ s).length), (l ++ s).map byteV⟩]]) := by
  refine Does.n2 Tryd.func29 rfl Tryd.results29 Tryd.ntmps29 rfl ?_
  refine cq 8 [] (b := copyCheck_fn _ (p) A ((l).length) c w (hM.fp [0] rfl rfl) (by first | exact .inl rfl | exact .inr rfl | assumption)) (c := ?_)
  rintro _ w1_1 ⟨rfl, hR1_1⟩
  have hM1_1 := hM.cl 1 hR1_1
  refine go 9 [0] ?_
  refine O.mappendS (l := s) (m1 := (l ++ s).length) (xs1 := (l ++ s).map byteV) (M' := fun A2_6 c2_6 => [[⟨.slice (bl b) 1 1, 45, 2, 1, [.pointer (ofs (bl b) (0)), .slice (A) (((l).length)) (c)]⟩], [⟨.slice (A2_6) ((l ++ s).length) (c2_6), 5, 1, ((l ++ s).length), (l ++ s).map byteV⟩]]) 1 hM1_1 rfl rfl Tryd.underlying22 Tryd.underlying9 (by kernel_rfl) rfl rfl rfl (by first | omega | (simp; omega)) (by first | (simp; done) | (simp; omega)) (by simp) (fun _ _ => rfl) (fun w2_6 A2_6 c2_6 hc2_6 hM2_6 => ?_)
  try dsimp only at hM2_6
  refine Sb 2 [] 0 fun w2_9 hM2_9 => ?_
  refine E2 9 [] (I (((s).length : Int))) (.nilIface) ?_
  exact ⟨A2_6, c2_6, (by first | rfl | exact sl_congr (by first | omega | (simp; done) | (simp; omega)) | (simp; done)), (hM2_9.pk [0, 1])⟩
end Go.Proofs.YtemejgglbhjodaaDoor
end
section
namespace Go.Proofs.YtemejgglbhjodaaDoor
open Go.Px
set_option maxHeartbeats 2000000 in
theorem FormatRow_fn (A : Option Addr) (c : Nat) (l : List PairT) (w : World) (hA : Rd w A ((l).flatMap encP)) (hl : l.length ≤ 1048576) (htab : TAB w) :
    Does Tryd.prog 12 [.slice (A) ((l).length) (c)] w (fun v w1 => v = S (fmtR l) ∧ Mem w w1 [] []) := by
  have hM : Mem w w [] [] := Mem.refl
  refine Does.n1 Tryd.func12 rfl Tryd.results12 Tryd.ntmps12 rfl ?_
  refine cp 8 [] (b := ValidRow_fn _ _ _ w (hA.at hM) q0) (c := fun w1_1 hM1_1 => ?_)
  refine cn 2 [] (fun c8 => ?_) (fun c8 => ?_)
  · refine E1 5 [] (S ([])) ?_
    exact ⟨(by rw [fmtR_no (by simpa using c8)]), (Mem.none hM1_1)⟩
  have hv : validR l = true := by simpa using c8
  have hvs := valid_small hv
  have h24 := validR_len hv
  refine Al 3 [] fun w3_0 b3_0 hb3_0 hM3_0 => ?_
  have hMn1 := Mem.addNil (e := 5) (sz := 1) hM3_0
  have hq2 : ([] : List UInt8) = fmtL (l.take 0) := (by simp [fmtL])
  have hMn2 := hMn1.reM 0 hq2 (f := byteV)
  have hMn3 := hMn2.reB 1 1 (show 0 = (fmtL (l.take 0)).length from (by simp [fmtL]))
  refine lp4 9 [] (fun (k : Nat) (pv : Value) (A2 : Option Addr) (c2 : Nat) => ([(11, Vi (((k : Nat) : Int)))] : List (Nat × SV))) (fun (k : Nat) (pv : Value) (A2 : Option Addr) (c2 : Nat) => (k ≤ l.length) ∧ (pv = .pointer none ∨ pv = .pointer (ofs (bl b3_0) 0))) (fun (k : Nat) (pv : Value) (A2 : Option Addr) (c2 : Nat) => [[⟨.slice (A2) ((fmtL (l.take k)).length) (c2), 5, 1, ((fmtL (l.take k)).length), (fmtL (l.take k)).map byteV⟩], [⟨.slice (bl b3_0) 1 1, 45, 2, 1, [(pv), .slice (A2) ((fmtL (l.take k)).length) (c2)]⟩]]) (fun (k : Nat) (pv : Value) (A2 : Option Addr) (c2 : Nat) => l.length - k) [3, 9, 10] [0, 1] [] 0 ((.pointer none) : Value) none 0 (fun k pv A2 c2 σ w_l5 hI hM_l5 => ?_) (h0 := ⟨(Nat.zero_le _), (.inl rfl)⟩)
  obtain ⟨hi0_l5, hi1_l5⟩ := hI
  have hcl0_l5 := (hM_l5.cap 0 rfl).1
  refine cd 5 [] (fun c12 => ?_) (fun c12 => ?_)
  · have hkl : k < l.length := by omega
    have hsm := hvs _ (List.getElem_mem hkl)
    have hfl := fmtL_len (l := l) k hvs hi0_l5
    have hl1 := itoa_len (n := l[k].key) (by have := hsm.1; omega) (by have := hsm.1; omega)
    have hl2 := itoa_len (n := l[k].val) (by have := hsm.2; omega) (by have := hsm.2; omega)
    have hs1 := hsm.1
    have hs2 := hsm.2
    have hx6_1 : k < (l).length := (by first | omega | (simp; omega))
    refine ov 6 [] (a := kixF hx6_1 (hA.at hM_l5)) (b := ?_)
    refine ov 0 [] (a := kldN hx6_1 (hA.at hM_l5)) (b := ?_)
    refine Al 0 [] fun w6_3 b6_3 hb6_3 hM6_3 => ?_
    refine Sb 1 [] 0 fun w6_5 hM6_5 => ?_
    refine cd 7 [] (fun c17 => ?_) (fun c17 => ?_)
    · have hk0 : k ≠ 0 := by omega
      have hMf8_0 := hM6_5.pk [2, 1, 0]
      refine cq 1 [] (b := WriteByte_fn b3_0 A2 c2 (fmtL (l.take k)) (pv) (44 : UInt8) w6_5 (hMf8_0.fp [0, 1] rfl rfl) (by first | exact .inl rfl | exact .inr rfl | assumption) (by first | omega | (simp; omega))) (c := ?_)
      rintro _ w8_0 ⟨A18_0, c18_0, rfl, hR8_0⟩
      have hM8_0 := hMf8_0.cl 2 hR8_0
      have hcr8_0_1 := (hM8_0.cap 1 rfl).1
      refine cp 5 [2] (b := Itoa_fn _ w8_0 (tab_at htab hM8_0) (by first | omega | (constructor <;> omega))) (c := fun w9_2 hM9_2 => ?_)
      refine cq 0 [] (b := WriteString_fn b3_0 A18_0 c18_0 ((fmtL (l.take k)) ++ [(44 : UInt8)]) (.pointer (ofs (bl b3_0) (0))) _ w9_2 (hM9_2.fp [0, 1] rfl rfl) (by first | exact .inl rfl | exact .inr rfl | assumption) (by first | omega | (simp; omega))) (c := ?_)
      rintro _ w9_3 ⟨A19_3, c19_3, rfl, hR9_3⟩
      have hM9_3 := hM9_2.cl 2 hR9_3
      have hcr9_3_1 := (hM9_3.cap 1 rfl).1
      refine cq 3 [] (b := WriteByte_fn b3_0 A19_3 c19_3 (((fmtL (l.take k)) ++ [(44 : UInt8)]) ++ (itoaS (((l)[k]'hx6_1).key))) (.pointer (ofs (bl b3_0) (0))) (58 : UInt8) w9_3 (hM9_3.fp [0, 1] rfl rfl) (by first | exact .inl rfl | exact .inr rfl | assumption) (by first | omega | (simp; omega))) (c := ?_)
      rintro _ w10_0 ⟨A110_0, c110_0, rfl, hR10_0⟩
      have hM10_0 := hM9_3.cl 2 hR10_0
      have hcr10_0_1 := (hM10_0.cap 1 rfl).1
      refine cp 4 [2] (b := Itoa_fn _ w10_0 (tab_at htab hM10_0) (by first | omega | (constructor <;> omega))) (c := fun w11_2 hM11_2 => ?_)
      refine cq 0 [] (b := WriteString_fn b3_0 A110_0 c110_0 ((((fmtL (l.take k)) ++ [(44 : UInt8)]) ++ (itoaS (((l)[k]'hx6_1).key))) ++ [(58 : UInt8)]) (.pointer (ofs (bl b3_0) (0))) _ w11_2 (hM11_2.fp [0, 1] rfl rfl) (by first | exact .inl rfl | exact .inr rfl | assumption) (by first | omega | (simp; omega))) (c := ?_)
      rintro _ w11_3 ⟨A111_3, c111_3, rfl, hR11_3⟩
      have hM11_3 := hM11_2.cl 2 hR11_3
      have hcr11_3_1 := (hM11_3.cap 1 rfl).1
      refine ov 2 [] (a := kaddN (k + 1)) (b := ?_)
      have hq4 : (((((fmtL (l.take k)) ++ [(44 : UInt8)]) ++ (itoaS (((l)[k]'hx6_1).key))) ++ [(58 : UInt8)]) ++ (itoaS (((l)[k]'hx6_1).val)) : List UInt8) = fmtL (l.take (k + 1)) := (by rw [fmtL_take hkl]; simp [fmtP, hk0])
      have hMn4 := hM11_3.reM 1 hq4
      have hMn5 := hMn4.reB 0 1 (show (((((fmtL (l.take k)) ++ [(44 : UInt8)]) ++ (itoaS (((l)[k]'hx6_1).key))) ++ [(58 : UInt8)]) ++ (itoaS (((l)[k]'hx6_1).val))).length = (fmtL (l.take (k + 1))).length from congrArg List.length hq4)
      exact le4 2 [] (k + 1) ((.pointer (ofs (bl b3_0) (0))) : Value) A111_3 c111_3 [1, 0] (h := by exact ⟨(by (try dsimp only); omega), (.inr rfl)⟩)
    have hk0 : k = 0 := by omega
    refine cp 5 [0] (b := Itoa_fn _ w6_5 (tab_at htab hM6_5) (by first | omega | (constructor <;> omega))) (c := fun w9_2 hM9_2 => ?_)
    have hMf9_3 := hM9_2.pk [2, 1, 0]
    refine cq 0 [] (b := WriteString_fn b3_0 A2 c2 (fmtL (l.take k)) (pv) _ w9_2 (hMf9_3.fp [0, 1] rfl rfl) (by first | exact .inl rfl | exact .inr rfl | assumption) (by first | omega | (simp; omega))) (c := ?_)
    rintro _ w9_3 ⟨A19_3, c19_3, rfl, hR9_3⟩
    have hM9_3 := hMf9_3.cl 2 hR9_3
    have hcr9_3_1 := (hM9_3.cap 1 rfl).1
    refine cq 3 [] (b := WriteByte_fn b3_0 A19_3 c19_3 ((fmtL (l.take k)) ++ (itoaS (((l)[k]'hx6_1).key))) (.pointer (ofs (bl b3_0) (0))) (58 : UInt8) w9_3 (hM9_3.fp [0, 1] rfl rfl) (by first | exact .inl rfl | exact .inr rfl | assumption) (by first | omega | (simp; omega))) (c := ?_)
    rintro _ w10_0 ⟨A110_0, c110_0, rfl, hR10_0⟩
    have hM10_0 := hM9_3.cl 2 hR10_0
    have hcr10_0_1 := (hM10_0.cap 1 rfl).1
    refine cp 4 [2] (b := Itoa_fn _ w10_0 (tab_at htab hM10_0) (by first | omega | (constructor <;> omega))) (c := fun w11_2 hM11_2 => ?_)
    refine cq 0 [] (b := WriteString_fn b3_0 A110_0 c110_0 (((fmtL (l.take k)) ++ (itoaS (((l)[k]'hx6_1).key))) ++ [(58 : UInt8)]) (.pointer (ofs (bl b3_0) (0))) _ w11_2 (hM11_2.fp [0, 1] rfl rfl) (by first | exact .inl rfl | exact .inr rfl | assumption) (by first | omega | (simp; omega))) (c := ?_)
    rintro _ w11_3 ⟨A111_3, c111_3, rfl, hR11_3⟩
    have hM11_3 := hM11_2.cl 2 hR11_3
    have hcr11_3_1 := (hM11_3.cap 1 rfl).1
    refine ov 2 [] (a := kaddN (k + 1)) (b := ?_)
    have hq6 : ((((fmtL (l.take k)) ++ (itoaS (((l)[k]'hx6_1).key))) ++ [(58 : UInt8)]) ++ (itoaS (((l)[k]'hx6_1).val)) : List UInt8) = fmtL (l.take (k + 1)) := (by rw [fmtL_take hkl]; simp [fmtP, hk0])
    have hMn6 := hM11_3.reM 1 hq6
    have hMn7 := hMn6.reB 0 1 (show ((((fmtL (l.take k)) ++ (itoaS (((l)[k]'hx6_1).key))) ++ [(58 : UInt8)]) ++ (itoaS (((l)[k]'hx6_1).val))).length = (fmtL (l.take (k + 1))).length from congrArg List.length hq6)
    exact le4 2 [] (k + 1) ((.pointer (ofs (bl b3_0) (0))) : Value) A111_3 c111_3 [1, 0] (h := by exact ⟨(by (try dsimp only); omega), (.inr rfl)⟩)
  refine go 3 [] ?_
  refine O.callg [.pointer (ofs (bl b3_0) (0))] rfl en21 rfl rfl (String_fn (l := fmtL (l.take k)) w_l5 hM_l5.size (hM_l5.builder 1 0 rfl rfl (by exact hi1_l5))) ?_
  rintro _ w13_0 ⟨rfl, hB13_0⟩
  have hM13_0 : Mem w w13_0 [] [] := mem_below hM_l5 hB13_0
  refine E1 3 [] (S (fmtL (l.take k))) ?_
  exact ⟨(congrArg S (by rw [fmtR_yes hv, take_all (by omega)])), (Mem.none hM13_0)⟩
end Go.Proofs.YtemejgglbhjodaaDoor
end
section
namespace Go.Proofs.YtemejgglbhjodaaDoor
open Go.Px
theorem mf51 : ManyF Tryd.prog 51 [.int .i64 0, .slice none 0 0, .bool false, .bool false, .bool false, .bool false, .bool false, .bool false, .bool false, .bool false, .bool false, .bool false, .bool false, .bool false, .bool false, .bool false, .bool false, .bool false, .int .i64 0] [(0, 2), (2, 16), (18, 1)] := ManyF.of (z := .agg #[.int .i64 0, .slice none 0 0, .bool false, .bool false, .bool false, .bool false, .bool false, .bool false, .bool false, .bool false, .bool false, .bool false, .bool false, .bool false, .bool false, .bool false, .bool false, .bool false, .int .i64 0]) (by kernel_rfl) rfl (by kernel_rfl)
instance ienl_encPg : EnL encPg 3 := ⟨encPg_len⟩
end Go.Proofs.YtemejgglbhjodaaDoor
end
section
namespace Go.Proofs.YtemejgglbhjodaaDoor
open Go.Px
theorem filledRight_fn (b : Nat) (at0 : Int) (T : TreeL) (s : List Int) (ld : Int) (w : World) (hNT : TrN w T) (hOT : TrO T [some b]) (hM : Mem w w [some b] [[⟨.slice (bl b) 1 1, 51, 19, 1, ckC T s ld⟩]]) (hs : SzT T) (hat : 0 ≤ at0 ∧ at0 < ((T).l.length : Int)) :
    Does Tryd.prog 49 [.pointer (ofs (bl b) (0)), I (at0)] w (fun v w1 => v = .bool (frB (T).t at0) ∧ Mem w w1 [some b] [[⟨.slice (bl b) 1 1, 51, 19, 1, ckC T s ld⟩]]) := by
  refine Does.n1 Tryd.func49 rfl Tryd.results49 Tryd.ntmps49 rfl ?_
  refine ov 10 [] (s := Vl ((T).A) ((T).l.length) ((T).cp)) (a := by exact cv (Ru.load1 el23 rfl ((hM.rd 0 rfl).ld (k := 1) rfl)) rfl) (b := ?_)
  have hx1_6 : (at0).toNat < ((T).l).length := (by first | omega | (simp; omega))
  refine ov 1 [] (a := kixF hx1_6 (hNT.atR hM hOT).1) (b := ?_)
  refine ov 0 [] (a := kldN hx1_6 (hNT.atR hM hOT).1) (b := ?_)
  have hgp : gP (T).t at0 = (((T).l[(at0).toNat]'hx1_6)).t := gP_at rfl hx1_6
  have hsz := hs.at hx1_6
  refine Al 0 [] fun w1_8 b1_8 hb1_8 hM1_8 => ?_
  refine Sb 0 [] 0 fun w1_9 hM1_9 => ?_
  refine pp 9 [0] 20 (fun g20 => ?_) (fun g20 => ?_)
  · refine E1 12 [] (.bool (false)) ?_
    exact ⟨(by rw [frB_L, hgp]; first | rw [fr_n1 (by show ¬ ((((T).l[(at0).toNat]'hx1_6)).k.l).length ≤ 4; omega)] | rw [fr_n2 (show validK (((T).l[(at0).toNat]'hx1_6)).t.keys = false from (show validK ((((T).l[(at0).toNat]'hx1_6)).k.l) = false from (by simpa using c25)))]), (hM1_9.pk [1])⟩
  refine cq 2 [0] (vs := [.slice ((((T).l)[(at0).toNat]'hx1_6).k.A) (((((T).l)[(at0).toNat]'hx1_6).k.l).length) ((((T).l)[(at0).toNat]'hx1_6).k.cp)]) (hvs := (by first | rfl | (rw [show ((((T).l)[(at0).toNat]'hx1_6).k.l).length = (((T).l)[(at0).toNat]'hx1_6).k.l.length from (by first | rfl | (simp; done) | omega | (simp; omega))]; rfl))) (b := ValidKeys_fn ((((T).l)[(at0).toNat]'hx1_6).k.A) ((((T).l)[(at0).toNat]'hx1_6).k.cp) ((((T).l)[(at0).toNat]'hx1_6).k.l) w1_9 (((hNT.atR hM1_9 hOT)).2.get hx1_6).1 qo) (c := ?_)
  rintro _ w2_7 ⟨rfl, hR2_7⟩
  have hM2_7 := hM1_9.cl 0 hR2_7
  refine cn 3 [] (fun c25 => ?_) (fun c25 => ?_)
  · refine E1 5 [] (.bool (false)) ?_
    exact ⟨(by rw [frB_L, hgp]; first | rw [fr_n1 (by show ¬ ((((T).l[(at0).toNat]'hx1_6)).k.l).length ≤ 4; omega)] | rw [fr_n2 (show validK (((T).l[(at0).toNat]'hx1_6)).t.keys = false from (show validK ((((T).l[(at0).toNat]'hx1_6)).k.l) = false from (by simpa using c25)))]), (hM2_7.pk [1])⟩
  have hvk : validK (((T).l[(at0).toNat]'hx1_6)).k.l = true := by simpa using c25
  refine ov 9 [] (s := Vi ((T).root)) (a := by exact cv (Ru.load1 el3 rfl ((hM2_7.rd 1 rfl).ld (k := 0) rfl)) rfl) (b := ?_)
  refine pp 2 [] 33 (fun g33 => ?_) (fun g33 => ?_)
  · refine cd 6 [0] (fun c38 => ?_) (fun c38 => ?_)
    · refine E1 5 [] (.bool (false)) ?_
      exact ⟨(by rw [frB_L, hgp, fr_n3 (root := (T).t.root) g33 (by show ¬ 2 ≤ ((((T).l[(at0).toNat]'hx1_6)).k.l).length; omega)]), (hM2_7.pk [1])⟩
    have hr : at0 = (T).t.root ∨ 2 ≤ (((T).l[(at0).toNat]'hx1_6)).t.keys.length := by first | (left; exact Classical.not_not.1 g33) | (left; simpa using g33) | (right; show 2 ≤ ((((T).l[(at0).toNat]'hx1_6)).k.l).length; omega)
    refine cd 9 [0] (fun c42 => ?_) (fun c42 => ?_)
    · refine pp 7 [0] 47 (fun g47 => ?_) (fun g47 => ?_)
      · refine pp 6 [0] 53 (fun g53 => ?_) (fun g53 => ?_)
        · refine ov 6 [0, 0] (a := kaddN ((((T).l)[(at0).toNat]'hx1_6).k.l.length + 1)) (b := ?_)
          refine E1 5 [] (.bool (decide ((((((T).l)[(at0).toNat]'hx1_6).c.l.length : Nat) : Int) = ((((((T).l)[(at0).toNat]'hx1_6).k.l.length + 1) : Nat) : Int)))) ?_
          exact ⟨(by rw [frB_L, hgp, fr_yi' (show (((T).l[(at0).toNat]'hx1_6)).t.keys.length ≤ 4 from (by show ((((T).l[(at0).toNat]'hx1_6)).k.l).length ≤ 4; omega)) (show validK (((T).l[(at0).toNat]'hx1_6)).t.keys = true from hvk) hr (by show 0 < (((T).l[(at0).toNat]'hx1_6)).c.l.length; omega) (vl := ((((T).l[(at0).toNat]'hx1_6)).v.l).length) (kl := ((((T).l[(at0).toNat]'hx1_6)).k.l).length) (cl := (((T).l[(at0).toNat]'hx1_6)).c.l.length) rfl rfl rfl]; refine congrArg Value.bool ?_; rw [Bool.eq_iff_iff]; simp only [Bool.and_eq_true, decide_eq_true_eq, reduceCtorEq, true_iff, false_iff]; omega), (hM2_7.pk [1])⟩
        refine E1 12 [] (.bool (false)) ?_
        exact ⟨(by rw [frB_L, hgp, fr_yi' (show (((T).l[(at0).toNat]'hx1_6)).t.keys.length ≤ 4 from (by show ((((T).l[(at0).toNat]'hx1_6)).k.l).length ≤ 4; omega)) (show validK (((T).l[(at0).toNat]'hx1_6)).t.keys = true from hvk) hr (by show 0 < (((T).l[(at0).toNat]'hx1_6)).c.l.length; omega) (vl := ((((T).l[(at0).toNat]'hx1_6)).v.l).length) (kl := ((((T).l[(at0).toNat]'hx1_6)).k.l).length) (cl := (((T).l[(at0).toNat]'hx1_6)).c.l.length) rfl rfl rfl]; refine congrArg Value.bool ?_; rw [Bool.eq_iff_iff]; simp only [Bool.and_eq_true, decide_eq_true_eq, reduceCtorEq, true_iff, false_iff]; omega), (hM2_7.pk [1])⟩
      refine E1 18 [] (.bool (false)) ?_
      exact ⟨(by rw [frB_L, hgp, fr_yi' (show (((T).l[(at0).toNat]'hx1_6)).t.keys.length ≤ 4 from (by show ((((T).l[(at0).toNat]'hx1_6)).k.l).length ≤ 4; omega)) (show validK (((T).l[(at0).toNat]'hx1_6)).t.keys = true from hvk) hr (by show 0 < (((T).l[(at0).toNat]'hx1_6)).c.l.length; omega) (vl := ((((T).l[(at0).toNat]'hx1_6)).v.l).length) (kl := ((((T).l[(at0).toNat]'hx1_6)).k.l).length) (cl := (((T).l[(at0).toNat]'hx1_6)).c.l.length) rfl rfl rfl]; refine congrArg Value.bool ?_; rw [Bool.eq_iff_iff]; simp only [Bool.and_eq_true, decide_eq_true_eq, reduceCtorEq, true_iff, false_iff]; omega), (hM2_7.pk [1])⟩
    refine cd 12 [0, 0] (fun c69 => ?_) (fun c69 => ?_)
    · refine E1 5 [] (.bool (false)) ?_
      exact ⟨(by rw [frB_L, hgp, fr_yl' (show (((T).l[(at0).toNat]'hx1_6)).t.keys.length ≤ 4 from (by show ((((T).l[(at0).toNat]'hx1_6)).k.l).length ≤ 4; omega)) (show validK (((T).l[(at0).toNat]'hx1_6)).t.keys = true from hvk) hr (by show (((T).l[(at0).toNat]'hx1_6)).c.l.length = 0; omega) (V := (((T).l[(at0).toNat]'hx1_6)).v.l) (kl := ((((T).l[(at0).toNat]'hx1_6)).k.l).length) rfl rfl]; refine congrArg Value.bool (Eq.symm ?_); rw [Bool.and_eq_false_iff]; left; exact decide_eq_false (by omega)), (hM2_7.pk [1])⟩
    refine lp1 10 [0] (fun (k : Nat) => ([(73, Vi (((k : Nat) : Int)))] : List (Nat × SV))) (fun (k : Nat) => (k ≤ ((((T).l[(at0).toNat]'hx1_6)).v.l).length) ∧ ((((((T).l[(at0).toNat]'hx1_6)).v.l).take k).all isValB = true)) (fun (k : Nat) => []) (fun (k : Nat) => ((((T).l[(at0).toNat]'hx1_6)).v.l).length - k) [71, 72] [] [0, 1] 0 (fun k σ w_l11 hI hM_l11 => ?_) (h0 := ⟨(Nat.zero_le _), (by (try dsimp only); simp)⟩)
    obtain ⟨hi0_l11, hi1_l11⟩ := hI
    refine cd 5 [] (fun c74 => ?_) (fun c74 => ?_)
    · have hx12_0 : k < ((((T).l)[(at0).toNat]'hx1_6).v.l).length := (by first | omega | (simp; omega))
      refine ov 5 [] (a := kixM hx12_0 (((hNT.atR hM_l11 hOT)).2.get hx1_6).2.2) (b := ?_)
      refine ov 0 [] (a := kldM hx12_0 (((hNT.atR hM_l11 hOT)).2.get hx1_6).2.2) (b := ?_)
      refine cp 5 [] (b := isValue_fn _ w_l11 ) (c := fun w13_1 hM13_1 => ?_)
      refine cn 2 [] (fun c79 => ?_) (fun c79 => ?_)
      · refine E1 5 [] (.bool (false)) ?_
        exact ⟨(by rw [frB_L, hgp, fr_yl' (show (((T).l[(at0).toNat]'hx1_6)).t.keys.length ≤ 4 from (by show ((((T).l[(at0).toNat]'hx1_6)).k.l).length ≤ 4; omega)) (show validK (((T).l[(at0).toNat]'hx1_6)).t.keys = true from hvk) hr (by show (((T).l[(at0).toNat]'hx1_6)).c.l.length = 0; omega) (V := (((T).l[(at0).toNat]'hx1_6)).v.l) (kl := ((((T).l[(at0).toNat]'hx1_6)).k.l).length) rfl rfl]; refine congrArg Value.bool (Eq.symm ?_); rw [Bool.and_eq_false_iff]; right; exact all_no hx12_0 (by simpa using c79)), (hM13_1.pk [1])⟩
      refine ov 2 [] (a := kaddN (k + 1)) (b := ?_)
      exact le1 2 [] (k + 1) [0, 1] (h := by exact ⟨(by (try dsimp only); omega), (all_keep hx12_0 hi1_l11 (by simpa using c79))⟩)
    refine E1 6 [] (.bool (true)) ?_
    exact ⟨(by rw [frB_L, hgp, fr_yl' (show (((T).l[(at0).toNat]'hx1_6)).t.keys.length ≤ 4 from (by show ((((T).l[(at0).toNat]'hx1_6)).k.l).length ≤ 4; omega)) (show validK (((T).l[(at0).toNat]'hx1_6)).t.keys = true from hvk) hr (by show (((T).l[(at0).toNat]'hx1_6)).c.l.length = 0; omega) (V := (((T).l[(at0).toNat]'hx1_6)).v.l) (kl := ((((T).l[(at0).toNat]'hx1_6)).k.l).length) rfl rfl]; refine congrArg Value.bool (Eq.symm ?_); rw [Bool.and_eq_true]; exact ⟨decide_eq_true (by omega), all_done (by omega) hi1_l11⟩), (hM_l11.pk [1])⟩
  have hr : at0 = (T).t.root ∨ 2 ≤ (((T).l[(at0).toNat]'hx1_6)).t.keys.length := by first | (left; exact Classical.not_not.1 g33) | (left; simpa using g33) | (right; show 2 ≤ ((((T).l[(at0).toNat]'hx1_6)).k.l).length; omega)
  refine cd 16 [0] (fun c42 => ?_) (fun c42 => ?_)
  · refine pp 7 [0] 47 (fun g47 => ?_) (fun g47 => ?_)
    · refine pp 6 [0] 53 (fun g53 => ?_) (fun g53 => ?_)
      · refine ov 6 [0, 0] (a := kaddN ((((T).l)[(at0).toNat]'hx1_6).k.l.length + 1)) (b := ?_)
        refine E1 5 [] (.bool (decide ((((((T).l)[(at0).toNat]'hx1_6).c.l.length : Nat) : Int) = ((((((T).l)[(at0).toNat]'hx1_6).k.l.length + 1) : Nat) : Int)))) ?_
        exact ⟨(by rw [frB_L, hgp, fr_yi' (show (((T).l[(at0).toNat]'hx1_6)).t.keys.length ≤ 4 from (by show ((((T).l[(at0).toNat]'hx1_6)).k.l).length ≤ 4; omega)) (show validK (((T).l[(at0).toNat]'hx1_6)).t.keys = true from hvk) hr (by show 0 < (((T).l[(at0).toNat]'hx1_6)).c.l.length; omega) (vl := ((((T).l[(at0).toNat]'hx1_6)).v.l).length) (kl := ((((T).l[(at0).toNat]'hx1_6)).k.l).length) (cl := (((T).l[(at0).toNat]'hx1_6)).c.l.length) rfl rfl rfl]; refine congrArg Value.bool ?_; rw [Bool.eq_iff_iff]; simp only [Bool.and_eq_true, decide_eq_true_eq, reduceCtorEq, true_iff, false_iff]; omega), (hM2_7.pk [1])⟩
      refine E1 12 [] (.bool (false)) ?_
      exact ⟨(by rw [frB_L, hgp, fr_yi' (show (((T).l[(at0).toNat]'hx1_6)).t.keys.length ≤ 4 from (by show ((((T).l[(at0).toNat]'hx1_6)).k.l).length ≤ 4; omega)) (show validK (((T).l[(at0).toNat]'hx1_6)).t.keys = true from hvk) hr (by show 0 < (((T).l[(at0).toNat]'hx1_6)).c.l.length; omega) (vl := ((((T).l[(at0).toNat]'hx1_6)).v.l).length) (kl := ((((T).l[(at0).toNat]'hx1_6)).k.l).length) (cl := (((T).l[(at0).toNat]'hx1_6)).c.l.length) rfl rfl rfl]; refine congrArg Value.bool ?_; rw [Bool.eq_iff_iff]; simp only [Bool.and_eq_true, decide_eq_true_eq, reduceCtorEq, true_iff, false_iff]; omega), (hM2_7.pk [1])⟩
    refine E1 18 [] (.bool (false)) ?_
    exact ⟨(by rw [frB_L, hgp, fr_yi' (show (((T).l[(at0).toNat]'hx1_6)).t.keys.length ≤ 4 from (by show ((((T).l[(at0).toNat]'hx1_6)).k.l).length ≤ 4; omega)) (show validK (((T).l[(at0).toNat]'hx1_6)).t.keys = true from hvk) hr (by show 0 < (((T).l[(at0).toNat]'hx1_6)).c.l.length; omega) (vl := ((((T).l[(at0).toNat]'hx1_6)).v.l).length) (kl := ((((T).l[(at0).toNat]'hx1_6)).k.l).length) (cl := (((T).l[(at0).toNat]'hx1_6)).c.l.length) rfl rfl rfl]; refine congrArg Value.bool ?_; rw [Bool.eq_iff_iff]; simp only [Bool.and_eq_true, decide_eq_true_eq, reduceCtorEq, true_iff, false_iff]; omega), (hM2_7.pk [1])⟩
  refine cd 12 [0, 0] (fun c69 => ?_) (fun c69 => ?_)
  · refine E1 5 [] (.bool (false)) ?_
    exact ⟨(by rw [frB_L, hgp, fr_yl' (show (((T).l[(at0).toNat]'hx1_6)).t.keys.length ≤ 4 from (by show ((((T).l[(at0).toNat]'hx1_6)).k.l).length ≤ 4; omega)) (show validK (((T).l[(at0).toNat]'hx1_6)).t.keys = true from hvk) hr (by show (((T).l[(at0).toNat]'hx1_6)).c.l.length = 0; omega) (V := (((T).l[(at0).toNat]'hx1_6)).v.l) (kl := ((((T).l[(at0).toNat]'hx1_6)).k.l).length) rfl rfl]; refine congrArg Value.bool (Eq.symm ?_); rw [Bool.and_eq_false_iff]; left; exact decide_eq_false (by omega)), (hM2_7.pk [1])⟩
  refine lp1 10 [0] (fun (k : Nat) => ([(73, Vi (((k : Nat) : Int)))] : List (Nat × SV))) (fun (k : Nat) => (k ≤ ((((T).l[(at0).toNat]'hx1_6)).v.l).length) ∧ ((((((T).l[(at0).toNat]'hx1_6)).v.l).take k).all isValB = true)) (fun (k : Nat) => []) (fun (k : Nat) => ((((T).l[(at0).toNat]'hx1_6)).v.l).length - k) [71, 72] [] [0, 1] 0 (fun k σ w_l11 hI hM_l11 => ?_) (h0 := ⟨(Nat.zero_le _), (by (try dsimp only); simp)⟩)
  obtain ⟨hi0_l11, hi1_l11⟩ := hI
  refine cd 5 [] (fun c74 => ?_) (fun c74 => ?_)
  · have hx12_0 : k < ((((T).l)[(at0).toNat]'hx1_6).v.l).length := (by first | omega | (simp; omega))
    refine ov 5 [] (a := kixM hx12_0 (((hNT.atR hM_l11 hOT)).2.get hx1_6).2.2) (b := ?_)
    refine ov 0 [] (a := kldM hx12_0 (((hNT.atR hM_l11 hOT)).2.get hx1_6).2.2) (b := ?_)
    refine cp 5 [] (b := isValue_fn _ w_l11 ) (c := fun w13_1 hM13_1 => ?_)
    refine cn 2 [] (fun c79 => ?_) (fun c79 => ?_)
    · refine E1 5 [] (.bool (false)) ?_
      exact ⟨(by rw [frB_L, hgp, fr_yl' (show (((T).l[(at0).toNat]'hx1_6)).t.keys.length ≤ 4 from (by show ((((T).l[(at0).toNat]'hx1_6)).k.l).length ≤ 4; omega)) (show validK (((T).l[(at0).toNat]'hx1_6)).t.keys = true from hvk) hr (by show (((T).l[(at0).toNat]'hx1_6)).c.l.length = 0; omega) (V := (((T).l[(at0).toNat]'hx1_6)).v.l) (kl := ((((T).l[(at0).toNat]'hx1_6)).k.l).length) rfl rfl]; refine congrArg Value.bool (Eq.symm ?_); rw [Bool.and_eq_false_iff]; right; exact all_no hx12_0 (by simpa using c79)), (hM13_1.pk [1])⟩
    refine ov 2 [] (a := kaddN (k + 1)) (b := ?_)
    exact le1 2 [] (k + 1) [0, 1] (h := by exact ⟨(by (try dsimp only); omega), (all_keep hx12_0 hi1_l11 (by simpa using c79))⟩)
  refine E1 6 [] (.bool (true)) ?_
  exact ⟨(by rw [frB_L, hgp, fr_yl' (show (((T).l[(at0).toNat]'hx1_6)).t.keys.length ≤ 4 from (by show ((((T).l[(at0).toNat]'hx1_6)).k.l).length ≤ 4; omega)) (show validK (((T).l[(at0).toNat]'hx1_6)).t.keys = true from hvk) hr (by show (((T).l[(at0).toNat]'hx1_6)).c.l.length = 0; omega) (V := (((T).l[(at0).toNat]'hx1_6)).v.l) (kl := ((((T).l[(at0).toNat]'hx1_6)).k.l).length) rfl rfl]; refine congrArg Value.bool (Eq.symm ?_); rw [Bool.and_eq_true]; exact ⟨decide_eq_true (by omega), all_done (by omega) hi1_l11⟩), (hM_l11.pk [1])⟩
theorem visit0_fn (b : Nat) (at0 : Int) (dp : Int) (low : Int) (high : Int) (T : TreeL) (s : List Int) (ld : Int) (w : World) (hNT : TrN w T) (hOT : TrO T [some b]) (hM : Mem w w [some b] [[⟨.slice (bl b) 1 1, 51, 19, 1, ckC T s ld⟩]]) (hs : SzT T) (h16 : (T).l.length ≤ 16) (hn : 0 ≤ 3) (hd : dp = 3 - (0 : Int)) :
    Does Tryd.prog 24 [.pointer (ofs (bl b) (0)), I (at0), I (dp), I (low), I (high)] w (fun v w1 => ∃ (s1 : List Int) (l1 : Int), v = .bool ((visT (T).t 0 at0 low high s ld).isSome) ∧ (∀ q, visT (T).t 0 at0 low high s ld = some q → q = (s1, l1)) ∧ Mem w w1 [some b] [[⟨.slice (bl b) 1 1, 51, 19, 1, ckC T s1 l1⟩]]) := by
  refine Does.n1 Tryd.func24 rfl Tryd.results24 Tryd.ntmps24 rfl ?_
  refine pp 10 [] 20 (fun g20 => ?_) (fun g20 => ?_)
  · refine E1 28 [] (.bool (false)) ?_
    exact ⟨s, ld, rfl, (fun q9 hq9 => by cases hq9), (hM.pk [0])⟩
  refine ov 5 [] (s := Vl ((T).A) ((T).l.length) ((T).cp)) (a := by exact cv (Ru.load1 el23 rfl ((hM.rd 0 rfl).ld (k := 1) rfl)) rfl) (b := ?_)
  refine pp 4 [] 30 (fun g30 => ?_) (fun g30 => ?_)
  · refine E1 18 [] (.bool (false)) ?_
    exact ⟨s, ld, rfl, (fun q9 hq9 => by cases hq9), (hM.pk [0])⟩
  refine pp 4 [] 34 (fun g34 => ?_) (fun g34 => ?_)
  · refine E1 14 [] (.bool (false)) ?_
    exact ⟨s, ld, rfl, (fun q9 hq9 => by cases hq9), (hM.pk [0])⟩
  exfalso; omega
set_option maxHeartbeats 2000000 in
theorem visitS_fn (n : Nat) (ih_fn : ∀ (b : Nat) (at0 : Int) (dp : Int) (low : Int) (high : Int) (T : TreeL) (s : List Int) (ld : Int) (w : World) (hNT : TrN w T) (hOT : TrO T [some b]) (hM : Mem w w [some b] [[⟨.slice (bl b) 1 1, 51, 19, 1, ckC T s ld⟩]]) (hs : SzT T) (h16 : (T).l.length ≤ 16) (hn : n ≤ 3) (hd : dp = 3 - (n : Int)), Does Tryd.prog 24 [.pointer (ofs (bl b) (0)), I (at0), I (dp), I (low), I (high)] w (fun v w1 => ∃ (s1 : List Int) (l1 : Int), v = .bool ((visT (T).t n at0 low high s ld).isSome) ∧ (∀ q, visT (T).t n at0 low high s ld = some q → q = (s1, l1)) ∧ Mem w w1 [some b] [[⟨.slice (bl b) 1 1, 51, 19, 1, ckC T s1 l1⟩]])) (b : Nat) (at0 : Int) (dp : Int) (low : Int) (high : Int) (T : TreeL) (s : List Int) (ld : Int) (w : World) (hNT : TrN w T) (hOT : TrO T [some b]) (hM : Mem w w [some b] [[⟨.slice (bl b) 1 1, 51, 19, 1, ckC T s ld⟩]]) (hs : SzT T) (h16 : (T).l.length ≤ 16) (hn : (n + 1) ≤ 3) (hd : dp = 3 - ((n + 1) : Int)) :
    Does Tryd.prog 24 [.pointer (ofs (bl b) (0)), I (at0), I (dp), I (low), I (high)] w (fun v w1 => ∃ (s1 : List Int) (l1 : Int), v = .bool ((visT (T).t (n + 1) at0 low high s ld).isSome) ∧ (∀ q, visT (T).t (n + 1) at0 low high s ld = some q → q = (s1, l1)) ∧ Mem w w1 [some b] [[⟨.slice (bl b) 1 1, 51, 19, 1, ckC T s1 l1⟩]]) := by
  refine Does.n1 Tryd.func24 rfl Tryd.results24 Tryd.ntmps24 rfl ?_
  refine pp 10 [] 20 (fun g20 => ?_) (fun g20 => ?_)
  · refine E1 28 [] (.bool (false)) ?_
    have hno : visT (T).t (n + 1) at0 low high s ld = none := vis_no1 (by first | exact .inr (by assumption) | (left; cases h9 : inT (T).t at0 with | false => rfl | true => (have := inT_t.1 h9; exfalso; omega)))
    exact ⟨s, ld, (by rw [hno]; rfl), (fun q9 hq9 => by rw [hno] at hq9; cases hq9), (hM.pk [0])⟩
  refine ov 5 [] (s := Vl ((T).A) ((T).l.length) ((T).cp)) (a := by exact cv (Ru.load1 el23 rfl ((hM.rd 0 rfl).ld (k := 1) rfl)) rfl) (b := ?_)
  refine pp 4 [] 30 (fun g30 => ?_) (fun g30 => ?_)
  · refine E1 18 [] (.bool (false)) ?_
    have hno : visT (T).t (n + 1) at0 low high s ld = none := vis_no1 (by first | exact .inr (by assumption) | (left; cases h9 : inT (T).t at0 with | false => rfl | true => (have := inT_t.1 h9; exfalso; omega)))
    exact ⟨s, ld, (by rw [hno]; rfl), (fun q9 hq9 => by rw [hno] at hq9; cases hq9), (hM.pk [0])⟩
  refine pp 4 [] 34 (fun g34 => ?_) (fun g34 => ?_)
  · exfalso; omega
  have hx1_21 : 0 ≤ at0 ∧ at0 < 16 := (by omega)
  refine ov 4 [] (s := Vp (bl b) (2 + (at0).toNat)) (a := by exact cv (Ru.indexArrK (j := (at0).toNat) Tryd.underlying49 el4 rfl rfl rfl rfl rfl hx1_21) rfl) (b := ?_)
  refine ov 0 [] (s := Vd (at0 ∈ s)) (a := by exact cv (Ru.load1 el4 rfl ((hM.rd 0 rfl).ld (ck_getI hx1_21))) rfl) (b := ?_)
  refine cd 2 [] (fun c41 => ?_) (fun c41 => ?_)
  · refine E1 5 [] (.bool (false)) ?_
    have hno : visT (T).t (n + 1) at0 low high s ld = none := vis_no1 (by first | exact .inr (by assumption) | (left; cases h9 : inT (T).t at0 with | false => rfl | true => (have := inT_t.1 h9; exfalso; omega)))
    exact ⟨s, ld, (by rw [hno]; rfl), (fun q9 hq9 => by rw [hno] at hq9; cases hq9), (hM.pk [0])⟩
  have hx3_4 : 0 ≤ at0 ∧ at0 < 16 := (by omega)
  refine ov 7 [] (s := Vp (bl b) (2 + (at0).toNat)) (a := by exact cv (Ru.indexArrK (j := (at0).toNat) Tryd.underlying49 el4 rfl rfl rfl rfl rfl hx3_4) rfl) (b := ?_)
  refine sX 0 [] 0 (ckC T (s ++ [at0]) ld) (hk := (by simp [ckC]; omega)) (hq := (ck_setI hx3_4)) (h := fun w3_5 hM3_5 => ?_)
  refine cq 6 [] (b := filledRight_fn _ _ T (s ++ [at0]) (ld) w3_5 (hNT.atR hM3_5 hOT) (TrO.cons (TrO.own hM3_5 hNT hOT 0 rfl) TrO.nil) (hM3_5.fp [0] rfl rfl) q0 qo) (c := ?_)
  rintro _ w4_2 ⟨rfl, hR4_2⟩
  have hM4_2 := hM3_5.cl 1 hR4_2
  refine cn 2 [] (fun c50 => ?_) (fun c50 => ?_)
  · refine E1 5 [] (.bool (false)) ?_
    have hno : visT (T).t (n + 1) at0 low high s ld = none := vis_no2 (.inl (by simpa using c50))
    exact ⟨(s ++ [at0]), (ld), (by rw [hno]; rfl), (fun q9 hq9 => by rw [hno] at hq9; cases hq9), (hM4_2.pk [0])⟩
  have hfb : frB (T).t at0 = true := by simpa using c50
  refine ov 7 [] (s := Vl ((T).A) ((T).l.length) ((T).cp)) (a := by exact cv (Ru.load1 el23 rfl ((hM4_2.rd 0 rfl).ld (k := 1) rfl)) rfl) (b := ?_)
  have hx6_6 : (at0).toNat < ((T).l).length := (by first | omega | (simp; omega))
  refine ov 1 [] (a := kixF hx6_6 (hNT.atR hM4_2 hOT).1) (b := ?_)
  refine ov 0 [] (a := kldN hx6_6 (hNT.atR hM4_2 hOT).1) (b := ?_)
  have hgp : gP (T).t at0 = (((T).l[(at0).toNat]'hx6_6)).t := gP_at rfl hx6_6
  have hsz := hs.at hx6_6
  have hl4 := fr_len hfb
  rw [hgp] at hl4
  simp only [PgL.t] at hl4
  have hki : (gP (T).t at0).kids = (((T).l[(at0).toNat]'hx6_6)).c.l := by rw [hgp]; rfl
  refine Al 0 [] fun w6_8 b6_8 hb6_8 hM6_8 => ?_
  refine Sb 0 [] 0 fun w6_9 hM6_9 => ?_
  refine lp1 10 [0] (fun (k : Nat) => ([(62, Vi (((k : Nat) : Int)))] : List (Nat × SV))) (fun (k : Nat) => (k ≤ ((((T).l[(at0).toNat]'hx6_6)).k.l).length) ∧ ((((((T).l[(at0).toNat]'hx6_6)).k.l).take k).all (fun k9 => decide (low ≤ k9) && decide (k9 < high)) = true)) (fun (k : Nat) => []) (fun (k : Nat) => ((((T).l[(at0).toNat]'hx6_6)).k.l).length - k) [0, 2, 3, 4, 11, 60, 61] [] [0, 1] 0 (fun k σ w_l8 hI hM_l8 => ?_) (h0 := ⟨(Nat.zero_le _), (by (try dsimp only); simp)⟩)
  obtain ⟨hi0_l8, hi1_l8⟩ := hI
  refine cd 5 [] (fun c63 => ?_) (fun c63 => ?_)
  · have hx9_0 : k < ((((T).l)[(at0).toNat]'hx6_6).k.l).length := (by first | omega | (simp; omega))
    refine ov 5 [] (a := kixM hx9_0 (((hNT.atR hM_l8 hOT)).2.get hx6_6).1) (b := ?_)
    refine ov 0 [] (a := kldM hx9_0 (((hNT.atR hM_l8 hOT)).2.get hx6_6).1) (b := ?_)
    refine pp 8 [] 69 (fun g69 => ?_) (fun g69 => ?_)
    · refine E1 11 [] (.bool (false)) ?_
      have hno : visT (T).t (n + 1) at0 low high s ld = none := vis_no2 (.inr (by rw [hgp]; exact kin_bad (show k < (((T).l[(at0).toNat]'hx6_6)).t.keys.length from hx9_0) (by first | (left; assumption) | (right; assumption) | (show ((((T).l[(at0).toNat]'hx6_6)).k.l)[k] < low ∨ ((((T).l[(at0).toNat]'hx6_6)).k.l)[k] ≥ high; omega))))
      exact ⟨(s ++ [at0]), (ld), (by rw [hno]; rfl), (fun q9 hq9 => by rw [hno] at hq9; cases hq9), (hM_l8.pk [1])⟩
    refine cd 5 [] (fun c73 => ?_) (fun c73 => ?_)
    · refine E1 5 [] (.bool (false)) ?_
      have hno : visT (T).t (n + 1) at0 low high s ld = none := vis_no2 (.inr (by rw [hgp]; exact kin_bad (show k < (((T).l[(at0).toNat]'hx6_6)).t.keys.length from hx9_0) (by first | (left; assumption) | (right; assumption) | (show ((((T).l[(at0).toNat]'hx6_6)).k.l)[k] < low ∨ ((((T).l[(at0).toNat]'hx6_6)).k.l)[k] ≥ high; omega))))
      exact ⟨(s ++ [at0]), (ld), (by rw [hno]; rfl), (fun q9 hq9 => by rw [hno] at hq9; cases hq9), (hM_l8.pk [1])⟩
    refine ov 2 [] (a := kaddN (k + 1)) (b := ?_)
    exact le1 2 [] (k + 1) [0, 1] (h := by exact ⟨(by (try dsimp only); omega), (all_keep hx9_0 hi1_l8 (by simp; omega))⟩)
  have hkin : keysIn (gP (T).t at0) low high = true := by rw [hgp]; exact all_done (by show ((((T).l[(at0).toNat]'hx6_6)).k.l).length ≤ k; omega) hi1_l8
  refine cd 9 [0] (fun c78 => ?_) (fun c78 => ?_)
  · have hk0 : (gP (T).t at0).kids = [] := by rw [hki]; exact List.eq_nil_of_length_eq_zero (by omega)
    have hvl := vis_leaf (T := (T).t) (n := n) (low := low) (high := high) (ld := ld) (inT_t.2 (by omega)) c41 hfb (by first | assumption | exact hkin) hk0
    refine ov 6 [] (s := Vi ((ld))) (a := by exact cv (Ru.load1 el3 rfl ((hM_l8.rd 1 rfl).ld (k := 18) rfl)) rfl) (b := ?_)
    refine cd 2 [] (fun c83 => ?_) (fun c83 => ?_)
    · refine sX 5 [] 1 (ckC T (s ++ [at0]) dp) (hk := (by simp [ckC])) (hq := ck_ld) (h := fun w15_4 hM15_4 => ?_)
      refine ov 6 [] (s := Vi (dp)) (a := by exact cv (Ru.load1 el3 rfl ((hM15_4.rd 1 rfl).ld (k := 18) rfl)) rfl) (b := ?_)
      refine ov 1 [] (s := Vb (true)) (a := by exact cv (Ru.congr (v := .bool (decide (dp = dp))) (v' := .bool (true)) (Ru.eql rfl rfl) (congrArg Value.bool (by simp))) rfl) (b := ?_)
      refine E1 3 [] (.bool (true)) ?_
      exact ⟨(s ++ [at0]), dp, (by rw [hvl]; first | (split <;> simp <;> omega) | (rw [if_pos (.inl c83)]; rfl)), (fun q9 hq9 => by rw [hvl] at hq9; split at hq9; (have h8 := Option.some.inj hq9; rw [← h8]; congr 1; omega); cases hq9), (hM15_4.pk [1])⟩
    refine ov 6 [] (s := Vi ((ld))) (a := by exact cv (Ru.load1 el3 rfl ((hM_l8.rd 1 rfl).ld (k := 18) rfl)) rfl) (b := ?_)
    refine E1 5 [] (.bool (decide ((ld) = dp))) ?_
    exact ⟨(s ++ [at0]), (ld), (by rw [hvl]; first | (split <;> simp <;> omega) | (rw [if_pos (.inl c83)]; rfl)), (fun q9 hq9 => by rw [hvl] at hq9; split at hq9; (have h8 := Option.some.inj hq9; rw [← h8]; congr 1; omega); cases hq9), (hM_l8.pk [1])⟩
  have hk0 : (gP (T).t at0).kids ≠ [] := by rw [hki]; intro e9; apply c78; rw [e9]; rfl
  have hvi := vis_in (T := (T).t) (n := n) (low := low) (high := high) (ld := ld) (inT_t.2 (by omega)) c41 hfb (by first | assumption | exact hkin) hk0
  have hkl := (fr_in hfb hk0).2
  rw [hki, hgp] at hkl
  simp only [PgL.t] at hkl
  rw [hki] at hvi
  refine lp3 10 [0] (fun (k : Nat) (s2 : List Int) (l2 : Int) => ([(97, Vi (((k : Nat) : Int)))] : List (Nat × SV))) (fun (k : Nat) (s2 : List Int) (l2 : Int) => (k ≤ ((((T).l[(at0).toNat]'hx6_6)).c.l).length) ∧ (visK (fun k9 x9 s9 l9 => visT (T).t n x9 (lowK (gP (T).t at0) low k9) (highK (gP (T).t at0) high k9) s9 l9) k (((((T).l[(at0).toNat]'hx6_6)).c.l).drop k) s2 l2 = visT (T).t (n + 1) at0 low high s ld)) (fun (k : Nat) (s2 : List Int) (l2 : Int) => [[⟨.slice (bl b) 1 1, 51, 19, 1, ckC T s2 l2⟩]]) (fun (k : Nat) (s2 : List Int) (l2 : Int) => ((((T).l[(at0).toNat]'hx6_6)).c.l).length - k) [0, 2, 3, 4, 11, 95, 96] [1] [0] 0 ((s ++ [at0])) ((ld)) (fun k s2 l2 σ w_l18 hI hM_l18 => ?_) (h0 := ⟨(Nat.zero_le _), (by (try dsimp only); rw [List.drop_zero]; exact hvi.symm)⟩)
  obtain ⟨hi0_l18, hi1_l18⟩ := hI
  refine cd 5 [] (fun c98 => ?_) (fun c98 => ?_)
  · have hx19_1 : k < ((((T).l)[(at0).toNat]'hx6_6).c.l).length := (by first | omega | (simp; omega))
    refine ov 6 [] (a := kixM hx19_1 (((hNT.atR hM_l18 hOT)).2.get hx6_6).2.1) (b := ?_)
    refine ov 0 [] (a := kldM hx19_1 (((hNT.atR hM_l18 hOT)).2.get hx6_6).2.1) (b := ?_)
    refine ct0 10 [] (([(16, Vi (lowK (gP (T).t at0) low k))] : List (Nat × SV))) (True) ([]) [0, 2, 3, 4, 11, 14, 15, 17, 95, 96, 97] [0, 1] ?_ (fun σ w_c105 hI hM_c105 => ?_)
    · refine cd 5 [] (fun c105 => ?_) (fun c105 => ?_)
      · refine ov 4 [1] (a := ksub) (b := ?_)
        have hx22_4 : k - 1 < ((((T).l)[(at0).toNat]'hx6_6).k.l).length := (by first | omega | (simp; omega))
        refine ov 0 [] (a := kixM hx22_4 (((hNT.atR hM_l18 hOT)).2.get hx6_6).1 (h0 := by omega)) (b := ?_)
        refine ov 0 [] (a := kldM hx22_4 (((hNT.atR hM_l18 hOT)).2.get hx6_6).1) (b := ?_)
        exact ce0 2 [] [0, 1] (hL := by exact (Has.cons (I_congr (by rw [hgp]; exact (lowK_pos (by omega) (show k - 1 < (((T).l[(at0).toNat]'hx6_6)).t.keys.length from hx22_4)).symm)) Has.nil)) (h := by exact trivial)
      exact ce0 1 [] [0, 1] (hL := by exact (Has.cons (I_congr (lowK_zero (by omega)).symm) Has.nil)) (h := by exact trivial)
    refine ct0 0 [] (([(17, Vi (highK (gP (T).t at0) high k))] : List (Nat × SV))) (True) ([]) [0, 2, 3, 4, 11, 15, 16, 95, 96, 97] [0, 1] ?_ (fun σ w_c116 hI hM_c116 => ?_)
    · refine cd 8 [1] (fun c116 => ?_) (fun c116 => ?_)
      · have hx24_3 : k < ((((T).l)[(at0).toNat]'hx6_6).k.l).length := (by first | omega | (simp; omega))
        refine ov 4 [1] (a := kixM hx24_3 (((hNT.atR hM_c105 hOT)).2.get hx6_6).1) (b := ?_)
        refine ov 0 [] (a := kldM hx24_3 (((hNT.atR hM_c105 hOT)).2.get hx6_6).1) (b := ?_)
        exact ce0 2 [] [0, 1] (hL := by exact (Has.cons (I_congr (by rw [hgp]; exact (highK_in (show k < (((T).l[(at0).toNat]'hx6_6)).t.keys.length from hx24_3)).symm)) Has.nil)) (h := by exact trivial)
      exact ce0 1 [] [0, 1] (hL := by exact (Has.cons (I_congr (by rw [hgp]; exact (highK_end (show ¬ k < (((T).l[(at0).toNat]'hx6_6)).t.keys.length from (by show ¬ k < ((((T).l[(at0).toNat]'hx6_6)).k.l).length; omega))).symm)) Has.nil)) (h := by exact trivial)
    refine ov 5 [] (a := kadd) (b := ?_)
    refine cq 2 [] (b := ih_fn _ _ _ _ _ T (s2) (l2) w_c116 (hNT.atR hM_c116 hOT) (TrO.cons (TrO.own hM_c116 hNT hOT 0 rfl) TrO.nil) (hM_c116.fp [0] rfl rfl) q0 q0 qo qo) (c := ?_)
    rintro _ w25_6 ⟨s125_6, l125_6, rfl, hv25_6, hR25_6⟩
    have hM25_6 := hM_c116.cl 1 hR25_6
    refine cn 2 [] (fun c129 => ?_) (fun c129 => ?_)
    · have hn1 := vis_none c129
      refine E1 5 [] (.bool (false)) ?_
      have hno : visT (T).t (n + 1) at0 low high s ld = none := by rw [← hi1_l18]; exact visK_no hx19_1 hn1
      exact ⟨s125_6, l125_6, (by rw [hno]; rfl), (fun q9 hq9 => by rw [hno] at hq9; cases hq9), (hM25_6.pk [0])⟩
    have hs1 := vis_some (by simpa using c129) hv25_6
    refine ov 2 [] (a := kaddN (k + 1)) (b := ?_)
    exact le3 2 [] (k + 1) (s125_6) (l125_6) [0, 1] (h := by exact ⟨(by (try dsimp only); omega), (by (try dsimp only); rw [← visK_ok hx19_1 hs1]; exact hi1_l18)⟩)
  refine E1 6 [] (.bool (true)) ?_
  have hve : visT (T).t (n + 1) at0 low high s ld = some (s2, l2) := by rw [← hi1_l18]; exact visK_end (by omega)
  exact ⟨s2, l2, (by rw [hve]; rfl), (fun q9 hq9 => by rw [hve] at hq9; exact (Option.some.inj hq9).symm), (hM_l18.pk [0])⟩
theorem visit_fn : ∀ (n : Nat), ∀ (b : Nat) (at0 : Int) (dp : Int) (low : Int) (high : Int) (T : TreeL) (s : List Int) (ld : Int) (w : World) (hNT : TrN w T) (hOT : TrO T [some b]) (hM : Mem w w [some b] [[⟨.slice (bl b) 1 1, 51, 19, 1, ckC T s ld⟩]]) (hs : SzT T) (h16 : (T).l.length ≤ 16) (hn : n ≤ 3) (hd : dp = 3 - (n : Int)), Does Tryd.prog 24 [.pointer (ofs (bl b) (0)), I (at0), I (dp), I (low), I (high)] w (fun v w1 => ∃ (s1 : List Int) (l1 : Int), v = .bool ((visT (T).t n at0 low high s ld).isSome) ∧ (∀ q, visT (T).t n at0 low high s ld = some q → q = (s1, l1)) ∧ Mem w w1 [some b] [[⟨.slice (bl b) 1 1, 51, 19, 1, ckC T s1 l1⟩]]) := by
  intro n
  induction n with
  | zero => exact visit0_fn
  | succ n ih => exact visitS_fn n ih
theorem ValidTree_fn (T : TreeL) (w : World) (hNT : TrN w T) (hs : SzT T) :
    Does Tryd.prog 9 [.agg #[I ((T).root), .slice ((T).A) ((T).l.length) ((T).cp)]] w (fun v w1 => v = .bool (validT (T).t) ∧ Mem w w1 [] []) := by
  have hM : Mem w w [] [] := Mem.refl
  refine Does.n1 Tryd.func9 rfl Tryd.results9 Tryd.ntmps9 rfl ?_
  refine Bx 2 [] fun w0_0 b0_0 hb0_0 hM0_0 => ?_
  refine pp 10 [0] 9 (fun g9 => ?_) (fun g9 => ?_)
  · refine E1 12 [] (.bool (false)) ?_
    exact ⟨(by rw [validT_len (by rw [pages_len]; omega)]), (Mem.none hM0_0)⟩
  refine cd 6 [0] (fun c14 => ?_) (fun c14 => ?_)
  · refine E1 5 [] (.bool (false)) ?_
    exact ⟨(by rw [validT_len (by rw [pages_len]; omega)]), (Mem.none hM0_0)⟩
  have hpl : 1 ≤ (T).t.pages.length ∧ (T).t.pages.length ≤ 16 := by rw [pages_len]; omega
  refine ov 4 [0] (s := Va [.i ((T).root), .sl ((T).A) ((T).l.length) ((T).cp), .b (false), .b (false), .b (false), .b (false), .b (false), .b (false), .b (false), .b (false), .b (false), .b (false), .b (false), .b (false), .b (false), .b (false), .b (false), .b (false), .i ((-1))]) (a := by exact cv (Ru.buildN (cs := [I ((T).root), .slice ((T).A) ((T).l.length) ((T).cp), .bool (false), .bool (false), .bool (false), .bool (false), .bool (false), .bool (false), .bool (false), .bool (false), .bool (false), .bool (false), .bool (false), .bool (false), .bool (false), .bool (false), .bool (false), .bool (false), I ((-1))]) mf51 rfl (by kernel_rfl)) rfl) (b := ?_)
  refine Al 0 [] fun w3_2 b3_2 hb3_2 hM3_2 => ?_
  refine Sb 0 [] 0 fun w3_3 hM3_3 => ?_
  have hMk1 := hM3_3.reC 0 (ck_nil (T := T) (ld := (-1)))
  refine cq 6 [1] (b := visit_fn 3 _ _ _ _ _ T (([] : List Int)) ((-1)) w3_3 (hNT.at hMk1) (TrO.cons (TrO.old hMk1 hNT 0 rfl) TrO.nil) (hMk1.fp [0] rfl rfl) q0 qo qo (by rfl)) (c := ?_)
  rintro _ w4_2 ⟨s14_2, l14_2, rfl, hv4_2, hR4_2⟩
  have hM4_2 := hMk1.cl 1 hR4_2
  refine cn 2 [] (fun c20 => ?_) (fun c20 => ?_)
  · have hno := vis_none c20
    refine E1 5 [] (.bool (false)) ?_
    exact ⟨(by rw [valid_vis_no hno]), (Mem.none hM4_2)⟩
  have hve := vis_some (by simpa using c20) hv4_2
  refine lp1 10 [1] (fun (k : Nat) => ([(24, Vi (((k : Nat) : Int)))] : List (Nat × SV))) (fun (k : Nat) => (k ≤ (T).l.length) ∧ (∀ j : Nat, j < k → (j : Int) ∈ s14_2)) (fun (k : Nat) => []) (fun (k : Nat) => (T).l.length - k) [3, 23] [] [0, 1] 0 (fun k σ w_l7 hI hM_l7 => ?_) (h0 := ⟨(Nat.zero_le _), (fun j hj => absurd hj (by omega))⟩)
  obtain ⟨hi0_l7, hi1_l7⟩ := hI
  refine cd 5 [] (fun c25 => ?_) (fun c25 => ?_)
  · have hx9_2 : 0 ≤ ((k : Nat) : Int) ∧ ((k : Nat) : Int) < 16 := (by omega)
    refine ov 12 [] (s := Vp (bl b3_2) (2 + (((k : Nat) : Int)).toNat)) (a := by exact cv (Ru.indexArrK (j := (((k : Nat) : Int)).toNat) Tryd.underlying49 el4 rfl rfl rfl rfl rfl hx9_2) rfl) (b := ?_)
    refine ov 0 [] (s := Vd (((k : Nat) : Int) ∈ s14_2)) (a := by exact cv (Ru.load1 el4 rfl ((hM_l7.rd 0 rfl).ld (ck_getI hx9_2))) rfl) (b := ?_)
    refine cd 2 [] (fun c31 => ?_) (fun c31 => ?_)
    · refine E1 5 [] (.bool (false)) ?_
      exact ⟨(by rw [valid_f (i := k) hpl hve (by rw [pages_len]; omega) (by simpa using c31)]), (Mem.none hM_l7)⟩
    refine ov 2 [] (a := kaddN (k + 1)) (b := ?_)
    exact le1 2 [] (k + 1) [0, 1] (h := by exact ⟨(by (try dsimp only); omega), (fun j hj => by rcases Nat.lt_succ_iff_lt_or_eq.1 hj with h | h; exact hi1_l7 j h; subst h; simpa using c31)⟩)
  refine E1 6 [] (.bool (true)) ?_
  exact ⟨(by rw [(valid_vis hpl hve).2 (fun (i9 : Nat) (hi9 : i9 < (T).t.pages.length) => hi1_l7 i9 (by have := pages_len (T := T); omega))]), (Mem.none hM_l7)⟩
end Go.Proofs.YtemejgglbhjodaaDoor
end
section
namespace Go.Proofs.YtemejgglbhjodaaDoor
open Go.Px
theorem heightOf_fn (T : TreeL) (w : World) (hNT : TrN w T) (hs : SzT T) :
    Does Tryd.prog 42 [.agg #[I ((T).root), .slice ((T).A) ((T).l.length) ((T).cp)]] w (fun v w1 => v = I (((heightT (T).t : Nat) : Int)) ∧ Mem w w1 [] []) := by
  have hM : Mem w w [] [] := Mem.refl
  refine Does.n1 Tryd.func42 rfl Tryd.results42 Tryd.ntmps42 rfl ?_
  have hs1 := hs.1
  refine Bx 2 [] fun w0_0 b0_0 hb0_0 hM0_0 => ?_
  refine lp2 14 [0] (fun (n : Nat) (a : Int) => ([(3, Vi (((n : Nat) : Int))), (4, Vi (a))] : List (Nat × SV))) (fun (n : Nat) (a : Int) => (1 ≤ n ∧ n ≤ 4) ∧ (heightT (T).t = n + hgt (T).t (4 - n) a)) (fun (n : Nat) (a : Int) => []) (fun (n : Nat) (a : Int) => 4 - n) [1] [] [0] 1 ((T).root) (fun n a σ w_l3 hI hM_l3 => ?_) (h0 := ⟨(by (try dsimp only); omega), rfl⟩)
  obtain ⟨hi0_l3, hi1_l3⟩ := hI
  refine pp 6 [] 9 (fun g9 => ?_) (fun g9 => ?_)
  · refine ov 4 [0] (a := ksub) (b := ?_)
    refine cp 0 [] (b := inRange_fn _ _ _ w_l3 ) (c := fun w3_8 hM3_8 => ?_)
    refine pt 2 [] 17 (fun g17 => ?_) (fun g17 => ?_)
    · have hin : inT (T).t a = true := inT_t.2 (by simp only [Bool.and_eq_true, decide_eq_true_eq] at g17; omega)
      have hx3_14 : (a).toNat < ((T).l).length := (by have := inT_t.1 hin; omega)
      refine ov 3 [0] (a := kixF hx3_14 (hNT.at hM3_8).1 (h0 := by have := inT_t.1 hin; omega)) (b := ?_)
      have hki : (gP (T).t a).kids = (((T).l[(a).toNat]'hx3_14)).c.l := by rw [gP_at rfl hx3_14]; rfl
      refine ov 0 [] (a := kflF hx3_14 (hNT.at hM3_8).1) (b := ?_)
      refine ov 0 [] (a := kldF hx3_14 (hNT.at hM3_8).1) (b := ?_)
      refine cd 4 [] (fun c26 => ?_) (fun c26 => ?_)
      · have hx4_3 : (a).toNat < ((T).l).length := (by have := inT_t.1 hin; omega)
        refine ov 7 [0] (a := kixF hx4_3 (hNT.at hM3_8).1 (h0 := by have := inT_t.1 hin; omega)) (b := ?_)
        refine ov 0 [] (a := kflF hx4_3 (hNT.at hM3_8).1) (b := ?_)
        refine ov 0 [] (a := kldF hx4_3 (hNT.at hM3_8).1) (b := ?_)
        have hx4_6 : 0 < ((((T).l)[(a).toNat]'hx4_3).c.l).length := (by omega)
        refine ov 0 [] (a := kixM hx4_6 (((hNT.at hM3_8)).2.get hx4_3).2.1) (b := ?_)
        refine ov 0 [] (a := kldM hx4_6 (((hNT.at hM3_8)).2.get hx4_3).2.1) (b := ?_)
        have hgo := hgt_go (T := (T).t) (f := 4 - n - 1) hin (by rw [hki]; intro e9; rw [e9] at hx4_6; simp at hx4_6)
        rw [show 4 - n - 1 + 1 = 4 - n by omega, hki, getD_in hx4_6] at hgo
        refine ov 4 [] (a := kaddN (n + 1)) (b := ?_)
        exact le2 2 [] (n + 1) (((((T).l)[(a).toNat]'hx4_3).c.l)[0]'hx4_6) [0] (h := by exact ⟨(by (try dsimp only); omega), (by (try dsimp only); rw [hgo] at hi1_l3; rw [hi1_l3, show 4 - (n + 1) = 4 - n - 1 by omega]; omega)⟩)
      refine E1 7 [] (I (((n : Nat) : Int))) ?_
      have hz : hgt (T).t (4 - n) a = 0 := by first | (rw [show 4 - n = 0 by omega]; rfl) | exact hgt_stop (.inr (by rw [hki]; exact List.eq_nil_of_length_eq_zero (by omega))) | (refine hgt_stop (.inl ?_); cases h9 : inT (T).t a with | false => rfl | true => (have := inT_t.1 h9; exfalso; simp at g17; omega))
      exact ⟨(I_congr (by rw [hi1_l3, hz]; simp)), (Mem.none hM3_8)⟩
    refine E1 18 [] (I (((n : Nat) : Int))) ?_
    have hz : hgt (T).t (4 - n) a = 0 := by first | (rw [show 4 - n = 0 by omega]; rfl) | exact hgt_stop (.inr (by rw [hki]; exact List.eq_nil_of_length_eq_zero (by omega))) | (refine hgt_stop (.inl ?_); cases h9 : inT (T).t a with | false => rfl | true => (have := inT_t.1 h9; exfalso; simp at g17; omega))
    exact ⟨(I_congr (by rw [hi1_l3, hz]; simp)), (Mem.none hM3_8)⟩
  refine E1 26 [] (I (((n : Nat) : Int))) ?_
  have hz : hgt (T).t (4 - n) a = 0 := by first | (rw [show 4 - n = 0 by omega]; rfl) | exact hgt_stop (.inr (by rw [hki]; exact List.eq_nil_of_length_eq_zero (by omega))) | (refine hgt_stop (.inl ?_); cases h9 : inT (T).t a with | false => rfl | true => (have := inT_t.1 h9; exfalso; simp at g17; omega))
  exact ⟨(I_congr (by rw [hi1_l3, hz]; simp)), (Mem.none hM_l3)⟩
theorem pageFits0_fn : ∀ (T : TreeL) (at0 : Int) (low : Int) (hi : Int) (dp : Int) (w : World) (hNT : TrN w T) (hs : SzT T) (hat : 0 ≤ at0 ∧ at0 < ((T).l.length : Int)) (hd : dp = (0 : Int)) (h1 : 1 ≤ 0) (h3 : 0 ≤ 3), Does Tryd.prog 43 [.agg #[I ((T).root), .slice ((T).A) ((T).l.length) ((T).cp)], I (at0), I (low), I (hi), I (dp)] w (fun v w1 => v = .bool (fitS (T).t 0 at0 low hi) ∧ Mem w w1 [] []) := by
  intro T at0 low hi dp w hNT hs hat hd h1 h3; exact absurd h1 (by omega)
set_option maxHeartbeats 4000000 in
theorem pageFitsS_fn (n : Nat) (ih_fn : ∀ (T : TreeL) (at0 : Int) (low : Int) (hi : Int) (dp : Int) (w : World) (hNT : TrN w T) (hs : SzT T) (hat : 0 ≤ at0 ∧ at0 < ((T).l.length : Int)) (hd : dp = (n : Int)) (h1 : 1 ≤ n) (h3 : n ≤ 3), Does Tryd.prog 43 [.agg #[I ((T).root), .slice ((T).A) ((T).l.length) ((T).cp)], I (at0), I (low), I (hi), I (dp)] w (fun v w1 => v = .bool (fitS (T).t n at0 low hi) ∧ Mem w w1 [] [])) (T : TreeL) (at0 : Int) (low : Int) (hi : Int) (dp : Int) (w : World) (hNT : TrN w T) (hs : SzT T) (hat : 0 ≤ at0 ∧ at0 < ((T).l.length : Int)) (hd : dp = ((n + 1) : Int)) (h1 : 1 ≤ (n + 1)) (h3 : (n + 1) ≤ 3) :
    Does Tryd.prog 43 [.agg #[I ((T).root), .slice ((T).A) ((T).l.length) ((T).cp)], I (at0), I (low), I (hi), I (dp)] w (fun v w1 => v = .bool (fitS (T).t (n + 1) at0 low hi) ∧ Mem w w1 [] []) := by
  have hM : Mem w w [] [] := Mem.refl
  refine Does.n1 Tryd.func43 rfl Tryd.results43 Tryd.ntmps43 rfl ?_
  have hs1 := hs.1
  refine Bx 2 [] fun w0_0 b0_0 hb0_0 hM0_0 => ?_
  have hx1_3 : (at0).toNat < ((T).l).length := (by first | omega | (simp; omega))
  refine ov 7 [0] (a := kixF hx1_3 (hNT.at hM0_0).1) (b := ?_)
  refine ov 0 [] (a := kldN hx1_3 (hNT.at hM0_0).1) (b := ?_)
  have hgp : gP (T).t at0 = (((T).l[(at0).toNat]'hx1_3)).t := gP_at rfl hx1_3
  have hsz := hs.at hx1_3
  have hfl := fit_L (T := (T).t) (d := n) (i := at0) (low := low) (hi := hi)
  rw [hgp] at hfl
  refine Al 0 [] fun w1_5 b1_5 hb1_5 hM1_5 => ?_
  refine Sb 0 [] 0 fun w1_6 hM1_6 => ?_
  refine cq 6 [0] (vs := [.slice ((((T).l)[(at0).toNat]'hx1_3).k.A) (((((T).l)[(at0).toNat]'hx1_3).k.l).length) ((((T).l)[(at0).toNat]'hx1_3).k.cp)]) (hvs := (by first | rfl | (rw [show ((((T).l)[(at0).toNat]'hx1_3).k.l).length = (((T).l)[(at0).toNat]'hx1_3).k.l.length from (by first | rfl | (simp; done) | omega | (simp; omega))]; rfl))) (b := validKeys_fn ((((T).l)[(at0).toNat]'hx1_3).k.A) ((((T).l)[(at0).toNat]'hx1_3).k.cp) ((((T).l)[(at0).toNat]'hx1_3).k.l) w1_6 (((hNT.at hM1_6)).2.get hx1_3).1 qo) (c := ?_)
  rintro _ w2_2 ⟨rfl, hR2_2⟩
  have hM2_2 := hM1_6.cl 0 hR2_2
  refine pt 2 [] 24 (fun g24 => ?_) (fun g24 => ?_)
  · refine E1 32 [] (.bool (false)) ?_
    exact ⟨(by rw [hfl, fit_n1 (show validK (((T).l[(at0).toNat]'hx1_3)).t.keys = false from (show validK ((((T).l[(at0).toNat]'hx1_3)).k.l) = false from (by simpa using g24)))]), (Mem.none hM2_2)⟩
  refine pp 6 [0] 30 (fun g30 => ?_) (fun g30 => ?_)
  · refine E1 26 [] (.bool (false)) ?_
    exact ⟨(by rw [hfl, fit_n2 (by show ¬ ((((T).l[(at0).toNat]'hx1_3)).k.l).length ≤ 4; omega)]), (Mem.none hM2_2)⟩
  refine cq 4 [0] (vs := [.slice ((((T).l)[(at0).toNat]'hx1_3).k.A) (((((T).l)[(at0).toNat]'hx1_3).k.l).length) ((((T).l)[(at0).toNat]'hx1_3).k.cp), I (low), I (hi)]) (hvs := (by first | rfl | (rw [show ((((T).l)[(at0).toNat]'hx1_3).k.l).length = (((T).l)[(at0).toNat]'hx1_3).k.l.length from (by first | rfl | (simp; done) | omega | (simp; omega))]; rfl))) (b := allIn_fn ((((T).l)[(at0).toNat]'hx1_3).k.A) ((((T).l)[(at0).toNat]'hx1_3).k.cp) ((((T).l)[(at0).toNat]'hx1_3).k.l) _ _ w2_2 (((hNT.at hM2_2)).2.get hx1_3).1 qo) (c := ?_)
  rintro _ w2_15 ⟨rfl, hR2_15⟩
  have hM2_15 := hM2_2.cl 0 hR2_15
  refine pt 3 [] 38 (fun g38 => ?_) (fun g38 => ?_)
  · refine E1 18 [] (.bool (false)) ?_
    exact ⟨(by rw [hfl, fit_n3 (show allIn (((T).l[(at0).toNat]'hx1_3)).t.keys low hi = false from (show allIn ((((T).l[(at0).toNat]'hx1_3)).k.l) low hi = false from (by simp only [allIn]; simpa using g38)))]), (Mem.none hM2_15)⟩
  refine pp 5 [1] 43 (fun g43 => ?_) (fun g43 => ?_)
  · refine cd 7 [0] (fun c49 => ?_) (fun c49 => ?_)
    · refine E1 5 [] (.bool (false)) ?_
      exact ⟨(by rw [hfl, fit_n4 (T := (T).t) (show at0 ≠ (T).t.root from g43) (by show ¬ 2 ≤ ((((T).l[(at0).toNat]'hx1_3)).k.l).length; omega)]), (Mem.none hM2_15)⟩
    have hvk : validK (((T).l[(at0).toNat]'hx1_3)).t.keys = true := by show validK ((((T).l[(at0).toNat]'hx1_3)).k.l) = true; simpa using g24
    have h4 : (((T).l[(at0).toNat]'hx1_3)).t.keys.length ≤ 4 := by show ((((T).l[(at0).toNat]'hx1_3)).k.l).length ≤ 4; omega
    have hai : allIn (((T).l[(at0).toNat]'hx1_3)).t.keys low hi = true := by show allIn ((((T).l[(at0).toNat]'hx1_3)).k.l) low hi = true; simp only [allIn]; simpa using g38
    have hr : at0 = (T).t.root ∨ 2 ≤ (((T).l[(at0).toNat]'hx1_3)).t.keys.length := by first | (left; exact Classical.not_not.1 g43) | (left; simpa using g43) | (right; show 2 ≤ ((((T).l[(at0).toNat]'hx1_3)).k.l).length; omega)
    refine cd 7 [] (fun c51 => ?_) (fun c51 => ?_)
    · have hn0 : n = 0 := by omega
      subst hn0
      refine pp 7 [0] 56 (fun g56 => ?_) (fun g56 => ?_)
      · refine pp 9 [0, 0] 65 (fun g65 => ?_) (fun g65 => ?_)
        · refine cq 2 [0] (vs := [.slice ((((T).l)[(at0).toNat]'hx1_3).v.A) (((((T).l)[(at0).toNat]'hx1_3).v.l).length) ((((T).l)[(at0).toNat]'hx1_3).v.cp), I ((-1000)), I (1000)]) (hvs := (by first | rfl | (rw [show ((((T).l)[(at0).toNat]'hx1_3).v.l).length = (((T).l)[(at0).toNat]'hx1_3).v.l.length from (by first | rfl | (simp; done) | omega | (simp; omega))]; rfl))) (b := allIn_fn ((((T).l)[(at0).toNat]'hx1_3).v.A) ((((T).l)[(at0).toNat]'hx1_3).v.cp) ((((T).l)[(at0).toNat]'hx1_3).v.l) _ _ w2_15 (((hNT.at hM2_15)).2.get hx1_3).2.2 qo) (c := ?_)
          rintro _ w5_16 ⟨rfl, hR5_16⟩
          have hM5_16 := hM2_15.cl 0 hR5_16
          refine E1 4 [] (.bool (((((T).l)[(at0).toNat]'hx1_3).v.l).all (fun a => decide ((-1000) ≤ a) && decide (a ≤ 1000)))) ?_
          exact ⟨(by rw [hfl, fit_y0' hvk h4 hai hr (V := (((T).l[(at0).toNat]'hx1_3)).v.l) (kl := ((((T).l[(at0).toNat]'hx1_3)).k.l).length) (cl := ((((T).l[(at0).toNat]'hx1_3)).c.l).length) rfl rfl rfl]; refine congrArg Value.bool ?_; rw [Bool.eq_iff_iff]; simp only [Bool.and_eq_true, decide_eq_true_eq, reduceCtorEq, true_iff, false_iff, allIn]; first | (rintro ⟨⟨h7, h8⟩, _⟩; omega) | exact ⟨fun h9 => ⟨⟨by omega, by omega⟩, h9⟩, fun h9 => h9.2⟩), (Mem.none hM5_16)⟩
        refine E1 7 [] (.bool (false)) ?_
        exact ⟨(by rw [hfl, fit_y0' hvk h4 hai hr (V := (((T).l[(at0).toNat]'hx1_3)).v.l) (kl := ((((T).l[(at0).toNat]'hx1_3)).k.l).length) (cl := ((((T).l[(at0).toNat]'hx1_3)).c.l).length) rfl rfl rfl]; refine congrArg Value.bool ?_; rw [Bool.eq_iff_iff]; simp only [Bool.and_eq_true, decide_eq_true_eq, reduceCtorEq, true_iff, false_iff, allIn]; first | (rintro ⟨⟨h7, h8⟩, _⟩; omega) | exact ⟨fun h9 => ⟨⟨by omega, by omega⟩, h9⟩, fun h9 => h9.2⟩), (Mem.none hM2_15)⟩
      refine E1 16 [] (.bool (false)) ?_
      exact ⟨(by rw [hfl, fit_y0' hvk h4 hai hr (V := (((T).l[(at0).toNat]'hx1_3)).v.l) (kl := ((((T).l[(at0).toNat]'hx1_3)).k.l).length) (cl := ((((T).l[(at0).toNat]'hx1_3)).c.l).length) rfl rfl rfl]; refine congrArg Value.bool ?_; rw [Bool.eq_iff_iff]; simp only [Bool.and_eq_true, decide_eq_true_eq, reduceCtorEq, true_iff, false_iff, allIn]; first | (rintro ⟨⟨h7, h8⟩, _⟩; omega) | exact ⟨fun h9 => ⟨⟨by omega, by omega⟩, h9⟩, fun h9 => h9.2⟩), (Mem.none hM2_15)⟩
    have hn0 : n ≠ 0 := by omega
    refine pp 9 [0] 74 (fun g74 => ?_) (fun g74 => ?_)
    · refine E1 32 [] (.bool (false)) ?_
      exact ⟨(by rw [hfl, fit_no (h0 := hn0) (by left; show ((((T).l[(at0).toNat]'hx1_3)).k.l).length = 0; omega)]), (Mem.none hM2_15)⟩
    refine pp 6 [0] 80 (fun g80 => ?_) (fun g80 => ?_)
    · refine E1 26 [] (.bool (false)) ?_
      exact ⟨(by rw [hfl, fit_no (h0 := hn0) (by right; left; show ((((T).l[(at0).toNat]'hx1_3)).v.l).length ≠ 0; omega)]), (Mem.none hM2_15)⟩
    refine ov 6 [0, 0] (a := kaddN ((((T).l)[(at0).toNat]'hx1_3).k.l.length + 1)) (b := ?_)
    refine pp 3 [] 90 (fun g90 => ?_) (fun g90 => ?_)
    · refine E1 16 [] (.bool (false)) ?_
      exact ⟨(by rw [hfl, fit_no (h0 := hn0) (by right; right; left; show ((((T).l[(at0).toNat]'hx1_3)).c.l).length ≠ ((((T).l[(at0).toNat]'hx1_3)).k.l).length + 1; omega)]), (Mem.none hM2_15)⟩
    refine ov 5 [0, 1] (a := ksub) (b := ?_)
    refine cq 0 [] (vs := [.slice ((((T).l)[(at0).toNat]'hx1_3).c.A) (((((T).l)[(at0).toNat]'hx1_3).c.l).length) ((((T).l)[(at0).toNat]'hx1_3).c.cp), I (0), I (((((T).l.length : Nat) : Int) - 1))]) (hvs := (by first | rfl | (rw [show ((((T).l)[(at0).toNat]'hx1_3).c.l).length = (((T).l)[(at0).toNat]'hx1_3).c.l.length from (by first | rfl | (simp; done) | omega | (simp; omega))]; rfl))) (b := allIn_fn ((((T).l)[(at0).toNat]'hx1_3).c.A) ((((T).l)[(at0).toNat]'hx1_3).c.cp) ((((T).l)[(at0).toNat]'hx1_3).c.l) _ _ w2_15 (((hNT.at hM2_15)).2.get hx1_3).2.1 qo) (c := ?_)
    rintro _ w6_27 ⟨rfl, hR6_27⟩
    have hM6_27 := hM2_15.cl 0 hR6_27
    refine cn 3 [] (fun c99 => ?_) (fun c99 => ?_)
    · refine E1 5 [] (.bool (false)) ?_
      exact ⟨(by rw [hfl, fit_no (h0 := hn0) (by right; right; right; rw [pages_len]; show allIn ((((T).l[(at0).toNat]'hx1_3)).c.l) 0 _ = false; simp only [allIn]; simpa using c99)]), (Mem.none hM6_27)⟩
    have hyd := fit_yd (T := (T).t) (i := at0) hn0 hvk h4 hai hr (by show ((((T).l[(at0).toNat]'hx1_3)).k.l).length ≠ 0; omega) (by show ((((T).l[(at0).toNat]'hx1_3)).v.l).length = 0; omega) (by show ((((T).l[(at0).toNat]'hx1_3)).c.l).length = ((((T).l[(at0).toNat]'hx1_3)).k.l).length + 1; omega) (by rw [pages_len]; show allIn ((((T).l[(at0).toNat]'hx1_3)).c.l) 0 _ = true; simp only [allIn]; simpa using c99)
    have hal : allIn ((((T).l[(at0).toNat]'hx1_3)).c.l) 0 (((T).l.length : Int) - 1) = true := by simp only [allIn]; simpa using c99
    refine lp1 7 [] (fun (k : Nat) => ([(12, Vi (((k : Nat) : Int)))] : List (Nat × SV))) (fun (k : Nat) => (k ≤ ((((T).l[(at0).toNat]'hx1_3)).c.l).length) ∧ ((List.range k).all (fun k9 => fitS (T).t n ((((T).l[(at0).toNat]'hx1_3)).c.l.getD k9 0) (lowK (((T).l[(at0).toNat]'hx1_3)).t low k9) (highK (((T).l[(at0).toNat]'hx1_3)).t (hi + 1) k9 - 1)) = true)) (fun (k : Nat) => []) (fun (k : Nat) => ((((T).l[(at0).toNat]'hx1_3)).c.l).length - k) [2, 3, 4, 5, 11] [] [0, 1] 0 (fun k σ w_l9 hI hM_l9 => ?_) (h0 := ⟨(Nat.zero_le _), rfl⟩)
    obtain ⟨hi0_l9, hi1_l9⟩ := hI
    refine cd 9 [0] (fun c104 => ?_) (fun c104 => ?_)
    · refine ct0 13 [] (([(13, Vi (lowK (((T).l[(at0).toNat]'hx1_3)).t low k))] : List (Nat × SV))) (True) ([]) [2, 3, 4, 5, 11, 12, 14] [0, 1] ?_ (fun σ w_c110 hI hM_c110 => ?_)
      · refine cd 5 [] (fun c110 => ?_) (fun c110 => ?_)
        · refine ov 4 [0] (a := ksub) (b := ?_)
          have hx14_4 : k - 1 < ((((T).l)[(at0).toNat]'hx1_3).k.l).length := (by first | omega | (simp; omega))
          refine ov 0 [] (a := kixM hx14_4 (((hNT.at hM_l9)).2.get hx1_3).1 (h0 := by omega)) (b := ?_)
          refine ov 0 [] (a := kldM hx14_4 (((hNT.at hM_l9)).2.get hx1_3).1) (b := ?_)
          exact ce0 2 [] [0, 1] (hL := by exact (Has.cons (I_congr (lowK_pos (by omega) (show k - 1 < (((T).l[(at0).toNat]'hx1_3)).t.keys.length from hx14_4)).symm) Has.nil)) (h := by exact trivial)
        exact ce0 1 [] [0, 1] (hL := by exact (Has.cons (I_congr (lowK_zero (by omega)).symm) Has.nil)) (h := by exact trivial)
      refine ct0 0 [] (([(14, Vi ((highK (((T).l[(at0).toNat]'hx1_3)).t (hi + 1) k - 1)))] : List (Nat × SV))) (True) ([]) [2, 3, 4, 5, 11, 12, 13] [0, 1] ?_ (fun σ w_c121 hI hM_c121 => ?_)
      · refine cd 8 [0] (fun c121 => ?_) (fun c121 => ?_)
        · have hx16_3 : k < ((((T).l)[(at0).toNat]'hx1_3).k.l).length := (by first | omega | (simp; omega))
          refine ov 4 [0] (a := kixM hx16_3 (((hNT.at hM_c110)).2.get hx1_3).1) (b := ?_)
          have hkb := validK_bd (show validK ((((T).l[(at0).toNat]'hx1_3)).k.l) = true from hvk) hx16_3
          refine ov 0 [] (a := kldM hx16_3 (((hNT.at hM_c110)).2.get hx1_3).1) (b := ?_)
          refine ov 0 [] (a := ksub) (b := ?_)
          exact ce0 2 [] [0, 1] (hL := by exact (Has.cons (I_congr (by rw [highK_in (show k < (((T).l[(at0).toNat]'hx1_3)).t.keys.length from hx16_3)]; rfl)) Has.nil)) (h := by exact trivial)
        exact ce0 1 [] [0, 1] (hL := by exact (Has.cons (I_congr (by rw [highK_end (show ¬ k < (((T).l[(at0).toNat]'hx1_3)).t.keys.length from (by show ¬ k < ((((T).l[(at0).toNat]'hx1_3)).k.l).length; omega))]; omega)) Has.nil)) (h := by exact trivial)
      refine dr 1 [] ?_
      have hx17_4 : k < ((((T).l)[(at0).toNat]'hx1_3).c.l).length := (by first | omega | (simp; omega))
      refine qv 4 [1, 0] (a := by exact fun _ hw2 => kixM hx17_4 (((hNT.at hw2)).2.get hx1_3).2.1) (b := ?_)
      have hrg := allIn_get hal hx17_4
      refine qv 0 [] (a := by exact fun _ hw2 => kldM hx17_4 (((hNT.at hw2)).2.get hx1_3).2.1) (b := ?_)
      refine qv 3 [] (a := by exact fun _ hw2 => ksub) (b := ?_)
      refine qc 0 [] (X := .bool (fitS (T).t n (((((T).l)[(at0).toNat]'hx1_3).c.l)[k]'hx17_4) (lowK (((T).l[(at0).toNat]'hx1_3)).t low k) (highK (((T).l[(at0).toNat]'hx1_3)).t (hi + 1) k - 1))) (b := by exact fun w2 hw2 => (ih_fn T (((((T).l)[(at0).toNat]'hx1_3).c.l)[k]'hx17_4) (lowK (((T).l[(at0).toNat]'hx1_3)).t low k) (highK (((T).l[(at0).toNat]'hx1_3)).t (hi + 1) k - 1) (dp - 1) w2 (hNT.at hw2) q0 qo qo qo qo).mono fun _ _ h => ⟨h.1, Mem.call0 hw2 h.2⟩) (c := ?_)
      refine qn 1 [] fun w17d hM17d => ?_
      refine cn 0 [] (fun c139 => ?_) (fun c139 => ?_)
      · have hf1 : (fun k9 => fitS (T).t n ((((T).l[(at0).toNat]'hx1_3)).c.l.getD k9 0) (lowK (((T).l[(at0).toNat]'hx1_3)).t low k9) (highK (((T).l[(at0).toNat]'hx1_3)).t (hi + 1) k9 - 1)) k = false := by show fitS _ _ _ _ _ = false; rw [getD_in (show k < (((T).l[(at0).toNat]'hx1_3)).c.l.length from hx17_4)]; simpa using c139
        refine E1 5 [] (.bool (false)) ?_
        exact ⟨(by rw [hfl, hyd]; exact congrArg Value.bool (range_bad (p := fun k9 => fitS (T).t n ((((T).l[(at0).toNat]'hx1_3)).c.l.getD k9 0) (lowK (((T).l[(at0).toNat]'hx1_3)).t low k9) (highK (((T).l[(at0).toNat]'hx1_3)).t (hi + 1) k9 - 1)) hx17_4 hf1).symm), (Mem.none hM17d)⟩
      have hf1 : (fun k9 => fitS (T).t n ((((T).l[(at0).toNat]'hx1_3)).c.l.getD k9 0) (lowK (((T).l[(at0).toNat]'hx1_3)).t low k9) (highK (((T).l[(at0).toNat]'hx1_3)).t (hi + 1) k9 - 1)) k = true := by show fitS _ _ _ _ _ = true; rw [getD_in (show k < (((T).l[(at0).toNat]'hx1_3)).c.l.length from hx17_4)]; simpa using c139
      refine ov 3 [] (a := kaddN (k + 1)) (b := ?_)
      exact le1 2 [] (k + 1) [0, 1] (h := by exact ⟨(by (try dsimp only); omega), (range_all hi1_l9 hf1)⟩)
    refine E1 6 [] (.bool (true)) ?_
    exact ⟨(by rw [hfl, hyd, show (((T).l[(at0).toNat]'hx1_3)).t.kids.length = k from (by show ((((T).l[(at0).toNat]'hx1_3)).c.l).length = k; omega)]; exact congrArg Value.bool hi1_l9.symm), (Mem.none hM_l9)⟩
  have hvk : validK (((T).l[(at0).toNat]'hx1_3)).t.keys = true := by show validK ((((T).l[(at0).toNat]'hx1_3)).k.l) = true; simpa using g24
  have h4 : (((T).l[(at0).toNat]'hx1_3)).t.keys.length ≤ 4 := by show ((((T).l[(at0).toNat]'hx1_3)).k.l).length ≤ 4; omega
  have hai : allIn (((T).l[(at0).toNat]'hx1_3)).t.keys low hi = true := by show allIn ((((T).l[(at0).toNat]'hx1_3)).k.l) low hi = true; simp only [allIn]; simpa using g38
  have hr : at0 = (T).t.root ∨ 2 ≤ (((T).l[(at0).toNat]'hx1_3)).t.keys.length := by first | (left; exact Classical.not_not.1 g43) | (left; simpa using g43) | (right; show 2 ≤ ((((T).l[(at0).toNat]'hx1_3)).k.l).length; omega)
  refine cd 15 [] (fun c51 => ?_) (fun c51 => ?_)
  · have hn0 : n = 0 := by omega
    subst hn0
    refine pp 7 [0] 56 (fun g56 => ?_) (fun g56 => ?_)
    · refine pp 9 [0, 0] 65 (fun g65 => ?_) (fun g65 => ?_)
      · refine cq 2 [0] (vs := [.slice ((((T).l)[(at0).toNat]'hx1_3).v.A) (((((T).l)[(at0).toNat]'hx1_3).v.l).length) ((((T).l)[(at0).toNat]'hx1_3).v.cp), I ((-1000)), I (1000)]) (hvs := (by first | rfl | (rw [show ((((T).l)[(at0).toNat]'hx1_3).v.l).length = (((T).l)[(at0).toNat]'hx1_3).v.l.length from (by first | rfl | (simp; done) | omega | (simp; omega))]; rfl))) (b := allIn_fn ((((T).l)[(at0).toNat]'hx1_3).v.A) ((((T).l)[(at0).toNat]'hx1_3).v.cp) ((((T).l)[(at0).toNat]'hx1_3).v.l) _ _ w2_15 (((hNT.at hM2_15)).2.get hx1_3).2.2 qo) (c := ?_)
        rintro _ w5_16 ⟨rfl, hR5_16⟩
        have hM5_16 := hM2_15.cl 0 hR5_16
        refine E1 4 [] (.bool (((((T).l)[(at0).toNat]'hx1_3).v.l).all (fun a => decide ((-1000) ≤ a) && decide (a ≤ 1000)))) ?_
        exact ⟨(by rw [hfl, fit_y0' hvk h4 hai hr (V := (((T).l[(at0).toNat]'hx1_3)).v.l) (kl := ((((T).l[(at0).toNat]'hx1_3)).k.l).length) (cl := ((((T).l[(at0).toNat]'hx1_3)).c.l).length) rfl rfl rfl]; refine congrArg Value.bool ?_; rw [Bool.eq_iff_iff]; simp only [Bool.and_eq_true, decide_eq_true_eq, reduceCtorEq, true_iff, false_iff, allIn]; first | (rintro ⟨⟨h7, h8⟩, _⟩; omega) | exact ⟨fun h9 => ⟨⟨by omega, by omega⟩, h9⟩, fun h9 => h9.2⟩), (Mem.none hM5_16)⟩
      refine E1 7 [] (.bool (false)) ?_
      exact ⟨(by rw [hfl, fit_y0' hvk h4 hai hr (V := (((T).l[(at0).toNat]'hx1_3)).v.l) (kl := ((((T).l[(at0).toNat]'hx1_3)).k.l).length) (cl := ((((T).l[(at0).toNat]'hx1_3)).c.l).length) rfl rfl rfl]; refine congrArg Value.bool ?_; rw [Bool.eq_iff_iff]; simp only [Bool.and_eq_true, decide_eq_true_eq, reduceCtorEq, true_iff, false_iff, allIn]; first | (rintro ⟨⟨h7, h8⟩, _⟩; omega) | exact ⟨fun h9 => ⟨⟨by omega, by omega⟩, h9⟩, fun h9 => h9.2⟩), (Mem.none hM2_15)⟩
    refine E1 16 [] (.bool (false)) ?_
    exact ⟨(by rw [hfl, fit_y0' hvk h4 hai hr (V := (((T).l[(at0).toNat]'hx1_3)).v.l) (kl := ((((T).l[(at0).toNat]'hx1_3)).k.l).length) (cl := ((((T).l[(at0).toNat]'hx1_3)).c.l).length) rfl rfl rfl]; refine congrArg Value.bool ?_; rw [Bool.eq_iff_iff]; simp only [Bool.and_eq_true, decide_eq_true_eq, reduceCtorEq, true_iff, false_iff, allIn]; first | (rintro ⟨⟨h7, h8⟩, _⟩; omega) | exact ⟨fun h9 => ⟨⟨by omega, by omega⟩, h9⟩, fun h9 => h9.2⟩), (Mem.none hM2_15)⟩
  have hn0 : n ≠ 0 := by omega
  refine pp 9 [0] 74 (fun g74 => ?_) (fun g74 => ?_)
  · refine E1 32 [] (.bool (false)) ?_
    exact ⟨(by rw [hfl, fit_no (h0 := hn0) (by left; show ((((T).l[(at0).toNat]'hx1_3)).k.l).length = 0; omega)]), (Mem.none hM2_15)⟩
  refine pp 6 [0] 80 (fun g80 => ?_) (fun g80 => ?_)
  · refine E1 26 [] (.bool (false)) ?_
    exact ⟨(by rw [hfl, fit_no (h0 := hn0) (by right; left; show ((((T).l[(at0).toNat]'hx1_3)).v.l).length ≠ 0; omega)]), (Mem.none hM2_15)⟩
  refine ov 6 [0, 0] (a := kaddN ((((T).l)[(at0).toNat]'hx1_3).k.l.length + 1)) (b := ?_)
  refine pp 3 [] 90 (fun g90 => ?_) (fun g90 => ?_)
  · refine E1 16 [] (.bool (false)) ?_
    exact ⟨(by rw [hfl, fit_no (h0 := hn0) (by right; right; left; show ((((T).l[(at0).toNat]'hx1_3)).c.l).length ≠ ((((T).l[(at0).toNat]'hx1_3)).k.l).length + 1; omega)]), (Mem.none hM2_15)⟩
  refine ov 5 [0, 1] (a := ksub) (b := ?_)
  refine cq 0 [] (vs := [.slice ((((T).l)[(at0).toNat]'hx1_3).c.A) (((((T).l)[(at0).toNat]'hx1_3).c.l).length) ((((T).l)[(at0).toNat]'hx1_3).c.cp), I (0), I (((((T).l.length : Nat) : Int) - 1))]) (hvs := (by first | rfl | (rw [show ((((T).l)[(at0).toNat]'hx1_3).c.l).length = (((T).l)[(at0).toNat]'hx1_3).c.l.length from (by first | rfl | (simp; done) | omega | (simp; omega))]; rfl))) (b := allIn_fn ((((T).l)[(at0).toNat]'hx1_3).c.A) ((((T).l)[(at0).toNat]'hx1_3).c.cp) ((((T).l)[(at0).toNat]'hx1_3).c.l) _ _ w2_15 (((hNT.at hM2_15)).2.get hx1_3).2.1 qo) (c := ?_)
  rintro _ w6_27 ⟨rfl, hR6_27⟩
  have hM6_27 := hM2_15.cl 0 hR6_27
  refine cn 3 [] (fun c99 => ?_) (fun c99 => ?_)
  · refine E1 5 [] (.bool (false)) ?_
    exact ⟨(by rw [hfl, fit_no (h0 := hn0) (by right; right; right; rw [pages_len]; show allIn ((((T).l[(at0).toNat]'hx1_3)).c.l) 0 _ = false; simp only [allIn]; simpa using c99)]), (Mem.none hM6_27)⟩
  have hyd := fit_yd (T := (T).t) (i := at0) hn0 hvk h4 hai hr (by show ((((T).l[(at0).toNat]'hx1_3)).k.l).length ≠ 0; omega) (by show ((((T).l[(at0).toNat]'hx1_3)).v.l).length = 0; omega) (by show ((((T).l[(at0).toNat]'hx1_3)).c.l).length = ((((T).l[(at0).toNat]'hx1_3)).k.l).length + 1; omega) (by rw [pages_len]; show allIn ((((T).l[(at0).toNat]'hx1_3)).c.l) 0 _ = true; simp only [allIn]; simpa using c99)
  have hal : allIn ((((T).l[(at0).toNat]'hx1_3)).c.l) 0 (((T).l.length : Int) - 1) = true := by simp only [allIn]; simpa using c99
  refine lp1 7 [] (fun (k : Nat) => ([(12, Vi (((k : Nat) : Int)))] : List (Nat × SV))) (fun (k : Nat) => (k ≤ ((((T).l[(at0).toNat]'hx1_3)).c.l).length) ∧ ((List.range k).all (fun k9 => fitS (T).t n ((((T).l[(at0).toNat]'hx1_3)).c.l.getD k9 0) (lowK (((T).l[(at0).toNat]'hx1_3)).t low k9) (highK (((T).l[(at0).toNat]'hx1_3)).t (hi + 1) k9 - 1)) = true)) (fun (k : Nat) => []) (fun (k : Nat) => ((((T).l[(at0).toNat]'hx1_3)).c.l).length - k) [2, 3, 4, 5, 11] [] [0, 1] 0 (fun k σ w_l9 hI hM_l9 => ?_) (h0 := ⟨(Nat.zero_le _), rfl⟩)
  obtain ⟨hi0_l9, hi1_l9⟩ := hI
  refine cd 9 [0] (fun c104 => ?_) (fun c104 => ?_)
  · refine ct0 13 [] (([(13, Vi (lowK (((T).l[(at0).toNat]'hx1_3)).t low k))] : List (Nat × SV))) (True) ([]) [2, 3, 4, 5, 11, 12, 14] [0, 1] ?_ (fun σ w_c110 hI hM_c110 => ?_)
    · refine cd 5 [] (fun c110 => ?_) (fun c110 => ?_)
      · refine ov 4 [0] (a := ksub) (b := ?_)
        have hx14_4 : k - 1 < ((((T).l)[(at0).toNat]'hx1_3).k.l).length := (by first | omega | (simp; omega))
        refine ov 0 [] (a := kixM hx14_4 (((hNT.at hM_l9)).2.get hx1_3).1 (h0 := by omega)) (b := ?_)
        refine ov 0 [] (a := kldM hx14_4 (((hNT.at hM_l9)).2.get hx1_3).1) (b := ?_)
        exact ce0 2 [] [0, 1] (hL := by exact (Has.cons (I_congr (lowK_pos (by omega) (show k - 1 < (((T).l[(at0).toNat]'hx1_3)).t.keys.length from hx14_4)).symm) Has.nil)) (h := by exact trivial)
      exact ce0 1 [] [0, 1] (hL := by exact (Has.cons (I_congr (lowK_zero (by omega)).symm) Has.nil)) (h := by exact trivial)
    refine ct0 0 [] (([(14, Vi ((highK (((T).l[(at0).toNat]'hx1_3)).t (hi + 1) k - 1)))] : List (Nat × SV))) (True) ([]) [2, 3, 4, 5, 11, 12, 13] [0, 1] ?_ (fun σ w_c121 hI hM_c121 => ?_)
    · refine cd 8 [0] (fun c121 => ?_) (fun c121 => ?_)
      · have hx16_3 : k < ((((T).l)[(at0).toNat]'hx1_3).k.l).length := (by first | omega | (simp; omega))
        refine ov 4 [0] (a := kixM hx16_3 (((hNT.at hM_c110)).2.get hx1_3).1) (b := ?_)
        have hkb := validK_bd (show validK ((((T).l[(at0).toNat]'hx1_3)).k.l) = true from hvk) hx16_3
        refine ov 0 [] (a := kldM hx16_3 (((hNT.at hM_c110)).2.get hx1_3).1) (b := ?_)
        refine ov 0 [] (a := ksub) (b := ?_)
        exact ce0 2 [] [0, 1] (hL := by exact (Has.cons (I_congr (by rw [highK_in (show k < (((T).l[(at0).toNat]'hx1_3)).t.keys.length from hx16_3)]; rfl)) Has.nil)) (h := by exact trivial)
      exact ce0 1 [] [0, 1] (hL := by exact (Has.cons (I_congr (by rw [highK_end (show ¬ k < (((T).l[(at0).toNat]'hx1_3)).t.keys.length from (by show ¬ k < ((((T).l[(at0).toNat]'hx1_3)).k.l).length; omega))]; omega)) Has.nil)) (h := by exact trivial)
    refine dr 1 [] ?_
    have hx17_4 : k < ((((T).l)[(at0).toNat]'hx1_3).c.l).length := (by first | omega | (simp; omega))
    refine qv 4 [1, 0] (a := by exact fun _ hw2 => kixM hx17_4 (((hNT.at hw2)).2.get hx1_3).2.1) (b := ?_)
    have hrg := allIn_get hal hx17_4
    refine qv 0 [] (a := by exact fun _ hw2 => kldM hx17_4 (((hNT.at hw2)).2.get hx1_3).2.1) (b := ?_)
    refine qv 3 [] (a := by exact fun _ hw2 => ksub) (b := ?_)
    refine qc 0 [] (X := .bool (fitS (T).t n (((((T).l)[(at0).toNat]'hx1_3).c.l)[k]'hx17_4) (lowK (((T).l[(at0).toNat]'hx1_3)).t low k) (highK (((T).l[(at0).toNat]'hx1_3)).t (hi + 1) k - 1))) (b := by exact fun w2 hw2 => (ih_fn T (((((T).l)[(at0).toNat]'hx1_3).c.l)[k]'hx17_4) (lowK (((T).l[(at0).toNat]'hx1_3)).t low k) (highK (((T).l[(at0).toNat]'hx1_3)).t (hi + 1) k - 1) (dp - 1) w2 (hNT.at hw2) q0 qo qo qo qo).mono fun _ _ h => ⟨h.1, Mem.call0 hw2 h.2⟩) (c := ?_)
    refine qn 1 [] fun w17d hM17d => ?_
    refine cn 0 [] (fun c139 => ?_) (fun c139 => ?_)
    · have hf1 : (fun k9 => fitS (T).t n ((((T).l[(at0).toNat]'hx1_3)).c.l.getD k9 0) (lowK (((T).l[(at0).toNat]'hx1_3)).t low k9) (highK (((T).l[(at0).toNat]'hx1_3)).t (hi + 1) k9 - 1)) k = false := by show fitS _ _ _ _ _ = false; rw [getD_in (show k < (((T).l[(at0).toNat]'hx1_3)).c.l.length from hx17_4)]; simpa using c139
      refine E1 5 [] (.bool (false)) ?_
      exact ⟨(by rw [hfl, hyd]; exact congrArg Value.bool (range_bad (p := fun k9 => fitS (T).t n ((((T).l[(at0).toNat]'hx1_3)).c.l.getD k9 0) (lowK (((T).l[(at0).toNat]'hx1_3)).t low k9) (highK (((T).l[(at0).toNat]'hx1_3)).t (hi + 1) k9 - 1)) hx17_4 hf1).symm), (Mem.none hM17d)⟩
    have hf1 : (fun k9 => fitS (T).t n ((((T).l[(at0).toNat]'hx1_3)).c.l.getD k9 0) (lowK (((T).l[(at0).toNat]'hx1_3)).t low k9) (highK (((T).l[(at0).toNat]'hx1_3)).t (hi + 1) k9 - 1)) k = true := by show fitS _ _ _ _ _ = true; rw [getD_in (show k < (((T).l[(at0).toNat]'hx1_3)).c.l.length from hx17_4)]; simpa using c139
    refine ov 3 [] (a := kaddN (k + 1)) (b := ?_)
    exact le1 2 [] (k + 1) [0, 1] (h := by exact ⟨(by (try dsimp only); omega), (range_all hi1_l9 hf1)⟩)
  refine E1 6 [] (.bool (true)) ?_
  exact ⟨(by rw [hfl, hyd, show (((T).l[(at0).toNat]'hx1_3)).t.kids.length = k from (by show ((((T).l[(at0).toNat]'hx1_3)).c.l).length = k; omega)]; exact congrArg Value.bool hi1_l9.symm), (Mem.none hM_l9)⟩
theorem pageFits_fn : ∀ (n : Nat), ∀ (T : TreeL) (at0 : Int) (low : Int) (hi : Int) (dp : Int) (w : World) (hNT : TrN w T) (hs : SzT T) (hat : 0 ≤ at0 ∧ at0 < ((T).l.length : Int)) (hd : dp = (n : Int)) (h1 : 1 ≤ n) (h3 : n ≤ 3), Does Tryd.prog 43 [.agg #[I ((T).root), .slice ((T).A) ((T).l.length) ((T).cp)], I (at0), I (low), I (hi), I (dp)] w (fun v w1 => v = .bool (fitS (T).t n at0 low hi) ∧ Mem w w1 [] []) := by
  intro n
  induction n with
  | zero => exact pageFits0_fn
  | succ n ih => exact pageFitsS_fn n ih
theorem walk0_fn : ∀ (T : TreeL) (at0 : Int) (lo : Int) (hi : Int) (w : World) (hNT : TrN w T) (hs : SzT T) (hok : okB (T).t 0 at0 lo hi = true) (h3 : 0 ≤ 3), Does Tryd.prog 44 [.agg #[I ((T).root), .slice ((T).A) ((T).l.length) ((T).cp)], I (at0)] w (fun v w1 => ∃ (A1 : Option Addr) (c1 : Nat), v = .slice (A1) (((subT (T).t 0 at0)).length) (c1) ∧ Mem w w1 [] [[⟨.slice (A1) (((subT (T).t 0 at0)).length) (c1), 3, 1, (((subT (T).t 0 at0)).length), ((subT (T).t 0 at0)).map I⟩]]) := by
  intro T at0 lo hi w hNT hs hok h3; simp [okB] at hok
theorem walkS_fn (n : Nat) (ih_fn : ∀ (T : TreeL) (at0 : Int) (lo : Int) (hi : Int) (w : World) (hNT : TrN w T) (hs : SzT T) (hok : okB (T).t n at0 lo hi = true) (h3 : n ≤ 3), Does Tryd.prog 44 [.agg #[I ((T).root), .slice ((T).A) ((T).l.length) ((T).cp)], I (at0)] w (fun v w1 => ∃ (A1 : Option Addr) (c1 : Nat), v = .slice (A1) (((subT (T).t n at0)).length) (c1) ∧ Mem w w1 [] [[⟨.slice (A1) (((subT (T).t n at0)).length) (c1), 3, 1, (((subT (T).t n at0)).length), ((subT (T).t n at0)).map I⟩]])) (T : TreeL) (at0 : Int) (lo : Int) (hi : Int) (w : World) (hNT : TrN w T) (hs : SzT T) (hok : okB (T).t (n + 1) at0 lo hi = true) (h3 : (n + 1) ≤ 3) :
    Does Tryd.prog 44 [.agg #[I ((T).root), .slice ((T).A) ((T).l.length) ((T).cp)], I (at0)] w (fun v w1 => ∃ (A1 : Option Addr) (c1 : Nat), v = .slice (A1) (((subT (T).t (n + 1) at0)).length) (c1) ∧ Mem w w1 [] [[⟨.slice (A1) (((subT (T).t (n + 1) at0)).length) (c1), 3, 1, (((subT (T).t (n + 1) at0)).length), ((subT (T).t (n + 1) at0)).map I⟩]]) := by
  have hM : Mem w w [] [] := Mem.refl
  refine Does.n1 Tryd.func44 rfl Tryd.results44 Tryd.ntmps44 rfl ?_
  have hat := inT_t.1 (okB_in hok)
  have hjx : (at0).toNat < (T).l.length := by omega
  have hki : (gP (T).t at0).kids = ((T).l[(at0).toNat]'hjx).c.l := by rw [gP_at rfl hjx]; rfl
  have hsz := hs.at hjx
  have hsl := sub_len3 hok h3
  have hse : subT (T).t (n + 1) at0 = at0 :: ((T).l[(at0).toNat]'hjx).c.l.flatMap (subT (T).t n) := by simp only [subT]; rw [hki]
  refine Bx 2 [] fun w0_0 b0_0 hb0_0 hM0_0 => ?_
  refine Lt 5 [] (([at0]).map I) (fun w1_1 b1_1 hb1_1 hM1_1 => ?_)
  have hq1 : ([at0] : List Int) = at0 :: ((((T).l[(at0).toNat]'hjx).c.l).take 0).flatMap (subT (T).t n) := (by simp)
  have hMn1 := hM1_1.reM 0 hq1
  refine lp3 8 [] (fun (k : Nat) (A2 : Option Addr) (c2 : Nat) => ([(5, Vl (A2) ((at0 :: ((((T).l[(at0).toNat]'hjx).c.l).take k).flatMap (subT (T).t n)).length) (c2)), (6, Vi (((k : Nat) : Int)))] : List (Nat × SV))) (fun (k : Nat) (A2 : Option Addr) (c2 : Nat) => (k ≤ (((T).l[(at0).toNat]'hjx).c.l).length)) (fun (k : Nat) (A2 : Option Addr) (c2 : Nat) => [[⟨.slice (A2) ((at0 :: ((((T).l[(at0).toNat]'hjx).c.l).take k).flatMap (subT (T).t n)).length) (c2), 3, 1, ((at0 :: ((((T).l[(at0).toNat]'hjx).c.l).take k).flatMap (subT (T).t n)).length), (at0 :: ((((T).l[(at0).toNat]'hjx).c.l).take k).flatMap (subT (T).t n)).map I⟩]]) (fun (k : Nat) (A2 : Option Addr) (c2 : Nat) => (((T).l[(at0).toNat]'hjx).c.l).length - k) [1, 2] [0] [1] 0 (bl b1_1) 1 (fun k A2 c2 σ w_l3 hI hM_l3 => ?_) (h0 := (Nat.zero_le _))
  have hi0_l3 := hI
  have hcl0_l3 := (hM_l3.cap 0 rfl).1
  have hx3_4 : (at0).toNat < ((T).l).length := (by first | omega | (simp; omega))
  refine ov 7 [1] (a := kixF hx3_4 (hNT.at hM_l3).1) (b := ?_)
  refine ov 0 [] (a := kflF hx3_4 (hNT.at hM_l3).1) (b := ?_)
  refine ov 0 [] (a := kldF hx3_4 (hNT.at hM_l3).1) (b := ?_)
  refine cd 3 [] (fun c17 => ?_) (fun c17 => ?_)
  · refine any 3 [] 14 [1] fun w5a hM5a => ?_
    have hx5_5 : (at0).toNat < ((T).l).length := (by first | omega | (simp; omega))
    refine av [0, 1, 2, 3, 4] [0, 0] 5 (a := by exact fun _ hw2 => kixF hx5_5 (hNT.at hM5a).1) (b := ?_)
    refine av [] [] 6 (a := by exact fun _ hw2 => kflF hx5_5 (hNT.at hM5a).1) (b := ?_)
    refine aO [8] [] 7 ?_
    refine ov 0 [] (a := kldF hx5_5 (hNT.at hM5a).1) (b := ?_)
    refine os 0 [] [1] ?_
    have hx5_9 : k < ((((T).l)[(at0).toNat]'hx5_5).c.l).length := (by first | omega | (simp; omega))
    refine av [] [] 9 (a := by exact fun _ hw2 => kixM hx5_9 (((hNT.at hM5a)).2.get hx5_5).2.1) (b := ?_)
    have hok1 := ok_kid hok (k := k) (by rw [hki]; exact hx5_9)
    simp only [hki] at hok1
    have hsl1 := sub_len3 hok1 (by omega)
    have hfs := flat_snoc (f := subT (T).t n) hx5_9
    refine aO [] [] 10 ?_
    refine ov 0 [] (a := kldM hx5_9 (((hNT.at hM5a)).2.get hx5_5).2.1) (b := ?_)
    refine os 0 [] [1] ?_
    refine aO [] [] 11 ?_
    refine cq 0 [] (b := ih_fn T _ _ _ w5a (hNT.at hM5a) q0 (by exact hok1) qo) (c := ?_)
    rintro _ w5_11 ⟨A15_11, c15_11, rfl, hR5_11⟩
    have hM5_11 := hM5a.cl 0 hR5_11
    have hcr5_11_0 := (hM5_11.cap 0 rfl).1
    refine os 0 [] [2] ?_
    refine aO [] [] 12 ?_
    refine aM 0 [] 1 (hM5_11.rd 0 rfl) (fun w5_12 A5_12 c5_12 hc5_12 hM5_12 => ?_) (hn := by have h8 := congrArg List.length hse; have h9 := congrArg List.length hfs; have h7 := flat_le (f := subT (T).t n) hx5_9; simp only [List.length_append, List.length_cons] at h8 h9 h7 ⊢; omega) (hb := by have h8 := congrArg List.length hse; have h9 := congrArg List.length hfs; have h7 := flat_le (f := subT (T).t n) hx5_9; simp only [List.length_append, List.length_cons] at h8 h9 h7 ⊢; omega)
    refine os 0 [] [2] ?_
    refine an [13] [] ?_
    refine ov 2 [] (a := kaddN (k + 1)) (b := ?_)
    have hq2 : (at0 :: ((((T).l[(at0).toNat]'hjx).c.l).take k).flatMap (subT (T).t n) ++ (subT (T).t n (((((T).l)[(at0).toNat]'hx5_5).c.l)[k]'hx5_9)) : List Int) = at0 :: ((((T).l[(at0).toNat]'hjx).c.l).take (k + 1)).flatMap (subT (T).t n) := (by rw [← hfs]; simp)
    have hMn2 := hM5_12.reM 1 hq2
    exact le3 2 [] (k + 1) A5_12 c5_12 [1, 2] (h := by exact (by (try dsimp only); omega))
  refine E1 7 [] (.slice (A2) ((at0 :: ((((T).l[(at0).toNat]'hjx).c.l).take k).flatMap (subT (T).t n)).length) (c2)) ?_
  have hkk : (((T).l[(at0).toNat]'hjx).c.l).take k = ((T).l[(at0).toNat]'hjx).c.l := List.take_of_length_le (by omega)
  have hq3 : (at0 :: ((((T).l[(at0).toNat]'hjx).c.l).take k).flatMap (subT (T).t n) : List Int) = (subT (T).t (n + 1) at0) := (by rw [hse, hkk])
  have hMn3 := hM_l3.reM 0 hq3
  exact ⟨A2, c2, (sl_congr (by rw [hse, hkk])), (hMn3.pk [0])⟩
theorem walk_fn : ∀ (n : Nat), ∀ (T : TreeL) (at0 : Int) (lo : Int) (hi : Int) (w : World) (hNT : TrN w T) (hs : SzT T) (hok : okB (T).t n at0 lo hi = true) (h3 : n ≤ 3), Does Tryd.prog 44 [.agg #[I ((T).root), .slice ((T).A) ((T).l.length) ((T).cp)], I (at0)] w (fun v w1 => ∃ (A1 : Option Addr) (c1 : Nat), v = .slice (A1) (((subT (T).t n at0)).length) (c1) ∧ Mem w w1 [] [[⟨.slice (A1) (((subT (T).t n at0)).length) (c1), 3, 1, (((subT (T).t n at0)).length), ((subT (T).t n at0)).map I⟩]]) := by
  intro n
  induction n with
  | zero => exact walk0_fn
  | succ n ih => exact walkS_fn n ih
set_option maxHeartbeats 4000000 in
theorem svalidTree_fn (T : TreeL) (w : World) (hNT : TrN w T) (hs : SzT T) :
    Does Tryd.prog 22 [.agg #[I ((T).root), .slice ((T).A) ((T).l.length) ((T).cp)]] w (fun v w1 => v = .bool (validT (T).t) ∧ Mem w w1 [] []) := by
  have hM : Mem w w [] [] := Mem.refl
  refine Does.n1 Tryd.func22 rfl Tryd.results22 Tryd.ntmps22 rfl ?_
  refine Bx 2 [] fun w0_0 b0_0 hb0_0 hM0_0 => ?_
  have hvr := valid_ref (T := (T).t)
  have hs1 := hs.1
  refine dr 4 [] ?_
  refine qc 3 [0] (X := .bool (decide (1 ≤ (((T).l.length : Nat) : Int)) && decide ((((T).l.length : Nat) : Int) ≤ 16))) (b := by exact fun w2 hw2 => (inRange_fn (((T).l.length : Nat) : Int) 1 16 w2 ).mono fun _ _ h => ⟨h.1, Mem.call0 hw2 h.2⟩) (c := ?_)
  refine qt 2 [] 10 (fun g10 => ?_) (fun g10 => ?_)
  · refine qn 23 [] fun w1d hM1d => ?_
    refine E1 6 [] (.bool (false)) ?_
    exact ⟨(by rw [hvr, show (decide (1 ≤ (T).t.pages.length) && decide ((T).t.pages.length ≤ 16)) = false from (by rw [pages_len, Bool.and_eq_false_iff, decide_eq_false_iff_not, decide_eq_false_iff_not]; simp at g10; omega)]; simp), (Mem.none hM1d)⟩
  have hl16 : 1 ≤ (T).t.pages.length ∧ (T).t.pages.length ≤ 16 := by rw [pages_len]; simp at g10; omega
  refine qv 5 [0, 0] (a := by exact fun _ hw2 => ksub) (b := ?_)
  refine qc 0 [] (X := .bool (decide (0 ≤ ((T).root)) && decide (((T).root) ≤ ((((T).l.length : Nat) : Int) - 1)))) (b := by exact fun w2 hw2 => (inRange_fn ((T).root) 0 ((((T).l.length : Nat) : Int) - 1) w2 ).mono fun _ _ h => ⟨h.1, Mem.call0 hw2 h.2⟩) (c := ?_)
  refine qt 3 [] 20 (fun g20 => ?_) (fun g20 => ?_)
  · refine qn 13 [] fun w1d hM1d => ?_
    refine E1 6 [] (.bool (false)) ?_
    exact ⟨(by rw [hvr, show inT (T).t (T).t.root = false from (by cases h9 : inT (T).t (T).t.root with | false => rfl | true => (have h8 := inT_t.1 h9; have h7 : 0 ≤ (T).root ∧ (T).root < _ := h8; exfalso; simp at g20; omega))]; simp), (Mem.none hM1d)⟩
  have hin : inT (T).t (T).t.root = true := inT_t.2 (by simp at g20; show 0 ≤ (T).root ∧ (T).root < _; omega)
  have hrt : 0 ≤ (T).root ∧ (T).root < ((T).l.length : Int) := inT_t.1 hin
  refine qc 1 [0] (X := I (((heightT (T).t : Nat) : Int))) (b := by exact fun w2 hw2 => (heightOf_fn T w2 (hNT.at hw2) q0).mono fun _ _ h => ⟨h.1, Mem.call0 hw2 h.2⟩) (c := ?_)
  refine qp 3 [] 25 (fun g25 => ?_) (fun g25 => ?_)
  · refine qn 8 [] fun w1d hM1d => ?_
    refine E1 6 [] (.bool (false)) ?_
    exact ⟨(by rw [hvr, show decide (heightT (T).t ≤ 3) = false from decide_eq_false (by omega)]; simp), (Mem.none hM1d)⟩
  have hh3 : heightT (T).t ≤ 3 := by omega
  refine qc 4 [0, 0, 0] (X := I (((heightT (T).t : Nat) : Int))) (b := by exact fun w2 hw2 => (heightOf_fn T w2 (hNT.at hw2) q0).mono fun _ _ h => ⟨h.1, Mem.call0 hw2 h.2⟩) (c := ?_)
  refine qc 0 [] (X := .bool (fitS (T).t (heightT (T).t) ((T).root) 0 99)) (b := by exact fun w2 hw2 => (pageFits_fn (heightT (T).t) T ((T).root) 0 99 ((heightT (T).t : Nat) : Int) w2 (hNT.at hw2) q0 qo (by rfl) (by exact height_1) (by exact hh3)).mono fun _ _ h => ⟨h.1, Mem.call0 hw2 h.2⟩) (c := ?_)
  refine qn 2 [] fun w1d hM1d => ?_
  refine cn 0 [] (fun c33 => ?_) (fun c33 => ?_)
  · refine E1 5 [] (.bool (false)) ?_
    exact ⟨(by rw [hvr, show fitS (T).t (heightT (T).t) (T).t.root 0 99 = false from (show fitS (T).t (heightT (T).t) (T).root 0 99 = false from (by simpa using c33))]; simp), (Mem.none hM1d)⟩
  have hft : fitS (T).t (heightT (T).t) (T).root 0 99 = true := by simpa using c33
  have hok : okB (T).t (heightT (T).t) (T).root 0 100 = true := (fit_ok (d := heightT (T).t) (low := 0) (hi := 99) hin).symm.trans hft
  have hsl := sub_len3 hok hh3
  have hve : validT (T).t = (decide (subT (T).t (heightT (T).t) (T).root).Nodup && decide ((subT (T).t (heightT (T).t) (T).root).length = (T).t.pages.length)) := by rw [hvr]; simp only [hl16.1, hl16.2, hin, hh3, decide_true, Bool.true_and]; rw [show fitS (T).t (heightT (T).t) (T).t.root 0 99 = true from hft]; rfl
  refine cq 6 [0, 0] (b := walk_fn (heightT (T).t) T _ 0 100 w1d (hNT.at hM1d) q0 (by exact hok) (by exact hh3)) (c := ?_)
  rintro _ w3_3 ⟨A13_3, c13_3, rfl, hR3_3⟩
  have hM3_3 := hM1d.cl 0 hR3_3
  have hcr3_3_0 := (hM3_3.cap 0 rfl).1
  refine lp1 8 [] (fun (k : Nat) => ([(4, Vi (((k : Nat) : Int)))] : List (Nat × SV))) (fun (k : Nat) => (k ≤ (subT (T).t (heightT (T).t) (T).root).length) ∧ (((subT (T).t (heightT (T).t) (T).root).take k).Nodup)) (fun (k : Nat) => []) (fun (k : Nat) => (subT (T).t (heightT (T).t) (T).root).length - k) [1, 3] [] [0, 1] 0 (fun k σ w_l5 hI hM_l5 => ?_) (h0 := ⟨(Nat.zero_le _), (by (try dsimp only); simp)⟩)
  obtain ⟨hi0_l5, hi1_l5⟩ := hI
  have hcl0_l5 := (hM_l5.cap 0 rfl).1
  refine cd 8 [] (fun c41 => ?_) (fun c41 => ?_)
  · refine dr 4 [] ?_
    have hcp7_2 := hM_l5.cap 0 rfl
    refine qv 2 [] (s := Vl (A13_3) ((((subT (T).t (heightT (T).t) ((T).root))).take (k)).length) (c13_3)) (a := by exact fun w2 hw2 => cv (Ru.congr (v := .slice (A13_3) (k) (c13_3)) (v' := .slice (A13_3) ((((subT (T).t (heightT (T).t) ((T).root))).take (k)).length) (c13_3)) (Ru.lsliceTo (h := k) Tryd.underlying29 el3 rfl rfl (by omega) (by omega)) (sl_congr (by first | rfl | (simp; done) | omega | (simp; omega)))) rfl) (b := ?_)
    have hx7_5 : k < ((subT (T).t (heightT (T).t) ((T).root))).length := (by first | omega | (simp; omega))
    refine qv 2 [] (a := by exact fun _ hw2 => kixM hx7_5 (hw2.rd 0 rfl)) (b := ?_)
    refine qv 0 [] (a := by exact fun _ hw2 => kldM hx7_5 (hw2.rd 0 rfl)) (b := ?_)
    refine qc 0 [] (X := .bool (decide ((((subT (T).t (heightT (T).t) ((T).root)))[k]'hx7_5) ∈ (((subT (T).t (heightT (T).t) ((T).root))).take (k))))) (b := by exact fun w2 hw2 => (isIn_fn A13_3 c13_3 (((subT (T).t (heightT (T).t) ((T).root))).take (k)) (((subT (T).t (heightT (T).t) ((T).root)))[k]'hx7_5) w2 (rd_take1 (hw2.rd 0 rfl)) (by simp; omega)).mono fun _ _ h => ⟨h.1, Mem.call0 hw2 h.2⟩) (c := ?_)
    refine qn 0 [] fun w7d hM7d => ?_
    refine cb 0 [] (fun c51 => ?_) (fun c51 => ?_)
    · refine E1 5 [] (.bool (false)) ?_
      exact ⟨(by rw [hve, decide_eq_false (nodup_bad hx7_5 (by simpa using c51))]; rfl), (Mem.none hM7d)⟩
    refine ov 3 [] (a := kaddN (k + 1)) (b := ?_)
    exact le1 2 [] (k + 1) [0, 1] (h := by exact ⟨(by (try dsimp only); omega), (nodup_step hx7_5 hi1_l5 (by simpa using c51))⟩)
  refine E1 12 [1] (.bool (decide (((((subT (T).t (heightT (T).t) ((T).root))).length : Nat) : Int) = (((T).l.length : Nat) : Int)))) ?_
  exact ⟨(by rw [hve, decide_eq_true (show (subT (T).t (heightT (T).t) (T).root).Nodup by rwa [List.take_of_length_le (by omega)] at hi1_l5), pages_len]; refine congrArg Value.bool ?_; rw [Bool.true_and]; exact decide_eq_decide.2 (by omega)), (Mem.none hM_l5)⟩
end Go.Proofs.YtemejgglbhjodaaDoor
end
