/-
  No cell of these rows narrows 'for every input' (looked for: loops, veiled, ifaces, maps, wideKeys, modest, calm, conditions, laid).
  DERIVED. THE GIVEN ROWS OF THIS SEAT. 17 by the template 'for every input the law returns true; each argument reads behind the call as it read before'; 0 by the template 'total and deterministic' (their statements: YtekfncmhinbghaaTotals.lean).
  GIVEN WITH THE SEED: the statements are not yours to turn. If you find one false, say at which input.
  Laid BY PROGRAM, IN A SANDBOX (cutbox-rows.mjs): the forced cells as the released guide's own fill.sh prints them over the translation 4bcc2c5ffada45d2… (all of the seat's roots in one cut). By AI agents, Wed Nov 11 2026. No macro, syntax, notation, axiom, sorry.
-/
import Derived.Test.YtekfncmhinbghaaChecked
import GoSem.Claim
import GoSem.ClaimJoined
import GoSem.ClaimMapViews
import Derived.JoinedTies
import Derived.KernelRfl
namespace Go.Proofs.Ytekfncmhinbghaa
/- THE CELL 'sum', in the pinned program and in every row, IS THE sha256 OF THE DUMP (.gsa) THAT YtekfncmhinbghaaProg.lean LOADS. Nothing in Lean hashes anything: it is a label: what it is worth is what the hold of that sum in a sandbox is worth. -/
noncomputable def Try.pinned : Pinned := { name := "ytekfncmhinbghaa", sum := "4bcc2c5ffada45d23f06a91ea6b966947b860b652ac243955a8655d6211a6376", checked := Try.checked }
namespace Rows
def none {H : Type} : Left H := { results := [], args := [] }

/-- 'laws.FnExactSeparator': WHATEVER THE INPUT: true; the input reads as it did. -/
def fnExactSeparatorSpec : ChangeSpec := { name := "fnExactSeparator", fn := fun _ => fun
  | [d1, d2] => { results := [.lit (.bool true)], args := [d1, d2] }
  | _ => none }
def fnExactSeparatorRow : OpenClaim := { program := "ytekfncmhinbghaa", sum := "4bcc2c5ffada45d23f06a91ea6b966947b860b652ac243955a8655d6211a6376", func := "loop.example/pagetree/laws.FnExactSeparator", spec := "fnExactSeparator", apart := false }
def FnExactSeparatorSaid : Prop := fnExactSeparatorRow.holds Try.pinned (OpenSpec.ofChange fnExactSeparatorSpec)

/-- ITS FALSE NEIGHBOUR: 'it returns false'. Refute it at one input. -/
def fnExactSeparatorWrong : ChangeSpec := { name := "fnExactSeparator", fn := fun _ => fun
  | [d1, d2] => { results := [.lit (.bool false)], args := [d1, d2] }
  | _ => none }
def FnExactSeparatorWrongFalsely : Prop := fnExactSeparatorRow.holds Try.pinned (OpenSpec.ofChange fnExactSeparatorWrong)

/-- 'laws.FnExactValidWords': WHATEVER THE INPUT: true; the input reads as it did. -/
def fnExactValidWordsSpec : ChangeSpec := { name := "fnExactValidWords", fn := fun _ => fun
  | [d] => { results := [.lit (.bool true)], args := [d] }
  | _ => none }
def fnExactValidWordsRow : OpenClaim := { program := "ytekfncmhinbghaa", sum := "4bcc2c5ffada45d23f06a91ea6b966947b860b652ac243955a8655d6211a6376", func := "loop.example/pagetree/laws.FnExactValidWords", spec := "fnExactValidWords", apart := false }
def FnExactValidWordsSaid : Prop := fnExactValidWordsRow.holds Try.pinned (OpenSpec.ofChange fnExactValidWordsSpec)

/-- ITS FALSE NEIGHBOUR: 'it returns false'. Refute it at one input. -/
def fnExactValidWordsWrong : ChangeSpec := { name := "fnExactValidWords", fn := fun _ => fun
  | [d] => { results := [.lit (.bool false)], args := [d] }
  | _ => none }
def FnExactValidWordsWrongFalsely : Prop := fnExactValidWordsRow.holds Try.pinned (OpenSpec.ofChange fnExactValidWordsWrong)

/-- 'laws.FnSeparator': WHATEVER THE INPUT: true; the input reads as it did. -/
def fnSeparatorSpec : ChangeSpec := { name := "fnSeparator", fn := fun _ => fun
  | [d] => { results := [.lit (.bool true)], args := [d] }
  | _ => none }
def fnSeparatorRow : OpenClaim := { program := "ytekfncmhinbghaa", sum := "4bcc2c5ffada45d23f06a91ea6b966947b860b652ac243955a8655d6211a6376", func := "loop.example/pagetree/laws.FnSeparator", spec := "fnSeparator", apart := false }
def FnSeparatorSaid : Prop := fnSeparatorRow.holds Try.pinned (OpenSpec.ofChange fnSeparatorSpec)

/-- ITS FALSE NEIGHBOUR: 'it returns false'. Refute it at one input. -/
def fnSeparatorWrong : ChangeSpec := { name := "fnSeparator", fn := fun _ => fun
  | [d] => { results := [.lit (.bool false)], args := [d] }
  | _ => none }
def FnSeparatorWrongFalsely : Prop := fnSeparatorRow.holds Try.pinned (OpenSpec.ofChange fnSeparatorWrong)

/-- 'laws.FnSeparatorLetter': WHATEVER THE INPUT: true; the input reads as it did. -/
def fnSeparatorLetterSpec : ChangeSpec := { name := "fnSeparatorLetter", fn := fun _ => fun
  | [d] => { results := [.lit (.bool true)], args := [d] }
  | _ => none }
def fnSeparatorLetterRow : OpenClaim := { program := "ytekfncmhinbghaa", sum := "4bcc2c5ffada45d23f06a91ea6b966947b860b652ac243955a8655d6211a6376", func := "loop.example/pagetree/laws.FnSeparatorLetter", spec := "fnSeparatorLetter", apart := false }
def FnSeparatorLetterSaid : Prop := fnSeparatorLetterRow.holds Try.pinned (OpenSpec.ofChange fnSeparatorLetterSpec)

/-- ITS FALSE NEIGHBOUR: 'it returns false'. Refute it at one input. -/
def fnSeparatorLetterWrong : ChangeSpec := { name := "fnSeparatorLetter", fn := fun _ => fun
  | [d] => { results := [.lit (.bool false)], args := [d] }
  | _ => none }
def FnSeparatorLetterWrongFalsely : Prop := fnSeparatorLetterRow.holds Try.pinned (OpenSpec.ofChange fnSeparatorLetterWrong)

/-- 'laws.FnSeparatorShort': WHATEVER THE INPUT: true; the input reads as it did. -/
def fnSeparatorShortSpec : ChangeSpec := { name := "fnSeparatorShort", fn := fun _ => fun
  | [d] => { results := [.lit (.bool true)], args := [d] }
  | _ => none }
def fnSeparatorShortRow : OpenClaim := { program := "ytekfncmhinbghaa", sum := "4bcc2c5ffada45d23f06a91ea6b966947b860b652ac243955a8655d6211a6376", func := "loop.example/pagetree/laws.FnSeparatorShort", spec := "fnSeparatorShort", apart := false }
def FnSeparatorShortSaid : Prop := fnSeparatorShortRow.holds Try.pinned (OpenSpec.ofChange fnSeparatorShortSpec)

/-- ITS FALSE NEIGHBOUR: 'it returns false'. Refute it at one input. -/
def fnSeparatorShortWrong : ChangeSpec := { name := "fnSeparatorShort", fn := fun _ => fun
  | [d] => { results := [.lit (.bool false)], args := [d] }
  | _ => none }
def FnSeparatorShortWrongFalsely : Prop := fnSeparatorShortRow.holds Try.pinned (OpenSpec.ofChange fnSeparatorShortWrong)

/-- 'laws.FnValidWords': WHATEVER THE INPUT: true; the input reads as it did. -/
def fnValidWordsSpec : ChangeSpec := { name := "fnValidWords", fn := fun _ => fun
  | [d] => { results := [.lit (.bool true)], args := [d] }
  | _ => none }
def fnValidWordsRow : OpenClaim := { program := "ytekfncmhinbghaa", sum := "4bcc2c5ffada45d23f06a91ea6b966947b860b652ac243955a8655d6211a6376", func := "loop.example/pagetree/laws.FnValidWords", spec := "fnValidWords", apart := false }
def FnValidWordsSaid : Prop := fnValidWordsRow.holds Try.pinned (OpenSpec.ofChange fnValidWordsSpec)

/-- ITS FALSE NEIGHBOUR: 'it returns false'. Refute it at one input. -/
def fnValidWordsWrong : ChangeSpec := { name := "fnValidWords", fn := fun _ => fun
  | [d] => { results := [.lit (.bool false)], args := [d] }
  | _ => none }
def FnValidWordsWrongFalsely : Prop := fnValidWordsRow.holds Try.pinned (OpenSpec.ofChange fnValidWordsWrong)

/-- 'laws.FnExactPackedSize': WHATEVER THE INPUT: true; the input reads as it did. -/
def fnExactPackedSizeSpec : ChangeSpec := { name := "fnExactPackedSize", fn := fun _ => fun
  | [d] => { results := [.lit (.bool true)], args := [d] }
  | _ => none }
def fnExactPackedSizeRow : OpenClaim := { program := "ytekfncmhinbghaa", sum := "4bcc2c5ffada45d23f06a91ea6b966947b860b652ac243955a8655d6211a6376", func := "loop.example/pagetree/laws.FnExactPackedSize", spec := "fnExactPackedSize", apart := false }
def FnExactPackedSizeSaid : Prop := fnExactPackedSizeRow.holds Try.pinned (OpenSpec.ofChange fnExactPackedSizeSpec)

/-- ITS FALSE NEIGHBOUR: 'it returns false'. Refute it at one input. -/
def fnExactPackedSizeWrong : ChangeSpec := { name := "fnExactPackedSize", fn := fun _ => fun
  | [d] => { results := [.lit (.bool false)], args := [d] }
  | _ => none }
def FnExactPackedSizeWrongFalsely : Prop := fnExactPackedSizeRow.holds Try.pinned (OpenSpec.ofChange fnExactPackedSizeWrong)

/-- 'laws.FnPackWordsFirst': WHATEVER THE INPUT: true; the input reads as it did. -/
def fnPackWordsFirstSpec : ChangeSpec := { name := "fnPackWordsFirst", fn := fun _ => fun
  | [d] => { results := [.lit (.bool true)], args := [d] }
  | _ => none }
def fnPackWordsFirstRow : OpenClaim := { program := "ytekfncmhinbghaa", sum := "4bcc2c5ffada45d23f06a91ea6b966947b860b652ac243955a8655d6211a6376", func := "loop.example/pagetree/laws.FnPackWordsFirst", spec := "fnPackWordsFirst", apart := false }
def FnPackWordsFirstSaid : Prop := fnPackWordsFirstRow.holds Try.pinned (OpenSpec.ofChange fnPackWordsFirstSpec)

/-- ITS FALSE NEIGHBOUR: 'it returns false'. Refute it at one input. -/
def fnPackWordsFirstWrong : ChangeSpec := { name := "fnPackWordsFirst", fn := fun _ => fun
  | [d] => { results := [.lit (.bool false)], args := [d] }
  | _ => none }
def FnPackWordsFirstWrongFalsely : Prop := fnPackWordsFirstRow.holds Try.pinned (OpenSpec.ofChange fnPackWordsFirstWrong)

/-- 'laws.FnPackWordsTail': WHATEVER THE INPUT: true; the input reads as it did. -/
def fnPackWordsTailSpec : ChangeSpec := { name := "fnPackWordsTail", fn := fun _ => fun
  | [d] => { results := [.lit (.bool true)], args := [d] }
  | _ => none }
def fnPackWordsTailRow : OpenClaim := { program := "ytekfncmhinbghaa", sum := "4bcc2c5ffada45d23f06a91ea6b966947b860b652ac243955a8655d6211a6376", func := "loop.example/pagetree/laws.FnPackWordsTail", spec := "fnPackWordsTail", apart := false }
def FnPackWordsTailSaid : Prop := fnPackWordsTailRow.holds Try.pinned (OpenSpec.ofChange fnPackWordsTailSpec)

/-- ITS FALSE NEIGHBOUR: 'it returns false'. Refute it at one input. -/
def fnPackWordsTailWrong : ChangeSpec := { name := "fnPackWordsTail", fn := fun _ => fun
  | [d] => { results := [.lit (.bool false)], args := [d] }
  | _ => none }
def FnPackWordsTailWrongFalsely : Prop := fnPackWordsTailRow.holds Try.pinned (OpenSpec.ofChange fnPackWordsTailWrong)

/-- 'laws.FnPackedSize': WHATEVER THE INPUT: true; the input reads as it did. -/
def fnPackedSizeSpec : ChangeSpec := { name := "fnPackedSize", fn := fun _ => fun
  | [d] => { results := [.lit (.bool true)], args := [d] }
  | _ => none }
def fnPackedSizeRow : OpenClaim := { program := "ytekfncmhinbghaa", sum := "4bcc2c5ffada45d23f06a91ea6b966947b860b652ac243955a8655d6211a6376", func := "loop.example/pagetree/laws.FnPackedSize", spec := "fnPackedSize", apart := false }
def FnPackedSizeSaid : Prop := fnPackedSizeRow.holds Try.pinned (OpenSpec.ofChange fnPackedSizeSpec)

/-- ITS FALSE NEIGHBOUR: 'it returns false'. Refute it at one input. -/
def fnPackedSizeWrong : ChangeSpec := { name := "fnPackedSize", fn := fun _ => fun
  | [d] => { results := [.lit (.bool false)], args := [d] }
  | _ => none }
def FnPackedSizeWrongFalsely : Prop := fnPackedSizeRow.holds Try.pinned (OpenSpec.ofChange fnPackedSizeWrong)

/-- 'laws.FnPackedSizeMore': WHATEVER THE INPUT: true; the input reads as it did. -/
def fnPackedSizeMoreSpec : ChangeSpec := { name := "fnPackedSizeMore", fn := fun _ => fun
  | [d] => { results := [.lit (.bool true)], args := [d] }
  | _ => none }
def fnPackedSizeMoreRow : OpenClaim := { program := "ytekfncmhinbghaa", sum := "4bcc2c5ffada45d23f06a91ea6b966947b860b652ac243955a8655d6211a6376", func := "loop.example/pagetree/laws.FnPackedSizeMore", spec := "fnPackedSizeMore", apart := false }
def FnPackedSizeMoreSaid : Prop := fnPackedSizeMoreRow.holds Try.pinned (OpenSpec.ofChange fnPackedSizeMoreSpec)

/-- ITS FALSE NEIGHBOUR: 'it returns false'. Refute it at one input. -/
def fnPackedSizeMoreWrong : ChangeSpec := { name := "fnPackedSizeMore", fn := fun _ => fun
  | [d] => { results := [.lit (.bool false)], args := [d] }
  | _ => none }
def FnPackedSizeMoreWrongFalsely : Prop := fnPackedSizeMoreRow.holds Try.pinned (OpenSpec.ofChange fnPackedSizeMoreWrong)

/-- 'laws.FnPackedSizePack': WHATEVER THE INPUT: true; the input reads as it did. -/
def fnPackedSizePackSpec : ChangeSpec := { name := "fnPackedSizePack", fn := fun _ => fun
  | [d] => { results := [.lit (.bool true)], args := [d] }
  | _ => none }
def fnPackedSizePackRow : OpenClaim := { program := "ytekfncmhinbghaa", sum := "4bcc2c5ffada45d23f06a91ea6b966947b860b652ac243955a8655d6211a6376", func := "loop.example/pagetree/laws.FnPackedSizePack", spec := "fnPackedSizePack", apart := false }
def FnPackedSizePackSaid : Prop := fnPackedSizePackRow.holds Try.pinned (OpenSpec.ofChange fnPackedSizePackSpec)

/-- ITS FALSE NEIGHBOUR: 'it returns false'. Refute it at one input. -/
def fnPackedSizePackWrong : ChangeSpec := { name := "fnPackedSizePack", fn := fun _ => fun
  | [d] => { results := [.lit (.bool false)], args := [d] }
  | _ => none }
def FnPackedSizePackWrongFalsely : Prop := fnPackedSizePackRow.holds Try.pinned (OpenSpec.ofChange fnPackedSizePackWrong)

/-- 'laws.FnExactPackWords': WHATEVER THE INPUT: true; the input reads as it did. -/
def fnExactPackWordsSpec : ChangeSpec := { name := "fnExactPackWords", fn := fun _ => fun
  | [d] => { results := [.lit (.bool true)], args := [d] }
  | _ => none }
def fnExactPackWordsRow : OpenClaim := { program := "ytekfncmhinbghaa", sum := "4bcc2c5ffada45d23f06a91ea6b966947b860b652ac243955a8655d6211a6376", func := "loop.example/pagetree/laws.FnExactPackWords", spec := "fnExactPackWords", apart := false }
def FnExactPackWordsSaid : Prop := fnExactPackWordsRow.holds Try.pinned (OpenSpec.ofChange fnExactPackWordsSpec)

/-- ITS FALSE NEIGHBOUR: 'it returns false'. Refute it at one input. -/
def fnExactPackWordsWrong : ChangeSpec := { name := "fnExactPackWords", fn := fun _ => fun
  | [d] => { results := [.lit (.bool false)], args := [d] }
  | _ => none }
def FnExactPackWordsWrongFalsely : Prop := fnExactPackWordsRow.holds Try.pinned (OpenSpec.ofChange fnExactPackWordsWrong)

/-- 'laws.FnPackWords': WHATEVER THE INPUT: true; the input reads as it did. -/
def fnPackWordsSpec : ChangeSpec := { name := "fnPackWords", fn := fun _ => fun
  | [d] => { results := [.lit (.bool true)], args := [d] }
  | _ => none }
def fnPackWordsRow : OpenClaim := { program := "ytekfncmhinbghaa", sum := "4bcc2c5ffada45d23f06a91ea6b966947b860b652ac243955a8655d6211a6376", func := "loop.example/pagetree/laws.FnPackWords", spec := "fnPackWords", apart := false }
def FnPackWordsSaid : Prop := fnPackWordsRow.holds Try.pinned (OpenSpec.ofChange fnPackWordsSpec)

/-- ITS FALSE NEIGHBOUR: 'it returns false'. Refute it at one input. -/
def fnPackWordsWrong : ChangeSpec := { name := "fnPackWords", fn := fun _ => fun
  | [d] => { results := [.lit (.bool false)], args := [d] }
  | _ => none }
def FnPackWordsWrongFalsely : Prop := fnPackWordsRow.holds Try.pinned (OpenSpec.ofChange fnPackWordsWrong)

/-- 'laws.FnUnpackWordsSame': WHATEVER THE INPUT: true; the input reads as it did. -/
def fnUnpackWordsSameSpec : ChangeSpec := { name := "fnUnpackWordsSame", fn := fun _ => fun
  | [d] => { results := [.lit (.bool true)], args := [d] }
  | _ => none }
def fnUnpackWordsSameRow : OpenClaim := { program := "ytekfncmhinbghaa", sum := "4bcc2c5ffada45d23f06a91ea6b966947b860b652ac243955a8655d6211a6376", func := "loop.example/pagetree/laws.FnUnpackWordsSame", spec := "fnUnpackWordsSame", apart := false }
def FnUnpackWordsSameSaid : Prop := fnUnpackWordsSameRow.holds Try.pinned (OpenSpec.ofChange fnUnpackWordsSameSpec)

/-- ITS FALSE NEIGHBOUR: 'it returns false'. Refute it at one input. -/
def fnUnpackWordsSameWrong : ChangeSpec := { name := "fnUnpackWordsSame", fn := fun _ => fun
  | [d] => { results := [.lit (.bool false)], args := [d] }
  | _ => none }
def FnUnpackWordsSameWrongFalsely : Prop := fnUnpackWordsSameRow.holds Try.pinned (OpenSpec.ofChange fnUnpackWordsSameWrong)

/-- 'laws.FnUnpackWords': WHATEVER THE INPUT: true; the input reads as it did. -/
def fnUnpackWordsSpec : ChangeSpec := { name := "fnUnpackWords", fn := fun _ => fun
  | [d] => { results := [.lit (.bool true)], args := [d] }
  | _ => none }
def fnUnpackWordsRow : OpenClaim := { program := "ytekfncmhinbghaa", sum := "4bcc2c5ffada45d23f06a91ea6b966947b860b652ac243955a8655d6211a6376", func := "loop.example/pagetree/laws.FnUnpackWords", spec := "fnUnpackWords", apart := false }
def FnUnpackWordsSaid : Prop := fnUnpackWordsRow.holds Try.pinned (OpenSpec.ofChange fnUnpackWordsSpec)

/-- ITS FALSE NEIGHBOUR: 'it returns false'. Refute it at one input. -/
def fnUnpackWordsWrong : ChangeSpec := { name := "fnUnpackWords", fn := fun _ => fun
  | [d] => { results := [.lit (.bool false)], args := [d] }
  | _ => none }
def FnUnpackWordsWrongFalsely : Prop := fnUnpackWordsRow.holds Try.pinned (OpenSpec.ofChange fnUnpackWordsWrong)

/-- 'laws.FnExactUnpackWords': WHATEVER THE INPUT: true; the input reads as it did. -/
def fnExactUnpackWordsSpec : ChangeSpec := { name := "fnExactUnpackWords", fn := fun _ => fun
  | [d] => { results := [.lit (.bool true)], args := [d] }
  | _ => none }
def fnExactUnpackWordsRow : OpenClaim := { program := "ytekfncmhinbghaa", sum := "4bcc2c5ffada45d23f06a91ea6b966947b860b652ac243955a8655d6211a6376", func := "loop.example/pagetree/laws.FnExactUnpackWords", spec := "fnExactUnpackWords", apart := false }
def FnExactUnpackWordsSaid : Prop := fnExactUnpackWordsRow.holds Try.pinned (OpenSpec.ofChange fnExactUnpackWordsSpec)

/-- ITS FALSE NEIGHBOUR: 'it returns false'. Refute it at one input. -/
def fnExactUnpackWordsWrong : ChangeSpec := { name := "fnExactUnpackWords", fn := fun _ => fun
  | [d] => { results := [.lit (.bool false)], args := [d] }
  | _ => none }
def FnExactUnpackWordsWrongFalsely : Prop := fnExactUnpackWordsRow.holds Try.pinned (OpenSpec.ofChange fnExactUnpackWordsWrong)

/- THE SECOND FORM. 'bulk': how many values and letters a reading holds, each counted each time it is reached (what is shared counts as often as it is met; a slice's spare places count too). A statement '..UptoSaid' is the law's where the arguments, and the package variables that the reading takes, are together of bulk at most 1048576: NARROWER than '..Said'. Prove '..Said' where nothing that the law and all that it calls make is longer than what came in: it says more and counts as full. Else prove '..UptoSaid'. A law counts once. -/
mutual
def uptoBulk {H : Type} : DataW H → Nat
  | .lit (.string bytes) => bytes.length + 1
  | .lit _ => 1
  | .nil => 1
  | .ptr d => uptoBulk d + 1
  | .slice elems spare => uptoBulkAll elems + uptoBulkAll spare + 1
  | .agg parts => uptoBulkAll parts + 1
  | .iface _ d => uptoBulk d + 1
  | .map entries => uptoBulkEntries entries + 1
  | .held _ => 1
def uptoBulkAll {H : Type} : List (DataW H) → Nat
  | [] => 0
  | d :: r => uptoBulk d + uptoBulkAll r
def uptoBulkEntries {H : Type} : List (Lit × DataW H) → Nat
  | [] => 0
  | x :: r => uptoBulkEntry x + uptoBulkEntries r
def uptoBulkEntry {H : Type} : Lit × DataW H → Nat
  | (.string bytes, d) => bytes.length + uptoBulk d + 1
  | (_, d) => uptoBulk d + 1
 end
def uptoSmall : (H : Type) → List (DataW H) → Bool := fun _ ds => decide (uptoBulkAll ds ≤ 1048576)
def OpenSpec.upto (s : _root_.Go.ChangeSpec) : _root_.Go.OpenSpec := { _root_.Go.OpenSpec.ofChange s with cond := some uptoSmall }

/-- 'laws.FnExactSeparator', WHERE WHAT IT READS IS OF BULK AT MOST 1048576: true; the input reads as it did. -/
def fnExactSeparatorUptoRow : OpenClaim := { program := "ytekfncmhinbghaa", sum := "4bcc2c5ffada45d23f06a91ea6b966947b860b652ac243955a8655d6211a6376", func := "loop.example/pagetree/laws.FnExactSeparator", spec := "fnExactSeparator", apart := false, narrowed := true }
def FnExactSeparatorUptoSaid : Prop := fnExactSeparatorUptoRow.holds Try.pinned (OpenSpec.upto fnExactSeparatorSpec)

/-- 'laws.FnExactValidWords', WHERE WHAT IT READS IS OF BULK AT MOST 1048576: true; the input reads as it did. -/
def fnExactValidWordsUptoRow : OpenClaim := { program := "ytekfncmhinbghaa", sum := "4bcc2c5ffada45d23f06a91ea6b966947b860b652ac243955a8655d6211a6376", func := "loop.example/pagetree/laws.FnExactValidWords", spec := "fnExactValidWords", apart := false, narrowed := true }
def FnExactValidWordsUptoSaid : Prop := fnExactValidWordsUptoRow.holds Try.pinned (OpenSpec.upto fnExactValidWordsSpec)

/-- 'laws.FnSeparator', WHERE WHAT IT READS IS OF BULK AT MOST 1048576: true; the input reads as it did. -/
def fnSeparatorUptoRow : OpenClaim := { program := "ytekfncmhinbghaa", sum := "4bcc2c5ffada45d23f06a91ea6b966947b860b652ac243955a8655d6211a6376", func := "loop.example/pagetree/laws.FnSeparator", spec := "fnSeparator", apart := false, narrowed := true }
def FnSeparatorUptoSaid : Prop := fnSeparatorUptoRow.holds Try.pinned (OpenSpec.upto fnSeparatorSpec)

/-- 'laws.FnSeparatorLetter', WHERE WHAT IT READS IS OF BULK AT MOST 1048576: true; the input reads as it did. -/
def fnSeparatorLetterUptoRow : OpenClaim := { program := "ytekfncmhinbghaa", sum := "4bcc2c5ffada45d23f06a91ea6b966947b860b652ac243955a8655d6211a6376", func := "loop.example/pagetree/laws.FnSeparatorLetter", spec := "fnSeparatorLetter", apart := false, narrowed := true }
def FnSeparatorLetterUptoSaid : Prop := fnSeparatorLetterUptoRow.holds Try.pinned (OpenSpec.upto fnSeparatorLetterSpec)

/-- 'laws.FnSeparatorShort', WHERE WHAT IT READS IS OF BULK AT MOST 1048576: true; the input reads as it did. -/
def fnSeparatorShortUptoRow : OpenClaim := { program := "ytekfncmhinbghaa", sum := "4bcc2c5ffada45d23f06a91ea6b966947b860b652ac243955a8655d6211a6376", func := "loop.example/pagetree/laws.FnSeparatorShort", spec := "fnSeparatorShort", apart := false, narrowed := true }
def FnSeparatorShortUptoSaid : Prop := fnSeparatorShortUptoRow.holds Try.pinned (OpenSpec.upto fnSeparatorShortSpec)

/-- 'laws.FnValidWords', WHERE WHAT IT READS IS OF BULK AT MOST 1048576: true; the input reads as it did. -/
def fnValidWordsUptoRow : OpenClaim := { program := "ytekfncmhinbghaa", sum := "4bcc2c5ffada45d23f06a91ea6b966947b860b652ac243955a8655d6211a6376", func := "loop.example/pagetree/laws.FnValidWords", spec := "fnValidWords", apart := false, narrowed := true }
def FnValidWordsUptoSaid : Prop := fnValidWordsUptoRow.holds Try.pinned (OpenSpec.upto fnValidWordsSpec)

/-- 'laws.FnExactPackedSize', WHERE WHAT IT READS IS OF BULK AT MOST 1048576: true; the input reads as it did. -/
def fnExactPackedSizeUptoRow : OpenClaim := { program := "ytekfncmhinbghaa", sum := "4bcc2c5ffada45d23f06a91ea6b966947b860b652ac243955a8655d6211a6376", func := "loop.example/pagetree/laws.FnExactPackedSize", spec := "fnExactPackedSize", apart := false, narrowed := true }
def FnExactPackedSizeUptoSaid : Prop := fnExactPackedSizeUptoRow.holds Try.pinned (OpenSpec.upto fnExactPackedSizeSpec)

/-- 'laws.FnPackWordsFirst', WHERE WHAT IT READS IS OF BULK AT MOST 1048576: true; the input reads as it did. -/
def fnPackWordsFirstUptoRow : OpenClaim := { program := "ytekfncmhinbghaa", sum := "4bcc2c5ffada45d23f06a91ea6b966947b860b652ac243955a8655d6211a6376", func := "loop.example/pagetree/laws.FnPackWordsFirst", spec := "fnPackWordsFirst", apart := false, narrowed := true }
def FnPackWordsFirstUptoSaid : Prop := fnPackWordsFirstUptoRow.holds Try.pinned (OpenSpec.upto fnPackWordsFirstSpec)

/-- 'laws.FnPackWordsTail', WHERE WHAT IT READS IS OF BULK AT MOST 1048576: true; the input reads as it did. -/
def fnPackWordsTailUptoRow : OpenClaim := { program := "ytekfncmhinbghaa", sum := "4bcc2c5ffada45d23f06a91ea6b966947b860b652ac243955a8655d6211a6376", func := "loop.example/pagetree/laws.FnPackWordsTail", spec := "fnPackWordsTail", apart := false, narrowed := true }
def FnPackWordsTailUptoSaid : Prop := fnPackWordsTailUptoRow.holds Try.pinned (OpenSpec.upto fnPackWordsTailSpec)

/-- 'laws.FnPackedSize', WHERE WHAT IT READS IS OF BULK AT MOST 1048576: true; the input reads as it did. -/
def fnPackedSizeUptoRow : OpenClaim := { program := "ytekfncmhinbghaa", sum := "4bcc2c5ffada45d23f06a91ea6b966947b860b652ac243955a8655d6211a6376", func := "loop.example/pagetree/laws.FnPackedSize", spec := "fnPackedSize", apart := false, narrowed := true }
def FnPackedSizeUptoSaid : Prop := fnPackedSizeUptoRow.holds Try.pinned (OpenSpec.upto fnPackedSizeSpec)

/-- 'laws.FnPackedSizeMore', WHERE WHAT IT READS IS OF BULK AT MOST 1048576: true; the input reads as it did. -/
def fnPackedSizeMoreUptoRow : OpenClaim := { program := "ytekfncmhinbghaa", sum := "4bcc2c5ffada45d23f06a91ea6b966947b860b652ac243955a8655d6211a6376", func := "loop.example/pagetree/laws.FnPackedSizeMore", spec := "fnPackedSizeMore", apart := false, narrowed := true }
def FnPackedSizeMoreUptoSaid : Prop := fnPackedSizeMoreUptoRow.holds Try.pinned (OpenSpec.upto fnPackedSizeMoreSpec)

/-- 'laws.FnPackedSizePack', WHERE WHAT IT READS IS OF BULK AT MOST 1048576: true; the input reads as it did. -/
def fnPackedSizePackUptoRow : OpenClaim := { program := "ytekfncmhinbghaa", sum := "4bcc2c5ffada45d23f06a91ea6b966947b860b652ac243955a8655d6211a6376", func := "loop.example/pagetree/laws.FnPackedSizePack", spec := "fnPackedSizePack", apart := false, narrowed := true }
def FnPackedSizePackUptoSaid : Prop := fnPackedSizePackUptoRow.holds Try.pinned (OpenSpec.upto fnPackedSizePackSpec)

/-- 'laws.FnExactPackWords', WHERE WHAT IT READS IS OF BULK AT MOST 1048576: true; the input reads as it did. -/
def fnExactPackWordsUptoRow : OpenClaim := { program := "ytekfncmhinbghaa", sum := "4bcc2c5ffada45d23f06a91ea6b966947b860b652ac243955a8655d6211a6376", func := "loop.example/pagetree/laws.FnExactPackWords", spec := "fnExactPackWords", apart := false, narrowed := true }
def FnExactPackWordsUptoSaid : Prop := fnExactPackWordsUptoRow.holds Try.pinned (OpenSpec.upto fnExactPackWordsSpec)

/-- 'laws.FnPackWords', WHERE WHAT IT READS IS OF BULK AT MOST 1048576: true; the input reads as it did. -/
def fnPackWordsUptoRow : OpenClaim := { program := "ytekfncmhinbghaa", sum := "4bcc2c5ffada45d23f06a91ea6b966947b860b652ac243955a8655d6211a6376", func := "loop.example/pagetree/laws.FnPackWords", spec := "fnPackWords", apart := false, narrowed := true }
def FnPackWordsUptoSaid : Prop := fnPackWordsUptoRow.holds Try.pinned (OpenSpec.upto fnPackWordsSpec)

/-- 'laws.FnUnpackWordsSame', WHERE WHAT IT READS IS OF BULK AT MOST 1048576: true; the input reads as it did. -/
def fnUnpackWordsSameUptoRow : OpenClaim := { program := "ytekfncmhinbghaa", sum := "4bcc2c5ffada45d23f06a91ea6b966947b860b652ac243955a8655d6211a6376", func := "loop.example/pagetree/laws.FnUnpackWordsSame", spec := "fnUnpackWordsSame", apart := false, narrowed := true }
def FnUnpackWordsSameUptoSaid : Prop := fnUnpackWordsSameUptoRow.holds Try.pinned (OpenSpec.upto fnUnpackWordsSameSpec)

/-- 'laws.FnUnpackWords', WHERE WHAT IT READS IS OF BULK AT MOST 1048576: true; the input reads as it did. -/
def fnUnpackWordsUptoRow : OpenClaim := { program := "ytekfncmhinbghaa", sum := "4bcc2c5ffada45d23f06a91ea6b966947b860b652ac243955a8655d6211a6376", func := "loop.example/pagetree/laws.FnUnpackWords", spec := "fnUnpackWords", apart := false, narrowed := true }
def FnUnpackWordsUptoSaid : Prop := fnUnpackWordsUptoRow.holds Try.pinned (OpenSpec.upto fnUnpackWordsSpec)

/-- 'laws.FnExactUnpackWords', WHERE WHAT IT READS IS OF BULK AT MOST 1048576: true; the input reads as it did. -/
def fnExactUnpackWordsUptoRow : OpenClaim := { program := "ytekfncmhinbghaa", sum := "4bcc2c5ffada45d23f06a91ea6b966947b860b652ac243955a8655d6211a6376", func := "loop.example/pagetree/laws.FnExactUnpackWords", spec := "fnExactUnpackWords", apart := false, narrowed := true }
def FnExactUnpackWordsUptoSaid : Prop := fnExactUnpackWordsUptoRow.holds Try.pinned (OpenSpec.upto fnExactUnpackWordsSpec)

end Rows
end Go.Proofs.Ytekfncmhinbghaa
