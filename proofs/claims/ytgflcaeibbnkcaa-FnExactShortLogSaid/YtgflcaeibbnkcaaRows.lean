/-
  No cell of these rows narrows 'for every input' (looked for: loops, veiled, ifaces, maps, wideKeys, modest, calm, conditions, laid).
  DERIVED. THE GIVEN ROWS OF THIS SEAT. 15 by the template 'for every input the law returns true; each argument reads behind the call as it read before'; 0 by the template 'total and deterministic' (their statements: YtgflcaeibbnkcaaTotals.lean).
  GIVEN WITH THE SEED: the statements are not yours to turn. If you find one false, say at which input.
  Laid BY PROGRAM, IN A SANDBOX (cutbox-rows.mjs): the forced cells as the released guide's own fill.sh prints them over the translation 83ddf9e4ff7e830c… (all of the seat's roots in one cut). By AI agents, Wed Nov 11 2026. No macro, syntax, notation, axiom, sorry.
-/
import Derived.Test.YtgflcaeibbnkcaaChecked
import GoSem.Claim
import GoSem.ClaimJoined
import GoSem.ClaimMapViews
import Derived.JoinedTies
import Derived.KernelRfl
namespace Go.Proofs.Ytgflcaeibbnkcaa
/- THE CELL 'sum', in the pinned program and in every row, IS THE sha256 OF THE DUMP (.gsa) THAT YtgflcaeibbnkcaaProg.lean LOADS. Nothing in Lean hashes anything: it is a label: what it is worth is what the hold of that sum in a sandbox is worth. -/
noncomputable def Try.pinned : Pinned := { name := "ytgflcaeibbnkcaa", sum := "83ddf9e4ff7e830c77c7890833febffb7897740ff0e042c354695f6e98c8a3bd", checked := Try.checked }
namespace Rows
def none {H : Type} : Left H := { results := [], args := [] }

/-- 'laws.FnValidLog': WHATEVER THE INPUT: true; the input reads as it did. -/
def fnValidLogSpec : ChangeSpec := { name := "fnValidLog", fn := fun _ => fun
  | [d] => { results := [.lit (.bool true)], args := [d] }
  | _ => none }
def fnValidLogRow : OpenClaim := { program := "ytgflcaeibbnkcaa", sum := "83ddf9e4ff7e830c77c7890833febffb7897740ff0e042c354695f6e98c8a3bd", func := "loop.example/pagetree/laws.FnValidLog", spec := "fnValidLog", apart := false }
def FnValidLogSaid : Prop := fnValidLogRow.holds Try.pinned (OpenSpec.ofChange fnValidLogSpec)

/-- ITS FALSE NEIGHBOUR: 'it returns false'. Refute it at one input. -/
def fnValidLogWrong : ChangeSpec := { name := "fnValidLog", fn := fun _ => fun
  | [d] => { results := [.lit (.bool false)], args := [d] }
  | _ => none }
def FnValidLogWrongFalsely : Prop := fnValidLogRow.holds Try.pinned (OpenSpec.ofChange fnValidLogWrong)

/-- 'laws.FnExactValidLog': WHATEVER THE INPUT: true; the input reads as it did. -/
def fnExactValidLogSpec : ChangeSpec := { name := "fnExactValidLog", fn := fun _ => fun
  | [d] => { results := [.lit (.bool true)], args := [d] }
  | _ => none }
def fnExactValidLogRow : OpenClaim := { program := "ytgflcaeibbnkcaa", sum := "83ddf9e4ff7e830c77c7890833febffb7897740ff0e042c354695f6e98c8a3bd", func := "loop.example/pagetree/laws.FnExactValidLog", spec := "fnExactValidLog", apart := false }
def FnExactValidLogSaid : Prop := fnExactValidLogRow.holds Try.pinned (OpenSpec.ofChange fnExactValidLogSpec)

/-- ITS FALSE NEIGHBOUR: 'it returns false'. Refute it at one input. -/
def fnExactValidLogWrong : ChangeSpec := { name := "fnExactValidLog", fn := fun _ => fun
  | [d] => { results := [.lit (.bool false)], args := [d] }
  | _ => none }
def FnExactValidLogWrongFalsely : Prop := fnExactValidLogRow.holds Try.pinned (OpenSpec.ofChange fnExactValidLogWrong)

/-- 'laws.FnShortLogKeys': WHATEVER THE INPUT: true; the input reads as it did. -/
def fnShortLogKeysSpec : ChangeSpec := { name := "fnShortLogKeys", fn := fun _ => fun
  | [d] => { results := [.lit (.bool true)], args := [d] }
  | _ => none }
def fnShortLogKeysRow : OpenClaim := { program := "ytgflcaeibbnkcaa", sum := "83ddf9e4ff7e830c77c7890833febffb7897740ff0e042c354695f6e98c8a3bd", func := "loop.example/pagetree/laws.FnShortLogKeys", spec := "fnShortLogKeys", apart := false }
def FnShortLogKeysSaid : Prop := fnShortLogKeysRow.holds Try.pinned (OpenSpec.ofChange fnShortLogKeysSpec)

/-- ITS FALSE NEIGHBOUR: 'it returns false'. Refute it at one input. -/
def fnShortLogKeysWrong : ChangeSpec := { name := "fnShortLogKeys", fn := fun _ => fun
  | [d] => { results := [.lit (.bool false)], args := [d] }
  | _ => none }
def FnShortLogKeysWrongFalsely : Prop := fnShortLogKeysRow.holds Try.pinned (OpenSpec.ofChange fnShortLogKeysWrong)

/-- 'laws.FnShortLogTwice': WHATEVER THE INPUT: true; the input reads as it did. -/
def fnShortLogTwiceSpec : ChangeSpec := { name := "fnShortLogTwice", fn := fun _ => fun
  | [d] => { results := [.lit (.bool true)], args := [d] }
  | _ => none }
def fnShortLogTwiceRow : OpenClaim := { program := "ytgflcaeibbnkcaa", sum := "83ddf9e4ff7e830c77c7890833febffb7897740ff0e042c354695f6e98c8a3bd", func := "loop.example/pagetree/laws.FnShortLogTwice", spec := "fnShortLogTwice", apart := false }
def FnShortLogTwiceSaid : Prop := fnShortLogTwiceRow.holds Try.pinned (OpenSpec.ofChange fnShortLogTwiceSpec)

/-- ITS FALSE NEIGHBOUR: 'it returns false'. Refute it at one input. -/
def fnShortLogTwiceWrong : ChangeSpec := { name := "fnShortLogTwice", fn := fun _ => fun
  | [d] => { results := [.lit (.bool false)], args := [d] }
  | _ => none }
def FnShortLogTwiceWrongFalsely : Prop := fnShortLogTwiceRow.holds Try.pinned (OpenSpec.ofChange fnShortLogTwiceWrong)

/-- 'laws.FnExactShortLog': WHATEVER THE INPUT: true; the input reads as it did. -/
def fnExactShortLogSpec : ChangeSpec := { name := "fnExactShortLog", fn := fun _ => fun
  | [d] => { results := [.lit (.bool true)], args := [d] }
  | _ => none }
def fnExactShortLogRow : OpenClaim := { program := "ytgflcaeibbnkcaa", sum := "83ddf9e4ff7e830c77c7890833febffb7897740ff0e042c354695f6e98c8a3bd", func := "loop.example/pagetree/laws.FnExactShortLog", spec := "fnExactShortLog", apart := false }
def FnExactShortLogSaid : Prop := fnExactShortLogRow.holds Try.pinned (OpenSpec.ofChange fnExactShortLogSpec)

/-- ITS FALSE NEIGHBOUR: 'it returns false'. Refute it at one input. -/
def fnExactShortLogWrong : ChangeSpec := { name := "fnExactShortLog", fn := fun _ => fun
  | [d] => { results := [.lit (.bool false)], args := [d] }
  | _ => none }
def FnExactShortLogWrongFalsely : Prop := fnExactShortLogRow.holds Try.pinned (OpenSpec.ofChange fnExactShortLogWrong)

/-- 'laws.FnLogBetweenSame': WHATEVER THE INPUT: true; the input reads as it did. -/
def fnLogBetweenSameSpec : ChangeSpec := { name := "fnLogBetweenSame", fn := fun _ => fun
  | [d] => { results := [.lit (.bool true)], args := [d] }
  | _ => none }
def fnLogBetweenSameRow : OpenClaim := { program := "ytgflcaeibbnkcaa", sum := "83ddf9e4ff7e830c77c7890833febffb7897740ff0e042c354695f6e98c8a3bd", func := "loop.example/pagetree/laws.FnLogBetweenSame", spec := "fnLogBetweenSame", apart := false }
def FnLogBetweenSameSaid : Prop := fnLogBetweenSameRow.holds Try.pinned (OpenSpec.ofChange fnLogBetweenSameSpec)

/-- ITS FALSE NEIGHBOUR: 'it returns false'. Refute it at one input. -/
def fnLogBetweenSameWrong : ChangeSpec := { name := "fnLogBetweenSame", fn := fun _ => fun
  | [d] => { results := [.lit (.bool false)], args := [d] }
  | _ => none }
def FnLogBetweenSameWrongFalsely : Prop := fnLogBetweenSameRow.holds Try.pinned (OpenSpec.ofChange fnLogBetweenSameWrong)

/-- 'laws.FnExactLogBetween': WHATEVER THE INPUT: true; the input reads as it did. -/
def fnExactLogBetweenSpec : ChangeSpec := { name := "fnExactLogBetween", fn := fun _ => fun
  | [d1, d2] => { results := [.lit (.bool true)], args := [d1, d2] }
  | _ => none }
def fnExactLogBetweenRow : OpenClaim := { program := "ytgflcaeibbnkcaa", sum := "83ddf9e4ff7e830c77c7890833febffb7897740ff0e042c354695f6e98c8a3bd", func := "loop.example/pagetree/laws.FnExactLogBetween", spec := "fnExactLogBetween", apart := false }
def FnExactLogBetweenSaid : Prop := fnExactLogBetweenRow.holds Try.pinned (OpenSpec.ofChange fnExactLogBetweenSpec)

/-- ITS FALSE NEIGHBOUR: 'it returns false'. Refute it at one input. -/
def fnExactLogBetweenWrong : ChangeSpec := { name := "fnExactLogBetween", fn := fun _ => fun
  | [d1, d2] => { results := [.lit (.bool false)], args := [d1, d2] }
  | _ => none }
def FnExactLogBetweenWrongFalsely : Prop := fnExactLogBetweenRow.holds Try.pinned (OpenSpec.ofChange fnExactLogBetweenWrong)

/-- 'laws.FnLogBetweenShort': WHATEVER THE INPUT: true; the input reads as it did. -/
def fnLogBetweenShortSpec : ChangeSpec := { name := "fnLogBetweenShort", fn := fun _ => fun
  | [d] => { results := [.lit (.bool true)], args := [d] }
  | _ => none }
def fnLogBetweenShortRow : OpenClaim := { program := "ytgflcaeibbnkcaa", sum := "83ddf9e4ff7e830c77c7890833febffb7897740ff0e042c354695f6e98c8a3bd", func := "loop.example/pagetree/laws.FnLogBetweenShort", spec := "fnLogBetweenShort", apart := false }
def FnLogBetweenShortSaid : Prop := fnLogBetweenShortRow.holds Try.pinned (OpenSpec.ofChange fnLogBetweenShortSpec)

/-- ITS FALSE NEIGHBOUR: 'it returns false'. Refute it at one input. -/
def fnLogBetweenShortWrong : ChangeSpec := { name := "fnLogBetweenShort", fn := fun _ => fun
  | [d] => { results := [.lit (.bool false)], args := [d] }
  | _ => none }
def FnLogBetweenShortWrongFalsely : Prop := fnLogBetweenShortRow.holds Try.pinned (OpenSpec.ofChange fnLogBetweenShortWrong)

/-- 'laws.FnReplayLogMark': WHATEVER THE INPUT: true; the input reads as it did. -/
def fnReplayLogMarkSpec : ChangeSpec := { name := "fnReplayLogMark", fn := fun _ => fun
  | [d] => { results := [.lit (.bool true)], args := [d] }
  | _ => none }
def fnReplayLogMarkRow : OpenClaim := { program := "ytgflcaeibbnkcaa", sum := "83ddf9e4ff7e830c77c7890833febffb7897740ff0e042c354695f6e98c8a3bd", func := "loop.example/pagetree/laws.FnReplayLogMark", spec := "fnReplayLogMark", inPlace := ["slices.overlaps[loop.example/pagetree/impl.Pair]"], unfollowed := true, recurses := true, apart := false }
def FnReplayLogMarkSaid : Prop := fnReplayLogMarkRow.holds Try.pinned (OpenSpec.ofChange fnReplayLogMarkSpec)

/-- ITS FALSE NEIGHBOUR: 'it returns false'. Refute it at one input. -/
def fnReplayLogMarkWrong : ChangeSpec := { name := "fnReplayLogMark", fn := fun _ => fun
  | [d] => { results := [.lit (.bool false)], args := [d] }
  | _ => none }
def FnReplayLogMarkWrongFalsely : Prop := fnReplayLogMarkRow.holds Try.pinned (OpenSpec.ofChange fnReplayLogMarkWrong)

/-- 'laws.FnReplayLogPart': WHATEVER THE INPUT: true; the input reads as it did. -/
def fnReplayLogPartSpec : ChangeSpec := { name := "fnReplayLogPart", fn := fun _ => fun
  | [d] => { results := [.lit (.bool true)], args := [d] }
  | _ => none }
def fnReplayLogPartRow : OpenClaim := { program := "ytgflcaeibbnkcaa", sum := "83ddf9e4ff7e830c77c7890833febffb7897740ff0e042c354695f6e98c8a3bd", func := "loop.example/pagetree/laws.FnReplayLogPart", spec := "fnReplayLogPart", inPlace := ["slices.overlaps[loop.example/pagetree/impl.Pair]"], unfollowed := true, recurses := true, apart := false }
def FnReplayLogPartSaid : Prop := fnReplayLogPartRow.holds Try.pinned (OpenSpec.ofChange fnReplayLogPartSpec)

/-- ITS FALSE NEIGHBOUR: 'it returns false'. Refute it at one input. -/
def fnReplayLogPartWrong : ChangeSpec := { name := "fnReplayLogPart", fn := fun _ => fun
  | [d] => { results := [.lit (.bool false)], args := [d] }
  | _ => none }
def FnReplayLogPartWrongFalsely : Prop := fnReplayLogPartRow.holds Try.pinned (OpenSpec.ofChange fnReplayLogPartWrong)

/-- 'laws.FnReplayLogTwice': WHATEVER THE INPUT: true; the input reads as it did. -/
def fnReplayLogTwiceSpec : ChangeSpec := { name := "fnReplayLogTwice", fn := fun _ => fun
  | [d] => { results := [.lit (.bool true)], args := [d] }
  | _ => none }
def fnReplayLogTwiceRow : OpenClaim := { program := "ytgflcaeibbnkcaa", sum := "83ddf9e4ff7e830c77c7890833febffb7897740ff0e042c354695f6e98c8a3bd", func := "loop.example/pagetree/laws.FnReplayLogTwice", spec := "fnReplayLogTwice", inPlace := ["slices.overlaps[loop.example/pagetree/impl.Pair]"], unfollowed := true, recurses := true, apart := false }
def FnReplayLogTwiceSaid : Prop := fnReplayLogTwiceRow.holds Try.pinned (OpenSpec.ofChange fnReplayLogTwiceSpec)

/-- ITS FALSE NEIGHBOUR: 'it returns false'. Refute it at one input. -/
def fnReplayLogTwiceWrong : ChangeSpec := { name := "fnReplayLogTwice", fn := fun _ => fun
  | [d] => { results := [.lit (.bool false)], args := [d] }
  | _ => none }
def FnReplayLogTwiceWrongFalsely : Prop := fnReplayLogTwiceRow.holds Try.pinned (OpenSpec.ofChange fnReplayLogTwiceWrong)

/-- 'laws.FnLogBetween': WHATEVER THE INPUT: true; the input reads as it did. -/
def fnLogBetweenSpec : ChangeSpec := { name := "fnLogBetween", fn := fun _ => fun
  | [d] => { results := [.lit (.bool true)], args := [d] }
  | _ => none }
def fnLogBetweenRow : OpenClaim := { program := "ytgflcaeibbnkcaa", sum := "83ddf9e4ff7e830c77c7890833febffb7897740ff0e042c354695f6e98c8a3bd", func := "loop.example/pagetree/laws.FnLogBetween", spec := "fnLogBetween", inPlace := ["slices.overlaps[loop.example/pagetree/impl.Pair]"], unfollowed := true, recurses := true, apart := false }
def FnLogBetweenSaid : Prop := fnLogBetweenRow.holds Try.pinned (OpenSpec.ofChange fnLogBetweenSpec)

/-- ITS FALSE NEIGHBOUR: 'it returns false'. Refute it at one input. -/
def fnLogBetweenWrong : ChangeSpec := { name := "fnLogBetween", fn := fun _ => fun
  | [d] => { results := [.lit (.bool false)], args := [d] }
  | _ => none }
def FnLogBetweenWrongFalsely : Prop := fnLogBetweenRow.holds Try.pinned (OpenSpec.ofChange fnLogBetweenWrong)

/-- 'laws.FnShortLog': WHATEVER THE INPUT: true; the input reads as it did. -/
def fnShortLogSpec : ChangeSpec := { name := "fnShortLog", fn := fun _ => fun
  | [d] => { results := [.lit (.bool true)], args := [d] }
  | _ => none }
def fnShortLogRow : OpenClaim := { program := "ytgflcaeibbnkcaa", sum := "83ddf9e4ff7e830c77c7890833febffb7897740ff0e042c354695f6e98c8a3bd", func := "loop.example/pagetree/laws.FnShortLog", spec := "fnShortLog", inPlace := ["slices.overlaps[loop.example/pagetree/impl.Pair]"], unfollowed := true, recurses := true, apart := false }
def FnShortLogSaid : Prop := fnShortLogRow.holds Try.pinned (OpenSpec.ofChange fnShortLogSpec)

/-- ITS FALSE NEIGHBOUR: 'it returns false'. Refute it at one input. -/
def fnShortLogWrong : ChangeSpec := { name := "fnShortLog", fn := fun _ => fun
  | [d] => { results := [.lit (.bool false)], args := [d] }
  | _ => none }
def FnShortLogWrongFalsely : Prop := fnShortLogRow.holds Try.pinned (OpenSpec.ofChange fnShortLogWrong)

/-- 'laws.FnReplayLog': WHATEVER THE INPUT: true; the input reads as it did. -/
def fnReplayLogSpec : ChangeSpec := { name := "fnReplayLog", fn := fun _ => fun
  | [d] => { results := [.lit (.bool true)], args := [d] }
  | _ => none }
def fnReplayLogRow : OpenClaim := { program := "ytgflcaeibbnkcaa", sum := "83ddf9e4ff7e830c77c7890833febffb7897740ff0e042c354695f6e98c8a3bd", func := "loop.example/pagetree/laws.FnReplayLog", spec := "fnReplayLog", inPlace := ["slices.overlaps[loop.example/pagetree/impl.Pair]"], unfollowed := true, recurses := true, apart := false }
def FnReplayLogSaid : Prop := fnReplayLogRow.holds Try.pinned (OpenSpec.ofChange fnReplayLogSpec)

/-- ITS FALSE NEIGHBOUR: 'it returns false'. Refute it at one input. -/
def fnReplayLogWrong : ChangeSpec := { name := "fnReplayLog", fn := fun _ => fun
  | [d] => { results := [.lit (.bool false)], args := [d] }
  | _ => none }
def FnReplayLogWrongFalsely : Prop := fnReplayLogRow.holds Try.pinned (OpenSpec.ofChange fnReplayLogWrong)

/-- 'laws.FnExactReplayLog': WHATEVER THE INPUT: true; the input reads as it did. -/
def fnExactReplayLogSpec : ChangeSpec := { name := "fnExactReplayLog", fn := fun _ => fun
  | [d1, d2] => { results := [.lit (.bool true)], args := [d1, d2] }
  | _ => none }
def fnExactReplayLogRow : OpenClaim := { program := "ytgflcaeibbnkcaa", sum := "83ddf9e4ff7e830c77c7890833febffb7897740ff0e042c354695f6e98c8a3bd", func := "loop.example/pagetree/laws.FnExactReplayLog", spec := "fnExactReplayLog", inPlace := ["slices.overlaps[loop.example/pagetree/impl.Pair]"], unfollowed := true, recurses := true, apart := false }
def FnExactReplayLogSaid : Prop := fnExactReplayLogRow.holds Try.pinned (OpenSpec.ofChange fnExactReplayLogSpec)

/-- ITS FALSE NEIGHBOUR: 'it returns false'. Refute it at one input. -/
def fnExactReplayLogWrong : ChangeSpec := { name := "fnExactReplayLog", fn := fun _ => fun
  | [d1, d2] => { results := [.lit (.bool false)], args := [d1, d2] }
  | _ => none }
def FnExactReplayLogWrongFalsely : Prop := fnExactReplayLogRow.holds Try.pinned (OpenSpec.ofChange fnExactReplayLogWrong)

/- THE SECOND FORM. 'bulk': how many values and letters a reading holds, each counted each time it is reached (what is shared counts as often as it is met; a slice's spare places count too). A statement '..UptoSaid' is the law's where the arguments, and the package variables that the reading takes, are together of bulk at most 1048576: NARROWER than '..Said'. Prove '..Said' where nothing that the law and all that it calls make is longer than what came in: it says more and counts as full. Else prove '..UptoSaid'. A law counts once. -/
mutual
def uptoBulk {H : Type} : DataW H → Nat
  | .lit (.string bytes) => bytes.length + 1
  | .lit _ => 1
  | .nil => 1
  | .ptr d => uptoBulk d + 1
  | .slice elems spare => uptoBulkAll elems + uptoBulkAll spare + 1
  | .agg parts => uptoBulkAll parts + 1
  | .iface _ d => uptoBulk d + 1
  | .map entries => uptoBulkEntries entries + 1
  | .held _ => 1
def uptoBulkAll {H : Type} : List (DataW H) → Nat
  | [] => 0
  | d :: r => uptoBulk d + uptoBulkAll r
def uptoBulkEntries {H : Type} : List (Lit × DataW H) → Nat
  | [] => 0
  | x :: r => uptoBulkEntry x + uptoBulkEntries r
def uptoBulkEntry {H : Type} : Lit × DataW H → Nat
  | (.string bytes, d) => bytes.length + uptoBulk d + 1
  | (_, d) => uptoBulk d + 1
 end
def uptoSmall : (H : Type) → List (DataW H) → Bool := fun _ ds => decide (uptoBulkAll ds ≤ 1048576)
def OpenSpec.upto (s : _root_.Go.ChangeSpec) : _root_.Go.OpenSpec := { _root_.Go.OpenSpec.ofChange s with cond := some uptoSmall }

/-- 'laws.FnValidLog', WHERE WHAT IT READS IS OF BULK AT MOST 1048576: true; the input reads as it did. -/
def fnValidLogUptoRow : OpenClaim := { program := "ytgflcaeibbnkcaa", sum := "83ddf9e4ff7e830c77c7890833febffb7897740ff0e042c354695f6e98c8a3bd", func := "loop.example/pagetree/laws.FnValidLog", spec := "fnValidLog", apart := false, narrowed := true }
def FnValidLogUptoSaid : Prop := fnValidLogUptoRow.holds Try.pinned (OpenSpec.upto fnValidLogSpec)

/-- 'laws.FnExactValidLog', WHERE WHAT IT READS IS OF BULK AT MOST 1048576: true; the input reads as it did. -/
def fnExactValidLogUptoRow : OpenClaim := { program := "ytgflcaeibbnkcaa", sum := "83ddf9e4ff7e830c77c7890833febffb7897740ff0e042c354695f6e98c8a3bd", func := "loop.example/pagetree/laws.FnExactValidLog", spec := "fnExactValidLog", apart := false, narrowed := true }
def FnExactValidLogUptoSaid : Prop := fnExactValidLogUptoRow.holds Try.pinned (OpenSpec.upto fnExactValidLogSpec)

/-- 'laws.FnShortLogKeys', WHERE WHAT IT READS IS OF BULK AT MOST 1048576: true; the input reads as it did. -/
def fnShortLogKeysUptoRow : OpenClaim := { program := "ytgflcaeibbnkcaa", sum := "83ddf9e4ff7e830c77c7890833febffb7897740ff0e042c354695f6e98c8a3bd", func := "loop.example/pagetree/laws.FnShortLogKeys", spec := "fnShortLogKeys", apart := false, narrowed := true }
def FnShortLogKeysUptoSaid : Prop := fnShortLogKeysUptoRow.holds Try.pinned (OpenSpec.upto fnShortLogKeysSpec)

/-- 'laws.FnShortLogTwice', WHERE WHAT IT READS IS OF BULK AT MOST 1048576: true; the input reads as it did. -/
def fnShortLogTwiceUptoRow : OpenClaim := { program := "ytgflcaeibbnkcaa", sum := "83ddf9e4ff7e830c77c7890833febffb7897740ff0e042c354695f6e98c8a3bd", func := "loop.example/pagetree/laws.FnShortLogTwice", spec := "fnShortLogTwice", apart := false, narrowed := true }
def FnShortLogTwiceUptoSaid : Prop := fnShortLogTwiceUptoRow.holds Try.pinned (OpenSpec.upto fnShortLogTwiceSpec)

/-- 'laws.FnExactShortLog', WHERE WHAT IT READS IS OF BULK AT MOST 1048576: true; the input reads as it did. -/
def fnExactShortLogUptoRow : OpenClaim := { program := "ytgflcaeibbnkcaa", sum := "83ddf9e4ff7e830c77c7890833febffb7897740ff0e042c354695f6e98c8a3bd", func := "loop.example/pagetree/laws.FnExactShortLog", spec := "fnExactShortLog", apart := false, narrowed := true }
def FnExactShortLogUptoSaid : Prop := fnExactShortLogUptoRow.holds Try.pinned (OpenSpec.upto fnExactShortLogSpec)

/-- 'laws.FnLogBetweenSame', WHERE WHAT IT READS IS OF BULK AT MOST 1048576: true; the input reads as it did. -/
def fnLogBetweenSameUptoRow : OpenClaim := { program := "ytgflcaeibbnkcaa", sum := "83ddf9e4ff7e830c77c7890833febffb7897740ff0e042c354695f6e98c8a3bd", func := "loop.example/pagetree/laws.FnLogBetweenSame", spec := "fnLogBetweenSame", apart := false, narrowed := true }
def FnLogBetweenSameUptoSaid : Prop := fnLogBetweenSameUptoRow.holds Try.pinned (OpenSpec.upto fnLogBetweenSameSpec)

/-- 'laws.FnExactLogBetween', WHERE WHAT IT READS IS OF BULK AT MOST 1048576: true; the input reads as it did. -/
def fnExactLogBetweenUptoRow : OpenClaim := { program := "ytgflcaeibbnkcaa", sum := "83ddf9e4ff7e830c77c7890833febffb7897740ff0e042c354695f6e98c8a3bd", func := "loop.example/pagetree/laws.FnExactLogBetween", spec := "fnExactLogBetween", apart := false, narrowed := true }
def FnExactLogBetweenUptoSaid : Prop := fnExactLogBetweenUptoRow.holds Try.pinned (OpenSpec.upto fnExactLogBetweenSpec)

/-- 'laws.FnLogBetweenShort', WHERE WHAT IT READS IS OF BULK AT MOST 1048576: true; the input reads as it did. -/
def fnLogBetweenShortUptoRow : OpenClaim := { program := "ytgflcaeibbnkcaa", sum := "83ddf9e4ff7e830c77c7890833febffb7897740ff0e042c354695f6e98c8a3bd", func := "loop.example/pagetree/laws.FnLogBetweenShort", spec := "fnLogBetweenShort", apart := false, narrowed := true }
def FnLogBetweenShortUptoSaid : Prop := fnLogBetweenShortUptoRow.holds Try.pinned (OpenSpec.upto fnLogBetweenShortSpec)

/-- 'laws.FnReplayLogMark', WHERE WHAT IT READS IS OF BULK AT MOST 1048576: true; the input reads as it did. -/
def fnReplayLogMarkUptoRow : OpenClaim := { program := "ytgflcaeibbnkcaa", sum := "83ddf9e4ff7e830c77c7890833febffb7897740ff0e042c354695f6e98c8a3bd", func := "loop.example/pagetree/laws.FnReplayLogMark", spec := "fnReplayLogMark", inPlace := ["slices.overlaps[loop.example/pagetree/impl.Pair]"], unfollowed := true, recurses := true, apart := false, narrowed := true }
def FnReplayLogMarkUptoSaid : Prop := fnReplayLogMarkUptoRow.holds Try.pinned (OpenSpec.upto fnReplayLogMarkSpec)

/-- 'laws.FnReplayLogPart', WHERE WHAT IT READS IS OF BULK AT MOST 1048576: true; the input reads as it did. -/
def fnReplayLogPartUptoRow : OpenClaim := { program := "ytgflcaeibbnkcaa", sum := "83ddf9e4ff7e830c77c7890833febffb7897740ff0e042c354695f6e98c8a3bd", func := "loop.example/pagetree/laws.FnReplayLogPart", spec := "fnReplayLogPart", inPlace := ["slices.overlaps[loop.example/pagetree/impl.Pair]"], unfollowed := true, recurses := true, apart := false, narrowed := true }
def FnReplayLogPartUptoSaid : Prop := fnReplayLogPartUptoRow.holds Try.pinned (OpenSpec.upto fnReplayLogPartSpec)

/-- 'laws.FnReplayLogTwice', WHERE WHAT IT READS IS OF BULK AT MOST 1048576: true; the input reads as it did. -/
def fnReplayLogTwiceUptoRow : OpenClaim := { program := "ytgflcaeibbnkcaa", sum := "83ddf9e4ff7e830c77c7890833febffb7897740ff0e042c354695f6e98c8a3bd", func := "loop.example/pagetree/laws.FnReplayLogTwice", spec := "fnReplayLogTwice", inPlace := ["slices.overlaps[loop.example/pagetree/impl.Pair]"], unfollowed := true, recurses := true, apart := false, narrowed := true }
def FnReplayLogTwiceUptoSaid : Prop := fnReplayLogTwiceUptoRow.holds Try.pinned (OpenSpec.upto fnReplayLogTwiceSpec)

/-- 'laws.FnLogBetween', WHERE WHAT IT READS IS OF BULK AT MOST 1048576: true; the input reads as it did. -/
def fnLogBetweenUptoRow : OpenClaim := { program := "ytgflcaeibbnkcaa", sum := "83ddf9e4ff7e830c77c7890833febffb7897740ff0e042c354695f6e98c8a3bd", func := "loop.example/pagetree/laws.FnLogBetween", spec := "fnLogBetween", inPlace := ["slices.overlaps[loop.example/pagetree/impl.Pair]"], unfollowed := true, recurses := true, apart := false, narrowed := true }
def FnLogBetweenUptoSaid : Prop := fnLogBetweenUptoRow.holds Try.pinned (OpenSpec.upto fnLogBetweenSpec)

/-- 'laws.FnShortLog', WHERE WHAT IT READS IS OF BULK AT MOST 1048576: true; the input reads as it did. -/
def fnShortLogUptoRow : OpenClaim := { program := "ytgflcaeibbnkcaa", sum := "83ddf9e4ff7e830c77c7890833febffb7897740ff0e042c354695f6e98c8a3bd", func := "loop.example/pagetree/laws.FnShortLog", spec := "fnShortLog", inPlace := ["slices.overlaps[loop.example/pagetree/impl.Pair]"], unfollowed := true, recurses := true, apart := false, narrowed := true }
def FnShortLogUptoSaid : Prop := fnShortLogUptoRow.holds Try.pinned (OpenSpec.upto fnShortLogSpec)

/-- 'laws.FnReplayLog', WHERE WHAT IT READS IS OF BULK AT MOST 1048576: true; the input reads as it did. -/
def fnReplayLogUptoRow : OpenClaim := { program := "ytgflcaeibbnkcaa", sum := "83ddf9e4ff7e830c77c7890833febffb7897740ff0e042c354695f6e98c8a3bd", func := "loop.example/pagetree/laws.FnReplayLog", spec := "fnReplayLog", inPlace := ["slices.overlaps[loop.example/pagetree/impl.Pair]"], unfollowed := true, recurses := true, apart := false, narrowed := true }
def FnReplayLogUptoSaid : Prop := fnReplayLogUptoRow.holds Try.pinned (OpenSpec.upto fnReplayLogSpec)

/-- 'laws.FnExactReplayLog', WHERE WHAT IT READS IS OF BULK AT MOST 1048576: true; the input reads as it did. -/
def fnExactReplayLogUptoRow : OpenClaim := { program := "ytgflcaeibbnkcaa", sum := "83ddf9e4ff7e830c77c7890833febffb7897740ff0e042c354695f6e98c8a3bd", func := "loop.example/pagetree/laws.FnExactReplayLog", spec := "fnExactReplayLog", inPlace := ["slices.overlaps[loop.example/pagetree/impl.Pair]"], unfollowed := true, recurses := true, apart := false, narrowed := true }
def FnExactReplayLogUptoSaid : Prop := fnExactReplayLogUptoRow.holds Try.pinned (OpenSpec.upto fnExactReplayLogSpec)

end Rows
end Go.Proofs.Ytgflcaeibbnkcaa
