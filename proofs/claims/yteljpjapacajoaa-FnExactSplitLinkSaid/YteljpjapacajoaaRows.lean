/-
  No cell of these rows narrows 'for every input' (looked for: loops, veiled, ifaces, maps, wideKeys, modest, calm, conditions, laid).
  DERIVED. THE GIVEN ROWS OF THIS SEAT. 14 by the template 'for every input the law returns true; each argument reads behind the call as it read before'; 0 by the template 'total and deterministic' (their statements: YteljpjapacajoaaTotals.lean).
  GIVEN WITH THE SEED: the statements are not yours to turn. If you find one false, say at which input.
  Laid BY PROGRAM, IN A SANDBOX (cutbox-rows.mjs): the forced cells as the released guide's own fill.sh prints them over the translation b22208815fcc0e4e… (all of the seat's roots in one cut). By AI agents, Wed Nov 11 2026. No macro, syntax, notation, axiom, sorry.
-/
import Derived.Test.YteljpjapacajoaaChecked
import GoSem.Claim
import GoSem.ClaimJoined
import GoSem.ClaimMapViews
import Derived.JoinedTies
import Derived.KernelRfl
namespace Go.Proofs.Yteljpjapacajoaa
/- THE CELL 'sum', in the pinned program and in every row, IS THE sha256 OF THE DUMP (.gsa) THAT YteljpjapacajoaaProg.lean LOADS. Nothing in Lean hashes anything: it is a label: what it is worth is what the hold of that sum in a sandbox is worth. -/
noncomputable def Try.pinned : Pinned := { name := "yteljpjapacajoaa", sum := "b22208815fcc0e4e5f7646cd63d2f69f25ee870c2112d34c17f3fe73dea987c6", checked := Try.checked }
namespace Rows
def none {H : Type} : Left H := { results := [], args := [] }

/-- 'laws.FnValidChainOne': WHATEVER THE INPUT: true; the input reads as it did. -/
def fnValidChainOneSpec : ChangeSpec := { name := "fnValidChainOne", fn := fun _ => fun
  | [d] => { results := [.lit (.bool true)], args := [d] }
  | _ => none }
def fnValidChainOneRow : OpenClaim := { program := "yteljpjapacajoaa", sum := "b22208815fcc0e4e5f7646cd63d2f69f25ee870c2112d34c17f3fe73dea987c6", func := "loop.example/pagetree/laws.FnValidChainOne", spec := "fnValidChainOne", apart := false }
def FnValidChainOneSaid : Prop := fnValidChainOneRow.holds Try.pinned (OpenSpec.ofChange fnValidChainOneSpec)

/-- ITS FALSE NEIGHBOUR: 'it returns false'. Refute it at one input. -/
def fnValidChainOneWrong : ChangeSpec := { name := "fnValidChainOne", fn := fun _ => fun
  | [d] => { results := [.lit (.bool false)], args := [d] }
  | _ => none }
def FnValidChainOneWrongFalsely : Prop := fnValidChainOneRow.holds Try.pinned (OpenSpec.ofChange fnValidChainOneWrong)

/-- 'laws.FnFindLinkHigh': WHATEVER THE INPUT: true; the input reads as it did. -/
def fnFindLinkHighSpec : ChangeSpec := { name := "fnFindLinkHigh", fn := fun _ => fun
  | [d] => { results := [.lit (.bool true)], args := [d] }
  | _ => none }
def fnFindLinkHighRow : OpenClaim := { program := "yteljpjapacajoaa", sum := "b22208815fcc0e4e5f7646cd63d2f69f25ee870c2112d34c17f3fe73dea987c6", func := "loop.example/pagetree/laws.FnFindLinkHigh", spec := "fnFindLinkHigh", apart := false }
def FnFindLinkHighSaid : Prop := fnFindLinkHighRow.holds Try.pinned (OpenSpec.ofChange fnFindLinkHighSpec)

/-- ITS FALSE NEIGHBOUR: 'it returns false'. Refute it at one input. -/
def fnFindLinkHighWrong : ChangeSpec := { name := "fnFindLinkHigh", fn := fun _ => fun
  | [d] => { results := [.lit (.bool false)], args := [d] }
  | _ => none }
def FnFindLinkHighWrongFalsely : Prop := fnFindLinkHighRow.holds Try.pinned (OpenSpec.ofChange fnFindLinkHighWrong)

/-- 'laws.FnFindLinkStart': WHATEVER THE INPUT: true; the input reads as it did. -/
def fnFindLinkStartSpec : ChangeSpec := { name := "fnFindLinkStart", fn := fun _ => fun
  | [d] => { results := [.lit (.bool true)], args := [d] }
  | _ => none }
def fnFindLinkStartRow : OpenClaim := { program := "yteljpjapacajoaa", sum := "b22208815fcc0e4e5f7646cd63d2f69f25ee870c2112d34c17f3fe73dea987c6", func := "loop.example/pagetree/laws.FnFindLinkStart", spec := "fnFindLinkStart", apart := false }
def FnFindLinkStartSaid : Prop := fnFindLinkStartRow.holds Try.pinned (OpenSpec.ofChange fnFindLinkStartSpec)

/-- ITS FALSE NEIGHBOUR: 'it returns false'. Refute it at one input. -/
def fnFindLinkStartWrong : ChangeSpec := { name := "fnFindLinkStart", fn := fun _ => fun
  | [d] => { results := [.lit (.bool false)], args := [d] }
  | _ => none }
def FnFindLinkStartWrongFalsely : Prop := fnFindLinkStartRow.holds Try.pinned (OpenSpec.ofChange fnFindLinkStartWrong)

/-- 'laws.FnChainKeys': WHATEVER THE INPUT: true; the input reads as it did. -/
def fnChainKeysSpec : ChangeSpec := { name := "fnChainKeys", fn := fun _ => fun
  | [d] => { results := [.lit (.bool true)], args := [d] }
  | _ => none }
def fnChainKeysRow : OpenClaim := { program := "yteljpjapacajoaa", sum := "b22208815fcc0e4e5f7646cd63d2f69f25ee870c2112d34c17f3fe73dea987c6", func := "loop.example/pagetree/laws.FnChainKeys", spec := "fnChainKeys", apart := false }
def FnChainKeysSaid : Prop := fnChainKeysRow.holds Try.pinned (OpenSpec.ofChange fnChainKeysSpec)

/-- ITS FALSE NEIGHBOUR: 'it returns false'. Refute it at one input. -/
def fnChainKeysWrong : ChangeSpec := { name := "fnChainKeys", fn := fun _ => fun
  | [d] => { results := [.lit (.bool false)], args := [d] }
  | _ => none }
def FnChainKeysWrongFalsely : Prop := fnChainKeysRow.holds Try.pinned (OpenSpec.ofChange fnChainKeysWrong)

/-- 'laws.FnChainKeysSplit': WHATEVER THE INPUT: true; the input reads as it did. -/
def fnChainKeysSplitSpec : ChangeSpec := { name := "fnChainKeysSplit", fn := fun _ => fun
  | [d] => { results := [.lit (.bool true)], args := [d] }
  | _ => none }
def fnChainKeysSplitRow : OpenClaim := { program := "yteljpjapacajoaa", sum := "b22208815fcc0e4e5f7646cd63d2f69f25ee870c2112d34c17f3fe73dea987c6", func := "loop.example/pagetree/laws.FnChainKeysSplit", spec := "fnChainKeysSplit", apart := false }
def FnChainKeysSplitSaid : Prop := fnChainKeysSplitRow.holds Try.pinned (OpenSpec.ofChange fnChainKeysSplitSpec)

/-- ITS FALSE NEIGHBOUR: 'it returns false'. Refute it at one input. -/
def fnChainKeysSplitWrong : ChangeSpec := { name := "fnChainKeysSplit", fn := fun _ => fun
  | [d] => { results := [.lit (.bool false)], args := [d] }
  | _ => none }
def FnChainKeysSplitWrongFalsely : Prop := fnChainKeysSplitRow.holds Try.pinned (OpenSpec.ofChange fnChainKeysSplitWrong)

/-- 'laws.FnFindLink': WHATEVER THE INPUT: true; the input reads as it did. -/
def fnFindLinkSpec : ChangeSpec := { name := "fnFindLink", fn := fun _ => fun
  | [d] => { results := [.lit (.bool true)], args := [d] }
  | _ => none }
def fnFindLinkRow : OpenClaim := { program := "yteljpjapacajoaa", sum := "b22208815fcc0e4e5f7646cd63d2f69f25ee870c2112d34c17f3fe73dea987c6", func := "loop.example/pagetree/laws.FnFindLink", spec := "fnFindLink", apart := false }
def FnFindLinkSaid : Prop := fnFindLinkRow.holds Try.pinned (OpenSpec.ofChange fnFindLinkSpec)

/-- ITS FALSE NEIGHBOUR: 'it returns false'. Refute it at one input. -/
def fnFindLinkWrong : ChangeSpec := { name := "fnFindLink", fn := fun _ => fun
  | [d] => { results := [.lit (.bool false)], args := [d] }
  | _ => none }
def FnFindLinkWrongFalsely : Prop := fnFindLinkRow.holds Try.pinned (OpenSpec.ofChange fnFindLinkWrong)

/-- 'laws.FnExactSplitLink': WHATEVER THE INPUT: true; the input reads as it did. -/
def fnExactSplitLinkSpec : ChangeSpec := { name := "fnExactSplitLink", fn := fun _ => fun
  | [d1, d2] => { results := [.lit (.bool true)], args := [d1, d2] }
  | _ => none }
def fnExactSplitLinkRow : OpenClaim := { program := "yteljpjapacajoaa", sum := "b22208815fcc0e4e5f7646cd63d2f69f25ee870c2112d34c17f3fe73dea987c6", func := "loop.example/pagetree/laws.FnExactSplitLink", spec := "fnExactSplitLink", apart := false }
def FnExactSplitLinkSaid : Prop := fnExactSplitLinkRow.holds Try.pinned (OpenSpec.ofChange fnExactSplitLinkSpec)

/-- ITS FALSE NEIGHBOUR: 'it returns false'. Refute it at one input. -/
def fnExactSplitLinkWrong : ChangeSpec := { name := "fnExactSplitLink", fn := fun _ => fun
  | [d1, d2] => { results := [.lit (.bool false)], args := [d1, d2] }
  | _ => none }
def FnExactSplitLinkWrongFalsely : Prop := fnExactSplitLinkRow.holds Try.pinned (OpenSpec.ofChange fnExactSplitLinkWrong)

/-- 'laws.FnSplitLinkSmall': WHATEVER THE INPUT: true; the input reads as it did. -/
def fnSplitLinkSmallSpec : ChangeSpec := { name := "fnSplitLinkSmall", fn := fun _ => fun
  | [d] => { results := [.lit (.bool true)], args := [d] }
  | _ => none }
def fnSplitLinkSmallRow : OpenClaim := { program := "yteljpjapacajoaa", sum := "b22208815fcc0e4e5f7646cd63d2f69f25ee870c2112d34c17f3fe73dea987c6", func := "loop.example/pagetree/laws.FnSplitLinkSmall", spec := "fnSplitLinkSmall", apart := false }
def FnSplitLinkSmallSaid : Prop := fnSplitLinkSmallRow.holds Try.pinned (OpenSpec.ofChange fnSplitLinkSmallSpec)

/-- ITS FALSE NEIGHBOUR: 'it returns false'. Refute it at one input. -/
def fnSplitLinkSmallWrong : ChangeSpec := { name := "fnSplitLinkSmall", fn := fun _ => fun
  | [d] => { results := [.lit (.bool false)], args := [d] }
  | _ => none }
def FnSplitLinkSmallWrongFalsely : Prop := fnSplitLinkSmallRow.holds Try.pinned (OpenSpec.ofChange fnSplitLinkSmallWrong)

/-- 'laws.FnSplitLinkFind': WHATEVER THE INPUT: true; the input reads as it did. -/
def fnSplitLinkFindSpec : ChangeSpec := { name := "fnSplitLinkFind", fn := fun _ => fun
  | [d] => { results := [.lit (.bool true)], args := [d] }
  | _ => none }
def fnSplitLinkFindRow : OpenClaim := { program := "yteljpjapacajoaa", sum := "b22208815fcc0e4e5f7646cd63d2f69f25ee870c2112d34c17f3fe73dea987c6", func := "loop.example/pagetree/laws.FnSplitLinkFind", spec := "fnSplitLinkFind", apart := false }
def FnSplitLinkFindSaid : Prop := fnSplitLinkFindRow.holds Try.pinned (OpenSpec.ofChange fnSplitLinkFindSpec)

/-- ITS FALSE NEIGHBOUR: 'it returns false'. Refute it at one input. -/
def fnSplitLinkFindWrong : ChangeSpec := { name := "fnSplitLinkFind", fn := fun _ => fun
  | [d] => { results := [.lit (.bool false)], args := [d] }
  | _ => none }
def FnSplitLinkFindWrongFalsely : Prop := fnSplitLinkFindRow.holds Try.pinned (OpenSpec.ofChange fnSplitLinkFindWrong)

/-- 'laws.FnSplitLink': WHATEVER THE INPUT: true; the input reads as it did. -/
def fnSplitLinkSpec : ChangeSpec := { name := "fnSplitLink", fn := fun _ => fun
  | [d] => { results := [.lit (.bool true)], args := [d] }
  | _ => none }
def fnSplitLinkRow : OpenClaim := { program := "yteljpjapacajoaa", sum := "b22208815fcc0e4e5f7646cd63d2f69f25ee870c2112d34c17f3fe73dea987c6", func := "loop.example/pagetree/laws.FnSplitLink", spec := "fnSplitLink", apart := false }
def FnSplitLinkSaid : Prop := fnSplitLinkRow.holds Try.pinned (OpenSpec.ofChange fnSplitLinkSpec)

/-- ITS FALSE NEIGHBOUR: 'it returns false'. Refute it at one input. -/
def fnSplitLinkWrong : ChangeSpec := { name := "fnSplitLink", fn := fun _ => fun
  | [d] => { results := [.lit (.bool false)], args := [d] }
  | _ => none }
def FnSplitLinkWrongFalsely : Prop := fnSplitLinkRow.holds Try.pinned (OpenSpec.ofChange fnSplitLinkWrong)

/-- 'laws.FnPutLinkTwice': WHATEVER THE INPUT: true; the input reads as it did. -/
def fnPutLinkTwiceSpec : ChangeSpec := { name := "fnPutLinkTwice", fn := fun _ => fun
  | [d] => { results := [.lit (.bool true)], args := [d] }
  | _ => none }
def fnPutLinkTwiceRow : OpenClaim := { program := "yteljpjapacajoaa", sum := "b22208815fcc0e4e5f7646cd63d2f69f25ee870c2112d34c17f3fe73dea987c6", func := "loop.example/pagetree/laws.FnPutLinkTwice", spec := "fnPutLinkTwice", inPlace := ["slices.overlaps[int]"], unfollowed := true, recurses := true, apart := false }
def FnPutLinkTwiceSaid : Prop := fnPutLinkTwiceRow.holds Try.pinned (OpenSpec.ofChange fnPutLinkTwiceSpec)

/-- ITS FALSE NEIGHBOUR: 'it returns false'. Refute it at one input. -/
def fnPutLinkTwiceWrong : ChangeSpec := { name := "fnPutLinkTwice", fn := fun _ => fun
  | [d] => { results := [.lit (.bool false)], args := [d] }
  | _ => none }
def FnPutLinkTwiceWrongFalsely : Prop := fnPutLinkTwiceRow.holds Try.pinned (OpenSpec.ofChange fnPutLinkTwiceWrong)

/-- 'laws.FnPutLinkFind': WHATEVER THE INPUT: true; the input reads as it did. -/
def fnPutLinkFindSpec : ChangeSpec := { name := "fnPutLinkFind", fn := fun _ => fun
  | [d] => { results := [.lit (.bool true)], args := [d] }
  | _ => none }
def fnPutLinkFindRow : OpenClaim := { program := "yteljpjapacajoaa", sum := "b22208815fcc0e4e5f7646cd63d2f69f25ee870c2112d34c17f3fe73dea987c6", func := "loop.example/pagetree/laws.FnPutLinkFind", spec := "fnPutLinkFind", inPlace := ["slices.overlaps[int]"], unfollowed := true, recurses := true, apart := false }
def FnPutLinkFindSaid : Prop := fnPutLinkFindRow.holds Try.pinned (OpenSpec.ofChange fnPutLinkFindSpec)

/-- ITS FALSE NEIGHBOUR: 'it returns false'. Refute it at one input. -/
def fnPutLinkFindWrong : ChangeSpec := { name := "fnPutLinkFind", fn := fun _ => fun
  | [d] => { results := [.lit (.bool false)], args := [d] }
  | _ => none }
def FnPutLinkFindWrongFalsely : Prop := fnPutLinkFindRow.holds Try.pinned (OpenSpec.ofChange fnPutLinkFindWrong)

/-- 'laws.FnPutLink': WHATEVER THE INPUT: true; the input reads as it did. -/
def fnPutLinkSpec : ChangeSpec := { name := "fnPutLink", fn := fun _ => fun
  | [d] => { results := [.lit (.bool true)], args := [d] }
  | _ => none }
def fnPutLinkRow : OpenClaim := { program := "yteljpjapacajoaa", sum := "b22208815fcc0e4e5f7646cd63d2f69f25ee870c2112d34c17f3fe73dea987c6", func := "loop.example/pagetree/laws.FnPutLink", spec := "fnPutLink", inPlace := ["slices.overlaps[int]"], unfollowed := true, recurses := true, apart := false }
def FnPutLinkSaid : Prop := fnPutLinkRow.holds Try.pinned (OpenSpec.ofChange fnPutLinkSpec)

/-- ITS FALSE NEIGHBOUR: 'it returns false'. Refute it at one input. -/
def fnPutLinkWrong : ChangeSpec := { name := "fnPutLink", fn := fun _ => fun
  | [d] => { results := [.lit (.bool false)], args := [d] }
  | _ => none }
def FnPutLinkWrongFalsely : Prop := fnPutLinkRow.holds Try.pinned (OpenSpec.ofChange fnPutLinkWrong)

/-- 'laws.FnExactPutLink': WHATEVER THE INPUT: true; the input reads as it did. -/
def fnExactPutLinkSpec : ChangeSpec := { name := "fnExactPutLink", fn := fun _ => fun
  | [d1, d2] => { results := [.lit (.bool true)], args := [d1, d2] }
  | _ => none }
def fnExactPutLinkRow : OpenClaim := { program := "yteljpjapacajoaa", sum := "b22208815fcc0e4e5f7646cd63d2f69f25ee870c2112d34c17f3fe73dea987c6", func := "loop.example/pagetree/laws.FnExactPutLink", spec := "fnExactPutLink", inPlace := ["slices.overlaps[int]"], unfollowed := true, recurses := true, apart := false }
def FnExactPutLinkSaid : Prop := fnExactPutLinkRow.holds Try.pinned (OpenSpec.ofChange fnExactPutLinkSpec)

/-- ITS FALSE NEIGHBOUR: 'it returns false'. Refute it at one input. -/
def fnExactPutLinkWrong : ChangeSpec := { name := "fnExactPutLink", fn := fun _ => fun
  | [d1, d2] => { results := [.lit (.bool false)], args := [d1, d2] }
  | _ => none }
def FnExactPutLinkWrongFalsely : Prop := fnExactPutLinkRow.holds Try.pinned (OpenSpec.ofChange fnExactPutLinkWrong)

/- THE SECOND FORM. 'bulk': how many values and letters a reading holds, each counted each time it is reached (what is shared counts as often as it is met; a slice's spare places count too). A statement '..UptoSaid' is the law's where the arguments, and the package variables that the reading takes, are together of bulk at most 1048576: NARROWER than '..Said'. Prove '..Said' where nothing that the law and all that it calls make is longer than what came in: it says more and counts as full. Else prove '..UptoSaid'. A law counts once. -/
mutual
def uptoBulk {H : Type} : DataW H → Nat
  | .lit (.string bytes) => bytes.length + 1
  | .lit _ => 1
  | .nil => 1
  | .ptr d => uptoBulk d + 1
  | .slice elems spare => uptoBulkAll elems + uptoBulkAll spare + 1
  | .agg parts => uptoBulkAll parts + 1
  | .iface _ d => uptoBulk d + 1
  | .map entries => uptoBulkEntries entries + 1
  | .held _ => 1
def uptoBulkAll {H : Type} : List (DataW H) → Nat
  | [] => 0
  | d :: r => uptoBulk d + uptoBulkAll r
def uptoBulkEntries {H : Type} : List (Lit × DataW H) → Nat
  | [] => 0
  | x :: r => uptoBulkEntry x + uptoBulkEntries r
def uptoBulkEntry {H : Type} : Lit × DataW H → Nat
  | (.string bytes, d) => bytes.length + uptoBulk d + 1
  | (_, d) => uptoBulk d + 1
 end
def uptoSmall : (H : Type) → List (DataW H) → Bool := fun _ ds => decide (uptoBulkAll ds ≤ 1048576)
def OpenSpec.upto (s : _root_.Go.ChangeSpec) : _root_.Go.OpenSpec := { _root_.Go.OpenSpec.ofChange s with cond := some uptoSmall }

/-- 'laws.FnValidChainOne', WHERE WHAT IT READS IS OF BULK AT MOST 1048576: true; the input reads as it did. -/
def fnValidChainOneUptoRow : OpenClaim := { program := "yteljpjapacajoaa", sum := "b22208815fcc0e4e5f7646cd63d2f69f25ee870c2112d34c17f3fe73dea987c6", func := "loop.example/pagetree/laws.FnValidChainOne", spec := "fnValidChainOne", apart := false, narrowed := true }
def FnValidChainOneUptoSaid : Prop := fnValidChainOneUptoRow.holds Try.pinned (OpenSpec.upto fnValidChainOneSpec)

/-- 'laws.FnFindLinkHigh', WHERE WHAT IT READS IS OF BULK AT MOST 1048576: true; the input reads as it did. -/
def fnFindLinkHighUptoRow : OpenClaim := { program := "yteljpjapacajoaa", sum := "b22208815fcc0e4e5f7646cd63d2f69f25ee870c2112d34c17f3fe73dea987c6", func := "loop.example/pagetree/laws.FnFindLinkHigh", spec := "fnFindLinkHigh", apart := false, narrowed := true }
def FnFindLinkHighUptoSaid : Prop := fnFindLinkHighUptoRow.holds Try.pinned (OpenSpec.upto fnFindLinkHighSpec)

/-- 'laws.FnFindLinkStart', WHERE WHAT IT READS IS OF BULK AT MOST 1048576: true; the input reads as it did. -/
def fnFindLinkStartUptoRow : OpenClaim := { program := "yteljpjapacajoaa", sum := "b22208815fcc0e4e5f7646cd63d2f69f25ee870c2112d34c17f3fe73dea987c6", func := "loop.example/pagetree/laws.FnFindLinkStart", spec := "fnFindLinkStart", apart := false, narrowed := true }
def FnFindLinkStartUptoSaid : Prop := fnFindLinkStartUptoRow.holds Try.pinned (OpenSpec.upto fnFindLinkStartSpec)

/-- 'laws.FnChainKeys', WHERE WHAT IT READS IS OF BULK AT MOST 1048576: true; the input reads as it did. -/
def fnChainKeysUptoRow : OpenClaim := { program := "yteljpjapacajoaa", sum := "b22208815fcc0e4e5f7646cd63d2f69f25ee870c2112d34c17f3fe73dea987c6", func := "loop.example/pagetree/laws.FnChainKeys", spec := "fnChainKeys", apart := false, narrowed := true }
def FnChainKeysUptoSaid : Prop := fnChainKeysUptoRow.holds Try.pinned (OpenSpec.upto fnChainKeysSpec)

/-- 'laws.FnChainKeysSplit', WHERE WHAT IT READS IS OF BULK AT MOST 1048576: true; the input reads as it did. -/
def fnChainKeysSplitUptoRow : OpenClaim := { program := "yteljpjapacajoaa", sum := "b22208815fcc0e4e5f7646cd63d2f69f25ee870c2112d34c17f3fe73dea987c6", func := "loop.example/pagetree/laws.FnChainKeysSplit", spec := "fnChainKeysSplit", apart := false, narrowed := true }
def FnChainKeysSplitUptoSaid : Prop := fnChainKeysSplitUptoRow.holds Try.pinned (OpenSpec.upto fnChainKeysSplitSpec)

/-- 'laws.FnFindLink', WHERE WHAT IT READS IS OF BULK AT MOST 1048576: true; the input reads as it did. -/
def fnFindLinkUptoRow : OpenClaim := { program := "yteljpjapacajoaa", sum := "b22208815fcc0e4e5f7646cd63d2f69f25ee870c2112d34c17f3fe73dea987c6", func := "loop.example/pagetree/laws.FnFindLink", spec := "fnFindLink", apart := false, narrowed := true }
def FnFindLinkUptoSaid : Prop := fnFindLinkUptoRow.holds Try.pinned (OpenSpec.upto fnFindLinkSpec)

/-- 'laws.FnExactSplitLink', WHERE WHAT IT READS IS OF BULK AT MOST 1048576: true; the input reads as it did. -/
def fnExactSplitLinkUptoRow : OpenClaim := { program := "yteljpjapacajoaa", sum := "b22208815fcc0e4e5f7646cd63d2f69f25ee870c2112d34c17f3fe73dea987c6", func := "loop.example/pagetree/laws.FnExactSplitLink", spec := "fnExactSplitLink", apart := false, narrowed := true }
def FnExactSplitLinkUptoSaid : Prop := fnExactSplitLinkUptoRow.holds Try.pinned (OpenSpec.upto fnExactSplitLinkSpec)

/-- 'laws.FnSplitLinkSmall', WHERE WHAT IT READS IS OF BULK AT MOST 1048576: true; the input reads as it did. -/
def fnSplitLinkSmallUptoRow : OpenClaim := { program := "yteljpjapacajoaa", sum := "b22208815fcc0e4e5f7646cd63d2f69f25ee870c2112d34c17f3fe73dea987c6", func := "loop.example/pagetree/laws.FnSplitLinkSmall", spec := "fnSplitLinkSmall", apart := false, narrowed := true }
def FnSplitLinkSmallUptoSaid : Prop := fnSplitLinkSmallUptoRow.holds Try.pinned (OpenSpec.upto fnSplitLinkSmallSpec)

/-- 'laws.FnSplitLinkFind', WHERE WHAT IT READS IS OF BULK AT MOST 1048576: true; the input reads as it did. -/
def fnSplitLinkFindUptoRow : OpenClaim := { program := "yteljpjapacajoaa", sum := "b22208815fcc0e4e5f7646cd63d2f69f25ee870c2112d34c17f3fe73dea987c6", func := "loop.example/pagetree/laws.FnSplitLinkFind", spec := "fnSplitLinkFind", apart := false, narrowed := true }
def FnSplitLinkFindUptoSaid : Prop := fnSplitLinkFindUptoRow.holds Try.pinned (OpenSpec.upto fnSplitLinkFindSpec)

/-- 'laws.FnSplitLink', WHERE WHAT IT READS IS OF BULK AT MOST 1048576: true; the input reads as it did. -/
def fnSplitLinkUptoRow : OpenClaim := { program := "yteljpjapacajoaa", sum := "b22208815fcc0e4e5f7646cd63d2f69f25ee870c2112d34c17f3fe73dea987c6", func := "loop.example/pagetree/laws.FnSplitLink", spec := "fnSplitLink", apart := false, narrowed := true }
def FnSplitLinkUptoSaid : Prop := fnSplitLinkUptoRow.holds Try.pinned (OpenSpec.upto fnSplitLinkSpec)

/-- 'laws.FnPutLinkTwice', WHERE WHAT IT READS IS OF BULK AT MOST 1048576: true; the input reads as it did. -/
def fnPutLinkTwiceUptoRow : OpenClaim := { program := "yteljpjapacajoaa", sum := "b22208815fcc0e4e5f7646cd63d2f69f25ee870c2112d34c17f3fe73dea987c6", func := "loop.example/pagetree/laws.FnPutLinkTwice", spec := "fnPutLinkTwice", inPlace := ["slices.overlaps[int]"], unfollowed := true, recurses := true, apart := false, narrowed := true }
def FnPutLinkTwiceUptoSaid : Prop := fnPutLinkTwiceUptoRow.holds Try.pinned (OpenSpec.upto fnPutLinkTwiceSpec)

/-- 'laws.FnPutLinkFind', WHERE WHAT IT READS IS OF BULK AT MOST 1048576: true; the input reads as it did. -/
def fnPutLinkFindUptoRow : OpenClaim := { program := "yteljpjapacajoaa", sum := "b22208815fcc0e4e5f7646cd63d2f69f25ee870c2112d34c17f3fe73dea987c6", func := "loop.example/pagetree/laws.FnPutLinkFind", spec := "fnPutLinkFind", inPlace := ["slices.overlaps[int]"], unfollowed := true, recurses := true, apart := false, narrowed := true }
def FnPutLinkFindUptoSaid : Prop := fnPutLinkFindUptoRow.holds Try.pinned (OpenSpec.upto fnPutLinkFindSpec)

/-- 'laws.FnPutLink', WHERE WHAT IT READS IS OF BULK AT MOST 1048576: true; the input reads as it did. -/
def fnPutLinkUptoRow : OpenClaim := { program := "yteljpjapacajoaa", sum := "b22208815fcc0e4e5f7646cd63d2f69f25ee870c2112d34c17f3fe73dea987c6", func := "loop.example/pagetree/laws.FnPutLink", spec := "fnPutLink", inPlace := ["slices.overlaps[int]"], unfollowed := true, recurses := true, apart := false, narrowed := true }
def FnPutLinkUptoSaid : Prop := fnPutLinkUptoRow.holds Try.pinned (OpenSpec.upto fnPutLinkSpec)

/-- 'laws.FnExactPutLink', WHERE WHAT IT READS IS OF BULK AT MOST 1048576: true; the input reads as it did. -/
def fnExactPutLinkUptoRow : OpenClaim := { program := "yteljpjapacajoaa", sum := "b22208815fcc0e4e5f7646cd63d2f69f25ee870c2112d34c17f3fe73dea987c6", func := "loop.example/pagetree/laws.FnExactPutLink", spec := "fnExactPutLink", inPlace := ["slices.overlaps[int]"], unfollowed := true, recurses := true, apart := false, narrowed := true }
def FnExactPutLinkUptoSaid : Prop := fnExactPutLinkUptoRow.holds Try.pinned (OpenSpec.upto fnExactPutLinkSpec)

end Rows
end Go.Proofs.Yteljpjapacajoaa
