/-
  DERIVED. GIVEN WITH THE SEED: THE CARDS: each row of YtemejgglbhjodaaGreatDoorRows.lean that lists a variable, with what it lists TIED to the program's text (the seventh form; the later family's looks); each row that meets fmt, with fmt's text TOLD by the authors' own Lean function (tested against real Go, not proved from fmt's source: count such statements apart). THE CARD IS WHAT COUNTS. Prove the row's statement (the work); the ties are given (YtemejgglbhjodaaGreatDoorTie.lean); close each card by the builder's one call (the guide's Derived/Test/ToyasCard.lean, 'card_holds'). Laid BY PROGRAM, IN A SANDBOX (cutbox-door.mjs). By AI agents, Wed Nov 11 2026. No macro, syntax, notation, axiom, sorry.
-/
import Derived.Test.YtemejgglbhjodaaGreatDoorRows
import GoSem.ClaimSeven
namespace Go.Proofs.YtemejgglbhjodaaGreatDoor
namespace Rows

/-- THE TIED CARD OF 'laws.FnPageTextRoot'. -/
def fnPageTextRootCard : Claim7 := { stood := { row := fnPageTextRootRow, standIns := [], harness := (true, "ffc965ebab3b4f46face1f8cfe82471ad686a5b506f194f3dcdf81a67ea81070"), looks := true }, kinds := [], alts := [], laidByText := true, laidKinds := [.data, .data, .data], laidTests := true, laidLooks := .later }
def FnPageTextRootCardSaid : Prop := Claim7.holds Tryz.pinned (.plain (OpenSpec.ofChange fnPageTextRootSpec)) fnPageTextRootCard

/-- THE TIED CARD OF 'laws.FnPageText'. -/
def fnPageTextCard : Claim7 := { stood := { row := fnPageTextRow, standIns := [], harness := (true, "ffc965ebab3b4f46face1f8cfe82471ad686a5b506f194f3dcdf81a67ea81070"), looks := true }, kinds := [], alts := [], laidByText := true, laidKinds := [.data, .data, .data, .data, .sentinel, .sentinel, .pinned], laidTests := true, laidLooks := .later }
def FnPageTextCardSaid : Prop := Claim7.holds Tryz.pinned (.plain (OpenSpec.ofChange fnPageTextSpec)) fnPageTextCard

/-- THE TIED CARD OF 'laws.FnSessionQuestions'. -/
def fnSessionQuestionsCard : Claim7 := { stood := { row := fnSessionQuestionsRow, standIns := [], harness := (true, "ffc965ebab3b4f46face1f8cfe82471ad686a5b506f194f3dcdf81a67ea81070"), looks := true }, kinds := [], alts := [], laidByText := true, laidKinds := [.data, .data, .data, .data, .sentinel, .sentinel, .pinned], laidTests := true, laidLooks := .later }
def FnSessionQuestionsCardSaid : Prop := Claim7.holds Tryz.pinned (.plain (OpenSpec.ofChange fnSessionQuestionsSpec)) fnSessionQuestionsCard

/-- THE TIED CARD OF 'laws.FnSessionRefuse'. -/
def fnSessionRefuseCard : Claim7 := { stood := { row := fnSessionRefuseRow, standIns := [], harness := (true, "ffc965ebab3b4f46face1f8cfe82471ad686a5b506f194f3dcdf81a67ea81070"), looks := true }, kinds := [], alts := [], laidByText := true, laidKinds := [.data, .data, .data, .data, .sentinel, .sentinel, .pinned], laidTests := true, laidLooks := .later }
def FnSessionRefuseCardSaid : Prop := Claim7.holds Tryz.pinned (.plain (OpenSpec.ofChange fnSessionRefuseSpec)) fnSessionRefuseCard

/-- THE TIED CARD OF 'laws.FnSessionSplit'. -/
def fnSessionSplitCard : Claim7 := { stood := { row := fnSessionSplitRow, standIns := [], harness := (true, "ffc965ebab3b4f46face1f8cfe82471ad686a5b506f194f3dcdf81a67ea81070"), looks := true }, kinds := [], alts := [], laidByText := true, laidKinds := [.data, .data, .data, .data, .sentinel, .sentinel, .pinned], laidTests := true, laidLooks := .later }
def FnSessionSplitCardSaid : Prop := Claim7.holds Tryz.pinned (.plain (OpenSpec.ofChange fnSessionSplitSpec)) fnSessionSplitCard

/-- THE TIED CARD OF 'laws.FnSessionPrefix'. -/
def fnSessionPrefixCard : Claim7 := { stood := { row := fnSessionPrefixRow, standIns := [], harness := (true, "ffc965ebab3b4f46face1f8cfe82471ad686a5b506f194f3dcdf81a67ea81070"), looks := true }, kinds := [], alts := [], laidByText := true, laidKinds := [.data, .data, .data, .data, .sentinel, .sentinel, .pinned], laidTests := true, laidLooks := .later }
def FnSessionPrefixCardSaid : Prop := Claim7.holds Tryz.pinned (.plain (OpenSpec.ofChange fnSessionPrefixSpec)) fnSessionPrefixCard

/-- THE TIED CARD OF 'laws.FnExactRunSession'. -/
def fnExactRunSessionCard : Claim7 := { stood := { row := fnExactRunSessionRow, standIns := [], harness := (true, "ffc965ebab3b4f46face1f8cfe82471ad686a5b506f194f3dcdf81a67ea81070"), looks := true }, kinds := [], alts := [], laidByText := true, laidKinds := [.data, .data, .data, .data, .sentinel, .sentinel, .pinned], laidTests := true, laidLooks := .later }
def FnExactRunSessionCardSaid : Prop := Claim7.holds Tryz.pinned (.plain (OpenSpec.ofChange fnExactRunSessionSpec)) fnExactRunSessionCard

/-- THE SECOND FORM's CARD OF 'laws.FnPageTextRoot'. -/
def fnPageTextRootUptoCard : Claim7 := { stood := { row := fnPageTextRootUptoRow, standIns := [], harness := (true, "ffc965ebab3b4f46face1f8cfe82471ad686a5b506f194f3dcdf81a67ea81070"), looks := true }, kinds := [], alts := [], laidByText := true, laidKinds := [.data, .data, .data], laidTests := true, laidLooks := .later }
def FnPageTextRootUptoCardSaid : Prop := Claim7.holds Tryz.pinned (.plain (OpenSpec.upto fnPageTextRootSpec)) fnPageTextRootUptoCard

/-- THE SECOND FORM's CARD OF 'laws.FnPageText'. -/
def fnPageTextUptoCard : Claim7 := { stood := { row := fnPageTextUptoRow, standIns := [], harness := (true, "ffc965ebab3b4f46face1f8cfe82471ad686a5b506f194f3dcdf81a67ea81070"), looks := true }, kinds := [], alts := [], laidByText := true, laidKinds := [.data, .data, .data, .data, .sentinel, .sentinel, .pinned], laidTests := true, laidLooks := .later }
def FnPageTextUptoCardSaid : Prop := Claim7.holds Tryz.pinned (.plain (OpenSpec.upto fnPageTextSpec)) fnPageTextUptoCard

/-- THE SECOND FORM's CARD OF 'laws.FnSessionQuestions'. -/
def fnSessionQuestionsUptoCard : Claim7 := { stood := { row := fnSessionQuestionsUptoRow, standIns := [], harness := (true, "ffc965ebab3b4f46face1f8cfe82471ad686a5b506f194f3dcdf81a67ea81070"), looks := true }, kinds := [], alts := [], laidByText := true, laidKinds := [.data, .data, .data, .data, .sentinel, .sentinel, .pinned], laidTests := true, laidLooks := .later }
def FnSessionQuestionsUptoCardSaid : Prop := Claim7.holds Tryz.pinned (.plain (OpenSpec.upto fnSessionQuestionsSpec)) fnSessionQuestionsUptoCard

/-- THE SECOND FORM's CARD OF 'laws.FnSessionRefuse'. -/
def fnSessionRefuseUptoCard : Claim7 := { stood := { row := fnSessionRefuseUptoRow, standIns := [], harness := (true, "ffc965ebab3b4f46face1f8cfe82471ad686a5b506f194f3dcdf81a67ea81070"), looks := true }, kinds := [], alts := [], laidByText := true, laidKinds := [.data, .data, .data, .data, .sentinel, .sentinel, .pinned], laidTests := true, laidLooks := .later }
def FnSessionRefuseUptoCardSaid : Prop := Claim7.holds Tryz.pinned (.plain (OpenSpec.upto fnSessionRefuseSpec)) fnSessionRefuseUptoCard

/-- THE SECOND FORM's CARD OF 'laws.FnSessionSplit'. -/
def fnSessionSplitUptoCard : Claim7 := { stood := { row := fnSessionSplitUptoRow, standIns := [], harness := (true, "ffc965ebab3b4f46face1f8cfe82471ad686a5b506f194f3dcdf81a67ea81070"), looks := true }, kinds := [], alts := [], laidByText := true, laidKinds := [.data, .data, .data, .data, .sentinel, .sentinel, .pinned], laidTests := true, laidLooks := .later }
def FnSessionSplitUptoCardSaid : Prop := Claim7.holds Tryz.pinned (.plain (OpenSpec.upto fnSessionSplitSpec)) fnSessionSplitUptoCard

/-- THE SECOND FORM's CARD OF 'laws.FnSessionPrefix'. -/
def fnSessionPrefixUptoCard : Claim7 := { stood := { row := fnSessionPrefixUptoRow, standIns := [], harness := (true, "ffc965ebab3b4f46face1f8cfe82471ad686a5b506f194f3dcdf81a67ea81070"), looks := true }, kinds := [], alts := [], laidByText := true, laidKinds := [.data, .data, .data, .data, .sentinel, .sentinel, .pinned], laidTests := true, laidLooks := .later }
def FnSessionPrefixUptoCardSaid : Prop := Claim7.holds Tryz.pinned (.plain (OpenSpec.upto fnSessionPrefixSpec)) fnSessionPrefixUptoCard

/-- THE SECOND FORM's CARD OF 'laws.FnExactRunSession'. -/
def fnExactRunSessionUptoCard : Claim7 := { stood := { row := fnExactRunSessionUptoRow, standIns := [], harness := (true, "ffc965ebab3b4f46face1f8cfe82471ad686a5b506f194f3dcdf81a67ea81070"), looks := true }, kinds := [], alts := [], laidByText := true, laidKinds := [.data, .data, .data, .data, .sentinel, .sentinel, .pinned], laidTests := true, laidLooks := .later }
def FnExactRunSessionUptoCardSaid : Prop := Claim7.holds Tryz.pinned (.plain (OpenSpec.upto fnExactRunSessionSpec)) fnExactRunSessionUptoCard
end Rows
end Go.Proofs.YtemejgglbhjodaaGreatDoor
