/-
  DERIVED. GIVEN WITH THE SEED: THE CARDS: each row of YtemejgglbhjodaaDoorRows.lean that lists a variable, with what it lists TIED to the program's text (the seventh form; the later family's looks); each row that meets fmt, with fmt's text TOLD by the authors' own Lean function (tested against real Go, not proved from fmt's source: count such statements apart). THE CARD IS WHAT COUNTS. Prove the row's statement (the work); the ties are given (YtemejgglbhjodaaDoorTie.lean); close each card by the builder's one call (the guide's Derived/Test/ToyasCard.lean, 'card_holds'). Laid BY PROGRAM, IN A SANDBOX (cutbox-door.mjs). By AI agents, Wed Nov 11 2026. No macro, syntax, notation, axiom, sorry.
-/
import Derived.Test.YtemejgglbhjodaaDoorRows
import GoSem.ClaimSeven
namespace Go.Proofs.YtemejgglbhjodaaDoor
namespace Rows

/-- THE TIED CARD OF 'laws.FnTreeText'. -/
def fnTreeTextCard : Claim7 := { stood := { row := fnTreeTextRow, standIns := [], harness := (true, "db42fd2b3fa81203b1d2532c6e3b330a02431683d6399b1d8445e706a7f18807"), looks := false }, kinds := [], alts := [], laidByText := true, laidKinds := [.data, .data, .data], laidTests := true, laidLooks := .later }
def FnTreeTextCardSaid : Prop := Claim7.holds Tryd.pinned (.plain (OpenSpec.ofChange fnTreeTextSpec)) fnTreeTextCard

/-- THE TIED CARD OF 'laws.FnTreeTextOne'. -/
def fnTreeTextOneCard : Claim7 := { stood := { row := fnTreeTextOneRow, standIns := [], harness := (true, "db42fd2b3fa81203b1d2532c6e3b330a02431683d6399b1d8445e706a7f18807"), looks := false }, kinds := [], alts := [], laidByText := true, laidKinds := [.data, .data, .data], laidTests := true, laidLooks := .later }
def FnTreeTextOneCardSaid : Prop := Claim7.holds Tryd.pinned (.plain (OpenSpec.ofChange fnTreeTextOneSpec)) fnTreeTextOneCard

/-- THE TIED CARD OF 'laws.FnRenumberTree'. -/
def fnRenumberTreeCard : Claim7 := { stood := { row := fnRenumberTreeRow, standIns := [], harness := (true, "db42fd2b3fa81203b1d2532c6e3b330a02431683d6399b1d8445e706a7f18807"), looks := false }, kinds := [], alts := [], laidByText := true, laidKinds := [.data, .data, .data], laidTests := true, laidLooks := .later }
def FnRenumberTreeCardSaid : Prop := Claim7.holds Tryd.pinned (.plain (OpenSpec.ofChange fnRenumberTreeSpec)) fnRenumberTreeCard

/-- THE SECOND FORM's CARD OF 'laws.FnTreeText'. -/
def fnTreeTextUptoCard : Claim7 := { stood := { row := fnTreeTextUptoRow, standIns := [], harness := (true, "db42fd2b3fa81203b1d2532c6e3b330a02431683d6399b1d8445e706a7f18807"), looks := false }, kinds := [], alts := [], laidByText := true, laidKinds := [.data, .data, .data], laidTests := true, laidLooks := .later }
def FnTreeTextUptoCardSaid : Prop := Claim7.holds Tryd.pinned (.plain (OpenSpec.upto fnTreeTextSpec)) fnTreeTextUptoCard

/-- THE SECOND FORM's CARD OF 'laws.FnTreeTextOne'. -/
def fnTreeTextOneUptoCard : Claim7 := { stood := { row := fnTreeTextOneUptoRow, standIns := [], harness := (true, "db42fd2b3fa81203b1d2532c6e3b330a02431683d6399b1d8445e706a7f18807"), looks := false }, kinds := [], alts := [], laidByText := true, laidKinds := [.data, .data, .data], laidTests := true, laidLooks := .later }
def FnTreeTextOneUptoCardSaid : Prop := Claim7.holds Tryd.pinned (.plain (OpenSpec.upto fnTreeTextOneSpec)) fnTreeTextOneUptoCard

/-- THE SECOND FORM's CARD OF 'laws.FnRenumberTree'. -/
def fnRenumberTreeUptoCard : Claim7 := { stood := { row := fnRenumberTreeUptoRow, standIns := [], harness := (true, "db42fd2b3fa81203b1d2532c6e3b330a02431683d6399b1d8445e706a7f18807"), looks := false }, kinds := [], alts := [], laidByText := true, laidKinds := [.data, .data, .data], laidTests := true, laidLooks := .later }
def FnRenumberTreeUptoCardSaid : Prop := Claim7.holds Tryd.pinned (.plain (OpenSpec.upto fnRenumberTreeSpec)) fnRenumberTreeUptoCard
end Rows
end Go.Proofs.YtemejgglbhjodaaDoor
