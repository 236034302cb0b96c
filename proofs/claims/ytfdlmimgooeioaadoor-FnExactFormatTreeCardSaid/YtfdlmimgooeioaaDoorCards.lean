/-
  DERIVED. GIVEN WITH THE SEED: THE CARDS: each row of YtfdlmimgooeioaaDoorRows.lean that lists a variable, with what it lists TIED to the program's text (the seventh form; the later family's looks); each row that meets fmt, with fmt's text TOLD by the authors' own Lean function (tested against real Go, not proved from fmt's source: count such statements apart). THE CARD IS WHAT COUNTS. Prove the row's statement (the work); the ties are given (YtfdlmimgooeioaaDoorTie.lean); close each card by the builder's one call (the guide's Derived/Test/ToyasCard.lean, 'card_holds'). Laid BY PROGRAM, IN A SANDBOX (cutbox-door.mjs). By AI agents, Wed Nov 11 2026. No macro, syntax, notation, axiom, sorry.
-/
import Derived.Test.YtfdlmimgooeioaaDoorRows
import GoSem.ClaimSeven
namespace Go.Proofs.YtfdlmimgooeioaaDoor
namespace Rows

/-- THE TIED CARD OF 'laws.FnExactFormatRow'. -/
def fnExactFormatRowCard : Claim7 := { stood := { row := fnExactFormatRowRow, standIns := [], harness := (true, "124a393d7e7933ca6a4c65599ee55d0bdb73d00978c952e65eea3ed228b91ce8"), looks := true }, kinds := [], alts := [], laidByText := true, laidKinds := [.data, .data, .data], laidTests := true, laidLooks := .later }
def FnExactFormatRowCardSaid : Prop := Claim7.holds Tryd.pinned (.plain (OpenSpec.ofChange fnExactFormatRowSpec)) fnExactFormatRowCard

/-- THE TIED CARD OF 'laws.FnRowText'. -/
def fnRowTextCard : Claim7 := { stood := { row := fnRowTextRow, standIns := [], harness := (true, "124a393d7e7933ca6a4c65599ee55d0bdb73d00978c952e65eea3ed228b91ce8"), looks := true }, kinds := [], alts := [], laidByText := true, laidKinds := [.data, .data, .data], laidTests := true, laidLooks := .later }
def FnRowTextCardSaid : Prop := Claim7.holds Tryd.pinned (.plain (OpenSpec.ofChange fnRowTextSpec)) fnRowTextCard

/-- THE TIED CARD OF 'laws.FnExactPageText'. -/
def fnExactPageTextCard : Claim7 := { stood := { row := fnExactPageTextRow, standIns := [], harness := (true, "124a393d7e7933ca6a4c65599ee55d0bdb73d00978c952e65eea3ed228b91ce8"), looks := true }, kinds := [], alts := [], laidByText := true, laidKinds := [.data, .data, .data], laidTests := true, laidLooks := .later }
def FnExactPageTextCardSaid : Prop := Claim7.holds Tryd.pinned (.plain (OpenSpec.ofChange fnExactPageTextSpec)) fnExactPageTextCard

/-- THE TIED CARD OF 'laws.FnExactFormatTree'. -/
def fnExactFormatTreeCard : Claim7 := { stood := { row := fnExactFormatTreeRow, standIns := [], harness := (true, "124a393d7e7933ca6a4c65599ee55d0bdb73d00978c952e65eea3ed228b91ce8"), looks := true }, kinds := [], alts := [], laidByText := true, laidKinds := [.data, .data, .data], laidTests := true, laidLooks := .later }
def FnExactFormatTreeCardSaid : Prop := Claim7.holds Tryd.pinned (.plain (OpenSpec.ofChange fnExactFormatTreeSpec)) fnExactFormatTreeCard

/-- THE TIED CARD OF 'laws.FnExactParseRow'. -/
def fnExactParseRowCard : Claim7 := { stood := { row := fnExactParseRowRow, standIns := [], harness := (true, "124a393d7e7933ca6a4c65599ee55d0bdb73d00978c952e65eea3ed228b91ce8"), looks := true }, kinds := [], alts := [], laidByText := true, laidKinds := [.data, .data, .data, .data, .sentinel, .sentinel, .pinned], laidTests := true, laidLooks := .later }
def FnExactParseRowCardSaid : Prop := Claim7.holds Tryd.pinned (.plain (OpenSpec.ofChange fnExactParseRowSpec)) fnExactParseRowCard

/-- THE TIED CARD OF 'laws.FnTreeText'. -/
def fnTreeTextCard : Claim7 := { stood := { row := fnTreeTextRow, standIns := [], harness := (true, "124a393d7e7933ca6a4c65599ee55d0bdb73d00978c952e65eea3ed228b91ce8"), looks := true }, kinds := [], alts := [], laidByText := true, laidKinds := [.data, .data, .data], laidTests := true, laidLooks := .later }
def FnTreeTextCardSaid : Prop := Claim7.holds Tryd.pinned (.plain (OpenSpec.ofChange fnTreeTextSpec)) fnTreeTextCard

/-- THE TIED CARD OF 'laws.FnTreeTextOne'. -/
def fnTreeTextOneCard : Claim7 := { stood := { row := fnTreeTextOneRow, standIns := [], harness := (true, "124a393d7e7933ca6a4c65599ee55d0bdb73d00978c952e65eea3ed228b91ce8"), looks := true }, kinds := [], alts := [], laidByText := true, laidKinds := [.data, .data, .data], laidTests := true, laidLooks := .later }
def FnTreeTextOneCardSaid : Prop := Claim7.holds Tryd.pinned (.plain (OpenSpec.ofChange fnTreeTextOneSpec)) fnTreeTextOneCard

/-- THE TIED CARD OF 'laws.FnRowRoundTrip'. -/
def fnRowRoundTripCard : Claim7 := { stood := { row := fnRowRoundTripRow, standIns := [], harness := (true, "124a393d7e7933ca6a4c65599ee55d0bdb73d00978c952e65eea3ed228b91ce8"), looks := true }, kinds := [], alts := [], laidByText := true, laidKinds := [.data, .data, .data, .data, .sentinel, .sentinel, .pinned], laidTests := true, laidLooks := .later }
def FnRowRoundTripCardSaid : Prop := Claim7.holds Tryd.pinned (.plain (OpenSpec.ofChange fnRowRoundTripSpec)) fnRowRoundTripCard

/-- THE TIED CARD OF 'laws.FnRenumberTree'. -/
def fnRenumberTreeCard : Claim7 := { stood := { row := fnRenumberTreeRow, standIns := [], harness := (true, "124a393d7e7933ca6a4c65599ee55d0bdb73d00978c952e65eea3ed228b91ce8"), looks := true }, kinds := [], alts := [], laidByText := true, laidKinds := [.data, .data, .data], laidTests := true, laidLooks := .later }
def FnRenumberTreeCardSaid : Prop := Claim7.holds Tryd.pinned (.plain (OpenSpec.ofChange fnRenumberTreeSpec)) fnRenumberTreeCard

/-- THE TIED CARD OF 'laws.FnRowCanonical'. -/
def fnRowCanonicalCard : Claim7 := { stood := { row := fnRowCanonicalRow, standIns := [], harness := (true, "124a393d7e7933ca6a4c65599ee55d0bdb73d00978c952e65eea3ed228b91ce8"), looks := true }, kinds := [], alts := [], laidByText := true, laidKinds := [.data, .data, .data, .data, .sentinel, .sentinel, .pinned], laidTests := true, laidLooks := .later }
def FnRowCanonicalCardSaid : Prop := Claim7.holds Tryd.pinned (.plain (OpenSpec.ofChange fnRowCanonicalSpec)) fnRowCanonicalCard

/-- THE SECOND FORM's CARD OF 'laws.FnExactFormatRow'. -/
def fnExactFormatRowUptoCard : Claim7 := { stood := { row := fnExactFormatRowUptoRow, standIns := [], harness := (true, "124a393d7e7933ca6a4c65599ee55d0bdb73d00978c952e65eea3ed228b91ce8"), looks := true }, kinds := [], alts := [], laidByText := true, laidKinds := [.data, .data, .data], laidTests := true, laidLooks := .later }
def FnExactFormatRowUptoCardSaid : Prop := Claim7.holds Tryd.pinned (.plain (OpenSpec.upto fnExactFormatRowSpec)) fnExactFormatRowUptoCard

/-- THE SECOND FORM's CARD OF 'laws.FnRowText'. -/
def fnRowTextUptoCard : Claim7 := { stood := { row := fnRowTextUptoRow, standIns := [], harness := (true, "124a393d7e7933ca6a4c65599ee55d0bdb73d00978c952e65eea3ed228b91ce8"), looks := true }, kinds := [], alts := [], laidByText := true, laidKinds := [.data, .data, .data], laidTests := true, laidLooks := .later }
def FnRowTextUptoCardSaid : Prop := Claim7.holds Tryd.pinned (.plain (OpenSpec.upto fnRowTextSpec)) fnRowTextUptoCard

/-- THE SECOND FORM's CARD OF 'laws.FnExactPageText'. -/
def fnExactPageTextUptoCard : Claim7 := { stood := { row := fnExactPageTextUptoRow, standIns := [], harness := (true, "124a393d7e7933ca6a4c65599ee55d0bdb73d00978c952e65eea3ed228b91ce8"), looks := true }, kinds := [], alts := [], laidByText := true, laidKinds := [.data, .data, .data], laidTests := true, laidLooks := .later }
def FnExactPageTextUptoCardSaid : Prop := Claim7.holds Tryd.pinned (.plain (OpenSpec.upto fnExactPageTextSpec)) fnExactPageTextUptoCard

/-- THE SECOND FORM's CARD OF 'laws.FnExactFormatTree'. -/
def fnExactFormatTreeUptoCard : Claim7 := { stood := { row := fnExactFormatTreeUptoRow, standIns := [], harness := (true, "124a393d7e7933ca6a4c65599ee55d0bdb73d00978c952e65eea3ed228b91ce8"), looks := true }, kinds := [], alts := [], laidByText := true, laidKinds := [.data, .data, .data], laidTests := true, laidLooks := .later }
def FnExactFormatTreeUptoCardSaid : Prop := Claim7.holds Tryd.pinned (.plain (OpenSpec.upto fnExactFormatTreeSpec)) fnExactFormatTreeUptoCard

/-- THE SECOND FORM's CARD OF 'laws.FnExactParseRow'. -/
def fnExactParseRowUptoCard : Claim7 := { stood := { row := fnExactParseRowUptoRow, standIns := [], harness := (true, "124a393d7e7933ca6a4c65599ee55d0bdb73d00978c952e65eea3ed228b91ce8"), looks := true }, kinds := [], alts := [], laidByText := true, laidKinds := [.data, .data, .data, .data, .sentinel, .sentinel, .pinned], laidTests := true, laidLooks := .later }
def FnExactParseRowUptoCardSaid : Prop := Claim7.holds Tryd.pinned (.plain (OpenSpec.upto fnExactParseRowSpec)) fnExactParseRowUptoCard

/-- THE SECOND FORM's CARD OF 'laws.FnTreeText'. -/
def fnTreeTextUptoCard : Claim7 := { stood := { row := fnTreeTextUptoRow, standIns := [], harness := (true, "124a393d7e7933ca6a4c65599ee55d0bdb73d00978c952e65eea3ed228b91ce8"), looks := true }, kinds := [], alts := [], laidByText := true, laidKinds := [.data, .data, .data], laidTests := true, laidLooks := .later }
def FnTreeTextUptoCardSaid : Prop := Claim7.holds Tryd.pinned (.plain (OpenSpec.upto fnTreeTextSpec)) fnTreeTextUptoCard

/-- THE SECOND FORM's CARD OF 'laws.FnTreeTextOne'. -/
def fnTreeTextOneUptoCard : Claim7 := { stood := { row := fnTreeTextOneUptoRow, standIns := [], harness := (true, "124a393d7e7933ca6a4c65599ee55d0bdb73d00978c952e65eea3ed228b91ce8"), looks := true }, kinds := [], alts := [], laidByText := true, laidKinds := [.data, .data, .data], laidTests := true, laidLooks := .later }
def FnTreeTextOneUptoCardSaid : Prop := Claim7.holds Tryd.pinned (.plain (OpenSpec.upto fnTreeTextOneSpec)) fnTreeTextOneUptoCard

/-- THE SECOND FORM's CARD OF 'laws.FnRowRoundTrip'. -/
def fnRowRoundTripUptoCard : Claim7 := { stood := { row := fnRowRoundTripUptoRow, standIns := [], harness := (true, "124a393d7e7933ca6a4c65599ee55d0bdb73d00978c952e65eea3ed228b91ce8"), looks := true }, kinds := [], alts := [], laidByText := true, laidKinds := [.data, .data, .data, .data, .sentinel, .sentinel, .pinned], laidTests := true, laidLooks := .later }
def FnRowRoundTripUptoCardSaid : Prop := Claim7.holds Tryd.pinned (.plain (OpenSpec.upto fnRowRoundTripSpec)) fnRowRoundTripUptoCard

/-- THE SECOND FORM's CARD OF 'laws.FnRenumberTree'. -/
def fnRenumberTreeUptoCard : Claim7 := { stood := { row := fnRenumberTreeUptoRow, standIns := [], harness := (true, "124a393d7e7933ca6a4c65599ee55d0bdb73d00978c952e65eea3ed228b91ce8"), looks := true }, kinds := [], alts := [], laidByText := true, laidKinds := [.data, .data, .data], laidTests := true, laidLooks := .later }
def FnRenumberTreeUptoCardSaid : Prop := Claim7.holds Tryd.pinned (.plain (OpenSpec.upto fnRenumberTreeSpec)) fnRenumberTreeUptoCard

/-- THE SECOND FORM's CARD OF 'laws.FnRowCanonical'. -/
def fnRowCanonicalUptoCard : Claim7 := { stood := { row := fnRowCanonicalUptoRow, standIns := [], harness := (true, "124a393d7e7933ca6a4c65599ee55d0bdb73d00978c952e65eea3ed228b91ce8"), looks := true }, kinds := [], alts := [], laidByText := true, laidKinds := [.data, .data, .data, .data, .sentinel, .sentinel, .pinned], laidTests := true, laidLooks := .later }
def FnRowCanonicalUptoCardSaid : Prop := Claim7.holds Tryd.pinned (.plain (OpenSpec.upto fnRowCanonicalSpec)) fnRowCanonicalUptoCard
end Rows
end Go.Proofs.YtfdlmimgooeioaaDoor
