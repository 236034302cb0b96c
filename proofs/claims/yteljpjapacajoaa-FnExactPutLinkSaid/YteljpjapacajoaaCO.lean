/- Own layer: part of this seat (CO). Plain theorems; no conditions. -/
import Derived.Test.YteljpjapacajoaaPxO
import Derived.Test.YteljpjapacajoaaCB
set_option linter.unusedVariables false
set_option linter.unusedSimpArgs false
/-! a law's argument: a list of links -/
namespace Go.Px
open Go.RowKit Go.ChangeShapes Go.WideShapes Go.Deep
section
variable {H : Type} {eh : TypeId × Value → H} {P : Program} {w : World} {base : Nat} {spare : Nat → Bool} {held : Bool}
theorem slc_el {t e : TypeId} (ht : P.underlying t = some (.slice e)) (he : P.underlying e = some (.int .i64)) (hp : P.cellsOf e = 1) :
    ∀ n cs y, DataW.trod eh P w base spare held n t cs = some y → ∃ (A : Option Addr) (cp : Nat) (l : List Int), cs = [.slice A l.length cp] ∧ l.length ≤ 9223372036854775807 ∧ Rd w A (l.map I) := fun n cs y h => by
  have hf : ∃ A len cap, cs = [.slice A len cap] := by
    rcases open_slice ht h with ⟨h0, _⟩ | ⟨a, len, cap, _, _, _, _, h0, _⟩
    · exact ⟨none, 0, 0, h0⟩
    · exact ⟨some a, len, cap, h0⟩
  obtain ⟨A, len, cap, rfl⟩ := hf
  obtain ⟨l, rfl, h1, h2, _, h3⟩ := slice_in (α := Int) (f := fun a => [I a]) (c := 1) ht hp (fun _ => rfl) (int_el he) h
  rw [flat_one] at h3
  exact ⟨A, cap, l, rfl, h1, h3⟩
end
end Go.Px
