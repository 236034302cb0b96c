/- Own layer: part of this seat (V4). Plain theorems; no conditions. -/
import Derived.Test.YtfdlmimgooeioaaDoorPxO
import Derived.Test.YtfdlmimgooeioaaDoorV3
set_option linter.unusedVariables false
set_option linter.unusedSimpArgs false
/-! a law's argument: a tree -/
namespace Go.Px
open Go.RowKit Go.ChangeShapes Go.WideShapes Go.Deep
instance : Inhabited PgL := ⟨⟨⟨none, 0, []⟩, ⟨none, 0, []⟩, ⟨none, 0, []⟩⟩⟩
section
variable {H : Type} {eh : TypeId × Value → H} {P : Program} {w : World} {base : Nat} {spare : Nat → Bool} {held : Bool}
theorem lst_el {α : Type} [Inhabited α] {t e : TypeId} {c : Nat} {f : α → List Value} {ok : α → Prop} (ht : P.underlying t = some (.slice e)) (hp : P.cellsOf e = c) (hc : ∀ a, (f a).length = c)
    (hel : ∀ n cs y, DataW.trod eh P w base spare held n e cs = some y → ∃ a, cs = f a ∧ ok a) :
    ∀ n cs y, DataW.trod eh P w base spare held n t cs = some y → ∃ (A : Option Addr) (cp : Nat) (l : List α), cs = [.slice A l.length cp] ∧ l.length ≤ 9223372036854775807 ∧ (∀ a ∈ l, ok a) ∧ Rd w A (l.flatMap f) := fun n cs y h => by
  have hf : ∃ A len cap, cs = [.slice A len cap] := by
    rcases open_slice ht h with ⟨h0, _⟩ | ⟨a, len, cap, _, _, _, _, h0, _⟩
    · exact ⟨none, 0, 0, h0⟩
    · exact ⟨some a, len, cap, h0⟩
  obtain ⟨A, len, cap, rfl⟩ := hf
  obtain ⟨l, rfl, h1, _, h2, h3⟩ := slice_in (α := α) (f := f) (c := c) (ok := ok) ht hp hc hel h
  exact ⟨A, cap, l, rfl, h1, h2, h3⟩
theorem ints_el {t e : TypeId} (ht : P.underlying t = some (.slice e)) (he : P.underlying e = some (.int .i64)) (hp : P.cellsOf e = 1) :
    ∀ n cs y, DataW.trod eh P w base spare held n t cs = some y → ∃ s : SlL, cs = [.slice s.A s.l.length s.cp] ∧ s.l.length ≤ 9223372036854775807 ∧ Rd w s.A (s.l.map I) := fun n cs y h => by
  obtain ⟨A, cp, l, h1, h2, _, h3⟩ := lst_el (α := Int) (f := fun a => [I a]) (c := 1) (ok := fun _ => True) ht hp (fun _ => rfl) (fun n cs y h => by obtain ⟨a, ha, _⟩ := int_el he n cs y h; exact ⟨a, ha, trivial⟩) n cs y h
  rw [flat_one] at h3
  exact ⟨⟨A, cp, l⟩, h1, h2, h3⟩
def PgS (x : PgL) : Prop := x.k.l.length ≤ 9223372036854775807 ∧ x.c.l.length ≤ 9223372036854775807 ∧ x.v.l.length ≤ 9223372036854775807
theorem page_el {t s e : TypeId} (hf : flds P t = some [(s, 0, 1), (s, 1, 1), (s, 2, 1)]) (hn : P.cellsOf t = 3) (hs : P.underlying s = some (.slice e)) (he : P.underlying e = some (.int .i64)) (hp : P.cellsOf e = 1) :
    ∀ n cs y, DataW.trod eh P w base spare held n t cs = some y → ∃ x : PgL, cs = encPg x ∧ PgN w x ∧ PgS x := fun n cs y h => by
  obtain ⟨hl, hf⟩ := struct_els hf hn h
  match cs, hl with
  | [b0, b1, b2], _ =>
    obtain ⟨_, _, h0⟩ := hf (s, 0, 1) (by simp)
    obtain ⟨_, _, h1⟩ := hf (s, 1, 1) (by simp)
    obtain ⟨_, _, h2⟩ := hf (s, 2, 1) (by simp)
    obtain ⟨k, e0, a0, r0⟩ := ints_el hs he hp _ _ _ h0
    obtain ⟨c, e1, a1, r1⟩ := ints_el hs he hp _ _ _ h1
    obtain ⟨v, e2, a2, r2⟩ := ints_el hs he hp _ _ _ h2
    refine ⟨⟨k, c, v⟩, ?_, ⟨r0, r1, r2⟩, a0, a1, a2⟩
    simp at e0 e1 e2
    simp [encPg, e0, e1, e2]
theorem tree_el {t q p s e : TypeId} (hf : flds P t = some [(e, 0, 1), (q, 1, 1)]) (hn : P.cellsOf t = 2) (hq : P.underlying q = some (.slice p)) (hf2 : flds P p = some [(s, 0, 1), (s, 1, 1), (s, 2, 1)]) (hn2 : P.cellsOf p = 3) (hs : P.underlying s = some (.slice e)) (he : P.underlying e = some (.int .i64)) (hp : P.cellsOf e = 1) :
    ∀ n cs y, DataW.trod eh P w base spare held n t cs = some y → ∃ T : TreeL, cs = [I T.root, .slice T.A T.l.length T.cp] ∧ (-9223372036854775808 ≤ T.root ∧ T.root ≤ 9223372036854775807) ∧ TrN w T ∧ T.l.length ≤ 9223372036854775807 ∧ ∀ x ∈ T.l, PgS x := fun n cs y h => by
  obtain ⟨hl, hf⟩ := struct_els hf hn h
  match cs, hl with
  | [b0, b1], _ =>
    obtain ⟨_, _, h0⟩ := hf (e, 0, 1) (by simp)
    obtain ⟨_, _, h1⟩ := hf (q, 1, 1) (by simp)
    obtain ⟨r, e0, a0⟩ := int_el he _ _ _ h0
    obtain ⟨A, cp, l, e1, a1, a2, a3⟩ := lst_el (α := PgL) (f := encPg) (c := 3) (ok := fun x => PgN w x ∧ PgS x) hq hn2 encPg_len (page_el hf2 hn2 hs he hp) _ _ _ h1
    refine ⟨⟨r, A, cp, l⟩, ?_, a0, ⟨a3, fun x hx => (a2 x hx).1⟩, a1, fun x hx => (a2 x hx).2⟩
    simp at e0 e1
    simp [e0, e1]
end
end Go.Px
