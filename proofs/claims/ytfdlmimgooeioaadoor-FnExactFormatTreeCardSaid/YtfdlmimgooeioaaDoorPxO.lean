/- Own layer: a law's arguments, opened. Plain theorems; no conditions. -/
import Derived.Test.YtfdlmimgooeioaaDoorPx3
import Derived.WalkKit
import Derived.ProofKit
import Derived.OpenShut
import Derived.ShutString
import Derived.ChangeOld
import Derived.SliceStrings
import Derived.Deep.Slices
import Derived.Deep.Fields
import Derived.ChangeSame
set_option linter.unusedVariables false
set_option linter.unusedSimpArgs false
namespace Go.Px
open Go.RowKit Go.ChangeShapes Go.WideShapes Go.Deep
/-! ### A law's arguments, opened -/
section
variable {H : Type} {eh : TypeId × Value → H} {P : Program} {w : World} {base : Nat} {spare : Nat → Bool} {held : Bool}
theorem flat_at {α : Type} {f : α → List Value} {c : Nat} (hc : ∀ a, (f a).length = c) : ∀ (l : List α) (j : Nat) (u : Value), (l.flatMap f)[j]? = some u → ∃ i r, ∃ h : i < l.length, r < c ∧ j = i * c + r ∧ (f l[i])[r]? = some u
  | [], j, u, h => by simp at h
  | a :: l, j, u, h => by
    rw [List.flatMap_cons] at h
    by_cases hj : j < c
    · rw [List.getElem?_append_left (by rw [hc]; exact hj)] at h
      exact ⟨0, j, by simp, hj, by simp, h⟩
    · rw [List.getElem?_append_right (by rw [hc]; omega), hc] at h
      obtain ⟨i, r, hi, hr, e, hu⟩ := flat_at hc l _ u h
      exact ⟨i + 1, r, by simp; omega, hr, by rw [Nat.add_mul]; omega, hu⟩
theorem flat_one {α : Type} {f : α → Value} (l : List α) : l.flatMap (fun a => [f a]) = l.map f := by induction l <;> simp_all
theorem slice_in {α : Type} [Inhabited α] {t e : TypeId} {fuel : Nat} {A : Option Addr} {len cap c : Nat} {x : DataW H × List MemPlace} {f : α → List Value} {ok : α → Prop}
    (ht : P.underlying t = some (.slice e)) (hp : P.cellsOf e = c) (hc : ∀ a, (f a).length = c)
    (hel : ∀ n cs y, DataW.trod eh P w base spare held n e cs = some y → ∃ a, cs = f a ∧ ok a)
    (h : DataW.trod eh P w base spare held fuel t [.slice A len cap] = some x) :
    ∃ l : List α, len = l.length ∧ l.length ≤ 9223372036854775807 ∧ l.length ≤ cap ∧ (∀ a ∈ l, ok a) ∧ Rd w A (l.flatMap f) := by
  rcases open_slice ht h with ⟨h0, _⟩ | ⟨a, len', cap', m, n, D, Pl, h0, hb, hl, hm, hmm, hx, hi⟩
  · simp at h0; obtain ⟨_, rfl, rfl⟩ := h0; exact ⟨[], rfl, by simp, by simp, by simp, Rd.nil⟩
  · simp at h0; obtain ⟨rfl, rfl, rfl⟩ := h0
    have hlm : len ≤ m := by rw [hmm]; split <;> omega
    obtain ⟨g, hg⟩ := choose_lt (α := α) (n := len) (p := fun i y => ok y ∧ ∀ r, r < c → w.cell? ((a.add (i * c)).add r) = (f y)[r]?) (fun i hil => by
      obtain ⟨cs, h1, h2⟩ := hi i (by omega)
      obtain ⟨y, rfl, hy⟩ := hel _ _ _ h2
      rw [hp] at h1
      obtain ⟨_, _, h3⟩ := World.cells?_some h1
      exact ⟨y, hy, h3⟩)
    have hM : len ≤ 9223372036854775807 := by unfold maxLen at hm; omega
    refine ⟨(List.range len).map g, by simp, by simpa using hM, by simpa using hl, by simp; intro i hil; exact (hg i hil).1, ?_⟩
    by_cases hz : 0 < len ∧ 0 < c
    · have h00 := (hg 0 hz.1).2 0 hz.2
      have hs : ∃ v, (f (g 0))[0]? = some v := ⟨_, List.getElem?_eq_getElem (by rw [hc]; exact hz.2)⟩
      obtain ⟨v, hv⟩ := hs
      rw [hv, Nat.zero_mul] at h00
      have e0 : (a.add 0).add 0 = a := by simp [Addr.add]
      rw [e0] at h00
      obtain ⟨b, o, s⟩ := a
      have hsp : s = none := by
        unfold World.cell? at h00
        cases s with
        | none => rfl
        | some s => simp at h00; split at h00 <;> simp at h00
      subst hsp
      refine .inr ⟨b, o, rfl, ?_, fun j u hu => ?_⟩
      · rcases Nat.lt_or_ge b w.heap.size with hlt | hge
        · exact hlt
        · unfold World.cell? at h00; rw [Array.getElem?_eq_none hge] at h00; cases h00
      · obtain ⟨i, r, hil, hr, rfl, hv'⟩ := flat_at hc _ _ _ hu
        simp at hil
        rw [List.getElem_map, List.getElem_range] at hv'
        have := (hg i hil).2 r hr
        rw [add_lit, add_lit, hv'] at this
        rw [Nat.add_assoc] at this; exact this
    · left
      rcases Nat.eq_zero_or_pos len with h0 | h0
      · subst h0; rfl
      · have hc0 : c = 0 := by omega
        simp; intro i _; exact List.eq_nil_of_length_eq_zero (by rw [hc, hc0])
theorem bytes_len {s : ByteArray} : s.size = s.data.toList.length := by rw [Array.length_toList]; rfl
theorem str_el {t : TypeId} (ht : P.underlying t = some .string) : ∀ n cs y, DataW.trod eh P w base spare held n t cs = some y → ∃ a : Str, cs = [S a] ∧ a.length ≤ 9223372036854775807 := fun n cs y h => by
  obtain ⟨s, rfl, _, hw⟩ := DataW.trod_string ht h
  refine ⟨s.data.toList, congrArg (fun v => [v]) (S_of s), ?_⟩
  rw [← bytes_len]; unfold maxLen at hw; omega
theorem int_el {t : TypeId} (ht : P.underlying t = some (.int .i64)) : ∀ n cs y, DataW.trod eh P w base spare held n t cs = some y → ∃ a : Int, cs = [I a] ∧ (-9223372036854775808 ≤ a ∧ a ≤ 9223372036854775807) := fun n cs y h => by
  obtain ⟨m, rfl, _, hw⟩ := DataW.trod_int ht h
  exact ⟨m, rfl, by simp only [Lit.wf, Bool.and_eq_true, decide_eq_true_eq] at hw; exact hw⟩
theorem byte_el {t : TypeId} (ht : P.underlying t = some (.int .u8)) : ∀ n cs y, DataW.trod eh P w base spare held n t cs = some y → ∃ a : UInt8, cs = [Value.int .u8 (a.toNat : Int)] ∧ True := fun n cs y h => by
  obtain ⟨m, rfl, _, hw⟩ := DataW.trod_int ht h
  have hm : 0 ≤ m ∧ m ≤ 255 := by simp only [Lit.wf, Bool.and_eq_true, decide_eq_true_eq] at hw; exact hw
  refine ⟨UInt8.ofNat m.toNat, ?_, trivial⟩
  rw [UInt8.toNat_ofNat']
  congr 2
  omega
/-- the fields of a struct type: type, place, cells -/
def flds (P : Program) (t : TypeId) : Option (List (TypeId × Nat × Nat)) :=
  match P.underlying t with
  | some (.struct fs) => some (fs.toList.map fun f => (f.type, f.offset, P.cellsOf f.type))
  | _ => none
theorem struct_els {t : TypeId} {fuel k : Nat} {cs : List Value} {x : DataW H × List MemPlace} {l : List (TypeId × Nat × Nat)} (hq : flds P t = some l) (hn : P.cellsOf t = k) (h : DataW.trod eh P w base spare held fuel t cs = some x) :
    cs.length = k ∧ ∀ p ∈ l, ∃ n y, DataW.trod eh P w base spare held n p.1 ((cs.drop p.2.1).take p.2.2) = some y := by
  unfold flds at hq
  split at hq
  · rename_i fs hu
    cases hq
    obtain ⟨xs, n, _, _, hl, hlen, hf⟩ := DataW.trod_struct hu h
    refine ⟨hl.trans hn, fun p hp => ?_⟩
    obtain ⟨f, hm, rfl⟩ := List.mem_map.1 hp
    obtain ⟨i, hi, he⟩ := List.getElem_of_mem hm
    have h1 := hf i f (by rw [← he]; simp at hi; simp [hi])
    have hi' : i < xs.length := by rw [hlen]; simpa using hi
    rw [List.getElem?_eq_getElem hi'] at h1
    exact ⟨n, _, h1⟩
  · cases hq
end
end Go.Px
