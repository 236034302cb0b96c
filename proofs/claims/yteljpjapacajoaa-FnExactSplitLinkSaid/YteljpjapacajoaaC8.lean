/- Own layer: part of this seat (C8). Plain theorems; no conditions. -/
import Derived.Test.YteljpjapacajoaaC7
set_option linter.unusedVariables false
set_option linter.unusedSimpArgs false
namespace Go.Px
theorem insK_len (ks : List Int) (k : Int) : (insK ks k).length ≤ ks.length + 1 := by simp [insK]; omega
theorem valid_mem4 {l : List LinkT} (h : validC l = true) : ∀ x ∈ l, x.keys.length ≤ 4 := by
  intro x hx
  obtain ⟨i, hi, rfl⟩ := List.getElem_of_mem hx
  have := (valid_len4 h hi).1
  rwa [gL_at hi] at this
theorem splF_keys4 {l : List LinkT} {at_ : Int} : ∀ x ∈ (splitF l at_).getD [], x.keys.length ≤ 100 := by
  cases h : splOk l at_ with
  | false => rw [split_no h]; simp
  | true =>
    obtain ⟨_, _, _, _, _, _, _, hv⟩ := split_path h
    rw [split_yes h]
    intro x hx
    have := valid_mem4 hv x hx
    omega
theorem putF_keys4 {l : List LinkT} {key : Int} : ∀ x ∈ (putF l key).getD [], x.keys.length ≤ 100 := by
  unfold putF
  split
  · rename_i hc
    simp only [Bool.and_eq_true] at hc
    have h4 := valid_mem4 hc.1
    have hp : ∀ (m : List LinkT) (f : Nat), (∀ x ∈ m, x.keys.length ≤ 4) → ∀ x ∈ putAt m f key, x.keys.length ≤ 100 := by
      intro m f hm x hx
      unfold putAt at hx
      rcases List.mem_or_eq_of_mem_set hx with hx | rfl
      · have := hm x hx; omega
      · have h1 := insK_len (gL m f).keys key
        have h2 : (gL m f).keys.length ≤ 4 := by
          rcases Nat.lt_or_ge f m.length with h | h
          · rw [gL_at h]; exact hm _ (List.getElem_mem h)
          · simp [gL, h]
        simp only; omega
    split
    · intro x hx; have := h4 x hx; omega
    · split
      · cases h : splOk l (findC l 0 key) with
        | false => rw [split_no h]; simp
        | true =>
          obtain ⟨_, _, _, _, _, _, _, hv⟩ := split_path h
          rw [split_yes h]
          exact hp _ _ (valid_mem4 hv)
      · exact hp _ _ h4
  · simp
end Go.Px
