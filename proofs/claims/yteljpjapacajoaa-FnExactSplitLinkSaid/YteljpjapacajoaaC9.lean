/- Own layer: part of this seat (C9). Plain theorems; no conditions. -/
import Derived.Test.YteljpjapacajoaaC8
set_option linter.unusedVariables false
set_option linter.unusedSimpArgs false
namespace Go.Px
/-- a chain of one leaf: the head's keys of a valid chain -/
theorem valid_one {ks : List Int} (h4 : ks.length ≤ 4) (hv : validK ks = true) (r : Int) : validC [⟨ks, 100, r⟩] = decide (r = -1) := by
  have h1 : ∀ k ∈ ks, (0 : Int) ≤ k ∧ k < 100 := fun k hk => by have := (validK_iff.1 hv).1 k hk; omega
  have hok : okLk ⟨ks, 100, r⟩ 0 = true := okLk_iff.2 ⟨by simp, h4, hv, h1⟩
  rw [validC_run (by simp) (by simp)]
  have h2 := vc_last (l := [⟨ks, 100, r⟩]) (seen := []) (at_ := 0) (low := 0) (by omega) (by simp) (by simp) hok
  simpa [gL] using h2
end Go.Px
namespace Go.Px
theorem path_one {ks : List Int} : pathC [⟨ks, 100, -1⟩] = [0] := by simp [pathC, walkC]
theorem keys_one {ks : List Int} (h4 : ks.length ≤ 4) (hv : validK ks = true) : keysC [⟨ks, 100, -1⟩] = ks := by
  rw [keys_yes (by rw [valid_one h4 hv]; simp), path_one]
  simp [gL]
theorem path_head {l : List LinkT} (h : validC l = true) : ∃ p, pathC l = 0 :: p := by
  obtain ⟨_, h2, _⟩ := sfx_path h
  cases hp : pathC l with
  | nil => rw [hp] at h2; simp [hdq] at h2
  | cons i p => rw [hp] at h2; simp [hdq] at h2; subst h2; exact ⟨p, rfl⟩
theorem keys_head {l : List LinkT} (h : validC l = true) : ∃ r, keysC l = (gL l 0).keys ++ r := by
  obtain ⟨p, hp⟩ := path_head h
  rw [keys_yes h, hp]
  exact ⟨p.flatMap fun i => (gL l i).keys, by rw [List.flatMap_cons]⟩
/-- the keys along a path are in order, each between the low before and 100 -/
theorem chain_keys {l : List LinkT} : ∀ {p : List Nat} {at_ low : Int}, chainP l p at_ low → low ≤ 100 ∧ asc (p.flatMap fun i => (gL l i).keys) = true ∧ ∀ k ∈ p.flatMap (fun i => (gL l i).keys), low ≤ k ∧ k < 100
  | [], at_, low, h => ⟨by have := h.2; omega, rfl, by simp⟩
  | i :: p, at_, low, h => by
    obtain ⟨rfl, h2, h3, h4⟩ := h
    obtain ⟨g1, g2, g3⟩ := chain_keys h4
    obtain ⟨o1, o2, o3, o4⟩ := okLk_iff.1 h3
    refine ⟨by omega, ?_, fun k hk => ?_⟩
    · rw [List.flatMap_cons, asc_pair]
      refine List.pairwise_append.2 ⟨asc_pair.1 (validK_iff.1 o3).2, asc_pair.1 g2, fun a ha b hb => ?_⟩
      have := o4 a ha
      have := g3 b hb
      omega
    · rw [List.flatMap_cons] at hk
      rcases List.mem_append.1 hk with hk | hk
      · have := o4 k hk; omega
      · have := g3 k hk; omega
theorem keys_valid {l : List LinkT} : validK (keysC l) = true := by
  cases h : validC l with
  | false => rw [keys_no h]; decide
  | true =>
    obtain ⟨_, h2, _⟩ := validC_path h
    obtain ⟨_, g2, g3⟩ := chain_keys h2
    rw [keys_yes h]
    exact validK_iff.2 ⟨fun k hk => by have := g3 k hk; omega, g2⟩
def sumK (l : List LinkT) : Nat := (l.map fun x => x.keys.length).sum
theorem sumK_take {l : List LinkT} {k : Nat} (hk : k < l.length) : sumK (l.take (k + 1)) = sumK (l.take k) + l[k].keys.length := by
  unfold sumK; rw [take_snoc hk, List.map_append, List.sum_append]; simp
theorem keys_sum {l : List LinkT} (h : validC l = true) : (keysC l).length = sumK l := by
  rw [keys_yes h, List.length_flatMap]
  have hp := (path_perm h).map fun i => (gL l i).keys.length
  rw [hp.sum_nat]
  unfold sumK
  congr 1
  apply List.ext_getElem
  · simp
  · intro i h1 h2
    have hi : i < l.length := by simpa using h2
    simp [gL_at hi]
end Go.Px
