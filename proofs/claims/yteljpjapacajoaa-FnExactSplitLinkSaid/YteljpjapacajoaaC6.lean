/- Own layer: part of this seat (C6). Plain theorems; no conditions. -/
import Derived.Test.YteljpjapacajoaaC5
set_option linter.unusedVariables false
set_option linter.unusedSimpArgs false
namespace Go.Px
theorem keyF_same {e : TypeId} {L : List LnkL} {j : Nat} {X : LnkL} (hj : j < L.length) (h : keyF e X = keyF e L[j]) : L.map (keyF e) = (L.set j X).map (keyF e) := by
  rw [List.map_set, h]
  apply List.ext_getElem
  · simp
  · intro i h1 h2
    rw [List.getElem_set]
    split
    · rename_i he; subst he; simp
    · rfl
theorem putF_lens {l : List LinkT} {key : Int} {L : List LnkL} (h : tsL L = (putF l key).getD []) (hs : (putF l key).isSome = true) : 1 ≤ L.length ∧ L.length ≤ 17 := by
  have hl := congrArg List.length h
  simp only [List.length_map] at hl
  rw [hl]
  unfold putF at hs ⊢
  split at hs
  · rename_i hc
    simp only [Bool.and_eq_true] at hc
    have h1 := (validC_path hc.1).1
    rw [if_pos (by simp [hc.1, hc.2])]
    split
    · simp; omega
    · rename_i h2
      rw [if_neg h2] at hs
      split
      · rename_i h3
        rw [if_pos h3] at hs
        cases hh : splOk l (findC l 0 key) with
        | false => rw [split_no hh] at hs; simp at hs
        | true => rw [split_yes hh]; simp [putAt, splB_len]; omega
      · simp [putAt]; omega
  · simp at hs
theorem splF_lens {l : List LinkT} {at_ : Int} {L : List LnkL} (h : tsL L = (splitF l at_).getD []) (hs : (splitF l at_).isSome = true) : 1 ≤ L.length ∧ L.length ≤ 17 := by
  have hl := congrArg List.length h
  simp only [List.length_map] at hl
  rw [hl]
  cases hh : splOk l at_ with
  | false => rw [split_no hh] at hs; simp at hs
  | true =>
    rw [split_yes hh]
    have := (validC_path (splOk_iff.1 hh).1).1
    simp only [Option.getD_some, splB_len]; omega
end Go.Px
