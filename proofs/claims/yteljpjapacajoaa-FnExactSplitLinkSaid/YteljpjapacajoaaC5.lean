/- Own layer: part of this seat (C5). Plain theorems; no conditions. -/
import Derived.Test.YteljpjapacajoaaC4
set_option linter.unusedVariables false
set_option linter.unusedSimpArgs false
/-! putting a key -/
namespace Go.Px
theorem putF_bad {l : List LinkT} {key : Int} (h : validC l = false ∨ isKeyB key = false) : putF l key = none := by
  unfold putF; rcases h with h | h <;> simp [h]
theorem putF_same {l : List LinkT} {key : Int} (hv : validC l = true) (hk : isKeyB key = true) (h : key ∈ (gL l (findC l 0 key).toNat).keys) : putF l key = some l := by
  unfold putF; rw [hv, hk]; simp [h]
theorem putF_here {l : List LinkT} {key : Int} (hv : validC l = true) (hk : isKeyB key = true) (h : key ∉ (gL l (findC l 0 key).toNat).keys) (h4 : (gL l (findC l 0 key).toNat).keys.length ≠ 4) : putF l key = some (putAt l (findC l 0 key).toNat key) := by
  unfold putF; rw [hv, hk]; simp [h, h4]
theorem putF_split {l : List LinkT} {key : Int} (hv : validC l = true) (hk : isKeyB key = true) (h : key ∉ (gL l (findC l 0 key).toNat).keys) (h4 : (gL l (findC l 0 key).toNat).keys.length = 4) : putF l key = (splitF l (findC l 0 key)).map fun l' => putAt l' (findC l' 0 key).toNat key := by
  unfold putF; rw [hv, hk]; simp [h, h4]
theorem put_ts {L : List LnkL} {f : Nat} {key : Int} (hf : f < L.length) {X : LnkL} (hX : X.t = ⟨insK L[f].t.keys key, L[f].t.high, L[f].t.right⟩) : tsL (L.set f X) = putAt (tsL L) f key := by
  unfold putAt
  rw [gL_ts hf]
  simp only [tsL, List.map_set]
  rw [hX]
/-- what stands behind the search -/
theorem put_at {L : List LnkL} {key : Int} (hv : validC (tsL L) = true) (hk : isKeyB key = true) : (0 ≤ findC (tsL L) 0 key ∧ findC (tsL L) 0 key < (L.length : Int)) ∧ (findC (tsL L) 0 key).toNat < L.length := by
  have := find_range (good0 hv hk)
  simp only [List.length_map] at this
  exact ⟨⟨this.1, this.2.1⟩, by omega⟩
theorem split_notin {l : List LinkT} {key : Int} (hk : isKeyB key = true) (h : splOk l (findC l 0 key) = true) (hn : key ∉ (gL l (findC l 0 key).toNat).keys) :
    key ∉ (gL (splB l (findC l 0 key).toNat) (findC (splB l (findC l 0 key).toNat) 0 key).toNat).keys := by
  obtain ⟨hv, ha, h2, h16⟩ := splOk_iff.1 h
  have hi : (findC l 0 key).toNat < l.length := by omega
  rcases (split_find hk h).2 with e | e
  · rw [e, splB_i hi]; exact fun hm => hn (List.mem_of_mem_take hm)
  · rw [e, Int.toNat_natCast, splB_n hi]; exact fun hm => hn (List.mem_of_mem_drop hm)
/-- behind a split: all that the put asks -/
theorem put_split {l : List LnkL} {L M : List LnkL} {key : Int} (hL : tsL L = tsL l) (hv : validC (tsL l) = true) (hk : isKeyB key = true) (h : key ∉ (gL (tsL l) (findC (tsL l) 0 key).toNat).keys) (h4 : (gL (tsL l) (findC (tsL l) 0 key).toNat).keys.length = 4)
    (hM : tsL M = (splitF (tsL L) (findC (tsL L) 0 key)).getD []) (hs : (splitF (tsL L) (findC (tsL L) 0 key)).isSome = true) :
    validC (tsL M) = true ∧ (∀ hf : (findC (tsL M) 0 key).toNat < M.length, key ∉ M[(findC (tsL M) 0 key).toNat].t.keys) ∧ putF (tsL l) key = some (putAt (tsL M) (findC (tsL M) 0 key).toNat key) ∧ findC (tsL M) (findC (tsL L) 0 key) key = findC (tsL M) 0 key ∧ goodF (tsL M) (findC (tsL L) 0 key) key = true := by
  rw [hL] at hM hs ⊢
  have hok : splOk (tsL l) (findC (tsL l) 0 key) = true := by
    cases hh : splOk (tsL l) (findC (tsL l) 0 key) with
    | true => rfl
    | false => rw [split_no hh] at hs; simp at hs
  rw [split_yes hok, Option.getD_some] at hM
  obtain ⟨a, c, _, _, _, _, _, p6⟩ := split_path hok
  have hf := split_find hk hok
  have hr := find_range (good0 hv hk)
  refine ⟨by rw [hM]; exact p6, fun hf2 => ?_, ?_, by rw [hM]; exact hf.1.symm, ?_⟩
  · rw [← gL_ts hf2]; simp only [hM]; exact split_notin hk hok h
  · rw [putF_split hv hk h h4, split_yes hok, Option.map_some, hM]
  · rw [hM]; exact goodF_iff.2 ⟨p6, ⟨hr.1, by rw [splB_len]; omega⟩, isKey_iff.1 hk⟩
theorem put_nosplit {l L : List LnkL} {key : Int} (hL : tsL L = tsL l) (hv : validC (tsL l) = true) (hk : isKeyB key = true) (h : key ∉ (gL (tsL l) (findC (tsL l) 0 key).toNat).keys) (h4 : (gL (tsL l) (findC (tsL l) 0 key).toNat).keys.length = 4)
    (hs : (splitF (tsL L) (findC (tsL L) 0 key)).isSome = false) : putF (tsL l) key = none := by
  rw [hL] at hs
  rw [putF_split hv hk h h4]
  cases hh : splitF (tsL l) (findC (tsL l) 0 key) with
  | none => rfl
  | some x => rw [hh] at hs; simp at hs
end Go.Px
namespace Go.Px
theorem splF_len {l : List LinkT} {at_ : Int} : ((splitF l at_).getD []).length ≤ 17 := by
  cases h : splOk l at_ with
  | false => rw [split_no h]; simp
  | true =>
    rw [split_yes h, Option.getD_some, splB_len]
    have := (validC_path (splOk_iff.1 h).1).1
    omega
end Go.Px
