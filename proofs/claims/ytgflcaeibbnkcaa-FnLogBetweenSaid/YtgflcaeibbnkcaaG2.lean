/- Own layer: part of this seat (G2). Plain theorems; no conditions. -/
import Derived.Test.YtgflcaeibbnkcaaG1
set_option linter.unusedVariables false
set_option linter.unusedSimpArgs false
/-! what the log laws ask -/
namespace Go.Px
theorem validL_cut {l : List RecT} (h : validL l = true) (k : Nat) : validL (l.take k ++ l.drop (k + 1)) = true := by
  obtain ⟨h1, h2⟩ := validL_iff.1 h
  refine validL_iff.2 ⟨by simp; omega, fun r hr => ?_⟩
  rcases List.mem_append.1 hr with hr | hr
  · exact h2 r (List.mem_of_mem_take hr)
  · exact h2 r (List.mem_of_mem_drop hr)
theorem validL_add {l : List RecT} {r : RecT} (h : ∀ r ∈ l, isRecB r = true) (hl : l.length < 24) (hr : isRecB r = true) : validL (l ++ [r]) = true := by
  refine validL_iff.2 ⟨by simp; omega, fun x hx => ?_⟩
  rcases List.mem_append.1 hx with hx | hx
  · exact h x hx
  · simp at hx; subst hx; exact hr
theorem isRec_mark : isRecB ⟨3, 0, 0⟩ = true := by decide
theorem shF_kind {g : List RecT} : ∀ r ∈ shF g, r.kind ≠ 3 := by
  unfold shF; split
  · exact shL_kind _
  · simp
theorem shF_keys {g : List RecT} : (shF g).Pairwise fun a b => a.key ≠ b.key := by
  unfold shF; split
  · exact shL_keys _
  · exact .nil
theorem shF_apart {g : List RecT} {i j : Nat} (hi : i < (shF g).length) (hj : j < i) : (shF g)[j].key ≠ (shF g)[i].key := List.pairwise_iff_getElem.1 shF_keys j i (by omega) hi hj
theorem sh_mark {l : List RecT} (h : ∀ r ∈ l, isRecB r = true) (hl : l.length < 24) (h1 : ∀ r ∈ l, r.kind ≠ 3) (h2 : l.Pairwise fun a b => a.key ≠ b.key) : shF (l ++ [⟨3, 0, 0⟩]) = l := by
  rw [shF_yes (validL_add h hl isRec_mark), markP_mark, shL_idem h1 h2]
theorem shF_twice {g : List RecT} (h : (shF g).length < 24) : shF (shF g ++ [⟨3, 0, 0⟩]) = shF g := sh_mark shF_valid h shF_kind shF_keys
theorem lbF_same {a : List PairT} : lbF a a = [] := by unfold lbF; rw [lb_same]; split <;> rfl
theorem lbF_nilL {a : List PairT} (h : validR a = true) : (lbF [] a).length = a.length := by
  obtain ⟨h1, h2, h3⟩ := validR_parts.1 h
  have h4 := lb_nil_left h2 (fun p hp => (h3 p hp).1.1) 100
  have h5 := plc_all (fun p hp => (h3 p hp).1.2)
  have h6 : (lbU [] a 100).length = a.length := by rw [h4]; exact h5
  rw [lbF_yes validR_nil h (by omega), h6]
theorem lbF_nilR {a : List PairT} (h : validR a = true) : (lbF a []).length = a.length := by
  obtain ⟨h1, h2, h3⟩ := validR_parts.1 h
  have h4 := lb_nil_right h2 (fun p hp => (h3 p hp).1.1) 100
  have h5 := plc_all (fun p hp => (h3 p hp).1.2)
  have h6 : (lbU a [] 100).length = a.length := by rw [h4]; exact h5
  rw [lbF_yes h validR_nil (by omega), h6]
theorem lbF_pos {a b : List PairT} (h : 0 < (lbF a b).length) : validR a = true ∧ validR b = true ∧ lbF a b = lbU a b 100 := by
  unfold lbF at h ⊢
  split at h
  · rename_i hc
    simp only [Bool.and_eq_true] at hc
    rw [if_pos (by simp only [hc.1.1, hc.1.2, hc.2]; rfl)]
    exact ⟨hc.1.1, hc.1.2, rfl⟩
  · simp at h
theorem lbF_rec {a b : List PairT} (h : 0 < (lbF a b).length) : ∀ r ∈ lbF a b, isRecB r = true := by
  obtain ⟨_, h2, h3⟩ := lbF_pos h
  intro r hr
  rw [h3] at hr
  exact (lbU_rec h2 (by omega) r hr).1
theorem lbF_short {a b : List PairT} (h : 0 < (lbF a b).length) (hl : (lbF a b).length < 24) : shF (lbF a b ++ [⟨3, 0, 0⟩]) = lbF a b := by
  obtain ⟨_, h2, h3⟩ := lbF_pos h
  refine sh_mark (lbF_rec h) hl ?_ ?_
  · intro r hr; rw [h3] at hr; exact (lbU_rec h2 (by omega) r hr).2.2
  · rw [h3]; exact lbU_keys h2 100 (by omega)
theorem lbF_valid {a b : List PairT} (h : 0 < (lbF a b).length) : validL (lbF a b) = true := validL_iff.2 ⟨lbF_len, lbF_rec h⟩
theorem lb_replay {a b : List PairT} (h : 0 < (lbF a b).length) (hl : (lbF a b).length < 24) : repF a (lbF a b ++ [⟨3, 0, 0⟩]) = some b := by
  obtain ⟨h1, h2, h3⟩ := lbF_pos h
  have h4 : runR a (markP (lbF a b ++ [⟨3, 0, 0⟩])) = b := by rw [markP_mark, h3]; exact lb_run h1 h2
  rw [rep_yes h1 (validL_add (lbF_rec h) hl isRec_mark) (by rw [h4]; exact validR_len h2), h4]
theorem short_replay {l : List PairT} {g : List RecT} (h : (repF l g).isSome = true) (hl : (shF g).length < 24) : repF l (shF g ++ [⟨3, 0, 0⟩]) = repF l g := by
  obtain ⟨o, ho⟩ := Option.isSome_iff_exists.1 h
  obtain ⟨h1, h2, h3, h4, h5⟩ := rep_some ho
  have h6 : runR l (markP (shF g ++ [⟨3, 0, 0⟩])) = o := by
    rw [markP_mark, shF_yes h2, h3]
    refine run_same (validR_asc h1) (validR_asc h1) fun k => ?_
    rw [lastT_sh (fun r hr => (validL_iff.1 h2).2 r (markP_mem hr))]
  rw [rep_yes h1 (validL_add shF_valid hl isRec_mark) (by rw [h6]; exact h4), h6, ho]
theorem mark_replay {l : List PairT} {g : List RecT} (h : (repF l g).isSome = true) (hl : g.length ≠ 24) : repF l (g ++ [⟨1, 3, 3⟩]) = repF l g := by
  obtain ⟨o, ho⟩ := Option.isSome_iff_exists.1 h
  obtain ⟨h1, h2, h3, h4, h5⟩ := rep_some ho
  obtain ⟨h6, h7⟩ := validL_iff.1 h2
  have h8 : markP (g ++ [⟨1, 3, 3⟩]) = markP g := markP_rec g (by decide)
  rw [rep_yes h1 (validL_add h7 (by omega) (by decide)) (by rw [h8, ← h3]; exact h4), h8, ho, h3]
theorem lastMk_two : ∀ (a b : List RecT), lastMk (a ++ b) = if lastMk b = 0 then lastMk a else a.length + lastMk b
  | [], b => by simp [lastMk]
  | x :: a, b => by
    simp only [List.cons_append, lastMk, lastMk_two a b]
    by_cases h : lastMk b = 0
    · simp [h]
    · rw [if_neg h, if_neg h, if_pos (by omega)]; simp; omega
theorem markP_two (a b : List RecT) (h : lastMk b ≠ 0) : markP (a ++ b) = a ++ markP b := by
  rw [markP, lastMk_two, if_neg h, List.take_append, List.take_of_length_le (by omega), markP]
  congr 2; omega
theorem part_replay {l : List PairT} {g : List RecT} {i : Nat} (hi : i < g.length) (h3 : g[i].kind = 3) (h : (repF l g).isSome = true) (hp : (repF l (g.take (i + 1))).isSome = true) :
    repF ((repF l (g.take (i + 1))).getD []) (g.drop (i + 1)) = repF l g := by
  obtain ⟨o, ho⟩ := Option.isSome_iff_exists.1 h
  obtain ⟨h1, h2, h4, h5, h6⟩ := rep_some ho
  obtain ⟨p, hpo⟩ := Option.isSome_iff_exists.1 hp
  obtain ⟨_, _, p4, p5, p6⟩ := rep_some hpo
  obtain ⟨v1, v2⟩ := validL_iff.1 h2
  have ht : markP (g.take (i + 1)) = g.take i := by
    have : lastMk (g.take (i + 1)) = i + 1 := by rw [lastMk_take hi, if_pos h3]
    rw [markP_at this, List.take_take, Nat.min_eq_left (by omega)]
  have hg : g = g.take (i + 1) ++ g.drop (i + 1) := (List.take_append_drop _ _).symm
  have hr : runR p (markP (g.drop (i + 1))) = o := by
    rw [h4, p4, ht]
    have e := lastMk_two (g.take (i + 1)) (g.drop (i + 1))
    rw [← hg] at e
    by_cases hz : lastMk (g.drop (i + 1)) = 0
    · rw [if_pos hz, lastMk_take hi, if_pos h3] at e
      rw [markP_none hz, markP_at e]; rfl
    · have hm := markP_two (g.take (i + 1)) (g.drop (i + 1)) hz
      rw [← hg] at hm
      rw [hm, runR_app, runR_take hi, apply_mark h3]
  have hd : validL (g.drop (i + 1)) = true := validL_iff.2 ⟨by simp; omega, fun r hr => v2 r (List.mem_of_mem_drop hr)⟩
  rw [hpo, Option.getD_some, rep_yes p6 hd (by rw [hr]; exact h5), hr, ho]
theorem twice_replay {l : List PairT} {g : List RecT} (h : (repF l g).isSome = true) : repF ((repF l g).getD []) g = repF l g := by
  obtain ⟨o, ho⟩ := Option.isSome_iff_exists.1 h
  obtain ⟨h1, h2, h4, h5, h6⟩ := rep_some ho
  have hr : runR o (markP g) = o := by rw [h4]; exact run_twice (validR_asc h1)
  rw [ho, Option.getD_some, rep_yes h6 h2 (by rw [hr]; exact h5), hr]
theorem nil_replay {l : List PairT} {g : List RecT} (h : (repF l g).isSome = true) : repF l [] = some l := by
  obtain ⟨o, ho⟩ := Option.isSome_iff_exists.1 h
  obtain ⟨h1, _⟩ := rep_some ho
  exact rep_yes h1 (by decide) (validR_len h1)
theorem rep_value {l : List PairT} {g : List RecT} (h : (repF l g).isSome = true) : (repF l g).getD [] = runR l (g.take (lastMk g)) ∧ validR ((repF l g).getD []) = true ∧ asc (keysP l) = true := by
  obtain ⟨o, ho⟩ := Option.isSome_iff_exists.1 h
  obtain ⟨h1, h2, h4, h5, h6⟩ := rep_some ho
  rw [ho, Option.getD_some, run_marked, h4]
  exact ⟨rfl, by rw [← h4]; exact h6, validR_asc h1⟩
theorem rep_len {l : List PairT} {g : List RecT} : ((repF l g).getD []).length ≤ 24 := by
  cases ho : repF l g with
  | none => simp
  | some o => exact (rep_some ho).2.2.2.1
end Go.Px
