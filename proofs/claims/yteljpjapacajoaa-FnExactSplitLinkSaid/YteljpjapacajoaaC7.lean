/- Own layer: part of this seat (C7). Plain theorems; no conditions. -/
import Derived.Test.YteljpjapacajoaaC6
set_option linter.unusedVariables false
set_option linter.unusedSimpArgs false
namespace Go.Px
open Go.RowKit
section
variable {w0 w : World} {R : List (Option Nat)} {M : List (List FE)} {l : List LnkL} {e : TypeId} {x : LnkL} {G : List FE} {H : FE}
theorem Mem.gown (h : Mem w0 w R M) (i : Nat) (hi : M[i]? = some G) : ∀ f ∈ G, f.own w := fun f hf => h.own f (List.mem_flatten.2 ⟨_, List.mem_of_getElem? hi, hf⟩)
theorem Mem.gown1 (h : Mem w0 w R M) (i : Nat) (hi : M[i]? = some [H]) : H.own w := h.gown i hi H (by simp)
theorem Nst.of_map (h : ∀ f ∈ l.map (keyF e), f.own w) : Nst w l := fun x hx => own_rd (h _ (List.mem_map.2 ⟨x, hx, rfl⟩))
theorem Nst.of_set {j : Nat} (hj : j < l.length) (h : ∀ f ∈ (l.map (keyF e)).set j H, f.own w) (hH : H.own w → Rd w x.A (x.t.keys.map I)) : Nst w (l.set j x) := by
  intro y hy
  obtain ⟨i, hi, rfl⟩ := List.getElem_of_mem hy
  rw [List.getElem_set]
  have hi' : i < ((l.map (keyF e)).set j H).length := by simpa using hi
  have h1 := h _ (List.getElem_mem hi')
  rw [List.getElem_set] at h1
  split
  · rename_i he; rw [if_pos he] at h1; exact hH h1
  · rename_i he; rw [if_neg he] at h1; simp only [List.getElem_map] at h1; exact own_rd h1
theorem Mem.gset (h : Mem w0 w R (G :: [H] :: M)) (j : Nat) : Mem w0 w R ((G.set j H) :: M) := by
  have hp := h.apart
  simp only [List.flatten_cons] at hp
  obtain ⟨h1, h2, h3⟩ := List.pairwise_append.1 hp
  obtain ⟨_, h5, h6⟩ := List.pairwise_append.1 h2
  have hs : ∀ y ∈ (G.set j H) ++ M.flatten, y ∈ (G :: [H] :: M).flatten := by
    intro y hy
    simp only [List.flatten_cons, List.mem_append, List.mem_singleton] at hy ⊢
    rcases hy with hy | hy
    · rcases List.mem_or_eq_of_mem_set hy with hy | rfl
      · exact .inl hy
      · exact .inr (.inl rfl)
    · exact .inr (.inr hy)
  refine ⟨h.os, h.tape, h.output, h.size, h.block, fun y hy => h.own y (hs y (by simpa using hy)), ?_, fun y hy => h.born y (hs y (by simpa using hy))⟩
  show ((G.set j H) ++ M.flatten).Pairwise Apart
  refine List.pairwise_append.2 ⟨pw_set (fun _ _ => Apart.symm) j h1 fun a ha => h3 a ha _ (by simp), h5, fun a ha b hb => ?_⟩
  rcases List.mem_or_eq_of_mem_set ha with ha | rfl
  · exact h3 a ha b (by simp [hb])
  · exact h6 _ (by simp) b hb
end
theorem keys_le {L : List LnkL} {n : Nat} {t : List LinkT} (h : tsL L = t) (ht : ∀ x ∈ t, x.keys.length ≤ n) : ∀ x ∈ L, x.t.keys.length ≤ n := fun x hx => ht _ (by rw [← h]; exact List.mem_map.2 ⟨x, hx, rfl⟩)
end Go.Px
