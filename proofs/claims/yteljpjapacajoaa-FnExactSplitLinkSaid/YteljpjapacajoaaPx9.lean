/- Own layer: part of this seat (Px9). Plain theorems; no conditions. -/
import Derived.Test.YteljpjapacajoaaPx8
set_option linter.unusedVariables false
set_option linter.unusedSimpArgs false
/-! links of chains: a row of structs that hold rows of their own -/
namespace Go.Px
open Go.RowKit
structure LinkT where
  keys : List Int
  high : Int
  right : Int
deriving DecidableEq
/-- a link with the place of its keys -/
structure LnkL where
  A : Option Addr
  cp : Nat
  t : LinkT
def encL (x : LnkL) : List Value := [.slice x.A x.t.keys.length x.cp, I x.t.high, I x.t.right]
theorem encL_len (x : LnkL) : (encL x).length = 3 := rfl
def keyF (e : TypeId) (x : LnkL) : FE := ⟨.slice x.A x.t.keys.length x.cp, e, 1, x.t.keys.length, x.t.keys.map I⟩
abbrev tsL (l : List LnkL) : List LinkT := l.map LnkL.t
def Nst (w : World) (l : List LnkL) : Prop := ∀ x ∈ l, Rd w x.A (x.t.keys.map I)
section
variable {w0 w : World} {R : List (Option Nat)} {M : List (List FE)} {l : List LnkL} {e : TypeId} {x : LnkL}
theorem Nst.nil : Nst w [] := by intro x hx; simp at hx
theorem Nst.cons (h : Rd w x.A (x.t.keys.map I)) (hl : Nst w l) : Nst w (x :: l) := by
  intro y hy
  rcases List.mem_cons.1 hy with rfl | hy
  · exact h
  · exact hl y hy
theorem Nst.get (h : Nst w l) {j : Nat} (hj : j < l.length) : Rd w l[j].A (l[j].t.keys.map I) := h _ (List.getElem_mem hj)
theorem Nst.at {L : List FE} (h : Nst w0 l) (hM : Mem0 w0 w [] L) : Nst w l := fun x hx => (h x hx).at hM
theorem Nst.mem (h : Mem w0 w R M) (i : Nat) (hi : M[i]? = some (l.map (keyF e))) : Nst w l := by
  intro x hx
  have h1 : (keyF e x).own w := h.own _ (List.mem_flatten.2 ⟨_, List.mem_of_getElem? hi, List.mem_map.2 ⟨x, hx, rfl⟩⟩)
  exact own_rd h1
theorem pw_set {α : Type} {S : α → α → Prop} (sym : ∀ a b, S a b → S b a) {x : α} : ∀ {l : List α} (j : Nat), l.Pairwise S → (∀ a ∈ l, S a x) → (l.set j x).Pairwise S
  | [], _, _, _ => by simp
  | a :: l, 0, h, hx => by
    rw [List.set_cons_zero]
    exact List.pairwise_cons.2 ⟨fun b hb => sym _ _ (hx b (by simp [hb])), (List.pairwise_cons.1 h).2⟩
  | a :: l, j + 1, h, hx => by
    rw [List.set_cons_succ]
    refine List.pairwise_cons.2 ⟨fun b hb => ?_, pw_set sym j (List.pairwise_cons.1 h).2 fun b hb => hx b (by simp [hb])⟩
    rcases List.mem_or_eq_of_mem_set hb with hb | rfl
    · exact (List.pairwise_cons.1 h).1 b hb
    · exact hx a (by simp)
theorem Mem.kapp (h : Mem w0 w R (l.map (keyF e) :: [keyF e x] :: M)) : Mem w0 w R ((l ++ [x]).map (keyF e) :: M) := by
  have := Mem.merge h
  rwa [show l.map (keyF e) ++ [keyF e x] = (l ++ [x]).map (keyF e) by simp] at this
theorem Mem.kset (h : Mem w0 w R (l.map (keyF e) :: [keyF e x] :: M)) (j : Nat) : Mem w0 w R ((l.set j x).map (keyF e) :: M) := by
  have hs : ∀ y ∈ (l.set j x).map (keyF e) ++ M.flatten, y ∈ (l.map (keyF e) :: [keyF e x] :: M).flatten := by
    intro y hy
    simp only [List.flatten_cons, List.mem_append, List.mem_singleton] at hy ⊢
    rcases hy with hy | hy
    · obtain ⟨z, hz, rfl⟩ := List.mem_map.1 hy
      rcases List.mem_or_eq_of_mem_set hz with hz | rfl
      · exact .inl (List.mem_map.2 ⟨z, hz, rfl⟩)
      · exact .inr (.inl rfl)
    · exact .inr (.inr hy)
  have hp := h.apart
  simp only [List.flatten_cons] at hp
  obtain ⟨h1, h2, h3⟩ := List.pairwise_append.1 hp
  obtain ⟨_, h5, h6⟩ := List.pairwise_append.1 h2
  refine ⟨h.os, h.tape, h.output, h.size, h.block, fun y hy => h.own y (hs y (by simpa using hy)), ?_, fun y hy => h.born y (hs y (by simpa using hy))⟩
  show ((l.set j x).map (keyF e) ++ M.flatten).Pairwise Apart
  refine List.pairwise_append.2 ⟨?_, h5, fun a ha b hb => ?_⟩
  · rw [List.map_set]
    exact pw_set (fun _ _ => Apart.symm) j h1 fun a ha => h3 a ha _ (by simp)
  · obtain ⟨z, hz, rfl⟩ := List.mem_map.1 ha
    rcases List.mem_or_eq_of_mem_set hz with hz | rfl
    · exact h3 _ (List.mem_map.2 ⟨z, hz, rfl⟩) b (by simp [hb])
    · exact h6 _ (by simp) b hb
theorem Mem.knil (h : Mem w0 w R M) : Mem w0 w R (([] : List LnkL).map (keyF e) :: M) := by simpa [Mem] using h
end
end Go.Px
