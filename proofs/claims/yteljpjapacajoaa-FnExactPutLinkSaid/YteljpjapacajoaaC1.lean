/- Own layer: part of this seat (C1). Plain theorems; no conditions. -/
import Derived.Test.YteljpjapacajoaaC0
set_option linter.unusedVariables false
set_option linter.unusedSimpArgs false
/-! the path of a chain -/
namespace Go.Px
def chainP (l : List LinkT) : List Nat → Int → Int → Prop
  | [], at_, low => at_ = -1 ∧ low = 100
  | i :: p, at_, low => at_ = (i : Int) ∧ i < l.length ∧ okLk (gL l i) low = true ∧ chainP l p (gL l i).right (gL l i).high
def walkC (l : List LinkT) : Nat → Int → List Nat
  | 0, _ => []
  | n + 1, at_ => at_.toNat :: walkC l n (gL l at_.toNat).right
def pathC (l : List LinkT) : List Nat := walkC l l.length 0
theorem walkC_len (l : List LinkT) : ∀ (n : Nat) (at_ : Int), (walkC l n at_).length = n
  | 0, _ => rfl
  | n + 1, at_ => by simp [walkC, walkC_len l n]
theorem pathC_len (l : List LinkT) : (pathC l).length = l.length := walkC_len l _ _
theorem vc_path {l : List LinkT} : ∀ {n : Nat} {seen : List Int} {at_ low : Int}, vcA l n seen at_ low = true → chainP l (walkC l n at_) at_ low ∧ (walkC l n at_).Nodup ∧ ∀ i ∈ walkC l n at_, (i : Int) ∉ seen
  | 0, _, _, _, h => by simp [vcA] at h
  | n + 1, seen, at_, low, h => by
    simp only [vcA, Bool.and_eq_true, Bool.not_eq_true', decide_eq_true_eq, decide_eq_false_iff_not] at h
    obtain ⟨⟨⟨⟨h1, h2⟩, h3⟩, h4⟩, h5⟩ := h
    have e : at_ = (at_.toNat : Int) := by omega
    have h2' : at_.toNat < l.length := by omega
    by_cases hn : n = 0
    · subst hn
      simp only [if_true, Bool.and_eq_true, decide_eq_true_eq] at h5
      refine ⟨⟨e, h2', h4, h5.1, h5.2⟩, by simp [walkC], fun i hi => ?_⟩
      simp only [walkC, List.mem_singleton] at hi
      subst hi; rwa [← e]
    · rw [if_neg hn] at h5
      obtain ⟨g1, g2, g3⟩ := vc_path h5
      refine ⟨⟨e, h2', h4, g1⟩, List.nodup_cons.2 ⟨fun hm => ?_, g2⟩, fun i hi => ?_⟩
      · have := g3 _ hm; rw [← e] at this; simp at this
      · rcases List.mem_cons.1 hi with rfl | hi
        · rwa [← e]
        · have := g3 i hi; simp at this; exact this.1
theorem path_vc {l : List LinkT} : ∀ {p : List Nat} {seen : List Int} {at_ low : Int}, chainP l p at_ low → p.Nodup → (∀ i ∈ p, (i : Int) ∉ seen) → p ≠ [] → vcA l p.length seen at_ low = true
  | [], _, _, _, _, _, _, hne => absurd rfl hne
  | i :: p, seen, at_, low, h, hn, hs, _ => by
    obtain ⟨rfl, h2, h3, h4⟩ := h
    simp only [List.length_cons, vcA, Int.toNat_natCast, Bool.and_eq_true, Bool.not_eq_true', decide_eq_true_eq, decide_eq_false_iff_not]
    refine ⟨⟨⟨⟨by omega, by omega⟩, hs i (by simp)⟩, h3⟩, ?_⟩
    cases p with
    | nil => obtain ⟨a, b⟩ := h4; simp [a, b]
    | cons j q =>
      rw [if_neg (by simp)]
      have hn2 := List.nodup_cons.1 hn
      refine path_vc h4 hn2.2 (fun x hx => ?_) (by simp)
      have h5 := hs x (by simp [hx])
      have h6 : x ≠ i := fun e => hn2.1 (e ▸ hx)
      simp only [List.mem_append, List.mem_singleton, not_or]
      exact ⟨h5, by omega⟩
theorem validC_path {l : List LinkT} (h : validC l = true) : (1 ≤ l.length ∧ l.length ≤ 16) ∧ chainP l (pathC l) 0 0 ∧ (pathC l).Nodup := by
  unfold validC at h
  simp only [Bool.and_eq_true, decide_eq_true_eq] at h
  obtain ⟨g1, g2, _⟩ := vc_path h.2
  exact ⟨h.1, g1, g2⟩
theorem path_valid {l : List LinkT} {p : List Nat} (h : chainP l p 0 0) (hn : p.Nodup) (hl : p.length = l.length) (h1 : 1 ≤ l.length) (h2 : l.length ≤ 16) : validC l = true := by
  rw [validC_run h1 h2, ← hl]
  exact path_vc h hn (by simp) (by intro e; subst e; simp at hl; omega)
theorem chainP_walk {l : List LinkT} : ∀ {p : List Nat} {at_ low : Int}, chainP l p at_ low → walkC l p.length at_ = p
  | [], _, _, _ => rfl
  | i :: p, at_, low, h => by
    obtain ⟨rfl, h2, h3, h4⟩ := h
    simp only [List.length_cons, walkC, Int.toNat_natCast]
    rw [chainP_walk h4]
theorem path_pathC {l : List LinkT} {p : List Nat} (h : chainP l p 0 0) (hl : p.length = l.length) : pathC l = p := by
  unfold pathC; rw [← hl]; exact chainP_walk h
theorem chainP_mem {l : List LinkT} : ∀ {p : List Nat} {at_ low : Int}, chainP l p at_ low → ∀ i ∈ p, i < l.length
  | [], _, _, _ => by simp
  | i :: p, at_, low, h => by
    obtain ⟨rfl, h2, h3, h4⟩ := h
    intro j hj
    rcases List.mem_cons.1 hj with rfl | hj
    · exact h2
    · exact chainP_mem h4 j hj
theorem chainP_tail {l : List LinkT} : ∀ {a b : List Nat} {at_ low : Int}, chainP l (a ++ b) at_ low → ∃ at2 low2, chainP l b at2 low2 ∧ low ≤ low2
  | [], b, at_, low, h => ⟨at_, low, h, Int.le_refl _⟩
  | i :: a, b, at_, low, h => by
    obtain ⟨rfl, h2, h3, h4⟩ := h
    obtain ⟨x, y, h5, h6⟩ := chainP_tail h4
    exact ⟨x, y, h5, by have := (okLk_iff.1 h3).1; omega⟩
theorem path_all {l : List LinkT} (h : validC l = true) {i : Nat} (hi : i < l.length) : i ∈ pathC l := by
  obtain ⟨_, h1, h2⟩ := validC_path h
  apply Classical.byContradiction
  intro hn
  have h3 : (i :: pathC l).Nodup := List.nodup_cons.2 ⟨hn, h2⟩
  have h4 : (i :: pathC l) ⊆ List.range l.length := by
    intro x hx
    rcases List.mem_cons.1 hx with rfl | hx
    · exact List.mem_range.2 hi
    · exact List.mem_range.2 (chainP_mem h1 x hx)
  have h5 := List.Nodup.length_le_of_subset h3 h4
  simp [pathC_len] at h5
  omega
theorem path_perm {l : List LinkT} (h : validC l = true) : (pathC l).Perm (List.range l.length) := by
  obtain ⟨_, h1, h2⟩ := validC_path h
  exact (List.perm_ext_iff_of_nodup h2 List.nodup_range).2 fun i => ⟨fun hi => List.mem_range.2 (chainP_mem h1 i hi), fun hi => path_all h (List.mem_range.1 hi)⟩
/-! following the links to the right -/
def hdq : List Nat → Int
  | [] => -1
  | i :: _ => i
def fp (l : List LinkT) (key : Int) : List Nat → Int
  | [] => -1
  | i :: p => if key < (gL l i).high then i else fp l key p
def fromC (l : List LinkT) (i : Nat) : List Nat := (pathC l).dropWhile fun j => decide (j ≠ i)
def goodF (l : List LinkT) (at_ key : Int) : Bool := validC l && (decide (0 ≤ at_) && decide (at_ < l.length)) && isKeyB key
def findC (l : List LinkT) (at_ key : Int) : Int := if goodF l at_ key then fp l key (fromC l at_.toNat) else -1
def keysC (l : List LinkT) : List Int := if validC l then (pathC l).flatMap fun i => (gL l i).keys else []
def sfx (l : List LinkT) (q : List Nat) : Prop := ∃ low, chainP l q (hdq q) low
theorem chainP_hd {l : List LinkT} {q : List Nat} {at_ low : Int} (h : chainP l q at_ low) : hdq q = at_ := by
  cases q with
  | nil => exact h.1.symm
  | cons i q => exact h.1.symm
theorem dropWhile_mem : ∀ {p : List Nat} {i : Nat}, i ∈ p → ∃ a b, p = a ++ b ∧ b = p.dropWhile (fun j => decide (j ≠ i)) ∧ ∃ c, b = i :: c
  | [], i, h => by simp at h
  | x :: p, i, h => by
    by_cases hx : x = i
    · subst hx
      exact ⟨[], x :: p, rfl, by simp, p, rfl⟩
    · have h' : i ∈ p := by rcases List.mem_cons.1 h with e | h; exact absurd e.symm hx; exact h
      obtain ⟨a, b, h1, h2, h3⟩ := dropWhile_mem h'
      refine ⟨x :: a, b, by rw [h1]; rfl, ?_, h3⟩
      rw [h2]; simp [List.dropWhile_cons, hx]
theorem from_ok {l : List LinkT} (h : validC l = true) {i : Nat} (hi : i < l.length) : (∃ a, pathC l = a ++ fromC l i) ∧ (∃ c, fromC l i = i :: c) ∧ sfx l (fromC l i) := by
  obtain ⟨a, b, h1, h2, c, h3⟩ := dropWhile_mem (path_all h hi)
  have hb : fromC l i = b := h2.symm
  obtain ⟨_, g1, g2⟩ := validC_path h
  rw [h1] at g1
  obtain ⟨x, y, g3, _⟩ := chainP_tail g1
  rw [hb]
  exact ⟨⟨a, h1⟩, ⟨c, h3⟩, y, by rw [chainP_hd g3]; exact g3⟩
theorem sfx_lt {l : List LinkT} {q : List Nat} (h : sfx l q) (h0 : 0 ≤ hdq q) : (hdq q).toNat < l.length := by
  obtain ⟨low, h⟩ := h
  cases q with
  | nil => simp [hdq] at h0
  | cons i q => simpa [hdq] using h.2.1
theorem sfx_next {l : List LinkT} {q : List Nat} (h : sfx l q) (h0 : 0 ≤ hdq q) : (gL l (hdq q).toNat).right = hdq q.tail ∧ sfx l q.tail := by
  obtain ⟨low, h⟩ := h
  cases q with
  | nil => simp [hdq] at h0
  | cons i q =>
    have h4 := h.2.2.2
    refine ⟨by simp only [hdq, Int.toNat_natCast, List.tail_cons]; exact (chainP_hd h4).symm, (gL l i).high, ?_⟩
    simp only [List.tail_cons]
    rw [chainP_hd h4]; exact h4
theorem sfx_last {l : List LinkT} {q : List Nat} (h : sfx l q) (h0 : 0 ≤ hdq q) (h1 : hdq q.tail < 0) : (gL l (hdq q).toNat).high = 100 := by
  obtain ⟨low, h⟩ := h
  cases q with
  | nil => simp [hdq] at h0
  | cons i q =>
    cases q with
    | nil => simpa [hdq] using h.2.2.2.2
    | cons j q => simp [hdq] at h1; omega
theorem hdq_neg {q : List Nat} (h : hdq q < 0) : q = [] := by
  cases q with
  | nil => rfl
  | cons i q => simp [hdq] at h; omega
theorem hdq_len {q : List Nat} (h0 : 0 ≤ hdq q) : q.tail.length + 1 = q.length := by
  cases q with
  | nil => simp [hdq] at h0
  | cons i q => simp
theorem fp_next {l : List LinkT} {key : Int} {q : List Nat} (h0 : 0 ≤ hdq q) (h : (gL l (hdq q).toNat).high ≤ key) : fp l key q.tail = fp l key q := by
  cases q with
  | nil => simp [hdq] at h0
  | cons i q =>
    simp only [hdq, Int.toNat_natCast] at h
    simp only [List.tail_cons, fp]
    rw [if_neg (by omega)]
theorem fp_stop {l : List LinkT} {key : Int} {q : List Nat} (h0 : 0 ≤ hdq q) (h : key < (gL l (hdq q).toNat).high) : hdq q = fp l key q := by
  cases q with
  | nil => simp [hdq] at h0
  | cons i q =>
    simp only [hdq, Int.toNat_natCast] at h
    simp only [fp, hdq]
    rw [if_pos h]
theorem fp_end {l : List LinkT} {key : Int} {q : List Nat} (h0 : hdq q < 0) : hdq q = fp l key q := by
  rw [hdq_neg h0]; rfl
theorem goodF_iff {l : List LinkT} {at_ key : Int} : goodF l at_ key = true ↔ validC l = true ∧ (0 ≤ at_ ∧ at_ < l.length) ∧ (0 ≤ key ∧ key ≤ 99) := by
  simp [goodF, isKey_iff, and_assoc]
theorem find_bad {l : List LinkT} {at_ key : Int} (h : goodF l at_ key = false) : findC l at_ key = -1 := by simp [findC, h]
theorem find_good {l : List LinkT} {at_ key : Int} (h : goodF l at_ key = true) : findC l at_ key = fp l key (fromC l at_.toNat) := by simp [findC, h]
theorem from_hd {l : List LinkT} (h : validC l = true) {at_ : Int} (h0 : 0 ≤ at_) (h1 : at_ < l.length) : hdq (fromC l at_.toNat) = at_ ∧ sfx l (fromC l at_.toNat) := by
  obtain ⟨_, ⟨c, hc⟩, h3⟩ := from_ok h (i := at_.toNat) (by omega)
  exact ⟨by rw [hc]; simp [hdq]; omega, h3⟩
end Go.Px
namespace Go.Px
section
variable {l : List LinkT} {n : Nat} {seen : List Int} {at_ low : Int} {x : LinkT}
theorem vc_range3 (hg : gL l at_.toNat = x) (h : (!(decide (low ≤ x.high) && decide (x.high ≤ 100))) = true) : vcA l n seen at_ low = false := by
  subst hg; rw [Bool.not_eq_true'] at h; exact vc_range h
theorem vc_len (hg : gL l at_.toNat = x) (h : (x.keys.length : Int) > 4) : vcA l n seen at_ low = false := by
  subst hg; exact vc_bad (ok_no (.inr (.inl (by omega))))
theorem vc_valid (hg : gL l at_.toNat = x) (h : (!(validK x.keys)) = true) : vcA l n seen at_ low = false := by
  subst hg; exact vc_bad (ok_no (.inr (.inr (by simpa using h))))
theorem vc_keys (hg : gL l at_.toNat = x) (h : x.keys.all (fun k => decide (low ≤ k) && decide (k ≤ x.high - 1)) = false) : vcA l n seen at_ low = false := by
  subst hg; exact vc_bad (ok_key2 h)
end
end Go.Px
namespace Go.Px
theorem sfx_ok {l : List LinkT} {q : List Nat} (h : sfx l q) (h0 : 0 ≤ hdq q) : ∃ low, okLk (gL l (hdq q).toNat) low = true := by
  obtain ⟨low, h⟩ := h
  cases q with
  | nil => simp [hdq] at h0
  | cons i q => exact ⟨low, by simpa [hdq] using h.2.2.1⟩
theorem flat_hd {q : List Nat} {f : Nat → List Int} (h0 : 0 ≤ hdq q) : q.flatMap f = f (hdq q).toNat ++ q.tail.flatMap f := by
  cases q with
  | nil => simp [hdq] at h0
  | cons i q => simp [hdq]
theorem sfx_path {l : List LinkT} (h : validC l = true) : sfx l (pathC l) ∧ hdq (pathC l) = 0 ∧ (pathC l).length ≤ 16 := by
  obtain ⟨h1, h2, h3⟩ := validC_path h
  exact ⟨⟨0, by rw [chainP_hd h2]; exact h2⟩, chainP_hd h2, by rw [pathC_len]; exact h1.2⟩
theorem keys_yes {l : List LinkT} (h : validC l = true) : keysC l = (pathC l).flatMap fun i => (gL l i).keys := by simp [keysC, h]
theorem keys_no {l : List LinkT} (h : validC l = false) : keysC l = [] := by simp [keysC, h]
theorem sfx_pos {l : List LinkT} {q : List Nat} {key : Int} (h : sfx l q) (h0 : 0 ≤ hdq q) (hk : key ≤ 99) (hh : (gL l (hdq q).toNat).high ≤ key) : 0 ≤ hdq q.tail := by
  apply Classical.byContradiction
  intro hn
  have := sfx_last h h0 (by omega)
  omega
end Go.Px
