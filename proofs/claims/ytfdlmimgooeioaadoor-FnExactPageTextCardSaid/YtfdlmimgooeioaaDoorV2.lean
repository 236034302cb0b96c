/- Own layer: part of this seat (V2). Plain theorems; no conditions. -/
import Derived.Test.YtfdlmimgooeioaaDoorV1
set_option linter.unusedVariables false
set_option linter.unusedSimpArgs false
/-! steps of the walks of validity -/
namespace Go.Px
theorem validK_bd {l : List Int} (h : validK l = true) {k : Nat} (hk : k < l.length) : 0 ≤ l[k] ∧ l[k] ≤ 99 := by
  have h1 := (validK_iff.1 h).1 _ (List.getElem_mem hk)
  first | exact h1 | exact isKey_iff.1 h1
theorem flat_le {f : Int → List Int} {l : List Int} {k : Nat} (h : k < l.length) : ((l.take (k + 1)).flatMap f).length ≤ (l.flatMap f).length := by
  conv => rhs; rw [← List.take_append_drop (k + 1) l, List.flatMap_append, List.length_append]
  omega
section
variable {root i : Int} {p : PgT} {low high : Int}
theorem fr_n1 (h : ¬ p.keys.length ≤ 4) : frL root i p = false := by simp [frL, h]
theorem fr_n2 (h : validK p.keys = false) : frL root i p = false := by simp [frL, h]
theorem fr_n3 (h : i ≠ root) (h2 : ¬ 2 ≤ p.keys.length) : frL root i p = false := by simp [frL, h, h2]
theorem fr_y (h1 : p.keys.length ≤ 4) (h2 : validK p.keys = true) (h3 : i = root ∨ 2 ≤ p.keys.length) :
    frL root i p = (if p.kids = [] then decide (p.vals.length = p.keys.length) && p.vals.all isValB
     else decide (p.vals = []) && decide (1 ≤ p.keys.length) && decide (p.kids.length = p.keys.length + 1)) := by
  rcases h3 with h3 | h3 <;> simp [frL, h1, h2, h3]
theorem fr_yi (h1 : p.keys.length ≤ 4) (h2 : validK p.keys = true) (h3 : i = root ∨ 2 ≤ p.keys.length) (h4 : 0 < p.kids.length) :
    frL root i p = (decide (p.vals.length = 0) && decide (1 ≤ p.keys.length) && decide (p.kids.length = p.keys.length + 1)) := by
  rw [fr_y h1 h2 h3, if_neg (by intro e; rw [e] at h4; simp at h4)]
  congr 2; exact decide_eq_decide.2 List.length_eq_zero_iff.symm
theorem fr_yl (h1 : p.keys.length ≤ 4) (h2 : validK p.keys = true) (h3 : i = root ∨ 2 ≤ p.keys.length) (h4 : p.kids.length = 0) :
    frL root i p = (decide (p.vals.length = p.keys.length) && p.vals.all isValB) := by
  rw [fr_y h1 h2 h3, if_pos (List.eq_nil_of_length_eq_zero h4)]
theorem fr_yi' {vl kl cl : Nat} (h1 : p.keys.length ≤ 4) (h2 : validK p.keys = true) (h3 : i = root ∨ 2 ≤ p.keys.length) (h4 : 0 < p.kids.length) (e1 : p.vals.length = vl) (e2 : p.keys.length = kl) (e3 : p.kids.length = cl) :
    frL root i p = (decide (vl = 0) && decide (1 ≤ kl) && decide (cl = kl + 1)) := by subst e1 e2 e3; exact fr_yi h1 h2 h3 h4
theorem fr_yl' {V : List Int} {kl : Nat} (h1 : p.keys.length ≤ 4) (h2 : validK p.keys = true) (h3 : i = root ∨ 2 ≤ p.keys.length) (h4 : p.kids.length = 0) (e1 : p.vals = V) (e2 : p.keys.length = kl) :
    frL root i p = (decide (V.length = kl) && V.all isValB) := by subst e1 e2; exact fr_yl h1 h2 h3 h4
theorem kin_bad {k : Nat} (hk : k < p.keys.length) (h : p.keys[k] < low ∨ p.keys[k] ≥ high) : keysIn p low high = false := by
  unfold keysIn
  rw [List.all_eq_false]
  exact ⟨_, List.getElem_mem hk, by simp; omega⟩
theorem all_keep {q : Int → Bool} {l : List Int} {k : Nat} (hk : k < l.length) (h : (l.take k).all q = true) (h1 : q l[k] = true) : (l.take (k + 1)).all q = true := by
  rw [take_snoc hk, List.all_append, h]; simp [h1]
theorem all_done {q : Int → Bool} {l : List Int} {k : Nat} (hk : l.length ≤ k) (h : (l.take k).all q = true) : l.all q = true := by rwa [List.take_of_length_le hk] at h
theorem all_no {q : Int → Bool} {l : List Int} {k : Nat} (hk : k < l.length) (h1 : q l[k] = false) : l.all q = false := by
  rw [List.all_eq_false]; exact ⟨_, List.getElem_mem hk, by simp [h1]⟩
theorem vis_some {o : Option (List Int × Int)} {q : List Int × Int} (h : o.isSome = true) (hq : ∀ q', o = some q' → q' = q) : o = some q := by
  cases o with
  | none => cases h
  | some q' => rw [hq q' rfl]
theorem vis_none {o : Option (List Int × Int)} (h : o.isSome = false) : o = none := by cases o with | none => rfl | some q => cases h
theorem validT_len {T : TrT} (h : ¬ (1 ≤ T.pages.length ∧ T.pages.length ≤ 16)) : validT T = false := by
  cases hv : validT T with
  | false => rfl
  | true => exact absurd (valid_iff.1 hv).1 h
theorem valid_f {T : TrT} {s : List Int} {l : Int} (h1 : 1 ≤ T.pages.length ∧ T.pages.length ≤ 16) (h : visT T 3 T.root 0 100 [] (-1) = some (s, l)) {i : Nat} (hi : i < T.pages.length) (hn : (i : Int) ∉ s) : validT T = false := by
  cases hv : validT T with
  | false => rfl
  | true => exact absurd ((valid_vis h1 h).1 hv i hi) hn
/-! the reference's fit, step by step -/
variable {T : TrT} {d : Nat} {hi : Int}
theorem fit_n1 (h : validK p.keys = false) : fitL T d i low hi p = false := by simp [fitL, h]
theorem fit_n2 (h : ¬ p.keys.length ≤ 4) : fitL T d i low hi p = false := by simp [fitL, h]
theorem fit_n3 (h : allIn p.keys low hi = false) : fitL T d i low hi p = false := by simp [fitL, h]
theorem fit_n4 (h : i ≠ T.root) (h2 : ¬ 2 ≤ p.keys.length) : fitL T d i low hi p = false := by simp [fitL, h, h2]
theorem fit_y0 (h1 : validK p.keys = true) (h2 : p.keys.length ≤ 4) (h3 : allIn p.keys low hi = true) (h4 : i = T.root ∨ 2 ≤ p.keys.length) :
    fitL T 0 i low hi p = (decide (p.kids.length = 0) && decide (p.vals.length = p.keys.length) && allIn p.vals (-1000) 1000) := by
  have e : decide (p.kids = []) = decide (p.kids.length = 0) := decide_eq_decide.2 List.length_eq_zero_iff.symm
  rcases h4 with h4 | h4 <;> simp [fitL, h1, h2, h3, h4, e]
theorem fit_y0' {V : List Int} {kl cl : Nat} (h1 : validK p.keys = true) (h2 : p.keys.length ≤ 4) (h3 : allIn p.keys low hi = true) (h4 : i = T.root ∨ 2 ≤ p.keys.length) (e1 : p.vals = V) (e2 : p.keys.length = kl) (e3 : p.kids.length = cl) :
    fitL T 0 i low hi p = (decide (cl = 0) && decide (V.length = kl) && allIn V (-1000) 1000) := by subst e1 e2 e3; exact fit_y0 h1 h2 h3 h4
theorem fit_no {h0 : d ≠ 0} (h : p.keys.length = 0 ∨ p.vals.length ≠ 0 ∨ p.kids.length ≠ p.keys.length + 1 ∨ allIn p.kids 0 ((T.pages.length : Int) - 1) = false) : fitL T d i low hi p = false := by
  rcases h with h | h | h | h
  · have := List.eq_nil_of_length_eq_zero h; simp [fitL, h0, this]
  · have : p.vals ≠ [] := fun e => h (by rw [e]; rfl)
    simp [fitL, h0, this]
  · simp [fitL, h0, h]
  · simp [fitL, h0, h]
theorem fit_yd (h0 : d ≠ 0) (h1 : validK p.keys = true) (h2 : p.keys.length ≤ 4) (h3 : allIn p.keys low hi = true) (h4 : i = T.root ∨ 2 ≤ p.keys.length) (h5 : p.keys.length ≠ 0) (h6 : p.vals.length = 0) (h7 : p.kids.length = p.keys.length + 1) (h8 : allIn p.kids 0 ((T.pages.length : Int) - 1) = true) :
    fitL T d i low hi p = (List.range p.kids.length).all fun k => fitS T d (p.kids.getD k 0) (lowK p low k) (highK p (hi + 1) k - 1) := by
  have e5 : p.keys ≠ [] := fun e => h5 (by rw [e]; rfl)
  have e6 := List.eq_nil_of_length_eq_zero h6
  rcases h4 with h4 | h4 <;> simp [fitL, h0, h1, h2, h3, h4, e5, e6, h7, h8]
end
end Go.Px
