/- Own layer: part of this seat (V3). Plain theorems; no conditions. -/
import Derived.Test.YtfdlmimgooeioaaDoorV2
import Derived.Test.YtfdlmimgooeioaaDoorT1
set_option linter.unusedVariables false
set_option linter.unusedSimpArgs false
/-! texts of trees: bounds, rows of leaves, valid pages; a table that stays beside rows handed on -/
namespace Go.Px
open Go.RowKit
section
variable {P : Program} {w0 w : World} {L : List FE} {nm : String} {k : IntKind} {zs : List Int} {R : List (Option Nat)} {M : List (List FE)}
def TabO (P : Program) (nm : String) (R : List (Option Nat)) : Prop := ∀ g, P.globalNamed nm = some g → some g ∉ R
theorem tab_atR (h : Lib.TabIs P w0 nm k zs) (hM : Mem0 w0 w R L) (ho : TabO P nm R) : Lib.TabIs P w nm k zs := by
  unfold Lib.TabIs World.var? at *
  cases hg : P.globalNamed nm with
  | none => rw [hg] at h; simp at h
  | some g =>
    rw [hg] at h
    simp only [Option.bind_some] at h ⊢
    have hlt : g < w0.heap.size := by
      rcases Nat.lt_or_ge g w0.heap.size with h1 | h1
      · exact h1
      · rw [Array.getElem?_eq_none h1] at h; simp at h
    rw [hM.block g hlt (ho g hg)]; exact h
theorem TabO.nil : TabO P nm [] := fun _ _ => by simp
theorem TabO.cons {r : Option Nat} (h : TabO P nm [r]) (h2 : TabO P nm R) : TabO P nm (r :: R) := fun g hg => by
  have a := h g hg
  have b := h2 g hg
  simp only [List.mem_singleton] at a
  simp [a, b]
theorem TabO.old (h : Lib.TabIs P w0 nm k zs) (hM : Mem w0 w [] M) (i : Nat) {m sz : Nat} {v' : Value} {e' : TypeId} {xs : List Value} {g : List FE} (hi : M[i]? = some (⟨v', e', sz, m, xs⟩ :: g)) : TabO P nm [v'.ownBlock] := fun j hj hm => by
  have hlt : j < w0.heap.size := by
    unfold Lib.TabIs World.var? at h
    rw [hj] at h
    simp only [Option.bind_some] at h
    rcases Nat.lt_or_ge j w0.heap.size with h1 | h1
    · exact h1
    · rw [Array.getElem?_eq_none h1] at h; simp at h
  have := hM.born _ (List.mem_flatten.2 ⟨_, List.mem_of_getElem? hi, List.mem_cons_self⟩) j (List.mem_singleton.1 hm).symm
  simp at this
  omega
theorem TabO.own (h : Lib.TabIs P w0 nm k zs) (hM : Mem w0 w R M) (ho : TabO P nm R) (i : Nat) {m sz : Nat} {v' : Value} {e' : TypeId} {xs : List Value} {g : List FE} (hi : M[i]? = some (⟨v', e', sz, m, xs⟩ :: g)) : TabO P nm [v'.ownBlock] := fun j hj hm => by
  have hlt : j < w0.heap.size := by
    unfold Lib.TabIs World.var? at h
    rw [hj] at h
    simp only [Option.bind_some] at h
    rcases Nat.lt_or_ge j w0.heap.size with h1 | h1
    · exact h1
    · rw [Array.getElem?_eq_none h1] at h; simp at h
  rcases hM.born _ (List.mem_flatten.2 ⟨_, List.mem_of_getElem? hi, List.mem_cons_self⟩) j (List.mem_singleton.1 hm).symm with h1 | h1
  · omega
  · exact ho j hj h1
theorem Off.own {A : Option Addr} {l : List Value} (h : Mem w0 w R M) (hA : Rd w0 A l) (ho : Off A l R) (i : Nat) {m sz : Nat} {v' : Value} {e : TypeId} {xs : List Value} {g : List FE} (hi : M[i]? = some (⟨v', e, sz, m, xs⟩ :: g)) : Off A l [v'.ownBlock] := by
  rcases hA with h0 | ⟨b, o, rfl, hb, _⟩
  · exact .inl h0
  · rcases ho with ho | ho
    · exact .inl ho
    · refine .inr (fun a ha hm => ?_)
      cases ha
      rcases h.born _ (List.mem_flatten.2 ⟨_, List.mem_of_getElem? hi, List.mem_cons_self⟩) b (List.mem_singleton.1 hm).symm with h1 | h1
      · omega
      · exact ho _ rfl h1
theorem TrO.own {T : TreeL} (h : Mem w0 w R M) (hT : TrN w0 T) (ho : TrO T R) (i : Nat) {m sz : Nat} {v' : Value} {e' : TypeId} {xs : List Value} {g : List FE} (hi : M[i]? = some (⟨v', e', sz, m, xs⟩ :: g)) : TrO T [v'.ownBlock] :=
  ⟨Off.own h hT.1 ho.1 i hi, fun x hx => ⟨Off.own h (hT.2 x hx).1 (ho.2 x hx).1 i hi, Off.own h (hT.2 x hx).2.1 (ho.2 x hx).2.1 i hi, Off.own h (hT.2 x hx).2.2 (ho.2 x hx).2.2 i hi⟩⟩
end
/-! rows of leaves -/
theorem prs_len {p : PgT} : (prsP p).length = p.keys.length := by simp [prsP]
@[simp] theorem prs_lenG {x : PgL} : (prsP x.t).length = x.k.l.length := prs_len
theorem prs_get {p : PgT} {k : Nat} (h : k < p.keys.length) (h2 : k < p.vals.length) : (prsP p)[k]'(by rw [prs_len]; exact h) = ⟨p.keys[k], p.vals[k]⟩ := by
  simp only [prsP, List.getElem_map, List.getElem_range]
  rw [List.getD_eq_getElem?_getD, List.getElem?_eq_getElem h, List.getD_eq_getElem?_getD, List.getElem?_eq_getElem h2]; rfl
theorem prs_snoc {x : PgL} {k : Nat} (h : k < x.k.l.length) (h2 : k < x.v.l.length) : (prsP x.t).take k ++ [⟨x.k.l[k], x.v.l[k]⟩] = (prsP x.t).take (k + 1) := by
  rw [take_snoc (by rw [prs_len]; exact h), prs_get h h2]; rfl
theorem prs_set {x : PgL} {k : Nat} {z : PairT} (h : k < x.k.l.length) (h2 : k < x.v.l.length) : ((prsP x.t).take k ++ List.replicate (x.k.l.length - k) z).set k ⟨x.k.l[k], x.v.l[k]⟩ = (prsP x.t).take (k + 1) ++ List.replicate (x.k.l.length - (k + 1)) z := by
  have hl : (prsP x.t).length = x.k.l.length := prs_len
  have := fillI_set (l := prsP x.t) (z := z) (k := k) (by rw [hl]; exact h)
  rw [prs_get h h2, hl] at this
  exact this
theorem prs_take {x : PgL} {k : Nat} (h : x.k.l.length ≤ k) : (prsP x.t).take k = prsP x.t := List.take_of_length_le (by rw [prs_len]; exact h)
theorem prs_keys {p : PgT} : keysP (prsP p) = p.keys := by
  apply List.ext_getElem?
  intro i
  simp only [keysP, prsP, List.map_map, List.getElem?_map]
  by_cases h : i < p.keys.length
  · rw [List.getElem?_range h, List.getElem?_eq_getElem h]
    simp only [Option.map_some, Function.comp]
    rw [getD_in h]
  · rw [List.getElem?_eq_none (by simpa using h), List.getElem?_eq_none (by omega)]; rfl
theorem prs_valid {T : TrT} {i : Int} (h : frB T i = true) (hk : (gP T i).kids = []) : validR (prsP (gP T i)) = true := by
  have h1 := fr_len h
  have h2 := fr_keys h
  have h3 := fr_leaf h hk
  refine validR_iff.2 ⟨by rw [prs_len]; omega, fun p hp => ?_, by rw [prs_keys]; exact h2⟩
  obtain ⟨k, hk2, rfl⟩ := List.getElem_of_mem hp
  rw [prs_len] at hk2
  rw [prs_get hk2 (by omega)]
  exact isVal_iff.1 (List.all_eq_true.1 h3.2 _ (List.getElem_mem _))
/-! bounds -/
theorem kidsX_len {f : Int → Str} {ks : List Int} {B : Nat} (hk : ∀ x ∈ ks, 0 ≤ x ∧ x ≤ 99) : ∀ {l : List Int} {k : Nat}, (∀ x ∈ l, (f x).length ≤ B) → (kidsX f ks k l).length ≤ l.length * (B + 23)
  | [], _, _ => by simp [kidsX]
  | x :: l, k, h => by
    have h1 := h x (by simp)
    have h2 := kidsX_len hk (l := l) (k := k + 1) fun y hy => h y (by simp [hy])
    have h3 : (itoaS (ks.getD (k - 1) 0)).length ≤ 21 := by
      have : 0 ≤ ks.getD (k - 1) 0 ∧ ks.getD (k - 1) 0 ≤ 99 := by
        rw [List.getD_eq_getElem?_getD]
        cases hq : ks[k - 1]? with
        | none => simp
        | some y => exact hk y (List.mem_of_getElem? hq)
      exact itoa_len (by omega) (by omega)
    have h4 : (if k = 0 then ([] : Str) else 32 :: (itoaS (ks.getD (k - 1) 0) ++ [32])).length ≤ 23 := by
      split
      · simp
      · simp only [List.length_cons, List.length_append, List.length_nil]; omega
    simp only [kidsX, List.length_append, List.length_cons, Nat.add_mul, Nat.one_mul] at h2 ⊢
    omega
theorem txt_len {T : TrT} : ∀ {d : Nat} {i low high : Int}, okB T d i low high = true → (textT T d i).length ≤ 200 * 8 ^ d
  | 0, _, _, _, h => by simp [okB] at h
  | d + 1, i, low, high, h => by
    have h1 := okB_iff.1 h
    have hp : 1 ≤ 8 ^ d := Nat.pow_pos (by omega)
    simp only [textT]
    rcases h1.2.2.2 with ⟨_, h2⟩ | ⟨h0, h2, h3⟩
    · rw [if_pos h2]
      have hv := prs_valid h1.2.1 h2
      have := fmtL_len (l := prsP (gP T i)) _ (valid_small hv) (Nat.le_refl _)
      rw [List.take_length, prs_len] at this
      have := fr_len h1.2.1
      rw [Nat.pow_succ]; omega
    · rw [if_neg h2]
      have hkl := fr_in h1.2.1 h2
      have hl := fr_len h1.2.1
      have h4 := kidsX_len (f := textT T d) (ks := (gP T i).keys) (B := 200 * 8 ^ d) (validK_iff.1 (fr_keys h1.2.1)).1 (l := (gP T i).kids) (k := 0) (fun x hx => by
        obtain ⟨k, hk, rfl⟩ := List.getElem_of_mem hx
        exact txt_len (ok_kid h hk))
      have h5 : (gP T i).kids.length * (200 * 8 ^ d + 23) ≤ 5 * (200 * 8 ^ d + 23) := Nat.mul_le_mul_right _ (by omega)
      simp only [List.length_cons, List.length_append, List.length_nil]
      rw [Nat.pow_succ]; omega
theorem kids_part {T : TrT} {d : Nat} {i low high : Int} (h : okB T (d + 1) i low high = true) {k j : Nat} (hk : k ≤ j) : (kidsX (textT T d) (gP T i).keys 0 ((gP T i).kids.take k)).length ≤ j * (200 * 8 ^ d + 23) := by
  have h1 := okB_iff.1 h
  have h4 := kidsX_len (f := textT T d) (ks := (gP T i).keys) (B := 200 * 8 ^ d) (validK_iff.1 (fr_keys h1.2.1)).1 (l := (gP T i).kids.take k) (k := 0) (fun x hx => by
    obtain ⟨k, hk, rfl⟩ := List.getElem_of_mem (List.mem_of_mem_take hx)
    exact txt_len (ok_kid h hk))
  have h5 : ((gP T i).kids.take k).length * (200 * 8 ^ d + 23) ≤ j * (200 * 8 ^ d + 23) := Nat.mul_le_mul_right _ (by rw [List.length_take]; omega)
  omega
theorem pow3 {d : Nat} (h : d ≤ 3) : 8 ^ d ≤ 512 := by
  have : 8 ^ d ≤ 8 ^ 3 := Nat.pow_le_pow_right (by omega) h
  omega
/-! valid trees -/
theorem valid_ok {T : TrT} (h : validT T = true) : heightT T ≤ 3 ∧ okB T (heightT T) T.root 0 100 = true ∧ (subT T (heightT T) T.root).Nodup ∧ (subT T (heightT T) T.root).length = T.pages.length := by
  rw [valid_ref] at h
  simp only [Bool.and_eq_true, decide_eq_true_eq] at h
  obtain ⟨⟨⟨⟨⟨⟨_, _⟩, h2⟩, h3⟩, h4⟩, h5⟩, h6⟩ := h
  exact ⟨h3, (fit_ok (d := heightT T) (low := 0) (hi := 99) h2).symm.trans h4, h5, h6⟩
theorem sub_ok {T : TrT} {x : Int} : ∀ {d : Nat} {i low high : Int}, okB T d i low high = true → x ∈ subT T d i → ∃ e lo hi, e + 1 ≤ d ∧ okB T (e + 1) x lo hi = true
  | 0, _, _, _, h, _ => by simp [okB] at h
  | d + 1, i, low, high, h, hx => by
    simp only [subT] at hx
    rcases List.mem_cons.1 hx with rfl | hx
    · exact ⟨d, low, high, by omega, h⟩
    · obtain ⟨y, hy, hx⟩ := List.mem_flatMap.1 hx
      obtain ⟨k, hk, rfl⟩ := List.getElem_of_mem hy
      obtain ⟨e, lo, hi, h1, h2⟩ := sub_ok (ok_kid h hk) hx
      exact ⟨e, lo, hi, by omega, h2⟩
theorem valid_page {T : TrT} (h : validT T = true) {i : Int} (hi : inT T i = true) : ∃ e lo hi, e + 1 ≤ 3 ∧ okB T (e + 1) i lo hi = true := by
  obtain ⟨h1, h2, h3, h4⟩ := valid_ok h
  have hc := (cover h3 (fun x hx => inT_iff.1 (sub_in h2 x hx))).2 h4
  have hi2 := inT_iff.1 hi
  have := hc i.toNat (by omega)
  rw [show ((i.toNat : Nat) : Int) = i by omega] at this
  obtain ⟨e, lo, hi, a, b⟩ := sub_ok h2 this
  exact ⟨e, lo, hi, by omega, b⟩
theorem valid_len {T : TrT} (h : validT T = true) : 1 ≤ T.pages.length ∧ T.pages.length ≤ 16 := (valid_iff.1 h).1
/-- what a page's text is -/
def pgX (T : TrT) (i : Int) : Str := if validT T && inT T i then (if (gP T i).kids = [] then fmtL (prsP (gP T i)) else fmtI (gP T i).keys ++ (124 :: fmtI (gP T i).kids)) else []
def frX (T : TrT) : Str := if validT T then textT T (heightT T) T.root else []
theorem pgX_no {T : TrT} {i : Int} (h : validT T = false ∨ inT T i = false) : pgX T i = [] := by unfold pgX; rw [if_neg]; rcases h with h | h <;> simp [h]
theorem pgX_leaf {T : TrT} {i : Int} (h : validT T = true) (h2 : inT T i = true) (h3 : (gP T i).kids = []) : pgX T i = fmtL (prsP (gP T i)) := by unfold pgX; rw [if_pos (by simp [h, h2]), if_pos h3]
theorem pgX_in {T : TrT} {i : Int} (h : validT T = true) (h2 : inT T i = true) (h3 : (gP T i).kids ≠ []) : pgX T i = fmtI (gP T i).keys ++ (124 :: fmtI (gP T i).kids) := by unfold pgX; rw [if_pos (by simp [h, h2]), if_neg h3]
theorem frX_no {T : TrT} (h : validT T = false) : frX T = [] := by simp [frX, h]
theorem frX_yes {T : TrT} (h : validT T = true) : frX T = textT T (heightT T) T.root := by simp [frX, h]
theorem ok_kids_in {T : TrT} {d : Nat} {i low high : Int} (h : okB T (d + 1) i low high = true) : ∀ x ∈ (gP T i).kids, 0 ≤ x ∧ x < (T.pages.length : Int) := fun x hx => by
  obtain ⟨k, hk, rfl⟩ := List.getElem_of_mem hx
  exact inT_iff.1 (okB_in (ok_kid h hk))
/-! sizes -/
def szR (left : Int) (n : Nat) : Int := if left < (n : Int) then -1 else left - n
theorem szR_no {left : Int} {n : Nat} (h : left < (n : Int)) : szR left n = -1 := by simp [szR, h]
theorem szR_yes {left : Int} {n : Nat} (h : (n : Int) ≤ left) : szR left n = left - n := by unfold szR; rw [if_neg (by omega)]
theorem szR_neg {left : Int} {n : Nat} : szR left n < 0 ↔ left < (n : Int) := by
  unfold szR; split <;> omega
def szG (x : PgL) : Nat := x.k.l.length + x.c.l.length + x.v.l.length
def sumG (l : List PgL) : Nat := (l.map szG).sum
theorem sumG_snoc {l : List PgL} {i : Nat} (h : i < l.length) : sumG (l.take (i + 1)) = sumG (l.take i) + szG l[i] := by
  unfold sumG; rw [take_snoc h, List.map_append, List.sum_append]; simp
theorem sumG_take : ∀ {l : List PgL} (i : Nat), sumG (l.take i) ≤ sumG l
  | [], _ => by simp [sumG]
  | x :: l, 0 => by simp [sumG]
  | x :: l, i + 1 => by
    have := sumG_take (l := l) i
    simp only [sumG, List.take_succ_cons, List.map_cons, List.sum_cons] at this ⊢
    omega
theorem sumG_mem : ∀ {l : List PgL} {x : PgL}, x ∈ l → szG x ≤ sumG l
  | y :: l, x, h => by
    simp only [sumG, List.map_cons, List.sum_cons]
    rcases List.mem_cons.1 h with rfl | h
    · omega
    · have := sumG_mem h; simp only [sumG] at this; omega
theorem sz_tree {T : TreeL} (h : T.l.length + sumG T.l ≤ 1048576) : SzT T := ⟨by omega, fun x hx => by have := sumG_mem hx; unfold szG at this; omega⟩
/-! copies -/
theorem tsg_len {L l : List PgL} {k : Nat} (h : tsG L = (tsG l).take k) (hk : k ≤ l.length) : L.length = k := by
  have := congrArg List.length h
  simp at this; omega
theorem tsg_snoc {L l : List PgL} {k : Nat} {X : PgL} (h : tsG L = (tsG l).take k) (hk : k < l.length) (hX : X.t = l[k].t) : tsG (L ++ [X]) = (tsG l).take (k + 1) := by
  rw [take_snoc (by simpa using hk), ← h]; simp [tsG, hX]
theorem tsg_eq_len {L l : List PgL} (h : tsG L = tsG l) : L.length = l.length := by
  have := congrArg List.length h; simpa using this
theorem sz_copy {T : TreeL} {L : List PgL} {r : Int} {A : Option Addr} {c : Nat} (h : SzT T) (hL : tsG L = tsG T.l) : SzT ⟨r, A, c, L⟩ := by
  refine ⟨by rw [tsg_eq_len hL]; exact h.1, fun x hx => ?_⟩
  have hm : x.t ∈ tsG T.l := by rw [← hL]; exact List.mem_map.2 ⟨x, hx, rfl⟩
  obtain ⟨y, hy, he⟩ := List.mem_map.1 hm
  have h2 := h.2 y hy
  have e1 : x.k.l = y.k.l := (congrArg PgT.keys he).symm
  have e2 : x.c.l = y.c.l := (congrArg PgT.kids he).symm
  have e3 : x.v.l = y.v.l := (congrArg PgT.vals he).symm
  rw [e1, e2, e3]; exact h2
theorem t_copy {T : TreeL} {L : List PgL} {A : Option Addr} {c : Nat} (hL : tsG L = tsG T.l) : (⟨T.root, A, c, L⟩ : TreeL).t = T.t := by
  show (⟨T.root, tsG L⟩ : TrT) = ⟨T.root, tsG T.l⟩; rw [hL]
theorem fill_app {L : List PgL} {k n : Nat} {z X : PgL} (h : L.length = k) (hk : k < n) : (L ++ List.replicate (n - k) z).set k X = L ++ [X] ++ List.replicate (n - (k + 1)) z := by
  rw [List.set_append_right _ _ (by omega), h, Nat.sub_self, show n - k = (n - (k + 1)) + 1 by omega, List.replicate_succ, List.set_cons_zero]
  simp
/-! pages compared -/
theorem pg_eq {a b : PgL} (h1 : a.k.l = b.k.l) (h2 : a.c.l = b.c.l) (h3 : a.v.l = b.v.l) : a.t = b.t := by unfold PgL.t; rw [h1, h2, h3]
theorem tsg_nl {a b : List PgL} (h : a.length ≠ b.length) : decide (tsG a = tsG b) = false := decide_eq_false (fun e => h (tsg_eq_len e))
theorem tsg_ne {a b : List PgL} {k : Nat} (ha : k < a.length) (hb : k < b.length) (h : a[k].t ≠ b[k].t) : decide (tsG a = tsG b) = false := decide_eq_false (fun e => h (by
  have := congrArg (fun z => z[k]?) e
  simp only [tsG, List.getElem?_map, List.getElem?_eq_getElem ha, List.getElem?_eq_getElem hb, Option.map_some, Option.some.injEq] at this
  exact this))
theorem tsg_step {a b : List PgL} {k : Nat} (ha : k < a.length) (hb : k < b.length) (h : (tsG a).take k = (tsG b).take k) (he : a[k].t = b[k].t) : (tsG a).take (k + 1) = (tsG b).take (k + 1) := by
  rw [take_snoc (by simpa using ha), take_snoc (by simpa using hb), h]; simp [tsG, he]
theorem tsg_all {a b : List PgL} {k : Nat} (ha : a.length ≤ k) (hb : b.length ≤ k) (h : (tsG a).take k = (tsG b).take k) : decide (tsG a = tsG b) = true := by
  rw [List.take_of_length_le (by simpa using ha), List.take_of_length_le (by simpa using hb)] at h
  exact decide_eq_true h
theorem tree_eq {a b : TreeL} (h1 : a.root = b.root) (h2 : tsG a.l = tsG b.l) : a.t = b.t := by unfold TreeL.t; rw [h1, h2]
end Go.Px
