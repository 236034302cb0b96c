/- Own layer: part of this seat (C4). Plain theorems; no conditions. -/
import Derived.Test.YteljpjapacajoaaC3
set_option linter.unusedVariables false
set_option linter.unusedSimpArgs false
/-! splits keep chains valid; where keys are found -/
namespace Go.Px
theorem fp_mem {l : List LinkT} {key : Int} (hk : key ≤ 99) : ∀ {q : List Nat} {at_ low : Int}, chainP l q at_ low → q ≠ [] → ∃ i ∈ q, fp l key q = (i : Int) ∧ key < (gL l i).high
  | [], _, _, _, hne => absurd rfl hne
  | i :: q, at_, low, h, _ => by
    obtain ⟨rfl, h2, h3, h4⟩ := h
    by_cases hlt : key < (gL l i).high
    · exact ⟨i, by simp, by simp only [fp]; rw [if_pos hlt], hlt⟩
    · cases q with
      | nil => have := h4.2; omega
      | cons j q =>
        obtain ⟨x, hx, h5, h6⟩ := fp_mem hk h4 (by simp)
        exact ⟨x, by simp only [List.mem_cons] at hx ⊢; exact .inr hx, by simp only [fp] at h5 ⊢; rw [if_neg hlt]; exact h5, h6⟩
theorem find_range {l : List LinkT} {at_ key : Int} (h : goodF l at_ key = true) : 0 ≤ findC l at_ key ∧ findC l at_ key < l.length ∧ key < (gL l (findC l at_ key).toNat).high := by
  obtain ⟨hv, ha, hk⟩ := goodF_iff.1 h
  obtain ⟨⟨a, hp⟩, ⟨c, hc⟩, low, h3⟩ := from_ok hv (i := at_.toNat) (by omega)
  obtain ⟨i, hi, h4, h5⟩ := fp_mem hk.2 h3 (by rw [hc]; simp)
  have hlt := chainP_mem h3 i hi
  rw [find_good h, h4]
  exact ⟨by omega, by omega, by simpa using h5⟩
theorem good0 {l : List LinkT} {key : Int} (h : validC l = true) (hk : isKeyB key = true) : goodF l 0 key = true := by
  have h1 := (validC_path h).1
  exact goodF_iff.2 ⟨h, ⟨by omega, by omega⟩, isKey_iff.1 hk⟩
theorem from0 {l : List LinkT} (h : validC l = true) : fromC l 0 = pathC l := by
  obtain ⟨_, h2, _⟩ := sfx_path h
  unfold fromC
  cases hp : pathC l with
  | nil => rfl
  | cons i p => rw [hp] at h2; simp [hdq] at h2; subst h2; simp
theorem chain_congr {l l' : List LinkT} (hl : l.length ≤ l'.length) : ∀ {p : List Nat} {at_ low : Int}, chainP l p at_ low → (∀ j ∈ p, gL l' j = gL l j) → chainP l' p at_ low
  | [], _, _, h, _ => h
  | i :: p, at_, low, h, hg => by
    obtain ⟨rfl, h2, h3, h4⟩ := h
    have e := hg i (by simp)
    exact ⟨rfl, by omega, by rw [e]; exact h3, by rw [e]; exact chain_congr hl h4 fun j hj => hg j (by simp [hj])⟩
theorem splB_len (l : List LinkT) (i : Nat) : (splB l i).length = l.length + 1 := by simp [splB]
theorem splB_i {l : List LinkT} {i : Nat} (hi : i < l.length) : gL (splB l i) i = splY (gL l i) l.length := by
  rw [gL_at (by rw [splB_len]; omega)]; simp [splB]
theorem splB_n {l : List LinkT} {i : Nat} (hi : i < l.length) : gL (splB l i) l.length = splZ (gL l i) := by
  rw [gL_at (by rw [splB_len]; omega)]
  simp only [splB]
  rw [List.getElem_set_ne (by omega)]; simp
theorem splB_j {l : List LinkT} {i j : Nat} (hj : j < l.length) (hne : j ≠ i) : gL (splB l i) j = gL l j := by
  rw [gL_at (by rw [splB_len]; omega), gL_at hj]
  simp only [splB]
  rw [List.getElem_set_ne (by omega), List.getElem_append_left hj]
theorem validK_take {l : List Int} (h : validK l = true) (k : Nat) : validK (l.take k) = true := by
  obtain ⟨h1, h2⟩ := validK_iff.1 h
  exact validK_iff.2 ⟨fun x hx => h1 x (List.mem_of_mem_take hx), asc_pair.2 ((asc_pair.1 h2).sublist (List.take_sublist _ _))⟩
theorem validK_drop {l : List Int} (h : validK l = true) (k : Nat) : validK (l.drop k) = true := by
  obtain ⟨h1, h2⟩ := validK_iff.1 h
  exact validK_iff.2 ⟨fun x hx => h1 x (List.mem_of_mem_drop hx), asc_pair.2 ((asc_pair.1 h2).sublist (List.drop_sublist _ _))⟩
theorem take_lt {l : List Int} (h : validK l = true) {k : Nat} (hk : k < l.length) : (∀ x ∈ l.take k, x < l[k]) ∧ ∀ x ∈ l.drop k, l[k] ≤ x := by
  have ha := (validK_iff.1 h).2
  refine ⟨fun x hx => ?_, fun x hx => ?_⟩
  · obtain ⟨i, hi, rfl⟩ := List.getElem_of_mem hx
    simp only [List.length_take] at hi
    rw [List.getElem_take]
    exact asc_lt ha i k (by omega) hk
  · obtain ⟨i, hi, rfl⟩ := List.getElem_of_mem hx
    simp only [List.length_drop] at hi
    rw [List.getElem_drop]
    rcases Nat.eq_zero_or_pos i with h0 | h0
    · subst h0; exact Int.le_refl _
    · exact Int.le_of_lt (asc_lt ha k (k + i) (by omega) (by omega))
theorem mid_lt {n : Nat} (h : 2 ≤ n) : midK n < n := by unfold midK; omega
theorem splY_ok {x : LinkT} {low : Int} {n : Nat} (h : okLk x low = true) (h2 : 2 ≤ x.keys.length) : okLk (splY x n) low = true ∧ okLk (splZ x) (splY x n).high = true := by
  obtain ⟨h1, h3, h4, h5⟩ := okLk_iff.1 h
  have hm := mid_lt h2
  obtain ⟨t1, t2⟩ := take_lt h4 hm
  have hg : x.keys.getD (midK x.keys.length) 0 = x.keys[midK x.keys.length] := getD_lt hm
  have h6 := h5 _ (List.getElem_mem hm)
  refine ⟨okLk_iff.2 ⟨?_, ?_, validK_take h4 _, fun k hk => ?_⟩, okLk_iff.2 ⟨?_, ?_, validK_drop h4 _, fun k hk => ?_⟩⟩
  · simp only [splY]; rw [hg]; exact h6.1
  · simp only [splY, List.length_take]; omega
  · simp only [splY] at hk ⊢; rw [hg]; exact ⟨(h5 k (List.mem_of_mem_take hk)).1, t1 k hk⟩
  · simp only [splY, splZ]; rw [hg]; omega
  · simp only [splZ, List.length_drop]; omega
  · simp only [splY, splZ] at hk ⊢; rw [hg]; exact ⟨t2 k hk, (h5 k (List.mem_of_mem_drop hk)).2⟩
theorem split_chain {l : List LinkT} {i : Nat} {c : List Nat} (hi : i < l.length) (h2 : 2 ≤ (gL l i).keys.length) (hc : i ∉ c) : ∀ {a : List Nat} {at_ low : Int}, chainP l (a ++ i :: c) at_ low → i ∉ a → chainP (splB l i) (a ++ i :: l.length :: c) at_ low
  | [], at_, low, h, _ => by
    obtain ⟨rfl, g2, g3, g4⟩ := h
    obtain ⟨y1, y2⟩ := splY_ok (n := l.length) g3 h2
    refine ⟨rfl, by rw [splB_len]; omega, by rw [splB_i hi]; exact y1, ?_⟩
    rw [splB_i hi]
    refine ⟨rfl, by rw [splB_len]; omega, by rw [splB_n hi]; exact y2, ?_⟩
    rw [splB_n hi]
    exact chain_congr (by rw [splB_len]; omega) g4 fun j hj => splB_j (chainP_mem g4 j hj) fun e => hc (e ▸ hj)
  | j :: a, at_, low, h, hn => by
    obtain ⟨rfl, g2, g3, g4⟩ := h
    simp only [List.mem_cons, not_or] at hn
    have e := splB_j (i := i) g2 (fun e => hn.1 e.symm)
    refine ⟨rfl, by rw [splB_len]; omega, by rw [e]; exact g3, ?_⟩
    rw [e]
    exact split_chain hi h2 hc g4 hn.2
/-- the path behind a split -/
theorem split_path {l : List LinkT} {at_ : Int} (h : splOk l at_ = true) : ∃ a c, pathC l = a ++ at_.toNat :: c ∧ fromC l at_.toNat = at_.toNat :: c ∧ at_.toNat ∉ a ∧ at_.toNat ∉ c ∧ pathC (splB l at_.toNat) = a ++ at_.toNat :: l.length :: c ∧ validC (splB l at_.toNat) = true := by
  obtain ⟨hv, ha, h2, h16⟩ := splOk_iff.1 h
  have hi : at_.toNat < l.length := by omega
  obtain ⟨⟨a, hp⟩, ⟨c, hc⟩, _⟩ := from_ok hv hi
  obtain ⟨hl, h3, h4⟩ := validC_path hv
  rw [hc] at hp
  rw [hp] at h3 h4
  have h5 := List.nodup_append.1 h4
  have h6 : at_.toNat ∉ a := fun hm => h5.2.2 _ hm _ (by simp) rfl
  have h7 := List.nodup_cons.1 h5.2.1
  have h8 := split_chain hi h2 h7.1 h3 h6
  have hlt : ∀ j ∈ a ++ at_.toNat :: c, j < l.length := chainP_mem h3
  have hn : (a ++ at_.toNat :: l.length :: c).Nodup := by
    refine List.nodup_append.2 ⟨h5.1, List.nodup_cons.2 ⟨?_, List.nodup_cons.2 ⟨?_, h7.2⟩⟩, fun x hx y hy => ?_⟩
    · simp only [List.mem_cons, not_or]; exact ⟨by omega, h7.1⟩
    · intro hm; have := hlt l.length (by simp only [List.mem_append, List.mem_cons]; exact .inr (.inr hm)); omega
    · simp only [List.mem_cons] at hy
      rcases hy with rfl | rfl | hy
      · intro e; exact h6 (e ▸ hx)
      · have := hlt x (by simp only [List.mem_append]; exact .inl hx); omega
      · exact h5.2.2 x hx y (by simp [hy])
  have hlen : (a ++ at_.toNat :: l.length :: c).length = (splB l at_.toNat).length := by
    have := pathC_len l
    rw [hp] at this
    rw [splB_len]; simp at this ⊢; omega
  exact ⟨a, c, hp, hc, h6, h7.1, path_pathC h8 hlen, path_valid h8 hn hlen (by rw [splB_len]; omega) (by rw [splB_len]; omega)⟩
theorem fp_skip {l : List LinkT} {key : Int} {q : List Nat} : ∀ {a : List Nat}, (∀ j ∈ a, (gL l j).high ≤ key) → fp l key (a ++ q) = fp l key q
  | [], _ => rfl
  | j :: a, h => by
    have := h j (by simp)
    simp only [List.cons_append, fp]
    rw [if_neg (by omega)]
    exact fp_skip fun x hx => h x (by simp [hx])
theorem fp_pre {l : List LinkT} {key : Int} {i : Nat} {q : List Nat} : ∀ {a : List Nat}, fp l key (a ++ q) = (i : Int) → i ∉ a → ∀ j ∈ a, (gL l j).high ≤ key
  | [], _, _, j, hj => by simp at hj
  | x :: a, h, hn, j, hj => by
    simp only [List.mem_cons, not_or] at hn
    simp only [List.cons_append, fp] at h
    by_cases hlt : key < (gL l x).high
    · rw [if_pos hlt] at h; exact absurd (by omega) hn.1
    · rw [if_neg hlt] at h
      rcases List.mem_cons.1 hj with rfl | hj
      · omega
      · exact fp_pre h hn.2 j hj
theorem split_find {l : List LinkT} {key : Int} (hk : isKeyB key = true) (h : splOk l (findC l 0 key) = true) :
    findC (splB l (findC l 0 key).toNat) 0 key = findC (splB l (findC l 0 key).toNat) (findC l 0 key) key ∧
    (findC (splB l (findC l 0 key).toNat) 0 key = findC l 0 key ∨ findC (splB l (findC l 0 key).toNat) 0 key = l.length) := by
  obtain ⟨hv, ha, h2, h16⟩ := splOk_iff.1 h
  have hg := good0 hv hk
  have hr := find_range hg
  obtain ⟨a, c, p1, p2, p3, p4, p5, p6⟩ := split_path h
  have hf : fp l key (a ++ (findC l 0 key).toNat :: c) = ((findC l 0 key).toNat : Int) := by
    rw [← p1, ← from0 hv]
    have := find_good hg
    simp only [Int.toNat_zero] at this
    rw [← this]; omega
  have hpre := fp_pre hf p3
  have hi : (findC l 0 key).toNat < l.length := by omega
  have hpm : ∀ j ∈ a, j < l.length := fun j hj => chainP_mem (validC_path hv).2.1 j (by rw [p1]; simp [hj])
  have hpre2 : ∀ j ∈ a, (gL (splB l (findC l 0 key).toNat) j).high ≤ key := fun j hj => by
    rw [splB_j (hpm j hj) (fun e => p3 (by rw [← e]; exact hj))]; exact hpre j hj
  have g0 := good0 p6 hk
  have g1 : goodF (splB l (findC l 0 key).toNat) (findC l 0 key) key = true := goodF_iff.2 ⟨p6, ⟨ha.1, by rw [splB_len]; omega⟩, isKey_iff.1 hk⟩
  have hn2 := (validC_path p6).2.2
  have hfr : fromC (splB l (findC l 0 key).toNat) (findC l 0 key).toNat = (findC l 0 key).toNat :: l.length :: c := by
    unfold fromC
    rw [p5]
    clear hpre hpre2 hpm hf p1 p5 hn2
    induction a with
    | nil => simp
    | cons x a ih =>
      simp only [List.mem_cons, not_or] at p3
      rw [List.cons_append, List.dropWhile_cons, if_pos (by simpa using fun e => p3.1 e.symm)]
      exact ih p3.2
  have e0 : findC (splB l (findC l 0 key).toNat) 0 key = fp (splB l (findC l 0 key).toNat) key ((findC l 0 key).toNat :: l.length :: c) := by
    rw [find_good g0]
    simp only [Int.toNat_zero]
    rw [from0 p6, p5, fp_skip hpre2]
  have e1 : findC (splB l (findC l 0 key).toNat) (findC l 0 key) key = fp (splB l (findC l 0 key).toNat) key ((findC l 0 key).toNat :: l.length :: c) := by
    rw [find_good g1, hfr]
  refine ⟨by rw [e0, e1], ?_⟩
  rw [e0]
  simp only [fp]
  split
  · left; omega
  · right
    rw [splB_n hi, if_pos (by simp only [splZ]; exact hr.2.2)]
end Go.Px
