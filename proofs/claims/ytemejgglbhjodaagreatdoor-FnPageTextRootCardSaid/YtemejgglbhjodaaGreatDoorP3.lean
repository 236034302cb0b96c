/- Own layer, part 4: plain theorems on the walk of this program's functions and on what they compute; no conditions. -/
import Derived.Test.YtemejgglbhjodaaGreatDoorP2
import Derived.Test.YtemejgglbhjodaaGreatDoorProg
import Derived.Shelf.Strings.Builder1
import Derived.Test.YtemejgglbhjodaaGreatDoorRows
set_option linter.unusedVariables false
set_option linter.unusedSimpArgs false
section
namespace Go.Px
open Go.RowKit
section
variable {T T0 R : TrT} {P : List Int} {s : TrT × List Int} {a : Nat}
theorem mendL_stop (ha : 1 ≤ a) (h : a = 1 ∨ 2 ≤ (gP s.1 (P.getD (a - 1) 0)).keys.length) : mendL P a s = s := by
  obtain ⟨b, rfl⟩ : ∃ b, a = b + 1 := ⟨a - 1, by omega⟩
  rw [Nat.add_sub_cancel] at h
  simp only [mendL]; rw [if_pos (by rcases h with h | h; exact .inl (by omega); exact .inr h)]
theorem mendL_go (ha : 2 ≤ a) (h : ¬ 2 ≤ (gP s.1 (P.getD (a - 1) 0)).keys.length) : mendL P a s = mendL P (a - 1) ((mendF s.1 (P.getD (a - 2) 0) (plcI (gP s.1 (P.getD (a - 2) 0)).kids (P.getD (a - 1) 0) - 1).toNat).1, goneF s.2 (mendF s.1 (P.getD (a - 2) 0) (plcI (gP s.1 (P.getD (a - 2) 0)).kids (P.getD (a - 1) 0) - 1).toNat).2) := by
  obtain ⟨b, rfl⟩ : ∃ b, a = b + 2 := ⟨a - 2, by omega⟩
  rw [show b + 2 - 1 = b + 1 by omega] at h ⊢
  rw [show b + 2 - 2 = b by omega]
  show (if b + 1 = 0 ∨ 2 ≤ (gP s.1 (P.getD (b + 1) 0)).keys.length then s else _) = _
  rw [if_neg (by rintro (h1 | h1); omega; exact h h1)]
  rfl
theorem cutA_nil {n : Nat} : cutA n R [] = R := by cases n <;> rfl
theorem cutA_go {g : List Int} {i : Nat} (hi : i < g.length) (h4 : g.length ≤ 4) : cutA (4 - i) R (g.drop i) = cutA (4 - (i + 1)) (cutF R g[i]) ((g.drop (i + 1)).map (shI g[i])) := by
  rw [List.drop_eq_getElem_cons hi, show 4 - i = (4 - (i + 1)) + 1 by omega]
  rfl
theorem FV.kb {lv : Int → Nat} {g : List Int} (h : FV lv R g) (hl : R.pages.length ≤ 64) {p : PgT} (hp : p ∈ R.pages) : ∀ x ∈ p.kids, 0 ≤ x ∧ x ≤ 1000 := by
  intro x hx
  obtain ⟨k, hk, rfl⟩ := List.getElem_of_mem hp
  have hs := h.sh (k : Int) (inT_iff.2 (by omega))
  have e : gP R (k : Int) = R.pages[k] := by unfold gP; rw [List.getD_eq_getElem?_getD, Int.toNat_natCast, List.getElem?_eq_getElem hk]; rfl
  rw [e] at hs
  have := (sh_in hs (fun e => by rw [e] at hx; simp at hx)).2.2.2 x hx
  omega
theorem FV.small {lv : Int → Nat} {g : List Int} (h : FV lv R g) : ∀ p ∈ R.pages, smallP p := fun p hp => by
  obtain ⟨k, hk, rfl⟩ := List.getElem_of_mem hp
  have hs := h.sh (k : Int) (inT_iff.2 ⟨by omega, by omega⟩)
  have e : gP R (k : Int) = R.pages[k] := by unfold gP; rw [List.getD_eq_getElem?_getD, Int.toNat_natCast, List.getElem?_eq_getElem hk]; rfl
  rw [e] at hs
  have h4 := hs.k4
  rcases hs.c with ⟨_, b, c⟩ | ⟨_, b, c, _⟩
  · exact ⟨by omega, by simp [b], by omega⟩
  exact ⟨by omega, by omega, by simp [c]⟩
theorem FV.step {lv : Int → Nat} {g : List Int} {i : Nat} (hi : i < g.length) (h : FV lv R (g.drop i)) : FV (fun x => lv (unI g[i] x)) (cutF R g[i]) ((g.drop (i + 1)).map (shI g[i])) := by
  rw [List.drop_eq_getElem_cons hi] at h
  exact h.cut
theorem FV.at {lv : Int → Nat} {g : List Int} {i : Nat} (hi : i < g.length) (h : FV lv R (g.drop i)) : 0 ≤ g[i] ∧ g[i] < (R.pages.length : Int) := by
  rw [List.drop_eq_getElem_cons hi] at h
  exact inT_iff.1 (h.gin _ List.mem_cons_self)
def gmL (g : List Int) (i m : Nat) (gi : Int) : List Int := g.take (i + 1) ++ (((g.drop (i + 1)).take m).map (shI gi) ++ (g.drop (i + 1)).drop m)
variable {g : List Int} {i m : Nat} {gi : Int}
theorem gm_len (hi : i < g.length) : (gmL g i m gi).length = g.length := by
  unfold gmL; rw [List.length_append, mid_len, List.length_take, List.length_drop]; omega
theorem gm_zero : gmL g i 0 gi = g := by simp [gmL]
theorem gm_geti (hi : i < g.length) (h : i < (gmL g i m gi).length) : (gmL g i m gi)[i] = g[i] := by
  have e : (gmL g i m gi)[i]? = g[i]? := by
    unfold gmL
    rw [List.getElem?_append_left (by rw [List.length_take]; omega), List.getElem?_take_of_lt (by omega)]
  rw [List.getElem?_eq_getElem h, List.getElem?_eq_getElem hi] at e
  exact Option.some.inj e
theorem gm_get (hi : i + 1 + m < g.length) (h : i + 1 + m < (gmL g i m gi).length) : (gmL g i m gi)[i + 1 + m] = g[i + 1 + m] := by
  have hr : m < (g.drop (i + 1)).length := by rw [List.length_drop]; omega
  have e : (gmL g i m gi)[i + 1 + m]? = g[i + 1 + m]? := by
    unfold gmL
    rw [List.getElem?_append_right (by rw [List.length_take]; omega), List.length_take, Nat.min_eq_left (by omega), show i + 1 + m - (i + 1) = m by omega]
    rw [List.getElem?_append_right (by rw [List.length_map, List.length_take]; omega), List.length_map, List.length_take, Nat.min_eq_left (by omega), Nat.sub_self, List.getElem?_drop, List.getElem?_drop]
    rfl
  rw [List.getElem?_eq_getElem h, List.getElem?_eq_getElem hi] at e
  exact Option.some.inj e
theorem gm_set (hi : i + 1 + m < g.length) : (gmL g i m gi).set (i + 1 + m) (shI gi g[i + 1 + m]) = gmL g i (m + 1) gi := by
  have hr : m < (g.drop (i + 1)).length := by rw [List.length_drop]; omega
  have e : g[i + 1 + m] = (g.drop (i + 1))[m] := by rw [List.getElem_drop]
  unfold gmL
  rw [List.set_append_right _ _ (by rw [List.length_take]; omega), List.length_take, Nat.min_eq_left (by omega), show i + 1 + m - (i + 1) = m by omega, e, mid_set hr]
theorem gm_end (hm : g.length ≤ i + 1 + m) : gmL g i m gi = g.take (i + 1) ++ (g.drop (i + 1)).map (shI gi) := by
  unfold gmL
  rw [mid_all (by rw [List.length_drop]; omega)]
theorem gm_drop (hi : i < g.length) : (g.take (i + 1) ++ (g.drop (i + 1)).map (shI gi)).drop (i + 1) = (g.drop (i + 1)).map (shI gi) := by
  rw [List.drop_append_of_le_length (by rw [List.length_take]; omega), List.drop_eq_nil_of_le (by rw [List.length_take]; omega), List.nil_append]
theorem root_yes (h : (gP s.1 s.1.root).kids.length = 1) : rootF s = (⟨(gP s.1 s.1.root).kids.getD 0 0, s.1.pages⟩, s.2 ++ [s.1.root]) := by unfold rootF; rw [if_pos h]
theorem root_no (h : ¬ (gP s.1 s.1.root).kids.length = 1) : rootF s = s := by unfold rootF; rw [if_neg h]
theorem drop_WK (h : validT T = true) {key : Int} : WK (dropF T key) := by
  have hP := path_ok (key := key) h
  have hl := (valid_len h).2
  have hd : ∀ {a : Nat} {s : TrT × List Int}, DV T (pathK T key) a s → ∃ b, DV T (pathK T key) b (mendL (pathK T key) a s) := by
    intro a
    induction a with
    | zero => intro s hD; have := hD.a1; omega
    | succ a ih =>
      intro s hD
      by_cases hs : a + 1 = 1 ∨ 2 ≤ (gP s.1 ((pathK T key).getD (a + 1 - 1) 0)).keys.length
      · rw [mendL_stop (by omega) hs]; exact ⟨_, hD⟩
      have h2 : 2 ≤ a + 1 := by have : ¬ a + 1 = 1 := fun e => hs (.inl e); omega
      rw [mendL_go h2 (fun e => hs (.inr e))]
      have := hD.next h h2 (hD.place h hP h2)
      rw [Nat.add_sub_cancel] at this ⊢
      exact ih this
  obtain ⟨b, hb⟩ := hd (DV.start h hP (key := key))
  obtain ⟨h1, h2, h3, h4⟩ := hb.fin h hP
  have := hP.le
  exact h1.all (by omega) h2 (by omega)
end
end Go.Px
end
section
namespace Go.Px
open Go.RowKit
theorem Mem.gcat {w0 w : World} {R : List (Option Nat)} {M : List (List FE)} {l1 l2 : List PgL} {e : TypeId} (h : Mem w0 w R (l1.flatMap (pgF e) :: l2.flatMap (pgF e) :: M)) : Mem w0 w R ((l1 ++ l2).flatMap (pgF e) :: M) := by
  simpa [Mem, List.flatMap_append] using h
theorem Mem.gsplit {w0 w : World} {R : List (Option Nat)} {M : List (List FE)} {l : List PgL} {e : TypeId} (k : Nat) (h : Mem w0 w R (l.flatMap (pgF e) :: M)) : Mem w0 w R ((l.take k).flatMap (pgF e) :: (l.drop k).flatMap (pgF e) :: M) := by
  have e1 : l.flatMap (pgF e) = (l.take k).flatMap (pgF e) ++ (l.drop k).flatMap (pgF e) := by rw [← List.flatMap_append, List.take_append_drop]
  rw [e1] at h
  simpa [Mem] using h
def shrF (a p i : Nat) : Nat := a * (i + 1) / p - a * i / p
theorem sh_mul {a i : Nat} (ha : a ≤ 24) (hi : i ≤ 6) : a * i ≤ 144 := by
  have := Nat.mul_le_mul ha hi; omega
theorem share_at {len i n : Nat} (hl : len ≤ 24) (hn : n = partN len) (hi : i < n) : len * (i + 1) / n ≤ len ∧ len * (i + 1) / n ≤ len * i / n + 4 ∧ (5 ≤ len → len * i / n + 1 ≤ len * (i + 1) / n) ∧ len * i / n ≤ len * (i + 1) / n := by
  subst hn; exact share_ok hl hi
theorem part_le {len : Nat} (hl : len ≤ 24) : 1 ≤ partN len ∧ partN len ≤ 6 ∧ (2 ≤ partN len → 5 ≤ len) := by
  unfold partN; split <;> omega
section
variable {L : List PgL}
def lfs (L : List PgL) : Prop := ∀ q ∈ tsG L, lfP q
theorem lfs_nil : lfs [] := fun q hq => by simp at hq
theorem lfs_snoc {x : PgL} (h : lfs L) (hx : lfP x.t) : lfs (L ++ [x]) := fun q hq => by
  rw [tsg_app] at hq
  rcases List.mem_append.1 hq with hq | hq
  · exact h q hq
  rw [List.mem_singleton] at hq; rw [hq]; exact hx
theorem lfs_take {k : Nat} (h : lfs L) : ∀ q ∈ tsG (L.take k), lfP q := fun q hq => by
  obtain ⟨x, hx, rfl⟩ := List.mem_map.1 hq
  exact h _ (List.mem_map.2 ⟨x, List.mem_of_mem_take hx, rfl⟩)
theorem lfs_drop {k : Nat} (h : lfs L) : ∀ q ∈ tsG (L.drop k), lfP q := fun q hq => by
  obtain ⟨x, hx, rfl⟩ := List.mem_map.1 hq
  exact h _ (List.mem_map.2 ⟨x, List.mem_of_mem_drop hx, rfl⟩)
def fulls (L : List PgL) : Prop := ∀ x ∈ L, 1 ≤ x.k.l.length
theorem fulls_nil : fulls [] := fun q hq => by simp at hq
theorem fulls_snoc {x : PgL} (h : fulls L) (hx : 1 ≤ x.k.l.length) : fulls (L ++ [x]) := fun q hq => by
  rcases List.mem_append.1 hq with hq | hq
  · exact h q hq
  rw [List.mem_singleton] at hq; rw [hq]; exact hx
theorem wk_load1 (h : lfs L) (hl : L.length = 1) : WK ⟨0, tsG L⟩ := by
  obtain ⟨x, rfl⟩ := List.length_eq_one_iff.1 hl
  exact wk_one (h _ (by simp))
theorem wk_load2 {X : PgL} (h : lfs L) (hl : L.length ≤ 60) (hk : X.k.l.length ≤ 5) (hc : X.c.l.length ≤ 6) (hv : X.v.l = []) (hne : 1 ≤ X.c.l.length) (hr : ∀ x ∈ X.c.l, 1 ≤ x ∧ x ≤ (L.length : Int)) : WK ⟨0, tsG (X :: L)⟩ :=
  wk_two (L := tsG L) (p := X.t) h ⟨hk, hc, by show X.v.l.length ≤ 5; rw [hv]; simp⟩ (fun e => by have : X.c.l.length = 0 := congrArg List.length e; omega) (by rw [List.length_map]; exact hr) (by rw [List.length_map]; exact hl)
theorem wk_load3 {X Y Z : PgL} (h : lfs L) (hl : L.length = 6) (hX : X.k.l.length = 1 ∧ X.c.l = [1, 5] ∧ X.v.l = []) (hY : Y.k.l.length ≤ 5 ∧ Y.c.l.length ≤ 6 ∧ Y.v.l = [] ∧ 1 ≤ Y.c.l.length ∧ ∀ x ∈ Y.c.l, 2 ≤ x ∧ x < 5) (hZ : Z.k.l.length ≤ 5 ∧ Z.c.l.length ≤ 6 ∧ Z.v.l = [] ∧ 1 ≤ Z.c.l.length ∧ ∀ x ∈ Z.c.l, 6 ≤ x ∧ x < 9) : WK ⟨0, tsG (X :: Y :: (L.take 3 ++ Z :: L.drop 3))⟩ := by
  have e : tsG (X :: Y :: (L.take 3 ++ Z :: L.drop 3)) = X.t :: Y.t :: (tsG (L.take 3) ++ Z.t :: tsG (L.drop 3)) := by simp [tsG]
  have l1 : (tsG (L.take 3)).length = 3 := by rw [List.length_map, List.length_take]; omega
  have l2 : (tsG (L.drop 3)).length = 3 := by rw [List.length_map, List.length_drop]; omega
  have sm : ∀ {W : PgL}, W.k.l.length ≤ 5 → W.c.l.length ≤ 6 → W.v.l = [] → smallP W.t := fun {W} h1 h2 h3 => ⟨h1, h2, by show W.v.l.length ≤ 5; rw [h3]; simp⟩
  rw [e]
  refine wk_three (lfs_take h) (lfs_drop h) (sm (by omega) (by rw [hX.2.1]; simp) hX.2.2) (sm hY.1 hY.2.1 hY.2.2.1) (sm hZ.1 hZ.2.1 hZ.2.2.1) ?_ ?_ ?_ ?_ ?_ (by omega)
  · show X.c.l = _
    rw [hX.2.1, l1]; rfl
  · rw [l1]; exact fun x hx => by have := hY.2.2.2.2 x hx; omega
  · rw [l1, l2]; exact fun x hx => by have := hZ.2.2.2.2 x hx; omega
  · exact fun e => by have h1 : Y.c.l.length = 0 := congrArg List.length e; omega
  exact fun e => by have h1 : Z.c.l.length = 0 := congrArg List.length e; omega
theorem mem_snocB {l : List Int} {x lo hi hi2 : Int} (h : ∀ y ∈ l, lo ≤ y ∧ y < hi) (hx : lo ≤ x ∧ x < hi2) (hh : hi ≤ hi2) : ∀ y ∈ l ++ [x], lo ≤ y ∧ y < hi2 := fun y hy => by
  rcases List.mem_append.1 hy with hy | hy
  · have := h y hy; omega
  rw [List.mem_singleton] at hy; rw [hy]; exact hx
end
end Go.Px
end
section
namespace Go.Px
open Go.RowKit
section
variable {w0 w : World} {R : List (Option Nat)} {M : List (List FE)} {L : List PgL} {e e2 : TypeId} {A : Option Addr} {r : Int} {c n m : Nat}
theorem Mem.gownT (h : Mem w0 w R M) (i : Nat) {G : List FE} (hi : M[i]? = some G) : ∀ f ∈ G, f.own w := fun f hf => h.own f (List.mem_flatten.2 ⟨G, List.mem_of_getElem? hi, hf⟩)
theorem Mem.gmrg {a g1 g2 : List FE} (h : Mem w0 w R (a :: g1 :: g2 :: M)) : Mem w0 w R (a :: (g1 ++ g2) :: M) := by simpa [Mem] using h
theorem Mem.ngP (h : Mem w0 w R M) (i j : Nat) (hij : i ≠ j) (hi : M[i]? = some (L.flatMap (pgF e))) {gr n' c' m' sz' : Nat} {e3 : TypeId} {xs' : List Value} {g' : List FE} (hj : M[j]? = some (⟨.slice (bl gr) n' c', e3, sz', m', xs'⟩ :: g')) {k : Nat} (hk : k < L.length) (s : SlL) (hs : slF e s ∈ pgF e L[k]) : Ng s.A gr := by
  intro a ha hb
  have hg := grp_get (List.pairwise_flatten.1 h.apart).2 hi hj hij _ (List.mem_flatMap.2 ⟨_, List.getElem_mem hk, hs⟩) _ (List.mem_cons_self)
  exact hg a.block (by show (Value.slice s.A _ _).ownBlock = _; rw [ha]; rfl) (by rw [hb]; rfl)
theorem TrN.ofown (h : ∀ f ∈ ([⟨.slice A n c, e2, 3, m, L.flatMap encPg⟩] ++ L.flatMap (pgF e) : List FE), f.own w) : TrN w ⟨r, A, c, L⟩ := by
  refine ⟨own_rd (show (⟨.slice A n c, e2, 3, m, L.flatMap encPg⟩ : FE).own w from h _ (by simp)), fun x hx => ?_⟩
  have hm : ∀ y ∈ pgF e x, y.own w := fun y hy => h _ (List.mem_append_right _ (List.mem_flatMap.2 ⟨x, hx, hy⟩))
  exact ⟨own_rd (hm (slF e x.k) (by simp [pgF])), own_rd (hm (slF e x.c) (by simp [pgF])), own_rd (hm (slF e x.v) (by simp [pgF]))⟩
theorem TrN.take {T : TreeL} (h : TrN w T) (k : Nat) : TrN w ⟨r, T.A, c, T.l.take k⟩ := ⟨rd_takeN encPg_len h.1, fun x hx => h.2 x (List.mem_of_mem_take hx)⟩
theorem TrN.set1 {k : Nat} {X : PgL} {H : FE} (hk : k < L.length) (hX : PgN w L[k] → H.own w → PgN w X) (h : ∀ f ∈ (([⟨.slice A n c, e2, 3, m, (L.set k X).flatMap encPg⟩] ++ L.flatMap (pgF e)) ++ [H] : List FE), f.own w) : TrN w ⟨r, A, c, L.set k X⟩ := by
  have hN : ∀ x ∈ L, PgN w x := fun x hx => by
    have hm : ∀ y ∈ pgF e x, y.own w := fun y hy => h _ (List.mem_append_left _ (List.mem_append_right _ (List.mem_flatMap.2 ⟨x, hx, hy⟩)))
    exact ⟨own_rd (hm (slF e x.k) (by simp [pgF])), own_rd (hm (slF e x.c) (by simp [pgF])), own_rd (hm (slF e x.v) (by simp [pgF]))⟩
  refine ⟨own_rd (show (⟨.slice A n c, e2, 3, m, (L.set k X).flatMap encPg⟩ : FE).own w from h _ (by simp)), fun x hx => ?_⟩
  rcases List.mem_or_eq_of_mem_set hx with hx | rfl
  · exact hN x hx
  exact hX (hN _ (List.getElem_mem hk)) (h _ (by simp))
theorem sz_set {k : Nat} {X : PgL} {r' : Int} {A' : Option Addr} {c' : Nat} (h : SzT ⟨r, A, c, L⟩) (hX : X.k.l.length ≤ 1000 ∧ X.c.l.length ≤ 1000 ∧ X.v.l.length ≤ 1000) : SzT ⟨r', A', c', L.set k X⟩ := by
  refine ⟨by simpa using h.1, fun x hx => ?_⟩
  rcases List.mem_or_eq_of_mem_set hx with hx | rfl
  · exact h.2 x hx
  omega
theorem sz_take {k : Nat} {r' : Int} {A' : Option Addr} {c' : Nat} (h : SzT ⟨r, A, c, L⟩) : SzT ⟨r', A', c', L.take k⟩ := by
  refine ⟨Nat.le_trans (List.length_take_le' _ _) h.1, fun x hx => h.2 x (List.mem_of_mem_take hx)⟩
theorem sz_root {r' : Int} {A' : Option Addr} {c' : Nat} (h : SzT ⟨r, A, c, L⟩) : SzT ⟨r', A', c', L⟩ := ⟨h.1, h.2⟩
end
end Go.Px
end
section
namespace Go.Proofs.YtemejgglbhjodaaGreatDoor
open Go.Px
theorem mixed : Tryz.prog.follows .mixedOrders = true := by kernel_rfl
theorem el3 : ElT Tryz.prog 3 [.int .i64 0] 8 false := ElT.of (z := .int .i64 0) (by kernel_rfl) rfl (by kernel_rfl)
theorem el4 : ElT Tryz.prog 4 [.bool false] 1 false := ElT.of (z := .bool false) (by kernel_rfl) rfl (by kernel_rfl)
theorem el5 : ElT Tryz.prog 5 [.int .u8 0] 1 false := ElT.of (z := .int .u8 0) (by kernel_rfl) rfl (by kernel_rfl)
theorem el9 : ElT Tryz.prog 9 [S []] 16 false := ElT.of (z := S []) (by kernel_rfl) rfl (by kernel_rfl)
theorem el22 : ElT Tryz.prog 22 [.slice none 0 0] 24 false := ElT.of (z := .slice none 0 0) (by kernel_rfl) rfl (by kernel_rfl)
theorem el23 : ElT Tryz.prog 23 [.slice none 0 0] 24 false := ElT.of (z := .slice none 0 0) (by kernel_rfl) rfl (by kernel_rfl)
theorem el25 : ElT Tryz.prog 25 [.int .i64 0, .slice none 0 0] 32 true := ElT.of (z := .agg #[.int .i64 0, .slice none 0 0]) (by kernel_rfl) rfl (by kernel_rfl)
theorem el27 : ElT Tryz.prog 27 [.int .i64 0, .int .i64 0] 16 true := ElT.of (z := .agg #[.int .i64 0, .int .i64 0]) (by kernel_rfl) rfl (by kernel_rfl)
theorem el30 : ElT Tryz.prog 30 [.slice none 0 0] 24 false := ElT.of (z := .slice none 0 0) (by kernel_rfl) rfl (by kernel_rfl)
theorem el42 : ElT Tryz.prog 42 [.slice none 0 0, .slice none 0 0, .slice none 0 0] 72 true := ElT.of (z := .agg #[.slice none 0 0, .slice none 0 0, .slice none 0 0]) (by kernel_rfl) rfl (by kernel_rfl)
theorem el43 : ElT Tryz.prog 43 [.slice none 0 0] 24 false := ElT.of (z := .slice none 0 0) (by kernel_rfl) rfl (by kernel_rfl)
theorem el65 : ElT Tryz.prog 65 [.slice none 0 0, .slice none 0 0] 48 true := ElT.of (z := .agg #[.slice none 0 0, .slice none 0 0]) (by kernel_rfl) rfl (by kernel_rfl)
theorem el75 : ElT Tryz.prog 75 [.bool false, .bool false, .bool false, .bool false, .bool false, .bool false, .bool false, .bool false, .bool false, .bool false, .bool false, .bool false, .bool false, .bool false, .bool false, .bool false] 16 true := ElT.of (z := .agg #[.bool false, .bool false, .bool false, .bool false, .bool false, .bool false, .bool false, .bool false, .bool false, .bool false, .bool false, .bool false, .bool false, .bool false, .bool false, .bool false]) (by kernel_rfl) rfl (by kernel_rfl)
theorem el77 : ElT Tryz.prog 77 [.int .i64 0, .slice none 0 0, .bool false, .bool false, .bool false, .bool false, .bool false, .bool false, .bool false, .bool false, .bool false, .bool false, .bool false, .bool false, .bool false, .bool false, .bool false, .bool false, .int .i64 0] 56 true := ElT.of (z := .agg #[.int .i64 0, .slice none 0 0, .bool false, .bool false, .bool false, .bool false, .bool false, .bool false, .bool false, .bool false, .bool false, .bool false, .bool false, .bool false, .bool false, .bool false, .bool false, .bool false, .int .i64 0]) (by kernel_rfl) rfl (by kernel_rfl)
theorem el91 : ElT Tryz.prog 91 [.pointer none] 8 false := ElT.of (z := .pointer none) (by kernel_rfl) rfl (by kernel_rfl)
theorem el93 : ElT Tryz.prog 93 [.pointer none, .slice none 0 0] 32 true := ElT.of (z := .agg #[.pointer none, .slice none 0 0]) (by kernel_rfl) rfl (by kernel_rfl)
theorem el131 : ElT Tryz.prog 131 [.slice none 0 0, .int .i64 0] 32 true := ElT.of (z := .agg #[.slice none 0 0, .int .i64 0]) (by kernel_rfl) rfl (by kernel_rfl)
theorem el180 : ElT Tryz.prog 180 [.int .u64 0] 8 false := ElT.of (z := .int .u64 0) (by kernel_rfl) rfl (by kernel_rfl)
theorem fl25_0 : FlT Tryz.prog 25 0 0 := FlT.of (by kernel_rfl)
theorem fl25_1 : FlT Tryz.prog 25 1 1 := FlT.of (by kernel_rfl)
theorem fl27_0 : FlT Tryz.prog 27 0 0 := FlT.of (by kernel_rfl)
theorem fl27_1 : FlT Tryz.prog 27 1 1 := FlT.of (by kernel_rfl)
theorem fl42_0 : FlT Tryz.prog 42 0 0 := FlT.of (by kernel_rfl)
theorem fl42_1 : FlT Tryz.prog 42 1 1 := FlT.of (by kernel_rfl)
theorem fl42_2 : FlT Tryz.prog 42 2 2 := FlT.of (by kernel_rfl)
theorem fl65_0 : FlT Tryz.prog 65 0 0 := FlT.of (by kernel_rfl)
theorem fl65_1 : FlT Tryz.prog 65 1 1 := FlT.of (by kernel_rfl)
theorem fl77_0 : FlT Tryz.prog 77 0 0 := FlT.of (by kernel_rfl)
theorem fl77_1 : FlT Tryz.prog 77 1 2 := FlT.of (by kernel_rfl)
theorem fl77_2 : FlT Tryz.prog 77 2 18 := FlT.of (by kernel_rfl)
theorem fl93_0 : FlT Tryz.prog 93 0 0 := FlT.of (by kernel_rfl)
theorem fl93_1 : FlT Tryz.prog 93 1 1 := FlT.of (by kernel_rfl)
theorem fl131_0 : FlT Tryz.prog 131 0 0 := FlT.of (by kernel_rfl)
theorem fl131_1 : FlT Tryz.prog 131 1 1 := FlT.of (by kernel_rfl)
theorem of25 : OneF Tryz.prog 25 [.int .i64 0, .slice none 0 0] := OneF.of (z := .agg #[.int .i64 0, .slice none 0 0]) (by kernel_rfl) rfl (by kernel_rfl)
theorem of27 : OneF Tryz.prog 27 [.int .i64 0, .int .i64 0] := OneF.of (z := .agg #[.int .i64 0, .int .i64 0]) (by kernel_rfl) rfl (by kernel_rfl)
theorem of42 : OneF Tryz.prog 42 [.slice none 0 0, .slice none 0 0, .slice none 0 0] := OneF.of (z := .agg #[.slice none 0 0, .slice none 0 0, .slice none 0 0]) (by kernel_rfl) rfl (by kernel_rfl)
theorem of65 : OneF Tryz.prog 65 [.slice none 0 0, .slice none 0 0] := OneF.of (z := .agg #[.slice none 0 0, .slice none 0 0]) (by kernel_rfl) rfl (by kernel_rfl)
theorem of131 : OneF Tryz.prog 131 [.slice none 0 0, .int .i64 0] := OneF.of (z := .agg #[.slice none 0 0, .int .i64 0]) (by kernel_rfl) rfl (by kernel_rfl)
theorem en10 : Enters Tryz.prog 10 := Px.enters_of Tryz.func10 (by kernel_rfl) (by kernel_rfl)
theorem en11 : Enters Tryz.prog 11 := Px.enters_of Tryz.func11 (by kernel_rfl) (by kernel_rfl)
theorem en12 : Enters Tryz.prog 12 := Px.enters_of Tryz.func12 (by kernel_rfl) (by kernel_rfl)
theorem en13 : Enters Tryz.prog 13 := Px.enters_of Tryz.func13 (by kernel_rfl) (by kernel_rfl)
theorem en14 : Enters Tryz.prog 14 := Px.enters_of Tryz.func14 (by kernel_rfl) (by kernel_rfl)
theorem en15 : Enters Tryz.prog 15 := Px.enters_of Tryz.func15 (by kernel_rfl) (by kernel_rfl)
theorem en16 : Enters Tryz.prog 16 := Px.enters_of Tryz.func16 (by kernel_rfl) (by kernel_rfl)
theorem en19 : Enters Tryz.prog 19 := Px.enters_of Tryz.func19 (by kernel_rfl) (by kernel_rfl)
theorem en28 : Enters Tryz.prog 28 := Px.enters_of Tryz.func28 (by kernel_rfl) (by kernel_rfl)
theorem en29 : Enters Tryz.prog 29 := Px.enters_of Tryz.func29 (by kernel_rfl) (by kernel_rfl)
theorem en30 : Enters Tryz.prog 30 := Px.enters_of Tryz.func30 (by kernel_rfl) (by kernel_rfl)
theorem en31 : Enters Tryz.prog 31 := Px.enters_of Tryz.func31 (by kernel_rfl) (by kernel_rfl)
theorem en32 : Enters Tryz.prog 32 := Px.enters_of Tryz.func32 (by kernel_rfl) (by kernel_rfl)
theorem en33 : Enters Tryz.prog 33 := Px.enters_of Tryz.func33 (by kernel_rfl) (by kernel_rfl)
theorem en34 : Enters Tryz.prog 34 := Px.enters_of Tryz.func34 (by kernel_rfl) (by kernel_rfl)
theorem en35 : Enters Tryz.prog 35 := Px.enters_of Tryz.func35 (by kernel_rfl) (by kernel_rfl)
theorem en36 : Enters Tryz.prog 36 := Px.enters_of Tryz.func36 (by kernel_rfl) (by kernel_rfl)
theorem en37 : Enters Tryz.prog 37 := Px.enters_of Tryz.func37 (by kernel_rfl) (by kernel_rfl)
theorem en38 : Enters Tryz.prog 38 := Px.enters_of Tryz.func38 (by kernel_rfl) (by kernel_rfl)
theorem en39 : Enters Tryz.prog 39 := Px.enters_of Tryz.func39 (by kernel_rfl) (by kernel_rfl)
theorem en40 : Enters Tryz.prog 40 := Px.enters_of Tryz.func40 (by kernel_rfl) (by kernel_rfl)
theorem en41 : Enters Tryz.prog 41 := Px.enters_of Tryz.func41 (by kernel_rfl) (by kernel_rfl)
theorem en42 : Enters Tryz.prog 42 := Px.enters_of Tryz.func42 (by kernel_rfl) (by kernel_rfl)
theorem en43 : Enters Tryz.prog 43 := Px.enters_of Tryz.func43 (by kernel_rfl) (by kernel_rfl)
theorem en44 : Enters Tryz.prog 44 := Px.enters_of Tryz.func44 (by kernel_rfl) (by kernel_rfl)
theorem en46 : Enters Tryz.prog 46 := Px.enters_of Tryz.func46 (by kernel_rfl) (by kernel_rfl)
theorem en47 : Enters Tryz.prog 47 := Px.enters_of Tryz.func47 (by kernel_rfl) (by kernel_rfl)
theorem en49 : Enters Tryz.prog 49 := Px.enters_of Tryz.func49 (by kernel_rfl) (by kernel_rfl)
theorem en51 : Enters Tryz.prog 51 := Px.enters_of Tryz.func51 (by kernel_rfl) (by kernel_rfl)
theorem en54 : Enters Tryz.prog 54 := Px.enters_of Tryz.func54 (by kernel_rfl) (by kernel_rfl)
theorem en55 : Enters Tryz.prog 55 := Px.enters_of Tryz.func55 (by kernel_rfl) (by kernel_rfl)
theorem en56 : Enters Tryz.prog 56 := Px.enters_of Tryz.func56 (by kernel_rfl) (by kernel_rfl)
theorem en58 : Enters Tryz.prog 58 := Px.enters_of Tryz.func58 (by kernel_rfl) (by kernel_rfl)
theorem en61 : Enters Tryz.prog 61 := Px.enters_of Tryz.func61 (by kernel_rfl) (by kernel_rfl)
theorem en63 : Enters Tryz.prog 63 := Px.enters_of Tryz.func63 (by kernel_rfl) (by kernel_rfl)
theorem en64 : Enters Tryz.prog 64 := Px.enters_of Tryz.func64 (by kernel_rfl) (by kernel_rfl)
theorem en65 : Enters Tryz.prog 65 := Px.enters_of Tryz.func65 (by kernel_rfl) (by kernel_rfl)
theorem en67 : Enters Tryz.prog 67 := Px.enters_of Tryz.func67 (by kernel_rfl) (by kernel_rfl)
theorem en68 : Enters Tryz.prog 68 := Px.enters_of Tryz.func68 (by kernel_rfl) (by kernel_rfl)
theorem en69 : Enters Tryz.prog 69 := Px.enters_of Tryz.func69 (by kernel_rfl) (by kernel_rfl)
theorem en70 : Enters Tryz.prog 70 := Px.enters_of Tryz.func70 (by kernel_rfl) (by kernel_rfl)
theorem en71 : Enters Tryz.prog 71 := Px.enters_of Tryz.func71 (by kernel_rfl) (by kernel_rfl)
theorem en72 : Enters Tryz.prog 72 := Px.enters_of Tryz.func72 (by kernel_rfl) (by kernel_rfl)
theorem en73 : Enters Tryz.prog 73 := Px.enters_of Tryz.func73 (by kernel_rfl) (by kernel_rfl)
theorem en74 : Enters Tryz.prog 74 := Px.enters_of Tryz.func74 (by kernel_rfl) (by kernel_rfl)
theorem en75 : Enters Tryz.prog 75 := Px.enters_of Tryz.func75 (by kernel_rfl) (by kernel_rfl)
theorem en76 : Enters Tryz.prog 76 := Px.enters_of Tryz.func76 (by kernel_rfl) (by kernel_rfl)
theorem en77 : Enters Tryz.prog 77 := Px.enters_of Tryz.func77 (by kernel_rfl) (by kernel_rfl)
theorem en78 : Enters Tryz.prog 78 := Px.enters_of Tryz.func78 (by kernel_rfl) (by kernel_rfl)
theorem en79 : Enters Tryz.prog 79 := Px.enters_of Tryz.func79 (by kernel_rfl) (by kernel_rfl)
theorem en80 : Enters Tryz.prog 80 := Px.enters_of Tryz.func80 (by kernel_rfl) (by kernel_rfl)
theorem en81 : Enters Tryz.prog 81 := Px.enters_of Tryz.func81 (by kernel_rfl) (by kernel_rfl)
theorem en82 : Enters Tryz.prog 82 := Px.enters_of Tryz.func82 (by kernel_rfl) (by kernel_rfl)
theorem en83 : Enters Tryz.prog 83 := Px.enters_of Tryz.func83 (by kernel_rfl) (by kernel_rfl)
theorem en84 : Enters Tryz.prog 84 := Px.enters_of Tryz.func84 (by kernel_rfl) (by kernel_rfl)
theorem en85 : Enters Tryz.prog 85 := Px.enters_of Tryz.func85 (by kernel_rfl) (by kernel_rfl)
theorem en86 : Enters Tryz.prog 86 := Px.enters_of Tryz.func86 (by kernel_rfl) (by kernel_rfl)
theorem en87 : Enters Tryz.prog 87 := Px.enters_of Tryz.func87 (by kernel_rfl) (by kernel_rfl)
theorem en88 : Enters Tryz.prog 88 := Px.enters_of Tryz.func88 (by kernel_rfl) (by kernel_rfl)
theorem en89 : Enters Tryz.prog 89 := Px.enters_of Tryz.func89 (by kernel_rfl) (by kernel_rfl)
theorem en90 : Enters Tryz.prog 90 := Px.enters_of Tryz.func90 (by kernel_rfl) (by kernel_rfl)
theorem en91 : Enters Tryz.prog 91 := Px.enters_of Tryz.func91 (by kernel_rfl) (by kernel_rfl)
theorem en92 : Enters Tryz.prog 92 := Px.enters_of Tryz.func92 (by kernel_rfl) (by kernel_rfl)
theorem en93 : Enters Tryz.prog 93 := Px.enters_of Tryz.func93 (by kernel_rfl) (by kernel_rfl)
theorem en97 : Enters Tryz.prog 97 := Px.enters_of Tryz.func97 (by kernel_rfl) (by kernel_rfl)
theorem en98 : Enters Tryz.prog 98 := Px.enters_of Tryz.func98 (by kernel_rfl) (by kernel_rfl)
theorem en106 : Enters Tryz.prog 106 := Px.enters_of Tryz.func106 (by kernel_rfl) (by kernel_rfl)
theorem en113 : Enters Tryz.prog 113 := Px.enters_of Tryz.func113 (by kernel_rfl) (by kernel_rfl)
theorem en114 : Enters Tryz.prog 114 := Px.enters_of Tryz.func114 (by kernel_rfl) (by kernel_rfl)
theorem en115 : Enters Tryz.prog 115 := Px.enters_of Tryz.func115 (by kernel_rfl) (by kernel_rfl)
theorem en116 : Enters Tryz.prog 116 := Px.enters_of Tryz.func116 (by kernel_rfl) (by kernel_rfl)
theorem en117 : Enters Tryz.prog 117 := Px.enters_of Tryz.func117 (by kernel_rfl) (by kernel_rfl)
theorem en118 : Enters Tryz.prog 118 := Px.enters_of Tryz.func118 (by kernel_rfl) (by kernel_rfl)
theorem en123 : Enters Tryz.prog 123 := Px.enters_of Tryz.func123 (by kernel_rfl) (by kernel_rfl)
theorem en124 : Enters Tryz.prog 124 := Px.enters_of Tryz.func124 (by kernel_rfl) (by kernel_rfl)
theorem en125 : Enters Tryz.prog 125 := Px.enters_of Tryz.func125 (by kernel_rfl) (by kernel_rfl)
theorem en126 : Enters Tryz.prog 126 := Px.enters_of Tryz.func126 (by kernel_rfl) (by kernel_rfl)
theorem en127 : Enters Tryz.prog 127 := Px.enters_of Tryz.func127 (by kernel_rfl) (by kernel_rfl)
theorem en128 : Enters Tryz.prog 128 := Px.enters_of Tryz.func128 (by kernel_rfl) (by kernel_rfl)
theorem en129 : Enters Tryz.prog 129 := Px.enters_of Tryz.func129 (by kernel_rfl) (by kernel_rfl)
theorem en130 : Enters Tryz.prog 130 := Px.enters_of Tryz.func130 (by kernel_rfl) (by kernel_rfl)
theorem en131 : Enters Tryz.prog 131 := Px.enters_of Tryz.func131 (by kernel_rfl) (by kernel_rfl)
theorem en132 : Enters Tryz.prog 132 := Px.enters_of Tryz.func132 (by kernel_rfl) (by kernel_rfl)
theorem en134 : Enters Tryz.prog 134 := Px.enters_of Tryz.func134 (by kernel_rfl) (by kernel_rfl)
theorem en146 : Enters Tryz.prog 146 := Px.enters_of Tryz.func146 (by kernel_rfl) (by kernel_rfl)
theorem en150 : Enters Tryz.prog 150 := Px.enters_of Tryz.func150 (by kernel_rfl) (by kernel_rfl)
theorem en151 : Enters Tryz.prog 151 := Px.enters_of Tryz.func151 (by kernel_rfl) (by kernel_rfl)
theorem en152 : Enters Tryz.prog 152 := Px.enters_of Tryz.func152 (by kernel_rfl) (by kernel_rfl)
theorem en153 : Enters Tryz.prog 153 := Px.enters_of Tryz.func153 (by kernel_rfl) (by kernel_rfl)
theorem en154 : Enters Tryz.prog 154 := Px.enters_of Tryz.func154 (by kernel_rfl) (by kernel_rfl)
theorem en155 : Enters Tryz.prog 155 := Px.enters_of Tryz.func155 (by kernel_rfl) (by kernel_rfl)
theorem en158 : Enters Tryz.prog 158 := Px.enters_of Tryz.func158 (by kernel_rfl) (by kernel_rfl)
theorem en159 : Enters Tryz.prog 159 := Px.enters_of Tryz.func159 (by kernel_rfl) (by kernel_rfl)
theorem en160 : Enters Tryz.prog 160 := Px.enters_of Tryz.func160 (by kernel_rfl) (by kernel_rfl)
theorem en161 : Enters Tryz.prog 161 := Px.enters_of Tryz.func161 (by kernel_rfl) (by kernel_rfl)
theorem en175 : Enters Tryz.prog 175 := Px.enters_of Tryz.func175 (by kernel_rfl) (by kernel_rfl)
theorem en176 : Enters Tryz.prog 176 := Px.enters_of Tryz.func176 (by kernel_rfl) (by kernel_rfl)
theorem en178 : Enters Tryz.prog 178 := Px.enters_of Tryz.func178 (by kernel_rfl) (by kernel_rfl)
theorem en200 : Enters Tryz.prog 200 := Px.enters_of Tryz.func200 (by kernel_rfl) (by kernel_rfl)
theorem en201 : Enters Tryz.prog 201 := Px.enters_of Tryz.func201 (by kernel_rfl) (by kernel_rfl)
theorem en202 : Enters Tryz.prog 202 := Px.enters_of Tryz.func202 (by kernel_rfl) (by kernel_rfl)
theorem en203 : Enters Tryz.prog 203 := Px.enters_of Tryz.func203 (by kernel_rfl) (by kernel_rfl)
theorem en218 : Enters Tryz.prog 218 := Px.enters_of Tryz.func218 (by kernel_rfl) (by kernel_rfl)
def tyL : List (List TyI) := [[ty0, ty0, ty0, ⟨[], some (1, false), false, false, none⟩, ⟨[], some (1, false), false, false, none⟩, ⟨[], some (1, false), false, false, none⟩, ty0, ty0, ty0, ⟨[], some (1, false), false, true, none⟩, ty0, ty0],
  [ty0, ty0, ty0, ty0, ty0, ty0, ty0, ty0, ty0, ty0, ⟨[], some (1, false), true, false, none⟩, ⟨[], some (1, false), true, false, none⟩],
  [ty0, ⟨[(0, 0), (1, 1)], some (2, true), false, false, some [.i 0, .sl none 0 0]⟩, ty0, ⟨[(0, 0), (1, 1)], some (2, true), false, false, some [.i 0, .i 0]⟩, ty0, ty0, ⟨[], some (1, false), true, false, none⟩, ty0, ty0, ty0, ty0, ty0],
  [ty0, ty0, ty0, ty0, ty0, ty0, ⟨[(0, 0), (1, 1), (2, 2)], some (3, true), false, false, some [.sl none 0 0, .sl none 0 0, .sl none 0 0]⟩, ⟨[], some (1, false), true, false, none⟩, ty0, ty0, ty0, ty0],
  [ty0, ty0, ty0, ty0, ty0, ty0, ty0, ty0, ty0, ty0, ty0, ty0],
  [ty0, ty0, ty0, ty0, ty0, ⟨[(0, 0), (1, 1)], some (2, true), false, false, some [.sl none 0 0, .sl none 0 0]⟩, ty0, ty0, ty0, ty0, ty0, ty0],
  [ty0, ty0, ty0, ty0, ty0, ⟨[(0, 0), (1, 2), (2, 18)], some (19, true), false, false, none⟩, ty0, ty0, ty0, ty0, ty0, ty0],
  [ty0, ty0, ty0, ty0, ty0, ty0, ty0, ⟨[], some (1, false), false, false, none⟩, ty0, ⟨[(0, 0), (1, 1)], some (2, true), false, false, none⟩, ty0, ty0],
  [ty0, ty0, ty0, ty0, ty0, ty0, ty0, ty0, ty0, ty0, ty0, ty0],
  [ty0, ty0, ty0, ty0, ty0, ty0, ty0, ty0, ty0, ty0, ty0, ty0],
  [ty0, ty0, ty0, ty0, ty0, ty0, ty0, ty0, ty0, ty0, ty0, ⟨[(0, 0), (1, 1)], some (2, true), false, false, some [.sl none 0 0, .i 0]⟩],
  [ty0, ty0, ty0, ty0, ty0, ty0, ty0, ty0, ty0, ty0, ty0, ty0],
  [ty0, ty0, ty0, ty0, ty0, ty0, ty0, ty0, ty0, ty0, ty0, ty0],
  [ty0, ty0, ty0, ty0, ty0, ty0, ty0, ty0, ty0, ty0, ty0, ty0],
  [ty0, ty0, ty0, ty0, ty0, ty0, ty0, ty0, ty0, ty0, ty0, ty0],
  [⟨[], some (1, false), false, false, none⟩, ty0, ty0, ty0, ty0, ty0, ty0, ty0, ty0, ty0, ty0, ty0],
  [ty0, ty0, ty0, ty0, ty0, ty0, ty0, ty0, ty0, ty0, ty0, ty0],
  [ty0, ty0, ty0, ty0, ty0, ty0, ty0, ty0, ty0, ty0, ty0, ty0],
  [ty0, ty0, ty0, ty0, ty0, ty0, ty0, ty0, ty0, ty0, ty0, ty0],
  [ty0, ty0, ty0, ty0, ty0, ty0, ty0, ty0, ty0, ty0, ty0, ty0],
  [ty0, ty0, ty0, ty0, ty0]]
theorem tyOK : AllT2 Tryz.prog 12 0 tyL := ⟨⟨.nil, ⟨.nil, ⟨.nil, ⟨⟨trivial, ⟨_, _, el3, rfl⟩, nofun, nofun, trivial⟩, ⟨⟨trivial, ⟨_, _, el4, rfl⟩, nofun, nofun, trivial⟩, ⟨⟨trivial, ⟨_, _, el5, rfl⟩, nofun, nofun, trivial⟩, ⟨.nil, ⟨.nil, ⟨.nil, ⟨⟨trivial, ⟨_, _, el9, rfl⟩, nofun, fun _ => Tryz.underlying9, trivial⟩, ⟨.nil, ⟨.nil, trivial⟩⟩⟩⟩⟩⟩⟩⟩⟩⟩⟩⟩,
  ⟨⟨.nil, ⟨.nil, ⟨.nil, ⟨.nil, ⟨.nil, ⟨.nil, ⟨.nil, ⟨.nil, ⟨.nil, ⟨.nil, ⟨⟨trivial, ⟨_, _, el22, rfl⟩, fun _ => ⟨_, Tryz.underlying22⟩, nofun, trivial⟩, ⟨⟨trivial, ⟨_, _, el23, rfl⟩, fun _ => ⟨_, Tryz.underlying23⟩, nofun, trivial⟩, trivial⟩⟩⟩⟩⟩⟩⟩⟩⟩⟩⟩⟩,
  ⟨⟨.nil, ⟨⟨⟨fl25_0, ⟨fl25_1, trivial⟩⟩, ⟨_, _, el25, rfl⟩, nofun, nofun, of25⟩, ⟨.nil, ⟨⟨⟨fl27_0, ⟨fl27_1, trivial⟩⟩, ⟨_, _, el27, rfl⟩, nofun, nofun, of27⟩, ⟨.nil, ⟨.nil, ⟨⟨trivial, ⟨_, _, el30, rfl⟩, fun _ => ⟨_, Tryz.underlying30⟩, nofun, trivial⟩, ⟨.nil, ⟨.nil, ⟨.nil, ⟨.nil, ⟨.nil, trivial⟩⟩⟩⟩⟩⟩⟩⟩⟩⟩⟩⟩,
  ⟨⟨.nil, ⟨.nil, ⟨.nil, ⟨.nil, ⟨.nil, ⟨.nil, ⟨⟨⟨fl42_0, ⟨fl42_1, ⟨fl42_2, trivial⟩⟩⟩, ⟨_, _, el42, rfl⟩, nofun, nofun, of42⟩, ⟨⟨trivial, ⟨_, _, el43, rfl⟩, fun _ => ⟨_, Tryz.underlying43⟩, nofun, trivial⟩, ⟨.nil, ⟨.nil, ⟨.nil, ⟨.nil, trivial⟩⟩⟩⟩⟩⟩⟩⟩⟩⟩⟩⟩,
  ⟨⟨.nil, ⟨.nil, ⟨.nil, ⟨.nil, ⟨.nil, ⟨.nil, ⟨.nil, ⟨.nil, ⟨.nil, ⟨.nil, ⟨.nil, ⟨.nil, trivial⟩⟩⟩⟩⟩⟩⟩⟩⟩⟩⟩⟩,
  ⟨⟨.nil, ⟨.nil, ⟨.nil, ⟨.nil, ⟨.nil, ⟨⟨⟨fl65_0, ⟨fl65_1, trivial⟩⟩, ⟨_, _, el65, rfl⟩, nofun, nofun, of65⟩, ⟨.nil, ⟨.nil, ⟨.nil, ⟨.nil, ⟨.nil, ⟨.nil, trivial⟩⟩⟩⟩⟩⟩⟩⟩⟩⟩⟩⟩,
  ⟨⟨.nil, ⟨.nil, ⟨.nil, ⟨.nil, ⟨.nil, ⟨⟨⟨fl77_0, ⟨fl77_1, ⟨fl77_2, trivial⟩⟩⟩, ⟨_, _, el77, rfl⟩, nofun, nofun, trivial⟩, ⟨.nil, ⟨.nil, ⟨.nil, ⟨.nil, ⟨.nil, ⟨.nil, trivial⟩⟩⟩⟩⟩⟩⟩⟩⟩⟩⟩⟩,
  ⟨⟨.nil, ⟨.nil, ⟨.nil, ⟨.nil, ⟨.nil, ⟨.nil, ⟨.nil, ⟨⟨trivial, ⟨_, _, el91, rfl⟩, nofun, nofun, trivial⟩, ⟨.nil, ⟨⟨⟨fl93_0, ⟨fl93_1, trivial⟩⟩, ⟨_, _, el93, rfl⟩, nofun, nofun, trivial⟩, ⟨.nil, ⟨.nil, trivial⟩⟩⟩⟩⟩⟩⟩⟩⟩⟩⟩⟩,
  ⟨⟨.nil, ⟨.nil, ⟨.nil, ⟨.nil, ⟨.nil, ⟨.nil, ⟨.nil, ⟨.nil, ⟨.nil, ⟨.nil, ⟨.nil, ⟨.nil, trivial⟩⟩⟩⟩⟩⟩⟩⟩⟩⟩⟩⟩,
  ⟨⟨.nil, ⟨.nil, ⟨.nil, ⟨.nil, ⟨.nil, ⟨.nil, ⟨.nil, ⟨.nil, ⟨.nil, ⟨.nil, ⟨.nil, ⟨.nil, trivial⟩⟩⟩⟩⟩⟩⟩⟩⟩⟩⟩⟩,
  ⟨⟨.nil, ⟨.nil, ⟨.nil, ⟨.nil, ⟨.nil, ⟨.nil, ⟨.nil, ⟨.nil, ⟨.nil, ⟨.nil, ⟨.nil, ⟨⟨⟨fl131_0, ⟨fl131_1, trivial⟩⟩, ⟨_, _, el131, rfl⟩, nofun, nofun, of131⟩, trivial⟩⟩⟩⟩⟩⟩⟩⟩⟩⟩⟩⟩,
  ⟨⟨.nil, ⟨.nil, ⟨.nil, ⟨.nil, ⟨.nil, ⟨.nil, ⟨.nil, ⟨.nil, ⟨.nil, ⟨.nil, ⟨.nil, ⟨.nil, trivial⟩⟩⟩⟩⟩⟩⟩⟩⟩⟩⟩⟩,
  ⟨⟨.nil, ⟨.nil, ⟨.nil, ⟨.nil, ⟨.nil, ⟨.nil, ⟨.nil, ⟨.nil, ⟨.nil, ⟨.nil, ⟨.nil, ⟨.nil, trivial⟩⟩⟩⟩⟩⟩⟩⟩⟩⟩⟩⟩,
  ⟨⟨.nil, ⟨.nil, ⟨.nil, ⟨.nil, ⟨.nil, ⟨.nil, ⟨.nil, ⟨.nil, ⟨.nil, ⟨.nil, ⟨.nil, ⟨.nil, trivial⟩⟩⟩⟩⟩⟩⟩⟩⟩⟩⟩⟩,
  ⟨⟨.nil, ⟨.nil, ⟨.nil, ⟨.nil, ⟨.nil, ⟨.nil, ⟨.nil, ⟨.nil, ⟨.nil, ⟨.nil, ⟨.nil, ⟨.nil, trivial⟩⟩⟩⟩⟩⟩⟩⟩⟩⟩⟩⟩,
  ⟨⟨⟨trivial, ⟨_, _, el180, rfl⟩, nofun, nofun, trivial⟩, ⟨.nil, ⟨.nil, ⟨.nil, ⟨.nil, ⟨.nil, ⟨.nil, ⟨.nil, ⟨.nil, ⟨.nil, ⟨.nil, ⟨.nil, trivial⟩⟩⟩⟩⟩⟩⟩⟩⟩⟩⟩⟩,
  ⟨⟨.nil, ⟨.nil, ⟨.nil, ⟨.nil, ⟨.nil, ⟨.nil, ⟨.nil, ⟨.nil, ⟨.nil, ⟨.nil, ⟨.nil, ⟨.nil, trivial⟩⟩⟩⟩⟩⟩⟩⟩⟩⟩⟩⟩,
  ⟨⟨.nil, ⟨.nil, ⟨.nil, ⟨.nil, ⟨.nil, ⟨.nil, ⟨.nil, ⟨.nil, ⟨.nil, ⟨.nil, ⟨.nil, ⟨.nil, trivial⟩⟩⟩⟩⟩⟩⟩⟩⟩⟩⟩⟩,
  ⟨⟨.nil, ⟨.nil, ⟨.nil, ⟨.nil, ⟨.nil, ⟨.nil, ⟨.nil, ⟨.nil, ⟨.nil, ⟨.nil, ⟨.nil, ⟨.nil, trivial⟩⟩⟩⟩⟩⟩⟩⟩⟩⟩⟩⟩,
  ⟨⟨.nil, ⟨.nil, ⟨.nil, ⟨.nil, ⟨.nil, ⟨.nil, ⟨.nil, ⟨.nil, ⟨.nil, ⟨.nil, ⟨.nil, ⟨.nil, trivial⟩⟩⟩⟩⟩⟩⟩⟩⟩⟩⟩⟩,
  ⟨⟨.nil, ⟨.nil, ⟨.nil, ⟨.nil, ⟨.nil, trivial⟩⟩⟩⟩⟩,
  trivial⟩⟩⟩⟩⟩⟩⟩⟩⟩⟩⟩⟩⟩⟩⟩⟩⟩⟩⟩⟩⟩
instance itab : TabC Tryz.prog (tyGet 12 tyL) := ⟨tab_ok (by decide) tyOK (by kernel_rfl)⟩
instance imx : MxC Tryz.prog := ⟨mixed⟩
instance iel3 : ElC Tryz.prog 3 [.int .i64 0] 8 false := ⟨el3⟩
instance iel4 : ElC Tryz.prog 4 [.bool false] 1 false := ⟨el4⟩
instance iel5 : ElC Tryz.prog 5 [.int .u8 0] 1 false := ⟨el5⟩
instance iel22 : ElC Tryz.prog 22 [.slice none 0 0] 24 false := ⟨el22⟩
instance iel23 : ElC Tryz.prog 23 [.slice none 0 0] 24 false := ⟨el23⟩
instance iel25 : ElC Tryz.prog 25 [.int .i64 0, .slice none 0 0] 32 true := ⟨el25⟩
instance iel27 : ElC Tryz.prog 27 [.int .i64 0, .int .i64 0] 16 true := ⟨el27⟩
instance iel30 : ElC Tryz.prog 30 [.slice none 0 0] 24 false := ⟨el30⟩
instance iel42 : ElC Tryz.prog 42 [.slice none 0 0, .slice none 0 0, .slice none 0 0] 72 true := ⟨el42⟩
instance iel65 : ElC Tryz.prog 65 [.slice none 0 0, .slice none 0 0] 48 true := ⟨el65⟩
instance iel77 : ElC Tryz.prog 77 [.int .i64 0, .slice none 0 0, .bool false, .bool false, .bool false, .bool false, .bool false, .bool false, .bool false, .bool false, .bool false, .bool false, .bool false, .bool false, .bool false, .bool false, .bool false, .bool false, .int .i64 0] 56 true := ⟨el77⟩
instance iel91 : ElC Tryz.prog 91 [.pointer none] 8 false := ⟨el91⟩
instance iel93 : ElC Tryz.prog 93 [.pointer none, .slice none 0 0] 32 true := ⟨el93⟩
instance ifl27_0 : FlC Tryz.prog 27 0 0 := ⟨fl27_0⟩
instance ifl27_1 : FlC Tryz.prog 27 1 1 := ⟨fl27_1⟩
instance ifl42_0 : FlC Tryz.prog 42 0 0 := ⟨fl42_0⟩
instance ifl42_1 : FlC Tryz.prog 42 1 1 := ⟨fl42_1⟩
instance ifl42_2 : FlC Tryz.prog 42 2 2 := ⟨fl42_2⟩
instance ien10 : EnC Tryz.prog 10 := ⟨en10⟩
instance ien11 : EnC Tryz.prog 11 := ⟨en11⟩
instance ien12 : EnC Tryz.prog 12 := ⟨en12⟩
instance ien13 : EnC Tryz.prog 13 := ⟨en13⟩
instance ien14 : EnC Tryz.prog 14 := ⟨en14⟩
instance ien15 : EnC Tryz.prog 15 := ⟨en15⟩
instance ien16 : EnC Tryz.prog 16 := ⟨en16⟩
instance ien19 : EnC Tryz.prog 19 := ⟨en19⟩
instance ien28 : EnC Tryz.prog 28 := ⟨en28⟩
instance ien29 : EnC Tryz.prog 29 := ⟨en29⟩
instance ien30 : EnC Tryz.prog 30 := ⟨en30⟩
instance ien31 : EnC Tryz.prog 31 := ⟨en31⟩
instance ien32 : EnC Tryz.prog 32 := ⟨en32⟩
instance ien33 : EnC Tryz.prog 33 := ⟨en33⟩
instance ien34 : EnC Tryz.prog 34 := ⟨en34⟩
instance ien35 : EnC Tryz.prog 35 := ⟨en35⟩
instance ien36 : EnC Tryz.prog 36 := ⟨en36⟩
instance ien37 : EnC Tryz.prog 37 := ⟨en37⟩
instance ien38 : EnC Tryz.prog 38 := ⟨en38⟩
instance ien39 : EnC Tryz.prog 39 := ⟨en39⟩
instance ien40 : EnC Tryz.prog 40 := ⟨en40⟩
instance ien41 : EnC Tryz.prog 41 := ⟨en41⟩
instance ien42 : EnC Tryz.prog 42 := ⟨en42⟩
instance ien43 : EnC Tryz.prog 43 := ⟨en43⟩
instance ien44 : EnC Tryz.prog 44 := ⟨en44⟩
instance ien46 : EnC Tryz.prog 46 := ⟨en46⟩
instance ien47 : EnC Tryz.prog 47 := ⟨en47⟩
instance ien49 : EnC Tryz.prog 49 := ⟨en49⟩
instance ien51 : EnC Tryz.prog 51 := ⟨en51⟩
instance ien54 : EnC Tryz.prog 54 := ⟨en54⟩
instance ien55 : EnC Tryz.prog 55 := ⟨en55⟩
instance ien56 : EnC Tryz.prog 56 := ⟨en56⟩
instance ien58 : EnC Tryz.prog 58 := ⟨en58⟩
instance ien61 : EnC Tryz.prog 61 := ⟨en61⟩
instance ien63 : EnC Tryz.prog 63 := ⟨en63⟩
instance ien65 : EnC Tryz.prog 65 := ⟨en65⟩
instance ien67 : EnC Tryz.prog 67 := ⟨en67⟩
instance ien68 : EnC Tryz.prog 68 := ⟨en68⟩
instance ien69 : EnC Tryz.prog 69 := ⟨en69⟩
instance ien70 : EnC Tryz.prog 70 := ⟨en70⟩
instance ien71 : EnC Tryz.prog 71 := ⟨en71⟩
instance ien72 : EnC Tryz.prog 72 := ⟨en72⟩
instance ien73 : EnC Tryz.prog 73 := ⟨en73⟩
instance ien74 : EnC Tryz.prog 74 := ⟨en74⟩
instance ien75 : EnC Tryz.prog 75 := ⟨en75⟩
instance ien76 : EnC Tryz.prog 76 := ⟨en76⟩
instance ien77 : EnC Tryz.prog 77 := ⟨en77⟩
instance ien78 : EnC Tryz.prog 78 := ⟨en78⟩
instance ien79 : EnC Tryz.prog 79 := ⟨en79⟩
instance ien80 : EnC Tryz.prog 80 := ⟨en80⟩
instance ien81 : EnC Tryz.prog 81 := ⟨en81⟩
instance ien82 : EnC Tryz.prog 82 := ⟨en82⟩
instance ien83 : EnC Tryz.prog 83 := ⟨en83⟩
instance ien84 : EnC Tryz.prog 84 := ⟨en84⟩
instance ien85 : EnC Tryz.prog 85 := ⟨en85⟩
instance ien86 : EnC Tryz.prog 86 := ⟨en86⟩
instance ien87 : EnC Tryz.prog 87 := ⟨en87⟩
instance ien88 : EnC Tryz.prog 88 := ⟨en88⟩
instance ien89 : EnC Tryz.prog 89 := ⟨en89⟩
instance ien90 : EnC Tryz.prog 90 := ⟨en90⟩
instance ien91 : EnC Tryz.prog 91 := ⟨en91⟩
instance ien92 : EnC Tryz.prog 92 := ⟨en92⟩
instance ien93 : EnC Tryz.prog 93 := ⟨en93⟩
instance ien97 : EnC Tryz.prog 97 := ⟨en97⟩
instance ien98 : EnC Tryz.prog 98 := ⟨en98⟩
instance ien106 : EnC Tryz.prog 106 := ⟨en106⟩
instance ien113 : EnC Tryz.prog 113 := ⟨en113⟩
instance ien114 : EnC Tryz.prog 114 := ⟨en114⟩
instance ien115 : EnC Tryz.prog 115 := ⟨en115⟩
instance ien116 : EnC Tryz.prog 116 := ⟨en116⟩
instance ien117 : EnC Tryz.prog 117 := ⟨en117⟩
instance ien118 : EnC Tryz.prog 118 := ⟨en118⟩
instance ien123 : EnC Tryz.prog 123 := ⟨en123⟩
instance ien124 : EnC Tryz.prog 124 := ⟨en124⟩
instance ien125 : EnC Tryz.prog 125 := ⟨en125⟩
instance ien126 : EnC Tryz.prog 126 := ⟨en126⟩
instance ien127 : EnC Tryz.prog 127 := ⟨en127⟩
instance ien128 : EnC Tryz.prog 128 := ⟨en128⟩
instance ien129 : EnC Tryz.prog 129 := ⟨en129⟩
instance ien130 : EnC Tryz.prog 130 := ⟨en130⟩
instance ien131 : EnC Tryz.prog 131 := ⟨en131⟩
instance ien132 : EnC Tryz.prog 132 := ⟨en132⟩
instance ien134 : EnC Tryz.prog 134 := ⟨en134⟩
instance ien146 : EnC Tryz.prog 146 := ⟨en146⟩
instance ien150 : EnC Tryz.prog 150 := ⟨en150⟩
instance ien151 : EnC Tryz.prog 151 := ⟨en151⟩
instance ien152 : EnC Tryz.prog 152 := ⟨en152⟩
instance ien158 : EnC Tryz.prog 158 := ⟨en158⟩
instance ien159 : EnC Tryz.prog 159 := ⟨en159⟩
instance ien160 : EnC Tryz.prog 160 := ⟨en160⟩
instance ien161 : EnC Tryz.prog 161 := ⟨en161⟩
instance ien175 : EnC Tryz.prog 175 := ⟨en175⟩
instance ien176 : EnC Tryz.prog 176 := ⟨en176⟩
instance ien178 : EnC Tryz.prog 178 := ⟨en178⟩
instance ien200 : EnC Tryz.prog 200 := ⟨en200⟩
instance ien201 : EnC Tryz.prog 201 := ⟨en201⟩
instance ien202 : EnC Tryz.prog 202 := ⟨en202⟩
instance ien203 : EnC Tryz.prog 203 := ⟨en203⟩
instance ien218 : EnC Tryz.prog 218 := ⟨en218⟩
instance ienl_encP : EnL encP 2 := ⟨encP_len⟩
instance iun3 : UnC Tryz.prog 3 (.int .i64) := ⟨Tryz.underlying3⟩
instance iun5 : UnC Tryz.prog 5 (.int .u8) := ⟨Tryz.underlying5⟩
instance iun22 : UnC Tryz.prog 22 (.slice 5) := ⟨Tryz.underlying22⟩
instance iun23 : UnC Tryz.prog 23 (.slice 42) := ⟨Tryz.underlying23⟩
instance iun30 : UnC Tryz.prog 30 (.slice 3) := ⟨Tryz.underlying30⟩
instance iun43 : UnC Tryz.prog 43 (.slice 27) := ⟨Tryz.underlying43⟩
end Go.Proofs.YtemejgglbhjodaaGreatDoor
end
section
namespace Go.Proofs.YtemejgglbhjodaaGreatDoor
open Go.Px
theorem pick_fn (gr : Nat) (rA : Option Addr) (rc : Nat) (rl : List UInt8) (rq : Nat) (n : Int) (w : World) (hrA : Rd w rA (rl.map byteV)) (hro : Off rA (rl.map byteV) [some gr]) (hrl : rl.length ≤ 2000) (hM : Mem w w [some gr] [[⟨.slice (bl gr) 1 1, 131, 2, 1, [.slice (rA) ((rl).length) (rc), I (((rq : Nat) : Int))]⟩]]) (hrq : rq ≤ 1000000000) :
    Does Tryz.prog 58 [.pointer (ofs (bl gr) (0)), I (n)] w (fun v w1 => ∃ (k : Int), v = I (k) ∧ (0 ≤ k ∧ (k < n ∨ k = 0)) ∧ Mem w w1 [some gr] [[⟨.slice (bl gr) 1 1, 131, 2, 1, [.slice (rA) ((rl).length) (rc), I (((rq + 1 : Nat) : Int))]⟩]]) := by
  refine Does.n1 Tryz.func58 rfl Tryz.results58 Tryz.ntmps58 rfl ?_
  refine ov 11 [0] (a := kaddN (rq + 1)) (b := ?_)
  refine Sb 2 [] 0 fun w1_8 hM1_8 => ?_
  refine pp 7 [] 17 (fun g17 => ?_) (fun g17 => ?_)
  · refine E1 14 [] (I (0)) ?_
    exact ⟨0, (by first | rfl | exact sl_congr (by first | omega | (simp; done) | (simp; omega)) | (simp; done)), ⟨by decide, .inr rfl⟩, (hM1_8.pk [0])⟩
  refine cd 8 [0] (fun c24 => ?_) (fun c24 => ?_)
  · refine E1 5 [] (I (0)) ?_
    exact ⟨0, (by first | rfl | exact sl_congr (by first | omega | (simp; done) | (simp; omega)) | (simp; done)), ⟨by decide, .inr rfl⟩, (hM1_8.pk [0])⟩
  refine ov 7 [0] (s := Vi (((rq : Nat) : Int))) (a := by exact cv (Ru.congr (v := I (((((rq + 1) : Nat) : Int) - 1))) (v' := I (((rq : Nat) : Int))) (Ru.sub rfl rfl (by omega)) (I_congr (by omega))) rfl) (b := ?_)
  refine cd 13 [0] (fun c36 => ?_) (fun c36 => ?_)
  · have hu2 := u8_le (rl[rq])
    have hx6_5 : rq < (rl).length := (by first | omega | (simp; omega))
    refine ov 7 [0] (a := kixM hx6_5 (hrA.atR hM1_8 hro)) (b := ?_)
    refine ov 0 [] (a := kldM hx6_5 (hrA.atR hM1_8 hro)) (b := ?_)
    refine ov 0 [] (a := kcv) (b := ?_)
    refine ov 1 [] (a := krem) (b := ?_)
    refine E1 3 [] (I (((((rl)[rq]'hx6_5).toNat : Int) % n))) ?_
    have hZ := (hM1_8.pk [0])
    exact ⟨_, (by first | rfl | exact sl_congr (by first | omega | (simp; done) | (simp; omega)) | (simp; done)), ⟨Int.emod_nonneg _ (by omega), .inl (Int.emod_lt_of_pos _ (by omega))⟩, hZ⟩
  have hq0 := Nat.mod_lt rq (show 0 < rl.length by omega)
  have hq1 := Nat.mod_lt (rq * 7 + 3) (show 0 < rl.length by omega)
  have hu0 := u8_le (rl[rq % rl.length])
  have hu1 := u8_le (rl[(rq * 7 + 3) % rl.length])
  obtain ⟨dv, hdq, hdv⟩ : ∃ dv : Nat, dv = rq / rl.length ∧ dv ≤ rq := ⟨_, rfl, Nat.div_le_self _ _⟩
  refine dr 2 [] ?_
  refine qv 10 [0, 0] (a := by exact fun _ hw2 => kremN (rq % (rl).length)) (b := ?_)
  have hx7_11 : (rq % (rl).length) < (rl).length := (by first | omega | (simp; omega))
  refine qv 0 [] (a := by exact fun _ hw2 => kixM hx7_11 (hrA.atR hw2 hro)) (b := ?_)
  refine qv 0 [] (a := by exact fun _ hw2 => kldM hx7_11 (hrA.atR hw2 hro)) (b := ?_)
  refine qv 0 [] (a := by exact fun _ hw2 => kcv) (b := ?_)
  refine qv 0 [] (a := by exact fun _ hw2 => kmulN (((rl)[(rq % (rl).length)]'hx7_11).toNat * 131)) (b := ?_)
  refine qv 5 [0] (a := by exact fun _ hw2 => kmulN (rq * 7)) (b := ?_)
  refine qv 0 [] (a := by exact fun _ hw2 => kaddN ((rq * 7) + 3)) (b := ?_)
  refine qv 5 [0] (a := by exact fun _ hw2 => kremN (((rq * 7) + 3) % (rl).length)) (b := ?_)
  have hx7_28 : (((rq * 7) + 3) % (rl).length) < (rl).length := (by first | omega | (simp; omega))
  refine qv 0 [] (a := by exact fun _ hw2 => kixM hx7_28 (hrA.atR hw2 hro)) (b := ?_)
  refine qv 0 [] (a := by exact fun _ hw2 => kldM hx7_28 (hrA.atR hw2 hro)) (b := ?_)
  refine qv 0 [] (a := by exact fun _ hw2 => kcv) (b := ?_)
  refine qv 0 [] (a := by exact fun _ hw2 => kmulN (((rl)[(((rq * 7) + 3) % (rl).length)]'hx7_28).toNat * 1117)) (b := ?_)
  refine qv 0 [] (a := by exact fun _ hw2 => kaddN ((((rl)[(rq % (rl).length)]'hx7_11).toNat * 131) + (((rl)[(((rq * 7) + 3) % (rl).length)]'hx7_28).toNat * 1117))) (b := ?_)
  refine qv 1 [] (a := by exact fun _ hw2 => kmulN (rq * 29)) (b := ?_)
  refine qv 0 [] (a := by exact fun _ hw2 => kaddN (((((rl)[(rq % (rl).length)]'hx7_11).toNat * 131) + (((rl)[(((rq * 7) + 3) % (rl).length)]'hx7_28).toNat * 1117)) + (rq * 29))) (b := ?_)
  refine qv 6 [0] (s := Vi (((dv : Nat) : Int))) (a := by exact fun w2 hw2 => cv (Ru.congr (v := I ((((rq : Nat) : Int) / (((rl).length : Nat) : Int)))) (v' := I (((dv : Nat) : Int))) (Ru.quo rfl rfl (by omega)) (I_congr (by rw [hdq]; simp))) rfl) (b := ?_)
  refine qv 0 [] (a := by exact fun _ hw2 => kmulN (dv * 53)) (b := ?_)
  refine qv 0 [] (a := by exact fun _ hw2 => kaddN ((((((rl)[(rq % (rl).length)]'hx7_11).toNat * 131) + (((rl)[(((rq * 7) + 3) % (rl).length)]'hx7_28).toNat * 1117)) + (rq * 29)) + (dv * 53))) (b := ?_)
  refine qn 1 [] fun w7d hM7d => ?_
  refine ov 4 [] (a := kquoN (((((((rl)[(rq % (rl).length)]'hx7_11).toNat * 131) + (((rl)[(((rq * 7) + 3) % (rl).length)]'hx7_28).toNat * 1117)) + (rq * 29)) + (dv * 53)) / 64)) (b := ?_)
  refine ov 0 [] (s := Vi ((((((((((((rl)[(rq % (rl).length)]'hx7_11).toNat * 131) + (((rl)[(((rq * 7) + 3) % (rl).length)]'hx7_28).toNat * 1117)) + (rq * 29)) + (dv * 53)) : Nat) : Int)).toNat ^^^ ((((((((((rl)[(rq % (rl).length)]'hx7_11).toNat * 131) + (((rl)[(((rq * 7) + 3) % (rl).length)]'hx7_28).toNat * 1117)) + (rq * 29)) + (dv * 53)) / 64) : Nat) : Int)).toNat : Nat) : Int))) (a := by exact cv (Ru.xor rfl rfl (by omega) (by omega)) rfl) (b := ?_)
  refine ov 6 [] (a := krem) (b := ?_)
  refine E1 3 [] (I (((((((((((((rl)[(rq % (rl).length)]'hx7_11).toNat * 131) + (((rl)[(((rq * 7) + 3) % (rl).length)]'hx7_28).toNat * 1117)) + (rq * 29)) + (dv * 53)) : Nat) : Int)).toNat ^^^ ((((((((((rl)[(rq % (rl).length)]'hx7_11).toNat * 131) + (((rl)[(((rq * 7) + 3) % (rl).length)]'hx7_28).toNat * 1117)) + (rq * 29)) + (dv * 53)) / 64) : Nat) : Int)).toNat : Nat) : Int) % n))) ?_
  have hZ := (hM7d.pk [0])
  exact ⟨_, (by first | rfl | exact sl_congr (by first | omega | (simp; done) | (simp; omega)) | (simp; done)), ⟨Int.emod_nonneg _ (by omega), .inl (Int.emod_lt_of_pos _ (by omega))⟩, hZ⟩
theorem one_fn (gr : Nat) (rA : Option Addr) (rc : Nat) (rl : List UInt8) (rq : Nat) (A : Option Addr) (c : Nat) (l : List Int) (w : World) (hrA : Rd w rA (rl.map byteV)) (hro : Off rA (rl.map byteV) [some gr]) (hrl : rl.length ≤ 2000) (hA : Rd w A ((l).map I)) (hoA : Off A ((l).map I) [some gr]) (hM : Mem w w [some gr] [[⟨.slice (bl gr) 1 1, 131, 2, 1, [.slice (rA) ((rl).length) (rc), I (((rq : Nat) : Int))]⟩]]) (hrq : rq ≤ 999999990) (hl : 0 < l.length) (hm : l.length ≤ 1000) :
    Does Tryz.prog 56 [.pointer (ofs (bl gr) (0)), .slice (A) ((l).length) (c)] w (fun v w1 => ∃ (k : Int), v = I (k) ∧ (k ∈ l) ∧ Mem w w1 [some gr] [[⟨.slice (bl gr) 1 1, 131, 2, 1, [.slice (rA) ((rl).length) (rc), I (((rq + 1 : Nat) : Int))]⟩]]) := by
  refine Does.n1 Tryz.func56 rfl Tryz.results56 Tryz.ntmps56 rfl ?_
  refine cq 10 [] (b := pick_fn gr rA rc rl rq _ w (hrA.atR hM hro) hro hrl (hM.fp [0] rfl rfl) q0) (c := ?_)
  rintro _ w1_4 ⟨k1_4, rfl, hk1_4, hR1_4⟩
  have hM1_4 := hM.cl 1 hR1_4
  have hkk := hk1_4
  have hx1_5 : (k1_4).toNat < (l).length := (by first | omega | (simp; omega))
  refine ov 0 [] (a := kixM hx1_5 (hA.atR hM1_4 hoA)) (b := ?_)
  refine ov 0 [] (a := kldM hx1_5 (hA.atR hM1_4 hoA)) (b := ?_)
  refine E1 3 [] (I ((l)[(k1_4).toNat]'hx1_5)) ?_
  have hZ := (hM1_4.pk [0])
  exact ⟨_, (by first | rfl | exact sl_congr (by first | omega | (simp; done) | (simp; omega)) | (simp; done)), List.getElem_mem _, hZ⟩
theorem newReader_fn (A : Option Addr) (c : Nat) (l : List UInt8) (w : World) (hA : Rd w A ((l).map byteV)) (hl : l.length ≤ 1048576) (hc : l.length ≤ c) :
    Does Tryz.prog 55 [.slice (A) ((l).length) (c)] w (fun v w1 => ∃ (gr : Nat) (l1 : List UInt8), v = .pointer (ofs (bl gr) (0)) ∧ (l1 = l ∨ l1 = l.take 2000) ∧ (l1.length ≤ 2000) ∧ Mem w w1 [] [[⟨.slice (bl gr) 1 1, 131, 2, 1, [.slice (A) ((l1).length) (c), I (((0 : Nat) : Int))]⟩]]) := by
  have hM : Mem w w [] [] := Mem.refl
  refine Does.n1 Tryz.func55 rfl Tryz.results55 Tryz.ntmps55 rfl ?_
  refine cd 11 [] (fun c5 => ?_) (fun c5 => ?_)
  · refine ov 2 [] (s := Vl (A) ((l.take 2000).length) (c)) (a := by exact cv (Ru.congr (v := .slice (A) (2000) (c)) (v' := .slice (A) ((l.take 2000).length) (c)) (Ru.lsliceTo (h := 2000) Tryz.underlying22 el5 rfl rfl (by omega) (by omega)) (sl_congr (by simp; omega))) rfl) (b := ?_)
    refine Bx 6 [] fun w3_2 b3_2 hb3_2 hM3_2 => ?_
    refine E1 3 [] (.pointer (ofs (bl b3_2) (0))) ?_
    exact ⟨b3_2, l.take 2000, (by first | rfl | exact sl_congr (by first | omega | (simp; done) | (simp; omega)) | (simp; done)), (by first | exact .inl rfl | exact .inr rfl), (by simp; omega), (hM3_2.pk [0])⟩
  refine Bx 5 [] fun w3_2 b3_2 hb3_2 hM3_2 => ?_
  refine E1 3 [] (.pointer (ofs (bl b3_2) (0))) ?_
  exact ⟨b3_2, l, (by first | rfl | exact sl_congr (by first | omega | (simp; done) | (simp; omega)) | (simp; done)), (.inl rfl), (by omega), (hM3_2.pk [0])⟩
theorem inRange_fn (a : Int) (b : Int) (c : Int) (w : World) :
    Does Tryz.prog 47 [I (a), I (b), I (c)] w (fun v w1 => v = .bool (decide (b ≤ a) && decide (a ≤ c)) ∧ Mem w w1 [] []) := by
  have hM : Mem w w [] [] := Mem.refl
  refine Does.n1 Tryz.func47 rfl Tryz.results47 Tryz.ntmps47 rfl ?_
  refine pp 10 [] 10 (fun g10 => ?_) (fun g10 => ?_)
  · refine E1 7 [] (.bool (decide (a ≤ c))) ?_
    exact ⟨(by simp [g10]), (Mem.none hM)⟩
  refine E1 7 [] (.bool (false)) ?_
  exact ⟨(by simp [g10]), (Mem.none hM)⟩
theorem isKey_fn (k : Int) (w : World) :
    Does Tryz.prog 72 [I (k)] w (fun v w1 => v = .bool (isKeyB k) ∧ Mem w w1 [] []) := by
  have hM : Mem w w [] [] := Mem.refl
  refine Does.n1 Tryz.func72 rfl Tryz.results72 Tryz.ntmps72 rfl ?_
  refine pp 9 [] 5 (fun g5 => ?_) (fun g5 => ?_)
  · refine E1 6 [] (.bool (decide (k ≤ 99))) ?_
    exact ⟨(by simp [isKeyB, g5]), (Mem.none hM)⟩
  refine E1 6 [] (.bool (false)) ?_
  exact ⟨(by simp [isKeyB, g5]), (Mem.none hM)⟩
theorem isValue_fn (k : Int) (w : World) :
    Does Tryz.prog 73 [I (k)] w (fun v w1 => v = .bool (isValB k) ∧ Mem w w1 [] []) := by
  have hM : Mem w w [] [] := Mem.refl
  refine Does.n1 Tryz.func73 rfl Tryz.results73 Tryz.ntmps73 rfl ?_
  refine pp 9 [] 5 (fun g5 => ?_) (fun g5 => ?_)
  · refine E1 6 [] (.bool (decide (k ≤ 1000))) ?_
    exact ⟨(by simp [isValB, g5]), (Mem.none hM)⟩
  refine E1 6 [] (.bool (false)) ?_
  exact ⟨(by simp [isValB, g5]), (Mem.none hM)⟩
theorem ValidKeys_fn (A : Option Addr) (c : Nat) (l : List Int) (w : World) (hA : Rd w A ((l).map I)) (hl : l.length ≤ 1048576) :
    Does Tryz.prog 97 [.slice (A) ((l).length) (c)] w (fun v w1 => v = .bool (validK l) ∧ Mem w w1 [] []) := by
  have hM : Mem w w [] [] := Mem.refl
  refine Does.n1 Tryz.func97 rfl Tryz.results97 Tryz.ntmps97 rfl ?_
  refine lp1 12 [] (fun (k : Nat) => ([(7, Vi (((k : Nat) : Int)))] : List (Nat × SV))) (fun (k : Nat) => (k ≤ l.length) ∧ ((l.take k).all isKeyB = true) ∧ (asc (l.take k) = true)) (fun (k : Nat) => []) (fun (k : Nat) => l.length - k) [0, 5, 6] [] [] 0 (fun k σ w_l2 hI hM_l2 => ?_) (h0 := ⟨(Nat.zero_le _), (by (try dsimp only); simp), (by (try dsimp only); simp [asc])⟩)
  obtain ⟨hi0_l2, hi1_l2, hi2_l2⟩ := hI
  refine cd 5 [] (fun c8 => ?_) (fun c8 => ?_)
  · have hx3_1 : k < (l).length := (by first | omega | (simp; omega))
    refine ov 6 [] (a := kixM hx3_1 (hA.at hM_l2)) (b := ?_)
    refine ov 0 [] (a := kldM hx3_1 (hA.at hM_l2)) (b := ?_)
    refine cp 7 [] (b := isKey_fn _ w_l2 ) (c := fun w4_1 hM4_1 => ?_)
    refine cn 2 [] (fun c14 => ?_) (fun c14 => ?_)
    · refine E1 5 [] (.bool (false)) ?_
      exact ⟨(by rw [validK_no1 hx3_1 c14]), (Mem.none hM4_1)⟩
    refine pp 6 [] 17 (fun g17 => ?_) (fun g17 => ?_)
    · refine ov 2 [] (a := ksub) (b := ?_)
      have hx6_6 : k - 1 < (l).length := (by first | omega | (simp; omega))
      refine ov 0 [] (a := kixM hx6_6 (hA.at hM4_1)) (b := ?_)
      refine ov 0 [] (a := kldM hx6_6 (hA.at hM4_1)) (b := ?_)
      refine cd 4 [] (fun c25 => ?_) (fun c25 => ?_)
      · refine E1 5 [] (.bool (false)) ?_
        exact ⟨(by rw [validK_no2 (by omega) hx3_1 (by omega)]), (Mem.none hM4_1)⟩
      refine ov 2 [] (a := kaddN (k + 1)) (b := ?_)
      exact le1 2 [] (k + 1) [] (h := by exact ⟨(by (try dsimp only); omega), (all_step hi1_l2 hx3_1 c14), (asc_take hi2_l2 hx3_1 (fun h0 => by omega))⟩)
    refine ov 12 [] (a := kaddN (k + 1)) (b := ?_)
    exact le1 2 [] (k + 1) [] (h := by exact ⟨(by (try dsimp only); omega), (all_step hi1_l2 hx3_1 c14), (asc_take hi2_l2 hx3_1 (fun h0 => by omega))⟩)
  refine E1 6 [] (.bool (true)) ?_
  exact ⟨(by rw [validK_yes hi1_l2 hi2_l2 (by omega)]), (Mem.none hM_l2)⟩
theorem allIn_fn (A : Option Addr) (c : Nat) (l : List Int) (lo : Int) (hi : Int) (w : World) (hA : Rd w A ((l).map I)) (hl : l.length ≤ 1048576) :
    Does Tryz.prog 134 [.slice (A) ((l).length) (c), I (lo), I (hi)] w (fun v w1 => v = .bool (l.all (fun a => decide (lo ≤ a) && decide (a ≤ hi))) ∧ Mem w w1 [] []) := by
  have hM : Mem w w [] [] := Mem.refl
  refine Does.n1 Tryz.func134 rfl Tryz.results134 Tryz.ntmps134 rfl ?_
  refine lp1 10 [] (fun (k : Nat) => ([(7, Vi (((k : Nat) : Int)))] : List (Nat × SV))) (fun (k : Nat) => (k ≤ l.length) ∧ ((l.take k).all (fun a => decide (lo ≤ a) && decide (a ≤ hi)) = true)) (fun (k : Nat) => []) (fun (k : Nat) => l.length - k) [0, 1, 2] [] [] 0 (fun k σ w_l2 hI hM_l2 => ?_) (h0 := ⟨(Nat.zero_le _), (by (try dsimp only); simp)⟩)
  obtain ⟨hi0_l2, hi1_l2⟩ := hI
  refine cd 8 [] (fun c11 => ?_) (fun c11 => ?_)
  · have hx4_2 : k < (l).length := (by first | omega | (simp; omega))
    refine ov 7 [] (a := kixM hx4_2 (hA.at hM_l2)) (b := ?_)
    refine ov 0 [] (a := kldM hx4_2 (hA.at hM_l2)) (b := ?_)
    refine cp 2 [] (b := inRange_fn _ _ _ w_l2 ) (c := fun w4_6 hM4_6 => ?_)
    refine cn 2 [] (fun c21 => ?_) (fun c21 => ?_)
    · refine E1 5 [] (.bool (false)) ?_
      exact ⟨(by rw [all_fail (p := fun a => decide (lo ≤ a) && decide (a ≤ hi)) hx4_2 c21]), (Mem.none hM4_6)⟩
    refine ov 3 [] (a := kaddN (k + 1)) (b := ?_)
    exact le1 2 [] (k + 1) [] (h := by exact ⟨(by (try dsimp only); omega), (all_step hi1_l2 hx4_2 c21)⟩)
  refine E1 6 [] (.bool (true)) ?_
  exact ⟨(by rw [all_end hi1_l2 (by omega)]), (Mem.none hM_l2)⟩
theorem validKeys_fn (A : Option Addr) (c : Nat) (l : List Int) (w : World) (hA : Rd w A ((l).map I)) (hl : l.length ≤ 1048576) :
    Does Tryz.prog 123 [.slice (A) ((l).length) (c)] w (fun v w1 => v = .bool (validK l) ∧ Mem w w1 [] []) := by
  have hM : Mem w w [] [] := Mem.refl
  refine Does.n1 Tryz.func123 rfl Tryz.results123 Tryz.ntmps123 rfl ?_
  refine lp1 10 [] (fun (k : Nat) => ([(3, Vi (((k : Nat) : Int)))] : List (Nat × SV))) (fun (k : Nat) => (1 ≤ k ∧ k ≤ l.length + 1) ∧ (asc (l.take k) = true)) (fun (k : Nat) => []) (fun (k : Nat) => l.length + 1 - k) [0] [] [] 1 (fun k σ w_l2 hI hM_l2 => ?_) (h0 := ⟨(by (try dsimp only); omega), (by (try dsimp only); cases l with | nil => rfl | cons a l => simp [asc])⟩)
  obtain ⟨hi0_l2, hi1_l2⟩ := hI
  refine cd 8 [] (fun c7 => ?_) (fun c7 => ?_)
  · refine dr 4 [] ?_
    have hx4_2 : k < (l).length := (by first | omega | (simp; omega))
    refine qv 2 [] (a := by exact fun _ hw2 => kixM hx4_2 (hA.at hw2)) (b := ?_)
    refine qv 0 [] (a := by exact fun _ hw2 => kldM hx4_2 (hA.at hw2)) (b := ?_)
    refine qv 2 [] (a := by exact fun _ hw2 => ksub) (b := ?_)
    have hx4_7 : k - 1 < (l).length := (by first | omega | (simp; omega))
    refine qv 0 [] (a := by exact fun _ hw2 => kixM hx4_7 (hA.at hw2)) (b := ?_)
    refine qv 0 [] (a := by exact fun _ hw2 => kldM hx4_7 (hA.at hw2)) (b := ?_)
    refine qn 1 [] fun w4d hM4d => ?_
    refine cd 0 [] (fun c19 => ?_) (fun c19 => ?_)
    · refine E1 5 [] (.bool (false)) ?_
      exact ⟨(by rw [validK_no2 (by omega) hx4_2 (by omega)]), (Mem.none hM4d)⟩
    refine ov 3 [] (a := kaddN (k + 1)) (b := ?_)
    exact le1 2 [] (k + 1) [] (h := by exact ⟨(by (try dsimp only); omega), (asc_take hi1_l2 hx4_2 (fun h0 => by omega))⟩)
  refine cp 4 [] (b := allIn_fn _ _ _ _ _ w_l2 (hA.at hM_l2) q0) (c := fun w6_1 hM6_1 => ?_)
  refine E1 3 [] (.bool (l.all (fun a => decide (0 ≤ a) && decide (a ≤ 99)))) ?_
  exact ⟨(by rw [validK, show asc l = true from by rwa [take_all (by omega)] at hi1_l2, Bool.and_true]; rfl), (Mem.none hM6_1)⟩
theorem isIn_fn (A : Option Addr) (c : Nat) (l : List Int) (n : Int) (w : World) (hA : Rd w A ((l).map I)) (hl : l.length ≤ 1048576) :
    Does Tryz.prog 92 [.slice (A) ((l).length) (c), I (n)] w (fun v w1 => v = .bool (decide (n ∈ l)) ∧ Mem w w1 [] []) := by
  have hM : Mem w w [] [] := Mem.refl
  refine Does.n1 Tryz.func92 rfl Tryz.results92 Tryz.ntmps92 rfl ?_
  refine lp1 10 [] (fun (k : Nat) => ([(5, Vi (((k : Nat) : Int)))] : List (Nat × SV))) (fun (k : Nat) => (k ≤ l.length) ∧ (∀ x ∈ l.take k, x ≠ n)) (fun (k : Nat) => []) (fun (k : Nat) => l.length - k) [0, 1] [] [] 0 (fun k σ w_l2 hI hM_l2 => ?_) (h0 := ⟨(Nat.zero_le _), (by (try dsimp only); simp)⟩)
  obtain ⟨hi0_l2, hi1_l2⟩ := hI
  refine cd 8 [] (fun c9 => ?_) (fun c9 => ?_)
  · have hx4_2 : k < (l).length := (by first | omega | (simp; omega))
    refine ov 7 [] (a := kixM hx4_2 (hA.at hM_l2)) (b := ?_)
    refine ov 0 [] (a := kldM hx4_2 (hA.at hM_l2)) (b := ?_)
    refine cd 3 [] (fun c17 => ?_) (fun c17 => ?_)
    · refine E1 5 [] (.bool (true)) ?_
      exact ⟨(by rw [decide_eq_true (by rw [← c17]; exact List.getElem_mem hx4_2)]), (Mem.none hM_l2)⟩
    refine ov 3 [] (a := kaddN (k + 1)) (b := ?_)
    exact le1 2 [] (k + 1) [] (h := by exact ⟨(by (try dsimp only); omega), (mem_step hi1_l2 hx4_2 c17)⟩)
  refine E1 6 [] (.bool (false)) ?_
  exact ⟨(by rw [mem_end hi1_l2 (by omega)]), (Mem.none hM_l2)⟩
theorem sbelow_fn (A : Option Addr) (c : Nat) (l : List Int) (k : Int) (w : World) (hA : Rd w A ((l).map I)) (hl : l.length ≤ 1048576) :
    Does Tryz.prog 160 [.slice (A) ((l).length) (c), I (k)] w (fun v w1 => v = I ((below l k : Int)) ∧ Mem w w1 [] []) := by
  have hM : Mem w w [] [] := Mem.refl
  refine Does.n1 Tryz.func160 rfl Tryz.results160 Tryz.ntmps160 rfl ?_
  refine lp1 10 [] (fun (n : Nat) => ([(5, Vi (((n : Nat) : Int)))] : List (Nat × SV))) (fun (n : Nat) => (n ≤ below l k)) (fun (n : Nat) => []) (fun (n : Nat) => l.length - n) [0, 1] [] [] 0 (fun n σ w_l2 hI hM_l2 => ?_) (h0 := (Nat.zero_le _))
  have hi0_l2 := hI
  refine pp 8 [] 10 (fun g10 => ?_) (fun g10 => ?_)
  · have hx2_7 : n < (l).length := (by first | omega | (simp; omega))
    refine ov 2 [] (a := kixM hx2_7 (hA.at hM_l2)) (b := ?_)
    refine ov 0 [] (a := kldM hx2_7 (hA.at hM_l2)) (b := ?_)
    refine cd 4 [] (fun c17 => ?_) (fun c17 => ?_)
    · refine ov 4 [] (a := kaddN (n + 1)) (b := ?_)
      exact le1 2 [] (n + 1) [] (h := by exact (below_step hi0_l2 hx2_7 c17))
    refine E1 7 [] (I (((n : Nat) : Int))) ?_
    exact ⟨(I_congr (by rw [below_end hi0_l2 (by first | exact .inl (by omega) | exact .inr ⟨hx2_7, by omega⟩)])), (Mem.none hM_l2)⟩
  refine E1 16 [] (I (((n : Nat) : Int))) ?_
  exact ⟨(I_congr (by rw [below_end hi0_l2 (by first | exact .inl (by omega) | exact .inr ⟨hx2_7, by omega⟩)])), (Mem.none hM_l2)⟩
theorem supTo_fn (A : Option Addr) (c : Nat) (l : List Int) (k : Int) (w : World) (hA : Rd w A ((l).map I)) (hl : l.length ≤ 1048576) :
    Does Tryz.prog 159 [.slice (A) ((l).length) (c), I (k)] w (fun v w1 => v = I ((upTo l k : Int)) ∧ Mem w w1 [] []) := by
  have hM : Mem w w [] [] := Mem.refl
  refine Does.n1 Tryz.func159 rfl Tryz.results159 Tryz.ntmps159 rfl ?_
  refine lp1 10 [] (fun (n : Nat) => ([(5, Vi (((n : Nat) : Int)))] : List (Nat × SV))) (fun (n : Nat) => (n ≤ upTo l k)) (fun (n : Nat) => []) (fun (n : Nat) => l.length - n) [0, 1] [] [] 0 (fun n σ w_l2 hI hM_l2 => ?_) (h0 := (Nat.zero_le _))
  have hi0_l2 := hI
  refine pp 8 [] 10 (fun g10 => ?_) (fun g10 => ?_)
  · have hx2_7 : n < (l).length := (by first | omega | (simp; omega))
    refine ov 2 [] (a := kixM hx2_7 (hA.at hM_l2)) (b := ?_)
    refine ov 0 [] (a := kldM hx2_7 (hA.at hM_l2)) (b := ?_)
    refine cd 4 [] (fun c17 => ?_) (fun c17 => ?_)
    · refine ov 4 [] (a := kaddN (n + 1)) (b := ?_)
      exact le1 2 [] (n + 1) [] (h := by exact (upTo_step hi0_l2 hx2_7 c17))
    refine E1 7 [] (I (((n : Nat) : Int))) ?_
    exact ⟨(I_congr (by rw [upTo_end hi0_l2 (by first | exact .inl (by omega) | exact .inr ⟨hx2_7, by omega⟩)])), (Mem.none hM_l2)⟩
  refine E1 16 [] (I (((n : Nat) : Int))) ?_
  exact ⟨(I_congr (by rw [upTo_end hi0_l2 (by first | exact .inl (by omega) | exact .inr ⟨hx2_7, by omega⟩)])), (Mem.none hM_l2)⟩
theorem skeysOf_fn (A : Option Addr) (c : Nat) (l : List PairT) (w : World) (hA : Rd w A ((l).flatMap encP)) (hl : l.length ≤ 1048576) :
    Does Tryz.prog 106 [.slice (A) ((l).length) (c)] w (fun v w1 => ∃ (A1 : Option Addr) (c1 : Nat), v = .slice (A1) ((keysP l).length) (c1) ∧ Mem w w1 [] [[⟨.slice (A1) ((keysP l).length) (c1), 3, 1, ((keysP l).length), (keysP l).map I⟩]]) := by
  have hM : Mem w w [] [] := Mem.refl
  refine Does.n1 Tryz.func106 rfl Tryz.results106 Tryz.ntmps106 rfl ?_
  refine Lt 6 [] (([]).map I) (fun w1_0 b1_0 hb1_0 hM1_0 => ?_)
  have hq1 : ([] : List Int) = keysP (l.take 0) := (by first | rfl | simp | (simp; omega))
  have hMn1 := hM1_0.reM 0 hq1 (f := I)
  refine lp3 8 [] (fun (k : Nat) (A2 : Option Addr) (c2 : Nat) => ([(3, Vl (A2) ((keysP (l.take k)).length) (c2)), (4, Vi (((k : Nat) : Int)))] : List (Nat × SV))) (fun (k : Nat) (A2 : Option Addr) (c2 : Nat) => (k ≤ l.length)) (fun (k : Nat) (A2 : Option Addr) (c2 : Nat) => [[⟨.slice (A2) ((keysP (l.take k)).length) (c2), 3, 1, ((keysP (l.take k)).length), (keysP (l.take k)).map I⟩]]) (fun (k : Nat) (A2 : Option Addr) (c2 : Nat) => l.length - k) [0] [0] [] 0 (bl b1_0) 0 (fun k A2 c2 σ w_l3 hI hM_l3 => ?_) (h0 := (Nat.zero_le _))
  have hi0_l3 := hI
  have hcl0_l3 := (hM_l3.cap 0 rfl).1
  refine cd 8 [] (fun c9 => ?_) (fun c9 => ?_)
  · have hx5_3 : k < (l).length := (by first | omega | (simp; omega))
    refine ov 7 [] (a := kixF hx5_3 (hA.at hM_l3)) (b := ?_)
    refine ov 0 [] (a := kflF hx5_3 (hA.at hM_l3)) (b := ?_)
    refine ov 0 [] (a := kldF hx5_3 (hA.at hM_l3)) (b := ?_)
    refine Lt 0 [] (([((l)[k]'hx5_3).key]).map I) (fun w5_6 b5_6 hb5_6 hM5_6 => ?_)
    refine aM 0 [] 1 (hM5_6.rd 0 rfl) (fun w5_7 A5_7 c5_7 hc5_7 hM5_7 => ?_)
    refine ov 4 [] (a := kaddN (k + 1)) (b := ?_)
    have hq2 : (keysP (l.take k) ++ [((l)[k]'hx5_3).key] : List Int) = keysP (l.take (k + 1)) := (map_snoc hx5_3)
    have hMn2 := hM5_7.reM 1 hq2
    exact le3 2 [] (k + 1) A5_7 c5_7 [1] (h := by exact (by (try dsimp only); omega))
  refine E1 7 [] (.slice (A2) ((keysP (l.take k)).length) (c2)) ?_
  have hq3 : (keysP (l.take k) : List Int) = keysP l := (by rw [take_all (by omega)])
  have hMn3 := hM_l3.reM 0 hq3
  exact ⟨A2, c2, (by first | rfl | exact sl_congr (by first | omega | (simp; done) | (simp; omega)) | (simp; done)), (hMn3.pk [0])⟩
theorem keysOfRow_fn (A : Option Addr) (c : Nat) (l : List PairT) (w : World) (hA : Rd w A ((l).flatMap encP)) (hl : l.length ≤ 1048576) :
    Does Tryz.prog 76 [.slice (A) ((l).length) (c)] w (fun v w1 => ∃ (A1 : Option Addr) (c1 : Nat), v = .slice (A1) ((keysP l).length) (c1) ∧ Mem w w1 [] [[⟨.slice (A1) ((keysP l).length) (c1), 3, 1, ((keysP l).length), (keysP l).map I⟩]]) := by
  have hM : Mem w w [] [] := Mem.refl
  refine Does.n1 Tryz.func76 rfl Tryz.results76 Tryz.ntmps76 rfl ?_
  refine go 8 [] ?_
  refine O.mmake (k := (l).length) (sz := 1) (xs := (List.replicate ((l).length) (0 : Int)).map I) hM rfl Tryz.underlying30 el3 rfl rfl rfl rfl (by omega) (by omega) (zer_map rfl) (fun w1_2 b1_2 hb1_2 hM1_2 => ?_)
  have hq1 : (List.replicate ((l).length) (0 : Int) : List Int) = keysP (l.take 0) ++ List.replicate (l.length - 0) (0 : Int) := fill_zero
  have hMn1 : Mem w w1_2 [] [[⟨.slice (bl b1_2) (l.length) ((l).length), 3, 1, (l.length), (keysP (l.take 0) ++ List.replicate (l.length - 0) (0 : Int)).map I⟩]] := hM1_2.relen 0 (n' := l.length) (xs' := (keysP (l.take 0) ++ List.replicate (l.length - 0) (0 : Int)).map I) rfl (by first | rfl | exact congrArg List.length hq1 | (have hqq := congrArg List.length hq1; first | omega | (simp at hqq ⊢; omega)) | (simp; done) | (simp; omega)) (congrArg (fun z_ => (z_).map I) hq1) rfl
  refine lp1 10 [] (fun (k : Nat) => ([(3, Vl (bl b1_2) (l.length) (l.length)), (11, Vi (((k : Nat) : Int)))] : List (Nat × SV))) (fun (k : Nat) => (k ≤ l.length)) (fun (k : Nat) => [[⟨.slice (bl b1_2) (l.length) (l.length), 3, 1, (l.length), (keysP (l.take k) ++ List.replicate (l.length - k) (0 : Int)).map I⟩]]) (fun (k : Nat) => l.length - k) [9, 10] [0] [] 0 (fun k σ w_l3 hI hM_l3 => ?_) (h0 := (Nat.zero_le _))
  have hi0_l3 := hI
  have hcl0_l3 := (hM_l3.cap 0 rfl).1
  refine cd 5 [] (fun c12 => ?_) (fun c12 => ?_)
  · have hx4_1 : k < (l).length := (by first | omega | (simp; omega))
    refine ov 6 [] (a := kixF hx4_1 (hA.at hM_l3)) (b := ?_)
    refine ov 0 [] (a := kldN hx4_1 (hA.at hM_l3)) (b := ?_)
    refine Al 0 [] fun w4_3 b4_3 hb4_3 hM4_3 => ?_
    refine Sb 1 [] 0 fun w4_5 hM4_5 => ?_
    have hx5_4 : k < (keysP (l.take k) ++ List.replicate (l.length - k) (0 : Int)).length := (by rw [fill_len hi0_l3]; exact hx4_1)
    refine ov 6 [0] (a := kixM hx5_4 (hM4_5.rd 1 rfl) (h0 := by omega)) (b := ?_)
    refine sM 0 [] 1 hx5_4 fun w5_5 hM5_5 => ?_
    refine ov 2 [] (a := kaddN (k + 1)) (b := ?_)
    have hq2 : ((keysP (l.take k) ++ List.replicate (l.length - k) (0 : Int)).set (k) (((l)[k]'hx4_1).key) : List Int) = keysP (l.take (k + 1)) ++ List.replicate (l.length - (k + 1)) (0 : Int) := (fill_set hx4_1)
    have hMn2 : Mem w w5_5 [] [[⟨.slice (bl b4_3) 1 1, 27, 2, 1, [I (((l)[k]'hx4_1).key), I (((l)[k]'hx4_1).val)]⟩], [⟨.slice (bl b1_2) (l.length) (l.length), 3, 1, (l.length), (keysP (l.take (k + 1)) ++ List.replicate (l.length - (k + 1)) (0 : Int)).map I⟩]] := hM5_5.relen 1 (n' := l.length) (xs' := (keysP (l.take (k + 1)) ++ List.replicate (l.length - (k + 1)) (0 : Int)).map I) rfl (by first | rfl | exact congrArg List.length hq2 | (have hqq := congrArg List.length hq2; first | omega | (simp at hqq ⊢; omega)) | (simp; done) | (simp; omega)) (congrArg (fun z_ => (z_).map I) hq2) rfl
    exact le1 2 [] (k + 1) [1] (h := by exact (by (try dsimp only); omega))
  refine E1 7 [] (.slice (bl b1_2) (l.length) (l.length)) ?_
  have hq3 : (keysP (l.take k) ++ List.replicate (l.length - k) (0 : Int) : List Int) = keysP l := (fill_all (by omega))
  have hMn3 := hM_l3.reM 0 hq3
  exact ⟨bl b1_2, l.length, (by first | rfl | exact sl_congr (by first | omega | (simp; done) | (simp; omega)) | (simp; done)), (hMn3.pk [0])⟩
theorem scopyRow_fn (A : Option Addr) (c : Nat) (l : List PairT) (w : World) (hA : Rd w A ((l).flatMap encP)) (hl : l.length ≤ 1048576) :
    Does Tryz.prog 161 [.slice (A) ((l).length) (c)] w (fun v w1 => ∃ (A1 : Option Addr) (c1 : Nat), v = .slice (A1) ((l).length) (c1) ∧ Mem w w1 [] [[⟨.slice (A1) ((l).length) (c1), 27, 2, ((l).length), (l).flatMap encP⟩]]) := by
  have hM : Mem w w [] [] := Mem.refl
  refine Does.n1 Tryz.func161 rfl Tryz.results161 Tryz.ntmps161 rfl ?_
  refine Lt 6 [] (([]).flatMap encP) (fun w1_0 b1_0 hb1_0 hM1_0 => ?_)
  refine aF0 1 [] 0 (hA.at hM1_0) (fun w1_2 A1_2 c1_2 hc1_2 hM1_2 => ?_)
  refine E1 3 [] (.slice (A1_2) ((l).length) (c1_2)) ?_
  exact ⟨A1_2, c1_2, (by first | rfl | exact sl_congr (by first | omega | (simp; done) | (simp; omega)) | (simp; done)), (hM1_2.pk [0])⟩
theorem scopyInts_fn (A : Option Addr) (c : Nat) (l : List Int) (w : World) (hA : Rd w A ((l).map I)) (hl : l.length ≤ 1048576) :
    Does Tryz.prog 115 [.slice (A) ((l).length) (c)] w (fun v w1 => ∃ (A1 : Option Addr) (c1 : Nat), v = .slice (A1) ((l).length) (c1) ∧ Mem w w1 [] [[⟨.slice (A1) ((l).length) (c1), 3, 1, ((l).length), (l).map I⟩]]) := by
  have hM : Mem w w [] [] := Mem.refl
  refine Does.n1 Tryz.func115 rfl Tryz.results115 Tryz.ntmps115 rfl ?_
  refine Lt 6 [] (([]).map I) (fun w1_0 b1_0 hb1_0 hM1_0 => ?_)
  refine aM0 1 [] 0 (hA.at hM1_0) (fun w1_2 A1_2 c1_2 hc1_2 hM1_2 => ?_)
  refine E1 3 [] (.slice (A1_2) ((l).length) (c1_2)) ?_
  exact ⟨A1_2, c1_2, (by first | rfl | exact sl_congr (by first | omega | (simp; done) | (simp; omega)) | (simp; done)), (hM1_2.pk [0])⟩
theorem ClonePair_fn (A : Option Addr) (c : Nat) (l : List PairT) (w : World) (hA : Rd w A ((l).flatMap encP)) (hl : l.length ≤ 1048576) :
    Does Tryz.prog 79 [.slice (A) ((l).length) (c)] w (fun v w1 => ∃ (A1 : Option Addr) (c1 : Nat), v = .slice (A1) ((l).length) (c1) ∧ Mem w w1 [] [[⟨.slice (A1) ((l).length) (c1), 27, 2, ((l).length), (l).flatMap encP⟩]]) := by
  have hM : Mem w w [] [] := Mem.refl
  refine Does.n1 Tryz.func79 rfl Tryz.results79 Tryz.ntmps79 rfl ?_
  refine ov 8 [] (s := Vb ((A).isNone)) (a := by exact cv (Ru.slnil Tryz.underlying43 rfl rfl) rfl) (b := ?_)
  refine cb 1 [] (fun c4 => ?_) (fun c4 => ?_)
  · refine E1 5 [] (.slice (none) (0) (0)) ?_
    have hl0 := isNone_flat encP_len (by decide) hA c4
    have hMn1 := Mem.addNil (e := 27) (sz := 2) hM
    have hq2 : ([] : List PairT) = l := hl0.symm
    have hMn2 := hMn1.reF 0 hq2 (f := encP)
    exact ⟨none, 0, (sl_congr (by rw [hl0]; rfl)), (hMn2.pk [0])⟩
  refine Lt 3 [] (([]).flatMap encP) (fun w3_0 b3_0 hb3_0 hM3_0 => ?_)
  refine aF0 1 [] 0 (hA.at hM3_0) (fun w3_2 A3_2 c3_2 hc3_2 hM3_2 => ?_)
  refine E1 3 [] (.slice (A3_2) ((l).length) (c3_2)) ?_
  exact ⟨A3_2, c3_2, (by first | rfl | exact sl_congr (by first | omega | (simp; done) | (simp; omega)) | (simp; done)), (hM3_2.pk [0])⟩
theorem InsertPair_fn (A : Option Addr) (c : Nat) (l : List PairT) (i : Nat) (V : Option Addr) (vc : Nat) (vs : List PairT) (w : World) (hM : Mem w w [(Value.slice (A) ((l).length) (c)).ownBlock, (Value.slice (V) ((vs).length) (vc)).ownBlock] [[⟨.slice (A) ((l).length) (c), 27, 2, ((l).length), (l).flatMap encP⟩], [⟨.slice (V) ((vs).length) (vc), 27, 2, ((vs).length), (vs).flatMap encP⟩]]) (hin : i ≤ l.length) (hl : l.length ≤ 1048576) (hm : 0 < vs.length) (hv : vs.length ≤ 1000) :
    Does Tryz.prog 80 [.slice (A) ((l).length) (c), I (((i : Nat) : Int)), .slice (V) ((vs).length) (vc)] w (fun v w1 => ∃ (A1 : Option Addr) (c1 : Nat), v = .slice (A1) ((l.take i ++ (vs ++ l.drop i)).length) (c1) ∧ Mem w w1 [(Value.slice (A) ((l).length) (c)).ownBlock, (Value.slice (V) ((vs).length) (vc)).ownBlock] [[⟨.slice (A1) ((l.take i ++ (vs ++ l.drop i)).length) (c1), 27, 2, ((l.take i ++ (vs ++ l.drop i)).length), (l.take i ++ (vs ++ l.drop i)).flatMap encP⟩]]) := by
  have hXl : ((l).flatMap encP).length = l.length * 2 := (flat_len encP_len (l))
  have hVl : ((vs).flatMap encP).length = vs.length * 2 := (flat_len encP_len (vs))
  have hXt : (l.take i).flatMap encP = ((l).flatMap encP).take (i * 2) := (flat_take encP_len l i)
  have hXd : (l.drop i).flatMap encP = ((l).flatMap encP).drop (i * 2) := (flat_drop encP_len l i)
  have hXdl : ((l.drop i).flatMap encP).length = (l.length - i) * 2 := by rw [hXd, List.length_drop, hXl, Nat.sub_mul]
  have hXtl : ((l.take i).flatMap encP).length = i * 2 := by rw [hXt, List.length_take, hXl]; omega
  have hres : (l.take i ++ (vs ++ l.drop i)).flatMap encP = ((l).flatMap encP).take (i * 2) ++ ((vs).flatMap encP ++ ((l).flatMap encP).drop (i * 2)) := by rw [List.flatMap_append, List.flatMap_append, hXt, hXd]
  have hZl : (zer [.int .i64 0, .int .i64 0] (vs.length + l.length - i)).length = (vs.length + l.length - i) * 2 := by rw [zer_length]; rfl
  refine Does.n1 Tryz.func80 rfl Tryz.results80 Tryz.ntmps80 rfl ?_
  have hcp1_2 := hM.cap 0 rfl
  refine ov 8 [] (s := Vl (if c = i then A else ofs (A) (i * 2)) (((l).drop (i)).length) (c - i)) (a := by exact cv (Ru.congr (v := .slice (if c = i then A else ofs (A) (i * 2)) (((l).length) - i) (c - i)) (v' := .slice (if c = i then A else ofs (A) (i * 2)) (((l).drop (i)).length) (c - i)) (Ru.lsliceFrom (l := i) Tryz.underlying43 el27 rfl rfl (by omega) (by omega)) (sl_congr (by first | rfl | (simp; done) | omega | (simp; omega)))) rfl) (b := ?_)
  refine cd 13 [] (fun c16 => ?_) (fun c16 => ?_)
  · exfalso; omega
  refine cd 14 [] (fun c22 => ?_) (fun c22 => ?_)
  · refine aF 4 [] 0 (hM.rd 1 rfl) (fun w7_2 A7_2 c7_2 hc7_2 hM7_2 => ?_)
    refine E1 3 [] (.slice (A7_2) ((l ++ vs).length) (c7_2)) ?_
    have hMe : Mem w w7_2 [(Value.slice (A) ((l).length) (c)).ownBlock, (Value.slice (V) ((vs).length) (vc)).ownBlock] [[⟨.slice (A7_2) ((l.take i ++ (vs ++ l.drop i)).length) (c7_2), 27, 2, ((l.take i ++ (vs ++ l.drop i)).length), (l.take i ++ (vs ++ l.drop i)).flatMap encP⟩], [⟨.slice (V) ((vs).length) (vc), 27, 2, ((vs).length), (vs).flatMap encP⟩]] := hM7_2.relen 0 (n' := (l.take i ++ (vs ++ l.drop i)).length) (xs' := (l.take i ++ (vs ++ l.drop i)).flatMap encP) rfl (by simp; omega) (by congr 1; rw [List.take_of_length_le (by omega), List.drop_of_length_le (by omega), List.append_nil]) rfl
    exact ⟨A7_2, c7_2, sl_congr (by simp; omega), hMe.pick [0] (by decide) rfl⟩
  refine ov 6 [] (a := kaddN ((l).length + (vs).length)) (b := ?_)
  refine ov 1 [] (s := Vi (((c : Nat) : Int))) (a := by exact cv (Ru.bcap Tryz.underlying43 rfl) rfl) (b := ?_)
  refine cd 2 [] (fun c31 => ?_) (fun c31 => ?_)
  · have hcp9_2 := hM.cap 0 rfl
    refine ov 4 [] (s := Vl (A) (i) (c)) (a := by exact cv (Ru.congr (v := .slice (A) (i) (c)) (v' := .slice (A) (i) (c)) (Ru.lsliceTo (h := i) Tryz.underlying43 el27 rfl rfl (by omega) (by omega)) (rfl)) rfl) (b := ?_)
    refine ov 2 [] (a := kaddN ((l).length + (vs).length)) (b := ?_)
    refine ov 1 [] (a := ksub) (b := ?_)
    have hXt' := (rd_takeN (k := i) encP_len (hM.rd 0 rfl))
    refine O.mgrow (A := A) (c := c) (k := i) (m := vs.length + l.length - i) (sz := 2) (olds := (l.take i).flatMap encP) (k1 := l.length + vs.length) (xs1 := (l.take i).flatMap encP ++ zer [.int .i64 0, .int .i64 0] (vs.length + l.length - i)) (M' := fun b9_8 c9_8 => [[⟨.slice (bl b9_8) (l.length + vs.length) (c9_8), 27, 2, l.length + vs.length, (l.take i).flatMap encP ++ zer [.int .i64 0, .int .i64 0] (vs.length + l.length - i)⟩], [⟨.slice (A) ((l).length) (c), 27, 2, ((l).length), (l).flatMap encP⟩], [⟨.slice (V) ((vs).length) (vc), 27, 2, ((vs).length), (vs).flatMap encP⟩]]) hM rfl Tryz.underlying43 Tryz.underlying3 el27 ⟨rfl, by decide⟩ rfl rfl (by omega) rfl hXt' hXtl (by omega) (by omega) (by omega) (by omega) (by omega) rfl (fun _ _ => rfl) (fun w9_8 b9_8 c9_8 hb9_8 hc9_8 hM9_8 => ?_)
    try dsimp only at hM9_8
    have hcp10_2 := hM9_8.cap 0 rfl
    refine ov 6 [] (s := Vl (if c9_8 = i then bl b9_8 else ofs (bl b9_8) (i * 2)) ((l.length + vs.length) - i) (c9_8 - i)) (a := by exact cv (Ru.lsliceFrom (l := i) Tryz.underlying43 el27 rfl rfl (by omega) (by omega)) rfl) (b := ?_)
    refine go 1 [] ?_
    refine O.mcopy (i := 0) (k := i * 2) (news := (vs).flatMap encP) (xs' := spl ((l.take i).flatMap encP ++ zer [.int .i64 0, .int .i64 0] (vs.length + l.length - i)) (i * 2) ((vs).flatMap encP)) hM9_8 rfl rfl Tryz.underlying43 el27 rfl rfl rfl rfl (fun h0 => if_neg (by omega)) (hM9_8.rd 2 rfl) (by rw [hVl]; congr 1; first | omega | (simp only [List.length_drop, List.length_take]; omega)) (by rw [List.length_append, hXtl, hZl, hVl, ← Nat.add_mul, ← Nat.add_mul]; exact Nat.mul_le_mul_right _ (by omega)) (all_flat_one (fun _ => rfl) _) rfl rfl (fun w10_4 (hM10_4 : Mem w w10_4 [(Value.slice (A) ((l).length) (c)).ownBlock, (Value.slice (V) ((vs).length) (vc)).ownBlock] [[⟨.slice (bl b9_8) (l.length + vs.length) (c9_8), 27, 2, l.length + vs.length, spl ((l.take i).flatMap encP ++ zer [.int .i64 0, .int .i64 0] (vs.length + l.length - i)) (i * 2) ((vs).flatMap encP)⟩], [⟨.slice (A) ((l).length) (c), 27, 2, ((l).length), (l).flatMap encP⟩], [⟨.slice (V) ((vs).length) (vc), 27, 2, ((vs).length), (vs).flatMap encP⟩]]) => ?_)
    refine any 2 [] 9 [1, 2] fun w11a hM11a => ?_
    refine av [0, 1, 2] [] 3 (a := by exact fun _ hw2 => kaddN (i + (vs).length)) (b := ?_)
    have hcp11_4 := hM11a.cap 0 rfl
    refine av [] [] 4 (s := Vl (if c9_8 = (i + (vs).length) then bl b9_8 else ofs (bl b9_8) ((i + (vs).length) * 2)) ((l.length + vs.length) - (i + (vs).length)) (c9_8 - (i + (vs).length))) (a := by exact fun w2 hw2 => cv (Ru.lsliceFrom (l := (i + (vs).length)) Tryz.underlying43 el27 rfl rfl (by omega) (by omega)) rfl) (b := ?_)
    have hcp11_7 := hM11a.cap 1 rfl
    refine av [5, 6] [] 7 (s := Vl (if c = i then A else ofs (A) (i * 2)) (((l).drop (i)).length) (c - i)) (a := by exact fun w2 hw2 => cv (Ru.congr (v := .slice (if c = i then A else ofs (A) (i * 2)) (((l).length) - i) (c - i)) (v' := .slice (if c = i then A else ofs (A) (i * 2)) (((l).drop (i)).length) (c - i)) (Ru.lsliceFrom (l := i) Tryz.underlying43 el27 rfl rfl (by omega) (by omega)) (sl_congr (by first | rfl | (simp; done) | omega | (simp; omega)))) rfl) (b := ?_)
    refine aO [] [] 8 ?_
    have hsl : (spl ((l.take i).flatMap encP ++ zer [.int .i64 0, .int .i64 0] (vs.length + l.length - i)) (i * 2) ((vs).flatMap encP)).length = (l.length + vs.length) * 2 := by rw [spl_length (by rw [List.length_append, hXtl, hZl, hVl, ← Nat.add_mul, ← Nat.add_mul]; exact Nat.mul_le_mul_right _ (by omega)), List.length_append, hXtl, hZl, ← Nat.add_mul]; congr 1; omega
    have hcp := hM11a.cap 1 rfl
    refine O.mcopy (i := 0) (k := (i + vs.length) * 2) (news := (l.drop i).flatMap encP) (xs' := (l.take i ++ (vs ++ l.drop i)).flatMap encP) hM11a rfl rfl Tryz.underlying43 el27 rfl rfl rfl rfl (fun h0 => if_neg (by omega)) (rd_dropN encP_len (hM11a.rd 1 rfl) hin (by omega)) (by rw [hXdl]; congr 1; first | omega | (simp only [List.length_drop, List.length_take]; omega)) (by rw [hXdl, hsl, ← Nat.add_mul]; exact Nat.mul_le_mul_right _ (by omega)) (all_flat_one (fun _ => rfl) _) (by rw [hres, hXd, hXt, Nat.add_mul, ← hVl]; exact grow_cells (by rw [hXl]; exact Nat.mul_le_mul_right _ hin) (by rw [hZl, hVl, hXl, ← Nat.sub_mul, ← Nat.add_mul]; congr 1; omega)) rfl (fun w11_8 (hM11_8 : Mem w w11_8 [(Value.slice (A) ((l).length) (c)).ownBlock, (Value.slice (V) ((vs).length) (vc)).ownBlock] [[⟨.slice (bl b9_8) (l.length + vs.length) (c9_8), 27, 2, (l.length + vs.length), (l.take i ++ (vs ++ l.drop i)).flatMap encP⟩], [⟨.slice (A) ((l).length) (c), 27, 2, ((l).length), (l).flatMap encP⟩], [⟨.slice (V) ((vs).length) (vc), 27, 2, ((vs).length), (vs).flatMap encP⟩]]) => ?_)
    refine os 0 [] [1, 2] ?_
    refine an [] [] ?_
    refine E1 6 [] (.slice (bl b9_8) (l.length + vs.length) (c9_8)) ?_
    have hMe : Mem w w11_8 [(Value.slice (A) ((l).length) (c)).ownBlock, (Value.slice (V) ((vs).length) (vc)).ownBlock] [[⟨.slice (bl b9_8) ((l.take i ++ (vs ++ l.drop i)).length) (c9_8), 27, 2, ((l.take i ++ (vs ++ l.drop i)).length), (l.take i ++ (vs ++ l.drop i)).flatMap encP⟩], [⟨.slice (A) ((l).length) (c), 27, 2, ((l).length), (l).flatMap encP⟩], [⟨.slice (V) ((vs).length) (vc), 27, 2, ((vs).length), (vs).flatMap encP⟩]] := hM11_8.relen 0 (n' := (l.take i ++ (vs ++ l.drop i)).length) (xs' := (l.take i ++ (vs ++ l.drop i)).flatMap encP) rfl (by simp; omega) rfl rfl
    exact ⟨bl b9_8, c9_8, sl_congr (by simp; omega), hMe.pick [0] (by decide) rfl⟩
  refine ov 6 [] (a := kaddN ((l).length + (vs).length)) (b := ?_)
  have hcp := hM.cap 0 rfl
  have hAs : A.isSome = true := (by cases l with | nil => exfalso; simp only [List.length_nil] at *; omega | cons a l => exact (smf (k := 0) encP_len (hM.rd 0 rfl) (by simp) rfl))
  obtain ⟨ys, hys, hMx⟩ := Mem.extend (k := vs.length) hM (i := 0) rfl (by omega) (fun _ => hAs)
  replace hMx : Mem w w [(Value.slice (A) ((l).length) (c)).ownBlock, (Value.slice (V) ((vs).length) (vc)).ownBlock] [[⟨.slice (A) (l.length + vs.length) (c), 27, 2, l.length + vs.length, (l).flatMap encP ++ ys⟩], [⟨.slice (V) ((vs).length) (vc), 27, 2, ((vs).length), (vs).flatMap encP⟩]] := hMx
  refine ov 0 [] (s := Vl (A) (l.length + vs.length) (c)) (a := by exact cv (Ru.congr (Ru.lsliceTo (h := l.length + vs.length) Tryz.underlying43 el27 rfl rfl (by omega) (by omega)) rfl) rfl) (b := ?_)
  refine ov 9 [] (a := kaddN (i + (vs).length)) (b := ?_)
  have hcp14_5 := hMx.cap 0 rfl
  refine ov 0 [] (s := Vl (if c = (i + (vs).length) then A else ofs (A) ((i + (vs).length) * 2)) ((l.length + vs.length) - (i + (vs).length)) (c - (i + (vs).length))) (a := by exact cv (Ru.lsliceFrom (l := (i + (vs).length)) Tryz.underlying43 el27 rfl rfl (by omega) (by omega)) rfl) (b := ?_)
  refine ov 0 [] (s := Vb (false)) (a := by exact cv (Ru.extern (vs := [.slice V vs.length vc, .slice (if c = i + vs.length then A else ofs A ((i + vs.length) * 2)) (l.length + vs.length - (i + vs.length)) (c - (i + vs.length))]) rfl ((run_callFunc_extern Tryz.func119 (by kernel_rfl) (by kernel_rfl) (by kernel_rfl) (e := Extern.SlicesOverlaps.overlaps #[43, 43] #[4]) (by kernel_rfl) _ _).trans (by rw [overlaps_own (i := 1) (j := 0) (k := (i + vs.length) * 2) hMx (by decide) rfl rfl Tryz.underlying43 el27 (by omega) (by decide) _ (if_neg (by omega))]; rfl))) rfl) (b := ?_)
  refine any 4 [] 9 [1] fun w15a hM15a => ?_
  refine av [0, 1, 2] [] 3 (a := by exact fun _ hw2 => kaddN (i + (vs).length)) (b := ?_)
  have hcp15_4 := hM15a.cap 0 rfl
  refine av [] [] 4 (s := Vl (if c = (i + (vs).length) then A else ofs (A) ((i + (vs).length) * 2)) ((l.length + vs.length) - (i + (vs).length)) (c - (i + (vs).length))) (a := by exact fun w2 hw2 => cv (Ru.lsliceFrom (l := (i + (vs).length)) Tryz.underlying43 el27 rfl rfl (by omega) (by omega)) rfl) (b := ?_)
  have hcp15_7 := hM15a.cap 0 rfl
  refine av [5, 6] [] 7 (s := Vl (if c = i then A else ofs (A) (i * 2)) ((l.length + vs.length) - i) (c - i)) (a := by exact fun w2 hw2 => cv (Ru.lsliceFrom (l := i) Tryz.underlying43 el27 rfl rfl (by omega) (by omega)) rfl) (b := ?_)
  refine aO [] [] 8 ?_
  have hRl := Rd.left (hM15a.rd 0 rfl)
  refine O.mcopy (i := 0) (k := i * 2 + ((vs).flatMap encP).length) (news := (l.drop i).flatMap encP) (xs' := spl ((l).flatMap encP ++ ys) (i * 2 + ((vs).flatMap encP).length) ((l.drop i).flatMap encP)) hM15a rfl rfl Tryz.underlying43 el27 rfl rfl rfl rfl (fun h0 => (by rw [if_neg (by omega), hVl, ← Nat.add_mul])) (rd_dropN encP_len hRl hin (by omega)) (by rw [hXdl]; congr 1; first | omega | (simp only [List.length_drop, List.length_take]; omega)) (by rw [hXdl, List.length_append, hXl, hVl, hys, ← Nat.add_mul, ← Nat.add_mul, ← Nat.add_mul]; exact Nat.mul_le_mul_right _ (by omega)) (all_flat_one (fun _ => rfl) _) rfl rfl (fun w15_8 (hM15_8 : Mem w w15_8 [(Value.slice (A) ((l).length) (c)).ownBlock, (Value.slice (V) ((vs).length) (vc)).ownBlock] [[⟨.slice (A) (l.length + vs.length) (c), 27, 2, l.length + vs.length, spl ((l).flatMap encP ++ ys) (i * 2 + ((vs).flatMap encP).length) ((l.drop i).flatMap encP)⟩], [⟨.slice (V) ((vs).length) (vc), 27, 2, ((vs).length), (vs).flatMap encP⟩]]) => ?_)
  refine os 0 [] [1] ?_
  refine an [] [] ?_
  have hcp16_2 := hM15_8.cap 0 rfl
  refine ov 4 [] (s := Vl (if c = i then A else ofs (A) (i * 2)) ((l.length + vs.length) - i) (c - i)) (a := by exact cv (Ru.lsliceFrom (l := i) Tryz.underlying43 el27 rfl rfl (by omega) (by omega)) rfl) (b := ?_)
  refine go 1 [] ?_
  refine O.mcopy (i := 0) (k := i * 2) (news := (vs).flatMap encP) (xs' := (l.take i ++ (vs ++ l.drop i)).flatMap encP) hM15_8 rfl rfl Tryz.underlying43 el27 rfl rfl rfl rfl (fun h0 => if_neg (by omega)) (hM15_8.rd 1 rfl) (by rw [hVl]; congr 1; first | omega | (simp only [List.length_drop, List.length_take]; omega)) (by rw [spl_length (by rw [hXdl, List.length_append, hXl, hVl, hys, ← Nat.add_mul, ← Nat.add_mul, ← Nat.add_mul]; exact Nat.mul_le_mul_right _ (by omega)), List.length_append, hXl, hVl, hys, ← Nat.add_mul, ← Nat.add_mul]; exact Nat.mul_le_mul_right _ (by omega)) (all_flat_one (fun _ => rfl) _) (by rw [hres, hXd]; exact ins_cells (by rw [hXl]; exact Nat.mul_le_mul_right _ hin) (by rw [hys, hVl])) rfl (fun w16_4 (hM16_4 : Mem w w16_4 [(Value.slice (A) ((l).length) (c)).ownBlock, (Value.slice (V) ((vs).length) (vc)).ownBlock] [[⟨.slice (A) (l.length + vs.length) (c), 27, 2, (l.length + vs.length), (l.take i ++ (vs ++ l.drop i)).flatMap encP⟩], [⟨.slice (V) ((vs).length) (vc), 27, 2, ((vs).length), (vs).flatMap encP⟩]]) => ?_)
  refine E1 7 [] (.slice (A) (l.length + vs.length) (c)) ?_
  have hMe : Mem w w16_4 [(Value.slice (A) ((l).length) (c)).ownBlock, (Value.slice (V) ((vs).length) (vc)).ownBlock] [[⟨.slice (A) ((l.take i ++ (vs ++ l.drop i)).length) (c), 27, 2, ((l.take i ++ (vs ++ l.drop i)).length), (l.take i ++ (vs ++ l.drop i)).flatMap encP⟩], [⟨.slice (V) ((vs).length) (vc), 27, 2, ((vs).length), (vs).flatMap encP⟩]] := hM16_4.relen 0 (n' := (l.take i ++ (vs ++ l.drop i)).length) (xs' := (l.take i ++ (vs ++ l.drop i)).flatMap encP) rfl (by simp; omega) rfl rfl
  exact ⟨A, c, sl_congr (by simp; omega), hMe.pick [0] (by decide) rfl⟩
theorem Cloneint_fn (A : Option Addr) (c : Nat) (l : List Int) (w : World) (hA : Rd w A ((l).map I)) (hl : l.length ≤ 1048576) :
    Does Tryz.prog 75 [.slice (A) ((l).length) (c)] w (fun v w1 => ∃ (A1 : Option Addr) (c1 : Nat), v = .slice (A1) ((l).length) (c1) ∧ Mem w w1 [] [[⟨.slice (A1) ((l).length) (c1), 3, 1, ((l).length), (l).map I⟩]]) := by
  have hM : Mem w w [] [] := Mem.refl
  refine Does.n1 Tryz.func75 rfl Tryz.results75 Tryz.ntmps75 rfl ?_
  refine ov 8 [] (s := Vb ((A).isNone)) (a := by exact cv (Ru.slnil Tryz.underlying30 rfl rfl) rfl) (b := ?_)
  refine cb 1 [] (fun c4 => ?_) (fun c4 => ?_)
  · refine E1 5 [] (.slice (none) (0) (0)) ?_
    have hl0 := isNone_map hA c4
    have hMn1 := Mem.addNil (e := 3) (sz := 1) hM
    have hq2 : ([] : List Int) = l := hl0.symm
    have hMn2 := hMn1.reM 0 hq2 (f := I)
    exact ⟨none, 0, (sl_congr (by rw [hl0]; rfl)), (hMn2.pk [0])⟩
  refine Lt 3 [] (([]).map I) (fun w3_0 b3_0 hb3_0 hM3_0 => ?_)
  refine aM0 1 [] 0 (hA.at hM3_0) (fun w3_2 A3_2 c3_2 hc3_2 hM3_2 => ?_)
  refine E1 3 [] (.slice (A3_2) ((l).length) (c3_2)) ?_
  exact ⟨A3_2, c3_2, (by first | rfl | exact sl_congr (by first | omega | (simp; done) | (simp; omega)) | (simp; done)), (hM3_2.pk [0])⟩
theorem Insertint_fn (A : Option Addr) (c : Nat) (l : List Int) (i : Nat) (V : Option Addr) (vc : Nat) (vs : List Int) (w : World) (hM : Mem w w [(Value.slice (A) ((l).length) (c)).ownBlock, (Value.slice (V) ((vs).length) (vc)).ownBlock] [[⟨.slice (A) ((l).length) (c), 3, 1, ((l).length), (l).map I⟩], [⟨.slice (V) ((vs).length) (vc), 3, 1, ((vs).length), (vs).map I⟩]]) (hin : i ≤ l.length) (hl : l.length ≤ 1048576) (hm : 0 < vs.length) (hv : vs.length ≤ 1000) :
    Does Tryz.prog 84 [.slice (A) ((l).length) (c), I (((i : Nat) : Int)), .slice (V) ((vs).length) (vc)] w (fun v w1 => ∃ (A1 : Option Addr) (c1 : Nat), v = .slice (A1) ((l.take i ++ (vs ++ l.drop i)).length) (c1) ∧ Mem w w1 [(Value.slice (A) ((l).length) (c)).ownBlock, (Value.slice (V) ((vs).length) (vc)).ownBlock] [[⟨.slice (A1) ((l.take i ++ (vs ++ l.drop i)).length) (c1), 3, 1, ((l.take i ++ (vs ++ l.drop i)).length), (l.take i ++ (vs ++ l.drop i)).map I⟩]]) := by
  have hXl : ((l).map I).length = l.length * 1 := (by simp)
  have hVl : ((vs).map I).length = vs.length * 1 := (by simp)
  have hXt : (l.take i).map I = ((l).map I).take (i * 1) := (by rw [List.map_take, Nat.mul_one])
  have hXd : (l.drop i).map I = ((l).map I).drop (i * 1) := (by rw [List.map_drop, Nat.mul_one])
  have hXdl : ((l.drop i).map I).length = (l.length - i) * 1 := by rw [hXd, List.length_drop, hXl, Nat.sub_mul]
  have hXtl : ((l.take i).map I).length = i * 1 := by rw [hXt, List.length_take, hXl]; omega
  have hres : (l.take i ++ (vs ++ l.drop i)).map I = ((l).map I).take (i * 1) ++ ((vs).map I ++ ((l).map I).drop (i * 1)) := by rw [List.map_append, List.map_append, hXt, hXd]
  have hZl : (zer [.int .i64 0] (vs.length + l.length - i)).length = (vs.length + l.length - i) * 1 := by rw [zer_length]; rfl
  refine Does.n1 Tryz.func84 rfl Tryz.results84 Tryz.ntmps84 rfl ?_
  have hcp1_2 := hM.cap 0 rfl
  refine ov 8 [] (s := Vl (if c = i then A else ofs (A) (i * 1)) (((l).drop (i)).length) (c - i)) (a := by exact cv (Ru.congr (v := .slice (if c = i then A else ofs (A) (i * 1)) (((l).length) - i) (c - i)) (v' := .slice (if c = i then A else ofs (A) (i * 1)) (((l).drop (i)).length) (c - i)) (Ru.lsliceFrom (l := i) Tryz.underlying30 el3 rfl rfl (by omega) (by omega)) (sl_congr (by first | rfl | (simp; done) | omega | (simp; omega)))) rfl) (b := ?_)
  refine cd 13 [] (fun c16 => ?_) (fun c16 => ?_)
  · exfalso; omega
  refine cd 14 [] (fun c22 => ?_) (fun c22 => ?_)
  · refine aM 4 [] 0 (hM.rd 1 rfl) (fun w7_2 A7_2 c7_2 hc7_2 hM7_2 => ?_)
    refine E1 3 [] (.slice (A7_2) ((l ++ vs).length) (c7_2)) ?_
    have hMe : Mem w w7_2 [(Value.slice (A) ((l).length) (c)).ownBlock, (Value.slice (V) ((vs).length) (vc)).ownBlock] [[⟨.slice (A7_2) ((l.take i ++ (vs ++ l.drop i)).length) (c7_2), 3, 1, ((l.take i ++ (vs ++ l.drop i)).length), (l.take i ++ (vs ++ l.drop i)).map I⟩], [⟨.slice (V) ((vs).length) (vc), 3, 1, ((vs).length), (vs).map I⟩]] := hM7_2.relen 0 (n' := (l.take i ++ (vs ++ l.drop i)).length) (xs' := (l.take i ++ (vs ++ l.drop i)).map I) rfl (by simp; omega) (by congr 1; rw [List.take_of_length_le (by omega), List.drop_of_length_le (by omega), List.append_nil]) rfl
    exact ⟨A7_2, c7_2, sl_congr (by simp; omega), hMe.pick [0] (by decide) rfl⟩
  refine ov 6 [] (a := kaddN ((l).length + (vs).length)) (b := ?_)
  refine ov 1 [] (s := Vi (((c : Nat) : Int))) (a := by exact cv (Ru.bcap Tryz.underlying30 rfl) rfl) (b := ?_)
  refine cd 2 [] (fun c31 => ?_) (fun c31 => ?_)
  · have hcp9_2 := hM.cap 0 rfl
    refine ov 4 [] (s := Vl (A) (i) (c)) (a := by exact cv (Ru.congr (v := .slice (A) (i) (c)) (v' := .slice (A) (i) (c)) (Ru.lsliceTo (h := i) Tryz.underlying30 el3 rfl rfl (by omega) (by omega)) (rfl)) rfl) (b := ?_)
    refine ov 2 [] (a := kaddN ((l).length + (vs).length)) (b := ?_)
    refine ov 1 [] (a := ksub) (b := ?_)
    have hXt' := (rd_take1 (k := i) (hM.rd 0 rfl))
    refine O.mgrow (A := A) (c := c) (k := i) (m := vs.length + l.length - i) (sz := 1) (olds := (l.take i).map I) (k1 := l.length + vs.length) (xs1 := (l.take i).map I ++ zer [.int .i64 0] (vs.length + l.length - i)) (M' := fun b9_8 c9_8 => [[⟨.slice (bl b9_8) (l.length + vs.length) (c9_8), 3, 1, l.length + vs.length, (l.take i).map I ++ zer [.int .i64 0] (vs.length + l.length - i)⟩], [⟨.slice (A) ((l).length) (c), 3, 1, ((l).length), (l).map I⟩], [⟨.slice (V) ((vs).length) (vc), 3, 1, ((vs).length), (vs).map I⟩]]) hM rfl Tryz.underlying30 Tryz.underlying3 el3 ⟨rfl, by decide⟩ rfl rfl (by omega) rfl hXt' hXtl (by omega) (by omega) (by omega) (by omega) (by omega) rfl (fun _ _ => rfl) (fun w9_8 b9_8 c9_8 hb9_8 hc9_8 hM9_8 => ?_)
    try dsimp only at hM9_8
    have hcp10_2 := hM9_8.cap 0 rfl
    refine ov 6 [] (s := Vl (if c9_8 = i then bl b9_8 else ofs (bl b9_8) (i * 1)) ((l.length + vs.length) - i) (c9_8 - i)) (a := by exact cv (Ru.lsliceFrom (l := i) Tryz.underlying30 el3 rfl rfl (by omega) (by omega)) rfl) (b := ?_)
    refine go 1 [] ?_
    refine O.mcopy (i := 0) (k := i * 1) (news := (vs).map I) (xs' := spl ((l.take i).map I ++ zer [.int .i64 0] (vs.length + l.length - i)) (i * 1) ((vs).map I)) hM9_8 rfl rfl Tryz.underlying30 el3 rfl rfl rfl rfl (fun h0 => if_neg (by omega)) (hM9_8.rd 2 rfl) (by rw [hVl]; congr 1; first | omega | (simp only [List.length_drop, List.length_take]; omega)) (by rw [List.length_append, hXtl, hZl, hVl, ← Nat.add_mul, ← Nat.add_mul]; exact Nat.mul_le_mul_right _ (by omega)) (all_map_one (fun _ => rfl) _) rfl rfl (fun w10_4 (hM10_4 : Mem w w10_4 [(Value.slice (A) ((l).length) (c)).ownBlock, (Value.slice (V) ((vs).length) (vc)).ownBlock] [[⟨.slice (bl b9_8) (l.length + vs.length) (c9_8), 3, 1, l.length + vs.length, spl ((l.take i).map I ++ zer [.int .i64 0] (vs.length + l.length - i)) (i * 1) ((vs).map I)⟩], [⟨.slice (A) ((l).length) (c), 3, 1, ((l).length), (l).map I⟩], [⟨.slice (V) ((vs).length) (vc), 3, 1, ((vs).length), (vs).map I⟩]]) => ?_)
    refine any 2 [] 9 [1, 2] fun w11a hM11a => ?_
    refine av [0, 1, 2] [] 3 (a := by exact fun _ hw2 => kaddN (i + (vs).length)) (b := ?_)
    have hcp11_4 := hM11a.cap 0 rfl
    refine av [] [] 4 (s := Vl (if c9_8 = (i + (vs).length) then bl b9_8 else ofs (bl b9_8) ((i + (vs).length) * 1)) ((l.length + vs.length) - (i + (vs).length)) (c9_8 - (i + (vs).length))) (a := by exact fun w2 hw2 => cv (Ru.lsliceFrom (l := (i + (vs).length)) Tryz.underlying30 el3 rfl rfl (by omega) (by omega)) rfl) (b := ?_)
    have hcp11_7 := hM11a.cap 1 rfl
    refine av [5, 6] [] 7 (s := Vl (if c = i then A else ofs (A) (i * 1)) (((l).drop (i)).length) (c - i)) (a := by exact fun w2 hw2 => cv (Ru.congr (v := .slice (if c = i then A else ofs (A) (i * 1)) (((l).length) - i) (c - i)) (v' := .slice (if c = i then A else ofs (A) (i * 1)) (((l).drop (i)).length) (c - i)) (Ru.lsliceFrom (l := i) Tryz.underlying30 el3 rfl rfl (by omega) (by omega)) (sl_congr (by first | rfl | (simp; done) | omega | (simp; omega)))) rfl) (b := ?_)
    refine aO [] [] 8 ?_
    have hsl : (spl ((l.take i).map I ++ zer [.int .i64 0] (vs.length + l.length - i)) (i * 1) ((vs).map I)).length = (l.length + vs.length) * 1 := by rw [spl_length (by rw [List.length_append, hXtl, hZl, hVl, ← Nat.add_mul, ← Nat.add_mul]; exact Nat.mul_le_mul_right _ (by omega)), List.length_append, hXtl, hZl, ← Nat.add_mul]; congr 1; omega
    have hcp := hM11a.cap 1 rfl
    refine O.mcopy (i := 0) (k := (i + vs.length) * 1) (news := (l.drop i).map I) (xs' := (l.take i ++ (vs ++ l.drop i)).map I) hM11a rfl rfl Tryz.underlying30 el3 rfl rfl rfl rfl (fun h0 => if_neg (by omega)) (rd_drop1 (hM11a.rd 1 rfl) hin (by omega)) (by rw [hXdl]; congr 1; first | omega | (simp only [List.length_drop, List.length_take]; omega)) (by rw [hXdl, hsl, ← Nat.add_mul]; exact Nat.mul_le_mul_right _ (by omega)) (all_map_one (fun _ => rfl) _) (by rw [hres, hXd, hXt, Nat.add_mul, ← hVl]; exact grow_cells (by rw [hXl]; exact Nat.mul_le_mul_right _ hin) (by rw [hZl, hVl, hXl, ← Nat.sub_mul, ← Nat.add_mul]; congr 1; omega)) rfl (fun w11_8 (hM11_8 : Mem w w11_8 [(Value.slice (A) ((l).length) (c)).ownBlock, (Value.slice (V) ((vs).length) (vc)).ownBlock] [[⟨.slice (bl b9_8) (l.length + vs.length) (c9_8), 3, 1, (l.length + vs.length), (l.take i ++ (vs ++ l.drop i)).map I⟩], [⟨.slice (A) ((l).length) (c), 3, 1, ((l).length), (l).map I⟩], [⟨.slice (V) ((vs).length) (vc), 3, 1, ((vs).length), (vs).map I⟩]]) => ?_)
    refine os 0 [] [1, 2] ?_
    refine an [] [] ?_
    refine E1 6 [] (.slice (bl b9_8) (l.length + vs.length) (c9_8)) ?_
    have hMe : Mem w w11_8 [(Value.slice (A) ((l).length) (c)).ownBlock, (Value.slice (V) ((vs).length) (vc)).ownBlock] [[⟨.slice (bl b9_8) ((l.take i ++ (vs ++ l.drop i)).length) (c9_8), 3, 1, ((l.take i ++ (vs ++ l.drop i)).length), (l.take i ++ (vs ++ l.drop i)).map I⟩], [⟨.slice (A) ((l).length) (c), 3, 1, ((l).length), (l).map I⟩], [⟨.slice (V) ((vs).length) (vc), 3, 1, ((vs).length), (vs).map I⟩]] := hM11_8.relen 0 (n' := (l.take i ++ (vs ++ l.drop i)).length) (xs' := (l.take i ++ (vs ++ l.drop i)).map I) rfl (by simp; omega) rfl rfl
    exact ⟨bl b9_8, c9_8, sl_congr (by simp; omega), hMe.pick [0] (by decide) rfl⟩
  refine ov 6 [] (a := kaddN ((l).length + (vs).length)) (b := ?_)
  have hcp := hM.cap 0 rfl
  have hAs : A.isSome = true := (by cases l with | nil => exfalso; simp only [List.length_nil] at *; omega | cons a l => exact (smm (k := 0) (hM.rd 0 rfl) (by simp)))
  obtain ⟨ys, hys, hMx⟩ := Mem.extend (k := vs.length) hM (i := 0) rfl (by omega) (fun _ => hAs)
  replace hMx : Mem w w [(Value.slice (A) ((l).length) (c)).ownBlock, (Value.slice (V) ((vs).length) (vc)).ownBlock] [[⟨.slice (A) (l.length + vs.length) (c), 3, 1, l.length + vs.length, (l).map I ++ ys⟩], [⟨.slice (V) ((vs).length) (vc), 3, 1, ((vs).length), (vs).map I⟩]] := hMx
  refine ov 0 [] (s := Vl (A) (l.length + vs.length) (c)) (a := by exact cv (Ru.congr (Ru.lsliceTo (h := l.length + vs.length) Tryz.underlying30 el3 rfl rfl (by omega) (by omega)) rfl) rfl) (b := ?_)
  refine ov 9 [] (a := kaddN (i + (vs).length)) (b := ?_)
  have hcp14_5 := hMx.cap 0 rfl
  refine ov 0 [] (s := Vl (if c = (i + (vs).length) then A else ofs (A) ((i + (vs).length) * 1)) ((l.length + vs.length) - (i + (vs).length)) (c - (i + (vs).length))) (a := by exact cv (Ru.lsliceFrom (l := (i + (vs).length)) Tryz.underlying30 el3 rfl rfl (by omega) (by omega)) rfl) (b := ?_)
  refine ov 0 [] (s := Vb (false)) (a := by exact cv (Ru.extern (vs := [.slice V vs.length vc, .slice (if c = i + vs.length then A else ofs A ((i + vs.length) * 1)) (l.length + vs.length - (i + vs.length)) (c - (i + vs.length))]) rfl ((run_callFunc_extern Tryz.func121 (by kernel_rfl) (by kernel_rfl) (by kernel_rfl) (e := Extern.SlicesOverlaps.overlaps #[30, 30] #[4]) (by kernel_rfl) _ _).trans (by rw [overlaps_own (i := 1) (j := 0) (k := (i + vs.length) * 1) hMx (by decide) rfl rfl Tryz.underlying30 el3 (by omega) (by decide) _ (if_neg (by omega))]; rfl))) rfl) (b := ?_)
  refine any 4 [] 9 [1] fun w15a hM15a => ?_
  refine av [0, 1, 2] [] 3 (a := by exact fun _ hw2 => kaddN (i + (vs).length)) (b := ?_)
  have hcp15_4 := hM15a.cap 0 rfl
  refine av [] [] 4 (s := Vl (if c = (i + (vs).length) then A else ofs (A) ((i + (vs).length) * 1)) ((l.length + vs.length) - (i + (vs).length)) (c - (i + (vs).length))) (a := by exact fun w2 hw2 => cv (Ru.lsliceFrom (l := (i + (vs).length)) Tryz.underlying30 el3 rfl rfl (by omega) (by omega)) rfl) (b := ?_)
  have hcp15_7 := hM15a.cap 0 rfl
  refine av [5, 6] [] 7 (s := Vl (if c = i then A else ofs (A) (i * 1)) ((l.length + vs.length) - i) (c - i)) (a := by exact fun w2 hw2 => cv (Ru.lsliceFrom (l := i) Tryz.underlying30 el3 rfl rfl (by omega) (by omega)) rfl) (b := ?_)
  refine aO [] [] 8 ?_
  have hRl := Rd.left (hM15a.rd 0 rfl)
  refine O.mcopy (i := 0) (k := i * 1 + ((vs).map I).length) (news := (l.drop i).map I) (xs' := spl ((l).map I ++ ys) (i * 1 + ((vs).map I).length) ((l.drop i).map I)) hM15a rfl rfl Tryz.underlying30 el3 rfl rfl rfl rfl (fun h0 => (by rw [if_neg (by omega), hVl, ← Nat.add_mul])) (rd_drop1 hRl hin (by omega)) (by rw [hXdl]; congr 1; first | omega | (simp only [List.length_drop, List.length_take]; omega)) (by rw [hXdl, List.length_append, hXl, hVl, hys, ← Nat.add_mul, ← Nat.add_mul, ← Nat.add_mul]; exact Nat.mul_le_mul_right _ (by omega)) (all_map_one (fun _ => rfl) _) rfl rfl (fun w15_8 (hM15_8 : Mem w w15_8 [(Value.slice (A) ((l).length) (c)).ownBlock, (Value.slice (V) ((vs).length) (vc)).ownBlock] [[⟨.slice (A) (l.length + vs.length) (c), 3, 1, l.length + vs.length, spl ((l).map I ++ ys) (i * 1 + ((vs).map I).length) ((l.drop i).map I)⟩], [⟨.slice (V) ((vs).length) (vc), 3, 1, ((vs).length), (vs).map I⟩]]) => ?_)
  refine os 0 [] [1] ?_
  refine an [] [] ?_
  have hcp16_2 := hM15_8.cap 0 rfl
  refine ov 4 [] (s := Vl (if c = i then A else ofs (A) (i * 1)) ((l.length + vs.length) - i) (c - i)) (a := by exact cv (Ru.lsliceFrom (l := i) Tryz.underlying30 el3 rfl rfl (by omega) (by omega)) rfl) (b := ?_)
  refine go 1 [] ?_
  refine O.mcopy (i := 0) (k := i * 1) (news := (vs).map I) (xs' := (l.take i ++ (vs ++ l.drop i)).map I) hM15_8 rfl rfl Tryz.underlying30 el3 rfl rfl rfl rfl (fun h0 => if_neg (by omega)) (hM15_8.rd 1 rfl) (by rw [hVl]; congr 1; first | omega | (simp only [List.length_drop, List.length_take]; omega)) (by rw [spl_length (by rw [hXdl, List.length_append, hXl, hVl, hys, ← Nat.add_mul, ← Nat.add_mul, ← Nat.add_mul]; exact Nat.mul_le_mul_right _ (by omega)), List.length_append, hXl, hVl, hys, ← Nat.add_mul, ← Nat.add_mul]; exact Nat.mul_le_mul_right _ (by omega)) (all_map_one (fun _ => rfl) _) (by rw [hres, hXd]; exact ins_cells (by rw [hXl]; exact Nat.mul_le_mul_right _ hin) (by rw [hys, hVl])) rfl (fun w16_4 (hM16_4 : Mem w w16_4 [(Value.slice (A) ((l).length) (c)).ownBlock, (Value.slice (V) ((vs).length) (vc)).ownBlock] [[⟨.slice (A) (l.length + vs.length) (c), 3, 1, (l.length + vs.length), (l.take i ++ (vs ++ l.drop i)).map I⟩], [⟨.slice (V) ((vs).length) (vc), 3, 1, ((vs).length), (vs).map I⟩]]) => ?_)
  refine E1 7 [] (.slice (A) (l.length + vs.length) (c)) ?_
  have hMe : Mem w w16_4 [(Value.slice (A) ((l).length) (c)).ownBlock, (Value.slice (V) ((vs).length) (vc)).ownBlock] [[⟨.slice (A) ((l.take i ++ (vs ++ l.drop i)).length) (c), 3, 1, ((l.take i ++ (vs ++ l.drop i)).length), (l.take i ++ (vs ++ l.drop i)).map I⟩], [⟨.slice (V) ((vs).length) (vc), 3, 1, ((vs).length), (vs).map I⟩]] := hM16_4.relen 0 (n' := (l.take i ++ (vs ++ l.drop i)).length) (xs' := (l.take i ++ (vs ++ l.drop i)).map I) rfl (by simp; omega) rfl rfl
  exact ⟨A, c, sl_congr (by simp; omega), hMe.pick [0] (by decide) rfl⟩
theorem search_fn (n : Nat) (F : FuncId) (caps : List Value) (p : Nat → Bool) (w : World) (hen : Enters Tryz.prog F) (hf : ∀ t, t < n → ∀ w1, Mem w w1 [] [] → Does Tryz.prog F (I (t : Nat) :: caps) w1 (fun v w2 => v = .bool (p t) ∧ Mem w1 w2 [] [])) (hm : ∀ a b, a ≤ b → b < n → p a = true → p b = true) (hn : n ≤ 1048576) :
    Does Tryz.prog 153 [I (((n : Nat) : Int)), (.func (.func F) #[] caps.toArray)] w (fun v w1 => ∃ (k : Nat), v = I (((k : Nat) : Int)) ∧ (k ≤ n) ∧ (∀ t, t < k → p t = false) ∧ (∀ t, k ≤ t → t < n → p t = true) ∧ Mem w w1 [] []) := by
  have hM : Mem w w [] [] := Mem.refl
  refine Does.n1 Tryz.func153 rfl Tryz.results153 Tryz.ntmps153 rfl ?_
  refine lp2 12 [] (fun (i : Nat) (j : Nat) => ([(5, Vi (((i : Nat) : Int))), (6, Vi (((j : Nat) : Int)))] : List (Nat × SV))) (fun (i : Nat) (j : Nat) => (i ≤ j ∧ j ≤ n) ∧ (∀ t, t < i → p t = false) ∧ (∀ t, j ≤ t → t < n → p t = true)) (fun (i : Nat) (j : Nat) => []) (fun (i : Nat) (j : Nat) => j - i) [1] [] [] 0 n (fun i j σ w_l2 hI hM_l2 => ?_) (h0 := ⟨(by (try dsimp only); omega), (by (try dsimp only); omega), (by (try dsimp only); omega)⟩)
  obtain ⟨hi0_l2, hi1_l2, hi2_l2⟩ := hI
  refine cd 7 [] (fun c11 => ?_) (fun c11 => ?_)
  · refine ov 6 [] (a := kaddN (i + j)) (b := ?_)
    refine ov 0 [] (s := Vn .u64 ((((i + j) : Nat) : Int))) (a := by exact cv (Ru.conv64 Tryz.underlying3 Tryz.underlying176 rfl (by omega)) rfl) (b := ?_)
    refine ov 0 [] (s := Vn .u64 ((((i + j) / 2 : Nat) : Int))) (a := by exact cv (Ru.congr (v := .int .u64 (((((i + j) : Nat) : Int) / 2))) (v' := .int .u64 ((((i + j) / 2 : Nat) : Int))) (Ru.half rfl rfl (by omega)) (by first | rfl | (congr 1; done) | (congr 1; omega))) rfl) (b := ?_)
    refine ov 0 [] (s := Vi ((((i + j) / 2 : Nat) : Int))) (a := by exact cv (Ru.conv64i Tryz.underlying176 Tryz.underlying3 rfl (by omega)) rfl) (b := ?_)
    refine go 6 [] ?_
    refine O.callv [I (((i + j) / 2 : Nat) : Int)] rfl rfl hen rfl rfl (hf ((i + j) / 2) (by omega) w_l2 hM_l2) ?_
    rintro _ w4_2 ⟨rfl, hR4_2⟩
    have hM4_2 : Mem w w4_2 [] [] := Mem.call0 hM_l2 hR4_2
    refine cn 2 [] (fun c21 => ?_) (fun c21 => ?_)
    · refine ov 2 [] (a := kaddN ((i + j) / 2 + 1)) (b := ?_)
      exact le2 2 [] ((i + j) / 2 + 1) j [] (h := by exact ⟨(by (try dsimp only); omega), (mid_search hm (by omega) (by omega) (by simpa using c21) hi1_l2), hi2_l2⟩)
    exact le2 4 [] i ((i + j) / 2) [] (h := by exact ⟨(by (try dsimp only); omega), hi1_l2, (mid_search2 hm (by simpa using c21))⟩)
  refine E1 7 [] (I (((i : Nat) : Int))) ?_
  exact ⟨i, (by first | rfl | exact sl_congr (by first | omega | (simp; done) | (simp; omega)) | (simp; done)), (by omega), hi1_l2, (fun t h1 h2 => hi2_l2 t (by omega) h2), (Mem.none hM_l2)⟩
theorem KeysBelow1_fn (i : Nat) (b1 : Nat) (b2 : Nat) (A : Option Addr) (c : Nat) (l : List Int) (key : Int) (w : World) (h1 : Rd w (bl b1) [.slice A l.length c]) (h2 : Rd w (bl b2) [I key]) (hA : Rd w A (l.map I)) (hi : i < l.length) :
    Does Tryz.prog 155 [I (((i : Nat) : Int)), .pointer (ofs (bl b1) (0)), .pointer (ofs (bl b2) (0))] w (fun v w1 => v = .bool (decide (key ≤ l.getD i 0)) ∧ Mem w w1 [] []) := by
  have hM : Mem w w [] [] := Mem.refl
  refine Does.n1 Tryz.func155 rfl Tryz.results155 Tryz.ntmps155 rfl ?_
  refine dr 5 [] ?_
  refine qv 0 [] (s := Vl (A) (l.length) (c)) (a := by exact fun w2 hw2 => cv (Ru.load1 el30 rfl ((h1.at hw2).ld rfl)) rfl) (b := ?_)
  have hx1_2 : i < (l).length := (by first | omega | (simp; omega))
  refine qv 1 [] (a := by exact fun _ hw2 => kixM hx1_2 (hA.at hw2)) (b := ?_)
  refine qv 0 [] (a := by exact fun _ hw2 => kldM hx1_2 (hA.at hw2)) (b := ?_)
  refine qv 0 [] (s := Vi (key)) (a := by exact fun w2 hw2 => cv (Ru.load1 el3 rfl ((h2.at hw2).ld rfl)) rfl) (b := ?_)
  refine qn 2 [] fun w1d hM1d => ?_
  refine E1 1 [] (.bool (decide ((l)[i]'hx1_2 ≥ key))) ?_
  exact ⟨(by rw [getD_lt hi]), (Mem.none hM1d)⟩
theorem KeysBelow_fn (A : Option Addr) (c : Nat) (l : List Int) (key : Int) (w : World) (hA : Rd w A ((l).map I)) (hl : l.length ≤ 1048576) :
    Does Tryz.prog 118 [.slice (A) ((l).length) (c), I (key)] w (fun v w1 => v = I ((if validK l then (below l key : Int) else -1)) ∧ Mem w w1 [] []) := by
  have hM : Mem w w [] [] := Mem.refl
  refine Does.n1 Tryz.func118 rfl Tryz.results118 Tryz.ntmps118 rfl ?_
  refine Bx 2 [] fun w0_0 b0_0 hb0_0 hM0_0 => ?_
  refine Bx 0 [] fun w0_1 b0_1 hb0_1 hM0_1 => ?_
  refine cp 6 [1] (b := ValidKeys_fn _ _ _ w0_1 (hA.at hM0_1) q0) (c := fun w1_1 hM1_1 => ?_)
  refine cn 2 [] (fun c7 => ?_) (fun c7 => ?_)
  · refine E1 5 [] (I ((-1))) ?_
    exact ⟨(by rw [if_neg (by simp [c7])]), (Mem.none hM1_1)⟩
  refine ov 5 [1] (s := Vr (.func (.func 155) #[] #[.pointer (ofs (bl b0_0) (0)), .pointer (ofs (bl b0_1) (0))])) (a := by exact cv (Ru.mkfun (vs := [.pointer (ofs (bl b0_0) (0)), .pointer (ofs (bl b0_1) (0))]) rfl) rfl) (b := ?_)
  have hbx1 := hM1_1.rd 1 rfl
  have hbx2 := hM1_1.rd 0 rfl
  have hv : validK l = true := by simpa using c7
  have hAn := hA.at hM1_1
  refine O.callg [I (l.length : Int), .func (.func 155) #[] #[.pointer (ofs (bl b0_0) 0), .pointer (ofs (bl b0_1) 0)]] rfl en153 rfl rfl (search_fn l.length 155 [.pointer (ofs (bl b0_0) 0), .pointer (ofs (bl b0_1) 0)] (fun t => decide (key ≤ l.getD t 0)) w1_1 en155 (fun t ht w1 hw1 => KeysBelow1_fn t b0_0 b0_1 A c l key w1 (hbx1.at hw1) (hbx2.at hw1) (hAn.at hw1) ht) (fun a b hab hb hp => ?_) hl) ?_
  · have h2 := asc_lt (validK_iff.1 hv).2; simp only [decide_eq_true_eq] at hp ⊢; rw [getD_lt (by omega)] at hp ⊢; rcases Nat.eq_or_lt_of_le hab with h3 | h3 <;> first | (subst h3; exact hp) | (have := h2 a b h3 hb; omega)
  rintro _ w3_3 ⟨k3_3, rfl, hk3_3, hlt3_3, hge3_3, hR3_3⟩
  have hM3_3 : Mem w w3_3 [] [[⟨.slice (bl b0_1) 1 1, 3, 1, 1, [I (key)]⟩], [⟨.slice (bl b0_0) 1 1, 30, 1, 1, [.slice (A) ((l).length) (c)]⟩]] := Mem.call0 hM1_1 hR3_3
  refine E1 3 [] (I (((k3_3 : Nat) : Int))) ?_
  exact ⟨(by rw [if_pos hv, search_below hk3_3 (fun t ht => by have := hlt3_3 t ht; rw [getD_lt (show t < l.length by omega)] at this; simpa using this) (fun t h1 h2 => by have := hge3_3 t h1 h2; rw [getD_lt h2] at this; simpa using this)]), (Mem.none hM3_3)⟩
theorem KeysUpTo1_fn (i : Nat) (b1 : Nat) (b2 : Nat) (A : Option Addr) (c : Nat) (l : List Int) (key : Int) (w : World) (h1 : Rd w (bl b1) [.slice A l.length c]) (h2 : Rd w (bl b2) [I key]) (hA : Rd w A (l.map I)) (hi : i < l.length) :
    Does Tryz.prog 154 [I (((i : Nat) : Int)), .pointer (ofs (bl b1) (0)), .pointer (ofs (bl b2) (0))] w (fun v w1 => v = .bool (decide (key < l.getD i 0)) ∧ Mem w w1 [] []) := by
  have hM : Mem w w [] [] := Mem.refl
  refine Does.n1 Tryz.func154 rfl Tryz.results154 Tryz.ntmps154 rfl ?_
  refine dr 5 [] ?_
  refine qv 0 [] (s := Vl (A) (l.length) (c)) (a := by exact fun w2 hw2 => cv (Ru.load1 el30 rfl ((h1.at hw2).ld rfl)) rfl) (b := ?_)
  have hx1_2 : i < (l).length := (by first | omega | (simp; omega))
  refine qv 1 [] (a := by exact fun _ hw2 => kixM hx1_2 (hA.at hw2)) (b := ?_)
  refine qv 0 [] (a := by exact fun _ hw2 => kldM hx1_2 (hA.at hw2)) (b := ?_)
  refine qv 0 [] (s := Vi (key)) (a := by exact fun w2 hw2 => cv (Ru.load1 el3 rfl ((h2.at hw2).ld rfl)) rfl) (b := ?_)
  refine qn 2 [] fun w1d hM1d => ?_
  refine E1 1 [] (.bool (decide ((l)[i]'hx1_2 > key))) ?_
  exact ⟨(by rw [getD_lt hi]), (Mem.none hM1d)⟩
theorem KeysUpTo_fn (A : Option Addr) (c : Nat) (l : List Int) (key : Int) (w : World) (hA : Rd w A ((l).map I)) (hl : l.length ≤ 1048576) :
    Does Tryz.prog 117 [.slice (A) ((l).length) (c), I (key)] w (fun v w1 => v = I ((if validK l then (upTo l key : Int) else -1)) ∧ Mem w w1 [] []) := by
  have hM : Mem w w [] [] := Mem.refl
  refine Does.n1 Tryz.func117 rfl Tryz.results117 Tryz.ntmps117 rfl ?_
  refine Bx 2 [] fun w0_0 b0_0 hb0_0 hM0_0 => ?_
  refine Bx 0 [] fun w0_1 b0_1 hb0_1 hM0_1 => ?_
  refine cp 6 [1] (b := ValidKeys_fn _ _ _ w0_1 (hA.at hM0_1) q0) (c := fun w1_1 hM1_1 => ?_)
  refine cn 2 [] (fun c7 => ?_) (fun c7 => ?_)
  · refine E1 5 [] (I ((-1))) ?_
    exact ⟨(by rw [if_neg (by simp [c7])]), (Mem.none hM1_1)⟩
  refine ov 5 [1] (s := Vr (.func (.func 154) #[] #[.pointer (ofs (bl b0_0) (0)), .pointer (ofs (bl b0_1) (0))])) (a := by exact cv (Ru.mkfun (vs := [.pointer (ofs (bl b0_0) (0)), .pointer (ofs (bl b0_1) (0))]) rfl) rfl) (b := ?_)
  have hbx1 := hM1_1.rd 1 rfl
  have hbx2 := hM1_1.rd 0 rfl
  have hv : validK l = true := by simpa using c7
  have hAn := hA.at hM1_1
  refine O.callg [I (l.length : Int), .func (.func 154) #[] #[.pointer (ofs (bl b0_0) 0), .pointer (ofs (bl b0_1) 0)]] rfl en153 rfl rfl (search_fn l.length 154 [.pointer (ofs (bl b0_0) 0), .pointer (ofs (bl b0_1) 0)] (fun t => decide (key < l.getD t 0)) w1_1 en154 (fun t ht w1 hw1 => KeysUpTo1_fn t b0_0 b0_1 A c l key w1 (hbx1.at hw1) (hbx2.at hw1) (hAn.at hw1) ht) (fun a b hab hb hp => ?_) hl) ?_
  · have h2 := asc_lt (validK_iff.1 hv).2; simp only [decide_eq_true_eq] at hp ⊢; rw [getD_lt (by omega)] at hp ⊢; rcases Nat.eq_or_lt_of_le hab with h3 | h3 <;> first | (subst h3; exact hp) | (have := h2 a b h3 hb; omega)
  rintro _ w3_3 ⟨k3_3, rfl, hk3_3, hlt3_3, hge3_3, hR3_3⟩
  have hM3_3 : Mem w w3_3 [] [[⟨.slice (bl b0_1) 1 1, 3, 1, 1, [I (key)]⟩], [⟨.slice (bl b0_0) 1 1, 30, 1, 1, [.slice (A) ((l).length) (c)]⟩]] := Mem.call0 hM1_1 hR3_3
  refine E1 3 [] (I (((k3_3 : Nat) : Int))) ?_
  exact ⟨(by rw [if_pos hv, search_upTo hk3_3 (fun t ht => by have := hlt3_3 t ht; rw [getD_lt (show t < l.length by omega)] at this; simpa using this) (fun t h1 h2 => by have := hge3_3 t h1 h2; rw [getD_lt h2] at this; simpa using this)]), (Mem.none hM3_3)⟩
theorem ValidRow_fn (A : Option Addr) (c : Nat) (l : List PairT) (w : World) (hA : Rd w A ((l).flatMap encP)) (hl : l.length ≤ 1048576) :
    Does Tryz.prog 54 [.slice (A) ((l).length) (c)] w (fun v w1 => v = .bool (validR l) ∧ Mem w w1 [] []) := by
  have hM : Mem w w [] [] := Mem.refl
  refine Does.n1 Tryz.func54 rfl Tryz.results54 Tryz.ntmps54 rfl ?_
  refine cd 11 [] (fun c7 => ?_) (fun c7 => ?_)
  · refine E1 5 [] (.bool (false)) ?_
    exact ⟨(by simp [validR]; omega), (Mem.none hM)⟩
  refine lp1 9 [] (fun (k : Nat) => ([(10, Vi (((k : Nat) : Int)))] : List (Nat × SV))) (fun (k : Nat) => (k ≤ l.length) ∧ ((l.take k).all (fun p => isValB p.val) = true)) (fun (k : Nat) => []) (fun (k : Nat) => l.length - k) [0, 8, 9] [] [] 0 (fun k σ w_l4 hI hM_l4 => ?_) (h0 := ⟨(Nat.zero_le _), (by (try dsimp only); simp)⟩)
  obtain ⟨hi0_l4, hi1_l4⟩ := hI
  refine cd 5 [] (fun c11 => ?_) (fun c11 => ?_)
  · have hx5_0 : k < (l).length := (by first | omega | (simp; omega))
    refine ov 5 [] (a := kixF hx5_0 (hA.at hM_l4)) (b := ?_)
    refine ov 0 [] (a := kldN hx5_0 (hA.at hM_l4)) (b := ?_)
    refine Al 0 [] fun w5_2 b5_2 hb5_2 hM5_2 => ?_
    refine Sb 0 [] 0 fun w5_3 hM5_3 => ?_
    refine cp 5 [0] (b := isValue_fn _ w5_3 ) (c := fun w6_2 hM6_2 => ?_)
    refine cn 2 [] (fun c17 => ?_) (fun c17 => ?_)
    · refine E1 5 [] (.bool (false)) ?_
      exact ⟨(by rw [validR_no hx5_0 c17]), (Mem.none hM6_2)⟩
    refine ov 2 [] (a := kaddN (k + 1)) (b := ?_)
    exact le1 2 [] (k + 1) [] (h := by exact ⟨(by (try dsimp only); omega), (all_step hi1_l4 hx5_0 c17)⟩)
  refine cq 4 [] (b := keysOfRow_fn _ _ _ w_l4 (hA.at hM_l4) q0) (c := ?_)
  rintro _ w9_1 ⟨A19_1, c19_1, rfl, hR9_1⟩
  have hM9_1 := hM_l4.cl 0 hR9_1
  have hcr9_1_0 := (hM9_1.cap 0 rfl).1
  refine cp 0 [] (b := ValidKeys_fn _ _ _ w9_1 (hM9_1.rd 0 rfl) q0) (c := fun w9_2 hM9_2 => ?_)
  refine E1 3 [] (.bool (validK (keysP l))) ?_
  exact ⟨(by rw [validR, all_end hi1_l4 (by omega), decide_eq_true (by omega)]; simp), (Mem.none hM9_2)⟩
theorem validRow_fn (A : Option Addr) (c : Nat) (l : List PairT) (w : World) (hA : Rd w A ((l).flatMap encP)) (hl : l.length ≤ 1048576) :
    Does Tryz.prog 85 [.slice (A) ((l).length) (c)] w (fun v w1 => v = .bool (validR l) ∧ Mem w w1 [] []) := by
  have hM : Mem w w [] [] := Mem.refl
  refine Does.n1 Tryz.func85 rfl Tryz.results85 Tryz.ntmps85 rfl ?_
  refine lp1 10 [] (fun (k : Nat) => ([(3, Vi (((k : Nat) : Int)))] : List (Nat × SV))) (fun (k : Nat) => (k ≤ l.length) ∧ ((l.take k).all (fun p => isValB p.val) = true)) (fun (k : Nat) => []) (fun (k : Nat) => l.length - k) [0] [] [] 0 (fun k σ w_l2 hI hM_l2 => ?_) (h0 := ⟨(Nat.zero_le _), (by (try dsimp only); simp)⟩)
  obtain ⟨hi0_l2, hi1_l2⟩ := hI
  refine cd 8 [] (fun c7 => ?_) (fun c7 => ?_)
  · have hx4_2 : k < (l).length := (by first | omega | (simp; omega))
    refine ov 7 [] (a := kixF hx4_2 (hA.at hM_l2)) (b := ?_)
    refine ov 0 [] (a := kflF hx4_2 (hA.at hM_l2)) (b := ?_)
    refine ov 0 [] (a := kldF hx4_2 (hA.at hM_l2)) (b := ?_)
    refine cp 0 [] (b := inRange_fn _ _ _ w_l2 ) (c := fun w4_5 hM4_5 => ?_)
    refine cn 2 [] (fun c16 => ?_) (fun c16 => ?_)
    · refine E1 5 [] (.bool (false)) ?_
      exact ⟨(by rw [validR_no hx4_2 c16]), (Mem.none hM4_5)⟩
    refine ov 3 [] (a := kaddN (k + 1)) (b := ?_)
    exact le1 2 [] (k + 1) [] (h := by exact ⟨(by (try dsimp only); omega), (all_step hi1_l2 hx4_2 c16)⟩)
  refine pp 7 [] 20 (fun g20 => ?_) (fun g20 => ?_)
  · refine cq 1 [] (b := skeysOf_fn _ _ _ w_l2 (hA.at hM_l2) q0) (c := ?_)
    rintro _ w6_5 ⟨A16_5, c16_5, rfl, hR6_5⟩
    have hM6_5 := hM_l2.cl 0 hR6_5
    have hcr6_5_0 := (hM6_5.cap 0 rfl).1
    refine cp 0 [] (b := validKeys_fn _ _ _ w6_5 (hM6_5.rd 0 rfl) q0) (c := fun w6_6 hM6_6 => ?_)
    refine E1 4 [] (.bool (validK (keysP l))) ?_
    exact ⟨(by first | (rw [validR, all_end hi1_l2 (by omega), decide_eq_true (by omega)]; simp; done) | (rw [validR, decide_eq_false (by omega)]; simp)), (Mem.none hM6_6)⟩
  refine E1 7 [] (.bool (false)) ?_
  exact ⟨(by first | (rw [validR, all_end hi1_l2 (by omega), decide_eq_true (by omega)]; simp; done) | (rw [validR, decide_eq_false (by omega)]; simp)), (Mem.none hM_l2)⟩
theorem placeInRow_fn (A : Option Addr) (c : Nat) (l : List PairT) (k : Int) (w : World) (hA : Rd w A ((l).flatMap encP)) (hl : l.length ≤ 1048576) (hv : validK (keysP l) = true) :
    Does Tryz.prog 78 [.slice (A) ((l).length) (c), I (k)] w (fun v w1 => v = .tuple #[I ((plc l k : Int)), .bool (isInB l k)] ∧ Mem w w1 [] []) := by
  have hM : Mem w w [] [] := Mem.refl
  refine Does.n2 Tryz.func78 rfl Tryz.results78 Tryz.ntmps78 rfl ?_
  refine cq 8 [] (b := keysOfRow_fn _ _ _ w (hA.at hM) q0) (c := ?_)
  rintro _ w1_1 ⟨A11_1, c11_1, rfl, hR1_1⟩
  have hM1_1 := hM.cl 0 hR1_1
  have hcr1_1_0 := (hM1_1.cap 0 rfl).1
  refine cp 1 [] (b := KeysBelow_fn _ _ _ _ w1_1 (hM1_1.rd 0 rfl) q0) (c := fun w1_3 hM1_3 => ?_)
  have hpl := plc_le l k
  have hifv : (if validK (keysP l) then (below (keysP l) k : Int) else -1) = (plc l k : Int) := by rw [if_pos hv]; rfl
  have hasc := (validK_iff.1 hv).2
  refine ov 0 [] (s := Vi ((plc l k : Int))) (a := by exact cv (Ru.congr (v := I ((if validK (keysP l) then (below (keysP l) k : Int) else -1))) (v' := I ((plc l k : Int))) (Ru.assign rfl) (congrArg _ hifv)) rfl) (b := ?_)
  refine dr 2 [] ?_
  refine qp 4 [] 14 (fun g14 => ?_) (fun g14 => ?_)
  · refine qp 6 [] 20 (fun g20 => ?_) (fun g20 => ?_)
    · have hx2_12 : plc l k < (l).length := (by first | omega | (simp; omega))
      refine qv 2 [] (a := by exact fun _ hw2 => kixF hx2_12 (hA.at hw2)) (b := ?_)
      refine qv 0 [] (a := by exact fun _ hw2 => kflF hx2_12 (hA.at hw2)) (b := ?_)
      refine qv 0 [] (a := by exact fun _ hw2 => kldF hx2_12 (hA.at hw2)) (b := ?_)
      refine qn 5 [] fun w2d hM2d => ?_
      refine E2 1 [] (I ((plc l k : Int))) (.bool (decide (((l)[plc l k]'hx2_12).key = k))) ?_
      exact ⟨(by first | (rw [← isIn_dec hasc hx2_12]; done) | (rw [isIn_out hasc (by omega)]; done) | (exfalso; omega)), (Mem.none hM2d)⟩
    refine qn 10 [] fun w2d hM2d => ?_
    refine E2 1 [] (I ((plc l k : Int))) (.bool (false)) ?_
    exact ⟨(by first | (rw [← isIn_dec hasc hx2_12]; done) | (rw [isIn_out hasc (by omega)]; done) | (exfalso; omega)), (Mem.none hM2d)⟩
  refine qn 16 [] fun w2d hM2d => ?_
  refine E2 1 [] (I ((plc l k : Int))) (.bool (false)) ?_
  exact ⟨(by first | (rw [← isIn_dec hasc hx2_12]; done) | (rw [isIn_out hasc (by omega)]; done) | (exfalso; omega)), (Mem.none hM2d)⟩
theorem putInRow_fn (A : Option Addr) (c : Nat) (l : List PairT) (x : PairT) (w : World) (hA : Rd w A ((l).flatMap encP)) (hl : l.length ≤ 1048576) (hv : validK (keysP l) = true) :
    Does Tryz.prog 34 [.slice (A) ((l).length) (c), .agg #[I ((x).key), I ((x).val)]] w (fun v w1 => ∃ (A1 : Option Addr) (c1 : Nat), v = .slice (A1) ((putP l x).length) (c1) ∧ Mem w w1 [] [[⟨.slice (A1) ((putP l x).length) (c1), 27, 2, ((putP l x).length), (putP l x).flatMap encP⟩]]) := by
  have hM : Mem w w [] [] := Mem.refl
  refine Does.n1 Tryz.func34 rfl Tryz.results34 Tryz.ntmps34 rfl ?_
  refine Bx 2 [] fun w0_0 b0_0 hb0_0 hM0_0 => ?_
  refine cp 7 [0] (b := placeInRow_fn _ _ _ _ w0_0 (hA.at hM0_0) q0 q0) (c := fun w1_3 hM1_3 => ?_)
  have hasc := (validK_iff.1 hv).2
  have hpl := plc_le l x.key
  refine cq 9 [] (b := ClonePair_fn _ _ _ w1_3 (hA.at hM1_3) q0) (c := ?_)
  rintro _ w2_1 ⟨A12_1, c12_1, rfl, hR2_1⟩
  have hM2_1 := hM1_3.cl 0 hR2_1
  have hcr2_1_0 := (hM2_1.cap 0 rfl).1
  refine cb 7 [] (fun c17 => ?_) (fun c17 => ?_)
  · obtain ⟨hpb, hpk⟩ := (isIn_at hasc).1 c17
    have hx4_3 : plc l ((x).key) < (l).length := (by first | omega | (simp; omega))
    refine ov 5 [1] (a := kixF hx4_3 (hM2_1.rd 0 rfl)) (b := ?_)
    refine sF 0 [] 0 x hx4_3 fun w4_4 hM4_4 => ?_
    refine E1 7 [] (.slice (A12_1) ((l).length) (c12_1)) ?_
    have hq1 : ((l).set (plc l ((x).key)) x : List PairT) = putP l x := (put_in c17 hpb)
    have hMn1 := hM4_4.reF 0 hq1
    exact ⟨A12_1, c12_1, (sl_congr (by rw [← put_in c17 hpb]; simp)), (hMn1.pk [0])⟩
  refine Lt 6 [1] (([x]).flatMap encP) (fun w6_3 b6_3 hb6_3 hM6_3 => ?_)
  have hMf6_4 := hM6_3.pk [1, 0, 2]
  refine cq 0 [] (vs := [.slice (A12_1) ((l).length) (c12_1), I ((plc l ((x).key) : Int)), .slice (bl b6_3) (([x]).length) (1)]) (hvs := (by first | rfl | (rw [show ([x]).length = 1 from (by first | rfl | (simp; done) | omega | (simp; omega))]; rfl))) (b := InsertPair_fn _ _ _ (plc l ((x).key)) (bl b6_3) 1 [x] w6_3 (hMf6_4.fp [0, 1] rfl rfl) (by first | omega | (simp; done) | (simp; omega)) (by first | omega | (simp; done) | (simp; omega)) (by first | omega | (simp; done) | (simp; omega)) (by first | omega | (simp; done) | (simp; omega))) (c := ?_)
  rintro _ w6_4 ⟨A16_4, c16_4, rfl, hR6_4⟩
  have hM6_4 := hMf6_4.cl 2 hR6_4
  have hcr6_4_0 := (hM6_4.cap 0 rfl).1
  refine E1 3 [] (.slice (A16_4) ((l.take (plc l ((x).key)) ++ ([x] ++ l.drop (plc l ((x).key)))).length) (c16_4)) ?_
  have hq2 : (l.take (plc l ((x).key)) ++ ([x] ++ l.drop (plc l ((x).key))) : List PairT) = putP l x := (put_out c17)
  have hMn2 := hM6_4.reF 0 hq2
  exact ⟨A16_4, c16_4, (sl_congr (by rw [← put_out c17])), (hMn2.pk [0])⟩
end Go.Proofs.YtemejgglbhjodaaGreatDoor
end
section
namespace Go.Proofs.YtemejgglbhjodaaGreatDoor
open Go.Px
theorem sput_fn (A : Option Addr) (c : Nat) (l : List PairT) (x : PairT) (w : World) (hA : Rd w A ((l).flatMap encP)) (hl : l.length ≤ 1048576) (ha : asc (keysP l) = true) (hc : l.length ≤ c) :
    Does Tryz.prog 126 [.slice (A) ((l).length) (c), .agg #[I ((x).key), I ((x).val)]] w (fun v w1 => ∃ (A1 : Option Addr) (c1 : Nat), v = .slice (A1) ((putP l x).length) (c1) ∧ Mem w w1 [] [[⟨.slice (A1) ((putP l x).length) (c1), 27, 2, ((putP l x).length), (putP l x).flatMap encP⟩]]) := by
  have hM : Mem w w [] [] := Mem.refl
  refine Does.n1 Tryz.func126 rfl Tryz.results126 Tryz.ntmps126 rfl ?_
  refine Bx 2 [] fun w0_0 b0_0 hb0_0 hM0_0 => ?_
  refine ct0 2 [] (([(5, Vi (((plc l x.key : Nat) : Int)))] : List (Nat × SV))) (True) ([]) [0, 3] [0] ?_ (fun σ w_r1 hI hM_r1 => ?_)
  · refine any 0 [] 6 [0] fun w1a hM1a => ?_
    refine aO [0, 2, 3] [0] 1 ?_
    refine cq 0 [] (b := skeysOf_fn _ _ _ w1a (hA.at hM1a) q0) (c := ?_)
    rintro _ w1_1 ⟨A11_1, c11_1, rfl, hR1_1⟩
    have hM1_1 := hM1a.cl 0 hR1_1
    have hcr1_1_0 := (hM1_1.cap 0 rfl).1
    refine os 0 [] [1] ?_
    refine aO [] [] 4 ?_
    refine cp 0 [] (b := sbelow_fn _ _ _ _ w1_1 (hM1_1.rd 0 rfl) q0) (c := fun w1_4 hM1_4 => ?_)
    refine os 0 [] [1] ?_
    refine an [5] [] ?_
    exact ce0 0 [] [1] (h := by exact trivial)
  have hpl := plc_le l x.key
  refine ct2 0 [] (fun (A2 : Option Addr) (c2 : Nat) => ([(6, Vl (A2) ((l.take (plc l x.key) ++ [x]).length) (c2))] : List (Nat × SV))) (fun (A2 : Option Addr) (c2 : Nat) => True) (fun (A2 : Option Addr) (c2 : Nat) => [[⟨.slice (A2) ((l.take (plc l x.key) ++ [x]).length) (c2), 27, 2, ((l.take (plc l x.key) ++ [x]).length), (l.take (plc l x.key) ++ [x]).flatMap encP⟩]]) [0, 3, 5] [0] ?_ (fun A2 c2 σ w_r2 hI hM_r2 => ?_)
  · refine any 0 [] 8 [0] fun w2a hM2a => ?_
    refine av [0, 1] [] 2 (s := Vl (A) (((l).take (plc l x.key)).length) (c)) (a := by exact fun w2 hw2 => cv (Ru.congr (v := .slice (A) (plc l x.key) (c)) (v' := .slice (A) (((l).take (plc l x.key)).length) (c)) (Ru.lsliceTo (h := plc l x.key) Tryz.underlying43 el27 rfl rfl (by omega) (by omega)) (sl_congr (by first | rfl | (simp; done) | omega | (simp; omega)))) rfl) (b := ?_)
    refine aT [4] [0] 3 5 ?_ ?_
    · refine cq 0 [] (b := scopyRow_fn _ _ _ w2a (rd_takeN encP_len (hA.at hM2a)) q0) (c := ?_)
      rintro _ w2_3 ⟨A12_3, c12_3, rfl, hR2_3⟩
      have hM2_3 := hM2a.cl 0 hR2_3
      have hcr2_3_0 := (hM2_3.cap 0 rfl).1
      refine os 0 [] [1] ?_
      refine aO [] [] 5 ?_
      refine Lt 0 [] (([x]).flatMap encP) (fun w2_5 b2_5 hb2_5 hM2_5 => ?_)
      refine os 0 [] [2] ?_
      refine aO [] [] 6 ?_
      refine aF 0 [] 1 (hM2_5.rd 0 rfl) (fun w2_6 A2_6 c2_6 hc2_6 hM2_6 => ?_)
      refine os 0 [] [2] ?_
      refine an [7] [] ?_
      have hq1 : (((l).take (plc l x.key)) ++ [x] : List PairT) = l.take (plc l x.key) ++ [x] := (by first | rfl | simp | (simp; omega))
      have hMn1 := hM2_6.reF 1 hq1
      exact ce2 0 [] A2_6 c2_6 [1, 2] (h := by exact trivial)
    refine Lt 0 [] (([x]).flatMap encP) (fun w2_5 b2_5 hb2_5 hM2_5 => ?_)
    refine os 0 [] [1] ?_
    refine aO [] [] 3 ?_
    refine cq 0 [] (b := scopyRow_fn _ _ _ w2_5 (rd_takeN encP_len (hA.at hM2_5)) q0) (c := ?_)
    rintro _ w2_3 ⟨A12_3, c12_3, rfl, hR2_3⟩
    have hM2_3 := hM2_5.cl 0 hR2_3
    have hcr2_3_0 := (hM2_3.cap 0 rfl).1
    refine os 0 [] [2] ?_
    refine aO [] [] 6 ?_
    refine aF 0 [] 0 (hM2_3.rd 1 rfl) (fun w2_6 A2_6 c2_6 hc2_6 hM2_6 => ?_)
    refine os 0 [] [2] ?_
    refine an [7] [] ?_
    have hq2 : (((l).take (plc l x.key)) ++ [x] : List PairT) = l.take (plc l x.key) ++ [x] := (by first | rfl | simp | (simp; omega))
    have hMn2 := hM2_6.reF 0 hq2
    exact ce2 0 [] A2_6 c2_6 [0, 2] (h := by exact trivial)
  have hcl0_r2 := (hM_r2.cap 0 rfl).1
  refine dr 2 [] ?_
  refine qp 5 [] 23 (fun g23 => ?_) (fun g23 => ?_)
  · have hx3_7 : plc l x.key < (l).length := (by first | omega | (simp; omega))
    refine qv 2 [] (a := by exact fun _ hw2 => kixF hx3_7 (hA.at hw2)) (b := ?_)
    refine qv 0 [] (a := by exact fun _ hw2 => kflF hx3_7 (hA.at hw2)) (b := ?_)
    refine qv 0 [] (a := by exact fun _ hw2 => kldF hx3_7 (hA.at hw2)) (b := ?_)
    refine qn 4 [1] fun w3d hM3d => ?_
    refine cd 0 [] (fun c32 => ?_) (fun c32 => ?_)
    · have hin := isIn_yes ha hx3_7 c32
      refine ov 2 [] (a := kaddN (plc l x.key + 1)) (b := ?_)
      refine ov 7 [] (s := Vl (if c = (plc l x.key + 1) then A else ofs (A) ((plc l x.key + 1) * 2)) (((l).drop ((plc l x.key + 1))).length) (c - (plc l x.key + 1))) (a := by exact cv (Ru.congr (v := .slice (if c = (plc l x.key + 1) then A else ofs (A) ((plc l x.key + 1) * 2)) (((l).length) - (plc l x.key + 1)) (c - (plc l x.key + 1))) (v' := .slice (if c = (plc l x.key + 1) then A else ofs (A) ((plc l x.key + 1) * 2)) (((l).drop ((plc l x.key + 1))).length) (c - (plc l x.key + 1))) (Ru.lsliceFrom (l := (plc l x.key + 1)) Tryz.underlying43 el27 rfl rfl (by omega) (by omega)) (sl_congr (by first | rfl | (simp; done) | omega | (simp; omega)))) rfl) (b := ?_)
      refine aF 0 [] 0 (rd_dropN (k := (plc l x.key + 1)) (c := c) encP_len (hA.at hM3d) q2 q2) (fun w5_4 A5_4 c5_4 hc5_4 hM5_4 => ?_)
      refine E1 3 [] (.slice (A5_4) ((l.take (plc l x.key) ++ [x] ++ (l).drop ((plc l x.key + 1))).length) (c5_4)) ?_
      have hq3 : (l.take (plc l x.key) ++ [x] ++ (l).drop ((plc l x.key + 1)) : List PairT) = putP l x := (by first | (unfold putP; rw [if_pos (isIn_yes ha hx3_7 c32)]; simp; done) | (unfold putP; rw [isIn_no ha (fun hb => by first | omega | exact fun e => c32 e)]; simp))
      have hMn3 := hM5_4.reF 0 hq3
      exact ⟨A5_4, c5_4, (sl_congr (by first | (unfold putP; rw [if_pos (isIn_yes ha hx3_7 c32)]; simp; done) | (unfold putP; rw [isIn_no ha (fun hb => by first | omega | exact fun e => c32 e)]; simp))), (hMn3.pk [0])⟩
    refine ov 6 [] (s := Vl (if c = plc l x.key then A else ofs (A) ((plc l x.key) * 2)) (((l).drop (plc l x.key)).length) (c - (plc l x.key))) (a := by exact cv (Ru.congr (v := .slice (if c = plc l x.key then A else ofs (A) ((plc l x.key) * 2)) (((l).length) - (plc l x.key)) (c - (plc l x.key))) (v' := .slice (if c = plc l x.key then A else ofs (A) ((plc l x.key) * 2)) (((l).drop (plc l x.key)).length) (c - (plc l x.key))) (Ru.lsliceFrom (l := plc l x.key) Tryz.underlying43 el27 rfl rfl (by omega) (by omega)) (sl_congr (by first | rfl | (simp; done) | omega | (simp; omega)))) rfl) (b := ?_)
    refine aF 0 [] 0 (rd_dropN (k := plc l x.key) (c := c) encP_len (hA.at hM3d) q2 q2) (fun w5_4 A5_4 c5_4 hc5_4 hM5_4 => ?_)
    refine E1 3 [] (.slice (A5_4) ((l.take (plc l x.key) ++ [x] ++ (l).drop (plc l x.key)).length) (c5_4)) ?_
    have hq4 : (l.take (plc l x.key) ++ [x] ++ (l).drop (plc l x.key) : List PairT) = putP l x := (by first | (unfold putP; rw [if_pos (isIn_yes ha hx3_7 c32)]; simp; done) | (unfold putP; rw [isIn_no ha (fun hb => by first | omega | exact fun e => c32 e)]; simp))
    have hMn4 := hM5_4.reF 0 hq4
    exact ⟨A5_4, c5_4, (sl_congr (by first | (unfold putP; rw [if_pos (isIn_yes ha hx3_7 c32)]; simp; done) | (unfold putP; rw [isIn_no ha (fun hb => by first | omega | exact fun e => c32 e)]; simp))), (hMn4.pk [0])⟩
  refine qn 9 [] fun w3d hM3d => ?_
  refine ov 7 [] (s := Vl (if c = plc l x.key then A else ofs (A) ((plc l x.key) * 2)) (((l).drop (plc l x.key)).length) (c - (plc l x.key))) (a := by exact cv (Ru.congr (v := .slice (if c = plc l x.key then A else ofs (A) ((plc l x.key) * 2)) (((l).length) - (plc l x.key)) (c - (plc l x.key))) (v' := .slice (if c = plc l x.key then A else ofs (A) ((plc l x.key) * 2)) (((l).drop (plc l x.key)).length) (c - (plc l x.key))) (Ru.lsliceFrom (l := plc l x.key) Tryz.underlying43 el27 rfl rfl (by omega) (by omega)) (sl_congr (by first | rfl | (simp; done) | omega | (simp; omega)))) rfl) (b := ?_)
  refine aF 0 [] 0 (rd_dropN (k := plc l x.key) (c := c) encP_len (hA.at hM3d) q2 q2) (fun w5_4 A5_4 c5_4 hc5_4 hM5_4 => ?_)
  refine E1 3 [] (.slice (A5_4) ((l.take (plc l x.key) ++ [x] ++ (l).drop (plc l x.key)).length) (c5_4)) ?_
  have hq5 : (l.take (plc l x.key) ++ [x] ++ (l).drop (plc l x.key) : List PairT) = putP l x := (by first | (unfold putP; rw [if_pos (isIn_yes ha hx3_7 c32)]; simp; done) | (unfold putP; rw [isIn_no ha (fun hb => by first | omega | exact fun e => c32 e)]; simp))
  have hMn5 := hM5_4.reF 0 hq5
  exact ⟨A5_4, c5_4, (sl_congr (by first | (unfold putP; rw [if_pos (isIn_yes ha hx3_7 c32)]; simp; done) | (unfold putP; rw [isIn_no ha (fun hb => by first | omega | exact fun e => c32 e)]; simp))), (hMn5.pk [0])⟩
end Go.Proofs.YtemejgglbhjodaaGreatDoor
end
section
namespace Go.Proofs
open Go.Shelf
def Tryz.lays169_ren : Go.Shelf.Ren := ⟨fun | 169 => 64 | n => n, fun | 70 => 91 | 9 => 9 | 0 => 0 | 72 => 93 | 37 => 22 | 127 => 139 | 3 => 3 | 5 => 5 | n => n, fun | n => n⟩
theorem Tryz.lays169 : Go.Proofs.Lays.n169 Tryz.prog Tryz.lays169_ren := {
  mixed := by kernel_rfl
  f169 := Tryz.func64.trans (congrArg some (by kernel_rfl))
  t0 := Tryz.underlying0
  a0 := Tryz.isAgg0
  z0 := Tryz.sizeOf0
  v0 := Tryz.zeroValue0
  t3 := Tryz.underlying3
  a3 := Tryz.isAgg3
  z3 := Tryz.sizeOf3
  v3 := Tryz.zeroValue3
  t9 := Tryz.underlying9
  a9 := Tryz.isAgg9
  z9 := Tryz.sizeOf9
  v9 := Tryz.zeroValue9
  t37 := Tryz.underlying22
  a37 := Tryz.isAgg22
  z37 := Tryz.sizeOf22
  v37 := Tryz.zeroValue22
  t70 := Tryz.underlying91
  a70 := Tryz.isAgg91
  z70 := Tryz.sizeOf91
  v70 := Tryz.zeroValue91
  t72 := Tryz.underlying93
  a72 := Tryz.isAgg93
  z72 := Tryz.sizeOf93
  v72 := Tryz.zeroValue93
  t127 := Tryz.underlying139
  a127 := Tryz.isAgg139
  z127 := Tryz.sizeOf139
  v127 := Tryz.zeroValue139 }
theorem Tryz.Builder_Extra_169 : Builder.Extra Tryz.prog Tryz.lays169_ren := {
  sizeBuilder := by kernel_rfl
  liesBuilder := by kernel_rfl
  t5 := Tryz.underlying5
  a5 := Tryz.isAgg5
  z5 := Tryz.sizeOf5
  v5 := Tryz.zeroValue5
  infoByte := by kernel_rfl
  cellsByte := by kernel_rfl
  sizeByte := by kernel_rfl
  neB5 := by decide }
open Go.RowKit in
theorem Tryz.Builder_String_any (B b : Nat) (l : List UInt8) (w : World) (h : Lib.IsBuilder 93 5 B b (Lib.byteCells l) w) (hBw : B ≤ w.heap.size) :
    Calls Tryz.prog 64 #[.pointer (some ⟨b, 0, none⟩)] w fun e w' => e = .returned (.string ⟨l.toArray⟩) ∧ Below B w w' := Any.Builder_String_any Tryz.lays169 Tryz.Builder_Extra_169 B b l w h hBw
def Tryz.laysM171_ren : Go.Shelf.Ren := ⟨fun | 171 => 88 | 243 => 133 | 246 => 162 | 283 => 181 | 284 => 182 | 285 => 183 | 286 => 184 | 129 => 205 | 317 => 204 | 318 => 206 | 319 => 207 | 320 => 208 | 337 => 219 | 338 => 220 | n => n, fun | 3 => 3 | 9 => 9 | 2 => 2 | 4 => 4 | 171 => 179 | 0 => 0 | 53 => 180 | 37 => 22 | 5 => 5 | 173 => 183 | 212 => 201 | 51 => 202 | 20 => 20 | 213 => 203 | 46 => 176 | 232 => 229 | 233 => 230 | n => n, fun | 17 => 1 | 18 => 6 | 19 => 7 | n => n⟩
theorem Tryz.laysM171 : Go.Proofs.LaysM.n171 Tryz.prog Tryz.laysM171_ren := {
  mixed := by kernel_rfl
  f129 := Tryz.func205.trans (congrArg some (by kernel_rfl))
  f171 := Tryz.func88.trans (congrArg some (by kernel_rfl))
  f243 := Tryz.func133.trans (congrArg some (by kernel_rfl))
  f246 := Tryz.func162.trans (congrArg some (by kernel_rfl))
  f283 := Tryz.func181.trans (congrArg some (by kernel_rfl))
  f284 := Tryz.func182.trans (congrArg some (by kernel_rfl))
  f285 := Tryz.func183.trans (congrArg some (by kernel_rfl))
  f286 := Tryz.func184.trans (congrArg some (by kernel_rfl))
  f317 := Tryz.func204.trans (congrArg some (by kernel_rfl))
  f318 := Tryz.func206.trans (congrArg some (by kernel_rfl))
  f319 := Tryz.func207.trans (congrArg some (by kernel_rfl))
  f320 := Tryz.func208.trans (congrArg some (by kernel_rfl))
  f337 := Tryz.func219.trans (congrArg some (by kernel_rfl))
  f338 := Tryz.func220.trans (congrArg some (by kernel_rfl))
  t0 := Tryz.underlying0
  a0 := Tryz.isAgg0
  z0 := Tryz.sizeOf0
  v0 := Tryz.zeroValue0
  t2 := Tryz.underlying2
  a2 := Tryz.isAgg2
  z2 := Tryz.sizeOf2
  v2 := Tryz.zeroValue2
  t3 := Tryz.underlying3
  a3 := Tryz.isAgg3
  z3 := Tryz.sizeOf3
  v3 := Tryz.zeroValue3
  t4 := Tryz.underlying4
  a4 := Tryz.isAgg4
  z4 := Tryz.sizeOf4
  v4 := Tryz.zeroValue4
  t5 := Tryz.underlying5
  a5 := Tryz.isAgg5
  z5 := Tryz.sizeOf5
  v5 := Tryz.zeroValue5
  t9 := Tryz.underlying9
  a9 := Tryz.isAgg9
  z9 := Tryz.sizeOf9
  v9 := Tryz.zeroValue9
  t20 := Tryz.underlying20
  a20 := Tryz.isAgg20
  z20 := Tryz.sizeOf20
  v20 := Tryz.zeroValue20
  t37 := Tryz.underlying22
  a37 := Tryz.isAgg22
  z37 := Tryz.sizeOf22
  v37 := Tryz.zeroValue22
  t46 := Tryz.underlying176
  a46 := Tryz.isAgg176
  z46 := Tryz.sizeOf176
  v46 := Tryz.zeroValue176
  t51 := Tryz.underlying202
  a51 := Tryz.isAgg202
  z51 := Tryz.sizeOf202
  v51 := Tryz.zeroValue202
  t53 := Tryz.underlying180
  a53 := Tryz.isAgg180
  z53 := Tryz.sizeOf180
  v53 := Tryz.zeroValue180
  t171 := Tryz.underlying179
  a171 := Tryz.isAgg179
  z171 := Tryz.sizeOf179
  v171 := Tryz.zeroValue179
  t173 := Tryz.underlying183
  a173 := Tryz.isAgg183
  z173 := Tryz.sizeOf183
  v173 := Tryz.zeroValue183
  t212 := Tryz.underlying201
  a212 := Tryz.isAgg201
  z212 := Tryz.sizeOf201
  v212 := Tryz.zeroValue201
  t213 := Tryz.underlying203
  a213 := Tryz.isAgg203
  z213 := Tryz.sizeOf203
  t232 := Tryz.underlying229
  a232 := Tryz.isAgg229
  z232 := Tryz.sizeOf229
  v232 := Tryz.zeroValue229
  t233 := Tryz.underlying230
  a233 := Tryz.isAgg230
  z233 := Tryz.sizeOf230
  v233 := Tryz.zeroValue230
  g17 := by kernel_rfl
  g18 := by kernel_rfl
  g19 := by kernel_rfl
  i0 := by kernel_rfl
  i2 := by kernel_rfl
  i3 := by kernel_rfl
  i4 := by kernel_rfl
  i5 := by kernel_rfl
  i9 := by kernel_rfl
  i20 := by kernel_rfl
  i37 := by kernel_rfl
  i46 := by kernel_rfl
  i51 := by kernel_rfl
  i53 := by kernel_rfl
  i171 := by kernel_rfl
  i173 := by kernel_rfl
  i212 := by kernel_rfl
  i232 := by kernel_rfl
  i233 := by kernel_rfl
  m17 := by kernel_rfl
  m18 := by kernel_rfl
  m19 := by kernel_rfl }
end Go.Proofs
end
section
namespace Go.Proofs.YtemejgglbhjodaaGreatDoor
open Go.Px Go.RowKit
def tabN : String := Rows.fnPageTextRow.named.headD ""
abbrev TAB (w : World) : Prop := Lib.TabIs Tryz.prog w tabN .u64 Lib.pow10Tab
theorem Itoa_fn (n : Int) (w : World) (htab : TAB w) (hn : -9223372036854775808 ≤ n ∧ n ≤ 9223372036854775807) : Does Tryz.prog 88 [I (n)] w (fun v w1 => v = S (itoaS n) ∧ Mem w w1 [] []) :=
  ⟨(Any.strconv_Itoa Tryz.laysM171 n hn.1 hn.2 w htab).mono fun e w' ⟨he, k, os, hw⟩ => ⟨_, he, rfl, by rw [hw]; exact Px.mem_grow⟩⟩
theorem String_fn {l : Str} {b : Nat} (w : World) {B : Nat} (hBw : B ≤ w.heap.size) (h : Lib.IsBuilder 93 5 B b (Lib.byteCells l) w) : Does Tryz.prog 64 [.pointer (ofs (bl b) 0)] w (fun v w1 => v = S l ∧ Below B w w1) :=
  ⟨(Tryz.Builder_String_any B b l w h hBw).mono fun e w' ⟨he, hw⟩ => ⟨_, he, rfl, hw⟩⟩
end Go.Proofs.YtemejgglbhjodaaGreatDoor
namespace Go.Px
open Go.RowKit
section
variable {w0 w w1 : World} {M : List (List FE)}
theorem mem_below (h : Mem w0 w [] M) (hB : Below w0.heap.size w w1) : Mem w0 w1 [] [] :=
  ⟨hB.os.trans h.os, hB.tape.trans h.tape, hB.output.trans h.output, Nat.le_trans h.size hB.size, fun k hk hr => (hB.block k hk).trans (h.block k hk hr), by simp, by simp, by simp⟩
theorem Mem0.builder {A : Option Addr} {b c T e : Nat} {p : Value} {l : Str} (h : Mem w0 w [] M) (i j : Nat) (hi : M[i]? = some [⟨.slice (bl b) 1 1, T, 2, 1, [p, .slice A l.length c]⟩]) (hj : M[j]? = some [⟨.slice A l.length c, e, 1, l.length, l.map byteV⟩]) (hp : p = .pointer none ∨ p = .pointer (ofs (bl b) 0)) (hij : i ≠ j := by decide) : Lib.IsBuilder T e w0.heap.size b (Lib.byteCells l) w := by
  have hb := mem_blk (i := i) (j := 0) h hi rfl
  have ho : Px.own w 0 e 1 (.slice A l.length c) l.length (l.map byteV) := h.get hj (j := 0) rfl
  have hbb : w0.heap.size ≤ b := by
    rcases h.born _ (List.mem_flatten.2 ⟨_, List.mem_of_getElem? hi, List.mem_singleton.2 rfl⟩) b rfl with h1 | h1
    · exact h1
    simp at h1
  have hg := Px.grp_get (List.pairwise_flatten.1 h.apart).2 hi hj hij
  have hap : Apart _ _ := hg _ (List.mem_singleton.2 rfl) _ (List.mem_singleton.2 rfl)
  have key : ∀ q : Value, p = q → Lib.BuilderAt T e w0.heap.size b q (Lib.byteCells l) w := by
    rintro q rfl
    refine ⟨hbb, _, hb, ⟨?_, ?_⟩, ?_⟩
    · simp [Lib.byteCells]
    · have hlen : (Lib.byteCells l).length = l.length := by simp [Lib.byteCells]
      rw [hlen]
      obtain ⟨_, ⟨hv, h0⟩ | ⟨g, cap, cur, hv, hbg, hgg, hnc, hcm, hcs, ht⟩⟩ := ho
      · left; exact ⟨hv, h0⟩
      right
      refine ⟨g, cap, cur, hv, ?_, hgg, hnc, hcm, hcs, ht⟩
      rcases h.born _ (List.mem_flatten.2 ⟨_, List.mem_of_getElem? hj, List.mem_singleton.2 rfl⟩) g (by rw [FE.blk, hv]; rfl) with h1 | h1
      · exact h1
      simp at h1
    intro e'
    exact hap b rfl e'
  rcases hp with hp | hp
  · exact .inl (key _ hp)
  exact .inr (key _ hp)
end
end Go.Px
end
section
namespace Go.Proofs.YtemejgglbhjodaaGreatDoor
open Go.Px
theorem copyN_fn (b : Nat) (A : Option Addr) (n : Nat) (c : Nat) (w : World) (hM : Mem w w [some b] [[⟨.slice (bl b) 1 1, 93, 2, 1, [(.pointer none), .slice (A) (n) (c)]⟩]]) :
    Does Tryz.prog 98 [.pointer (ofs (bl b) (0))] w (fun v w1 => v = (.tuple #[]) ∧ Mem w w1 [some b] [[⟨.slice (bl b) 1 1, 93, 2, 1, [.pointer (ofs (bl b) (0)), .slice (A) (n) (c)]⟩]]) := by
  refine Does.n0 Tryz.func98 rfl Tryz.results98 Tryz.ntmps98 rfl ?_
  refine ov 6 [0] (s := Vb (true)) (a := by exact cv (Ru.peqN (a := none) Tryz.underlying91 rfl rfl) rfl) (b := ?_)
  refine ov 5 [] (s := Vp (bl b) (0)) (a := by exact cv (Ru.toUns (l := [(.pointer none), .slice (A) (n) (c)]) Tryz.underlying91 Tryz.underlying152 el93 (by decide) (mem_blk (i := 0) (j := 0) hM rfl rfl) (by simp) rfl) rfl) (b := ?_)
  refine ov 0 [] (s := Vp (bl b) (0)) (a := by exact cv (Ru.noEsc Tryz.func140 (by kernel_rfl) (by kernel_rfl) (by kernel_rfl) (by kernel_rfl) rfl) rfl) (b := ?_)
  refine ov 0 [] (s := Vp (bl b) (0)) (a := by exact cv (Ru.frUns (l := [(.pointer none), .slice (A) (n) (c)]) Tryz.underlying152 Tryz.underlying91 el93 (mem_blk (i := 0) (j := 0) hM rfl rfl) (by kernel_rfl) rfl) rfl) (b := ?_)
  refine Sb 2 [] 0 fun w1_7 hM1_7 => ?_
  refine E0 1 [] ?_
  exact ⟨(by first | rfl | exact sl_congr (by first | omega | (simp; done) | (simp; omega)) | (simp; done)), (hM1_7.pk [0])⟩
theorem copyS_fn (b : Nat) (A : Option Addr) (n : Nat) (c : Nat) (w : World) (hM : Mem w w [some b] [[⟨.slice (bl b) 1 1, 93, 2, 1, [.pointer (ofs (bl b) (0)), .slice (A) (n) (c)]⟩]]) :
    Does Tryz.prog 98 [.pointer (ofs (bl b) (0))] w (fun v w1 => v = (.tuple #[]) ∧ Mem w w1 [some b] [[⟨.slice (bl b) 1 1, 93, 2, 1, [.pointer (ofs (bl b) (0)), .slice (A) (n) (c)]⟩]]) := by
  refine Does.n0 Tryz.func98 rfl Tryz.results98 Tryz.ntmps98 rfl ?_
  refine ov 6 [0] (s := Vb (false)) (a := by exact cv (Ru.peqN (a := ofs (bl b) (0)) Tryz.underlying91 rfl rfl) rfl) (b := ?_)
  refine ov 9 [0] (s := Vb (false)) (a := by exact cv (Ru.pneS (a := ⟨b, 0, Option.none⟩) Tryz.underlying91 el93 rfl rfl) rfl) (b := ?_)
  refine E0 3 [] ?_
  exact ⟨(by first | rfl | exact sl_congr (by first | omega | (simp; done) | (simp; omega)) | (simp; done)), (hM.pk [0])⟩
theorem copyCheck_fn (b : Nat) (p : Value) (A : Option Addr) (n : Nat) (c : Nat) (w : World) (hM : Mem w w [some b] [[⟨.slice (bl b) 1 1, 93, 2, 1, [(p), .slice (A) (n) (c)]⟩]]) (hp : p = .pointer none ∨ p = .pointer (ofs (bl b) 0)) :
    Does Tryz.prog 98 [.pointer (ofs (bl b) (0))] w (fun v w1 => v = (.tuple #[]) ∧ Mem w w1 [some b] [[⟨.slice (bl b) 1 1, 93, 2, 1, [.pointer (ofs (bl b) (0)), .slice (A) (n) (c)]⟩]]) := by
  rcases hp with rfl | rfl
  · exact copyN_fn b A n c w hM
  exact copyS_fn b A n c w hM
theorem WriteByte_fn (b : Nat) (A : Option Addr) (c : Nat) (l : List UInt8) (p : Value) (ch : UInt8) (w : World) (hM : Mem w w [some b, (Value.slice (A) ((l).length) (c)).ownBlock] [[⟨.slice (bl b) 1 1, 93, 2, 1, [(p), .slice (A) ((l).length) (c)]⟩], [⟨.slice (A) ((l).length) (c), 5, 1, ((l).length), (l).map byteV⟩]]) (hp : p = .pointer none ∨ p = .pointer (ofs (bl b) 0)) (hl : l.length ≤ 1000000) :
    Does Tryz.prog 63 [.pointer (ofs (bl b) (0)), .int .u8 (((ch).toNat : Int))] w (fun v w1 => ∃ (A1 : Option Addr) (c1 : Nat), v = (.nilIface) ∧ Mem w w1 [some b, (Value.slice (A) ((l).length) (c)).ownBlock] [[⟨.slice (bl b) 1 1, 93, 2, 1, [.pointer (ofs (bl b) (0)), .slice (A1) ((l ++ [ch]).length) (c1)]⟩], [⟨.slice (A1) ((l ++ [ch]).length) (c1), 5, 1, ((l ++ [ch]).length), (l ++ [ch]).map byteV⟩]]) := by
  refine Does.n1 Tryz.func63 rfl Tryz.results63 Tryz.ntmps63 rfl ?_
  refine cq 7 [] (b := copyCheck_fn _ (p) A ((l).length) c w (hM.fp [0] rfl rfl) (by first | exact .inl rfl | exact .inr rfl | assumption)) (c := ?_)
  rintro _ w1_1 ⟨rfl, hR1_1⟩
  have hM1_1 := hM.cl 1 hR1_1
  refine Lt 9 [0] (([ch]).map byteV) (fun w2_6 b2_6 hb2_6 hM2_6 => ?_)
  refine aM 0 [] 2 (hM2_6.rd 0 rfl) (fun w2_7 A2_7 c2_7 hc2_7 hM2_7 => ?_)
  refine Sb 2 [] 1 fun w2_10 hM2_10 => ?_
  refine E1 6 [] (.nilIface) ?_
  exact ⟨A2_7, c2_7, (by first | rfl | exact sl_congr (by first | omega | (simp; done) | (simp; omega)) | (simp; done)), (hM2_10.pk [1, 2])⟩
theorem WriteString_fn (b : Nat) (A : Option Addr) (c : Nat) (l : List UInt8) (p : Value) (s : Str) (w : World) (hM : Mem w w [some b, (Value.slice (A) ((l).length) (c)).ownBlock] [[⟨.slice (bl b) 1 1, 93, 2, 1, [(p), .slice (A) ((l).length) (c)]⟩], [⟨.slice (A) ((l).length) (c), 5, 1, ((l).length), (l).map byteV⟩]]) (hp : p = .pointer none ∨ p = .pointer (ofs (bl b) 0)) (hl : l.length + s.length ≤ 1000000) :
    Does Tryz.prog 61 [.pointer (ofs (bl b) (0)), S (s)] w (fun v w1 => ∃ (A1 : Option Addr) (c1 : Nat), v = .tuple #[I (((s.length : Nat) : Int)), (.nilIface)] ∧ Mem w w1 [some b, (Value.slice (A) ((l).length) (c)).ownBlock] [[⟨.slice (bl b) 1 1, 93, 2, 1, [.pointer (ofs (bl b) (0)), .slice (A1) ((l ++ s).length) (c1)]⟩], [⟨.slice (A1) ((l ++ s).length) (c1), 5, 1, ((l ++ s).length), (l ++ s).map byteV⟩]]) := by
  refine Does.n2 Tryz.func61 rfl Tryz.results61 Tryz.ntmps61 rfl ?_
  refine cq 8 [] (b := copyCheck_fn _ (p) A ((l).length) c w (hM.fp [0] rfl rfl) (by first | exact .inl rfl | exact .inr rfl | assumption)) (c := ?_)
  rintro _ w1_1 ⟨rfl, hR1_1⟩
  have hM1_1 := hM.cl 1 hR1_1
  refine go 9 [0] ?_
  refine O.mappendS (l := s) (m1 := (l ++ s).length) (xs1 := (l ++ s).map byteV) (M' := fun A2_6 c2_6 => [[⟨.slice (bl b) 1 1, 93, 2, 1, [.pointer (ofs (bl b) (0)), .slice (A) (((l).length)) (c)]⟩], [⟨.slice (A2_6) ((l ++ s).length) (c2_6), 5, 1, ((l ++ s).length), (l ++ s).map byteV⟩]]) 1 hM1_1 rfl rfl Tryz.underlying22 Tryz.underlying9 (by kernel_rfl) rfl rfl rfl (by first | omega | (simp; omega)) (by first | (simp; done) | (simp; omega)) (by simp) (fun _ _ => rfl) (fun w2_6 A2_6 c2_6 hc2_6 hM2_6 => ?_)
  try dsimp only at hM2_6
  refine Sb 2 [] 0 fun w2_9 hM2_9 => ?_
  refine E2 9 [] (I (((s).length : Int))) (.nilIface) ?_
  exact ⟨A2_6, c2_6, (by first | rfl | exact sl_congr (by first | omega | (simp; done) | (simp; omega)) | (simp; done)), (hM2_9.pk [0, 1])⟩
end Go.Proofs.YtemejgglbhjodaaGreatDoor
end
section
namespace Go.Proofs.YtemejgglbhjodaaGreatDoor
open Go.Px
set_option maxHeartbeats 2000000 in
theorem FormatRow_fn (A : Option Addr) (c : Nat) (l : List PairT) (w : World) (hA : Rd w A ((l).flatMap encP)) (hl : l.length ≤ 1048576) (htab : TAB w) :
    Does Tryz.prog 43 [.slice (A) ((l).length) (c)] w (fun v w1 => v = S (fmtR l) ∧ Mem w w1 [] []) := by
  have hM : Mem w w [] [] := Mem.refl
  refine Does.n1 Tryz.func43 rfl Tryz.results43 Tryz.ntmps43 rfl ?_
  refine cp 8 [] (b := ValidRow_fn _ _ _ w (hA.at hM) q0) (c := fun w1_1 hM1_1 => ?_)
  refine cn 2 [] (fun c8 => ?_) (fun c8 => ?_)
  · refine E1 5 [] (S ([])) ?_
    exact ⟨(by rw [fmtR_no (by simpa using c8)]), (Mem.none hM1_1)⟩
  have hv : validR l = true := by simpa using c8
  have hvs := valid_small hv
  have h24 := validR_len hv
  refine Al 3 [] fun w3_0 b3_0 hb3_0 hM3_0 => ?_
  have hMn1 := Mem.addNil (e := 5) (sz := 1) hM3_0
  have hq2 : ([] : List UInt8) = fmtL (l.take 0) := (by simp [fmtL])
  have hMn2 := hMn1.reM 0 hq2 (f := byteV)
  have hMn3 := hMn2.reB 1 1 (show 0 = (fmtL (l.take 0)).length from (by simp [fmtL]))
  refine lp4 9 [] (fun (k : Nat) (pv : Value) (A2 : Option Addr) (c2 : Nat) => ([(11, Vi (((k : Nat) : Int)))] : List (Nat × SV))) (fun (k : Nat) (pv : Value) (A2 : Option Addr) (c2 : Nat) => (k ≤ l.length) ∧ (pv = .pointer none ∨ pv = .pointer (ofs (bl b3_0) 0))) (fun (k : Nat) (pv : Value) (A2 : Option Addr) (c2 : Nat) => [[⟨.slice (A2) ((fmtL (l.take k)).length) (c2), 5, 1, ((fmtL (l.take k)).length), (fmtL (l.take k)).map byteV⟩], [⟨.slice (bl b3_0) 1 1, 93, 2, 1, [(pv), .slice (A2) ((fmtL (l.take k)).length) (c2)]⟩]]) (fun (k : Nat) (pv : Value) (A2 : Option Addr) (c2 : Nat) => l.length - k) [3, 9, 10] [0, 1] [] 0 ((.pointer none) : Value) none 0 (fun k pv A2 c2 σ w_l5 hI hM_l5 => ?_) (h0 := ⟨(Nat.zero_le _), (.inl rfl)⟩)
  obtain ⟨hi0_l5, hi1_l5⟩ := hI
  have hcl0_l5 := (hM_l5.cap 0 rfl).1
  refine cd 5 [] (fun c12 => ?_) (fun c12 => ?_)
  · have hkl : k < l.length := by omega
    have hsm := hvs _ (List.getElem_mem hkl)
    have hfl := fmtL_len (l := l) k hvs hi0_l5
    have hl1 := itoa_len (n := l[k].key) (by have := hsm.1; omega) (by have := hsm.1; omega)
    have hl2 := itoa_len (n := l[k].val) (by have := hsm.2; omega) (by have := hsm.2; omega)
    have hs1 := hsm.1
    have hs2 := hsm.2
    have hx6_1 : k < (l).length := (by first | omega | (simp; omega))
    refine ov 6 [] (a := kixF hx6_1 (hA.at hM_l5)) (b := ?_)
    refine ov 0 [] (a := kldN hx6_1 (hA.at hM_l5)) (b := ?_)
    refine Al 0 [] fun w6_3 b6_3 hb6_3 hM6_3 => ?_
    refine Sb 1 [] 0 fun w6_5 hM6_5 => ?_
    refine cd 7 [] (fun c17 => ?_) (fun c17 => ?_)
    · have hk0 : k ≠ 0 := by omega
      have hMf8_0 := hM6_5.pk [2, 1, 0]
      refine cq 1 [] (b := WriteByte_fn b3_0 A2 c2 (fmtL (l.take k)) (pv) (44 : UInt8) w6_5 (hMf8_0.fp [0, 1] rfl rfl) (by first | exact .inl rfl | exact .inr rfl | assumption) (by first | omega | (simp; omega))) (c := ?_)
      rintro _ w8_0 ⟨A18_0, c18_0, rfl, hR8_0⟩
      have hM8_0 := hMf8_0.cl 2 hR8_0
      have hcr8_0_1 := (hM8_0.cap 1 rfl).1
      refine cp 5 [2] (b := Itoa_fn _ w8_0 (tab_at htab hM8_0) (by first | omega | (constructor <;> omega))) (c := fun w9_2 hM9_2 => ?_)
      refine cq 0 [] (b := WriteString_fn b3_0 A18_0 c18_0 ((fmtL (l.take k)) ++ [(44 : UInt8)]) (.pointer (ofs (bl b3_0) (0))) _ w9_2 (hM9_2.fp [0, 1] rfl rfl) (by first | exact .inl rfl | exact .inr rfl | assumption) (by first | omega | (simp; omega))) (c := ?_)
      rintro _ w9_3 ⟨A19_3, c19_3, rfl, hR9_3⟩
      have hM9_3 := hM9_2.cl 2 hR9_3
      have hcr9_3_1 := (hM9_3.cap 1 rfl).1
      refine cq 3 [] (b := WriteByte_fn b3_0 A19_3 c19_3 (((fmtL (l.take k)) ++ [(44 : UInt8)]) ++ (itoaS (((l)[k]'hx6_1).key))) (.pointer (ofs (bl b3_0) (0))) (58 : UInt8) w9_3 (hM9_3.fp [0, 1] rfl rfl) (by first | exact .inl rfl | exact .inr rfl | assumption) (by first | omega | (simp; omega))) (c := ?_)
      rintro _ w10_0 ⟨A110_0, c110_0, rfl, hR10_0⟩
      have hM10_0 := hM9_3.cl 2 hR10_0
      have hcr10_0_1 := (hM10_0.cap 1 rfl).1
      refine cp 4 [2] (b := Itoa_fn _ w10_0 (tab_at htab hM10_0) (by first | omega | (constructor <;> omega))) (c := fun w11_2 hM11_2 => ?_)
      refine cq 0 [] (b := WriteString_fn b3_0 A110_0 c110_0 ((((fmtL (l.take k)) ++ [(44 : UInt8)]) ++ (itoaS (((l)[k]'hx6_1).key))) ++ [(58 : UInt8)]) (.pointer (ofs (bl b3_0) (0))) _ w11_2 (hM11_2.fp [0, 1] rfl rfl) (by first | exact .inl rfl | exact .inr rfl | assumption) (by first | omega | (simp; omega))) (c := ?_)
      rintro _ w11_3 ⟨A111_3, c111_3, rfl, hR11_3⟩
      have hM11_3 := hM11_2.cl 2 hR11_3
      have hcr11_3_1 := (hM11_3.cap 1 rfl).1
      refine ov 2 [] (a := kaddN (k + 1)) (b := ?_)
      have hq4 : (((((fmtL (l.take k)) ++ [(44 : UInt8)]) ++ (itoaS (((l)[k]'hx6_1).key))) ++ [(58 : UInt8)]) ++ (itoaS (((l)[k]'hx6_1).val)) : List UInt8) = fmtL (l.take (k + 1)) := (by rw [fmtL_take hkl]; simp [fmtP, hk0])
      have hMn4 := hM11_3.reM 1 hq4
      have hMn5 := hMn4.reB 0 1 (show (((((fmtL (l.take k)) ++ [(44 : UInt8)]) ++ (itoaS (((l)[k]'hx6_1).key))) ++ [(58 : UInt8)]) ++ (itoaS (((l)[k]'hx6_1).val))).length = (fmtL (l.take (k + 1))).length from congrArg List.length hq4)
      exact le4 2 [] (k + 1) ((.pointer (ofs (bl b3_0) (0))) : Value) A111_3 c111_3 [1, 0] (h := by exact ⟨(by (try dsimp only); omega), (.inr rfl)⟩)
    have hk0 : k = 0 := by omega
    refine cp 5 [0] (b := Itoa_fn _ w6_5 (tab_at htab hM6_5) (by first | omega | (constructor <;> omega))) (c := fun w9_2 hM9_2 => ?_)
    have hMf9_3 := hM9_2.pk [2, 1, 0]
    refine cq 0 [] (b := WriteString_fn b3_0 A2 c2 (fmtL (l.take k)) (pv) _ w9_2 (hMf9_3.fp [0, 1] rfl rfl) (by first | exact .inl rfl | exact .inr rfl | assumption) (by first | omega | (simp; omega))) (c := ?_)
    rintro _ w9_3 ⟨A19_3, c19_3, rfl, hR9_3⟩
    have hM9_3 := hMf9_3.cl 2 hR9_3
    have hcr9_3_1 := (hM9_3.cap 1 rfl).1
    refine cq 3 [] (b := WriteByte_fn b3_0 A19_3 c19_3 ((fmtL (l.take k)) ++ (itoaS (((l)[k]'hx6_1).key))) (.pointer (ofs (bl b3_0) (0))) (58 : UInt8) w9_3 (hM9_3.fp [0, 1] rfl rfl) (by first | exact .inl rfl | exact .inr rfl | assumption) (by first | omega | (simp; omega))) (c := ?_)
    rintro _ w10_0 ⟨A110_0, c110_0, rfl, hR10_0⟩
    have hM10_0 := hM9_3.cl 2 hR10_0
    have hcr10_0_1 := (hM10_0.cap 1 rfl).1
    refine cp 4 [2] (b := Itoa_fn _ w10_0 (tab_at htab hM10_0) (by first | omega | (constructor <;> omega))) (c := fun w11_2 hM11_2 => ?_)
    refine cq 0 [] (b := WriteString_fn b3_0 A110_0 c110_0 (((fmtL (l.take k)) ++ (itoaS (((l)[k]'hx6_1).key))) ++ [(58 : UInt8)]) (.pointer (ofs (bl b3_0) (0))) _ w11_2 (hM11_2.fp [0, 1] rfl rfl) (by first | exact .inl rfl | exact .inr rfl | assumption) (by first | omega | (simp; omega))) (c := ?_)
    rintro _ w11_3 ⟨A111_3, c111_3, rfl, hR11_3⟩
    have hM11_3 := hM11_2.cl 2 hR11_3
    have hcr11_3_1 := (hM11_3.cap 1 rfl).1
    refine ov 2 [] (a := kaddN (k + 1)) (b := ?_)
    have hq6 : ((((fmtL (l.take k)) ++ (itoaS (((l)[k]'hx6_1).key))) ++ [(58 : UInt8)]) ++ (itoaS (((l)[k]'hx6_1).val)) : List UInt8) = fmtL (l.take (k + 1)) := (by rw [fmtL_take hkl]; simp [fmtP, hk0])
    have hMn6 := hM11_3.reM 1 hq6
    have hMn7 := hMn6.reB 0 1 (show ((((fmtL (l.take k)) ++ (itoaS (((l)[k]'hx6_1).key))) ++ [(58 : UInt8)]) ++ (itoaS (((l)[k]'hx6_1).val))).length = (fmtL (l.take (k + 1))).length from congrArg List.length hq6)
    exact le4 2 [] (k + 1) ((.pointer (ofs (bl b3_0) (0))) : Value) A111_3 c111_3 [1, 0] (h := by exact ⟨(by (try dsimp only); omega), (.inr rfl)⟩)
  refine go 3 [] ?_
  refine O.callg [.pointer (ofs (bl b3_0) (0))] rfl en64 rfl rfl (String_fn (l := fmtL (l.take k)) w_l5 hM_l5.size (hM_l5.builder 1 0 rfl rfl (by exact hi1_l5))) ?_
  rintro _ w13_0 ⟨rfl, hB13_0⟩
  have hM13_0 : Mem w w13_0 [] [] := mem_below hM_l5 hB13_0
  refine E1 3 [] (S (fmtL (l.take k))) ?_
  exact ⟨(congrArg S (by rw [fmtR_yes hv, take_all (by omega)])), (Mem.none hM13_0)⟩
end Go.Proofs.YtemejgglbhjodaaGreatDoor
end
section
namespace Go.Proofs.YtemejgglbhjodaaGreatDoor
open Go.Px
theorem mf77 : ManyF Tryz.prog 77 [.int .i64 0, .slice none 0 0, .bool false, .bool false, .bool false, .bool false, .bool false, .bool false, .bool false, .bool false, .bool false, .bool false, .bool false, .bool false, .bool false, .bool false, .bool false, .bool false, .int .i64 0] [(0, 2), (2, 16), (18, 1)] := ManyF.of (z := .agg #[.int .i64 0, .slice none 0 0, .bool false, .bool false, .bool false, .bool false, .bool false, .bool false, .bool false, .bool false, .bool false, .bool false, .bool false, .bool false, .bool false, .bool false, .bool false, .bool false, .int .i64 0]) (by kernel_rfl) rfl (by kernel_rfl)
instance ienl_encPg : EnL encPg 3 := ⟨encPg_len⟩
end Go.Proofs.YtemejgglbhjodaaGreatDoor
end
