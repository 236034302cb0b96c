/- Own layer: part of this seat (FD). Plain theorems; no conditions. -/
import Derived.Test.YtfdlmimgooeioaaDoorFC
set_option linter.unusedVariables false
set_option linter.unusedSimpArgs false
namespace Go.Proofs.YtfdlmimgooeioaaDoor
open Go.Px
theorem PageText_fn (T : TreeL) (at0 : Int) (w : World) (hNT : TrN w T) (hs : SzT T) (htab : TAB w) :
    Does Tryd.prog 22 [.agg #[I ((T).root), .slice ((T).A) ((T).l.length) ((T).cp)], I (at0)] w (fun v w1 => v = S (pgX (T).t at0) ∧ Mem w w1 [] []) := by
  have hM : Mem w w [] [] := Mem.refl
  refine Does.enter1 Tryd.func22 rfl Tryd.results22 Tryd.ntmps22 rfl ?_
  refine C.seq ?_
  have hs1 := hs.1
  refine C.region ?_
  refine O.mbox (k := 2) (vs := [I ((T).root), .slice ((T).A) ((T).l.length) ((T).cp)]) hM rfl rfl rfl rfl rfl (fun w0_0 b0_0 hb0_0 (hM0_0 : Mem w w0_0 [] [[⟨.slice (bl b0_0) 1 1, 39, 2, 1, [I ((T).root), .slice ((T).A) ((T).l.length) ((T).cp)]⟩]]) => ?_)
  refine O.val (v := S ([])) rfl (Ru.assign rfl) rfl ?_
  refine O.nil ?_
  refine C.seq ?_
  refine C.seq ?_
  refine C.region ?_
  refine O.val rfl (Ru.loadN (vs := [I ((T).root), .slice ((T).A) ((T).l.length) ((T).cp)]) el39 rfl rfl rfl ((mem_blk (i := 0) (j := 0) hM0_0 rfl rfl).lds (k := 0) rfl)) rfl ?_
  refine O.callg [.agg #[I ((T).root), .slice ((T).A) ((T).l.length) ((T).cp)]] rfl en31 rfl rfl (ValidTree_fn T w0_0 (hNT.at hM0_0) (by first | omega | assumption | (simp; omega) | simp | (intros; omega))) ?_
  rintro _ w1_1 ⟨rfl, hR1_1⟩
  have hM1_1 : Mem w w1_1 [] [[⟨.slice (bl b0_0) 1 1, 39, 2, 1, [I ((T).root), .slice ((T).A) ((T).l.length) ((T).cp)]⟩]] := Mem.call (Ma := []) hM0_0 hR1_1 rfl
  refine O.val (v := .bool (!(validT (T).t))) rfl (Ru.not rfl) rfl ?_
  refine O.val (v := .bool (!(validT (T).t))) rfl (Ru.move rfl) rfl ?_
  refine O.part 9 (!(validT (T).t)) rfl (fun g9 => ?_) (fun g9 => ?_)
  · refine O.pass rfl rfl rfl rfl rfl ?_
    refine O.pass rfl rfl rfl rfl rfl ?_
    refine O.val (v := .bool (true)) rfl (Ru.pickT rfl rfl) rfl ?_
    refine O.val (v := .bool (true)) rfl (Ru.move rfl) rfl ?_
    refine O.pass rfl rfl rfl rfl rfl ?_
    refine O.pass rfl rfl rfl rfl rfl ?_
    refine O.pass rfl rfl rfl rfl rfl ?_
    refine O.pass rfl rfl rfl rfl rfl ?_
    refine O.pass rfl rfl rfl rfl rfl ?_
    refine O.val (v := .bool (true)) rfl (Ru.pickT rfl rfl) rfl ?_
    refine O.nil ?_
    refine C.condT rfl ?_
    refine C.seq ?_
    refine C.region ?_
    refine O.val (v := S ([])) rfl (Ru.assign rfl) rfl ?_
    refine O.nil ?_
    refine C.ret ?_
    refine P1 (v := S ([])) rfl ?_
    exact ⟨(congrArg S (by rw [pgX_no (.inl (by simpa using g9))])), (Mem.none hM1_1)⟩
  · refine O.val (v := I (at0)) rfl (Ru.move rfl) rfl ?_
    refine O.val (v := .bool (decide (at0 < 0))) rfl (Ru.lss rfl rfl) rfl ?_
    refine O.val (v := .bool (decide (at0 < 0))) rfl (Ru.pickF rfl rfl) rfl ?_
    refine O.val (v := .bool (decide (at0 < 0))) rfl (Ru.move rfl) rfl ?_
    refine O.partp 13 (at0 < 0) rfl (fun g13 => ?_) (fun g13 => ?_)
    · refine O.pass rfl rfl rfl rfl rfl ?_
      refine O.pass rfl rfl rfl rfl rfl ?_
      refine O.pass rfl rfl rfl rfl rfl ?_
      refine O.pass rfl rfl rfl rfl rfl ?_
      refine O.pass rfl rfl rfl rfl rfl ?_
      refine O.val (v := .bool (true)) rfl (Ru.pickT rfl rfl) rfl ?_
      refine O.nil ?_
      refine C.condT rfl ?_
      refine C.seq ?_
      refine C.region ?_
      refine O.val (v := S ([])) rfl (Ru.assign rfl) rfl ?_
      refine O.nil ?_
      refine C.ret ?_
      refine P1 (v := S ([])) rfl ?_
      exact ⟨(congrArg S (by rw [pgX_no (.inr (by cases h9 : inT (T).t at0 with | false => rfl | true => (have := inT_t.1 h9; exfalso; omega)))])), (Mem.none hM1_1)⟩
    · refine O.val (v := I (at0)) rfl (Ru.move rfl) rfl ?_
      refine O.val (v := .pointer (ofs (bl b0_0) (1))) rfl (Ru.fieldA fl39_1 rfl rfl) rfl ?_
      refine O.val rfl (Ru.load1 el37 rfl ((hM1_1.rd 0 rfl).ld rfl)) rfl ?_
      refine O.val (v := I ((((T).l.length : Nat) : Int))) rfl (Ru.blenSlice Tryd.underlying37 rfl) rfl ?_
      refine O.val (v := .bool (decide (at0 ≥ (((T).l.length : Nat) : Int)))) rfl (Ru.geq rfl rfl) rfl ?_
      refine O.val (v := .bool (decide (at0 ≥ (((T).l.length : Nat) : Int)))) rfl (Ru.pickF rfl rfl) rfl ?_
      refine O.nil ?_
      refine C.cond (p := at0 ≥ (((T).l.length : Nat) : Int)) rfl (fun c19 => ?_) (fun c19 => ?_)
      · refine C.seq ?_
        refine C.region ?_
        refine O.val (v := S ([])) rfl (Ru.assign rfl) rfl ?_
        refine O.nil ?_
        refine C.ret ?_
        refine P1 (v := S ([])) rfl ?_
        exact ⟨(congrArg S (by rw [pgX_no (.inr (by cases h9 : inT (T).t at0 with | false => rfl | true => (have := inT_t.1 h9; exfalso; omega)))])), (Mem.none hM1_1)⟩
      · refine C.skip ?_
        refine C.seq ?_
        have hv : validT (T).t = true := by simpa using g9
        have hin : inT (T).t at0 = true := inT_t.2 (by omega)
        have hat := inT_t.1 hin
        obtain ⟨e9, lo9, hi9, he9, hok9⟩ := valid_page hv hin
        have hfb := (okB_iff.1 hok9).2.1
        have hl4 := fr_len hfb
        have hvk := validK_iff.1 (fr_keys hfb)
        have hkin := ok_kids_in hok9
        have hpl := (valid_len hv).2
        refine C.region ?_
        refine O.val (v := .pointer (ofs (bl b0_0) (1))) rfl (Ru.fieldA fl39_1 rfl rfl) rfl ?_
        refine O.val rfl (Ru.load1 el37 rfl ((hM1_1.rd 0 rfl).ld rfl)) rfl ?_
        refine O.val (v := I (at0)) rfl (Ru.move rfl) rfl ?_
        have hx3_3 : (at0).toNat < ((T).l).length := (by first | omega | (simp; omega))
        refine O.val (v := .pointer (ofs ((T).A) (((at0).toNat) * 3))) rfl (Ru.indexA (j := (at0).toNat) Tryd.underlying37 el58 rfl rfl (smf encPg_len (hNT.at hM1_1).1 hx3_3 rfl) (by omega) (by first | omega | (simp; omega))) rfl ?_
        refine O.val rfl (Ru.loadN (vs := [.slice ((((T).l)[(at0).toNat]'hx3_3).k.A) ((((T).l)[(at0).toNat]'hx3_3).k.l.length) ((((T).l)[(at0).toNat]'hx3_3).k.cp), .slice ((((T).l)[(at0).toNat]'hx3_3).c.A) ((((T).l)[(at0).toNat]'hx3_3).c.l.length) ((((T).l)[(at0).toNat]'hx3_3).c.cp), .slice ((((T).l)[(at0).toNat]'hx3_3).v.A) ((((T).l)[(at0).toNat]'hx3_3).v.l.length) ((((T).l)[(at0).toNat]'hx3_3).v.cp)]) el58 rfl rfl (smf encPg_len (hNT.at hM1_1).1 hx3_3 rfl) (ldn encPg_len (hNT.at hM1_1).1 hx3_3)) rfl ?_
        have hgp : gP (T).t at0 = ((T).l[(at0).toNat]'hx3_3).t := gP_at rfl hx3_3
        have hsz := hs.at hx3_3
        refine O.malloc (k := 3) hM1_1 rfl rfl el58 rfl (fun w3_5 b3_5 hb3_5 (hM3_5 : Mem w w3_5 [] [[⟨.slice (bl b3_5) 1 1, 58, 3, 1, [.slice (none) (0) (0), .slice (none) (0) (0), .slice (none) (0) (0)]⟩], [⟨.slice (bl b0_0) 1 1, 39, 2, 1, [I ((T).root), .slice ((T).A) ((T).l.length) ((T).cp)]⟩]]) => ?_)
        refine O.mstore (vs := [.slice ((((T).l)[(at0).toNat]'hx3_3).k.A) ((((T).l)[(at0).toNat]'hx3_3).k.l.length) ((((T).l)[(at0).toNat]'hx3_3).k.cp), .slice ((((T).l)[(at0).toNat]'hx3_3).c.A) ((((T).l)[(at0).toNat]'hx3_3).c.l.length) ((((T).l)[(at0).toNat]'hx3_3).c.cp), .slice ((((T).l)[(at0).toNat]'hx3_3).v.A) ((((T).l)[(at0).toNat]'hx3_3).v.l.length) ((((T).l)[(at0).toNat]'hx3_3).v.cp)]) (xs' := [.slice ((((T).l)[(at0).toNat]'hx3_3).k.A) ((((T).l)[(at0).toNat]'hx3_3).k.l.length) ((((T).l)[(at0).toNat]'hx3_3).k.cp), .slice ((((T).l)[(at0).toNat]'hx3_3).c.A) ((((T).l)[(at0).toNat]'hx3_3).c.l.length) ((((T).l)[(at0).toNat]'hx3_3).c.cp), .slice ((((T).l)[(at0).toNat]'hx3_3).v.A) ((((T).l)[(at0).toNat]'hx3_3).v.l.length) ((((T).l)[(at0).toNat]'hx3_3).v.cp)]) 0 0 hM3_5 rfl rfl rfl el58 rfl rfl rfl rfl rfl (by simp) (by simp) rfl rfl (fun w3_6 (hM3_6 : Mem w w3_6 [] [[⟨.slice (bl b3_5) 1 1, 58, 3, 1, [.slice ((((T).l)[(at0).toNat]'hx3_3).k.A) ((((T).l)[(at0).toNat]'hx3_3).k.l.length) ((((T).l)[(at0).toNat]'hx3_3).k.cp), .slice ((((T).l)[(at0).toNat]'hx3_3).c.A) ((((T).l)[(at0).toNat]'hx3_3).c.l.length) ((((T).l)[(at0).toNat]'hx3_3).c.cp), .slice ((((T).l)[(at0).toNat]'hx3_3).v.A) ((((T).l)[(at0).toNat]'hx3_3).v.l.length) ((((T).l)[(at0).toNat]'hx3_3).v.cp)]⟩], [⟨.slice (bl b0_0) 1 1, 39, 2, 1, [I ((T).root), .slice ((T).A) ((T).l.length) ((T).cp)]⟩]]) => ?_)
        refine O.nil ?_
        refine C.seq ?_
        refine C.seq ?_
        refine C.region ?_
        refine O.val (v := .pointer (ofs (bl b3_5) (1))) rfl (Ru.fieldA fl58_1 rfl rfl) rfl ?_
        refine O.val rfl (Ru.load1 el51 rfl ((hM3_6.rd 0 rfl).ld rfl)) rfl ?_
        refine O.val (v := I ((((((T).l)[(at0).toNat]'hx3_3).c.l.length : Nat) : Int))) rfl (Ru.blenSlice Tryd.underlying51 rfl) rfl ?_
        refine O.val (v := .bool (decide ((((((T).l)[(at0).toNat]'hx3_3).c.l.length : Nat) : Int) = 0))) rfl (Ru.eql rfl rfl) rfl ?_
        refine O.nil ?_
        refine C.cond (p := (((((T).l)[(at0).toNat]'hx3_3).c.l.length : Nat) : Int) = 0) rfl (fun c28 => ?_) (fun c28 => ?_)
        · have hk0 : (gP (T).t at0).kids = [] := by rw [hgp]; exact List.eq_nil_of_length_eq_zero (by show (((T).l[(at0).toNat]'hx3_3).c.l).length = 0; omega)
          have hvr := prs_valid hfb hk0
          rw [hgp] at hvr
          have hvl := (fr_leaf hfb hk0).1
          rw [hgp] at hvl
          have hte := pgX_leaf hv hin hk0
          rw [hgp] at hte
          have hfy := fmtR_yes hvr
          have hl5 : (((T).l[(at0).toNat]'hx3_3).k.l).length ≤ 4 := by rw [hgp] at hl4; exact hl4
          refine C.seq ?_
          refine C.region ?_
          refine O.val rfl (Ru.loadN (vs := [.slice ((((T).l)[(at0).toNat]'hx3_3).k.A) ((((T).l)[(at0).toNat]'hx3_3).k.l.length) ((((T).l)[(at0).toNat]'hx3_3).k.cp), .slice ((((T).l)[(at0).toNat]'hx3_3).c.A) ((((T).l)[(at0).toNat]'hx3_3).c.l.length) ((((T).l)[(at0).toNat]'hx3_3).c.cp), .slice ((((T).l)[(at0).toNat]'hx3_3).v.A) ((((T).l)[(at0).toNat]'hx3_3).v.l.length) ((((T).l)[(at0).toNat]'hx3_3).v.cp)]) el58 rfl rfl rfl ((mem_blk (i := 0) (j := 0) hM3_6 rfl rfl).lds (k := 0) rfl)) rfl ?_
          refine O.callg [.agg #[.slice ((((T).l)[(at0).toNat]'hx3_3).k.A) ((((T).l)[(at0).toNat]'hx3_3).k.l.length) ((((T).l)[(at0).toNat]'hx3_3).k.cp), .slice ((((T).l)[(at0).toNat]'hx3_3).c.A) ((((T).l)[(at0).toNat]'hx3_3).c.l.length) ((((T).l)[(at0).toNat]'hx3_3).c.cp), .slice ((((T).l)[(at0).toNat]'hx3_3).v.A) ((((T).l)[(at0).toNat]'hx3_3).v.l.length) ((((T).l)[(at0).toNat]'hx3_3).v.cp)]] rfl en58 rfl rfl (pairsOfLeaf_fn (((T).l)[(at0).toNat]'hx3_3) w3_6 (((hNT.at hM3_6)).2.get hx3_3) (by omega) (by exact hvl)) ?_
          rintro _ w5_1 ⟨A15_1, c15_1, rfl, hR5_1⟩
          have hM5_1 : Mem w w5_1 [] [[⟨.slice (A15_1) ((prsP ((((T).l)[(at0).toNat]'hx3_3)).t).length) (c15_1), 61, 2, ((prsP ((((T).l)[(at0).toNat]'hx3_3)).t).length), (prsP ((((T).l)[(at0).toNat]'hx3_3)).t).flatMap encP⟩], [⟨.slice (bl b3_5) 1 1, 58, 3, 1, [.slice ((((T).l)[(at0).toNat]'hx3_3).k.A) ((((T).l)[(at0).toNat]'hx3_3).k.l.length) ((((T).l)[(at0).toNat]'hx3_3).k.cp), .slice ((((T).l)[(at0).toNat]'hx3_3).c.A) ((((T).l)[(at0).toNat]'hx3_3).c.l.length) ((((T).l)[(at0).toNat]'hx3_3).c.cp), .slice ((((T).l)[(at0).toNat]'hx3_3).v.A) ((((T).l)[(at0).toNat]'hx3_3).v.l.length) ((((T).l)[(at0).toNat]'hx3_3).v.cp)]⟩], [⟨.slice (bl b0_0) 1 1, 39, 2, 1, [I ((T).root), .slice ((T).A) ((T).l.length) ((T).cp)]⟩]] := Mem.call (Ma := []) hM3_6 hR5_1 rfl
          have hcr5_1_0 := (hM5_1.cap 0 rfl).1
          refine O.callg [.slice (A15_1) ((prsP ((((T).l)[(at0).toNat]'hx3_3)).t).length) (c15_1)] rfl en16 rfl rfl (FormatRow_fn A15_1 c15_1 (prsP ((((T).l)[(at0).toNat]'hx3_3)).t) w5_1 (hM5_1.rd 0 rfl) (by first | omega | (simp; omega)) (tab_at htab hM5_1)) ?_
          rintro _ w5_2 ⟨rfl, hR5_2⟩
          have hM5_2 : Mem w w5_2 [] [[⟨.slice (A15_1) ((prsP ((((T).l)[(at0).toNat]'hx3_3)).t).length) (c15_1), 61, 2, ((prsP ((((T).l)[(at0).toNat]'hx3_3)).t).length), (prsP ((((T).l)[(at0).toNat]'hx3_3)).t).flatMap encP⟩], [⟨.slice (bl b3_5) 1 1, 58, 3, 1, [.slice ((((T).l)[(at0).toNat]'hx3_3).k.A) ((((T).l)[(at0).toNat]'hx3_3).k.l.length) ((((T).l)[(at0).toNat]'hx3_3).k.cp), .slice ((((T).l)[(at0).toNat]'hx3_3).c.A) ((((T).l)[(at0).toNat]'hx3_3).c.l.length) ((((T).l)[(at0).toNat]'hx3_3).c.cp), .slice ((((T).l)[(at0).toNat]'hx3_3).v.A) ((((T).l)[(at0).toNat]'hx3_3).v.l.length) ((((T).l)[(at0).toNat]'hx3_3).v.cp)]⟩], [⟨.slice (bl b0_0) 1 1, 39, 2, 1, [I ((T).root), .slice ((T).A) ((T).l.length) ((T).cp)]⟩]] := Mem.call (Ma := []) hM5_1 hR5_2 rfl
          refine O.val (v := S (fmtR (prsP ((((T).l)[(at0).toNat]'hx3_3)).t))) rfl (Ru.assign rfl) rfl ?_
          refine O.nil ?_
          refine C.ret ?_
          refine P1 (v := S (fmtR (prsP ((((T).l)[(at0).toNat]'hx3_3)).t))) rfl ?_
          exact ⟨(congrArg S (by rw [hte, hfy])), (Mem.none hM5_2)⟩
        · have hk0 : (gP (T).t at0).kids ≠ [] := by rw [hgp]; intro e9; exact absurd (show (((T).l[(at0).toNat]'hx3_3).c.l).length = 0 from congrArg List.length e9) (by omega)
          have hkl := (fr_in hfb hk0).2
          have hte := pgX_in hv hin hk0
          rw [hgp] at hte hkl hl4 hvk hkin
          have hl5 : (((T).l[(at0).toNat]'hx3_3).k.l).length ≤ 4 := hl4
          have hl6 : (((T).l[(at0).toNat]'hx3_3).c.l).length = (((T).l[(at0).toNat]'hx3_3).k.l).length + 1 := hkl
          have hb1 : ∀ x ∈ ((T).l[(at0).toNat]'hx3_3).k.l, -99999 ≤ x ∧ x ≤ 99999 := fun x hx => by have := hvk.1 x hx; omega
          have hb2 : ∀ x ∈ ((T).l[(at0).toNat]'hx3_3).c.l, -99999 ≤ x ∧ x ≤ 99999 := fun x hx => by have := hkin x hx; omega
          have hf1 := fmtI_len (l := ((T).l[(at0).toNat]'hx3_3).k.l) (fun x hx => by have := hb1 x hx; omega) _ (Nat.le_refl _)
          have hf2 := fmtI_len (l := ((T).l[(at0).toNat]'hx3_3).c.l) (fun x hx => by have := hb2 x hx; omega) _ (Nat.le_refl _)
          rw [List.take_length] at hf1 hf2
          refine C.skip ?_
          refine C.seq ?_
          refine C.draws (fun w2 => Mem w w2 [] [[⟨.slice (bl b3_5) 1 1, 58, 3, 1, [.slice ((((T).l)[(at0).toNat]'hx3_3).k.A) ((((T).l)[(at0).toNat]'hx3_3).k.l.length) ((((T).l)[(at0).toNat]'hx3_3).k.cp), .slice ((((T).l)[(at0).toNat]'hx3_3).c.A) ((((T).l)[(at0).toNat]'hx3_3).c.l.length) ((((T).l)[(at0).toNat]'hx3_3).c.cp), .slice ((((T).l)[(at0).toNat]'hx3_3).v.A) ((((T).l)[(at0).toNat]'hx3_3).v.l.length) ((((T).l)[(at0).toNat]'hx3_3).v.cp)]⟩], [⟨.slice (bl b0_0) 1 1, 39, 2, 1, [I ((T).root), .slice ((T).A) ((T).l.length) ((T).cp)]⟩]]) mixed (by kernel_rfl) (hM3_6.ext (kdrawn _)) ?_
          refine QO.val (v := .pointer (ofs (bl b3_5) (0))) rfl (fun w2 hw2 => Ru.fieldA fl58_0 rfl rfl) rfl ?_
          refine QO.val rfl (fun w2 hw2 => Ru.load1 el51 rfl ((hw2.rd 0 rfl).ld rfl)) rfl ?_
          refine QO.callg (v := S (fmtI ((((T).l)[(at0).toNat]'hx3_3).k.l))) [.slice ((((T).l)[(at0).toNat]'hx3_3).k.A) ((((T).l)[(at0).toNat]'hx3_3).k.l.length) ((((T).l)[(at0).toNat]'hx3_3).k.cp)] rfl en59 rfl rfl (fun w2 hw2 => (listText_fn ((((T).l)[(at0).toNat]'hx3_3).k.A) ((((T).l)[(at0).toNat]'hx3_3).k.cp) ((((T).l)[(at0).toNat]'hx3_3).k.l) w2 (((hNT.at hw2)).2.get hx3_3).1 (by omega) (by exact hb1) (tab_at htab hw2)).mono fun _ _ h => ⟨h.1, Mem.call0 hw2 h.2⟩) ?_
          refine QO.val (v := S ((fmtI ((((T).l)[(at0).toNat]'hx3_3).k.l) ++ [124]))) rfl (fun w2 hw2 => Ru.sadd rfl rfl (by first | omega | (simp; omega))) rfl ?_
          refine QO.val (v := .pointer (ofs (bl b3_5) (1))) rfl (fun w2 hw2 => Ru.fieldA fl58_1 rfl rfl) rfl ?_
          refine QO.val rfl (fun w2 hw2 => Ru.load1 el51 rfl ((hw2.rd 0 rfl).ld rfl)) rfl ?_
          refine QO.callg (v := S (fmtI ((((T).l)[(at0).toNat]'hx3_3).c.l))) [.slice ((((T).l)[(at0).toNat]'hx3_3).c.A) ((((T).l)[(at0).toNat]'hx3_3).c.l.length) ((((T).l)[(at0).toNat]'hx3_3).c.cp)] rfl en59 rfl rfl (fun w2 hw2 => (listText_fn ((((T).l)[(at0).toNat]'hx3_3).c.A) ((((T).l)[(at0).toNat]'hx3_3).c.cp) ((((T).l)[(at0).toNat]'hx3_3).c.l) w2 (((hNT.at hw2)).2.get hx3_3).2.1 (by omega) (by exact hb2) (tab_at htab hw2)).mono fun _ _ h => ⟨h.1, Mem.call0 hw2 h.2⟩) ?_
          refine QO.val (v := S (((fmtI ((((T).l)[(at0).toNat]'hx3_3).k.l) ++ [124]) ++ fmtI ((((T).l)[(at0).toNat]'hx3_3).c.l)))) rfl (fun w2 hw2 => Ru.sadd rfl rfl (by first | omega | (simp; omega))) rfl ?_
          refine QO.val (v := S (((fmtI ((((T).l)[(at0).toNat]'hx3_3).k.l) ++ [124]) ++ fmtI ((((T).l)[(at0).toNat]'hx3_3).c.l)))) rfl (fun w2 hw2 => Ru.assign rfl) rfl ?_
          refine QO.nil ?_
          intro w6d hM6d
          refine C.ret ?_
          refine P1 (v := S (((fmtI ((((T).l)[(at0).toNat]'hx3_3).k.l) ++ [124]) ++ fmtI ((((T).l)[(at0).toNat]'hx3_3).c.l)))) rfl ?_
          exact ⟨(congrArg S (by rw [hte]; simp [PgL.t])), (Mem.none hM6d)⟩

theorem sPageText_fn (T : TreeL) (at0 : Int) (w : World) (hNT : TrN w T) (hs : SzT T) :
    Does Tryd.prog 20 [.agg #[I ((T).root), .slice ((T).A) ((T).l.length) ((T).cp)], I (at0)] w (fun v w1 => v = S (pgX (T).t at0) ∧ Mem w w1 [] []) := by
  have hM : Mem w w [] [] := Mem.refl
  refine Does.enter1 Tryd.func20 rfl Tryd.results20 Tryd.ntmps20 rfl ?_
  refine C.seq ?_
  have hs1 := hs.1
  refine C.region ?_
  refine O.mbox (k := 2) (vs := [I ((T).root), .slice ((T).A) ((T).l.length) ((T).cp)]) hM rfl rfl rfl rfl rfl (fun w0_0 b0_0 hb0_0 (hM0_0 : Mem w w0_0 [] [[⟨.slice (bl b0_0) 1 1, 39, 2, 1, [I ((T).root), .slice ((T).A) ((T).l.length) ((T).cp)]⟩]]) => ?_)
  refine O.val (v := S ([])) rfl (Ru.assign rfl) rfl ?_
  refine O.nil ?_
  refine C.seq ?_
  refine C.seq ?_
  refine C.region ?_
  refine O.val rfl (Ru.loadN (vs := [I ((T).root), .slice ((T).A) ((T).l.length) ((T).cp)]) el39 rfl rfl rfl ((mem_blk (i := 0) (j := 0) hM0_0 rfl rfl).lds (k := 0) rfl)) rfl ?_
  refine O.callg [.agg #[I ((T).root), .slice ((T).A) ((T).l.length) ((T).cp)]] rfl en53 rfl rfl (svalidTree_fn T w0_0 (hNT.at hM0_0) (by first | omega | assumption | (simp; omega) | simp | (intros; omega))) ?_
  rintro _ w1_1 ⟨rfl, hR1_1⟩
  have hM1_1 : Mem w w1_1 [] [[⟨.slice (bl b0_0) 1 1, 39, 2, 1, [I ((T).root), .slice ((T).A) ((T).l.length) ((T).cp)]⟩]] := Mem.call (Ma := []) hM0_0 hR1_1 rfl
  refine O.val (v := .bool (!(validT (T).t))) rfl (Ru.not rfl) rfl ?_
  refine O.val (v := .bool (!(validT (T).t))) rfl (Ru.move rfl) rfl ?_
  refine O.part 9 (!(validT (T).t)) rfl (fun g9 => ?_) (fun g9 => ?_)
  · refine O.pass rfl rfl rfl rfl rfl ?_
    refine O.pass rfl rfl rfl rfl rfl ?_
    refine O.pass rfl rfl rfl rfl rfl ?_
    refine O.pass rfl rfl rfl rfl rfl ?_
    refine O.pass rfl rfl rfl rfl rfl ?_
    refine O.pass rfl rfl rfl rfl rfl ?_
    refine O.pass rfl rfl rfl rfl rfl ?_
    refine O.val (v := .bool (true)) rfl (Ru.pickT rfl rfl) rfl ?_
    refine O.nil ?_
    refine C.condT rfl ?_
    refine C.seq ?_
    refine C.region ?_
    refine O.val (v := S ([])) rfl (Ru.assign rfl) rfl ?_
    refine O.nil ?_
    refine C.ret ?_
    refine P1 (v := S ([])) rfl ?_
    exact ⟨(congrArg S (by rw [pgX_no (.inl (by simpa using g9))])), (Mem.none hM1_1)⟩
  · refine O.val (v := I (at0)) rfl (Ru.move rfl) rfl ?_
    refine O.val (v := .pointer (ofs (bl b0_0) (1))) rfl (Ru.fieldA fl39_1 rfl rfl) rfl ?_
    refine O.val rfl (Ru.load1 el37 rfl ((hM1_1.rd 0 rfl).ld rfl)) rfl ?_
    refine O.val (v := I ((((T).l.length : Nat) : Int))) rfl (Ru.blenSlice Tryd.underlying37 rfl) rfl ?_
    refine O.val (v := I (((((T).l.length : Nat) : Int) - 1))) rfl (Ru.sub rfl rfl (by omega)) rfl ?_
    refine O.callg [I (at0), I (0), I (((((T).l.length : Nat) : Int) - 1))] rfl en54 rfl rfl (inRange_fn at0 0 ((((T).l.length : Nat) : Int) - 1) w1_1 ) ?_
    rintro _ w1_9 ⟨rfl, hR1_9⟩
    have hM1_9 : Mem w w1_9 [] [[⟨.slice (bl b0_0) 1 1, 39, 2, 1, [I ((T).root), .slice ((T).A) ((T).l.length) ((T).cp)]⟩]] := Mem.call (Ma := []) hM1_1 hR1_9 rfl
    refine O.val (v := .bool (!(decide (0 ≤ at0) && decide (at0 ≤ ((((T).l.length : Nat) : Int) - 1))))) rfl (Ru.not rfl) rfl ?_
    refine O.val (v := .bool (!(decide (0 ≤ at0) && decide (at0 ≤ ((((T).l.length : Nat) : Int) - 1))))) rfl (Ru.pickF rfl rfl) rfl ?_
    refine O.nil ?_
    refine C.condn (b := (decide (0 ≤ at0) && decide (at0 ≤ ((((T).l.length : Nat) : Int) - 1)))) rfl (fun c17 => ?_) (fun c17 => ?_)
    · refine C.seq ?_
      refine C.region ?_
      refine O.val (v := S ([])) rfl (Ru.assign rfl) rfl ?_
      refine O.nil ?_
      refine C.ret ?_
      refine P1 (v := S ([])) rfl ?_
      exact ⟨(congrArg S (by rw [pgX_no (.inr (by cases h9 : inT (T).t at0 with | false => rfl | true => (have := inT_t.1 h9; exfalso; simp at c17; omega)))])), (Mem.none hM1_9)⟩
    · refine C.skip ?_
      refine C.seq ?_
      have hv : validT (T).t = true := by simpa using g9
      have hin : inT (T).t at0 = true := inT_t.2 (by simp at c17; omega)
      have hat := inT_t.1 hin
      obtain ⟨e9, lo9, hi9, he9, hok9⟩ := valid_page hv hin
      have hfb := (okB_iff.1 hok9).2.1
      have hl4 := fr_len hfb
      have hvk := validK_iff.1 (fr_keys hfb)
      have hkin := ok_kids_in hok9
      have hpl := (valid_len hv).2
      refine C.region ?_
      refine O.val (v := .pointer (ofs (bl b0_0) (1))) rfl (Ru.fieldA fl39_1 rfl rfl) rfl ?_
      refine O.val rfl (Ru.load1 el37 rfl ((hM1_9.rd 0 rfl).ld rfl)) rfl ?_
      refine O.val (v := I (at0)) rfl (Ru.move rfl) rfl ?_
      have hx3_3 : (at0).toNat < ((T).l).length := (by first | omega | (simp; omega))
      refine O.val (v := .pointer (ofs ((T).A) (((at0).toNat) * 3))) rfl (Ru.indexA (j := (at0).toNat) Tryd.underlying37 el58 rfl rfl (smf encPg_len (hNT.at hM1_9).1 hx3_3 rfl) (by omega) (by first | omega | (simp; omega))) rfl ?_
      refine O.val rfl (Ru.loadN (vs := [.slice ((((T).l)[(at0).toNat]'hx3_3).k.A) ((((T).l)[(at0).toNat]'hx3_3).k.l.length) ((((T).l)[(at0).toNat]'hx3_3).k.cp), .slice ((((T).l)[(at0).toNat]'hx3_3).c.A) ((((T).l)[(at0).toNat]'hx3_3).c.l.length) ((((T).l)[(at0).toNat]'hx3_3).c.cp), .slice ((((T).l)[(at0).toNat]'hx3_3).v.A) ((((T).l)[(at0).toNat]'hx3_3).v.l.length) ((((T).l)[(at0).toNat]'hx3_3).v.cp)]) el58 rfl rfl (smf encPg_len (hNT.at hM1_9).1 hx3_3 rfl) (ldn encPg_len (hNT.at hM1_9).1 hx3_3)) rfl ?_
      have hgp : gP (T).t at0 = ((T).l[(at0).toNat]'hx3_3).t := gP_at rfl hx3_3
      have hsz := hs.at hx3_3
      refine O.malloc (k := 3) hM1_9 rfl rfl el58 rfl (fun w3_5 b3_5 hb3_5 (hM3_5 : Mem w w3_5 [] [[⟨.slice (bl b3_5) 1 1, 58, 3, 1, [.slice (none) (0) (0), .slice (none) (0) (0), .slice (none) (0) (0)]⟩], [⟨.slice (bl b0_0) 1 1, 39, 2, 1, [I ((T).root), .slice ((T).A) ((T).l.length) ((T).cp)]⟩]]) => ?_)
      refine O.mstore (vs := [.slice ((((T).l)[(at0).toNat]'hx3_3).k.A) ((((T).l)[(at0).toNat]'hx3_3).k.l.length) ((((T).l)[(at0).toNat]'hx3_3).k.cp), .slice ((((T).l)[(at0).toNat]'hx3_3).c.A) ((((T).l)[(at0).toNat]'hx3_3).c.l.length) ((((T).l)[(at0).toNat]'hx3_3).c.cp), .slice ((((T).l)[(at0).toNat]'hx3_3).v.A) ((((T).l)[(at0).toNat]'hx3_3).v.l.length) ((((T).l)[(at0).toNat]'hx3_3).v.cp)]) (xs' := [.slice ((((T).l)[(at0).toNat]'hx3_3).k.A) ((((T).l)[(at0).toNat]'hx3_3).k.l.length) ((((T).l)[(at0).toNat]'hx3_3).k.cp), .slice ((((T).l)[(at0).toNat]'hx3_3).c.A) ((((T).l)[(at0).toNat]'hx3_3).c.l.length) ((((T).l)[(at0).toNat]'hx3_3).c.cp), .slice ((((T).l)[(at0).toNat]'hx3_3).v.A) ((((T).l)[(at0).toNat]'hx3_3).v.l.length) ((((T).l)[(at0).toNat]'hx3_3).v.cp)]) 0 0 hM3_5 rfl rfl rfl el58 rfl rfl rfl rfl rfl (by simp) (by simp) rfl rfl (fun w3_6 (hM3_6 : Mem w w3_6 [] [[⟨.slice (bl b3_5) 1 1, 58, 3, 1, [.slice ((((T).l)[(at0).toNat]'hx3_3).k.A) ((((T).l)[(at0).toNat]'hx3_3).k.l.length) ((((T).l)[(at0).toNat]'hx3_3).k.cp), .slice ((((T).l)[(at0).toNat]'hx3_3).c.A) ((((T).l)[(at0).toNat]'hx3_3).c.l.length) ((((T).l)[(at0).toNat]'hx3_3).c.cp), .slice ((((T).l)[(at0).toNat]'hx3_3).v.A) ((((T).l)[(at0).toNat]'hx3_3).v.l.length) ((((T).l)[(at0).toNat]'hx3_3).v.cp)]⟩], [⟨.slice (bl b0_0) 1 1, 39, 2, 1, [I ((T).root), .slice ((T).A) ((T).l.length) ((T).cp)]⟩]]) => ?_)
      refine O.nil ?_
      refine C.seq ?_
      refine C.seq ?_
      refine C.region ?_
      refine O.val (v := .pointer (ofs (bl b3_5) (1))) rfl (Ru.fieldA fl58_1 rfl rfl) rfl ?_
      refine O.val rfl (Ru.load1 el51 rfl ((hM3_6.rd 0 rfl).ld rfl)) rfl ?_
      refine O.val (v := I ((((((T).l)[(at0).toNat]'hx3_3).c.l.length : Nat) : Int))) rfl (Ru.blenSlice Tryd.underlying51 rfl) rfl ?_
      refine O.val (v := .bool (decide ((((((T).l)[(at0).toNat]'hx3_3).c.l.length : Nat) : Int) = 0))) rfl (Ru.eql rfl rfl) rfl ?_
      refine O.nil ?_
      refine C.cond (p := (((((T).l)[(at0).toNat]'hx3_3).c.l.length : Nat) : Int) = 0) rfl (fun c26 => ?_) (fun c26 => ?_)
      · have hk0 : (gP (T).t at0).kids = [] := by rw [hgp]; exact List.eq_nil_of_length_eq_zero (by show (((T).l[(at0).toNat]'hx3_3).c.l).length = 0; omega)
        have hvr := prs_valid hfb hk0
        rw [hgp] at hvr
        have hvl := (fr_leaf hfb hk0).1
        rw [hgp] at hvl
        have hte := pgX_leaf hv hin hk0
        rw [hgp] at hte
        have hfy := fmtR_yes hvr
        have hl5 : (((T).l[(at0).toNat]'hx3_3).k.l).length ≤ 4 := by rw [hgp] at hl4; exact hl4
        refine C.seq ?_
        refine C.region ?_
        refine O.val rfl (Ru.loadN (vs := [.slice ((((T).l)[(at0).toNat]'hx3_3).k.A) ((((T).l)[(at0).toNat]'hx3_3).k.l.length) ((((T).l)[(at0).toNat]'hx3_3).k.cp), .slice ((((T).l)[(at0).toNat]'hx3_3).c.A) ((((T).l)[(at0).toNat]'hx3_3).c.l.length) ((((T).l)[(at0).toNat]'hx3_3).c.cp), .slice ((((T).l)[(at0).toNat]'hx3_3).v.A) ((((T).l)[(at0).toNat]'hx3_3).v.l.length) ((((T).l)[(at0).toNat]'hx3_3).v.cp)]) el58 rfl rfl rfl ((mem_blk (i := 0) (j := 0) hM3_6 rfl rfl).lds (k := 0) rfl)) rfl ?_
        refine O.callg [.agg #[.slice ((((T).l)[(at0).toNat]'hx3_3).k.A) ((((T).l)[(at0).toNat]'hx3_3).k.l.length) ((((T).l)[(at0).toNat]'hx3_3).k.cp), .slice ((((T).l)[(at0).toNat]'hx3_3).c.A) ((((T).l)[(at0).toNat]'hx3_3).c.l.length) ((((T).l)[(at0).toNat]'hx3_3).c.cp), .slice ((((T).l)[(at0).toNat]'hx3_3).v.A) ((((T).l)[(at0).toNat]'hx3_3).v.l.length) ((((T).l)[(at0).toNat]'hx3_3).v.cp)]] rfl en55 rfl rfl (rowOf_fn (((T).l)[(at0).toNat]'hx3_3) w3_6 (((hNT.at hM3_6)).2.get hx3_3) (by omega) (by exact hvl)) ?_
        rintro _ w5_1 ⟨A15_1, c15_1, rfl, hR5_1⟩
        have hM5_1 : Mem w w5_1 [] [[⟨.slice (A15_1) ((prsP ((((T).l)[(at0).toNat]'hx3_3)).t).length) (c15_1), 61, 2, ((prsP ((((T).l)[(at0).toNat]'hx3_3)).t).length), (prsP ((((T).l)[(at0).toNat]'hx3_3)).t).flatMap encP⟩], [⟨.slice (bl b3_5) 1 1, 58, 3, 1, [.slice ((((T).l)[(at0).toNat]'hx3_3).k.A) ((((T).l)[(at0).toNat]'hx3_3).k.l.length) ((((T).l)[(at0).toNat]'hx3_3).k.cp), .slice ((((T).l)[(at0).toNat]'hx3_3).c.A) ((((T).l)[(at0).toNat]'hx3_3).c.l.length) ((((T).l)[(at0).toNat]'hx3_3).c.cp), .slice ((((T).l)[(at0).toNat]'hx3_3).v.A) ((((T).l)[(at0).toNat]'hx3_3).v.l.length) ((((T).l)[(at0).toNat]'hx3_3).v.cp)]⟩], [⟨.slice (bl b0_0) 1 1, 39, 2, 1, [I ((T).root), .slice ((T).A) ((T).l.length) ((T).cp)]⟩]] := Mem.call (Ma := []) hM3_6 hR5_1 rfl
        have hcr5_1_0 := (hM5_1.cap 0 rfl).1
        refine O.callg [.slice (A15_1) ((prsP ((((T).l)[(at0).toNat]'hx3_3)).t).length) (c15_1)] rfl en43 rfl rfl (rowText_fn A15_1 c15_1 (prsP ((((T).l)[(at0).toNat]'hx3_3)).t) w5_1 (hM5_1.rd 0 rfl) (by first | omega | (simp; omega)) (by exact valid_small hvr) (by first | omega | (simp; omega))) ?_
        rintro _ w5_2 ⟨rfl, hR5_2⟩
        have hM5_2 : Mem w w5_2 [] [[⟨.slice (A15_1) ((prsP ((((T).l)[(at0).toNat]'hx3_3)).t).length) (c15_1), 61, 2, ((prsP ((((T).l)[(at0).toNat]'hx3_3)).t).length), (prsP ((((T).l)[(at0).toNat]'hx3_3)).t).flatMap encP⟩], [⟨.slice (bl b3_5) 1 1, 58, 3, 1, [.slice ((((T).l)[(at0).toNat]'hx3_3).k.A) ((((T).l)[(at0).toNat]'hx3_3).k.l.length) ((((T).l)[(at0).toNat]'hx3_3).k.cp), .slice ((((T).l)[(at0).toNat]'hx3_3).c.A) ((((T).l)[(at0).toNat]'hx3_3).c.l.length) ((((T).l)[(at0).toNat]'hx3_3).c.cp), .slice ((((T).l)[(at0).toNat]'hx3_3).v.A) ((((T).l)[(at0).toNat]'hx3_3).v.l.length) ((((T).l)[(at0).toNat]'hx3_3).v.cp)]⟩], [⟨.slice (bl b0_0) 1 1, 39, 2, 1, [I ((T).root), .slice ((T).A) ((T).l.length) ((T).cp)]⟩]] := Mem.call (Ma := []) hM5_1 hR5_2 rfl
        refine O.val (v := S (fmtL (prsP ((((T).l)[(at0).toNat]'hx3_3)).t))) rfl (Ru.assign rfl) rfl ?_
        refine O.nil ?_
        refine C.ret ?_
        refine P1 (v := S (fmtL (prsP ((((T).l)[(at0).toNat]'hx3_3)).t))) rfl ?_
        exact ⟨(congrArg S (by rw [hte])), (Mem.none hM5_2)⟩
      · have hk0 : (gP (T).t at0).kids ≠ [] := by rw [hgp]; intro e9; exact absurd (show (((T).l[(at0).toNat]'hx3_3).c.l).length = 0 from congrArg List.length e9) (by omega)
        have hkl := (fr_in hfb hk0).2
        have hte := pgX_in hv hin hk0
        rw [hgp] at hte hkl hl4 hvk hkin
        have hl5 : (((T).l[(at0).toNat]'hx3_3).k.l).length ≤ 4 := hl4
        have hl6 : (((T).l[(at0).toNat]'hx3_3).c.l).length = (((T).l[(at0).toNat]'hx3_3).k.l).length + 1 := hkl
        have hb1 : ∀ x ∈ ((T).l[(at0).toNat]'hx3_3).k.l, -99999 ≤ x ∧ x ≤ 99999 := fun x hx => by have := hvk.1 x hx; omega
        have hb2 : ∀ x ∈ ((T).l[(at0).toNat]'hx3_3).c.l, -99999 ≤ x ∧ x ≤ 99999 := fun x hx => by have := hkin x hx; omega
        have hf1 := fmtI_len (l := ((T).l[(at0).toNat]'hx3_3).k.l) (fun x hx => by have := hb1 x hx; omega) _ (Nat.le_refl _)
        have hf2 := fmtI_len (l := ((T).l[(at0).toNat]'hx3_3).c.l) (fun x hx => by have := hb2 x hx; omega) _ (Nat.le_refl _)
        rw [List.take_length] at hf1 hf2
        refine C.skip ?_
        refine C.seq ?_
        refine C.draws (fun w2 => Mem w w2 [] [[⟨.slice (bl b3_5) 1 1, 58, 3, 1, [.slice ((((T).l)[(at0).toNat]'hx3_3).k.A) ((((T).l)[(at0).toNat]'hx3_3).k.l.length) ((((T).l)[(at0).toNat]'hx3_3).k.cp), .slice ((((T).l)[(at0).toNat]'hx3_3).c.A) ((((T).l)[(at0).toNat]'hx3_3).c.l.length) ((((T).l)[(at0).toNat]'hx3_3).c.cp), .slice ((((T).l)[(at0).toNat]'hx3_3).v.A) ((((T).l)[(at0).toNat]'hx3_3).v.l.length) ((((T).l)[(at0).toNat]'hx3_3).v.cp)]⟩], [⟨.slice (bl b0_0) 1 1, 39, 2, 1, [I ((T).root), .slice ((T).A) ((T).l.length) ((T).cp)]⟩]]) mixed (by kernel_rfl) (hM3_6.ext (kdrawn _)) ?_
        refine QO.val (v := .pointer (ofs (bl b3_5) (0))) rfl (fun w2 hw2 => Ru.fieldA fl58_0 rfl rfl) rfl ?_
        refine QO.val rfl (fun w2 hw2 => Ru.load1 el51 rfl ((hw2.rd 0 rfl).ld rfl)) rfl ?_
        refine QO.callg (v := S (fmtI ((((T).l)[(at0).toNat]'hx3_3).k.l))) [.slice ((((T).l)[(at0).toNat]'hx3_3).k.A) ((((T).l)[(at0).toNat]'hx3_3).k.l.length) ((((T).l)[(at0).toNat]'hx3_3).k.cp)] rfl en56 rfl rfl (fun w2 hw2 => (slistText_fn ((((T).l)[(at0).toNat]'hx3_3).k.A) ((((T).l)[(at0).toNat]'hx3_3).k.cp) ((((T).l)[(at0).toNat]'hx3_3).k.l) w2 (((hNT.at hw2)).2.get hx3_3).1 (by omega) (by exact hb1)).mono fun _ _ h => ⟨h.1, Mem.call0 hw2 h.2⟩) ?_
        refine QO.val (v := S ((fmtI ((((T).l)[(at0).toNat]'hx3_3).k.l) ++ [124]))) rfl (fun w2 hw2 => Ru.sadd rfl rfl (by first | omega | (simp; omega))) rfl ?_
        refine QO.val (v := .pointer (ofs (bl b3_5) (1))) rfl (fun w2 hw2 => Ru.fieldA fl58_1 rfl rfl) rfl ?_
        refine QO.val rfl (fun w2 hw2 => Ru.load1 el51 rfl ((hw2.rd 0 rfl).ld rfl)) rfl ?_
        refine QO.callg (v := S (fmtI ((((T).l)[(at0).toNat]'hx3_3).c.l))) [.slice ((((T).l)[(at0).toNat]'hx3_3).c.A) ((((T).l)[(at0).toNat]'hx3_3).c.l.length) ((((T).l)[(at0).toNat]'hx3_3).c.cp)] rfl en56 rfl rfl (fun w2 hw2 => (slistText_fn ((((T).l)[(at0).toNat]'hx3_3).c.A) ((((T).l)[(at0).toNat]'hx3_3).c.cp) ((((T).l)[(at0).toNat]'hx3_3).c.l) w2 (((hNT.at hw2)).2.get hx3_3).2.1 (by omega) (by exact hb2)).mono fun _ _ h => ⟨h.1, Mem.call0 hw2 h.2⟩) ?_
        refine QO.val (v := S (((fmtI ((((T).l)[(at0).toNat]'hx3_3).k.l) ++ [124]) ++ fmtI ((((T).l)[(at0).toNat]'hx3_3).c.l)))) rfl (fun w2 hw2 => Ru.sadd rfl rfl (by first | omega | (simp; omega))) rfl ?_
        refine QO.val (v := S (((fmtI ((((T).l)[(at0).toNat]'hx3_3).k.l) ++ [124]) ++ fmtI ((((T).l)[(at0).toNat]'hx3_3).c.l)))) rfl (fun w2 hw2 => Ru.assign rfl) rfl ?_
        refine QO.nil ?_
        intro w6d hM6d
        refine C.ret ?_
        refine P1 (v := S (((fmtI ((((T).l)[(at0).toNat]'hx3_3).k.l) ++ [124]) ++ fmtI ((((T).l)[(at0).toNat]'hx3_3).c.l)))) rfl ?_
        exact ⟨(congrArg S (by rw [hte]; simp [PgL.t])), (Mem.none hM6d)⟩

theorem sFormatTree_fn (T : TreeL) (w : World) (hNT : TrN w T) (hs : SzT T) :
    Does Tryd.prog 24 [.agg #[I ((T).root), .slice ((T).A) ((T).l.length) ((T).cp)]] w (fun v w1 => v = S (frX (T).t) ∧ Mem w w1 [] []) := by
  have hM : Mem w w [] [] := Mem.refl
  refine Does.enter1 Tryd.func24 rfl Tryd.results24 Tryd.ntmps24 rfl ?_
  refine C.seq ?_
  refine C.region ?_
  refine O.mbox (k := 2) (vs := [I ((T).root), .slice ((T).A) ((T).l.length) ((T).cp)]) hM rfl rfl rfl rfl rfl (fun w0_0 b0_0 hb0_0 (hM0_0 : Mem w w0_0 [] [[⟨.slice (bl b0_0) 1 1, 39, 2, 1, [I ((T).root), .slice ((T).A) ((T).l.length) ((T).cp)]⟩]]) => ?_)
  refine O.val (v := S ([])) rfl (Ru.assign rfl) rfl ?_
  refine O.nil ?_
  refine C.seq ?_
  refine C.seq ?_
  refine C.region ?_
  refine O.val rfl (Ru.loadN (vs := [I ((T).root), .slice ((T).A) ((T).l.length) ((T).cp)]) el39 rfl rfl rfl ((mem_blk (i := 0) (j := 0) hM0_0 rfl rfl).lds (k := 0) rfl)) rfl ?_
  refine O.callg [.agg #[I ((T).root), .slice ((T).A) ((T).l.length) ((T).cp)]] rfl en53 rfl rfl (svalidTree_fn T w0_0 (hNT.at hM0_0) (by first | omega | assumption | (simp; omega) | simp | (intros; omega))) ?_
  rintro _ w1_1 ⟨rfl, hR1_1⟩
  have hM1_1 : Mem w w1_1 [] [[⟨.slice (bl b0_0) 1 1, 39, 2, 1, [I ((T).root), .slice ((T).A) ((T).l.length) ((T).cp)]⟩]] := Mem.call (Ma := []) hM0_0 hR1_1 rfl
  refine O.val (v := .bool (!(validT (T).t))) rfl (Ru.not rfl) rfl ?_
  refine O.nil ?_
  refine C.condn (b := (validT (T).t)) rfl (fun c5 => ?_) (fun c5 => ?_)
  · refine C.seq ?_
    refine C.region ?_
    refine O.val (v := S ([])) rfl (Ru.assign rfl) rfl ?_
    refine O.nil ?_
    refine C.ret ?_
    refine P1 (v := S ([])) rfl ?_
    exact ⟨(congrArg S (by rw [frX_no (by simpa using c5)])), (Mem.none hM1_1)⟩
  · have hv : validT (T).t = true := by simpa using c5
    obtain ⟨hh3, hok, _⟩ := valid_ok hv
    have hp3 := pow3 hh3
    have hok0 : okB (T).t (heightT (T).t) (T).root 0 100 = true := hok
    refine C.skip ?_
    refine C.seq ?_
    refine C.region ?_
    refine O.val rfl (Ru.loadN (vs := [I ((T).root), .slice ((T).A) ((T).l.length) ((T).cp)]) el39 rfl rfl rfl ((mem_blk (i := 0) (j := 0) hM1_1 rfl rfl).lds (k := 0) rfl)) rfl ?_
    refine O.val (v := .pointer (ofs (bl b0_0) (0))) rfl (Ru.fieldA fl39_0 rfl rfl) rfl ?_
    refine O.val rfl (Ru.load1 el3 rfl ((hM1_1.rd 0 rfl).ld rfl)) rfl ?_
    refine O.callg [.agg #[I ((T).root), .slice ((T).A) ((T).l.length) ((T).cp)], I ((T).root)] rfl en61 rfl rfl (pageText_fn (heightT (T).t) T ((T).root) 0 100 w1_1 (hNT.at hM1_1) (by first | omega | assumption | (simp; omega) | simp | (intros; omega)) (by exact hok0) (by exact hh3)) ?_
    rintro _ w3_3 ⟨rfl, hR3_3⟩
    have hM3_3 : Mem w w3_3 [] [[⟨.slice (bl b0_0) 1 1, 39, 2, 1, [I ((T).root), .slice ((T).A) ((T).l.length) ((T).cp)]⟩]] := Mem.call (Ma := []) hM1_1 hR3_3 rfl
    refine O.val (v := S (textT (T).t (heightT (T).t) ((T).root))) rfl (Ru.assign rfl) rfl ?_
    refine O.nil ?_
    refine C.ret ?_
    refine P1 (v := S (textT (T).t (heightT (T).t) ((T).root))) rfl ?_
    exact ⟨(congrArg S (by rw [frX_yes hv]; rfl)), (Mem.none hM3_3)⟩

theorem FormatTree_fn (T : TreeL) (w : World) (hNT : TrN w T) (hs : SzT T) (htab : TAB w) :
    Does Tryd.prog 25 [.agg #[I ((T).root), .slice ((T).A) ((T).l.length) ((T).cp)]] w (fun v w1 => v = S (frX (T).t) ∧ Mem w w1 [] []) := by
  have hM : Mem w w [] [] := Mem.refl
  refine Does.enter1 Tryd.func25 rfl Tryd.results25 Tryd.ntmps25 rfl ?_
  refine C.seq ?_
  refine C.region ?_
  refine O.mbox (k := 2) (vs := [I ((T).root), .slice ((T).A) ((T).l.length) ((T).cp)]) hM rfl rfl rfl rfl rfl (fun w0_0 b0_0 hb0_0 (hM0_0 : Mem w w0_0 [] [[⟨.slice (bl b0_0) 1 1, 39, 2, 1, [I ((T).root), .slice ((T).A) ((T).l.length) ((T).cp)]⟩]]) => ?_)
  refine O.val (v := S ([])) rfl (Ru.assign rfl) rfl ?_
  refine O.nil ?_
  refine C.seq ?_
  refine C.seq ?_
  refine C.region ?_
  refine O.val rfl (Ru.loadN (vs := [I ((T).root), .slice ((T).A) ((T).l.length) ((T).cp)]) el39 rfl rfl rfl ((mem_blk (i := 0) (j := 0) hM0_0 rfl rfl).lds (k := 0) rfl)) rfl ?_
  refine O.callg [.agg #[I ((T).root), .slice ((T).A) ((T).l.length) ((T).cp)]] rfl en31 rfl rfl (ValidTree_fn T w0_0 (hNT.at hM0_0) (by first | omega | assumption | (simp; omega) | simp | (intros; omega))) ?_
  rintro _ w1_1 ⟨rfl, hR1_1⟩
  have hM1_1 : Mem w w1_1 [] [[⟨.slice (bl b0_0) 1 1, 39, 2, 1, [I ((T).root), .slice ((T).A) ((T).l.length) ((T).cp)]⟩]] := Mem.call (Ma := []) hM0_0 hR1_1 rfl
  refine O.val (v := .bool (!(validT (T).t))) rfl (Ru.not rfl) rfl ?_
  refine O.nil ?_
  refine C.condn (b := (validT (T).t)) rfl (fun c6 => ?_) (fun c6 => ?_)
  · refine C.seq ?_
    refine C.region ?_
    refine O.val (v := S ([])) rfl (Ru.assign rfl) rfl ?_
    refine O.nil ?_
    refine C.ret ?_
    refine P1 (v := S ([])) rfl ?_
    exact ⟨(congrArg S (by rw [frX_no (by simpa using c6)])), (Mem.none hM1_1)⟩
  · have hv : validT (T).t = true := by simpa using c6
    obtain ⟨hh3, hok, _⟩ := valid_ok hv
    have hp3 := pow3 hh3
    have hok0 : okB (T).t (heightT (T).t) (T).root 0 100 = true := hok
    refine C.skip ?_
    refine C.seq ?_
    refine C.region ?_
    refine O.malloc (k := 2) hM1_1 rfl rfl el66 rfl (fun w3_0 b3_0 hb3_0 (hM3_0 : Mem w w3_0 [] [[⟨.slice (bl b3_0) 1 1, 66, 2, 1, [(.pointer none), .slice (none) (0) (0)]⟩], [⟨.slice (bl b0_0) 1 1, 39, 2, 1, [I ((T).root), .slice ((T).A) ((T).l.length) ((T).cp)]⟩]]) => ?_)
    refine O.nil ?_
    refine C.seq ?_
    refine C.region ?_
    refine O.val rfl (Ru.loadN (vs := [I ((T).root), .slice ((T).A) ((T).l.length) ((T).cp)]) el39 rfl rfl rfl ((mem_blk (i := 1) (j := 0) hM3_0 rfl rfl).lds (k := 0) rfl)) rfl ?_
    refine O.val (v := .pointer (ofs (bl b0_0) (0))) rfl (Ru.fieldA fl39_0 rfl rfl) rfl ?_
    refine O.val rfl (Ru.load1 el3 rfl ((hM3_0.rd 1 rfl).ld rfl)) rfl ?_
    have hMn1 : Mem w w3_0 [] [[⟨.slice (none) (0) (0), 5, 1, 0, ([]).map byteV⟩], [⟨.slice (bl b3_0) 1 1, 66, 2, 1, [(.pointer none), .slice (none) (0) (0)]⟩], [⟨.slice (bl b0_0) 1 1, 39, 2, 1, [I ((T).root), .slice ((T).A) ((T).l.length) ((T).cp)]⟩]] := Mem.addNil hM3_0
    have hMf4_3 : Mem w w3_0 [] [[⟨.slice (bl b3_0) 1 1, 66, 2, 1, [(.pointer none), .slice (none) (0) (0)]⟩], [⟨.slice (none) (0) (0), 5, 1, 0, ([]).map byteV⟩], [⟨.slice (bl b0_0) 1 1, 39, 2, 1, [I ((T).root), .slice ((T).A) ((T).l.length) ((T).cp)]⟩]] := hMn1.pick [1, 0, 2] (by decide) rfl
    refine O.callg [.agg #[I ((T).root), .slice ((T).A) ((T).l.length) ((T).cp)], I ((T).root), .pointer (ofs (bl b3_0) (0))] rfl en62 rfl rfl (textBelow_fn (heightT (T).t) T ((T).root) b3_0 none 0 [] (.pointer none) 0 100 w3_0 (hNT.at hMf4_3) (TrO.cons (TrO.old hMf4_3 hNT 0 rfl) (TrO.cons (TrO.old hMf4_3 hNT 1 rfl) TrO.nil)) (Mem.focus (Ma := [[⟨.slice (bl b3_0) 1 1, 66, 2, 1, [(.pointer none), .slice (none) (0) (0)]⟩], [⟨.slice (none) (0) (0), 5, 1, 0, ([]).map byteV⟩]]) (rest := [[⟨.slice (bl b0_0) 1 1, 39, 2, 1, [I ((T).root), .slice ((T).A) ((T).l.length) ((T).cp)]⟩]]) hMf4_3 rfl) (by first | exact .inl rfl | exact .inr rfl | assumption) (by first | omega | assumption | (simp; omega) | simp | (intros; omega)) (by exact hok0) (by exact hh3) (by first | omega | (simp; omega)) (tab_at htab hMf4_3) (TabO.cons (TabO.old htab hMf4_3 0 rfl) (TabO.cons (TabO.old htab hMf4_3 1 rfl) TabO.nil))) ?_
    rintro _ w4_3 ⟨A14_3, c14_3, rfl, hR4_3⟩
    have hM4_3 : Mem w w4_3 [] [[⟨.slice (bl b3_0) 1 1, 66, 2, 1, [.pointer (ofs (bl b3_0) (0)), .slice (A14_3) (([] ++ textT (T).t (heightT (T).t) ((T).root)).length) (c14_3)]⟩], [⟨.slice (A14_3) (([] ++ textT (T).t (heightT (T).t) ((T).root)).length) (c14_3), 5, 1, (([] ++ textT (T).t (heightT (T).t) ((T).root)).length), ([] ++ textT (T).t (heightT (T).t) ((T).root)).map byteV⟩], [⟨.slice (bl b0_0) 1 1, 39, 2, 1, [I ((T).root), .slice ((T).A) ((T).l.length) ((T).cp)]⟩]] := Mem.call (Ma := [[⟨.slice (bl b3_0) 1 1, 66, 2, 1, [(.pointer none), .slice (none) (0) (0)]⟩], [⟨.slice (none) (0) (0), 5, 1, 0, ([]).map byteV⟩]]) hMf4_3 hR4_3 rfl
    have hcr4_3_1 := (hM4_3.cap 1 rfl).1
    refine O.nil ?_
    refine C.seq ?_
    refine C.region ?_
    refine O.callg [.pointer (ofs (bl b3_0) (0))] rfl en48 rfl rfl (String_fn (l := [] ++ textT (T).t (heightT (T).t) ((T).root)) w4_3 hM4_3.size (hM4_3.builder 0 1 rfl rfl (by first | exact .inl rfl | exact .inr rfl | assumption))) ?_
    rintro _ w5_0 ⟨rfl, hB5_0⟩
    have hM5_0 : Mem w w5_0 [] [] := mem_below hM4_3 hB5_0
    refine O.val (v := S ([] ++ textT (T).t (heightT (T).t) ((T).root))) rfl (Ru.assign rfl) rfl ?_
    refine O.nil ?_
    refine C.ret ?_
    refine P1 (v := S ([] ++ textT (T).t (heightT (T).t) ((T).root))) rfl ?_
    exact ⟨(congrArg S (by rw [frX_yes hv]; first | rfl | (simp; done))), (Mem.none hM5_0)⟩
end Go.Proofs.YtfdlmimgooeioaaDoor
