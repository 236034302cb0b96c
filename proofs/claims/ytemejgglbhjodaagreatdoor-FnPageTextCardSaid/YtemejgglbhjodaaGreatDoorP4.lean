/- Own layer, part 5: plain theorems on the walk of this program's functions and on what they compute; no conditions. -/
import Derived.Test.YtemejgglbhjodaaGreatDoorP3
import Derived.Shelf.Strconv.Atoi
import Derived.Shelf.Strconv.AtoiErr
import Derived.Shelf.Strings.Cut
import Derived.Shelf.Strings.Split
import Derived.Lib.AtoiBound
import Derived.Handed
import Derived.Shelf.Vars
import Derived.Stop.LaidErr
import Derived.MakeChecks
import Derived.Lib.LaidTab
set_option linter.unusedVariables false
set_option linter.unusedSimpArgs false
section
namespace Go.Proofs.YtemejgglbhjodaaGreatDoor
open Go.Px
theorem heightOf_fn (T : TreeL) (w : World) (hNT : TrN w T) (hs : SzT T) :
    Does Tryz.prog 89 [.agg #[I ((T).root), .slice ((T).A) ((T).l.length) ((T).cp)]] w (fun v w1 => v = I (((heightT (T).t : Nat) : Int)) ∧ Mem w w1 [] []) := by
  have hM : Mem w w [] [] := Mem.refl
  refine Does.n1 Tryz.func89 rfl Tryz.results89 Tryz.ntmps89 rfl ?_
  have hs1 := hs.1
  refine Bx 2 [] fun w0_0 b0_0 hb0_0 hM0_0 => ?_
  refine lp2 14 [0] (fun (n : Nat) (a : Int) => ([(3, Vi (((n : Nat) : Int))), (4, Vi (a))] : List (Nat × SV))) (fun (n : Nat) (a : Int) => (1 ≤ n ∧ n ≤ 4) ∧ (heightT (T).t = n + hgt (T).t (4 - n) a)) (fun (n : Nat) (a : Int) => []) (fun (n : Nat) (a : Int) => 4 - n) [1] [] [0] 1 ((T).root) (fun n a σ w_l3 hI hM_l3 => ?_) (h0 := ⟨(by (try dsimp only); omega), rfl⟩)
  obtain ⟨hi0_l3, hi1_l3⟩ := hI
  refine pp 6 [] 9 (fun g9 => ?_) (fun g9 => ?_)
  · refine ov 4 [0] (a := ksub) (b := ?_)
    refine cp 0 [] (b := inRange_fn _ _ _ w_l3 ) (c := fun w3_8 hM3_8 => ?_)
    refine pt 2 [] 17 (fun g17 => ?_) (fun g17 => ?_)
    · have hin : inT (T).t a = true := inT_t.2 (by simp only [Bool.and_eq_true, decide_eq_true_eq] at g17; omega)
      have hx3_14 : (a).toNat < ((T).l).length := (by have := inT_t.1 hin; omega)
      refine ov 3 [0] (a := kixF hx3_14 (hNT.at hM3_8).1 (h0 := by have := inT_t.1 hin; omega)) (b := ?_)
      have hki : (gP (T).t a).kids = (((T).l[(a).toNat]'hx3_14)).c.l := by rw [gP_at rfl hx3_14]; rfl
      refine ov 0 [] (a := kflF hx3_14 (hNT.at hM3_8).1) (b := ?_)
      refine ov 0 [] (a := kldF hx3_14 (hNT.at hM3_8).1) (b := ?_)
      refine cd 4 [] (fun c26 => ?_) (fun c26 => ?_)
      · have hx4_3 : (a).toNat < ((T).l).length := (by have := inT_t.1 hin; omega)
        refine ov 7 [0] (a := kixF hx4_3 (hNT.at hM3_8).1 (h0 := by have := inT_t.1 hin; omega)) (b := ?_)
        refine ov 0 [] (a := kflF hx4_3 (hNT.at hM3_8).1) (b := ?_)
        refine ov 0 [] (a := kldF hx4_3 (hNT.at hM3_8).1) (b := ?_)
        have hx4_6 : 0 < ((((T).l)[(a).toNat]'hx4_3).c.l).length := (by omega)
        refine ov 0 [] (a := kixM hx4_6 (((hNT.at hM3_8)).2.get hx4_3).2.1) (b := ?_)
        refine ov 0 [] (a := kldM hx4_6 (((hNT.at hM3_8)).2.get hx4_3).2.1) (b := ?_)
        have hgo := hgt_go (T := (T).t) (f := 4 - n - 1) hin (by rw [hki]; intro e9; rw [e9] at hx4_6; simp at hx4_6)
        rw [show 4 - n - 1 + 1 = 4 - n by omega, hki, getD_in hx4_6] at hgo
        refine ov 4 [] (a := kaddN (n + 1)) (b := ?_)
        exact le2 2 [] (n + 1) (((((T).l)[(a).toNat]'hx4_3).c.l)[0]'hx4_6) [0] (h := by exact ⟨(by (try dsimp only); omega), (by (try dsimp only); rw [hgo] at hi1_l3; rw [hi1_l3, show 4 - (n + 1) = 4 - n - 1 by omega]; omega)⟩)
      · refine E1 7 [] (I (((n : Nat) : Int))) ?_
        have hz : hgt (T).t (4 - n) a = 0 := by first | (rw [show 4 - n = 0 by omega]; rfl) | exact hgt_stop (.inr (by rw [hki]; exact List.eq_nil_of_length_eq_zero (by omega))) | (refine hgt_stop (.inl ?_); cases h9 : inT (T).t a with | false => rfl | true => (have := inT_t.1 h9; exfalso; simp at g17; omega))
        exact ⟨(I_congr (by rw [hi1_l3, hz]; simp)), (Mem.none hM3_8)⟩
    · refine E1 18 [] (I (((n : Nat) : Int))) ?_
      have hz : hgt (T).t (4 - n) a = 0 := by first | (rw [show 4 - n = 0 by omega]; rfl) | exact hgt_stop (.inr (by rw [hki]; exact List.eq_nil_of_length_eq_zero (by omega))) | (refine hgt_stop (.inl ?_); cases h9 : inT (T).t a with | false => rfl | true => (have := inT_t.1 h9; exfalso; simp at g17; omega))
      exact ⟨(I_congr (by rw [hi1_l3, hz]; simp)), (Mem.none hM3_8)⟩
  · refine E1 26 [] (I (((n : Nat) : Int))) ?_
    have hz : hgt (T).t (4 - n) a = 0 := by first | (rw [show 4 - n = 0 by omega]; rfl) | exact hgt_stop (.inr (by rw [hki]; exact List.eq_nil_of_length_eq_zero (by omega))) | (refine hgt_stop (.inl ?_); cases h9 : inT (T).t a with | false => rfl | true => (have := inT_t.1 h9; exfalso; simp at g17; omega))
    exact ⟨(I_congr (by rw [hi1_l3, hz]; simp)), (Mem.none hM_l3)⟩
theorem pageFits0_fn : ∀ (T : TreeL) (at0 : Int) (low : Int) (hi : Int) (dp : Int) (w : World) (hNT : TrN w T) (hs : SzT T) (hat : 0 ≤ at0 ∧ at0 < ((T).l.length : Int)) (hd : dp = (0 : Int)) (h1 : 1 ≤ 0) (h3 : 0 ≤ 3), Does Tryz.prog 90 [.agg #[I ((T).root), .slice ((T).A) ((T).l.length) ((T).cp)], I (at0), I (low), I (hi), I (dp)] w (fun v w1 => v = .bool (fitS (T).t 0 at0 low hi) ∧ Mem w w1 [] []) := by
  intro T at0 low hi dp w hNT hs hat hd h1 h3; exact absurd h1 (by omega)
set_option maxHeartbeats 4000000 in
theorem pageFitsS_fn (n : Nat) (ih_fn : ∀ (T : TreeL) (at0 : Int) (low : Int) (hi : Int) (dp : Int) (w : World) (hNT : TrN w T) (hs : SzT T) (hat : 0 ≤ at0 ∧ at0 < ((T).l.length : Int)) (hd : dp = (n : Int)) (h1 : 1 ≤ n) (h3 : n ≤ 3), Does Tryz.prog 90 [.agg #[I ((T).root), .slice ((T).A) ((T).l.length) ((T).cp)], I (at0), I (low), I (hi), I (dp)] w (fun v w1 => v = .bool (fitS (T).t n at0 low hi) ∧ Mem w w1 [] [])) (T : TreeL) (at0 : Int) (low : Int) (hi : Int) (dp : Int) (w : World) (hNT : TrN w T) (hs : SzT T) (hat : 0 ≤ at0 ∧ at0 < ((T).l.length : Int)) (hd : dp = ((n + 1) : Int)) (h1 : 1 ≤ (n + 1)) (h3 : (n + 1) ≤ 3) :
    Does Tryz.prog 90 [.agg #[I ((T).root), .slice ((T).A) ((T).l.length) ((T).cp)], I (at0), I (low), I (hi), I (dp)] w (fun v w1 => v = .bool (fitS (T).t (n + 1) at0 low hi) ∧ Mem w w1 [] []) := by
  have hM : Mem w w [] [] := Mem.refl
  refine Does.n1 Tryz.func90 rfl Tryz.results90 Tryz.ntmps90 rfl ?_
  have hs1 := hs.1
  refine Bx 2 [] fun w0_0 b0_0 hb0_0 hM0_0 => ?_
  have hx1_3 : (at0).toNat < ((T).l).length := (by first | omega | (simp; omega))
  refine ov 7 [0] (a := kixF hx1_3 (hNT.at hM0_0).1) (b := ?_)
  refine ov 0 [] (a := kldN hx1_3 (hNT.at hM0_0).1) (b := ?_)
  have hgp : gP (T).t at0 = (((T).l[(at0).toNat]'hx1_3)).t := gP_at rfl hx1_3
  have hsz := hs.at hx1_3
  have hfl := fit_L (T := (T).t) (d := n) (i := at0) (low := low) (hi := hi)
  rw [hgp] at hfl
  refine Al 0 [] fun w1_5 b1_5 hb1_5 hM1_5 => ?_
  refine Sb 0 [] 0 fun w1_6 hM1_6 => ?_
  refine cq 6 [0] (vs := [.slice ((((T).l)[(at0).toNat]'hx1_3).k.A) (((((T).l)[(at0).toNat]'hx1_3).k.l).length) ((((T).l)[(at0).toNat]'hx1_3).k.cp)]) (hvs := (by first | rfl | (rw [show ((((T).l)[(at0).toNat]'hx1_3).k.l).length = (((T).l)[(at0).toNat]'hx1_3).k.l.length from (by first | rfl | (simp; done) | omega | (simp; omega))]; rfl))) (b := validKeys_fn ((((T).l)[(at0).toNat]'hx1_3).k.A) ((((T).l)[(at0).toNat]'hx1_3).k.cp) ((((T).l)[(at0).toNat]'hx1_3).k.l) w1_6 (((hNT.at hM1_6)).2.get hx1_3).1 qo) (c := ?_)
  rintro _ w2_2 ⟨rfl, hR2_2⟩
  have hM2_2 := hM1_6.cl 0 hR2_2
  refine pt 2 [] 24 (fun g24 => ?_) (fun g24 => ?_)
  · refine E1 32 [] (.bool (false)) ?_
    exact ⟨(by rw [hfl, fit_n1 (show validK (((T).l[(at0).toNat]'hx1_3)).t.keys = false from (show validK ((((T).l[(at0).toNat]'hx1_3)).k.l) = false from (by simpa using g24)))]), (Mem.none hM2_2)⟩
  · refine pp 6 [0] 30 (fun g30 => ?_) (fun g30 => ?_)
    · refine E1 26 [] (.bool (false)) ?_
      exact ⟨(by rw [hfl, fit_n2 (by show ¬ ((((T).l[(at0).toNat]'hx1_3)).k.l).length ≤ 4; omega)]), (Mem.none hM2_2)⟩
    · refine cq 4 [0] (vs := [.slice ((((T).l)[(at0).toNat]'hx1_3).k.A) (((((T).l)[(at0).toNat]'hx1_3).k.l).length) ((((T).l)[(at0).toNat]'hx1_3).k.cp), I (low), I (hi)]) (hvs := (by first | rfl | (rw [show ((((T).l)[(at0).toNat]'hx1_3).k.l).length = (((T).l)[(at0).toNat]'hx1_3).k.l.length from (by first | rfl | (simp; done) | omega | (simp; omega))]; rfl))) (b := allIn_fn ((((T).l)[(at0).toNat]'hx1_3).k.A) ((((T).l)[(at0).toNat]'hx1_3).k.cp) ((((T).l)[(at0).toNat]'hx1_3).k.l) _ _ w2_2 (((hNT.at hM2_2)).2.get hx1_3).1 qo) (c := ?_)
      rintro _ w2_15 ⟨rfl, hR2_15⟩
      have hM2_15 := hM2_2.cl 0 hR2_15
      refine pt 3 [] 38 (fun g38 => ?_) (fun g38 => ?_)
      · refine E1 18 [] (.bool (false)) ?_
        exact ⟨(by rw [hfl, fit_n3 (show allIn (((T).l[(at0).toNat]'hx1_3)).t.keys low hi = false from (show allIn ((((T).l[(at0).toNat]'hx1_3)).k.l) low hi = false from (by simp only [allIn]; simpa using g38)))]), (Mem.none hM2_15)⟩
      · refine pp 5 [1] 43 (fun g43 => ?_) (fun g43 => ?_)
        · refine cd 7 [0] (fun c49 => ?_) (fun c49 => ?_)
          · refine E1 5 [] (.bool (false)) ?_
            exact ⟨(by rw [hfl, fit_n4 (T := (T).t) (show at0 ≠ (T).t.root from g43) (by show ¬ 2 ≤ ((((T).l[(at0).toNat]'hx1_3)).k.l).length; omega)]), (Mem.none hM2_15)⟩
          · have hvk : validK (((T).l[(at0).toNat]'hx1_3)).t.keys = true := by show validK ((((T).l[(at0).toNat]'hx1_3)).k.l) = true; simpa using g24
            have h4 : (((T).l[(at0).toNat]'hx1_3)).t.keys.length ≤ 4 := by show ((((T).l[(at0).toNat]'hx1_3)).k.l).length ≤ 4; omega
            have hai : allIn (((T).l[(at0).toNat]'hx1_3)).t.keys low hi = true := by show allIn ((((T).l[(at0).toNat]'hx1_3)).k.l) low hi = true; simp only [allIn]; simpa using g38
            have hr : at0 = (T).t.root ∨ 2 ≤ (((T).l[(at0).toNat]'hx1_3)).t.keys.length := by first | (left; exact Classical.not_not.1 g43) | (left; simpa using g43) | (right; show 2 ≤ ((((T).l[(at0).toNat]'hx1_3)).k.l).length; omega)
            refine cd 7 [] (fun c51 => ?_) (fun c51 => ?_)
            · have hn0 : n = 0 := by omega
              subst hn0
              refine pp 7 [0] 56 (fun g56 => ?_) (fun g56 => ?_)
              · refine pp 9 [0, 0] 65 (fun g65 => ?_) (fun g65 => ?_)
                · refine cq 2 [0] (vs := [.slice ((((T).l)[(at0).toNat]'hx1_3).v.A) (((((T).l)[(at0).toNat]'hx1_3).v.l).length) ((((T).l)[(at0).toNat]'hx1_3).v.cp), I ((-1000)), I (1000)]) (hvs := (by first | rfl | (rw [show ((((T).l)[(at0).toNat]'hx1_3).v.l).length = (((T).l)[(at0).toNat]'hx1_3).v.l.length from (by first | rfl | (simp; done) | omega | (simp; omega))]; rfl))) (b := allIn_fn ((((T).l)[(at0).toNat]'hx1_3).v.A) ((((T).l)[(at0).toNat]'hx1_3).v.cp) ((((T).l)[(at0).toNat]'hx1_3).v.l) _ _ w2_15 (((hNT.at hM2_15)).2.get hx1_3).2.2 qo) (c := ?_)
                  rintro _ w5_16 ⟨rfl, hR5_16⟩
                  have hM5_16 := hM2_15.cl 0 hR5_16
                  refine E1 4 [] (.bool (((((T).l)[(at0).toNat]'hx1_3).v.l).all (fun a => decide ((-1000) ≤ a) && decide (a ≤ 1000)))) ?_
                  exact ⟨(by rw [hfl, fit_y0' hvk h4 hai hr (V := (((T).l[(at0).toNat]'hx1_3)).v.l) (kl := ((((T).l[(at0).toNat]'hx1_3)).k.l).length) (cl := ((((T).l[(at0).toNat]'hx1_3)).c.l).length) rfl rfl rfl]; refine congrArg Value.bool ?_; rw [Bool.eq_iff_iff]; simp only [Bool.and_eq_true, decide_eq_true_eq, reduceCtorEq, true_iff, false_iff, allIn]; first | (rintro ⟨⟨h7, h8⟩, _⟩; omega) | exact ⟨fun h9 => ⟨⟨by omega, by omega⟩, h9⟩, fun h9 => h9.2⟩), (Mem.none hM5_16)⟩
                · refine E1 7 [] (.bool (false)) ?_
                  exact ⟨(by rw [hfl, fit_y0' hvk h4 hai hr (V := (((T).l[(at0).toNat]'hx1_3)).v.l) (kl := ((((T).l[(at0).toNat]'hx1_3)).k.l).length) (cl := ((((T).l[(at0).toNat]'hx1_3)).c.l).length) rfl rfl rfl]; refine congrArg Value.bool ?_; rw [Bool.eq_iff_iff]; simp only [Bool.and_eq_true, decide_eq_true_eq, reduceCtorEq, true_iff, false_iff, allIn]; first | (rintro ⟨⟨h7, h8⟩, _⟩; omega) | exact ⟨fun h9 => ⟨⟨by omega, by omega⟩, h9⟩, fun h9 => h9.2⟩), (Mem.none hM2_15)⟩
              · refine E1 16 [] (.bool (false)) ?_
                exact ⟨(by rw [hfl, fit_y0' hvk h4 hai hr (V := (((T).l[(at0).toNat]'hx1_3)).v.l) (kl := ((((T).l[(at0).toNat]'hx1_3)).k.l).length) (cl := ((((T).l[(at0).toNat]'hx1_3)).c.l).length) rfl rfl rfl]; refine congrArg Value.bool ?_; rw [Bool.eq_iff_iff]; simp only [Bool.and_eq_true, decide_eq_true_eq, reduceCtorEq, true_iff, false_iff, allIn]; first | (rintro ⟨⟨h7, h8⟩, _⟩; omega) | exact ⟨fun h9 => ⟨⟨by omega, by omega⟩, h9⟩, fun h9 => h9.2⟩), (Mem.none hM2_15)⟩
            · have hn0 : n ≠ 0 := by omega
              refine pp 9 [0] 74 (fun g74 => ?_) (fun g74 => ?_)
              · refine E1 32 [] (.bool (false)) ?_
                exact ⟨(by rw [hfl, fit_no (h0 := hn0) (by left; show ((((T).l[(at0).toNat]'hx1_3)).k.l).length = 0; omega)]), (Mem.none hM2_15)⟩
              · refine pp 6 [0] 80 (fun g80 => ?_) (fun g80 => ?_)
                · refine E1 26 [] (.bool (false)) ?_
                  exact ⟨(by rw [hfl, fit_no (h0 := hn0) (by right; left; show ((((T).l[(at0).toNat]'hx1_3)).v.l).length ≠ 0; omega)]), (Mem.none hM2_15)⟩
                · refine ov 6 [0, 0] (a := kaddN ((((T).l)[(at0).toNat]'hx1_3).k.l.length + 1)) (b := ?_)
                  refine pp 3 [] 90 (fun g90 => ?_) (fun g90 => ?_)
                  · refine E1 16 [] (.bool (false)) ?_
                    exact ⟨(by rw [hfl, fit_no (h0 := hn0) (by right; right; left; show ((((T).l[(at0).toNat]'hx1_3)).c.l).length ≠ ((((T).l[(at0).toNat]'hx1_3)).k.l).length + 1; omega)]), (Mem.none hM2_15)⟩
                  · refine ov 5 [0, 1] (a := ksub) (b := ?_)
                    refine cq 0 [] (vs := [.slice ((((T).l)[(at0).toNat]'hx1_3).c.A) (((((T).l)[(at0).toNat]'hx1_3).c.l).length) ((((T).l)[(at0).toNat]'hx1_3).c.cp), I (0), I (((((T).l.length : Nat) : Int) - 1))]) (hvs := (by first | rfl | (rw [show ((((T).l)[(at0).toNat]'hx1_3).c.l).length = (((T).l)[(at0).toNat]'hx1_3).c.l.length from (by first | rfl | (simp; done) | omega | (simp; omega))]; rfl))) (b := allIn_fn ((((T).l)[(at0).toNat]'hx1_3).c.A) ((((T).l)[(at0).toNat]'hx1_3).c.cp) ((((T).l)[(at0).toNat]'hx1_3).c.l) _ _ w2_15 (((hNT.at hM2_15)).2.get hx1_3).2.1 qo) (c := ?_)
                    rintro _ w6_27 ⟨rfl, hR6_27⟩
                    have hM6_27 := hM2_15.cl 0 hR6_27
                    refine cn 3 [] (fun c99 => ?_) (fun c99 => ?_)
                    · refine E1 5 [] (.bool (false)) ?_
                      exact ⟨(by rw [hfl, fit_no (h0 := hn0) (by right; right; right; rw [pages_len]; show allIn ((((T).l[(at0).toNat]'hx1_3)).c.l) 0 _ = false; simp only [allIn]; simpa using c99)]), (Mem.none hM6_27)⟩
                    · have hyd := fit_yd (T := (T).t) (i := at0) hn0 hvk h4 hai hr (by show ((((T).l[(at0).toNat]'hx1_3)).k.l).length ≠ 0; omega) (by show ((((T).l[(at0).toNat]'hx1_3)).v.l).length = 0; omega) (by show ((((T).l[(at0).toNat]'hx1_3)).c.l).length = ((((T).l[(at0).toNat]'hx1_3)).k.l).length + 1; omega) (by rw [pages_len]; show allIn ((((T).l[(at0).toNat]'hx1_3)).c.l) 0 _ = true; simp only [allIn]; simpa using c99)
                      have hal : allIn ((((T).l[(at0).toNat]'hx1_3)).c.l) 0 (((T).l.length : Int) - 1) = true := by simp only [allIn]; simpa using c99
                      refine lp1 7 [] (fun (k : Nat) => ([(12, Vi (((k : Nat) : Int)))] : List (Nat × SV))) (fun (k : Nat) => (k ≤ ((((T).l[(at0).toNat]'hx1_3)).c.l).length) ∧ ((List.range k).all (fun k9 => fitS (T).t n ((((T).l[(at0).toNat]'hx1_3)).c.l.getD k9 0) (lowK (((T).l[(at0).toNat]'hx1_3)).t low k9) (highK (((T).l[(at0).toNat]'hx1_3)).t (hi + 1) k9 - 1)) = true)) (fun (k : Nat) => []) (fun (k : Nat) => ((((T).l[(at0).toNat]'hx1_3)).c.l).length - k) [2, 3, 4, 5, 11] [] [0, 1] 0 (fun k σ w_l9 hI hM_l9 => ?_) (h0 := ⟨(Nat.zero_le _), rfl⟩)
                      obtain ⟨hi0_l9, hi1_l9⟩ := hI
                      refine cd 9 [0] (fun c104 => ?_) (fun c104 => ?_)
                      · refine ct0 13 [] (([(13, Vi (lowK (((T).l[(at0).toNat]'hx1_3)).t low k))] : List (Nat × SV))) (True) ([]) [2, 3, 4, 5, 11, 12, 14] [0, 1] ?_ (fun σ w_c110 hI hM_c110 => ?_)
                        · refine cd 5 [] (fun c110 => ?_) (fun c110 => ?_)
                          · refine ov 4 [0] (a := ksub) (b := ?_)
                            have hx14_4 : k - 1 < ((((T).l)[(at0).toNat]'hx1_3).k.l).length := (by first | omega | (simp; omega))
                            refine ov 0 [] (a := kixM hx14_4 (((hNT.at hM_l9)).2.get hx1_3).1 (h0 := by omega)) (b := ?_)
                            refine ov 0 [] (a := kldM hx14_4 (((hNT.at hM_l9)).2.get hx1_3).1) (b := ?_)
                            exact ce0 2 [] [0, 1] (hL := by exact (Has.cons (I_congr (lowK_pos (by omega) (show k - 1 < (((T).l[(at0).toNat]'hx1_3)).t.keys.length from hx14_4)).symm) Has.nil)) (h := by exact trivial)
                          · exact ce0 1 [] [0, 1] (hL := by exact (Has.cons (I_congr (lowK_zero (by omega)).symm) Has.nil)) (h := by exact trivial)
                        · refine ct0 0 [] (([(14, Vi ((highK (((T).l[(at0).toNat]'hx1_3)).t (hi + 1) k - 1)))] : List (Nat × SV))) (True) ([]) [2, 3, 4, 5, 11, 12, 13] [0, 1] ?_ (fun σ w_c121 hI hM_c121 => ?_)
                          · refine cd 8 [0] (fun c121 => ?_) (fun c121 => ?_)
                            · have hx16_3 : k < ((((T).l)[(at0).toNat]'hx1_3).k.l).length := (by first | omega | (simp; omega))
                              refine ov 4 [0] (a := kixM hx16_3 (((hNT.at hM_c110)).2.get hx1_3).1) (b := ?_)
                              have hkb := validK_bd (show validK ((((T).l[(at0).toNat]'hx1_3)).k.l) = true from hvk) hx16_3
                              refine ov 0 [] (a := kldM hx16_3 (((hNT.at hM_c110)).2.get hx1_3).1) (b := ?_)
                              refine ov 0 [] (a := ksub) (b := ?_)
                              exact ce0 2 [] [0, 1] (hL := by exact (Has.cons (I_congr (by rw [highK_in (show k < (((T).l[(at0).toNat]'hx1_3)).t.keys.length from hx16_3)]; rfl)) Has.nil)) (h := by exact trivial)
                            · exact ce0 1 [] [0, 1] (hL := by exact (Has.cons (I_congr (by rw [highK_end (show ¬ k < (((T).l[(at0).toNat]'hx1_3)).t.keys.length from (by show ¬ k < ((((T).l[(at0).toNat]'hx1_3)).k.l).length; omega))]; omega)) Has.nil)) (h := by exact trivial)
                          · refine dr 1 [] ?_
                            have hx17_4 : k < ((((T).l)[(at0).toNat]'hx1_3).c.l).length := (by first | omega | (simp; omega))
                            refine qv 4 [1, 0] (a := by exact fun _ hw2 => kixM hx17_4 (((hNT.at hw2)).2.get hx1_3).2.1) (b := ?_)
                            have hrg := allIn_get hal hx17_4
                            refine qv 0 [] (a := by exact fun _ hw2 => kldM hx17_4 (((hNT.at hw2)).2.get hx1_3).2.1) (b := ?_)
                            refine qv 3 [] (a := by exact fun _ hw2 => ksub) (b := ?_)
                            refine qc 0 [] (X := .bool (fitS (T).t n (((((T).l)[(at0).toNat]'hx1_3).c.l)[k]'hx17_4) (lowK (((T).l[(at0).toNat]'hx1_3)).t low k) (highK (((T).l[(at0).toNat]'hx1_3)).t (hi + 1) k - 1))) (b := by exact fun w2 hw2 => (ih_fn T (((((T).l)[(at0).toNat]'hx1_3).c.l)[k]'hx17_4) (lowK (((T).l[(at0).toNat]'hx1_3)).t low k) (highK (((T).l[(at0).toNat]'hx1_3)).t (hi + 1) k - 1) (dp - 1) w2 (hNT.at hw2) q0 qo qo qo qo).mono fun _ _ h => ⟨h.1, Mem.call0 hw2 h.2⟩) (c := ?_)
                            refine qn 1 [] fun w17d hM17d => ?_
                            refine cn 0 [] (fun c139 => ?_) (fun c139 => ?_)
                            · have hf1 : (fun k9 => fitS (T).t n ((((T).l[(at0).toNat]'hx1_3)).c.l.getD k9 0) (lowK (((T).l[(at0).toNat]'hx1_3)).t low k9) (highK (((T).l[(at0).toNat]'hx1_3)).t (hi + 1) k9 - 1)) k = false := by show fitS _ _ _ _ _ = false; rw [getD_in (show k < (((T).l[(at0).toNat]'hx1_3)).c.l.length from hx17_4)]; simpa using c139
                              refine E1 5 [] (.bool (false)) ?_
                              exact ⟨(by rw [hfl, hyd]; exact congrArg Value.bool (range_bad (p := fun k9 => fitS (T).t n ((((T).l[(at0).toNat]'hx1_3)).c.l.getD k9 0) (lowK (((T).l[(at0).toNat]'hx1_3)).t low k9) (highK (((T).l[(at0).toNat]'hx1_3)).t (hi + 1) k9 - 1)) hx17_4 hf1).symm), (Mem.none hM17d)⟩
                            · have hf1 : (fun k9 => fitS (T).t n ((((T).l[(at0).toNat]'hx1_3)).c.l.getD k9 0) (lowK (((T).l[(at0).toNat]'hx1_3)).t low k9) (highK (((T).l[(at0).toNat]'hx1_3)).t (hi + 1) k9 - 1)) k = true := by show fitS _ _ _ _ _ = true; rw [getD_in (show k < (((T).l[(at0).toNat]'hx1_3)).c.l.length from hx17_4)]; simpa using c139
                              refine ov 3 [] (a := kaddN (k + 1)) (b := ?_)
                              exact le1 2 [] (k + 1) [0, 1] (h := by exact ⟨(by (try dsimp only); omega), (range_all hi1_l9 hf1)⟩)
                      · refine E1 6 [] (.bool (true)) ?_
                        exact ⟨(by rw [hfl, hyd, show (((T).l[(at0).toNat]'hx1_3)).t.kids.length = k from (by show ((((T).l[(at0).toNat]'hx1_3)).c.l).length = k; omega)]; exact congrArg Value.bool hi1_l9.symm), (Mem.none hM_l9)⟩
        · have hvk : validK (((T).l[(at0).toNat]'hx1_3)).t.keys = true := by show validK ((((T).l[(at0).toNat]'hx1_3)).k.l) = true; simpa using g24
          have h4 : (((T).l[(at0).toNat]'hx1_3)).t.keys.length ≤ 4 := by show ((((T).l[(at0).toNat]'hx1_3)).k.l).length ≤ 4; omega
          have hai : allIn (((T).l[(at0).toNat]'hx1_3)).t.keys low hi = true := by show allIn ((((T).l[(at0).toNat]'hx1_3)).k.l) low hi = true; simp only [allIn]; simpa using g38
          have hr : at0 = (T).t.root ∨ 2 ≤ (((T).l[(at0).toNat]'hx1_3)).t.keys.length := by first | (left; exact Classical.not_not.1 g43) | (left; simpa using g43) | (right; show 2 ≤ ((((T).l[(at0).toNat]'hx1_3)).k.l).length; omega)
          refine cd 15 [] (fun c51 => ?_) (fun c51 => ?_)
          · have hn0 : n = 0 := by omega
            subst hn0
            refine pp 7 [0] 56 (fun g56 => ?_) (fun g56 => ?_)
            · refine pp 9 [0, 0] 65 (fun g65 => ?_) (fun g65 => ?_)
              · refine cq 2 [0] (vs := [.slice ((((T).l)[(at0).toNat]'hx1_3).v.A) (((((T).l)[(at0).toNat]'hx1_3).v.l).length) ((((T).l)[(at0).toNat]'hx1_3).v.cp), I ((-1000)), I (1000)]) (hvs := (by first | rfl | (rw [show ((((T).l)[(at0).toNat]'hx1_3).v.l).length = (((T).l)[(at0).toNat]'hx1_3).v.l.length from (by first | rfl | (simp; done) | omega | (simp; omega))]; rfl))) (b := allIn_fn ((((T).l)[(at0).toNat]'hx1_3).v.A) ((((T).l)[(at0).toNat]'hx1_3).v.cp) ((((T).l)[(at0).toNat]'hx1_3).v.l) _ _ w2_15 (((hNT.at hM2_15)).2.get hx1_3).2.2 qo) (c := ?_)
                rintro _ w5_16 ⟨rfl, hR5_16⟩
                have hM5_16 := hM2_15.cl 0 hR5_16
                refine E1 4 [] (.bool (((((T).l)[(at0).toNat]'hx1_3).v.l).all (fun a => decide ((-1000) ≤ a) && decide (a ≤ 1000)))) ?_
                exact ⟨(by rw [hfl, fit_y0' hvk h4 hai hr (V := (((T).l[(at0).toNat]'hx1_3)).v.l) (kl := ((((T).l[(at0).toNat]'hx1_3)).k.l).length) (cl := ((((T).l[(at0).toNat]'hx1_3)).c.l).length) rfl rfl rfl]; refine congrArg Value.bool ?_; rw [Bool.eq_iff_iff]; simp only [Bool.and_eq_true, decide_eq_true_eq, reduceCtorEq, true_iff, false_iff, allIn]; first | (rintro ⟨⟨h7, h8⟩, _⟩; omega) | exact ⟨fun h9 => ⟨⟨by omega, by omega⟩, h9⟩, fun h9 => h9.2⟩), (Mem.none hM5_16)⟩
              · refine E1 7 [] (.bool (false)) ?_
                exact ⟨(by rw [hfl, fit_y0' hvk h4 hai hr (V := (((T).l[(at0).toNat]'hx1_3)).v.l) (kl := ((((T).l[(at0).toNat]'hx1_3)).k.l).length) (cl := ((((T).l[(at0).toNat]'hx1_3)).c.l).length) rfl rfl rfl]; refine congrArg Value.bool ?_; rw [Bool.eq_iff_iff]; simp only [Bool.and_eq_true, decide_eq_true_eq, reduceCtorEq, true_iff, false_iff, allIn]; first | (rintro ⟨⟨h7, h8⟩, _⟩; omega) | exact ⟨fun h9 => ⟨⟨by omega, by omega⟩, h9⟩, fun h9 => h9.2⟩), (Mem.none hM2_15)⟩
            · refine E1 16 [] (.bool (false)) ?_
              exact ⟨(by rw [hfl, fit_y0' hvk h4 hai hr (V := (((T).l[(at0).toNat]'hx1_3)).v.l) (kl := ((((T).l[(at0).toNat]'hx1_3)).k.l).length) (cl := ((((T).l[(at0).toNat]'hx1_3)).c.l).length) rfl rfl rfl]; refine congrArg Value.bool ?_; rw [Bool.eq_iff_iff]; simp only [Bool.and_eq_true, decide_eq_true_eq, reduceCtorEq, true_iff, false_iff, allIn]; first | (rintro ⟨⟨h7, h8⟩, _⟩; omega) | exact ⟨fun h9 => ⟨⟨by omega, by omega⟩, h9⟩, fun h9 => h9.2⟩), (Mem.none hM2_15)⟩
          · have hn0 : n ≠ 0 := by omega
            refine pp 9 [0] 74 (fun g74 => ?_) (fun g74 => ?_)
            · refine E1 32 [] (.bool (false)) ?_
              exact ⟨(by rw [hfl, fit_no (h0 := hn0) (by left; show ((((T).l[(at0).toNat]'hx1_3)).k.l).length = 0; omega)]), (Mem.none hM2_15)⟩
            · refine pp 6 [0] 80 (fun g80 => ?_) (fun g80 => ?_)
              · refine E1 26 [] (.bool (false)) ?_
                exact ⟨(by rw [hfl, fit_no (h0 := hn0) (by right; left; show ((((T).l[(at0).toNat]'hx1_3)).v.l).length ≠ 0; omega)]), (Mem.none hM2_15)⟩
              · refine ov 6 [0, 0] (a := kaddN ((((T).l)[(at0).toNat]'hx1_3).k.l.length + 1)) (b := ?_)
                refine pp 3 [] 90 (fun g90 => ?_) (fun g90 => ?_)
                · refine E1 16 [] (.bool (false)) ?_
                  exact ⟨(by rw [hfl, fit_no (h0 := hn0) (by right; right; left; show ((((T).l[(at0).toNat]'hx1_3)).c.l).length ≠ ((((T).l[(at0).toNat]'hx1_3)).k.l).length + 1; omega)]), (Mem.none hM2_15)⟩
                · refine ov 5 [0, 1] (a := ksub) (b := ?_)
                  refine cq 0 [] (vs := [.slice ((((T).l)[(at0).toNat]'hx1_3).c.A) (((((T).l)[(at0).toNat]'hx1_3).c.l).length) ((((T).l)[(at0).toNat]'hx1_3).c.cp), I (0), I (((((T).l.length : Nat) : Int) - 1))]) (hvs := (by first | rfl | (rw [show ((((T).l)[(at0).toNat]'hx1_3).c.l).length = (((T).l)[(at0).toNat]'hx1_3).c.l.length from (by first | rfl | (simp; done) | omega | (simp; omega))]; rfl))) (b := allIn_fn ((((T).l)[(at0).toNat]'hx1_3).c.A) ((((T).l)[(at0).toNat]'hx1_3).c.cp) ((((T).l)[(at0).toNat]'hx1_3).c.l) _ _ w2_15 (((hNT.at hM2_15)).2.get hx1_3).2.1 qo) (c := ?_)
                  rintro _ w6_27 ⟨rfl, hR6_27⟩
                  have hM6_27 := hM2_15.cl 0 hR6_27
                  refine cn 3 [] (fun c99 => ?_) (fun c99 => ?_)
                  · refine E1 5 [] (.bool (false)) ?_
                    exact ⟨(by rw [hfl, fit_no (h0 := hn0) (by right; right; right; rw [pages_len]; show allIn ((((T).l[(at0).toNat]'hx1_3)).c.l) 0 _ = false; simp only [allIn]; simpa using c99)]), (Mem.none hM6_27)⟩
                  · have hyd := fit_yd (T := (T).t) (i := at0) hn0 hvk h4 hai hr (by show ((((T).l[(at0).toNat]'hx1_3)).k.l).length ≠ 0; omega) (by show ((((T).l[(at0).toNat]'hx1_3)).v.l).length = 0; omega) (by show ((((T).l[(at0).toNat]'hx1_3)).c.l).length = ((((T).l[(at0).toNat]'hx1_3)).k.l).length + 1; omega) (by rw [pages_len]; show allIn ((((T).l[(at0).toNat]'hx1_3)).c.l) 0 _ = true; simp only [allIn]; simpa using c99)
                    have hal : allIn ((((T).l[(at0).toNat]'hx1_3)).c.l) 0 (((T).l.length : Int) - 1) = true := by simp only [allIn]; simpa using c99
                    refine lp1 7 [] (fun (k : Nat) => ([(12, Vi (((k : Nat) : Int)))] : List (Nat × SV))) (fun (k : Nat) => (k ≤ ((((T).l[(at0).toNat]'hx1_3)).c.l).length) ∧ ((List.range k).all (fun k9 => fitS (T).t n ((((T).l[(at0).toNat]'hx1_3)).c.l.getD k9 0) (lowK (((T).l[(at0).toNat]'hx1_3)).t low k9) (highK (((T).l[(at0).toNat]'hx1_3)).t (hi + 1) k9 - 1)) = true)) (fun (k : Nat) => []) (fun (k : Nat) => ((((T).l[(at0).toNat]'hx1_3)).c.l).length - k) [2, 3, 4, 5, 11] [] [0, 1] 0 (fun k σ w_l9 hI hM_l9 => ?_) (h0 := ⟨(Nat.zero_le _), rfl⟩)
                    obtain ⟨hi0_l9, hi1_l9⟩ := hI
                    refine cd 9 [0] (fun c104 => ?_) (fun c104 => ?_)
                    · refine ct0 13 [] (([(13, Vi (lowK (((T).l[(at0).toNat]'hx1_3)).t low k))] : List (Nat × SV))) (True) ([]) [2, 3, 4, 5, 11, 12, 14] [0, 1] ?_ (fun σ w_c110 hI hM_c110 => ?_)
                      · refine cd 5 [] (fun c110 => ?_) (fun c110 => ?_)
                        · refine ov 4 [0] (a := ksub) (b := ?_)
                          have hx14_4 : k - 1 < ((((T).l)[(at0).toNat]'hx1_3).k.l).length := (by first | omega | (simp; omega))
                          refine ov 0 [] (a := kixM hx14_4 (((hNT.at hM_l9)).2.get hx1_3).1 (h0 := by omega)) (b := ?_)
                          refine ov 0 [] (a := kldM hx14_4 (((hNT.at hM_l9)).2.get hx1_3).1) (b := ?_)
                          exact ce0 2 [] [0, 1] (hL := by exact (Has.cons (I_congr (lowK_pos (by omega) (show k - 1 < (((T).l[(at0).toNat]'hx1_3)).t.keys.length from hx14_4)).symm) Has.nil)) (h := by exact trivial)
                        · exact ce0 1 [] [0, 1] (hL := by exact (Has.cons (I_congr (lowK_zero (by omega)).symm) Has.nil)) (h := by exact trivial)
                      · refine ct0 0 [] (([(14, Vi ((highK (((T).l[(at0).toNat]'hx1_3)).t (hi + 1) k - 1)))] : List (Nat × SV))) (True) ([]) [2, 3, 4, 5, 11, 12, 13] [0, 1] ?_ (fun σ w_c121 hI hM_c121 => ?_)
                        · refine cd 8 [0] (fun c121 => ?_) (fun c121 => ?_)
                          · have hx16_3 : k < ((((T).l)[(at0).toNat]'hx1_3).k.l).length := (by first | omega | (simp; omega))
                            refine ov 4 [0] (a := kixM hx16_3 (((hNT.at hM_c110)).2.get hx1_3).1) (b := ?_)
                            have hkb := validK_bd (show validK ((((T).l[(at0).toNat]'hx1_3)).k.l) = true from hvk) hx16_3
                            refine ov 0 [] (a := kldM hx16_3 (((hNT.at hM_c110)).2.get hx1_3).1) (b := ?_)
                            refine ov 0 [] (a := ksub) (b := ?_)
                            exact ce0 2 [] [0, 1] (hL := by exact (Has.cons (I_congr (by rw [highK_in (show k < (((T).l[(at0).toNat]'hx1_3)).t.keys.length from hx16_3)]; rfl)) Has.nil)) (h := by exact trivial)
                          · exact ce0 1 [] [0, 1] (hL := by exact (Has.cons (I_congr (by rw [highK_end (show ¬ k < (((T).l[(at0).toNat]'hx1_3)).t.keys.length from (by show ¬ k < ((((T).l[(at0).toNat]'hx1_3)).k.l).length; omega))]; omega)) Has.nil)) (h := by exact trivial)
                        · refine dr 1 [] ?_
                          have hx17_4 : k < ((((T).l)[(at0).toNat]'hx1_3).c.l).length := (by first | omega | (simp; omega))
                          refine qv 4 [1, 0] (a := by exact fun _ hw2 => kixM hx17_4 (((hNT.at hw2)).2.get hx1_3).2.1) (b := ?_)
                          have hrg := allIn_get hal hx17_4
                          refine qv 0 [] (a := by exact fun _ hw2 => kldM hx17_4 (((hNT.at hw2)).2.get hx1_3).2.1) (b := ?_)
                          refine qv 3 [] (a := by exact fun _ hw2 => ksub) (b := ?_)
                          refine qc 0 [] (X := .bool (fitS (T).t n (((((T).l)[(at0).toNat]'hx1_3).c.l)[k]'hx17_4) (lowK (((T).l[(at0).toNat]'hx1_3)).t low k) (highK (((T).l[(at0).toNat]'hx1_3)).t (hi + 1) k - 1))) (b := by exact fun w2 hw2 => (ih_fn T (((((T).l)[(at0).toNat]'hx1_3).c.l)[k]'hx17_4) (lowK (((T).l[(at0).toNat]'hx1_3)).t low k) (highK (((T).l[(at0).toNat]'hx1_3)).t (hi + 1) k - 1) (dp - 1) w2 (hNT.at hw2) q0 qo qo qo qo).mono fun _ _ h => ⟨h.1, Mem.call0 hw2 h.2⟩) (c := ?_)
                          refine qn 1 [] fun w17d hM17d => ?_
                          refine cn 0 [] (fun c139 => ?_) (fun c139 => ?_)
                          · have hf1 : (fun k9 => fitS (T).t n ((((T).l[(at0).toNat]'hx1_3)).c.l.getD k9 0) (lowK (((T).l[(at0).toNat]'hx1_3)).t low k9) (highK (((T).l[(at0).toNat]'hx1_3)).t (hi + 1) k9 - 1)) k = false := by show fitS _ _ _ _ _ = false; rw [getD_in (show k < (((T).l[(at0).toNat]'hx1_3)).c.l.length from hx17_4)]; simpa using c139
                            refine E1 5 [] (.bool (false)) ?_
                            exact ⟨(by rw [hfl, hyd]; exact congrArg Value.bool (range_bad (p := fun k9 => fitS (T).t n ((((T).l[(at0).toNat]'hx1_3)).c.l.getD k9 0) (lowK (((T).l[(at0).toNat]'hx1_3)).t low k9) (highK (((T).l[(at0).toNat]'hx1_3)).t (hi + 1) k9 - 1)) hx17_4 hf1).symm), (Mem.none hM17d)⟩
                          · have hf1 : (fun k9 => fitS (T).t n ((((T).l[(at0).toNat]'hx1_3)).c.l.getD k9 0) (lowK (((T).l[(at0).toNat]'hx1_3)).t low k9) (highK (((T).l[(at0).toNat]'hx1_3)).t (hi + 1) k9 - 1)) k = true := by show fitS _ _ _ _ _ = true; rw [getD_in (show k < (((T).l[(at0).toNat]'hx1_3)).c.l.length from hx17_4)]; simpa using c139
                            refine ov 3 [] (a := kaddN (k + 1)) (b := ?_)
                            exact le1 2 [] (k + 1) [0, 1] (h := by exact ⟨(by (try dsimp only); omega), (range_all hi1_l9 hf1)⟩)
                    · refine E1 6 [] (.bool (true)) ?_
                      exact ⟨(by rw [hfl, hyd, show (((T).l[(at0).toNat]'hx1_3)).t.kids.length = k from (by show ((((T).l[(at0).toNat]'hx1_3)).c.l).length = k; omega)]; exact congrArg Value.bool hi1_l9.symm), (Mem.none hM_l9)⟩
theorem pageFits_fn : ∀ (n : Nat), ∀ (T : TreeL) (at0 : Int) (low : Int) (hi : Int) (dp : Int) (w : World) (hNT : TrN w T) (hs : SzT T) (hat : 0 ≤ at0 ∧ at0 < ((T).l.length : Int)) (hd : dp = (n : Int)) (h1 : 1 ≤ n) (h3 : n ≤ 3), Does Tryz.prog 90 [.agg #[I ((T).root), .slice ((T).A) ((T).l.length) ((T).cp)], I (at0), I (low), I (hi), I (dp)] w (fun v w1 => v = .bool (fitS (T).t n at0 low hi) ∧ Mem w w1 [] []) := by
  intro n
  induction n with
  | zero => exact pageFits0_fn
  | succ n ih => exact pageFitsS_fn n ih
theorem walk0_fn : ∀ (T : TreeL) (at0 : Int) (lo : Int) (hi : Int) (w : World) (hNT : TrN w T) (hs : SzT T) (hok : okB (T).t 0 at0 lo hi = true) (h3 : 0 ≤ 3), Does Tryz.prog 91 [.agg #[I ((T).root), .slice ((T).A) ((T).l.length) ((T).cp)], I (at0)] w (fun v w1 => ∃ (A1 : Option Addr) (c1 : Nat), v = .slice (A1) (((subT (T).t 0 at0)).length) (c1) ∧ Mem w w1 [] [[⟨.slice (A1) (((subT (T).t 0 at0)).length) (c1), 3, 1, (((subT (T).t 0 at0)).length), ((subT (T).t 0 at0)).map I⟩]]) := by
  intro T at0 lo hi w hNT hs hok h3; simp [okB] at hok
theorem walkS_fn (n : Nat) (ih_fn : ∀ (T : TreeL) (at0 : Int) (lo : Int) (hi : Int) (w : World) (hNT : TrN w T) (hs : SzT T) (hok : okB (T).t n at0 lo hi = true) (h3 : n ≤ 3), Does Tryz.prog 91 [.agg #[I ((T).root), .slice ((T).A) ((T).l.length) ((T).cp)], I (at0)] w (fun v w1 => ∃ (A1 : Option Addr) (c1 : Nat), v = .slice (A1) (((subT (T).t n at0)).length) (c1) ∧ Mem w w1 [] [[⟨.slice (A1) (((subT (T).t n at0)).length) (c1), 3, 1, (((subT (T).t n at0)).length), ((subT (T).t n at0)).map I⟩]])) (T : TreeL) (at0 : Int) (lo : Int) (hi : Int) (w : World) (hNT : TrN w T) (hs : SzT T) (hok : okB (T).t (n + 1) at0 lo hi = true) (h3 : (n + 1) ≤ 3) :
    Does Tryz.prog 91 [.agg #[I ((T).root), .slice ((T).A) ((T).l.length) ((T).cp)], I (at0)] w (fun v w1 => ∃ (A1 : Option Addr) (c1 : Nat), v = .slice (A1) (((subT (T).t (n + 1) at0)).length) (c1) ∧ Mem w w1 [] [[⟨.slice (A1) (((subT (T).t (n + 1) at0)).length) (c1), 3, 1, (((subT (T).t (n + 1) at0)).length), ((subT (T).t (n + 1) at0)).map I⟩]]) := by
  have hM : Mem w w [] [] := Mem.refl
  refine Does.n1 Tryz.func91 rfl Tryz.results91 Tryz.ntmps91 rfl ?_
  have hat := inT_t.1 (okB_in hok)
  have hjx : (at0).toNat < (T).l.length := by omega
  have hki : (gP (T).t at0).kids = ((T).l[(at0).toNat]'hjx).c.l := by rw [gP_at rfl hjx]; rfl
  have hsz := hs.at hjx
  have hsl := sub_len3 hok h3
  have hse : subT (T).t (n + 1) at0 = at0 :: ((T).l[(at0).toNat]'hjx).c.l.flatMap (subT (T).t n) := by simp only [subT]; rw [hki]
  refine Bx 2 [] fun w0_0 b0_0 hb0_0 hM0_0 => ?_
  refine Lt 5 [] (([at0]).map I) (fun w1_1 b1_1 hb1_1 hM1_1 => ?_)
  have hq1 : ([at0] : List Int) = at0 :: ((((T).l[(at0).toNat]'hjx).c.l).take 0).flatMap (subT (T).t n) := (by simp)
  have hMn1 := hM1_1.reM 0 hq1
  refine lp3 8 [] (fun (k : Nat) (A2 : Option Addr) (c2 : Nat) => ([(5, Vl (A2) ((at0 :: ((((T).l[(at0).toNat]'hjx).c.l).take k).flatMap (subT (T).t n)).length) (c2)), (6, Vi (((k : Nat) : Int)))] : List (Nat × SV))) (fun (k : Nat) (A2 : Option Addr) (c2 : Nat) => (k ≤ (((T).l[(at0).toNat]'hjx).c.l).length)) (fun (k : Nat) (A2 : Option Addr) (c2 : Nat) => [[⟨.slice (A2) ((at0 :: ((((T).l[(at0).toNat]'hjx).c.l).take k).flatMap (subT (T).t n)).length) (c2), 3, 1, ((at0 :: ((((T).l[(at0).toNat]'hjx).c.l).take k).flatMap (subT (T).t n)).length), (at0 :: ((((T).l[(at0).toNat]'hjx).c.l).take k).flatMap (subT (T).t n)).map I⟩]]) (fun (k : Nat) (A2 : Option Addr) (c2 : Nat) => (((T).l[(at0).toNat]'hjx).c.l).length - k) [1, 2] [0] [1] 0 (bl b1_1) 1 (fun k A2 c2 σ w_l3 hI hM_l3 => ?_) (h0 := (Nat.zero_le _))
  have hi0_l3 := hI
  have hcl0_l3 := (hM_l3.cap 0 rfl).1
  have hx3_4 : (at0).toNat < ((T).l).length := (by first | omega | (simp; omega))
  refine ov 7 [1] (a := kixF hx3_4 (hNT.at hM_l3).1) (b := ?_)
  refine ov 0 [] (a := kflF hx3_4 (hNT.at hM_l3).1) (b := ?_)
  refine ov 0 [] (a := kldF hx3_4 (hNT.at hM_l3).1) (b := ?_)
  refine cd 3 [] (fun c17 => ?_) (fun c17 => ?_)
  · refine any 3 [] 14 [1] fun w5a hM5a => ?_
    have hx5_5 : (at0).toNat < ((T).l).length := (by first | omega | (simp; omega))
    refine av [0, 1, 2, 3, 4] [0, 0] 5 (a := by exact fun _ hw2 => kixF hx5_5 (hNT.at hM5a).1) (b := ?_)
    refine av [] [] 6 (a := by exact fun _ hw2 => kflF hx5_5 (hNT.at hM5a).1) (b := ?_)
    refine aO [8] [] 7 ?_
    refine ov 0 [] (a := kldF hx5_5 (hNT.at hM5a).1) (b := ?_)
    refine os 0 [] [1] ?_
    have hx5_9 : k < ((((T).l)[(at0).toNat]'hx5_5).c.l).length := (by first | omega | (simp; omega))
    refine av [] [] 9 (a := by exact fun _ hw2 => kixM hx5_9 (((hNT.at hM5a)).2.get hx5_5).2.1) (b := ?_)
    have hok1 := ok_kid hok (k := k) (by rw [hki]; exact hx5_9)
    simp only [hki] at hok1
    have hsl1 := sub_len3 hok1 (by omega)
    have hfs := flat_snoc (f := subT (T).t n) hx5_9
    refine aO [] [] 10 ?_
    refine ov 0 [] (a := kldM hx5_9 (((hNT.at hM5a)).2.get hx5_5).2.1) (b := ?_)
    refine os 0 [] [1] ?_
    refine aO [] [] 11 ?_
    refine cq 0 [] (b := ih_fn T _ _ _ w5a (hNT.at hM5a) q0 (by exact hok1) qo) (c := ?_)
    rintro _ w5_11 ⟨A15_11, c15_11, rfl, hR5_11⟩
    have hM5_11 := hM5a.cl 0 hR5_11
    have hcr5_11_0 := (hM5_11.cap 0 rfl).1
    refine os 0 [] [2] ?_
    refine aO [] [] 12 ?_
    refine aM 0 [] 1 (hM5_11.rd 0 rfl) (fun w5_12 A5_12 c5_12 hc5_12 hM5_12 => ?_) (hn := by have h8 := congrArg List.length hse; have h9 := congrArg List.length hfs; have h7 := flat_le (f := subT (T).t n) hx5_9; simp only [List.length_append, List.length_cons] at h8 h9 h7 ⊢; omega) (hb := by have h8 := congrArg List.length hse; have h9 := congrArg List.length hfs; have h7 := flat_le (f := subT (T).t n) hx5_9; simp only [List.length_append, List.length_cons] at h8 h9 h7 ⊢; omega)
    refine os 0 [] [2] ?_
    refine an [13] [] ?_
    refine ov 2 [] (a := kaddN (k + 1)) (b := ?_)
    have hq2 : (at0 :: ((((T).l[(at0).toNat]'hjx).c.l).take k).flatMap (subT (T).t n) ++ (subT (T).t n (((((T).l)[(at0).toNat]'hx5_5).c.l)[k]'hx5_9)) : List Int) = at0 :: ((((T).l[(at0).toNat]'hjx).c.l).take (k + 1)).flatMap (subT (T).t n) := (by rw [← hfs]; simp)
    have hMn2 := hM5_12.reM 1 hq2
    exact le3 2 [] (k + 1) A5_12 c5_12 [1, 2] (h := by exact (by (try dsimp only); omega))
  · refine E1 7 [] (.slice (A2) ((at0 :: ((((T).l[(at0).toNat]'hjx).c.l).take k).flatMap (subT (T).t n)).length) (c2)) ?_
    have hkk : (((T).l[(at0).toNat]'hjx).c.l).take k = ((T).l[(at0).toNat]'hjx).c.l := List.take_of_length_le (by omega)
    have hq3 : (at0 :: ((((T).l[(at0).toNat]'hjx).c.l).take k).flatMap (subT (T).t n) : List Int) = (subT (T).t (n + 1) at0) := (by rw [hse, hkk])
    have hMn3 := hM_l3.reM 0 hq3
    exact ⟨A2, c2, (sl_congr (by rw [hse, hkk])), (hMn3.pk [0])⟩
theorem walk_fn : ∀ (n : Nat), ∀ (T : TreeL) (at0 : Int) (lo : Int) (hi : Int) (w : World) (hNT : TrN w T) (hs : SzT T) (hok : okB (T).t n at0 lo hi = true) (h3 : n ≤ 3), Does Tryz.prog 91 [.agg #[I ((T).root), .slice ((T).A) ((T).l.length) ((T).cp)], I (at0)] w (fun v w1 => ∃ (A1 : Option Addr) (c1 : Nat), v = .slice (A1) (((subT (T).t n at0)).length) (c1) ∧ Mem w w1 [] [[⟨.slice (A1) (((subT (T).t n at0)).length) (c1), 3, 1, (((subT (T).t n at0)).length), ((subT (T).t n at0)).map I⟩]]) := by
  intro n
  induction n with
  | zero => exact walk0_fn
  | succ n ih => exact walkS_fn n ih
set_option maxHeartbeats 4000000 in
theorem svalidTree_fn (T : TreeL) (w : World) (hNT : TrN w T) (hs : SzT T) :
    Does Tryz.prog 46 [.agg #[I ((T).root), .slice ((T).A) ((T).l.length) ((T).cp)]] w (fun v w1 => v = .bool (validT (T).t) ∧ Mem w w1 [] []) := by
  have hM : Mem w w [] [] := Mem.refl
  refine Does.n1 Tryz.func46 rfl Tryz.results46 Tryz.ntmps46 rfl ?_
  refine Bx 2 [] fun w0_0 b0_0 hb0_0 hM0_0 => ?_
  have hvr := valid_ref (T := (T).t)
  have hs1 := hs.1
  refine dr 4 [] ?_
  refine qc 3 [0] (X := .bool (decide (1 ≤ (((T).l.length : Nat) : Int)) && decide ((((T).l.length : Nat) : Int) ≤ 16))) (b := by exact fun w2 hw2 => (inRange_fn (((T).l.length : Nat) : Int) 1 16 w2 ).mono fun _ _ h => ⟨h.1, Mem.call0 hw2 h.2⟩) (c := ?_)
  refine qt 2 [] 10 (fun g10 => ?_) (fun g10 => ?_)
  · refine qn 23 [] fun w1d hM1d => ?_
    refine E1 6 [] (.bool (false)) ?_
    exact ⟨(by rw [hvr, show (decide (1 ≤ (T).t.pages.length) && decide ((T).t.pages.length ≤ 16)) = false from (by rw [pages_len, Bool.and_eq_false_iff, decide_eq_false_iff_not, decide_eq_false_iff_not]; simp at g10; omega)]; simp), (Mem.none hM1d)⟩
  · have hl16 : 1 ≤ (T).t.pages.length ∧ (T).t.pages.length ≤ 16 := by rw [pages_len]; simp at g10; omega
    refine qv 5 [0, 0] (a := by exact fun _ hw2 => ksub) (b := ?_)
    refine qc 0 [] (X := .bool (decide (0 ≤ ((T).root)) && decide (((T).root) ≤ ((((T).l.length : Nat) : Int) - 1)))) (b := by exact fun w2 hw2 => (inRange_fn ((T).root) 0 ((((T).l.length : Nat) : Int) - 1) w2 ).mono fun _ _ h => ⟨h.1, Mem.call0 hw2 h.2⟩) (c := ?_)
    refine qt 3 [] 20 (fun g20 => ?_) (fun g20 => ?_)
    · refine qn 13 [] fun w1d hM1d => ?_
      refine E1 6 [] (.bool (false)) ?_
      exact ⟨(by rw [hvr, show inT (T).t (T).t.root = false from (by cases h9 : inT (T).t (T).t.root with | false => rfl | true => (have h8 := inT_t.1 h9; have h7 : 0 ≤ (T).root ∧ (T).root < _ := h8; exfalso; simp at g20; omega))]; simp), (Mem.none hM1d)⟩
    · have hin : inT (T).t (T).t.root = true := inT_t.2 (by simp at g20; show 0 ≤ (T).root ∧ (T).root < _; omega)
      have hrt : 0 ≤ (T).root ∧ (T).root < ((T).l.length : Int) := inT_t.1 hin
      refine qc 1 [0] (X := I (((heightT (T).t : Nat) : Int))) (b := by exact fun w2 hw2 => (heightOf_fn T w2 (hNT.at hw2) q0).mono fun _ _ h => ⟨h.1, Mem.call0 hw2 h.2⟩) (c := ?_)
      refine qp 3 [] 25 (fun g25 => ?_) (fun g25 => ?_)
      · refine qn 8 [] fun w1d hM1d => ?_
        refine E1 6 [] (.bool (false)) ?_
        exact ⟨(by rw [hvr, show decide (heightT (T).t ≤ 3) = false from decide_eq_false (by omega)]; simp), (Mem.none hM1d)⟩
      · have hh3 : heightT (T).t ≤ 3 := by omega
        refine qc 4 [0, 0, 0] (X := I (((heightT (T).t : Nat) : Int))) (b := by exact fun w2 hw2 => (heightOf_fn T w2 (hNT.at hw2) q0).mono fun _ _ h => ⟨h.1, Mem.call0 hw2 h.2⟩) (c := ?_)
        refine qc 0 [] (X := .bool (fitS (T).t (heightT (T).t) ((T).root) 0 99)) (b := by exact fun w2 hw2 => (pageFits_fn (heightT (T).t) T ((T).root) 0 99 ((heightT (T).t : Nat) : Int) w2 (hNT.at hw2) q0 qo (by rfl) (by exact height_1) (by exact hh3)).mono fun _ _ h => ⟨h.1, Mem.call0 hw2 h.2⟩) (c := ?_)
        refine qn 2 [] fun w1d hM1d => ?_
        refine cn 0 [] (fun c33 => ?_) (fun c33 => ?_)
        · refine E1 5 [] (.bool (false)) ?_
          exact ⟨(by rw [hvr, show fitS (T).t (heightT (T).t) (T).t.root 0 99 = false from (show fitS (T).t (heightT (T).t) (T).root 0 99 = false from (by simpa using c33))]; simp), (Mem.none hM1d)⟩
        · have hft : fitS (T).t (heightT (T).t) (T).root 0 99 = true := by simpa using c33
          have hok : okB (T).t (heightT (T).t) (T).root 0 100 = true := (fit_ok (d := heightT (T).t) (low := 0) (hi := 99) hin).symm.trans hft
          have hsl := sub_len3 hok hh3
          have hve : validT (T).t = (decide (subT (T).t (heightT (T).t) (T).root).Nodup && decide ((subT (T).t (heightT (T).t) (T).root).length = (T).t.pages.length)) := by rw [hvr]; simp only [hl16.1, hl16.2, hin, hh3, decide_true, Bool.true_and]; rw [show fitS (T).t (heightT (T).t) (T).t.root 0 99 = true from hft]; rfl
          refine cq 6 [0, 0] (b := walk_fn (heightT (T).t) T _ 0 100 w1d (hNT.at hM1d) q0 (by exact hok) (by exact hh3)) (c := ?_)
          rintro _ w3_3 ⟨A13_3, c13_3, rfl, hR3_3⟩
          have hM3_3 := hM1d.cl 0 hR3_3
          have hcr3_3_0 := (hM3_3.cap 0 rfl).1
          refine lp1 8 [] (fun (k : Nat) => ([(4, Vi (((k : Nat) : Int)))] : List (Nat × SV))) (fun (k : Nat) => (k ≤ (subT (T).t (heightT (T).t) (T).root).length) ∧ (((subT (T).t (heightT (T).t) (T).root).take k).Nodup)) (fun (k : Nat) => []) (fun (k : Nat) => (subT (T).t (heightT (T).t) (T).root).length - k) [1, 3] [] [0, 1] 0 (fun k σ w_l5 hI hM_l5 => ?_) (h0 := ⟨(Nat.zero_le _), (by (try dsimp only); simp)⟩)
          obtain ⟨hi0_l5, hi1_l5⟩ := hI
          have hcl0_l5 := (hM_l5.cap 0 rfl).1
          refine cd 8 [] (fun c41 => ?_) (fun c41 => ?_)
          · refine dr 4 [] ?_
            have hcp7_2 := hM_l5.cap 0 rfl
            refine qv 2 [] (s := Vl (A13_3) ((((subT (T).t (heightT (T).t) ((T).root))).take (k)).length) (c13_3)) (a := by exact fun w2 hw2 => cv (Ru.congr (v := .slice (A13_3) (k) (c13_3)) (v' := .slice (A13_3) ((((subT (T).t (heightT (T).t) ((T).root))).take (k)).length) (c13_3)) (Ru.lsliceTo (h := k) Tryz.underlying30 el3 rfl rfl (by omega) (by omega)) (sl_congr (by first | rfl | (simp; done) | omega | (simp; omega)))) rfl) (b := ?_)
            have hx7_5 : k < ((subT (T).t (heightT (T).t) ((T).root))).length := (by first | omega | (simp; omega))
            refine qv 2 [] (a := by exact fun _ hw2 => kixM hx7_5 (hw2.rd 0 rfl)) (b := ?_)
            refine qv 0 [] (a := by exact fun _ hw2 => kldM hx7_5 (hw2.rd 0 rfl)) (b := ?_)
            refine qc 0 [] (X := .bool (decide ((((subT (T).t (heightT (T).t) ((T).root)))[k]'hx7_5) ∈ (((subT (T).t (heightT (T).t) ((T).root))).take (k))))) (b := by exact fun w2 hw2 => (isIn_fn A13_3 c13_3 (((subT (T).t (heightT (T).t) ((T).root))).take (k)) (((subT (T).t (heightT (T).t) ((T).root)))[k]'hx7_5) w2 (rd_take1 (hw2.rd 0 rfl)) (by simp; omega)).mono fun _ _ h => ⟨h.1, Mem.call0 hw2 h.2⟩) (c := ?_)
            refine qn 0 [] fun w7d hM7d => ?_
            refine cb 0 [] (fun c51 => ?_) (fun c51 => ?_)
            · refine E1 5 [] (.bool (false)) ?_
              exact ⟨(by rw [hve, decide_eq_false (nodup_bad hx7_5 (by simpa using c51))]; rfl), (Mem.none hM7d)⟩
            · refine ov 3 [] (a := kaddN (k + 1)) (b := ?_)
              exact le1 2 [] (k + 1) [0, 1] (h := by exact ⟨(by (try dsimp only); omega), (nodup_step hx7_5 hi1_l5 (by simpa using c51))⟩)
          · refine E1 12 [1] (.bool (decide (((((subT (T).t (heightT (T).t) ((T).root))).length : Nat) : Int) = (((T).l.length : Nat) : Int)))) ?_
            exact ⟨(by rw [hve, decide_eq_true (show (subT (T).t (heightT (T).t) (T).root).Nodup by rwa [List.take_of_length_le (by omega)] at hi1_l5), pages_len]; refine congrArg Value.bool ?_; rw [Bool.true_and]; exact decide_eq_decide.2 (by omega)), (Mem.none hM_l5)⟩
end Go.Proofs.YtemejgglbhjodaaGreatDoor
end
section
namespace Go.Proofs.YtemejgglbhjodaaGreatDoor
open Go.Px
theorem rowOf_fn (p : PgL) (w : World) (hNp : PgN w p) (hk : (p).k.l.length ≤ 1048576) (hv : (p).v.l.length = (p).k.l.length) :
    Does Tryz.prog 49 [.agg #[.slice ((p).k.A) ((p).k.l.length) ((p).k.cp), .slice ((p).c.A) ((p).c.l.length) ((p).c.cp), .slice ((p).v.A) ((p).v.l.length) ((p).v.cp)]] w (fun v w1 => ∃ (A1 : Option Addr) (c1 : Nat), v = .slice (A1) ((prsP (p).t).length) (c1) ∧ Mem w w1 [] [[⟨.slice (A1) ((prsP (p).t).length) (c1), 27, 2, ((prsP (p).t).length), (prsP (p).t).flatMap encP⟩]]) := by
  have hM : Mem w w [] [] := Mem.refl
  refine Does.n1 Tryz.func49 rfl Tryz.results49 Tryz.ntmps49 rfl ?_
  refine Bx 2 [] fun w0_0 b0_0 hb0_0 hM0_0 => ?_
  refine Lt 4 [] (([]).flatMap encP) (fun w1_0 b1_0 hb1_0 hM1_0 => ?_)
  have hq1 : ([] : List PairT) = (prsP (p).t).take 0 := (by first | rfl | simp | (simp; omega))
  have hMn1 := hM1_0.reF 0 hq1 (f := encP)
  refine lp3 8 [] (fun (k : Nat) (A2 : Option Addr) (c2 : Nat) => ([(3, Vl (A2) (((prsP (p).t).take k).length) (c2)), (4, Vi (((k : Nat) : Int)))] : List (Nat × SV))) (fun (k : Nat) (A2 : Option Addr) (c2 : Nat) => (k ≤ (p).k.l.length)) (fun (k : Nat) (A2 : Option Addr) (c2 : Nat) => [[⟨.slice (A2) (((prsP (p).t).take k).length) (c2), 27, 2, (((prsP (p).t).take k).length), ((prsP (p).t).take k).flatMap encP⟩]]) (fun (k : Nat) (A2 : Option Addr) (c2 : Nat) => (p).k.l.length - k) [1] [0] [1] 0 (bl b1_0) 0 (fun k A2 c2 σ w_l3 hI hM_l3 => ?_) (h0 := (Nat.zero_le _))
  have hi0_l3 := hI
  have hcl0_l3 := (hM_l3.cap 0 rfl).1
  refine cd 9 [1] (fun c10 => ?_) (fun c10 => ?_)
  · refine any 3 [] 15 [1] fun w5a hM5a => ?_
    have hx5_4 : k < ((p).k.l).length := (by first | omega | (simp; omega))
    refine av [0, 1, 2, 3] [0] 4 (a := by exact fun _ hw2 => kixM hx5_4 (hNp.at hM5a).1) (b := ?_)
    have hx5_9 : k < ((p).v.l).length := (by first | omega | (simp; omega))
    refine av [6, 7, 8] [0] 9 (a := by exact fun _ hw2 => kixM hx5_9 (hNp.at hM5a).2.2) (b := ?_)
    refine aT [] [] 5 10 ?_ ?_
    · refine ov 0 [] (a := kldM hx5_4 (hNp.at hM5a).1) (b := ?_)
      refine os 0 [] [1] ?_
      refine aO [] [] 10 ?_
      refine ov 0 [] (a := kldM hx5_9 (hNp.at hM5a).2.2) (b := ?_)
      refine os 0 [] [1] ?_
      refine aO [11] [] 12 ?_
      refine Lt 0 [] (([(⟨((p).k.l)[k]'hx5_4, ((p).v.l)[k]'hx5_9⟩ : PairT)]).flatMap encP) (fun w5_12 b5_12 hb5_12 hM5_12 => ?_)
      refine os 0 [] [2] ?_
      refine aO [] [] 13 ?_
      refine aF 0 [] 1 (hM5_12.rd 0 rfl) (fun w5_13 A5_13 c5_13 hc5_13 hM5_13 => ?_) (hn := by first | omega | (simp; omega)) (hb := by first | omega | (simp; omega))
      refine os 0 [] [2] ?_
      refine an [14] [] ?_
      refine ov 2 [] (a := kaddN (k + 1)) (b := ?_)
      have hq2 : ((prsP (p).t).take k ++ [(⟨((p).k.l)[k]'hx5_4, ((p).v.l)[k]'hx5_9⟩ : PairT)] : List PairT) = (prsP (p).t).take (k + 1) := (prs_snoc hx5_4 hx5_9)
      have hMn2 := hM5_13.reF 1 hq2
      exact le3 2 [] (k + 1) A5_13 c5_13 [1, 2] (h := by exact (by (try dsimp only); omega))
    · refine ov 0 [] (a := kldM hx5_9 (hNp.at hM5a).2.2) (b := ?_)
      refine os 0 [] [1] ?_
      refine aO [] [] 5 ?_
      refine ov 0 [] (a := kldM hx5_4 (hNp.at hM5a).1) (b := ?_)
      refine os 0 [] [1] ?_
      refine aO [11] [] 12 ?_
      refine Lt 0 [] (([(⟨((p).k.l)[k]'hx5_4, ((p).v.l)[k]'hx5_9⟩ : PairT)]).flatMap encP) (fun w5_12 b5_12 hb5_12 hM5_12 => ?_)
      refine os 0 [] [2] ?_
      refine aO [] [] 13 ?_
      refine aF 0 [] 1 (hM5_12.rd 0 rfl) (fun w5_13 A5_13 c5_13 hc5_13 hM5_13 => ?_) (hn := by first | omega | (simp; omega)) (hb := by first | omega | (simp; omega))
      refine os 0 [] [2] ?_
      refine an [14] [] ?_
      refine ov 2 [] (a := kaddN (k + 1)) (b := ?_)
      have hq3 : ((prsP (p).t).take k ++ [(⟨((p).k.l)[k]'hx5_4, ((p).v.l)[k]'hx5_9⟩ : PairT)] : List PairT) = (prsP (p).t).take (k + 1) := (prs_snoc hx5_4 hx5_9)
      have hMn3 := hM5_13.reF 1 hq3
      exact le3 2 [] (k + 1) A5_13 c5_13 [1, 2] (h := by exact (by (try dsimp only); omega))
  · refine E1 7 [] (.slice (A2) (((prsP (p).t).take k).length) (c2)) ?_
    have hq4 : ((prsP (p).t).take k : List PairT) = prsP (p).t := (prs_take (by omega))
    have hMn4 := hM_l3.reF 0 hq4
    exact ⟨A2, c2, (sl_congr (by rw [prs_take (by omega)])), (hMn4.pk [0])⟩
theorem pairsOfLeaf_fn (p : PgL) (w : World) (hNp : PgN w p) (hk : (p).k.l.length ≤ 1048576) (hv : (p).v.l.length = (p).k.l.length) :
    Does Tryz.prog 35 [.agg #[.slice ((p).k.A) ((p).k.l.length) ((p).k.cp), .slice ((p).c.A) ((p).c.l.length) ((p).c.cp), .slice ((p).v.A) ((p).v.l.length) ((p).v.cp)]] w (fun v w1 => ∃ (A1 : Option Addr) (c1 : Nat), v = .slice (A1) ((prsP (p).t).length) (c1) ∧ Mem w w1 [] [[⟨.slice (A1) ((prsP (p).t).length) (c1), 27, 2, ((prsP (p).t).length), (prsP (p).t).flatMap encP⟩]]) := by
  have hM : Mem w w [] [] := Mem.refl
  refine Does.n1 Tryz.func35 rfl Tryz.results35 Tryz.ntmps35 rfl ?_
  refine Bx 2 [] fun w0_0 b0_0 hb0_0 hM0_0 => ?_
  refine go 7 [0] ?_
  refine O.mmake (k := (p).k.l.length) (sz := 2) (xs := (List.replicate ((p).k.l.length) (⟨0, 0⟩ : PairT)).flatMap encP) hM0_0 rfl Tryz.underlying43 el27 rfl rfl rfl rfl (by omega) (by omega) (zer_flat rfl) (fun w1_3 b1_3 hb1_3 hM1_3 => ?_)
  have hq1 : (List.replicate ((p).k.l.length) (⟨0, 0⟩ : PairT) : List PairT) = (prsP (p).t).take 0 ++ List.replicate ((p).k.l.length - 0) (⟨0, 0⟩ : PairT) := (by simp)
  have hMn1 : Mem w w1_3 [] [[⟨.slice (bl b1_3) ((p).k.l.length) ((p).k.l.length), 27, 2, ((p).k.l.length), ((prsP (p).t).take 0 ++ List.replicate ((p).k.l.length - 0) (⟨0, 0⟩ : PairT)).flatMap encP⟩], [⟨.slice (bl b0_0) 1 1, 42, 3, 1, [.slice ((p).k.A) ((p).k.l.length) ((p).k.cp), .slice ((p).c.A) ((p).c.l.length) ((p).c.cp), .slice ((p).v.A) ((p).v.l.length) ((p).v.cp)]⟩]] := hM1_3.relen 0 (n' := (p).k.l.length) (xs' := ((prsP (p).t).take 0 ++ List.replicate ((p).k.l.length - 0) (⟨0, 0⟩ : PairT)).flatMap encP) rfl (by first | rfl | exact congrArg List.length hq1 | (have hqq := congrArg List.length hq1; first | omega | (simp at hqq ⊢; omega)) | (simp; done) | (simp; omega)) (congrArg (fun z_ => (z_).flatMap encP) hq1) rfl
  refine lp1 11 [1] (fun (k : Nat) => ([(3, Vl (bl b1_3) ((p).k.l.length) ((p).k.l.length)), (13, Vi (((k : Nat) : Int)))] : List (Nat × SV))) (fun (k : Nat) => (k ≤ (p).k.l.length)) (fun (k : Nat) => [[⟨.slice (bl b1_3) ((p).k.l.length) ((p).k.l.length), 27, 2, ((p).k.l.length), ((prsP (p).t).take k ++ List.replicate ((p).k.l.length - k) (⟨0, 0⟩ : PairT)).flatMap encP⟩]]) (fun (k : Nat) => (p).k.l.length - k) [1, 11, 12] [0] [1] 0 (fun k σ w_l3 hI hM_l3 => ?_) (h0 := (Nat.zero_le _))
  have hi0_l3 := hI
  have hcl0_l3 := (hM_l3.cap 0 rfl).1
  refine cd 5 [] (fun c14 => ?_) (fun c14 => ?_)
  · have hx4_1 : k < ((p).k.l).length := (by first | omega | (simp; omega))
    refine ov 6 [] (a := kixM hx4_1 (hNp.at hM_l3).1) (b := ?_)
    refine ov 0 [] (a := kldM hx4_1 (hNp.at hM_l3).1) (b := ?_)
    have hx5_6 : k < ((p).v.l).length := (by first | omega | (simp; omega))
    refine ov 10 [1] (a := kixM hx5_6 (hNp.at hM_l3).2.2) (b := ?_)
    refine ov 0 [] (a := kldM hx5_6 (hNp.at hM_l3).2.2) (b := ?_)
    have hx5_9 : k < ((prsP (p).t).take k ++ List.replicate ((p).k.l.length - k) (⟨0, 0⟩ : PairT)).length := (by rw [List.length_append, List.length_take, List.length_replicate, prs_len]; show k < min k (p).k.l.length + ((p).k.l.length - k); omega)
    refine ov 1 [] (a := kixF hx5_9 (hM_l3.rd 0 rfl) (h0 := by omega)) (b := ?_)
    refine sF 0 [] 0 (⟨((p).k.l)[k]'hx4_1, ((p).v.l)[k]'hx5_6⟩ : PairT) hx5_9 fun w5_10 hM5_10 => ?_
    refine ov 2 [] (a := kaddN (k + 1)) (b := ?_)
    have hq2 : (((prsP (p).t).take k ++ List.replicate ((p).k.l.length - k) (⟨0, 0⟩ : PairT)).set (k) (⟨((p).k.l)[k]'hx4_1, ((p).v.l)[k]'hx5_6⟩ : PairT) : List PairT) = (prsP (p).t).take (k + 1) ++ List.replicate ((p).k.l.length - (k + 1)) (⟨0, 0⟩ : PairT) := (prs_set hx4_1 hx5_6)
    have hMn2 : Mem w w5_10 [] [[⟨.slice (bl b1_3) ((p).k.l.length) ((p).k.l.length), 27, 2, ((p).k.l.length), ((prsP (p).t).take (k + 1) ++ List.replicate ((p).k.l.length - (k + 1)) (⟨0, 0⟩ : PairT)).flatMap encP⟩], [⟨.slice (bl b0_0) 1 1, 42, 3, 1, [.slice ((p).k.A) ((p).k.l.length) ((p).k.cp), .slice ((p).c.A) ((p).c.l.length) ((p).c.cp), .slice ((p).v.A) ((p).v.l.length) ((p).v.cp)]⟩]] := hM5_10.relen 0 (n' := (p).k.l.length) (xs' := ((prsP (p).t).take (k + 1) ++ List.replicate ((p).k.l.length - (k + 1)) (⟨0, 0⟩ : PairT)).flatMap encP) rfl (by first | rfl | exact congrArg List.length hq2 | (have hqq := congrArg List.length hq2; first | omega | (simp at hqq ⊢; omega)) | (simp; done) | (simp; omega)) (congrArg (fun z_ => (z_).flatMap encP) hq2) rfl
    exact le1 2 [] (k + 1) [0, 1] (h := by exact (by (try dsimp only); omega))
  · refine E1 7 [] (.slice (bl b1_3) ((p).k.l.length) ((p).k.l.length)) ?_
    have hke : k = (p).k.l.length := by omega
    have hq3 : ((prsP (p).t).take k ++ List.replicate ((p).k.l.length - k) (⟨0, 0⟩ : PairT) : List PairT) = prsP (p).t := (by rw [prs_take (by omega), show (p).k.l.length - k = 0 by omega]; simp)
    have hMn3 := hM_l3.reF 0 hq3
    exact ⟨bl b1_3, (p).k.l.length, (sl_congr (by rw [prs_len]; rfl)), (hMn3.pk [0])⟩
theorem slistText_fn (A : Option Addr) (c : Nat) (l : List Int) (w : World) (hA : Rd w A ((l).map I)) (hl : l.length ≤ 1000) (hb : ∀ x ∈ l, -99999 ≤ x ∧ x ≤ 99999) :
    Does Tryz.prog 50 [.slice (A) ((l).length) (c)] w (fun v w1 => v = S (fmtI l) ∧ Mem w w1 [] []) := by
  have hM : Mem w w [] [] := Mem.refl
  refine Does.n1 Tryz.func50 rfl Tryz.results50 Tryz.ntmps50 rfl ?_
  refine lp1 14 [] (fun (k : Nat) => ([(3, Vs (fmtI (l.take k))), (4, Vi (((k : Nat) : Int)))] : List (Nat × SV))) (fun (k : Nat) => (k ≤ l.length)) (fun (k : Nat) => []) (fun (k : Nat) => l.length - k) [0] [] [] 0 (fun k σ w_l3 hI hM_l3 => ?_) (hL := by exact (Has.cons (congrArg S (by simp [fmtI])) (Has.cons (I_congr (by first | rfl | omega | (simp; omega) | simp)) Has.nil))) (h0 := (Nat.zero_le _))
  have hi0_l3 := hI
  refine cd 8 [] (fun c8 => ?_) (fun c8 => ?_)
  · have hkl : k < l.length := by omega
    have hxb := hb _ (List.getElem_mem hkl)
    have hfl := fmtI_len (l := l) (fun x hx => by have := hb x hx; omega) k (by omega)
    have hfe := fmtI_take hkl
    have hil := itoa_len (n := l[k]) (by omega) (by omega)
    refine cd 9 [] (fun c12 => ?_) (fun c12 => ?_)
    · have hk0 : k ≠ 0 := by omega
      refine ov 2 [] (a := kcat (h := by first | omega | (simp; omega))) (b := ?_)
      have hx7_3 : k < (l).length := (by first | omega | (simp; omega))
      refine ov 6 [] (a := kixM hx7_3 (hA.at hM_l3)) (b := ?_)
      refine ov 0 [] (a := kldM hx7_3 (hA.at hM_l3)) (b := ?_)
      refine cp 0 [] (b := decimal_fn _ w_l3 qo) (c := fun w7_5 hM7_5 => ?_)
      refine ov 0 [] (a := kcat (h := by first | omega | (simp; omega))) (b := ?_)
      refine ov 4 [] (a := kaddN (k + 1)) (b := ?_)
      exact le1 2 [] (k + 1) [] (hL := by exact (Has.cons (congrArg S (by rw [hfe]; simp [hk0])) (Has.cons (I_congr (by first | rfl | omega | (simp; omega) | simp)) Has.nil))) (h := by exact (by (try dsimp only); omega))
    · have hk0 : k = 0 := by omega
      have hx7_3 : k < (l).length := (by first | omega | (simp; omega))
      refine ov 5 [] (a := kixM hx7_3 (hA.at hM_l3)) (b := ?_)
      refine ov 0 [] (a := kldM hx7_3 (hA.at hM_l3)) (b := ?_)
      refine cp 0 [] (b := decimal_fn _ w_l3 qo) (c := fun w7_5 hM7_5 => ?_)
      refine ov 0 [] (a := kcat (h := by first | omega | (simp; omega))) (b := ?_)
      refine ov 4 [] (a := kaddN (k + 1)) (b := ?_)
      exact le1 2 [] (k + 1) [] (hL := by exact (Has.cons (congrArg S (by rw [hfe]; simp [hk0])) (Has.cons (I_congr (by first | rfl | omega | (simp; omega) | simp)) Has.nil))) (h := by exact (by (try dsimp only); omega))
  · refine E1 7 [] (S (fmtI (l.take k))) ?_
    exact ⟨(congrArg S (by rw [List.take_of_length_le (by omega)])), (Mem.none hM_l3)⟩
theorem listText_fn (A : Option Addr) (c : Nat) (l : List Int) (w : World) (hA : Rd w A ((l).map I)) (hl : l.length ≤ 1000) (hb : ∀ x ∈ l, -99999 ≤ x ∧ x ≤ 99999) (htab : TAB w) :
    Does Tryz.prog 44 [.slice (A) ((l).length) (c)] w (fun v w1 => v = S (fmtI l) ∧ Mem w w1 [] []) := by
  have hM : Mem w w [] [] := Mem.refl
  refine Does.n1 Tryz.func44 rfl Tryz.results44 Tryz.ntmps44 rfl ?_
  refine Al 6 [] fun w1_0 b1_0 hb1_0 hM1_0 => ?_
  have hMn1 := Mem.addNil (e := 5) (sz := 1) hM1_0
  have hq2 : ([] : List UInt8) = fmtI (l.take 0) := (by simp [fmtI])
  have hMn2 := hMn1.reM 0 hq2 (f := byteV)
  have hMn3 := hMn2.reB 1 1 (show 0 = (fmtI (l.take 0)).length from (by simp [fmtI]))
  refine lp4 9 [] (fun (k : Nat) (pv : Value) (A2 : Option Addr) (c2 : Nat) => ([(8, Vi (((k : Nat) : Int)))] : List (Nat × SV))) (fun (k : Nat) (pv : Value) (A2 : Option Addr) (c2 : Nat) => (k ≤ l.length) ∧ (pv = .pointer none ∨ pv = .pointer (ofs (bl b1_0) 0))) (fun (k : Nat) (pv : Value) (A2 : Option Addr) (c2 : Nat) => [[⟨.slice (A2) ((fmtI (l.take k)).length) (c2), 5, 1, ((fmtI (l.take k)).length), (fmtI (l.take k)).map byteV⟩], [⟨.slice (bl b1_0) 1 1, 93, 2, 1, [(pv), .slice (A2) ((fmtI (l.take k)).length) (c2)]⟩]]) (fun (k : Nat) (pv : Value) (A2 : Option Addr) (c2 : Nat) => l.length - k) [3, 6, 7] [0, 1] [] 0 ((.pointer none) : Value) none 0 (fun k pv A2 c2 σ w_l3 hI hM_l3 => ?_) (h0 := ⟨(Nat.zero_le _), (.inl rfl)⟩)
  obtain ⟨hi0_l3, hi1_l3⟩ := hI
  have hcl0_l3 := (hM_l3.cap 0 rfl).1
  refine cd 5 [] (fun c9 => ?_) (fun c9 => ?_)
  · have hkl : k < l.length := by omega
    have hxb := hb _ (List.getElem_mem hkl)
    have hfl := fmtI_len (l := l) (fun x hx => by have := hb x hx; omega) k (by omega)
    have hfe := fmtI_take hkl
    have hil := itoa_len (n := l[k]) (by omega) (by omega)
    have hx4_1 : k < (l).length := (by first | omega | (simp; omega))
    refine ov 6 [] (a := kixM hx4_1 (hA.at hM_l3)) (b := ?_)
    refine ov 0 [] (a := kldM hx4_1 (hA.at hM_l3)) (b := ?_)
    refine cd 9 [] (fun c14 => ?_) (fun c14 => ?_)
    · have hk0 : k ≠ 0 := by omega
      have hMf6_0 := hM_l3.pk [1, 0]
      refine cq 1 [] (b := WriteByte_fn b1_0 A2 c2 (fmtI (l.take k)) (pv) (44 : UInt8) w_l3 (hMf6_0.fp [0, 1] rfl rfl) (by first | exact .inl rfl | exact .inr rfl | assumption) (by first | omega | (simp; omega))) (c := ?_)
      rintro _ w6_0 ⟨A16_0, c16_0, rfl, hR6_0⟩
      have hM6_0 := hMf6_0.cl 2 hR6_0
      have hcr6_0_1 := (hM6_0.cap 1 rfl).1
      refine cp 3 [] (b := Itoa_fn _ w6_0 (tab_at htab hM6_0) (by constructor <;> omega)) (c := fun w7_1 hM7_1 => ?_)
      refine cq 0 [] (b := WriteString_fn b1_0 A16_0 c16_0 ((fmtI (l.take k)) ++ [(44 : UInt8)]) (.pointer (ofs (bl b1_0) (0))) _ w7_1 (hM7_1.fp [0, 1] rfl rfl) (by first | exact .inl rfl | exact .inr rfl | assumption) (by first | omega | (simp; omega))) (c := ?_)
      rintro _ w7_2 ⟨A17_2, c17_2, rfl, hR7_2⟩
      have hM7_2 := hM7_1.cl 2 hR7_2
      have hcr7_2_1 := (hM7_2.cap 1 rfl).1
      refine ov 2 [] (a := kaddN (k + 1)) (b := ?_)
      have hq4 : (((fmtI (l.take k)) ++ [(44 : UInt8)]) ++ (itoaS ((l)[k]'hx4_1)) : List UInt8) = fmtI (l.take (k + 1)) := (by rw [hfe]; simp [hk0])
      have hMn4 := hM7_2.reM 1 hq4
      have hMn5 := hMn4.reB 0 1 (show (((fmtI (l.take k)) ++ [(44 : UInt8)]) ++ (itoaS ((l)[k]'hx4_1))).length = (fmtI (l.take (k + 1))).length from congrArg List.length hq4)
      exact le4 2 [] (k + 1) ((.pointer (ofs (bl b1_0) (0))) : Value) A17_2 c17_2 [1, 0] (h := by exact ⟨(by (try dsimp only); omega), (.inr rfl)⟩)
    · have hk0 : k = 0 := by omega
      refine cp 3 [] (b := Itoa_fn _ w_l3 (tab_at htab hM_l3) (by constructor <;> omega)) (c := fun w7_1 hM7_1 => ?_)
      have hMf7_2 := hM7_1.pk [1, 0]
      refine cq 0 [] (b := WriteString_fn b1_0 A2 c2 (fmtI (l.take k)) (pv) _ w7_1 (hMf7_2.fp [0, 1] rfl rfl) (by first | exact .inl rfl | exact .inr rfl | assumption) (by first | omega | (simp; omega))) (c := ?_)
      rintro _ w7_2 ⟨A17_2, c17_2, rfl, hR7_2⟩
      have hM7_2 := hMf7_2.cl 2 hR7_2
      have hcr7_2_1 := (hM7_2.cap 1 rfl).1
      refine ov 2 [] (a := kaddN (k + 1)) (b := ?_)
      have hq6 : ((fmtI (l.take k)) ++ (itoaS ((l)[k]'hx4_1)) : List UInt8) = fmtI (l.take (k + 1)) := (by rw [hfe]; simp [hk0])
      have hMn6 := hM7_2.reM 1 hq6
      have hMn7 := hMn6.reB 0 1 (show ((fmtI (l.take k)) ++ (itoaS ((l)[k]'hx4_1))).length = (fmtI (l.take (k + 1))).length from congrArg List.length hq6)
      exact le4 2 [] (k + 1) ((.pointer (ofs (bl b1_0) (0))) : Value) A17_2 c17_2 [1, 0] (h := by exact ⟨(by (try dsimp only); omega), (.inr rfl)⟩)
  · refine go 3 [] ?_
    refine O.callg [.pointer (ofs (bl b1_0) (0))] rfl en64 rfl rfl (String_fn (l := fmtI (l.take k)) w_l3 hM_l3.size (hM_l3.builder 1 0 rfl rfl (by exact hi1_l3))) ?_
    rintro _ w9_0 ⟨rfl, hB9_0⟩
    have hM9_0 : Mem w w9_0 [] [] := mem_below hM_l3 hB9_0
    refine E1 3 [] (S (fmtI (l.take k))) ?_
    exact ⟨(congrArg S (by rw [List.take_of_length_le (by omega)])), (Mem.none hM9_0)⟩
end Go.Proofs.YtemejgglbhjodaaGreatDoor
end
section
namespace Go.Proofs.YtemejgglbhjodaaGreatDoor
open Go.Px
theorem PageText_fn (T : TreeL) (at0 : Int) (w : World) (hNT : TrN w T) (hs : SzT T) (htab : TAB w) :
    Does Tryz.prog 16 [.agg #[I ((T).root), .slice ((T).A) ((T).l.length) ((T).cp)], I (at0)] w (fun v w1 => v = S (pgX (T).t at0) ∧ Mem w w1 [] []) := by
  have hM : Mem w w [] [] := Mem.refl
  refine Does.n1 Tryz.func16 rfl Tryz.results16 Tryz.ntmps16 rfl ?_
  have hs1 := hs.1
  refine Bx 2 [] fun w0_0 b0_0 hb0_0 hM0_0 => ?_
  refine cp 6 [0] (b := ValidTree_fn T w0_0 (hNT.at hM0_0) q0) (c := fun w1_1 hM1_1 => ?_)
  refine pt 2 [] 9 (fun g9 => ?_) (fun g9 => ?_)
  · refine E1 17 [] (S ([])) ?_
    exact ⟨(congrArg S (by rw [pgX_no (.inl (by simpa using g9))])), (Mem.none hM1_1)⟩
  · refine pp 4 [] 13 (fun g13 => ?_) (fun g13 => ?_)
    · refine E1 13 [] (S ([])) ?_
      exact ⟨(congrArg S (by rw [pgX_no (.inr (by cases h9 : inT (T).t at0 with | false => rfl | true => (have := inT_t.1 h9; exfalso; omega)))])), (Mem.none hM1_1)⟩
    · refine cd 7 [0] (fun c19 => ?_) (fun c19 => ?_)
      · refine E1 5 [] (S ([])) ?_
        exact ⟨(congrArg S (by rw [pgX_no (.inr (by cases h9 : inT (T).t at0 with | false => rfl | true => (have := inT_t.1 h9; exfalso; omega)))])), (Mem.none hM1_1)⟩
      · have hv : validT (T).t = true := by simpa using g9
        have hin : inT (T).t at0 = true := inT_t.2 (by omega)
        have hat := inT_t.1 hin
        obtain ⟨e9, lo9, hi9, he9, hok9⟩ := valid_page hv hin
        have hfb := (okB_iff.1 hok9).2.1
        have hl4 := fr_len hfb
        have hvk := validK_iff.1 (fr_keys hfb)
        have hkin := ok_kids_in hok9
        have hpl := (valid_len hv).2
        have hx3_3 : (at0).toNat < ((T).l).length := (by first | omega | (simp; omega))
        refine ov 6 [0] (a := kixF hx3_3 (hNT.at hM1_1).1) (b := ?_)
        refine ov 0 [] (a := kldN hx3_3 (hNT.at hM1_1).1) (b := ?_)
        have hgp : gP (T).t at0 = ((T).l[(at0).toNat]'hx3_3).t := gP_at rfl hx3_3
        have hsz := hs.at hx3_3
        refine Al 0 [] fun w3_5 b3_5 hb3_5 hM3_5 => ?_
        refine Sb 0 [] 0 fun w3_6 hM3_6 => ?_
        refine cd 9 [0] (fun c28 => ?_) (fun c28 => ?_)
        · have hk0 : (gP (T).t at0).kids = [] := by rw [hgp]; exact List.eq_nil_of_length_eq_zero (by show (((T).l[(at0).toNat]'hx3_3).c.l).length = 0; omega)
          have hvr := prs_valid hfb hk0
          rw [hgp] at hvr
          have hvl := (fr_leaf hfb hk0).1
          rw [hgp] at hvl
          have hte := pgX_leaf hv hin hk0
          rw [hgp] at hte
          have hfy := fmtR_yes hvr
          have hl5 : (((T).l[(at0).toNat]'hx3_3).k.l).length ≤ 4 := by rw [hgp] at hl4; exact hl4
          refine cq 3 [0] (b := pairsOfLeaf_fn (((T).l)[(at0).toNat]'hx3_3) w3_6 (((hNT.at hM3_6)).2.get hx3_3) qo (by exact hvl)) (c := ?_)
          rintro _ w5_1 ⟨A15_1, c15_1, rfl, hR5_1⟩
          have hM5_1 := hM3_6.cl 0 hR5_1
          have hcr5_1_0 := (hM5_1.cap 0 rfl).1
          refine cp 0 [] (b := FormatRow_fn _ _ _ w5_1 (hM5_1.rd 0 rfl) (by first | omega | (simp; omega)) (tab_at htab hM5_1)) (c := fun w5_2 hM5_2 => ?_)
          refine E1 3 [] (S (fmtR (prsP ((((T).l)[(at0).toNat]'hx3_3)).t))) ?_
          exact ⟨(congrArg S (by rw [hte, hfy])), (Mem.none hM5_2)⟩
        · have hk0 : (gP (T).t at0).kids ≠ [] := by rw [hgp]; intro e9; exact absurd (show (((T).l[(at0).toNat]'hx3_3).c.l).length = 0 from congrArg List.length e9) (by omega)
          have hkl := (fr_in hfb hk0).2
          have hte := pgX_in hv hin hk0
          rw [hgp] at hte hkl hl4 hvk hkin
          have hl5 : (((T).l[(at0).toNat]'hx3_3).k.l).length ≤ 4 := hl4
          have hl6 : (((T).l[(at0).toNat]'hx3_3).c.l).length = (((T).l[(at0).toNat]'hx3_3).k.l).length + 1 := hkl
          have hb1 : ∀ x ∈ ((T).l[(at0).toNat]'hx3_3).k.l, -99999 ≤ x ∧ x ≤ 99999 := fun x hx => by have := hvk.1 x hx; omega
          have hb2 : ∀ x ∈ ((T).l[(at0).toNat]'hx3_3).c.l, -99999 ≤ x ∧ x ≤ 99999 := fun x hx => by have := hkin x hx; omega
          have hf1 := fmtI_len (l := ((T).l[(at0).toNat]'hx3_3).k.l) (fun x hx => by have := hb1 x hx; omega) _ (Nat.le_refl _)
          have hf2 := fmtI_len (l := ((T).l[(at0).toNat]'hx3_3).c.l) (fun x hx => by have := hb2 x hx; omega) _ (Nat.le_refl _)
          rw [List.take_length] at hf1 hf2
          refine dr 2 [] ?_
          refine qc 2 [0] (X := S (fmtI ((((T).l)[(at0).toNat]'hx3_3).k.l))) (b := by exact fun w2 hw2 => (listText_fn ((((T).l)[(at0).toNat]'hx3_3).k.A) ((((T).l)[(at0).toNat]'hx3_3).k.cp) ((((T).l)[(at0).toNat]'hx3_3).k.l) w2 (((hNT.at hw2)).2.get hx3_3).1 qo (by exact hb1) (tab_at htab hw2)).mono fun _ _ h => ⟨h.1, Mem.call0 hw2 h.2⟩) (c := ?_)
          refine qv 0 [] (a := by exact fun _ hw2 => kcat (h := by first | omega | (simp; omega))) (b := ?_)
          refine qc 2 [0] (X := S (fmtI ((((T).l)[(at0).toNat]'hx3_3).c.l))) (b := by exact fun w2 hw2 => (listText_fn ((((T).l)[(at0).toNat]'hx3_3).c.A) ((((T).l)[(at0).toNat]'hx3_3).c.cp) ((((T).l)[(at0).toNat]'hx3_3).c.l) w2 (((hNT.at hw2)).2.get hx3_3).2.1 qo (by exact hb2) (tab_at htab hw2)).mono fun _ _ h => ⟨h.1, Mem.call0 hw2 h.2⟩) (c := ?_)
          refine qv 0 [] (a := by exact fun _ hw2 => kcat (h := by first | omega | (simp; omega))) (b := ?_)
          refine qn 1 [] fun w6d hM6d => ?_
          refine E1 1 [] (S (((fmtI ((((T).l)[(at0).toNat]'hx3_3).k.l) ++ [124]) ++ fmtI ((((T).l)[(at0).toNat]'hx3_3).c.l)))) ?_
          exact ⟨(congrArg S (by rw [hte]; simp [PgL.t])), (Mem.none hM6d)⟩
theorem sPageText_fn (T : TreeL) (at0 : Int) (w : World) (hNT : TrN w T) (hs : SzT T) :
    Does Tryz.prog 18 [.agg #[I ((T).root), .slice ((T).A) ((T).l.length) ((T).cp)], I (at0)] w (fun v w1 => v = S (pgX (T).t at0) ∧ Mem w w1 [] []) := by
  have hM : Mem w w [] [] := Mem.refl
  refine Does.n1 Tryz.func18 rfl Tryz.results18 Tryz.ntmps18 rfl ?_
  have hs1 := hs.1
  refine Bx 2 [] fun w0_0 b0_0 hb0_0 hM0_0 => ?_
  refine cp 6 [0] (b := svalidTree_fn T w0_0 (hNT.at hM0_0) q0) (c := fun w1_1 hM1_1 => ?_)
  refine pt 2 [] 9 (fun g9 => ?_) (fun g9 => ?_)
  · refine E1 15 [] (S ([])) ?_
    exact ⟨(congrArg S (by rw [pgX_no (.inl (by simpa using g9))])), (Mem.none hM1_1)⟩
  · refine ov 4 [0] (a := ksub) (b := ?_)
    refine cp 0 [] (b := inRange_fn _ _ _ w1_1 ) (c := fun w1_9 hM1_9 => ?_)
    refine cn 3 [] (fun c17 => ?_) (fun c17 => ?_)
    · refine E1 5 [] (S ([])) ?_
      exact ⟨(congrArg S (by rw [pgX_no (.inr (by cases h9 : inT (T).t at0 with | false => rfl | true => (have := inT_t.1 h9; exfalso; simp at c17; omega)))])), (Mem.none hM1_9)⟩
    · have hv : validT (T).t = true := by simpa using g9
      have hin : inT (T).t at0 = true := inT_t.2 (by simp at c17; omega)
      have hat := inT_t.1 hin
      obtain ⟨e9, lo9, hi9, he9, hok9⟩ := valid_page hv hin
      have hfb := (okB_iff.1 hok9).2.1
      have hl4 := fr_len hfb
      have hvk := validK_iff.1 (fr_keys hfb)
      have hkin := ok_kids_in hok9
      have hpl := (valid_len hv).2
      have hx3_3 : (at0).toNat < ((T).l).length := (by first | omega | (simp; omega))
      refine ov 6 [0] (a := kixF hx3_3 (hNT.at hM1_9).1) (b := ?_)
      refine ov 0 [] (a := kldN hx3_3 (hNT.at hM1_9).1) (b := ?_)
      have hgp : gP (T).t at0 = ((T).l[(at0).toNat]'hx3_3).t := gP_at rfl hx3_3
      have hsz := hs.at hx3_3
      refine Al 0 [] fun w3_5 b3_5 hb3_5 hM3_5 => ?_
      refine Sb 0 [] 0 fun w3_6 hM3_6 => ?_
      refine cd 9 [0] (fun c26 => ?_) (fun c26 => ?_)
      · have hk0 : (gP (T).t at0).kids = [] := by rw [hgp]; exact List.eq_nil_of_length_eq_zero (by show (((T).l[(at0).toNat]'hx3_3).c.l).length = 0; omega)
        have hvr := prs_valid hfb hk0
        rw [hgp] at hvr
        have hvl := (fr_leaf hfb hk0).1
        rw [hgp] at hvl
        have hte := pgX_leaf hv hin hk0
        rw [hgp] at hte
        have hfy := fmtR_yes hvr
        have hl5 : (((T).l[(at0).toNat]'hx3_3).k.l).length ≤ 4 := by rw [hgp] at hl4; exact hl4
        refine cq 3 [0] (b := rowOf_fn (((T).l)[(at0).toNat]'hx3_3) w3_6 (((hNT.at hM3_6)).2.get hx3_3) qo (by exact hvl)) (c := ?_)
        rintro _ w5_1 ⟨A15_1, c15_1, rfl, hR5_1⟩
        have hM5_1 := hM3_6.cl 0 hR5_1
        have hcr5_1_0 := (hM5_1.cap 0 rfl).1
        refine cp 0 [] (b := rowText_fn _ _ _ w5_1 (hM5_1.rd 0 rfl) (by first | omega | (simp; omega)) (by exact valid_small hvr) (by first | omega | (simp; omega))) (c := fun w5_2 hM5_2 => ?_)
        refine E1 3 [] (S (fmtL (prsP ((((T).l)[(at0).toNat]'hx3_3)).t))) ?_
        exact ⟨(congrArg S (by rw [hte])), (Mem.none hM5_2)⟩
      · have hk0 : (gP (T).t at0).kids ≠ [] := by rw [hgp]; intro e9; exact absurd (show (((T).l[(at0).toNat]'hx3_3).c.l).length = 0 from congrArg List.length e9) (by omega)
        have hkl := (fr_in hfb hk0).2
        have hte := pgX_in hv hin hk0
        rw [hgp] at hte hkl hl4 hvk hkin
        have hl5 : (((T).l[(at0).toNat]'hx3_3).k.l).length ≤ 4 := hl4
        have hl6 : (((T).l[(at0).toNat]'hx3_3).c.l).length = (((T).l[(at0).toNat]'hx3_3).k.l).length + 1 := hkl
        have hb1 : ∀ x ∈ ((T).l[(at0).toNat]'hx3_3).k.l, -99999 ≤ x ∧ x ≤ 99999 := fun x hx => by have := hvk.1 x hx; omega
        have hb2 : ∀ x ∈ ((T).l[(at0).toNat]'hx3_3).c.l, -99999 ≤ x ∧ x ≤ 99999 := fun x hx => by have := hkin x hx; omega
        have hf1 := fmtI_len (l := ((T).l[(at0).toNat]'hx3_3).k.l) (fun x hx => by have := hb1 x hx; omega) _ (Nat.le_refl _)
        have hf2 := fmtI_len (l := ((T).l[(at0).toNat]'hx3_3).c.l) (fun x hx => by have := hb2 x hx; omega) _ (Nat.le_refl _)
        rw [List.take_length] at hf1 hf2
        refine dr 2 [] ?_
        refine qc 2 [0] (X := S (fmtI ((((T).l)[(at0).toNat]'hx3_3).k.l))) (b := by exact fun w2 hw2 => (slistText_fn ((((T).l)[(at0).toNat]'hx3_3).k.A) ((((T).l)[(at0).toNat]'hx3_3).k.cp) ((((T).l)[(at0).toNat]'hx3_3).k.l) w2 (((hNT.at hw2)).2.get hx3_3).1 qo (by exact hb1)).mono fun _ _ h => ⟨h.1, Mem.call0 hw2 h.2⟩) (c := ?_)
        refine qv 0 [] (a := by exact fun _ hw2 => kcat (h := by first | omega | (simp; omega))) (b := ?_)
        refine qc 2 [0] (X := S (fmtI ((((T).l)[(at0).toNat]'hx3_3).c.l))) (b := by exact fun w2 hw2 => (slistText_fn ((((T).l)[(at0).toNat]'hx3_3).c.A) ((((T).l)[(at0).toNat]'hx3_3).c.cp) ((((T).l)[(at0).toNat]'hx3_3).c.l) w2 (((hNT.at hw2)).2.get hx3_3).2.1 qo (by exact hb2)).mono fun _ _ h => ⟨h.1, Mem.call0 hw2 h.2⟩) (c := ?_)
        refine qv 0 [] (a := by exact fun _ hw2 => kcat (h := by first | omega | (simp; omega))) (b := ?_)
        refine qn 1 [] fun w6d hM6d => ?_
        refine E1 1 [] (S (((fmtI ((((T).l)[(at0).toNat]'hx3_3).k.l) ++ [124]) ++ fmtI ((((T).l)[(at0).toNat]'hx3_3).c.l)))) ?_
        exact ⟨(congrArg S (by rw [hte]; simp [PgL.t])), (Mem.none hM6d)⟩
end Go.Proofs.YtemejgglbhjodaaGreatDoor
end
section
namespace Go.Proofs.YtemejgglbhjodaaGreatDoor
open Go.Px
theorem equalInts_fn (A : Option Addr) (c : Nat) (a : List Int) (B : Option Addr) (d : Nat) (b : List Int) (w : World) (hA : Rd w A ((a).map I)) (hB : Rd w B ((b).map I)) (ha : a.length ≤ 1048576) :
    Does Tryz.prog 13 [.slice (A) ((a).length) (c), .slice (B) ((b).length) (d)] w (fun v w1 => v = .bool (decide (a = b)) ∧ Mem w w1 [] []) := by
  have hM : Mem w w [] [] := Mem.refl
  refine Does.n1 Tryz.func13 rfl Tryz.results13 Tryz.ntmps13 rfl ?_
  refine cd 13 [] (fun c10 => ?_) (fun c10 => ?_)
  · refine E1 5 [] (.bool (false)) ?_
    exact ⟨(by rw [ne_len (by omega)]), (Mem.none hM)⟩
  · refine lp1 7 [] (fun (k : Nat) => ([(5, Vi (((k : Nat) : Int)))] : List (Nat × SV))) (fun (k : Nat) => (k ≤ a.length) ∧ (a.take k = b.take k)) (fun (k : Nat) => []) (fun (k : Nat) => a.length - k) [0, 1] [] [] 0 (fun k σ w_l4 hI hM_l4 => ?_) (h0 := ⟨(Nat.zero_le _), (by (try dsimp only); simp)⟩)
    obtain ⟨hi0_l4, hi1_l4⟩ := hI
    refine cd 8 [] (fun c14 => ?_) (fun c14 => ?_)
    · refine dr 4 [] ?_
      have hx6_2 : k < (a).length := (by first | omega | (simp; omega))
      refine qv 2 [] (a := by exact fun _ hw2 => kixM hx6_2 (hA.at hw2)) (b := ?_)
      refine qv 0 [] (a := by exact fun _ hw2 => kldM hx6_2 (hA.at hw2)) (b := ?_)
      have hx6_6 : k < (b).length := (by first | omega | (simp; omega))
      refine qv 2 [] (a := by exact fun _ hw2 => kixM hx6_6 (hB.at hw2)) (b := ?_)
      refine qv 0 [] (a := by exact fun _ hw2 => kldM hx6_6 (hB.at hw2)) (b := ?_)
      refine qn 1 [] fun w6d hM6d => ?_
      refine cd 0 [] (fun c25 => ?_) (fun c25 => ?_)
      · refine E1 5 [] (.bool (false)) ?_
        exact ⟨(by rw [ne_at hx6_2 hx6_6 (by simpa using c25)]), (Mem.none hM6d)⟩
      · refine ov 3 [] (a := kaddN (k + 1)) (b := ?_)
        exact le1 2 [] (k + 1) [] (h := by exact ⟨(by (try dsimp only); omega), (eq_step hx6_2 hx6_6 hi1_l4 (by simpa using c25))⟩)
    · refine E1 6 [] (.bool (true)) ?_
      exact ⟨(by rw [eq_all (by omega) (by omega) hi1_l4]), (Mem.none hM_l4)⟩
end Go.Proofs.YtemejgglbhjodaaGreatDoor
end
section
namespace Go.Px
open Go.RowKit
section
variable {P : Program} {n : Nat} {ops rest : List Oper} {Q : Post} {τ : Fm} {K : List Fk} {w w0 : World} {R : List (Option Nat)} {M : List (List FE)} {T U T' e t : TypeId} {pos : String} {after : Array Edge} {g : Option (Nat × Bool)} {x y z : Operand} {zs : List Value} {bytes : Nat} {agg : Bool} {d : Nat} {p : Prop} {dst : Option Tmp}
variable {KS : List (Nat × SV)} {KN : List (List FE)} {c cx cy : Code} {m : Nat}
structure LE13 {α0 α1 α2 α3 α4 α5 α6 α7 α8 α9 α10 α11 α12 : Type} (L : α0 → α1 → α2 → α3 → α4 → α5 → α6 → α7 → α8 → α9 → α10 → α11 → α12 → List (Nat × SV)) (KS : List (Nat × SV)) (J : α0 → α1 → α2 → α3 → α4 → α5 → α6 → α7 → α8 → α9 → α10 → α11 → α12 → Prop) (N : α0 → α1 → α2 → α3 → α4 → α5 → α6 → α7 → α8 → α9 → α10 → α11 → α12 → List (List FE)) (KN : List (List FE)) (w0 : World) (R : List (Option Nat)) (μ : α0 → α1 → α2 → α3 → α4 → α5 → α6 → α7 → α8 → α9 → α10 → α11 → α12 → Nat) (m : Nat) (σ : Sig) (w : World) : Prop where h : ∃ x : α0 × α1 × α2 × α3 × α4 × α5 × α6 × α7 × α8 × α9 × α10 × α11 × α12, μ x.1 x.2.1 x.2.2.1 x.2.2.2.1 x.2.2.2.2.1 x.2.2.2.2.2.1 x.2.2.2.2.2.2.1 x.2.2.2.2.2.2.2.1 x.2.2.2.2.2.2.2.2.1 x.2.2.2.2.2.2.2.2.2.1 x.2.2.2.2.2.2.2.2.2.2.1 x.2.2.2.2.2.2.2.2.2.2.2.1 x.2.2.2.2.2.2.2.2.2.2.2.2 < m ∧ Has σ (vals (L x.1 x.2.1 x.2.2.1 x.2.2.2.1 x.2.2.2.2.1 x.2.2.2.2.2.1 x.2.2.2.2.2.2.1 x.2.2.2.2.2.2.2.1 x.2.2.2.2.2.2.2.2.1 x.2.2.2.2.2.2.2.2.2.1 x.2.2.2.2.2.2.2.2.2.2.1 x.2.2.2.2.2.2.2.2.2.2.2.1 x.2.2.2.2.2.2.2.2.2.2.2.2 ++ KS)) ∧ (fun x w => J x.1 x.2.1 x.2.2.1 x.2.2.2.1 x.2.2.2.2.1 x.2.2.2.2.2.1 x.2.2.2.2.2.2.1 x.2.2.2.2.2.2.2.1 x.2.2.2.2.2.2.2.2.1 x.2.2.2.2.2.2.2.2.2.1 x.2.2.2.2.2.2.2.2.2.2.1 x.2.2.2.2.2.2.2.2.2.2.2.1 x.2.2.2.2.2.2.2.2.2.2.2.2 ∧ Mem w0 w R (N x.1 x.2.1 x.2.2.1 x.2.2.2.1 x.2.2.2.2.1 x.2.2.2.2.2.1 x.2.2.2.2.2.2.1 x.2.2.2.2.2.2.2.1 x.2.2.2.2.2.2.2.2.1 x.2.2.2.2.2.2.2.2.2.1 x.2.2.2.2.2.2.2.2.2.2.1 x.2.2.2.2.2.2.2.2.2.2.2.1 x.2.2.2.2.2.2.2.2.2.2.2.2 ++ KN)) x w
theorem lp13 {α0 α1 α2 α3 α4 α5 α6 α7 α8 α9 α10 α11 α12 : Type}  (k9 : Nat) (is : List Nat) (L : α0 → α1 → α2 → α3 → α4 → α5 → α6 → α7 → α8 → α9 → α10 → α11 → α12 → List (Nat × SV)) (J : α0 → α1 → α2 → α3 → α4 → α5 → α6 → α7 → α8 → α9 → α10 → α11 → α12 → Prop) (N : α0 → α1 → α2 → α3 → α4 → α5 → α6 → α7 → α8 → α9 → α10 → α11 → α12 → List (List FE)) (μ : α0 → α1 → α2 → α3 → α4 → α5 → α6 → α7 → α8 → α9 → α10 → α11 → α12 → Nat) (ks io ik : List Nat) (a0 : α0) (a1 : α1) (a2 : α2) (a3 : α3) (a4 : α4) (a5 : α5) (a6 : α6) (a7 : α7) (a8 : α8) (a9 : α9) (a10 : α10) (a11 : α11) (a12 : α12) (h : ∀ (a0 : α0) (a1 : α1) (a2 : α2) (a3 : α3) (a4 : α4) (a5 : α5) (a6 : α6) (a7 : α7) (a8 : α8) (a9 : α9) (a10 : α10) (a11 : α11) (a12 : α12) (τ' : Fm) (w' : World), J a0 a1 a2 a3 a4 a5 a6 a7 a8 a9 a10 a11 a12 → Mem w0 w' R (N a0 a1 a2 a3 a4 a5 a6 a7 a8 a9 a10 a11 a12 ++ KN) → den P n Q w' ⟨.c c, .nm (LE13 L KS J N KN w0 R μ (μ a0 a1 a2 a3 a4 a5 a6 a7 a8 a9 a10 a11 a12)) :: K, upl τ' (L a0 a1 a2 a3 a4 a5 a6 a7 a8 a9 a10 a11 a12 ++ KS)⟩) (pre : Run k9 is (den P n Q w ⟨.c (.loop c), K, τ⟩) p := by first | exact Go.Px.gY | exact Go.Px.gR | (refine Go.Px.toOs ?_; exact Go.Px.gR) | (refine Go.Px.toOp ?_; exact Go.Px.gR) | (refine Go.Px.toO ?_; exact Go.Px.gR) | (refine Go.Px.toC ?_; exact Go.Px.gR) | (refine Go.Px.toYp ‹_› ?_; exact Go.Px.gY) | (refine Go.Px.toY ‹_› ?_; exact Go.Px.gY)) (hM : Mem w0 w R M := by assumption) (hk : keep τ ks = some KS := by exact rfl) (hr : Pk M ik KN := by (repeat (first | exact Go.Px.Pk.nil | (apply Go.Px.Pk.cons; exact rfl)))) (hN : Pk M io (N a0 a1 a2 a3 a4 a5 a6 a7 a8 a9 a10 a11 a12) := by (repeat (first | exact Go.Px.Pk.nil | (apply Go.Px.Pk.cons; exact rfl)))) (hn : (io ++ ik).Nodup := by decide) (hL : Has (Sg τ) (vals (L a0 a1 a2 a3 a4 a5 a6 a7 a8 a9 a10 a11 a12)) := by (repeat (first | exact True.intro | refine And.intro (by first | exact rfl | exact Go.Px.I_congr (by first | omega | (simp; omega) | simp) | exact Go.Px.sl_congr (by first | omega | (simp; done) | (simp; omega) | exact congrArg List.length (by assumption))) ?_))) (h0 : J a0 a1 a2 a3 a4 a5 a6 a7 a8 a9 a10 a11 a12) : p := pre (C.loop (ι := α0 × α1 × α2 × α3 × α4 × α5 × α6 × α7 × α8 × α9 × α10 × α11 × α12) (fun x => vals (L x.1 x.2.1 x.2.2.1 x.2.2.2.1 x.2.2.2.2.1 x.2.2.2.2.2.1 x.2.2.2.2.2.2.1 x.2.2.2.2.2.2.2.1 x.2.2.2.2.2.2.2.2.1 x.2.2.2.2.2.2.2.2.2.1 x.2.2.2.2.2.2.2.2.2.2.1 x.2.2.2.2.2.2.2.2.2.2.2.1 x.2.2.2.2.2.2.2.2.2.2.2.2 ++ KS)) (fun x w => J x.1 x.2.1 x.2.2.1 x.2.2.2.1 x.2.2.2.2.1 x.2.2.2.2.2.1 x.2.2.2.2.2.2.1 x.2.2.2.2.2.2.2.1 x.2.2.2.2.2.2.2.2.1 x.2.2.2.2.2.2.2.2.2.1 x.2.2.2.2.2.2.2.2.2.2.1 x.2.2.2.2.2.2.2.2.2.2.2.1 x.2.2.2.2.2.2.2.2.2.2.2.2 ∧ Mem w0 w R (N x.1 x.2.1 x.2.2.1 x.2.2.2.1 x.2.2.2.2.1 x.2.2.2.2.2.1 x.2.2.2.2.2.2.1 x.2.2.2.2.2.2.2.1 x.2.2.2.2.2.2.2.2.1 x.2.2.2.2.2.2.2.2.2.1 x.2.2.2.2.2.2.2.2.2.2.1 x.2.2.2.2.2.2.2.2.2.2.2.1 x.2.2.2.2.2.2.2.2.2.2.2.2 ++ KN)) (fun x => μ x.1 x.2.1 x.2.2.1 x.2.2.2.1 x.2.2.2.2.1 x.2.2.2.2.2.1 x.2.2.2.2.2.2.1 x.2.2.2.2.2.2.2.1 x.2.2.2.2.2.2.2.2.1 x.2.2.2.2.2.2.2.2.2.1 x.2.2.2.2.2.2.2.2.2.2.1 x.2.2.2.2.2.2.2.2.2.2.2.1 x.2.2.2.2.2.2.2.2.2.2.2.2) (a0, a1, a2, a3, a4, a5, a6, a7, a8, a9, a10, a11, a12) (has_app hL (keep_has hk)) ⟨h0, (hN.app hr).mem hn hM⟩ (fun x σ' w' hI => by have h9 := h x.1 x.2.1 x.2.2.1 x.2.2.2.1 x.2.2.2.2.1 x.2.2.2.2.2.1 x.2.2.2.2.2.2.1 x.2.2.2.2.2.2.2.1 x.2.2.2.2.2.2.2.2.1 x.2.2.2.2.2.2.2.2.2.1 x.2.2.2.2.2.2.2.2.2.2.1 x.2.2.2.2.2.2.2.2.2.2.2.1 x.2.2.2.2.2.2.2.2.2.2.2.2 (lf σ') w' hI.1 hI.2; simp only [den, Sg_upl, Sg_lf] at h9; exact C.mono h9 fun e σ w hh => by cases e <;> first | exact hh.h | exact hh))
theorem le13 {α0 α1 α2 α3 α4 α5 α6 α7 α8 α9 α10 α11 α12 : Type} {L : α0 → α1 → α2 → α3 → α4 → α5 → α6 → α7 → α8 → α9 → α10 → α11 → α12 → List (Nat × SV)} {J : α0 → α1 → α2 → α3 → α4 → α5 → α6 → α7 → α8 → α9 → α10 → α11 → α12 → Prop} {N : α0 → α1 → α2 → α3 → α4 → α5 → α6 → α7 → α8 → α9 → α10 → α11 → α12 → List (List FE)} {μ : α0 → α1 → α2 → α3 → α4 → α5 → α6 → α7 → α8 → α9 → α10 → α11 → α12 → Nat} (k9 : Nat) (is : List Nat) (a0 : α0) (a1 : α1) (a2 : α2) (a3 : α3) (a4 : α4) (a5 : α5) (a6 : α6) (a7 : α7) (a8 : α8) (a9 : α9) (a10 : α10) (a11 : α11) (a12 : α12) (io : List Nat) (pre : Run k9 is (den P n Q w ⟨.q .normal, .nm (LE13 L KS J N KN w0 R μ m) :: K, τ⟩) p := by first | exact Go.Px.gY | exact Go.Px.gR | (refine Go.Px.toOs ?_; exact Go.Px.gR) | (refine Go.Px.toOp ?_; exact Go.Px.gR) | (refine Go.Px.toO ?_; exact Go.Px.gR) | (refine Go.Px.toC ?_; exact Go.Px.gR) | (refine Go.Px.toYp ‹_› ?_; exact Go.Px.gY) | (refine Go.Px.toY ‹_› ?_; exact Go.Px.gY)) (hM : Mem w0 w R M := by assumption) (hm : μ a0 a1 a2 a3 a4 a5 a6 a7 a8 a9 a10 a11 a12 < m := by (try dsimp only); omega) (hL : Has (Sg τ) (vals (L a0 a1 a2 a3 a4 a5 a6 a7 a8 a9 a10 a11 a12)) := by (repeat (first | exact True.intro | refine And.intro (by first | exact rfl | exact Go.Px.I_congr (by first | omega | (simp; omega) | simp) | exact Go.Px.sl_congr (by first | omega | (simp; done) | (simp; omega) | exact congrArg List.length (by assumption))) ?_))) (hK : KS.map (fun p => τ p.1) = KS.map (·.2) := by exact rfl) (hp : Pk M io (N a0 a1 a2 a3 a4 a5 a6 a7 a8 a9 a10 a11 a12 ++ KN) := by (repeat (first | exact Go.Px.Pk.nil | (apply Go.Px.Pk.cons; exact rfl)))) (hn : io.Nodup := by decide) (h : J a0 a1 a2 a3 a4 a5 a6 a7 a8 a9 a10 a11 a12) : p := pre (show LE13 L KS J N KN w0 R μ m (Sg τ) w from ⟨(a0, a1, a2, a3, a4, a5, a6, a7, a8, a9, a10, a11, a12), hm, has_app hL (same_has hK), h, hp.mem hn hM⟩)
end
end Go.Px
end
section
namespace Go.Proofs
open Go.Shelf
def Tryz.lays172_ren : Go.Shelf.Ren := ⟨fun | 172 => 139 | 244 => 167 | 245 => 168 | 247 => 190 | 279 => 191 | 280 => 192 | 281 => 193 | 282 => 194 | 287 => 211 | 316 => 212 | 171 => 88 | 205 => 213 | 321 => 221 | 322 => 222 | 243 => 133 | 246 => 162 | 283 => 181 | 284 => 182 | 285 => 183 | 286 => 184 | 129 => 205 | 317 => 204 | 318 => 206 | 319 => 207 | 320 => 208 | 337 => 219 | 338 => 220 | n => n, fun | 9 => 9 | 3 => 3 | 75 => 95 | 76 => 96 | 4 => 4 | 5 => 5 | 167 => 185 | 37 => 22 | 0 => 0 | 85 => 186 | 2 => 2 | 168 => 188 | 53 => 180 | 175 => 211 | 46 => 176 | 210 => 214 | 127 => 139 | 145 => 225 | 143 => 223 | 21 => 21 | 171 => 179 | 173 => 183 | 212 => 201 | 51 => 202 | 20 => 20 | 213 => 203 | 232 => 229 | 233 => 230 | 80 => 100 | n => n, fun | 15 => 4 | 16 => 5 | 17 => 1 | 18 => 6 | 19 => 7 | n => n⟩
theorem Tryz.lays172 : Go.Proofs.Lays.n172 Tryz.prog Tryz.lays172_ren := {
  mixed := by kernel_rfl
  f129 := Tryz.func205.trans (congrArg some (by kernel_rfl))
  f171 := Tryz.func88.trans (congrArg some (by kernel_rfl))
  f172 := Tryz.func139.trans (congrArg some (by kernel_rfl))
  f205 := Tryz.func213.trans (congrArg some (by kernel_rfl))
  f243 := Tryz.func133.trans (congrArg some (by kernel_rfl))
  f244 := Tryz.func167.trans (congrArg some (by kernel_rfl))
  f245 := Tryz.func168.trans (congrArg some (by kernel_rfl))
  f246 := Tryz.func162.trans (congrArg some (by kernel_rfl))
  f247 := Tryz.func190.trans (congrArg some (by kernel_rfl))
  f279 := Tryz.func191.trans (congrArg some (by kernel_rfl))
  f280 := Tryz.func192.trans (congrArg some (by kernel_rfl))
  f281 := Tryz.func193.trans (congrArg some (by kernel_rfl))
  f282 := Tryz.func194.trans (congrArg some (by kernel_rfl))
  f283 := Tryz.func181.trans (congrArg some (by kernel_rfl))
  f284 := Tryz.func182.trans (congrArg some (by kernel_rfl))
  f285 := Tryz.func183.trans (congrArg some (by kernel_rfl))
  f286 := Tryz.func184.trans (congrArg some (by kernel_rfl))
  f287 := Tryz.func211.trans (congrArg some (by kernel_rfl))
  f316 := Tryz.func212.trans (congrArg some (by kernel_rfl))
  f317 := Tryz.func204.trans (congrArg some (by kernel_rfl))
  f318 := Tryz.func206.trans (congrArg some (by kernel_rfl))
  f319 := Tryz.func207.trans (congrArg some (by kernel_rfl))
  f320 := Tryz.func208.trans (congrArg some (by kernel_rfl))
  f321 := Tryz.func221.trans (congrArg some (by kernel_rfl))
  f322 := Tryz.func222.trans (congrArg some (by kernel_rfl))
  f337 := Tryz.func219.trans (congrArg some (by kernel_rfl))
  f338 := Tryz.func220.trans (congrArg some (by kernel_rfl))
  t0 := Tryz.underlying0
  a0 := Tryz.isAgg0
  z0 := Tryz.sizeOf0
  v0 := Tryz.zeroValue0
  t2 := Tryz.underlying2
  a2 := Tryz.isAgg2
  z2 := Tryz.sizeOf2
  v2 := Tryz.zeroValue2
  t3 := Tryz.underlying3
  a3 := Tryz.isAgg3
  z3 := Tryz.sizeOf3
  v3 := Tryz.zeroValue3
  t4 := Tryz.underlying4
  a4 := Tryz.isAgg4
  z4 := Tryz.sizeOf4
  v4 := Tryz.zeroValue4
  t5 := Tryz.underlying5
  a5 := Tryz.isAgg5
  z5 := Tryz.sizeOf5
  v5 := Tryz.zeroValue5
  t9 := Tryz.underlying9
  a9 := Tryz.isAgg9
  z9 := Tryz.sizeOf9
  v9 := Tryz.zeroValue9
  t20 := Tryz.underlying20
  a20 := Tryz.isAgg20
  z20 := Tryz.sizeOf20
  v20 := Tryz.zeroValue20
  t21 := Tryz.underlying21
  a21 := Tryz.isAgg21
  z21 := Tryz.sizeOf21
  v21 := Tryz.zeroValue21
  t37 := Tryz.underlying22
  a37 := Tryz.isAgg22
  z37 := Tryz.sizeOf22
  v37 := Tryz.zeroValue22
  t46 := Tryz.underlying176
  a46 := Tryz.isAgg176
  z46 := Tryz.sizeOf176
  v46 := Tryz.zeroValue176
  t51 := Tryz.underlying202
  a51 := Tryz.isAgg202
  z51 := Tryz.sizeOf202
  v51 := Tryz.zeroValue202
  t53 := Tryz.underlying180
  a53 := Tryz.isAgg180
  z53 := Tryz.sizeOf180
  v53 := Tryz.zeroValue180
  t75 := Tryz.underlying95
  a75 := Tryz.isAgg95
  z75 := Tryz.sizeOf95
  v75 := Tryz.zeroValue95
  t76 := Tryz.underlying96
  a76 := Tryz.isAgg96
  z76 := Tryz.sizeOf96
  v76 := Tryz.zeroValue96
  t85 := Tryz.underlying186
  a85 := Tryz.isAgg186
  z85 := Tryz.sizeOf186
  v85 := Tryz.zeroValue186
  t127 := Tryz.underlying139
  a127 := Tryz.isAgg139
  z127 := Tryz.sizeOf139
  v127 := Tryz.zeroValue139
  t143 := Tryz.underlying223
  a143 := Tryz.isAgg223
  z143 := Tryz.sizeOf223
  v143 := Tryz.zeroValue223
  t145 := Tryz.underlying225
  a145 := Tryz.isAgg225
  z145 := Tryz.sizeOf225
  v145 := Tryz.zeroValue225
  t167 := Tryz.underlying185
  a167 := Tryz.isAgg185
  z167 := Tryz.sizeOf185
  v167 := Tryz.zeroValue185
  t168 := Tryz.underlying188
  a168 := Tryz.isAgg188
  z168 := Tryz.sizeOf188
  v168 := Tryz.zeroValue188
  t171 := Tryz.underlying179
  a171 := Tryz.isAgg179
  z171 := Tryz.sizeOf179
  v171 := Tryz.zeroValue179
  t173 := Tryz.underlying183
  a173 := Tryz.isAgg183
  z173 := Tryz.sizeOf183
  v173 := Tryz.zeroValue183
  t175 := Tryz.underlying211
  a175 := Tryz.isAgg211
  z175 := Tryz.sizeOf211
  v175 := Tryz.zeroValue211
  t210 := Tryz.underlying214
  a210 := Tryz.isAgg214
  z210 := Tryz.sizeOf214
  v210 := Tryz.zeroValue214
  t212 := Tryz.underlying201
  a212 := Tryz.isAgg201
  z212 := Tryz.sizeOf201
  v212 := Tryz.zeroValue201
  t213 := Tryz.underlying203
  a213 := Tryz.isAgg203
  z213 := Tryz.sizeOf203
  t232 := Tryz.underlying229
  a232 := Tryz.isAgg229
  z232 := Tryz.sizeOf229
  v232 := Tryz.zeroValue229
  t233 := Tryz.underlying230
  a233 := Tryz.isAgg230
  z233 := Tryz.sizeOf230
  v233 := Tryz.zeroValue230
  g15 := by kernel_rfl
  g16 := by kernel_rfl
  g17 := by kernel_rfl
  g18 := by kernel_rfl
  g19 := by kernel_rfl }
open Go.RowKit in
theorem Tryz.strconv_Atoi (s : ByteArray) (n : Int) (hl : s.size ≤ 18) (h : Lib.atoi s.data.toList = some n) (w : World) :
    Calls Tryz.prog 139 #[.string s] w fun e w' => e = .returned (.tuple #[.int .i64 n, .nilIface]) ∧ ∃ t, w' = Lib.bytesWorld w 5 t := Any.strconv_Atoi Tryz.lays172 s n hl h w
def Tryz.laysC172_ren : Go.Shelf.Ren := ⟨fun | 172 => 139 | 244 => 167 | 245 => 168 | 247 => 190 | 279 => 191 | 280 => 192 | 281 => 193 | 282 => 194 | 287 => 211 | 316 => 212 | 171 => 88 | 205 => 213 | 321 => 221 | 322 => 222 | 243 => 133 | 246 => 162 | 283 => 181 | 284 => 182 | 285 => 183 | 286 => 184 | 129 => 205 | 317 => 204 | 318 => 206 | 319 => 207 | 320 => 208 | 337 => 219 | 338 => 220 | n => n, fun | 9 => 9 | 3 => 3 | 75 => 95 | 76 => 96 | 4 => 4 | 5 => 5 | 167 => 185 | 37 => 22 | 0 => 0 | 85 => 186 | 2 => 2 | 168 => 188 | 53 => 180 | 175 => 211 | 46 => 176 | 210 => 214 | 127 => 139 | 145 => 225 | 143 => 223 | 21 => 21 | 171 => 179 | 173 => 183 | 212 => 201 | 51 => 202 | 20 => 20 | 213 => 203 | 232 => 229 | 233 => 230 | 80 => 100 | n => n, fun | 15 => 4 | 16 => 5 | 17 => 1 | 18 => 6 | 19 => 7 | n => n⟩
theorem Tryz.laysC172 : Go.Proofs.LaysC.n172 Tryz.prog Tryz.laysC172_ren := {
  mixed := by kernel_rfl
  f129 := Tryz.func205.trans (congrArg some (by kernel_rfl))
  f171 := Tryz.func88.trans (congrArg some (by kernel_rfl))
  f172 := Tryz.func139.trans (congrArg some (by kernel_rfl))
  f205 := Tryz.func213.trans (congrArg some (by kernel_rfl))
  f243 := Tryz.func133.trans (congrArg some (by kernel_rfl))
  f244 := Tryz.func167.trans (congrArg some (by kernel_rfl))
  f245 := Tryz.func168.trans (congrArg some (by kernel_rfl))
  f246 := Tryz.func162.trans (congrArg some (by kernel_rfl))
  f247 := Tryz.func190.trans (congrArg some (by kernel_rfl))
  f279 := Tryz.func191.trans (congrArg some (by kernel_rfl))
  f280 := Tryz.func192.trans (congrArg some (by kernel_rfl))
  f281 := Tryz.func193.trans (congrArg some (by kernel_rfl))
  f282 := Tryz.func194.trans (congrArg some (by kernel_rfl))
  f283 := Tryz.func181.trans (congrArg some (by kernel_rfl))
  f284 := Tryz.func182.trans (congrArg some (by kernel_rfl))
  f285 := Tryz.func183.trans (congrArg some (by kernel_rfl))
  f286 := Tryz.func184.trans (congrArg some (by kernel_rfl))
  f287 := Tryz.func211.trans (congrArg some (by kernel_rfl))
  f316 := Tryz.func212.trans (congrArg some (by kernel_rfl))
  f317 := Tryz.func204.trans (congrArg some (by kernel_rfl))
  f318 := Tryz.func206.trans (congrArg some (by kernel_rfl))
  f319 := Tryz.func207.trans (congrArg some (by kernel_rfl))
  f320 := Tryz.func208.trans (congrArg some (by kernel_rfl))
  f321 := Tryz.func221.trans (congrArg some (by kernel_rfl))
  f322 := Tryz.func222.trans (congrArg some (by kernel_rfl))
  f337 := Tryz.func219.trans (congrArg some (by kernel_rfl))
  f338 := Tryz.func220.trans (congrArg some (by kernel_rfl))
  t0 := Tryz.underlying0
  a0 := Tryz.isAgg0
  z0 := Tryz.sizeOf0
  v0 := Tryz.zeroValue0
  t2 := Tryz.underlying2
  a2 := Tryz.isAgg2
  z2 := Tryz.sizeOf2
  v2 := Tryz.zeroValue2
  t3 := Tryz.underlying3
  a3 := Tryz.isAgg3
  z3 := Tryz.sizeOf3
  v3 := Tryz.zeroValue3
  t4 := Tryz.underlying4
  a4 := Tryz.isAgg4
  z4 := Tryz.sizeOf4
  v4 := Tryz.zeroValue4
  t5 := Tryz.underlying5
  a5 := Tryz.isAgg5
  z5 := Tryz.sizeOf5
  v5 := Tryz.zeroValue5
  t9 := Tryz.underlying9
  a9 := Tryz.isAgg9
  z9 := Tryz.sizeOf9
  v9 := Tryz.zeroValue9
  t20 := Tryz.underlying20
  a20 := Tryz.isAgg20
  z20 := Tryz.sizeOf20
  v20 := Tryz.zeroValue20
  t21 := Tryz.underlying21
  a21 := Tryz.isAgg21
  z21 := Tryz.sizeOf21
  v21 := Tryz.zeroValue21
  t37 := Tryz.underlying22
  a37 := Tryz.isAgg22
  z37 := Tryz.sizeOf22
  v37 := Tryz.zeroValue22
  t46 := Tryz.underlying176
  a46 := Tryz.isAgg176
  z46 := Tryz.sizeOf176
  v46 := Tryz.zeroValue176
  t51 := Tryz.underlying202
  a51 := Tryz.isAgg202
  z51 := Tryz.sizeOf202
  v51 := Tryz.zeroValue202
  t53 := Tryz.underlying180
  a53 := Tryz.isAgg180
  z53 := Tryz.sizeOf180
  v53 := Tryz.zeroValue180
  t75 := Tryz.underlying95
  a75 := Tryz.isAgg95
  z75 := Tryz.sizeOf95
  v75 := Tryz.zeroValue95
  t76 := Tryz.underlying96
  a76 := Tryz.isAgg96
  z76 := Tryz.sizeOf96
  v76 := Tryz.zeroValue96
  t85 := Tryz.underlying186
  a85 := Tryz.isAgg186
  z85 := Tryz.sizeOf186
  v85 := Tryz.zeroValue186
  t127 := Tryz.underlying139
  a127 := Tryz.isAgg139
  z127 := Tryz.sizeOf139
  v127 := Tryz.zeroValue139
  t143 := Tryz.underlying223
  a143 := Tryz.isAgg223
  z143 := Tryz.sizeOf223
  v143 := Tryz.zeroValue223
  t145 := Tryz.underlying225
  a145 := Tryz.isAgg225
  z145 := Tryz.sizeOf225
  v145 := Tryz.zeroValue225
  t167 := Tryz.underlying185
  a167 := Tryz.isAgg185
  z167 := Tryz.sizeOf185
  v167 := Tryz.zeroValue185
  t168 := Tryz.underlying188
  a168 := Tryz.isAgg188
  z168 := Tryz.sizeOf188
  v168 := Tryz.zeroValue188
  t171 := Tryz.underlying179
  a171 := Tryz.isAgg179
  z171 := Tryz.sizeOf179
  v171 := Tryz.zeroValue179
  t173 := Tryz.underlying183
  a173 := Tryz.isAgg183
  z173 := Tryz.sizeOf183
  v173 := Tryz.zeroValue183
  t175 := Tryz.underlying211
  a175 := Tryz.isAgg211
  z175 := Tryz.sizeOf211
  v175 := Tryz.zeroValue211
  t210 := Tryz.underlying214
  a210 := Tryz.isAgg214
  z210 := Tryz.sizeOf214
  v210 := Tryz.zeroValue214
  t212 := Tryz.underlying201
  a212 := Tryz.isAgg201
  z212 := Tryz.sizeOf201
  v212 := Tryz.zeroValue201
  t213 := Tryz.underlying203
  a213 := Tryz.isAgg203
  z213 := Tryz.sizeOf203
  t232 := Tryz.underlying229
  a232 := Tryz.isAgg229
  z232 := Tryz.sizeOf229
  v232 := Tryz.zeroValue229
  t233 := Tryz.underlying230
  a233 := Tryz.isAgg230
  z233 := Tryz.sizeOf230
  v233 := Tryz.zeroValue230
  g15 := by kernel_rfl
  g16 := by kernel_rfl
  g17 := by kernel_rfl
  g18 := by kernel_rfl
  g19 := by kernel_rfl
  t80 := Tryz.underlying100
  a80 := Tryz.isAgg100
  z80 := Tryz.sizeOf100
  v80 := Tryz.zeroValue100
  i0 := by kernel_rfl
  i2 := by kernel_rfl
  i3 := by kernel_rfl
  i4 := by kernel_rfl
  i5 := by kernel_rfl
  i9 := by kernel_rfl
  i20 := by kernel_rfl
  i21 := by kernel_rfl
  i37 := by kernel_rfl
  i46 := by kernel_rfl
  i51 := by kernel_rfl
  i53 := by kernel_rfl
  i75 := by kernel_rfl
  i76 := by kernel_rfl
  i80 := by kernel_rfl
  i85 := by kernel_rfl
  i127 := by kernel_rfl
  i143 := by kernel_rfl
  i145 := by kernel_rfl
  i167 := by kernel_rfl
  i168 := by kernel_rfl
  i171 := by kernel_rfl
  i173 := by kernel_rfl
  i175 := by kernel_rfl
  i210 := by kernel_rfl
  i212 := by kernel_rfl
  i232 := by kernel_rfl
  i233 := by kernel_rfl
  m15 := by kernel_rfl
  m16 := by kernel_rfl
  m17 := by kernel_rfl
  m18 := by kernel_rfl
  m19 := by kernel_rfl
  c0 := by kernel_rfl
  c2 := by kernel_rfl
  c3 := by kernel_rfl
  c4 := by kernel_rfl
  c5 := by kernel_rfl
  c9 := by kernel_rfl
  c20 := by kernel_rfl
  c21 := by kernel_rfl
  c37 := by kernel_rfl
  c46 := by kernel_rfl
  c51 := by kernel_rfl
  c53 := by kernel_rfl
  c75 := by kernel_rfl
  c76 := by kernel_rfl
  c80 := by kernel_rfl
  c85 := by kernel_rfl
  c127 := by kernel_rfl
  c143 := by kernel_rfl
  c145 := by kernel_rfl
  c167 := by kernel_rfl
  c168 := by kernel_rfl
  c171 := by kernel_rfl
  c173 := by kernel_rfl
  c175 := by kernel_rfl
  c210 := by kernel_rfl
  c212 := by kernel_rfl
  c213 := by kernel_rfl
  c232 := by kernel_rfl
  c233 := by kernel_rfl }
open Go.RowKit in
theorem Tryz.strconv_Atoi_err (s : ByteArray) (hl : s.size ≤ 18) (h : Lib.atoi s.data.toList = none) (ev : Value) (w : World) (hv : w.cell? ⟨4, 0, none⟩ = some ev) (hev : ev = .nilIface ∨ ∃ te pe, ev = .iface te pe) :
    Calls Tryz.prog 139 #[.string s] w fun e w' => ∃ N, e = .returned (.tuple #[.int .i64 0, .iface 188 (.pointer (some ⟨N, 0, none⟩))]) ∧ w.heap.size ≤ N ∧ w'.heap[N]? = some (.cells #[.string ⟨#[65, 116, 111, 105]⟩, .string s, ev] 214 (0, 0)) ∧ Below w.heap.size w w' := Any.strconv_Atoi_err Tryz.laysC172 s hl h ev w hv hev
def Tryz.lays145_ren : Go.Shelf.Ren := ⟨fun | 145 => 95 | 220 => 138 | 219 => 166 | 217 => 186 | 225 => 187 | 224 => 188 | 267 => 189 | 266 => 209 | 314 => 210 | n => n, fun | 9 => 9 | 4 => 4 | 59 => 126 | 3 => 3 | 5 => 5 | 46 => 176 | 146 => 209 | 51 => 202 | n => n, fun | 1 => 0 | n => n⟩
theorem Tryz.lays145 : Go.Proofs.Lays.n145 Tryz.prog Tryz.lays145_ren := {
  mixed := by kernel_rfl
  f145 := Tryz.func95.trans (congrArg some (by kernel_rfl))
  f217 := Tryz.func186.trans (congrArg some (by kernel_rfl))
  f219 := Tryz.func166.trans (congrArg some (by kernel_rfl))
  f220 := Tryz.func138.trans (congrArg some (by kernel_rfl))
  f224 := Tryz.func188.trans (congrArg some (by kernel_rfl))
  f225 := Tryz.func187.trans (congrArg some (by kernel_rfl))
  f266 := Tryz.func209.trans (congrArg some (by kernel_rfl))
  f267 := Tryz.func189.trans (congrArg some (by kernel_rfl))
  f314 := Tryz.func210.trans (congrArg some (by kernel_rfl))
  t3 := Tryz.underlying3
  a3 := Tryz.isAgg3
  z3 := Tryz.sizeOf3
  v3 := Tryz.zeroValue3
  t4 := Tryz.underlying4
  a4 := Tryz.isAgg4
  z4 := Tryz.sizeOf4
  v4 := Tryz.zeroValue4
  t5 := Tryz.underlying5
  a5 := Tryz.isAgg5
  z5 := Tryz.sizeOf5
  v5 := Tryz.zeroValue5
  t9 := Tryz.underlying9
  a9 := Tryz.isAgg9
  z9 := Tryz.sizeOf9
  v9 := Tryz.zeroValue9
  t46 := Tryz.underlying176
  a46 := Tryz.isAgg176
  z46 := Tryz.sizeOf176
  v46 := Tryz.zeroValue176
  t51 := Tryz.underlying202
  a51 := Tryz.isAgg202
  z51 := Tryz.sizeOf202
  v51 := Tryz.zeroValue202
  t59 := Tryz.underlying126
  a59 := Tryz.isAgg126
  z59 := Tryz.sizeOf126
  v59 := Tryz.zeroValue126
  t146 := Tryz.underlying209
  a146 := Tryz.isAgg209
  z146 := Tryz.sizeOf209
  v146 := Tryz.zeroValue209
  g1 := by kernel_rfl }
open Go.RowKit Go.Lib in
theorem Tryz.strings_Cut (s sep : ByteArray) (m : Int) (w : World) (hs : s.size < 4294967281) (hm : w.cell? ⟨0, 0, none⟩ = some (.int .i64 m)) :
    Calls Tryz.prog 95 #[.string s, .string sep] w fun e w' => e = .returned (.tuple #[.string ⟨(Lib.cut s.data.toList sep.data.toList).1.toArray⟩, .string ⟨(Lib.cut s.data.toList sep.data.toList).2.1.toArray⟩, .bool (Lib.cut s.data.toList sep.data.toList).2.2]) ∧ ∃ n, w' = w.drewN n := Any.strings_Cut Tryz.lays145 s sep m w hs hm
def Tryz.lays146_ren : Go.Shelf.Ren := ⟨fun | 146 => 52 | 221 => 94 | 268 => 135 | 138 => 136 | 143 => 137 | 195 => 163 | 197 => 164 | 218 => 165 | 219 => 166 | 260 => 185 | 217 => 186 | 225 => 187 | 224 => 188 | 267 => 189 | 266 => 209 | 314 => 210 | n => n, fun | 9 => 9 | 31 => 47 | 3 => 3 | 4 => 4 | 0 => 0 | 105 => 163 | 21 => 21 | 5 => 5 | 46 => 176 | 119 => 205 | 139 => 208 | 138 => 207 | 146 => 209 | 51 => 202 | n => n, fun | 1 => 0 | 3 => 2 | 4 => 3 | n => n⟩
theorem Tryz.lays146 : Go.Proofs.Lays.n146 Tryz.prog Tryz.lays146_ren := {
  mixed := by kernel_rfl
  f138 := Tryz.func136.trans (congrArg some (by kernel_rfl))
  f143 := Tryz.func137.trans (congrArg some (by kernel_rfl))
  f146 := Tryz.func52.trans (congrArg some (by kernel_rfl))
  f195 := Tryz.func163.trans (congrArg some (by kernel_rfl))
  f197 := Tryz.func164.trans (congrArg some (by kernel_rfl))
  f217 := Tryz.func186.trans (congrArg some (by kernel_rfl))
  f218 := Tryz.func165.trans (congrArg some (by kernel_rfl))
  f219 := Tryz.func166.trans (congrArg some (by kernel_rfl))
  f221 := Tryz.func94.trans (congrArg some (by kernel_rfl))
  f224 := Tryz.func188.trans (congrArg some (by kernel_rfl))
  f225 := Tryz.func187.trans (congrArg some (by kernel_rfl))
  f260 := Tryz.func185.trans (congrArg some (by kernel_rfl))
  f266 := Tryz.func209.trans (congrArg some (by kernel_rfl))
  f267 := Tryz.func189.trans (congrArg some (by kernel_rfl))
  f268 := Tryz.func135.trans (congrArg some (by kernel_rfl))
  f314 := Tryz.func210.trans (congrArg some (by kernel_rfl))
  t0 := Tryz.underlying0
  a0 := Tryz.isAgg0
  z0 := Tryz.sizeOf0
  v0 := Tryz.zeroValue0
  t3 := Tryz.underlying3
  a3 := Tryz.isAgg3
  z3 := Tryz.sizeOf3
  v3 := Tryz.zeroValue3
  t4 := Tryz.underlying4
  a4 := Tryz.isAgg4
  z4 := Tryz.sizeOf4
  v4 := Tryz.zeroValue4
  t5 := Tryz.underlying5
  a5 := Tryz.isAgg5
  z5 := Tryz.sizeOf5
  v5 := Tryz.zeroValue5
  t9 := Tryz.underlying9
  a9 := Tryz.isAgg9
  z9 := Tryz.sizeOf9
  v9 := Tryz.zeroValue9
  t21 := Tryz.underlying21
  a21 := Tryz.isAgg21
  z21 := Tryz.sizeOf21
  v21 := Tryz.zeroValue21
  t31 := Tryz.underlying47
  a31 := Tryz.isAgg47
  z31 := Tryz.sizeOf47
  v31 := Tryz.zeroValue47
  t46 := Tryz.underlying176
  a46 := Tryz.isAgg176
  z46 := Tryz.sizeOf176
  v46 := Tryz.zeroValue176
  t51 := Tryz.underlying202
  a51 := Tryz.isAgg202
  z51 := Tryz.sizeOf202
  v51 := Tryz.zeroValue202
  t105 := Tryz.underlying163
  a105 := Tryz.isAgg163
  z105 := Tryz.sizeOf163
  v105 := Tryz.zeroValue163
  t119 := Tryz.underlying205
  a119 := Tryz.isAgg205
  z119 := Tryz.sizeOf205
  t138 := Tryz.underlying207
  a138 := Tryz.isAgg207
  z138 := Tryz.sizeOf207
  v138 := Tryz.zeroValue207
  t139 := Tryz.underlying208
  a139 := Tryz.isAgg208
  z139 := Tryz.sizeOf208
  v139 := Tryz.zeroValue208
  t146 := Tryz.underlying209
  a146 := Tryz.isAgg209
  z146 := Tryz.sizeOf209
  v146 := Tryz.zeroValue209
  g1 := by kernel_rfl
  g3 := by kernel_rfl
  g4 := by kernel_rfl }
open Go.RowKit Go.Lib in
theorem Tryz.strings_Split (s sep : ByteArray) (m : Int) (w : World) (hs : s.size < 4294967281) (hm : w.cell? ⟨0, 0, none⟩ = some (.int .i64 m)) (h1 : 1 ≤ sep.size) :
    Calls Tryz.prog 52 #[.string s, .string sep] w fun e w' =>
      e = .returned (.slice (some ⟨w.heap.size, 0, none⟩) (Lib.countB s sep + 1) (Lib.countB s sep + 1)) ∧ w' = w.alloc (.cells ((Lib.splitB sep 0 (Lib.countB s sep) s).map Value.string).toArray 9) := Any.strings_Split Tryz.lays146 (by kernel_rfl) s sep m w hs hm h1
end Go.Proofs
end
section
namespace Go.Px
open Go.RowKit
section
variable {P : Program} {σ : Sig} {w : World} {dst : Option Tmp} {T U T' e : TypeId} {pos : String} {after : Array Edge} {g : Option (Nat × Bool)} {x y : Operand}
theorem mem_of_below {w w1 : World} (h : Below w.heap.size w w1) : Mem w w1 [] [] := ⟨h.os, h.tape, h.output, h.size, fun k hk _ => h.block k hk, by simp, by simp, by simp⟩
theorem cell_at {w0 w : World} {L : List FE} {k i : Nat} {v : Value} (h : w0.cell? ⟨k, i, none⟩ = some v) (hM : Mem0 w0 w [] L) : w.cell? ⟨k, i, none⟩ = some v := by
  have hlt : k < w0.heap.size := by
    rcases Nat.lt_or_ge k w0.heap.size with h1 | h1
    · exact h1
    · unfold World.cell? at h; rw [Array.getElem?_eq_none h1] at h; cases h
  exact (World.cell?_of_block (hM.block k hlt (by simp))).trans h
theorem Ru.infN {k : Nat} (ht : ∃ m, P.underlying T = some (.interface m)) (hx : σ k = .nilIface) : Ru P σ ⟨dst, .binOp .neq T (.tmp k) (.const .nilIface) U, T', pos, after, g⟩ w (.bool false) := by
  obtain ⟨m, ht⟩ := ht
  have h : ∀ d : Nat, (Op.equalIn (d + 1) T .nilIface .nilIface).run P w = .ok true w := fun d => by simp [Op.equalIn, run_underlying ht]
  simp [Ru, execOp, ev, hx, eqGuard, binOp, Op.equal, Op.maxDepth, h 9999]
theorem Ru.infS {k : Nat} {t : TypeId} {p : Value} (ht : ∃ m, P.underlying T = some (.interface m)) (hx : σ k = .iface t p) : Ru P σ ⟨dst, .binOp .neq T (.tmp k) (.const .nilIface) U, T', pos, after, g⟩ w (.bool true) := by
  obtain ⟨m, ht⟩ := ht
  have h : ∀ d : Nat, (Op.equalIn (d + 1) T (.iface t p) .nilIface).run P w = .ok false w := fun d => by simp [Op.equalIn, run_underlying ht]
  simp [Ru, execOp, ev, hx, eqGuard, binOp, Op.equal, Op.maxDepth, h 9999]
end
theorem S_data (l : Str) : (⟨l.toArray⟩ : ByteArray).data.toList = l := by simp
theorem split_vals {c : UInt8} {s : Str} : (Lib.splitB ⟨#[c]⟩ 0 (Lib.countB ⟨s.toArray⟩ ⟨#[c]⟩) ⟨s.toArray⟩).map Value.string = (splS c s).map S := by
  have h := Lib.splitB_data ⟨#[c]⟩ 0 (Lib.countB ⟨s.toArray⟩ ⟨#[c]⟩) ⟨s.toArray⟩
  have h2 : Lib.splitK [c] 0 (Lib.count s [c]) s = splS c s := splK_eq s.length s (Nat.le_refl _)
  have h3 : (Lib.splitB ⟨#[c]⟩ 0 (Lib.countB ⟨s.toArray⟩ ⟨#[c]⟩) ⟨s.toArray⟩).map (·.data.toList) = splS c s := by
    rw [h]
    have e : Lib.countB ⟨s.toArray⟩ ⟨#[c]⟩ = Lib.count s [c] := by
      show Lib.count _ _ = _
      simp
    rw [e]; simpa using h2
  rw [← h3, List.map_map]
  apply List.map_congr_left
  intro b _
  show Value.string b = S b.data.toList
  simp [S]
end Go.Px
namespace Go.Proofs.YtemejgglbhjodaaGreatDoor
open Go.Px Go.RowKit
structure LW (w : World) : Prop where
  tab : TAB w
  max : ∃ m, w.cell? ⟨0, 0, none⟩ = some (.int .i64 m)
  err : ∃ t p, w.cell? ⟨4, 0, none⟩ = some (.iface t p)
theorem LW.at {w0 w : World} {L : List FE} (h : LW w0) (hM : Mem0 w0 w [] L) : LW w :=
  ⟨tab_at h.tab hM, by obtain ⟨m, hm⟩ := h.max; exact ⟨m, cell_at hm hM⟩, by obtain ⟨t, p, hp⟩ := h.err; exact ⟨t, p, cell_at hp hM⟩⟩
theorem Cut_fn (s : Str) (w : World) (hlw : LW w) (hs : s.length ≤ 4000000000) :
    Does Tryz.prog 95 [S (s), S ([58])] w (fun v w1 => v = .tuple #[S ((Lib.cut s [58]).1), S ((Lib.cut s [58]).2.1), .bool ((Lib.cut s [58]).2.2)] ∧ Mem w w1 [] []) := by
  obtain ⟨m, hm⟩ := hlw.max
  refine ⟨(Tryz.strings_Cut ⟨s.toArray⟩ ⟨#[58]⟩ m w (by rw [S_size]; omega) hm).mono fun e w' ⟨he, k, hw⟩ => ⟨_, he, ?_, ?_⟩⟩
  · simp only [S_data]; rfl
  · rw [hw]; exact ⟨rfl, rfl, rfl, Nat.le_refl _, fun _ _ _ => rfl, by simp, by simp, by simp⟩
theorem Split_fn (s : Str) (w : World) (hlw : LW w) (hs : s.length ≤ 4000000000) :
    Does Tryz.prog 52 [S (s), S ([44])] w (fun v w1 => ∃ (A1 : Option Addr) (c1 : Nat), v = .slice (A1) ((splS 44 s).length) (c1) ∧ Mem w w1 [] [[⟨.slice (A1) ((splS 44 s).length) (c1), 9, 1, ((splS 44 s).length), (splS 44 s).map S⟩]]) := by
  obtain ⟨m, hm⟩ := hlw.max
  have hv := split_vals (c := 44) (s := s)
  have hl := congrArg List.length hv
  simp only [List.length_map] at hl
  refine ⟨(Tryz.strings_Split ⟨s.toArray⟩ ⟨#[44]⟩ m w (by rw [S_size]; omega) hm (by decide)).mono fun e w' ⟨he, hw⟩ => ?_⟩
  have hcount : Lib.countB ⟨s.toArray⟩ ⟨#[44]⟩ + 1 = (splS 44 s).length := by
    rw [← hl]
    exact (Lib.splitB_all ⟨#[44]⟩ (by decide) 0 _ _ rfl).symm
  rw [hcount] at he
  rw [hv] at hw
  refine ⟨_, he, some ⟨w.heap.size, 0, none⟩, (splS 44 s).length, rfl, ?_⟩
  have hB : Blk w' w.heap.size 9 ((splS 44 s).map S) := by rw [hw]; exact heap_alloc_new w _
  have hb := Lib.countB_le ⟨#[44]⟩ (by decide) s.length ⟨s.toArray⟩ (by rw [S_size]; exact Nat.le_refl _)
  rw [S_size] at hb
  exact Mem.cons Mem.refl (by rw [hw]; exact kalloc w _) (blk_own' (m := (splS 44 s).length) (sz := 1) hB (by simp) (by simp only [maxLen]; omega)) (fun k hk => by simp [FE.blk, Value.ownBlock] at hk; omega)
theorem AtoiA_fn (s : Str) (n : Int) (w : World) (hl : s.length ≤ 18) (hat : Lib.atoi s = some n) :
    Does Tryz.prog 139 [S (s)] w (fun v w1 => v = .tuple #[I (n), .nilIface] ∧ Mem w w1 [] []) := by
  refine ⟨(Tryz.strconv_Atoi ⟨s.toArray⟩ n (by rw [S_size]; exact hl) (by rw [S_data]; exact hat) w).mono fun e w' ⟨he, t, hw⟩ => ⟨_, he, rfl, ?_⟩⟩
  rw [hw]; exact mem_of_below (Lib.bytesWorld_below _ _ _)
theorem AtoiB_fn (s : Str) (w : World) (hl : s.length ≤ 18) (hat : Lib.atoi s = none) (hlw : LW w) :
    Does Tryz.prog 139 [S (s)] w (fun v w1 => ∃ (tE : TypeId) (pE : Value), v = .tuple #[I (0), .iface tE pE] ∧ Mem w w1 [] []) := by
  obtain ⟨t, p, hp⟩ := hlw.err
  refine ⟨(Tryz.strconv_Atoi_err ⟨s.toArray⟩ (by rw [S_size]; exact hl) (by rw [S_data]; exact hat) (.iface t p) w hp (.inr ⟨t, p, rfl⟩)).mono fun e w' h => ?_⟩
  obtain ⟨N, he, hN, _, hb⟩ := h
  exact ⟨_, he, _, _, rfl, mem_of_below hb⟩
end Go.Proofs.YtemejgglbhjodaaGreatDoor
end
section
namespace Go.Px
open Go.Lib
theorem pair_nf {s : Str} (h : (cut s [58]).2.2 = false) : pairS s = none := by
  rcases cut_eq (c := 58) (s := s) with ⟨h1, _⟩ | ⟨a, r, _, _, h3⟩
  · exact pairS_cut0 h1
  · rw [h3] at h; cases h
theorem pair_yf {s : Str} (h : (cut s [58]).2.2 = true) : pairS s = (match numS (cut s [58]).1, numS (cut s [58]).2.1 with | some k, some v => some ⟨k, v⟩ | _, _ => none) := by
  rcases cut_eq (c := 58) (s := s) with ⟨_, h2⟩ | ⟨a, r, h1, h2, h3⟩
  · rw [h2] at h; cases h
  · rw [h3]; simp only; rw [h1, pairS_cut h2]
    cases numS a <;> cases numS r <;> rfl
theorem opt_none {α : Type} {o : Option α} (h : o.isSome = false) : o = none := by cases o <;> simp at h ⊢
theorem opt_some {α : Type} {o : Option α} {d : α} (h : o.isSome = true) : o = some (o.getD d) := by cases o <;> simp at h ⊢
theorem pair_no1 {s : Str} (hf : (cut s [58]).2.2 = true) (h : (numS (cut s [58]).1).isSome = false) : pairS s = none := by
  rw [pair_yf hf, opt_none h]
theorem pair_no2 {s : Str} (hf : (cut s [58]).2.2 = true) (h : (numS (cut s [58]).2.1).isSome = false) : pairS s = none := by
  rw [pair_yf hf, opt_none h]; cases numS (cut s [58]).1 <;> rfl
theorem pair_ok {s : Str} (hf : (cut s [58]).2.2 = true) (h1 : (numS (cut s [58]).1).isSome = true) (h2 : (numS (cut s [58]).2.1).isSome = true) : pairS s = some ⟨(numS (cut s [58]).1).getD 0, (numS (cut s [58]).2.1).getD 0⟩ := by
  rw [pair_yf hf, opt_some (d := 0) h1, opt_some (d := 0) h2]; rfl
theorem row_bad {s : Str} (hs : s ≠ []) (h : partsS (splS 44 s) = none) : rowS s = none := by unfold rowS; rw [if_neg hs, h]
theorem row_inv {s : Str} {L : List PairT} (hs : s ≠ []) (h : partsS (splS 44 s) = some L) (hv : validR L = false) : rowS s = none := by unfold rowS; rw [if_neg hs, h]; simp [hv]
theorem row_ok {s : Str} {L : List PairT} (hs : s ≠ []) (h : partsS (splS 44 s) = some L) (hv : validR L = true) : rowS s = some L := by unfold rowS; rw [if_neg hs, h]; simp [hv]
theorem itoa_pos (n : Int) : 1 ≤ (itoaS n).length := by
  have := itoa_ne n
  cases h : itoaS n with
  | nil => exact absurd h this
  | cons a b => simp
theorem fmtP_ge (p : PairT) : 3 ≤ (fmtP p).length := by
  have a := itoa_pos p.key
  have b := itoa_pos p.val
  simp only [fmtP, List.length_append, List.length_cons, List.length_nil]; omega
theorem flatP_ge : ∀ (l : List PairT), 4 * l.length ≤ ((l.map fmtP).flatMap fun x => (44 : UInt8) :: x).length
  | [] => by simp
  | x :: l => by
    have h1 := fmtP_ge x
    have h2 := flatP_ge l
    simp only [List.map_cons, List.flatMap_cons, List.length_append, List.length_cons]; omega
theorem parts_len {s : Str} {L : List PairT} (h : partsS (splS 44 s) = some L) : 4 * L.length ≤ s.length + 1 := by
  obtain ⟨p, ps, h1, h2⟩ := splS_join (c := 44) s.length s (Nat.le_refl _)
  have h3 := parts_fmt h
  rw [h1] at h3
  cases L with
  | nil => simp at h3
  | cons x l =>
    simp only [List.map_cons, List.cons.injEq] at h3
    rw [h2, h3.1, h3.2, List.length_append, List.length_cons]
    have := fmtP_ge x
    have := flatP_ge l
    omega
theorem splS_len {c : UInt8} : ∀ {s : Str}, (splS c s).length ≤ s.length + 1
  | [] => by simp [splS]
  | b :: s => by
    have ih := splS_len (c := c) (s := s)
    simp only [splS]
    split
    · simp; omega
    · cases h : splS c s with
      | nil => simp
      | cons p ps => rw [h] at ih; simp at ih ⊢; omega
end Go.Px
namespace Go.Px
theorem splS_piece {c : UInt8} {n : Nat} : ∀ {s : Str}, s.length ≤ n → ∀ x ∈ splS c s, x.length ≤ n
  | [], _, x, hx => by simp [splS] at hx; subst hx; simp
  | b :: s, h, x, hx => by
    simp only [List.length_cons] at h
    have ih := splS_piece (c := c) (n := n - 1) (s := s) (by omega)
    simp only [splS] at hx
    split at hx
    · rcases List.mem_cons.1 hx with rfl | hx
      · simp
      · have := ih x hx; omega
    · cases hs : splS c s with
      | nil => rw [hs] at hx; simp at hx; subst hx; simp; omega
      | cons p ps =>
        rw [hs] at hx ih
        simp only at hx
        rcases List.mem_cons.1 hx with rfl | hx
        · have := ih p (by simp); simp only [List.length_cons]; omega
        · have := ih x (by simp [hx]); omega
end Go.Px
end
section
namespace Go.Proofs.YtemejgglbhjodaaGreatDoor
open Go.Px
theorem readNumA_fn (s : Str) (n : Int) (w : World) (hlw : LW w) (hat : Lib.atoi s = some n) :
    Does Tryz.prog 96 [S (s)] w (fun v w1 => v = .tuple #[I ((numS s).getD 0), .bool ((numS s).isSome)] ∧ Mem w w1 [] []) := by
  have hM : Mem w w [] [] := Mem.refl
  refine Does.n2 Tryz.func96 rfl Tryz.results96 Tryz.ntmps96 rfl ?_
  refine cd 12 [] (fun c8 => ?_) (fun c8 => ?_)
  · refine E2 6 [] (I (0)) (.bool (false)) ?_
    exact ⟨(by rw [numS_long (by omega)]; rfl), (Mem.none hM)⟩
  · refine cp 4 [] (b := AtoiA_fn _ n w qo (by exact hat)) (c := fun w3_1 hM3_1 => ?_)
    have hnb := Lib.atoi_bound hat (by omega)
    refine go 10 [] ?_
    refine O.val (v := .bool (false)) rfl (Ru.infN ⟨_, Tryz.underlying95⟩ rfl) rfl ?_
    refine cp 2 [] (b := Itoa_fn _ w3_1 (tab_at hlw.tab hM3_1) (by constructor <;> omega)) (c := fun w4_4 hM4_4 => ?_)
    refine cd 4 [] (fun c21 => ?_) (fun c21 => ?_)
    · refine E2 6 [] (I (0)) (.bool (false)) ?_
      exact ⟨(by rw [numS_atoi_ne hat (by simp_all)]; rfl), (Mem.none hM4_4)⟩
    · refine E2 8 [] (I (n)) (.bool (true)) ?_
      exact ⟨(by rw [numS_yes (n := n) (by omega) (by simp_all)]; rfl), (Mem.none hM4_4)⟩
theorem readNumB_fn (s : Str) (w : World) (hlw : LW w) (hat : Lib.atoi s = none) :
    Does Tryz.prog 96 [S (s)] w (fun v w1 => v = .tuple #[I ((numS s).getD 0), .bool ((numS s).isSome)] ∧ Mem w w1 [] []) := by
  have hM : Mem w w [] [] := Mem.refl
  refine Does.n2 Tryz.func96 rfl Tryz.results96 Tryz.ntmps96 rfl ?_
  refine cd 12 [] (fun c8 => ?_) (fun c8 => ?_)
  · refine E2 6 [] (I (0)) (.bool (false)) ?_
    exact ⟨(by rw [numS_atoi_none hat]; rfl), (Mem.none hM)⟩
  · refine cq 4 [] (b := AtoiB_fn _ w qo (by exact hat) (hlw.at hM)) (c := ?_)
    rintro _ w3_1 ⟨tE3_1, pE3_1, rfl, hR3_1⟩
    have hM3_1 := hM.cl 0 hR3_1
    refine go 10 [] ?_
    refine O.val (v := .bool (true)) rfl (Ru.infS ⟨_, Tryz.underlying95⟩ rfl) rfl ?_
    refine E2 14 [] (I (0)) (.bool (false)) ?_
    exact ⟨(by rw [numS_atoi_none hat]; rfl), (Mem.none hM3_1)⟩
theorem readNumber_fn (s : Str) (w : World) (hlw : LW w) :
    Does Tryz.prog 96 [S (s)] w (fun v w1 => v = .tuple #[I ((numS s).getD 0), .bool ((numS s).isSome)] ∧ Mem w w1 [] []) := by
  cases h : Lib.atoi s with
  | none => exact readNumB_fn s w hlw h
  | some n => exact readNumA_fn s n w hlw h
theorem readPair_fn (s : Str) (w : World) (hlw : LW w) (hs : s.length ≤ 4000000000) :
    Does Tryz.prog 53 [S (s)] w (fun v w1 => v = .tuple #[.agg #[I (((pairS s).getD ⟨0, 0⟩).key), I (((pairS s).getD ⟨0, 0⟩).val)], .bool ((pairS s).isSome)] ∧ Mem w w1 [] []) := by
  have hM : Mem w w [] [] := Mem.refl
  refine Does.nG (rs := [.cell 2 27, .tmp 3]) Tryz.func53 rfl Tryz.results53 Tryz.ntmps53 rfl ?_
  refine Al 2 [] fun w0_0 b0_0 hb0_0 hM0_0 => ?_
  refine cp 5 [] (b := Cut_fn _ w0_0 (hlw.at hM0_0) q0) (c := fun w1_1 hM1_1 => ?_)
  refine cn 14 [] (fun c17 => ?_) (fun c17 => ?_)
  · have hf : (Lib.cut s [58]).2.2 = false := by simpa using c17
    have hpn := pair_nf hf
    refine Sb 3 [] 0 fun w3_1 hM3_1 => ?_
    refine EG 3 [] ?_
    refine PG (vs := [.agg #[I (0), I (0)], .bool (false)]) (ResV.cell (l := [I (0), I (0)]) rfl (mem_blk (i := 0) (j := 0) hM3_1 rfl rfl) el27 rfl (ResV.tmp rfl ResV.nil)) ?_
    exact ⟨(by rw [hpn]; rfl), (Mem.none hM3_1)⟩
  · have hf : (Lib.cut s [58]).2.2 = true := by simpa using c17
    refine cp 4 [] (b := readNumber_fn _ w1_1 (hlw.at hM1_1)) (c := fun w4_1 hM4_1 => ?_)
    refine cn 12 [] (fun c25 => ?_) (fun c25 => ?_)
    · have hpn := pair_no1 hf (by simpa using c25)
      refine Sb 3 [] 0 fun w6_1 hM6_1 => ?_
      refine EG 3 [] ?_
      refine PG (vs := [.agg #[I (0), I (0)], .bool (false)]) (ResV.cell (l := [I (0), I (0)]) rfl (mem_blk (i := 0) (j := 0) hM6_1 rfl rfl) el27 rfl (ResV.tmp rfl ResV.nil)) ?_
      exact ⟨(by rw [hpn]; rfl), (Mem.none hM6_1)⟩
    · refine cp 4 [] (b := readNumber_fn _ w4_1 (hlw.at hM4_1)) (c := fun w7_1 hM7_1 => ?_)
      refine cn 12 [] (fun c33 => ?_) (fun c33 => ?_)
      · have hpn := pair_no2 hf (by simpa using c33)
        refine Sb 3 [] 0 fun w9_1 hM9_1 => ?_
        refine EG 3 [] ?_
        refine PG (vs := [.agg #[I (0), I (0)], .bool (false)]) (ResV.cell (l := [I (0), I (0)]) rfl (mem_blk (i := 0) (j := 0) hM9_1 rfl rfl) el27 rfl (ResV.tmp rfl ResV.nil)) ?_
        exact ⟨(by rw [hpn]; rfl), (Mem.none hM9_1)⟩
      · have hpo := pair_ok hf (by simpa using c25) (by simpa using c33)
        refine Sb 6 [] 0 fun w10_3 hM10_3 => ?_
        refine EG 3 [] ?_
        refine PG (vs := [.agg #[I ((numS ((Lib.cut s [58]).1)).getD 0), I ((numS ((Lib.cut s [58]).2.1)).getD 0)], .bool (true)]) (ResV.cell (l := [I ((numS ((Lib.cut s [58]).1)).getD 0), I ((numS ((Lib.cut s [58]).2.1)).getD 0)]) rfl (mem_blk (i := 0) (j := 0) hM10_3 rfl rfl) el27 rfl (ResV.tmp rfl ResV.nil)) ?_
        exact ⟨(by rw [hpo]; rfl), (Mem.none hM10_3)⟩
set_option maxHeartbeats 2000000 in
theorem ParseRow_fn (s : Str) (w : World) (hlw : LW w) (hs : s.length ≤ 1048576) :
    Does Tryz.prog 20 [S (s)] w (fun v w1 => ∃ (A1 : Option Addr) (c1 : Nat), v = .tuple #[.slice (A1) (((rowS s).getD []).length) (c1), .bool ((rowS s).isSome)] ∧ Mem w w1 [] [[⟨.slice (A1) (((rowS s).getD []).length) (c1), 27, 2, (((rowS s).getD []).length), ((rowS s).getD []).flatMap encP⟩]]) := by
  have hM : Mem w w [] [] := Mem.refl
  refine Does.n2 Tryz.func20 rfl Tryz.results20 Tryz.ntmps20 rfl ?_
  refine cd 11 [] (fun c10 => ?_) (fun c10 => ?_)
  · have hs1 : s = [] := by simpa using c10
    refine E2 6 [] (.slice (none) (0) (0)) (.bool (true)) ?_
    have hMn1 := Mem.addNil (e := 27) (sz := 2) hM
    have hq2 : ([] : List PairT) = (rowS s).getD [] := (by rw [hs1]; rfl)
    have hMn2 := hMn1.reF 0 hq2 (f := encP)
    exact ⟨none, 0, (by rw [hs1]; rfl), (hMn2.pk [0])⟩
  · have hs0 : s ≠ [] := by simpa using c10
    have hsl := splS_len (c := 44) (s := s)
    refine cq 9 [] (b := Split_fn _ w (hlw.at hM) qo) (c := ?_)
    rintro _ w4_1 ⟨A14_1, c14_1, rfl, hR4_1⟩
    have hM4_1 := hM.cl 0 hR4_1
    have hcr4_1_0 := (hM4_1.cap 0 rfl).1
    have hpiece := splS_piece (n := 1048576) (c := 44) (s := s) hs
    have hMn3 := Mem.addNil (e := 27) (sz := 2) hM4_1
    have hq4 : ([] : List PairT) = ([] : List PairT) := (by first | rfl | simp | (simp; omega))
    have hMn4 := hMn3.reF 0 hq4 (f := encP)
    refine lp4 4 [] (fun (k : Nat) (L : List PairT) (A2 : Option Addr) (c2 : Nat) => ([(4, Vl (A2) ((L).length) (c2)), (14, Vi (((k : Nat) : Int)))] : List (Nat × SV))) (fun (k : Nat) (L : List PairT) (A2 : Option Addr) (c2 : Nat) => (k ≤ (splS 44 s).length) ∧ (partsS ((splS 44 s).take k) = some L) ∧ (L.length ≤ k)) (fun (k : Nat) (L : List PairT) (A2 : Option Addr) (c2 : Nat) => [[⟨.slice (A2) ((L).length) (c2), 27, 2, ((L).length), (L).flatMap encP⟩]]) (fun (k : Nat) (L : List PairT) (A2 : Option Addr) (c2 : Nat) => (splS 44 s).length - k) [12, 13] [0] [1] 0 (([] : List PairT) : List PairT) none 0 (fun k L A2 c2 σ w_l5 hI hM_l5 => ?_) (h0 := ⟨(Nat.zero_le _), rfl, (by (try dsimp only); simp)⟩)
    obtain ⟨hi0_l5, hi1_l5, hi2_l5⟩ := hI
    have hcl0_l5 := (hM_l5.cap 0 rfl).1
    have hcl1_l5 := (hM_l5.cap 1 rfl).1
    refine cd 5 [] (fun c15 => ?_) (fun c15 => ?_)
    · have hx6_0 : k < (splS 44 s).length := (by first | omega | (simp; omega))
      refine ov 5 [] (a := kixM hx6_0 (hM_l5.rd 1 rfl)) (b := ?_)
      refine ov 0 [] (a := kldM hx6_0 (hM_l5.rd 1 rfl)) (b := ?_)
      have hpl : ((splS 44 s)[k]'hx6_0).length ≤ 4000000000 := by have := hpiece _ (List.getElem_mem hx6_0); omega
      refine cp 5 [] (b := readPair_fn _ w_l5 (hlw.at hM_l5) (by exact hpl)) (c := fun w7_1 hM7_1 => ?_)
      refine Al 3 [] fun w7_5 b7_5 hb7_5 hM7_5 => ?_
      refine Sb 0 [] 0 fun w7_6 hM7_6 => ?_
      refine cn 8 [] (fun c24 => ?_) (fun c24 => ?_)
      · have hpb : pairS ((splS 44 s)[k]'hx6_0) = none := opt_none (by simpa using c24)
        refine E2 6 [] (.slice (none) (0) (0)) (.bool (false)) ?_
        have hn : rowS s = none := row_bad hs0 (parts_bad hx6_0 hpb)
        have hMn5 := Mem.addNil (e := 27) (sz := 2) hM7_6
        have hq6 : ([] : List PairT) = (rowS s).getD [] := (by rw [hn]; rfl)
        have hMn6 := hMn5.reF 0 hq6 (f := encP)
        exact ⟨none, 0, (by rw [hn]; rfl), (hMn6.pk [0])⟩
      · have hpg := opt_some (d := ⟨0, 0⟩) (show (pairS ((splS 44 s)[k]'hx6_0)).isSome = true by simpa using c24)
        refine Lt 4 [0] (([(pairS ((splS 44 s)[k]'hx6_0)).getD ⟨0, 0⟩]).flatMap encP) (fun w10_2 b10_2 hb10_2 hM10_2 => ?_)
        refine aF 0 [] 2 (hM10_2.rd 0 rfl) (fun w10_3 A10_3 c10_3 hc10_3 hM10_3 => ?_)
        refine ov 3 [] (a := kaddN (k + 1)) (b := ?_)
        have hq7 : (L ++ [(pairS ((splS 44 s)[k]'hx6_0)).getD ⟨0, 0⟩] : List PairT) = (L ++ [(pairS ((splS 44 s)[k]'hx6_0)).getD ⟨0, 0⟩]) := (by first | rfl | simp | (simp; omega))
        have hMn7 := hM10_3.reF 2 hq7
        exact le4 2 [] (k + 1) (L ++ [(pairS ((splS 44 s)[k]'hx6_0)).getD ⟨0, 0⟩]) A10_3 c10_3 [2, 3] (h := by exact ⟨(by (try dsimp only); omega), (parts_take hi1_l5 hx6_0 hpg), (by (try dsimp only); simp; omega)⟩)
    · have hpa : partsS (splS 44 s) = some L := by rw [← hi1_l5, List.take_of_length_le (by omega)]
      have hpl := parts_len hpa
      refine cp 5 [] (b := ValidRow_fn _ _ _ w_l5 (hM_l5.rd 0 rfl) qo) (c := fun w12_1 hM12_1 => ?_)
      refine cn 2 [] (fun c32 => ?_) (fun c32 => ?_)
      · refine E2 6 [] (.slice (none) (0) (0)) (.bool (false)) ?_
        have hn : rowS s = none := row_inv hs0 hpa (by simpa using c32)
        have hMn8 := Mem.addNil (e := 27) (sz := 2) hM12_1
        have hq9 : ([] : List PairT) = (rowS s).getD [] := (by rw [hn]; rfl)
        have hMn9 := hMn8.reF 0 hq9 (f := encP)
        exact ⟨none, 0, (by rw [hn]; rfl), (hMn9.pk [0])⟩
      · refine E2 8 [] (.slice (A2) ((L).length) (c2)) (.bool (true)) ?_
        have hn := row_ok hs0 hpa (by simp_all)
        have hq10 : (L : List PairT) = (rowS s).getD [] := (by rw [hn]; rfl)
        have hMn10 := hM12_1.reF 0 hq10
        exact ⟨A2, c2, (by rw [hn]; rfl), (hMn10.pk [0])⟩
end Go.Proofs.YtemejgglbhjodaaGreatDoor
end
section
namespace Go.Px
variable {H : Type} {enc : TypeId × Value → H}
theorem returnsIn_and_shaped {a : Assume} {C : Checked} {os : Os} {f : FuncId} {fn : Func} {s : ChangeSpec} {conds : List PathCond} {apart fresh handsOn again : Bool} {X : World → Array Value → Prop}
    (hX : ∀ (w w' : World) (args : Array Value), w.heap = w'.heap → X w args → X w' args)
    (own : ownKnob C.prog.godebug = none) (started : os.Started) (noInit : C.prog.inits.idxOf? f = none) (hfn : C.prog.funcs[f]? = some fn)
    (witness : ∃ (w : World) (tape : Tape) (i : Input), w.os = os ∧ (w.forCall tape i).Shaped C.prog ∧ i.vars = [] ∧ Input.okWide C.prog (w.forCall tape i) .any w.heap.size f i ∧
      ((s.pre enc C.prog fn conds apart (w.forCall tape i).memory i.args ∧ X (w.forCall tape i).memory i.args) ∧ sizedMet enc C.prog fn (OpenSpec.ofChange s) apart (w.forCall tape i).memory i.args) ∧ a.holds C.prog (lone (Frame.enter C.prog f i.args .normal) [] (w.forCall tape i)))
    (contract : ∀ (W : World) (base : Nat) (args : Array Value) (ds gs : List (DataW H)) (before : List MemPlace),
      (∀ (j : Nat) t v, fn.params[j]? = some t → args[j]? = some v → Value.okWide C.prog W .any base t v) →
      DataW.Whole enc C.prog fn.params.toList s.vars apart W args.toList ds gs before → X W args → W.ShapedOpen C.prog →
      Calls C.prog f args W fun e W' => ∃ v, e = .returned v ∧ s.post enc C.prog fn apart fresh handsOn again W args v W') :
    ReturnsInHanded a C os f .any (fun w args => (s.pre enc C.prog fn conds apart w args ∧ X w args) ∧ sizedMet enc C.prog fn (OpenSpec.ofChange s) apart w args) (s.post enc C.prog fn apart fresh handsOn again) := by
  refine returnsInHanded_of_calls own started noInit witness ?_
  intro w tape i _ hsh _ hok hpre hholds
  obtain ⟨_, _, _, fn', hfn', _, _, _, _, hval⟩ := hok
  have e : fn' = fn := Option.some.inj (hfn'.symm.trans hfn)
  subst e
  obtain ⟨⟨⟨ds, gs, before, hw, hc⟩, hx⟩, hz⟩ := hpre
  have hw' := DataW.Whole.of_heap (w' := w.forCall tape i) (by rfl) hw
  refine (contract (w.forCall tape i) w.heap.size i.args ds gs before hval hw' (hX _ _ _ (by rfl) hx) hsh).mono fun e W' ⟨v, he, hp⟩ => ?_
  subst he
  exact ChangeSpec.post_blind hp
end Go.Px
namespace Go.Proofs.YtemejgglbhjodaaGreatDoor
open Go.Px Go.RowKit
theorem row_es (u : TypeId) (h : Tryz.prog.typeName? 3 u = some ("*" ++ "errors.errorString")) : u = 223 :=
  typeName_ptr_named (by kernel_rfl) (by kernel_rfl) (by decide) u h
theorem lw_of {W : World} (h0 : laidMetH Tryz.prog Rows.fnPageTextRow.laid W) (hsh : W.ShapedOpen Tryz.prog) : LW W := by
  rw [MakeChecks.laidMetH_plain _ _ _ (by kernel_rfl)] at h0
  have h : laidMet Tryz.prog Rows.fnPageTextRow.laid W := h0
  refine ⟨?_, ?_, ?_⟩
  · obtain ⟨ps, ⟨g0, t0, cs0, f0, p0, q0, _, _, _, _, ⟨g1, t1, cs1, f1, p1, q1, _, _, _, _, ⟨g, t, cs, fuel, p, q, hg, ht, hvar, hd, _, _⟩, _⟩, _⟩, _⟩ := h
    have hg' : Tryz.prog.globalNamed tabN = some 1 := by kernel_rfl
    obtain rfl := Option.some.inj (hg'.symm.trans (show Tryz.prog.globalNamed tabN = some g from hg))
    have hty : (Tryz.prog.globals[1]?).map (·.type) = some 201 := by kernel_rfl
    obtain rfl := Option.some.inj (hty.symm.trans ht)
    unfold TAB Lib.TabIs
    rw [show W.var? Tryz.prog tabN = some cs from hvar, ← Lib.cells_of_tab (zs := Lib.pow10Tab) Tryz.underlying201 Tryz.underlying180 (by kernel_rfl) (by kernel_rfl) hd]
  · exact cell_of_shapedOpen_int (g := 0) (zero := #[.int .i64 0]) (t := 3) hsh (of_decide_eq_true (by kernel_rfl)) (by kernel_rfl) rfl (by kernel_rfl) (by kernel_rfl) Tryz.underlying3
  · have h5 := laidMet.tail (laidMet.tail (laidMet.tail (laidMet.tail (laidMet.tail h))))
    have hgE : Tryz.prog.globalNamed "strconv.ErrSyntax" = some 4 := by kernel_rfl
    obtain ⟨a0, s0, hv0, _, _, _⟩ := laid_sentinel h5 hgE (ti := 95) (by kernel_rfl) Tryz.underlying95 row_es Tryz.underlying223 Tryz.underlying225 rfl rfl Tryz.underlying9 (by kernel_rfl) (by kernel_rfl)
    have h1 := World.var?_cell hgE hv0 0
    exact ⟨223, .pointer (some a0), by simpa using h1⟩
end Go.Proofs.YtemejgglbhjodaaGreatDoor
end
section
namespace Go.Proofs.YtemejgglbhjodaaGreatDoor
open Go.Px
theorem copyPage_fn (p : PgL) (w : World) (hNp : PgN w p) (hp : (p).k.l.length ≤ 1048576 ∧ (p).c.l.length ≤ 1048576 ∧ (p).v.l.length ≤ 1048576) :
    Does Tryz.prog 158 [.agg #[.slice ((p).k.A) ((p).k.l.length) ((p).k.cp), .slice ((p).c.A) ((p).c.l.length) ((p).c.cp), .slice ((p).v.A) ((p).v.l.length) ((p).v.cp)]] w (fun v w1 => ∃ (A1 : Option Addr) (c1 : Nat) (A2 : Option Addr) (c2 : Nat) (A3 : Option Addr) (c3 : Nat), v = .agg #[.slice (A1) (((p).k.l).length) (c1), .slice (A2) (((p).c.l).length) (c2), .slice (A3) (((p).v.l).length) (c3)] ∧ Mem w w1 [] [[⟨.slice (A1) (((p).k.l).length) (c1), 3, 1, (((p).k.l).length), ((p).k.l).map I⟩], [⟨.slice (A2) (((p).c.l).length) (c2), 3, 1, (((p).c.l).length), ((p).c.l).map I⟩], [⟨.slice (A3) (((p).v.l).length) (c3), 3, 1, (((p).v.l).length), ((p).v.l).map I⟩]]) := by
  have hM : Mem w w [] [] := Mem.refl
  refine Does.nG (rs := [.cell 2 42]) Tryz.func158 rfl Tryz.results158 Tryz.ntmps158 rfl ?_
  refine Bx 2 [] fun w0_0 b0_0 hb0_0 hM0_0 => ?_
  refine Al 0 [] fun w0_1 b0_1 hb0_1 hM0_1 => ?_
  refine any 2 [] 11 [1] fun w1a hM1a => ?_
  refine aO [0, 1, 3, 4, 6, 7] [0, 0, 0] 2 ?_
  refine cq 0 [] (vs := [.slice ((p).k.A) (((p).k.l).length) ((p).k.cp)]) (hvs := (by first | rfl | (rw [show ((p).k.l).length = (p).k.l.length from (by first | rfl | (simp; done) | omega | (simp; omega))]; rfl))) (b := scopyInts_fn ((p).k.A) ((p).k.cp) ((p).k.l) w1a (hNp.at hM1a).1 q0) (c := ?_)
  rintro _ w1_2 ⟨A11_2, c11_2, rfl, hR1_2⟩
  have hM1_2 := hM1a.cl 0 hR1_2
  have hcr1_2_0 := (hM1_2.cap 0 rfl).1
  refine os 0 [] [2] ?_
  refine aO [] [] 5 ?_
  refine cq 0 [] (vs := [.slice ((p).c.A) (((p).c.l).length) ((p).c.cp)]) (hvs := (by first | rfl | (rw [show ((p).c.l).length = (p).c.l.length from (by first | rfl | (simp; done) | omega | (simp; omega))]; rfl))) (b := scopyInts_fn ((p).c.A) ((p).c.cp) ((p).c.l) w1_2 (hNp.at hM1_2).2.1 q0) (c := ?_)
  rintro _ w1_5 ⟨A11_5, c11_5, rfl, hR1_5⟩
  have hM1_5 := hM1_2.cl 0 hR1_5
  have hcr1_5_0 := (hM1_5.cap 0 rfl).1
  refine os 0 [] [3] ?_
  refine aO [] [] 8 ?_
  refine cq 0 [] (vs := [.slice ((p).v.A) (((p).v.l).length) ((p).v.cp)]) (hvs := (by first | rfl | (rw [show ((p).v.l).length = (p).v.l.length from (by first | rfl | (simp; done) | omega | (simp; omega))]; rfl))) (b := scopyInts_fn ((p).v.A) ((p).v.cp) ((p).v.l) w1_5 (hNp.at hM1_5).2.2 q0) (c := ?_)
  rintro _ w1_8 ⟨A11_8, c11_8, rfl, hR1_8⟩
  have hM1_8 := hM1_5.cl 0 hR1_8
  have hcr1_8_0 := (hM1_8.cap 0 rfl).1
  refine os 0 [] [4] ?_
  refine aO [9] [] 10 ?_
  refine Sb 0 [] 3 fun w1_10 hM1_10 => ?_
  refine os 0 [] [4] ?_
  refine an [] [] ?_
  refine EG 1 [] ?_
  refine PG (vs := [.agg #[.slice (A11_2) ((((p).k.l)).length) (c11_2), .slice (A11_5) ((((p).c.l)).length) (c11_5), .slice (A11_8) ((((p).v.l)).length) (c11_8)]]) (ResV.cell (l := [.slice (A11_2) ((((p).k.l)).length) (c11_2), .slice (A11_5) ((((p).c.l)).length) (c11_5), .slice (A11_8) ((((p).v.l)).length) (c11_8)]) rfl (mem_blk (i := 3) (j := 0) hM1_10 rfl rfl) el42 rfl ResV.nil) ?_
  have hq1 : (((p).k.l) : List Int) = (p).k.l := (by first | rfl | simp | (simp; omega))
  have hMn1 := hM1_10.reM 2 hq1
  have hq2 : (((p).c.l) : List Int) = (p).c.l := (by first | rfl | simp | (simp; omega))
  have hMn2 := hMn1.reM 1 hq2
  have hq3 : (((p).v.l) : List Int) = (p).v.l := (by first | rfl | simp | (simp; omega))
  have hMn3 := hMn2.reM 0 hq3
  exact ⟨A11_2, c11_2, A11_5, c11_5, A11_8, c11_8, (by first | rfl | exact sl_congr (by first | omega | (simp; done) | (simp; omega)) | (simp; done)), (hMn3.pk [2, 1, 0])⟩
set_option maxHeartbeats 2000000 in
theorem scopyTree_fn (T : TreeL) (w : World) (hNT : TrN w T) (hs : SzT T) :
    Does Tryz.prog 124 [.agg #[I ((T).root), .slice ((T).A) ((T).l.length) ((T).cp)]] w (fun v w1 => ∃ (L1 : List PgL) (A1 : Option Addr) (c1 : Nat), v = .agg #[I ((T).root), .slice (A1) ((L1).length) (c1)] ∧ (tsG L1 = tsG (T).l) ∧ Mem w w1 [] [[⟨.slice (A1) ((L1).length) (c1), 42, 3, ((L1).length), (L1).flatMap encPg⟩], (L1).flatMap (pgF 3)]) := by
  have hM : Mem w w [] [] := Mem.refl
  refine Does.nG (rs := [.cell 2 25]) Tryz.func124 rfl Tryz.results124 Tryz.ntmps124 rfl ?_
  have hs1 := hs.1
  refine Bx 2 [] fun w0_0 b0_0 hb0_0 hM0_0 => ?_
  refine Al 0 [] fun w0_1 b0_1 hb0_1 hM0_1 => ?_
  refine Lt 5 [1] (([]).flatMap encPg) (fun w1_2 b1_2 hb1_2 hM1_2 => ?_)
  refine Al 1 [] fun w1_4 b1_4 hb1_4 hM1_4 => ?_
  refine Sb 0 [] 0 fun w1_5 hM1_5 => ?_
  have hMk1 := Mem.gnil (e := 3) hM1_5
  have hq2 : ([] : List PgL) = ([] : List PgL) := (by first | rfl | simp | (simp; omega))
  have hMn2 := hMk1.reF 2 hq2 (f := encPg)
  refine lp4 7 [] (fun (k : Nat) (Ch : List PgL) (A2 : Option Addr) (c2 : Nat) => ([(4, Vi (((k : Nat) : Int)))] : List (Nat × SV))) (fun (k : Nat) (Ch : List PgL) (A2 : Option Addr) (c2 : Nat) => (k ≤ (T).l.length) ∧ (tsG Ch = (tsG (T).l).take k)) (fun (k : Nat) (Ch : List PgL) (A2 : Option Addr) (c2 : Nat) => [(Ch).flatMap (pgF 3), [⟨.slice (bl b1_4) 1 1, 25, 2, 1, [I ((T).root), .slice (A2) ((Ch).length) (c2)]⟩], [⟨.slice (A2) ((Ch).length) (c2), 42, 3, ((Ch).length), (Ch).flatMap encPg⟩]]) (fun (k : Nat) (Ch : List PgL) (A2 : Option Addr) (c2 : Nat) => (T).l.length - k) [1, 2, 3] [0, 1, 2] [3, 4] 0 (([] : List PgL) : List PgL) (bl b1_2) 0 (fun k Ch A2 c2 σ w_l3 hI hM_l3 => ?_) (h0 := ⟨(Nat.zero_le _), (by (try dsimp only); simp)⟩)
  obtain ⟨hi0_l3, hi1_l3⟩ := hI
  have hcl2_l3 := (hM_l3.cap 2 rfl).1
  have hCl := tsg_len hi1_l3 hi0_l3
  refine cd 9 [4] (fun c13 => ?_) (fun c13 => ?_)
  · refine any 3 [] 12 [0, 3, 4] fun w5a hM5a => ?_
    have hx5_5 : k < ((T).l).length := (by first | omega | (simp; omega))
    refine av [0, 2, 3, 4] [2] 5 (a := by exact fun _ hw2 => kixF hx5_5 (hNT.at hM5a).1) (b := ?_)
    refine aT [] [] 1 6 ?_ ?_
    · refine os 1 [1] [0, 3, 4] ?_
      refine aO [] [] 6 ?_
      refine ov 0 [] (a := kldN hx5_5 (hNT.at hM5a).1) (b := ?_)
      refine os 0 [] [0, 3, 4] ?_
      refine aO [] [] 7 ?_
      refine cq 0 [] (b := copyPage_fn (((T).l)[k]'hx5_5) w5a (((hNT.at hM5a)).2.get hx5_5) (by exact hs.at hx5_5)) (c := ?_)
      rintro _ w5_7 ⟨A15_7, c15_7, A25_7, c25_7, A35_7, c35_7, rfl, hR5_7⟩
      have hM5_7 := hM5a.cl 0 hR5_7
      have hcr5_7_0 := (hM5_7.cap 0 rfl).1
      have hcr5_7_1 := (hM5_7.cap 1 rfl).1
      have hcr5_7_2 := (hM5_7.cap 2 rfl).1
      refine os 0 [] [3, 6, 7] ?_
      refine aO [] [] 8 ?_
      let p1_ : PgL := (⟨⟨A15_7, c15_7, ((((T).l)[k]'hx5_5)).k.l⟩, ⟨A25_7, c25_7, ((((T).l)[k]'hx5_5)).c.l⟩, ⟨A35_7, c35_7, ((((T).l)[k]'hx5_5)).v.l⟩⟩ : PgL)
      refine Lt 0 [] (([p1_]).flatMap encPg) (fun w5_8 b5_8 hb5_8 hM5_8 => ?_)
      refine os 0 [] [4, 7, 8] ?_
      refine aO [] [] 9 ?_
      refine aF 0 [] 6 (hM5_8.rd 0 rfl) (fun w5_9 A5_9 c5_9 hc5_9 hM5_9 => ?_)
      refine os 0 [] [4, 7, 8] ?_
      refine aO [10] [] 11 ?_
      refine Sb 0 [] 5 fun w5_11 hM5_11 => ?_
      refine os 0 [] [4, 7, 8] ?_
      refine an [] [] ?_
      have hMk4 := Mem.gapp (k := ⟨A15_7, c15_7, ((((T).l)[k]'hx5_5)).k.l⟩) (c := ⟨A25_7, c25_7, ((((T).l)[k]'hx5_5)).c.l⟩) (v := ⟨A35_7, c35_7, ((((T).l)[k]'hx5_5)).v.l⟩) (hM5_11.pk [4, 1, 2, 3, 0, 5, 6, 7, 8])
      refine ov 2 [] (a := kaddN (k + 1)) (b := ?_)
      have hq5 : (Ch ++ [p1_] : List PgL) = (Ch ++ [p1_]) := (by first | rfl | simp | (simp; omega))
      have hMn5 := hMk4.reF 3 hq5
      exact le4 2 [] (k + 1) (Ch ++ [p1_]) A5_9 c5_9 [0, 2, 3, 4, 5] (h := by exact ⟨(by (try dsimp only); omega), (tsg_snoc hi1_l3 hx5_5 rfl)⟩)
    · refine ov 0 [] (a := kldN hx5_5 (hNT.at hM5a).1) (b := ?_)
      refine os 0 [] [0, 3, 4] ?_
      refine aT [] [] 1 7 ?_ ?_
      · refine os 1 [1] [0, 3, 4] ?_
        refine aO [] [] 7 ?_
        refine cq 0 [] (b := copyPage_fn (((T).l)[k]'hx5_5) w5a (((hNT.at hM5a)).2.get hx5_5) (by exact hs.at hx5_5)) (c := ?_)
        rintro _ w5_7 ⟨A15_7, c15_7, A25_7, c25_7, A35_7, c35_7, rfl, hR5_7⟩
        have hM5_7 := hM5a.cl 0 hR5_7
        have hcr5_7_0 := (hM5_7.cap 0 rfl).1
        have hcr5_7_1 := (hM5_7.cap 1 rfl).1
        have hcr5_7_2 := (hM5_7.cap 2 rfl).1
        refine os 0 [] [3, 6, 7] ?_
        refine aO [] [] 8 ?_
        let p2_ : PgL := (⟨⟨A15_7, c15_7, ((((T).l)[k]'hx5_5)).k.l⟩, ⟨A25_7, c25_7, ((((T).l)[k]'hx5_5)).c.l⟩, ⟨A35_7, c35_7, ((((T).l)[k]'hx5_5)).v.l⟩⟩ : PgL)
        refine Lt 0 [] (([p2_]).flatMap encPg) (fun w5_8 b5_8 hb5_8 hM5_8 => ?_)
        refine os 0 [] [4, 7, 8] ?_
        refine aO [] [] 9 ?_
        refine aF 0 [] 6 (hM5_8.rd 0 rfl) (fun w5_9 A5_9 c5_9 hc5_9 hM5_9 => ?_)
        refine os 0 [] [4, 7, 8] ?_
        refine aO [10] [] 11 ?_
        refine Sb 0 [] 5 fun w5_11 hM5_11 => ?_
        refine os 0 [] [4, 7, 8] ?_
        refine an [] [] ?_
        have hMk7 := Mem.gapp (k := ⟨A15_7, c15_7, ((((T).l)[k]'hx5_5)).k.l⟩) (c := ⟨A25_7, c25_7, ((((T).l)[k]'hx5_5)).c.l⟩) (v := ⟨A35_7, c35_7, ((((T).l)[k]'hx5_5)).v.l⟩) (hM5_11.pk [4, 1, 2, 3, 0, 5, 6, 7, 8])
        refine ov 2 [] (a := kaddN (k + 1)) (b := ?_)
        have hq8 : (Ch ++ [p2_] : List PgL) = (Ch ++ [p2_]) := (by first | rfl | simp | (simp; omega))
        have hMn8 := hMk7.reF 3 hq8
        exact le4 2 [] (k + 1) (Ch ++ [p2_]) A5_9 c5_9 [0, 2, 3, 4, 5] (h := by exact ⟨(by (try dsimp only); omega), (tsg_snoc hi1_l3 hx5_5 rfl)⟩)
      · refine cq 0 [] (b := copyPage_fn (((T).l)[k]'hx5_5) w5a (((hNT.at hM5a)).2.get hx5_5) (by exact hs.at hx5_5)) (c := ?_)
        rintro _ w5_7 ⟨A15_7, c15_7, A25_7, c25_7, A35_7, c35_7, rfl, hR5_7⟩
        have hM5_7 := hM5a.cl 0 hR5_7
        have hcr5_7_0 := (hM5_7.cap 0 rfl).1
        have hcr5_7_1 := (hM5_7.cap 1 rfl).1
        have hcr5_7_2 := (hM5_7.cap 2 rfl).1
        refine os 0 [] [3, 6, 7] ?_
        refine aT [] [] 1 8 ?_ ?_
        · refine os 1 [4] [3, 6, 7] ?_
          refine aO [] [] 8 ?_
          let p3_ : PgL := (⟨⟨A15_7, c15_7, ((((T).l)[k]'hx5_5)).k.l⟩, ⟨A25_7, c25_7, ((((T).l)[k]'hx5_5)).c.l⟩, ⟨A35_7, c35_7, ((((T).l)[k]'hx5_5)).v.l⟩⟩ : PgL)
          refine Lt 0 [] (([p3_]).flatMap encPg) (fun w5_8 b5_8 hb5_8 hM5_8 => ?_)
          refine os 0 [] [4, 7, 8] ?_
          refine aO [] [] 9 ?_
          refine aF 0 [] 6 (hM5_8.rd 0 rfl) (fun w5_9 A5_9 c5_9 hc5_9 hM5_9 => ?_)
          refine os 0 [] [4, 7, 8] ?_
          refine aO [10] [] 11 ?_
          refine Sb 0 [] 5 fun w5_11 hM5_11 => ?_
          refine os 0 [] [4, 7, 8] ?_
          refine an [] [] ?_
          have hMk10 := Mem.gapp (k := ⟨A15_7, c15_7, ((((T).l)[k]'hx5_5)).k.l⟩) (c := ⟨A25_7, c25_7, ((((T).l)[k]'hx5_5)).c.l⟩) (v := ⟨A35_7, c35_7, ((((T).l)[k]'hx5_5)).v.l⟩) (hM5_11.pk [4, 1, 2, 3, 0, 5, 6, 7, 8])
          refine ov 2 [] (a := kaddN (k + 1)) (b := ?_)
          have hq11 : (Ch ++ [p3_] : List PgL) = (Ch ++ [p3_]) := (by first | rfl | simp | (simp; omega))
          have hMn11 := hMk10.reF 3 hq11
          exact le4 2 [] (k + 1) (Ch ++ [p3_]) A5_9 c5_9 [0, 2, 3, 4, 5] (h := by exact ⟨(by (try dsimp only); omega), (tsg_snoc hi1_l3 hx5_5 rfl)⟩)
        · let p4_ : PgL := (⟨⟨A15_7, c15_7, ((((T).l)[k]'hx5_5)).k.l⟩, ⟨A25_7, c25_7, ((((T).l)[k]'hx5_5)).c.l⟩, ⟨A35_7, c35_7, ((((T).l)[k]'hx5_5)).v.l⟩⟩ : PgL)
          refine Lt 0 [] (([p4_]).flatMap encPg) (fun w5_8 b5_8 hb5_8 hM5_8 => ?_)
          refine os 0 [] [4, 7, 8] ?_
          refine aO [] [] 1 ?_
          refine os 1 [5] [4, 7, 8] ?_
          refine aO [] [] 9 ?_
          refine aF 0 [] 6 (hM5_8.rd 0 rfl) (fun w5_9 A5_9 c5_9 hc5_9 hM5_9 => ?_)
          refine os 0 [] [4, 7, 8] ?_
          refine aO [10] [] 11 ?_
          refine Sb 0 [] 5 fun w5_11 hM5_11 => ?_
          refine os 0 [] [4, 7, 8] ?_
          refine an [] [] ?_
          have hMk13 := Mem.gapp (k := ⟨A15_7, c15_7, ((((T).l)[k]'hx5_5)).k.l⟩) (c := ⟨A25_7, c25_7, ((((T).l)[k]'hx5_5)).c.l⟩) (v := ⟨A35_7, c35_7, ((((T).l)[k]'hx5_5)).v.l⟩) (hM5_11.pk [4, 1, 2, 3, 0, 5, 6, 7, 8])
          refine ov 2 [] (a := kaddN (k + 1)) (b := ?_)
          have hq14 : (Ch ++ [p4_] : List PgL) = (Ch ++ [p4_]) := (by first | rfl | simp | (simp; omega))
          have hMn14 := hMk13.reF 3 hq14
          exact le4 2 [] (k + 1) (Ch ++ [p4_]) A5_9 c5_9 [0, 2, 3, 4, 5] (h := by exact ⟨(by (try dsimp only); omega), (tsg_snoc hi1_l3 hx5_5 rfl)⟩)
  · refine Sb 4 [1] 3 fun w6_1 hM6_1 => ?_
    refine EG 2 [] ?_
    refine PG (vs := [.agg #[I ((T).root), .slice (A2) ((Ch).length) (c2)]]) (ResV.cell (l := [I ((T).root), .slice (A2) ((Ch).length) (c2)]) rfl (mem_blk (i := 3) (j := 0) hM6_1 rfl rfl) el25 rfl ResV.nil) ?_
    have hke : k = (T).l.length := by omega
    rw [hke, List.take_of_length_le (by simp)] at hi1_l3
    exact ⟨Ch, A2, c2, (by first | rfl | exact sl_congr (by first | omega | (simp; done) | (simp; omega)) | (simp; done)), hi1_l3, (hM6_1.pk [2, 0])⟩
theorem leafOf_fn (A : Option Addr) (c : Nat) (l : List PairT) (w : World) (hA : Rd w A ((l).flatMap encP)) (hl : l.length ≤ 1048576) (hc : l.length ≤ c) :
    Does Tryz.prog 65 [.slice (A) ((l).length) (c)] w (fun v w1 => ∃ (A1 : Option Addr) (c1 : Nat) (A2 : Option Addr) (c2 : Nat) (A3 : Option Addr) (c3 : Nat), v = .agg #[.slice (A1) ((keysP l).length) (c1), .slice (A2) ((([] : List Int)).length) (c2), .slice (A3) ((l.map PairT.val).length) (c3)] ∧ Mem w w1 [] [[⟨.slice (A1) ((keysP l).length) (c1), 3, 1, ((keysP l).length), (keysP l).map I⟩], [⟨.slice (A2) ((([] : List Int)).length) (c2), 3, 1, ((([] : List Int)).length), (([] : List Int)).map I⟩], [⟨.slice (A3) ((l.map PairT.val).length) (c3), 3, 1, ((l.map PairT.val).length), (l.map PairT.val).map I⟩]]) := by
  have hM : Mem w w [] [] := Mem.refl
  refine Does.nG (rs := [.cell 2 42]) Tryz.func65 rfl Tryz.results65 Tryz.ntmps65 rfl ?_
  refine Al 2 [] fun w0_0 b0_0 hb0_0 hM0_0 => ?_
  refine cq 4 [] (b := skeysOf_fn _ _ _ w0_0 (hA.at hM0_0) q0) (c := ?_)
  rintro _ w1_1 ⟨A11_1, c11_1, rfl, hR1_1⟩
  have hM1_1 := hM0_0.cl 0 hR1_1
  have hcr1_1_0 := (hM1_1.cap 0 rfl).1
  refine Lt 0 [] (([]).map I) (fun w1_2 b1_2 hb1_2 hM1_2 => ?_)
  refine Lt 0 [] (([]).map I) (fun w1_3 b1_3 hb1_3 hM1_3 => ?_)
  refine Al 1 [] fun w1_5 b1_5 hb1_5 hM1_5 => ?_
  refine Sb 0 [] 0 fun w1_6 hM1_6 => ?_
  have hq1 : ([] : List Int) = (l.take 0).map PairT.val := (by simp)
  have hMn1 := hM1_6.reM 1 hq1 (f := I)
  have hMn2 := hMn1.reB 0 2 (show 0 = ((l.take 0).map PairT.val).length from congrArg List.length hq1)
  refine lp3 7 [] (fun (k : Nat) (A2 : Option Addr) (c2 : Nat) => ([(4, Vi (((k : Nat) : Int)))] : List (Nat × SV))) (fun (k : Nat) (A2 : Option Addr) (c2 : Nat) => (k ≤ l.length)) (fun (k : Nat) (A2 : Option Addr) (c2 : Nat) => [[⟨.slice (bl b1_5) 1 1, 42, 3, 1, [.slice (A11_1) ((keysP l).length) (c11_1), .slice (bl b1_2) (0) (0), .slice (A2) (((l.take k).map PairT.val).length) (c2)]⟩], [⟨.slice (A2) (((l.take k).map PairT.val).length) (c2), 3, 1, (((l.take k).map PairT.val).length), ((l.take k).map PairT.val).map I⟩]]) (fun (k : Nat) (A2 : Option Addr) (c2 : Nat) => l.length - k) [0, 2, 3] [0, 1] [2, 3, 4] 0 (bl b1_3) 0 (fun k A2 c2 σ w_l3 hI hM_l3 => ?_) (h0 := (Nat.zero_le _))
  have hi0_l3 := hI
  have hcl1_l3 := (hM_l3.cap 1 rfl).1
  have hcl2_l3 := (hM_l3.cap 2 rfl).1
  have hcl3_l3 := (hM_l3.cap 3 rfl).1
  refine cd 8 [] (fun c13 => ?_) (fun c13 => ?_)
  · refine any 3 [] 11 [2, 3, 4] fun w5a hM5a => ?_
    have hx5_4 : k < (l).length := (by first | omega | (simp; omega))
    refine av [0, 2, 3] [] 4 (a := by exact fun _ hw2 => kixF hx5_4 (hA.at hM5a)) (b := ?_)
    refine av [] [] 5 (a := by exact fun _ hw2 => kflF hx5_4 (hA.at hM5a)) (b := ?_)
    refine av [] [] 6 (a := by exact fun _ hw2 => kldF hx5_4 (hA.at hw2)) (b := ?_)
    refine aT [] [] 1 7 ?_ ?_
    · refine os 1 [0] [2, 3, 4] ?_
      refine aO [] [] 7 ?_
      refine Lt 0 [] (([((l)[k]'hx5_4).val]).map I) (fun w5_7 b5_7 hb5_7 hM5_7 => ?_)
      refine os 0 [] [3, 4, 5] ?_
      refine aO [] [] 8 ?_
      refine aM 0 [] 2 (hM5_7.rd 0 rfl) (fun w5_8 A5_8 c5_8 hc5_8 hM5_8 => ?_) (hn := by first | omega | (simp; omega)) (hb := by first | omega | (simp; omega))
      refine os 0 [] [3, 4, 5] ?_
      refine aO [9] [] 10 ?_
      refine Sb 0 [] 1 fun w5_10 hM5_10 => ?_
      refine os 0 [] [3, 4, 5] ?_
      refine an [] [] ?_
      refine ov 2 [] (a := kaddN (k + 1)) (b := ?_)
      have hq3 : ((l.take k).map PairT.val ++ [((l)[k]'hx5_4).val] : List Int) = (l.take (k + 1)).map PairT.val := (map_snoc hx5_4)
      have hMn3 := hM5_10.reM 2 hq3
      have hMn4 := hMn3.reB 1 2 (show ((l.take k).map PairT.val ++ [((l)[k]'hx5_4).val]).length = ((l.take (k + 1)).map PairT.val).length from congrArg List.length hq3)
      exact le3 2 [] (k + 1) A5_8 c5_8 [1, 2, 3, 4, 5] (h := by exact (by (try dsimp only); omega))
    · refine Lt 0 [] (([((l)[k]'hx5_4).val]).map I) (fun w5_7 b5_7 hb5_7 hM5_7 => ?_)
      refine os 0 [] [3, 4, 5] ?_
      refine aO [] [] 1 ?_
      refine os 1 [1] [3, 4, 5] ?_
      refine aO [] [] 8 ?_
      refine aM 0 [] 2 (hM5_7.rd 0 rfl) (fun w5_8 A5_8 c5_8 hc5_8 hM5_8 => ?_) (hn := by first | omega | (simp; omega)) (hb := by first | omega | (simp; omega))
      refine os 0 [] [3, 4, 5] ?_
      refine aO [9] [] 10 ?_
      refine Sb 0 [] 1 fun w5_10 hM5_10 => ?_
      refine os 0 [] [3, 4, 5] ?_
      refine an [] [] ?_
      refine ov 2 [] (a := kaddN (k + 1)) (b := ?_)
      have hq5 : ((l.take k).map PairT.val ++ [((l)[k]'hx5_4).val] : List Int) = (l.take (k + 1)).map PairT.val := (map_snoc hx5_4)
      have hMn5 := hM5_10.reM 2 hq5
      have hMn6 := hMn5.reB 1 2 (show ((l.take k).map PairT.val ++ [((l)[k]'hx5_4).val]).length = ((l.take (k + 1)).map PairT.val).length from congrArg List.length hq5)
      exact le3 2 [] (k + 1) A5_8 c5_8 [1, 2, 3, 4, 5] (h := by exact (by (try dsimp only); omega))
  · refine Sb 4 [0] 4 fun w6_1 hM6_1 => ?_
    refine EG 2 [] ?_
    refine PG (vs := [.agg #[.slice (A11_1) ((keysP l).length) (c11_1), .slice (bl b1_2) (0) (0), .slice (A2) (((l.take k).map PairT.val).length) (c2)]]) (ResV.cell (l := [.slice (A11_1) ((keysP l).length) (c11_1), .slice (bl b1_2) (0) (0), .slice (A2) (((l.take k).map PairT.val).length) (c2)]) rfl (mem_blk (i := 4) (j := 0) hM6_1 rfl rfl) el42 rfl ResV.nil) ?_
    have hq7 : ([] : List Int) = ([] : List Int) := (by first | rfl | simp | (simp; omega))
    have hMn7 := hM6_1.reM 2 hq7 (f := I)
    have hq8 : ((l.take k).map PairT.val : List Int) = l.map PairT.val := (by rw [List.take_of_length_le (by omega)])
    have hMn8 := hMn7.reM 1 hq8
    exact ⟨A11_1, c11_1, bl b1_2, 0, A2, c2, (by rw [List.take_of_length_le (by omega)]; rfl), (hMn8.pk [3, 2, 1])⟩
theorem insideOf_fn (p : PgL) (w : World) (hNp : PgN w p) :
    Does Tryz.prog 129 [.agg #[.slice ((p).k.A) ((p).k.l.length) ((p).k.cp), .slice ((p).c.A) ((p).c.l.length) ((p).c.cp), .slice ((p).v.A) ((p).v.l.length) ((p).v.cp)]] w (fun v w1 => v = .agg #[.slice ((p).k.A) ((p).k.l.length) ((p).k.cp), .slice ((p).c.A) ((p).c.l.length) ((p).c.cp)] ∧ Mem w w1 [] []) := by
  have hM : Mem w w [] [] := Mem.refl
  refine Does.nG (rs := [.cell 2 65]) Tryz.func129 rfl Tryz.results129 Tryz.ntmps129 rfl ?_
  refine Bx 2 [] fun w0_0 b0_0 hb0_0 hM0_0 => ?_
  refine Al 0 [] fun w0_1 b0_1 hb0_1 hM0_1 => ?_
  refine Sb 8 [1, 1] 0 fun w1_5 hM1_5 => ?_
  refine EG 2 [] ?_
  refine PG (vs := [.agg #[.slice ((p).k.A) ((p).k.l.length) ((p).k.cp), .slice ((p).c.A) ((p).c.l.length) ((p).c.cp)]]) (ResV.cell (l := [.slice ((p).k.A) ((p).k.l.length) ((p).k.cp), .slice ((p).c.A) ((p).c.l.length) ((p).c.cp)]) rfl (mem_blk (i := 0) (j := 0) hM1_5 rfl rfl) el65 rfl ResV.nil) ?_
  exact ⟨rfl, (Mem.none hM1_5)⟩
theorem innerOf_fn (KA : Option Addr) (kc : Nat) (kl : List Int) (CA : Option Addr) (cc : Nat) (cl : List Int) (w : World) (hRK : Rd w KA ((kl).map I)) (hRC : Rd w CA ((cl).map I)) :
    Does Tryz.prog 130 [.agg #[.slice (KA) ((kl).length) (kc), .slice (CA) ((cl).length) (cc)]] w (fun v w1 => ∃ (A1 : Option Addr) (c1 : Nat), v = .agg #[.slice (KA) ((kl).length) (kc), .slice (CA) ((cl).length) (cc), .slice (A1) (([] : List Int).length) (c1)] ∧ Mem w w1 [] [[⟨.slice (A1) ((([] : List Int)).length) (c1), 3, 1, ((([] : List Int)).length), (([] : List Int)).map I⟩]]) := by
  have hM : Mem w w [] [] := Mem.refl
  refine Does.nG (rs := [.cell 2 42]) Tryz.func130 rfl Tryz.results130 Tryz.ntmps130 rfl ?_
  refine Bx 2 [] fun w0_0 b0_0 hb0_0 hM0_0 => ?_
  refine Al 0 [] fun w0_1 b0_1 hb0_1 hM0_1 => ?_
  refine Lt 7 [1, 1] (([]).map I) (fun w1_4 b1_4 hb1_4 hM1_4 => ?_)
  refine Sb 1 [] 1 fun w1_6 hM1_6 => ?_
  refine EG 2 [] ?_
  refine PG (vs := [.agg #[.slice (KA) ((kl).length) (kc), .slice (CA) ((cl).length) (cc), .slice (bl b1_4) (0) (0)]]) (ResV.cell (l := [.slice (KA) ((kl).length) (kc), .slice (CA) ((cl).length) (cc), .slice (bl b1_4) (0) (0)]) rfl (mem_blk (i := 1) (j := 0) hM1_6 rfl rfl) el42 rfl ResV.nil) ?_
  have hq1 : ([] : List Int) = ([] : List Int) := (by first | rfl | simp | (simp; omega))
  have hMn1 := hM1_6.reM 0 hq1 (f := I)
  exact ⟨bl b1_4, 0, (by first | rfl | exact sl_congr (by first | omega | (simp; done) | (simp; omega)) | (simp; done)), (hMn1.pk [0])⟩
theorem placeOf_fn (A : Option Addr) (c : Nat) (l : List Int) (n : Int) (w : World) (hA : Rd w A ((l).map I)) (hl : l.length ≤ 1048576) :
    Does Tryz.prog 132 [.slice (A) ((l).length) (c), I (n)] w (fun v w1 => v = I (plcI l n) ∧ Mem w w1 [] []) := by
  have hM : Mem w w [] [] := Mem.refl
  refine Does.n1 Tryz.func132 rfl Tryz.results132 Tryz.ntmps132 rfl ?_
  refine lp1 10 [] (fun (k : Nat) => ([(5, Vi (((k : Nat) : Int)))] : List (Nat × SV))) (fun (k : Nat) => (k ≤ l.length) ∧ (∀ x ∈ l.take k, x ≠ n)) (fun (k : Nat) => []) (fun (k : Nat) => l.length - k) [0, 1] [] [] 0 (fun k σ w_l2 hI hM_l2 => ?_) (h0 := ⟨(Nat.zero_le _), (by (try dsimp only); simp)⟩)
  obtain ⟨hi0_l2, hi1_l2⟩ := hI
  refine cd 8 [] (fun c9 => ?_) (fun c9 => ?_)
  · have hx4_2 : k < (l).length := (by first | omega | (simp; omega))
    refine ov 7 [] (a := kixM hx4_2 (hA.at hM_l2)) (b := ?_)
    refine ov 0 [] (a := kldM hx4_2 (hA.at hM_l2)) (b := ?_)
    refine cd 3 [] (fun c17 => ?_) (fun c17 => ?_)
    · refine E1 6 [] (I (((k : Nat) : Int))) ?_
      exact ⟨(I_congr (by rw [plcI_at hx4_2 c17 hi1_l2])), (Mem.none hM_l2)⟩
    · refine ov 3 [] (a := kaddN (k + 1)) (b := ?_)
      exact le1 2 [] (k + 1) [] (h := by exact ⟨(by (try dsimp only); omega), (mem_step hi1_l2 hx4_2 c17)⟩)
  · refine E1 6 [] (I ((-1))) ?_
    exact ⟨(I_congr (by rw [plcI_no (by have := hi1_l2; rwa [List.take_of_length_le (by omega)] at this)])), (Mem.none hM_l2)⟩
set_option maxHeartbeats 2000000 in
theorem splitInner_fn (KA : Option Addr) (kc : Nat) (kl : List Int) (CA : Option Addr) (cc : Nat) (cl : List Int) (w : World) (hRK : Rd w KA ((kl).map I)) (hRC : Rd w CA ((cl).map I)) (hcp : (kl).length ≤ kc ∧ (cl).length ≤ cc) (h1 : 1 ≤ (kl).length ∧ (kl).length ≤ 1000) (h2 : (cl).length = (kl).length + 1) :
    Does Tryz.prog 128 [.agg #[.slice (KA) ((kl).length) (kc), .slice (CA) ((cl).length) (cc)]] w (fun v w1 => ∃ (A1 : Option Addr) (c1 : Nat) (A2 : Option Addr) (c2 : Nat) (A3 : Option Addr) (c3 : Nat) (A4 : Option Addr) (c4 : Nat), v = .tuple #[.agg #[.slice (A1) (((kl).take ((kl).length / 2)).length) (c1), .slice (A2) (((cl).take ((kl).length / 2 + 1)).length) (c2)], I ((kl).getD ((kl).length / 2) 0), .agg #[.slice (A3) (((kl).drop ((kl).length / 2 + 1)).length) (c3), .slice (A4) (((cl).drop ((kl).length / 2 + 1)).length) (c4)]] ∧ Mem w w1 [] [[⟨.slice (A1) (((kl).take ((kl).length / 2)).length) (c1), 3, 1, (((kl).take ((kl).length / 2)).length), ((kl).take ((kl).length / 2)).map I⟩], [⟨.slice (A2) (((cl).take ((kl).length / 2 + 1)).length) (c2), 3, 1, (((cl).take ((kl).length / 2 + 1)).length), ((cl).take ((kl).length / 2 + 1)).map I⟩], [⟨.slice (A3) (((kl).drop ((kl).length / 2 + 1)).length) (c3), 3, 1, (((kl).drop ((kl).length / 2 + 1)).length), ((kl).drop ((kl).length / 2 + 1)).map I⟩], [⟨.slice (A4) (((cl).drop ((kl).length / 2 + 1)).length) (c4), 3, 1, (((cl).drop ((kl).length / 2 + 1)).length), ((cl).drop ((kl).length / 2 + 1)).map I⟩]]) := by
  have hM : Mem w w [] [] := Mem.refl
  refine Does.nG (rs := [.cell 2 65, .tmp 3, .cell 4 65]) Tryz.func128 rfl Tryz.results128 Tryz.ntmps128 rfl ?_
  refine Bx 2 [] fun w0_0 b0_0 hb0_0 hM0_0 => ?_
  refine Al 0 [] fun w0_1 b0_1 hb0_1 hM0_1 => ?_
  refine Al 1 [] fun w0_3 b0_3 hb0_3 hM0_3 => ?_
  refine ov 6 [2] (a := kquoN ((kl).length / 2)) (b := ?_)
  refine ct5 2 [] (fun (bx6 : Nat) (P6_0 : Option Addr) (p6_0 : Nat) (P6_1 : Option Addr) (p6_1 : Nat) => ([(6, Vp (bl bx6) (0))] : List (Nat × SV))) (fun (bx6 : Nat) (P6_0 : Option Addr) (p6_0 : Nat) (P6_1 : Option Addr) (p6_1 : Nat) => True) (fun (bx6 : Nat) (P6_0 : Option Addr) (p6_0 : Nat) (P6_1 : Option Addr) (p6_1 : Nat) => [[⟨.slice (bl bx6) 1 1, 65, 2, 1, [.slice (P6_0) (((kl).take ((kl).length / 2)).length) (p6_0), .slice (P6_1) (((cl).take ((kl).length / 2 + 1)).length) (p6_1)]⟩], [⟨.slice (P6_0) (((kl).take ((kl).length / 2)).length) (p6_0), 3, 1, (((kl).take ((kl).length / 2)).length), ((kl).take ((kl).length / 2)).map I⟩], [⟨.slice (P6_1) (((cl).take ((kl).length / 2 + 1)).length) (p6_1), 3, 1, (((cl).take ((kl).length / 2 + 1)).length), ((cl).take ((kl).length / 2 + 1)).map I⟩]]) [1, 2, 4, 5] [0, 1, 2] ?_ (fun bx6 P6_0 p6_0 P6_1 p6_1 σ w_r2 hI hM_r2 => ?_)
  · refine any 0 [] 14 [0, 1, 2] fun w2a hM2a => ?_
    refine av [0, 1, 2] [2] 3 (s := Vl (KA) (((kl).take (((kl).length / 2))).length) (kc)) (a := by exact fun w2 hw2 => cv (Ru.congr (v := .slice (KA) (((kl).length / 2)) (kc)) (v' := .slice (KA) (((kl).take (((kl).length / 2))).length) (kc)) (Ru.lsliceTo (h := ((kl).length / 2)) Tryz.underlying30 el3 rfl rfl (by omega) (by omega)) (sl_congr (by first | rfl | (simp; done) | omega | (simp; omega)))) rfl) (b := ?_)
    refine av [5, 6, 7] [2] 8 (a := by exact fun _ hw2 => kaddN (((kl).length / 2) + 1)) (b := ?_)
    refine av [] [] 9 (s := Vl (CA) (((cl).take ((((kl).length / 2) + 1))).length) (cc)) (a := by exact fun w2 hw2 => cv (Ru.congr (v := .slice (CA) ((((kl).length / 2) + 1)) (cc)) (v' := .slice (CA) (((cl).take ((((kl).length / 2) + 1))).length) (cc)) (Ru.lsliceTo (h := (((kl).length / 2) + 1)) Tryz.underlying30 el3 rfl rfl (by omega) (by omega)) (sl_congr (by first | rfl | (simp; done) | omega | (simp; omega)))) rfl) (b := ?_)
    refine aT [] [] 4 12 ?_ ?_
    · refine cq 0 [] (b := scopyInts_fn _ _ _ w2a (rd_take1 (hRK.at hM2a)) q0) (c := ?_)
      rintro _ w2_4 ⟨A12_4, c12_4, rfl, hR2_4⟩
      have hM2_4 := hM2a.cl 0 hR2_4
      have hcr2_4_0 := (hM2_4.cap 0 rfl).1
      refine os 0 [] [1, 2, 3] ?_
      refine aT [] [] 10 12 ?_ ?_
      · refine cq 0 [] (b := scopyInts_fn _ _ _ w2_4 (rd_take1 (hRC.at hM2_4)) q0) (c := ?_)
        rintro _ w2_10 ⟨A12_10, c12_10, rfl, hR2_10⟩
        have hM2_10 := hM2_4.cl 0 hR2_10
        have hcr2_10_0 := (hM2_10.cap 0 rfl).1
        refine os 0 [] [2, 3, 4] ?_
        refine aO [11] [] 12 ?_
        refine Al 0 [] fun w2_12 b2_12 hb2_12 hM2_12 => ?_
        refine os 0 [] [3, 4, 5] ?_
        refine aO [] [] 13 ?_
        refine Sb 0 [] 0 fun w2_13 hM2_13 => ?_
        refine os 0 [] [3, 4, 5] ?_
        refine an [] [] ?_
        have hq1 : (((kl).take (((kl).length / 2))) : List Int) = (kl).take ((kl).length / 2) := (by first | rfl | simp | (simp; omega))
        have hMn1 := hM2_13.reM 2 hq1
        have hq2 : (((cl).take ((((kl).length / 2) + 1))) : List Int) = (cl).take ((kl).length / 2 + 1) := (by first | rfl | simp | (simp; omega))
        have hMn2 := hMn1.reM 1 hq2
        exact ce5 0 [] b2_12 A12_4 c12_4 A12_10 c12_10 [0, 2, 1, 3, 4, 5] (h := by exact trivial)
      · refine Al 0 [] fun w2_12 b2_12 hb2_12 hM2_12 => ?_
        refine os 0 [] [2, 3, 4] ?_
        refine aO [] [] 10 ?_
        refine cq 0 [] (b := scopyInts_fn _ _ _ w2_12 (rd_take1 (hRC.at hM2_12)) q0) (c := ?_)
        rintro _ w2_10 ⟨A12_10, c12_10, rfl, hR2_10⟩
        have hM2_10 := hM2_12.cl 0 hR2_10
        have hcr2_10_0 := (hM2_10.cap 0 rfl).1
        refine os 0 [] [3, 4, 5] ?_
        refine aO [11] [] 13 ?_
        refine Sb 0 [] 1 fun w2_13 hM2_13 => ?_
        refine os 0 [] [3, 4, 5] ?_
        refine an [] [] ?_
        have hq3 : (((kl).take (((kl).length / 2))) : List Int) = (kl).take ((kl).length / 2) := (by first | rfl | simp | (simp; omega))
        have hMn3 := hM2_13.reM 2 hq3
        have hq4 : (((cl).take ((((kl).length / 2) + 1))) : List Int) = (cl).take ((kl).length / 2 + 1) := (by first | rfl | simp | (simp; omega))
        have hMn4 := hMn3.reM 0 hq4
        exact ce5 0 [] b2_12 A12_4 c12_4 A12_10 c12_10 [1, 2, 0, 3, 4, 5] (h := by exact trivial)
    · refine Al 0 [] fun w2_12 b2_12 hb2_12 hM2_12 => ?_
      refine os 0 [] [1, 2, 3] ?_
      refine aO [] [] 4 ?_
      refine cq 0 [] (b := scopyInts_fn _ _ _ w2_12 (rd_take1 (hRK.at hM2_12)) q0) (c := ?_)
      rintro _ w2_4 ⟨A12_4, c12_4, rfl, hR2_4⟩
      have hM2_4 := hM2_12.cl 0 hR2_4
      have hcr2_4_0 := (hM2_4.cap 0 rfl).1
      refine os 0 [] [2, 3, 4] ?_
      refine aO [] [] 10 ?_
      refine cq 0 [] (b := scopyInts_fn _ _ _ w2_4 (rd_take1 (hRC.at hM2_4)) q0) (c := ?_)
      rintro _ w2_10 ⟨A12_10, c12_10, rfl, hR2_10⟩
      have hM2_10 := hM2_4.cl 0 hR2_10
      have hcr2_10_0 := (hM2_10.cap 0 rfl).1
      refine os 0 [] [3, 4, 5] ?_
      refine aO [11] [] 13 ?_
      refine Sb 0 [] 2 fun w2_13 hM2_13 => ?_
      refine os 0 [] [3, 4, 5] ?_
      refine an [] [] ?_
      have hq5 : (((kl).take (((kl).length / 2))) : List Int) = (kl).take ((kl).length / 2) := (by first | rfl | simp | (simp; omega))
      have hMn5 := hM2_13.reM 1 hq5
      have hq6 : (((cl).take ((((kl).length / 2) + 1))) : List Int) = (cl).take ((kl).length / 2 + 1) := (by first | rfl | simp | (simp; omega))
      have hMn6 := hMn5.reM 0 hq6
      exact ce5 0 [] b2_12 A12_4 c12_4 A12_10 c12_10 [2, 1, 0, 3, 4, 5] (h := by exact trivial)
  · have hcl1_r2 := (hM_r2.cap 1 rfl).1
    have hcl2_r2 := (hM_r2.cap 2 rfl).1
    refine ct5 0 [] (fun (bx7 : Nat) (P7_0 : Option Addr) (p7_0 : Nat) (P7_1 : Option Addr) (p7_1 : Nat) => ([(7, Vp (bl bx7) (0))] : List (Nat × SV))) (fun (bx7 : Nat) (P7_0 : Option Addr) (p7_0 : Nat) (P7_1 : Option Addr) (p7_1 : Nat) => True) (fun (bx7 : Nat) (P7_0 : Option Addr) (p7_0 : Nat) (P7_1 : Option Addr) (p7_1 : Nat) => [[⟨.slice (bl bx7) 1 1, 65, 2, 1, [.slice (P7_0) (((kl).drop ((kl).length / 2 + 1)).length) (p7_0), .slice (P7_1) (((cl).drop ((kl).length / 2 + 1)).length) (p7_1)]⟩], [⟨.slice (P7_0) (((kl).drop ((kl).length / 2 + 1)).length) (p7_0), 3, 1, (((kl).drop ((kl).length / 2 + 1)).length), ((kl).drop ((kl).length / 2 + 1)).map I⟩], [⟨.slice (P7_1) (((cl).drop ((kl).length / 2 + 1)).length) (p7_1), 3, 1, (((cl).drop ((kl).length / 2 + 1)).length), ((cl).drop ((kl).length / 2 + 1)).map I⟩]]) [1, 2, 4, 5, 6] [0, 1, 2, 3, 4, 5] ?_ (fun bx7 P7_0 p7_0 P7_1 p7_1 σ w_r3 hI hM_r3 => ?_)
    · refine any 0 [] 15 [0, 1, 2, 3, 4, 5] fun w3a hM3a => ?_
      refine av [0, 1, 2] [5] 3 (a := by exact fun _ hw2 => kaddN (((kl).length / 2) + 1)) (b := ?_)
      refine av [] [] 4 (s := Vl (if kc = (((kl).length / 2) + 1) then KA else ofs (KA) ((((kl).length / 2) + 1) * 1)) (((kl).drop ((((kl).length / 2) + 1))).length) (kc - (((kl).length / 2) + 1))) (a := by exact fun w2 hw2 => cv (Ru.congr (v := .slice (if kc = (((kl).length / 2) + 1) then KA else ofs (KA) ((((kl).length / 2) + 1) * 1)) (((kl).length) - (((kl).length / 2) + 1)) (kc - (((kl).length / 2) + 1))) (v' := .slice (if kc = (((kl).length / 2) + 1) then KA else ofs (KA) ((((kl).length / 2) + 1) * 1)) (((kl).drop ((((kl).length / 2) + 1))).length) (kc - (((kl).length / 2) + 1))) (Ru.lsliceFrom (l := (((kl).length / 2) + 1)) Tryz.underlying30 el3 rfl rfl (by omega) (by omega)) (sl_congr (by first | rfl | (simp; done) | omega | (simp; omega)))) rfl) (b := ?_)
      refine av [6, 7, 8] [5] 9 (a := by exact fun _ hw2 => kaddN (((kl).length / 2) + 1)) (b := ?_)
      refine av [] [] 10 (s := Vl (if cc = (((kl).length / 2) + 1) then CA else ofs (CA) ((((kl).length / 2) + 1) * 1)) (((cl).drop ((((kl).length / 2) + 1))).length) (cc - (((kl).length / 2) + 1))) (a := by exact fun w2 hw2 => cv (Ru.congr (v := .slice (if cc = (((kl).length / 2) + 1) then CA else ofs (CA) ((((kl).length / 2) + 1) * 1)) (((cl).length) - (((kl).length / 2) + 1)) (cc - (((kl).length / 2) + 1))) (v' := .slice (if cc = (((kl).length / 2) + 1) then CA else ofs (CA) ((((kl).length / 2) + 1) * 1)) (((cl).drop ((((kl).length / 2) + 1))).length) (cc - (((kl).length / 2) + 1))) (Ru.lsliceFrom (l := (((kl).length / 2) + 1)) Tryz.underlying30 el3 rfl rfl (by omega) (by omega)) (sl_congr (by first | rfl | (simp; done) | omega | (simp; omega)))) rfl) (b := ?_)
      refine aT [] [] 5 13 ?_ ?_
      · refine cq 0 [] (b := scopyInts_fn _ _ _ w3a (rd_drop1 (k := (((kl).length / 2) + 1)) (c := kc) (hRK.at hM3a) q2 q2) q0) (c := ?_)
        rintro _ w3_5 ⟨A13_5, c13_5, rfl, hR3_5⟩
        have hM3_5 := hM3a.cl 0 hR3_5
        have hcr3_5_0 := (hM3_5.cap 0 rfl).1
        refine os 0 [] [1, 2, 3, 4, 5, 6] ?_
        refine aT [] [] 11 13 ?_ ?_
        · refine cq 0 [] (b := scopyInts_fn _ _ _ w3_5 (rd_drop1 (k := (((kl).length / 2) + 1)) (c := cc) (hRC.at hM3_5) q2 q2) q0) (c := ?_)
          rintro _ w3_11 ⟨A13_11, c13_11, rfl, hR3_11⟩
          have hM3_11 := hM3_5.cl 0 hR3_11
          have hcr3_11_0 := (hM3_11.cap 0 rfl).1
          refine os 0 [] [2, 3, 4, 5, 6, 7] ?_
          refine aO [12] [] 13 ?_
          refine Al 0 [] fun w3_13 b3_13 hb3_13 hM3_13 => ?_
          refine os 0 [] [3, 4, 5, 6, 7, 8] ?_
          refine aO [] [] 14 ?_
          refine Sb 0 [] 0 fun w3_14 hM3_14 => ?_
          refine os 0 [] [3, 4, 5, 6, 7, 8] ?_
          refine an [] [] ?_
          have hq7 : (((kl).drop ((((kl).length / 2) + 1))) : List Int) = (kl).drop ((kl).length / 2 + 1) := (by first | rfl | simp | (simp; omega))
          have hMn7 := hM3_14.reM 2 hq7
          have hq8 : (((cl).drop ((((kl).length / 2) + 1))) : List Int) = (cl).drop ((kl).length / 2 + 1) := (by first | rfl | simp | (simp; omega))
          have hMn8 := hMn7.reM 1 hq8
          exact ce5 0 [] b3_13 A13_5 c13_5 A13_11 c13_11 [0, 2, 1, 3, 4, 5, 6, 7, 8] (h := by exact trivial)
        · refine Al 0 [] fun w3_13 b3_13 hb3_13 hM3_13 => ?_
          refine os 0 [] [2, 3, 4, 5, 6, 7] ?_
          refine aO [] [] 11 ?_
          refine cq 0 [] (b := scopyInts_fn _ _ _ w3_13 (rd_drop1 (k := (((kl).length / 2) + 1)) (c := cc) (hRC.at hM3_13) q2 q2) q0) (c := ?_)
          rintro _ w3_11 ⟨A13_11, c13_11, rfl, hR3_11⟩
          have hM3_11 := hM3_13.cl 0 hR3_11
          have hcr3_11_0 := (hM3_11.cap 0 rfl).1
          refine os 0 [] [3, 4, 5, 6, 7, 8] ?_
          refine aO [12] [] 14 ?_
          refine Sb 0 [] 1 fun w3_14 hM3_14 => ?_
          refine os 0 [] [3, 4, 5, 6, 7, 8] ?_
          refine an [] [] ?_
          have hq9 : (((kl).drop ((((kl).length / 2) + 1))) : List Int) = (kl).drop ((kl).length / 2 + 1) := (by first | rfl | simp | (simp; omega))
          have hMn9 := hM3_14.reM 2 hq9
          have hq10 : (((cl).drop ((((kl).length / 2) + 1))) : List Int) = (cl).drop ((kl).length / 2 + 1) := (by first | rfl | simp | (simp; omega))
          have hMn10 := hMn9.reM 0 hq10
          exact ce5 0 [] b3_13 A13_5 c13_5 A13_11 c13_11 [1, 2, 0, 3, 4, 5, 6, 7, 8] (h := by exact trivial)
      · refine Al 0 [] fun w3_13 b3_13 hb3_13 hM3_13 => ?_
        refine os 0 [] [1, 2, 3, 4, 5, 6] ?_
        refine aO [] [] 5 ?_
        refine cq 0 [] (b := scopyInts_fn _ _ _ w3_13 (rd_drop1 (k := (((kl).length / 2) + 1)) (c := kc) (hRK.at hM3_13) q2 q2) q0) (c := ?_)
        rintro _ w3_5 ⟨A13_5, c13_5, rfl, hR3_5⟩
        have hM3_5 := hM3_13.cl 0 hR3_5
        have hcr3_5_0 := (hM3_5.cap 0 rfl).1
        refine os 0 [] [2, 3, 4, 5, 6, 7] ?_
        refine aO [] [] 11 ?_
        refine cq 0 [] (b := scopyInts_fn _ _ _ w3_5 (rd_drop1 (k := (((kl).length / 2) + 1)) (c := cc) (hRC.at hM3_5) q2 q2) q0) (c := ?_)
        rintro _ w3_11 ⟨A13_11, c13_11, rfl, hR3_11⟩
        have hM3_11 := hM3_5.cl 0 hR3_11
        have hcr3_11_0 := (hM3_11.cap 0 rfl).1
        refine os 0 [] [3, 4, 5, 6, 7, 8] ?_
        refine aO [12] [] 14 ?_
        refine Sb 0 [] 2 fun w3_14 hM3_14 => ?_
        refine os 0 [] [3, 4, 5, 6, 7, 8] ?_
        refine an [] [] ?_
        have hq11 : (((kl).drop ((((kl).length / 2) + 1))) : List Int) = (kl).drop ((kl).length / 2 + 1) := (by first | rfl | simp | (simp; omega))
        have hMn11 := hM3_14.reM 1 hq11
        have hq12 : (((cl).drop ((((kl).length / 2) + 1))) : List Int) = (cl).drop ((kl).length / 2 + 1) := (by first | rfl | simp | (simp; omega))
        have hMn12 := hMn11.reM 0 hq12
        exact ce5 0 [] b3_13 A13_5 c13_5 A13_11 c13_11 [2, 1, 0, 3, 4, 5, 6, 7, 8] (h := by exact trivial)
    · have hcl1_r3 := (hM_r3.cap 1 rfl).1
      have hcl2_r3 := (hM_r3.cap 2 rfl).1
      have hcl4_r3 := (hM_r3.cap 4 rfl).1
      have hcl5_r3 := (hM_r3.cap 5 rfl).1
      have hq2 : (kl).length / 2 < (kl).length := by omega
      refine any 1 [] 10 [0, 1, 2, 3, 4, 5, 8] fun w4a hM4a => ?_
      have hx4_4 : ((kl).length / 2) < (kl).length := (by omega)
      refine av [0, 1, 2, 3] [3, 6] 4 (a := by exact fun _ hw2 => kixM hx4_4 (hRK.at hM4a) (h0 := by omega)) (b := ?_)
      refine av [] [] 5 (s := Vi ((kl).getD ((kl).length / 2) 0)) (a := by exact fun w2 hw2 => cv (Ru.congr (v := I ((kl)[((kl).length / 2)]'hx4_4)) (v' := I ((kl).getD ((kl).length / 2) 0)) (Ru.load1 el3 rfl (ldm (hRK.at hw2) hx4_4)) (I_congr (getD_in hx4_4).symm)) rfl) (b := ?_)
      refine aO [6] [0] 7 ?_
      refine Sb 0 [] 7 fun w4_7 hM4_7 => ?_
      refine os 0 [] [0, 1, 2, 3, 4, 5, 8] ?_
      refine aO [8] [] 9 ?_
      refine Sb 0 [] 6 fun w4_9 hM4_9 => ?_
      refine os 0 [] [0, 1, 2, 3, 4, 5, 8] ?_
      refine an [] [] ?_
      refine EG 1 [] ?_
      refine PG (vs := [.agg #[.slice (P6_0) (((kl).take ((kl).length / 2)).length) (p6_0), .slice (P6_1) (((cl).take ((kl).length / 2 + 1)).length) (p6_1)], I ((kl).getD ((kl).length / 2) 0), .agg #[.slice (P7_0) (((kl).drop ((kl).length / 2 + 1)).length) (p7_0), .slice (P7_1) (((cl).drop ((kl).length / 2 + 1)).length) (p7_1)]]) (ResV.cell (l := [.slice (P6_0) (((kl).take ((kl).length / 2)).length) (p6_0), .slice (P6_1) (((cl).take ((kl).length / 2 + 1)).length) (p6_1)]) rfl (mem_blk (i := 7) (j := 0) hM4_9 rfl rfl) el65 rfl (ResV.tmp rfl (ResV.cell (l := [.slice (P7_0) (((kl).drop ((kl).length / 2 + 1)).length) (p7_0), .slice (P7_1) (((cl).drop ((kl).length / 2 + 1)).length) (p7_1)]) rfl (mem_blk (i := 6) (j := 0) hM4_9 rfl rfl) el65 rfl ResV.nil))) ?_
      exact ⟨P6_0, p6_0, P6_1, p6_1, P7_0, p7_0, P7_1, p7_1, (by first | rfl | exact sl_congr (by first | omega | (simp; done) | (simp; omega)) | (simp; done)), (hM4_9.pk [4, 5, 1, 2])⟩
set_option maxHeartbeats 2000000 in
theorem addKid_fn (KA : Option Addr) (kc : Nat) (kl : List Int) (CA : Option Addr) (cc : Nat) (cl : List Int) (pl : Int) (key : Int) (kid : Int) (w : World) (hRK : Rd w KA ((kl).map I)) (hRC : Rd w CA ((cl).map I)) (hcp : (kl).length ≤ kc ∧ (cl).length ≤ cc) (h0 : 0 ≤ pl ∧ pl ≤ ((kl).length : Int)) (h1 : (kl).length ≤ 1000) (h2 : (cl).length = (kl).length + 1) :
    Does Tryz.prog 131 [.agg #[.slice (KA) ((kl).length) (kc), .slice (CA) ((cl).length) (cc)], I (pl), I (key), I (kid)] w (fun v w1 => ∃ (A1 : Option Addr) (c1 : Nat) (A2 : Option Addr) (c2 : Nat), v = .agg #[.slice (A1) (((kl).take (pl).toNat ++ [key] ++ (kl).drop (pl).toNat).length) (c1), .slice (A2) (((cl).take ((pl).toNat + 1) ++ [kid] ++ (cl).drop ((pl).toNat + 1)).length) (c2)] ∧ Mem w w1 [] [[⟨.slice (A1) (((kl).take (pl).toNat ++ [key] ++ (kl).drop (pl).toNat).length) (c1), 3, 1, (((kl).take (pl).toNat ++ [key] ++ (kl).drop (pl).toNat).length), ((kl).take (pl).toNat ++ [key] ++ (kl).drop (pl).toNat).map I⟩], [⟨.slice (A2) (((cl).take ((pl).toNat + 1) ++ [kid] ++ (cl).drop ((pl).toNat + 1)).length) (c2), 3, 1, (((cl).take ((pl).toNat + 1) ++ [kid] ++ (cl).drop ((pl).toNat + 1)).length), ((cl).take ((pl).toNat + 1) ++ [kid] ++ (cl).drop ((pl).toNat + 1)).map I⟩]]) := by
  have hM : Mem w w [] [] := Mem.refl
  refine Does.nG (rs := [.cell 8 65]) Tryz.func131 rfl Tryz.results131 Tryz.ntmps131 rfl ?_
  refine Bx 2 [] fun w0_0 b0_0 hb0_0 hM0_0 => ?_
  refine Al 0 [] fun w0_1 b0_1 hb0_1 hM0_1 => ?_
  have hpe : (pl + 1).toNat = (pl).toNat + 1 := by omega
  refine ov 6 [1] (s := Vl (KA) (((kl).take ((pl).toNat)).length) (kc)) (a := by exact cv (Ru.congr (v := .slice (KA) ((pl).toNat) (kc)) (v' := .slice (KA) (((kl).take ((pl).toNat)).length) (kc)) (Ru.lsliceTo (h := (pl).toNat) Tryz.underlying30 el3 rfl rfl (by omega) (by omega)) (sl_congr (by first | rfl | (simp; done) | omega | (simp; omega)))) rfl) (b := ?_)
  refine cq 0 [] (b := scopyInts_fn _ _ _ w0_1 (rd_take1 (hRK.at hM0_1)) q0) (c := ?_)
  rintro _ w1_4 ⟨A11_4, c11_4, rfl, hR1_4⟩
  have hM1_4 := hM0_1.cl 0 hR1_4
  have hcr1_4_0 := (hM1_4.cap 0 rfl).1
  refine Lt 1 [] (([key]).map I) (fun w1_6 b1_6 hb1_6 hM1_6 => ?_)
  refine aM 0 [] 1 (hM1_6.rd 0 rfl) (fun w1_7 A1_7 c1_7 hc1_7 hM1_7 => ?_)
  refine ov 7 [3] (a := kadd) (b := ?_)
  refine ov 0 [] (s := Vl (CA) (((cl).take (((pl + 1)).toNat)).length) (cc)) (a := by exact cv (Ru.congr (v := .slice (CA) (((pl + 1)).toNat) (cc)) (v' := .slice (CA) (((cl).take (((pl + 1)).toNat)).length) (cc)) (Ru.lsliceTo (h := ((pl + 1)).toNat) Tryz.underlying30 el3 rfl rfl (by omega) (by omega)) (sl_congr (by first | rfl | (simp; done) | omega | (simp; omega)))) rfl) (b := ?_)
  refine cq 0 [] (b := scopyInts_fn _ _ _ w1_7 (rd_take1 (hRC.at hM1_7)) q0) (c := ?_)
  rintro _ w2_5 ⟨A12_5, c12_5, rfl, hR2_5⟩
  have hM2_5 := hM1_7.cl 0 hR2_5
  have hcr2_5_0 := (hM2_5.cap 0 rfl).1
  refine Lt 1 [] (([kid]).map I) (fun w2_7 b2_7 hb2_7 hM2_7 => ?_)
  refine aM 0 [] 1 (hM2_7.rd 0 rfl) (fun w2_8 A2_8 c2_8 hc2_8 hM2_8 => ?_)
  refine any 3 [] 15 [0, 2, 5] fun w3a hM3a => ?_
  refine av [0, 1, 2, 3] [2] 4 (s := Vl (if kc = (pl).toNat then KA else ofs (KA) (((pl).toNat) * 1)) (((kl).drop ((pl).toNat)).length) (kc - ((pl).toNat))) (a := by exact fun w2 hw2 => cv (Ru.congr (v := .slice (if kc = (pl).toNat then KA else ofs (KA) (((pl).toNat) * 1)) (((kl).length) - ((pl).toNat)) (kc - ((pl).toNat))) (v' := .slice (if kc = (pl).toNat then KA else ofs (KA) (((pl).toNat) * 1)) (((kl).drop ((pl).toNat)).length) (kc - ((pl).toNat))) (Ru.lsliceFrom (l := (pl).toNat) Tryz.underlying30 el3 rfl rfl (by omega) (by omega)) (sl_congr (by first | rfl | (simp; done) | omega | (simp; omega)))) rfl) (b := ?_)
  refine av [6, 7, 8, 9] [2] 10 (a := by exact fun _ hw2 => kadd) (b := ?_)
  refine av [] [] 11 (s := Vl (if cc = ((pl + 1)).toNat then CA else ofs (CA) ((((pl + 1)).toNat) * 1)) (((cl).drop (((pl + 1)).toNat)).length) (cc - (((pl + 1)).toNat))) (a := by exact fun w2 hw2 => cv (Ru.congr (v := .slice (if cc = ((pl + 1)).toNat then CA else ofs (CA) ((((pl + 1)).toNat) * 1)) (((cl).length) - (((pl + 1)).toNat)) (cc - (((pl + 1)).toNat))) (v' := .slice (if cc = ((pl + 1)).toNat then CA else ofs (CA) ((((pl + 1)).toNat) * 1)) (((cl).drop (((pl + 1)).toNat)).length) (cc - (((pl + 1)).toNat))) (Ru.lsliceFrom (l := ((pl + 1)).toNat) Tryz.underlying30 el3 rfl rfl (by omega) (by omega)) (sl_congr (by first | rfl | (simp; done) | omega | (simp; omega)))) rfl) (b := ?_)
  refine aO [] [] 5 ?_
  refine aM 0 [] 3 (rd_drop1 (k := (pl).toNat) (c := kc) (hRK.at hM3a) q2 q2) (fun w3_5 A3_5 c3_5 hc3_5 hM3_5 => ?_)
  refine os 0 [] [0, 2, 5] ?_
  refine aO [] [] 12 ?_
  refine aM 0 [] 1 (rd_drop1 (k := ((pl + 1)).toNat) (c := cc) (hRC.at hM3_5) q2 q2) (fun w3_12 A3_12 c3_12 hc3_12 hM3_12 => ?_)
  refine os 0 [] [0, 2, 5] ?_
  refine aO [13] [] 14 ?_
  refine Sb 0 [] 4 fun w3_14 hM3_14 => ?_
  refine os 0 [] [0, 2, 5] ?_
  refine an [] [] ?_
  refine EG 1 [] ?_
  refine PG (vs := [.agg #[.slice (A3_5) ((((kl).take ((pl).toNat)) ++ [key] ++ (kl).drop ((pl).toNat)).length) (c3_5), .slice (A3_12) ((((cl).take (((pl + 1)).toNat)) ++ [kid] ++ (cl).drop (((pl + 1)).toNat)).length) (c3_12)]]) (ResV.cell (l := [.slice (A3_5) ((((kl).take ((pl).toNat)) ++ [key] ++ (kl).drop ((pl).toNat)).length) (c3_5), .slice (A3_12) ((((cl).take (((pl + 1)).toNat)) ++ [kid] ++ (cl).drop (((pl + 1)).toNat)).length) (c3_12)]) rfl (mem_blk (i := 4) (j := 0) hM3_14 rfl rfl) el65 rfl ResV.nil) ?_
  have hq1 : (((kl).take ((pl).toNat)) ++ [key] ++ (kl).drop ((pl).toNat) : List Int) = (kl).take (pl).toNat ++ [key] ++ (kl).drop (pl).toNat := (by first | rfl | simp | (simp; omega))
  have hMn1 := hM3_14.reM 3 hq1
  have hq2 : (((cl).take (((pl + 1)).toNat)) ++ [kid] ++ (cl).drop (((pl + 1)).toNat) : List Int) = (cl).take ((pl).toNat + 1) ++ [kid] ++ (cl).drop ((pl).toNat + 1) := (by rw [hpe])
  have hMn2 := hMn1.reM 1 hq2
  exact ⟨A3_5, c3_5, A3_12, c3_12, (by rw [hpe]; first | rfl | (simp; done)), (hMn2.pk [3, 1])⟩
end Go.Proofs.YtemejgglbhjodaaGreatDoor
end
