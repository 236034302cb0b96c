/- Own layer, part 5: plain theorems on the walk of this program's functions and on what they compute; no conditions. -/
import Derived.Test.YtemejgglbhjodaaGreatDoorP3
import Derived.Handed
import Derived.Shelf.Vars
import Derived.Stop.LaidErr
import Derived.MakeChecks
import Derived.Lib.LaidTab
set_option linter.unusedVariables false
set_option linter.unusedSimpArgs false
section
namespace Go.Proofs.YtemejgglbhjodaaGreatDoor
open Go.Px
theorem filledRight_fn (b : Nat) (at0 : Int) (T : TreeL) (s : List Int) (ld : Int) (w : World) (hNT : TrN w T) (hOT : TrO T [some b]) (hM : Mem w w [some b] [[⟨.slice (bl b) 1 1, 77, 19, 1, ckC T s ld⟩]]) (hs : SzT T) (hat : 0 ≤ at0 ∧ at0 < ((T).l.length : Int)) :
    Does Tryz.prog 93 [.pointer (ofs (bl b) (0)), I (at0)] w (fun v w1 => v = .bool (frB (T).t at0) ∧ Mem w w1 [some b] [[⟨.slice (bl b) 1 1, 77, 19, 1, ckC T s ld⟩]]) := by
  refine Does.n1 Tryz.func93 rfl Tryz.results93 Tryz.ntmps93 rfl ?_
  refine ov 10 [] (s := Vl ((T).A) ((T).l.length) ((T).cp)) (a := by exact cv (Ru.load1 el23 rfl ((hM.rd 0 rfl).ld (k := 1) rfl)) rfl) (b := ?_)
  have hx1_6 : (at0).toNat < ((T).l).length := (by first | omega | (simp; omega))
  refine ov 1 [] (a := kixF hx1_6 (hNT.atR hM hOT).1) (b := ?_)
  refine ov 0 [] (a := kldN hx1_6 (hNT.atR hM hOT).1) (b := ?_)
  have hgp : gP (T).t at0 = (((T).l[(at0).toNat]'hx1_6)).t := gP_at rfl hx1_6
  have hsz := hs.at hx1_6
  refine Al 0 [] fun w1_8 b1_8 hb1_8 hM1_8 => ?_
  refine Sb 0 [] 0 fun w1_9 hM1_9 => ?_
  refine pp 9 [0] 20 (fun g20 => ?_) (fun g20 => ?_)
  · refine E1 12 [] (.bool (false)) ?_
    exact ⟨(by rw [frB_L, hgp]; first | rw [fr_n1 (by show ¬ ((((T).l[(at0).toNat]'hx1_6)).k.l).length ≤ 4; omega)] | rw [fr_n2 (show validK (((T).l[(at0).toNat]'hx1_6)).t.keys = false from (show validK ((((T).l[(at0).toNat]'hx1_6)).k.l) = false from (by simpa using c25)))]), (hM1_9.pk [1])⟩
  refine cq 2 [0] (vs := [.slice ((((T).l)[(at0).toNat]'hx1_6).k.A) (((((T).l)[(at0).toNat]'hx1_6).k.l).length) ((((T).l)[(at0).toNat]'hx1_6).k.cp)]) (hvs := (by first | rfl | (rw [show ((((T).l)[(at0).toNat]'hx1_6).k.l).length = (((T).l)[(at0).toNat]'hx1_6).k.l.length from (by first | rfl | (simp; done) | omega | (simp; omega))]; rfl))) (b := ValidKeys_fn ((((T).l)[(at0).toNat]'hx1_6).k.A) ((((T).l)[(at0).toNat]'hx1_6).k.cp) ((((T).l)[(at0).toNat]'hx1_6).k.l) w1_9 (((hNT.atR hM1_9 hOT)).2.get hx1_6).1 qo) (c := ?_)
  rintro _ w2_7 ⟨rfl, hR2_7⟩
  have hM2_7 := hM1_9.cl 0 hR2_7
  refine cn 3 [] (fun c25 => ?_) (fun c25 => ?_)
  · refine E1 5 [] (.bool (false)) ?_
    exact ⟨(by rw [frB_L, hgp]; first | rw [fr_n1 (by show ¬ ((((T).l[(at0).toNat]'hx1_6)).k.l).length ≤ 4; omega)] | rw [fr_n2 (show validK (((T).l[(at0).toNat]'hx1_6)).t.keys = false from (show validK ((((T).l[(at0).toNat]'hx1_6)).k.l) = false from (by simpa using c25)))]), (hM2_7.pk [1])⟩
  have hvk : validK (((T).l[(at0).toNat]'hx1_6)).k.l = true := by simpa using c25
  refine ov 9 [] (s := Vi ((T).root)) (a := by exact cv (Ru.load1 el3 rfl ((hM2_7.rd 1 rfl).ld (k := 0) rfl)) rfl) (b := ?_)
  refine pp 2 [] 33 (fun g33 => ?_) (fun g33 => ?_)
  · refine cd 6 [0] (fun c38 => ?_) (fun c38 => ?_)
    · refine E1 5 [] (.bool (false)) ?_
      exact ⟨(by rw [frB_L, hgp, fr_n3 (root := (T).t.root) g33 (by show ¬ 2 ≤ ((((T).l[(at0).toNat]'hx1_6)).k.l).length; omega)]), (hM2_7.pk [1])⟩
    have hr : at0 = (T).t.root ∨ 2 ≤ (((T).l[(at0).toNat]'hx1_6)).t.keys.length := by first | (left; exact Classical.not_not.1 g33) | (left; simpa using g33) | (right; show 2 ≤ ((((T).l[(at0).toNat]'hx1_6)).k.l).length; omega)
    refine cd 9 [0] (fun c42 => ?_) (fun c42 => ?_)
    · refine pp 7 [0] 47 (fun g47 => ?_) (fun g47 => ?_)
      · refine pp 6 [0] 53 (fun g53 => ?_) (fun g53 => ?_)
        · refine ov 6 [0, 0] (a := kaddN ((((T).l)[(at0).toNat]'hx1_6).k.l.length + 1)) (b := ?_)
          refine E1 5 [] (.bool (decide ((((((T).l)[(at0).toNat]'hx1_6).c.l.length : Nat) : Int) = ((((((T).l)[(at0).toNat]'hx1_6).k.l.length + 1) : Nat) : Int)))) ?_
          exact ⟨(by rw [frB_L, hgp, fr_yi' (show (((T).l[(at0).toNat]'hx1_6)).t.keys.length ≤ 4 from (by show ((((T).l[(at0).toNat]'hx1_6)).k.l).length ≤ 4; omega)) (show validK (((T).l[(at0).toNat]'hx1_6)).t.keys = true from hvk) hr (by show 0 < (((T).l[(at0).toNat]'hx1_6)).c.l.length; omega) (vl := ((((T).l[(at0).toNat]'hx1_6)).v.l).length) (kl := ((((T).l[(at0).toNat]'hx1_6)).k.l).length) (cl := (((T).l[(at0).toNat]'hx1_6)).c.l.length) rfl rfl rfl]; refine congrArg Value.bool ?_; rw [Bool.eq_iff_iff]; simp only [Bool.and_eq_true, decide_eq_true_eq, reduceCtorEq, true_iff, false_iff]; omega), (hM2_7.pk [1])⟩
        refine E1 12 [] (.bool (false)) ?_
        exact ⟨(by rw [frB_L, hgp, fr_yi' (show (((T).l[(at0).toNat]'hx1_6)).t.keys.length ≤ 4 from (by show ((((T).l[(at0).toNat]'hx1_6)).k.l).length ≤ 4; omega)) (show validK (((T).l[(at0).toNat]'hx1_6)).t.keys = true from hvk) hr (by show 0 < (((T).l[(at0).toNat]'hx1_6)).c.l.length; omega) (vl := ((((T).l[(at0).toNat]'hx1_6)).v.l).length) (kl := ((((T).l[(at0).toNat]'hx1_6)).k.l).length) (cl := (((T).l[(at0).toNat]'hx1_6)).c.l.length) rfl rfl rfl]; refine congrArg Value.bool ?_; rw [Bool.eq_iff_iff]; simp only [Bool.and_eq_true, decide_eq_true_eq, reduceCtorEq, true_iff, false_iff]; omega), (hM2_7.pk [1])⟩
      refine E1 18 [] (.bool (false)) ?_
      exact ⟨(by rw [frB_L, hgp, fr_yi' (show (((T).l[(at0).toNat]'hx1_6)).t.keys.length ≤ 4 from (by show ((((T).l[(at0).toNat]'hx1_6)).k.l).length ≤ 4; omega)) (show validK (((T).l[(at0).toNat]'hx1_6)).t.keys = true from hvk) hr (by show 0 < (((T).l[(at0).toNat]'hx1_6)).c.l.length; omega) (vl := ((((T).l[(at0).toNat]'hx1_6)).v.l).length) (kl := ((((T).l[(at0).toNat]'hx1_6)).k.l).length) (cl := (((T).l[(at0).toNat]'hx1_6)).c.l.length) rfl rfl rfl]; refine congrArg Value.bool ?_; rw [Bool.eq_iff_iff]; simp only [Bool.and_eq_true, decide_eq_true_eq, reduceCtorEq, true_iff, false_iff]; omega), (hM2_7.pk [1])⟩
    refine cd 12 [0, 0] (fun c69 => ?_) (fun c69 => ?_)
    · refine E1 5 [] (.bool (false)) ?_
      exact ⟨(by rw [frB_L, hgp, fr_yl' (show (((T).l[(at0).toNat]'hx1_6)).t.keys.length ≤ 4 from (by show ((((T).l[(at0).toNat]'hx1_6)).k.l).length ≤ 4; omega)) (show validK (((T).l[(at0).toNat]'hx1_6)).t.keys = true from hvk) hr (by show (((T).l[(at0).toNat]'hx1_6)).c.l.length = 0; omega) (V := (((T).l[(at0).toNat]'hx1_6)).v.l) (kl := ((((T).l[(at0).toNat]'hx1_6)).k.l).length) rfl rfl]; refine congrArg Value.bool (Eq.symm ?_); rw [Bool.and_eq_false_iff]; left; exact decide_eq_false (by omega)), (hM2_7.pk [1])⟩
    refine lp1 10 [0] (fun (k : Nat) => ([(73, Vi (((k : Nat) : Int)))] : List (Nat × SV))) (fun (k : Nat) => (k ≤ ((((T).l[(at0).toNat]'hx1_6)).v.l).length) ∧ ((((((T).l[(at0).toNat]'hx1_6)).v.l).take k).all isValB = true)) (fun (k : Nat) => []) (fun (k : Nat) => ((((T).l[(at0).toNat]'hx1_6)).v.l).length - k) [71, 72] [] [0, 1] 0 (fun k σ w_l11 hI hM_l11 => ?_) (h0 := ⟨(Nat.zero_le _), (by (try dsimp only); simp)⟩)
    obtain ⟨hi0_l11, hi1_l11⟩ := hI
    refine cd 5 [] (fun c74 => ?_) (fun c74 => ?_)
    · have hx12_0 : k < ((((T).l)[(at0).toNat]'hx1_6).v.l).length := (by first | omega | (simp; omega))
      refine ov 5 [] (a := kixM hx12_0 (((hNT.atR hM_l11 hOT)).2.get hx1_6).2.2) (b := ?_)
      refine ov 0 [] (a := kldM hx12_0 (((hNT.atR hM_l11 hOT)).2.get hx1_6).2.2) (b := ?_)
      refine cp 5 [] (b := isValue_fn _ w_l11 ) (c := fun w13_1 hM13_1 => ?_)
      refine cn 2 [] (fun c79 => ?_) (fun c79 => ?_)
      · refine E1 5 [] (.bool (false)) ?_
        exact ⟨(by rw [frB_L, hgp, fr_yl' (show (((T).l[(at0).toNat]'hx1_6)).t.keys.length ≤ 4 from (by show ((((T).l[(at0).toNat]'hx1_6)).k.l).length ≤ 4; omega)) (show validK (((T).l[(at0).toNat]'hx1_6)).t.keys = true from hvk) hr (by show (((T).l[(at0).toNat]'hx1_6)).c.l.length = 0; omega) (V := (((T).l[(at0).toNat]'hx1_6)).v.l) (kl := ((((T).l[(at0).toNat]'hx1_6)).k.l).length) rfl rfl]; refine congrArg Value.bool (Eq.symm ?_); rw [Bool.and_eq_false_iff]; right; exact all_no hx12_0 (by simpa using c79)), (hM13_1.pk [1])⟩
      refine ov 2 [] (a := kaddN (k + 1)) (b := ?_)
      exact le1 2 [] (k + 1) [0, 1] (h := by exact ⟨(by (try dsimp only); omega), (all_keep hx12_0 hi1_l11 (by simpa using c79))⟩)
    refine E1 6 [] (.bool (true)) ?_
    exact ⟨(by rw [frB_L, hgp, fr_yl' (show (((T).l[(at0).toNat]'hx1_6)).t.keys.length ≤ 4 from (by show ((((T).l[(at0).toNat]'hx1_6)).k.l).length ≤ 4; omega)) (show validK (((T).l[(at0).toNat]'hx1_6)).t.keys = true from hvk) hr (by show (((T).l[(at0).toNat]'hx1_6)).c.l.length = 0; omega) (V := (((T).l[(at0).toNat]'hx1_6)).v.l) (kl := ((((T).l[(at0).toNat]'hx1_6)).k.l).length) rfl rfl]; refine congrArg Value.bool (Eq.symm ?_); rw [Bool.and_eq_true]; exact ⟨decide_eq_true (by omega), all_done (by omega) hi1_l11⟩), (hM_l11.pk [1])⟩
  have hr : at0 = (T).t.root ∨ 2 ≤ (((T).l[(at0).toNat]'hx1_6)).t.keys.length := by first | (left; exact Classical.not_not.1 g33) | (left; simpa using g33) | (right; show 2 ≤ ((((T).l[(at0).toNat]'hx1_6)).k.l).length; omega)
  refine cd 16 [0] (fun c42 => ?_) (fun c42 => ?_)
  · refine pp 7 [0] 47 (fun g47 => ?_) (fun g47 => ?_)
    · refine pp 6 [0] 53 (fun g53 => ?_) (fun g53 => ?_)
      · refine ov 6 [0, 0] (a := kaddN ((((T).l)[(at0).toNat]'hx1_6).k.l.length + 1)) (b := ?_)
        refine E1 5 [] (.bool (decide ((((((T).l)[(at0).toNat]'hx1_6).c.l.length : Nat) : Int) = ((((((T).l)[(at0).toNat]'hx1_6).k.l.length + 1) : Nat) : Int)))) ?_
        exact ⟨(by rw [frB_L, hgp, fr_yi' (show (((T).l[(at0).toNat]'hx1_6)).t.keys.length ≤ 4 from (by show ((((T).l[(at0).toNat]'hx1_6)).k.l).length ≤ 4; omega)) (show validK (((T).l[(at0).toNat]'hx1_6)).t.keys = true from hvk) hr (by show 0 < (((T).l[(at0).toNat]'hx1_6)).c.l.length; omega) (vl := ((((T).l[(at0).toNat]'hx1_6)).v.l).length) (kl := ((((T).l[(at0).toNat]'hx1_6)).k.l).length) (cl := (((T).l[(at0).toNat]'hx1_6)).c.l.length) rfl rfl rfl]; refine congrArg Value.bool ?_; rw [Bool.eq_iff_iff]; simp only [Bool.and_eq_true, decide_eq_true_eq, reduceCtorEq, true_iff, false_iff]; omega), (hM2_7.pk [1])⟩
      refine E1 12 [] (.bool (false)) ?_
      exact ⟨(by rw [frB_L, hgp, fr_yi' (show (((T).l[(at0).toNat]'hx1_6)).t.keys.length ≤ 4 from (by show ((((T).l[(at0).toNat]'hx1_6)).k.l).length ≤ 4; omega)) (show validK (((T).l[(at0).toNat]'hx1_6)).t.keys = true from hvk) hr (by show 0 < (((T).l[(at0).toNat]'hx1_6)).c.l.length; omega) (vl := ((((T).l[(at0).toNat]'hx1_6)).v.l).length) (kl := ((((T).l[(at0).toNat]'hx1_6)).k.l).length) (cl := (((T).l[(at0).toNat]'hx1_6)).c.l.length) rfl rfl rfl]; refine congrArg Value.bool ?_; rw [Bool.eq_iff_iff]; simp only [Bool.and_eq_true, decide_eq_true_eq, reduceCtorEq, true_iff, false_iff]; omega), (hM2_7.pk [1])⟩
    refine E1 18 [] (.bool (false)) ?_
    exact ⟨(by rw [frB_L, hgp, fr_yi' (show (((T).l[(at0).toNat]'hx1_6)).t.keys.length ≤ 4 from (by show ((((T).l[(at0).toNat]'hx1_6)).k.l).length ≤ 4; omega)) (show validK (((T).l[(at0).toNat]'hx1_6)).t.keys = true from hvk) hr (by show 0 < (((T).l[(at0).toNat]'hx1_6)).c.l.length; omega) (vl := ((((T).l[(at0).toNat]'hx1_6)).v.l).length) (kl := ((((T).l[(at0).toNat]'hx1_6)).k.l).length) (cl := (((T).l[(at0).toNat]'hx1_6)).c.l.length) rfl rfl rfl]; refine congrArg Value.bool ?_; rw [Bool.eq_iff_iff]; simp only [Bool.and_eq_true, decide_eq_true_eq, reduceCtorEq, true_iff, false_iff]; omega), (hM2_7.pk [1])⟩
  refine cd 12 [0, 0] (fun c69 => ?_) (fun c69 => ?_)
  · refine E1 5 [] (.bool (false)) ?_
    exact ⟨(by rw [frB_L, hgp, fr_yl' (show (((T).l[(at0).toNat]'hx1_6)).t.keys.length ≤ 4 from (by show ((((T).l[(at0).toNat]'hx1_6)).k.l).length ≤ 4; omega)) (show validK (((T).l[(at0).toNat]'hx1_6)).t.keys = true from hvk) hr (by show (((T).l[(at0).toNat]'hx1_6)).c.l.length = 0; omega) (V := (((T).l[(at0).toNat]'hx1_6)).v.l) (kl := ((((T).l[(at0).toNat]'hx1_6)).k.l).length) rfl rfl]; refine congrArg Value.bool (Eq.symm ?_); rw [Bool.and_eq_false_iff]; left; exact decide_eq_false (by omega)), (hM2_7.pk [1])⟩
  refine lp1 10 [0] (fun (k : Nat) => ([(73, Vi (((k : Nat) : Int)))] : List (Nat × SV))) (fun (k : Nat) => (k ≤ ((((T).l[(at0).toNat]'hx1_6)).v.l).length) ∧ ((((((T).l[(at0).toNat]'hx1_6)).v.l).take k).all isValB = true)) (fun (k : Nat) => []) (fun (k : Nat) => ((((T).l[(at0).toNat]'hx1_6)).v.l).length - k) [71, 72] [] [0, 1] 0 (fun k σ w_l11 hI hM_l11 => ?_) (h0 := ⟨(Nat.zero_le _), (by (try dsimp only); simp)⟩)
  obtain ⟨hi0_l11, hi1_l11⟩ := hI
  refine cd 5 [] (fun c74 => ?_) (fun c74 => ?_)
  · have hx12_0 : k < ((((T).l)[(at0).toNat]'hx1_6).v.l).length := (by first | omega | (simp; omega))
    refine ov 5 [] (a := kixM hx12_0 (((hNT.atR hM_l11 hOT)).2.get hx1_6).2.2) (b := ?_)
    refine ov 0 [] (a := kldM hx12_0 (((hNT.atR hM_l11 hOT)).2.get hx1_6).2.2) (b := ?_)
    refine cp 5 [] (b := isValue_fn _ w_l11 ) (c := fun w13_1 hM13_1 => ?_)
    refine cn 2 [] (fun c79 => ?_) (fun c79 => ?_)
    · refine E1 5 [] (.bool (false)) ?_
      exact ⟨(by rw [frB_L, hgp, fr_yl' (show (((T).l[(at0).toNat]'hx1_6)).t.keys.length ≤ 4 from (by show ((((T).l[(at0).toNat]'hx1_6)).k.l).length ≤ 4; omega)) (show validK (((T).l[(at0).toNat]'hx1_6)).t.keys = true from hvk) hr (by show (((T).l[(at0).toNat]'hx1_6)).c.l.length = 0; omega) (V := (((T).l[(at0).toNat]'hx1_6)).v.l) (kl := ((((T).l[(at0).toNat]'hx1_6)).k.l).length) rfl rfl]; refine congrArg Value.bool (Eq.symm ?_); rw [Bool.and_eq_false_iff]; right; exact all_no hx12_0 (by simpa using c79)), (hM13_1.pk [1])⟩
    refine ov 2 [] (a := kaddN (k + 1)) (b := ?_)
    exact le1 2 [] (k + 1) [0, 1] (h := by exact ⟨(by (try dsimp only); omega), (all_keep hx12_0 hi1_l11 (by simpa using c79))⟩)
  refine E1 6 [] (.bool (true)) ?_
  exact ⟨(by rw [frB_L, hgp, fr_yl' (show (((T).l[(at0).toNat]'hx1_6)).t.keys.length ≤ 4 from (by show ((((T).l[(at0).toNat]'hx1_6)).k.l).length ≤ 4; omega)) (show validK (((T).l[(at0).toNat]'hx1_6)).t.keys = true from hvk) hr (by show (((T).l[(at0).toNat]'hx1_6)).c.l.length = 0; omega) (V := (((T).l[(at0).toNat]'hx1_6)).v.l) (kl := ((((T).l[(at0).toNat]'hx1_6)).k.l).length) rfl rfl]; refine congrArg Value.bool (Eq.symm ?_); rw [Bool.and_eq_true]; exact ⟨decide_eq_true (by omega), all_done (by omega) hi1_l11⟩), (hM_l11.pk [1])⟩
theorem visit0_fn (b : Nat) (at0 : Int) (dp : Int) (low : Int) (high : Int) (T : TreeL) (s : List Int) (ld : Int) (w : World) (hNT : TrN w T) (hOT : TrO T [some b]) (hM : Mem w w [some b] [[⟨.slice (bl b) 1 1, 77, 19, 1, ckC T s ld⟩]]) (hs : SzT T) (h16 : (T).l.length ≤ 16) (hn : 0 ≤ 3) (hd : dp = 3 - (0 : Int)) :
    Does Tryz.prog 51 [.pointer (ofs (bl b) (0)), I (at0), I (dp), I (low), I (high)] w (fun v w1 => ∃ (s1 : List Int) (l1 : Int), v = .bool ((visT (T).t 0 at0 low high s ld).isSome) ∧ (∀ q, visT (T).t 0 at0 low high s ld = some q → q = (s1, l1)) ∧ Mem w w1 [some b] [[⟨.slice (bl b) 1 1, 77, 19, 1, ckC T s1 l1⟩]]) := by
  refine Does.n1 Tryz.func51 rfl Tryz.results51 Tryz.ntmps51 rfl ?_
  refine pp 10 [] 20 (fun g20 => ?_) (fun g20 => ?_)
  · refine E1 28 [] (.bool (false)) ?_
    exact ⟨s, ld, rfl, (fun q9 hq9 => by cases hq9), (hM.pk [0])⟩
  refine ov 5 [] (s := Vl ((T).A) ((T).l.length) ((T).cp)) (a := by exact cv (Ru.load1 el23 rfl ((hM.rd 0 rfl).ld (k := 1) rfl)) rfl) (b := ?_)
  refine pp 4 [] 30 (fun g30 => ?_) (fun g30 => ?_)
  · refine E1 18 [] (.bool (false)) ?_
    exact ⟨s, ld, rfl, (fun q9 hq9 => by cases hq9), (hM.pk [0])⟩
  refine pp 4 [] 34 (fun g34 => ?_) (fun g34 => ?_)
  · refine E1 14 [] (.bool (false)) ?_
    exact ⟨s, ld, rfl, (fun q9 hq9 => by cases hq9), (hM.pk [0])⟩
  exfalso; omega
set_option maxHeartbeats 2000000 in
theorem visitS_fn (n : Nat) (ih_fn : ∀ (b : Nat) (at0 : Int) (dp : Int) (low : Int) (high : Int) (T : TreeL) (s : List Int) (ld : Int) (w : World) (hNT : TrN w T) (hOT : TrO T [some b]) (hM : Mem w w [some b] [[⟨.slice (bl b) 1 1, 77, 19, 1, ckC T s ld⟩]]) (hs : SzT T) (h16 : (T).l.length ≤ 16) (hn : n ≤ 3) (hd : dp = 3 - (n : Int)), Does Tryz.prog 51 [.pointer (ofs (bl b) (0)), I (at0), I (dp), I (low), I (high)] w (fun v w1 => ∃ (s1 : List Int) (l1 : Int), v = .bool ((visT (T).t n at0 low high s ld).isSome) ∧ (∀ q, visT (T).t n at0 low high s ld = some q → q = (s1, l1)) ∧ Mem w w1 [some b] [[⟨.slice (bl b) 1 1, 77, 19, 1, ckC T s1 l1⟩]])) (b : Nat) (at0 : Int) (dp : Int) (low : Int) (high : Int) (T : TreeL) (s : List Int) (ld : Int) (w : World) (hNT : TrN w T) (hOT : TrO T [some b]) (hM : Mem w w [some b] [[⟨.slice (bl b) 1 1, 77, 19, 1, ckC T s ld⟩]]) (hs : SzT T) (h16 : (T).l.length ≤ 16) (hn : (n + 1) ≤ 3) (hd : dp = 3 - ((n + 1) : Int)) :
    Does Tryz.prog 51 [.pointer (ofs (bl b) (0)), I (at0), I (dp), I (low), I (high)] w (fun v w1 => ∃ (s1 : List Int) (l1 : Int), v = .bool ((visT (T).t (n + 1) at0 low high s ld).isSome) ∧ (∀ q, visT (T).t (n + 1) at0 low high s ld = some q → q = (s1, l1)) ∧ Mem w w1 [some b] [[⟨.slice (bl b) 1 1, 77, 19, 1, ckC T s1 l1⟩]]) := by
  refine Does.n1 Tryz.func51 rfl Tryz.results51 Tryz.ntmps51 rfl ?_
  refine pp 10 [] 20 (fun g20 => ?_) (fun g20 => ?_)
  · refine E1 28 [] (.bool (false)) ?_
    have hno : visT (T).t (n + 1) at0 low high s ld = none := vis_no1 (by first | exact .inr (by assumption) | (left; cases h9 : inT (T).t at0 with | false => rfl | true => (have := inT_t.1 h9; exfalso; omega)))
    exact ⟨s, ld, (by rw [hno]; rfl), (fun q9 hq9 => by rw [hno] at hq9; cases hq9), (hM.pk [0])⟩
  refine ov 5 [] (s := Vl ((T).A) ((T).l.length) ((T).cp)) (a := by exact cv (Ru.load1 el23 rfl ((hM.rd 0 rfl).ld (k := 1) rfl)) rfl) (b := ?_)
  refine pp 4 [] 30 (fun g30 => ?_) (fun g30 => ?_)
  · refine E1 18 [] (.bool (false)) ?_
    have hno : visT (T).t (n + 1) at0 low high s ld = none := vis_no1 (by first | exact .inr (by assumption) | (left; cases h9 : inT (T).t at0 with | false => rfl | true => (have := inT_t.1 h9; exfalso; omega)))
    exact ⟨s, ld, (by rw [hno]; rfl), (fun q9 hq9 => by rw [hno] at hq9; cases hq9), (hM.pk [0])⟩
  refine pp 4 [] 34 (fun g34 => ?_) (fun g34 => ?_)
  · exfalso; omega
  have hx1_21 : 0 ≤ at0 ∧ at0 < 16 := (by omega)
  refine ov 4 [] (s := Vp (bl b) (2 + (at0).toNat)) (a := by exact cv (Ru.indexArrK (j := (at0).toNat) Tryz.underlying75 el4 rfl rfl rfl rfl rfl hx1_21) rfl) (b := ?_)
  refine ov 0 [] (s := Vd (at0 ∈ s)) (a := by exact cv (Ru.load1 el4 rfl ((hM.rd 0 rfl).ld (ck_getI hx1_21))) rfl) (b := ?_)
  refine cd 2 [] (fun c41 => ?_) (fun c41 => ?_)
  · refine E1 5 [] (.bool (false)) ?_
    have hno : visT (T).t (n + 1) at0 low high s ld = none := vis_no1 (by first | exact .inr (by assumption) | (left; cases h9 : inT (T).t at0 with | false => rfl | true => (have := inT_t.1 h9; exfalso; omega)))
    exact ⟨s, ld, (by rw [hno]; rfl), (fun q9 hq9 => by rw [hno] at hq9; cases hq9), (hM.pk [0])⟩
  have hx3_4 : 0 ≤ at0 ∧ at0 < 16 := (by omega)
  refine ov 7 [] (s := Vp (bl b) (2 + (at0).toNat)) (a := by exact cv (Ru.indexArrK (j := (at0).toNat) Tryz.underlying75 el4 rfl rfl rfl rfl rfl hx3_4) rfl) (b := ?_)
  refine sX 0 [] 0 (ckC T (s ++ [at0]) ld) (hk := (by simp [ckC]; omega)) (hq := (ck_setI hx3_4)) (h := fun w3_5 hM3_5 => ?_)
  refine cq 6 [] (b := filledRight_fn _ _ T (s ++ [at0]) (ld) w3_5 (hNT.atR hM3_5 hOT) (TrO.cons (TrO.own hM3_5 hNT hOT 0 rfl) TrO.nil) (hM3_5.fp [0] rfl rfl) q0 qo) (c := ?_)
  rintro _ w4_2 ⟨rfl, hR4_2⟩
  have hM4_2 := hM3_5.cl 1 hR4_2
  refine cn 2 [] (fun c50 => ?_) (fun c50 => ?_)
  · refine E1 5 [] (.bool (false)) ?_
    have hno : visT (T).t (n + 1) at0 low high s ld = none := vis_no2 (.inl (by simpa using c50))
    exact ⟨(s ++ [at0]), (ld), (by rw [hno]; rfl), (fun q9 hq9 => by rw [hno] at hq9; cases hq9), (hM4_2.pk [0])⟩
  have hfb : frB (T).t at0 = true := by simpa using c50
  refine ov 7 [] (s := Vl ((T).A) ((T).l.length) ((T).cp)) (a := by exact cv (Ru.load1 el23 rfl ((hM4_2.rd 0 rfl).ld (k := 1) rfl)) rfl) (b := ?_)
  have hx6_6 : (at0).toNat < ((T).l).length := (by first | omega | (simp; omega))
  refine ov 1 [] (a := kixF hx6_6 (hNT.atR hM4_2 hOT).1) (b := ?_)
  refine ov 0 [] (a := kldN hx6_6 (hNT.atR hM4_2 hOT).1) (b := ?_)
  have hgp : gP (T).t at0 = (((T).l[(at0).toNat]'hx6_6)).t := gP_at rfl hx6_6
  have hsz := hs.at hx6_6
  have hl4 := fr_len hfb
  rw [hgp] at hl4
  simp only [PgL.t] at hl4
  have hki : (gP (T).t at0).kids = (((T).l[(at0).toNat]'hx6_6)).c.l := by rw [hgp]; rfl
  refine Al 0 [] fun w6_8 b6_8 hb6_8 hM6_8 => ?_
  refine Sb 0 [] 0 fun w6_9 hM6_9 => ?_
  refine lp1 10 [0] (fun (k : Nat) => ([(62, Vi (((k : Nat) : Int)))] : List (Nat × SV))) (fun (k : Nat) => (k ≤ ((((T).l[(at0).toNat]'hx6_6)).k.l).length) ∧ ((((((T).l[(at0).toNat]'hx6_6)).k.l).take k).all (fun k9 => decide (low ≤ k9) && decide (k9 < high)) = true)) (fun (k : Nat) => []) (fun (k : Nat) => ((((T).l[(at0).toNat]'hx6_6)).k.l).length - k) [0, 2, 3, 4, 11, 60, 61] [] [0, 1] 0 (fun k σ w_l8 hI hM_l8 => ?_) (h0 := ⟨(Nat.zero_le _), (by (try dsimp only); simp)⟩)
  obtain ⟨hi0_l8, hi1_l8⟩ := hI
  refine cd 5 [] (fun c63 => ?_) (fun c63 => ?_)
  · have hx9_0 : k < ((((T).l)[(at0).toNat]'hx6_6).k.l).length := (by first | omega | (simp; omega))
    refine ov 5 [] (a := kixM hx9_0 (((hNT.atR hM_l8 hOT)).2.get hx6_6).1) (b := ?_)
    refine ov 0 [] (a := kldM hx9_0 (((hNT.atR hM_l8 hOT)).2.get hx6_6).1) (b := ?_)
    refine pp 8 [] 69 (fun g69 => ?_) (fun g69 => ?_)
    · refine E1 11 [] (.bool (false)) ?_
      have hno : visT (T).t (n + 1) at0 low high s ld = none := vis_no2 (.inr (by rw [hgp]; exact kin_bad (show k < (((T).l[(at0).toNat]'hx6_6)).t.keys.length from hx9_0) (by first | (left; assumption) | (right; assumption) | (show ((((T).l[(at0).toNat]'hx6_6)).k.l)[k] < low ∨ ((((T).l[(at0).toNat]'hx6_6)).k.l)[k] ≥ high; omega))))
      exact ⟨(s ++ [at0]), (ld), (by rw [hno]; rfl), (fun q9 hq9 => by rw [hno] at hq9; cases hq9), (hM_l8.pk [1])⟩
    refine cd 5 [] (fun c73 => ?_) (fun c73 => ?_)
    · refine E1 5 [] (.bool (false)) ?_
      have hno : visT (T).t (n + 1) at0 low high s ld = none := vis_no2 (.inr (by rw [hgp]; exact kin_bad (show k < (((T).l[(at0).toNat]'hx6_6)).t.keys.length from hx9_0) (by first | (left; assumption) | (right; assumption) | (show ((((T).l[(at0).toNat]'hx6_6)).k.l)[k] < low ∨ ((((T).l[(at0).toNat]'hx6_6)).k.l)[k] ≥ high; omega))))
      exact ⟨(s ++ [at0]), (ld), (by rw [hno]; rfl), (fun q9 hq9 => by rw [hno] at hq9; cases hq9), (hM_l8.pk [1])⟩
    refine ov 2 [] (a := kaddN (k + 1)) (b := ?_)
    exact le1 2 [] (k + 1) [0, 1] (h := by exact ⟨(by (try dsimp only); omega), (all_keep hx9_0 hi1_l8 (by simp; omega))⟩)
  have hkin : keysIn (gP (T).t at0) low high = true := by rw [hgp]; exact all_done (by show ((((T).l[(at0).toNat]'hx6_6)).k.l).length ≤ k; omega) hi1_l8
  refine cd 9 [0] (fun c78 => ?_) (fun c78 => ?_)
  · have hk0 : (gP (T).t at0).kids = [] := by rw [hki]; exact List.eq_nil_of_length_eq_zero (by omega)
    have hvl := vis_leaf (T := (T).t) (n := n) (low := low) (high := high) (ld := ld) (inT_t.2 (by omega)) c41 hfb (by first | assumption | exact hkin) hk0
    refine ov 6 [] (s := Vi ((ld))) (a := by exact cv (Ru.load1 el3 rfl ((hM_l8.rd 1 rfl).ld (k := 18) rfl)) rfl) (b := ?_)
    refine cd 2 [] (fun c83 => ?_) (fun c83 => ?_)
    · refine sX 5 [] 1 (ckC T (s ++ [at0]) dp) (hk := (by simp [ckC])) (hq := ck_ld) (h := fun w15_4 hM15_4 => ?_)
      refine ov 6 [] (s := Vi (dp)) (a := by exact cv (Ru.load1 el3 rfl ((hM15_4.rd 1 rfl).ld (k := 18) rfl)) rfl) (b := ?_)
      refine ov 1 [] (s := Vb (true)) (a := by exact cv (Ru.congr (v := .bool (decide (dp = dp))) (v' := .bool (true)) (Ru.eql rfl rfl) (congrArg Value.bool (by simp))) rfl) (b := ?_)
      refine E1 3 [] (.bool (true)) ?_
      exact ⟨(s ++ [at0]), dp, (by rw [hvl]; first | (split <;> simp <;> omega) | (rw [if_pos (.inl c83)]; rfl)), (fun q9 hq9 => by rw [hvl] at hq9; split at hq9; (have h8 := Option.some.inj hq9; rw [← h8]; congr 1; omega); cases hq9), (hM15_4.pk [1])⟩
    refine ov 6 [] (s := Vi ((ld))) (a := by exact cv (Ru.load1 el3 rfl ((hM_l8.rd 1 rfl).ld (k := 18) rfl)) rfl) (b := ?_)
    refine E1 5 [] (.bool (decide ((ld) = dp))) ?_
    exact ⟨(s ++ [at0]), (ld), (by rw [hvl]; first | (split <;> simp <;> omega) | (rw [if_pos (.inl c83)]; rfl)), (fun q9 hq9 => by rw [hvl] at hq9; split at hq9; (have h8 := Option.some.inj hq9; rw [← h8]; congr 1; omega); cases hq9), (hM_l8.pk [1])⟩
  have hk0 : (gP (T).t at0).kids ≠ [] := by rw [hki]; intro e9; apply c78; rw [e9]; rfl
  have hvi := vis_in (T := (T).t) (n := n) (low := low) (high := high) (ld := ld) (inT_t.2 (by omega)) c41 hfb (by first | assumption | exact hkin) hk0
  have hkl := (fr_in hfb hk0).2
  rw [hki, hgp] at hkl
  simp only [PgL.t] at hkl
  rw [hki] at hvi
  refine lp3 10 [0] (fun (k : Nat) (s2 : List Int) (l2 : Int) => ([(97, Vi (((k : Nat) : Int)))] : List (Nat × SV))) (fun (k : Nat) (s2 : List Int) (l2 : Int) => (k ≤ ((((T).l[(at0).toNat]'hx6_6)).c.l).length) ∧ (visK (fun k9 x9 s9 l9 => visT (T).t n x9 (lowK (gP (T).t at0) low k9) (highK (gP (T).t at0) high k9) s9 l9) k (((((T).l[(at0).toNat]'hx6_6)).c.l).drop k) s2 l2 = visT (T).t (n + 1) at0 low high s ld)) (fun (k : Nat) (s2 : List Int) (l2 : Int) => [[⟨.slice (bl b) 1 1, 77, 19, 1, ckC T s2 l2⟩]]) (fun (k : Nat) (s2 : List Int) (l2 : Int) => ((((T).l[(at0).toNat]'hx6_6)).c.l).length - k) [0, 2, 3, 4, 11, 95, 96] [1] [0] 0 ((s ++ [at0])) ((ld)) (fun k s2 l2 σ w_l18 hI hM_l18 => ?_) (h0 := ⟨(Nat.zero_le _), (by (try dsimp only); rw [List.drop_zero]; exact hvi.symm)⟩)
  obtain ⟨hi0_l18, hi1_l18⟩ := hI
  refine cd 5 [] (fun c98 => ?_) (fun c98 => ?_)
  · have hx19_1 : k < ((((T).l)[(at0).toNat]'hx6_6).c.l).length := (by first | omega | (simp; omega))
    refine ov 6 [] (a := kixM hx19_1 (((hNT.atR hM_l18 hOT)).2.get hx6_6).2.1) (b := ?_)
    refine ov 0 [] (a := kldM hx19_1 (((hNT.atR hM_l18 hOT)).2.get hx6_6).2.1) (b := ?_)
    refine ct0 10 [] (([(16, Vi (lowK (gP (T).t at0) low k))] : List (Nat × SV))) (True) ([]) [0, 2, 3, 4, 11, 14, 15, 17, 95, 96, 97] [0, 1] ?_ (fun σ w_c105 hI hM_c105 => ?_)
    · refine cd 5 [] (fun c105 => ?_) (fun c105 => ?_)
      · refine ov 4 [1] (a := ksub) (b := ?_)
        have hx22_4 : k - 1 < ((((T).l)[(at0).toNat]'hx6_6).k.l).length := (by first | omega | (simp; omega))
        refine ov 0 [] (a := kixM hx22_4 (((hNT.atR hM_l18 hOT)).2.get hx6_6).1 (h0 := by omega)) (b := ?_)
        refine ov 0 [] (a := kldM hx22_4 (((hNT.atR hM_l18 hOT)).2.get hx6_6).1) (b := ?_)
        exact ce0 2 [] [0, 1] (hL := by exact (Has.cons (I_congr (by rw [hgp]; exact (lowK_pos (by omega) (show k - 1 < (((T).l[(at0).toNat]'hx6_6)).t.keys.length from hx22_4)).symm)) Has.nil)) (h := by exact trivial)
      exact ce0 1 [] [0, 1] (hL := by exact (Has.cons (I_congr (lowK_zero (by omega)).symm) Has.nil)) (h := by exact trivial)
    refine ct0 0 [] (([(17, Vi (highK (gP (T).t at0) high k))] : List (Nat × SV))) (True) ([]) [0, 2, 3, 4, 11, 15, 16, 95, 96, 97] [0, 1] ?_ (fun σ w_c116 hI hM_c116 => ?_)
    · refine cd 8 [1] (fun c116 => ?_) (fun c116 => ?_)
      · have hx24_3 : k < ((((T).l)[(at0).toNat]'hx6_6).k.l).length := (by first | omega | (simp; omega))
        refine ov 4 [1] (a := kixM hx24_3 (((hNT.atR hM_c105 hOT)).2.get hx6_6).1) (b := ?_)
        refine ov 0 [] (a := kldM hx24_3 (((hNT.atR hM_c105 hOT)).2.get hx6_6).1) (b := ?_)
        exact ce0 2 [] [0, 1] (hL := by exact (Has.cons (I_congr (by rw [hgp]; exact (highK_in (show k < (((T).l[(at0).toNat]'hx6_6)).t.keys.length from hx24_3)).symm)) Has.nil)) (h := by exact trivial)
      exact ce0 1 [] [0, 1] (hL := by exact (Has.cons (I_congr (by rw [hgp]; exact (highK_end (show ¬ k < (((T).l[(at0).toNat]'hx6_6)).t.keys.length from (by show ¬ k < ((((T).l[(at0).toNat]'hx6_6)).k.l).length; omega))).symm)) Has.nil)) (h := by exact trivial)
    refine ov 5 [] (a := kadd) (b := ?_)
    refine cq 2 [] (b := ih_fn _ _ _ _ _ T (s2) (l2) w_c116 (hNT.atR hM_c116 hOT) (TrO.cons (TrO.own hM_c116 hNT hOT 0 rfl) TrO.nil) (hM_c116.fp [0] rfl rfl) q0 q0 qo qo) (c := ?_)
    rintro _ w25_6 ⟨s125_6, l125_6, rfl, hv25_6, hR25_6⟩
    have hM25_6 := hM_c116.cl 1 hR25_6
    refine cn 2 [] (fun c129 => ?_) (fun c129 => ?_)
    · have hn1 := vis_none c129
      refine E1 5 [] (.bool (false)) ?_
      have hno : visT (T).t (n + 1) at0 low high s ld = none := by rw [← hi1_l18]; exact visK_no hx19_1 hn1
      exact ⟨s125_6, l125_6, (by rw [hno]; rfl), (fun q9 hq9 => by rw [hno] at hq9; cases hq9), (hM25_6.pk [0])⟩
    have hs1 := vis_some (by simpa using c129) hv25_6
    refine ov 2 [] (a := kaddN (k + 1)) (b := ?_)
    exact le3 2 [] (k + 1) (s125_6) (l125_6) [0, 1] (h := by exact ⟨(by (try dsimp only); omega), (by (try dsimp only); rw [← visK_ok hx19_1 hs1]; exact hi1_l18)⟩)
  refine E1 6 [] (.bool (true)) ?_
  have hve : visT (T).t (n + 1) at0 low high s ld = some (s2, l2) := by rw [← hi1_l18]; exact visK_end (by omega)
  exact ⟨s2, l2, (by rw [hve]; rfl), (fun q9 hq9 => by rw [hve] at hq9; exact (Option.some.inj hq9).symm), (hM_l18.pk [0])⟩
theorem visit_fn : ∀ (n : Nat), ∀ (b : Nat) (at0 : Int) (dp : Int) (low : Int) (high : Int) (T : TreeL) (s : List Int) (ld : Int) (w : World) (hNT : TrN w T) (hOT : TrO T [some b]) (hM : Mem w w [some b] [[⟨.slice (bl b) 1 1, 77, 19, 1, ckC T s ld⟩]]) (hs : SzT T) (h16 : (T).l.length ≤ 16) (hn : n ≤ 3) (hd : dp = 3 - (n : Int)), Does Tryz.prog 51 [.pointer (ofs (bl b) (0)), I (at0), I (dp), I (low), I (high)] w (fun v w1 => ∃ (s1 : List Int) (l1 : Int), v = .bool ((visT (T).t n at0 low high s ld).isSome) ∧ (∀ q, visT (T).t n at0 low high s ld = some q → q = (s1, l1)) ∧ Mem w w1 [some b] [[⟨.slice (bl b) 1 1, 77, 19, 1, ckC T s1 l1⟩]]) := by
  intro n
  induction n with
  | zero => exact visit0_fn
  | succ n ih => exact visitS_fn n ih
theorem ValidTree_fn (T : TreeL) (w : World) (hNT : TrN w T) (hs : SzT T) :
    Does Tryz.prog 19 [.agg #[I ((T).root), .slice ((T).A) ((T).l.length) ((T).cp)]] w (fun v w1 => v = .bool (validT (T).t) ∧ Mem w w1 [] []) := by
  have hM : Mem w w [] [] := Mem.refl
  refine Does.n1 Tryz.func19 rfl Tryz.results19 Tryz.ntmps19 rfl ?_
  refine Bx 2 [] fun w0_0 b0_0 hb0_0 hM0_0 => ?_
  refine pp 10 [0] 9 (fun g9 => ?_) (fun g9 => ?_)
  · refine E1 12 [] (.bool (false)) ?_
    exact ⟨(by rw [validT_len (by rw [pages_len]; omega)]), (Mem.none hM0_0)⟩
  refine cd 6 [0] (fun c14 => ?_) (fun c14 => ?_)
  · refine E1 5 [] (.bool (false)) ?_
    exact ⟨(by rw [validT_len (by rw [pages_len]; omega)]), (Mem.none hM0_0)⟩
  have hpl : 1 ≤ (T).t.pages.length ∧ (T).t.pages.length ≤ 16 := by rw [pages_len]; omega
  refine ov 4 [0] (s := Va [.i ((T).root), .sl ((T).A) ((T).l.length) ((T).cp), .b (false), .b (false), .b (false), .b (false), .b (false), .b (false), .b (false), .b (false), .b (false), .b (false), .b (false), .b (false), .b (false), .b (false), .b (false), .b (false), .i ((-1))]) (a := by exact cv (Ru.buildN (cs := [I ((T).root), .slice ((T).A) ((T).l.length) ((T).cp), .bool (false), .bool (false), .bool (false), .bool (false), .bool (false), .bool (false), .bool (false), .bool (false), .bool (false), .bool (false), .bool (false), .bool (false), .bool (false), .bool (false), .bool (false), .bool (false), I ((-1))]) mf77 rfl (by kernel_rfl)) rfl) (b := ?_)
  refine Al 0 [] fun w3_2 b3_2 hb3_2 hM3_2 => ?_
  refine Sb 0 [] 0 fun w3_3 hM3_3 => ?_
  have hMk1 := hM3_3.reC 0 (ck_nil (T := T) (ld := (-1)))
  refine cq 6 [1] (b := visit_fn 3 _ _ _ _ _ T (([] : List Int)) ((-1)) w3_3 (hNT.at hMk1) (TrO.cons (TrO.old hMk1 hNT 0 rfl) TrO.nil) (hMk1.fp [0] rfl rfl) q0 qo qo (by rfl)) (c := ?_)
  rintro _ w4_2 ⟨s14_2, l14_2, rfl, hv4_2, hR4_2⟩
  have hM4_2 := hMk1.cl 1 hR4_2
  refine cn 2 [] (fun c20 => ?_) (fun c20 => ?_)
  · have hno := vis_none c20
    refine E1 5 [] (.bool (false)) ?_
    exact ⟨(by rw [valid_vis_no hno]), (Mem.none hM4_2)⟩
  have hve := vis_some (by simpa using c20) hv4_2
  refine lp1 10 [1] (fun (k : Nat) => ([(24, Vi (((k : Nat) : Int)))] : List (Nat × SV))) (fun (k : Nat) => (k ≤ (T).l.length) ∧ (∀ j : Nat, j < k → (j : Int) ∈ s14_2)) (fun (k : Nat) => []) (fun (k : Nat) => (T).l.length - k) [3, 23] [] [0, 1] 0 (fun k σ w_l7 hI hM_l7 => ?_) (h0 := ⟨(Nat.zero_le _), (fun j hj => absurd hj (by omega))⟩)
  obtain ⟨hi0_l7, hi1_l7⟩ := hI
  refine cd 5 [] (fun c25 => ?_) (fun c25 => ?_)
  · have hx9_2 : 0 ≤ ((k : Nat) : Int) ∧ ((k : Nat) : Int) < 16 := (by omega)
    refine ov 12 [] (s := Vp (bl b3_2) (2 + (((k : Nat) : Int)).toNat)) (a := by exact cv (Ru.indexArrK (j := (((k : Nat) : Int)).toNat) Tryz.underlying75 el4 rfl rfl rfl rfl rfl hx9_2) rfl) (b := ?_)
    refine ov 0 [] (s := Vd (((k : Nat) : Int) ∈ s14_2)) (a := by exact cv (Ru.load1 el4 rfl ((hM_l7.rd 0 rfl).ld (ck_getI hx9_2))) rfl) (b := ?_)
    refine cd 2 [] (fun c31 => ?_) (fun c31 => ?_)
    · refine E1 5 [] (.bool (false)) ?_
      exact ⟨(by rw [valid_f (i := k) hpl hve (by rw [pages_len]; omega) (by simpa using c31)]), (Mem.none hM_l7)⟩
    refine ov 2 [] (a := kaddN (k + 1)) (b := ?_)
    exact le1 2 [] (k + 1) [0, 1] (h := by exact ⟨(by (try dsimp only); omega), (fun j hj => by rcases Nat.lt_succ_iff_lt_or_eq.1 hj with h | h; exact hi1_l7 j h; subst h; simpa using c31)⟩)
  refine E1 6 [] (.bool (true)) ?_
  exact ⟨(by rw [(valid_vis hpl hve).2 (fun (i9 : Nat) (hi9 : i9 < (T).t.pages.length) => hi1_l7 i9 (by have := pages_len (T := T); omega))]), (Mem.none hM_l7)⟩
end Go.Proofs.YtemejgglbhjodaaGreatDoor
end
section
namespace Go.Proofs.YtemejgglbhjodaaGreatDoor
open Go.Px
theorem heightOf_fn (T : TreeL) (w : World) (hNT : TrN w T) (hs : SzT T) :
    Does Tryz.prog 89 [.agg #[I ((T).root), .slice ((T).A) ((T).l.length) ((T).cp)]] w (fun v w1 => v = I (((heightT (T).t : Nat) : Int)) ∧ Mem w w1 [] []) := by
  have hM : Mem w w [] [] := Mem.refl
  refine Does.n1 Tryz.func89 rfl Tryz.results89 Tryz.ntmps89 rfl ?_
  have hs1 := hs.1
  refine Bx 2 [] fun w0_0 b0_0 hb0_0 hM0_0 => ?_
  refine lp2 14 [0] (fun (n : Nat) (a : Int) => ([(3, Vi (((n : Nat) : Int))), (4, Vi (a))] : List (Nat × SV))) (fun (n : Nat) (a : Int) => (1 ≤ n ∧ n ≤ 4) ∧ (heightT (T).t = n + hgt (T).t (4 - n) a)) (fun (n : Nat) (a : Int) => []) (fun (n : Nat) (a : Int) => 4 - n) [1] [] [0] 1 ((T).root) (fun n a σ w_l3 hI hM_l3 => ?_) (h0 := ⟨(by (try dsimp only); omega), rfl⟩)
  obtain ⟨hi0_l3, hi1_l3⟩ := hI
  refine pp 6 [] 9 (fun g9 => ?_) (fun g9 => ?_)
  · refine ov 4 [0] (a := ksub) (b := ?_)
    refine cp 0 [] (b := inRange_fn _ _ _ w_l3 ) (c := fun w3_8 hM3_8 => ?_)
    refine pt 2 [] 17 (fun g17 => ?_) (fun g17 => ?_)
    · have hin : inT (T).t a = true := inT_t.2 (by simp only [Bool.and_eq_true, decide_eq_true_eq] at g17; omega)
      have hx3_14 : (a).toNat < ((T).l).length := (by have := inT_t.1 hin; omega)
      refine ov 3 [0] (a := kixF hx3_14 (hNT.at hM3_8).1 (h0 := by have := inT_t.1 hin; omega)) (b := ?_)
      have hki : (gP (T).t a).kids = (((T).l[(a).toNat]'hx3_14)).c.l := by rw [gP_at rfl hx3_14]; rfl
      refine ov 0 [] (a := kflF hx3_14 (hNT.at hM3_8).1) (b := ?_)
      refine ov 0 [] (a := kldF hx3_14 (hNT.at hM3_8).1) (b := ?_)
      refine cd 4 [] (fun c26 => ?_) (fun c26 => ?_)
      · have hx4_3 : (a).toNat < ((T).l).length := (by have := inT_t.1 hin; omega)
        refine ov 7 [0] (a := kixF hx4_3 (hNT.at hM3_8).1 (h0 := by have := inT_t.1 hin; omega)) (b := ?_)
        refine ov 0 [] (a := kflF hx4_3 (hNT.at hM3_8).1) (b := ?_)
        refine ov 0 [] (a := kldF hx4_3 (hNT.at hM3_8).1) (b := ?_)
        have hx4_6 : 0 < ((((T).l)[(a).toNat]'hx4_3).c.l).length := (by omega)
        refine ov 0 [] (a := kixM hx4_6 (((hNT.at hM3_8)).2.get hx4_3).2.1) (b := ?_)
        refine ov 0 [] (a := kldM hx4_6 (((hNT.at hM3_8)).2.get hx4_3).2.1) (b := ?_)
        have hgo := hgt_go (T := (T).t) (f := 4 - n - 1) hin (by rw [hki]; intro e9; rw [e9] at hx4_6; simp at hx4_6)
        rw [show 4 - n - 1 + 1 = 4 - n by omega, hki, getD_in hx4_6] at hgo
        refine ov 4 [] (a := kaddN (n + 1)) (b := ?_)
        exact le2 2 [] (n + 1) (((((T).l)[(a).toNat]'hx4_3).c.l)[0]'hx4_6) [0] (h := by exact ⟨(by (try dsimp only); omega), (by (try dsimp only); rw [hgo] at hi1_l3; rw [hi1_l3, show 4 - (n + 1) = 4 - n - 1 by omega]; omega)⟩)
      refine E1 7 [] (I (((n : Nat) : Int))) ?_
      have hz : hgt (T).t (4 - n) a = 0 := by first | (rw [show 4 - n = 0 by omega]; rfl) | exact hgt_stop (.inr (by rw [hki]; exact List.eq_nil_of_length_eq_zero (by omega))) | (refine hgt_stop (.inl ?_); cases h9 : inT (T).t a with | false => rfl | true => (have := inT_t.1 h9; exfalso; simp at g17; omega))
      exact ⟨(I_congr (by rw [hi1_l3, hz]; simp)), (Mem.none hM3_8)⟩
    refine E1 18 [] (I (((n : Nat) : Int))) ?_
    have hz : hgt (T).t (4 - n) a = 0 := by first | (rw [show 4 - n = 0 by omega]; rfl) | exact hgt_stop (.inr (by rw [hki]; exact List.eq_nil_of_length_eq_zero (by omega))) | (refine hgt_stop (.inl ?_); cases h9 : inT (T).t a with | false => rfl | true => (have := inT_t.1 h9; exfalso; simp at g17; omega))
    exact ⟨(I_congr (by rw [hi1_l3, hz]; simp)), (Mem.none hM3_8)⟩
  refine E1 26 [] (I (((n : Nat) : Int))) ?_
  have hz : hgt (T).t (4 - n) a = 0 := by first | (rw [show 4 - n = 0 by omega]; rfl) | exact hgt_stop (.inr (by rw [hki]; exact List.eq_nil_of_length_eq_zero (by omega))) | (refine hgt_stop (.inl ?_); cases h9 : inT (T).t a with | false => rfl | true => (have := inT_t.1 h9; exfalso; simp at g17; omega))
  exact ⟨(I_congr (by rw [hi1_l3, hz]; simp)), (Mem.none hM_l3)⟩
theorem pageFits0_fn : ∀ (T : TreeL) (at0 : Int) (low : Int) (hi : Int) (dp : Int) (w : World) (hNT : TrN w T) (hs : SzT T) (hat : 0 ≤ at0 ∧ at0 < ((T).l.length : Int)) (hd : dp = (0 : Int)) (h1 : 1 ≤ 0) (h3 : 0 ≤ 3), Does Tryz.prog 90 [.agg #[I ((T).root), .slice ((T).A) ((T).l.length) ((T).cp)], I (at0), I (low), I (hi), I (dp)] w (fun v w1 => v = .bool (fitS (T).t 0 at0 low hi) ∧ Mem w w1 [] []) := by
  intro T at0 low hi dp w hNT hs hat hd h1 h3; exact absurd h1 (by omega)
set_option maxHeartbeats 4000000 in
theorem pageFitsS_fn (n : Nat) (ih_fn : ∀ (T : TreeL) (at0 : Int) (low : Int) (hi : Int) (dp : Int) (w : World) (hNT : TrN w T) (hs : SzT T) (hat : 0 ≤ at0 ∧ at0 < ((T).l.length : Int)) (hd : dp = (n : Int)) (h1 : 1 ≤ n) (h3 : n ≤ 3), Does Tryz.prog 90 [.agg #[I ((T).root), .slice ((T).A) ((T).l.length) ((T).cp)], I (at0), I (low), I (hi), I (dp)] w (fun v w1 => v = .bool (fitS (T).t n at0 low hi) ∧ Mem w w1 [] [])) (T : TreeL) (at0 : Int) (low : Int) (hi : Int) (dp : Int) (w : World) (hNT : TrN w T) (hs : SzT T) (hat : 0 ≤ at0 ∧ at0 < ((T).l.length : Int)) (hd : dp = ((n + 1) : Int)) (h1 : 1 ≤ (n + 1)) (h3 : (n + 1) ≤ 3) :
    Does Tryz.prog 90 [.agg #[I ((T).root), .slice ((T).A) ((T).l.length) ((T).cp)], I (at0), I (low), I (hi), I (dp)] w (fun v w1 => v = .bool (fitS (T).t (n + 1) at0 low hi) ∧ Mem w w1 [] []) := by
  have hM : Mem w w [] [] := Mem.refl
  refine Does.n1 Tryz.func90 rfl Tryz.results90 Tryz.ntmps90 rfl ?_
  have hs1 := hs.1
  refine Bx 2 [] fun w0_0 b0_0 hb0_0 hM0_0 => ?_
  have hx1_3 : (at0).toNat < ((T).l).length := (by first | omega | (simp; omega))
  refine ov 7 [0] (a := kixF hx1_3 (hNT.at hM0_0).1) (b := ?_)
  refine ov 0 [] (a := kldN hx1_3 (hNT.at hM0_0).1) (b := ?_)
  have hgp : gP (T).t at0 = (((T).l[(at0).toNat]'hx1_3)).t := gP_at rfl hx1_3
  have hsz := hs.at hx1_3
  have hfl := fit_L (T := (T).t) (d := n) (i := at0) (low := low) (hi := hi)
  rw [hgp] at hfl
  refine Al 0 [] fun w1_5 b1_5 hb1_5 hM1_5 => ?_
  refine Sb 0 [] 0 fun w1_6 hM1_6 => ?_
  refine cq 6 [0] (vs := [.slice ((((T).l)[(at0).toNat]'hx1_3).k.A) (((((T).l)[(at0).toNat]'hx1_3).k.l).length) ((((T).l)[(at0).toNat]'hx1_3).k.cp)]) (hvs := (by first | rfl | (rw [show ((((T).l)[(at0).toNat]'hx1_3).k.l).length = (((T).l)[(at0).toNat]'hx1_3).k.l.length from (by first | rfl | (simp; done) | omega | (simp; omega))]; rfl))) (b := validKeys_fn ((((T).l)[(at0).toNat]'hx1_3).k.A) ((((T).l)[(at0).toNat]'hx1_3).k.cp) ((((T).l)[(at0).toNat]'hx1_3).k.l) w1_6 (((hNT.at hM1_6)).2.get hx1_3).1 qo) (c := ?_)
  rintro _ w2_2 ⟨rfl, hR2_2⟩
  have hM2_2 := hM1_6.cl 0 hR2_2
  refine pt 2 [] 24 (fun g24 => ?_) (fun g24 => ?_)
  · refine E1 32 [] (.bool (false)) ?_
    exact ⟨(by rw [hfl, fit_n1 (show validK (((T).l[(at0).toNat]'hx1_3)).t.keys = false from (show validK ((((T).l[(at0).toNat]'hx1_3)).k.l) = false from (by simpa using g24)))]), (Mem.none hM2_2)⟩
  refine pp 6 [0] 30 (fun g30 => ?_) (fun g30 => ?_)
  · refine E1 26 [] (.bool (false)) ?_
    exact ⟨(by rw [hfl, fit_n2 (by show ¬ ((((T).l[(at0).toNat]'hx1_3)).k.l).length ≤ 4; omega)]), (Mem.none hM2_2)⟩
  refine cq 4 [0] (vs := [.slice ((((T).l)[(at0).toNat]'hx1_3).k.A) (((((T).l)[(at0).toNat]'hx1_3).k.l).length) ((((T).l)[(at0).toNat]'hx1_3).k.cp), I (low), I (hi)]) (hvs := (by first | rfl | (rw [show ((((T).l)[(at0).toNat]'hx1_3).k.l).length = (((T).l)[(at0).toNat]'hx1_3).k.l.length from (by first | rfl | (simp; done) | omega | (simp; omega))]; rfl))) (b := allIn_fn ((((T).l)[(at0).toNat]'hx1_3).k.A) ((((T).l)[(at0).toNat]'hx1_3).k.cp) ((((T).l)[(at0).toNat]'hx1_3).k.l) _ _ w2_2 (((hNT.at hM2_2)).2.get hx1_3).1 qo) (c := ?_)
  rintro _ w2_15 ⟨rfl, hR2_15⟩
  have hM2_15 := hM2_2.cl 0 hR2_15
  refine pt 3 [] 38 (fun g38 => ?_) (fun g38 => ?_)
  · refine E1 18 [] (.bool (false)) ?_
    exact ⟨(by rw [hfl, fit_n3 (show allIn (((T).l[(at0).toNat]'hx1_3)).t.keys low hi = false from (show allIn ((((T).l[(at0).toNat]'hx1_3)).k.l) low hi = false from (by simp only [allIn]; simpa using g38)))]), (Mem.none hM2_15)⟩
  refine pp 5 [1] 43 (fun g43 => ?_) (fun g43 => ?_)
  · refine cd 7 [0] (fun c49 => ?_) (fun c49 => ?_)
    · refine E1 5 [] (.bool (false)) ?_
      exact ⟨(by rw [hfl, fit_n4 (T := (T).t) (show at0 ≠ (T).t.root from g43) (by show ¬ 2 ≤ ((((T).l[(at0).toNat]'hx1_3)).k.l).length; omega)]), (Mem.none hM2_15)⟩
    have hvk : validK (((T).l[(at0).toNat]'hx1_3)).t.keys = true := by show validK ((((T).l[(at0).toNat]'hx1_3)).k.l) = true; simpa using g24
    have h4 : (((T).l[(at0).toNat]'hx1_3)).t.keys.length ≤ 4 := by show ((((T).l[(at0).toNat]'hx1_3)).k.l).length ≤ 4; omega
    have hai : allIn (((T).l[(at0).toNat]'hx1_3)).t.keys low hi = true := by show allIn ((((T).l[(at0).toNat]'hx1_3)).k.l) low hi = true; simp only [allIn]; simpa using g38
    have hr : at0 = (T).t.root ∨ 2 ≤ (((T).l[(at0).toNat]'hx1_3)).t.keys.length := by first | (left; exact Classical.not_not.1 g43) | (left; simpa using g43) | (right; show 2 ≤ ((((T).l[(at0).toNat]'hx1_3)).k.l).length; omega)
    refine cd 7 [] (fun c51 => ?_) (fun c51 => ?_)
    · have hn0 : n = 0 := by omega
      subst hn0
      refine pp 7 [0] 56 (fun g56 => ?_) (fun g56 => ?_)
      · refine pp 9 [0, 0] 65 (fun g65 => ?_) (fun g65 => ?_)
        · refine cq 2 [0] (vs := [.slice ((((T).l)[(at0).toNat]'hx1_3).v.A) (((((T).l)[(at0).toNat]'hx1_3).v.l).length) ((((T).l)[(at0).toNat]'hx1_3).v.cp), I ((-1000)), I (1000)]) (hvs := (by first | rfl | (rw [show ((((T).l)[(at0).toNat]'hx1_3).v.l).length = (((T).l)[(at0).toNat]'hx1_3).v.l.length from (by first | rfl | (simp; done) | omega | (simp; omega))]; rfl))) (b := allIn_fn ((((T).l)[(at0).toNat]'hx1_3).v.A) ((((T).l)[(at0).toNat]'hx1_3).v.cp) ((((T).l)[(at0).toNat]'hx1_3).v.l) _ _ w2_15 (((hNT.at hM2_15)).2.get hx1_3).2.2 qo) (c := ?_)
          rintro _ w5_16 ⟨rfl, hR5_16⟩
          have hM5_16 := hM2_15.cl 0 hR5_16
          refine E1 4 [] (.bool (((((T).l)[(at0).toNat]'hx1_3).v.l).all (fun a => decide ((-1000) ≤ a) && decide (a ≤ 1000)))) ?_
          exact ⟨(by rw [hfl, fit_y0' hvk h4 hai hr (V := (((T).l[(at0).toNat]'hx1_3)).v.l) (kl := ((((T).l[(at0).toNat]'hx1_3)).k.l).length) (cl := ((((T).l[(at0).toNat]'hx1_3)).c.l).length) rfl rfl rfl]; refine congrArg Value.bool ?_; rw [Bool.eq_iff_iff]; simp only [Bool.and_eq_true, decide_eq_true_eq, reduceCtorEq, true_iff, false_iff, allIn]; first | (rintro ⟨⟨h7, h8⟩, _⟩; omega) | exact ⟨fun h9 => ⟨⟨by omega, by omega⟩, h9⟩, fun h9 => h9.2⟩), (Mem.none hM5_16)⟩
        refine E1 7 [] (.bool (false)) ?_
        exact ⟨(by rw [hfl, fit_y0' hvk h4 hai hr (V := (((T).l[(at0).toNat]'hx1_3)).v.l) (kl := ((((T).l[(at0).toNat]'hx1_3)).k.l).length) (cl := ((((T).l[(at0).toNat]'hx1_3)).c.l).length) rfl rfl rfl]; refine congrArg Value.bool ?_; rw [Bool.eq_iff_iff]; simp only [Bool.and_eq_true, decide_eq_true_eq, reduceCtorEq, true_iff, false_iff, allIn]; first | (rintro ⟨⟨h7, h8⟩, _⟩; omega) | exact ⟨fun h9 => ⟨⟨by omega, by omega⟩, h9⟩, fun h9 => h9.2⟩), (Mem.none hM2_15)⟩
      refine E1 16 [] (.bool (false)) ?_
      exact ⟨(by rw [hfl, fit_y0' hvk h4 hai hr (V := (((T).l[(at0).toNat]'hx1_3)).v.l) (kl := ((((T).l[(at0).toNat]'hx1_3)).k.l).length) (cl := ((((T).l[(at0).toNat]'hx1_3)).c.l).length) rfl rfl rfl]; refine congrArg Value.bool ?_; rw [Bool.eq_iff_iff]; simp only [Bool.and_eq_true, decide_eq_true_eq, reduceCtorEq, true_iff, false_iff, allIn]; first | (rintro ⟨⟨h7, h8⟩, _⟩; omega) | exact ⟨fun h9 => ⟨⟨by omega, by omega⟩, h9⟩, fun h9 => h9.2⟩), (Mem.none hM2_15)⟩
    have hn0 : n ≠ 0 := by omega
    refine pp 9 [0] 74 (fun g74 => ?_) (fun g74 => ?_)
    · refine E1 32 [] (.bool (false)) ?_
      exact ⟨(by rw [hfl, fit_no (h0 := hn0) (by left; show ((((T).l[(at0).toNat]'hx1_3)).k.l).length = 0; omega)]), (Mem.none hM2_15)⟩
    refine pp 6 [0] 80 (fun g80 => ?_) (fun g80 => ?_)
    · refine E1 26 [] (.bool (false)) ?_
      exact ⟨(by rw [hfl, fit_no (h0 := hn0) (by right; left; show ((((T).l[(at0).toNat]'hx1_3)).v.l).length ≠ 0; omega)]), (Mem.none hM2_15)⟩
    refine ov 6 [0, 0] (a := kaddN ((((T).l)[(at0).toNat]'hx1_3).k.l.length + 1)) (b := ?_)
    refine pp 3 [] 90 (fun g90 => ?_) (fun g90 => ?_)
    · refine E1 16 [] (.bool (false)) ?_
      exact ⟨(by rw [hfl, fit_no (h0 := hn0) (by right; right; left; show ((((T).l[(at0).toNat]'hx1_3)).c.l).length ≠ ((((T).l[(at0).toNat]'hx1_3)).k.l).length + 1; omega)]), (Mem.none hM2_15)⟩
    refine ov 5 [0, 1] (a := ksub) (b := ?_)
    refine cq 0 [] (vs := [.slice ((((T).l)[(at0).toNat]'hx1_3).c.A) (((((T).l)[(at0).toNat]'hx1_3).c.l).length) ((((T).l)[(at0).toNat]'hx1_3).c.cp), I (0), I (((((T).l.length : Nat) : Int) - 1))]) (hvs := (by first | rfl | (rw [show ((((T).l)[(at0).toNat]'hx1_3).c.l).length = (((T).l)[(at0).toNat]'hx1_3).c.l.length from (by first | rfl | (simp; done) | omega | (simp; omega))]; rfl))) (b := allIn_fn ((((T).l)[(at0).toNat]'hx1_3).c.A) ((((T).l)[(at0).toNat]'hx1_3).c.cp) ((((T).l)[(at0).toNat]'hx1_3).c.l) _ _ w2_15 (((hNT.at hM2_15)).2.get hx1_3).2.1 qo) (c := ?_)
    rintro _ w6_27 ⟨rfl, hR6_27⟩
    have hM6_27 := hM2_15.cl 0 hR6_27
    refine cn 3 [] (fun c99 => ?_) (fun c99 => ?_)
    · refine E1 5 [] (.bool (false)) ?_
      exact ⟨(by rw [hfl, fit_no (h0 := hn0) (by right; right; right; rw [pages_len]; show allIn ((((T).l[(at0).toNat]'hx1_3)).c.l) 0 _ = false; simp only [allIn]; simpa using c99)]), (Mem.none hM6_27)⟩
    have hyd := fit_yd (T := (T).t) (i := at0) hn0 hvk h4 hai hr (by show ((((T).l[(at0).toNat]'hx1_3)).k.l).length ≠ 0; omega) (by show ((((T).l[(at0).toNat]'hx1_3)).v.l).length = 0; omega) (by show ((((T).l[(at0).toNat]'hx1_3)).c.l).length = ((((T).l[(at0).toNat]'hx1_3)).k.l).length + 1; omega) (by rw [pages_len]; show allIn ((((T).l[(at0).toNat]'hx1_3)).c.l) 0 _ = true; simp only [allIn]; simpa using c99)
    have hal : allIn ((((T).l[(at0).toNat]'hx1_3)).c.l) 0 (((T).l.length : Int) - 1) = true := by simp only [allIn]; simpa using c99
    refine lp1 7 [] (fun (k : Nat) => ([(12, Vi (((k : Nat) : Int)))] : List (Nat × SV))) (fun (k : Nat) => (k ≤ ((((T).l[(at0).toNat]'hx1_3)).c.l).length) ∧ ((List.range k).all (fun k9 => fitS (T).t n ((((T).l[(at0).toNat]'hx1_3)).c.l.getD k9 0) (lowK (((T).l[(at0).toNat]'hx1_3)).t low k9) (highK (((T).l[(at0).toNat]'hx1_3)).t (hi + 1) k9 - 1)) = true)) (fun (k : Nat) => []) (fun (k : Nat) => ((((T).l[(at0).toNat]'hx1_3)).c.l).length - k) [2, 3, 4, 5, 11] [] [0, 1] 0 (fun k σ w_l9 hI hM_l9 => ?_) (h0 := ⟨(Nat.zero_le _), rfl⟩)
    obtain ⟨hi0_l9, hi1_l9⟩ := hI
    refine cd 9 [0] (fun c104 => ?_) (fun c104 => ?_)
    · refine ct0 13 [] (([(13, Vi (lowK (((T).l[(at0).toNat]'hx1_3)).t low k))] : List (Nat × SV))) (True) ([]) [2, 3, 4, 5, 11, 12, 14] [0, 1] ?_ (fun σ w_c110 hI hM_c110 => ?_)
      · refine cd 5 [] (fun c110 => ?_) (fun c110 => ?_)
        · refine ov 4 [0] (a := ksub) (b := ?_)
          have hx14_4 : k - 1 < ((((T).l)[(at0).toNat]'hx1_3).k.l).length := (by first | omega | (simp; omega))
          refine ov 0 [] (a := kixM hx14_4 (((hNT.at hM_l9)).2.get hx1_3).1 (h0 := by omega)) (b := ?_)
          refine ov 0 [] (a := kldM hx14_4 (((hNT.at hM_l9)).2.get hx1_3).1) (b := ?_)
          exact ce0 2 [] [0, 1] (hL := by exact (Has.cons (I_congr (lowK_pos (by omega) (show k - 1 < (((T).l[(at0).toNat]'hx1_3)).t.keys.length from hx14_4)).symm) Has.nil)) (h := by exact trivial)
        exact ce0 1 [] [0, 1] (hL := by exact (Has.cons (I_congr (lowK_zero (by omega)).symm) Has.nil)) (h := by exact trivial)
      refine ct0 0 [] (([(14, Vi ((highK (((T).l[(at0).toNat]'hx1_3)).t (hi + 1) k - 1)))] : List (Nat × SV))) (True) ([]) [2, 3, 4, 5, 11, 12, 13] [0, 1] ?_ (fun σ w_c121 hI hM_c121 => ?_)
      · refine cd 8 [0] (fun c121 => ?_) (fun c121 => ?_)
        · have hx16_3 : k < ((((T).l)[(at0).toNat]'hx1_3).k.l).length := (by first | omega | (simp; omega))
          refine ov 4 [0] (a := kixM hx16_3 (((hNT.at hM_c110)).2.get hx1_3).1) (b := ?_)
          have hkb := validK_bd (show validK ((((T).l[(at0).toNat]'hx1_3)).k.l) = true from hvk) hx16_3
          refine ov 0 [] (a := kldM hx16_3 (((hNT.at hM_c110)).2.get hx1_3).1) (b := ?_)
          refine ov 0 [] (a := ksub) (b := ?_)
          exact ce0 2 [] [0, 1] (hL := by exact (Has.cons (I_congr (by rw [highK_in (show k < (((T).l[(at0).toNat]'hx1_3)).t.keys.length from hx16_3)]; rfl)) Has.nil)) (h := by exact trivial)
        exact ce0 1 [] [0, 1] (hL := by exact (Has.cons (I_congr (by rw [highK_end (show ¬ k < (((T).l[(at0).toNat]'hx1_3)).t.keys.length from (by show ¬ k < ((((T).l[(at0).toNat]'hx1_3)).k.l).length; omega))]; omega)) Has.nil)) (h := by exact trivial)
      refine dr 1 [] ?_
      have hx17_4 : k < ((((T).l)[(at0).toNat]'hx1_3).c.l).length := (by first | omega | (simp; omega))
      refine qv 4 [1, 0] (a := by exact fun _ hw2 => kixM hx17_4 (((hNT.at hw2)).2.get hx1_3).2.1) (b := ?_)
      have hrg := allIn_get hal hx17_4
      refine qv 0 [] (a := by exact fun _ hw2 => kldM hx17_4 (((hNT.at hw2)).2.get hx1_3).2.1) (b := ?_)
      refine qv 3 [] (a := by exact fun _ hw2 => ksub) (b := ?_)
      refine qc 0 [] (X := .bool (fitS (T).t n (((((T).l)[(at0).toNat]'hx1_3).c.l)[k]'hx17_4) (lowK (((T).l[(at0).toNat]'hx1_3)).t low k) (highK (((T).l[(at0).toNat]'hx1_3)).t (hi + 1) k - 1))) (b := by exact fun w2 hw2 => (ih_fn T (((((T).l)[(at0).toNat]'hx1_3).c.l)[k]'hx17_4) (lowK (((T).l[(at0).toNat]'hx1_3)).t low k) (highK (((T).l[(at0).toNat]'hx1_3)).t (hi + 1) k - 1) (dp - 1) w2 (hNT.at hw2) q0 qo qo qo qo).mono fun _ _ h => ⟨h.1, Mem.call0 hw2 h.2⟩) (c := ?_)
      refine qn 1 [] fun w17d hM17d => ?_
      refine cn 0 [] (fun c139 => ?_) (fun c139 => ?_)
      · have hf1 : (fun k9 => fitS (T).t n ((((T).l[(at0).toNat]'hx1_3)).c.l.getD k9 0) (lowK (((T).l[(at0).toNat]'hx1_3)).t low k9) (highK (((T).l[(at0).toNat]'hx1_3)).t (hi + 1) k9 - 1)) k = false := by show fitS _ _ _ _ _ = false; rw [getD_in (show k < (((T).l[(at0).toNat]'hx1_3)).c.l.length from hx17_4)]; simpa using c139
        refine E1 5 [] (.bool (false)) ?_
        exact ⟨(by rw [hfl, hyd]; exact congrArg Value.bool (range_bad (p := fun k9 => fitS (T).t n ((((T).l[(at0).toNat]'hx1_3)).c.l.getD k9 0) (lowK (((T).l[(at0).toNat]'hx1_3)).t low k9) (highK (((T).l[(at0).toNat]'hx1_3)).t (hi + 1) k9 - 1)) hx17_4 hf1).symm), (Mem.none hM17d)⟩
      have hf1 : (fun k9 => fitS (T).t n ((((T).l[(at0).toNat]'hx1_3)).c.l.getD k9 0) (lowK (((T).l[(at0).toNat]'hx1_3)).t low k9) (highK (((T).l[(at0).toNat]'hx1_3)).t (hi + 1) k9 - 1)) k = true := by show fitS _ _ _ _ _ = true; rw [getD_in (show k < (((T).l[(at0).toNat]'hx1_3)).c.l.length from hx17_4)]; simpa using c139
      refine ov 3 [] (a := kaddN (k + 1)) (b := ?_)
      exact le1 2 [] (k + 1) [0, 1] (h := by exact ⟨(by (try dsimp only); omega), (range_all hi1_l9 hf1)⟩)
    refine E1 6 [] (.bool (true)) ?_
    exact ⟨(by rw [hfl, hyd, show (((T).l[(at0).toNat]'hx1_3)).t.kids.length = k from (by show ((((T).l[(at0).toNat]'hx1_3)).c.l).length = k; omega)]; exact congrArg Value.bool hi1_l9.symm), (Mem.none hM_l9)⟩
  have hvk : validK (((T).l[(at0).toNat]'hx1_3)).t.keys = true := by show validK ((((T).l[(at0).toNat]'hx1_3)).k.l) = true; simpa using g24
  have h4 : (((T).l[(at0).toNat]'hx1_3)).t.keys.length ≤ 4 := by show ((((T).l[(at0).toNat]'hx1_3)).k.l).length ≤ 4; omega
  have hai : allIn (((T).l[(at0).toNat]'hx1_3)).t.keys low hi = true := by show allIn ((((T).l[(at0).toNat]'hx1_3)).k.l) low hi = true; simp only [allIn]; simpa using g38
  have hr : at0 = (T).t.root ∨ 2 ≤ (((T).l[(at0).toNat]'hx1_3)).t.keys.length := by first | (left; exact Classical.not_not.1 g43) | (left; simpa using g43) | (right; show 2 ≤ ((((T).l[(at0).toNat]'hx1_3)).k.l).length; omega)
  refine cd 15 [] (fun c51 => ?_) (fun c51 => ?_)
  · have hn0 : n = 0 := by omega
    subst hn0
    refine pp 7 [0] 56 (fun g56 => ?_) (fun g56 => ?_)
    · refine pp 9 [0, 0] 65 (fun g65 => ?_) (fun g65 => ?_)
      · refine cq 2 [0] (vs := [.slice ((((T).l)[(at0).toNat]'hx1_3).v.A) (((((T).l)[(at0).toNat]'hx1_3).v.l).length) ((((T).l)[(at0).toNat]'hx1_3).v.cp), I ((-1000)), I (1000)]) (hvs := (by first | rfl | (rw [show ((((T).l)[(at0).toNat]'hx1_3).v.l).length = (((T).l)[(at0).toNat]'hx1_3).v.l.length from (by first | rfl | (simp; done) | omega | (simp; omega))]; rfl))) (b := allIn_fn ((((T).l)[(at0).toNat]'hx1_3).v.A) ((((T).l)[(at0).toNat]'hx1_3).v.cp) ((((T).l)[(at0).toNat]'hx1_3).v.l) _ _ w2_15 (((hNT.at hM2_15)).2.get hx1_3).2.2 qo) (c := ?_)
        rintro _ w5_16 ⟨rfl, hR5_16⟩
        have hM5_16 := hM2_15.cl 0 hR5_16
        refine E1 4 [] (.bool (((((T).l)[(at0).toNat]'hx1_3).v.l).all (fun a => decide ((-1000) ≤ a) && decide (a ≤ 1000)))) ?_
        exact ⟨(by rw [hfl, fit_y0' hvk h4 hai hr (V := (((T).l[(at0).toNat]'hx1_3)).v.l) (kl := ((((T).l[(at0).toNat]'hx1_3)).k.l).length) (cl := ((((T).l[(at0).toNat]'hx1_3)).c.l).length) rfl rfl rfl]; refine congrArg Value.bool ?_; rw [Bool.eq_iff_iff]; simp only [Bool.and_eq_true, decide_eq_true_eq, reduceCtorEq, true_iff, false_iff, allIn]; first | (rintro ⟨⟨h7, h8⟩, _⟩; omega) | exact ⟨fun h9 => ⟨⟨by omega, by omega⟩, h9⟩, fun h9 => h9.2⟩), (Mem.none hM5_16)⟩
      refine E1 7 [] (.bool (false)) ?_
      exact ⟨(by rw [hfl, fit_y0' hvk h4 hai hr (V := (((T).l[(at0).toNat]'hx1_3)).v.l) (kl := ((((T).l[(at0).toNat]'hx1_3)).k.l).length) (cl := ((((T).l[(at0).toNat]'hx1_3)).c.l).length) rfl rfl rfl]; refine congrArg Value.bool ?_; rw [Bool.eq_iff_iff]; simp only [Bool.and_eq_true, decide_eq_true_eq, reduceCtorEq, true_iff, false_iff, allIn]; first | (rintro ⟨⟨h7, h8⟩, _⟩; omega) | exact ⟨fun h9 => ⟨⟨by omega, by omega⟩, h9⟩, fun h9 => h9.2⟩), (Mem.none hM2_15)⟩
    refine E1 16 [] (.bool (false)) ?_
    exact ⟨(by rw [hfl, fit_y0' hvk h4 hai hr (V := (((T).l[(at0).toNat]'hx1_3)).v.l) (kl := ((((T).l[(at0).toNat]'hx1_3)).k.l).length) (cl := ((((T).l[(at0).toNat]'hx1_3)).c.l).length) rfl rfl rfl]; refine congrArg Value.bool ?_; rw [Bool.eq_iff_iff]; simp only [Bool.and_eq_true, decide_eq_true_eq, reduceCtorEq, true_iff, false_iff, allIn]; first | (rintro ⟨⟨h7, h8⟩, _⟩; omega) | exact ⟨fun h9 => ⟨⟨by omega, by omega⟩, h9⟩, fun h9 => h9.2⟩), (Mem.none hM2_15)⟩
  have hn0 : n ≠ 0 := by omega
  refine pp 9 [0] 74 (fun g74 => ?_) (fun g74 => ?_)
  · refine E1 32 [] (.bool (false)) ?_
    exact ⟨(by rw [hfl, fit_no (h0 := hn0) (by left; show ((((T).l[(at0).toNat]'hx1_3)).k.l).length = 0; omega)]), (Mem.none hM2_15)⟩
  refine pp 6 [0] 80 (fun g80 => ?_) (fun g80 => ?_)
  · refine E1 26 [] (.bool (false)) ?_
    exact ⟨(by rw [hfl, fit_no (h0 := hn0) (by right; left; show ((((T).l[(at0).toNat]'hx1_3)).v.l).length ≠ 0; omega)]), (Mem.none hM2_15)⟩
  refine ov 6 [0, 0] (a := kaddN ((((T).l)[(at0).toNat]'hx1_3).k.l.length + 1)) (b := ?_)
  refine pp 3 [] 90 (fun g90 => ?_) (fun g90 => ?_)
  · refine E1 16 [] (.bool (false)) ?_
    exact ⟨(by rw [hfl, fit_no (h0 := hn0) (by right; right; left; show ((((T).l[(at0).toNat]'hx1_3)).c.l).length ≠ ((((T).l[(at0).toNat]'hx1_3)).k.l).length + 1; omega)]), (Mem.none hM2_15)⟩
  refine ov 5 [0, 1] (a := ksub) (b := ?_)
  refine cq 0 [] (vs := [.slice ((((T).l)[(at0).toNat]'hx1_3).c.A) (((((T).l)[(at0).toNat]'hx1_3).c.l).length) ((((T).l)[(at0).toNat]'hx1_3).c.cp), I (0), I (((((T).l.length : Nat) : Int) - 1))]) (hvs := (by first | rfl | (rw [show ((((T).l)[(at0).toNat]'hx1_3).c.l).length = (((T).l)[(at0).toNat]'hx1_3).c.l.length from (by first | rfl | (simp; done) | omega | (simp; omega))]; rfl))) (b := allIn_fn ((((T).l)[(at0).toNat]'hx1_3).c.A) ((((T).l)[(at0).toNat]'hx1_3).c.cp) ((((T).l)[(at0).toNat]'hx1_3).c.l) _ _ w2_15 (((hNT.at hM2_15)).2.get hx1_3).2.1 qo) (c := ?_)
  rintro _ w6_27 ⟨rfl, hR6_27⟩
  have hM6_27 := hM2_15.cl 0 hR6_27
  refine cn 3 [] (fun c99 => ?_) (fun c99 => ?_)
  · refine E1 5 [] (.bool (false)) ?_
    exact ⟨(by rw [hfl, fit_no (h0 := hn0) (by right; right; right; rw [pages_len]; show allIn ((((T).l[(at0).toNat]'hx1_3)).c.l) 0 _ = false; simp only [allIn]; simpa using c99)]), (Mem.none hM6_27)⟩
  have hyd := fit_yd (T := (T).t) (i := at0) hn0 hvk h4 hai hr (by show ((((T).l[(at0).toNat]'hx1_3)).k.l).length ≠ 0; omega) (by show ((((T).l[(at0).toNat]'hx1_3)).v.l).length = 0; omega) (by show ((((T).l[(at0).toNat]'hx1_3)).c.l).length = ((((T).l[(at0).toNat]'hx1_3)).k.l).length + 1; omega) (by rw [pages_len]; show allIn ((((T).l[(at0).toNat]'hx1_3)).c.l) 0 _ = true; simp only [allIn]; simpa using c99)
  have hal : allIn ((((T).l[(at0).toNat]'hx1_3)).c.l) 0 (((T).l.length : Int) - 1) = true := by simp only [allIn]; simpa using c99
  refine lp1 7 [] (fun (k : Nat) => ([(12, Vi (((k : Nat) : Int)))] : List (Nat × SV))) (fun (k : Nat) => (k ≤ ((((T).l[(at0).toNat]'hx1_3)).c.l).length) ∧ ((List.range k).all (fun k9 => fitS (T).t n ((((T).l[(at0).toNat]'hx1_3)).c.l.getD k9 0) (lowK (((T).l[(at0).toNat]'hx1_3)).t low k9) (highK (((T).l[(at0).toNat]'hx1_3)).t (hi + 1) k9 - 1)) = true)) (fun (k : Nat) => []) (fun (k : Nat) => ((((T).l[(at0).toNat]'hx1_3)).c.l).length - k) [2, 3, 4, 5, 11] [] [0, 1] 0 (fun k σ w_l9 hI hM_l9 => ?_) (h0 := ⟨(Nat.zero_le _), rfl⟩)
  obtain ⟨hi0_l9, hi1_l9⟩ := hI
  refine cd 9 [0] (fun c104 => ?_) (fun c104 => ?_)
  · refine ct0 13 [] (([(13, Vi (lowK (((T).l[(at0).toNat]'hx1_3)).t low k))] : List (Nat × SV))) (True) ([]) [2, 3, 4, 5, 11, 12, 14] [0, 1] ?_ (fun σ w_c110 hI hM_c110 => ?_)
    · refine cd 5 [] (fun c110 => ?_) (fun c110 => ?_)
      · refine ov 4 [0] (a := ksub) (b := ?_)
        have hx14_4 : k - 1 < ((((T).l)[(at0).toNat]'hx1_3).k.l).length := (by first | omega | (simp; omega))
        refine ov 0 [] (a := kixM hx14_4 (((hNT.at hM_l9)).2.get hx1_3).1 (h0 := by omega)) (b := ?_)
        refine ov 0 [] (a := kldM hx14_4 (((hNT.at hM_l9)).2.get hx1_3).1) (b := ?_)
        exact ce0 2 [] [0, 1] (hL := by exact (Has.cons (I_congr (lowK_pos (by omega) (show k - 1 < (((T).l[(at0).toNat]'hx1_3)).t.keys.length from hx14_4)).symm) Has.nil)) (h := by exact trivial)
      exact ce0 1 [] [0, 1] (hL := by exact (Has.cons (I_congr (lowK_zero (by omega)).symm) Has.nil)) (h := by exact trivial)
    refine ct0 0 [] (([(14, Vi ((highK (((T).l[(at0).toNat]'hx1_3)).t (hi + 1) k - 1)))] : List (Nat × SV))) (True) ([]) [2, 3, 4, 5, 11, 12, 13] [0, 1] ?_ (fun σ w_c121 hI hM_c121 => ?_)
    · refine cd 8 [0] (fun c121 => ?_) (fun c121 => ?_)
      · have hx16_3 : k < ((((T).l)[(at0).toNat]'hx1_3).k.l).length := (by first | omega | (simp; omega))
        refine ov 4 [0] (a := kixM hx16_3 (((hNT.at hM_c110)).2.get hx1_3).1) (b := ?_)
        have hkb := validK_bd (show validK ((((T).l[(at0).toNat]'hx1_3)).k.l) = true from hvk) hx16_3
        refine ov 0 [] (a := kldM hx16_3 (((hNT.at hM_c110)).2.get hx1_3).1) (b := ?_)
        refine ov 0 [] (a := ksub) (b := ?_)
        exact ce0 2 [] [0, 1] (hL := by exact (Has.cons (I_congr (by rw [highK_in (show k < (((T).l[(at0).toNat]'hx1_3)).t.keys.length from hx16_3)]; rfl)) Has.nil)) (h := by exact trivial)
      exact ce0 1 [] [0, 1] (hL := by exact (Has.cons (I_congr (by rw [highK_end (show ¬ k < (((T).l[(at0).toNat]'hx1_3)).t.keys.length from (by show ¬ k < ((((T).l[(at0).toNat]'hx1_3)).k.l).length; omega))]; omega)) Has.nil)) (h := by exact trivial)
    refine dr 1 [] ?_
    have hx17_4 : k < ((((T).l)[(at0).toNat]'hx1_3).c.l).length := (by first | omega | (simp; omega))
    refine qv 4 [1, 0] (a := by exact fun _ hw2 => kixM hx17_4 (((hNT.at hw2)).2.get hx1_3).2.1) (b := ?_)
    have hrg := allIn_get hal hx17_4
    refine qv 0 [] (a := by exact fun _ hw2 => kldM hx17_4 (((hNT.at hw2)).2.get hx1_3).2.1) (b := ?_)
    refine qv 3 [] (a := by exact fun _ hw2 => ksub) (b := ?_)
    refine qc 0 [] (X := .bool (fitS (T).t n (((((T).l)[(at0).toNat]'hx1_3).c.l)[k]'hx17_4) (lowK (((T).l[(at0).toNat]'hx1_3)).t low k) (highK (((T).l[(at0).toNat]'hx1_3)).t (hi + 1) k - 1))) (b := by exact fun w2 hw2 => (ih_fn T (((((T).l)[(at0).toNat]'hx1_3).c.l)[k]'hx17_4) (lowK (((T).l[(at0).toNat]'hx1_3)).t low k) (highK (((T).l[(at0).toNat]'hx1_3)).t (hi + 1) k - 1) (dp - 1) w2 (hNT.at hw2) q0 qo qo qo qo).mono fun _ _ h => ⟨h.1, Mem.call0 hw2 h.2⟩) (c := ?_)
    refine qn 1 [] fun w17d hM17d => ?_
    refine cn 0 [] (fun c139 => ?_) (fun c139 => ?_)
    · have hf1 : (fun k9 => fitS (T).t n ((((T).l[(at0).toNat]'hx1_3)).c.l.getD k9 0) (lowK (((T).l[(at0).toNat]'hx1_3)).t low k9) (highK (((T).l[(at0).toNat]'hx1_3)).t (hi + 1) k9 - 1)) k = false := by show fitS _ _ _ _ _ = false; rw [getD_in (show k < (((T).l[(at0).toNat]'hx1_3)).c.l.length from hx17_4)]; simpa using c139
      refine E1 5 [] (.bool (false)) ?_
      exact ⟨(by rw [hfl, hyd]; exact congrArg Value.bool (range_bad (p := fun k9 => fitS (T).t n ((((T).l[(at0).toNat]'hx1_3)).c.l.getD k9 0) (lowK (((T).l[(at0).toNat]'hx1_3)).t low k9) (highK (((T).l[(at0).toNat]'hx1_3)).t (hi + 1) k9 - 1)) hx17_4 hf1).symm), (Mem.none hM17d)⟩
    have hf1 : (fun k9 => fitS (T).t n ((((T).l[(at0).toNat]'hx1_3)).c.l.getD k9 0) (lowK (((T).l[(at0).toNat]'hx1_3)).t low k9) (highK (((T).l[(at0).toNat]'hx1_3)).t (hi + 1) k9 - 1)) k = true := by show fitS _ _ _ _ _ = true; rw [getD_in (show k < (((T).l[(at0).toNat]'hx1_3)).c.l.length from hx17_4)]; simpa using c139
    refine ov 3 [] (a := kaddN (k + 1)) (b := ?_)
    exact le1 2 [] (k + 1) [0, 1] (h := by exact ⟨(by (try dsimp only); omega), (range_all hi1_l9 hf1)⟩)
  refine E1 6 [] (.bool (true)) ?_
  exact ⟨(by rw [hfl, hyd, show (((T).l[(at0).toNat]'hx1_3)).t.kids.length = k from (by show ((((T).l[(at0).toNat]'hx1_3)).c.l).length = k; omega)]; exact congrArg Value.bool hi1_l9.symm), (Mem.none hM_l9)⟩
theorem pageFits_fn : ∀ (n : Nat), ∀ (T : TreeL) (at0 : Int) (low : Int) (hi : Int) (dp : Int) (w : World) (hNT : TrN w T) (hs : SzT T) (hat : 0 ≤ at0 ∧ at0 < ((T).l.length : Int)) (hd : dp = (n : Int)) (h1 : 1 ≤ n) (h3 : n ≤ 3), Does Tryz.prog 90 [.agg #[I ((T).root), .slice ((T).A) ((T).l.length) ((T).cp)], I (at0), I (low), I (hi), I (dp)] w (fun v w1 => v = .bool (fitS (T).t n at0 low hi) ∧ Mem w w1 [] []) := by
  intro n
  induction n with
  | zero => exact pageFits0_fn
  | succ n ih => exact pageFitsS_fn n ih
theorem walk0_fn : ∀ (T : TreeL) (at0 : Int) (lo : Int) (hi : Int) (w : World) (hNT : TrN w T) (hs : SzT T) (hok : okB (T).t 0 at0 lo hi = true) (h3 : 0 ≤ 3), Does Tryz.prog 91 [.agg #[I ((T).root), .slice ((T).A) ((T).l.length) ((T).cp)], I (at0)] w (fun v w1 => ∃ (A1 : Option Addr) (c1 : Nat), v = .slice (A1) (((subT (T).t 0 at0)).length) (c1) ∧ Mem w w1 [] [[⟨.slice (A1) (((subT (T).t 0 at0)).length) (c1), 3, 1, (((subT (T).t 0 at0)).length), ((subT (T).t 0 at0)).map I⟩]]) := by
  intro T at0 lo hi w hNT hs hok h3; simp [okB] at hok
theorem walkS_fn (n : Nat) (ih_fn : ∀ (T : TreeL) (at0 : Int) (lo : Int) (hi : Int) (w : World) (hNT : TrN w T) (hs : SzT T) (hok : okB (T).t n at0 lo hi = true) (h3 : n ≤ 3), Does Tryz.prog 91 [.agg #[I ((T).root), .slice ((T).A) ((T).l.length) ((T).cp)], I (at0)] w (fun v w1 => ∃ (A1 : Option Addr) (c1 : Nat), v = .slice (A1) (((subT (T).t n at0)).length) (c1) ∧ Mem w w1 [] [[⟨.slice (A1) (((subT (T).t n at0)).length) (c1), 3, 1, (((subT (T).t n at0)).length), ((subT (T).t n at0)).map I⟩]])) (T : TreeL) (at0 : Int) (lo : Int) (hi : Int) (w : World) (hNT : TrN w T) (hs : SzT T) (hok : okB (T).t (n + 1) at0 lo hi = true) (h3 : (n + 1) ≤ 3) :
    Does Tryz.prog 91 [.agg #[I ((T).root), .slice ((T).A) ((T).l.length) ((T).cp)], I (at0)] w (fun v w1 => ∃ (A1 : Option Addr) (c1 : Nat), v = .slice (A1) (((subT (T).t (n + 1) at0)).length) (c1) ∧ Mem w w1 [] [[⟨.slice (A1) (((subT (T).t (n + 1) at0)).length) (c1), 3, 1, (((subT (T).t (n + 1) at0)).length), ((subT (T).t (n + 1) at0)).map I⟩]]) := by
  have hM : Mem w w [] [] := Mem.refl
  refine Does.n1 Tryz.func91 rfl Tryz.results91 Tryz.ntmps91 rfl ?_
  have hat := inT_t.1 (okB_in hok)
  have hjx : (at0).toNat < (T).l.length := by omega
  have hki : (gP (T).t at0).kids = ((T).l[(at0).toNat]'hjx).c.l := by rw [gP_at rfl hjx]; rfl
  have hsz := hs.at hjx
  have hsl := sub_len3 hok h3
  have hse : subT (T).t (n + 1) at0 = at0 :: ((T).l[(at0).toNat]'hjx).c.l.flatMap (subT (T).t n) := by simp only [subT]; rw [hki]
  refine Bx 2 [] fun w0_0 b0_0 hb0_0 hM0_0 => ?_
  refine Lt 5 [] (([at0]).map I) (fun w1_1 b1_1 hb1_1 hM1_1 => ?_)
  have hq1 : ([at0] : List Int) = at0 :: ((((T).l[(at0).toNat]'hjx).c.l).take 0).flatMap (subT (T).t n) := (by simp)
  have hMn1 := hM1_1.reM 0 hq1
  refine lp3 8 [] (fun (k : Nat) (A2 : Option Addr) (c2 : Nat) => ([(5, Vl (A2) ((at0 :: ((((T).l[(at0).toNat]'hjx).c.l).take k).flatMap (subT (T).t n)).length) (c2)), (6, Vi (((k : Nat) : Int)))] : List (Nat × SV))) (fun (k : Nat) (A2 : Option Addr) (c2 : Nat) => (k ≤ (((T).l[(at0).toNat]'hjx).c.l).length)) (fun (k : Nat) (A2 : Option Addr) (c2 : Nat) => [[⟨.slice (A2) ((at0 :: ((((T).l[(at0).toNat]'hjx).c.l).take k).flatMap (subT (T).t n)).length) (c2), 3, 1, ((at0 :: ((((T).l[(at0).toNat]'hjx).c.l).take k).flatMap (subT (T).t n)).length), (at0 :: ((((T).l[(at0).toNat]'hjx).c.l).take k).flatMap (subT (T).t n)).map I⟩]]) (fun (k : Nat) (A2 : Option Addr) (c2 : Nat) => (((T).l[(at0).toNat]'hjx).c.l).length - k) [1, 2] [0] [1] 0 (bl b1_1) 1 (fun k A2 c2 σ w_l3 hI hM_l3 => ?_) (h0 := (Nat.zero_le _))
  have hi0_l3 := hI
  have hcl0_l3 := (hM_l3.cap 0 rfl).1
  have hx3_4 : (at0).toNat < ((T).l).length := (by first | omega | (simp; omega))
  refine ov 7 [1] (a := kixF hx3_4 (hNT.at hM_l3).1) (b := ?_)
  refine ov 0 [] (a := kflF hx3_4 (hNT.at hM_l3).1) (b := ?_)
  refine ov 0 [] (a := kldF hx3_4 (hNT.at hM_l3).1) (b := ?_)
  refine cd 3 [] (fun c17 => ?_) (fun c17 => ?_)
  · refine any 3 [] 14 [1] fun w5a hM5a => ?_
    have hx5_5 : (at0).toNat < ((T).l).length := (by first | omega | (simp; omega))
    refine av [0, 1, 2, 3, 4] [0, 0] 5 (a := by exact fun _ hw2 => kixF hx5_5 (hNT.at hM5a).1) (b := ?_)
    refine av [] [] 6 (a := by exact fun _ hw2 => kflF hx5_5 (hNT.at hM5a).1) (b := ?_)
    refine aO [8] [] 7 ?_
    refine ov 0 [] (a := kldF hx5_5 (hNT.at hM5a).1) (b := ?_)
    refine os 0 [] [1] ?_
    have hx5_9 : k < ((((T).l)[(at0).toNat]'hx5_5).c.l).length := (by first | omega | (simp; omega))
    refine av [] [] 9 (a := by exact fun _ hw2 => kixM hx5_9 (((hNT.at hM5a)).2.get hx5_5).2.1) (b := ?_)
    have hok1 := ok_kid hok (k := k) (by rw [hki]; exact hx5_9)
    simp only [hki] at hok1
    have hsl1 := sub_len3 hok1 (by omega)
    have hfs := flat_snoc (f := subT (T).t n) hx5_9
    refine aO [] [] 10 ?_
    refine ov 0 [] (a := kldM hx5_9 (((hNT.at hM5a)).2.get hx5_5).2.1) (b := ?_)
    refine os 0 [] [1] ?_
    refine aO [] [] 11 ?_
    refine cq 0 [] (b := ih_fn T _ _ _ w5a (hNT.at hM5a) q0 (by exact hok1) qo) (c := ?_)
    rintro _ w5_11 ⟨A15_11, c15_11, rfl, hR5_11⟩
    have hM5_11 := hM5a.cl 0 hR5_11
    have hcr5_11_0 := (hM5_11.cap 0 rfl).1
    refine os 0 [] [2] ?_
    refine aO [] [] 12 ?_
    refine aM 0 [] 1 (hM5_11.rd 0 rfl) (fun w5_12 A5_12 c5_12 hc5_12 hM5_12 => ?_) (hn := by have h8 := congrArg List.length hse; have h9 := congrArg List.length hfs; have h7 := flat_le (f := subT (T).t n) hx5_9; simp only [List.length_append, List.length_cons] at h8 h9 h7 ⊢; omega) (hb := by have h8 := congrArg List.length hse; have h9 := congrArg List.length hfs; have h7 := flat_le (f := subT (T).t n) hx5_9; simp only [List.length_append, List.length_cons] at h8 h9 h7 ⊢; omega)
    refine os 0 [] [2] ?_
    refine an [13] [] ?_
    refine ov 2 [] (a := kaddN (k + 1)) (b := ?_)
    have hq2 : (at0 :: ((((T).l[(at0).toNat]'hjx).c.l).take k).flatMap (subT (T).t n) ++ (subT (T).t n (((((T).l)[(at0).toNat]'hx5_5).c.l)[k]'hx5_9)) : List Int) = at0 :: ((((T).l[(at0).toNat]'hjx).c.l).take (k + 1)).flatMap (subT (T).t n) := (by rw [← hfs]; simp)
    have hMn2 := hM5_12.reM 1 hq2
    exact le3 2 [] (k + 1) A5_12 c5_12 [1, 2] (h := by exact (by (try dsimp only); omega))
  refine E1 7 [] (.slice (A2) ((at0 :: ((((T).l[(at0).toNat]'hjx).c.l).take k).flatMap (subT (T).t n)).length) (c2)) ?_
  have hkk : (((T).l[(at0).toNat]'hjx).c.l).take k = ((T).l[(at0).toNat]'hjx).c.l := List.take_of_length_le (by omega)
  have hq3 : (at0 :: ((((T).l[(at0).toNat]'hjx).c.l).take k).flatMap (subT (T).t n) : List Int) = (subT (T).t (n + 1) at0) := (by rw [hse, hkk])
  have hMn3 := hM_l3.reM 0 hq3
  exact ⟨A2, c2, (sl_congr (by rw [hse, hkk])), (hMn3.pk [0])⟩
theorem walk_fn : ∀ (n : Nat), ∀ (T : TreeL) (at0 : Int) (lo : Int) (hi : Int) (w : World) (hNT : TrN w T) (hs : SzT T) (hok : okB (T).t n at0 lo hi = true) (h3 : n ≤ 3), Does Tryz.prog 91 [.agg #[I ((T).root), .slice ((T).A) ((T).l.length) ((T).cp)], I (at0)] w (fun v w1 => ∃ (A1 : Option Addr) (c1 : Nat), v = .slice (A1) (((subT (T).t n at0)).length) (c1) ∧ Mem w w1 [] [[⟨.slice (A1) (((subT (T).t n at0)).length) (c1), 3, 1, (((subT (T).t n at0)).length), ((subT (T).t n at0)).map I⟩]]) := by
  intro n
  induction n with
  | zero => exact walk0_fn
  | succ n ih => exact walkS_fn n ih
set_option maxHeartbeats 4000000 in
theorem svalidTree_fn (T : TreeL) (w : World) (hNT : TrN w T) (hs : SzT T) :
    Does Tryz.prog 46 [.agg #[I ((T).root), .slice ((T).A) ((T).l.length) ((T).cp)]] w (fun v w1 => v = .bool (validT (T).t) ∧ Mem w w1 [] []) := by
  have hM : Mem w w [] [] := Mem.refl
  refine Does.n1 Tryz.func46 rfl Tryz.results46 Tryz.ntmps46 rfl ?_
  refine Bx 2 [] fun w0_0 b0_0 hb0_0 hM0_0 => ?_
  have hvr := valid_ref (T := (T).t)
  have hs1 := hs.1
  refine dr 4 [] ?_
  refine qc 3 [0] (X := .bool (decide (1 ≤ (((T).l.length : Nat) : Int)) && decide ((((T).l.length : Nat) : Int) ≤ 16))) (b := by exact fun w2 hw2 => (inRange_fn (((T).l.length : Nat) : Int) 1 16 w2 ).mono fun _ _ h => ⟨h.1, Mem.call0 hw2 h.2⟩) (c := ?_)
  refine qt 2 [] 10 (fun g10 => ?_) (fun g10 => ?_)
  · refine qn 23 [] fun w1d hM1d => ?_
    refine E1 6 [] (.bool (false)) ?_
    exact ⟨(by rw [hvr, show (decide (1 ≤ (T).t.pages.length) && decide ((T).t.pages.length ≤ 16)) = false from (by rw [pages_len, Bool.and_eq_false_iff, decide_eq_false_iff_not, decide_eq_false_iff_not]; simp at g10; omega)]; simp), (Mem.none hM1d)⟩
  have hl16 : 1 ≤ (T).t.pages.length ∧ (T).t.pages.length ≤ 16 := by rw [pages_len]; simp at g10; omega
  refine qv 5 [0, 0] (a := by exact fun _ hw2 => ksub) (b := ?_)
  refine qc 0 [] (X := .bool (decide (0 ≤ ((T).root)) && decide (((T).root) ≤ ((((T).l.length : Nat) : Int) - 1)))) (b := by exact fun w2 hw2 => (inRange_fn ((T).root) 0 ((((T).l.length : Nat) : Int) - 1) w2 ).mono fun _ _ h => ⟨h.1, Mem.call0 hw2 h.2⟩) (c := ?_)
  refine qt 3 [] 20 (fun g20 => ?_) (fun g20 => ?_)
  · refine qn 13 [] fun w1d hM1d => ?_
    refine E1 6 [] (.bool (false)) ?_
    exact ⟨(by rw [hvr, show inT (T).t (T).t.root = false from (by cases h9 : inT (T).t (T).t.root with | false => rfl | true => (have h8 := inT_t.1 h9; have h7 : 0 ≤ (T).root ∧ (T).root < _ := h8; exfalso; simp at g20; omega))]; simp), (Mem.none hM1d)⟩
  have hin : inT (T).t (T).t.root = true := inT_t.2 (by simp at g20; show 0 ≤ (T).root ∧ (T).root < _; omega)
  have hrt : 0 ≤ (T).root ∧ (T).root < ((T).l.length : Int) := inT_t.1 hin
  refine qc 1 [0] (X := I (((heightT (T).t : Nat) : Int))) (b := by exact fun w2 hw2 => (heightOf_fn T w2 (hNT.at hw2) q0).mono fun _ _ h => ⟨h.1, Mem.call0 hw2 h.2⟩) (c := ?_)
  refine qp 3 [] 25 (fun g25 => ?_) (fun g25 => ?_)
  · refine qn 8 [] fun w1d hM1d => ?_
    refine E1 6 [] (.bool (false)) ?_
    exact ⟨(by rw [hvr, show decide (heightT (T).t ≤ 3) = false from decide_eq_false (by omega)]; simp), (Mem.none hM1d)⟩
  have hh3 : heightT (T).t ≤ 3 := by omega
  refine qc 4 [0, 0, 0] (X := I (((heightT (T).t : Nat) : Int))) (b := by exact fun w2 hw2 => (heightOf_fn T w2 (hNT.at hw2) q0).mono fun _ _ h => ⟨h.1, Mem.call0 hw2 h.2⟩) (c := ?_)
  refine qc 0 [] (X := .bool (fitS (T).t (heightT (T).t) ((T).root) 0 99)) (b := by exact fun w2 hw2 => (pageFits_fn (heightT (T).t) T ((T).root) 0 99 ((heightT (T).t : Nat) : Int) w2 (hNT.at hw2) q0 qo (by rfl) (by exact height_1) (by exact hh3)).mono fun _ _ h => ⟨h.1, Mem.call0 hw2 h.2⟩) (c := ?_)
  refine qn 2 [] fun w1d hM1d => ?_
  refine cn 0 [] (fun c33 => ?_) (fun c33 => ?_)
  · refine E1 5 [] (.bool (false)) ?_
    exact ⟨(by rw [hvr, show fitS (T).t (heightT (T).t) (T).t.root 0 99 = false from (show fitS (T).t (heightT (T).t) (T).root 0 99 = false from (by simpa using c33))]; simp), (Mem.none hM1d)⟩
  have hft : fitS (T).t (heightT (T).t) (T).root 0 99 = true := by simpa using c33
  have hok : okB (T).t (heightT (T).t) (T).root 0 100 = true := (fit_ok (d := heightT (T).t) (low := 0) (hi := 99) hin).symm.trans hft
  have hsl := sub_len3 hok hh3
  have hve : validT (T).t = (decide (subT (T).t (heightT (T).t) (T).root).Nodup && decide ((subT (T).t (heightT (T).t) (T).root).length = (T).t.pages.length)) := by rw [hvr]; simp only [hl16.1, hl16.2, hin, hh3, decide_true, Bool.true_and]; rw [show fitS (T).t (heightT (T).t) (T).t.root 0 99 = true from hft]; rfl
  refine cq 6 [0, 0] (b := walk_fn (heightT (T).t) T _ 0 100 w1d (hNT.at hM1d) q0 (by exact hok) (by exact hh3)) (c := ?_)
  rintro _ w3_3 ⟨A13_3, c13_3, rfl, hR3_3⟩
  have hM3_3 := hM1d.cl 0 hR3_3
  have hcr3_3_0 := (hM3_3.cap 0 rfl).1
  refine lp1 8 [] (fun (k : Nat) => ([(4, Vi (((k : Nat) : Int)))] : List (Nat × SV))) (fun (k : Nat) => (k ≤ (subT (T).t (heightT (T).t) (T).root).length) ∧ (((subT (T).t (heightT (T).t) (T).root).take k).Nodup)) (fun (k : Nat) => []) (fun (k : Nat) => (subT (T).t (heightT (T).t) (T).root).length - k) [1, 3] [] [0, 1] 0 (fun k σ w_l5 hI hM_l5 => ?_) (h0 := ⟨(Nat.zero_le _), (by (try dsimp only); simp)⟩)
  obtain ⟨hi0_l5, hi1_l5⟩ := hI
  have hcl0_l5 := (hM_l5.cap 0 rfl).1
  refine cd 8 [] (fun c41 => ?_) (fun c41 => ?_)
  · refine dr 4 [] ?_
    have hcp7_2 := hM_l5.cap 0 rfl
    refine qv 2 [] (s := Vl (A13_3) ((((subT (T).t (heightT (T).t) ((T).root))).take (k)).length) (c13_3)) (a := by exact fun w2 hw2 => cv (Ru.congr (v := .slice (A13_3) (k) (c13_3)) (v' := .slice (A13_3) ((((subT (T).t (heightT (T).t) ((T).root))).take (k)).length) (c13_3)) (Ru.lsliceTo (h := k) Tryz.underlying30 el3 rfl rfl (by omega) (by omega)) (sl_congr (by first | rfl | (simp; done) | omega | (simp; omega)))) rfl) (b := ?_)
    have hx7_5 : k < ((subT (T).t (heightT (T).t) ((T).root))).length := (by first | omega | (simp; omega))
    refine qv 2 [] (a := by exact fun _ hw2 => kixM hx7_5 (hw2.rd 0 rfl)) (b := ?_)
    refine qv 0 [] (a := by exact fun _ hw2 => kldM hx7_5 (hw2.rd 0 rfl)) (b := ?_)
    refine qc 0 [] (X := .bool (decide ((((subT (T).t (heightT (T).t) ((T).root)))[k]'hx7_5) ∈ (((subT (T).t (heightT (T).t) ((T).root))).take (k))))) (b := by exact fun w2 hw2 => (isIn_fn A13_3 c13_3 (((subT (T).t (heightT (T).t) ((T).root))).take (k)) (((subT (T).t (heightT (T).t) ((T).root)))[k]'hx7_5) w2 (rd_take1 (hw2.rd 0 rfl)) (by simp; omega)).mono fun _ _ h => ⟨h.1, Mem.call0 hw2 h.2⟩) (c := ?_)
    refine qn 0 [] fun w7d hM7d => ?_
    refine cb 0 [] (fun c51 => ?_) (fun c51 => ?_)
    · refine E1 5 [] (.bool (false)) ?_
      exact ⟨(by rw [hve, decide_eq_false (nodup_bad hx7_5 (by simpa using c51))]; rfl), (Mem.none hM7d)⟩
    refine ov 3 [] (a := kaddN (k + 1)) (b := ?_)
    exact le1 2 [] (k + 1) [0, 1] (h := by exact ⟨(by (try dsimp only); omega), (nodup_step hx7_5 hi1_l5 (by simpa using c51))⟩)
  refine E1 12 [1] (.bool (decide (((((subT (T).t (heightT (T).t) ((T).root))).length : Nat) : Int) = (((T).l.length : Nat) : Int)))) ?_
  exact ⟨(by rw [hve, decide_eq_true (show (subT (T).t (heightT (T).t) (T).root).Nodup by rwa [List.take_of_length_le (by omega)] at hi1_l5), pages_len]; refine congrArg Value.bool ?_; rw [Bool.true_and]; exact decide_eq_decide.2 (by omega)), (Mem.none hM_l5)⟩
end Go.Proofs.YtemejgglbhjodaaGreatDoor
end
section
namespace Go.Proofs.YtemejgglbhjodaaGreatDoor
open Go.Px
theorem rowOf_fn (p : PgL) (w : World) (hNp : PgN w p) (hk : (p).k.l.length ≤ 1048576) (hv : (p).v.l.length = (p).k.l.length) :
    Does Tryz.prog 49 [.agg #[.slice ((p).k.A) ((p).k.l.length) ((p).k.cp), .slice ((p).c.A) ((p).c.l.length) ((p).c.cp), .slice ((p).v.A) ((p).v.l.length) ((p).v.cp)]] w (fun v w1 => ∃ (A1 : Option Addr) (c1 : Nat), v = .slice (A1) ((prsP (p).t).length) (c1) ∧ Mem w w1 [] [[⟨.slice (A1) ((prsP (p).t).length) (c1), 27, 2, ((prsP (p).t).length), (prsP (p).t).flatMap encP⟩]]) := by
  have hM : Mem w w [] [] := Mem.refl
  refine Does.n1 Tryz.func49 rfl Tryz.results49 Tryz.ntmps49 rfl ?_
  refine Bx 2 [] fun w0_0 b0_0 hb0_0 hM0_0 => ?_
  refine Lt 4 [] (([]).flatMap encP) (fun w1_0 b1_0 hb1_0 hM1_0 => ?_)
  have hq1 : ([] : List PairT) = (prsP (p).t).take 0 := (by first | rfl | simp | (simp; omega))
  have hMn1 := hM1_0.reF 0 hq1 (f := encP)
  refine lp3 8 [] (fun (k : Nat) (A2 : Option Addr) (c2 : Nat) => ([(3, Vl (A2) (((prsP (p).t).take k).length) (c2)), (4, Vi (((k : Nat) : Int)))] : List (Nat × SV))) (fun (k : Nat) (A2 : Option Addr) (c2 : Nat) => (k ≤ (p).k.l.length)) (fun (k : Nat) (A2 : Option Addr) (c2 : Nat) => [[⟨.slice (A2) (((prsP (p).t).take k).length) (c2), 27, 2, (((prsP (p).t).take k).length), ((prsP (p).t).take k).flatMap encP⟩]]) (fun (k : Nat) (A2 : Option Addr) (c2 : Nat) => (p).k.l.length - k) [1] [0] [1] 0 (bl b1_0) 0 (fun k A2 c2 σ w_l3 hI hM_l3 => ?_) (h0 := (Nat.zero_le _))
  have hi0_l3 := hI
  have hcl0_l3 := (hM_l3.cap 0 rfl).1
  refine cd 9 [1] (fun c10 => ?_) (fun c10 => ?_)
  · refine any 3 [] 15 [1] fun w5a hM5a => ?_
    have hx5_4 : k < ((p).k.l).length := (by first | omega | (simp; omega))
    refine av [0, 1, 2, 3] [0] 4 (a := by exact fun _ hw2 => kixM hx5_4 (hNp.at hM5a).1) (b := ?_)
    have hx5_9 : k < ((p).v.l).length := (by first | omega | (simp; omega))
    refine av [6, 7, 8] [0] 9 (a := by exact fun _ hw2 => kixM hx5_9 (hNp.at hM5a).2.2) (b := ?_)
    refine aT [] [] 5 10 ?_ ?_
    · refine ov 0 [] (a := kldM hx5_4 (hNp.at hM5a).1) (b := ?_)
      refine os 0 [] [1] ?_
      refine aO [] [] 10 ?_
      refine ov 0 [] (a := kldM hx5_9 (hNp.at hM5a).2.2) (b := ?_)
      refine os 0 [] [1] ?_
      refine aO [11] [] 12 ?_
      refine Lt 0 [] (([(⟨((p).k.l)[k]'hx5_4, ((p).v.l)[k]'hx5_9⟩ : PairT)]).flatMap encP) (fun w5_12 b5_12 hb5_12 hM5_12 => ?_)
      refine os 0 [] [2] ?_
      refine aO [] [] 13 ?_
      refine aF 0 [] 1 (hM5_12.rd 0 rfl) (fun w5_13 A5_13 c5_13 hc5_13 hM5_13 => ?_) (hn := by first | omega | (simp; omega)) (hb := by first | omega | (simp; omega))
      refine os 0 [] [2] ?_
      refine an [14] [] ?_
      refine ov 2 [] (a := kaddN (k + 1)) (b := ?_)
      have hq2 : ((prsP (p).t).take k ++ [(⟨((p).k.l)[k]'hx5_4, ((p).v.l)[k]'hx5_9⟩ : PairT)] : List PairT) = (prsP (p).t).take (k + 1) := (prs_snoc hx5_4 hx5_9)
      have hMn2 := hM5_13.reF 1 hq2
      exact le3 2 [] (k + 1) A5_13 c5_13 [1, 2] (h := by exact (by (try dsimp only); omega))
    refine ov 0 [] (a := kldM hx5_9 (hNp.at hM5a).2.2) (b := ?_)
    refine os 0 [] [1] ?_
    refine aO [] [] 5 ?_
    refine ov 0 [] (a := kldM hx5_4 (hNp.at hM5a).1) (b := ?_)
    refine os 0 [] [1] ?_
    refine aO [11] [] 12 ?_
    refine Lt 0 [] (([(⟨((p).k.l)[k]'hx5_4, ((p).v.l)[k]'hx5_9⟩ : PairT)]).flatMap encP) (fun w5_12 b5_12 hb5_12 hM5_12 => ?_)
    refine os 0 [] [2] ?_
    refine aO [] [] 13 ?_
    refine aF 0 [] 1 (hM5_12.rd 0 rfl) (fun w5_13 A5_13 c5_13 hc5_13 hM5_13 => ?_) (hn := by first | omega | (simp; omega)) (hb := by first | omega | (simp; omega))
    refine os 0 [] [2] ?_
    refine an [14] [] ?_
    refine ov 2 [] (a := kaddN (k + 1)) (b := ?_)
    have hq3 : ((prsP (p).t).take k ++ [(⟨((p).k.l)[k]'hx5_4, ((p).v.l)[k]'hx5_9⟩ : PairT)] : List PairT) = (prsP (p).t).take (k + 1) := (prs_snoc hx5_4 hx5_9)
    have hMn3 := hM5_13.reF 1 hq3
    exact le3 2 [] (k + 1) A5_13 c5_13 [1, 2] (h := by exact (by (try dsimp only); omega))
  refine E1 7 [] (.slice (A2) (((prsP (p).t).take k).length) (c2)) ?_
  have hq4 : ((prsP (p).t).take k : List PairT) = prsP (p).t := (prs_take (by omega))
  have hMn4 := hM_l3.reF 0 hq4
  exact ⟨A2, c2, (sl_congr (by rw [prs_take (by omega)])), (hMn4.pk [0])⟩
theorem pairsOfLeaf_fn (p : PgL) (w : World) (hNp : PgN w p) (hk : (p).k.l.length ≤ 1048576) (hv : (p).v.l.length = (p).k.l.length) :
    Does Tryz.prog 35 [.agg #[.slice ((p).k.A) ((p).k.l.length) ((p).k.cp), .slice ((p).c.A) ((p).c.l.length) ((p).c.cp), .slice ((p).v.A) ((p).v.l.length) ((p).v.cp)]] w (fun v w1 => ∃ (A1 : Option Addr) (c1 : Nat), v = .slice (A1) ((prsP (p).t).length) (c1) ∧ Mem w w1 [] [[⟨.slice (A1) ((prsP (p).t).length) (c1), 27, 2, ((prsP (p).t).length), (prsP (p).t).flatMap encP⟩]]) := by
  have hM : Mem w w [] [] := Mem.refl
  refine Does.n1 Tryz.func35 rfl Tryz.results35 Tryz.ntmps35 rfl ?_
  refine Bx 2 [] fun w0_0 b0_0 hb0_0 hM0_0 => ?_
  refine go 7 [0] ?_
  refine O.mmake (k := (p).k.l.length) (sz := 2) (xs := (List.replicate ((p).k.l.length) (⟨0, 0⟩ : PairT)).flatMap encP) hM0_0 rfl Tryz.underlying43 el27 rfl rfl rfl rfl (by omega) (by omega) (zer_flat rfl) (fun w1_3 b1_3 hb1_3 hM1_3 => ?_)
  have hq1 : (List.replicate ((p).k.l.length) (⟨0, 0⟩ : PairT) : List PairT) = (prsP (p).t).take 0 ++ List.replicate ((p).k.l.length - 0) (⟨0, 0⟩ : PairT) := (by simp)
  have hMn1 : Mem w w1_3 [] [[⟨.slice (bl b1_3) ((p).k.l.length) ((p).k.l.length), 27, 2, ((p).k.l.length), ((prsP (p).t).take 0 ++ List.replicate ((p).k.l.length - 0) (⟨0, 0⟩ : PairT)).flatMap encP⟩], [⟨.slice (bl b0_0) 1 1, 42, 3, 1, [.slice ((p).k.A) ((p).k.l.length) ((p).k.cp), .slice ((p).c.A) ((p).c.l.length) ((p).c.cp), .slice ((p).v.A) ((p).v.l.length) ((p).v.cp)]⟩]] := hM1_3.relen 0 (n' := (p).k.l.length) (xs' := ((prsP (p).t).take 0 ++ List.replicate ((p).k.l.length - 0) (⟨0, 0⟩ : PairT)).flatMap encP) rfl (by first | rfl | exact congrArg List.length hq1 | (have hqq := congrArg List.length hq1; first | omega | (simp at hqq ⊢; omega)) | (simp; done) | (simp; omega)) (congrArg (fun z_ => (z_).flatMap encP) hq1) rfl
  refine lp1 11 [1] (fun (k : Nat) => ([(3, Vl (bl b1_3) ((p).k.l.length) ((p).k.l.length)), (13, Vi (((k : Nat) : Int)))] : List (Nat × SV))) (fun (k : Nat) => (k ≤ (p).k.l.length)) (fun (k : Nat) => [[⟨.slice (bl b1_3) ((p).k.l.length) ((p).k.l.length), 27, 2, ((p).k.l.length), ((prsP (p).t).take k ++ List.replicate ((p).k.l.length - k) (⟨0, 0⟩ : PairT)).flatMap encP⟩]]) (fun (k : Nat) => (p).k.l.length - k) [1, 11, 12] [0] [1] 0 (fun k σ w_l3 hI hM_l3 => ?_) (h0 := (Nat.zero_le _))
  have hi0_l3 := hI
  have hcl0_l3 := (hM_l3.cap 0 rfl).1
  refine cd 5 [] (fun c14 => ?_) (fun c14 => ?_)
  · have hx4_1 : k < ((p).k.l).length := (by first | omega | (simp; omega))
    refine ov 6 [] (a := kixM hx4_1 (hNp.at hM_l3).1) (b := ?_)
    refine ov 0 [] (a := kldM hx4_1 (hNp.at hM_l3).1) (b := ?_)
    have hx5_6 : k < ((p).v.l).length := (by first | omega | (simp; omega))
    refine ov 10 [1] (a := kixM hx5_6 (hNp.at hM_l3).2.2) (b := ?_)
    refine ov 0 [] (a := kldM hx5_6 (hNp.at hM_l3).2.2) (b := ?_)
    have hx5_9 : k < ((prsP (p).t).take k ++ List.replicate ((p).k.l.length - k) (⟨0, 0⟩ : PairT)).length := (by rw [List.length_append, List.length_take, List.length_replicate, prs_len]; show k < min k (p).k.l.length + ((p).k.l.length - k); omega)
    refine ov 1 [] (a := kixF hx5_9 (hM_l3.rd 0 rfl) (h0 := by omega)) (b := ?_)
    refine sF 0 [] 0 (⟨((p).k.l)[k]'hx4_1, ((p).v.l)[k]'hx5_6⟩ : PairT) hx5_9 fun w5_10 hM5_10 => ?_
    refine ov 2 [] (a := kaddN (k + 1)) (b := ?_)
    have hq2 : (((prsP (p).t).take k ++ List.replicate ((p).k.l.length - k) (⟨0, 0⟩ : PairT)).set (k) (⟨((p).k.l)[k]'hx4_1, ((p).v.l)[k]'hx5_6⟩ : PairT) : List PairT) = (prsP (p).t).take (k + 1) ++ List.replicate ((p).k.l.length - (k + 1)) (⟨0, 0⟩ : PairT) := (prs_set hx4_1 hx5_6)
    have hMn2 : Mem w w5_10 [] [[⟨.slice (bl b1_3) ((p).k.l.length) ((p).k.l.length), 27, 2, ((p).k.l.length), ((prsP (p).t).take (k + 1) ++ List.replicate ((p).k.l.length - (k + 1)) (⟨0, 0⟩ : PairT)).flatMap encP⟩], [⟨.slice (bl b0_0) 1 1, 42, 3, 1, [.slice ((p).k.A) ((p).k.l.length) ((p).k.cp), .slice ((p).c.A) ((p).c.l.length) ((p).c.cp), .slice ((p).v.A) ((p).v.l.length) ((p).v.cp)]⟩]] := hM5_10.relen 0 (n' := (p).k.l.length) (xs' := ((prsP (p).t).take (k + 1) ++ List.replicate ((p).k.l.length - (k + 1)) (⟨0, 0⟩ : PairT)).flatMap encP) rfl (by first | rfl | exact congrArg List.length hq2 | (have hqq := congrArg List.length hq2; first | omega | (simp at hqq ⊢; omega)) | (simp; done) | (simp; omega)) (congrArg (fun z_ => (z_).flatMap encP) hq2) rfl
    exact le1 2 [] (k + 1) [0, 1] (h := by exact (by (try dsimp only); omega))
  refine E1 7 [] (.slice (bl b1_3) ((p).k.l.length) ((p).k.l.length)) ?_
  have hke : k = (p).k.l.length := by omega
  have hq3 : ((prsP (p).t).take k ++ List.replicate ((p).k.l.length - k) (⟨0, 0⟩ : PairT) : List PairT) = prsP (p).t := (by rw [prs_take (by omega), show (p).k.l.length - k = 0 by omega]; simp)
  have hMn3 := hM_l3.reF 0 hq3
  exact ⟨bl b1_3, (p).k.l.length, (sl_congr (by rw [prs_len]; rfl)), (hMn3.pk [0])⟩
theorem listText_fn (A : Option Addr) (c : Nat) (l : List Int) (w : World) (hA : Rd w A ((l).map I)) (hl : l.length ≤ 1000) (hb : ∀ x ∈ l, -99999 ≤ x ∧ x ≤ 99999) (htab : TAB w) :
    Does Tryz.prog 44 [.slice (A) ((l).length) (c)] w (fun v w1 => v = S (fmtI l) ∧ Mem w w1 [] []) := by
  have hM : Mem w w [] [] := Mem.refl
  refine Does.n1 Tryz.func44 rfl Tryz.results44 Tryz.ntmps44 rfl ?_
  refine Al 6 [] fun w1_0 b1_0 hb1_0 hM1_0 => ?_
  have hMn1 := Mem.addNil (e := 5) (sz := 1) hM1_0
  have hq2 : ([] : List UInt8) = fmtI (l.take 0) := (by simp [fmtI])
  have hMn2 := hMn1.reM 0 hq2 (f := byteV)
  have hMn3 := hMn2.reB 1 1 (show 0 = (fmtI (l.take 0)).length from (by simp [fmtI]))
  refine lp4 9 [] (fun (k : Nat) (pv : Value) (A2 : Option Addr) (c2 : Nat) => ([(8, Vi (((k : Nat) : Int)))] : List (Nat × SV))) (fun (k : Nat) (pv : Value) (A2 : Option Addr) (c2 : Nat) => (k ≤ l.length) ∧ (pv = .pointer none ∨ pv = .pointer (ofs (bl b1_0) 0))) (fun (k : Nat) (pv : Value) (A2 : Option Addr) (c2 : Nat) => [[⟨.slice (A2) ((fmtI (l.take k)).length) (c2), 5, 1, ((fmtI (l.take k)).length), (fmtI (l.take k)).map byteV⟩], [⟨.slice (bl b1_0) 1 1, 93, 2, 1, [(pv), .slice (A2) ((fmtI (l.take k)).length) (c2)]⟩]]) (fun (k : Nat) (pv : Value) (A2 : Option Addr) (c2 : Nat) => l.length - k) [3, 6, 7] [0, 1] [] 0 ((.pointer none) : Value) none 0 (fun k pv A2 c2 σ w_l3 hI hM_l3 => ?_) (h0 := ⟨(Nat.zero_le _), (.inl rfl)⟩)
  obtain ⟨hi0_l3, hi1_l3⟩ := hI
  have hcl0_l3 := (hM_l3.cap 0 rfl).1
  refine cd 5 [] (fun c9 => ?_) (fun c9 => ?_)
  · have hkl : k < l.length := by omega
    have hxb := hb _ (List.getElem_mem hkl)
    have hfl := fmtI_len (l := l) (fun x hx => by have := hb x hx; omega) k (by omega)
    have hfe := fmtI_take hkl
    have hil := itoa_len (n := l[k]) (by omega) (by omega)
    have hx4_1 : k < (l).length := (by first | omega | (simp; omega))
    refine ov 6 [] (a := kixM hx4_1 (hA.at hM_l3)) (b := ?_)
    refine ov 0 [] (a := kldM hx4_1 (hA.at hM_l3)) (b := ?_)
    refine cd 9 [] (fun c14 => ?_) (fun c14 => ?_)
    · have hk0 : k ≠ 0 := by omega
      have hMf6_0 := hM_l3.pk [1, 0]
      refine cq 1 [] (b := WriteByte_fn b1_0 A2 c2 (fmtI (l.take k)) (pv) (44 : UInt8) w_l3 (hMf6_0.fp [0, 1] rfl rfl) (by first | exact .inl rfl | exact .inr rfl | assumption) (by first | omega | (simp; omega))) (c := ?_)
      rintro _ w6_0 ⟨A16_0, c16_0, rfl, hR6_0⟩
      have hM6_0 := hMf6_0.cl 2 hR6_0
      have hcr6_0_1 := (hM6_0.cap 1 rfl).1
      refine cp 3 [] (b := Itoa_fn _ w6_0 (tab_at htab hM6_0) (by constructor <;> omega)) (c := fun w7_1 hM7_1 => ?_)
      refine cq 0 [] (b := WriteString_fn b1_0 A16_0 c16_0 ((fmtI (l.take k)) ++ [(44 : UInt8)]) (.pointer (ofs (bl b1_0) (0))) _ w7_1 (hM7_1.fp [0, 1] rfl rfl) (by first | exact .inl rfl | exact .inr rfl | assumption) (by first | omega | (simp; omega))) (c := ?_)
      rintro _ w7_2 ⟨A17_2, c17_2, rfl, hR7_2⟩
      have hM7_2 := hM7_1.cl 2 hR7_2
      have hcr7_2_1 := (hM7_2.cap 1 rfl).1
      refine ov 2 [] (a := kaddN (k + 1)) (b := ?_)
      have hq4 : (((fmtI (l.take k)) ++ [(44 : UInt8)]) ++ (itoaS ((l)[k]'hx4_1)) : List UInt8) = fmtI (l.take (k + 1)) := (by rw [hfe]; simp [hk0])
      have hMn4 := hM7_2.reM 1 hq4
      have hMn5 := hMn4.reB 0 1 (show (((fmtI (l.take k)) ++ [(44 : UInt8)]) ++ (itoaS ((l)[k]'hx4_1))).length = (fmtI (l.take (k + 1))).length from congrArg List.length hq4)
      exact le4 2 [] (k + 1) ((.pointer (ofs (bl b1_0) (0))) : Value) A17_2 c17_2 [1, 0] (h := by exact ⟨(by (try dsimp only); omega), (.inr rfl)⟩)
    have hk0 : k = 0 := by omega
    refine cp 3 [] (b := Itoa_fn _ w_l3 (tab_at htab hM_l3) (by constructor <;> omega)) (c := fun w7_1 hM7_1 => ?_)
    have hMf7_2 := hM7_1.pk [1, 0]
    refine cq 0 [] (b := WriteString_fn b1_0 A2 c2 (fmtI (l.take k)) (pv) _ w7_1 (hMf7_2.fp [0, 1] rfl rfl) (by first | exact .inl rfl | exact .inr rfl | assumption) (by first | omega | (simp; omega))) (c := ?_)
    rintro _ w7_2 ⟨A17_2, c17_2, rfl, hR7_2⟩
    have hM7_2 := hMf7_2.cl 2 hR7_2
    have hcr7_2_1 := (hM7_2.cap 1 rfl).1
    refine ov 2 [] (a := kaddN (k + 1)) (b := ?_)
    have hq6 : ((fmtI (l.take k)) ++ (itoaS ((l)[k]'hx4_1)) : List UInt8) = fmtI (l.take (k + 1)) := (by rw [hfe]; simp [hk0])
    have hMn6 := hM7_2.reM 1 hq6
    have hMn7 := hMn6.reB 0 1 (show ((fmtI (l.take k)) ++ (itoaS ((l)[k]'hx4_1))).length = (fmtI (l.take (k + 1))).length from congrArg List.length hq6)
    exact le4 2 [] (k + 1) ((.pointer (ofs (bl b1_0) (0))) : Value) A17_2 c17_2 [1, 0] (h := by exact ⟨(by (try dsimp only); omega), (.inr rfl)⟩)
  refine go 3 [] ?_
  refine O.callg [.pointer (ofs (bl b1_0) (0))] rfl en64 rfl rfl (String_fn (l := fmtI (l.take k)) w_l3 hM_l3.size (hM_l3.builder 1 0 rfl rfl (by exact hi1_l3))) ?_
  rintro _ w9_0 ⟨rfl, hB9_0⟩
  have hM9_0 : Mem w w9_0 [] [] := mem_below hM_l3 hB9_0
  refine E1 3 [] (S (fmtI (l.take k))) ?_
  exact ⟨(congrArg S (by rw [List.take_of_length_le (by omega)])), (Mem.none hM9_0)⟩
end Go.Proofs.YtemejgglbhjodaaGreatDoor
end
section
namespace Go.Proofs.YtemejgglbhjodaaGreatDoor
open Go.Px
theorem PageText_fn (T : TreeL) (at0 : Int) (w : World) (hNT : TrN w T) (hs : SzT T) (htab : TAB w) :
    Does Tryz.prog 16 [.agg #[I ((T).root), .slice ((T).A) ((T).l.length) ((T).cp)], I (at0)] w (fun v w1 => v = S (pgX (T).t at0) ∧ Mem w w1 [] []) := by
  have hM : Mem w w [] [] := Mem.refl
  refine Does.n1 Tryz.func16 rfl Tryz.results16 Tryz.ntmps16 rfl ?_
  have hs1 := hs.1
  refine Bx 2 [] fun w0_0 b0_0 hb0_0 hM0_0 => ?_
  refine cp 6 [0] (b := ValidTree_fn T w0_0 (hNT.at hM0_0) q0) (c := fun w1_1 hM1_1 => ?_)
  refine pt 2 [] 9 (fun g9 => ?_) (fun g9 => ?_)
  · refine E1 17 [] (S ([])) ?_
    exact ⟨(congrArg S (by rw [pgX_no (.inl (by simpa using g9))])), (Mem.none hM1_1)⟩
  refine pp 4 [] 13 (fun g13 => ?_) (fun g13 => ?_)
  · refine E1 13 [] (S ([])) ?_
    exact ⟨(congrArg S (by rw [pgX_no (.inr (by cases h9 : inT (T).t at0 with | false => rfl | true => (have := inT_t.1 h9; exfalso; omega)))])), (Mem.none hM1_1)⟩
  refine cd 7 [0] (fun c19 => ?_) (fun c19 => ?_)
  · refine E1 5 [] (S ([])) ?_
    exact ⟨(congrArg S (by rw [pgX_no (.inr (by cases h9 : inT (T).t at0 with | false => rfl | true => (have := inT_t.1 h9; exfalso; omega)))])), (Mem.none hM1_1)⟩
  have hv : validT (T).t = true := by simpa using g9
  have hin : inT (T).t at0 = true := inT_t.2 (by omega)
  have hat := inT_t.1 hin
  obtain ⟨e9, lo9, hi9, he9, hok9⟩ := valid_page hv hin
  have hfb := (okB_iff.1 hok9).2.1
  have hl4 := fr_len hfb
  have hvk := validK_iff.1 (fr_keys hfb)
  have hkin := ok_kids_in hok9
  have hpl := (valid_len hv).2
  have hx3_3 : (at0).toNat < ((T).l).length := (by first | omega | (simp; omega))
  refine ov 6 [0] (a := kixF hx3_3 (hNT.at hM1_1).1) (b := ?_)
  refine ov 0 [] (a := kldN hx3_3 (hNT.at hM1_1).1) (b := ?_)
  have hgp : gP (T).t at0 = ((T).l[(at0).toNat]'hx3_3).t := gP_at rfl hx3_3
  have hsz := hs.at hx3_3
  refine Al 0 [] fun w3_5 b3_5 hb3_5 hM3_5 => ?_
  refine Sb 0 [] 0 fun w3_6 hM3_6 => ?_
  refine cd 9 [0] (fun c28 => ?_) (fun c28 => ?_)
  · have hk0 : (gP (T).t at0).kids = [] := by rw [hgp]; exact List.eq_nil_of_length_eq_zero (by show (((T).l[(at0).toNat]'hx3_3).c.l).length = 0; omega)
    have hvr := prs_valid hfb hk0
    rw [hgp] at hvr
    have hvl := (fr_leaf hfb hk0).1
    rw [hgp] at hvl
    have hte := pgX_leaf hv hin hk0
    rw [hgp] at hte
    have hfy := fmtR_yes hvr
    have hl5 : (((T).l[(at0).toNat]'hx3_3).k.l).length ≤ 4 := by rw [hgp] at hl4; exact hl4
    refine cq 3 [0] (b := pairsOfLeaf_fn (((T).l)[(at0).toNat]'hx3_3) w3_6 (((hNT.at hM3_6)).2.get hx3_3) qo (by exact hvl)) (c := ?_)
    rintro _ w5_1 ⟨A15_1, c15_1, rfl, hR5_1⟩
    have hM5_1 := hM3_6.cl 0 hR5_1
    have hcr5_1_0 := (hM5_1.cap 0 rfl).1
    refine cp 0 [] (b := FormatRow_fn _ _ _ w5_1 (hM5_1.rd 0 rfl) (by first | omega | (simp; omega)) (tab_at htab hM5_1)) (c := fun w5_2 hM5_2 => ?_)
    refine E1 3 [] (S (fmtR (prsP ((((T).l)[(at0).toNat]'hx3_3)).t))) ?_
    exact ⟨(congrArg S (by rw [hte, hfy])), (Mem.none hM5_2)⟩
  have hk0 : (gP (T).t at0).kids ≠ [] := by rw [hgp]; intro e9; exact absurd (show (((T).l[(at0).toNat]'hx3_3).c.l).length = 0 from congrArg List.length e9) (by omega)
  have hkl := (fr_in hfb hk0).2
  have hte := pgX_in hv hin hk0
  rw [hgp] at hte hkl hl4 hvk hkin
  have hl5 : (((T).l[(at0).toNat]'hx3_3).k.l).length ≤ 4 := hl4
  have hl6 : (((T).l[(at0).toNat]'hx3_3).c.l).length = (((T).l[(at0).toNat]'hx3_3).k.l).length + 1 := hkl
  have hb1 : ∀ x ∈ ((T).l[(at0).toNat]'hx3_3).k.l, -99999 ≤ x ∧ x ≤ 99999 := fun x hx => by have := hvk.1 x hx; omega
  have hb2 : ∀ x ∈ ((T).l[(at0).toNat]'hx3_3).c.l, -99999 ≤ x ∧ x ≤ 99999 := fun x hx => by have := hkin x hx; omega
  have hf1 := fmtI_len (l := ((T).l[(at0).toNat]'hx3_3).k.l) (fun x hx => by have := hb1 x hx; omega) _ (Nat.le_refl _)
  have hf2 := fmtI_len (l := ((T).l[(at0).toNat]'hx3_3).c.l) (fun x hx => by have := hb2 x hx; omega) _ (Nat.le_refl _)
  rw [List.take_length] at hf1 hf2
  refine dr 2 [] ?_
  refine qc 2 [0] (X := S (fmtI ((((T).l)[(at0).toNat]'hx3_3).k.l))) (b := by exact fun w2 hw2 => (listText_fn ((((T).l)[(at0).toNat]'hx3_3).k.A) ((((T).l)[(at0).toNat]'hx3_3).k.cp) ((((T).l)[(at0).toNat]'hx3_3).k.l) w2 (((hNT.at hw2)).2.get hx3_3).1 qo (by exact hb1) (tab_at htab hw2)).mono fun _ _ h => ⟨h.1, Mem.call0 hw2 h.2⟩) (c := ?_)
  refine qv 0 [] (a := by exact fun _ hw2 => kcat (h := by first | omega | (simp; omega))) (b := ?_)
  refine qc 2 [0] (X := S (fmtI ((((T).l)[(at0).toNat]'hx3_3).c.l))) (b := by exact fun w2 hw2 => (listText_fn ((((T).l)[(at0).toNat]'hx3_3).c.A) ((((T).l)[(at0).toNat]'hx3_3).c.cp) ((((T).l)[(at0).toNat]'hx3_3).c.l) w2 (((hNT.at hw2)).2.get hx3_3).2.1 qo (by exact hb2) (tab_at htab hw2)).mono fun _ _ h => ⟨h.1, Mem.call0 hw2 h.2⟩) (c := ?_)
  refine qv 0 [] (a := by exact fun _ hw2 => kcat (h := by first | omega | (simp; omega))) (b := ?_)
  refine qn 1 [] fun w6d hM6d => ?_
  refine E1 1 [] (S (((fmtI ((((T).l)[(at0).toNat]'hx3_3).k.l) ++ [124]) ++ fmtI ((((T).l)[(at0).toNat]'hx3_3).c.l)))) ?_
  exact ⟨(congrArg S (by rw [hte]; simp [PgL.t])), (Mem.none hM6d)⟩
end Go.Proofs.YtemejgglbhjodaaGreatDoor
end
section
namespace Go.Proofs.YtemejgglbhjodaaGreatDoor
open Go.Px
theorem equalInts_fn (A : Option Addr) (c : Nat) (a : List Int) (B : Option Addr) (d : Nat) (b : List Int) (w : World) (hA : Rd w A ((a).map I)) (hB : Rd w B ((b).map I)) (ha : a.length ≤ 1048576) :
    Does Tryz.prog 13 [.slice (A) ((a).length) (c), .slice (B) ((b).length) (d)] w (fun v w1 => v = .bool (decide (a = b)) ∧ Mem w w1 [] []) := by
  have hM : Mem w w [] [] := Mem.refl
  refine Does.n1 Tryz.func13 rfl Tryz.results13 Tryz.ntmps13 rfl ?_
  refine cd 13 [] (fun c10 => ?_) (fun c10 => ?_)
  · refine E1 5 [] (.bool (false)) ?_
    exact ⟨(by rw [ne_len (by omega)]), (Mem.none hM)⟩
  refine lp1 7 [] (fun (k : Nat) => ([(5, Vi (((k : Nat) : Int)))] : List (Nat × SV))) (fun (k : Nat) => (k ≤ a.length) ∧ (a.take k = b.take k)) (fun (k : Nat) => []) (fun (k : Nat) => a.length - k) [0, 1] [] [] 0 (fun k σ w_l4 hI hM_l4 => ?_) (h0 := ⟨(Nat.zero_le _), (by (try dsimp only); simp)⟩)
  obtain ⟨hi0_l4, hi1_l4⟩ := hI
  refine cd 8 [] (fun c14 => ?_) (fun c14 => ?_)
  · refine dr 4 [] ?_
    have hx6_2 : k < (a).length := (by first | omega | (simp; omega))
    refine qv 2 [] (a := by exact fun _ hw2 => kixM hx6_2 (hA.at hw2)) (b := ?_)
    refine qv 0 [] (a := by exact fun _ hw2 => kldM hx6_2 (hA.at hw2)) (b := ?_)
    have hx6_6 : k < (b).length := (by first | omega | (simp; omega))
    refine qv 2 [] (a := by exact fun _ hw2 => kixM hx6_6 (hB.at hw2)) (b := ?_)
    refine qv 0 [] (a := by exact fun _ hw2 => kldM hx6_6 (hB.at hw2)) (b := ?_)
    refine qn 1 [] fun w6d hM6d => ?_
    refine cd 0 [] (fun c25 => ?_) (fun c25 => ?_)
    · refine E1 5 [] (.bool (false)) ?_
      exact ⟨(by rw [ne_at hx6_2 hx6_6 (by simpa using c25)]), (Mem.none hM6d)⟩
    refine ov 3 [] (a := kaddN (k + 1)) (b := ?_)
    exact le1 2 [] (k + 1) [] (h := by exact ⟨(by (try dsimp only); omega), (eq_step hx6_2 hx6_6 hi1_l4 (by simpa using c25))⟩)
  refine E1 6 [] (.bool (true)) ?_
  exact ⟨(by rw [eq_all (by omega) (by omega) hi1_l4]), (Mem.none hM_l4)⟩
end Go.Proofs.YtemejgglbhjodaaGreatDoor
end
section
namespace Go.Px
variable {H : Type} {enc : TypeId × Value → H}
end Go.Px
end
section
namespace Go.Proofs.YtemejgglbhjodaaGreatDoor
open Go.Px
theorem copyPage_fn (p : PgL) (w : World) (hNp : PgN w p) (hp : (p).k.l.length ≤ 1048576 ∧ (p).c.l.length ≤ 1048576 ∧ (p).v.l.length ≤ 1048576) :
    Does Tryz.prog 158 [.agg #[.slice ((p).k.A) ((p).k.l.length) ((p).k.cp), .slice ((p).c.A) ((p).c.l.length) ((p).c.cp), .slice ((p).v.A) ((p).v.l.length) ((p).v.cp)]] w (fun v w1 => ∃ (A1 : Option Addr) (c1 : Nat) (A2 : Option Addr) (c2 : Nat) (A3 : Option Addr) (c3 : Nat), v = .agg #[.slice (A1) (((p).k.l).length) (c1), .slice (A2) (((p).c.l).length) (c2), .slice (A3) (((p).v.l).length) (c3)] ∧ Mem w w1 [] [[⟨.slice (A1) (((p).k.l).length) (c1), 3, 1, (((p).k.l).length), ((p).k.l).map I⟩], [⟨.slice (A2) (((p).c.l).length) (c2), 3, 1, (((p).c.l).length), ((p).c.l).map I⟩], [⟨.slice (A3) (((p).v.l).length) (c3), 3, 1, (((p).v.l).length), ((p).v.l).map I⟩]]) := by
  have hM : Mem w w [] [] := Mem.refl
  refine Does.nG (rs := [.cell 2 42]) Tryz.func158 rfl Tryz.results158 Tryz.ntmps158 rfl ?_
  refine Bx 2 [] fun w0_0 b0_0 hb0_0 hM0_0 => ?_
  refine Al 0 [] fun w0_1 b0_1 hb0_1 hM0_1 => ?_
  refine any 2 [] 11 [1] fun w1a hM1a => ?_
  refine aO [0, 1, 3, 4, 6, 7] [0, 0, 0] 2 ?_
  refine cq 0 [] (vs := [.slice ((p).k.A) (((p).k.l).length) ((p).k.cp)]) (hvs := (by first | rfl | (rw [show ((p).k.l).length = (p).k.l.length from (by first | rfl | (simp; done) | omega | (simp; omega))]; rfl))) (b := scopyInts_fn ((p).k.A) ((p).k.cp) ((p).k.l) w1a (hNp.at hM1a).1 q0) (c := ?_)
  rintro _ w1_2 ⟨A11_2, c11_2, rfl, hR1_2⟩
  have hM1_2 := hM1a.cl 0 hR1_2
  have hcr1_2_0 := (hM1_2.cap 0 rfl).1
  refine os 0 [] [2] ?_
  refine aO [] [] 5 ?_
  refine cq 0 [] (vs := [.slice ((p).c.A) (((p).c.l).length) ((p).c.cp)]) (hvs := (by first | rfl | (rw [show ((p).c.l).length = (p).c.l.length from (by first | rfl | (simp; done) | omega | (simp; omega))]; rfl))) (b := scopyInts_fn ((p).c.A) ((p).c.cp) ((p).c.l) w1_2 (hNp.at hM1_2).2.1 q0) (c := ?_)
  rintro _ w1_5 ⟨A11_5, c11_5, rfl, hR1_5⟩
  have hM1_5 := hM1_2.cl 0 hR1_5
  have hcr1_5_0 := (hM1_5.cap 0 rfl).1
  refine os 0 [] [3] ?_
  refine aO [] [] 8 ?_
  refine cq 0 [] (vs := [.slice ((p).v.A) (((p).v.l).length) ((p).v.cp)]) (hvs := (by first | rfl | (rw [show ((p).v.l).length = (p).v.l.length from (by first | rfl | (simp; done) | omega | (simp; omega))]; rfl))) (b := scopyInts_fn ((p).v.A) ((p).v.cp) ((p).v.l) w1_5 (hNp.at hM1_5).2.2 q0) (c := ?_)
  rintro _ w1_8 ⟨A11_8, c11_8, rfl, hR1_8⟩
  have hM1_8 := hM1_5.cl 0 hR1_8
  have hcr1_8_0 := (hM1_8.cap 0 rfl).1
  refine os 0 [] [4] ?_
  refine aO [9] [] 10 ?_
  refine Sb 0 [] 3 fun w1_10 hM1_10 => ?_
  refine os 0 [] [4] ?_
  refine an [] [] ?_
  refine EG 1 [] ?_
  refine PG (vs := [.agg #[.slice (A11_2) ((((p).k.l)).length) (c11_2), .slice (A11_5) ((((p).c.l)).length) (c11_5), .slice (A11_8) ((((p).v.l)).length) (c11_8)]]) (ResV.cell (l := [.slice (A11_2) ((((p).k.l)).length) (c11_2), .slice (A11_5) ((((p).c.l)).length) (c11_5), .slice (A11_8) ((((p).v.l)).length) (c11_8)]) rfl (mem_blk (i := 3) (j := 0) hM1_10 rfl rfl) el42 rfl ResV.nil) ?_
  have hq1 : (((p).k.l) : List Int) = (p).k.l := (by first | rfl | simp | (simp; omega))
  have hMn1 := hM1_10.reM 2 hq1
  have hq2 : (((p).c.l) : List Int) = (p).c.l := (by first | rfl | simp | (simp; omega))
  have hMn2 := hMn1.reM 1 hq2
  have hq3 : (((p).v.l) : List Int) = (p).v.l := (by first | rfl | simp | (simp; omega))
  have hMn3 := hMn2.reM 0 hq3
  exact ⟨A11_2, c11_2, A11_5, c11_5, A11_8, c11_8, (by first | rfl | exact sl_congr (by first | omega | (simp; done) | (simp; omega)) | (simp; done)), (hMn3.pk [2, 1, 0])⟩
set_option maxHeartbeats 2000000 in
theorem scopyTree_fn (T : TreeL) (w : World) (hNT : TrN w T) (hs : SzT T) :
    Does Tryz.prog 124 [.agg #[I ((T).root), .slice ((T).A) ((T).l.length) ((T).cp)]] w (fun v w1 => ∃ (L1 : List PgL) (A1 : Option Addr) (c1 : Nat), v = .agg #[I ((T).root), .slice (A1) ((L1).length) (c1)] ∧ (tsG L1 = tsG (T).l) ∧ Mem w w1 [] [[⟨.slice (A1) ((L1).length) (c1), 42, 3, ((L1).length), (L1).flatMap encPg⟩], (L1).flatMap (pgF 3)]) := by
  have hM : Mem w w [] [] := Mem.refl
  refine Does.nG (rs := [.cell 2 25]) Tryz.func124 rfl Tryz.results124 Tryz.ntmps124 rfl ?_
  have hs1 := hs.1
  refine Bx 2 [] fun w0_0 b0_0 hb0_0 hM0_0 => ?_
  refine Al 0 [] fun w0_1 b0_1 hb0_1 hM0_1 => ?_
  refine Lt 5 [1] (([]).flatMap encPg) (fun w1_2 b1_2 hb1_2 hM1_2 => ?_)
  refine Al 1 [] fun w1_4 b1_4 hb1_4 hM1_4 => ?_
  refine Sb 0 [] 0 fun w1_5 hM1_5 => ?_
  have hMk1 := Mem.gnil (e := 3) hM1_5
  have hq2 : ([] : List PgL) = ([] : List PgL) := (by first | rfl | simp | (simp; omega))
  have hMn2 := hMk1.reF 2 hq2 (f := encPg)
  refine lp4 7 [] (fun (k : Nat) (Ch : List PgL) (A2 : Option Addr) (c2 : Nat) => ([(4, Vi (((k : Nat) : Int)))] : List (Nat × SV))) (fun (k : Nat) (Ch : List PgL) (A2 : Option Addr) (c2 : Nat) => (k ≤ (T).l.length) ∧ (tsG Ch = (tsG (T).l).take k)) (fun (k : Nat) (Ch : List PgL) (A2 : Option Addr) (c2 : Nat) => [(Ch).flatMap (pgF 3), [⟨.slice (bl b1_4) 1 1, 25, 2, 1, [I ((T).root), .slice (A2) ((Ch).length) (c2)]⟩], [⟨.slice (A2) ((Ch).length) (c2), 42, 3, ((Ch).length), (Ch).flatMap encPg⟩]]) (fun (k : Nat) (Ch : List PgL) (A2 : Option Addr) (c2 : Nat) => (T).l.length - k) [1, 2, 3] [0, 1, 2] [3, 4] 0 (([] : List PgL) : List PgL) (bl b1_2) 0 (fun k Ch A2 c2 σ w_l3 hI hM_l3 => ?_) (h0 := ⟨(Nat.zero_le _), (by (try dsimp only); simp)⟩)
  obtain ⟨hi0_l3, hi1_l3⟩ := hI
  have hcl2_l3 := (hM_l3.cap 2 rfl).1
  have hCl := tsg_len hi1_l3 hi0_l3
  refine cd 9 [4] (fun c13 => ?_) (fun c13 => ?_)
  · refine any 3 [] 12 [0, 3, 4] fun w5a hM5a => ?_
    have hx5_5 : k < ((T).l).length := (by first | omega | (simp; omega))
    refine av [0, 2, 3, 4] [2] 5 (a := by exact fun _ hw2 => kixF hx5_5 (hNT.at hM5a).1) (b := ?_)
    refine aT [] [] 1 6 ?_ ?_
    · refine os 1 [1] [0, 3, 4] ?_
      refine aO [] [] 6 ?_
      refine ov 0 [] (a := kldN hx5_5 (hNT.at hM5a).1) (b := ?_)
      refine os 0 [] [0, 3, 4] ?_
      refine aO [] [] 7 ?_
      refine cq 0 [] (b := copyPage_fn (((T).l)[k]'hx5_5) w5a (((hNT.at hM5a)).2.get hx5_5) (by exact hs.at hx5_5)) (c := ?_)
      rintro _ w5_7 ⟨A15_7, c15_7, A25_7, c25_7, A35_7, c35_7, rfl, hR5_7⟩
      have hM5_7 := hM5a.cl 0 hR5_7
      have hcr5_7_0 := (hM5_7.cap 0 rfl).1
      have hcr5_7_1 := (hM5_7.cap 1 rfl).1
      have hcr5_7_2 := (hM5_7.cap 2 rfl).1
      refine os 0 [] [3, 6, 7] ?_
      refine aO [] [] 8 ?_
      let p1_ : PgL := (⟨⟨A15_7, c15_7, ((((T).l)[k]'hx5_5)).k.l⟩, ⟨A25_7, c25_7, ((((T).l)[k]'hx5_5)).c.l⟩, ⟨A35_7, c35_7, ((((T).l)[k]'hx5_5)).v.l⟩⟩ : PgL)
      refine Lt 0 [] (([p1_]).flatMap encPg) (fun w5_8 b5_8 hb5_8 hM5_8 => ?_)
      refine os 0 [] [4, 7, 8] ?_
      refine aO [] [] 9 ?_
      refine aF 0 [] 6 (hM5_8.rd 0 rfl) (fun w5_9 A5_9 c5_9 hc5_9 hM5_9 => ?_)
      refine os 0 [] [4, 7, 8] ?_
      refine aO [10] [] 11 ?_
      refine Sb 0 [] 5 fun w5_11 hM5_11 => ?_
      refine os 0 [] [4, 7, 8] ?_
      refine an [] [] ?_
      have hMk4 := Mem.gapp (k := ⟨A15_7, c15_7, ((((T).l)[k]'hx5_5)).k.l⟩) (c := ⟨A25_7, c25_7, ((((T).l)[k]'hx5_5)).c.l⟩) (v := ⟨A35_7, c35_7, ((((T).l)[k]'hx5_5)).v.l⟩) (hM5_11.pk [4, 1, 2, 3, 0, 5, 6, 7, 8])
      refine ov 2 [] (a := kaddN (k + 1)) (b := ?_)
      have hq5 : (Ch ++ [p1_] : List PgL) = (Ch ++ [p1_]) := (by first | rfl | simp | (simp; omega))
      have hMn5 := hMk4.reF 3 hq5
      exact le4 2 [] (k + 1) (Ch ++ [p1_]) A5_9 c5_9 [0, 2, 3, 4, 5] (h := by exact ⟨(by (try dsimp only); omega), (tsg_snoc hi1_l3 hx5_5 rfl)⟩)
    refine ov 0 [] (a := kldN hx5_5 (hNT.at hM5a).1) (b := ?_)
    refine os 0 [] [0, 3, 4] ?_
    refine aT [] [] 1 7 ?_ ?_
    · refine os 1 [1] [0, 3, 4] ?_
      refine aO [] [] 7 ?_
      refine cq 0 [] (b := copyPage_fn (((T).l)[k]'hx5_5) w5a (((hNT.at hM5a)).2.get hx5_5) (by exact hs.at hx5_5)) (c := ?_)
      rintro _ w5_7 ⟨A15_7, c15_7, A25_7, c25_7, A35_7, c35_7, rfl, hR5_7⟩
      have hM5_7 := hM5a.cl 0 hR5_7
      have hcr5_7_0 := (hM5_7.cap 0 rfl).1
      have hcr5_7_1 := (hM5_7.cap 1 rfl).1
      have hcr5_7_2 := (hM5_7.cap 2 rfl).1
      refine os 0 [] [3, 6, 7] ?_
      refine aO [] [] 8 ?_
      let p2_ : PgL := (⟨⟨A15_7, c15_7, ((((T).l)[k]'hx5_5)).k.l⟩, ⟨A25_7, c25_7, ((((T).l)[k]'hx5_5)).c.l⟩, ⟨A35_7, c35_7, ((((T).l)[k]'hx5_5)).v.l⟩⟩ : PgL)
      refine Lt 0 [] (([p2_]).flatMap encPg) (fun w5_8 b5_8 hb5_8 hM5_8 => ?_)
      refine os 0 [] [4, 7, 8] ?_
      refine aO [] [] 9 ?_
      refine aF 0 [] 6 (hM5_8.rd 0 rfl) (fun w5_9 A5_9 c5_9 hc5_9 hM5_9 => ?_)
      refine os 0 [] [4, 7, 8] ?_
      refine aO [10] [] 11 ?_
      refine Sb 0 [] 5 fun w5_11 hM5_11 => ?_
      refine os 0 [] [4, 7, 8] ?_
      refine an [] [] ?_
      have hMk7 := Mem.gapp (k := ⟨A15_7, c15_7, ((((T).l)[k]'hx5_5)).k.l⟩) (c := ⟨A25_7, c25_7, ((((T).l)[k]'hx5_5)).c.l⟩) (v := ⟨A35_7, c35_7, ((((T).l)[k]'hx5_5)).v.l⟩) (hM5_11.pk [4, 1, 2, 3, 0, 5, 6, 7, 8])
      refine ov 2 [] (a := kaddN (k + 1)) (b := ?_)
      have hq8 : (Ch ++ [p2_] : List PgL) = (Ch ++ [p2_]) := (by first | rfl | simp | (simp; omega))
      have hMn8 := hMk7.reF 3 hq8
      exact le4 2 [] (k + 1) (Ch ++ [p2_]) A5_9 c5_9 [0, 2, 3, 4, 5] (h := by exact ⟨(by (try dsimp only); omega), (tsg_snoc hi1_l3 hx5_5 rfl)⟩)
    refine cq 0 [] (b := copyPage_fn (((T).l)[k]'hx5_5) w5a (((hNT.at hM5a)).2.get hx5_5) (by exact hs.at hx5_5)) (c := ?_)
    rintro _ w5_7 ⟨A15_7, c15_7, A25_7, c25_7, A35_7, c35_7, rfl, hR5_7⟩
    have hM5_7 := hM5a.cl 0 hR5_7
    have hcr5_7_0 := (hM5_7.cap 0 rfl).1
    have hcr5_7_1 := (hM5_7.cap 1 rfl).1
    have hcr5_7_2 := (hM5_7.cap 2 rfl).1
    refine os 0 [] [3, 6, 7] ?_
    refine aT [] [] 1 8 ?_ ?_
    · refine os 1 [4] [3, 6, 7] ?_
      refine aO [] [] 8 ?_
      let p3_ : PgL := (⟨⟨A15_7, c15_7, ((((T).l)[k]'hx5_5)).k.l⟩, ⟨A25_7, c25_7, ((((T).l)[k]'hx5_5)).c.l⟩, ⟨A35_7, c35_7, ((((T).l)[k]'hx5_5)).v.l⟩⟩ : PgL)
      refine Lt 0 [] (([p3_]).flatMap encPg) (fun w5_8 b5_8 hb5_8 hM5_8 => ?_)
      refine os 0 [] [4, 7, 8] ?_
      refine aO [] [] 9 ?_
      refine aF 0 [] 6 (hM5_8.rd 0 rfl) (fun w5_9 A5_9 c5_9 hc5_9 hM5_9 => ?_)
      refine os 0 [] [4, 7, 8] ?_
      refine aO [10] [] 11 ?_
      refine Sb 0 [] 5 fun w5_11 hM5_11 => ?_
      refine os 0 [] [4, 7, 8] ?_
      refine an [] [] ?_
      have hMk10 := Mem.gapp (k := ⟨A15_7, c15_7, ((((T).l)[k]'hx5_5)).k.l⟩) (c := ⟨A25_7, c25_7, ((((T).l)[k]'hx5_5)).c.l⟩) (v := ⟨A35_7, c35_7, ((((T).l)[k]'hx5_5)).v.l⟩) (hM5_11.pk [4, 1, 2, 3, 0, 5, 6, 7, 8])
      refine ov 2 [] (a := kaddN (k + 1)) (b := ?_)
      have hq11 : (Ch ++ [p3_] : List PgL) = (Ch ++ [p3_]) := (by first | rfl | simp | (simp; omega))
      have hMn11 := hMk10.reF 3 hq11
      exact le4 2 [] (k + 1) (Ch ++ [p3_]) A5_9 c5_9 [0, 2, 3, 4, 5] (h := by exact ⟨(by (try dsimp only); omega), (tsg_snoc hi1_l3 hx5_5 rfl)⟩)
    let p4_ : PgL := (⟨⟨A15_7, c15_7, ((((T).l)[k]'hx5_5)).k.l⟩, ⟨A25_7, c25_7, ((((T).l)[k]'hx5_5)).c.l⟩, ⟨A35_7, c35_7, ((((T).l)[k]'hx5_5)).v.l⟩⟩ : PgL)
    refine Lt 0 [] (([p4_]).flatMap encPg) (fun w5_8 b5_8 hb5_8 hM5_8 => ?_)
    refine os 0 [] [4, 7, 8] ?_
    refine aO [] [] 1 ?_
    refine os 1 [5] [4, 7, 8] ?_
    refine aO [] [] 9 ?_
    refine aF 0 [] 6 (hM5_8.rd 0 rfl) (fun w5_9 A5_9 c5_9 hc5_9 hM5_9 => ?_)
    refine os 0 [] [4, 7, 8] ?_
    refine aO [10] [] 11 ?_
    refine Sb 0 [] 5 fun w5_11 hM5_11 => ?_
    refine os 0 [] [4, 7, 8] ?_
    refine an [] [] ?_
    have hMk13 := Mem.gapp (k := ⟨A15_7, c15_7, ((((T).l)[k]'hx5_5)).k.l⟩) (c := ⟨A25_7, c25_7, ((((T).l)[k]'hx5_5)).c.l⟩) (v := ⟨A35_7, c35_7, ((((T).l)[k]'hx5_5)).v.l⟩) (hM5_11.pk [4, 1, 2, 3, 0, 5, 6, 7, 8])
    refine ov 2 [] (a := kaddN (k + 1)) (b := ?_)
    have hq14 : (Ch ++ [p4_] : List PgL) = (Ch ++ [p4_]) := (by first | rfl | simp | (simp; omega))
    have hMn14 := hMk13.reF 3 hq14
    exact le4 2 [] (k + 1) (Ch ++ [p4_]) A5_9 c5_9 [0, 2, 3, 4, 5] (h := by exact ⟨(by (try dsimp only); omega), (tsg_snoc hi1_l3 hx5_5 rfl)⟩)
  refine Sb 4 [1] 3 fun w6_1 hM6_1 => ?_
  refine EG 2 [] ?_
  refine PG (vs := [.agg #[I ((T).root), .slice (A2) ((Ch).length) (c2)]]) (ResV.cell (l := [I ((T).root), .slice (A2) ((Ch).length) (c2)]) rfl (mem_blk (i := 3) (j := 0) hM6_1 rfl rfl) el25 rfl ResV.nil) ?_
  have hke : k = (T).l.length := by omega
  rw [hke, List.take_of_length_le (by simp)] at hi1_l3
  exact ⟨Ch, A2, c2, (by first | rfl | exact sl_congr (by first | omega | (simp; done) | (simp; omega)) | (simp; done)), hi1_l3, (hM6_1.pk [2, 0])⟩
theorem leafOf_fn (A : Option Addr) (c : Nat) (l : List PairT) (w : World) (hA : Rd w A ((l).flatMap encP)) (hl : l.length ≤ 1048576) (hc : l.length ≤ c) :
    Does Tryz.prog 65 [.slice (A) ((l).length) (c)] w (fun v w1 => ∃ (A1 : Option Addr) (c1 : Nat) (A2 : Option Addr) (c2 : Nat) (A3 : Option Addr) (c3 : Nat), v = .agg #[.slice (A1) ((keysP l).length) (c1), .slice (A2) ((([] : List Int)).length) (c2), .slice (A3) ((l.map PairT.val).length) (c3)] ∧ Mem w w1 [] [[⟨.slice (A1) ((keysP l).length) (c1), 3, 1, ((keysP l).length), (keysP l).map I⟩], [⟨.slice (A2) ((([] : List Int)).length) (c2), 3, 1, ((([] : List Int)).length), (([] : List Int)).map I⟩], [⟨.slice (A3) ((l.map PairT.val).length) (c3), 3, 1, ((l.map PairT.val).length), (l.map PairT.val).map I⟩]]) := by
  have hM : Mem w w [] [] := Mem.refl
  refine Does.nG (rs := [.cell 2 42]) Tryz.func65 rfl Tryz.results65 Tryz.ntmps65 rfl ?_
  refine Al 2 [] fun w0_0 b0_0 hb0_0 hM0_0 => ?_
  refine cq 4 [] (b := skeysOf_fn _ _ _ w0_0 (hA.at hM0_0) q0) (c := ?_)
  rintro _ w1_1 ⟨A11_1, c11_1, rfl, hR1_1⟩
  have hM1_1 := hM0_0.cl 0 hR1_1
  have hcr1_1_0 := (hM1_1.cap 0 rfl).1
  refine Lt 0 [] (([]).map I) (fun w1_2 b1_2 hb1_2 hM1_2 => ?_)
  refine Lt 0 [] (([]).map I) (fun w1_3 b1_3 hb1_3 hM1_3 => ?_)
  refine Al 1 [] fun w1_5 b1_5 hb1_5 hM1_5 => ?_
  refine Sb 0 [] 0 fun w1_6 hM1_6 => ?_
  have hq1 : ([] : List Int) = (l.take 0).map PairT.val := (by simp)
  have hMn1 := hM1_6.reM 1 hq1 (f := I)
  have hMn2 := hMn1.reB 0 2 (show 0 = ((l.take 0).map PairT.val).length from congrArg List.length hq1)
  refine lp3 7 [] (fun (k : Nat) (A2 : Option Addr) (c2 : Nat) => ([(4, Vi (((k : Nat) : Int)))] : List (Nat × SV))) (fun (k : Nat) (A2 : Option Addr) (c2 : Nat) => (k ≤ l.length)) (fun (k : Nat) (A2 : Option Addr) (c2 : Nat) => [[⟨.slice (bl b1_5) 1 1, 42, 3, 1, [.slice (A11_1) ((keysP l).length) (c11_1), .slice (bl b1_2) (0) (0), .slice (A2) (((l.take k).map PairT.val).length) (c2)]⟩], [⟨.slice (A2) (((l.take k).map PairT.val).length) (c2), 3, 1, (((l.take k).map PairT.val).length), ((l.take k).map PairT.val).map I⟩]]) (fun (k : Nat) (A2 : Option Addr) (c2 : Nat) => l.length - k) [0, 2, 3] [0, 1] [2, 3, 4] 0 (bl b1_3) 0 (fun k A2 c2 σ w_l3 hI hM_l3 => ?_) (h0 := (Nat.zero_le _))
  have hi0_l3 := hI
  have hcl1_l3 := (hM_l3.cap 1 rfl).1
  have hcl2_l3 := (hM_l3.cap 2 rfl).1
  have hcl3_l3 := (hM_l3.cap 3 rfl).1
  refine cd 8 [] (fun c13 => ?_) (fun c13 => ?_)
  · refine any 3 [] 11 [2, 3, 4] fun w5a hM5a => ?_
    have hx5_4 : k < (l).length := (by first | omega | (simp; omega))
    refine av [0, 2, 3] [] 4 (a := by exact fun _ hw2 => kixF hx5_4 (hA.at hM5a)) (b := ?_)
    refine av [] [] 5 (a := by exact fun _ hw2 => kflF hx5_4 (hA.at hM5a)) (b := ?_)
    refine av [] [] 6 (a := by exact fun _ hw2 => kldF hx5_4 (hA.at hw2)) (b := ?_)
    refine aT [] [] 1 7 ?_ ?_
    · refine os 1 [0] [2, 3, 4] ?_
      refine aO [] [] 7 ?_
      refine Lt 0 [] (([((l)[k]'hx5_4).val]).map I) (fun w5_7 b5_7 hb5_7 hM5_7 => ?_)
      refine os 0 [] [3, 4, 5] ?_
      refine aO [] [] 8 ?_
      refine aM 0 [] 2 (hM5_7.rd 0 rfl) (fun w5_8 A5_8 c5_8 hc5_8 hM5_8 => ?_) (hn := by first | omega | (simp; omega)) (hb := by first | omega | (simp; omega))
      refine os 0 [] [3, 4, 5] ?_
      refine aO [9] [] 10 ?_
      refine Sb 0 [] 1 fun w5_10 hM5_10 => ?_
      refine os 0 [] [3, 4, 5] ?_
      refine an [] [] ?_
      refine ov 2 [] (a := kaddN (k + 1)) (b := ?_)
      have hq3 : ((l.take k).map PairT.val ++ [((l)[k]'hx5_4).val] : List Int) = (l.take (k + 1)).map PairT.val := (map_snoc hx5_4)
      have hMn3 := hM5_10.reM 2 hq3
      have hMn4 := hMn3.reB 1 2 (show ((l.take k).map PairT.val ++ [((l)[k]'hx5_4).val]).length = ((l.take (k + 1)).map PairT.val).length from congrArg List.length hq3)
      exact le3 2 [] (k + 1) A5_8 c5_8 [1, 2, 3, 4, 5] (h := by exact (by (try dsimp only); omega))
    refine Lt 0 [] (([((l)[k]'hx5_4).val]).map I) (fun w5_7 b5_7 hb5_7 hM5_7 => ?_)
    refine os 0 [] [3, 4, 5] ?_
    refine aO [] [] 1 ?_
    refine os 1 [1] [3, 4, 5] ?_
    refine aO [] [] 8 ?_
    refine aM 0 [] 2 (hM5_7.rd 0 rfl) (fun w5_8 A5_8 c5_8 hc5_8 hM5_8 => ?_) (hn := by first | omega | (simp; omega)) (hb := by first | omega | (simp; omega))
    refine os 0 [] [3, 4, 5] ?_
    refine aO [9] [] 10 ?_
    refine Sb 0 [] 1 fun w5_10 hM5_10 => ?_
    refine os 0 [] [3, 4, 5] ?_
    refine an [] [] ?_
    refine ov 2 [] (a := kaddN (k + 1)) (b := ?_)
    have hq5 : ((l.take k).map PairT.val ++ [((l)[k]'hx5_4).val] : List Int) = (l.take (k + 1)).map PairT.val := (map_snoc hx5_4)
    have hMn5 := hM5_10.reM 2 hq5
    have hMn6 := hMn5.reB 1 2 (show ((l.take k).map PairT.val ++ [((l)[k]'hx5_4).val]).length = ((l.take (k + 1)).map PairT.val).length from congrArg List.length hq5)
    exact le3 2 [] (k + 1) A5_8 c5_8 [1, 2, 3, 4, 5] (h := by exact (by (try dsimp only); omega))
  refine Sb 4 [0] 4 fun w6_1 hM6_1 => ?_
  refine EG 2 [] ?_
  refine PG (vs := [.agg #[.slice (A11_1) ((keysP l).length) (c11_1), .slice (bl b1_2) (0) (0), .slice (A2) (((l.take k).map PairT.val).length) (c2)]]) (ResV.cell (l := [.slice (A11_1) ((keysP l).length) (c11_1), .slice (bl b1_2) (0) (0), .slice (A2) (((l.take k).map PairT.val).length) (c2)]) rfl (mem_blk (i := 4) (j := 0) hM6_1 rfl rfl) el42 rfl ResV.nil) ?_
  have hq7 : ([] : List Int) = ([] : List Int) := (by first | rfl | simp | (simp; omega))
  have hMn7 := hM6_1.reM 2 hq7 (f := I)
  have hq8 : ((l.take k).map PairT.val : List Int) = l.map PairT.val := (by rw [List.take_of_length_le (by omega)])
  have hMn8 := hMn7.reM 1 hq8
  exact ⟨A11_1, c11_1, bl b1_2, 0, A2, c2, (by rw [List.take_of_length_le (by omega)]; rfl), (hMn8.pk [3, 2, 1])⟩
theorem insideOf_fn (p : PgL) (w : World) (hNp : PgN w p) :
    Does Tryz.prog 129 [.agg #[.slice ((p).k.A) ((p).k.l.length) ((p).k.cp), .slice ((p).c.A) ((p).c.l.length) ((p).c.cp), .slice ((p).v.A) ((p).v.l.length) ((p).v.cp)]] w (fun v w1 => v = .agg #[.slice ((p).k.A) ((p).k.l.length) ((p).k.cp), .slice ((p).c.A) ((p).c.l.length) ((p).c.cp)] ∧ Mem w w1 [] []) := by
  have hM : Mem w w [] [] := Mem.refl
  refine Does.nG (rs := [.cell 2 65]) Tryz.func129 rfl Tryz.results129 Tryz.ntmps129 rfl ?_
  refine Bx 2 [] fun w0_0 b0_0 hb0_0 hM0_0 => ?_
  refine Al 0 [] fun w0_1 b0_1 hb0_1 hM0_1 => ?_
  refine Sb 8 [1, 1] 0 fun w1_5 hM1_5 => ?_
  refine EG 2 [] ?_
  refine PG (vs := [.agg #[.slice ((p).k.A) ((p).k.l.length) ((p).k.cp), .slice ((p).c.A) ((p).c.l.length) ((p).c.cp)]]) (ResV.cell (l := [.slice ((p).k.A) ((p).k.l.length) ((p).k.cp), .slice ((p).c.A) ((p).c.l.length) ((p).c.cp)]) rfl (mem_blk (i := 0) (j := 0) hM1_5 rfl rfl) el65 rfl ResV.nil) ?_
  exact ⟨rfl, (Mem.none hM1_5)⟩
theorem innerOf_fn (KA : Option Addr) (kc : Nat) (kl : List Int) (CA : Option Addr) (cc : Nat) (cl : List Int) (w : World) (hRK : Rd w KA ((kl).map I)) (hRC : Rd w CA ((cl).map I)) :
    Does Tryz.prog 130 [.agg #[.slice (KA) ((kl).length) (kc), .slice (CA) ((cl).length) (cc)]] w (fun v w1 => ∃ (A1 : Option Addr) (c1 : Nat), v = .agg #[.slice (KA) ((kl).length) (kc), .slice (CA) ((cl).length) (cc), .slice (A1) (([] : List Int).length) (c1)] ∧ Mem w w1 [] [[⟨.slice (A1) ((([] : List Int)).length) (c1), 3, 1, ((([] : List Int)).length), (([] : List Int)).map I⟩]]) := by
  have hM : Mem w w [] [] := Mem.refl
  refine Does.nG (rs := [.cell 2 42]) Tryz.func130 rfl Tryz.results130 Tryz.ntmps130 rfl ?_
  refine Bx 2 [] fun w0_0 b0_0 hb0_0 hM0_0 => ?_
  refine Al 0 [] fun w0_1 b0_1 hb0_1 hM0_1 => ?_
  refine Lt 7 [1, 1] (([]).map I) (fun w1_4 b1_4 hb1_4 hM1_4 => ?_)
  refine Sb 1 [] 1 fun w1_6 hM1_6 => ?_
  refine EG 2 [] ?_
  refine PG (vs := [.agg #[.slice (KA) ((kl).length) (kc), .slice (CA) ((cl).length) (cc), .slice (bl b1_4) (0) (0)]]) (ResV.cell (l := [.slice (KA) ((kl).length) (kc), .slice (CA) ((cl).length) (cc), .slice (bl b1_4) (0) (0)]) rfl (mem_blk (i := 1) (j := 0) hM1_6 rfl rfl) el42 rfl ResV.nil) ?_
  have hq1 : ([] : List Int) = ([] : List Int) := (by first | rfl | simp | (simp; omega))
  have hMn1 := hM1_6.reM 0 hq1 (f := I)
  exact ⟨bl b1_4, 0, (by first | rfl | exact sl_congr (by first | omega | (simp; done) | (simp; omega)) | (simp; done)), (hMn1.pk [0])⟩
theorem placeOf_fn (A : Option Addr) (c : Nat) (l : List Int) (n : Int) (w : World) (hA : Rd w A ((l).map I)) (hl : l.length ≤ 1048576) :
    Does Tryz.prog 132 [.slice (A) ((l).length) (c), I (n)] w (fun v w1 => v = I (plcI l n) ∧ Mem w w1 [] []) := by
  have hM : Mem w w [] [] := Mem.refl
  refine Does.n1 Tryz.func132 rfl Tryz.results132 Tryz.ntmps132 rfl ?_
  refine lp1 10 [] (fun (k : Nat) => ([(5, Vi (((k : Nat) : Int)))] : List (Nat × SV))) (fun (k : Nat) => (k ≤ l.length) ∧ (∀ x ∈ l.take k, x ≠ n)) (fun (k : Nat) => []) (fun (k : Nat) => l.length - k) [0, 1] [] [] 0 (fun k σ w_l2 hI hM_l2 => ?_) (h0 := ⟨(Nat.zero_le _), (by (try dsimp only); simp)⟩)
  obtain ⟨hi0_l2, hi1_l2⟩ := hI
  refine cd 8 [] (fun c9 => ?_) (fun c9 => ?_)
  · have hx4_2 : k < (l).length := (by first | omega | (simp; omega))
    refine ov 7 [] (a := kixM hx4_2 (hA.at hM_l2)) (b := ?_)
    refine ov 0 [] (a := kldM hx4_2 (hA.at hM_l2)) (b := ?_)
    refine cd 3 [] (fun c17 => ?_) (fun c17 => ?_)
    · refine E1 6 [] (I (((k : Nat) : Int))) ?_
      exact ⟨(I_congr (by rw [plcI_at hx4_2 c17 hi1_l2])), (Mem.none hM_l2)⟩
    refine ov 3 [] (a := kaddN (k + 1)) (b := ?_)
    exact le1 2 [] (k + 1) [] (h := by exact ⟨(by (try dsimp only); omega), (mem_step hi1_l2 hx4_2 c17)⟩)
  refine E1 6 [] (I ((-1))) ?_
  exact ⟨(I_congr (by rw [plcI_no (by have := hi1_l2; rwa [List.take_of_length_le (by omega)] at this)])), (Mem.none hM_l2)⟩
set_option maxHeartbeats 2000000 in
theorem splitInner_fn (KA : Option Addr) (kc : Nat) (kl : List Int) (CA : Option Addr) (cc : Nat) (cl : List Int) (w : World) (hRK : Rd w KA ((kl).map I)) (hRC : Rd w CA ((cl).map I)) (hcp : (kl).length ≤ kc ∧ (cl).length ≤ cc) (h1 : 1 ≤ (kl).length ∧ (kl).length ≤ 1000) (h2 : (cl).length = (kl).length + 1) :
    Does Tryz.prog 128 [.agg #[.slice (KA) ((kl).length) (kc), .slice (CA) ((cl).length) (cc)]] w (fun v w1 => ∃ (A1 : Option Addr) (c1 : Nat) (A2 : Option Addr) (c2 : Nat) (A3 : Option Addr) (c3 : Nat) (A4 : Option Addr) (c4 : Nat), v = .tuple #[.agg #[.slice (A1) (((kl).take ((kl).length / 2)).length) (c1), .slice (A2) (((cl).take ((kl).length / 2 + 1)).length) (c2)], I ((kl).getD ((kl).length / 2) 0), .agg #[.slice (A3) (((kl).drop ((kl).length / 2 + 1)).length) (c3), .slice (A4) (((cl).drop ((kl).length / 2 + 1)).length) (c4)]] ∧ Mem w w1 [] [[⟨.slice (A1) (((kl).take ((kl).length / 2)).length) (c1), 3, 1, (((kl).take ((kl).length / 2)).length), ((kl).take ((kl).length / 2)).map I⟩], [⟨.slice (A2) (((cl).take ((kl).length / 2 + 1)).length) (c2), 3, 1, (((cl).take ((kl).length / 2 + 1)).length), ((cl).take ((kl).length / 2 + 1)).map I⟩], [⟨.slice (A3) (((kl).drop ((kl).length / 2 + 1)).length) (c3), 3, 1, (((kl).drop ((kl).length / 2 + 1)).length), ((kl).drop ((kl).length / 2 + 1)).map I⟩], [⟨.slice (A4) (((cl).drop ((kl).length / 2 + 1)).length) (c4), 3, 1, (((cl).drop ((kl).length / 2 + 1)).length), ((cl).drop ((kl).length / 2 + 1)).map I⟩]]) := by
  have hM : Mem w w [] [] := Mem.refl
  refine Does.nG (rs := [.cell 2 65, .tmp 3, .cell 4 65]) Tryz.func128 rfl Tryz.results128 Tryz.ntmps128 rfl ?_
  refine Bx 2 [] fun w0_0 b0_0 hb0_0 hM0_0 => ?_
  refine Al 0 [] fun w0_1 b0_1 hb0_1 hM0_1 => ?_
  refine Al 1 [] fun w0_3 b0_3 hb0_3 hM0_3 => ?_
  refine ov 6 [2] (a := kquoN ((kl).length / 2)) (b := ?_)
  refine ct5 2 [] (fun (bx6 : Nat) (P6_0 : Option Addr) (p6_0 : Nat) (P6_1 : Option Addr) (p6_1 : Nat) => ([(6, Vp (bl bx6) (0))] : List (Nat × SV))) (fun (bx6 : Nat) (P6_0 : Option Addr) (p6_0 : Nat) (P6_1 : Option Addr) (p6_1 : Nat) => True) (fun (bx6 : Nat) (P6_0 : Option Addr) (p6_0 : Nat) (P6_1 : Option Addr) (p6_1 : Nat) => [[⟨.slice (bl bx6) 1 1, 65, 2, 1, [.slice (P6_0) (((kl).take ((kl).length / 2)).length) (p6_0), .slice (P6_1) (((cl).take ((kl).length / 2 + 1)).length) (p6_1)]⟩], [⟨.slice (P6_0) (((kl).take ((kl).length / 2)).length) (p6_0), 3, 1, (((kl).take ((kl).length / 2)).length), ((kl).take ((kl).length / 2)).map I⟩], [⟨.slice (P6_1) (((cl).take ((kl).length / 2 + 1)).length) (p6_1), 3, 1, (((cl).take ((kl).length / 2 + 1)).length), ((cl).take ((kl).length / 2 + 1)).map I⟩]]) [1, 2, 4, 5] [0, 1, 2] ?_ (fun bx6 P6_0 p6_0 P6_1 p6_1 σ w_r2 hI hM_r2 => ?_)
  · refine any 0 [] 14 [0, 1, 2] fun w2a hM2a => ?_
    refine av [0, 1, 2] [2] 3 (s := Vl (KA) (((kl).take (((kl).length / 2))).length) (kc)) (a := by exact fun w2 hw2 => cv (Ru.congr (v := .slice (KA) (((kl).length / 2)) (kc)) (v' := .slice (KA) (((kl).take (((kl).length / 2))).length) (kc)) (Ru.lsliceTo (h := ((kl).length / 2)) Tryz.underlying30 el3 rfl rfl (by omega) (by omega)) (sl_congr (by first | rfl | (simp; done) | omega | (simp; omega)))) rfl) (b := ?_)
    refine av [5, 6, 7] [2] 8 (a := by exact fun _ hw2 => kaddN (((kl).length / 2) + 1)) (b := ?_)
    refine av [] [] 9 (s := Vl (CA) (((cl).take ((((kl).length / 2) + 1))).length) (cc)) (a := by exact fun w2 hw2 => cv (Ru.congr (v := .slice (CA) ((((kl).length / 2) + 1)) (cc)) (v' := .slice (CA) (((cl).take ((((kl).length / 2) + 1))).length) (cc)) (Ru.lsliceTo (h := (((kl).length / 2) + 1)) Tryz.underlying30 el3 rfl rfl (by omega) (by omega)) (sl_congr (by first | rfl | (simp; done) | omega | (simp; omega)))) rfl) (b := ?_)
    refine aT [] [] 4 12 ?_ ?_
    · refine cq 0 [] (b := scopyInts_fn _ _ _ w2a (rd_take1 (hRK.at hM2a)) q0) (c := ?_)
      rintro _ w2_4 ⟨A12_4, c12_4, rfl, hR2_4⟩
      have hM2_4 := hM2a.cl 0 hR2_4
      have hcr2_4_0 := (hM2_4.cap 0 rfl).1
      refine os 0 [] [1, 2, 3] ?_
      refine aT [] [] 10 12 ?_ ?_
      · refine cq 0 [] (b := scopyInts_fn _ _ _ w2_4 (rd_take1 (hRC.at hM2_4)) q0) (c := ?_)
        rintro _ w2_10 ⟨A12_10, c12_10, rfl, hR2_10⟩
        have hM2_10 := hM2_4.cl 0 hR2_10
        have hcr2_10_0 := (hM2_10.cap 0 rfl).1
        refine os 0 [] [2, 3, 4] ?_
        refine aO [11] [] 12 ?_
        refine Al 0 [] fun w2_12 b2_12 hb2_12 hM2_12 => ?_
        refine os 0 [] [3, 4, 5] ?_
        refine aO [] [] 13 ?_
        refine Sb 0 [] 0 fun w2_13 hM2_13 => ?_
        refine os 0 [] [3, 4, 5] ?_
        refine an [] [] ?_
        have hq1 : (((kl).take (((kl).length / 2))) : List Int) = (kl).take ((kl).length / 2) := (by first | rfl | simp | (simp; omega))
        have hMn1 := hM2_13.reM 2 hq1
        have hq2 : (((cl).take ((((kl).length / 2) + 1))) : List Int) = (cl).take ((kl).length / 2 + 1) := (by first | rfl | simp | (simp; omega))
        have hMn2 := hMn1.reM 1 hq2
        exact ce5 0 [] b2_12 A12_4 c12_4 A12_10 c12_10 [0, 2, 1, 3, 4, 5] (h := by exact trivial)
      refine Al 0 [] fun w2_12 b2_12 hb2_12 hM2_12 => ?_
      refine os 0 [] [2, 3, 4] ?_
      refine aO [] [] 10 ?_
      refine cq 0 [] (b := scopyInts_fn _ _ _ w2_12 (rd_take1 (hRC.at hM2_12)) q0) (c := ?_)
      rintro _ w2_10 ⟨A12_10, c12_10, rfl, hR2_10⟩
      have hM2_10 := hM2_12.cl 0 hR2_10
      have hcr2_10_0 := (hM2_10.cap 0 rfl).1
      refine os 0 [] [3, 4, 5] ?_
      refine aO [11] [] 13 ?_
      refine Sb 0 [] 1 fun w2_13 hM2_13 => ?_
      refine os 0 [] [3, 4, 5] ?_
      refine an [] [] ?_
      have hq3 : (((kl).take (((kl).length / 2))) : List Int) = (kl).take ((kl).length / 2) := (by first | rfl | simp | (simp; omega))
      have hMn3 := hM2_13.reM 2 hq3
      have hq4 : (((cl).take ((((kl).length / 2) + 1))) : List Int) = (cl).take ((kl).length / 2 + 1) := (by first | rfl | simp | (simp; omega))
      have hMn4 := hMn3.reM 0 hq4
      exact ce5 0 [] b2_12 A12_4 c12_4 A12_10 c12_10 [1, 2, 0, 3, 4, 5] (h := by exact trivial)
    refine Al 0 [] fun w2_12 b2_12 hb2_12 hM2_12 => ?_
    refine os 0 [] [1, 2, 3] ?_
    refine aO [] [] 4 ?_
    refine cq 0 [] (b := scopyInts_fn _ _ _ w2_12 (rd_take1 (hRK.at hM2_12)) q0) (c := ?_)
    rintro _ w2_4 ⟨A12_4, c12_4, rfl, hR2_4⟩
    have hM2_4 := hM2_12.cl 0 hR2_4
    have hcr2_4_0 := (hM2_4.cap 0 rfl).1
    refine os 0 [] [2, 3, 4] ?_
    refine aO [] [] 10 ?_
    refine cq 0 [] (b := scopyInts_fn _ _ _ w2_4 (rd_take1 (hRC.at hM2_4)) q0) (c := ?_)
    rintro _ w2_10 ⟨A12_10, c12_10, rfl, hR2_10⟩
    have hM2_10 := hM2_4.cl 0 hR2_10
    have hcr2_10_0 := (hM2_10.cap 0 rfl).1
    refine os 0 [] [3, 4, 5] ?_
    refine aO [11] [] 13 ?_
    refine Sb 0 [] 2 fun w2_13 hM2_13 => ?_
    refine os 0 [] [3, 4, 5] ?_
    refine an [] [] ?_
    have hq5 : (((kl).take (((kl).length / 2))) : List Int) = (kl).take ((kl).length / 2) := (by first | rfl | simp | (simp; omega))
    have hMn5 := hM2_13.reM 1 hq5
    have hq6 : (((cl).take ((((kl).length / 2) + 1))) : List Int) = (cl).take ((kl).length / 2 + 1) := (by first | rfl | simp | (simp; omega))
    have hMn6 := hMn5.reM 0 hq6
    exact ce5 0 [] b2_12 A12_4 c12_4 A12_10 c12_10 [2, 1, 0, 3, 4, 5] (h := by exact trivial)
  have hcl1_r2 := (hM_r2.cap 1 rfl).1
  have hcl2_r2 := (hM_r2.cap 2 rfl).1
  refine ct5 0 [] (fun (bx7 : Nat) (P7_0 : Option Addr) (p7_0 : Nat) (P7_1 : Option Addr) (p7_1 : Nat) => ([(7, Vp (bl bx7) (0))] : List (Nat × SV))) (fun (bx7 : Nat) (P7_0 : Option Addr) (p7_0 : Nat) (P7_1 : Option Addr) (p7_1 : Nat) => True) (fun (bx7 : Nat) (P7_0 : Option Addr) (p7_0 : Nat) (P7_1 : Option Addr) (p7_1 : Nat) => [[⟨.slice (bl bx7) 1 1, 65, 2, 1, [.slice (P7_0) (((kl).drop ((kl).length / 2 + 1)).length) (p7_0), .slice (P7_1) (((cl).drop ((kl).length / 2 + 1)).length) (p7_1)]⟩], [⟨.slice (P7_0) (((kl).drop ((kl).length / 2 + 1)).length) (p7_0), 3, 1, (((kl).drop ((kl).length / 2 + 1)).length), ((kl).drop ((kl).length / 2 + 1)).map I⟩], [⟨.slice (P7_1) (((cl).drop ((kl).length / 2 + 1)).length) (p7_1), 3, 1, (((cl).drop ((kl).length / 2 + 1)).length), ((cl).drop ((kl).length / 2 + 1)).map I⟩]]) [1, 2, 4, 5, 6] [0, 1, 2, 3, 4, 5] ?_ (fun bx7 P7_0 p7_0 P7_1 p7_1 σ w_r3 hI hM_r3 => ?_)
  · refine any 0 [] 15 [0, 1, 2, 3, 4, 5] fun w3a hM3a => ?_
    refine av [0, 1, 2] [5] 3 (a := by exact fun _ hw2 => kaddN (((kl).length / 2) + 1)) (b := ?_)
    refine av [] [] 4 (s := Vl (if kc = (((kl).length / 2) + 1) then KA else ofs (KA) ((((kl).length / 2) + 1) * 1)) (((kl).drop ((((kl).length / 2) + 1))).length) (kc - (((kl).length / 2) + 1))) (a := by exact fun w2 hw2 => cv (Ru.congr (v := .slice (if kc = (((kl).length / 2) + 1) then KA else ofs (KA) ((((kl).length / 2) + 1) * 1)) (((kl).length) - (((kl).length / 2) + 1)) (kc - (((kl).length / 2) + 1))) (v' := .slice (if kc = (((kl).length / 2) + 1) then KA else ofs (KA) ((((kl).length / 2) + 1) * 1)) (((kl).drop ((((kl).length / 2) + 1))).length) (kc - (((kl).length / 2) + 1))) (Ru.lsliceFrom (l := (((kl).length / 2) + 1)) Tryz.underlying30 el3 rfl rfl (by omega) (by omega)) (sl_congr (by first | rfl | (simp; done) | omega | (simp; omega)))) rfl) (b := ?_)
    refine av [6, 7, 8] [5] 9 (a := by exact fun _ hw2 => kaddN (((kl).length / 2) + 1)) (b := ?_)
    refine av [] [] 10 (s := Vl (if cc = (((kl).length / 2) + 1) then CA else ofs (CA) ((((kl).length / 2) + 1) * 1)) (((cl).drop ((((kl).length / 2) + 1))).length) (cc - (((kl).length / 2) + 1))) (a := by exact fun w2 hw2 => cv (Ru.congr (v := .slice (if cc = (((kl).length / 2) + 1) then CA else ofs (CA) ((((kl).length / 2) + 1) * 1)) (((cl).length) - (((kl).length / 2) + 1)) (cc - (((kl).length / 2) + 1))) (v' := .slice (if cc = (((kl).length / 2) + 1) then CA else ofs (CA) ((((kl).length / 2) + 1) * 1)) (((cl).drop ((((kl).length / 2) + 1))).length) (cc - (((kl).length / 2) + 1))) (Ru.lsliceFrom (l := (((kl).length / 2) + 1)) Tryz.underlying30 el3 rfl rfl (by omega) (by omega)) (sl_congr (by first | rfl | (simp; done) | omega | (simp; omega)))) rfl) (b := ?_)
    refine aT [] [] 5 13 ?_ ?_
    · refine cq 0 [] (b := scopyInts_fn _ _ _ w3a (rd_drop1 (k := (((kl).length / 2) + 1)) (c := kc) (hRK.at hM3a) q2 q2) q0) (c := ?_)
      rintro _ w3_5 ⟨A13_5, c13_5, rfl, hR3_5⟩
      have hM3_5 := hM3a.cl 0 hR3_5
      have hcr3_5_0 := (hM3_5.cap 0 rfl).1
      refine os 0 [] [1, 2, 3, 4, 5, 6] ?_
      refine aT [] [] 11 13 ?_ ?_
      · refine cq 0 [] (b := scopyInts_fn _ _ _ w3_5 (rd_drop1 (k := (((kl).length / 2) + 1)) (c := cc) (hRC.at hM3_5) q2 q2) q0) (c := ?_)
        rintro _ w3_11 ⟨A13_11, c13_11, rfl, hR3_11⟩
        have hM3_11 := hM3_5.cl 0 hR3_11
        have hcr3_11_0 := (hM3_11.cap 0 rfl).1
        refine os 0 [] [2, 3, 4, 5, 6, 7] ?_
        refine aO [12] [] 13 ?_
        refine Al 0 [] fun w3_13 b3_13 hb3_13 hM3_13 => ?_
        refine os 0 [] [3, 4, 5, 6, 7, 8] ?_
        refine aO [] [] 14 ?_
        refine Sb 0 [] 0 fun w3_14 hM3_14 => ?_
        refine os 0 [] [3, 4, 5, 6, 7, 8] ?_
        refine an [] [] ?_
        have hq7 : (((kl).drop ((((kl).length / 2) + 1))) : List Int) = (kl).drop ((kl).length / 2 + 1) := (by first | rfl | simp | (simp; omega))
        have hMn7 := hM3_14.reM 2 hq7
        have hq8 : (((cl).drop ((((kl).length / 2) + 1))) : List Int) = (cl).drop ((kl).length / 2 + 1) := (by first | rfl | simp | (simp; omega))
        have hMn8 := hMn7.reM 1 hq8
        exact ce5 0 [] b3_13 A13_5 c13_5 A13_11 c13_11 [0, 2, 1, 3, 4, 5, 6, 7, 8] (h := by exact trivial)
      refine Al 0 [] fun w3_13 b3_13 hb3_13 hM3_13 => ?_
      refine os 0 [] [2, 3, 4, 5, 6, 7] ?_
      refine aO [] [] 11 ?_
      refine cq 0 [] (b := scopyInts_fn _ _ _ w3_13 (rd_drop1 (k := (((kl).length / 2) + 1)) (c := cc) (hRC.at hM3_13) q2 q2) q0) (c := ?_)
      rintro _ w3_11 ⟨A13_11, c13_11, rfl, hR3_11⟩
      have hM3_11 := hM3_13.cl 0 hR3_11
      have hcr3_11_0 := (hM3_11.cap 0 rfl).1
      refine os 0 [] [3, 4, 5, 6, 7, 8] ?_
      refine aO [12] [] 14 ?_
      refine Sb 0 [] 1 fun w3_14 hM3_14 => ?_
      refine os 0 [] [3, 4, 5, 6, 7, 8] ?_
      refine an [] [] ?_
      have hq9 : (((kl).drop ((((kl).length / 2) + 1))) : List Int) = (kl).drop ((kl).length / 2 + 1) := (by first | rfl | simp | (simp; omega))
      have hMn9 := hM3_14.reM 2 hq9
      have hq10 : (((cl).drop ((((kl).length / 2) + 1))) : List Int) = (cl).drop ((kl).length / 2 + 1) := (by first | rfl | simp | (simp; omega))
      have hMn10 := hMn9.reM 0 hq10
      exact ce5 0 [] b3_13 A13_5 c13_5 A13_11 c13_11 [1, 2, 0, 3, 4, 5, 6, 7, 8] (h := by exact trivial)
    refine Al 0 [] fun w3_13 b3_13 hb3_13 hM3_13 => ?_
    refine os 0 [] [1, 2, 3, 4, 5, 6] ?_
    refine aO [] [] 5 ?_
    refine cq 0 [] (b := scopyInts_fn _ _ _ w3_13 (rd_drop1 (k := (((kl).length / 2) + 1)) (c := kc) (hRK.at hM3_13) q2 q2) q0) (c := ?_)
    rintro _ w3_5 ⟨A13_5, c13_5, rfl, hR3_5⟩
    have hM3_5 := hM3_13.cl 0 hR3_5
    have hcr3_5_0 := (hM3_5.cap 0 rfl).1
    refine os 0 [] [2, 3, 4, 5, 6, 7] ?_
    refine aO [] [] 11 ?_
    refine cq 0 [] (b := scopyInts_fn _ _ _ w3_5 (rd_drop1 (k := (((kl).length / 2) + 1)) (c := cc) (hRC.at hM3_5) q2 q2) q0) (c := ?_)
    rintro _ w3_11 ⟨A13_11, c13_11, rfl, hR3_11⟩
    have hM3_11 := hM3_5.cl 0 hR3_11
    have hcr3_11_0 := (hM3_11.cap 0 rfl).1
    refine os 0 [] [3, 4, 5, 6, 7, 8] ?_
    refine aO [12] [] 14 ?_
    refine Sb 0 [] 2 fun w3_14 hM3_14 => ?_
    refine os 0 [] [3, 4, 5, 6, 7, 8] ?_
    refine an [] [] ?_
    have hq11 : (((kl).drop ((((kl).length / 2) + 1))) : List Int) = (kl).drop ((kl).length / 2 + 1) := (by first | rfl | simp | (simp; omega))
    have hMn11 := hM3_14.reM 1 hq11
    have hq12 : (((cl).drop ((((kl).length / 2) + 1))) : List Int) = (cl).drop ((kl).length / 2 + 1) := (by first | rfl | simp | (simp; omega))
    have hMn12 := hMn11.reM 0 hq12
    exact ce5 0 [] b3_13 A13_5 c13_5 A13_11 c13_11 [2, 1, 0, 3, 4, 5, 6, 7, 8] (h := by exact trivial)
  have hcl1_r3 := (hM_r3.cap 1 rfl).1
  have hcl2_r3 := (hM_r3.cap 2 rfl).1
  have hcl4_r3 := (hM_r3.cap 4 rfl).1
  have hcl5_r3 := (hM_r3.cap 5 rfl).1
  have hq2 : (kl).length / 2 < (kl).length := by omega
  refine any 1 [] 10 [0, 1, 2, 3, 4, 5, 8] fun w4a hM4a => ?_
  have hx4_4 : ((kl).length / 2) < (kl).length := (by omega)
  refine av [0, 1, 2, 3] [3, 6] 4 (a := by exact fun _ hw2 => kixM hx4_4 (hRK.at hM4a) (h0 := by omega)) (b := ?_)
  refine av [] [] 5 (s := Vi ((kl).getD ((kl).length / 2) 0)) (a := by exact fun w2 hw2 => cv (Ru.congr (v := I ((kl)[((kl).length / 2)]'hx4_4)) (v' := I ((kl).getD ((kl).length / 2) 0)) (Ru.load1 el3 rfl (ldm (hRK.at hw2) hx4_4)) (I_congr (getD_in hx4_4).symm)) rfl) (b := ?_)
  refine aO [6] [0] 7 ?_
  refine Sb 0 [] 7 fun w4_7 hM4_7 => ?_
  refine os 0 [] [0, 1, 2, 3, 4, 5, 8] ?_
  refine aO [8] [] 9 ?_
  refine Sb 0 [] 6 fun w4_9 hM4_9 => ?_
  refine os 0 [] [0, 1, 2, 3, 4, 5, 8] ?_
  refine an [] [] ?_
  refine EG 1 [] ?_
  refine PG (vs := [.agg #[.slice (P6_0) (((kl).take ((kl).length / 2)).length) (p6_0), .slice (P6_1) (((cl).take ((kl).length / 2 + 1)).length) (p6_1)], I ((kl).getD ((kl).length / 2) 0), .agg #[.slice (P7_0) (((kl).drop ((kl).length / 2 + 1)).length) (p7_0), .slice (P7_1) (((cl).drop ((kl).length / 2 + 1)).length) (p7_1)]]) (ResV.cell (l := [.slice (P6_0) (((kl).take ((kl).length / 2)).length) (p6_0), .slice (P6_1) (((cl).take ((kl).length / 2 + 1)).length) (p6_1)]) rfl (mem_blk (i := 7) (j := 0) hM4_9 rfl rfl) el65 rfl (ResV.tmp rfl (ResV.cell (l := [.slice (P7_0) (((kl).drop ((kl).length / 2 + 1)).length) (p7_0), .slice (P7_1) (((cl).drop ((kl).length / 2 + 1)).length) (p7_1)]) rfl (mem_blk (i := 6) (j := 0) hM4_9 rfl rfl) el65 rfl ResV.nil))) ?_
  exact ⟨P6_0, p6_0, P6_1, p6_1, P7_0, p7_0, P7_1, p7_1, (by first | rfl | exact sl_congr (by first | omega | (simp; done) | (simp; omega)) | (simp; done)), (hM4_9.pk [4, 5, 1, 2])⟩
set_option maxHeartbeats 2000000 in
theorem addKid_fn (KA : Option Addr) (kc : Nat) (kl : List Int) (CA : Option Addr) (cc : Nat) (cl : List Int) (pl : Int) (key : Int) (kid : Int) (w : World) (hRK : Rd w KA ((kl).map I)) (hRC : Rd w CA ((cl).map I)) (hcp : (kl).length ≤ kc ∧ (cl).length ≤ cc) (h0 : 0 ≤ pl ∧ pl ≤ ((kl).length : Int)) (h1 : (kl).length ≤ 1000) (h2 : (cl).length = (kl).length + 1) :
    Does Tryz.prog 131 [.agg #[.slice (KA) ((kl).length) (kc), .slice (CA) ((cl).length) (cc)], I (pl), I (key), I (kid)] w (fun v w1 => ∃ (A1 : Option Addr) (c1 : Nat) (A2 : Option Addr) (c2 : Nat), v = .agg #[.slice (A1) (((kl).take (pl).toNat ++ [key] ++ (kl).drop (pl).toNat).length) (c1), .slice (A2) (((cl).take ((pl).toNat + 1) ++ [kid] ++ (cl).drop ((pl).toNat + 1)).length) (c2)] ∧ Mem w w1 [] [[⟨.slice (A1) (((kl).take (pl).toNat ++ [key] ++ (kl).drop (pl).toNat).length) (c1), 3, 1, (((kl).take (pl).toNat ++ [key] ++ (kl).drop (pl).toNat).length), ((kl).take (pl).toNat ++ [key] ++ (kl).drop (pl).toNat).map I⟩], [⟨.slice (A2) (((cl).take ((pl).toNat + 1) ++ [kid] ++ (cl).drop ((pl).toNat + 1)).length) (c2), 3, 1, (((cl).take ((pl).toNat + 1) ++ [kid] ++ (cl).drop ((pl).toNat + 1)).length), ((cl).take ((pl).toNat + 1) ++ [kid] ++ (cl).drop ((pl).toNat + 1)).map I⟩]]) := by
  have hM : Mem w w [] [] := Mem.refl
  refine Does.nG (rs := [.cell 8 65]) Tryz.func131 rfl Tryz.results131 Tryz.ntmps131 rfl ?_
  refine Bx 2 [] fun w0_0 b0_0 hb0_0 hM0_0 => ?_
  refine Al 0 [] fun w0_1 b0_1 hb0_1 hM0_1 => ?_
  have hpe : (pl + 1).toNat = (pl).toNat + 1 := by omega
  refine ov 6 [1] (s := Vl (KA) (((kl).take ((pl).toNat)).length) (kc)) (a := by exact cv (Ru.congr (v := .slice (KA) ((pl).toNat) (kc)) (v' := .slice (KA) (((kl).take ((pl).toNat)).length) (kc)) (Ru.lsliceTo (h := (pl).toNat) Tryz.underlying30 el3 rfl rfl (by omega) (by omega)) (sl_congr (by first | rfl | (simp; done) | omega | (simp; omega)))) rfl) (b := ?_)
  refine cq 0 [] (b := scopyInts_fn _ _ _ w0_1 (rd_take1 (hRK.at hM0_1)) q0) (c := ?_)
  rintro _ w1_4 ⟨A11_4, c11_4, rfl, hR1_4⟩
  have hM1_4 := hM0_1.cl 0 hR1_4
  have hcr1_4_0 := (hM1_4.cap 0 rfl).1
  refine Lt 1 [] (([key]).map I) (fun w1_6 b1_6 hb1_6 hM1_6 => ?_)
  refine aM 0 [] 1 (hM1_6.rd 0 rfl) (fun w1_7 A1_7 c1_7 hc1_7 hM1_7 => ?_)
  refine ov 7 [3] (a := kadd) (b := ?_)
  refine ov 0 [] (s := Vl (CA) (((cl).take (((pl + 1)).toNat)).length) (cc)) (a := by exact cv (Ru.congr (v := .slice (CA) (((pl + 1)).toNat) (cc)) (v' := .slice (CA) (((cl).take (((pl + 1)).toNat)).length) (cc)) (Ru.lsliceTo (h := ((pl + 1)).toNat) Tryz.underlying30 el3 rfl rfl (by omega) (by omega)) (sl_congr (by first | rfl | (simp; done) | omega | (simp; omega)))) rfl) (b := ?_)
  refine cq 0 [] (b := scopyInts_fn _ _ _ w1_7 (rd_take1 (hRC.at hM1_7)) q0) (c := ?_)
  rintro _ w2_5 ⟨A12_5, c12_5, rfl, hR2_5⟩
  have hM2_5 := hM1_7.cl 0 hR2_5
  have hcr2_5_0 := (hM2_5.cap 0 rfl).1
  refine Lt 1 [] (([kid]).map I) (fun w2_7 b2_7 hb2_7 hM2_7 => ?_)
  refine aM 0 [] 1 (hM2_7.rd 0 rfl) (fun w2_8 A2_8 c2_8 hc2_8 hM2_8 => ?_)
  refine any 3 [] 15 [0, 2, 5] fun w3a hM3a => ?_
  refine av [0, 1, 2, 3] [2] 4 (s := Vl (if kc = (pl).toNat then KA else ofs (KA) (((pl).toNat) * 1)) (((kl).drop ((pl).toNat)).length) (kc - ((pl).toNat))) (a := by exact fun w2 hw2 => cv (Ru.congr (v := .slice (if kc = (pl).toNat then KA else ofs (KA) (((pl).toNat) * 1)) (((kl).length) - ((pl).toNat)) (kc - ((pl).toNat))) (v' := .slice (if kc = (pl).toNat then KA else ofs (KA) (((pl).toNat) * 1)) (((kl).drop ((pl).toNat)).length) (kc - ((pl).toNat))) (Ru.lsliceFrom (l := (pl).toNat) Tryz.underlying30 el3 rfl rfl (by omega) (by omega)) (sl_congr (by first | rfl | (simp; done) | omega | (simp; omega)))) rfl) (b := ?_)
  refine av [6, 7, 8, 9] [2] 10 (a := by exact fun _ hw2 => kadd) (b := ?_)
  refine av [] [] 11 (s := Vl (if cc = ((pl + 1)).toNat then CA else ofs (CA) ((((pl + 1)).toNat) * 1)) (((cl).drop (((pl + 1)).toNat)).length) (cc - (((pl + 1)).toNat))) (a := by exact fun w2 hw2 => cv (Ru.congr (v := .slice (if cc = ((pl + 1)).toNat then CA else ofs (CA) ((((pl + 1)).toNat) * 1)) (((cl).length) - (((pl + 1)).toNat)) (cc - (((pl + 1)).toNat))) (v' := .slice (if cc = ((pl + 1)).toNat then CA else ofs (CA) ((((pl + 1)).toNat) * 1)) (((cl).drop (((pl + 1)).toNat)).length) (cc - (((pl + 1)).toNat))) (Ru.lsliceFrom (l := ((pl + 1)).toNat) Tryz.underlying30 el3 rfl rfl (by omega) (by omega)) (sl_congr (by first | rfl | (simp; done) | omega | (simp; omega)))) rfl) (b := ?_)
  refine aO [] [] 5 ?_
  refine aM 0 [] 3 (rd_drop1 (k := (pl).toNat) (c := kc) (hRK.at hM3a) q2 q2) (fun w3_5 A3_5 c3_5 hc3_5 hM3_5 => ?_)
  refine os 0 [] [0, 2, 5] ?_
  refine aO [] [] 12 ?_
  refine aM 0 [] 1 (rd_drop1 (k := ((pl + 1)).toNat) (c := cc) (hRC.at hM3_5) q2 q2) (fun w3_12 A3_12 c3_12 hc3_12 hM3_12 => ?_)
  refine os 0 [] [0, 2, 5] ?_
  refine aO [13] [] 14 ?_
  refine Sb 0 [] 4 fun w3_14 hM3_14 => ?_
  refine os 0 [] [0, 2, 5] ?_
  refine an [] [] ?_
  refine EG 1 [] ?_
  refine PG (vs := [.agg #[.slice (A3_5) ((((kl).take ((pl).toNat)) ++ [key] ++ (kl).drop ((pl).toNat)).length) (c3_5), .slice (A3_12) ((((cl).take (((pl + 1)).toNat)) ++ [kid] ++ (cl).drop (((pl + 1)).toNat)).length) (c3_12)]]) (ResV.cell (l := [.slice (A3_5) ((((kl).take ((pl).toNat)) ++ [key] ++ (kl).drop ((pl).toNat)).length) (c3_5), .slice (A3_12) ((((cl).take (((pl + 1)).toNat)) ++ [kid] ++ (cl).drop (((pl + 1)).toNat)).length) (c3_12)]) rfl (mem_blk (i := 4) (j := 0) hM3_14 rfl rfl) el65 rfl ResV.nil) ?_
  have hq1 : (((kl).take ((pl).toNat)) ++ [key] ++ (kl).drop ((pl).toNat) : List Int) = (kl).take (pl).toNat ++ [key] ++ (kl).drop (pl).toNat := (by first | rfl | simp | (simp; omega))
  have hMn1 := hM3_14.reM 3 hq1
  have hq2 : (((cl).take (((pl + 1)).toNat)) ++ [kid] ++ (cl).drop (((pl + 1)).toNat) : List Int) = (cl).take ((pl).toNat + 1) ++ [kid] ++ (cl).drop ((pl).toNat + 1) := (by rw [hpe])
  have hMn2 := hMn1.reM 1 hq2
  exact ⟨A3_5, c3_5, A3_12, c3_12, (by rw [hpe]; first | rfl | (simp; done)), (hMn2.pk [3, 1])⟩
end Go.Proofs.YtemejgglbhjodaaGreatDoor
end
section
namespace Go.Proofs.YtemejgglbhjodaaGreatDoor
open Go.Px
theorem pathTo_fn (T : TreeL) (key : Int) (w : World) (hNT : TrN w T) (hs : SzT T) (hv : validT (T).t = true) :
    Does Tryz.prog 125 [.agg #[I ((T).root), .slice ((T).A) ((T).l.length) ((T).cp)], I (key)] w (fun v w1 => ∃ (A1 : Option Addr) (c1 : Nat), v = .slice (A1) ((pathK (T).t key).length) (c1) ∧ Mem w w1 [] [[⟨.slice (A1) ((pathK (T).t key).length) (c1), 3, 1, ((pathK (T).t key).length), (pathK (T).t key).map I⟩]]) := by
  have hM : Mem w w [] [] := Mem.refl
  refine Does.n1 Tryz.func125 rfl Tryz.results125 Tryz.ntmps125 rfl ?_
  have hvk := valid_ok hv
  have hvo := hvk.2.1
  have hv3 := hvk.1
  have hh1 := height_1 (T := (T).t)
  have hs1 := hs.1
  refine Bx 2 [] fun w0_0 b0_0 hb0_0 hM0_0 => ?_
  refine Lt 6 [0] (([(T).root]).map I) (fun w1_2 b1_2 hb1_2 hM1_2 => ?_)
  have hq1 : ([(T).root] : List Int) = ([] : List Int) ++ [((T).root)] := rfl
  have hMn1 := hM1_2.reM 0 hq1
  refine lp7 4 [] (fun (pre : List Int) (cur : Int) (e : Nat) (lo2 : Int) (hi2 : Int) (A2 : Option Addr) (c2 : Nat) => ([(5, Vl (A2) ((pre ++ [cur]).length) (c2))] : List (Nat × SV))) (fun (pre : List Int) (cur : Int) (e : Nat) (lo2 : Int) (hi2 : Int) (A2 : Option Addr) (c2 : Nat) => (pre.length + e ≤ 2) ∧ (pathK (T).t key = pre ++ pathT (T).t key (e + 1) cur) ∧ (okB (T).t (e + 1) cur lo2 hi2 = true)) (fun (pre : List Int) (cur : Int) (e : Nat) (lo2 : Int) (hi2 : Int) (A2 : Option Addr) (c2 : Nat) => [[⟨.slice (A2) ((pre ++ [cur]).length) (c2), 3, 1, ((pre ++ [cur]).length), (pre ++ [cur]).map I⟩]]) (fun (pre : List Int) (cur : Int) (e : Nat) (lo2 : Int) (hi2 : Int) (A2 : Option Addr) (c2 : Nat) => e) [1, 2] [0] [1] (([] : List Int) : List Int) ((T).root) (heightT (T).t - 1) (0 : Int) (100 : Int) (bl b1_2) 1 (fun pre cur e lo2 hi2 A2 c2 σ w_l2 hI hM_l2 => ?_) (h0 := ⟨(by (try dsimp only); simp; omega), (by (try dsimp only); rw [show heightT (T).t - 1 + 1 = heightT (T).t by omega]; rfl), (by (try dsimp only); rw [show heightT (T).t - 1 + 1 = heightT (T).t by omega]; exact hvo)⟩)
  obtain ⟨hi0_l2, hi1_l2, hi2_l2⟩ := hI
  have hcl0_l2 := (hM_l2.cap 0 rfl).1
  have hok := hi2_l2
  have hpl1 : (pre ++ [cur]).length = pre.length + 1 := by simp
  have hcu := inT_t.1 (okB_in hok)
  have hjx : (cur).toNat < (T).l.length := by omega
  have hgp : gP (T).t cur = ((T).l[(cur).toNat]'hjx).t := gP_at rfl hjx
  refine dr 2 [] ?_
  refine qv 5 [1] (a := by exact fun _ hw2 => ksub (h := by first | omega | (simp; omega))) (b := ?_)
  have hx2_6 : pre.length < (pre ++ [cur]).length := (by simp)
  refine qv 0 [] (a := by exact fun _ hw2 => kixM hx2_6 (hw2.rd 0 rfl) (h0 := by first | omega | (simp; omega))) (b := ?_)
  refine qv 0 [] (s := Vi (cur)) (a := by exact fun w2 hw2 => cv (Ru.congr (v := I ((pre ++ [cur])[pre.length]'hx2_6)) (v' := I (cur)) (Ru.load1 el3 rfl (ldm (hw2.rd 0 rfl) hx2_6)) (I_congr (by simp))) rfl) (b := ?_)
  have hx2_8 : (cur).toNat < ((T).l).length := (by omega)
  refine qv 0 [] (a := by exact fun _ hw2 => kixF hx2_8 (hNT.at hw2).1 (h0 := by omega)) (b := ?_)
  refine qv 0 [] (a := by exact fun _ hw2 => kflF hx2_8 (hNT.at hw2).1) (b := ?_)
  refine qv 0 [] (a := by exact fun _ hw2 => kldF hx2_8 (hNT.at hw2).1) (b := ?_)
  refine qn 2 [] fun w2d hM2d => ?_
  refine cd 0 [] (fun c22 => ?_) (fun c22 => ?_)
  · have hkn : (gP (T).t cur).kids ≠ [] := by rw [hgp]; intro e9; exact absurd (show (((T).l[(cur).toNat]'hjx).c.l).length = 0 from congrArg List.length e9) (by omega)
    have hrl := route_lt (key := key) hok hkn
    have hpg := pathT_go (key := key) hok hkn
    have hok1 := ok_kid hok hrl
    have hen : e ≠ 0 := fun e9 => hkn ((ok_kids hok).2 e9)
    have hrl2 : upTo (((T).l[(cur).toNat]'hjx).k.l) key < (((T).l[(cur).toNat]'hjx).c.l).length := by have h9 := hrl; rw [hgp] at h9; exact h9
    obtain ⟨kid, hkid⟩ : ∃ z, z = (((T).l[(cur).toNat]'hjx).c.l)[upTo (((T).l[(cur).toNat]'hjx).k.l) key]'hrl2 := ⟨_, rfl⟩
    have hkk : (gP (T).t cur).kids[upTo (gP (T).t cur).keys key]'hrl = kid := by rw [hkid]; simp only [hgp]; rfl
    rw [hkk] at hpg hok1
    have hsz := hs.at hjx
    have hvk2 := fr_keys (okB_iff.1 hok).2.1
    rw [hgp] at hvk2
    refine any 3 [] 12 [0, 1] fun w3a hM3a => ?_
    refine av [0, 1, 2, 3, 4] [1] 5 (a := by exact fun _ hw2 => ksub (h := by first | omega | (simp; omega))) (b := ?_)
    have hx3_6 : pre.length < (pre ++ [cur]).length := (by simp)
    refine av [] [] 6 (a := by exact fun _ hw2 => kixM hx3_6 (hM3a.rd 0 rfl) (h0 := by first | omega | (simp; omega))) (b := ?_)
    refine av [] [] 7 (s := Vi (cur)) (a := by exact fun w2 hw2 => cv (Ru.congr (v := I ((pre ++ [cur])[pre.length]'hx3_6)) (v' := I (cur)) (Ru.load1 el3 rfl (ldm (hw2.rd 0 rfl) hx3_6)) (I_congr (by simp))) rfl) (b := ?_)
    have hx3_8 : (cur).toNat < ((T).l).length := (by omega)
    refine av [] [] 8 (a := by exact fun _ hw2 => kixF hx3_8 (hNT.at hM3a).1 (h0 := by omega)) (b := ?_)
    refine aT [] [] 9 10 ?_ ?_
    · refine ov 0 [] (a := kldN hx3_8 (hNT.at hM3a).1) (b := ?_)
      refine os 0 [] [0, 1] ?_
      refine aO [] [] 10 ?_
      refine Al 0 [] fun w3_10 b3_10 hb3_10 hM3_10 => ?_
      refine os 0 [] [1, 2] ?_
      refine aO [] [] 11 ?_
      refine Sb 0 [] 0 fun w3_11 hM3_11 => ?_
      refine os 0 [] [1, 2] ?_
      refine an [] [] ?_
      refine any 0 [] 12 [0, 2] fun w4a hM4a => ?_
      refine aO [0, 1, 2, 3, 4, 5] [0, 0] 6 ?_
      refine cq 0 [] (vs := [.slice ((((T).l)[(cur).toNat]'hx3_8).k.A) (((((T).l)[(cur).toNat]'hx3_8).k.l).length) ((((T).l)[(cur).toNat]'hx3_8).k.cp), I (key)]) (hvs := (by first | rfl | (rw [show ((((T).l)[(cur).toNat]'hx3_8).k.l).length = (((T).l)[(cur).toNat]'hx3_8).k.l.length from (by first | rfl | (simp; done) | omega | (simp; omega))]; rfl))) (b := supTo_fn ((((T).l)[(cur).toNat]'hx3_8).k.A) ((((T).l)[(cur).toNat]'hx3_8).k.cp) ((((T).l)[(cur).toNat]'hx3_8).k.l) _ w4a (((hNT.at hM4a)).2.get hx3_8).1 q0) (c := ?_)
      rintro _ w4_6 ⟨rfl, hR4_6⟩
      have hM4_6 := hM4a.cl 0 hR4_6
      refine os 0 [] [0, 2] ?_
      have hx4_7 : upTo (((T).l[(cur).toNat]'hjx).k.l) key < ((((T).l)[(cur).toNat]'hx3_8).c.l).length := hrl2
      refine av [] [] 7 (a := by exact fun _ hw2 => kixM hx4_7 (((hNT.at hM4_6)).2.get hx3_8).2.1 (h0 := by first | omega | (simp; omega))) (b := ?_)
      refine aO [] [] 8 ?_
      refine ov 0 [] (s := Vi (kid)) (a := by exact cv (Ru.congr (v := I (((((T).l)[(cur).toNat]'hx3_8).c.l)[upTo (((T).l[(cur).toNat]'hjx).k.l) key]'hx4_7)) (v' := I (kid)) (Ru.load1 el3 rfl (ldm (((hNT.at hM4_6)).2.get hx3_8).2.1 hx4_7)) (I_congr hkid.symm)) rfl) (b := ?_)
      refine os 0 [] [0, 2] ?_
      refine aO [] [] 9 ?_
      refine Lt 0 [] (([kid]).map I) (fun w4_9 b4_9 hb4_9 hM4_9 => ?_)
      refine os 0 [] [1, 3] ?_
      refine aO [] [] 10 ?_
      refine aM 0 [] 2 (hM4_9.rd 0 rfl) (fun w4_10 A4_10 c4_10 hc4_10 hM4_10 => ?_) (hn := by first | omega | (simp; omega)) (hb := by first | omega | (simp; omega))
      refine os 0 [] [1, 3] ?_
      refine an [11] [] ?_
      have hq2 : (pre ++ [cur] ++ [kid] : List Int) = (pre ++ [cur]) ++ [kid] := (by simp)
      have hMn2 := hM4_10.reM 2 hq2
      exact le7 0 [] (pre ++ [cur]) kid (e - 1) _ _ A4_10 c4_10 [2, 3] (h := by exact ⟨(by (try dsimp only); simp; omega), (by (try dsimp only); rw [hi1_l2, hpg, show e - 1 + 1 = e by omega]; simp), (by (try dsimp only); rw [show e - 1 + 1 = e by omega]; exact hok1)⟩)
    refine Al 0 [] fun w3_10 b3_10 hb3_10 hM3_10 => ?_
    refine os 0 [] [1, 2] ?_
    refine aO [] [] 9 ?_
    refine ov 0 [] (a := kldN hx3_8 (hNT.at hM3_10).1) (b := ?_)
    refine os 0 [] [1, 2] ?_
    refine aO [] [] 11 ?_
    refine Sb 0 [] 0 fun w3_11 hM3_11 => ?_
    refine os 0 [] [1, 2] ?_
    refine an [] [] ?_
    refine any 0 [] 12 [0, 2] fun w4a hM4a => ?_
    refine aO [0, 1, 2, 3, 4, 5] [0, 0] 6 ?_
    refine cq 0 [] (vs := [.slice ((((T).l)[(cur).toNat]'hx3_8).k.A) (((((T).l)[(cur).toNat]'hx3_8).k.l).length) ((((T).l)[(cur).toNat]'hx3_8).k.cp), I (key)]) (hvs := (by first | rfl | (rw [show ((((T).l)[(cur).toNat]'hx3_8).k.l).length = (((T).l)[(cur).toNat]'hx3_8).k.l.length from (by first | rfl | (simp; done) | omega | (simp; omega))]; rfl))) (b := supTo_fn ((((T).l)[(cur).toNat]'hx3_8).k.A) ((((T).l)[(cur).toNat]'hx3_8).k.cp) ((((T).l)[(cur).toNat]'hx3_8).k.l) _ w4a (((hNT.at hM4a)).2.get hx3_8).1 q0) (c := ?_)
    rintro _ w4_6 ⟨rfl, hR4_6⟩
    have hM4_6 := hM4a.cl 0 hR4_6
    refine os 0 [] [0, 2] ?_
    have hx4_7 : upTo (((T).l[(cur).toNat]'hjx).k.l) key < ((((T).l)[(cur).toNat]'hx3_8).c.l).length := hrl2
    refine av [] [] 7 (a := by exact fun _ hw2 => kixM hx4_7 (((hNT.at hM4_6)).2.get hx3_8).2.1 (h0 := by first | omega | (simp; omega))) (b := ?_)
    refine aO [] [] 8 ?_
    refine ov 0 [] (s := Vi (kid)) (a := by exact cv (Ru.congr (v := I (((((T).l)[(cur).toNat]'hx3_8).c.l)[upTo (((T).l[(cur).toNat]'hjx).k.l) key]'hx4_7)) (v' := I (kid)) (Ru.load1 el3 rfl (ldm (((hNT.at hM4_6)).2.get hx3_8).2.1 hx4_7)) (I_congr hkid.symm)) rfl) (b := ?_)
    refine os 0 [] [0, 2] ?_
    refine aO [] [] 9 ?_
    refine Lt 0 [] (([kid]).map I) (fun w4_9 b4_9 hb4_9 hM4_9 => ?_)
    refine os 0 [] [1, 3] ?_
    refine aO [] [] 10 ?_
    refine aM 0 [] 2 (hM4_9.rd 0 rfl) (fun w4_10 A4_10 c4_10 hc4_10 hM4_10 => ?_) (hn := by first | omega | (simp; omega)) (hb := by first | omega | (simp; omega))
    refine os 0 [] [1, 3] ?_
    refine an [11] [] ?_
    have hq3 : (pre ++ [cur] ++ [kid] : List Int) = (pre ++ [cur]) ++ [kid] := (by simp)
    have hMn3 := hM4_10.reM 2 hq3
    exact le7 0 [] (pre ++ [cur]) kid (e - 1) _ _ A4_10 c4_10 [2, 3] (h := by exact ⟨(by (try dsimp only); simp; omega), (by (try dsimp only); rw [hi1_l2, hpg, show e - 1 + 1 = e by omega]; simp), (by (try dsimp only); rw [show e - 1 + 1 = e by omega]; exact hok1)⟩)
  refine E1 7 [] (.slice (A2) ((pre ++ [cur]).length) (c2)) ?_
  have hk0 : (gP (T).t cur).kids = [] := by rw [hgp]; exact List.eq_nil_of_length_eq_zero (by show (((T).l[(cur).toNat]'hjx).c.l).length = 0; omega)
  have hpe : pre ++ [cur] = pathK (T).t key := by rw [hi1_l2, pathT_stop hk0]
  have hq4 : (pre ++ [cur] : List Int) = pathK (T).t key := hpe
  have hMn4 := hM2d.reM 0 hq4
  exact ⟨A2, c2, (sl_congr (by rw [hpe])), (hMn4.pk [0])⟩
end Go.Proofs.YtemejgglbhjodaaGreatDoor
end
