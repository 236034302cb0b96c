/- Own layer, part 9: plain theorems on the walk of this program's functions and on what they compute; no conditions. -/
import Derived.Test.YtemejgglbhjodaaGreatDoorP7
set_option linter.unusedVariables false
set_option linter.unusedSimpArgs false
section
namespace Go.Proofs.YtemejgglbhjodaaGreatDoor
open Go.Px
set_option maxHeartbeats 2000000 in
theorem AddKid_fn (KA : Option Addr) (kc : Nat) (kl : List Int) (CA : Option Addr) (cc : Nat) (cl : List Int) (pl : Nat) (key : Int) (kid : Int) (w : World) (hRK : Rd w KA ((kl).map I)) (hRC : Rd w CA ((cl).map I)) (h9 : (kl).length ≤ 1000 ∧ (cl).length ≤ 1000) (hin : inB kl cl = true) (hpl : pl < (cl).length) :
    Does Tryz.prog 39 [.agg #[.slice (KA) ((kl).length) (kc), .slice (CA) ((cl).length) (cc)], I (((pl : Nat) : Int)), I (key), I (kid)] w (fun v w1 => ∃ (L1 : List Int) (A1 : Option Addr) (c1 : Nat) (L2 : List Int) (A2 : Option Addr) (c2 : Nat), v = .tuple #[.agg #[.slice (A1) ((L1).length) (c1), .slice (A2) ((L2).length) (c2)], .bool (inB ((kl).take pl ++ ([key] ++ (kl).drop pl)) ((cl).take (pl + 1) ++ ([kid] ++ (cl).drop (pl + 1))))] ∧ (inB ((kl).take pl ++ ([key] ++ (kl).drop pl)) ((cl).take (pl + 1) ++ ([kid] ++ (cl).drop (pl + 1))) = true → L1 = (kl).take pl ++ ([key] ++ (kl).drop pl) ∧ L2 = (cl).take (pl + 1) ++ ([kid] ++ (cl).drop (pl + 1))) ∧ Mem w w1 [] [[⟨.slice (A1) ((L1).length) (c1), 3, 1, ((L1).length), (L1).map I⟩], [⟨.slice (A2) ((L2).length) (c2), 3, 1, ((L2).length), (L2).map I⟩]]) := by
  have hM : Mem w w [] [] := Mem.refl
  refine Does.nG (rs := [.cell 8 65, .tmp 9]) Tryz.func39 rfl Tryz.results39 Tryz.ntmps39 rfl ?_
  have hin9 := inB_iff.1 hin
  refine Bx 2 [] fun w0_0 b0_0 hb0_0 hM0_0 => ?_
  refine Al 0 [] fun w0_1 b0_1 hb0_1 hM0_1 => ?_
  refine cp 6 [1] (b := ValidInner_fn KA kc kl CA cc cl w0_1 (hRK.at hM0_1) (hRC.at hM0_1) q0) (c := fun w1_1 hM1_1 => ?_)
  refine pt 2 [] 14 (fun g14 => ?_) (fun g14 => ?_)
  · (exfalso; simp [hin] at g14)
  refine pp 4 [] 18 (fun g18 => ?_) (fun g18 => ?_)
  · exfalso; omega
  refine cd 7 [1] (fun c24 => ?_) (fun c24 => ?_)
  · (exfalso; first | omega | simp_all)
  refine ct5 1 [] (fun (bx10 : Nat) (P10_0 : Option Addr) (p10_0 : Nat) (P10_1 : Option Addr) (p10_1 : Nat) => ([(10, Vp (bl bx10) (0))] : List (Nat × SV))) (fun (bx10 : Nat) (P10_0 : Option Addr) (p10_0 : Nat) (P10_1 : Option Addr) (p10_1 : Nat) => True) (fun (bx10 : Nat) (P10_0 : Option Addr) (p10_0 : Nat) (P10_1 : Option Addr) (p10_1 : Nat) => [[⟨.slice (bl bx10) 1 1, 65, 2, 1, [.slice (P10_0) (((kl).take pl ++ ([key] ++ (kl).drop pl)).length) (p10_0), .slice (P10_1) (((cl).take (pl + 1) ++ ([kid] ++ (cl).drop (pl + 1))).length) (p10_1)]⟩], [⟨.slice (P10_0) (((kl).take pl ++ ([key] ++ (kl).drop pl)).length) (p10_0), 3, 1, (((kl).take pl ++ ([key] ++ (kl).drop pl)).length), ((kl).take pl ++ ([key] ++ (kl).drop pl)).map I⟩], [⟨.slice (P10_1) (((cl).take (pl + 1) ++ ([kid] ++ (cl).drop (pl + 1))).length) (p10_1), 3, 1, (((cl).take (pl + 1) ++ ([kid] ++ (cl).drop (pl + 1))).length), ((cl).take (pl + 1) ++ ([kid] ++ (cl).drop (pl + 1))).map I⟩]]) [8] [0, 1] ?_ (fun bx10 P10_0 p10_0 P10_1 p10_1 σ w_r3 hI hM_r3 => ?_)
  · refine any 0 [] 18 [0, 1] fun w3a hM3a => ?_
    refine av [0, 1, 3, 4, 7, 8, 10] [1, 1] 11 (a := by exact fun _ hw2 => kaddN (pl + 1)) (b := ?_)
    refine jn5 [12] [] (fun (A13_6 : Option Addr) (c13_6 : Nat) (A13_14 : Option Addr) (c13_14 : Nat) (b3_16 : Nat) => ([(10, Vp (bl b3_16) (0)), (41, Va [.sl (A13_6) ((kl.take pl ++ ([key] ++ kl.drop pl)).length) (c13_6), .sl (A13_14) ((cl.take (pl + 1) ++ ([kid] ++ cl.drop (pl + 1))).length) (c13_14)])] : List (Nat × SV))) (fun (A13_6 : Option Addr) (c13_6 : Nat) (A13_14 : Option Addr) (c13_14 : Nat) (b3_16 : Nat) => [[⟨.slice (bl b3_16) 1 1, 65, 2, 1, [.slice (none) (0) (0), .slice (none) (0) (0)]⟩], [⟨.slice (A13_14) ((cl.take (pl + 1) ++ ([kid] ++ cl.drop (pl + 1))).length) (c13_14), 3, 1, ((cl.take (pl + 1) ++ ([kid] ++ cl.drop (pl + 1))).length), (cl.take (pl + 1) ++ ([kid] ++ cl.drop (pl + 1))).map I⟩], [⟨.slice (A13_6) ((kl.take pl ++ ([key] ++ kl.drop pl)).length) (c13_6), 3, 1, ((kl.take pl ++ ([key] ++ kl.drop pl)).length), (kl.take pl ++ ([key] ++ kl.drop pl)).map I⟩]]) [8] [0, 1] 1 [true, true, true, true, true, true, true, true, true, true, true, true, true, true, true, true, true, false] (fun J3_0 => ?_) (fun A13_6 c13_6 A13_14 c13_14 b3_16 σ w_j3_0 hM_j3_0 => ?_)
    rotate_left
    · refine aO [] [] 17 ?_
      refine Sb 0 [] 0 fun w3_17 hM3_17 => ?_
      refine os 0 [] [3, 4] ?_
      refine an [] [] ?_
      have hq1 : (kl.take pl ++ ([key] ++ kl.drop pl) : List Int) = (kl).take pl ++ ([key] ++ (kl).drop pl) := (by first | rfl | simp | (simp; omega))
      have hMn1 := hM3_17.reM 2 hq1
      have hq2 : (cl.take (pl + 1) ++ ([kid] ++ cl.drop (pl + 1)) : List Int) = (cl).take (pl + 1) ++ ([kid] ++ (cl).drop (pl + 1)) := (by first | rfl | simp | (simp; omega))
      have hMn2 := hMn1.reM 1 hq2
      exact ce5 0 [] b3_16 A13_6 c13_6 A13_14 c13_14 [0, 2, 1, 3, 4] (h := by exact trivial)
    refine jn6 [] [] (fun (A13_6 : Option Addr) (c13_6 : Nat) (A13_9 : Option Addr) (c13_9 : Nat) (b3_13 : Nat) (b3_16 : Nat) => ([(10, Vp (bl b3_16) (0)), (32, Vl (A13_6) ((kl.take pl ++ ([key] ++ kl.drop pl)).length) (c13_6)), (35, Vl (A13_9) ((cl).length) (c13_9)), (39, Vl (bl b3_13) (1) (1))] : List (Nat × SV))) (fun (A13_6 : Option Addr) (c13_6 : Nat) (A13_9 : Option Addr) (c13_9 : Nat) (b3_13 : Nat) (b3_16 : Nat) => [[⟨.slice (bl b3_16) 1 1, 65, 2, 1, [.slice (none) (0) (0), .slice (none) (0) (0)]⟩], [⟨.slice (bl b3_13) (1) (1), 3, 1, 1, ([kid]).map I⟩], [⟨.slice (A13_9) ((cl).length) (c13_9), 3, 1, ((cl).length), (cl).map I⟩], [⟨.slice (A13_6) ((kl.take pl ++ ([key] ++ kl.drop pl)).length) (c13_6), 3, 1, ((kl.take pl ++ ([key] ++ kl.drop pl)).length), (kl.take pl ++ ([key] ++ kl.drop pl)).map I⟩]]) [8, 37] [0, 1] 3 [true, true, true, true, true, true, true, true, true, true, true, true, true, true, false, false, true, false] (fun J3_1 => ?_) (fun A13_6 c13_6 A13_9 c13_9 b3_13 b3_16 σ w_j3_1 hM_j3_1 => ?_)
    rotate_left
    · refine aO [] [] 14 ?_
      have hMf3_14 := hM_j3_1.pk [2, 1, 0, 3, 4, 5]
      refine cq 0 [] (vs := [.slice (A13_9) ((cl).length) (c13_9), I ((((pl + 1) : Nat) : Int)), .slice (bl b3_13) (([kid]).length) (1)]) (hvs := (by first | rfl | (rw [show ([kid]).length = 1 from (by first | rfl | (simp; done) | omega | (simp; omega))]; rfl))) (b := Insertint_fn _ _ _ _ (bl b3_13) 1 [kid] w_j3_1 (hMf3_14.fp [0, 1] rfl rfl) q0 q0 q0 q0) (c := ?_)
      rintro _ w3_14 ⟨A13_14, c13_14, rfl, hR3_14⟩
      have hM3_14 := hMf3_14.cl 2 hR3_14
      have hcr3_14_0 := (hM3_14.cap 0 rfl).1
      refine os 0 [] [3, 4] ?_
      exact jd5 [15] [] J3_0 A13_6 c13_6 A13_14 c13_14 b3_16 [1, 0, 2, 3, 4]
    refine jn5 [] [] (fun (A13_6 : Option Addr) (c13_6 : Nat) (A13_9 : Option Addr) (c13_9 : Nat) (b3_13 : Nat) => ([(32, Vl (A13_6) ((kl.take pl ++ ([key] ++ kl.drop pl)).length) (c13_6)), (35, Vl (A13_9) ((cl).length) (c13_9)), (39, Vl (bl b3_13) (1) (1))] : List (Nat × SV))) (fun (A13_6 : Option Addr) (c13_6 : Nat) (A13_9 : Option Addr) (c13_9 : Nat) (b3_13 : Nat) => [[⟨.slice (bl b3_13) (1) (1), 3, 1, 1, ([kid]).map I⟩], [⟨.slice (A13_9) ((cl).length) (c13_9), 3, 1, ((cl).length), (cl).map I⟩], [⟨.slice (A13_6) ((kl.take pl ++ ([key] ++ kl.drop pl)).length) (c13_6), 3, 1, ((kl.take pl ++ ([key] ++ kl.drop pl)).length), (kl.take pl ++ ([key] ++ kl.drop pl)).map I⟩]]) [8, 37] [0, 1] 4 [true, true, true, true, true, true, true, true, true, true, true, true, true, true, false, false, false, false] (fun J3_2 => ?_) (fun A13_6 c13_6 A13_9 c13_9 b3_13 σ w_j3_2 hM_j3_2 => ?_)
    rotate_left
    · refine aT [] [] 14 16 ?_ ?_
      · have hMf3_14 := hM_j3_2.pk [1, 0, 2, 3, 4]
        refine cq 0 [] (vs := [.slice (A13_9) ((cl).length) (c13_9), I ((((pl + 1) : Nat) : Int)), .slice (bl b3_13) (([kid]).length) (1)]) (hvs := (by first | rfl | (rw [show ([kid]).length = 1 from (by first | rfl | (simp; done) | omega | (simp; omega))]; rfl))) (b := Insertint_fn _ _ _ _ (bl b3_13) 1 [kid] w_j3_2 (hMf3_14.fp [0, 1] rfl rfl) q0 q0 q0 q0) (c := ?_)
        rintro _ w3_14 ⟨A13_14, c13_14, rfl, hR3_14⟩
        have hM3_14 := hMf3_14.cl 2 hR3_14
        have hcr3_14_0 := (hM3_14.cap 0 rfl).1
        refine os 0 [] [2, 3] ?_
        refine aO [15] [] 16 ?_
        refine Al 0 [] fun w3_16 b3_16 hb3_16 hM3_16 => ?_
        refine os 0 [] [3, 4] ?_
        exact jd5 [] [] J3_0 A13_6 c13_6 A13_14 c13_14 b3_16 [0, 1, 2, 3, 4]
      refine Al 0 [] fun w3_16 b3_16 hb3_16 hM3_16 => ?_
      refine os 0 [] [4, 5] ?_
      exact jd6 [] [] J3_1 A13_6 c13_6 A13_9 c13_9 b3_13 b3_16 [0, 1, 2, 3, 4, 5]
    refine jn5 [] [] (fun (A13_6 : Option Addr) (c13_6 : Nat) (A13_9 : Option Addr) (c13_9 : Nat) (b3_16 : Nat) => ([(10, Vp (bl b3_16) (0)), (32, Vl (A13_6) ((kl.take pl ++ ([key] ++ kl.drop pl)).length) (c13_6)), (35, Vl (A13_9) ((cl).length) (c13_9))] : List (Nat × SV))) (fun (A13_6 : Option Addr) (c13_6 : Nat) (A13_9 : Option Addr) (c13_9 : Nat) (b3_16 : Nat) => [[⟨.slice (bl b3_16) 1 1, 65, 2, 1, [.slice (none) (0) (0), .slice (none) (0) (0)]⟩], [⟨.slice (A13_9) ((cl).length) (c13_9), 3, 1, ((cl).length), (cl).map I⟩], [⟨.slice (A13_6) ((kl.take pl ++ ([key] ++ kl.drop pl)).length) (c13_6), 3, 1, ((kl.take pl ++ ([key] ++ kl.drop pl)).length), (kl.take pl ++ ([key] ++ kl.drop pl)).map I⟩]]) [8, 37, 38] [0, 1] 4 [true, true, true, true, true, true, true, true, true, true, true, true, true, false, false, false, true, false] (fun J3_3 => ?_) (fun A13_6 c13_6 A13_9 c13_9 b3_16 σ w_j3_3 hM_j3_3 => ?_)
    rotate_left
    · refine aO [] [] 13 ?_
      refine Lt 0 [] (([kid]).map I) (fun w3_13 b3_13 hb3_13 hM3_13 => ?_)
      refine os 0 [] [4, 5] ?_
      exact jd6 [] [] J3_1 A13_6 c13_6 A13_9 c13_9 b3_13 b3_16 [1, 0, 2, 3, 4, 5]
    refine jn4 [] [] (fun (A13_6 : Option Addr) (c13_6 : Nat) (b3_13 : Nat) (b3_16 : Nat) => ([(10, Vp (bl b3_16) (0)), (32, Vl (A13_6) ((kl.take pl ++ ([key] ++ kl.drop pl)).length) (c13_6)), (39, Vl (bl b3_13) (1) (1))] : List (Nat × SV))) (fun (A13_6 : Option Addr) (c13_6 : Nat) (b3_13 : Nat) (b3_16 : Nat) => [[⟨.slice (bl b3_16) 1 1, 65, 2, 1, [.slice (none) (0) (0), .slice (none) (0) (0)]⟩], [⟨.slice (bl b3_13) (1) (1), 3, 1, 1, ([kid]).map I⟩], [⟨.slice (A13_6) ((kl.take pl ++ ([key] ++ kl.drop pl)).length) (c13_6), 3, 1, ((kl.take pl ++ ([key] ++ kl.drop pl)).length), (kl.take pl ++ ([key] ++ kl.drop pl)).map I⟩]]) [8, 34, 37] [0, 1] 4 [true, true, true, true, true, true, true, true, true, false, true, true, true, true, false, false, true, false] (fun J3_4 => ?_) (fun A13_6 c13_6 b3_13 b3_16 σ w_j3_4 hM_j3_4 => ?_)
    rotate_left
    · refine aO [] [] 9 ?_
      refine cq 0 [] (b := Cloneint_fn _ _ _ w_j3_4 (hRC.at hM_j3_4) q0) (c := ?_)
      rintro _ w3_9 ⟨A13_9, c13_9, rfl, hR3_9⟩
      have hM3_9 := hM_j3_4.cl 0 hR3_9
      have hcr3_9_0 := (hM3_9.cap 0 rfl).1
      refine os 0 [] [4, 5] ?_
      exact jd6 [] [] J3_1 A13_6 c13_6 A13_9 c13_9 b3_13 b3_16 [1, 2, 0, 3, 4, 5]
    refine jn3 [] [] (fun (A13_6 : Option Addr) (c13_6 : Nat) (b3_13 : Nat) => ([(32, Vl (A13_6) ((kl.take pl ++ ([key] ++ kl.drop pl)).length) (c13_6)), (39, Vl (bl b3_13) (1) (1))] : List (Nat × SV))) (fun (A13_6 : Option Addr) (c13_6 : Nat) (b3_13 : Nat) => [[⟨.slice (bl b3_13) (1) (1), 3, 1, 1, ([kid]).map I⟩], [⟨.slice (A13_6) ((kl.take pl ++ ([key] ++ kl.drop pl)).length) (c13_6), 3, 1, ((kl.take pl ++ ([key] ++ kl.drop pl)).length), (kl.take pl ++ ([key] ++ kl.drop pl)).map I⟩]]) [8, 34, 37] [0, 1] 5 [true, true, true, true, true, true, true, true, true, false, true, true, true, true, false, false, false, false] (fun J3_5 => ?_) (fun A13_6 c13_6 b3_13 σ w_j3_5 hM_j3_5 => ?_)
    rotate_left
    · refine aT [] [] 9 16 ?_ ?_
      · refine cq 0 [] (b := Cloneint_fn _ _ _ w_j3_5 (hRC.at hM_j3_5) q0) (c := ?_)
        rintro _ w3_9 ⟨A13_9, c13_9, rfl, hR3_9⟩
        have hM3_9 := hM_j3_5.cl 0 hR3_9
        have hcr3_9_0 := (hM3_9.cap 0 rfl).1
        refine os 0 [] [3, 4] ?_
        exact jd5 [] [] J3_2 A13_6 c13_6 A13_9 c13_9 b3_13 [1, 0, 2, 3, 4]
      refine Al 0 [] fun w3_16 b3_16 hb3_16 hM3_16 => ?_
      refine os 0 [] [3, 4] ?_
      exact jd4 [] [] J3_4 A13_6 c13_6 b3_13 b3_16 [0, 1, 2, 3, 4]
    refine jn3 [] [] (fun (A13_6 : Option Addr) (c13_6 : Nat) (b3_16 : Nat) => ([(10, Vp (bl b3_16) (0)), (32, Vl (A13_6) ((kl.take pl ++ ([key] ++ kl.drop pl)).length) (c13_6))] : List (Nat × SV))) (fun (A13_6 : Option Addr) (c13_6 : Nat) (b3_16 : Nat) => [[⟨.slice (bl b3_16) 1 1, 65, 2, 1, [.slice (none) (0) (0), .slice (none) (0) (0)]⟩], [⟨.slice (A13_6) ((kl.take pl ++ ([key] ++ kl.drop pl)).length) (c13_6), 3, 1, ((kl.take pl ++ ([key] ++ kl.drop pl)).length), (kl.take pl ++ ([key] ++ kl.drop pl)).map I⟩]]) [8, 34, 37, 38] [0, 1] 5 [true, true, true, true, true, true, true, true, true, false, true, true, true, false, false, false, true, false] (fun J3_6 => ?_) (fun A13_6 c13_6 b3_16 σ w_j3_6 hM_j3_6 => ?_)
    rotate_left
    · refine aT [] [] 9 13 ?_ ?_
      · refine cq 0 [] (b := Cloneint_fn _ _ _ w_j3_6 (hRC.at hM_j3_6) q0) (c := ?_)
        rintro _ w3_9 ⟨A13_9, c13_9, rfl, hR3_9⟩
        have hM3_9 := hM_j3_6.cl 0 hR3_9
        have hcr3_9_0 := (hM3_9.cap 0 rfl).1
        refine os 0 [] [3, 4] ?_
        exact jd5 [] [] J3_3 A13_6 c13_6 A13_9 c13_9 b3_16 [1, 0, 2, 3, 4]
      refine Lt 0 [] (([kid]).map I) (fun w3_13 b3_13 hb3_13 hM3_13 => ?_)
      refine os 0 [] [3, 4] ?_
      exact jd4 [] [] J3_4 A13_6 c13_6 b3_13 b3_16 [1, 0, 2, 3, 4]
    refine jn5 [] [] (fun (A13_2 : Option Addr) (c13_2 : Nat) (b3_5 : Nat) (b3_13 : Nat) (b3_16 : Nat) => ([(10, Vp (bl b3_16) (0)), (28, Vl (A13_2) ((kl).length) (c13_2)), (31, Vl (bl b3_5) (1) (1)), (39, Vl (bl b3_13) (1) (1))] : List (Nat × SV))) (fun (A13_2 : Option Addr) (c13_2 : Nat) (b3_5 : Nat) (b3_13 : Nat) (b3_16 : Nat) => [[⟨.slice (bl b3_16) 1 1, 65, 2, 1, [.slice (none) (0) (0), .slice (none) (0) (0)]⟩], [⟨.slice (bl b3_13) (1) (1), 3, 1, 1, ([kid]).map I⟩], [⟨.slice (bl b3_5) (1) (1), 3, 1, 1, ([key]).map I⟩], [⟨.slice (A13_2) ((kl).length) (c13_2), 3, 1, ((kl).length), (kl).map I⟩]]) [8, 29, 34, 37] [0, 1] 5 [true, true, true, true, true, true, false, true, true, false, true, true, true, true, false, false, true, false] (fun J3_7 => ?_) (fun A13_2 c13_2 b3_5 b3_13 b3_16 σ w_j3_7 hM_j3_7 => ?_)
    rotate_left
    · refine aO [] [] 6 ?_
      have hMf3_6 := hM_j3_7.pk [3, 2, 0, 1, 4, 5]
      refine cq 0 [] (vs := [.slice (A13_2) ((kl).length) (c13_2), I (((pl : Nat) : Int)), .slice (bl b3_5) (([key]).length) (1)]) (hvs := (by first | rfl | (rw [show ([key]).length = 1 from (by first | rfl | (simp; done) | omega | (simp; omega))]; rfl))) (b := Insertint_fn _ _ _ _ (bl b3_5) 1 [key] w_j3_7 (hMf3_6.fp [0, 1] rfl rfl) q0 q0 q0 q0) (c := ?_)
      rintro _ w3_6 ⟨A13_6, c13_6, rfl, hR3_6⟩
      have hM3_6 := hMf3_6.cl 2 hR3_6
      have hcr3_6_0 := (hM3_6.cap 0 rfl).1
      refine os 0 [] [3, 4] ?_
      exact jd4 [] [] J3_4 A13_6 c13_6 b3_13 b3_16 [1, 2, 0, 3, 4]
    refine jn4 [] [] (fun (A13_2 : Option Addr) (c13_2 : Nat) (b3_5 : Nat) (b3_13 : Nat) => ([(28, Vl (A13_2) ((kl).length) (c13_2)), (31, Vl (bl b3_5) (1) (1)), (39, Vl (bl b3_13) (1) (1))] : List (Nat × SV))) (fun (A13_2 : Option Addr) (c13_2 : Nat) (b3_5 : Nat) (b3_13 : Nat) => [[⟨.slice (bl b3_13) (1) (1), 3, 1, 1, ([kid]).map I⟩], [⟨.slice (bl b3_5) (1) (1), 3, 1, 1, ([key]).map I⟩], [⟨.slice (A13_2) ((kl).length) (c13_2), 3, 1, ((kl).length), (kl).map I⟩]]) [8, 29, 34, 37] [0, 1] 6 [true, true, true, true, true, true, false, true, true, false, true, true, true, true, false, false, false, false] (fun J3_8 => ?_) (fun A13_2 c13_2 b3_5 b3_13 σ w_j3_8 hM_j3_8 => ?_)
    rotate_left
    · refine aT [] [] 6 16 ?_ ?_
      · have hMf3_6 := hM_j3_8.pk [2, 1, 0, 3, 4]
        refine cq 0 [] (vs := [.slice (A13_2) ((kl).length) (c13_2), I (((pl : Nat) : Int)), .slice (bl b3_5) (([key]).length) (1)]) (hvs := (by first | rfl | (rw [show ([key]).length = 1 from (by first | rfl | (simp; done) | omega | (simp; omega))]; rfl))) (b := Insertint_fn _ _ _ _ (bl b3_5) 1 [key] w_j3_8 (hMf3_6.fp [0, 1] rfl rfl) q0 q0 q0 q0) (c := ?_)
        rintro _ w3_6 ⟨A13_6, c13_6, rfl, hR3_6⟩
        have hM3_6 := hMf3_6.cl 2 hR3_6
        have hcr3_6_0 := (hM3_6.cap 0 rfl).1
        refine os 0 [] [2, 3] ?_
        exact jd3 [] [] J3_5 A13_6 c13_6 b3_13 [1, 0, 2, 3]
      refine Al 0 [] fun w3_16 b3_16 hb3_16 hM3_16 => ?_
      refine os 0 [] [4, 5] ?_
      exact jd5 [] [] J3_7 A13_2 c13_2 b3_5 b3_13 b3_16 [0, 1, 2, 3, 4, 5]
    refine jn4 [] [] (fun (A13_2 : Option Addr) (c13_2 : Nat) (b3_5 : Nat) (b3_16 : Nat) => ([(10, Vp (bl b3_16) (0)), (28, Vl (A13_2) ((kl).length) (c13_2)), (31, Vl (bl b3_5) (1) (1))] : List (Nat × SV))) (fun (A13_2 : Option Addr) (c13_2 : Nat) (b3_5 : Nat) (b3_16 : Nat) => [[⟨.slice (bl b3_16) 1 1, 65, 2, 1, [.slice (none) (0) (0), .slice (none) (0) (0)]⟩], [⟨.slice (bl b3_5) (1) (1), 3, 1, 1, ([key]).map I⟩], [⟨.slice (A13_2) ((kl).length) (c13_2), 3, 1, ((kl).length), (kl).map I⟩]]) [8, 29, 34, 37, 38] [0, 1] 6 [true, true, true, true, true, true, false, true, true, false, true, true, true, false, false, false, true, false] (fun J3_9 => ?_) (fun A13_2 c13_2 b3_5 b3_16 σ w_j3_9 hM_j3_9 => ?_)
    rotate_left
    · refine aT [] [] 6 13 ?_ ?_
      · have hMf3_6 := hM_j3_9.pk [2, 1, 0, 3, 4]
        refine cq 0 [] (vs := [.slice (A13_2) ((kl).length) (c13_2), I (((pl : Nat) : Int)), .slice (bl b3_5) (([key]).length) (1)]) (hvs := (by first | rfl | (rw [show ([key]).length = 1 from (by first | rfl | (simp; done) | omega | (simp; omega))]; rfl))) (b := Insertint_fn _ _ _ _ (bl b3_5) 1 [key] w_j3_9 (hMf3_6.fp [0, 1] rfl rfl) q0 q0 q0 q0) (c := ?_)
        rintro _ w3_6 ⟨A13_6, c13_6, rfl, hR3_6⟩
        have hM3_6 := hMf3_6.cl 2 hR3_6
        have hcr3_6_0 := (hM3_6.cap 0 rfl).1
        refine os 0 [] [2, 3] ?_
        exact jd3 [] [] J3_6 A13_6 c13_6 b3_16 [1, 0, 2, 3]
      refine Lt 0 [] (([kid]).map I) (fun w3_13 b3_13 hb3_13 hM3_13 => ?_)
      refine os 0 [] [4, 5] ?_
      exact jd5 [] [] J3_7 A13_2 c13_2 b3_5 b3_13 b3_16 [1, 0, 2, 3, 4, 5]
    refine jn4 [] [] (fun (A13_2 : Option Addr) (c13_2 : Nat) (b3_13 : Nat) (b3_16 : Nat) => ([(10, Vp (bl b3_16) (0)), (28, Vl (A13_2) ((kl).length) (c13_2)), (39, Vl (bl b3_13) (1) (1))] : List (Nat × SV))) (fun (A13_2 : Option Addr) (c13_2 : Nat) (b3_13 : Nat) (b3_16 : Nat) => [[⟨.slice (bl b3_16) 1 1, 65, 2, 1, [.slice (none) (0) (0), .slice (none) (0) (0)]⟩], [⟨.slice (bl b3_13) (1) (1), 3, 1, 1, ([kid]).map I⟩], [⟨.slice (A13_2) ((kl).length) (c13_2), 3, 1, ((kl).length), (kl).map I⟩]]) [8, 29, 30, 34, 37] [0, 1] 6 [true, true, true, true, true, false, false, true, true, false, true, true, true, true, false, false, true, false] (fun J3_10 => ?_) (fun A13_2 c13_2 b3_13 b3_16 σ w_j3_10 hM_j3_10 => ?_)
    rotate_left
    · refine aO [] [] 5 ?_
      refine Lt 0 [] (([key]).map I) (fun w3_5 b3_5 hb3_5 hM3_5 => ?_)
      refine os 0 [] [4, 5] ?_
      exact jd5 [] [] J3_7 A13_2 c13_2 b3_5 b3_13 b3_16 [1, 2, 0, 3, 4, 5]
    refine jn3 [] [] (fun (b3_5 : Nat) (b3_13 : Nat) (b3_16 : Nat) => ([(10, Vp (bl b3_16) (0)), (31, Vl (bl b3_5) (1) (1)), (39, Vl (bl b3_13) (1) (1))] : List (Nat × SV))) (fun (b3_5 : Nat) (b3_13 : Nat) (b3_16 : Nat) => [[⟨.slice (bl b3_16) 1 1, 65, 2, 1, [.slice (none) (0) (0), .slice (none) (0) (0)]⟩], [⟨.slice (bl b3_13) (1) (1), 3, 1, 1, ([kid]).map I⟩], [⟨.slice (bl b3_5) (1) (1), 3, 1, 1, ([key]).map I⟩]]) [8, 27, 29, 34, 37] [0, 1] 6 [true, true, false, true, true, true, false, true, true, false, true, true, true, true, false, false, true, false] (fun J3_11 => ?_) (fun b3_5 b3_13 b3_16 σ w_j3_11 hM_j3_11 => ?_)
    rotate_left
    · refine aO [] [] 2 ?_
      refine cq 0 [] (b := Cloneint_fn _ _ _ w_j3_11 (hRK.at hM_j3_11) q0) (c := ?_)
      rintro _ w3_2 ⟨A13_2, c13_2, rfl, hR3_2⟩
      have hM3_2 := hM_j3_11.cl 0 hR3_2
      have hcr3_2_0 := (hM3_2.cap 0 rfl).1
      refine os 0 [] [4, 5] ?_
      exact jd5 [] [] J3_7 A13_2 c13_2 b3_5 b3_13 b3_16 [1, 2, 3, 0, 4, 5]
    refine jn3 [] [] (fun (A13_2 : Option Addr) (c13_2 : Nat) (b3_5 : Nat) => ([(28, Vl (A13_2) ((kl).length) (c13_2)), (31, Vl (bl b3_5) (1) (1))] : List (Nat × SV))) (fun (A13_2 : Option Addr) (c13_2 : Nat) (b3_5 : Nat) => [[⟨.slice (bl b3_5) (1) (1), 3, 1, 1, ([key]).map I⟩], [⟨.slice (A13_2) ((kl).length) (c13_2), 3, 1, ((kl).length), (kl).map I⟩]]) [8, 29, 34, 37, 38] [0, 1] 7 [true, true, true, true, true, true, false, true, true, false, true, true, true, false, false, false, false, false] (fun J3_12 => ?_) (fun A13_2 c13_2 b3_5 σ w_j3_12 hM_j3_12 => ?_)
    rotate_left
    · refine aH [] [] 6 13 16 ?_ ?_ ?_
      · have hMf3_6 := hM_j3_12.pk [1, 0, 2, 3]
        refine cq 0 [] (vs := [.slice (A13_2) ((kl).length) (c13_2), I (((pl : Nat) : Int)), .slice (bl b3_5) (([key]).length) (1)]) (hvs := (by first | rfl | (rw [show ([key]).length = 1 from (by first | rfl | (simp; done) | omega | (simp; omega))]; rfl))) (b := Insertint_fn _ _ _ _ (bl b3_5) 1 [key] w_j3_12 (hMf3_6.fp [0, 1] rfl rfl) q0 q0 q0 q0) (c := ?_)
        rintro _ w3_6 ⟨A13_6, c13_6, rfl, hR3_6⟩
        have hM3_6 := hMf3_6.cl 2 hR3_6
        have hcr3_6_0 := (hM3_6.cap 0 rfl).1
        refine os 0 [] [1, 2] ?_
        refine aH [] [] 9 13 16 ?_ ?_ ?_
        · refine cq 0 [] (b := Cloneint_fn _ _ _ w3_6 (hRC.at hM3_6) q0) (c := ?_)
          rintro _ w3_9 ⟨A13_9, c13_9, rfl, hR3_9⟩
          have hM3_9 := hM3_6.cl 0 hR3_9
          have hcr3_9_0 := (hM3_9.cap 0 rfl).1
          refine os 0 [] [2, 3] ?_
          refine aT [] [] 13 16 ?_ ?_
          · refine Lt 0 [] (([kid]).map I) (fun w3_13 b3_13 hb3_13 hM3_13 => ?_)
            refine os 0 [] [3, 4] ?_
            exact jd5 [] [] J3_2 A13_6 c13_6 A13_9 c13_9 b3_13 [0, 1, 2, 3, 4]
          refine Al 0 [] fun w3_16 b3_16 hb3_16 hM3_16 => ?_
          refine os 0 [] [3, 4] ?_
          exact jd5 [] [] J3_3 A13_6 c13_6 A13_9 c13_9 b3_16 [0, 1, 2, 3, 4]
        · refine Lt 0 [] (([kid]).map I) (fun w3_13 b3_13 hb3_13 hM3_13 => ?_)
          refine os 0 [] [2, 3] ?_
          exact jd3 [] [] J3_5 A13_6 c13_6 b3_13 [0, 1, 2, 3]
        refine Al 0 [] fun w3_16 b3_16 hb3_16 hM3_16 => ?_
        refine os 0 [] [2, 3] ?_
        exact jd3 [] [] J3_6 A13_6 c13_6 b3_16 [0, 1, 2, 3]
      · refine Lt 0 [] (([kid]).map I) (fun w3_13 b3_13 hb3_13 hM3_13 => ?_)
        refine os 0 [] [3, 4] ?_
        exact jd4 [] [] J3_8 A13_2 c13_2 b3_5 b3_13 [0, 1, 2, 3, 4]
      refine Al 0 [] fun w3_16 b3_16 hb3_16 hM3_16 => ?_
      refine os 0 [] [3, 4] ?_
      exact jd4 [] [] J3_9 A13_2 c13_2 b3_5 b3_16 [0, 1, 2, 3, 4]
    refine jn3 [] [] (fun (A13_2 : Option Addr) (c13_2 : Nat) (b3_13 : Nat) => ([(28, Vl (A13_2) ((kl).length) (c13_2)), (39, Vl (bl b3_13) (1) (1))] : List (Nat × SV))) (fun (A13_2 : Option Addr) (c13_2 : Nat) (b3_13 : Nat) => [[⟨.slice (bl b3_13) (1) (1), 3, 1, 1, ([kid]).map I⟩], [⟨.slice (A13_2) ((kl).length) (c13_2), 3, 1, ((kl).length), (kl).map I⟩]]) [8, 29, 30, 34, 37] [0, 1] 7 [true, true, true, true, true, false, false, true, true, false, true, true, true, true, false, false, false, false] (fun J3_13 => ?_) (fun A13_2 c13_2 b3_13 σ w_j3_13 hM_j3_13 => ?_)
    rotate_left
    · refine aT [] [] 5 16 ?_ ?_
      · refine Lt 0 [] (([key]).map I) (fun w3_5 b3_5 hb3_5 hM3_5 => ?_)
        refine os 0 [] [3, 4] ?_
        exact jd4 [] [] J3_8 A13_2 c13_2 b3_5 b3_13 [1, 0, 2, 3, 4]
      refine Al 0 [] fun w3_16 b3_16 hb3_16 hM3_16 => ?_
      refine os 0 [] [3, 4] ?_
      exact jd4 [] [] J3_10 A13_2 c13_2 b3_13 b3_16 [0, 1, 2, 3, 4]
    refine jn3 [] [] (fun (A13_2 : Option Addr) (c13_2 : Nat) (b3_16 : Nat) => ([(10, Vp (bl b3_16) (0)), (28, Vl (A13_2) ((kl).length) (c13_2))] : List (Nat × SV))) (fun (A13_2 : Option Addr) (c13_2 : Nat) (b3_16 : Nat) => [[⟨.slice (bl b3_16) 1 1, 65, 2, 1, [.slice (none) (0) (0), .slice (none) (0) (0)]⟩], [⟨.slice (A13_2) ((kl).length) (c13_2), 3, 1, ((kl).length), (kl).map I⟩]]) [8, 29, 30, 34, 37, 38] [0, 1] 7 [true, true, true, true, true, false, false, true, true, false, true, true, true, false, false, false, true, false] (fun J3_14 => ?_) (fun A13_2 c13_2 b3_16 σ w_j3_14 hM_j3_14 => ?_)
    rotate_left
    · refine aT [] [] 5 13 ?_ ?_
      · refine Lt 0 [] (([key]).map I) (fun w3_5 b3_5 hb3_5 hM3_5 => ?_)
        refine os 0 [] [3, 4] ?_
        exact jd4 [] [] J3_9 A13_2 c13_2 b3_5 b3_16 [1, 0, 2, 3, 4]
      refine Lt 0 [] (([kid]).map I) (fun w3_13 b3_13 hb3_13 hM3_13 => ?_)
      refine os 0 [] [3, 4] ?_
      exact jd4 [] [] J3_10 A13_2 c13_2 b3_13 b3_16 [1, 0, 2, 3, 4]
    refine jn2 [] [] (fun (b3_5 : Nat) (b3_13 : Nat) => ([(31, Vl (bl b3_5) (1) (1)), (39, Vl (bl b3_13) (1) (1))] : List (Nat × SV))) (fun (b3_5 : Nat) (b3_13 : Nat) => [[⟨.slice (bl b3_13) (1) (1), 3, 1, 1, ([kid]).map I⟩], [⟨.slice (bl b3_5) (1) (1), 3, 1, 1, ([key]).map I⟩]]) [8, 27, 29, 34, 37] [0, 1] 7 [true, true, false, true, true, true, false, true, true, false, true, true, true, true, false, false, false, false] (fun J3_15 => ?_) (fun b3_5 b3_13 σ w_j3_15 hM_j3_15 => ?_)
    rotate_left
    · refine aT [] [] 2 16 ?_ ?_
      · refine cq 0 [] (b := Cloneint_fn _ _ _ w_j3_15 (hRK.at hM_j3_15) q0) (c := ?_)
        rintro _ w3_2 ⟨A13_2, c13_2, rfl, hR3_2⟩
        have hM3_2 := hM_j3_15.cl 0 hR3_2
        have hcr3_2_0 := (hM3_2.cap 0 rfl).1
        refine os 0 [] [3, 4] ?_
        exact jd4 [] [] J3_8 A13_2 c13_2 b3_5 b3_13 [1, 2, 0, 3, 4]
      refine Al 0 [] fun w3_16 b3_16 hb3_16 hM3_16 => ?_
      refine os 0 [] [3, 4] ?_
      exact jd3 [] [] J3_11 b3_5 b3_13 b3_16 [0, 1, 2, 3, 4]
    refine jn2 [] [] (fun (b3_5 : Nat) (b3_16 : Nat) => ([(10, Vp (bl b3_16) (0)), (31, Vl (bl b3_5) (1) (1))] : List (Nat × SV))) (fun (b3_5 : Nat) (b3_16 : Nat) => [[⟨.slice (bl b3_16) 1 1, 65, 2, 1, [.slice (none) (0) (0), .slice (none) (0) (0)]⟩], [⟨.slice (bl b3_5) (1) (1), 3, 1, 1, ([key]).map I⟩]]) [8, 27, 29, 34, 37, 38] [0, 1] 7 [true, true, false, true, true, true, false, true, true, false, true, true, true, false, false, false, true, false] (fun J3_16 => ?_) (fun b3_5 b3_16 σ w_j3_16 hM_j3_16 => ?_)
    rotate_left
    · refine aT [] [] 2 13 ?_ ?_
      · refine cq 0 [] (b := Cloneint_fn _ _ _ w_j3_16 (hRK.at hM_j3_16) q0) (c := ?_)
        rintro _ w3_2 ⟨A13_2, c13_2, rfl, hR3_2⟩
        have hM3_2 := hM_j3_16.cl 0 hR3_2
        have hcr3_2_0 := (hM3_2.cap 0 rfl).1
        refine os 0 [] [3, 4] ?_
        exact jd4 [] [] J3_9 A13_2 c13_2 b3_5 b3_16 [1, 2, 0, 3, 4]
      refine Lt 0 [] (([kid]).map I) (fun w3_13 b3_13 hb3_13 hM3_13 => ?_)
      refine os 0 [] [3, 4] ?_
      exact jd3 [] [] J3_11 b3_5 b3_13 b3_16 [1, 0, 2, 3, 4]
    refine jn2 [] [] (fun (b3_13 : Nat) (b3_16 : Nat) => ([(10, Vp (bl b3_16) (0)), (39, Vl (bl b3_13) (1) (1))] : List (Nat × SV))) (fun (b3_13 : Nat) (b3_16 : Nat) => [[⟨.slice (bl b3_16) 1 1, 65, 2, 1, [.slice (none) (0) (0), .slice (none) (0) (0)]⟩], [⟨.slice (bl b3_13) (1) (1), 3, 1, 1, ([kid]).map I⟩]]) [8, 27, 29, 30, 34, 37] [0, 1] 7 [true, true, false, true, true, false, false, true, true, false, true, true, true, true, false, false, true, false] (fun J3_17 => ?_) (fun b3_13 b3_16 σ w_j3_17 hM_j3_17 => ?_)
    rotate_left
    · refine aT [] [] 2 5 ?_ ?_
      · refine cq 0 [] (b := Cloneint_fn _ _ _ w_j3_17 (hRK.at hM_j3_17) q0) (c := ?_)
        rintro _ w3_2 ⟨A13_2, c13_2, rfl, hR3_2⟩
        have hM3_2 := hM_j3_17.cl 0 hR3_2
        have hcr3_2_0 := (hM3_2.cap 0 rfl).1
        refine os 0 [] [3, 4] ?_
        exact jd4 [] [] J3_10 A13_2 c13_2 b3_13 b3_16 [1, 2, 0, 3, 4]
      refine Lt 0 [] (([key]).map I) (fun w3_5 b3_5 hb3_5 hM3_5 => ?_)
      refine os 0 [] [3, 4] ?_
      exact jd3 [] [] J3_11 b3_5 b3_13 b3_16 [1, 2, 0, 3, 4]
    refine aQ [] [] 2 5 13 16 ?_ ?_ ?_ ?_
    · refine cq 0 [] (b := Cloneint_fn _ _ _ w3a (hRK.at hM3a) q0) (c := ?_)
      rintro _ w3_2 ⟨A13_2, c13_2, rfl, hR3_2⟩
      have hM3_2 := hM3a.cl 0 hR3_2
      have hcr3_2_0 := (hM3_2.cap 0 rfl).1
      refine os 0 [] [1, 2] ?_
      refine aH [] [] 5 13 16 ?_ ?_ ?_
      · refine Lt 0 [] (([key]).map I) (fun w3_5 b3_5 hb3_5 hM3_5 => ?_)
        refine os 0 [] [2, 3] ?_
        exact jd3 [] [] J3_12 A13_2 c13_2 b3_5 [0, 1, 2, 3]
      · refine Lt 0 [] (([kid]).map I) (fun w3_13 b3_13 hb3_13 hM3_13 => ?_)
        refine os 0 [] [2, 3] ?_
        exact jd3 [] [] J3_13 A13_2 c13_2 b3_13 [0, 1, 2, 3]
      refine Al 0 [] fun w3_16 b3_16 hb3_16 hM3_16 => ?_
      refine os 0 [] [2, 3] ?_
      exact jd3 [] [] J3_14 A13_2 c13_2 b3_16 [0, 1, 2, 3]
    · refine Lt 0 [] (([key]).map I) (fun w3_5 b3_5 hb3_5 hM3_5 => ?_)
      refine os 0 [] [1, 2] ?_
      refine aH [] [] 2 13 16 ?_ ?_ ?_
      · refine cq 0 [] (b := Cloneint_fn _ _ _ w3_5 (hRK.at hM3_5) q0) (c := ?_)
        rintro _ w3_2 ⟨A13_2, c13_2, rfl, hR3_2⟩
        have hM3_2 := hM3_5.cl 0 hR3_2
        have hcr3_2_0 := (hM3_2.cap 0 rfl).1
        refine os 0 [] [2, 3] ?_
        exact jd3 [] [] J3_12 A13_2 c13_2 b3_5 [1, 0, 2, 3]
      · refine Lt 0 [] (([kid]).map I) (fun w3_13 b3_13 hb3_13 hM3_13 => ?_)
        refine os 0 [] [2, 3] ?_
        exact jd2 [] [] J3_15 b3_5 b3_13 [0, 1, 2, 3]
      refine Al 0 [] fun w3_16 b3_16 hb3_16 hM3_16 => ?_
      refine os 0 [] [2, 3] ?_
      exact jd2 [] [] J3_16 b3_5 b3_16 [0, 1, 2, 3]
    · refine Lt 0 [] (([kid]).map I) (fun w3_13 b3_13 hb3_13 hM3_13 => ?_)
      refine os 0 [] [1, 2] ?_
      refine aH [] [] 2 5 16 ?_ ?_ ?_
      · refine cq 0 [] (b := Cloneint_fn _ _ _ w3_13 (hRK.at hM3_13) q0) (c := ?_)
        rintro _ w3_2 ⟨A13_2, c13_2, rfl, hR3_2⟩
        have hM3_2 := hM3_13.cl 0 hR3_2
        have hcr3_2_0 := (hM3_2.cap 0 rfl).1
        refine os 0 [] [2, 3] ?_
        exact jd3 [] [] J3_13 A13_2 c13_2 b3_13 [1, 0, 2, 3]
      · refine Lt 0 [] (([key]).map I) (fun w3_5 b3_5 hb3_5 hM3_5 => ?_)
        refine os 0 [] [2, 3] ?_
        exact jd2 [] [] J3_15 b3_5 b3_13 [1, 0, 2, 3]
      refine Al 0 [] fun w3_16 b3_16 hb3_16 hM3_16 => ?_
      refine os 0 [] [2, 3] ?_
      exact jd2 [] [] J3_17 b3_13 b3_16 [0, 1, 2, 3]
    refine Al 0 [] fun w3_16 b3_16 hb3_16 hM3_16 => ?_
    refine os 0 [] [1, 2] ?_
    refine aH [] [] 2 5 13 ?_ ?_ ?_
    · refine cq 0 [] (b := Cloneint_fn _ _ _ w3_16 (hRK.at hM3_16) q0) (c := ?_)
      rintro _ w3_2 ⟨A13_2, c13_2, rfl, hR3_2⟩
      have hM3_2 := hM3_16.cl 0 hR3_2
      have hcr3_2_0 := (hM3_2.cap 0 rfl).1
      refine os 0 [] [2, 3] ?_
      exact jd3 [] [] J3_14 A13_2 c13_2 b3_16 [1, 0, 2, 3]
    · refine Lt 0 [] (([key]).map I) (fun w3_5 b3_5 hb3_5 hM3_5 => ?_)
      refine os 0 [] [2, 3] ?_
      exact jd2 [] [] J3_16 b3_5 b3_16 [1, 0, 2, 3]
    refine Lt 0 [] (([kid]).map I) (fun w3_13 b3_13 hb3_13 hM3_13 => ?_)
    refine os 0 [] [2, 3] ?_
    exact jd2 [] [] J3_17 b3_13 b3_16 [1, 0, 2, 3]
  have hcl1_r3 := (hM_r3.cap 1 rfl).1
  have hcl2_r3 := (hM_r3.cap 2 rfl).1
  refine cp 4 [0] (b := ValidInner_fn P10_0 p10_0 ((kl).take pl ++ ([key] ++ (kl).drop pl)) P10_1 p10_1 ((cl).take (pl + 1) ++ ([kid] ++ (cl).drop (pl + 1))) w_r3 (hM_r3.rd 1 rfl) (hM_r3.rd 2 rfl) (by simp only [List.length_append, List.length_take, List.length_drop, List.length_cons, List.length_nil]; omega)) (c := fun w4_1 hM4_1 => ?_)
  refine cn 2 [] (fun c44 => ?_) (fun c44 => ?_)
  · have hnob : inB ((kl).take pl ++ ([key] ++ (kl).drop pl)) ((cl).take (pl + 1) ++ ([kid] ++ (cl).drop (pl + 1))) = false := by simpa using c44
    refine Sb 3 [] 3 fun w5_1 hM5_1 => ?_
    refine EG 3 [] ?_
    refine PG (vs := [.agg #[.slice (none) (0) (0), .slice (none) (0) (0)], .bool (false)]) (ResV.cell (l := [.slice (none) (0) (0), .slice (none) (0) (0)]) rfl (mem_blk (i := 3) (j := 0) hM5_1 rfl rfl) el65 rfl (ResV.tmp rfl ResV.nil)) ?_
    have hMn3 := Mem.addNil (e := 3) (sz := 1) hM5_1
    have hq4 : ([] : List Int) = ([] : List Int) := (by first | rfl | simp | (simp; omega))
    have hMn4 := hMn3.reM 0 hq4 (f := I)
    have hMn5 := Mem.addNil (e := 3) (sz := 1) hMn4
    have hq6 : ([] : List Int) = ([] : List Int) := (by first | rfl | simp | (simp; omega))
    have hMn6 := hMn5.reM 0 hq6 (f := I)
    exact ⟨([] : List Int), none, 0, ([] : List Int), none, 0, (by rw [hnob]; rfl), (fun h9 => by rw [hnob] at h9; cases h9), (hMn6.pk [1, 0])⟩
  have hyes : inB ((kl).take pl ++ ([key] ++ (kl).drop pl)) ((cl).take (pl + 1) ++ ([kid] ++ (cl).drop (pl + 1))) = true := by simpa using c44
  refine Sb 4 [0] 3 fun w6_1 hM6_1 => ?_
  refine EG 3 [] ?_
  refine PG (vs := [.agg #[.slice (P10_0) (((kl).take pl ++ ([key] ++ (kl).drop pl)).length) (p10_0), .slice (P10_1) (((cl).take (pl + 1) ++ ([kid] ++ (cl).drop (pl + 1))).length) (p10_1)], .bool (true)]) (ResV.cell (l := [.slice (P10_0) (((kl).take pl ++ ([key] ++ (kl).drop pl)).length) (p10_0), .slice (P10_1) (((cl).take (pl + 1) ++ ([kid] ++ (cl).drop (pl + 1))).length) (p10_1)]) rfl (mem_blk (i := 3) (j := 0) hM6_1 rfl rfl) el65 rfl (ResV.tmp rfl ResV.nil)) ?_
  have hyb : inB ((kl).take pl ++ ([key] ++ (kl).drop pl)) ((cl).take (pl + 1) ++ ([kid] ++ (cl).drop (pl + 1))) = true := hyes
  have hq7 : ((kl).take pl ++ ([key] ++ (kl).drop pl) : List Int) = ((kl).take pl ++ ([key] ++ (kl).drop pl)) := (by first | rfl | simp | (simp; omega))
  have hMn7 := hM6_1.reM 1 hq7
  have hq8 : ((cl).take (pl + 1) ++ ([kid] ++ (cl).drop (pl + 1)) : List Int) = ((cl).take (pl + 1) ++ ([kid] ++ (cl).drop (pl + 1))) := (by first | rfl | simp | (simp; omega))
  have hMn8 := hMn7.reM 2 hq8
  exact ⟨(kl).take pl ++ ([key] ++ (kl).drop pl), P10_0, p10_0, (cl).take (pl + 1) ++ ([kid] ++ (cl).drop (pl + 1)), P10_1, p10_1, (by rw [hyb]; rfl), (fun _ => ⟨rfl, rfl⟩), (hMn8.pk [1, 2])⟩
end Go.Proofs.YtemejgglbhjodaaGreatDoor
end
section
namespace Go.Proofs.YtemejgglbhjodaaGreatDoor
open Go.Px
set_option maxHeartbeats 2000000 in
theorem PathTo_fn (T : TreeL) (key : Int) (w : World) (hNT : TrN w T) (hs : SzT T) (hv : validT (T).t = true) :
    Does Tryz.prog 31 [.agg #[I ((T).root), .slice ((T).A) ((T).l.length) ((T).cp)], I (key)] w (fun v w1 => ∃ (A1 : Option Addr) (c1 : Nat), v = .slice (A1) ((pathK (T).t key).length) (c1) ∧ Mem w w1 [] [[⟨.slice (A1) ((pathK (T).t key).length) (c1), 3, 1, ((pathK (T).t key).length), (pathK (T).t key).map I⟩]]) := by
  have hM : Mem w w [] [] := Mem.refl
  refine Does.n1 Tryz.func31 rfl Tryz.results31 Tryz.ntmps31 rfl ?_
  have hvk := valid_ok hv
  have hvo := hvk.2.1
  have hv3 := hvk.1
  have hh1 := height_1 (T := (T).t)
  have hs1 := hs.1
  refine Bx 2 [] fun w0_0 b0_0 hb0_0 hM0_0 => ?_
  refine cp 6 [0] (b := ValidTree_fn T w0_0 (hNT.at hM0_0) q0) (c := fun w1_1 hM1_1 => ?_)
  refine cn 2 [] (fun c9 => ?_) (fun c9 => ?_)
  · (exfalso; simp [hv] at c9)
  refine Lt 10 [0] (([(T).root]).map I) (fun w4_1 b4_1 hb4_1 hM4_1 => ?_)
  have hq1 : ([(T).root] : List Int) = ([] : List Int) ++ [((T).root)] := rfl
  have hMn1 := hM4_1.reM 0 hq1
  refine lp7 4 [] (fun (pre : List Int) (cur : Int) (e : Nat) (lo2 : Int) (hi2 : Int) (A2 : Option Addr) (c2 : Nat) => ([(5, Vi (cur)), (6, Vl (A2) ((pre ++ [cur]).length) (c2))] : List (Nat × SV))) (fun (pre : List Int) (cur : Int) (e : Nat) (lo2 : Int) (hi2 : Int) (A2 : Option Addr) (c2 : Nat) => (pre.length + e ≤ 2) ∧ (pathK (T).t key = pre ++ pathT (T).t key (e + 1) cur) ∧ (okB (T).t (e + 1) cur lo2 hi2 = true)) (fun (pre : List Int) (cur : Int) (e : Nat) (lo2 : Int) (hi2 : Int) (A2 : Option Addr) (c2 : Nat) => [[⟨.slice (A2) ((pre ++ [cur]).length) (c2), 3, 1, ((pre ++ [cur]).length), (pre ++ [cur]).map I⟩]]) (fun (pre : List Int) (cur : Int) (e : Nat) (lo2 : Int) (hi2 : Int) (A2 : Option Addr) (c2 : Nat) => e) [1, 2] [0] [1] (([] : List Int) : List Int) ((T).root) (heightT (T).t - 1) (0 : Int) (100 : Int) (bl b4_1) 1 (fun pre cur e lo2 hi2 A2 c2 σ w_l5 hI hM_l5 => ?_) (h0 := ⟨(by (try dsimp only); simp; omega), (by (try dsimp only); rw [show heightT (T).t - 1 + 1 = heightT (T).t by omega]; rfl), (by (try dsimp only); rw [show heightT (T).t - 1 + 1 = heightT (T).t by omega]; exact hvo)⟩)
  obtain ⟨hi0_l5, hi1_l5, hi2_l5⟩ := hI
  have hcl0_l5 := (hM_l5.cap 0 rfl).1
  have hok := hi2_l5
  have hpl1 : (pre ++ [cur]).length = pre.length + 1 := by simp
  have hcu := inT_t.1 (okB_in hok)
  have hjx : (cur).toNat < (T).l.length := by omega
  have hgp : gP (T).t cur = ((T).l[(cur).toNat]'hjx).t := gP_at rfl hjx
  have hx5_3 : (cur).toNat < ((T).l).length := (by omega)
  refine ov 6 [1] (a := kixF hx5_3 (hNT.at hM_l5).1 (h0 := by omega)) (b := ?_)
  refine ov 0 [] (a := kflF hx5_3 (hNT.at hM_l5).1) (b := ?_)
  refine ov 0 [] (a := kldF hx5_3 (hNT.at hM_l5).1) (b := ?_)
  refine cd 3 [] (fun c21 => ?_) (fun c21 => ?_)
  · have hkn : (gP (T).t cur).kids ≠ [] := by rw [hgp]; intro e9; exact absurd (show (((T).l[(cur).toNat]'hjx).c.l).length = 0 from congrArg List.length e9) (by omega)
    have hrl := route_lt (key := key) hok hkn
    have hpg := pathT_go (key := key) hok hkn
    have hok1 := ok_kid hok hrl
    have hen : e ≠ 0 := fun e9 => hkn ((ok_kids hok).2 e9)
    have hrl2 : upTo (((T).l[(cur).toNat]'hjx).k.l) key < (((T).l[(cur).toNat]'hjx).c.l).length := by have h9 := hrl; rw [hgp] at h9; exact h9
    obtain ⟨kid, hkid⟩ : ∃ z, z = (((T).l[(cur).toNat]'hjx).c.l)[upTo (((T).l[(cur).toNat]'hjx).k.l) key]'hrl2 := ⟨_, rfl⟩
    have hkk : (gP (T).t cur).kids[upTo (gP (T).t cur).keys key]'hrl = kid := by rw [hkid]; simp only [hgp]; rfl
    rw [hkk] at hpg hok1
    have hsz := hs.at hjx
    have hinb := inB_page hv (okB_in hok) hkn
    rw [hgp] at hinb
    have hx6_3 : (cur).toNat < ((T).l).length := (by omega)
    refine ov 7 [1] (a := kixF hx6_3 (hNT.at hM_l5).1 (h0 := by omega)) (b := ?_)
    refine ov 0 [] (a := kldN hx6_3 (hNT.at hM_l5).1) (b := ?_)
    refine cp 0 [] (b := iinsideOf_fn (((T).l)[(cur).toNat]'hx6_3) w_l5 (((hNT.at hM_l5)).2.get hx6_3)) (c := fun w6_5 hM6_5 => ?_)
    refine cq 1 [] (b := RouteKey_fn (((((T).l)[(cur).toNat]'hx6_3)).k.A) (((((T).l)[(cur).toNat]'hx6_3)).k.cp) (((((T).l)[(cur).toNat]'hx6_3)).k.l) (((((T).l)[(cur).toNat]'hx6_3)).c.A) (((((T).l)[(cur).toNat]'hx6_3)).c.cp) (((((T).l)[(cur).toNat]'hx6_3)).c.l) _ w6_5 (((hNT.at hM6_5)).2.get hx6_3).1 (((hNT.at hM6_5)).2.get hx6_3).2.1 (by exact ⟨hsz.1, hsz.2.1⟩) (by exact hinb)) (c := ?_)
    rintro _ w6_7 ⟨hv6_7, hR6_7⟩
    obtain rfl : _ = I (kid) := hv6_7.trans (I_congr (by rw [hkid]; exact getD_in hrl2))
    have hM6_7 := hM6_5.cl 0 hR6_7
    refine Lt 5 [] (([kid]).map I) (fun w7_2 b7_2 hb7_2 hM7_2 => ?_)
    refine aM 0 [] 1 (hM7_2.rd 0 rfl) (fun w7_3 A7_3 c7_3 hc7_3 hM7_3 => ?_) (hn := by first | omega | (simp; omega)) (hb := by first | omega | (simp; omega))
    have hq2 : (pre ++ [cur] ++ [kid] : List Int) = (pre ++ [cur]) ++ [kid] := (by simp)
    have hMn2 := hM7_3.reM 1 hq2
    exact le7 2 [] (pre ++ [cur]) kid (e - 1) _ _ A7_3 c7_3 [1, 2] (h := by exact ⟨(by (try dsimp only); simp; omega), (by (try dsimp only); rw [hi1_l5, hpg, show e - 1 + 1 = e by omega]; simp), (by (try dsimp only); rw [show e - 1 + 1 = e by omega]; exact hok1)⟩)
  refine E1 7 [] (.slice (A2) ((pre ++ [cur]).length) (c2)) ?_
  have hk0 : (gP (T).t cur).kids = [] := by rw [hgp]; exact List.eq_nil_of_length_eq_zero (by show (((T).l[(cur).toNat]'hjx).c.l).length = 0; omega)
  have hpe : pre ++ [cur] = pathK (T).t key := by rw [hi1_l5, pathT_stop hk0]
  have hq3 : (pre ++ [cur] : List Int) = pathK (T).t key := hpe
  have hMn3 := hM_l5.reM 0 hq3
  exact ⟨A2, c2, (sl_congr (by rw [hpe])), (hMn3.pk [0])⟩
end Go.Proofs.YtemejgglbhjodaaGreatDoor
end
section
namespace Go.Proofs.YtemejgglbhjodaaGreatDoor
open Go.Px
set_option maxHeartbeats 2000000 in
theorem splitOne_fn (p : PgL) (w : World) (hNp : PgN w p) (hcp : (p).k.l.length ≤ (p).k.cp ∧ (p).c.l.length ≤ (p).c.cp) (h1k : 2 ≤ (p).k.l.length ∧ (p).k.l.length ≤ 1000) (hle : (p).c.l = [] → (p).v.l.length = (p).k.l.length ∧ validR (prsP (p).t) = true) (hin : (p).c.l ≠ [] → (p).c.l.length = (p).k.l.length + 1) :
    Does Tryz.prog 36 [.agg #[.slice ((p).k.A) ((p).k.l.length) ((p).k.cp), .slice ((p).c.A) ((p).c.l.length) ((p).c.cp), .slice ((p).v.A) ((p).v.l.length) ((p).v.cp)]] w (fun v w1 => ∃ (L1 : List Int) (A1 : Option Addr) (c1 : Nat) (L2 : List Int) (A2 : Option Addr) (c2 : Nat) (L3 : List Int) (A3 : Option Addr) (c3 : Nat) (L4 : List Int) (A4 : Option Addr) (c4 : Nat) (L5 : List Int) (A5 : Option Addr) (c5 : Nat) (L6 : List Int) (A6 : Option Addr) (c6 : Nat), v = .tuple #[.agg #[.slice (A1) ((L1).length) (c1), .slice (A2) ((L2).length) (c2), .slice (A3) ((L3).length) (c3)], I ((split1 (p).t).2.1), .agg #[.slice (A4) ((L4).length) (c4), .slice (A5) ((L5).length) (c5), .slice (A6) ((L6).length) (c6)]] ∧ ((⟨L1, L2, L3⟩ : PgT) = (split1 (p).t).1) ∧ ((⟨L4, L5, L6⟩ : PgT) = (split1 (p).t).2.2) ∧ Mem w w1 [] [[⟨.slice (A1) ((L1).length) (c1), 3, 1, ((L1).length), (L1).map I⟩], [⟨.slice (A2) ((L2).length) (c2), 3, 1, ((L2).length), (L2).map I⟩], [⟨.slice (A3) ((L3).length) (c3), 3, 1, ((L3).length), (L3).map I⟩], [⟨.slice (A4) ((L4).length) (c4), 3, 1, ((L4).length), (L4).map I⟩], [⟨.slice (A5) ((L5).length) (c5), 3, 1, ((L5).length), (L5).map I⟩], [⟨.slice (A6) ((L6).length) (c6), 3, 1, ((L6).length), (L6).map I⟩]]) := by
  have hM : Mem w w [] [] := Mem.refl
  refine Does.nG (rs := [.cell 2 42, .tmp 3, .cell 4 42]) Tryz.func36 rfl Tryz.results36 Tryz.ntmps36 rfl ?_
  have hpl : (prsP (p).t).length = ((p).k.l).length := prs_lenG
  refine Bx 2 [] fun w0_0 b0_0 hb0_0 hM0_0 => ?_
  refine Al 0 [] fun w0_1 b0_1 hb0_1 hM0_1 => ?_
  refine Al 1 [] fun w0_3 b0_3 hb0_3 hM0_3 => ?_
  refine cd 9 [2] (fun c13 => ?_) (fun c13 => ?_)
  · have hk0 : (p).c.l = [] := List.eq_nil_of_length_eq_zero (by omega)
    obtain ⟨hvl, hvr⟩ := hle hk0
    have hsp := split_lf (p := (p).t) hk0
    have hd0 : 0 < ((prsP (p).t).drop (((prsP (p).t).length + 1) / 2)).length := by rw [List.length_drop, hpl]; omega
    refine cq 3 [2] (b := pairsOfLeaf_fn p w0_3 (hNp.at hM0_3) qo (by exact hvl)) (c := ?_)
    rintro _ w2_1 ⟨A12_1, c12_1, rfl, hR2_1⟩
    have hM2_1 := hM0_3.cl 0 hR2_1
    have hcr2_1_0 := (hM2_1.cap 0 rfl).1
    refine cq 0 [] (b := iSplitV_fn _ _ _ w2_1 (hM2_1.rd 0 rfl) qo qo (by exact hvr)) (c := ?_)
    rintro _ w2_2 ⟨A12_2, c12_2, A22_2, c22_2, rfl, hR2_2⟩
    have hM2_2 := hM2_1.cl 0 hR2_2
    have hcr2_2_0 := (hM2_2.cap 0 rfl).1
    have hcr2_2_1 := (hM2_2.cap 1 rfl).1
    refine any 7 [] 11 [0, 1, 2, 5] fun w3a hM3a => ?_
    have hx3_3 : 0 < ((prsP (p).t).drop (((prsP (p).t).length + 1) / 2)).length := hd0
    refine av [0, 2] [] 3 (a := by exact fun _ hw2 => kixF hx3_3 (hM3a.rd 1 rfl) (h0 := by omega)) (b := ?_)
    refine av [] [] 4 (a := by exact fun _ hw2 => kflF hx3_3 (hM3a.rd 1 rfl)) (b := ?_)
    refine av [] [] 5 (s := Vi ((split1 (p).t).2.1)) (a := by exact fun w2 hw2 => cv (Ru.congr (v := I ((((prsP (p).t).drop (((prsP (p).t).length + 1) / 2))[0]'hx3_3).key)) (v' := I ((split1 (p).t).2.1)) (Ru.load1 el3 rfl (ldf encP_len (hw2.rd 1 rfl) hx3_3 rfl)) ((I_congr (by rw [hsp]; exact (getP_key hd0).symm)))) rfl) (b := ?_)
    refine aO [6] [] 1 ?_
    refine cq 0 [] (b := ileafOf_fn _ _ _ w3a (hM3a.rd 0 rfl) (by first | omega | (simp only [List.length_take, List.length_drop, prs_lenG]; omega))) (c := ?_)
    rintro _ w3_1 ⟨A13_1, c13_1, A33_1, c33_1, rfl, hR3_1⟩
    have hM3_1 := hM3a.cl 0 hR3_1
    have hcr3_1_0 := (hM3_1.cap 0 rfl).1
    have hcr3_1_1 := (hM3_1.cap 1 rfl).1
    refine os 0 [] [2, 3, 4, 7] ?_
    refine aO [] [] 7 ?_
    refine cq 0 [] (b := ileafOf_fn _ _ _ w3_1 (hM3_1.rd 3 rfl) (by first | omega | (simp only [List.length_take, List.length_drop, prs_lenG]; omega))) (c := ?_)
    rintro _ w3_7 ⟨A13_7, c13_7, A33_7, c33_7, rfl, hR3_7⟩
    have hM3_7 := hM3_1.cl 0 hR3_7
    have hcr3_7_0 := (hM3_7.cap 0 rfl).1
    have hcr3_7_1 := (hM3_7.cap 1 rfl).1
    refine os 0 [] [4, 5, 6, 9] ?_
    refine aO [] [] 8 ?_
    refine Sb 0 [] 8 fun w3_8 hM3_8 => ?_
    refine os 0 [] [4, 5, 6, 9] ?_
    refine aO [9] [] 10 ?_
    refine Sb 0 [] 7 fun w3_10 hM3_10 => ?_
    refine os 0 [] [4, 5, 6, 9] ?_
    refine an [] [] ?_
    refine EG 1 [] ?_
    refine PG (vs := [.agg #[.slice (A13_1) ((keysP ((prsP (p).t).take (((prsP (p).t).length + 1) / 2))).length) (c13_1), .slice (none) (0) (0), .slice (A33_1) ((((prsP (p).t).take (((prsP (p).t).length + 1) / 2)).map PairT.val).length) (c33_1)], I ((split1 (p).t).2.1), .agg #[.slice (A13_7) ((keysP ((prsP (p).t).drop (((prsP (p).t).length + 1) / 2))).length) (c13_7), .slice (none) (0) (0), .slice (A33_7) ((((prsP (p).t).drop (((prsP (p).t).length + 1) / 2)).map PairT.val).length) (c33_7)]]) (ResV.cell (l := [.slice (A13_1) ((keysP ((prsP (p).t).take (((prsP (p).t).length + 1) / 2))).length) (c13_1), .slice (none) (0) (0), .slice (A33_1) ((((prsP (p).t).take (((prsP (p).t).length + 1) / 2)).map PairT.val).length) (c33_1)]) rfl (mem_blk (i := 8) (j := 0) hM3_10 rfl rfl) el42 rfl (ResV.tmp rfl (ResV.cell (l := [.slice (A13_7) ((keysP ((prsP (p).t).drop (((prsP (p).t).length + 1) / 2))).length) (c13_7), .slice (none) (0) (0), .slice (A33_7) ((((prsP (p).t).drop (((prsP (p).t).length + 1) / 2)).map PairT.val).length) (c33_7)]) rfl (mem_blk (i := 7) (j := 0) hM3_10 rfl rfl) el42 rfl ResV.nil))) ?_
    have hq1 : (keysP ((prsP (p).t).take (((prsP (p).t).length + 1) / 2)) : List Int) = (keysP ((prsP (p).t).take (((prsP (p).t).length + 1) / 2))) := (by first | rfl | simp | (simp; omega))
    have hMn1 := hM3_10.reM 2 hq1
    have hMn2 := Mem.addNil (e := 3) (sz := 1) hMn1
    have hq3 : ([] : List Int) = ([] : List Int) := (by first | rfl | simp | (simp; omega))
    have hMn3 := hMn2.reM 0 hq3 (f := I)
    have hq4 : (((prsP (p).t).take (((prsP (p).t).length + 1) / 2)).map PairT.val : List Int) = (((prsP (p).t).take (((prsP (p).t).length + 1) / 2)).map PairT.val) := (by first | rfl | simp | (simp; omega))
    have hMn4 := hMn3.reM 4 hq4
    have hq5 : (keysP ((prsP (p).t).drop (((prsP (p).t).length + 1) / 2)) : List Int) = (keysP ((prsP (p).t).drop (((prsP (p).t).length + 1) / 2))) := (by first | rfl | simp | (simp; omega))
    have hMn5 := hMn4.reM 1 hq5
    have hMn6 := Mem.addNil (e := 3) (sz := 1) hMn5
    have hq7 : ([] : List Int) = ([] : List Int) := (by first | rfl | simp | (simp; omega))
    have hMn7 := hMn6.reM 0 hq7 (f := I)
    have hq8 : (((prsP (p).t).drop (((prsP (p).t).length + 1) / 2)).map PairT.val : List Int) = (((prsP (p).t).drop (((prsP (p).t).length + 1) / 2)).map PairT.val) := (by first | rfl | simp | (simp; omega))
    have hMn8 := hMn7.reM 3 hq8
    exact ⟨keysP ((prsP (p).t).take (((prsP (p).t).length + 1) / 2)), A13_1, c13_1, ([] : List Int), none, 0, ((prsP (p).t).take (((prsP (p).t).length + 1) / 2)).map PairT.val, A33_1, c33_1, keysP ((prsP (p).t).drop (((prsP (p).t).length + 1) / 2)), A13_7, c13_7, ([] : List Int), none, 0, ((prsP (p).t).drop (((prsP (p).t).length + 1) / 2)).map PairT.val, A33_7, c33_7, (by first | rfl | (rw [hsp]; rfl) | (simp only [hsp]; rfl)), (by rw [hsp]; rfl), (by rw [hsp]; rfl), (hMn8.pk [4, 1, 5, 2, 0, 3])⟩
  have hk0 : (p).c.l ≠ [] := by intro e9; rw [e9] at c13; simp at c13
  have hci := hin hk0
  have hsp := split_in (p := (p).t) hk0
  refine cp 4 [2] (b := iinsideOf_fn p w0_3 (hNp.at hM0_3)) (c := fun w4_1 hM4_1 => ?_)
  refine cq 0 [] (b := halvesOf_fn ((p).k.A) ((p).k.cp) ((p).k.l) ((p).c.A) ((p).c.cp) ((p).c.l) w4_1 (hNp.at hM4_1).1 (hNp.at hM4_1).2.1 (by exact hcp) qo (by exact hci)) (c := ?_)
  rintro _ w4_2 ⟨A14_2, c14_2, A24_2, c24_2, A34_2, c34_2, A44_2, c44_2, rfl, hR4_2⟩
  have hM4_2 := hM4_1.cl 0 hR4_2
  have hcr4_2_0 := (hM4_2.cap 0 rfl).1
  have hcr4_2_1 := (hM4_2.cap 1 rfl).1
  have hcr4_2_2 := (hM4_2.cap 2 rfl).1
  have hcr4_2_3 := (hM4_2.cap 3 rfl).1
  refine Al 4 [] fun w4_7 b4_7 hb4_7 hM4_7 => ?_
  refine Al 0 [] fun w4_8 b4_8 hb4_8 hM4_8 => ?_
  refine Sb 0 [] 1 fun w4_9 hM4_9 => ?_
  refine Sb 1 [] 0 fun w4_11 hM4_11 => ?_
  refine any 2 [] 8 [0, 1, 2, 3, 4, 5, 8] fun w5a hM5a => ?_
  refine aO [0, 2, 3] [1, 0] 1 ?_
  refine cp 0 [] (b := innerPage_fn A14_2 c14_2 ((((p).k.l)).take ((((p).k.l)).length / 2)) A24_2 c24_2 ((((p).c.l)).take ((((p).k.l)).length / 2 + 1)) w5a (hM5a.rd 2 rfl) (hM5a.rd 3 rfl)) (c := fun w5_1 hM5_1 => ?_)
  refine os 0 [] [0, 1, 2, 3, 4, 5, 8] ?_
  refine aO [] [] 4 ?_
  refine cp 0 [] (b := innerPage_fn A34_2 c34_2 ((((p).k.l)).drop ((((p).k.l)).length / 2 + 1)) A44_2 c44_2 ((((p).c.l)).drop ((((p).k.l)).length / 2 + 1)) w5_1 (hM5_1.rd 4 rfl) (hM5_1.rd 5 rfl)) (c := fun w5_4 hM5_4 => ?_)
  refine os 0 [] [0, 1, 2, 3, 4, 5, 8] ?_
  refine aO [] [] 5 ?_
  refine Sb 0 [] 7 fun w5_5 hM5_5 => ?_
  refine os 0 [] [0, 1, 2, 3, 4, 5, 8] ?_
  refine aO [6] [] 7 ?_
  refine Sb 0 [] 6 fun w5_7 hM5_7 => ?_
  refine os 0 [] [0, 1, 2, 3, 4, 5, 8] ?_
  refine an [] [] ?_
  refine EG 1 [] ?_
  refine PG (vs := [.agg #[.slice (A14_2) ((((((p).k.l)).take ((((p).k.l)).length / 2))).length) (c14_2), .slice (A24_2) ((((((p).c.l)).take ((((p).k.l)).length / 2 + 1))).length) (c24_2), .slice (none) (0) (0)], I ((((p).k.l)).getD ((((p).k.l)).length / 2) 0), .agg #[.slice (A34_2) ((((((p).k.l)).drop ((((p).k.l)).length / 2 + 1))).length) (c34_2), .slice (A44_2) ((((((p).c.l)).drop ((((p).k.l)).length / 2 + 1))).length) (c44_2), .slice (none) (0) (0)]]) (ResV.cell (l := [.slice (A14_2) ((((((p).k.l)).take ((((p).k.l)).length / 2))).length) (c14_2), .slice (A24_2) ((((((p).c.l)).take ((((p).k.l)).length / 2 + 1))).length) (c24_2), .slice (none) (0) (0)]) rfl (mem_blk (i := 7) (j := 0) hM5_7 rfl rfl) el42 rfl (ResV.tmp rfl (ResV.cell (l := [.slice (A34_2) ((((((p).k.l)).drop ((((p).k.l)).length / 2 + 1))).length) (c34_2), .slice (A44_2) ((((((p).c.l)).drop ((((p).k.l)).length / 2 + 1))).length) (c44_2), .slice (none) (0) (0)]) rfl (mem_blk (i := 6) (j := 0) hM5_7 rfl rfl) el42 rfl ResV.nil))) ?_
  have hq9 : ((((p).k.l)).take ((((p).k.l)).length / 2) : List Int) = (((p).k.l).take (((p).k.l).length / 2)) := (by first | rfl | simp | (simp; omega))
  have hMn9 := hM5_7.reM 2 hq9
  have hq10 : ((((p).c.l)).take ((((p).k.l)).length / 2 + 1) : List Int) = (((p).c.l).take (((p).k.l).length / 2 + 1)) := (by first | rfl | simp | (simp; omega))
  have hMn10 := hMn9.reM 3 hq10
  have hMn11 := Mem.addNil (e := 3) (sz := 1) hMn10
  have hq12 : ([] : List Int) = ([] : List Int) := (by first | rfl | simp | (simp; omega))
  have hMn12 := hMn11.reM 0 hq12 (f := I)
  have hq13 : ((((p).k.l)).drop ((((p).k.l)).length / 2 + 1) : List Int) = (((p).k.l).drop (((p).k.l).length / 2 + 1)) := (by first | rfl | simp | (simp; omega))
  have hMn13 := hMn12.reM 5 hq13
  have hq14 : ((((p).c.l)).drop ((((p).k.l)).length / 2 + 1) : List Int) = (((p).c.l).drop (((p).k.l).length / 2 + 1)) := (by first | rfl | simp | (simp; omega))
  have hMn14 := hMn13.reM 6 hq14
  have hMn15 := Mem.addNil (e := 3) (sz := 1) hMn14
  have hq16 : ([] : List Int) = ([] : List Int) := (by first | rfl | simp | (simp; omega))
  have hMn16 := hMn15.reM 0 hq16 (f := I)
  exact ⟨((p).k.l).take (((p).k.l).length / 2), A14_2, c14_2, ((p).c.l).take (((p).k.l).length / 2 + 1), A24_2, c24_2, ([] : List Int), none, 0, ((p).k.l).drop (((p).k.l).length / 2 + 1), A34_2, c34_2, ((p).c.l).drop (((p).k.l).length / 2 + 1), A44_2, c44_2, ([] : List Int), none, 0, (by first | rfl | (rw [hsp]; rfl) | (simp only [hsp]; rfl)), (by rw [hsp]; rfl), (by rw [hsp]; rfl), (hMn16.pk [4, 5, 1, 6, 7, 0])⟩
end Go.Proofs.YtemejgglbhjodaaGreatDoor
end
section
namespace Go.Proofs.YtemejgglbhjodaaGreatDoor
open Go.Px
set_option maxHeartbeats 8000000 in
theorem PutKey_fn (T : TreeL) (x : PairT) (w : World) (hNT : TrN w T) (hs : SzT T) :
    Does Tryz.prog 12 [.agg #[I ((T).root), .slice ((T).A) ((T).l.length) ((T).cp)], .agg #[I ((x).key), I ((x).val)]] w (fun v w1 => ∃ (r1 : Int) (L1 : List PgL) (A1 : Option Addr) (c1 : Nat), v = .tuple #[.agg #[I (r1), .slice (A1) ((L1).length) (c1)], .bool ((validT (T).t && validR [x] && validT (putF (T).t x)))] ∧ ((validT (T).t && validR [x] && validT (putF (T).t x)) = true → (⟨r1, tsG L1⟩ : TrT) = putF (T).t x) ∧ (SzT ⟨r1, A1, c1, L1⟩) ∧ ((L1).length ≤ 64) ∧ Mem w w1 [] [[⟨.slice (A1) ((L1).length) (c1), 42, 3, ((L1).length), (L1).flatMap encPg⟩], (L1).flatMap (pgF 3)]) := by
  have hM : Mem w w [] [] := Mem.refl
  refine Does.nG (rs := [.cell 4 25, .tmp 5]) Tryz.func12 rfl Tryz.results12 Tryz.ntmps12 rfl ?_
  refine Bx 2 [] fun w0_0 b0_0 hb0_0 hM0_0 => ?_
  refine Bx 0 [] fun w0_1 b0_1 hb0_1 hM0_1 => ?_
  refine Al 0 [] fun w0_2 b0_2 hb0_2 hM0_2 => ?_
  refine cp 6 [2] (b := ValidTree_fn T w0_2 (hNT.at hM0_2) q0) (c := fun w1_1 hM1_1 => ?_)
  refine pt 2 [] 23 (fun g23 => ?_) (fun g23 => ?_)
  · have hn1 : validT (T).t = false := by simpa using g23
    refine Sb 9 [] 0 fun w2_1 hM2_1 => ?_
    have hMk1 := Mem.gnil (e := 3) hM2_1
    refine EG 3 [] ?_
    refine PG (vs := [.agg #[I (0), .slice (none) (0) (0)], .bool (false)]) (ResV.cell (l := [I (0), .slice (none) (0) (0)]) rfl (mem_blk (i := 1) (j := 0) hMk1 rfl rfl) el25 rfl (ResV.tmp rfl ResV.nil)) ?_
    have hpf : (validT (T).t && validR [x] && validT (putF (T).t x)) = false := by first | (rw [hn1]; rfl) | (rw [hn2, Bool.and_false]; rfl) | (rw [hn3, Bool.and_false])
    have hMn2 := Mem.addNil (e := 42) (sz := 3) hMk1
    have hq3 : ([] : List PgL) = ([] : List PgL) := (by first | rfl | simp | (simp; omega))
    have hMn3 := hMn2.reF 0 hq3 (f := encPg)
    exact ⟨0, ([] : List PgL), none, 0, (by rw [hpf]; rfl), (fun hb => absurd hb (by rw [hpf]; simp)), (sz_small (by simp) (by simp)), (by simp), (hMn3.pk [0, 1])⟩
  have hv1 : validT (T).t = true := by simpa using g23
  refine cp 1 [1] (b := isPair_fn x w1_1 ) (c := fun w1_5 hM1_5 => ?_)
  refine cn 3 [] (fun c27 => ?_) (fun c27 => ?_)
  · have hn2 : validR [x] = false := by rw [pair_valid]; simpa using c27
    refine Sb 3 [] 0 fun w2_1 hM2_1 => ?_
    have hMk5 := Mem.gnil (e := 3) hM2_1
    refine EG 3 [] ?_
    refine PG (vs := [.agg #[I (0), .slice (none) (0) (0)], .bool (false)]) (ResV.cell (l := [I (0), .slice (none) (0) (0)]) rfl (mem_blk (i := 1) (j := 0) hMk5 rfl rfl) el25 rfl (ResV.tmp rfl ResV.nil)) ?_
    have hpf : (validT (T).t && validR [x] && validT (putF (T).t x)) = false := by first | (rw [hn1]; rfl) | (rw [hn2, Bool.and_false]; rfl) | (rw [hn3, Bool.and_false])
    have hMn6 := Mem.addNil (e := 42) (sz := 3) hMk5
    have hq7 : ([] : List PgL) = ([] : List PgL) := (by first | rfl | simp | (simp; omega))
    have hMn7 := hMn6.reF 0 hq7 (f := encPg)
    exact ⟨0, ([] : List PgL), none, 0, (by rw [hpf]; rfl), (fun hb => absurd hb (by rw [hpf]; simp)), (sz_small (by simp) (by simp)), (by simp), (hMn7.pk [0, 1])⟩
  have hv2 : validR [x] = true := by rw [pair_valid]; simpa using c27
  have hvk := valid_ok hv1
  have hP := path_ok (key := (x).key) hv1
  have hpp := hP.pos
  have hp3 := hP.le
  have hl16 := valid_len hv1
  rw [pages_len] at hl16
  obtain ⟨lf, hlf⟩ : ∃ z, z = leafI (pathK (T).t (x).key) := ⟨_, rfl⟩
  have hli := inT_t.1 (hP.inn ((pathK (T).t (x).key).length - 1) (by omega))
  rw [show (pathK (T).t (x).key).getD ((pathK (T).t (x).key).length - 1) 0 = lf from hlf.symm] at hli
  have hjl : (lf).toNat < (T).l.length := by omega
  have hfl := hP.fr ((pathK (T).t (x).key).length - 1) (by omega)
  have hkl := hP.leaf
  rw [show (pathK (T).t (x).key).getD ((pathK (T).t (x).key).length - 1) 0 = lf from hlf.symm] at hfl hkl
  obtain ⟨lo9, hi9, hrg⟩ := path_rg (key := (x).key) hv1 (pair_key hv2).1 (pair_key hv2).2
  refine cq 6 [2, 1] (b := PathTo_fn T _ w1_5 (hNT.at hM1_5) q0 (by exact hv1)) (c := ?_)
  rintro _ w3_3 ⟨A13_3, c13_3, rfl, hR3_3⟩
  have hM3_3 := hM1_5.cl 0 hR3_3
  have hcr3_3_0 := (hM3_3.cap 0 rfl).1
  refine cq 5 [3] (b := icopyTree_fn T w3_3 (hNT.at hM3_3) q0) (c := ?_)
  rintro _ w4_1 ⟨L14_1, A14_1, c14_1, rfl, hts4_1, hR4_1⟩
  have hM4_1 := hM3_3.cl 0 hR4_1
  have hcr4_1_0 := (hM4_1.cap 0 rfl).1
  have hLl := tsg_eq_len hts4_1
  have hj4 : (lf).toNat < (L14_1).length := by omega
  have htE : (((L14_1)[(lf).toNat]'hj4)).t = ((T).l[(lf).toNat]'hjl).t := by have h9 := congrArg (fun z => z[(lf).toNat]?) hts4_1; simpa [hj4, hjl] using h9
  have hgl : gP (T).t lf = ((L14_1)[(lf).toNat]'hj4).t := (gP_at rfl hjl).trans htE.symm
  have hvl := (fr_leaf hfl hkl).1
  have hrl := prs_valid hfl hkl
  have h4l := fr_len hfl
  rw [hgl] at hvl hrl h4l
  have hvl0 : ((L14_1)[(lf).toNat]'hj4).v.l.length = ((L14_1)[(lf).toNat]'hj4).k.l.length := hvl
  have h4l0 : ((L14_1)[(lf).toNat]'hj4).k.l.length ≤ 4 := h4l
  have hpl := put_len (l := prsP ((L14_1)[(lf).toNat]'hj4).t) (x := x)
  rw [prs_lenG] at hpl
  refine Al 0 [] fun w4_2 b4_2 hb4_2 hM4_2 => ?_
  refine Sb 0 [] 0 fun w4_3 hM4_3 => ?_
  refine ov 6 [] (a := ksub) (b := ?_)
  have hx5_4 : ((pathK (T).t (x).key).length - 1) < (pathK (T).t ((x).key)).length := (by omega)
  refine ov 0 [] (a := kixM hx5_4 (hM4_3.rd 3 rfl) (h0 := by omega)) (b := ?_)
  refine ov 0 [] (s := Vi (lf)) (a := by exact cv (Ru.congr (v := I ((pathK (T).t ((x).key))[((pathK (T).t (x).key).length - 1)]'hx5_4)) (v' := I (lf)) (Ru.load1 el3 rfl (ldm (hM4_3.rd 3 rfl) hx5_4)) (I_congr ((getD_in hx5_4).symm.trans hlf.symm))) rfl) (b := ?_)
  refine any 3 [] 14 [0, 2, 3, 4, 5, 6] fun w6a hM6a => ?_
  have hx6_6 : (lf).toNat < (L14_1).length := (by omega)
  refine av [0, 1, 2, 3, 4, 5] [0, 0] 6 (a := by exact fun _ hw2 => kixF hx6_6 (hM6a.rd 1 rfl) (h0 := by omega)) (b := ?_)
  refine aO [9] [4] 7 ?_
  refine ov 0 [] (a := kldN hx6_6 (hM6a.rd 1 rfl)) (b := ?_)
  refine os 0 [] [0, 2, 3, 4, 5, 6] ?_
  refine aO [] [] 8 ?_
  refine cq 0 [] (b := pairsOfLeaf_fn ((L14_1)[(lf).toNat]'hx6_6) w6a ((NsP.mem hM6a 2 rfl).get hx6_6) qo (by exact hvl0)) (c := ?_)
  rintro _ w6_8 ⟨A16_8, c16_8, rfl, hR6_8⟩
  have hM6_8 := hM6a.cl 0 hR6_8
  have hcr6_8_0 := (hM6_8.cap 0 rfl).1
  refine os 0 [] [1, 3, 4, 5, 6, 7] ?_
  refine aO [] [] 10 ?_
  refine cq 0 [] (b := putInRow_fn _ _ _ x w6_8 (hM6_8.rd 0 rfl) (by rw [prs_lenG]; omega) (by exact (validR_iff.1 hrl).2.2)) (c := ?_)
  rintro _ w6_10 ⟨A16_10, c16_10, rfl, hR6_10⟩
  have hM6_10 := hM6_8.cl 0 hR6_10
  have hcr6_10_0 := (hM6_10.cap 0 rfl).1
  refine os 0 [] [2, 4, 5, 6, 7, 8] ?_
  refine aO [] [] 11 ?_
  refine cq 0 [] (b := ileafOf_fn _ _ _ w6_10 (hM6_10.rd 0 rfl) qo) (c := ?_)
  rintro _ w6_11 ⟨A16_11, c16_11, A36_11, c36_11, rfl, hR6_11⟩
  have hM6_11 := hM6_10.cl 0 hR6_11
  have hcr6_11_0 := (hM6_11.cap 0 rfl).1
  have hcr6_11_1 := (hM6_11.cap 1 rfl).1
  refine os 0 [] [4, 6, 7, 8, 9, 10] ?_
  have hx6_12 : (lf).toNat < (L14_1).length := (by omega)
  refine av [] [] 12 (a := by exact fun _ hw2 => kixF hx6_12 (hM6_11.rd 5 rfl) (h0 := by omega)) (b := ?_)
  refine aO [] [] 13 ?_
  let p1_ : PgL := (⟨⟨A16_11, c16_11, keysP (putP (prsP (((L14_1)[(lf).toNat]'hx6_6)).t) x)⟩, ⟨none, 0, []⟩, ⟨A36_11, c36_11, (putP (prsP (((L14_1)[(lf).toNat]'hx6_6)).t) x).map PairT.val⟩⟩ : PgL)
  refine sF 0 [] 5 p1_ hx6_12 fun w6_13 hM6_13 => ?_
  refine os 0 [] [4, 6, 7, 8, 9, 10] ?_
  refine an [] [] ?_
  have hMn9 := Mem.addNil (e := 3) (sz := 1) hM6_13
  have hMk10 := Mem.gset (k := ⟨A16_11, c16_11, keysP (putP (prsP (((L14_1)[(lf).toNat]'hx6_6)).t) x)⟩) (c := ⟨none, 0, []⟩) (v := ⟨A36_11, c36_11, (putP (prsP (((L14_1)[(lf).toNat]'hx6_6)).t) x).map PairT.val⟩) ((lf).toNat) (hMn9.pk [7, 1, 0, 2, 3, 4, 5, 6, 8, 9, 10, 11])
  have hq11 : ((L14_1).set ((lf).toNat) p1_ : List PgL) = (L14_1).set ((lf).toNat) p1_ := rfl
  have hMn11 := hMk10.reF 4 hq11
  have hMn12 := hMn11.reB 3 1 (show (L14_1).length = ((L14_1).set ((lf).toNat) p1_).length from (by first | rfl | simp | (simp; omega)))
  refine ov 5 [] (a := ksub) (b := ?_)
  have hq13 : ((L14_1).set ((lf).toNat) p1_ : List PgL) = ((L14_1).set ((lf).toNat) p1_) := (by first | rfl | simp | (simp; omega))
  have hMn13 := hMn12.reF 4 hq13
  refine lp5 3 [] (fun (a : Nat) (rt : Int) (Ch : List PgL) (A2 : Option Addr) (c2 : Nat) => ([(9, Vi ((((a : Nat) : Int) - 1)))] : List (Nat × SV))) (fun (a : Nat) (rt : Int) (Ch : List PgL) (A2 : Option Addr) (c2 : Nat) => (GI (T).t (pathK (T).t (x).key) a (⟨rt, tsG Ch⟩ : TrT)) ∧ (growT (pathK (T).t (x).key) a (⟨rt, tsG Ch⟩ : TrT) = putF (T).t x) ∧ (OI (pathK (T).t (x).key) lo9 hi9 a (⟨rt, tsG Ch⟩ : TrT))) (fun (a : Nat) (rt : Int) (Ch : List PgL) (A2 : Option Addr) (c2 : Nat) => [(Ch).flatMap (pgF 3), [⟨.slice (bl b4_2) 1 1, 25, 2, 1, [I (rt), .slice (A2) ((Ch).length) (c2)]⟩], [⟨.slice (A2) ((Ch).length) (c2), 42, 3, ((Ch).length), (Ch).flatMap encPg⟩]]) (fun (a : Nat) (rt : Int) (Ch : List PgL) (A2 : Option Addr) (c2 : Nat) => a) [4, 6, 7] [0, 3, 4] [1, 2, 5, 6, 7, 8] ((pathK (T).t (x).key).length) ((T).root) ((L14_1).set ((lf).toNat) p1_) A14_1 c14_1 (fun a rt Ch A2 c2 σ w_l8 hI hM_l8 => ?_) (h0 := ⟨(by (try dsimp only); rw [show (⟨(T).root, tsG ((L14_1).set ((lf).toNat) p1_)⟩ : TrT) = startT (T).t (pathK (T).t (x).key) x from (by rw [tsg_set, hts4_1]; unfold startT setP; rw [← hlf, hgl]; rfl)]; exact GI.start hv1 hP hv2), (by (try dsimp only); rw [show (⟨(T).root, tsG ((L14_1).set ((lf).toNat) p1_)⟩ : TrT) = startT (T).t (pathK (T).t (x).key) x from (by rw [tsg_set, hts4_1]; unfold startT setP; rw [← hlf, hgl]; rfl)]; exact rfl), (by (try dsimp only); rw [show (⟨(T).root, tsG ((L14_1).set ((lf).toNat) p1_)⟩ : TrT) = startT (T).t (pathK (T).t (x).key) x from (by rw [tsg_set, hts4_1]; unfold startT setP; rw [← hlf, hgl]; rfl)]; exact OI.start hv1 hP hv2 hrg)⟩)
  obtain ⟨hi0_l8, hi1_l8, hi2_l8⟩ := hI
  have hcl2_l8 := (hM_l8.cap 2 rfl).1
  have hcl3_l8 := (hM_l8.cap 3 rfl).1
  have hcl4_l8 := (hM_l8.cap 4 rfl).1
  have hcl5_l8 := (hM_l8.cap 5 rfl).1
  have hG := hi0_l8
  have ha1 := hG.a1
  obtain ⟨cur, hcu⟩ : ∃ z, z = (pathK (T).t (x).key).getD (a - 1) 0 := ⟨_, rfl⟩
  have hcl := hG.len
  simp only [pages_len, List.length_map] at hcl
  have hci := inT_iff.1 (hG.curIn hP (k := a - 1) (by omega))
  simp only [List.length_map] at hci
  rw [← hcu] at hci
  have hjc : (cur).toNat < (Ch).length := by omega
  have hgc : gP (⟨rt, tsG Ch⟩ : TrT) cur = ((Ch)[(cur).toNat]'hjc).t := gP_ch hjc
  have hcr := hG.cur
  rw [← hcu, hgc] at hcr
  have hk5 : (((Ch)[(cur).toNat]'hjc).k.l).length ≤ 5 := hcr.1
  obtain ⟨sp, hsp⟩ : ∃ z, z = split1 ((Ch)[(cur).toNat]'hjc).t := ⟨_, rfl⟩
  have hsp0 := hsp
  refine cd 6 [] (fun c58 => ?_) (fun c58 => ?_)
  · have hx10_2 : (a - 1) < (pathK (T).t ((x).key)).length := (by omega)
    refine ov 7 [] (a := kixM hx10_2 (hM_l8.rd 5 rfl) (h0 := by omega)) (b := ?_)
    refine ov 0 [] (s := Vi (cur)) (a := by exact cv (Ru.congr (v := I ((pathK (T).t ((x).key))[(a - 1)]'hx10_2)) (v' := I (cur)) (Ru.load1 el3 rfl (ldm (hM_l8.rd 5 rfl) hx10_2)) (I_congr ((getD_in hx10_2).symm.trans hcu.symm))) rfl) (b := ?_)
    have hx11_3 : (cur).toNat < (Ch).length := (by omega)
    refine ov 8 [1] (a := kixF hx11_3 (hM_l8.rd 2 rfl) (h0 := by omega)) (b := ?_)
    refine ov 0 [] (a := kflF hx11_3 (hM_l8.rd 2 rfl)) (b := ?_)
    refine ov 0 [] (a := kldF hx11_3 (hM_l8.rd 2 rfl)) (b := ?_)
    refine cd 3 [] (fun c72 => ?_) (fun c72 => ?_)
    · have hgs := grow_stop (R := (⟨rt, tsG Ch⟩ : TrT)) (P := (pathK (T).t (x).key)) (a := a) (by omega) (by rw [← hcu, hgc]; show (((Ch)[(cur).toNat]'hjc).k.l).length ≤ 4; omega)
      have hrs : (⟨rt, tsG Ch⟩ : TrT) = putF (T).t x := by rw [← hi1_l8, hgs]
      have hsz9 := put_sz (A := A2) (c := c2) hv1 hv2 hrs
      have hvs9 : validT (TreeL.t ⟨rt, A2, c2, Ch⟩) = validT (putF (T).t x) := congrArg validT hrs
      refine cp 5 [1] (b := ValidTree_fn (⟨rt, A2, c2, Ch⟩ : TreeL) w_l8 ⟨(hM_l8.rd 2 rfl), (NsP.mem hM_l8 0 rfl)⟩ (by exact hsz9.1)) (c := fun w26_1 hM26_1 => ?_)
      refine cn 2 [] (fun c151 => ?_) (fun c151 => ?_)
      · have hn3 : validT (putF (T).t x) = false := by rw [← hvs9]; simpa using c151
        refine Sb 3 [] 6 fun w27_1 hM27_1 => ?_
        have hMk15 := Mem.gnil (e := 3) hM27_1
        refine EG 3 [] ?_
        refine PG (vs := [.agg #[I (0), .slice (none) (0) (0)], .bool (false)]) (ResV.cell (l := [I (0), .slice (none) (0) (0)]) rfl (mem_blk (i := 7) (j := 0) hMk15 rfl rfl) el25 rfl (ResV.tmp rfl ResV.nil)) ?_
        have hpf : (validT (T).t && validR [x] && validT (putF (T).t x)) = false := by first | (rw [hn1]; rfl) | (rw [hn2, Bool.and_false]; rfl) | (rw [hn3, Bool.and_false])
        have hMn16 := Mem.addNil (e := 42) (sz := 3) hMk15
        have hq17 : ([] : List PgL) = ([] : List PgL) := (by first | rfl | simp | (simp; omega))
        have hMn17 := hMn16.reF 0 hq17 (f := encPg)
        exact ⟨0, ([] : List PgL), none, 0, (by rw [hpf]; rfl), (fun hb => absurd hb (by rw [hpf]; simp)), (sz_small (by simp) (by simp)), (by simp), (hMn17.pk [0, 1])⟩
      have hv3 : validT (putF (T).t x) = true := by rw [← hvs9]; simpa using c151
      refine Sb 4 [1] 6 fun w28_1 hM28_1 => ?_
      refine EG 3 [] ?_
      refine PG (vs := [.agg #[I (rt), .slice (A2) ((Ch).length) (c2)], .bool (true)]) (ResV.cell (l := [I (rt), .slice (A2) ((Ch).length) (c2)]) rfl (mem_blk (i := 6) (j := 0) hM28_1 rfl rfl) el25 rfl (ResV.tmp rfl ResV.nil)) ?_
      have hpf : (validT (T).t && validR [x] && validT (putF (T).t x)) = true := by rw [hv1, hv2, hv3]; rfl
      exact ⟨(rt), Ch, A2, c2, (by rw [hpf]; rfl), (fun _ => hrs), hsz9.1, (by have := hsz9.2; omega), (hM28_1.pk [2, 0])⟩
    have hgc12 := hM_l8.gcap 0 rfl hjc
    have hle9 : (((Ch)[(cur).toNat]'hjc).c.l) = [] → ((Ch)[(cur).toNat]'hjc).v.l.length = (((Ch)[(cur).toNat]'hjc).k.l).length ∧ validR (prsP ((Ch)[(cur).toNat]'hjc).t) = true := fun hk0 => by rcases hcr.2 with h9 | h9; exact h9.2; (exfalso; have h8 := h9.1; rw [show ((Ch)[(cur).toNat]'hjc).t.kids = [] from hk0] at h8; simp at h8)
    have hin9 : (((Ch)[(cur).toNat]'hjc).c.l) ≠ [] → (((Ch)[(cur).toNat]'hjc).c.l).length = (((Ch)[(cur).toNat]'hjc).k.l).length + 1 := fun hk0 => by rcases hcr.2 with h9 | h9; exact absurd h9.1 hk0; exact h9.1
    have hx12_3 : (cur).toNat < (Ch).length := (by omega)
    refine ov 6 [1] (a := kixF hx12_3 (hM_l8.rd 2 rfl) (h0 := by omega)) (b := ?_)
    refine ov 0 [] (a := kldN hx12_3 (hM_l8.rd 2 rfl)) (b := ?_)
    refine cq 0 [] (b := splitOne_fn ((Ch)[(cur).toNat]'hx12_3) w_l8 ((NsP.mem hM_l8 0 rfl).get hx12_3) (by exact ⟨hgc12.1, hgc12.2.1⟩) qo (by exact hle9) (by exact hin9)) (c := ?_)
    rintro _ w12_5 ⟨L112_5, A112_5, c112_5, L212_5, A212_5, c212_5, L312_5, A312_5, c312_5, L412_5, A412_5, c412_5, L512_5, A512_5, c512_5, L612_5, A612_5, c612_5, rfl, h112_5, h212_5, hR12_5⟩
    have hM12_5 := hM_l8.cl 0 hR12_5
    have hcr12_5_0 := (hM12_5.cap 0 rfl).1
    have hcr12_5_1 := (hM12_5.cap 1 rfl).1
    have hcr12_5_2 := (hM12_5.cap 2 rfl).1
    have hcr12_5_3 := (hM12_5.cap 3 rfl).1
    have hcr12_5_4 := (hM12_5.cap 4 rfl).1
    have hcr12_5_5 := (hM12_5.cap 5 rfl).1
    refine Al 4 [] fun w12_10 b12_10 hb12_10 hM12_10 => ?_
    refine Al 0 [] fun w12_11 b12_11 hb12_11 hM12_11 => ?_
    refine Sb 0 [] 1 fun w12_12 hM12_12 => ?_
    refine Sb 1 [] 0 fun w12_14 hM12_14 => ?_
    have hx14_4 : (cur).toNat < (Ch).length := (by omega)
    refine ov 14 [9, 9, 1] (a := kixF hx14_4 (hM12_14.rd 10 rfl) (h0 := by omega)) (b := ?_)
    refine sF 0 [] 10 (⟨⟨A112_5, c112_5, L112_5⟩, ⟨A212_5, c212_5, L212_5⟩, ⟨A312_5, c312_5, L312_5⟩⟩ : PgL) hx14_4 fun w14_5 hM14_5 => ?_
    have hMk20 := Mem.gset (k := ⟨A112_5, c112_5, L112_5⟩) (c := ⟨A212_5, c212_5, L212_5⟩) (v := ⟨A312_5, c312_5, L312_5⟩) ((cur).toNat) (hM14_5.pk [8, 2, 3, 4, 0, 1, 5, 6, 7, 9, 10, 11, 12, 13, 14, 15, 16])
    refine ct3 1 [] (fun (Ch2 : List PgL) (A2 : Option Addr) (c2 : Nat) => ([(12, Vi ((sp).2.1)), (14, Vi (((Ch).length : Int)))] : List (Nat × SV))) (fun (Ch2 : List PgL) (A2 : Option Addr) (c2 : Nat) => ((⟨rt, tsG Ch2⟩ : TrT) = addP (setP (⟨rt, tsG Ch⟩ : TrT) cur sp.1) sp.2.2)) (fun (Ch2 : List PgL) (A2 : Option Addr) (c2 : Nat) => [(Ch2).flatMap (pgF 3), [⟨.slice (bl b4_2) 1 1, 25, 2, 1, [I (rt), .slice (A2) ((Ch2).length) (c2)]⟩], [⟨.slice (A2) ((Ch2).length) (c2), 42, 3, ((Ch2).length), (Ch2).flatMap encPg⟩]]) [4, 6, 7, 9, 10] [1, 2, 8, 9, 10, 11, 12, 13] ?_ (fun Ch2 A2 c2 σ w_r15 hI hM_r15 => ?_)
    · refine Lt 4 [6, 1] (([(⟨⟨A412_5, c412_5, L412_5⟩, ⟨A512_5, c512_5, L512_5⟩, ⟨A612_5, c612_5, L612_5⟩⟩ : PgL)]).flatMap encPg) (fun w15_3 b15_3 hb15_3 hM15_3 => ?_)
      refine aF 0 [] 8 (hM15_3.rd 0 rfl) (fun w15_4 A15_4 c15_4 hc15_4 hM15_4 => ?_) (hn := by first | omega | (simp only [List.length_append, List.length_set, List.length_cons, List.length_nil]; omega)) (hb := by first | omega | (simp only [List.length_append, List.length_set, List.length_cons, List.length_nil]; omega))
      refine Sb 1 [] 7 fun w15_6 hM15_6 => ?_
      have hMk21 := Mem.gapp (k := ⟨A412_5, c412_5, L412_5⟩) (c := ⟨A512_5, c512_5, L512_5⟩) (v := ⟨A612_5, c612_5, L612_5⟩) (hM15_6.pk [1, 4, 5, 6, 0, 2, 3, 7, 8, 9, 10, 11, 12, 13, 14])
      have hR1 : (⟨rt, tsG ((Ch).set ((cur).toNat) (⟨⟨A112_5, c112_5, L112_5⟩, ⟨A212_5, c212_5, L212_5⟩, ⟨A312_5, c312_5, L312_5⟩⟩ : PgL) ++ [(⟨⟨A412_5, c412_5, L412_5⟩, ⟨A512_5, c512_5, L512_5⟩, ⟨A612_5, c612_5, L612_5⟩⟩ : PgL)])⟩ : TrT) = addP (setP (⟨rt, tsG Ch⟩ : TrT) cur sp.1) sp.2.2 := by rw [tsg_app, tsg_set, hsp]; unfold addP setP; rw [← h112_5, ← h212_5]; rfl
      have hq22 : ((Ch).set ((cur).toNat) (⟨⟨A112_5, c112_5, L112_5⟩, ⟨A212_5, c212_5, L212_5⟩, ⟨A312_5, c312_5, L312_5⟩⟩ : PgL) ++ [(⟨⟨A412_5, c412_5, L412_5⟩, ⟨A512_5, c512_5, L512_5⟩, ⟨A612_5, c612_5, L612_5⟩⟩ : PgL)] : List PgL) = ((Ch).set ((cur).toNat) (⟨⟨A112_5, c112_5, L112_5⟩, ⟨A212_5, c212_5, L212_5⟩, ⟨A312_5, c312_5, L312_5⟩⟩ : PgL) ++ [(⟨⟨A412_5, c412_5, L412_5⟩, ⟨A512_5, c512_5, L512_5⟩, ⟨A612_5, c612_5, L612_5⟩⟩ : PgL)]) := (by first | rfl | simp | (simp; omega))
      have hMn22 := hMk21.reF 5 hq22
      exact ce3 1 [] ((Ch).set ((cur).toNat) (⟨⟨A112_5, c112_5, L112_5⟩, ⟨A212_5, c212_5, L212_5⟩, ⟨A312_5, c312_5, L312_5⟩⟩ : PgL) ++ [(⟨⟨A412_5, c412_5, L412_5⟩, ⟨A512_5, c512_5, L512_5⟩, ⟨A612_5, c612_5, L612_5⟩⟩ : PgL)]) A15_4 c15_4 [0, 4, 5, 2, 3, 6, 7, 8, 9, 10, 11] (hL := by exact (Has.cons (I_congr (by first | rfl | omega | rw [hsp])) (Has.cons (I_congr (by first | rfl | omega | rw [hsp])) Has.nil))) (h := by exact hR1)
    have hi0_r15 := hI
    have hcl2_r15 := (hM_r15.cap 2 rfl).1
    have hcl5_r15 := (hM_r15.cap 5 rfl).1
    have hcl6_r15 := (hM_r15.cap 6 rfl).1
    have hcl7_r15 := (hM_r15.cap 7 rfl).1
    have hR1 := hi0_r15
    have hle : (Ch2).length = (Ch).length + 1 := by have h9 := congrArg (fun z => z.pages.length) hR1; simpa [addP, setP] using h9
    refine cd 6 [] (fun c98 => ?_) (fun c98 => ?_)
    · refine Lt 3 [] (([(sp).2.1]).map I) (fun w17_1 b17_1 hb17_1 hM17_1 => ?_)
      refine Lt 2 [] (([cur, ((Ch).length : Int)]).map I) (fun w17_4 b17_4 hb17_4 hM17_4 => ?_)
      refine cp 1 [] (b := innerPage_fn (bl b17_1) 1 [(sp).2.1] (bl b17_4) 2 [cur, ((Ch).length : Int)] w17_4 (hM17_4.rd 1 rfl) (hM17_4.rd 0 rfl)) (c := fun w17_6 hM17_6 => ?_)
      refine Al 0 [] fun w17_7 b17_7 hb17_7 hM17_7 => ?_
      refine Sb 0 [] 0 fun w17_8 hM17_8 => ?_
      let p2_ : PgL := (⟨⟨bl b17_1, 1, [(sp).2.1]⟩, ⟨bl b17_4, 2, [cur, ((Ch).length : Int)]⟩, ⟨none, 0, []⟩⟩ : PgL)
      refine Lt 6 [4, 0] (([p2_]).flatMap encPg) (fun w18_3 b18_3 hb18_3 hM18_3 => ?_)
      refine aF 0 [] 6 (hM18_3.rd 0 rfl) (fun w18_4 A18_4 c18_4 hc18_4 hM18_4 => ?_) (hn := by first | omega | (simp only [List.length_append, List.length_set, List.length_cons, List.length_nil]; omega)) (hb := by first | omega | (simp only [List.length_append, List.length_set, List.length_cons, List.length_nil]; omega))
      refine Sb 1 [] 5 fun w18_6 hM18_6 => ?_
      have hMn24 := Mem.addNil (e := 3) (sz := 1) hM18_6
      have hMk25 := Mem.gapp (k := ⟨bl b17_1, 1, [(sp).2.1]⟩) (c := ⟨bl b17_4, 2, [cur, ((Ch).length : Int)]⟩) (v := ⟨none, 0, []⟩) (hMn24.pk [5, 4, 3, 0, 1, 2, 6, 7, 8, 9, 10, 11, 12, 13, 14, 15])
      have hR2 : (⟨rt, tsG (Ch2 ++ [p2_])⟩ : TrT) = addP (⟨rt, tsG Ch2⟩ : TrT) (innP [sp.2.1] [cur, ((Ch).length : Int)]) := by rw [tsg_app]; rfl
      refine ov 4 [] (a := kaddN ((Ch).length + 1)) (b := ?_)
      refine Sb 1 [] 3 fun w19_3 hM19_3 => ?_
      have ha0 : a = 1 := by omega
      subst ha0
      have hgr := grow_root (R := (⟨rt, tsG Ch⟩ : TrT)) (P := (pathK (T).t (x).key)) (by rw [show (1 : Nat) - 1 = 0 from rfl] at hcu; rw [← hcu, hgc]; show ¬ (((Ch)[(cur).toNat]'hjc).k.l).length ≤ 4; omega)
      rw [show (1 : Nat) - 1 = 0 from rfl] at hcu
      rw [← hcu, hgc, ← hsp0, ← hR1] at hgr
      have hrs : (⟨((((Ch).length + 1) : Nat) : Int), tsG (Ch2 ++ [p2_])⟩ : TrT) = putF (T).t x := by rw [← hi1_l8, hgr]; have h9 := congrArg TrT.pages hR2; rw [show tsG (Ch2 ++ [p2_]) = _ from h9]; simp only [List.length_map]; rfl
      have hsz9 := put_sz (A := A18_4) (c := c18_4) hv1 hv2 hrs
      have hvs9 : validT (TreeL.t ⟨((((Ch).length + 1) : Nat) : Int), A18_4, c18_4, Ch2 ++ [p2_]⟩) = validT (putF (T).t x) := congrArg validT hrs
      refine cp 6 [3] (b := ValidTree_fn (⟨((((Ch).length + 1) : Nat) : Int), A18_4, c18_4, Ch2 ++ [p2_]⟩ : TreeL) w19_3 ⟨(hM19_3.rd 4 rfl), (NsP.mem hM19_3 0 rfl)⟩ (by exact hsz9.1)) (c := fun w26_1 hM26_1 => ?_)
      refine cn 2 [] (fun c151 => ?_) (fun c151 => ?_)
      · have hn3 : validT (putF (T).t x) = false := by rw [← hvs9]; simpa using c151
        refine Sb 3 [] 10 fun w27_1 hM27_1 => ?_
        have hMk26 := Mem.gnil (e := 3) hM27_1
        refine EG 3 [] ?_
        refine PG (vs := [.agg #[I (0), .slice (none) (0) (0)], .bool (false)]) (ResV.cell (l := [I (0), .slice (none) (0) (0)]) rfl (mem_blk (i := 11) (j := 0) hMk26 rfl rfl) el25 rfl (ResV.tmp rfl ResV.nil)) ?_
        have hpf : (validT (T).t && validR [x] && validT (putF (T).t x)) = false := by first | (rw [hn1]; rfl) | (rw [hn2, Bool.and_false]; rfl) | (rw [hn3, Bool.and_false])
        have hMn27 := Mem.addNil (e := 42) (sz := 3) hMk26
        have hq28 : ([] : List PgL) = ([] : List PgL) := (by first | rfl | simp | (simp; omega))
        have hMn28 := hMn27.reF 0 hq28 (f := encPg)
        exact ⟨0, ([] : List PgL), none, 0, (by rw [hpf]; rfl), (fun hb => absurd hb (by rw [hpf]; simp)), (sz_small (by simp) (by simp)), (by simp), (hMn28.pk [0, 1])⟩
      have hv3 : validT (putF (T).t x) = true := by rw [← hvs9]; simpa using c151
      refine Sb 4 [3] 10 fun w28_1 hM28_1 => ?_
      refine EG 3 [] ?_
      refine PG (vs := [.agg #[I (((((Ch).length + 1) : Nat) : Int)), .slice (A18_4) ((Ch2 ++ [p2_]).length) (c18_4)], .bool (true)]) (ResV.cell (l := [I (((((Ch).length + 1) : Nat) : Int)), .slice (A18_4) ((Ch2 ++ [p2_]).length) (c18_4)]) rfl (mem_blk (i := 10) (j := 0) hM28_1 rfl rfl) el25 rfl (ResV.tmp rfl ResV.nil)) ?_
      have hpf : (validT (T).t && validR [x] && validT (putF (T).t x)) = true := by rw [hv1, hv2, hv3]; rfl
      have hq30 : (Ch2 ++ [p2_] : List PgL) = (Ch2 ++ [p2_]) := (by first | rfl | simp | (simp; omega))
      have hMn30 := hM28_1.reF 4 hq30
      exact ⟨((((Ch).length + 1) : Nat) : Int), Ch2 ++ [p2_], A18_4, c18_4, (by rw [hpf]; rfl), (fun _ => hrs), hsz9.1, (by have := hsz9.2; omega), (hMn30.pk [4, 0])⟩
    have ha2 : 2 ≤ a := by omega
    have hab := hG.above hP ha2 (q := sp.1) (r := sp.2.2)
    obtain ⟨up9, hup⟩ : ∃ z, z = (pathK (T).t (x).key).getD (a - 2) 0 := ⟨_, rfl⟩
    rw [← hcu, ← hup, ← hR1] at hab
    have hin2 := above_in hP ha2 ha1.2
    rw [← hcu, ← hup] at hin2
    have hui := inT_iff.1 (hG.curIn hP (k := a - 2) (by omega))
    refine go 2 [] ?_
    simp only [List.length_map] at hui
    rw [← hup] at hui
    have hju : (up9).toNat < (Ch2).length := by omega
    have hgu9 : gP (⟨rt, tsG Ch2⟩ : TrT) up9 = ((Ch2)[(up9).toNat]'hju).t := gP_ch hju
    rw [hgu9] at hab
    rw [← hab] at hin2
    obtain ⟨hin3, hin4, hin5, hin6⟩ := hin2
    have hin4 : ((Ch2)[(up9).toNat]'hju).c.l.length = ((Ch2)[(up9).toNat]'hju).k.l.length + 1 := hin4
    have hin5 : ((Ch2)[(up9).toNat]'hju).k.l.length ≤ 4 := hin5
    have hpk := plc_kid (l := ((Ch2)[(up9).toNat]'hju).c.l) (n := cur) (m := ((Ch2)[(up9).toNat]'hju).k.l.length) hin3 hin4
    obtain ⟨pk9, hpk9⟩ := Int.eq_ofNat_of_zero_le hpk.1
    have hinb := inB_page hv1 (i := up9) (by rw [hup]; exact hP.inn (a - 2) (by omega)) (by rw [← hab]; intro e9; have h8 := congrArg List.length e9; exact absurd (show ((Ch2)[(up9).toNat]'hju).c.l.length = 0 from h8) (by omega))
    rw [← hab] at hinb
    have hq0 : (addK (gP (T).t up9) (plcI (gP (T).t up9).kids cur) sp.2.1 ((Ch).length : Int)) = addK (gP (T).t ((pathK (T).t (x).key).getD (a - 2) 0)) (plcI (gP (T).t ((pathK (T).t (x).key).getD (a - 2) 0)).kids ((pathK (T).t (x).key).getD (a - 1) 0)) (split1 (gP (⟨rt, tsG Ch⟩ : TrT) ((pathK (T).t (x).key).getD (a - 1) 0))).2.1 ((Ch).length : Int) := by rw [← hup, ← hcu, hgc, ← hsp0]
    have hadk : (addK (gP (T).t up9) (plcI (gP (T).t up9).kids cur) sp.2.1 ((Ch).length : Int)).keys = ((Ch2)[(up9).toNat]'hju).k.l.take pk9 ++ ([sp.2.1] ++ ((Ch2)[(up9).toNat]'hju).k.l.drop pk9) ∧ (addK (gP (T).t up9) (plcI (gP (T).t up9).kids cur) sp.2.1 ((Ch).length : Int)).kids = ((Ch2)[(up9).toNat]'hju).c.l.take (pk9 + 1) ++ ([((Ch).length : Int)] ++ ((Ch2)[(up9).toNat]'hju).c.l.drop (pk9 + 1)) ∧ (addK (gP (T).t up9) (plcI (gP (T).t up9).kids cur) sp.2.1 ((Ch).length : Int)).vals = [] := by rw [← hab]; unfold addK; rw [show plcI ((Ch2)[(up9).toNat]'hju).t.kids cur = (pk9 : Int) from hpk9]; exact ⟨by simp [innP, PgL.t], by simp [innP, PgL.t], rfl⟩
    have hgu := grow_up ha2 hG hP (by rw [← hcu, hgc]; show ¬ (((Ch)[(cur).toNat]'hjc).k.l).length ≤ 4; omega) (q := (addK (gP (T).t up9) (plcI (gP (T).t up9).kids cur) sp.2.1 ((Ch).length : Int))) (by rw [← hup, ← hcu, hgc, ← hsp0]; simp)
    rw [← hcu, ← hup, hgc, ← hsp0, ← hR1] at hgu
    refine ov 3 [] (a := ksub) (b := ?_)
    have hx20_3 : (a - 1 - 1) < (pathK (T).t ((x).key)).length := (by omega)
    refine ov 0 [] (a := kixM hx20_3 (hM_r15.rd 7 rfl) (h0 := by omega)) (b := ?_)
    refine ov 0 [] (s := Vi (up9)) (a := by exact cv (Ru.congr (v := I ((pathK (T).t ((x).key))[(a - 1 - 1)]'hx20_3)) (v' := I (up9)) (Ru.load1 el3 rfl (ldm (hM_r15.rd 7 rfl) hx20_3)) (I_congr (by rw [hup, show a - 2 = a - 1 - 1 by omega, getD_in (show a - 1 - 1 < (pathK (T).t (x).key).length by omega)]))) rfl) (b := ?_)
    have hx21_3 : (up9).toNat < (Ch2).length := hju
    refine ov 7 [1] (a := kixF hx21_3 (hM_r15.rd 2 rfl) (h0 := by omega)) (b := ?_)
    refine ov 0 [] (a := kldN hx21_3 (hM_r15.rd 2 rfl)) (b := ?_)
    refine cq 1 [] (b := placeOfKid_fn ((Ch2)[(up9).toNat]'hx21_3) _ w_r15 ((NsP.mem hM_r15 0 rfl).get hx21_3) qo) (c := ?_)
    rintro _ w21_6 ⟨hv21_6, hR21_6⟩
    obtain rfl : _ = I (((pk9 : Nat) : Int)) := hv21_6.trans (I_congr hpk9)
    have hM21_6 := hM_r15.cl 0 hR21_6
    have hx22_3 : (up9).toNat < (Ch2).length := hju
    refine ov 7 [1] (a := kixF hx22_3 (hM21_6.rd 2 rfl) (h0 := by omega)) (b := ?_)
    refine ov 0 [] (a := kldN hx22_3 (hM21_6.rd 2 rfl)) (b := ?_)
    refine cp 0 [] (b := iinsideOf_fn ((Ch2)[(up9).toNat]'hx22_3) w21_6 ((NsP.mem hM21_6 0 rfl).get hx22_3)) (c := fun w22_5 hM22_5 => ?_)
    refine cq 3 [] (b := AddKid_fn ((((Ch2)[(up9).toNat]'hx22_3)).k.A) ((((Ch2)[(up9).toNat]'hx22_3)).k.cp) ((((Ch2)[(up9).toNat]'hx22_3)).k.l) ((((Ch2)[(up9).toNat]'hx22_3)).c.A) ((((Ch2)[(up9).toNat]'hx22_3)).c.cp) ((((Ch2)[(up9).toNat]'hx22_3)).c.l) _ _ _ w22_5 ((NsP.mem hM22_5 0 rfl).get hx22_3).1 ((NsP.mem hM22_5 0 rfl).get hx22_3).2.1 qo (by exact hinb) qo) (c := ?_)
    rintro _ w22_9 ⟨L122_9, A122_9, c122_9, L222_9, A222_9, c222_9, rfl, hab22_9, hR22_9⟩
    have hM22_9 := hM22_5.cl 0 hR22_9
    have hcr22_9_0 := (hM22_9.cap 0 rfl).1
    have hcr22_9_1 := (hM22_9.cap 1 rfl).1
    refine Al 3 [] fun w22_13 b22_13 hb22_13 hM22_13 => ?_
    refine Sb 0 [] 0 fun w22_14 hM22_14 => ?_
    refine cn 8 [] (fun c141 => ?_) (fun c141 => ?_)
    · have h16 : ¬ ((Ch).length : Int) < 16 := fun h9 => by have h8 := add_inB ha2 ha1.2 hv1 hP hrg hG.cur hi2_l8 (by rw [← hcu, hgc]; show ¬ (((Ch)[(cur).toNat]'hjc).k.l).length ≤ 4; omega) ((Ch).length : Int) hq0 (by rw [pages_len]; omega) h9; rw [hadk.1, hadk.2.1] at h8; exact absurd h8 (by simpa using c141)
      have hgl9 := grow_len (pathK (T).t (x).key) (a - 1) (setP (⟨rt, tsG Ch2⟩ : TrT) up9 (addK (gP (T).t up9) (plcI (gP (T).t up9).kids cur) sp.2.1 ((Ch).length : Int)))
      have hsl9 : (setP (⟨rt, tsG Ch2⟩ : TrT) up9 (addK (gP (T).t up9) (plcI (gP (T).t up9).kids cur) sp.2.1 ((Ch).length : Int))).pages.length = (Ch).length + 1 := by simp [setP, hle]
      have hn3 : validT (putF (T).t x) = false := valid_no (by rw [← hi1_l8, hgu]; omega)
      refine Sb 3 [] 11 fun w24_1 hM24_1 => ?_
      have hMk32 := Mem.gnil (e := 3) hM24_1
      refine EG 3 [] ?_
      refine PG (vs := [.agg #[I (0), .slice (none) (0) (0)], .bool (false)]) (ResV.cell (l := [I (0), .slice (none) (0) (0)]) rfl (mem_blk (i := 12) (j := 0) hMk32 rfl rfl) el25 rfl (ResV.tmp rfl ResV.nil)) ?_
      have hpf : (validT (T).t && validR [x] && validT (putF (T).t x)) = false := by first | (rw [hn1]; rfl) | (rw [hn2, Bool.and_false]; rfl) | (rw [hn3, Bool.and_false])
      have hMn33 := Mem.addNil (e := 42) (sz := 3) hMk32
      have hq34 : ([] : List PgL) = ([] : List PgL) := (by first | rfl | simp | (simp; omega))
      have hMn34 := hMn33.reF 0 hq34 (f := encPg)
      exact ⟨0, ([] : List PgL), none, 0, (by rw [hpf]; rfl), (fun hb => absurd hb (by rw [hpf]; simp)), (sz_small (by simp) (by simp)), (by simp), (hMn34.pk [0, 1])⟩
    have hLL := hab22_9 (by simpa using c141)
    have hpgE : (⟨L122_9, L222_9, []⟩ : PgT) = (addK (gP (T).t up9) (plcI (gP (T).t up9).kids cur) sp.2.1 ((Ch).length : Int)) := pg_mk (hadk.1.trans hLL.1.symm) (hadk.2.1.trans hLL.2.symm) hadk.2.2
    refine any 1 [] 7 [0, 1, 2, 3, 4, 6, 7, 8, 9, 10, 11, 12, 13] fun w25a hM25a => ?_
    refine aO [0, 1, 2, 3] [4, 0] 4 ?_
    refine cp 0 [] (b := innerPage_fn A122_9 c122_9 L122_9 A222_9 c222_9 L222_9 w25a (hM25a.rd 1 rfl) (hM25a.rd 2 rfl)) (c := fun w25_4 hM25_4 => ?_)
    refine os 0 [] [0, 1, 2, 3, 4, 6, 7, 8, 9, 10, 11, 12, 13] ?_
    have hx25_5 : (up9).toNat < (Ch2).length := hju
    refine av [] [] 5 (a := by exact fun _ hw2 => kixF hx25_5 (hM25_4.rd 5 rfl) (h0 := by omega)) (b := ?_)
    refine aO [] [] 6 ?_
    refine sF 0 [] 5 (⟨⟨A122_9, c122_9, L122_9⟩, ⟨A222_9, c222_9, L222_9⟩, ⟨none, 0, []⟩⟩ : PgL) hx25_5 fun w25_6 hM25_6 => ?_
    refine os 0 [] [0, 1, 2, 3, 4, 6, 7, 8, 9, 10, 11, 12, 13] ?_
    refine an [] [] ?_
    have hMn36 := Mem.addNil (e := 3) (sz := 1) hM25_6
    have hMk37 := Mem.gset (k := ⟨A122_9, c122_9, L122_9⟩) (c := ⟨A222_9, c222_9, L222_9⟩) (v := ⟨none, 0, []⟩) ((up9).toNat) (hMn36.pk [4, 2, 3, 0, 1, 5, 6, 7, 8, 9, 10, 11, 12, 13, 14])
    have hR3 : (⟨rt, tsG ((Ch2).set ((up9).toNat) (⟨⟨A122_9, c122_9, L122_9⟩, ⟨A222_9, c222_9, L222_9⟩, ⟨none, 0, []⟩⟩ : PgL))⟩ : TrT) = setP (⟨rt, tsG Ch2⟩ : TrT) up9 (addK (gP (T).t up9) (plcI (gP (T).t up9).kids cur) sp.2.1 ((Ch).length : Int)) := by rw [tsg_set, ← hpgE]; rfl
    have hGn := hG.next hP ha2 (q := (addK (gP (T).t up9) (plcI (gP (T).t up9).kids cur) sp.2.1 ((Ch).length : Int))) (by rw [← hup, ← hcu, hgc, ← hsp0]; simp)
    rw [← hcu, ← hup, hgc, ← hsp0, ← hR1, ← hR3] at hGn
    rw [← hR3] at hgu
    have hao9 := add_order ha2 ha1.2 hP hrg hG.cur hi2_l8 (by rw [← hcu, hgc]; show ¬ (((Ch)[(cur).toNat]'hjc).k.l).length ≤ 4; omega) ((Ch).length : Int) hq0
    have hOn : OI (pathK (T).t (x).key) lo9 hi9 (a - 1) (setP (⟨rt, tsG Ch2⟩ : TrT) up9 (addK (gP (T).t up9) (plcI (gP (T).t up9).kids cur) sp.2.1 ((Ch).length : Int))) := OI.next hao9.1 hao9.2.1 (by rw [← hup]; exact gP_set_own (inT_iff.2 ⟨by omega, by simp only [List.length_map]; omega⟩))
    rw [← hR3] at hOn
    have hq38 : ((Ch2).set ((up9).toNat) (⟨⟨A122_9, c122_9, L122_9⟩, ⟨A222_9, c222_9, L222_9⟩, ⟨none, 0, []⟩⟩ : PgL) : List PgL) = (Ch2).set ((up9).toNat) (⟨⟨A122_9, c122_9, L122_9⟩, ⟨A222_9, c222_9, L222_9⟩, ⟨none, 0, []⟩⟩ : PgL) := rfl
    have hMn38 := hMk37.reF 3 hq38
    have hMn39 := hMn38.reB 2 1 (show (Ch2).length = ((Ch2).set ((up9).toNat) (⟨⟨A122_9, c122_9, L122_9⟩, ⟨A222_9, c222_9, L222_9⟩, ⟨none, 0, []⟩⟩ : PgL)).length from (by first | rfl | simp | (simp; omega)))
    refine ov 2 [] (a := ksub) (b := ?_)
    have hq40 : ((Ch2).set ((up9).toNat) (⟨⟨A122_9, c122_9, L122_9⟩, ⟨A222_9, c222_9, L222_9⟩, ⟨none, 0, []⟩⟩ : PgL) : List PgL) = ((Ch2).set ((up9).toNat) (⟨⟨A122_9, c122_9, L122_9⟩, ⟨A222_9, c222_9, L222_9⟩, ⟨none, 0, []⟩⟩ : PgL)) := (by first | rfl | simp | (simp; omega))
    have hMn40 := hMn39.reF 3 hq40
    exact le5 2 [] (a - 1) rt ((Ch2).set ((up9).toNat) (⟨⟨A122_9, c122_9, L122_9⟩, ⟨A222_9, c222_9, L222_9⟩, ⟨none, 0, []⟩⟩ : PgL)) A2 c2 [0, 2, 3, 6, 7, 8, 9, 10, 11] (hm := (by (try dsimp only); have := hG.a1; omega)) (h := by exact ⟨hGn, (by (try dsimp only); rw [← hgu]; exact hi1_l8), hOn⟩)
  exfalso; omega
end Go.Proofs.YtemejgglbhjodaaGreatDoor
end
section
namespace Go.Proofs.YtemejgglbhjodaaGreatDoor
open Go.Px
theorem EqualInt_fn (A : Option Addr) (c : Nat) (a : List Int) (B : Option Addr) (d : Nat) (b : List Int) (w : World) (hA : Rd w A ((a).map I)) (hB : Rd w B ((b).map I)) (ha : a.length ≤ 1048576) :
    Does Tryz.prog 71 [.slice (A) ((a).length) (c), .slice (B) ((b).length) (d)] w (fun v w1 => v = .bool (decide (a = b)) ∧ Mem w w1 [] []) := by
  have hM : Mem w w [] [] := Mem.refl
  refine Does.n1 Tryz.func71 rfl Tryz.results71 Tryz.ntmps71 rfl ?_
  refine cd 13 [] (fun c10 => ?_) (fun c10 => ?_)
  · refine E1 5 [] (.bool (false)) ?_
    exact ⟨(by rw [ne_len (by omega)]), (Mem.none hM)⟩
  refine lp1 9 [] (fun (k : Nat) => ([(13, Vi (((k : Nat) : Int)))] : List (Nat × SV))) (fun (k : Nat) => (k ≤ a.length) ∧ (a.take k = b.take k)) (fun (k : Nat) => []) (fun (k : Nat) => a.length - k) [0, 1, 12] [] [] 0 (fun k σ w_l4 hI hM_l4 => ?_) (h0 := ⟨(Nat.zero_le _), (by (try dsimp only); simp)⟩)
  obtain ⟨hi0_l4, hi1_l4⟩ := hI
  refine cd 5 [] (fun c14 => ?_) (fun c14 => ?_)
  · refine dr 9 [] ?_
    have hx6_2 : k < (a).length := (by first | omega | (simp; omega))
    refine qv 2 [] (a := by exact fun _ hw2 => kixM hx6_2 (hA.at hw2)) (b := ?_)
    refine qv 0 [] (a := by exact fun _ hw2 => kldM hx6_2 (hA.at hw2)) (b := ?_)
    have hx6_6 : k < (b).length := (by first | omega | (simp; omega))
    refine qv 2 [] (a := by exact fun _ hw2 => kixM hx6_6 (hB.at hw2)) (b := ?_)
    refine qv 0 [] (a := by exact fun _ hw2 => kldM hx6_6 (hB.at hw2)) (b := ?_)
    refine qn 1 [] fun w6d hM6d => ?_
    refine cd 0 [] (fun c24 => ?_) (fun c24 => ?_)
    · refine E1 5 [] (.bool (false)) ?_
      exact ⟨(by rw [ne_at hx6_2 hx6_6 (by simpa using c24)]), (Mem.none hM6d)⟩
    refine ov 2 [] (a := kaddN (k + 1)) (b := ?_)
    exact le1 2 [] (k + 1) [] (h := by exact ⟨(by (try dsimp only); omega), (eq_step hx6_2 hx6_6 hi1_l4 (by simpa using c24))⟩)
  refine E1 6 [] (.bool (true)) ?_
  exact ⟨(by rw [eq_all (by omega) (by omega) hi1_l4]), (Mem.none hM_l4)⟩
theorem sameInts_fn (A : Option Addr) (c : Nat) (a : List Int) (B : Option Addr) (d : Nat) (b : List Int) (w : World) (hA : Rd w A ((a).map I)) (hB : Rd w B ((b).map I)) (ha : a.length ≤ 1048576) :
    Does Tryz.prog 87 [.slice (A) ((a).length) (c), .slice (B) ((b).length) (d)] w (fun v w1 => v = .bool (decide (a = b)) ∧ Mem w w1 [] []) := by
  have hM : Mem w w [] [] := Mem.refl
  refine Does.n1 Tryz.func87 rfl Tryz.results87 Tryz.ntmps87 rfl ?_
  refine lp1 10 [] (fun (k : Nat) => ([(5, Vi (((k : Nat) : Int)))] : List (Nat × SV))) (fun (k : Nat) => (k ≤ a.length ∧ k ≤ b.length) ∧ (a.take k = b.take k)) (fun (k : Nat) => []) (fun (k : Nat) => a.length - k) [0, 1] [] [] 0 (fun k σ w_l2 hI hM_l2 => ?_) (h0 := ⟨(by (try dsimp only); omega), (by (try dsimp only); simp)⟩)
  obtain ⟨hi0_l2, hi1_l2⟩ := hI
  refine pp 8 [] 10 (fun g10 => ?_) (fun g10 => ?_)
  · refine cd 6 [] (fun c15 => ?_) (fun c15 => ?_)
    · refine dr 4 [] ?_
      have hx4_2 : k < (a).length := (by first | omega | (simp; omega))
      refine qv 2 [] (a := by exact fun _ hw2 => kixM hx4_2 (hA.at hw2)) (b := ?_)
      refine qv 0 [] (a := by exact fun _ hw2 => kldM hx4_2 (hA.at hw2)) (b := ?_)
      have hx4_6 : k < (b).length := (by first | omega | (simp; omega))
      refine qv 2 [] (a := by exact fun _ hw2 => kixM hx4_6 (hB.at hw2)) (b := ?_)
      refine qv 0 [] (a := by exact fun _ hw2 => kldM hx4_6 (hB.at hw2)) (b := ?_)
      refine qn 1 [] fun w4d hM4d => ?_
      refine cd 0 [] (fun c26 => ?_) (fun c26 => ?_)
      · refine E1 5 [] (.bool (false)) ?_
        exact ⟨(by rw [ne_at hx4_2 hx4_6 (by simpa using c26)]), (Mem.none hM4d)⟩
      refine ov 3 [] (a := kaddN (k + 1)) (b := ?_)
      exact le1 2 [] (k + 1) [] (h := by exact ⟨(by (try dsimp only); omega), (eq_step hx4_2 hx4_6 hi1_l2 (by simpa using c26))⟩)
    refine E1 11 [] (.bool (decide ((((a).length : Nat) : Int) = (((b).length : Nat) : Int)))) ?_
    exact ⟨(by rw [← same_end (a := a) (b := b) (k := k) (by omega) hi1_l2]; exact congrArg Value.bool (decide_eq_decide.2 (by omega))), (Mem.none hM_l2)⟩
  refine E1 18 [] (.bool (decide ((((a).length : Nat) : Int) = (((b).length : Nat) : Int)))) ?_
  exact ⟨(by rw [← same_end (a := a) (b := b) (k := k) (by omega) hi1_l2]; exact congrArg Value.bool (decide_eq_decide.2 (by omega))), (Mem.none hM_l2)⟩
theorem lisIn_fn (A : Option Addr) (c : Nat) (l : List Int) (n : Int) (w : World) (hA : Rd w A ((l).map I)) (hl : l.length ≤ 1048576) :
    Does Tryz.prog 15 [.slice (A) ((l).length) (c), I (n)] w (fun v w1 => v = .bool (decide (n ∈ l)) ∧ Mem w w1 [] []) := by
  have hM : Mem w w [] [] := Mem.refl
  refine Does.n1 Tryz.func15 rfl Tryz.results15 Tryz.ntmps15 rfl ?_
  refine lp1 10 [] (fun (k : Nat) => ([(5, Vi (((k : Nat) : Int)))] : List (Nat × SV))) (fun (k : Nat) => (k ≤ l.length) ∧ (∀ x ∈ l.take k, x ≠ n)) (fun (k : Nat) => []) (fun (k : Nat) => l.length - k) [0, 1] [] [] 0 (fun k σ w_l2 hI hM_l2 => ?_) (h0 := ⟨(Nat.zero_le _), (by (try dsimp only); simp)⟩)
  obtain ⟨hi0_l2, hi1_l2⟩ := hI
  refine cd 8 [] (fun c9 => ?_) (fun c9 => ?_)
  · have hx4_2 : k < (l).length := (by first | omega | (simp; omega))
    refine ov 7 [] (a := kixM hx4_2 (hA.at hM_l2)) (b := ?_)
    refine ov 0 [] (a := kldM hx4_2 (hA.at hM_l2)) (b := ?_)
    refine cd 3 [] (fun c17 => ?_) (fun c17 => ?_)
    · refine E1 5 [] (.bool (true)) ?_
      exact ⟨(by rw [decide_eq_true (by rw [← c17]; exact List.getElem_mem hx4_2)]), (Mem.none hM_l2)⟩
    refine ov 3 [] (a := kaddN (k + 1)) (b := ?_)
    exact le1 2 [] (k + 1) [] (h := by exact ⟨(by (try dsimp only); omega), (mem_step hi1_l2 hx4_2 c17)⟩)
  refine E1 6 [] (.bool (false)) ?_
  exact ⟨(by rw [mem_end hi1_l2 (by omega)]), (Mem.none hM_l2)⟩
theorem samePage_fn (a : PgL) (b : PgL) (w : World) (hNa : PgN w a) (hNb : PgN w b) (ha : (a).k.l.length ≤ 1048576 ∧ (a).c.l.length ≤ 1048576 ∧ (a).v.l.length ≤ 1048576) :
    Does Tryz.prog 29 [.agg #[.slice ((a).k.A) ((a).k.l.length) ((a).k.cp), .slice ((a).c.A) ((a).c.l.length) ((a).c.cp), .slice ((a).v.A) ((a).v.l.length) ((a).v.cp)], .agg #[.slice ((b).k.A) ((b).k.l.length) ((b).k.cp), .slice ((b).c.A) ((b).c.l.length) ((b).c.cp), .slice ((b).v.A) ((b).v.l.length) ((b).v.cp)]] w (fun v w1 => v = .bool (decide (a.t = b.t)) ∧ Mem w w1 [] []) := by
  have hM : Mem w w [] [] := Mem.refl
  refine Does.n1 Tryz.func29 rfl Tryz.results29 Tryz.ntmps29 rfl ?_
  refine Bx 2 [] fun w0_0 b0_0 hb0_0 hM0_0 => ?_
  refine Bx 0 [] fun w0_1 b0_1 hb0_1 hM0_1 => ?_
  refine cq 8 [1, 0] (vs := [.slice ((a).k.A) (((a).k.l).length) ((a).k.cp), .slice ((b).k.A) (((b).k.l).length) ((b).k.cp)]) (hvs := (by first | rfl | (rw [show ((b).k.l).length = (b).k.l.length from (by first | rfl | (simp; done) | omega | (simp; omega))]; rfl))) (b := EqualInt_fn ((a).k.A) ((a).k.cp) ((a).k.l) ((b).k.A) ((b).k.cp) ((b).k.l) w0_1 (hNa.at hM0_1).1 (hNb.at hM0_1).1 q0) (c := ?_)
  rintro _ w1_4 ⟨rfl, hR1_4⟩
  have hM1_4 := hM0_1.cl 0 hR1_4
  refine pt 1 [] 10 (fun g10 => ?_) (fun g10 => ?_)
  · refine cq 4 [1, 0] (vs := [.slice ((a).c.A) (((a).c.l).length) ((a).c.cp), .slice ((b).c.A) (((b).c.l).length) ((b).c.cp)]) (hvs := (by first | rfl | (rw [show ((b).c.l).length = (b).c.l.length from (by first | rfl | (simp; done) | omega | (simp; omega))]; rfl))) (b := EqualInt_fn ((a).c.A) ((a).c.cp) ((a).c.l) ((b).c.A) ((b).c.cp) ((b).c.l) w1_4 (hNa.at hM1_4).2.1 (hNb.at hM1_4).2.1 q0) (c := ?_)
    rintro _ w1_10 ⟨rfl, hR1_10⟩
    have hM1_10 := hM1_4.cl 0 hR1_10
    refine pt 2 [] 17 (fun g17 => ?_) (fun g17 => ?_)
    · refine cq 4 [1, 0] (vs := [.slice ((a).v.A) (((a).v.l).length) ((a).v.cp), .slice ((b).v.A) (((b).v.l).length) ((b).v.cp)]) (hvs := (by first | rfl | (rw [show ((b).v.l).length = (b).v.l.length from (by first | rfl | (simp; done) | omega | (simp; omega))]; rfl))) (b := EqualInt_fn ((a).v.A) ((a).v.cp) ((a).v.l) ((b).v.A) ((b).v.cp) ((b).v.l) w1_10 (hNa.at hM1_10).2.2 (hNb.at hM1_10).2.2 q0) (c := ?_)
      rintro _ w1_17 ⟨rfl, hR1_17⟩
      have hM1_17 := hM1_10.cl 0 hR1_17
      refine E1 4 [] (.bool (decide (((a).v.l) = ((b).v.l)))) ?_
      exact ⟨(by rw [page_dec]; simp_all), (Mem.none hM1_17)⟩
    refine E1 9 [] (.bool (false)) ?_
    exact ⟨(by rw [page_dec]; simp_all), (Mem.none hM1_10)⟩
  refine E1 16 [] (.bool (false)) ?_
  exact ⟨(by rw [page_dec]; simp_all), (Mem.none hM1_4)⟩
theorem ssamePage_fn (a : PgL) (b : PgL) (w : World) (hNa : PgN w a) (hNb : PgN w b) (ha : (a).k.l.length ≤ 1048576 ∧ (a).c.l.length ≤ 1048576 ∧ (a).v.l.length ≤ 1048576) :
    Does Tryz.prog 42 [.agg #[.slice ((a).k.A) ((a).k.l.length) ((a).k.cp), .slice ((a).c.A) ((a).c.l.length) ((a).c.cp), .slice ((a).v.A) ((a).v.l.length) ((a).v.cp)], .agg #[.slice ((b).k.A) ((b).k.l.length) ((b).k.cp), .slice ((b).c.A) ((b).c.l.length) ((b).c.cp), .slice ((b).v.A) ((b).v.l.length) ((b).v.cp)]] w (fun v w1 => v = .bool (decide (a.t = b.t)) ∧ Mem w w1 [] []) := by
  have hM : Mem w w [] [] := Mem.refl
  refine Does.n1 Tryz.func42 rfl Tryz.results42 Tryz.ntmps42 rfl ?_
  refine Bx 2 [] fun w0_0 b0_0 hb0_0 hM0_0 => ?_
  refine Bx 0 [] fun w0_1 b0_1 hb0_1 hM0_1 => ?_
  refine cq 8 [1, 0] (vs := [.slice ((a).k.A) (((a).k.l).length) ((a).k.cp), .slice ((b).k.A) (((b).k.l).length) ((b).k.cp)]) (hvs := (by first | rfl | (rw [show ((b).k.l).length = (b).k.l.length from (by first | rfl | (simp; done) | omega | (simp; omega))]; rfl))) (b := sameInts_fn ((a).k.A) ((a).k.cp) ((a).k.l) ((b).k.A) ((b).k.cp) ((b).k.l) w0_1 (hNa.at hM0_1).1 (hNb.at hM0_1).1 q0) (c := ?_)
  rintro _ w1_4 ⟨rfl, hR1_4⟩
  have hM1_4 := hM0_1.cl 0 hR1_4
  refine pt 1 [] 10 (fun g10 => ?_) (fun g10 => ?_)
  · refine cq 4 [1, 0] (vs := [.slice ((a).c.A) (((a).c.l).length) ((a).c.cp), .slice ((b).c.A) (((b).c.l).length) ((b).c.cp)]) (hvs := (by first | rfl | (rw [show ((b).c.l).length = (b).c.l.length from (by first | rfl | (simp; done) | omega | (simp; omega))]; rfl))) (b := sameInts_fn ((a).c.A) ((a).c.cp) ((a).c.l) ((b).c.A) ((b).c.cp) ((b).c.l) w1_4 (hNa.at hM1_4).2.1 (hNb.at hM1_4).2.1 q0) (c := ?_)
    rintro _ w1_10 ⟨rfl, hR1_10⟩
    have hM1_10 := hM1_4.cl 0 hR1_10
    refine pt 2 [] 17 (fun g17 => ?_) (fun g17 => ?_)
    · refine cq 4 [1, 0] (vs := [.slice ((a).v.A) (((a).v.l).length) ((a).v.cp), .slice ((b).v.A) (((b).v.l).length) ((b).v.cp)]) (hvs := (by first | rfl | (rw [show ((b).v.l).length = (b).v.l.length from (by first | rfl | (simp; done) | omega | (simp; omega))]; rfl))) (b := sameInts_fn ((a).v.A) ((a).v.cp) ((a).v.l) ((b).v.A) ((b).v.cp) ((b).v.l) w1_10 (hNa.at hM1_10).2.2 (hNb.at hM1_10).2.2 q0) (c := ?_)
      rintro _ w1_17 ⟨rfl, hR1_17⟩
      have hM1_17 := hM1_10.cl 0 hR1_17
      refine E1 4 [] (.bool (decide (((a).v.l) = ((b).v.l)))) ?_
      exact ⟨(by rw [page_dec]; simp_all), (Mem.none hM1_17)⟩
    refine E1 9 [] (.bool (false)) ?_
    exact ⟨(by rw [page_dec]; simp_all), (Mem.none hM1_10)⟩
  refine E1 16 [] (.bool (false)) ?_
  exact ⟨(by rw [page_dec]; simp_all), (Mem.none hM1_4)⟩
end Go.Proofs.YtemejgglbhjodaaGreatDoor
end
section
namespace Go.Proofs.YtemejgglbhjodaaGreatDoor
open Go.Px
set_option maxHeartbeats 2000000 in
theorem ChangedPages_fn (T : TreeL) (x : PairT) (w : World) (hNT : TrN w T) (hs : SzT T) :
    Does Tryz.prog 11 [.agg #[I ((T).root), .slice ((T).A) ((T).l.length) ((T).cp)], .agg #[I ((x).key), I ((x).val)]] w (fun v w1 => ∃ (A1 : Option Addr) (c1 : Nat), v = .slice (A1) ((chgT (T).t x).length) (c1) ∧ Mem w w1 [] [[⟨.slice (A1) (((chgT (T).t x)).length) (c1), 3, 1, (((chgT (T).t x)).length), ((chgT (T).t x)).map I⟩]]) := by
  have hM : Mem w w [] [] := Mem.refl
  refine Does.n1 Tryz.func11 rfl Tryz.results11 Tryz.ntmps11 rfl ?_
  have hs1 := hs.1
  refine Bx 2 [] fun w0_0 b0_0 hb0_0 hM0_0 => ?_
  refine Bx 0 [] fun w0_1 b0_1 hb0_1 hM0_1 => ?_
  refine cq 6 [1, 0] (b := PutKey_fn T x w0_1 (hNT.at hM0_1) q0) (c := ?_)
  rintro _ w1_2 ⟨r11_2, L11_2, A11_2, c11_2, rfl, hts1_2, hzs1_2, hll1_2, hR1_2⟩
  have hM1_2 := hM0_1.cl 0 hR1_2
  have hcr1_2_0 := (hM1_2.cap 0 rfl).1
  refine Al 3 [] fun w1_6 b1_6 hb1_6 hM1_6 => ?_
  refine Sb 0 [] 0 fun w1_7 hM1_7 => ?_
  refine cn 8 [] (fun c17 => ?_) (fun c17 => ?_)
  · have hpb : putB (T).t x = false := by simpa [putB] using c17
    refine E1 5 [] (.slice (none) (0) (0)) ?_
    have hMn1 := Mem.addNil (e := 3) (sz := 1) hM1_7
    have hq2 : ([] : List Int) = (chgT (T).t x) := (chgT_no hpb).symm
    have hMn2 := hMn1.reM 0 hq2 (f := I)
    exact ⟨none, 0, (sl_congr (by rw [chgT_no hpb]; rfl)), (hMn2.pk [0])⟩
  have hpb : putB (T).t x = true := by simpa [putB] using c17
  have hts := hts1_2 hpb
  have hpl := pages_len (T := T)
  have hle := putF_len (T := (T).t) (x := x)
  rw [← hts] at hle
  simp only [List.length_map, hpl] at hle
  have hpg : ∀ k, (h : k < (T).l.length) → (h2 : k < (L11_2).length) → (decide (((T).l[k]).t = ((L11_2)[k]).t) = false → chgL (T).t.pages (putF (T).t x).pages (k + 1) = chgL (T).t.pages (putF (T).t x).pages k ++ [(k : Int)]) ∧ (decide (((T).l[k]).t = ((L11_2)[k]).t) = true → chgL (T).t.pages (putF (T).t x).pages (k + 1) = chgL (T).t.pages (putF (T).t x).pages k) := fun k h h2 => by rw [← hts]; exact chg_two h h2
  have hMn3 := Mem.addNil (e := 3) (sz := 1) hM1_7
  have hq4 : ([] : List Int) = (chgL (T).t.pages (putF (T).t x).pages 0) := rfl
  have hMn4 := hMn3.reM 0 hq4 (f := I)
  refine lp3 14 [5] (fun (k : Nat) (A2 : Option Addr) (c2 : Nat) => ([(7, Vl (A2) (((chgL (T).t.pages (putF (T).t x).pages k)).length) (c2)), (21, Vi (((k : Nat) : Int)))] : List (Nat × SV))) (fun (k : Nat) (A2 : Option Addr) (c2 : Nat) => (k ≤ (T).l.length)) (fun (k : Nat) (A2 : Option Addr) (c2 : Nat) => [[⟨.slice (A2) (((chgL (T).t.pages (putF (T).t x).pages k)).length) (c2), 3, 1, (((chgL (T).t.pages (putF (T).t x).pages k)).length), ((chgL (T).t.pages (putF (T).t x).pages k)).map I⟩]]) (fun (k : Nat) (A2 : Option Addr) (c2 : Nat) => (T).l.length - k) [5, 19, 20] [0] [1, 2, 3, 4, 5] 0 none 0 (fun k A2 c2 σ w_l6 hI hM_l6 => ?_) (h0 := (Nat.zero_le _))
  have hi0_l6 := hI
  have hcl0_l6 := (hM_l6.cap 0 rfl).1
  have hcl2_l6 := (hM_l6.cap 2 rfl).1
  have hcl : ((chgL (T).t.pages (putF (T).t x).pages k)).length ≤ k := chg_len k
  refine cd 5 [] (fun c22 => ?_) (fun c22 => ?_)
  · have hx7_1 : k < ((T).l).length := (by first | omega | (simp; omega))
    refine ov 6 [] (a := kixF hx7_1 (hNT.at hM_l6).1) (b := ?_)
    refine ov 0 [] (a := kldN hx7_1 (hNT.at hM_l6).1) (b := ?_)
    refine Al 0 [] fun w7_3 b7_3 hb7_3 hM7_3 => ?_
    refine Sb 1 [] 0 fun w7_5 hM7_5 => ?_
    have hsz := hs.at (show k < (T).l.length by omega)
    refine dr 2 [] ?_
    have hx8_4 : k < (L11_2).length := (by omega)
    refine qv 4 [0, 2] (a := by exact fun _ hw2 => kixF hx8_4 (hw2.rd 3 rfl) (h0 := by omega)) (b := ?_)
    refine qv 0 [] (a := by exact fun _ hw2 => kldN hx8_4 (hw2.rd 3 rfl)) (b := ?_)
    refine qc 0 [] (X := .bool (decide ((((T).l)[k]'hx7_1).t = ((L11_2)[k]'hx8_4).t))) (b := by exact fun w2 hw2 => (samePage_fn (((T).l)[k]'hx7_1) ((L11_2)[k]'hx8_4) w2 (((hNT.at hw2)).2.get hx7_1) ((NsP.mem hw2 4 rfl).get hx8_4) (by exact hsz)).mono fun _ _ h => ⟨h.1, Mem.call0 (M1 := []) hw2 h.2⟩) (c := ?_)
    refine qn 1 [] fun w8d hM8d => ?_
    refine cn 0 [] (fun c33 => ?_) (fun c33 => ?_)
    · have hch := (hpg k (by omega) (by omega)).1 (by simpa using c33)
      refine Lt 3 [] (([((k : Nat) : Int)]).map I) (fun w9_2 b9_2 hb9_2 hM9_2 => ?_)
      refine aM 0 [] 2 (hM9_2.rd 0 rfl) (fun w9_3 A9_3 c9_3 hc9_3 hM9_3 => ?_) (hn := by first | omega | (simp only [List.length_append, List.length_cons, List.length_nil]; omega)) (hb := by first | omega | (simp only [List.length_append, List.length_cons, List.length_nil]; omega))
      refine ov 3 [] (a := kaddN (k + 1)) (b := ?_)
      have hq5 : ((chgL (T).t.pages (putF (T).t x).pages k) ++ [((k : Nat) : Int)] : List Int) = (chgL (T).t.pages (putF (T).t x).pages (k + 1)) := (by first | exact hch.symm | exact hch)
      have hMn5 := hM9_3.reM 2 hq5
      exact le3 2 [] (k + 1) A9_3 c9_3 [2, 3, 4, 5, 6, 7] (h := by exact (by (try dsimp only); omega))
    have hch := (hpg k (by omega) (by omega)).2 (by simpa using c33)
    refine ov 2 [] (a := kaddN (k + 1)) (b := ?_)
    have hq6 : ((chgL (T).t.pages (putF (T).t x).pages k) : List Int) = (chgL (T).t.pages (putF (T).t x).pages (k + 1)) := (by first | exact hch.symm | exact hch)
    have hMn6 := hM8d.reM 1 hq6
    exact le3 2 [] (k + 1) A2 c2 [1, 2, 3, 4, 5, 6] (h := by exact (by (try dsimp only); omega))
  refine E1 7 [] (.slice (A2) (((chgL (T).t.pages (putF (T).t x).pages k)).length) (c2)) ?_
  have hke : k = (T).t.pages.length := by rw [hpl]; omega
  have hq7 : ((chgL (T).t.pages (putF (T).t x).pages k) : List Int) = (chgT (T).t x) := (by rw [chgT_yes hpb, hke])
  have hMn7 := hM_l6.reM 0 hq7
  exact ⟨A2, c2, (sl_congr (by rw [chgT_yes hpb, hke])), (hMn7.pk [0])⟩
set_option maxHeartbeats 2000000 in
theorem sChangedPages_fn (T : TreeL) (x : PairT) (w : World) (hNT : TrN w T) (hs : SzT T) :
    Does Tryz.prog 14 [.agg #[I ((T).root), .slice ((T).A) ((T).l.length) ((T).cp)], .agg #[I ((x).key), I ((x).val)]] w (fun v w1 => ∃ (A1 : Option Addr) (c1 : Nat), v = .slice (A1) ((chgT (T).t x).length) (c1) ∧ Mem w w1 [] [[⟨.slice (A1) (((chgT (T).t x)).length) (c1), 3, 1, (((chgT (T).t x)).length), ((chgT (T).t x)).map I⟩]]) := by
  have hM : Mem w w [] [] := Mem.refl
  refine Does.n1 Tryz.func14 rfl Tryz.results14 Tryz.ntmps14 rfl ?_
  have hs1 := hs.1
  refine Bx 2 [] fun w0_0 b0_0 hb0_0 hM0_0 => ?_
  refine Bx 0 [] fun w0_1 b0_1 hb0_1 hM0_1 => ?_
  refine Lt 4 [] (([]).map I) (fun w1_0 b1_0 hb1_0 hM1_0 => ?_)
  refine cq 6 [2, 1] (b := sPutKey_fn T x w1_0 (hNT.at hM1_0) q0) (c := ?_)
  rintro _ w2_2 ⟨r12_2, L12_2, A12_2, c12_2, rfl, hts2_2, hzs2_2, hll2_2, hR2_2⟩
  have hM2_2 := hM1_0.cl 0 hR2_2
  have hcr2_2_0 := (hM2_2.cap 0 rfl).1
  refine Al 3 [] fun w2_6 b2_6 hb2_6 hM2_6 => ?_
  refine Sb 0 [] 0 fun w2_7 hM2_7 => ?_
  refine cn 8 [] (fun c17 => ?_) (fun c17 => ?_)
  · have hpb : putB (T).t x = false := by simpa [putB] using c17
    refine E1 5 [] (.slice (none) (0) (0)) ?_
    have hMn1 := Mem.addNil (e := 3) (sz := 1) hM2_7
    have hq2 : ([] : List Int) = (chgT (T).t x) := (chgT_no hpb).symm
    have hMn2 := hMn1.reM 0 hq2 (f := I)
    exact ⟨none, 0, (sl_congr (by rw [chgT_no hpb]; rfl)), (hMn2.pk [0])⟩
  have hpb : putB (T).t x = true := by simpa [putB] using c17
  have hts := hts2_2 hpb
  have hpl := pages_len (T := T)
  have hle := putF_len (T := (T).t) (x := x)
  rw [← hts] at hle
  simp only [List.length_map, hpl] at hle
  have hpg : ∀ k, (h : k < (T).l.length) → (h2 : k < (L12_2).length) → (decide (((T).l[k]).t = ((L12_2)[k]).t) = false → chgL (T).t.pages (putF (T).t x).pages (k + 1) = chgL (T).t.pages (putF (T).t x).pages k ++ [(k : Int)]) ∧ (decide (((T).l[k]).t = ((L12_2)[k]).t) = true → chgL (T).t.pages (putF (T).t x).pages (k + 1) = chgL (T).t.pages (putF (T).t x).pages k) := fun k h h2 => by rw [← hts]; exact chg_two h h2
  have hq3 : ([] : List Int) = (chgL (T).t.pages (putF (T).t x).pages 0) := rfl
  have hMn3 := hM2_7.reM 3 hq3 (f := I)
  refine lp3 7 [] (fun (k : Nat) (A2 : Option Addr) (c2 : Nat) => ([(5, Vl (A2) (((chgL (T).t.pages (putF (T).t x).pages k)).length) (c2)), (8, Vi (((k : Nat) : Int)))] : List (Nat × SV))) (fun (k : Nat) (A2 : Option Addr) (c2 : Nat) => (k ≤ (T).l.length)) (fun (k : Nat) (A2 : Option Addr) (c2 : Nat) => [[⟨.slice (A2) (((chgL (T).t.pages (putF (T).t x).pages k)).length) (c2), 3, 1, (((chgL (T).t.pages (putF (T).t x).pages k)).length), ((chgL (T).t.pages (putF (T).t x).pages k)).map I⟩]]) (fun (k : Nat) (A2 : Option Addr) (c2 : Nat) => (T).l.length - k) [2, 6] [3] [0, 1, 2, 4, 5] 0 (bl b1_0) 0 (fun k A2 c2 σ w_l6 hI hM_l6 => ?_) (h0 := (Nat.zero_le _))
  have hi0_l6 := hI
  have hcl0_l6 := (hM_l6.cap 0 rfl).1
  have hcl2_l6 := (hM_l6.cap 2 rfl).1
  have hcl : ((chgL (T).t.pages (putF (T).t x).pages k)).length ≤ k := chg_len k
  refine cd 9 [5] (fun c22 => ?_) (fun c22 => ?_)
  · have hsz := hs.at (show k < (T).l.length by omega)
    refine dr 4 [] ?_
    have hx8_3 : k < ((T).l).length := (by omega)
    refine qv 3 [5] (a := by exact fun _ hw2 => kixF hx8_3 (hNT.at hw2).1 (h0 := by omega)) (b := ?_)
    refine qv 0 [] (a := by exact fun _ hw2 => kldN hx8_3 (hNT.at hw2).1) (b := ?_)
    have hx8_8 : k < (L12_2).length := (by omega)
    refine qv 3 [1] (a := by exact fun _ hw2 => kixF hx8_8 (hw2.rd 2 rfl) (h0 := by omega)) (b := ?_)
    refine qv 0 [] (a := by exact fun _ hw2 => kldN hx8_8 (hw2.rd 2 rfl)) (b := ?_)
    refine qc 0 [] (X := .bool (decide ((((T).l)[k]'hx8_3).t = ((L12_2)[k]'hx8_8).t))) (b := by exact fun w2 hw2 => (ssamePage_fn (((T).l)[k]'hx8_3) ((L12_2)[k]'hx8_8) w2 (((hNT.at hw2)).2.get hx8_3) ((NsP.mem hw2 3 rfl).get hx8_8) (by exact hsz)).mono fun _ _ h => ⟨h.1, Mem.call0 (M1 := []) hw2 h.2⟩) (c := ?_)
    refine qn 1 [] fun w8d hM8d => ?_
    refine cn 0 [] (fun c36 => ?_) (fun c36 => ?_)
    · have hch := (hpg k (by omega) (by omega)).1 (by simpa using c36)
      refine Lt 3 [] (([((k : Nat) : Int)]).map I) (fun w9_2 b9_2 hb9_2 hM9_2 => ?_)
      refine aM 0 [] 1 (hM9_2.rd 0 rfl) (fun w9_3 A9_3 c9_3 hc9_3 hM9_3 => ?_) (hn := by first | omega | (simp only [List.length_append, List.length_cons, List.length_nil]; omega)) (hb := by first | omega | (simp only [List.length_append, List.length_cons, List.length_nil]; omega))
      refine ov 4 [] (a := kaddN (k + 1)) (b := ?_)
      have hq4 : ((chgL (T).t.pages (putF (T).t x).pages k) ++ [((k : Nat) : Int)] : List Int) = (chgL (T).t.pages (putF (T).t x).pages (k + 1)) := (by first | exact hch.symm | exact hch)
      have hMn4 := hM9_3.reM 1 hq4
      exact le3 2 [] (k + 1) A9_3 c9_3 [1, 2, 3, 4, 5, 6] (h := by exact (by (try dsimp only); omega))
    have hch := (hpg k (by omega) (by omega)).2 (by simpa using c36)
    refine ov 3 [] (a := kaddN (k + 1)) (b := ?_)
    have hq5 : ((chgL (T).t.pages (putF (T).t x).pages k) : List Int) = (chgL (T).t.pages (putF (T).t x).pages (k + 1)) := (by first | exact hch.symm | exact hch)
    have hMn5 := hM8d.reM 0 hq5
    exact le3 2 [] (k + 1) A2 c2 [0, 1, 2, 3, 4, 5] (h := by exact (by (try dsimp only); omega))
  refine E1 7 [] (.slice (A2) (((chgL (T).t.pages (putF (T).t x).pages k)).length) (c2)) ?_
  have hke : k = (T).t.pages.length := by rw [hpl]; omega
  have hq6 : ((chgL (T).t.pages (putF (T).t x).pages k) : List Int) = (chgT (T).t x) := (by rw [chgT_yes hpb, hke])
  have hMn6 := hM_l6.reM 0 hq6
  exact ⟨A2, c2, (sl_congr (by rw [chgT_yes hpb, hke])), (hMn6.pk [0])⟩
end Go.Proofs.YtemejgglbhjodaaGreatDoor
end
section
namespace Go.Proofs.YtemejgglbhjodaaGreatDoor
open Go.Px
set_option maxHeartbeats 1000000 in
theorem keyNear_fn (gr : Nat) (rA : Option Addr) (rc : Nat) (rl : List UInt8) (rq : Nat) (A : Option Addr) (c : Nat) (l : List Int) (w : World) (hrA : Rd w rA (rl.map byteV)) (hro : Off rA (rl.map byteV) [some gr]) (hrl : rl.length ≤ 2000) (hA : Rd w A ((l).map I)) (hoA : Off A ((l).map I) [some gr]) (hM : Mem w w [some gr] [[⟨.slice (bl gr) 1 1, 131, 2, 1, [.slice (rA) ((rl).length) (rc), I (((rq : Nat) : Int))]⟩]]) (hrq : rq ≤ 999999900) (hl : l.length ≤ 2000) (hb : ∀ y ∈ l, 0 ≤ y ∧ y ≤ 99) :
    Does Tryz.prog 68 [.pointer (ofs (bl gr) (0)), .slice (A) ((l).length) (c)] w (fun v w1 => ∃ (k : Int) (q1 : Nat), v = I (k) ∧ (q1 ≤ rq + 10) ∧ Mem w w1 [some gr] [[⟨.slice (bl gr) 1 1, 131, 2, 1, [.slice (rA) ((rl).length) (rc), I (((q1 : Nat) : Int))]⟩]]) := by
  refine Does.n1 Tryz.func68 rfl Tryz.results68 Tryz.ntmps68 rfl ?_
  refine pp 11 [] 8 (fun g8 => ?_) (fun g8 => ?_)
  · refine cq 1 [] (b := pick_fn gr rA rc rl rq _ w (hrA.atR hM hro) hro hrl (hM.fp [0] rfl rfl) q0) (c := ?_)
    rintro _ w1_5 ⟨k1_5, rfl, hk1_5, hR1_5⟩
    have hM1_5 := hM.cl 1 hR1_5
    refine cd 3 [] (fun c12 => ?_) (fun c12 => ?_)
    · refine any 1 [] 12 [] fun w2a hM2a => ?_
      refine aT [0, 1, 2, 3, 7] [] 4 8 ?_ ?_
      · refine cq 0 [] (b := pick_fn gr rA rc rl (rq + 1) _ w2a (hrA.atR hM2a hro) hro hrl (hM2a.fp [0] rfl rfl) q0) (c := ?_)
        rintro _ w2_4 ⟨k2_4, rfl, hk2_4, hR2_4⟩
        have hM2_4 := hM2a.cl 1 hR2_4
        refine os 0 [] [] ?_
        have hx2_5 : (k2_4).toNat < (l).length := (by first | omega | (simp; omega))
        refine av [] [] 5 (a := by exact fun _ hw2 => kixM hx2_5 (hA.atR hM2_4 hoA) (h0 := by omega)) (b := ?_)
        refine av [] [] 6 (a := by exact fun _ hw2 => kldM hx2_5 (hA.atR hw2 hoA)) (b := ?_)
        refine aO [] [] 8 ?_
        refine Lt 0 [] (([0, 0, 1, (-1)]).map I) (fun w2_8 b2_8 hb2_8 hM2_8 => ?_)
        refine os 0 [] [] ?_
        refine aO [] [] 9 ?_
        have hMf2_9 := hM2_8.pk [1, 0]
        refine cq 0 [] (vs := [.pointer (ofs (bl gr) (0)), .slice (bl b2_8) (([0, 0, 1, (-1)]).length) (4)]) (hvs := (by first | rfl | (rw [show ([0, 0, 1, (-1)]).length = 4 from (by first | rfl | (simp; done) | omega | (simp; omega))]; rfl))) (b := one_fn gr rA rc rl ((rq + 1) + 1) (bl b2_8) 4 [0, 0, 1, (-1)] w2_8 (hrA.atR hMf2_9 hro) hro hrl (hMf2_9.rd 1 rfl) (Off.of_ng (hMf2_9.ng 1 0 (by decide) rfl rfl)) (hMf2_9.fp [0] rfl rfl) q0 (by simp) (by simp)) (c := ?_)
        rintro _ w2_9 ⟨k2_9, rfl, hk2_9, hR2_9⟩
        have hM2_9 := hMf2_9.cl 1 hR2_9
        refine os 0 [] [] ?_
        have hbb := hb _ (List.getElem_mem hx2_5)
        have hone : -1 ≤ k2_9 ∧ k2_9 ≤ 1 := by have h9 := hk2_9; simp only [List.mem_cons, List.not_mem_nil, or_false] at h9; omega
        refine av [] [] 10 (a := by exact fun _ hw2 => kadd) (b := ?_)
        refine an [11] [] ?_
        refine E1 1 [] (I (((l)[(k2_4).toNat]'hx2_5 + k2_9))) ?_
        have hZ := (hM2_9.pk [0])
        exact ⟨_, _, (by first | rfl | exact sl_congr (by first | omega | (simp; done) | (simp; omega)) | (simp; done)), (by omega), hZ⟩
      refine Lt 0 [] (([0, 0, 1, (-1)]).map I) (fun w2_8 b2_8 hb2_8 hM2_8 => ?_)
      refine os 0 [] [] ?_
      refine aO [] [] 4 ?_
      have hMf2_4 := hM2_8.pk [1, 0]
      refine cq 0 [] (b := pick_fn gr rA rc rl (rq + 1) _ w2_8 (hrA.atR hMf2_4 hro) hro hrl (hMf2_4.fp [0] rfl rfl) q0) (c := ?_)
      rintro _ w2_4 ⟨k2_4, rfl, hk2_4, hR2_4⟩
      have hM2_4 := hMf2_4.cl 1 hR2_4
      refine os 0 [] [] ?_
      have hx2_5 : (k2_4).toNat < (l).length := (by first | omega | (simp; omega))
      refine av [] [] 5 (a := by exact fun _ hw2 => kixM hx2_5 (hA.atR hM2_4 hoA) (h0 := by omega)) (b := ?_)
      refine av [] [] 6 (a := by exact fun _ hw2 => kldM hx2_5 (hA.atR hw2 hoA)) (b := ?_)
      refine aO [] [] 9 ?_
      refine cq 0 [] (vs := [.pointer (ofs (bl gr) (0)), .slice (bl b2_8) (([0, 0, 1, (-1)]).length) (4)]) (hvs := (by first | rfl | (rw [show ([0, 0, 1, (-1)]).length = 4 from (by first | rfl | (simp; done) | omega | (simp; omega))]; rfl))) (b := one_fn gr rA rc rl ((rq + 1) + 1) (bl b2_8) 4 [0, 0, 1, (-1)] w2_4 (hrA.atR hM2_4 hro) hro hrl (hM2_4.rd 1 rfl) (Off.of_ng (hM2_4.ng 1 0 (by decide) rfl rfl)) (hM2_4.fp [0] rfl rfl) q0 (by simp) (by simp)) (c := ?_)
      rintro _ w2_9 ⟨k2_9, rfl, hk2_9, hR2_9⟩
      have hM2_9 := hM2_4.cl 1 hR2_9
      refine os 0 [] [] ?_
      have hbb := hb _ (List.getElem_mem hx2_5)
      have hone : -1 ≤ k2_9 ∧ k2_9 ≤ 1 := by have h9 := hk2_9; simp only [List.mem_cons, List.not_mem_nil, or_false] at h9; omega
      refine av [] [] 10 (a := by exact fun _ hw2 => kadd) (b := ?_)
      refine an [11] [] ?_
      refine E1 1 [] (I (((l)[(k2_4).toNat]'hx2_5 + k2_9))) ?_
      have hZ := (hM2_9.pk [0])
      exact ⟨_, _, (by first | rfl | exact sl_congr (by first | omega | (simp; done) | (simp; omega)) | (simp; done)), (by omega), hZ⟩
    refine cq 5 [] (b := pick_fn gr rA rc rl (rq + 1) _ w1_5 (hrA.atR hM1_5 hro) hro hrl (hM1_5.fp [0] rfl rfl) q0) (c := ?_)
    rintro _ w3_2 ⟨k3_2, rfl, hk3_2, hR3_2⟩
    have hM3_2 := hM1_5.cl 1 hR3_2
    refine cq 1 [] (b := pick_fn gr rA rc rl ((rq + 1) + 1) _ w3_2 (hrA.atR hM3_2 hro) hro hrl (hM3_2.fp [0] rfl rfl) q0) (c := ?_)
    rintro _ w3_4 ⟨k3_4, rfl, hk3_4, hR3_4⟩
    have hM3_4 := hM3_2.cl 1 hR3_4
    refine Lt 0 [] (([k3_2, k3_4, 0, 99, 100, (-1)]).map I) (fun w3_5 b3_5 hb3_5 hM3_5 => ?_)
    have hMf3_6 := hM3_5.pk [1, 0]
    refine cq 0 [] (vs := [.pointer (ofs (bl gr) (0)), .slice (bl b3_5) (([k3_2, k3_4, 0, 99, 100, (-1)]).length) (6)]) (hvs := (by first | rfl | (rw [show ([k3_2, k3_4, 0, 99, 100, (-1)]).length = 6 from (by first | rfl | (simp; done) | omega | (simp; omega))]; rfl))) (b := one_fn gr rA rc rl (((rq + 1) + 1) + 1) (bl b3_5) 6 [k3_2, k3_4, 0, 99, 100, (-1)] w3_5 (hrA.atR hMf3_6 hro) hro hrl (hMf3_6.rd 1 rfl) (Off.of_ng (hMf3_6.ng 1 0 (by decide) rfl rfl)) (hMf3_6.fp [0] rfl rfl) q0 (by simp) (by simp)) (c := ?_)
    rintro _ w3_6 ⟨k3_6, rfl, hk3_6, hR3_6⟩
    have hM3_6 := hMf3_6.cl 1 hR3_6
    refine E1 3 [] (I (k3_6)) ?_
    have hZ := (hM3_6.pk [0])
    exact ⟨_, _, (by first | rfl | exact sl_congr (by first | omega | (simp; done) | (simp; omega)) | (simp; done)), (by omega), hZ⟩
  refine cq 11 [] (b := pick_fn gr rA rc rl rq _ w (hrA.atR hM hro) hro hrl (hM.fp [0] rfl rfl) q0) (c := ?_)
  rintro _ w3_2 ⟨k3_2, rfl, hk3_2, hR3_2⟩
  have hM3_2 := hM.cl 1 hR3_2
  refine cq 1 [] (b := pick_fn gr rA rc rl (rq + 1) _ w3_2 (hrA.atR hM3_2 hro) hro hrl (hM3_2.fp [0] rfl rfl) q0) (c := ?_)
  rintro _ w3_4 ⟨k3_4, rfl, hk3_4, hR3_4⟩
  have hM3_4 := hM3_2.cl 1 hR3_4
  refine Lt 0 [] (([k3_2, k3_4, 0, 99, 100, (-1)]).map I) (fun w3_5 b3_5 hb3_5 hM3_5 => ?_)
  have hMf3_6 := hM3_5.pk [1, 0]
  refine cq 0 [] (vs := [.pointer (ofs (bl gr) (0)), .slice (bl b3_5) (([k3_2, k3_4, 0, 99, 100, (-1)]).length) (6)]) (hvs := (by first | rfl | (rw [show ([k3_2, k3_4, 0, 99, 100, (-1)]).length = 6 from (by first | rfl | (simp; done) | omega | (simp; omega))]; rfl))) (b := one_fn gr rA rc rl ((rq + 1) + 1) (bl b3_5) 6 [k3_2, k3_4, 0, 99, 100, (-1)] w3_5 (hrA.atR hMf3_6 hro) hro hrl (hMf3_6.rd 1 rfl) (Off.of_ng (hMf3_6.ng 1 0 (by decide) rfl rfl)) (hMf3_6.fp [0] rfl rfl) q0 (by simp) (by simp)) (c := ?_)
  rintro _ w3_6 ⟨k3_6, rfl, hk3_6, hR3_6⟩
  have hM3_6 := hMf3_6.cl 1 hR3_6
  refine E1 3 [] (I (k3_6)) ?_
  have hZ := (hM3_6.pk [0])
  exact ⟨_, _, (by first | rfl | exact sl_congr (by first | omega | (simp; done) | (simp; omega)) | (simp; done)), (by omega), hZ⟩
theorem treeKeys_fn (T : TreeL) (w : World) (hNT : TrN w T) (hs : SzT T) :
    Does Tryz.prog 69 [.agg #[I ((T).root), .slice ((T).A) ((T).l.length) ((T).cp)]] w (fun v w1 => ∃ (L : List Int) (A1 : Option Addr) (c1 : Nat), v = .slice (A1) ((L).length) (c1) ∧ ((L).length ≤ 2000) ∧ (∀ y ∈ L, 0 ≤ y ∧ y ≤ 99) ∧ Mem w w1 [] [[⟨.slice (A1) ((L).length) (c1), 3, 1, ((L).length), (L).map I⟩]]) := by
  have hM : Mem w w [] [] := Mem.refl
  refine Does.n1 Tryz.func69 rfl Tryz.results69 Tryz.ntmps69 rfl ?_
  refine Bx 2 [] fun w0_0 b0_0 hb0_0 hM0_0 => ?_
  refine cp 6 [0] (b := svalidTree_fn T w0_0 (hNT.at hM0_0) q0) (c := fun w1_1 hM1_1 => ?_)
  refine cn 2 [] (fun c5 => ?_) (fun c5 => ?_)
  · refine Lt 2 [] (([]).map I) (fun w2_0 b2_0 hb2_0 hM2_0 => ?_)
    refine E1 3 [] (.slice (bl b2_0) (0) (0)) ?_
    have hq1 : ([] : List Int) = ([] : List Int) := (by first | rfl | simp | (simp; omega))
    have hMn1 := hM2_0.reM 0 hq1 (f := I)
    exact ⟨([] : List Int), bl b2_0, 0, rfl, (by simp), (by simp), (hMn1.pk [0])⟩
  have hv : validT (T).t = true := by simpa using c5
  have hkv := keys_valid hv
  refine cq 4 [0] (b := pairsOf_fn T w1_1 (hNT.at hM1_1) q0 (by exact valid_WK hv)) (c := ?_)
  rintro _ w3_1 ⟨A13_1, c13_1, rfl, hR3_1⟩
  have hM3_1 := hM1_1.cl 0 hR3_1
  have hcr3_1_0 := (hM3_1.cap 0 rfl).1
  refine cq 0 [] (b := skeysOf_fn _ _ _ w3_1 (hM3_1.rd 0 rfl) qo) (c := ?_)
  rintro _ w3_2 ⟨A13_2, c13_2, rfl, hR3_2⟩
  have hM3_2 := hM3_1.cl 0 hR3_2
  have hcr3_2_0 := (hM3_2.cap 0 rfl).1
  refine E1 3 [] (.slice (A13_2) ((keysP (pairsK (T).t)).length) (c13_2)) ?_
  have hq2 : (keysP (pairsK (T).t) : List Int) = (keysP (pairsK (T).t)) := (by first | rfl | simp | (simp; omega))
  have hMn2 := hM3_2.reM 0 hq2
  exact ⟨(keysP (pairsK (T).t)), A13_2, c13_2, (by first | rfl | exact sl_congr (by first | omega | (simp; done) | (simp; omega)) | (simp; done)), (by have := hkv.1; simp only [List.length_map]; omega), hkv.2, (hMn2.pk [0])⟩
theorem someValue_fn (gr : Nat) (rA : Option Addr) (rc : Nat) (rl : List UInt8) (rq : Nat) (w : World) (hrA : Rd w rA (rl.map byteV)) (hro : Off rA (rl.map byteV) [some gr]) (hrl : rl.length ≤ 2000) (hM : Mem w w [some gr] [[⟨.slice (bl gr) 1 1, 131, 2, 1, [.slice (rA) ((rl).length) (rc), I (((rq : Nat) : Int))]⟩]]) (hrq : rq ≤ 999999900) :
    Does Tryz.prog 70 [.pointer (ofs (bl gr) (0))] w (fun v w1 => ∃ (k : Int) (q1 : Nat), v = I (k) ∧ (q1 ≤ rq + 10) ∧ Mem w w1 [some gr] [[⟨.slice (bl gr) 1 1, 131, 2, 1, [.slice (rA) ((rl).length) (rc), I (((q1 : Nat) : Int))]⟩]]) := by
  refine Does.n1 Tryz.func70 rfl Tryz.results70 Tryz.ntmps70 rfl ?_
  refine cq 8 [] (b := pick_fn gr rA rc rl rq _ w (hrA.atR hM hro) hro hrl (hM.fp [0] rfl rfl) q0) (c := ?_)
  rintro _ w1_2 ⟨k1_2, rfl, hk1_2, hR1_2⟩
  have hM1_2 := hM.cl 1 hR1_2
  refine cq 1 [] (b := pick_fn gr rA rc rl (rq + 1) _ w1_2 (hrA.atR hM1_2 hro) hro hrl (hM1_2.fp [0] rfl rfl) q0) (c := ?_)
  rintro _ w1_4 ⟨k1_4, rfl, hk1_4, hR1_4⟩
  have hM1_4 := hM1_2.cl 1 hR1_4
  refine ov 0 [] (s := Vi (-(k1_4))) (a := by exact cv (Ru.neg rfl (by omega)) rfl) (b := ?_)
  refine cq 1 [] (b := pick_fn gr rA rc rl ((rq + 1) + 1) _ w1_4 (hrA.atR hM1_4 hro) hro hrl (hM1_4.fp [0] rfl rfl) q0) (c := ?_)
  rintro _ w1_7 ⟨k1_7, rfl, hk1_7, hR1_7⟩
  have hM1_7 := hM1_4.cl 1 hR1_7
  refine cq 1 [] (b := pick_fn gr rA rc rl (((rq + 1) + 1) + 1) _ w1_7 (hrA.atR hM1_7 hro) hro hrl (hM1_7.fp [0] rfl rfl) q0) (c := ?_)
  rintro _ w1_9 ⟨k1_9, rfl, hk1_9, hR1_9⟩
  have hM1_9 := hM1_7.cl 1 hR1_9
  refine cq 1 [] (b := pick_fn gr rA rc rl ((((rq + 1) + 1) + 1) + 1) _ w1_9 (hrA.atR hM1_9 hro) hro hrl (hM1_9.fp [0] rfl rfl) q0) (c := ?_)
  rintro _ w1_11 ⟨k1_11, rfl, hk1_11, hR1_11⟩
  have hM1_11 := hM1_9.cl 1 hR1_11
  refine Lt 0 [] (([k1_2, -(k1_4), 0, 1000, (-1000), k1_7, k1_9, 1001, k1_11]).map I) (fun w1_12 b1_12 hb1_12 hM1_12 => ?_)
  have hMf1_13 := hM1_12.pk [1, 0]
  refine cq 0 [] (vs := [.pointer (ofs (bl gr) (0)), .slice (bl b1_12) (([k1_2, -(k1_4), 0, 1000, (-1000), k1_7, k1_9, 1001, k1_11]).length) (9)]) (hvs := (by first | rfl | (rw [show ([k1_2, -(k1_4), 0, 1000, (-1000), k1_7, k1_9, 1001, k1_11]).length = 9 from (by first | rfl | (simp; done) | omega | (simp; omega))]; rfl))) (b := one_fn gr rA rc rl (((((rq + 1) + 1) + 1) + 1) + 1) (bl b1_12) 9 [k1_2, -(k1_4), 0, 1000, (-1000), k1_7, k1_9, 1001, k1_11] w1_12 (hrA.atR hMf1_13 hro) hro hrl (hMf1_13.rd 1 rfl) (Off.of_ng (hMf1_13.ng 1 0 (by decide) rfl rfl)) (hMf1_13.fp [0] rfl rfl) q0 (by simp) (by simp)) (c := ?_)
  rintro _ w1_13 ⟨k1_13, rfl, hk1_13, hR1_13⟩
  have hM1_13 := hMf1_13.cl 1 hR1_13
  refine E1 3 [] (I (k1_13)) ?_
  have hZ := (hM1_13.pk [0])
  exact ⟨_, _, (by first | rfl | exact sl_congr (by first | omega | (simp; done) | (simp; omega)) | (simp; done)), (by omega), hZ⟩
set_option maxHeartbeats 2000000 in
theorem DrawPutKey_fn (A : Option Addr) (c : Nat) (l : List UInt8) (w : World) (hA : Rd w A ((l).map byteV)) (hl : l.length ≤ 1048576) (hc : l.length ≤ c) :
    Does Tryz.prog 28 [.slice (A) ((l).length) (c)] w (fun v w1 => ∃ (r1 : Int) (L1 : List PgL) (A1 : Option Addr) (c1 : Nat) (G : List FE) (x : PairT), v = .tuple #[.agg #[I (r1), .slice (A1) ((L1).length) (c1)], .agg #[I ((x).key), I ((x).val)]] ∧ (SzT ⟨r1, A1, c1, L1⟩) ∧ ((L1).length ≤ 64) ∧ (∀ w2, (∀ f ∈ G, f.own w2) → TrN w2 ⟨r1, A1, c1, L1⟩) ∧ Mem w w1 [] [G]) := by
  have hM : Mem w w [] [] := Mem.refl
  refine Does.nG (rs := [.cell 2 25, .cell 3 27]) Tryz.func28 rfl Tryz.results28 Tryz.ntmps28 rfl ?_
  refine Al 2 [] fun w0_0 b0_0 hb0_0 hM0_0 => ?_
  refine Al 0 [] fun w0_1 b0_1 hb0_1 hM0_1 => ?_
  refine cq 4 [] (b := newReader_fn _ _ _ w0_1 (hA.at hM0_1) q0 q0) (c := ?_)
  rintro _ w1_1 ⟨gr1_1, l11_1, rfl, hl11_1, hlen1_1, hR1_1⟩
  have hM1_1 := hM0_1.cl 0 hR1_1
  have hrA : Rd w A (List.map byteV l11_1) := by rcases hl11_1 with h | h <;> rw [h]; exact hA; exact rd_take1 hA
  have hrl := hlen1_1
  refine cq 5 [] (b := anyTree_fn gr1_1 A c l11_1 0 w1_1 (hrA.at hM1_1) (Mem.ng_old hM1_1 hrA 0 rfl) hrl (hM1_1.fp [0] rfl rfl) q0) (c := ?_)
  rintro _ w2_1 ⟨r12_1, L12_1, A12_1, c12_1, q12_1, G2_1, rfl, hz2_1, hll2_1, hq2_1, hG2_1, hR2_1⟩
  have hM2_1 := hM1_1.cl 1 hR2_1
  refine Al 0 [] fun w2_2 b2_2 hb2_2 hM2_2 => ?_
  refine Sb 0 [] 0 fun w2_3 hM2_3 => ?_
  refine cq 5 [0] (b := treeKeys_fn (⟨r12_1, A12_1, c12_1, L12_1⟩ : TreeL) w2_3 ⟨(hG2_1 _ (Mem.gownT hM2_3 2 rfl)).1, (hG2_1 _ (Mem.gownT hM2_3 2 rfl)).2⟩ (by exact hz2_1)) (c := ?_)
  rintro _ w3_2 ⟨L3_2, A13_2, c13_2, rfl, hll3_2, hlb3_2, hR3_2⟩
  have hM3_2 := hM2_3.cl 0 hR3_2
  have hcr3_2_0 := (hM3_2.cap 0 rfl).1
  have hMf3_3 := hM3_2.pk [2, 0, 1, 3, 4, 5]
  refine cq 0 [] (b := keyNear_fn gr1_1 A c l11_1 q12_1 _ _ _ w3_2 (hrA.at hMf3_3) (Mem.ng_old hMf3_3 hrA 0 rfl) hrl (hMf3_3.rd 1 rfl) (Off.of_ng (hMf3_3.ng 1 0 (by decide) rfl rfl)) (hMf3_3.fp [0] rfl rfl) q0 (by exact hll3_2) (by exact hlb3_2)) (c := ?_)
  rintro _ w3_3 ⟨k3_3, q13_3, rfl, hq3_3, hR3_3⟩
  have hM3_3 := hMf3_3.cl 1 hR3_3
  refine any 3 [] 7 [1, 2, 3] fun w4a hM4a => ?_
  refine aO [0, 1, 2] [1] 3 ?_
  refine cq 0 [] (b := someValue_fn gr1_1 A c l11_1 q13_3 w4a (hrA.at hM4a) (Mem.ng_old hM4a hrA 0 rfl) hrl (hM4a.fp [0] rfl rfl) q0) (c := ?_)
  rintro _ w4_3 ⟨k4_3, q14_3, rfl, hq4_3, hR4_3⟩
  have hM4_3 := hM4a.cl 1 hR4_3
  refine os 0 [] [1, 2, 3] ?_
  refine aO [4] [] 5 ?_
  refine Sb 0 [] 5 fun w4_5 hM4_5 => ?_
  refine os 0 [] [1, 2, 3] ?_
  refine aO [] [] 6 ?_
  refine Sb 0 [] 4 fun w4_6 hM4_6 => ?_
  refine os 0 [] [1, 2, 3] ?_
  refine an [] [] ?_
  refine EG 1 [] ?_
  refine PG (vs := [.agg #[I (r12_1), .slice (A12_1) ((L12_1).length) (c12_1)], .agg #[I (k3_3), I (k4_3)]]) (ResV.cell (l := [I (r12_1), .slice (A12_1) ((L12_1).length) (c12_1)]) rfl (mem_blk (i := 5) (j := 0) hM4_6 rfl rfl) el25 rfl (ResV.cell (l := [I (k3_3), I (k4_3)]) rfl (mem_blk (i := 4) (j := 0) hM4_6 rfl rfl) el27 rfl ResV.nil)) ?_
  exact ⟨r12_1, L12_1, A12_1, c12_1, G2_1, (⟨k3_3, k4_3⟩ : PairT), (by first | rfl | exact sl_congr (by first | omega | (simp; done) | (simp; omega)) | (simp; done)), hz2_1, hll2_1, hG2_1, (hM4_6.pk [3])⟩
theorem DrawChangedPages_fn (A : Option Addr) (c : Nat) (l : List UInt8) (w : World) (hA : Rd w A ((l).map byteV)) (hl : l.length ≤ 1048576) (hc : l.length ≤ c) :
    Does Tryz.prog 10 [.slice (A) ((l).length) (c)] w (fun v w1 => ∃ (r1 : Int) (L1 : List PgL) (A1 : Option Addr) (c1 : Nat) (G : List FE) (x : PairT), v = .tuple #[.agg #[I (r1), .slice (A1) ((L1).length) (c1)], .agg #[I ((x).key), I ((x).val)]] ∧ (SzT ⟨r1, A1, c1, L1⟩) ∧ ((L1).length ≤ 64) ∧ (∀ w2, (∀ f ∈ G, f.own w2) → TrN w2 ⟨r1, A1, c1, L1⟩) ∧ Mem w w1 [] [G]) := by
  have hM : Mem w w [] [] := Mem.refl
  refine Does.nG (rs := [.cell 2 25, .cell 3 27]) Tryz.func10 rfl Tryz.results10 Tryz.ntmps10 rfl ?_
  refine Al 2 [] fun w0_0 b0_0 hb0_0 hM0_0 => ?_
  refine Al 0 [] fun w0_1 b0_1 hb0_1 hM0_1 => ?_
  refine cq 4 [] (b := DrawPutKey_fn _ _ _ w0_1 (hA.at hM0_1) q0 q0) (c := ?_)
  rintro _ w1_1 ⟨r11_1, L11_1, A11_1, c11_1, G1_1, x1_1, rfl, hz1_1, hll1_1, hG1_1, hR1_1⟩
  have hM1_1 := hM0_1.cl 0 hR1_1
  refine Sb 2 [] 2 fun w1_4 hM1_4 => ?_
  refine Sb 0 [] 1 fun w1_5 hM1_5 => ?_
  refine EG 2 [] ?_
  refine PG (vs := [.agg #[I (r11_1), .slice (A11_1) ((L11_1).length) (c11_1)], .agg #[I ((x1_1).key), I ((x1_1).val)]]) (ResV.cell (l := [I (r11_1), .slice (A11_1) ((L11_1).length) (c11_1)]) rfl (mem_blk (i := 2) (j := 0) hM1_5 rfl rfl) el25 rfl (ResV.cell (l := [I ((x1_1).key), I ((x1_1).val)]) rfl (mem_blk (i := 1) (j := 0) hM1_5 rfl rfl) el27 rfl ResV.nil)) ?_
  exact ⟨r11_1, L11_1, A11_1, c11_1, G1_1, x1_1, (by first | rfl | exact sl_congr (by first | omega | (simp; done) | (simp; omega)) | (simp; done)), hz1_1, hll1_1, hG1_1, (hM1_5.pk [0])⟩
end Go.Proofs.YtemejgglbhjodaaGreatDoor
end
