/- Own layer, part 9: plain theorems on the walk of this program's functions and on what they compute; no conditions. -/
import Derived.Test.YtemejgglbhjodaaDoorP7
set_option linter.unusedVariables false
set_option linter.unusedSimpArgs false
section
namespace Go.Proofs.YtemejgglbhjodaaDoor
open Go.Px
set_option maxHeartbeats 8000000 in
theorem renumber_fn (T : TreeL) (w : World) (hNT : TrN w T) (hs : SzT T) (hv : validT (T).t = true) :
    Does Tryd.prog 33 [.agg #[I ((T).root), .slice ((T).A) ((T).l.length) ((T).cp)]] w (fun v w1 => ∃ (L1 : List PgL) (A1 : Option Addr) (c1 : Nat), v = .agg #[I (0), .slice (A1) ((L1).length) (c1)] ∧ ((⟨0, tsG L1⟩ : TrT) = renF (T).t) ∧ Mem w w1 [] [[⟨.slice (A1) ((L1).length) (c1), 39, 3, ((L1).length), (L1).flatMap encPg⟩], (L1).flatMap (pgF 3)]) := by
  have hM : Mem w w [] [] := Mem.refl
  refine Does.nG (rs := [.cell 2 25]) Tryd.func33 rfl Tryd.results33 Tryd.ntmps33 rfl ?_
  obtain ⟨_, hon, hol, hoi, hor⟩ := ord_yes hv
  rw [pages_len] at hol
  have hl16 := valid_len hv
  rw [pages_len] at hl16
  have hwk := valid_WK hv
  have hob : ∀ k, (h : k < (ordK (T).t).length) → 0 ≤ (ordK (T).t)[k] ∧ (ordK (T).t)[k] < ((T).l.length : Int) := fun k h => inT_t.1 (hoi _ (List.getElem_mem h)).1
  refine Bx 2 [] fun w0_0 b0_0 hb0_0 hM0_0 => ?_
  refine Al 0 [] fun w0_1 b0_1 hb0_1 hM0_1 => ?_
  refine Lt 3 [] (([]).flatMap encPg) (fun w1_0 b1_0 hb1_0 hM1_0 => ?_)
  refine Al 1 [] fun w1_2 b1_2 hb1_2 hM1_2 => ?_
  refine Sb 0 [] 0 fun w1_3 hM1_3 => ?_
  have hMk1 := Mem.gnil (e := 3) hM1_3
  refine cq 6 [4, 4] (b := walkW_fn 3 T _ w1_3 (hNT.at hMk1) q0 (by exact hwk.2.2) (by exact hwk.1) qo) (c := ?_)
  rintro _ w2_3 ⟨A12_3, c12_3, rfl, hR2_3⟩
  have hM2_3 := hMk1.cl 0 hR2_3
  have hcr2_3_0 := (hM2_3.cap 0 rfl).1
  have hq2 : ((subT (T).t 3 ((T).root)) : List Int) = (ordK (T).t) := rfl
  have hMn2 := hM2_3.reM 0 hq2
  have hle3 : (subT (T).t 3 (T).root).length = (ordK (T).t).length := rfl
  have hq3 : ([] : List PgL) = ([] : List PgL) := (by first | rfl | simp | (simp; omega))
  have hMn3 := hMn2.reF 3 hq3 (f := encPg)
  refine lp4 8 [] (fun (k : Nat) (Ch : List PgL) (A2 : Option Addr) (c2 : Nat) => ([(5, Vi (((k : Nat) : Int)))] : List (Nat × SV))) (fun (k : Nat) (Ch : List PgL) (A2 : Option Addr) (c2 : Nat) => (k ≤ (ordK (T).t).length) ∧ (tsG Ch = (renF (T).t).pages.take k)) (fun (k : Nat) (Ch : List PgL) (A2 : Option Addr) (c2 : Nat) => [(Ch).flatMap (pgF 3), [⟨.slice (bl b1_2) 1 1, 25, 2, 1, [I (0), .slice (A2) ((Ch).length) (c2)]⟩], [⟨.slice (A2) ((Ch).length) (c2), 39, 3, ((Ch).length), (Ch).flatMap encPg⟩]]) (fun (k : Nat) (Ch : List PgL) (A2 : Option Addr) (c2 : Nat) => (ordK (T).t).length - k) [1, 2, 3, 4] [1, 2, 3] [0, 4, 5] 0 (([] : List PgL) : List PgL) (bl b1_0) 0 (fun k Ch A2 c2 σ w_l4 hI hM_l4 => ?_) (h0 := ⟨(Nat.zero_le _), rfl⟩)
  obtain ⟨hi0_l4, hi1_l4⟩ := hI
  have hcl2_l4 := (hM_l4.cap 2 rfl).1
  have hcl3_l4 := (hM_l4.cap 3 rfl).1
  have hCl := ren_clen hi1_l4 hi0_l4
  refine cd 8 [] (fun c17 => ?_) (fun c17 => ?_)
  · obtain ⟨x9, hx9⟩ : ∃ z, z = (ordK (T).t)[k]'(by omega) := ⟨_, rfl⟩
    have hxb := hob k (by omega)
    rw [← hx9] at hxb
    have hxm : x9 ∈ (ordK (T).t) := by rw [hx9]; exact List.getElem_mem _
    have hjx : (x9).toNat < (T).l.length := by omega
    have hc6 : (((T).l[(x9).toNat]'hjx).c.l).length ≤ 6 := by have h9 := (small_at hwk.2.2 (hoi _ hxm).1).2.1; rwa [gP_at rfl hjx] at h9
    refine ct7 3 [] (fun (bx6 : Nat) (P6_0 : Option Addr) (p6_0 : Nat) (P6_1 : Option Addr) (p6_1 : Nat) (P6_2 : Option Addr) (p6_2 : Nat) => ([(6, Vp (bl bx6) (0))] : List (Nat × SV))) (fun (bx6 : Nat) (P6_0 : Option Addr) (p6_0 : Nat) (P6_1 : Option Addr) (p6_1 : Nat) (P6_2 : Option Addr) (p6_2 : Nat) => True) (fun (bx6 : Nat) (P6_0 : Option Addr) (p6_0 : Nat) (P6_1 : Option Addr) (p6_1 : Nat) (P6_2 : Option Addr) (p6_2 : Nat) => [[⟨.slice (bl bx6) 1 1, 39, 3, 1, [.slice (P6_0) ((((T).l[(x9).toNat]'hjx).k.l).length) (p6_0), .slice (P6_1) ((((T).l[(x9).toNat]'hjx).c.l).length) (p6_1), .slice (P6_2) ((((T).l[(x9).toNat]'hjx).v.l).length) (p6_2)]⟩], [⟨.slice (P6_0) ((((T).l[(x9).toNat]'hjx).k.l).length) (p6_0), 3, 1, ((((T).l[(x9).toNat]'hjx).k.l).length), (((T).l[(x9).toNat]'hjx).k.l).map I⟩], [⟨.slice (P6_1) ((((T).l[(x9).toNat]'hjx).c.l).length) (p6_1), 3, 1, ((((T).l[(x9).toNat]'hjx).c.l).length), (((T).l[(x9).toNat]'hjx).c.l).map I⟩], [⟨.slice (P6_2) ((((T).l[(x9).toNat]'hjx).v.l).length) (p6_2), 3, 1, ((((T).l[(x9).toNat]'hjx).v.l).length), (((T).l[(x9).toNat]'hjx).v.l).map I⟩]]) [1, 2, 3, 4, 5] [0, 1, 2, 3, 4, 5] ?_ (fun bx6 P6_0 p6_0 P6_1 p6_1 P6_2 p6_2 σ w_r6 hI hM_r6 => ?_)
    · refine any 0 [] 11 [0, 1, 2, 3, 4, 5] fun w6a hM6a => ?_
      have hx6_4 : k < ((ordK (T).t)).length := (by omega)
      refine av [0, 1, 2, 3] [5] 4 (a := by exact fun _ hw2 => kixM hx6_4 (hM6a.rd 3 rfl) (h0 := by omega)) (b := ?_)
      refine av [] [] 5 (s := Vi (x9)) (a := by exact fun w2 hw2 => cv (Ru.congr (v := I (((ordK (T).t))[k]'hx6_4)) (v' := I (x9)) (Ru.load1 el3 rfl (ldm (hw2.rd 3 rfl) hx6_4)) ((I_congr hx9.symm))) rfl) (b := ?_)
      have hx6_6 : (x9).toNat < ((T).l).length := (by omega)
      refine av [] [] 6 (a := by exact fun _ hw2 => kixF hx6_6 (hNT.at hM6a).1 (h0 := by omega)) (b := ?_)
      refine aT [] [] 7 9 ?_ ?_
      · refine ov 0 [] (a := kldN hx6_6 (hNT.at hM6a).1) (b := ?_)
        refine os 0 [] [0, 1, 2, 3, 4, 5] ?_
        refine aT [] [] 8 9 ?_ ?_
        · refine cq 0 [] (b := copyPage_fn (((T).l)[(x9).toNat]'hx6_6) w6a (((hNT.at hM6a)).2.get hx6_6) (by exact hs.at hx6_6)) (c := ?_)
          rintro _ w6_8 ⟨A16_8, c16_8, A26_8, c26_8, A36_8, c36_8, rfl, hR6_8⟩
          have hM6_8 := hM6a.cl 0 hR6_8
          have hcr6_8_0 := (hM6_8.cap 0 rfl).1
          have hcr6_8_1 := (hM6_8.cap 1 rfl).1
          have hcr6_8_2 := (hM6_8.cap 2 rfl).1
          refine os 0 [] [3, 4, 5, 6, 7, 8] ?_
          refine aO [] [] 9 ?_
          refine Al 0 [] fun w6_9 b6_9 hb6_9 hM6_9 => ?_
          refine os 0 [] [4, 5, 6, 7, 8, 9] ?_
          refine aO [] [] 10 ?_
          refine Sb 0 [] 0 fun w6_10 hM6_10 => ?_
          refine os 0 [] [4, 5, 6, 7, 8, 9] ?_
          refine an [] [] ?_
          have hq5 : (((((T).l)[(x9).toNat]'hx6_6)).k.l : List Int) = ((T).l[(x9).toNat]'hjx).k.l := (by first | rfl | simp | (simp; omega))
          have hMn5 := hM6_10.reM 1 hq5
          have hq6 : (((((T).l)[(x9).toNat]'hx6_6)).c.l : List Int) = ((T).l[(x9).toNat]'hjx).c.l := (by first | rfl | simp | (simp; omega))
          have hMn6 := hMn5.reM 2 hq6
          have hq7 : (((((T).l)[(x9).toNat]'hx6_6)).v.l : List Int) = ((T).l[(x9).toNat]'hjx).v.l := (by first | rfl | simp | (simp; omega))
          have hMn7 := hMn6.reM 3 hq7
          exact ce7 0 [] b6_9 A16_8 c16_8 A26_8 c26_8 A36_8 c36_8 [0, 1, 2, 3, 4, 5, 6, 7, 8, 9] (h := by exact trivial)
        refine Al 0 [] fun w6_9 b6_9 hb6_9 hM6_9 => ?_
        refine os 0 [] [1, 2, 3, 4, 5, 6] ?_
        refine aO [] [] 8 ?_
        refine cq 0 [] (b := copyPage_fn (((T).l)[(x9).toNat]'hx6_6) w6_9 (((hNT.at hM6_9)).2.get hx6_6) (by exact hs.at hx6_6)) (c := ?_)
        rintro _ w6_8 ⟨A16_8, c16_8, A26_8, c26_8, A36_8, c36_8, rfl, hR6_8⟩
        have hM6_8 := hM6_9.cl 0 hR6_8
        have hcr6_8_0 := (hM6_8.cap 0 rfl).1
        have hcr6_8_1 := (hM6_8.cap 1 rfl).1
        have hcr6_8_2 := (hM6_8.cap 2 rfl).1
        refine os 0 [] [4, 5, 6, 7, 8, 9] ?_
        refine aO [] [] 10 ?_
        refine Sb 0 [] 3 fun w6_10 hM6_10 => ?_
        refine os 0 [] [4, 5, 6, 7, 8, 9] ?_
        refine an [] [] ?_
        have hq8 : (((((T).l)[(x9).toNat]'hx6_6)).k.l : List Int) = ((T).l[(x9).toNat]'hjx).k.l := (by first | rfl | simp | (simp; omega))
        have hMn8 := hM6_10.reM 0 hq8
        have hq9 : (((((T).l)[(x9).toNat]'hx6_6)).c.l : List Int) = ((T).l[(x9).toNat]'hjx).c.l := (by first | rfl | simp | (simp; omega))
        have hMn9 := hMn8.reM 1 hq9
        have hq10 : (((((T).l)[(x9).toNat]'hx6_6)).v.l : List Int) = ((T).l[(x9).toNat]'hjx).v.l := (by first | rfl | simp | (simp; omega))
        have hMn10 := hMn9.reM 2 hq10
        exact ce7 0 [] b6_9 A16_8 c16_8 A26_8 c26_8 A36_8 c36_8 [3, 0, 1, 2, 4, 5, 6, 7, 8, 9] (h := by exact trivial)
      refine Al 0 [] fun w6_9 b6_9 hb6_9 hM6_9 => ?_
      refine os 0 [] [1, 2, 3, 4, 5, 6] ?_
      refine aO [] [] 7 ?_
      refine ov 0 [] (a := kldN hx6_6 (hNT.at hM6_9).1) (b := ?_)
      refine os 0 [] [1, 2, 3, 4, 5, 6] ?_
      refine aO [] [] 8 ?_
      refine cq 0 [] (b := copyPage_fn (((T).l)[(x9).toNat]'hx6_6) w6_9 (((hNT.at hM6_9)).2.get hx6_6) (by exact hs.at hx6_6)) (c := ?_)
      rintro _ w6_8 ⟨A16_8, c16_8, A26_8, c26_8, A36_8, c36_8, rfl, hR6_8⟩
      have hM6_8 := hM6_9.cl 0 hR6_8
      have hcr6_8_0 := (hM6_8.cap 0 rfl).1
      have hcr6_8_1 := (hM6_8.cap 1 rfl).1
      have hcr6_8_2 := (hM6_8.cap 2 rfl).1
      refine os 0 [] [4, 5, 6, 7, 8, 9] ?_
      refine aO [] [] 10 ?_
      refine Sb 0 [] 3 fun w6_10 hM6_10 => ?_
      refine os 0 [] [4, 5, 6, 7, 8, 9] ?_
      refine an [] [] ?_
      have hq11 : (((((T).l)[(x9).toNat]'hx6_6)).k.l : List Int) = ((T).l[(x9).toNat]'hjx).k.l := (by first | rfl | simp | (simp; omega))
      have hMn11 := hM6_10.reM 0 hq11
      have hq12 : (((((T).l)[(x9).toNat]'hx6_6)).c.l : List Int) = ((T).l[(x9).toNat]'hjx).c.l := (by first | rfl | simp | (simp; omega))
      have hMn12 := hMn11.reM 1 hq12
      have hq13 : (((((T).l)[(x9).toNat]'hx6_6)).v.l : List Int) = ((T).l[(x9).toNat]'hjx).v.l := (by first | rfl | simp | (simp; omega))
      have hMn13 := hMn12.reM 2 hq13
      exact ce7 0 [] b6_9 A16_8 c16_8 A26_8 c26_8 A36_8 c36_8 [3, 0, 1, 2, 4, 5, 6, 7, 8, 9] (h := by exact trivial)
    have hcl1_r6 := (hM_r6.cap 1 rfl).1
    have hcl2_r6 := (hM_r6.cap 2 rfl).1
    have hcl3_r6 := (hM_r6.cap 3 rfl).1
    have hcl6_r6 := (hM_r6.cap 6 rfl).1
    have hcl7_r6 := (hM_r6.cap 7 rfl).1
    have hq14 : (((T).l[(x9).toNat]'hjx).c.l : List Int) = ((((T).l[(x9).toNat]'hjx).c.l).take 0).map (plcI (ordK (T).t)) ++ (((T).l[(x9).toNat]'hjx).c.l).drop 0 := (by simp)
    have hMn14 := hM_r6.reM 2 hq14
    have hMn15 := hMn14.reB 0 1 (show (((T).l[(x9).toNat]'hjx).c.l).length = (((((T).l[(x9).toNat]'hjx).c.l).take 0).map (plcI (ordK (T).t)) ++ (((T).l[(x9).toNat]'hjx).c.l).drop 0).length from congrArg List.length hq14)
    refine lp3 6 [] (fun (i : Nat) (A3 : Option Addr) (c3 : Nat) => ([(7, Vi (((i : Nat) : Int)))] : List (Nat × SV))) (fun (i : Nat) (A3 : Option Addr) (c3 : Nat) => (i ≤ (((T).l[(x9).toNat]'hjx).c.l).length)) (fun (i : Nat) (A3 : Option Addr) (c3 : Nat) => [[⟨.slice (bl bx6) 1 1, 39, 3, 1, [.slice (P6_0) ((((T).l[(x9).toNat]'hjx).k.l).length) (p6_0), .slice (A3) ((((((T).l[(x9).toNat]'hjx).c.l).take i).map (plcI (ordK (T).t)) ++ (((T).l[(x9).toNat]'hjx).c.l).drop i).length) (c3), .slice (P6_2) ((((T).l[(x9).toNat]'hjx).v.l).length) (p6_2)]⟩], [⟨.slice (A3) ((((((T).l[(x9).toNat]'hjx).c.l).take i).map (plcI (ordK (T).t)) ++ (((T).l[(x9).toNat]'hjx).c.l).drop i).length) (c3), 3, 1, ((((((T).l[(x9).toNat]'hjx).c.l).take i).map (plcI (ordK (T).t)) ++ (((T).l[(x9).toNat]'hjx).c.l).drop i).length), (((((T).l[(x9).toNat]'hjx).c.l).take i).map (plcI (ordK (T).t)) ++ (((T).l[(x9).toNat]'hjx).c.l).drop i).map I⟩]]) (fun (i : Nat) (A3 : Option Addr) (c3 : Nat) => (((T).l[(x9).toNat]'hjx).c.l).length - i) [1, 2, 3, 4, 5, 6] [0, 2] [1, 3, 4, 5, 6, 7, 8, 9] 0 P6_1 p6_1 (fun i A3 c3 σ w_l8 hI hM_l8 => ?_) (h0 := (Nat.zero_le _))
    have hi0_l8 := hI
    have hcl1_l8 := (hM_l8.cap 1 rfl).1
    have hcl2_l8 := (hM_l8.cap 2 rfl).1
    have hcl3_l8 := (hM_l8.cap 3 rfl).1
    have hcl6_l8 := (hM_l8.cap 6 rfl).1
    have hcl7_l8 := (hM_l8.cap 7 rfl).1
    have hml := mid_len (f := (plcI (ordK (T).t))) (l := ((T).l[(x9).toNat]'hjx).c.l) (k := i)
    refine cd 9 [0] (fun c33 => ?_) (fun c33 => ?_)
    · have hi2 : i < (((T).l[(x9).toNat]'hjx).c.l).length := by omega
      obtain ⟨z9, hz9⟩ : ∃ z, z = (((T).l[(x9).toNat]'hjx).c.l)[i]'hi2 := ⟨_, rfl⟩
      refine any 3 [] 12 [0, 2, 3, 4, 5, 6, 7, 8, 9] fun w10a hM10a => ?_
      have hx10_7 : i < (((((T).l[(x9).toNat]'hjx).c.l).take i).map (plcI (ordK (T).t)) ++ (((T).l[(x9).toNat]'hjx).c.l).drop i).length := (by rw [hml]; exact hi2)
      refine av [0, 1, 2, 3, 4, 5, 6] [0, 0] 7 (a := by exact fun _ hw2 => kixM hx10_7 (hM10a.rd 1 rfl) (h0 := by omega)) (b := ?_)
      refine aO [] [] 8 ?_
      refine ov 0 [] (s := Vi (z9)) (a := by exact cv (Ru.congr (v := I ((((((T).l[(x9).toNat]'hjx).c.l).take i).map (plcI (ordK (T).t)) ++ (((T).l[(x9).toNat]'hjx).c.l).drop i)[i]'hx10_7)) (v' := I (z9)) (Ru.load1 el3 rfl (ldm (hM10a.rd 1 rfl) hx10_7)) ((I_congr (by rw [hz9]; exact mid_get hi2 _)))) rfl) (b := ?_)
      refine os 0 [] [0, 2, 3, 4, 5, 6, 7, 8, 9] ?_
      refine aO [] [] 9 ?_
      refine cp 0 [] (b := placeOf_fn _ _ _ _ w10a (hM10a.rd 7 rfl) qo) (c := fun w10_9 hM10_9 => ?_)
      refine os 0 [] [0, 2, 3, 4, 5, 6, 7, 8, 9] ?_
      have hx10_10 : i < (((((T).l[(x9).toNat]'hjx).c.l).take i).map (plcI (ordK (T).t)) ++ (((T).l[(x9).toNat]'hjx).c.l).drop i).length := (by rw [hml]; exact hi2)
      refine av [] [] 10 (a := by exact fun _ hw2 => kixM hx10_10 (hM10_9.rd 1 rfl) (h0 := by omega)) (b := ?_)
      refine aO [] [] 11 ?_
      refine sM 0 [] 1 hx10_10 fun w10_11 hM10_11 => ?_
      refine os 0 [] [0, 2, 3, 4, 5, 6, 7, 8, 9] ?_
      refine an [] [] ?_
      refine ov 2 [] (a := kaddN (i + 1)) (b := ?_)
      have hq16 : ((((((T).l[(x9).toNat]'hjx).c.l).take i).map (plcI (ordK (T).t)) ++ (((T).l[(x9).toNat]'hjx).c.l).drop i).set (i) (plcI (ordK (T).t) z9) : List Int) = ((((T).l[(x9).toNat]'hjx).c.l).take (i + 1)).map (plcI (ordK (T).t)) ++ (((T).l[(x9).toNat]'hjx).c.l).drop (i + 1) := (by rw [hz9]; exact mid_set hi2)
      have hMn16 := hM10_11.reM 1 hq16
      have hMn17 := hMn16.reB 0 1 (show (((((T).l[(x9).toNat]'hjx).c.l).take i).map (plcI (ordK (T).t)) ++ (((T).l[(x9).toNat]'hjx).c.l).drop i).length = (((((T).l[(x9).toNat]'hjx).c.l).take (i + 1)).map (plcI (ordK (T).t)) ++ (((T).l[(x9).toNat]'hjx).c.l).drop (i + 1)).length from (by simp only [mid_len]))
      exact le3 2 [] (i + 1) A3 c3 [0, 1, 2, 3, 4, 5, 6, 7, 8, 9] (h := by exact (by (try dsimp only); omega))
    have hq18 : (((((T).l[(x9).toNat]'hjx).c.l).take i).map (plcI (ordK (T).t)) ++ (((T).l[(x9).toNat]'hjx).c.l).drop i : List Int) = (((T).l[(x9).toNat]'hjx).c.l).map (plcI (ordK (T).t)) := (mid_all (by omega))
    have hMn18 := hM_l8.reM 1 hq18
    have hMn19 := hMn18.reB 0 1 (show (((((T).l[(x9).toNat]'hjx).c.l).take i).map (plcI (ordK (T).t)) ++ (((T).l[(x9).toNat]'hjx).c.l).drop i).length = ((((T).l[(x9).toNat]'hjx).c.l).map (plcI (ordK (T).t))).length from congrArg List.length hq18)
    let p1_ : PgL := (⟨⟨P6_0, p6_0, ((T).l[(x9).toNat]'hjx).k.l⟩, ⟨A3, c3, (((T).l[(x9).toNat]'hjx).c.l).map (plcI (ordK (T).t))⟩, ⟨P6_2, p6_2, ((T).l[(x9).toNat]'hjx).v.l⟩⟩ : PgL)
    refine Lt 5 [5, 0] (([p1_]).flatMap encPg) (fun w11_3 b11_3 hb11_3 hM11_3 => ?_)
    refine aF 0 [] 7 (hM11_3.rd 0 rfl) (fun w11_4 A11_4 c11_4 hc11_4 hM11_4 => ?_)
    refine Sb 1 [] 6 fun w11_6 hM11_6 => ?_
    have hMk20 := Mem.gapp (k := ⟨P6_0, p6_0, ((T).l[(x9).toNat]'hjx).k.l⟩) (c := ⟨A3, c3, (((T).l[(x9).toNat]'hjx).c.l).map (plcI (ordK (T).t))⟩) (v := ⟨P6_2, p6_2, ((T).l[(x9).toNat]'hjx).v.l⟩) (hM11_6.pk [5, 3, 2, 4, 0, 1, 6, 7, 8, 9, 10])
    refine ov 3 [] (a := kaddN (k + 1)) (b := ?_)
    have hq21 : (Ch ++ [p1_] : List PgL) = (Ch ++ [p1_]) := (by first | rfl | simp | (simp; omega))
    have hMn21 := hMk20.reF 4 hq21
    exact le4 2 [] (k + 1) (Ch ++ [p1_]) A11_4 c11_4 [0, 3, 4, 5, 6, 7] (h := by exact ⟨(by (try dsimp only); omega), (ren_snoc hi1_l4 (by omega) hx9 (by rw [gP_at rfl hjx]; rfl))⟩)
  refine Sb 4 [1] 4 fun w12_1 hM12_1 => ?_
  refine EG 2 [] ?_
  refine PG (vs := [.agg #[I (0), .slice (A2) ((Ch).length) (c2)]]) (ResV.cell (l := [I (0), .slice (A2) ((Ch).length) (c2)]) rfl (mem_blk (i := 4) (j := 0) hM12_1 rfl rfl) el25 rfl ResV.nil) ?_
  exact ⟨Ch, A2, c2, (by first | rfl | exact sl_congr (by first | omega | (simp; done) | (simp; omega)) | (simp; done)), (ren_all hi1_l4 (by omega)), (hM12_1.pk [2, 0])⟩
theorem sRenumberTree_fn (T : TreeL) (w : World) (hNT : TrN w T) (hs : SzT T) :
    Does Tryd.prog 15 [.agg #[I ((T).root), .slice ((T).A) ((T).l.length) ((T).cp)]] w (fun v w1 => ∃ (r1 : Int) (L1 : List PgL) (A1 : Option Addr) (c1 : Nat), v = .tuple #[.agg #[I (r1), .slice (A1) ((L1).length) (c1)], .bool ((validT (T).t))] ∧ ((⟨r1, tsG L1⟩ : TrT) = renO (T).t) ∧ (SzT ⟨r1, A1, c1, L1⟩) ∧ ((L1).length ≤ 64) ∧ Mem w w1 [] [[⟨.slice (A1) ((L1).length) (c1), 39, 3, ((L1).length), (L1).flatMap encPg⟩], (L1).flatMap (pgF 3)]) := by
  have hM : Mem w w [] [] := Mem.refl
  refine Does.nG (rs := [.cell 2 25, .tmp 3]) Tryd.func15 rfl Tryd.results15 Tryd.ntmps15 rfl ?_
  refine Bx 2 [] fun w0_0 b0_0 hb0_0 hM0_0 => ?_
  refine Al 0 [] fun w0_1 b0_1 hb0_1 hM0_1 => ?_
  refine cp 6 [1] (b := svalidTree_fn T w0_1 (hNT.at hM0_1) q0) (c := fun w1_1 hM1_1 => ?_)
  refine cn 2 [] (fun c6 => ?_) (fun c6 => ?_)
  · refine Sb 3 [] 0 fun w2_1 hM2_1 => ?_
    have hMk1 := Mem.gnil (e := 3) hM2_1
    have hMn2 := Mem.addNil (e := 39) (sz := 3) hMk1
    refine EG 3 [] ?_
    refine PG (vs := [.agg #[I (0), .slice (none) (0) (0)], .bool (false)]) (ResV.cell (l := [I (0), .slice (none) (0) (0)]) rfl (mem_blk (i := 2) (j := 0) hMn2 rfl rfl) el25 rfl (ResV.tmp rfl ResV.nil)) ?_
    have hvf : validT (T).t = false := by simpa using c6
    have hMn3 := Mem.addNil (e := 39) (sz := 3) hMn2
    have hq4 : ([] : List PgL) = ([] : List PgL) := (by first | rfl | simp | (simp; omega))
    have hMn4 := hMn3.reF 0 hq4 (f := encPg)
    exact ⟨0, ([] : List PgL), none, 0, (by rw [hvf]; rfl), (by rw [renO_no hvf]; rfl), (sz_small (by simp) (by simp)), (by simp), (hMn4.pk [0, 2])⟩
  have hv : validT (T).t = true := by simpa using c6
  obtain ⟨_, hon, hol, hoi, hor⟩ := ord_yes hv
  rw [pages_len] at hol
  have hl16 := valid_len hv
  rw [pages_len] at hl16
  have hwk := valid_WK hv
  have hob : ∀ k, (h : k < (ordK (T).t).length) → 0 ≤ (ordK (T).t)[k] ∧ (ordK (T).t)[k] < ((T).l.length : Int) := fun k h => inT_t.1 (hoi _ (List.getElem_mem h)).1
  refine cq 4 [1] (b := renumber_fn T w1_1 (hNT.at hM1_1) q0 (by exact hv)) (c := ?_)
  rintro _ w3_1 ⟨L13_1, A13_1, c13_1, rfl, hts3_1, hR3_1⟩
  have hM3_1 := hM1_1.cl 0 hR3_1
  have hcr3_1_0 := (hM3_1.cap 0 rfl).1
  refine Sb 0 [] 2 fun w3_2 hM3_2 => ?_
  refine EG 3 [] ?_
  refine PG (vs := [.agg #[I (0), .slice (A13_1) ((L13_1).length) (c13_1)], .bool (true)]) (ResV.cell (l := [I (0), .slice (A13_1) ((L13_1).length) (c13_1)]) rfl (mem_blk (i := 2) (j := 0) hM3_2 rfl rfl) el25 rfl (ResV.tmp rfl ResV.nil)) ?_
  have hrv := (ren_valid hv).1
  have hrl : L13_1.length ≤ 16 := by have h9 := congrArg (fun z => z.pages.length) hts3_1; simp only [ren_plen, List.length_map] at h9; omega
  have hszq := sz_small (r := 0) (A := A13_1) (c := c13_1) (L := L13_1) (by rw [← show (renF (T).t).pages = tsG L13_1 from (congrArg TrT.pages hts3_1).symm]; exact valid_small_all hrv) (by omega)
  exact ⟨0, L13_1, A13_1, c13_1, (by rw [hv]; rfl), (by rw [renO_yes hv]; exact hts3_1), hszq, (by omega), (hM3_2.pk [0, 1])⟩
end Go.Proofs.YtemejgglbhjodaaDoor
end
section
namespace Go.Proofs.YtemejgglbhjodaaDoor
open Go.Px
theorem EqualPair_fn (A : Option Addr) (c : Nat) (a : List PairT) (B : Option Addr) (d : Nat) (b : List PairT) (w : World) (hA : Rd w A ((a).flatMap encP)) (hB : Rd w B ((b).flatMap encP)) (ha : a.length ≤ 1048576) :
    Does Tryd.prog 35 [.slice (A) ((a).length) (c), .slice (B) ((b).length) (d)] w (fun v w1 => v = .bool (decide (a = b)) ∧ Mem w w1 [] []) := by
  have hM : Mem w w [] [] := Mem.refl
  refine Does.n1 Tryd.func35 rfl Tryd.results35 Tryd.ntmps35 rfl ?_
  refine cd 13 [] (fun c10 => ?_) (fun c10 => ?_)
  · refine E1 5 [] (.bool (false)) ?_
    exact ⟨(by rw [ne_len (by omega)]), (Mem.none hM)⟩
  refine lp1 9 [] (fun (k : Nat) => ([(13, Vi (((k : Nat) : Int)))] : List (Nat × SV))) (fun (k : Nat) => (k ≤ a.length) ∧ (a.take k = b.take k)) (fun (k : Nat) => []) (fun (k : Nat) => a.length - k) [0, 1, 12] [] [] 0 (fun k σ w_l4 hI hM_l4 => ?_) (h0 := ⟨(Nat.zero_le _), (by (try dsimp only); simp)⟩)
  obtain ⟨hi0_l4, hi1_l4⟩ := hI
  refine cd 5 [] (fun c14 => ?_) (fun c14 => ?_)
  · refine dr 9 [] ?_
    have hx6_2 : k < (a).length := (by first | omega | (simp; omega))
    refine qv 2 [] (a := by exact fun _ hw2 => kixF hx6_2 (hA.at hw2)) (b := ?_)
    refine qv 0 [] (a := by exact fun _ hw2 => kldN hx6_2 (hA.at hw2)) (b := ?_)
    have hx6_6 : k < (b).length := (by first | omega | (simp; omega))
    refine qv 2 [] (a := by exact fun _ hw2 => kixF hx6_6 (hB.at hw2)) (b := ?_)
    refine qv 0 [] (a := by exact fun _ hw2 => kldN hx6_6 (hB.at hw2)) (b := ?_)
    refine qv 0 [] (s := Vd (((a)[k]'hx6_2) ≠ ((b)[k]'hx6_6))) (a := by exact fun w2 hw2 => cv (Ru.congr (v := .bool (!([decide (((a)[k]'hx6_2).key = ((b)[k]'hx6_6).key), decide (((a)[k]'hx6_2).val = ((b)[k]'hx6_6).val)].all id))) (v' := .bool (decide (((a)[k]'hx6_2) ≠ ((b)[k]'hx6_6)))) (Ru.neqT (xs0 := [I (((a)[k]'hx6_2).key), I (((a)[k]'hx6_2).val)]) (bs := [I (((b)[k]'hx6_6).key), I (((b)[k]'hx6_6).val)]) (rs := [decide (((a)[k]'hx6_2).key = ((b)[k]'hx6_6).key), decide (((a)[k]'hx6_2).val = ((b)[k]'hx6_6).val)]) eq57 rfl rfl ⟨ceq_int Tryd.underlying3, ⟨ceq_int Tryd.underlying3, trivial⟩⟩) (congrArg Value.bool (Pair_ne ((a)[k]'hx6_2) ((b)[k]'hx6_6)))) rfl) (b := ?_)
    refine qn 0 [] fun w6d hM6d => ?_
    refine cd 0 [] (fun c24 => ?_) (fun c24 => ?_)
    · refine E1 5 [] (.bool (false)) ?_
      exact ⟨(by rw [ne_at hx6_2 hx6_6 (by simpa using c24)]), (Mem.none hM6d)⟩
    refine ov 2 [] (a := kaddN (k + 1)) (b := ?_)
    exact le1 2 [] (k + 1) [] (h := by exact ⟨(by (try dsimp only); omega), (eq_step hx6_2 hx6_6 hi1_l4 (by simpa using c24))⟩)
  refine E1 6 [] (.bool (true)) ?_
  exact ⟨(by rw [eq_all (by omega) (by omega) hi1_l4]), (Mem.none hM_l4)⟩
set_option maxHeartbeats 2000000 in
theorem equalPages_fn (A : Option Addr) (c : Nat) (a : List PgL) (B : Option Addr) (d : Nat) (b : List PgL) (w : World) (hA : Rd w A ((a).flatMap encPg)) (hNA : NsP w a) (hB : Rd w B ((b).flatMap encPg)) (hNB : NsP w b) (ha : a.length ≤ 1048576) (hka : ∀ x ∈ a, (x).k.l.length ≤ 1048576 ∧ (x).c.l.length ≤ 1048576 ∧ (x).v.l.length ≤ 1048576) :
    Does Tryd.prog 34 [.slice (A) ((a).length) (c), .slice (B) ((b).length) (d)] w (fun v w1 => v = .bool (decide (tsG a = tsG b)) ∧ Mem w w1 [] []) := by
  have hM : Mem w w [] [] := Mem.refl
  refine Does.n1 Tryd.func34 rfl Tryd.results34 Tryd.ntmps34 rfl ?_
  refine cd 13 [] (fun c10 => ?_) (fun c10 => ?_)
  · refine E1 5 [] (.bool (false)) ?_
    exact ⟨(by rw [tsg_nl (by omega)]), (Mem.none hM)⟩
  refine lp1 7 [] (fun (k : Nat) => ([(5, Vi (((k : Nat) : Int)))] : List (Nat × SV))) (fun (k : Nat) => (k ≤ a.length) ∧ ((tsG a).take k = (tsG b).take k)) (fun (k : Nat) => []) (fun (k : Nat) => a.length - k) [0, 1] [] [] 0 (fun k σ w_l4 hI hM_l4 => ?_) (h0 := ⟨(Nat.zero_le _), (by (try dsimp only); simp)⟩)
  obtain ⟨hi0_l4, hi1_l4⟩ := hI
  refine cd 8 [] (fun c14 => ?_) (fun c14 => ?_)
  · refine dr 4 [] ?_
    have hx6_2 : k < (a).length := (by first | omega | (simp; omega))
    refine qv 2 [] (a := by exact fun _ hw2 => kixF hx6_2 (hA.at hw2)) (b := ?_)
    refine qv 0 [] (a := by exact fun _ hw2 => kflF hx6_2 (hA.at hw2)) (b := ?_)
    refine qv 0 [] (a := by exact fun _ hw2 => kldF hx6_2 (hA.at hw2)) (b := ?_)
    have hx6_7 : k < (b).length := (by first | omega | (simp; omega))
    refine qv 2 [] (a := by exact fun _ hw2 => kixF hx6_7 (hB.at hw2)) (b := ?_)
    refine qv 0 [] (a := by exact fun _ hw2 => kflF hx6_7 (hB.at hw2)) (b := ?_)
    refine qv 0 [] (a := by exact fun _ hw2 => kldF hx6_7 (hB.at hw2)) (b := ?_)
    refine qc 0 [] (X := .bool (decide ((((a)[k]'hx6_2).k.l) = (((b)[k]'hx6_7).k.l)))) (b := by exact fun w2 hw2 => (equalInts_fn (((a)[k]'hx6_2).k.A) (((a)[k]'hx6_2).k.cp) (((a)[k]'hx6_2).k.l) (((b)[k]'hx6_7).k.A) (((b)[k]'hx6_7).k.cp) (((b)[k]'hx6_7).k.l) w2 ((hNA.at hw2).get hx6_2).1 ((hNB.at hw2).get hx6_7).1 (by exact (hka _ (List.getElem_mem hx6_2)).1)).mono fun _ _ h => ⟨h.1, Mem.call0 (M1 := []) hw2 h.2⟩) (c := ?_)
    refine qt 2 [] 29 (fun g29 => ?_) (fun g29 => ?_)
    · refine qn 27 [] fun w6d hM6d => ?_
      refine E1 6 [] (.bool (false)) ?_
      exact ⟨(by rw [tsg_ne hx6_2 hx6_7 (fun e9 => by have e1 : ((a)[k]'hx6_2).k.l = ((b)[k]'hx6_7).k.l := congrArg PgT.keys e9; have e2 : ((a)[k]'hx6_2).c.l = ((b)[k]'hx6_7).c.l := congrArg PgT.kids e9; have e3 : ((a)[k]'hx6_2).v.l = ((b)[k]'hx6_7).v.l := congrArg PgT.vals e9; simp_all)]), (Mem.none hM6d)⟩
    have hx6_15 : k < (a).length := (by first | omega | (simp; omega))
    refine qv 2 [] (a := by exact fun _ hw2 => kixF hx6_15 (hA.at hw2)) (b := ?_)
    refine qv 0 [] (a := by exact fun _ hw2 => kflF hx6_15 (hA.at hw2)) (b := ?_)
    refine qv 0 [] (a := by exact fun _ hw2 => kldF hx6_15 (hA.at hw2)) (b := ?_)
    have hx6_20 : k < (b).length := (by first | omega | (simp; omega))
    refine qv 2 [] (a := by exact fun _ hw2 => kixF hx6_20 (hB.at hw2)) (b := ?_)
    refine qv 0 [] (a := by exact fun _ hw2 => kflF hx6_20 (hB.at hw2)) (b := ?_)
    refine qv 0 [] (a := by exact fun _ hw2 => kldF hx6_20 (hB.at hw2)) (b := ?_)
    refine qc 0 [] (X := .bool (decide ((((a)[k]'hx6_15).c.l) = (((b)[k]'hx6_20).c.l)))) (b := by exact fun w2 hw2 => (equalInts_fn (((a)[k]'hx6_15).c.A) (((a)[k]'hx6_15).c.cp) (((a)[k]'hx6_15).c.l) (((b)[k]'hx6_20).c.A) (((b)[k]'hx6_20).c.cp) (((b)[k]'hx6_20).c.l) w2 ((hNA.at hw2).get hx6_15).2.1 ((hNB.at hw2).get hx6_20).2.1 (by exact (hka _ (List.getElem_mem hx6_2)).2.1)).mono fun _ _ h => ⟨h.1, Mem.call0 (M1 := []) hw2 h.2⟩) (c := ?_)
    refine qt 3 [] 43 (fun g43 => ?_) (fun g43 => ?_)
    · refine qn 13 [] fun w6d hM6d => ?_
      refine E1 6 [] (.bool (false)) ?_
      exact ⟨(by rw [tsg_ne hx6_2 hx6_7 (fun e9 => by have e1 : ((a)[k]'hx6_2).k.l = ((b)[k]'hx6_7).k.l := congrArg PgT.keys e9; have e2 : ((a)[k]'hx6_2).c.l = ((b)[k]'hx6_7).c.l := congrArg PgT.kids e9; have e3 : ((a)[k]'hx6_2).v.l = ((b)[k]'hx6_7).v.l := congrArg PgT.vals e9; simp_all)]), (Mem.none hM6d)⟩
    have hx6_29 : k < (a).length := (by first | omega | (simp; omega))
    refine qv 2 [] (a := by exact fun _ hw2 => kixF hx6_29 (hA.at hw2)) (b := ?_)
    refine qv 0 [] (a := by exact fun _ hw2 => kflF hx6_29 (hA.at hw2)) (b := ?_)
    refine qv 0 [] (a := by exact fun _ hw2 => kldF hx6_29 (hA.at hw2)) (b := ?_)
    have hx6_34 : k < (b).length := (by first | omega | (simp; omega))
    refine qv 2 [] (a := by exact fun _ hw2 => kixF hx6_34 (hB.at hw2)) (b := ?_)
    refine qv 0 [] (a := by exact fun _ hw2 => kflF hx6_34 (hB.at hw2)) (b := ?_)
    refine qv 0 [] (a := by exact fun _ hw2 => kldF hx6_34 (hB.at hw2)) (b := ?_)
    refine qc 0 [] (X := .bool (decide ((((a)[k]'hx6_29).v.l) = (((b)[k]'hx6_34).v.l)))) (b := by exact fun w2 hw2 => (equalInts_fn (((a)[k]'hx6_29).v.A) (((a)[k]'hx6_29).v.cp) (((a)[k]'hx6_29).v.l) (((b)[k]'hx6_34).v.A) (((b)[k]'hx6_34).v.cp) (((b)[k]'hx6_34).v.l) w2 ((hNA.at hw2).get hx6_29).2.2 ((hNB.at hw2).get hx6_34).2.2 (by exact (hka _ (List.getElem_mem hx6_2)).2.2)).mono fun _ _ h => ⟨h.1, Mem.call0 (M1 := []) hw2 h.2⟩) (c := ?_)
    refine qn 2 [] fun w6d hM6d => ?_
    refine cn 0 [] (fun c56 => ?_) (fun c56 => ?_)
    · refine E1 5 [] (.bool (false)) ?_
      exact ⟨(by rw [tsg_ne hx6_2 hx6_7 (fun e9 => by have e1 : ((a)[k]'hx6_2).k.l = ((b)[k]'hx6_7).k.l := congrArg PgT.keys e9; have e2 : ((a)[k]'hx6_2).c.l = ((b)[k]'hx6_7).c.l := congrArg PgT.kids e9; have e3 : ((a)[k]'hx6_2).v.l = ((b)[k]'hx6_7).v.l := congrArg PgT.vals e9; simp_all)]), (Mem.none hM6d)⟩
    refine ov 3 [] (a := kaddN (k + 1)) (b := ?_)
    exact le1 2 [] (k + 1) [] (h := by exact ⟨(by (try dsimp only); omega), (tsg_step hx6_2 hx6_7 hi1_l4 (pg_eq (by simp_all) (by simp_all) (by simp_all)))⟩)
  refine E1 6 [] (.bool (true)) ?_
  exact ⟨(by rw [tsg_all (by omega) (by omega) hi1_l4]), (Mem.none hM_l4)⟩
theorem equalTree_fn (X : TreeL) (Y : TreeL) (w : World) (hNX : TrN w X) (hNY : TrN w Y) (hs : SzT X) :
    Does Tryd.prog 16 [.agg #[I ((X).root), .slice ((X).A) ((X).l.length) ((X).cp)], .agg #[I ((Y).root), .slice ((Y).A) ((Y).l.length) ((Y).cp)]] w (fun v w1 => v = .bool (decide ((X).t = (Y).t)) ∧ Mem w w1 [] []) := by
  have hM : Mem w w [] [] := Mem.refl
  refine Does.n1 Tryd.func16 rfl Tryd.results16 Tryd.ntmps16 rfl ?_
  refine Bx 2 [] fun w0_0 b0_0 hb0_0 hM0_0 => ?_
  refine Bx 0 [] fun w0_1 b0_1 hb0_1 hM0_1 => ?_
  refine pp 10 [1, 0] 10 (fun g10 => ?_) (fun g10 => ?_)
  · refine cq 4 [1, 0] (vs := [.slice ((X).A) (((X).l).length) ((X).cp), .slice ((Y).A) (((Y).l).length) ((Y).cp)]) (hvs := (by first | rfl | (rw [show ((Y).l).length = (Y).l.length from (by first | rfl | (simp; done) | omega | (simp; omega))]; rfl))) (b := equalPages_fn ((X).A) ((X).cp) ((X).l) ((Y).A) ((Y).cp) ((Y).l) w0_1 (hNX.at hM0_1).1 ((hNX.at hM0_1)).2 (hNY.at hM0_1).1 ((hNY.at hM0_1)).2 (by exact hs.1) (by exact hs.2)) (c := ?_)
    rintro _ w1_10 ⟨rfl, hR1_10⟩
    have hM1_10 := hM0_1.cl 0 hR1_10
    refine E1 4 [] (.bool (decide (tsG ((X).l) = tsG ((Y).l)))) ?_
    exact ⟨(by rw [tree_dec]; simp_all), (Mem.none hM1_10)⟩
  refine E1 9 [] (.bool (false)) ?_
  exact ⟨(by rw [tree_dec]; simp_all), (Mem.none hM0_1)⟩
set_option maxHeartbeats 2000000 in
theorem SameTree_fn (X : TreeL) (Y : TreeL) (w : World) (hNX : TrN w X) (hNY : TrN w Y) (hx : SzT X) (hy : SzT Y) :
    Does Tryd.prog 17 [.agg #[I ((X).root), .slice ((X).A) ((X).l.length) ((X).cp)], .agg #[I ((Y).root), .slice ((Y).A) ((Y).l.length) ((Y).cp)]] w (fun v w1 => v = .bool ((validT (X).t && validT (Y).t && decide (pairsI (X).t = pairsI (Y).t))) ∧ Mem w w1 [] []) := by
  have hM : Mem w w [] [] := Mem.refl
  refine Does.n1 Tryd.func17 rfl Tryd.results17 Tryd.ntmps17 rfl ?_
  refine Bx 2 [] fun w0_0 b0_0 hb0_0 hM0_0 => ?_
  refine Bx 0 [] fun w0_1 b0_1 hb0_1 hM0_1 => ?_
  refine any 3 [] 14 [0, 1] fun w1a hM1a => ?_
  refine aO [0] [1] 1 ?_
  refine cp 0 [] (b := ValidTree_fn X w1a (hNX.at hM1a) (by exact hx)) (c := fun w1_1 hM1_1 => ?_)
  refine os 0 [] [0, 1] ?_
  refine zt [2] [] 7 (fun g7 => ?_) (fun g7 => ?_)
  · refine aO [3] [0] 4 ?_
    refine cp 0 [] (b := ValidTree_fn Y w1_1 (hNY.at hM1_1) (by exact hy)) (c := fun w1_4 hM1_4 => ?_)
    refine os 0 [] [0, 1] ?_
    refine zt [5, 6] [] 11 (fun g11 => ?_) (fun g11 => ?_)
    · refine aO [7, 9] [1, 0] 8 ?_
      refine cq 0 [] (b := PairsOf_fn X w1_4 (hNX.at hM1_4) (by exact hx)) (c := ?_)
      rintro _ w1_8 ⟨A11_8, c11_8, rfl, hR1_8⟩
      have hM1_8 := hM1_4.cl 0 hR1_8
      have hcr1_8_0 := (hM1_8.cap 0 rfl).1
      refine os 0 [] [1, 2] ?_
      refine aO [] [] 10 ?_
      refine cq 0 [] (b := PairsOf_fn Y w1_8 (hNY.at hM1_8) (by exact hy)) (c := ?_)
      rintro _ w1_10 ⟨A11_10, c11_10, rfl, hR1_10⟩
      have hM1_10 := hM1_8.cl 0 hR1_10
      have hcr1_10_0 := (hM1_10.cap 0 rfl).1
      refine os 0 [] [2, 3] ?_
      refine aO [] [] 11 ?_
      refine cp 0 [] (b := EqualPair_fn _ _ _ _ _ _ w1_10 (hM1_10.rd 1 rfl) (hM1_10.rd 0 rfl) (by exact Nat.le_trans pairsI_len (by omega))) (c := fun w1_11 hM1_11 => ?_)
      refine os 0 [] [2, 3] ?_
      refine an [12, 13] [] ?_
      refine E1 1 [] (.bool (decide ((pairsI (X).t) = (pairsI (Y).t)))) ?_
      exact ⟨(by simp_all), (Mem.none hM1_11)⟩
    refine an [7, 8, 9, 10, 11, 12, 13] [] ?_
    refine E1 1 [] (.bool (false)) ?_
    exact ⟨(by simp_all), (Mem.none hM1_4)⟩
  refine an [3, 4, 5, 6, 7, 8, 9, 10, 11, 12, 13] [] ?_
  refine E1 1 [] (.bool (false)) ?_
  exact ⟨(by simp_all), (Mem.none hM1_1)⟩
end Go.Proofs.YtemejgglbhjodaaDoor
end
