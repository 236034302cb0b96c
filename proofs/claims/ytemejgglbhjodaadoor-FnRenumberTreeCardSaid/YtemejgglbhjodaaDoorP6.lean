/- Own layer, part 7: plain theorems on the walk of this program's functions and on what they compute; no conditions. -/
import Derived.Test.YtemejgglbhjodaaDoorP5
set_option linter.unusedVariables false
set_option linter.unusedSimpArgs false
section
namespace Go.Proofs.YtemejgglbhjodaaDoor
open Go.Px
set_option maxHeartbeats 8000000 in
theorem mend_fn (T : TreeL) (up : Int) (pl : Int) (f : Nat) (a9 : Int) (b9 : Int) (w : World) (hNT : TrN w T) (hs : SzT T) (hfp : f = (pl - 1).toNat) (hpb : -1 ≤ pl ∧ pl ≤ 1000) (hmd : MD (T).t up f a9 b9) (hcp9 : ∀ (j : Nat) (h : j < (T).l.length), (T).l[j].k.l.length ≤ (T).l[j].k.cp ∧ (T).l[j].c.l.length ≤ (T).l[j].c.cp) :
    Does Tryd.prog 92 [.agg #[I ((T).root), .slice ((T).A) ((T).l.length) ((T).cp)], I (up), I (pl)] w (fun v w1 => ∃ (L1 : List PgL) (A1 : Option Addr) (c1 : Nat), v = .tuple #[.agg #[I ((T).root), .slice (A1) ((L1).length) (c1)], I ((mendF (T).t up f).2)] ∧ ((⟨(T).root, tsG L1⟩ : TrT) = (mendF (T).t up f).1) ∧ Mem w w1 [] [[⟨.slice (A1) ((L1).length) (c1), 39, 3, ((L1).length), (L1).flatMap encPg⟩], (L1).flatMap (pgF 3)]) := by
  have hM : Mem w w [] [] := Mem.refl
  refine Does.nG (rs := [.cell 6 25, .tmp 7]) Tryd.func92 rfl Tryd.results92 Tryd.ntmps92 rfl ?_
  have hi_up := inT_iff.1 hmd.iu
  rw [pages_len] at hi_up
  have hju : (up).toNat < (T).l.length := by omega
  have hg_up : gP (T).t up = ((T).l[(up).toNat]'hju).t := gP_at rfl hju
  have hz_up := small_at hmd.sm hmd.iu
  rw [hg_up] at hz_up
  have hk_up : ((T).l[(up).toNat]'hju).k.l.length ≤ 5 := hz_up.1
  have hc_up : ((T).l[(up).toNat]'hju).c.l.length ≤ 6 := hz_up.2.1
  have hi_a9 := inT_iff.1 hmd.ia
  rw [pages_len] at hi_a9
  have hja : (a9).toNat < (T).l.length := by omega
  have hg_a9 : gP (T).t a9 = ((T).l[(a9).toNat]'hja).t := gP_at rfl hja
  have hz_a9 := small_at hmd.sm hmd.ia
  rw [hg_a9] at hz_a9
  have hk_a9 : ((T).l[(a9).toNat]'hja).k.l.length ≤ 5 := hz_a9.1
  have hc_a9 : ((T).l[(a9).toNat]'hja).c.l.length ≤ 6 := hz_a9.2.1
  have hi_b9 := inT_iff.1 hmd.ib
  rw [pages_len] at hi_b9
  have hjb : (b9).toNat < (T).l.length := by omega
  have hg_b9 : gP (T).t b9 = ((T).l[(b9).toNat]'hjb).t := gP_at rfl hjb
  have hz_b9 := small_at hmd.sm hmd.ib
  rw [hg_b9] at hz_b9
  have hk_b9 : ((T).l[(b9).toNat]'hjb).k.l.length ≤ 5 := hz_b9.1
  have hc_b9 : ((T).l[(b9).toNat]'hjb).c.l.length ≤ 6 := hz_b9.2.1
  have hkl := hmd.kl
  have hf1 := hmd.f1
  have hea := hmd.ea
  have heb := hmd.eb
  rw [hg_up] at hkl hf1 hea heb
  have hkl : ((T).l[(up).toNat]'hju).c.l.length = ((T).l[(up).toNat]'hju).k.l.length + 1 := hkl
  have hf1 : f + 1 ≤ ((T).l[(up).toNat]'hju).k.l.length := hf1
  have hea : ((T).l[(up).toNat]'hju).c.l.getD f 0 = a9 := hea
  have heb : ((T).l[(up).toNat]'hju).c.l.getD (f + 1) 0 = b9 := heb
  have hfe : (((f + 1 : Nat) : Int)).toNat = f + 1 := rfl
  have hcpu := hcp9 _ hju
  refine Bx 2 [] fun w0_0 b0_0 hb0_0 hM0_0 => ?_
  refine Al 0 [] fun w0_1 b0_1 hb0_1 hM0_1 => ?_
  refine cq 5 [1] (b := scopyTree_fn T w0_1 (hNT.at hM0_1) q0) (c := ?_)
  rintro _ w1_1 ⟨L11_1, A11_1, c11_1, rfl, hts1_1, hR1_1⟩
  have hM1_1 := hM0_1.cl 0 hR1_1
  have hcr1_1_0 := (hM1_1.cap 0 rfl).1
  have hLl := tsg_eq_len hts1_1
  refine Al 0 [] fun w1_2 b1_2 hb1_2 hM1_2 => ?_
  refine Sb 0 [] 0 fun w1_3 hM1_3 => ?_
  refine ov 4 [] (a := ksub) (b := ?_)
  refine ov 0 [] (s := Vi (((f : Nat) : Int))) (a := by exact cv (Ru.congr (v := I ((max 0 (pl - 1)))) (v' := I (((f : Nat) : Int))) (Ru.bmax rfl rfl) ((I_congr (by rw [hfp]; omega)))) rfl) (b := ?_)
  have hx3_3 : (up).toNat < ((T).l).length := (by omega)
  refine ov 7 [4] (a := kixF hx3_3 (hNT.at hM1_3).1 (h0 := by omega)) (b := ?_)
  refine ov 0 [] (a := kflF hx3_3 (hNT.at hM1_3).1) (b := ?_)
  refine ov 0 [] (a := kldF hx3_3 (hNT.at hM1_3).1) (b := ?_)
  have hx3_7 : f < ((((T).l)[(up).toNat]'hx3_3).c.l).length := (by omega)
  refine ov 1 [] (a := kixM hx3_7 (((hNT.at hM1_3)).2.get hx3_3).2.1 (h0 := by omega)) (b := ?_)
  refine ov 0 [] (s := Vi (a9)) (a := by exact cv (Ru.congr (v := I (((((T).l)[(up).toNat]'hx3_3).c.l)[f]'hx3_7)) (v' := I (a9)) (Ru.load1 el3 rfl (ldm (((hNT.at hM1_3)).2.get hx3_3).2.1 hx3_7)) (I_congr ((getD_in hx3_7).symm.trans hea))) rfl) (b := ?_)
  have hx4_3 : (up).toNat < ((T).l).length := (by omega)
  refine ov 7 [4] (a := kixF hx4_3 (hNT.at hM1_3).1 (h0 := by omega)) (b := ?_)
  refine ov 0 [] (a := kflF hx4_3 (hNT.at hM1_3).1) (b := ?_)
  refine ov 0 [] (a := kldF hx4_3 (hNT.at hM1_3).1) (b := ?_)
  refine ov 1 [] (a := kaddN (f + 1)) (b := ?_)
  have hx4_8 : (f + 1) < ((((T).l)[(up).toNat]'hx4_3).c.l).length := (by omega)
  refine ov 0 [] (a := kixM hx4_8 (((hNT.at hM1_3)).2.get hx4_3).2.1 (h0 := by omega)) (b := ?_)
  refine ov 0 [] (s := Vi (b9)) (a := by exact cv (Ru.congr (v := I (((((T).l)[(up).toNat]'hx4_3).c.l)[(f + 1)]'hx4_8)) (v' := I (b9)) (Ru.load1 el3 rfl (ldm (((hNT.at hM1_3)).2.get hx4_3).2.1 hx4_8)) (I_congr ((getD_in hx4_8).symm.trans heb))) rfl) (b := ?_)
  have hx5_3 : (a9).toNat < ((T).l).length := (by omega)
  refine ov 8 [4] (a := kixF hx5_3 (hNT.at hM1_3).1 (h0 := by omega)) (b := ?_)
  refine ov 0 [] (a := kflF hx5_3 (hNT.at hM1_3).1) (b := ?_)
  refine ov 0 [] (a := kldF hx5_3 (hNT.at hM1_3).1) (b := ?_)
  refine cd 3 [] (fun c52 => ?_) (fun c52 => ?_)
  · have hk0 : (gP (T).t a9).kids = [] := by rw [hg_a9]; exact List.eq_nil_of_length_eq_zero (by show (((T).l[(a9).toNat]'hja).c.l).length = 0; omega)
    have hlf := hmd.lf hk0
    rw [hg_a9, hg_b9] at hlf
    have hlfA : ((T).l[(a9).toNat]'hja).v.l.length = ((T).l[(a9).toNat]'hja).k.l.length := hlf.1
    have hlfB : ((T).l[(b9).toNat]'hjb).v.l.length = ((T).l[(b9).toNat]'hjb).k.l.length := hlf.2
    let rw9 : List PairT := prsP ((T).l[(a9).toNat]'hja).t ++ prsP ((T).l[(b9).toNat]'hjb).t
    have hrw : rw9 = prsP ((T).l[(a9).toNat]'hja).t ++ prsP ((T).l[(b9).toNat]'hjb).t := rfl
    have hrl : (rw9).length = ((T).l[(a9).toNat]'hja).k.l.length + ((T).l[(b9).toNat]'hjb).k.l.length := by rw [hrw, List.length_append, prs_lenG, prs_lenG]
    refine ct2 0 [] (fun (A5 : Option Addr) (c5 : Nat) => ([(12, Vl (A5) ((rw9).length) (c5))] : List (Nat × SV))) (fun (A5 : Option Addr) (c5 : Nat) => True) (fun (A5 : Option Addr) (c5 : Nat) => [[⟨.slice (A5) ((rw9).length) (c5), 57, 2, ((rw9).length), (rw9).flatMap encP⟩]]) [1, 3, 6, 8, 9, 10, 11] [0, 1, 2, 3, 4] ?_ (fun A5 c5 σ w_r6 hI hM_r6 => ?_)
    · refine any 0 [] 14 [0, 1, 2, 3, 4] fun w6a hM6a => ?_
      have hx6_3 : (a9).toNat < ((T).l).length := (by omega)
      refine av [0, 1, 2] [4] 3 (a := by exact fun _ hw2 => kixF hx6_3 (hNT.at hM6a).1 (h0 := by omega)) (b := ?_)
      have hx6_9 : (b9).toNat < ((T).l).length := (by omega)
      refine av [6, 7, 8] [4] 9 (a := by exact fun _ hw2 => kixF hx6_9 (hNT.at hM6a).1 (h0 := by omega)) (b := ?_)
      refine aT [] [] 4 10 ?_ ?_
      · refine ov 0 [] (a := kldN hx6_3 (hNT.at hM6a).1) (b := ?_)
        refine os 0 [] [0, 1, 2, 3, 4] ?_
        refine aT [] [] 5 10 ?_ ?_
        · refine cq 0 [] (b := rowOf_fn (((T).l)[(a9).toNat]'hx6_3) w6a (((hNT.at hM6a)).2.get hx6_3) qo (by exact hlfA)) (c := ?_)
          rintro _ w6_5 ⟨A16_5, c16_5, rfl, hR6_5⟩
          have hM6_5 := hM6a.cl 0 hR6_5
          have hcr6_5_0 := (hM6_5.cap 0 rfl).1
          refine os 0 [] [1, 2, 3, 4, 5] ?_
          refine aO [] [] 10 ?_
          refine ov 0 [] (a := kldN hx6_9 (hNT.at hM6_5).1) (b := ?_)
          refine os 0 [] [1, 2, 3, 4, 5] ?_
          refine aO [] [] 11 ?_
          refine cq 0 [] (b := rowOf_fn (((T).l)[(b9).toNat]'hx6_9) w6_5 (((hNT.at hM6_5)).2.get hx6_9) qo (by exact hlfB)) (c := ?_)
          rintro _ w6_11 ⟨A16_11, c16_11, rfl, hR6_11⟩
          have hM6_11 := hM6_5.cl 0 hR6_11
          have hcr6_11_0 := (hM6_11.cap 0 rfl).1
          refine os 0 [] [2, 3, 4, 5, 6] ?_
          refine aO [] [] 12 ?_
          refine aF 0 [] 1 (hM6_11.rd 0 rfl) (fun w6_12 A6_12 c6_12 hc6_12 hM6_12 => ?_) (hn := by first | omega | (simp only [List.length_append, prs_lenG]; omega)) (hb := by first | omega | (simp only [List.length_append, prs_lenG]; omega))
          refine os 0 [] [2, 3, 4, 5, 6] ?_
          refine an [13] [] ?_
          have hq1 : (prsP ((((T).l)[(a9).toNat]'hx6_3)).t ++ prsP ((((T).l)[(b9).toNat]'hx6_9)).t : List PairT) = rw9 := hrw.symm
          have hMn1 := hM6_12.reF 1 hq1
          exact ce2 0 [] A6_12 c6_12 [1, 2, 3, 4, 5, 6] (h := by exact trivial)
        refine ov 0 [] (a := kldN hx6_9 (hNT.at hM6a).1) (b := ?_)
        refine os 0 [] [0, 1, 2, 3, 4] ?_
        refine aO [] [] 5 ?_
        refine cq 0 [] (b := rowOf_fn (((T).l)[(a9).toNat]'hx6_3) w6a (((hNT.at hM6a)).2.get hx6_3) qo (by exact hlfA)) (c := ?_)
        rintro _ w6_5 ⟨A16_5, c16_5, rfl, hR6_5⟩
        have hM6_5 := hM6a.cl 0 hR6_5
        have hcr6_5_0 := (hM6_5.cap 0 rfl).1
        refine os 0 [] [1, 2, 3, 4, 5] ?_
        refine aO [] [] 11 ?_
        refine cq 0 [] (b := rowOf_fn (((T).l)[(b9).toNat]'hx6_9) w6_5 (((hNT.at hM6_5)).2.get hx6_9) qo (by exact hlfB)) (c := ?_)
        rintro _ w6_11 ⟨A16_11, c16_11, rfl, hR6_11⟩
        have hM6_11 := hM6_5.cl 0 hR6_11
        have hcr6_11_0 := (hM6_11.cap 0 rfl).1
        refine os 0 [] [2, 3, 4, 5, 6] ?_
        refine aO [] [] 12 ?_
        refine aF 0 [] 1 (hM6_11.rd 0 rfl) (fun w6_12 A6_12 c6_12 hc6_12 hM6_12 => ?_) (hn := by first | omega | (simp only [List.length_append, prs_lenG]; omega)) (hb := by first | omega | (simp only [List.length_append, prs_lenG]; omega))
        refine os 0 [] [2, 3, 4, 5, 6] ?_
        refine an [13] [] ?_
        have hq2 : (prsP ((((T).l)[(a9).toNat]'hx6_3)).t ++ prsP ((((T).l)[(b9).toNat]'hx6_9)).t : List PairT) = rw9 := hrw.symm
        have hMn2 := hM6_12.reF 1 hq2
        exact ce2 0 [] A6_12 c6_12 [1, 2, 3, 4, 5, 6] (h := by exact trivial)
      refine ov 0 [] (a := kldN hx6_9 (hNT.at hM6a).1) (b := ?_)
      refine os 0 [] [0, 1, 2, 3, 4] ?_
      refine aO [] [] 4 ?_
      refine ov 0 [] (a := kldN hx6_3 (hNT.at hM6a).1) (b := ?_)
      refine os 0 [] [0, 1, 2, 3, 4] ?_
      refine aO [] [] 5 ?_
      refine cq 0 [] (b := rowOf_fn (((T).l)[(a9).toNat]'hx6_3) w6a (((hNT.at hM6a)).2.get hx6_3) qo (by exact hlfA)) (c := ?_)
      rintro _ w6_5 ⟨A16_5, c16_5, rfl, hR6_5⟩
      have hM6_5 := hM6a.cl 0 hR6_5
      have hcr6_5_0 := (hM6_5.cap 0 rfl).1
      refine os 0 [] [1, 2, 3, 4, 5] ?_
      refine aO [] [] 11 ?_
      refine cq 0 [] (b := rowOf_fn (((T).l)[(b9).toNat]'hx6_9) w6_5 (((hNT.at hM6_5)).2.get hx6_9) qo (by exact hlfB)) (c := ?_)
      rintro _ w6_11 ⟨A16_11, c16_11, rfl, hR6_11⟩
      have hM6_11 := hM6_5.cl 0 hR6_11
      have hcr6_11_0 := (hM6_11.cap 0 rfl).1
      refine os 0 [] [2, 3, 4, 5, 6] ?_
      refine aO [] [] 12 ?_
      refine aF 0 [] 1 (hM6_11.rd 0 rfl) (fun w6_12 A6_12 c6_12 hc6_12 hM6_12 => ?_) (hn := by first | omega | (simp only [List.length_append, prs_lenG]; omega)) (hb := by first | omega | (simp only [List.length_append, prs_lenG]; omega))
      refine os 0 [] [2, 3, 4, 5, 6] ?_
      refine an [13] [] ?_
      have hq3 : (prsP ((((T).l)[(a9).toNat]'hx6_3)).t ++ prsP ((((T).l)[(b9).toNat]'hx6_9)).t : List PairT) = rw9 := hrw.symm
      have hMn3 := hM6_12.reF 1 hq3
      exact ce2 0 [] A6_12 c6_12 [1, 2, 3, 4, 5, 6] (h := by exact trivial)
    have hcl0_r6 := (hM_r6.cap 0 rfl).1
    have hcl2_r6 := (hM_r6.cap 2 rfl).1
    refine cd 7 [] (fun c68 => ?_) (fun c68 => ?_)
    · refine any 1 [] 7 [0, 1, 3, 4, 5] fun w8a hM8a => ?_
      refine aO [0, 1, 2, 3] [1] 4 ?_
      refine cq 0 [] (b := leafOf_fn _ _ _ w8a (hM8a.rd 0 rfl) qo qo) (c := ?_)
      rintro _ w8_4 ⟨A18_4, c18_4, A28_4, c28_4, A38_4, c38_4, rfl, hR8_4⟩
      have hM8_4 := hM8a.cl 0 hR8_4
      have hcr8_4_0 := (hM8_4.cap 0 rfl).1
      have hcr8_4_1 := (hM8_4.cap 1 rfl).1
      have hcr8_4_2 := (hM8_4.cap 2 rfl).1
      refine os 0 [] [3, 4, 6, 7, 8] ?_
      have hx8_5 : (a9).toNat < (L11_1).length := (by first | omega | (simp only [List.length_set]; omega))
      refine av [] [] 5 (a := by exact fun _ hw2 => kixF hx8_5 (hM8_4.rd 5 rfl) (h0 := by omega)) (b := ?_)
      refine aO [] [] 6 ?_
      let p1_ : PgL := (⟨⟨A18_4, c18_4, keysP rw9⟩, ⟨A28_4, c28_4, ([] : List Int)⟩, ⟨A38_4, c38_4, rw9.map PairT.val⟩⟩ : PgL)
      refine sF 0 [] 5 p1_ hx8_5 fun w8_6 hM8_6 => ?_
      refine os 0 [] [3, 4, 6, 7, 8] ?_
      refine an [] [] ?_
      have hMk4 := Mem.gset (k := ⟨A18_4, c18_4, keysP rw9⟩) (c := ⟨A28_4, c28_4, ([] : List Int)⟩) (v := ⟨A38_4, c38_4, rw9.map PairT.val⟩) ((a9).toNat) (hM8_6.pk [6, 0, 1, 2, 3, 4, 5, 7, 8])
      refine any 1 [] 15 [0, 1, 2, 4, 5] fun w9a hM9a => ?_
      have hx9_6 : (up).toNat < ((T).l).length := (by omega)
      refine av [0, 1, 2, 3, 4, 5] [2, 4] 6 (a := by exact fun _ hw2 => kixF hx9_6 (hNT.at hM9a).1 (h0 := by omega)) (b := ?_)
      refine av [9] [] 10 (a := by exact fun _ hw2 => kaddN (f + 1)) (b := ?_)
      refine aO [] [] 7 ?_
      refine ov 0 [] (a := kldN hx9_6 (hNT.at hM9a).1) (b := ?_)
      refine os 0 [] [0, 1, 2, 4, 5] ?_
      refine aO [] [] 8 ?_
      refine cp 0 [] (b := insideOf_fn (((T).l)[(up).toNat]'hx9_6) w9a (((hNT.at hM9a)).2.get hx9_6)) (c := fun w9_8 hM9_8 => ?_)
      refine os 0 [] [0, 1, 2, 4, 5] ?_
      refine aO [] [] 11 ?_
      refine cq 0 [] (b := cutKid_fn (((((T).l)[(up).toNat]'hx9_6)).k.A) (((((T).l)[(up).toNat]'hx9_6)).k.cp) (((((T).l)[(up).toNat]'hx9_6)).k.l) (((((T).l)[(up).toNat]'hx9_6)).c.A) (((((T).l)[(up).toNat]'hx9_6)).c.cp) (((((T).l)[(up).toNat]'hx9_6)).c.l) _ w9_8 (((hNT.at hM9_8)).2.get hx9_6).1 (((hNT.at hM9_8)).2.get hx9_6).2.1 (by exact hcpu) (by constructor <;> omega) qo qo) (c := ?_)
      rintro _ w9_11 ⟨A19_11, c19_11, A29_11, c29_11, rfl, hR9_11⟩
      have hM9_11 := hM9_8.cl 0 hR9_11
      have hcr9_11_0 := (hM9_11.cap 0 rfl).1
      have hcr9_11_1 := (hM9_11.cap 1 rfl).1
      refine os 0 [] [2, 3, 4, 6, 7] ?_
      refine aO [] [] 12 ?_
      refine cq 0 [] (b := innerOf_fn A19_11 c19_11 (((((((T).l)[(up).toNat]'hx9_6)).k.l)).take (((((f + 1) : Nat) : Int)).toNat - 1) ++ ((((((T).l)[(up).toNat]'hx9_6)).k.l)).drop ((((f + 1) : Nat) : Int)).toNat) A29_11 c29_11 (((((((T).l)[(up).toNat]'hx9_6)).c.l)).take ((((f + 1) : Nat) : Int)).toNat ++ ((((((T).l)[(up).toNat]'hx9_6)).c.l)).drop (((((f + 1) : Nat) : Int)).toNat + 1)) w9_11 (hM9_11.rd 0 rfl) (hM9_11.rd 1 rfl)) (c := ?_)
      rintro _ w9_12 ⟨A19_12, c19_12, rfl, hR9_12⟩
      have hM9_12 := hM9_11.cl 0 hR9_12
      have hcr9_12_0 := (hM9_12.cap 0 rfl).1
      refine os 0 [] [3, 4, 5, 7, 8] ?_
      have hx9_13 : (up).toNat < ((L11_1).set ((a9).toNat) p1_).length := (by first | omega | (simp only [List.length_set]; omega))
      refine av [] [] 13 (a := by exact fun _ hw2 => kixF hx9_13 (hM9_12.rd 6 rfl) (h0 := by omega)) (b := ?_)
      refine aO [] [] 14 ?_
      let p2_ : PgL := (⟨⟨A19_11, c19_11, ((((((T).l)[(up).toNat]'hx9_6)).k.l)).take (((((f + 1) : Nat) : Int)).toNat - 1) ++ ((((((T).l)[(up).toNat]'hx9_6)).k.l)).drop ((((f + 1) : Nat) : Int)).toNat⟩, ⟨A29_11, c29_11, ((((((T).l)[(up).toNat]'hx9_6)).c.l)).take ((((f + 1) : Nat) : Int)).toNat ++ ((((((T).l)[(up).toNat]'hx9_6)).c.l)).drop (((((f + 1) : Nat) : Int)).toNat + 1)⟩, ⟨A19_12, c19_12, ([] : List Int)⟩⟩ : PgL)
      refine sF 0 [] 6 p2_ hx9_13 fun w9_14 hM9_14 => ?_
      refine os 0 [] [3, 4, 5, 7, 8] ?_
      refine an [] [] ?_
      have hMk5 := Mem.gset (k := ⟨A19_11, c19_11, ((((((T).l)[(up).toNat]'hx9_6)).k.l)).take (((((f + 1) : Nat) : Int)).toNat - 1) ++ ((((((T).l)[(up).toNat]'hx9_6)).k.l)).drop ((((f + 1) : Nat) : Int)).toNat⟩) (c := ⟨A29_11, c29_11, ((((((T).l)[(up).toNat]'hx9_6)).c.l)).take ((((f + 1) : Nat) : Int)).toNat ++ ((((((T).l)[(up).toNat]'hx9_6)).c.l)).drop (((((f + 1) : Nat) : Int)).toNat + 1)⟩) (v := ⟨A19_12, c19_12, ([] : List Int)⟩) ((up).toNat) (hM9_14.pk [3, 1, 2, 0, 4, 5, 6, 7, 8])
      have hq6 : (((L11_1).set ((a9).toNat) p1_).set ((up).toNat) p2_ : List PgL) = ((L11_1).set ((a9).toNat) p1_).set ((up).toNat) p2_ := rfl
      have hMn6 := hMk5.reF 3 hq6
      have hMn7 := hMn6.reB 2 1 (show (L11_1).length = (((L11_1).set ((a9).toNat) p1_).set ((up).toNat) p2_).length from (by first | rfl | simp | (simp; omega)))
      refine Sb 4 [2] 4 fun w10_2 hM10_2 => ?_
      refine EG 3 [] ?_
      refine PG (vs := [.agg #[I ((T).root), .slice (A11_1) ((((L11_1).set ((a9).toNat) p1_).set ((up).toNat) p2_).length) (c11_1)], I (b9)]) (ResV.cell (l := [I ((T).root), .slice (A11_1) ((((L11_1).set ((a9).toNat) p1_).set ((up).toNat) p2_).length) (c11_1)]) rfl (mem_blk (i := 4) (j := 0) hM10_2 rfl rfl) el25 rfl (ResV.tmp rfl ResV.nil)) ?_
      have hfin := mend_leaf1 hmd hk0 (by rw [hg_a9, hg_b9, ← hrw]; omega) (L := tsG (((L11_1).set ((a9).toNat) p1_).set ((up).toNat) p2_)) (by rw [tsg_set, tsg_set, hts1_1, hg_a9, hg_b9, hg_up]; rfl)
      have hq8 : (((L11_1).set ((a9).toNat) p1_).set ((up).toNat) p2_ : List PgL) = (((L11_1).set ((a9).toNat) p1_).set ((up).toNat) p2_) := (by first | rfl | simp | (simp; omega))
      have hMn8 := hM10_2.reF 3 hq8
      exact ⟨((L11_1).set ((a9).toNat) p1_).set ((up).toNat) p2_, A11_1, c11_1, (by rw [hfin.2]; rfl), hfin.1, (hMn8.pk [3, 0])⟩
    refine ov 5 [] (a := kaddN ((rw9).length + 1)) (b := ?_)
    refine ov 0 [] (a := kquoN (((rw9).length + 1) / 2)) (b := ?_)
    refine any 3 [] 9 [0, 1, 3, 4, 5] fun w12a hM12a => ?_
    have hcp12_5 := hM12a.cap 0 rfl
    refine av [0, 1, 2, 3, 4] [1] 5 (s := Vl (A5) (((rw9).take ((((rw9).length + 1) / 2))).length) (c5)) (a := by exact fun w2 hw2 => cv (Ru.congr (v := .slice (A5) ((((rw9).length + 1) / 2)) (c5)) (v' := .slice (A5) (((rw9).take ((((rw9).length + 1) / 2))).length) (c5)) (Ru.lsliceTo (h := (((rw9).length + 1) / 2)) Tryd.underlying31 el57 rfl rfl (by omega) (by omega)) (sl_congr (by first | rfl | (simp; done) | omega | (simp; omega)))) rfl) (b := ?_)
    refine aO [] [] 6 ?_
    refine cq 0 [] (b := leafOf_fn _ _ _ w12a (rd_takeN encP_len (hM12a.rd 0 rfl)) (by first | omega | (simp only [List.length_take]; omega)) (by first | omega | (simp only [List.length_take]; omega))) (c := ?_)
    rintro _ w12_6 ⟨A112_6, c112_6, A212_6, c212_6, A312_6, c312_6, rfl, hR12_6⟩
    have hM12_6 := hM12a.cl 0 hR12_6
    have hcr12_6_0 := (hM12_6.cap 0 rfl).1
    have hcr12_6_1 := (hM12_6.cap 1 rfl).1
    have hcr12_6_2 := (hM12_6.cap 2 rfl).1
    refine os 0 [] [3, 4, 6, 7, 8] ?_
    have hx12_7 : (a9).toNat < (L11_1).length := (by first | omega | (simp only [List.length_set]; omega))
    refine av [] [] 7 (a := by exact fun _ hw2 => kixF hx12_7 (hM12_6.rd 5 rfl) (h0 := by omega)) (b := ?_)
    refine aO [] [] 8 ?_
    let p3_ : PgL := (⟨⟨A112_6, c112_6, keysP ((rw9).take ((((rw9).length + 1) / 2)))⟩, ⟨A212_6, c212_6, ([] : List Int)⟩, ⟨A312_6, c312_6, ((rw9).take ((((rw9).length + 1) / 2))).map PairT.val⟩⟩ : PgL)
    refine sF 0 [] 5 p3_ hx12_7 fun w12_8 hM12_8 => ?_
    refine os 0 [] [3, 4, 6, 7, 8] ?_
    refine an [] [] ?_
    have hMk10 := Mem.gset (k := ⟨A112_6, c112_6, keysP ((rw9).take ((((rw9).length + 1) / 2)))⟩) (c := ⟨A212_6, c212_6, ([] : List Int)⟩) (v := ⟨A312_6, c312_6, ((rw9).take ((((rw9).length + 1) / 2))).map PairT.val⟩) ((a9).toNat) (hM12_8.pk [6, 0, 1, 2, 3, 4, 5, 7, 8])
    refine any 1 [] 9 [0, 1, 2, 4, 5] fun w13a hM13a => ?_
    have hcp13_5 := hM13a.cap 1 rfl
    refine av [0, 1, 2, 3, 4] [2] 5 (s := Vl (if c5 = (((rw9).length + 1) / 2) then A5 else ofs (A5) ((((rw9).length + 1) / 2) * 2)) (((rw9).drop ((((rw9).length + 1) / 2))).length) (c5 - (((rw9).length + 1) / 2))) (a := by exact fun w2 hw2 => cv (Ru.congr (v := .slice (if c5 = (((rw9).length + 1) / 2) then A5 else ofs (A5) ((((rw9).length + 1) / 2) * 2)) (((rw9).length) - (((rw9).length + 1) / 2)) (c5 - (((rw9).length + 1) / 2))) (v' := .slice (if c5 = (((rw9).length + 1) / 2) then A5 else ofs (A5) ((((rw9).length + 1) / 2) * 2)) (((rw9).drop ((((rw9).length + 1) / 2))).length) (c5 - (((rw9).length + 1) / 2))) (Ru.lsliceFrom (l := (((rw9).length + 1) / 2)) Tryd.underlying31 el57 rfl rfl (by omega) (by omega)) (sl_congr (by first | rfl | (simp; done) | omega | (simp; omega)))) rfl) (b := ?_)
    refine aO [] [] 6 ?_
    refine cq 0 [] (b := leafOf_fn _ _ _ w13a (rd_dropN (k := (((rw9).length + 1) / 2)) (c := c5) encP_len (hM13a.rd 1 rfl) q2 q2) (by first | omega | (simp only [List.length_drop]; omega)) (by first | omega | (simp only [List.length_drop]; omega))) (c := ?_)
    rintro _ w13_6 ⟨A113_6, c113_6, A213_6, c213_6, A313_6, c313_6, rfl, hR13_6⟩
    have hM13_6 := hM13a.cl 0 hR13_6
    have hcr13_6_0 := (hM13_6.cap 0 rfl).1
    have hcr13_6_1 := (hM13_6.cap 1 rfl).1
    have hcr13_6_2 := (hM13_6.cap 2 rfl).1
    refine os 0 [] [3, 4, 5, 7, 8] ?_
    have hx13_7 : (b9).toNat < ((L11_1).set ((a9).toNat) p3_).length := (by first | omega | (simp only [List.length_set]; omega))
    refine av [] [] 7 (a := by exact fun _ hw2 => kixF hx13_7 (hM13_6.rd 6 rfl) (h0 := by omega)) (b := ?_)
    refine aO [] [] 8 ?_
    let p4_ : PgL := (⟨⟨A113_6, c113_6, keysP ((rw9).drop ((((rw9).length + 1) / 2)))⟩, ⟨A213_6, c213_6, ([] : List Int)⟩, ⟨A313_6, c313_6, ((rw9).drop ((((rw9).length + 1) / 2))).map PairT.val⟩⟩ : PgL)
    refine sF 0 [] 6 p4_ hx13_7 fun w13_8 hM13_8 => ?_
    refine os 0 [] [3, 4, 5, 7, 8] ?_
    refine an [] [] ?_
    have hMk11 := Mem.gset (k := ⟨A113_6, c113_6, keysP ((rw9).drop ((((rw9).length + 1) / 2)))⟩) (c := ⟨A213_6, c213_6, ([] : List Int)⟩) (v := ⟨A313_6, c313_6, ((rw9).drop ((((rw9).length + 1) / 2))).map PairT.val⟩) ((b9).toNat) (hM13_8.pk [3, 0, 1, 2, 4, 5, 6, 7, 8])
    have hj2 : (up).toNat < (((L11_1).set ((a9).toNat) p3_).set ((b9).toNat) p4_).length := by simp only [List.length_set]; omega
    have hold : ((((L11_1).set ((a9).toNat) p3_).set ((b9).toNat) p4_)[(up).toNat]'hj2).t = gP (T).t up := by rw [← gP_ch (r := (T).root) hj2, tsg_set, tsg_set, hts1_1]; exact two_set hmd
    have hkold : ((((L11_1).set ((a9).toNat) p3_).set ((b9).toNat) p4_)[(up).toNat]'hj2).k.l.length = ((T).l[(up).toNat]'hju).k.l.length := by have h9 := congrArg (fun z => z.keys.length) hold; rw [hg_up] at h9; exact h9
    obtain ⟨v9, hv9⟩ : ∃ z, z = ((rw9).getD (((rw9).length + 1) / 2) ⟨0, 0⟩).key := ⟨_, rfl⟩
    refine any 1 [] 14 [1, 2, 3, 4, 5] fun w14a hM14a => ?_
    have hx14_3 : (up).toNat < (((L11_1).set ((a9).toNat) p3_).set ((b9).toNat) p4_).length := (by first | omega | (simp only [List.length_set]; omega))
    refine av [0, 1, 2] [1] 3 (a := by exact fun _ hw2 => kixF hx14_3 (hM14a.rd 3 rfl) (h0 := by omega)) (b := ?_)
    refine av [] [] 4 (a := by exact fun _ hw2 => kflF hx14_3 (hM14a.rd 3 rfl)) (b := ?_)
    refine av [] [] 5 (a := by exact fun _ hw2 => kldF hx14_3 (hw2.rd 2 rfl)) (b := ?_)
    have hx14_9 : (((rw9).length + 1) / 2) < (rw9).length := (by omega)
    refine av [6, 7, 8] [] 9 (a := by exact fun _ hw2 => kixF hx14_9 (hM14a.rd 1 rfl) (h0 := by omega)) (b := ?_)
    refine av [] [] 10 (a := by exact fun _ hw2 => kflF hx14_9 (hM14a.rd 1 rfl)) (b := ?_)
    refine av [] [] 11 (s := Vi (v9)) (a := by exact fun w2 hw2 => cv (Ru.congr (v := I (((rw9)[(((rw9).length + 1) / 2)]'hx14_9).key)) (v' := I (v9)) (Ru.load1 el3 rfl (ldf encP_len (hw2.rd 0 rfl) hx14_9 rfl)) (I_congr ((getP_key hx14_9).symm.trans hv9.symm))) rfl) (b := ?_)
    have hx14_12 : f < (((((L11_1).set ((a9).toNat) p3_).set ((b9).toNat) p4_)[(up).toNat]'hx14_3).k.l).length := (by rw [hkold]; omega)
    refine av [] [] 12 (a := by exact fun _ hw2 => kixM hx14_12 ((NsP.mem hM14a 0 rfl).get hx14_3).1 (h0 := by omega)) (b := ?_)
    refine aO [] [] 13 ?_
    refine O.mstore (vs := [I (v9)]) (xs' := ((((((L11_1).set ((a9).toNat) p3_).set ((b9).toNat) p4_)[(up).toNat]'hx14_3).k.l).set (f) v9).map I) 0 (3 * ((up).toNat)) hM14a rfl (pg_key (e := 3) (((L11_1).set ((a9).toNat) p3_).set ((b9).toNat) p4_) hx14_3) rfl el3 rfl rfl rfl rfl rfl (by simp; omega) (by simp) (spl_map (l := ((((L11_1).set ((a9).toNat) p3_).set ((b9).toNat) p4_)[(up).toNat]'hx14_3).k.l) (a := v9) hx14_12) (congrArg (fun z_ : List FE => [z_, [⟨.slice (A5) ((rw9).length) (c5), 57, 2, ((rw9).length), (rw9).flatMap encP⟩], [⟨.slice (bl b1_2) 1 1, 25, 2, 1, [I ((T).root), .slice (A11_1) ((L11_1).length) (c11_1)]⟩], [⟨.slice (A11_1) ((L11_1).length) (c11_1), 39, 3, ((L11_1).length), (((L11_1).set ((a9).toNat) p3_).set ((b9).toNat) p4_).flatMap encPg⟩], [⟨.slice (bl b0_1) 1 1, 25, 2, 1, [I (0), .slice (none) (0) (0)]⟩], [⟨.slice (bl b0_0) 1 1, 25, 2, 1, [I ((T).root), .slice ((T).A) ((T).l.length) ((T).cp)]⟩]]) (pg_keyset (e := 3) (((L11_1).set ((a9).toNat) p3_).set ((b9).toNat) p4_) hx14_3 hx14_12)) (fun w14_13 (hM14_13 : Mem w w14_13 [] [((((L11_1).set ((a9).toNat) p3_).set ((b9).toNat) p4_).set ((up).toNat) (⟨⟨((((L11_1).set ((a9).toNat) p3_).set ((b9).toNat) p4_)[(up).toNat]'hx14_3).k.A, ((((L11_1).set ((a9).toNat) p3_).set ((b9).toNat) p4_)[(up).toNat]'hx14_3).k.cp, (((((L11_1).set ((a9).toNat) p3_).set ((b9).toNat) p4_)[(up).toNat]'hx14_3).k.l).set (f) v9⟩, ((((L11_1).set ((a9).toNat) p3_).set ((b9).toNat) p4_)[(up).toNat]'hx14_3).c, ((((L11_1).set ((a9).toNat) p3_).set ((b9).toNat) p4_)[(up).toNat]'hx14_3).v⟩ : PgL)).flatMap (pgF 3), [⟨.slice (A5) ((rw9).length) (c5), 57, 2, ((rw9).length), (rw9).flatMap encP⟩], [⟨.slice (bl b1_2) 1 1, 25, 2, 1, [I ((T).root), .slice (A11_1) ((L11_1).length) (c11_1)]⟩], [⟨.slice (A11_1) ((L11_1).length) (c11_1), 39, 3, ((L11_1).length), (((L11_1).set ((a9).toNat) p3_).set ((b9).toNat) p4_).flatMap encPg⟩], [⟨.slice (bl b0_1) 1 1, 25, 2, 1, [I (0), .slice (none) (0) (0)]⟩], [⟨.slice (bl b0_0) 1 1, 25, 2, 1, [I ((T).root), .slice ((T).A) ((T).l.length) ((T).cp)]⟩]]) => ?_)
    refine os 0 [] [1, 2, 3, 4, 5] ?_
    refine an [] [] ?_
    let r5_ : List FE := ((((L11_1).set ((a9).toNat) p3_).set ((b9).toNat) p4_).set ((up).toNat) (⟨⟨((((L11_1).set ((a9).toNat) p3_).set ((b9).toNat) p4_)[(up).toNat]'hx14_3).k.A, ((((L11_1).set ((a9).toNat) p3_).set ((b9).toNat) p4_)[(up).toNat]'hx14_3).k.cp, (((((L11_1).set ((a9).toNat) p3_).set ((b9).toNat) p4_)[(up).toNat]'hx14_3).k.l).set (f) v9⟩, ((((L11_1).set ((a9).toNat) p3_).set ((b9).toNat) p4_)[(up).toNat]'hx14_3).c, ((((L11_1).set ((a9).toNat) p3_).set ((b9).toNat) p4_)[(up).toNat]'hx14_3).v⟩ : PgL)).flatMap (pgF 3)
    let r6_ : List FE := [⟨.slice (A5) ((rw9).length) (c5), 57, 2, ((rw9).length), (rw9).flatMap encP⟩]
    let r7_ : List FE := [⟨.slice (bl b1_2) 1 1, 25, 2, 1, [I ((T).root), .slice (A11_1) ((L11_1).length) (c11_1)]⟩]
    let r8_ : List FE := [⟨.slice (A11_1) ((L11_1).length) (c11_1), 39, 3, ((L11_1).length), (((L11_1).set ((a9).toNat) p3_).set ((b9).toNat) p4_).flatMap encPg⟩]
    let r9_ : List FE := [⟨.slice (bl b0_1) 1 1, 25, 2, 1, [I (0), .slice (none) (0) (0)]⟩]
    let r10_ : List FE := [⟨.slice (bl b0_0) 1 1, 25, 2, 1, [I ((T).root), .slice ((T).A) ((T).l.length) ((T).cp)]⟩]
    have hMk12 : Mem w w14_13 [] [r5_, r6_, r7_, [⟨.slice (A11_1) ((L11_1).length) (c11_1), 39, 3, ((L11_1).length), ((((L11_1).set ((a9).toNat) p3_).set ((b9).toNat) p4_).set ((up).toNat) (⟨⟨((((L11_1).set ((a9).toNat) p3_).set ((b9).toNat) p4_)[(up).toNat]'hx14_3).k.A, ((((L11_1).set ((a9).toNat) p3_).set ((b9).toNat) p4_)[(up).toNat]'hx14_3).k.cp, (((((L11_1).set ((a9).toNat) p3_).set ((b9).toNat) p4_)[(up).toNat]'hx14_3).k.l).set (f) v9⟩, ((((L11_1).set ((a9).toNat) p3_).set ((b9).toNat) p4_)[(up).toNat]'hx14_3).c, ((((L11_1).set ((a9).toNat) p3_).set ((b9).toNat) p4_)[(up).toNat]'hx14_3).v⟩ : PgL)).flatMap encPg⟩], r9_, r10_] := Mem.cast hM14_13 (congrArg (fun z_ : List Value => [r5_, r6_, r7_, [⟨.slice (A11_1) ((L11_1).length) (c11_1), 39, 3, ((L11_1).length), z_⟩], r9_, r10_]) (enc_keyset (((L11_1).set ((a9).toNat) p3_).set ((b9).toNat) p4_) hx14_3 (f := f) (v := v9)))
    have hq13 : ((((L11_1).set ((a9).toNat) p3_).set ((b9).toNat) p4_).set ((up).toNat) (⟨⟨((((L11_1).set ((a9).toNat) p3_).set ((b9).toNat) p4_)[(up).toNat]'hx14_3).k.A, ((((L11_1).set ((a9).toNat) p3_).set ((b9).toNat) p4_)[(up).toNat]'hx14_3).k.cp, (((((L11_1).set ((a9).toNat) p3_).set ((b9).toNat) p4_)[(up).toNat]'hx14_3).k.l).set (f) v9⟩, ((((L11_1).set ((a9).toNat) p3_).set ((b9).toNat) p4_)[(up).toNat]'hx14_3).c, ((((L11_1).set ((a9).toNat) p3_).set ((b9).toNat) p4_)[(up).toNat]'hx14_3).v⟩ : PgL) : List PgL) = (((L11_1).set ((a9).toNat) p3_).set ((b9).toNat) p4_).set ((up).toNat) (⟨⟨((((L11_1).set ((a9).toNat) p3_).set ((b9).toNat) p4_)[(up).toNat]'hx14_3).k.A, ((((L11_1).set ((a9).toNat) p3_).set ((b9).toNat) p4_)[(up).toNat]'hx14_3).k.cp, (((((L11_1).set ((a9).toNat) p3_).set ((b9).toNat) p4_)[(up).toNat]'hx14_3).k.l).set (f) v9⟩, ((((L11_1).set ((a9).toNat) p3_).set ((b9).toNat) p4_)[(up).toNat]'hx14_3).c, ((((L11_1).set ((a9).toNat) p3_).set ((b9).toNat) p4_)[(up).toNat]'hx14_3).v⟩ : PgL) := rfl
    have hMn13 := hMk12.reF 3 hq13
    have hMn14 := hMn13.reB 2 1 (show (L11_1).length = ((((L11_1).set ((a9).toNat) p3_).set ((b9).toNat) p4_).set ((up).toNat) (⟨⟨((((L11_1).set ((a9).toNat) p3_).set ((b9).toNat) p4_)[(up).toNat]'hx14_3).k.A, ((((L11_1).set ((a9).toNat) p3_).set ((b9).toNat) p4_)[(up).toNat]'hx14_3).k.cp, (((((L11_1).set ((a9).toNat) p3_).set ((b9).toNat) p4_)[(up).toNat]'hx14_3).k.l).set (f) v9⟩, ((((L11_1).set ((a9).toNat) p3_).set ((b9).toNat) p4_)[(up).toNat]'hx14_3).c, ((((L11_1).set ((a9).toNat) p3_).set ((b9).toNat) p4_)[(up).toNat]'hx14_3).v⟩ : PgL)).length from (by first | rfl | simp | (simp; omega)))
    refine Sb 3 [2] 4 fun w15_1 hM15_1 => ?_
    refine EG 3 [] ?_
    refine PG (vs := [.agg #[I ((T).root), .slice (A11_1) (((((L11_1).set ((a9).toNat) p3_).set ((b9).toNat) p4_).set ((up).toNat) (⟨⟨((((L11_1).set ((a9).toNat) p3_).set ((b9).toNat) p4_)[(up).toNat]'hx14_3).k.A, ((((L11_1).set ((a9).toNat) p3_).set ((b9).toNat) p4_)[(up).toNat]'hx14_3).k.cp, (((((L11_1).set ((a9).toNat) p3_).set ((b9).toNat) p4_)[(up).toNat]'hx14_3).k.l).set (f) v9⟩, ((((L11_1).set ((a9).toNat) p3_).set ((b9).toNat) p4_)[(up).toNat]'hx14_3).c, ((((L11_1).set ((a9).toNat) p3_).set ((b9).toNat) p4_)[(up).toNat]'hx14_3).v⟩ : PgL)).length) (c11_1)], I ((-1))]) (ResV.cell (l := [I ((T).root), .slice (A11_1) (((((L11_1).set ((a9).toNat) p3_).set ((b9).toNat) p4_).set ((up).toNat) (⟨⟨((((L11_1).set ((a9).toNat) p3_).set ((b9).toNat) p4_)[(up).toNat]'hx14_3).k.A, ((((L11_1).set ((a9).toNat) p3_).set ((b9).toNat) p4_)[(up).toNat]'hx14_3).k.cp, (((((L11_1).set ((a9).toNat) p3_).set ((b9).toNat) p4_)[(up).toNat]'hx14_3).k.l).set (f) v9⟩, ((((L11_1).set ((a9).toNat) p3_).set ((b9).toNat) p4_)[(up).toNat]'hx14_3).c, ((((L11_1).set ((a9).toNat) p3_).set ((b9).toNat) p4_)[(up).toNat]'hx14_3).v⟩ : PgL)).length) (c11_1)]) rfl (mem_blk (i := 4) (j := 0) hM15_1 rfl rfl) el25 rfl (ResV.tmp rfl ResV.nil)) ?_
    have hfin := mend_leaf2 hmd hk0 (r := rw9) (by rw [hg_a9, hg_b9]) (by omega) (L := tsG ((((L11_1).set ((a9).toNat) p3_).set ((b9).toNat) p4_).set ((up).toNat) (⟨⟨((((L11_1).set ((a9).toNat) p3_).set ((b9).toNat) p4_)[(up).toNat]'hx14_3).k.A, ((((L11_1).set ((a9).toNat) p3_).set ((b9).toNat) p4_)[(up).toNat]'hx14_3).k.cp, (((((L11_1).set ((a9).toNat) p3_).set ((b9).toNat) p4_)[(up).toNat]'hx14_3).k.l).set (f) v9⟩, ((((L11_1).set ((a9).toNat) p3_).set ((b9).toNat) p4_)[(up).toNat]'hx14_3).c, ((((L11_1).set ((a9).toNat) p3_).set ((b9).toNat) p4_)[(up).toNat]'hx14_3).v⟩ : PgL))) (by rw [tsg_set, show ((⟨⟨((((L11_1).set ((a9).toNat) p3_).set ((b9).toNat) p4_)[(up).toNat]'hx14_3).k.A, ((((L11_1).set ((a9).toNat) p3_).set ((b9).toNat) p4_)[(up).toNat]'hx14_3).k.cp, (((((L11_1).set ((a9).toNat) p3_).set ((b9).toNat) p4_)[(up).toNat]'hx14_3).k.l).set (f) v9⟩, ((((L11_1).set ((a9).toNat) p3_).set ((b9).toNat) p4_)[(up).toNat]'hx14_3).c, ((((L11_1).set ((a9).toNat) p3_).set ((b9).toNat) p4_)[(up).toNat]'hx14_3).v⟩ : PgL)).t = setK (gP (T).t up) f v9 from (by rw [← hold]; rfl), tsg_set, tsg_set, hts1_1, hv9]; rfl)
    have hq15 : ((((L11_1).set ((a9).toNat) p3_).set ((b9).toNat) p4_).set ((up).toNat) (⟨⟨((((L11_1).set ((a9).toNat) p3_).set ((b9).toNat) p4_)[(up).toNat]'hx14_3).k.A, ((((L11_1).set ((a9).toNat) p3_).set ((b9).toNat) p4_)[(up).toNat]'hx14_3).k.cp, (((((L11_1).set ((a9).toNat) p3_).set ((b9).toNat) p4_)[(up).toNat]'hx14_3).k.l).set (f) v9⟩, ((((L11_1).set ((a9).toNat) p3_).set ((b9).toNat) p4_)[(up).toNat]'hx14_3).c, ((((L11_1).set ((a9).toNat) p3_).set ((b9).toNat) p4_)[(up).toNat]'hx14_3).v⟩ : PgL) : List PgL) = ((((L11_1).set ((a9).toNat) p3_).set ((b9).toNat) p4_).set ((up).toNat) (⟨⟨((((L11_1).set ((a9).toNat) p3_).set ((b9).toNat) p4_)[(up).toNat]'hx14_3).k.A, ((((L11_1).set ((a9).toNat) p3_).set ((b9).toNat) p4_)[(up).toNat]'hx14_3).k.cp, (((((L11_1).set ((a9).toNat) p3_).set ((b9).toNat) p4_)[(up).toNat]'hx14_3).k.l).set (f) v9⟩, ((((L11_1).set ((a9).toNat) p3_).set ((b9).toNat) p4_)[(up).toNat]'hx14_3).c, ((((L11_1).set ((a9).toNat) p3_).set ((b9).toNat) p4_)[(up).toNat]'hx14_3).v⟩ : PgL)) := (by first | rfl | simp | (simp; omega))
    have hMn15 := hM15_1.reF 3 hq15
    exact ⟨(((L11_1).set ((a9).toNat) p3_).set ((b9).toNat) p4_).set ((up).toNat) (⟨⟨((((L11_1).set ((a9).toNat) p3_).set ((b9).toNat) p4_)[(up).toNat]'hx14_3).k.A, ((((L11_1).set ((a9).toNat) p3_).set ((b9).toNat) p4_)[(up).toNat]'hx14_3).k.cp, (((((L11_1).set ((a9).toNat) p3_).set ((b9).toNat) p4_)[(up).toNat]'hx14_3).k.l).set (f) v9⟩, ((((L11_1).set ((a9).toNat) p3_).set ((b9).toNat) p4_)[(up).toNat]'hx14_3).c, ((((L11_1).set ((a9).toNat) p3_).set ((b9).toNat) p4_)[(up).toNat]'hx14_3).v⟩ : PgL), A11_1, c11_1, (by rw [hfin.2]; rfl), hfin.1, (hMn15.pk [3, 0])⟩
  have hk0 : (gP (T).t a9).kids ≠ [] := by rw [hg_a9]; intro e9; exact absurd (show (((T).l[(a9).toNat]'hja).c.l).length = 0 from congrArg List.length e9) (by omega)
  have hnn := hmd.inn hk0
  rw [hg_a9, hg_b9] at hnn
  have hnA : ((T).l[(a9).toNat]'hja).c.l.length = ((T).l[(a9).toNat]'hja).k.l.length + 1 := hnn.1
  have hnB : ((T).l[(b9).toNat]'hjb).c.l.length = ((T).l[(b9).toNat]'hjb).k.l.length + 1 := hnn.2
  obtain ⟨k9, hk9⟩ : ∃ z, z = ((T).l[(up).toNat]'hju).k.l.getD f 0 := ⟨_, rfl⟩
  let ks9 : List Int := ((T).l[(a9).toNat]'hja).k.l ++ [k9] ++ ((T).l[(b9).toNat]'hjb).k.l
  have hks : ks9 = ((T).l[(a9).toNat]'hja).k.l ++ [k9] ++ ((T).l[(b9).toNat]'hjb).k.l := rfl
  let cs9 : List Int := ((T).l[(a9).toNat]'hja).c.l ++ ((T).l[(b9).toNat]'hjb).c.l
  have hcs : cs9 = ((T).l[(a9).toNat]'hja).c.l ++ ((T).l[(b9).toNat]'hjb).c.l := rfl
  have hksl : (ks9).length = ((T).l[(a9).toNat]'hja).k.l.length + 1 + ((T).l[(b9).toNat]'hjb).k.l.length := by rw [hks]; simp; omega
  have hcsl : (cs9).length = (ks9).length + 1 := by rw [hksl, hcs, List.length_append]; omega
  have hksb : ks9 = bothK (T).t up a9 b9 f := by unfold bothK; rw [hks, hg_a9, hg_b9, hg_up, hk9]; rfl
  have hcsb : cs9 = bothC (T).t a9 b9 := by unfold bothC; rw [hcs, hg_a9, hg_b9]; rfl
  have hx16_3 : (a9).toNat < ((T).l).length := (by omega)
  refine ov 6 [4] (a := kixF hx16_3 (hNT.at hM1_3).1 (h0 := by omega)) (b := ?_)
  refine ov 0 [] (a := kldN hx16_3 (hNT.at hM1_3).1) (b := ?_)
  refine cp 0 [] (b := insideOf_fn (((T).l)[(a9).toNat]'hx16_3) w1_3 (((hNT.at hM1_3)).2.get hx16_3)) (c := fun w16_5 hM16_5 => ?_)
  refine Al 0 [] fun w16_6 b16_6 hb16_6 hM16_6 => ?_
  refine Sb 0 [] 0 fun w16_7 hM16_7 => ?_
  have hx17_3 : (b9).toNat < ((T).l).length := (by omega)
  refine ov 6 [5] (a := kixF hx17_3 (hNT.at hM16_7).1 (h0 := by omega)) (b := ?_)
  refine ov 0 [] (a := kldN hx17_3 (hNT.at hM16_7).1) (b := ?_)
  refine cp 0 [] (b := insideOf_fn (((T).l)[(b9).toNat]'hx17_3) w16_7 (((hNT.at hM16_7)).2.get hx17_3)) (c := fun w17_5 hM17_5 => ?_)
  refine Al 0 [] fun w17_6 b17_6 hb17_6 hM17_6 => ?_
  refine Sb 0 [] 0 fun w17_7 hM17_7 => ?_
  refine ct2 1 [] (fun (A7 : Option Addr) (c7 : Nat) => ([(16, Vl (A7) ((ks9).length) (c7))] : List (Nat × SV))) (fun (A7 : Option Addr) (c7 : Nat) => True) (fun (A7 : Option Addr) (c7 : Nat) => [[⟨.slice (A7) ((ks9).length) (c7), 3, 1, ((ks9).length), (ks9).map I⟩]]) [1, 3, 6, 8, 9, 10, 11, 14, 15] [0, 1, 2, 3, 4, 5, 6] ?_ (fun A7 c7 σ w_r18 hI hM_r18 => ?_)
  · refine any 0 [] 18 [0, 1, 2, 3, 4, 5, 6] fun w18a hM18a => ?_
    have hx18_6 : (up).toNat < ((T).l).length := (by omega)
    refine av [0, 1, 3, 4, 5] [1, 6] 6 (a := by exact fun _ hw2 => kixF hx18_6 (hNT.at hM18a).1 (h0 := by omega)) (b := ?_)
    refine av [] [] 7 (a := by exact fun _ hw2 => kflF hx18_6 (hNT.at hM18a).1) (b := ?_)
    refine aT [9, 14, 15] [0] 2 8 ?_ ?_
    · refine cq 0 [] (vs := [.slice (((((T).l)[(a9).toNat]'hx16_3)).k.A) ((((((T).l)[(a9).toNat]'hx16_3)).k.l).length) (((((T).l)[(a9).toNat]'hx16_3)).k.cp)]) (hvs := (by first | rfl | (rw [show (((((T).l)[(a9).toNat]'hx16_3)).k.l).length = ((((T).l)[(a9).toNat]'hx16_3)).k.l.length from (by first | rfl | (simp; done) | omega | (simp; omega))]; rfl))) (b := scopyInts_fn (((((T).l)[(a9).toNat]'hx16_3)).k.A) (((((T).l)[(a9).toNat]'hx16_3)).k.cp) (((((T).l)[(a9).toNat]'hx16_3)).k.l) w18a (((hNT.at hM18a)).2.get hx16_3).1 qo) (c := ?_)
      rintro _ w18_2 ⟨A118_2, c118_2, rfl, hR18_2⟩
      have hM18_2 := hM18a.cl 0 hR18_2
      have hcr18_2_0 := (hM18_2.cap 0 rfl).1
      refine os 0 [] [1, 2, 3, 4, 5, 6, 7] ?_
      refine aO [] [] 8 ?_
      refine ov 0 [] (a := kldF hx18_6 (hNT.at hM18_2).1) (b := ?_)
      refine os 0 [] [1, 2, 3, 4, 5, 6, 7] ?_
      have hx18_10 : f < ((((T).l)[(up).toNat]'hx18_6).k.l).length := (by omega)
      refine av [] [] 10 (a := by exact fun _ hw2 => kixM hx18_10 (((hNT.at hM18_2)).2.get hx18_6).1 (h0 := by omega)) (b := ?_)
      refine aO [] [] 11 ?_
      refine ov 0 [] (s := Vi (k9)) (a := by exact cv (Ru.congr (v := I (((((T).l)[(up).toNat]'hx18_6).k.l)[f]'hx18_10)) (v' := I (k9)) (Ru.load1 el3 rfl (ldm (((hNT.at hM18_2)).2.get hx18_6).1 hx18_10)) (I_congr ((getD_in hx18_10).symm.trans hk9.symm))) rfl) (b := ?_)
      refine os 0 [] [1, 2, 3, 4, 5, 6, 7] ?_
      refine aO [] [] 12 ?_
      refine Lt 0 [] (([k9]).map I) (fun w18_12 b18_12 hb18_12 hM18_12 => ?_)
      refine os 0 [] [2, 3, 4, 5, 6, 7, 8] ?_
      refine aO [] [] 13 ?_
      refine aM 0 [] 1 (hM18_12.rd 0 rfl) (fun w18_13 A18_13 c18_13 hc18_13 hM18_13 => ?_) (hn := by first | omega | (simp only [List.length_append, List.length_cons, List.length_nil]; omega)) (hb := by first | omega | (simp only [List.length_append, List.length_cons, List.length_nil]; omega))
      refine os 0 [] [2, 3, 4, 5, 6, 7, 8] ?_
      refine aO [] [] 16 ?_
      refine aM 0 [] 1 (((hNT.at hM18_13)).2.get hx17_3).1 (fun w18_16 A18_16 c18_16 hc18_16 hM18_16 => ?_) (hn := by first | omega | (simp only [List.length_append, List.length_cons, List.length_nil]; omega)) (hb := by first | omega | (simp only [List.length_append, List.length_cons, List.length_nil]; omega))
      refine os 0 [] [2, 3, 4, 5, 6, 7, 8] ?_
      refine an [17] [] ?_
      have hq17 : ((((((T).l)[(a9).toNat]'hx16_3)).k.l) ++ [k9] ++ ((((T).l)[(b9).toNat]'hx17_3)).k.l : List Int) = ks9 := hks.symm
      have hMn17 := hM18_16.reM 1 hq17
      exact ce2 0 [] A18_16 c18_16 [1, 2, 3, 4, 5, 6, 7, 8] (h := by exact trivial)
    refine ov 0 [] (a := kldF hx18_6 (hNT.at hM18a).1) (b := ?_)
    refine os 0 [] [0, 1, 2, 3, 4, 5, 6] ?_
    have hx18_10 : f < ((((T).l)[(up).toNat]'hx18_6).k.l).length := (by omega)
    refine av [] [] 10 (a := by exact fun _ hw2 => kixM hx18_10 (((hNT.at hM18a)).2.get hx18_6).1 (h0 := by omega)) (b := ?_)
    refine aT [] [] 2 11 ?_ ?_
    · refine cq 0 [] (vs := [.slice (((((T).l)[(a9).toNat]'hx16_3)).k.A) ((((((T).l)[(a9).toNat]'hx16_3)).k.l).length) (((((T).l)[(a9).toNat]'hx16_3)).k.cp)]) (hvs := (by first | rfl | (rw [show (((((T).l)[(a9).toNat]'hx16_3)).k.l).length = ((((T).l)[(a9).toNat]'hx16_3)).k.l.length from (by first | rfl | (simp; done) | omega | (simp; omega))]; rfl))) (b := scopyInts_fn (((((T).l)[(a9).toNat]'hx16_3)).k.A) (((((T).l)[(a9).toNat]'hx16_3)).k.cp) (((((T).l)[(a9).toNat]'hx16_3)).k.l) w18a (((hNT.at hM18a)).2.get hx16_3).1 qo) (c := ?_)
      rintro _ w18_2 ⟨A118_2, c118_2, rfl, hR18_2⟩
      have hM18_2 := hM18a.cl 0 hR18_2
      have hcr18_2_0 := (hM18_2.cap 0 rfl).1
      refine os 0 [] [1, 2, 3, 4, 5, 6, 7] ?_
      refine aO [] [] 11 ?_
      refine ov 0 [] (s := Vi (k9)) (a := by exact cv (Ru.congr (v := I (((((T).l)[(up).toNat]'hx18_6).k.l)[f]'hx18_10)) (v' := I (k9)) (Ru.load1 el3 rfl (ldm (((hNT.at hM18_2)).2.get hx18_6).1 hx18_10)) (I_congr ((getD_in hx18_10).symm.trans hk9.symm))) rfl) (b := ?_)
      refine os 0 [] [1, 2, 3, 4, 5, 6, 7] ?_
      refine aO [] [] 12 ?_
      refine Lt 0 [] (([k9]).map I) (fun w18_12 b18_12 hb18_12 hM18_12 => ?_)
      refine os 0 [] [2, 3, 4, 5, 6, 7, 8] ?_
      refine aO [] [] 13 ?_
      refine aM 0 [] 1 (hM18_12.rd 0 rfl) (fun w18_13 A18_13 c18_13 hc18_13 hM18_13 => ?_) (hn := by first | omega | (simp only [List.length_append, List.length_cons, List.length_nil]; omega)) (hb := by first | omega | (simp only [List.length_append, List.length_cons, List.length_nil]; omega))
      refine os 0 [] [2, 3, 4, 5, 6, 7, 8] ?_
      refine aO [] [] 16 ?_
      refine aM 0 [] 1 (((hNT.at hM18_13)).2.get hx17_3).1 (fun w18_16 A18_16 c18_16 hc18_16 hM18_16 => ?_) (hn := by first | omega | (simp only [List.length_append, List.length_cons, List.length_nil]; omega)) (hb := by first | omega | (simp only [List.length_append, List.length_cons, List.length_nil]; omega))
      refine os 0 [] [2, 3, 4, 5, 6, 7, 8] ?_
      refine an [17] [] ?_
      have hq18 : ((((((T).l)[(a9).toNat]'hx16_3)).k.l) ++ [k9] ++ ((((T).l)[(b9).toNat]'hx17_3)).k.l : List Int) = ks9 := hks.symm
      have hMn18 := hM18_16.reM 1 hq18
      exact ce2 0 [] A18_16 c18_16 [1, 2, 3, 4, 5, 6, 7, 8] (h := by exact trivial)
    refine ov 0 [] (s := Vi (k9)) (a := by exact cv (Ru.congr (v := I (((((T).l)[(up).toNat]'hx18_6).k.l)[f]'hx18_10)) (v' := I (k9)) (Ru.load1 el3 rfl (ldm (((hNT.at hM18a)).2.get hx18_6).1 hx18_10)) (I_congr ((getD_in hx18_10).symm.trans hk9.symm))) rfl) (b := ?_)
    refine os 0 [] [0, 1, 2, 3, 4, 5, 6] ?_
    refine aT [] [] 2 12 ?_ ?_
    · refine cq 0 [] (vs := [.slice (((((T).l)[(a9).toNat]'hx16_3)).k.A) ((((((T).l)[(a9).toNat]'hx16_3)).k.l).length) (((((T).l)[(a9).toNat]'hx16_3)).k.cp)]) (hvs := (by first | rfl | (rw [show (((((T).l)[(a9).toNat]'hx16_3)).k.l).length = ((((T).l)[(a9).toNat]'hx16_3)).k.l.length from (by first | rfl | (simp; done) | omega | (simp; omega))]; rfl))) (b := scopyInts_fn (((((T).l)[(a9).toNat]'hx16_3)).k.A) (((((T).l)[(a9).toNat]'hx16_3)).k.cp) (((((T).l)[(a9).toNat]'hx16_3)).k.l) w18a (((hNT.at hM18a)).2.get hx16_3).1 qo) (c := ?_)
      rintro _ w18_2 ⟨A118_2, c118_2, rfl, hR18_2⟩
      have hM18_2 := hM18a.cl 0 hR18_2
      have hcr18_2_0 := (hM18_2.cap 0 rfl).1
      refine os 0 [] [1, 2, 3, 4, 5, 6, 7] ?_
      refine aO [] [] 12 ?_
      refine Lt 0 [] (([k9]).map I) (fun w18_12 b18_12 hb18_12 hM18_12 => ?_)
      refine os 0 [] [2, 3, 4, 5, 6, 7, 8] ?_
      refine aO [] [] 13 ?_
      refine aM 0 [] 1 (hM18_12.rd 0 rfl) (fun w18_13 A18_13 c18_13 hc18_13 hM18_13 => ?_) (hn := by first | omega | (simp only [List.length_append, List.length_cons, List.length_nil]; omega)) (hb := by first | omega | (simp only [List.length_append, List.length_cons, List.length_nil]; omega))
      refine os 0 [] [2, 3, 4, 5, 6, 7, 8] ?_
      refine aO [] [] 16 ?_
      refine aM 0 [] 1 (((hNT.at hM18_13)).2.get hx17_3).1 (fun w18_16 A18_16 c18_16 hc18_16 hM18_16 => ?_) (hn := by first | omega | (simp only [List.length_append, List.length_cons, List.length_nil]; omega)) (hb := by first | omega | (simp only [List.length_append, List.length_cons, List.length_nil]; omega))
      refine os 0 [] [2, 3, 4, 5, 6, 7, 8] ?_
      refine an [17] [] ?_
      have hq19 : ((((((T).l)[(a9).toNat]'hx16_3)).k.l) ++ [k9] ++ ((((T).l)[(b9).toNat]'hx17_3)).k.l : List Int) = ks9 := hks.symm
      have hMn19 := hM18_16.reM 1 hq19
      exact ce2 0 [] A18_16 c18_16 [1, 2, 3, 4, 5, 6, 7, 8] (h := by exact trivial)
    refine Lt 0 [] (([k9]).map I) (fun w18_12 b18_12 hb18_12 hM18_12 => ?_)
    refine os 0 [] [1, 2, 3, 4, 5, 6, 7] ?_
    refine aO [] [] 2 ?_
    refine cq 0 [] (vs := [.slice (((((T).l)[(a9).toNat]'hx16_3)).k.A) ((((((T).l)[(a9).toNat]'hx16_3)).k.l).length) (((((T).l)[(a9).toNat]'hx16_3)).k.cp)]) (hvs := (by first | rfl | (rw [show (((((T).l)[(a9).toNat]'hx16_3)).k.l).length = ((((T).l)[(a9).toNat]'hx16_3)).k.l.length from (by first | rfl | (simp; done) | omega | (simp; omega))]; rfl))) (b := scopyInts_fn (((((T).l)[(a9).toNat]'hx16_3)).k.A) (((((T).l)[(a9).toNat]'hx16_3)).k.cp) (((((T).l)[(a9).toNat]'hx16_3)).k.l) w18_12 (((hNT.at hM18_12)).2.get hx16_3).1 qo) (c := ?_)
    rintro _ w18_2 ⟨A118_2, c118_2, rfl, hR18_2⟩
    have hM18_2 := hM18_12.cl 0 hR18_2
    have hcr18_2_0 := (hM18_2.cap 0 rfl).1
    refine os 0 [] [2, 3, 4, 5, 6, 7, 8] ?_
    refine aO [] [] 13 ?_
    refine aM 0 [] 0 (hM18_2.rd 1 rfl) (fun w18_13 A18_13 c18_13 hc18_13 hM18_13 => ?_) (hn := by first | omega | (simp only [List.length_append, List.length_cons, List.length_nil]; omega)) (hb := by first | omega | (simp only [List.length_append, List.length_cons, List.length_nil]; omega))
    refine os 0 [] [2, 3, 4, 5, 6, 7, 8] ?_
    refine aO [] [] 16 ?_
    refine aM 0 [] 0 (((hNT.at hM18_13)).2.get hx17_3).1 (fun w18_16 A18_16 c18_16 hc18_16 hM18_16 => ?_) (hn := by first | omega | (simp only [List.length_append, List.length_cons, List.length_nil]; omega)) (hb := by first | omega | (simp only [List.length_append, List.length_cons, List.length_nil]; omega))
    refine os 0 [] [2, 3, 4, 5, 6, 7, 8] ?_
    refine an [17] [] ?_
    have hq20 : ((((((T).l)[(a9).toNat]'hx16_3)).k.l) ++ [k9] ++ ((((T).l)[(b9).toNat]'hx17_3)).k.l : List Int) = ks9 := hks.symm
    have hMn20 := hM18_16.reM 0 hq20
    exact ce2 0 [] A18_16 c18_16 [0, 2, 3, 4, 5, 6, 7, 8] (h := by exact trivial)
  have hcl0_r18 := (hM_r18.cap 0 rfl).1
  have hcl4_r18 := (hM_r18.cap 4 rfl).1
  refine ct3 0 [] (fun (bx9 : Nat) (A6 : Option Addr) (c6 : Nat) => ([(17, Vp (bl bx9) (0))] : List (Nat × SV))) (fun (bx9 : Nat) (A6 : Option Addr) (c6 : Nat) => True) (fun (bx9 : Nat) (A6 : Option Addr) (c6 : Nat) => [[⟨.slice (bl bx9) 1 1, 98, 2, 1, [.slice (A7) ((ks9).length) (c7), .slice (A6) ((cs9).length) (c6)]⟩], [⟨.slice (A6) ((cs9).length) (c6), 3, 1, ((cs9).length), (cs9).map I⟩]]) [1, 3, 6, 8, 9, 10, 11, 16] [0, 1, 2, 3, 4, 5, 6, 7] ?_ (fun bx9 A6 c6 σ w_r19 hI hM_r19 => ?_)
  · refine any 0 [] 10 [0, 1, 2, 3, 4, 5, 6, 7] fun w19a hM19a => ?_
    refine aT [0, 1, 2, 4, 5] [2, 1] 3 8 ?_ ?_
    · refine cq 0 [] (vs := [.slice (((((T).l)[(a9).toNat]'hx16_3)).c.A) ((((((T).l)[(a9).toNat]'hx16_3)).c.l).length) (((((T).l)[(a9).toNat]'hx16_3)).c.cp)]) (hvs := (by first | rfl | (rw [show (((((T).l)[(a9).toNat]'hx16_3)).c.l).length = ((((T).l)[(a9).toNat]'hx16_3)).c.l.length from (by first | rfl | (simp; done) | omega | (simp; omega))]; rfl))) (b := scopyInts_fn (((((T).l)[(a9).toNat]'hx16_3)).c.A) (((((T).l)[(a9).toNat]'hx16_3)).c.cp) (((((T).l)[(a9).toNat]'hx16_3)).c.l) w19a (((hNT.at hM19a)).2.get hx16_3).2.1 qo) (c := ?_)
      rintro _ w19_3 ⟨A119_3, c119_3, rfl, hR19_3⟩
      have hM19_3 := hM19a.cl 0 hR19_3
      have hcr19_3_0 := (hM19_3.cap 0 rfl).1
      refine os 0 [] [1, 2, 3, 4, 5, 6, 7, 8] ?_
      refine aT [] [] 6 8 ?_ ?_
      · refine aM 0 [] 0 (((hNT.at hM19_3)).2.get hx17_3).2.1 (fun w19_6 A19_6 c19_6 hc19_6 hM19_6 => ?_) (hn := by first | omega | (simp only [List.length_append]; omega)) (hb := by first | omega | (simp only [List.length_append]; omega))
        refine os 0 [] [1, 2, 3, 4, 5, 6, 7, 8] ?_
        refine aO [7] [] 8 ?_
        refine Al 0 [] fun w19_8 b19_8 hb19_8 hM19_8 => ?_
        refine os 0 [] [2, 3, 4, 5, 6, 7, 8, 9] ?_
        refine aO [] [] 9 ?_
        refine Sb 0 [] 0 fun w19_9 hM19_9 => ?_
        refine os 0 [] [2, 3, 4, 5, 6, 7, 8, 9] ?_
        refine an [] [] ?_
        have hq21 : ((((((T).l)[(a9).toNat]'hx16_3)).c.l) ++ ((((T).l)[(b9).toNat]'hx17_3)).c.l : List Int) = cs9 := hcs.symm
        have hMn21 := hM19_9.reM 1 hq21
        have hMn22 := hMn21.reB 0 1 (show ((((((T).l)[(a9).toNat]'hx16_3)).c.l) ++ ((((T).l)[(b9).toNat]'hx17_3)).c.l).length = (cs9).length from congrArg List.length hq21)
        exact ce3 0 [] b19_8 A19_6 c19_6 [0, 1, 2, 3, 4, 5, 6, 7, 8, 9] (h := by exact trivial)
      refine Al 0 [] fun w19_8 b19_8 hb19_8 hM19_8 => ?_
      refine os 0 [] [2, 3, 4, 5, 6, 7, 8, 9] ?_
      refine aO [] [] 6 ?_
      refine aM 0 [] 1 (((hNT.at hM19_8)).2.get hx17_3).2.1 (fun w19_6 A19_6 c19_6 hc19_6 hM19_6 => ?_) (hn := by first | omega | (simp only [List.length_append]; omega)) (hb := by first | omega | (simp only [List.length_append]; omega))
      refine os 0 [] [2, 3, 4, 5, 6, 7, 8, 9] ?_
      refine aO [7] [] 9 ?_
      refine Sb 0 [] 0 fun w19_9 hM19_9 => ?_
      refine os 0 [] [2, 3, 4, 5, 6, 7, 8, 9] ?_
      refine an [] [] ?_
      have hq23 : ((((((T).l)[(a9).toNat]'hx16_3)).c.l) ++ ((((T).l)[(b9).toNat]'hx17_3)).c.l : List Int) = cs9 := hcs.symm
      have hMn23 := hM19_9.reM 1 hq23
      have hMn24 := hMn23.reB 0 1 (show ((((((T).l)[(a9).toNat]'hx16_3)).c.l) ++ ((((T).l)[(b9).toNat]'hx17_3)).c.l).length = (cs9).length from congrArg List.length hq23)
      exact ce3 0 [] b19_8 A19_6 c19_6 [0, 1, 2, 3, 4, 5, 6, 7, 8, 9] (h := by exact trivial)
    refine Al 0 [] fun w19_8 b19_8 hb19_8 hM19_8 => ?_
    refine os 0 [] [1, 2, 3, 4, 5, 6, 7, 8] ?_
    refine aO [] [] 3 ?_
    refine cq 0 [] (vs := [.slice (((((T).l)[(a9).toNat]'hx16_3)).c.A) ((((((T).l)[(a9).toNat]'hx16_3)).c.l).length) (((((T).l)[(a9).toNat]'hx16_3)).c.cp)]) (hvs := (by first | rfl | (rw [show (((((T).l)[(a9).toNat]'hx16_3)).c.l).length = ((((T).l)[(a9).toNat]'hx16_3)).c.l.length from (by first | rfl | (simp; done) | omega | (simp; omega))]; rfl))) (b := scopyInts_fn (((((T).l)[(a9).toNat]'hx16_3)).c.A) (((((T).l)[(a9).toNat]'hx16_3)).c.cp) (((((T).l)[(a9).toNat]'hx16_3)).c.l) w19_8 (((hNT.at hM19_8)).2.get hx16_3).2.1 qo) (c := ?_)
    rintro _ w19_3 ⟨A119_3, c119_3, rfl, hR19_3⟩
    have hM19_3 := hM19_8.cl 0 hR19_3
    have hcr19_3_0 := (hM19_3.cap 0 rfl).1
    refine os 0 [] [2, 3, 4, 5, 6, 7, 8, 9] ?_
    refine aO [] [] 6 ?_
    refine aM 0 [] 0 (((hNT.at hM19_3)).2.get hx17_3).2.1 (fun w19_6 A19_6 c19_6 hc19_6 hM19_6 => ?_) (hn := by first | omega | (simp only [List.length_append]; omega)) (hb := by first | omega | (simp only [List.length_append]; omega))
    refine os 0 [] [2, 3, 4, 5, 6, 7, 8, 9] ?_
    refine aO [7] [] 9 ?_
    refine Sb 0 [] 1 fun w19_9 hM19_9 => ?_
    refine os 0 [] [2, 3, 4, 5, 6, 7, 8, 9] ?_
    refine an [] [] ?_
    have hq25 : ((((((T).l)[(a9).toNat]'hx16_3)).c.l) ++ ((((T).l)[(b9).toNat]'hx17_3)).c.l : List Int) = cs9 := hcs.symm
    have hMn25 := hM19_9.reM 0 hq25
    have hMn26 := hMn25.reB 1 1 (show ((((((T).l)[(a9).toNat]'hx16_3)).c.l) ++ ((((T).l)[(b9).toNat]'hx17_3)).c.l).length = (cs9).length from congrArg List.length hq25)
    exact ce3 0 [] b19_8 A19_6 c19_6 [1, 0, 2, 3, 4, 5, 6, 7, 8, 9] (h := by exact trivial)
  have hcl1_r19 := (hM_r19.cap 1 rfl).1
  have hcl2_r19 := (hM_r19.cap 2 rfl).1
  have hcl6_r19 := (hM_r19.cap 6 rfl).1
  refine cd 7 [] (fun c164 => ?_) (fun c164 => ?_)
  · refine any 1 [] 7 [0, 1, 2, 3, 4, 5, 7, 8, 9] fun w21a hM21a => ?_
    refine aO [0, 1, 2, 3] [5, 0] 4 ?_
    refine cq 0 [] (b := innerOf_fn A7 c7 ks9 A6 c6 cs9 w21a (hM21a.rd 2 rfl) (hM21a.rd 1 rfl)) (c := ?_)
    rintro _ w21_4 ⟨A121_4, c121_4, rfl, hR21_4⟩
    have hM21_4 := hM21a.cl 0 hR21_4
    have hcr21_4_0 := (hM21_4.cap 0 rfl).1
    refine os 0 [] [1, 2, 3, 4, 5, 6, 8, 9, 10] ?_
    have hx21_5 : (a9).toNat < (L11_1).length := (by first | omega | (simp only [List.length_set]; omega))
    refine av [] [] 5 (a := by exact fun _ hw2 => kixF hx21_5 (hM21_4.rd 7 rfl) (h0 := by omega)) (b := ?_)
    refine aO [] [] 6 ?_
    refine sF 0 [] 7 (⟨⟨A7, c7, ks9⟩, ⟨A6, c6, cs9⟩, ⟨A121_4, c121_4, ([] : List Int)⟩⟩ : PgL) hx21_5 fun w21_6 hM21_6 => ?_
    refine os 0 [] [1, 2, 3, 4, 5, 6, 8, 9, 10] ?_
    refine an [] [] ?_
    have hMk27 := Mem.gset (k := ⟨A7, c7, ks9⟩) (c := ⟨A6, c6, cs9⟩) (v := ⟨A121_4, c121_4, ([] : List Int)⟩) ((a9).toNat) (hM21_6.pk [8, 3, 2, 0, 1, 4, 5, 6, 7, 9, 10])
    refine any 1 [] 15 [0, 1, 2, 3, 4, 6, 7] fun w22a hM22a => ?_
    have hx22_6 : (up).toNat < ((T).l).length := (by omega)
    refine av [0, 1, 2, 3, 4, 5] [4, 6] 6 (a := by exact fun _ hw2 => kixF hx22_6 (hNT.at hM22a).1 (h0 := by omega)) (b := ?_)
    refine av [9] [] 10 (a := by exact fun _ hw2 => kaddN (f + 1)) (b := ?_)
    refine aO [] [] 7 ?_
    refine ov 0 [] (a := kldN hx22_6 (hNT.at hM22a).1) (b := ?_)
    refine os 0 [] [0, 1, 2, 3, 4, 6, 7] ?_
    refine aO [] [] 8 ?_
    refine cp 0 [] (b := insideOf_fn (((T).l)[(up).toNat]'hx22_6) w22a (((hNT.at hM22a)).2.get hx22_6)) (c := fun w22_8 hM22_8 => ?_)
    refine os 0 [] [0, 1, 2, 3, 4, 6, 7] ?_
    refine aO [] [] 11 ?_
    refine cq 0 [] (b := cutKid_fn (((((T).l)[(up).toNat]'hx22_6)).k.A) (((((T).l)[(up).toNat]'hx22_6)).k.cp) (((((T).l)[(up).toNat]'hx22_6)).k.l) (((((T).l)[(up).toNat]'hx22_6)).c.A) (((((T).l)[(up).toNat]'hx22_6)).c.cp) (((((T).l)[(up).toNat]'hx22_6)).c.l) _ w22_8 (((hNT.at hM22_8)).2.get hx22_6).1 (((hNT.at hM22_8)).2.get hx22_6).2.1 (by exact hcpu) (by constructor <;> omega) qo qo) (c := ?_)
    rintro _ w22_11 ⟨A122_11, c122_11, A222_11, c222_11, rfl, hR22_11⟩
    have hM22_11 := hM22_8.cl 0 hR22_11
    have hcr22_11_0 := (hM22_11.cap 0 rfl).1
    have hcr22_11_1 := (hM22_11.cap 1 rfl).1
    refine os 0 [] [2, 3, 4, 5, 6, 8, 9] ?_
    refine aO [] [] 12 ?_
    refine cq 0 [] (b := innerOf_fn A122_11 c122_11 (((((((T).l)[(up).toNat]'hx22_6)).k.l)).take (((((f + 1) : Nat) : Int)).toNat - 1) ++ ((((((T).l)[(up).toNat]'hx22_6)).k.l)).drop ((((f + 1) : Nat) : Int)).toNat) A222_11 c222_11 (((((((T).l)[(up).toNat]'hx22_6)).c.l)).take ((((f + 1) : Nat) : Int)).toNat ++ ((((((T).l)[(up).toNat]'hx22_6)).c.l)).drop (((((f + 1) : Nat) : Int)).toNat + 1)) w22_11 (hM22_11.rd 0 rfl) (hM22_11.rd 1 rfl)) (c := ?_)
    rintro _ w22_12 ⟨A122_12, c122_12, rfl, hR22_12⟩
    have hM22_12 := hM22_11.cl 0 hR22_12
    have hcr22_12_0 := (hM22_12.cap 0 rfl).1
    refine os 0 [] [3, 4, 5, 6, 7, 9, 10] ?_
    have hx22_13 : (up).toNat < ((L11_1).set ((a9).toNat) (⟨⟨A7, c7, ks9⟩, ⟨A6, c6, cs9⟩, ⟨A121_4, c121_4, ([] : List Int)⟩⟩ : PgL)).length := (by first | omega | (simp only [List.length_set]; omega))
    refine av [] [] 13 (a := by exact fun _ hw2 => kixF hx22_13 (hM22_12.rd 8 rfl) (h0 := by omega)) (b := ?_)
    refine aO [] [] 14 ?_
    let p11_ : PgL := (⟨⟨A122_11, c122_11, ((((((T).l)[(up).toNat]'hx22_6)).k.l)).take (((((f + 1) : Nat) : Int)).toNat - 1) ++ ((((((T).l)[(up).toNat]'hx22_6)).k.l)).drop ((((f + 1) : Nat) : Int)).toNat⟩, ⟨A222_11, c222_11, ((((((T).l)[(up).toNat]'hx22_6)).c.l)).take ((((f + 1) : Nat) : Int)).toNat ++ ((((((T).l)[(up).toNat]'hx22_6)).c.l)).drop (((((f + 1) : Nat) : Int)).toNat + 1)⟩, ⟨A122_12, c122_12, ([] : List Int)⟩⟩ : PgL)
    refine sF 0 [] 8 p11_ hx22_13 fun w22_14 hM22_14 => ?_
    refine os 0 [] [3, 4, 5, 6, 7, 9, 10] ?_
    refine an [] [] ?_
    have hMk28 := Mem.gset (k := ⟨A122_11, c122_11, ((((((T).l)[(up).toNat]'hx22_6)).k.l)).take (((((f + 1) : Nat) : Int)).toNat - 1) ++ ((((((T).l)[(up).toNat]'hx22_6)).k.l)).drop ((((f + 1) : Nat) : Int)).toNat⟩) (c := ⟨A222_11, c222_11, ((((((T).l)[(up).toNat]'hx22_6)).c.l)).take ((((f + 1) : Nat) : Int)).toNat ++ ((((((T).l)[(up).toNat]'hx22_6)).c.l)).drop (((((f + 1) : Nat) : Int)).toNat + 1)⟩) (v := ⟨A122_12, c122_12, ([] : List Int)⟩) ((up).toNat) (hM22_14.pk [3, 1, 2, 0, 4, 5, 6, 7, 8, 9, 10])
    have hq29 : (((L11_1).set ((a9).toNat) (⟨⟨A7, c7, ks9⟩, ⟨A6, c6, cs9⟩, ⟨A121_4, c121_4, ([] : List Int)⟩⟩ : PgL)).set ((up).toNat) p11_ : List PgL) = ((L11_1).set ((a9).toNat) (⟨⟨A7, c7, ks9⟩, ⟨A6, c6, cs9⟩, ⟨A121_4, c121_4, ([] : List Int)⟩⟩ : PgL)).set ((up).toNat) p11_ := rfl
    have hMn29 := hMk28.reF 5 hq29
    have hMn30 := hMn29.reB 4 1 (show (L11_1).length = (((L11_1).set ((a9).toNat) (⟨⟨A7, c7, ks9⟩, ⟨A6, c6, cs9⟩, ⟨A121_4, c121_4, ([] : List Int)⟩⟩ : PgL)).set ((up).toNat) p11_).length from (by first | rfl | simp | (simp; omega)))
    refine Sb 4 [4] 6 fun w23_2 hM23_2 => ?_
    refine EG 3 [] ?_
    refine PG (vs := [.agg #[I ((T).root), .slice (A11_1) ((((L11_1).set ((a9).toNat) (⟨⟨A7, c7, ks9⟩, ⟨A6, c6, cs9⟩, ⟨A121_4, c121_4, ([] : List Int)⟩⟩ : PgL)).set ((up).toNat) p11_).length) (c11_1)], I (b9)]) (ResV.cell (l := [I ((T).root), .slice (A11_1) ((((L11_1).set ((a9).toNat) (⟨⟨A7, c7, ks9⟩, ⟨A6, c6, cs9⟩, ⟨A121_4, c121_4, ([] : List Int)⟩⟩ : PgL)).set ((up).toNat) p11_).length) (c11_1)]) rfl (mem_blk (i := 6) (j := 0) hM23_2 rfl rfl) el25 rfl (ResV.tmp rfl ResV.nil)) ?_
    have hfin := mend_inn1 hmd hk0 (by rw [← hksb]; omega) (L := tsG (((L11_1).set ((a9).toNat) (⟨⟨A7, c7, ks9⟩, ⟨A6, c6, cs9⟩, ⟨A121_4, c121_4, ([] : List Int)⟩⟩ : PgL)).set ((up).toNat) p11_)) (by rw [tsg_set, tsg_set, hts1_1, ← hksb, ← hcsb, hg_up]; rfl)
    have hq31 : (((L11_1).set ((a9).toNat) (⟨⟨A7, c7, ks9⟩, ⟨A6, c6, cs9⟩, ⟨A121_4, c121_4, ([] : List Int)⟩⟩ : PgL)).set ((up).toNat) p11_ : List PgL) = (((L11_1).set ((a9).toNat) (⟨⟨A7, c7, ks9⟩, ⟨A6, c6, cs9⟩, ⟨A121_4, c121_4, ([] : List Int)⟩⟩ : PgL)).set ((up).toNat) p11_) := (by first | rfl | simp | (simp; omega))
    have hMn31 := hM23_2.reF 5 hq31
    exact ⟨((L11_1).set ((a9).toNat) (⟨⟨A7, c7, ks9⟩, ⟨A6, c6, cs9⟩, ⟨A121_4, c121_4, ([] : List Int)⟩⟩ : PgL)).set ((up).toNat) p11_, A11_1, c11_1, (by rw [hfin.2]; rfl), hfin.1, (hMn31.pk [5, 0])⟩
  refine cq 4 [0] (b := splitInner_fn A7 c7 ks9 A6 c6 cs9 w_r19 (hM_r19.rd 2 rfl) (hM_r19.rd 1 rfl) (by constructor <;> omega) qo qo) (c := ?_)
  rintro _ w24_1 ⟨A124_1, c124_1, A224_1, c224_1, A324_1, c324_1, A424_1, c424_1, rfl, hR24_1⟩
  have hM24_1 := hM_r19.cl 0 hR24_1
  have hcr24_1_0 := (hM24_1.cap 0 rfl).1
  have hcr24_1_1 := (hM24_1.cap 1 rfl).1
  have hcr24_1_2 := (hM24_1.cap 2 rfl).1
  have hcr24_1_3 := (hM24_1.cap 3 rfl).1
  refine Al 4 [] fun w24_6 b24_6 hb24_6 hM24_6 => ?_
  refine Al 0 [] fun w24_7 b24_7 hb24_7 hM24_7 => ?_
  refine Sb 0 [] 1 fun w24_8 hM24_8 => ?_
  refine Sb 1 [] 0 fun w24_10 hM24_10 => ?_
  refine any 2 [] 7 [0, 1, 2, 3, 4, 5, 6, 7, 8, 9, 10, 11, 13, 14, 15] fun w25a hM25a => ?_
  refine aO [0, 1, 2, 3] [11, 1] 4 ?_
  refine cq 0 [] (b := innerOf_fn A124_1 c124_1 ((ks9).take ((ks9).length / 2)) A224_1 c224_1 ((cs9).take ((ks9).length / 2 + 1)) w25a (hM25a.rd 2 rfl) (hM25a.rd 3 rfl)) (c := ?_)
  rintro _ w25_4 ⟨A125_4, c125_4, rfl, hR25_4⟩
  have hM25_4 := hM25a.cl 0 hR25_4
  have hcr25_4_0 := (hM25_4.cap 0 rfl).1
  refine os 0 [] [1, 2, 3, 4, 5, 6, 7, 8, 9, 10, 11, 12, 14, 15, 16] ?_
  have hx25_5 : (a9).toNat < (L11_1).length := (by first | omega | (simp only [List.length_set]; omega))
  refine av [] [] 5 (a := by exact fun _ hw2 => kixF hx25_5 (hM25_4.rd 13 rfl) (h0 := by omega)) (b := ?_)
  refine aO [] [] 6 ?_
  let p12_ : PgL := (⟨⟨A124_1, c124_1, (ks9).take ((ks9).length / 2)⟩, ⟨A224_1, c224_1, (cs9).take ((ks9).length / 2 + 1)⟩, ⟨A125_4, c125_4, ([] : List Int)⟩⟩ : PgL)
  refine sF 0 [] 13 p12_ hx25_5 fun w25_6 hM25_6 => ?_
  refine os 0 [] [1, 2, 3, 4, 5, 6, 7, 8, 9, 10, 11, 12, 14, 15, 16] ?_
  refine an [] [] ?_
  have hMk33 := Mem.gset (k := ⟨A124_1, c124_1, (ks9).take ((ks9).length / 2)⟩) (c := ⟨A224_1, c224_1, (cs9).take ((ks9).length / 2 + 1)⟩) (v := ⟨A125_4, c125_4, ([] : List Int)⟩) ((a9).toNat) (hM25_6.pk [14, 3, 4, 0, 1, 2, 5, 6, 7, 8, 9, 10, 11, 12, 13, 15, 16])
  refine any 1 [] 7 [0, 1, 2, 3, 4, 5, 6, 7, 8, 9, 10, 12, 13] fun w26a hM26a => ?_
  refine aO [0, 1, 2, 3] [10, 1] 4 ?_
  refine cq 0 [] (b := innerOf_fn A324_1 c324_1 ((ks9).drop ((ks9).length / 2 + 1)) A424_1 c424_1 ((cs9).drop ((ks9).length / 2 + 1)) w26a (hM26a.rd 3 rfl) (hM26a.rd 4 rfl)) (c := ?_)
  rintro _ w26_4 ⟨A126_4, c126_4, rfl, hR26_4⟩
  have hM26_4 := hM26a.cl 0 hR26_4
  have hcr26_4_0 := (hM26_4.cap 0 rfl).1
  refine os 0 [] [1, 2, 3, 4, 5, 6, 7, 8, 9, 10, 11, 13, 14] ?_
  have hx26_5 : (b9).toNat < ((L11_1).set ((a9).toNat) p12_).length := (by first | omega | (simp only [List.length_set]; omega))
  refine av [] [] 5 (a := by exact fun _ hw2 => kixF hx26_5 (hM26_4.rd 12 rfl) (h0 := by omega)) (b := ?_)
  refine aO [] [] 6 ?_
  let p13_ : PgL := (⟨⟨A324_1, c324_1, (ks9).drop ((ks9).length / 2 + 1)⟩, ⟨A424_1, c424_1, (cs9).drop ((ks9).length / 2 + 1)⟩, ⟨A126_4, c126_4, ([] : List Int)⟩⟩ : PgL)
  refine sF 0 [] 12 p13_ hx26_5 fun w26_6 hM26_6 => ?_
  refine os 0 [] [1, 2, 3, 4, 5, 6, 7, 8, 9, 10, 11, 13, 14] ?_
  refine an [] [] ?_
  have hMk34 := Mem.gset (k := ⟨A324_1, c324_1, (ks9).drop ((ks9).length / 2 + 1)⟩) (c := ⟨A424_1, c424_1, (cs9).drop ((ks9).length / 2 + 1)⟩) (v := ⟨A126_4, c126_4, ([] : List Int)⟩) ((b9).toNat) (hM26_6.pk [1, 4, 5, 0, 2, 3, 6, 7, 8, 9, 10, 11, 12, 13, 14])
  have hj2 : (up).toNat < (((L11_1).set ((a9).toNat) p12_).set ((b9).toNat) p13_).length := by simp only [List.length_set]; omega
  have hold : ((((L11_1).set ((a9).toNat) p12_).set ((b9).toNat) p13_)[(up).toNat]'hj2).t = gP (T).t up := by rw [← gP_ch (r := (T).root) hj2, tsg_set, tsg_set, hts1_1]; exact two_set hmd
  have hkold : ((((L11_1).set ((a9).toNat) p12_).set ((b9).toNat) p13_)[(up).toNat]'hj2).k.l.length = ((T).l[(up).toNat]'hju).k.l.length := by have h9 := congrArg (fun z => z.keys.length) hold; rw [hg_up] at h9; exact h9
  obtain ⟨v9, hv9⟩ : ∃ z, z = (ks9).getD ((ks9).length / 2) 0 := ⟨_, rfl⟩
  have hx27_3 : (up).toNat < (((L11_1).set ((a9).toNat) p12_).set ((b9).toNat) p13_).length := (by first | omega | (simp only [List.length_set]; omega))
  refine ov 5 [8] (a := kixF hx27_3 (hMk34.rd 9 rfl) (h0 := by omega)) (b := ?_)
  refine ov 0 [] (a := kflF hx27_3 (hMk34.rd 9 rfl)) (b := ?_)
  refine ov 0 [] (a := kldF hx27_3 (hMk34.rd 9 rfl)) (b := ?_)
  refine ov 1 [] (s := Vi (v9)) (a := by exact cv (Ru.congr (v := I ((ks9).getD ((ks9).length / 2) 0)) (v' := I (v9)) (Ru.move rfl) ((I_congr hv9.symm))) rfl) (b := ?_)
  have hx27_8 : f < (((((L11_1).set ((a9).toNat) p12_).set ((b9).toNat) p13_)[(up).toNat]'hx27_3).k.l).length := (by rw [hkold]; omega)
  refine ov 0 [] (a := kixM hx27_8 ((NsP.mem hMk34 0 rfl).get hx27_3).1 (h0 := by omega)) (b := ?_)
  refine O.mstore (vs := [I (v9)]) (xs' := ((((((L11_1).set ((a9).toNat) p12_).set ((b9).toNat) p13_)[(up).toNat]'hx27_3).k.l).set (f) v9).map I) 0 (3 * ((up).toNat)) hMk34 rfl (pg_key (e := 3) (((L11_1).set ((a9).toNat) p12_).set ((b9).toNat) p13_) hx27_3) rfl el3 rfl rfl rfl rfl rfl (by simp; omega) (by simp) (spl_map (l := ((((L11_1).set ((a9).toNat) p12_).set ((b9).toNat) p13_)[(up).toNat]'hx27_3).k.l) (a := v9) hx27_8) (congrArg (fun z_ : List FE => [z_, [⟨.slice (bl b24_7) 1 1, 98, 2, 1, [.slice (A324_1) (((ks9).drop ((ks9).length / 2 + 1)).length) (c324_1), .slice (A424_1) (((cs9).drop ((ks9).length / 2 + 1)).length) (c424_1)]⟩], [⟨.slice (bl b24_6) 1 1, 98, 2, 1, [.slice (A124_1) (((ks9).take ((ks9).length / 2)).length) (c124_1), .slice (A224_1) (((cs9).take ((ks9).length / 2 + 1)).length) (c224_1)]⟩], [⟨.slice (bl bx9) 1 1, 98, 2, 1, [.slice (A7) ((ks9).length) (c7), .slice (A6) ((cs9).length) (c6)]⟩], [⟨.slice (A6) ((cs9).length) (c6), 3, 1, ((cs9).length), (cs9).map I⟩], [⟨.slice (A7) ((ks9).length) (c7), 3, 1, ((ks9).length), (ks9).map I⟩], [⟨.slice (bl b17_6) 1 1, 98, 2, 1, [.slice (((((T).l)[(b9).toNat]'hx17_3)).k.A) (((((T).l)[(b9).toNat]'hx17_3)).k.l.length) (((((T).l)[(b9).toNat]'hx17_3)).k.cp), .slice (((((T).l)[(b9).toNat]'hx17_3)).c.A) (((((T).l)[(b9).toNat]'hx17_3)).c.l.length) (((((T).l)[(b9).toNat]'hx17_3)).c.cp)]⟩], [⟨.slice (bl b16_6) 1 1, 98, 2, 1, [.slice (((((T).l)[(a9).toNat]'hx16_3)).k.A) (((((T).l)[(a9).toNat]'hx16_3)).k.l.length) (((((T).l)[(a9).toNat]'hx16_3)).k.cp), .slice (((((T).l)[(a9).toNat]'hx16_3)).c.A) (((((T).l)[(a9).toNat]'hx16_3)).c.l.length) (((((T).l)[(a9).toNat]'hx16_3)).c.cp)]⟩], [⟨.slice (bl b1_2) 1 1, 25, 2, 1, [I ((T).root), .slice (A11_1) ((L11_1).length) (c11_1)]⟩], [⟨.slice (A11_1) ((L11_1).length) (c11_1), 39, 3, ((L11_1).length), (((L11_1).set ((a9).toNat) p12_).set ((b9).toNat) p13_).flatMap encPg⟩], [⟨.slice (bl b0_1) 1 1, 25, 2, 1, [I (0), .slice (none) (0) (0)]⟩], [⟨.slice (bl b0_0) 1 1, 25, 2, 1, [I ((T).root), .slice ((T).A) ((T).l.length) ((T).cp)]⟩]]) (pg_keyset (e := 3) (((L11_1).set ((a9).toNat) p12_).set ((b9).toNat) p13_) hx27_3 hx27_8)) (fun w27_9 (hM27_9 : Mem w w27_9 [] [((((L11_1).set ((a9).toNat) p12_).set ((b9).toNat) p13_).set ((up).toNat) (⟨⟨((((L11_1).set ((a9).toNat) p12_).set ((b9).toNat) p13_)[(up).toNat]'hx27_3).k.A, ((((L11_1).set ((a9).toNat) p12_).set ((b9).toNat) p13_)[(up).toNat]'hx27_3).k.cp, (((((L11_1).set ((a9).toNat) p12_).set ((b9).toNat) p13_)[(up).toNat]'hx27_3).k.l).set (f) v9⟩, ((((L11_1).set ((a9).toNat) p12_).set ((b9).toNat) p13_)[(up).toNat]'hx27_3).c, ((((L11_1).set ((a9).toNat) p12_).set ((b9).toNat) p13_)[(up).toNat]'hx27_3).v⟩ : PgL)).flatMap (pgF 3), [⟨.slice (bl b24_7) 1 1, 98, 2, 1, [.slice (A324_1) (((ks9).drop ((ks9).length / 2 + 1)).length) (c324_1), .slice (A424_1) (((cs9).drop ((ks9).length / 2 + 1)).length) (c424_1)]⟩], [⟨.slice (bl b24_6) 1 1, 98, 2, 1, [.slice (A124_1) (((ks9).take ((ks9).length / 2)).length) (c124_1), .slice (A224_1) (((cs9).take ((ks9).length / 2 + 1)).length) (c224_1)]⟩], [⟨.slice (bl bx9) 1 1, 98, 2, 1, [.slice (A7) ((ks9).length) (c7), .slice (A6) ((cs9).length) (c6)]⟩], [⟨.slice (A6) ((cs9).length) (c6), 3, 1, ((cs9).length), (cs9).map I⟩], [⟨.slice (A7) ((ks9).length) (c7), 3, 1, ((ks9).length), (ks9).map I⟩], [⟨.slice (bl b17_6) 1 1, 98, 2, 1, [.slice (((((T).l)[(b9).toNat]'hx17_3)).k.A) (((((T).l)[(b9).toNat]'hx17_3)).k.l.length) (((((T).l)[(b9).toNat]'hx17_3)).k.cp), .slice (((((T).l)[(b9).toNat]'hx17_3)).c.A) (((((T).l)[(b9).toNat]'hx17_3)).c.l.length) (((((T).l)[(b9).toNat]'hx17_3)).c.cp)]⟩], [⟨.slice (bl b16_6) 1 1, 98, 2, 1, [.slice (((((T).l)[(a9).toNat]'hx16_3)).k.A) (((((T).l)[(a9).toNat]'hx16_3)).k.l.length) (((((T).l)[(a9).toNat]'hx16_3)).k.cp), .slice (((((T).l)[(a9).toNat]'hx16_3)).c.A) (((((T).l)[(a9).toNat]'hx16_3)).c.l.length) (((((T).l)[(a9).toNat]'hx16_3)).c.cp)]⟩], [⟨.slice (bl b1_2) 1 1, 25, 2, 1, [I ((T).root), .slice (A11_1) ((L11_1).length) (c11_1)]⟩], [⟨.slice (A11_1) ((L11_1).length) (c11_1), 39, 3, ((L11_1).length), (((L11_1).set ((a9).toNat) p12_).set ((b9).toNat) p13_).flatMap encPg⟩], [⟨.slice (bl b0_1) 1 1, 25, 2, 1, [I (0), .slice (none) (0) (0)]⟩], [⟨.slice (bl b0_0) 1 1, 25, 2, 1, [I ((T).root), .slice ((T).A) ((T).l.length) ((T).cp)]⟩]]) => ?_)
  let r14_ : List FE := ((((L11_1).set ((a9).toNat) p12_).set ((b9).toNat) p13_).set ((up).toNat) (⟨⟨((((L11_1).set ((a9).toNat) p12_).set ((b9).toNat) p13_)[(up).toNat]'hx27_3).k.A, ((((L11_1).set ((a9).toNat) p12_).set ((b9).toNat) p13_)[(up).toNat]'hx27_3).k.cp, (((((L11_1).set ((a9).toNat) p12_).set ((b9).toNat) p13_)[(up).toNat]'hx27_3).k.l).set (f) v9⟩, ((((L11_1).set ((a9).toNat) p12_).set ((b9).toNat) p13_)[(up).toNat]'hx27_3).c, ((((L11_1).set ((a9).toNat) p12_).set ((b9).toNat) p13_)[(up).toNat]'hx27_3).v⟩ : PgL)).flatMap (pgF 3)
  let r15_ : List FE := [⟨.slice (bl b24_7) 1 1, 98, 2, 1, [.slice (A324_1) (((ks9).drop ((ks9).length / 2 + 1)).length) (c324_1), .slice (A424_1) (((cs9).drop ((ks9).length / 2 + 1)).length) (c424_1)]⟩]
  let r16_ : List FE := [⟨.slice (bl b24_6) 1 1, 98, 2, 1, [.slice (A124_1) (((ks9).take ((ks9).length / 2)).length) (c124_1), .slice (A224_1) (((cs9).take ((ks9).length / 2 + 1)).length) (c224_1)]⟩]
  let r17_ : List FE := [⟨.slice (bl bx9) 1 1, 98, 2, 1, [.slice (A7) ((ks9).length) (c7), .slice (A6) ((cs9).length) (c6)]⟩]
  let r18_ : List FE := [⟨.slice (A6) ((cs9).length) (c6), 3, 1, ((cs9).length), (cs9).map I⟩]
  let r19_ : List FE := [⟨.slice (A7) ((ks9).length) (c7), 3, 1, ((ks9).length), (ks9).map I⟩]
  let r20_ : List FE := [⟨.slice (bl b17_6) 1 1, 98, 2, 1, [.slice (((((T).l)[(b9).toNat]'hx17_3)).k.A) (((((T).l)[(b9).toNat]'hx17_3)).k.l.length) (((((T).l)[(b9).toNat]'hx17_3)).k.cp), .slice (((((T).l)[(b9).toNat]'hx17_3)).c.A) (((((T).l)[(b9).toNat]'hx17_3)).c.l.length) (((((T).l)[(b9).toNat]'hx17_3)).c.cp)]⟩]
  let r21_ : List FE := [⟨.slice (bl b16_6) 1 1, 98, 2, 1, [.slice (((((T).l)[(a9).toNat]'hx16_3)).k.A) (((((T).l)[(a9).toNat]'hx16_3)).k.l.length) (((((T).l)[(a9).toNat]'hx16_3)).k.cp), .slice (((((T).l)[(a9).toNat]'hx16_3)).c.A) (((((T).l)[(a9).toNat]'hx16_3)).c.l.length) (((((T).l)[(a9).toNat]'hx16_3)).c.cp)]⟩]
  let r22_ : List FE := [⟨.slice (bl b1_2) 1 1, 25, 2, 1, [I ((T).root), .slice (A11_1) ((L11_1).length) (c11_1)]⟩]
  let r23_ : List FE := [⟨.slice (A11_1) ((L11_1).length) (c11_1), 39, 3, ((L11_1).length), (((L11_1).set ((a9).toNat) p12_).set ((b9).toNat) p13_).flatMap encPg⟩]
  let r24_ : List FE := [⟨.slice (bl b0_1) 1 1, 25, 2, 1, [I (0), .slice (none) (0) (0)]⟩]
  let r25_ : List FE := [⟨.slice (bl b0_0) 1 1, 25, 2, 1, [I ((T).root), .slice ((T).A) ((T).l.length) ((T).cp)]⟩]
  have hMk35 : Mem w w27_9 [] [r14_, r15_, r16_, r17_, r18_, r19_, r20_, r21_, r22_, [⟨.slice (A11_1) ((L11_1).length) (c11_1), 39, 3, ((L11_1).length), ((((L11_1).set ((a9).toNat) p12_).set ((b9).toNat) p13_).set ((up).toNat) (⟨⟨((((L11_1).set ((a9).toNat) p12_).set ((b9).toNat) p13_)[(up).toNat]'hx27_3).k.A, ((((L11_1).set ((a9).toNat) p12_).set ((b9).toNat) p13_)[(up).toNat]'hx27_3).k.cp, (((((L11_1).set ((a9).toNat) p12_).set ((b9).toNat) p13_)[(up).toNat]'hx27_3).k.l).set (f) v9⟩, ((((L11_1).set ((a9).toNat) p12_).set ((b9).toNat) p13_)[(up).toNat]'hx27_3).c, ((((L11_1).set ((a9).toNat) p12_).set ((b9).toNat) p13_)[(up).toNat]'hx27_3).v⟩ : PgL)).flatMap encPg⟩], r24_, r25_] := Mem.cast hM27_9 (congrArg (fun z_ : List Value => [r14_, r15_, r16_, r17_, r18_, r19_, r20_, r21_, r22_, [⟨.slice (A11_1) ((L11_1).length) (c11_1), 39, 3, ((L11_1).length), z_⟩], r24_, r25_]) (enc_keyset (((L11_1).set ((a9).toNat) p12_).set ((b9).toNat) p13_) hx27_3 (f := f) (v := v9)))
  have hq36 : ((((L11_1).set ((a9).toNat) p12_).set ((b9).toNat) p13_).set ((up).toNat) (⟨⟨((((L11_1).set ((a9).toNat) p12_).set ((b9).toNat) p13_)[(up).toNat]'hx27_3).k.A, ((((L11_1).set ((a9).toNat) p12_).set ((b9).toNat) p13_)[(up).toNat]'hx27_3).k.cp, (((((L11_1).set ((a9).toNat) p12_).set ((b9).toNat) p13_)[(up).toNat]'hx27_3).k.l).set (f) v9⟩, ((((L11_1).set ((a9).toNat) p12_).set ((b9).toNat) p13_)[(up).toNat]'hx27_3).c, ((((L11_1).set ((a9).toNat) p12_).set ((b9).toNat) p13_)[(up).toNat]'hx27_3).v⟩ : PgL) : List PgL) = (((L11_1).set ((a9).toNat) p12_).set ((b9).toNat) p13_).set ((up).toNat) (⟨⟨((((L11_1).set ((a9).toNat) p12_).set ((b9).toNat) p13_)[(up).toNat]'hx27_3).k.A, ((((L11_1).set ((a9).toNat) p12_).set ((b9).toNat) p13_)[(up).toNat]'hx27_3).k.cp, (((((L11_1).set ((a9).toNat) p12_).set ((b9).toNat) p13_)[(up).toNat]'hx27_3).k.l).set (f) v9⟩, ((((L11_1).set ((a9).toNat) p12_).set ((b9).toNat) p13_)[(up).toNat]'hx27_3).c, ((((L11_1).set ((a9).toNat) p12_).set ((b9).toNat) p13_)[(up).toNat]'hx27_3).v⟩ : PgL) := rfl
  have hMn36 := hMk35.reF 9 hq36
  have hMn37 := hMn36.reB 8 1 (show (L11_1).length = ((((L11_1).set ((a9).toNat) p12_).set ((b9).toNat) p13_).set ((up).toNat) (⟨⟨((((L11_1).set ((a9).toNat) p12_).set ((b9).toNat) p13_)[(up).toNat]'hx27_3).k.A, ((((L11_1).set ((a9).toNat) p12_).set ((b9).toNat) p13_)[(up).toNat]'hx27_3).k.cp, (((((L11_1).set ((a9).toNat) p12_).set ((b9).toNat) p13_)[(up).toNat]'hx27_3).k.l).set (f) v9⟩, ((((L11_1).set ((a9).toNat) p12_).set ((b9).toNat) p13_)[(up).toNat]'hx27_3).c, ((((L11_1).set ((a9).toNat) p12_).set ((b9).toNat) p13_)[(up).toNat]'hx27_3).v⟩ : PgL)).length from (by first | rfl | simp | (simp; omega)))
  refine Sb 4 [8] 10 fun w28_1 hM28_1 => ?_
  refine EG 3 [] ?_
  refine PG (vs := [.agg #[I ((T).root), .slice (A11_1) (((((L11_1).set ((a9).toNat) p12_).set ((b9).toNat) p13_).set ((up).toNat) (⟨⟨((((L11_1).set ((a9).toNat) p12_).set ((b9).toNat) p13_)[(up).toNat]'hx27_3).k.A, ((((L11_1).set ((a9).toNat) p12_).set ((b9).toNat) p13_)[(up).toNat]'hx27_3).k.cp, (((((L11_1).set ((a9).toNat) p12_).set ((b9).toNat) p13_)[(up).toNat]'hx27_3).k.l).set (f) v9⟩, ((((L11_1).set ((a9).toNat) p12_).set ((b9).toNat) p13_)[(up).toNat]'hx27_3).c, ((((L11_1).set ((a9).toNat) p12_).set ((b9).toNat) p13_)[(up).toNat]'hx27_3).v⟩ : PgL)).length) (c11_1)], I ((-1))]) (ResV.cell (l := [I ((T).root), .slice (A11_1) (((((L11_1).set ((a9).toNat) p12_).set ((b9).toNat) p13_).set ((up).toNat) (⟨⟨((((L11_1).set ((a9).toNat) p12_).set ((b9).toNat) p13_)[(up).toNat]'hx27_3).k.A, ((((L11_1).set ((a9).toNat) p12_).set ((b9).toNat) p13_)[(up).toNat]'hx27_3).k.cp, (((((L11_1).set ((a9).toNat) p12_).set ((b9).toNat) p13_)[(up).toNat]'hx27_3).k.l).set (f) v9⟩, ((((L11_1).set ((a9).toNat) p12_).set ((b9).toNat) p13_)[(up).toNat]'hx27_3).c, ((((L11_1).set ((a9).toNat) p12_).set ((b9).toNat) p13_)[(up).toNat]'hx27_3).v⟩ : PgL)).length) (c11_1)]) rfl (mem_blk (i := 10) (j := 0) hM28_1 rfl rfl) el25 rfl (ResV.tmp rfl ResV.nil)) ?_
  have hfin := mend_inn2 hmd hk0 hksb hcsb (by omega) (L := tsG ((((L11_1).set ((a9).toNat) p12_).set ((b9).toNat) p13_).set ((up).toNat) (⟨⟨((((L11_1).set ((a9).toNat) p12_).set ((b9).toNat) p13_)[(up).toNat]'hx27_3).k.A, ((((L11_1).set ((a9).toNat) p12_).set ((b9).toNat) p13_)[(up).toNat]'hx27_3).k.cp, (((((L11_1).set ((a9).toNat) p12_).set ((b9).toNat) p13_)[(up).toNat]'hx27_3).k.l).set (f) v9⟩, ((((L11_1).set ((a9).toNat) p12_).set ((b9).toNat) p13_)[(up).toNat]'hx27_3).c, ((((L11_1).set ((a9).toNat) p12_).set ((b9).toNat) p13_)[(up).toNat]'hx27_3).v⟩ : PgL))) (by rw [tsg_set, show ((⟨⟨((((L11_1).set ((a9).toNat) p12_).set ((b9).toNat) p13_)[(up).toNat]'hx27_3).k.A, ((((L11_1).set ((a9).toNat) p12_).set ((b9).toNat) p13_)[(up).toNat]'hx27_3).k.cp, (((((L11_1).set ((a9).toNat) p12_).set ((b9).toNat) p13_)[(up).toNat]'hx27_3).k.l).set (f) v9⟩, ((((L11_1).set ((a9).toNat) p12_).set ((b9).toNat) p13_)[(up).toNat]'hx27_3).c, ((((L11_1).set ((a9).toNat) p12_).set ((b9).toNat) p13_)[(up).toNat]'hx27_3).v⟩ : PgL)).t = setK (gP (T).t up) f v9 from (by rw [← hold]; rfl), tsg_set, tsg_set, hts1_1, hv9]; rfl)
  have hq38 : ((((L11_1).set ((a9).toNat) p12_).set ((b9).toNat) p13_).set ((up).toNat) (⟨⟨((((L11_1).set ((a9).toNat) p12_).set ((b9).toNat) p13_)[(up).toNat]'hx27_3).k.A, ((((L11_1).set ((a9).toNat) p12_).set ((b9).toNat) p13_)[(up).toNat]'hx27_3).k.cp, (((((L11_1).set ((a9).toNat) p12_).set ((b9).toNat) p13_)[(up).toNat]'hx27_3).k.l).set (f) v9⟩, ((((L11_1).set ((a9).toNat) p12_).set ((b9).toNat) p13_)[(up).toNat]'hx27_3).c, ((((L11_1).set ((a9).toNat) p12_).set ((b9).toNat) p13_)[(up).toNat]'hx27_3).v⟩ : PgL) : List PgL) = ((((L11_1).set ((a9).toNat) p12_).set ((b9).toNat) p13_).set ((up).toNat) (⟨⟨((((L11_1).set ((a9).toNat) p12_).set ((b9).toNat) p13_)[(up).toNat]'hx27_3).k.A, ((((L11_1).set ((a9).toNat) p12_).set ((b9).toNat) p13_)[(up).toNat]'hx27_3).k.cp, (((((L11_1).set ((a9).toNat) p12_).set ((b9).toNat) p13_)[(up).toNat]'hx27_3).k.l).set (f) v9⟩, ((((L11_1).set ((a9).toNat) p12_).set ((b9).toNat) p13_)[(up).toNat]'hx27_3).c, ((((L11_1).set ((a9).toNat) p12_).set ((b9).toNat) p13_)[(up).toNat]'hx27_3).v⟩ : PgL)) := (by first | rfl | simp | (simp; omega))
  have hMn38 := hM28_1.reF 9 hq38
  exact ⟨(((L11_1).set ((a9).toNat) p12_).set ((b9).toNat) p13_).set ((up).toNat) (⟨⟨((((L11_1).set ((a9).toNat) p12_).set ((b9).toNat) p13_)[(up).toNat]'hx27_3).k.A, ((((L11_1).set ((a9).toNat) p12_).set ((b9).toNat) p13_)[(up).toNat]'hx27_3).k.cp, (((((L11_1).set ((a9).toNat) p12_).set ((b9).toNat) p13_)[(up).toNat]'hx27_3).k.l).set (f) v9⟩, ((((L11_1).set ((a9).toNat) p12_).set ((b9).toNat) p13_)[(up).toNat]'hx27_3).c, ((((L11_1).set ((a9).toNat) p12_).set ((b9).toNat) p13_)[(up).toNat]'hx27_3).v⟩ : PgL), A11_1, c11_1, (by rw [hfin.2]; rfl), hfin.1, (hMn38.pk [9, 0])⟩
end Go.Proofs.YtemejgglbhjodaaDoor
end
section
namespace Go.Proofs.YtemejgglbhjodaaDoor
open Go.Px
theorem walkW0_fn : ∀ (T : TreeL) (at0 : Int) (w : World) (hNT : TrN w T) (hs : SzT T) (hsm : ∀ p ∈ (T).t.pages, smallP p) (hok : wkB (T).t 0 at0) (h3 : 0 ≤ 3), Does Tryd.prog 44 [.agg #[I ((T).root), .slice ((T).A) ((T).l.length) ((T).cp)], I (at0)] w (fun v w1 => ∃ (A1 : Option Addr) (c1 : Nat), v = .slice (A1) (((subT (T).t 0 at0)).length) (c1) ∧ Mem w w1 [] [[⟨.slice (A1) (((subT (T).t 0 at0)).length) (c1), 3, 1, (((subT (T).t 0 at0)).length), ((subT (T).t 0 at0)).map I⟩]]) := by
  intro T at0 w hNT hs hsm hok h3; cases hok
theorem walkWS_fn (n : Nat) (ih_fn : ∀ (T : TreeL) (at0 : Int) (w : World) (hNT : TrN w T) (hs : SzT T) (hsm : ∀ p ∈ (T).t.pages, smallP p) (hok : wkB (T).t n at0) (h3 : n ≤ 3), Does Tryd.prog 44 [.agg #[I ((T).root), .slice ((T).A) ((T).l.length) ((T).cp)], I (at0)] w (fun v w1 => ∃ (A1 : Option Addr) (c1 : Nat), v = .slice (A1) (((subT (T).t n at0)).length) (c1) ∧ Mem w w1 [] [[⟨.slice (A1) (((subT (T).t n at0)).length) (c1), 3, 1, (((subT (T).t n at0)).length), ((subT (T).t n at0)).map I⟩]])) (T : TreeL) (at0 : Int) (w : World) (hNT : TrN w T) (hs : SzT T) (hsm : ∀ p ∈ (T).t.pages, smallP p) (hok : wkB (T).t (n + 1) at0) (h3 : (n + 1) ≤ 3) :
    Does Tryd.prog 44 [.agg #[I ((T).root), .slice ((T).A) ((T).l.length) ((T).cp)], I (at0)] w (fun v w1 => ∃ (A1 : Option Addr) (c1 : Nat), v = .slice (A1) (((subT (T).t (n + 1) at0)).length) (c1) ∧ Mem w w1 [] [[⟨.slice (A1) (((subT (T).t (n + 1) at0)).length) (c1), 3, 1, (((subT (T).t (n + 1) at0)).length), ((subT (T).t (n + 1) at0)).map I⟩]]) := by
  have hM : Mem w w [] [] := Mem.refl
  refine Does.n1 Tryd.func44 rfl Tryd.results44 Tryd.ntmps44 rfl ?_
  have hat := inT_t.1 hok.1
  have hjx : (at0).toNat < (T).l.length := by omega
  have hki : (gP (T).t at0).kids = ((T).l[(at0).toNat]'hjx).c.l := by rw [gP_at rfl hjx]; rfl
  have hsz := hs.at hjx
  have hsl := wk_len3 hsm hok h3
  have hse : subT (T).t (n + 1) at0 = at0 :: ((T).l[(at0).toNat]'hjx).c.l.flatMap (subT (T).t n) := by simp only [subT]; rw [hki]
  refine Bx 2 [] fun w0_0 b0_0 hb0_0 hM0_0 => ?_
  refine Lt 5 [] (([at0]).map I) (fun w1_1 b1_1 hb1_1 hM1_1 => ?_)
  have hq1 : ([at0] : List Int) = at0 :: ((((T).l[(at0).toNat]'hjx).c.l).take 0).flatMap (subT (T).t n) := (by simp)
  have hMn1 := hM1_1.reM 0 hq1
  refine lp3 8 [] (fun (k : Nat) (A2 : Option Addr) (c2 : Nat) => ([(5, Vl (A2) ((at0 :: ((((T).l[(at0).toNat]'hjx).c.l).take k).flatMap (subT (T).t n)).length) (c2)), (6, Vi (((k : Nat) : Int)))] : List (Nat × SV))) (fun (k : Nat) (A2 : Option Addr) (c2 : Nat) => (k ≤ (((T).l[(at0).toNat]'hjx).c.l).length)) (fun (k : Nat) (A2 : Option Addr) (c2 : Nat) => [[⟨.slice (A2) ((at0 :: ((((T).l[(at0).toNat]'hjx).c.l).take k).flatMap (subT (T).t n)).length) (c2), 3, 1, ((at0 :: ((((T).l[(at0).toNat]'hjx).c.l).take k).flatMap (subT (T).t n)).length), (at0 :: ((((T).l[(at0).toNat]'hjx).c.l).take k).flatMap (subT (T).t n)).map I⟩]]) (fun (k : Nat) (A2 : Option Addr) (c2 : Nat) => (((T).l[(at0).toNat]'hjx).c.l).length - k) [1, 2] [0] [1] 0 (bl b1_1) 1 (fun k A2 c2 σ w_l3 hI hM_l3 => ?_) (h0 := (Nat.zero_le _))
  have hi0_l3 := hI
  have hcl0_l3 := (hM_l3.cap 0 rfl).1
  have hx3_4 : (at0).toNat < ((T).l).length := (by first | omega | (simp; omega))
  refine ov 7 [1] (a := kixF hx3_4 (hNT.at hM_l3).1) (b := ?_)
  refine ov 0 [] (a := kflF hx3_4 (hNT.at hM_l3).1) (b := ?_)
  refine ov 0 [] (a := kldF hx3_4 (hNT.at hM_l3).1) (b := ?_)
  refine cd 3 [] (fun c17 => ?_) (fun c17 => ?_)
  · refine any 3 [] 14 [1] fun w5a hM5a => ?_
    have hx5_5 : (at0).toNat < ((T).l).length := (by first | omega | (simp; omega))
    refine av [0, 1, 2, 3, 4] [0, 0] 5 (a := by exact fun _ hw2 => kixF hx5_5 (hNT.at hM5a).1) (b := ?_)
    refine av [] [] 6 (a := by exact fun _ hw2 => kflF hx5_5 (hNT.at hM5a).1) (b := ?_)
    refine aO [8] [] 7 ?_
    refine ov 0 [] (a := kldF hx5_5 (hNT.at hM5a).1) (b := ?_)
    refine os 0 [] [1] ?_
    have hx5_9 : k < ((((T).l)[(at0).toNat]'hx5_5).c.l).length := (by first | omega | (simp; omega))
    refine av [] [] 9 (a := by exact fun _ hw2 => kixM hx5_9 (((hNT.at hM5a)).2.get hx5_5).2.1) (b := ?_)
    have hok1 := wk_step hok (k := k) (by rw [hki]; exact hx5_9)
    simp only [hki] at hok1
    have hsl1 := wk_len3 hsm hok1 (by omega)
    have hfs := flat_snoc (f := subT (T).t n) hx5_9
    refine aO [] [] 10 ?_
    refine ov 0 [] (a := kldM hx5_9 (((hNT.at hM5a)).2.get hx5_5).2.1) (b := ?_)
    refine os 0 [] [1] ?_
    refine aO [] [] 11 ?_
    refine cq 0 [] (b := ih_fn T _ w5a (hNT.at hM5a) q0 (by exact hsm) (by exact hok1) qo) (c := ?_)
    rintro _ w5_11 ⟨A15_11, c15_11, rfl, hR5_11⟩
    have hM5_11 := hM5a.cl 0 hR5_11
    have hcr5_11_0 := (hM5_11.cap 0 rfl).1
    refine os 0 [] [2] ?_
    refine aO [] [] 12 ?_
    refine aM 0 [] 1 (hM5_11.rd 0 rfl) (fun w5_12 A5_12 c5_12 hc5_12 hM5_12 => ?_) (hn := by have h8 := congrArg List.length hse; have h9 := congrArg List.length hfs; have h7 := flat_le (f := subT (T).t n) hx5_9; simp only [List.length_append, List.length_cons] at h8 h9 h7 ⊢; omega) (hb := by have h8 := congrArg List.length hse; have h9 := congrArg List.length hfs; have h7 := flat_le (f := subT (T).t n) hx5_9; simp only [List.length_append, List.length_cons] at h8 h9 h7 ⊢; omega)
    refine os 0 [] [2] ?_
    refine an [13] [] ?_
    refine ov 2 [] (a := kaddN (k + 1)) (b := ?_)
    have hq2 : (at0 :: ((((T).l[(at0).toNat]'hjx).c.l).take k).flatMap (subT (T).t n) ++ (subT (T).t n (((((T).l)[(at0).toNat]'hx5_5).c.l)[k]'hx5_9)) : List Int) = at0 :: ((((T).l[(at0).toNat]'hjx).c.l).take (k + 1)).flatMap (subT (T).t n) := (by rw [← hfs]; simp)
    have hMn2 := hM5_12.reM 1 hq2
    exact le3 2 [] (k + 1) A5_12 c5_12 [1, 2] (h := by exact (by (try dsimp only); omega))
  refine E1 7 [] (.slice (A2) ((at0 :: ((((T).l[(at0).toNat]'hjx).c.l).take k).flatMap (subT (T).t n)).length) (c2)) ?_
  have hkk : (((T).l[(at0).toNat]'hjx).c.l).take k = ((T).l[(at0).toNat]'hjx).c.l := List.take_of_length_le (by omega)
  have hq3 : (at0 :: ((((T).l[(at0).toNat]'hjx).c.l).take k).flatMap (subT (T).t n) : List Int) = (subT (T).t (n + 1) at0) := (by rw [hse, hkk])
  have hMn3 := hM_l3.reM 0 hq3
  exact ⟨A2, c2, (sl_congr (by rw [hse, hkk])), (hMn3.pk [0])⟩
theorem walkW_fn : ∀ (n : Nat), ∀ (T : TreeL) (at0 : Int) (w : World) (hNT : TrN w T) (hs : SzT T) (hsm : ∀ p ∈ (T).t.pages, smallP p) (hok : wkB (T).t n at0) (h3 : n ≤ 3), Does Tryd.prog 44 [.agg #[I ((T).root), .slice ((T).A) ((T).l.length) ((T).cp)], I (at0)] w (fun v w1 => ∃ (A1 : Option Addr) (c1 : Nat), v = .slice (A1) (((subT (T).t n at0)).length) (c1) ∧ Mem w w1 [] [[⟨.slice (A1) (((subT (T).t n at0)).length) (c1), 3, 1, (((subT (T).t n at0)).length), ((subT (T).t n at0)).map I⟩]]) := by
  intro n
  induction n with
  | zero => exact walkW0_fn
  | succ n ih => exact walkWS_fn n ih
theorem leavesOf_fn (T : TreeL) (w : World) (hNT : TrN w T) (hs : SzT T) (hwk : WK (T).t) :
    Does Tryd.prog 76 [.agg #[I ((T).root), .slice ((T).A) ((T).l.length) ((T).cp)]] w (fun v w1 => ∃ (A1 : Option Addr) (c1 : Nat), v = .slice (A1) ((leavesK (T).t).length) (c1) ∧ Mem w w1 [] [[⟨.slice (A1) ((leavesK (T).t).length) (c1), 3, 1, ((leavesK (T).t).length), (leavesK (T).t).map I⟩]]) := by
  have hM : Mem w w [] [] := Mem.refl
  refine Does.n1 Tryd.func76 rfl Tryd.results76 Tryd.ntmps76 rfl ?_
  have hsl := wk_len3 hwk.2.2 hwk.1 (by omega)
  rw [show (T).t.root = (T).root from rfl] at hsl
  have hlk : leavesK (T).t = ((subT (T).t 3 (T).root)).filter (isLf (T).t) := rfl
  refine Bx 2 [] fun w0_0 b0_0 hb0_0 hM0_0 => ?_
  refine Lt 4 [] (([]).map I) (fun w1_0 b1_0 hb1_0 hM1_0 => ?_)
  refine cq 7 [1, 1] (b := walkW_fn 3 T _ w1_0 (hNT.at hM1_0) q0 (by exact hwk.2.2) (by exact hwk.1) qo) (c := ?_)
  rintro _ w2_3 ⟨A12_3, c12_3, rfl, hR2_3⟩
  have hM2_3 := hM1_0.cl 0 hR2_3
  have hcr2_3_0 := (hM2_3.cap 0 rfl).1
  have hq1 : ([] : List Int) = (((subT (T).t 3 (T).root)).take 0).filter (isLf (T).t) := (by simp)
  have hMn1 := hM2_3.reM 1 hq1 (f := I)
  refine lp3 8 [] (fun (k : Nat) (A2 : Option Addr) (c2 : Nat) => ([(3, Vl (A2) (((((subT (T).t 3 (T).root)).take k).filter (isLf (T).t)).length) (c2)), (5, Vi (((k : Nat) : Int)))] : List (Nat × SV))) (fun (k : Nat) (A2 : Option Addr) (c2 : Nat) => (k ≤ ((subT (T).t 3 (T).root)).length)) (fun (k : Nat) (A2 : Option Addr) (c2 : Nat) => [[⟨.slice (A2) (((((subT (T).t 3 (T).root)).take k).filter (isLf (T).t)).length) (c2), 3, 1, (((((subT (T).t 3 (T).root)).take k).filter (isLf (T).t)).length), ((((subT (T).t 3 (T).root)).take k).filter (isLf (T).t)).map I⟩]]) (fun (k : Nat) (A2 : Option Addr) (c2 : Nat) => ((subT (T).t 3 (T).root)).length - k) [1, 4] [1] [0, 2] 0 (bl b1_0) 0 (fun k A2 c2 σ w_l4 hI hM_l4 => ?_) (h0 := (Nat.zero_le _))
  have hi0_l4 := hI
  have hcl0_l4 := (hM_l4.cap 0 rfl).1
  have hcl1_l4 := (hM_l4.cap 1 rfl).1
  refine cd 8 [] (fun c14 => ?_) (fun c14 => ?_)
  · have hkx : k < ((subT (T).t 3 (T).root)).length := by omega
    obtain ⟨x9, hx9⟩ : ∃ z, z = ((subT (T).t 3 (T).root))[k]'hkx := ⟨_, rfl⟩
    have hmx := wk_mem hwk.1 (x := x9) (by rw [hx9]; exact List.getElem_mem hkx)
    have hxi := inT_t.1 hmx.1
    have hjx : (x9).toNat < (T).l.length := by omega
    have hgx : gP (T).t x9 = ((T).l[(x9).toNat]'hjx).t := gP_at rfl hjx
    have hft := filter_take (p := isLf (T).t) hkx
    rw [← hx9] at hft
    have hfl := filter_len_le (p := isLf (T).t) (l := (subT (T).t 3 (T).root)) (k := k)
    refine dr 4 [] ?_
    have hx6_4 : k < ((subT (T).t 3 ((T).root))).length := hkx
    refine qv 4 [2] (a := by exact fun _ hw2 => kixM hx6_4 (hw2.rd 1 rfl) (h0 := by omega)) (b := ?_)
    refine qv 0 [] (s := Vi (x9)) (a := by exact fun w2 hw2 => cv (Ru.congr (v := I (((subT (T).t 3 ((T).root)))[k]'hx6_4)) (v' := I (x9)) (Ru.load1 el3 rfl (ldm (hw2.rd 1 rfl) hx6_4)) ((I_congr hx9.symm))) rfl) (b := ?_)
    have hx6_6 : (x9).toNat < ((T).l).length := (by omega)
    refine qv 0 [] (a := by exact fun _ hw2 => kixF hx6_6 (hNT.at hw2).1 (h0 := by omega)) (b := ?_)
    refine qv 0 [] (a := by exact fun _ hw2 => kflF hx6_6 (hNT.at hw2).1) (b := ?_)
    refine qv 0 [] (a := by exact fun _ hw2 => kldF hx6_6 (hNT.at hw2).1) (b := ?_)
    refine qn 2 [] fun w6d hM6d => ?_
    refine cd 0 [] (fun c27 => ?_) (fun c27 => ?_)
    · have hlf : isLf (T).t x9 = true := by unfold isLf; rw [hgx]; exact decide_eq_true (List.eq_nil_of_length_eq_zero (by show (((T).l[(x9).toNat]'hjx).c.l).length = 0; omega))
      rw [hlf, if_pos rfl] at hft
      have hx7_3 : k < ((subT (T).t 3 ((T).root))).length := hkx
      refine ov 4 [] (a := kixM hx7_3 (hM6d.rd 1 rfl) (h0 := by omega)) (b := ?_)
      refine ov 0 [] (s := Vi (x9)) (a := by exact cv (Ru.congr (v := I (((subT (T).t 3 ((T).root)))[k]'hx7_3)) (v' := I (x9)) (Ru.load1 el3 rfl (ldm (hM6d.rd 1 rfl) hx7_3)) ((I_congr hx9.symm))) rfl) (b := ?_)
      refine Lt 0 [] (([x9]).map I) (fun w7_5 b7_5 hb7_5 hM7_5 => ?_)
      refine aM 0 [] 1 (hM7_5.rd 0 rfl) (fun w7_6 A7_6 c7_6 hc7_6 hM7_6 => ?_) (hn := by first | omega | (simp only [List.length_append, List.length_cons, List.length_nil]; omega)) (hb := by first | omega | (simp only [List.length_append, List.length_cons, List.length_nil]; omega))
      refine ov 4 [] (a := kaddN (k + 1)) (b := ?_)
      have hq2 : ((((subT (T).t 3 (T).root)).take k).filter (isLf (T).t) ++ [x9] : List Int) = (((subT (T).t 3 (T).root)).take (k + 1)).filter (isLf (T).t) := hft.symm
      have hMn2 := hM7_6.reM 1 hq2
      exact le3 2 [] (k + 1) A7_6 c7_6 [1, 2, 3] (h := by exact (by (try dsimp only); omega))
    have hlf : isLf (T).t x9 = false := by unfold isLf; rw [hgx]; exact decide_eq_false (fun e9 => absurd (show (((T).l[(x9).toNat]'hjx).c.l).length = 0 from congrArg List.length e9) (by omega))
    rw [hlf, if_neg (by simp), List.append_nil] at hft
    refine ov 3 [] (a := kaddN (k + 1)) (b := ?_)
    have hq3 : ((((subT (T).t 3 (T).root)).take k).filter (isLf (T).t) : List Int) = (((subT (T).t 3 (T).root)).take (k + 1)).filter (isLf (T).t) := hft.symm
    have hMn3 := hM6d.reM 0 hq3
    exact le3 2 [] (k + 1) A2 c2 [0, 1, 2] (h := by exact (by (try dsimp only); omega))
  refine E1 7 [] (.slice (A2) (((((subT (T).t 3 (T).root)).take k).filter (isLf (T).t)).length) (c2)) ?_
  have hq4 : ((((subT (T).t 3 (T).root)).take k).filter (isLf (T).t) : List Int) = leavesK (T).t := (by rw [hlk, List.take_of_length_le (by omega)])
  have hMn4 := hM_l4.reM 0 hq4
  exact ⟨A2, c2, (sl_congr (by rw [hlk, List.take_of_length_le (by omega)])), (hMn4.pk [0])⟩
theorem pairsOf_fn (T : TreeL) (w : World) (hNT : TrN w T) (hs : SzT T) (hwk : WK (T).t) :
    Does Tryd.prog 63 [.agg #[I ((T).root), .slice ((T).A) ((T).l.length) ((T).cp)]] w (fun v w1 => ∃ (A1 : Option Addr) (c1 : Nat), v = .slice (A1) ((pairsK (T).t).length) (c1) ∧ Mem w w1 [] [[⟨.slice (A1) ((pairsK (T).t).length) (c1), 57, 2, ((pairsK (T).t).length), (pairsK (T).t).flatMap encP⟩]]) := by
  have hM : Mem w w [] [] := Mem.refl
  refine Does.n1 Tryd.func63 rfl Tryd.results63 Tryd.ntmps63 rfl ?_
  have hsl := wk_len3 hwk.2.2 hwk.1 (by omega)
  have hll : ((leavesK (T).t)).length ≤ 343 := Nat.le_trans leaf_len hsl
  have hpi : ∀ x ∈ (leavesK (T).t), inT (T).t x = true := fun x hx => (wk_mem hwk.1 (List.mem_filter.1 hx).1).1
  refine Bx 2 [] fun w0_0 b0_0 hb0_0 hM0_0 => ?_
  refine Lt 4 [] (([]).flatMap encP) (fun w1_0 b1_0 hb1_0 hM1_0 => ?_)
  refine cq 5 [1] (b := leavesOf_fn T w1_0 (hNT.at hM1_0) q0 (by exact hwk)) (c := ?_)
  rintro _ w2_1 ⟨A12_1, c12_1, rfl, hR2_1⟩
  have hM2_1 := hM1_0.cl 0 hR2_1
  have hcr2_1_0 := (hM2_1.cap 0 rfl).1
  have hq1 : ([] : List PairT) = pairsOn (T).t (((leavesK (T).t)).take 0) := (by simp [pairsOn])
  have hMn1 := hM2_1.reF 1 hq1 (f := encP)
  refine lp3 8 [] (fun (k : Nat) (A2 : Option Addr) (c2 : Nat) => ([(3, Vl (A2) ((pairsOn (T).t (((leavesK (T).t)).take k)).length) (c2)), (5, Vi (((k : Nat) : Int)))] : List (Nat × SV))) (fun (k : Nat) (A2 : Option Addr) (c2 : Nat) => (k ≤ ((leavesK (T).t)).length)) (fun (k : Nat) (A2 : Option Addr) (c2 : Nat) => [[⟨.slice (A2) ((pairsOn (T).t (((leavesK (T).t)).take k)).length) (c2), 57, 2, ((pairsOn (T).t (((leavesK (T).t)).take k)).length), (pairsOn (T).t (((leavesK (T).t)).take k)).flatMap encP⟩]]) (fun (k : Nat) (A2 : Option Addr) (c2 : Nat) => ((leavesK (T).t)).length - k) [1, 4] [1] [0, 2] 0 (bl b1_0) 0 (fun k A2 c2 σ w_l4 hI hM_l4 => ?_) (h0 := (Nat.zero_le _))
  have hi0_l4 := hI
  have hcl0_l4 := (hM_l4.cap 0 rfl).1
  have hcl1_l4 := (hM_l4.cap 1 rfl).1
  refine cd 8 [] (fun c12 => ?_) (fun c12 => ?_)
  · have hkx : k < ((leavesK (T).t)).length := by omega
    obtain ⟨x9, hx9⟩ : ∃ z, z = ((leavesK (T).t))[k]'hkx := ⟨_, rfl⟩
    have hxm : x9 ∈ (leavesK (T).t) := by rw [hx9]; exact List.getElem_mem hkx
    have hmx := wk_mem hwk.1 (List.mem_filter.1 hxm).1
    have hxi := inT_t.1 hmx.1
    have hjx : (x9).toNat < (T).l.length := by omega
    have hgx : gP (T).t x9 = ((T).l[(x9).toNat]'hjx).t := gP_at rfl hjx
    have hxv := hmx.2 (by have h9 := (List.mem_filter.1 hxm).2; unfold isLf at h9; exact of_decide_eq_true h9)
    rw [hgx] at hxv
    have hxv : ((T).l[(x9).toNat]'hjx).v.l.length = ((T).l[(x9).toNat]'hjx).k.l.length := hxv
    have hsx := small_at hwk.2.2 hmx.1
    rw [hgx] at hsx
    have hk5 : ((T).l[(x9).toNat]'hjx).k.l.length ≤ 5 := hsx.1
    have hpt := pairsOn_take (T := (T).t) hkx
    rw [← hx9, hgx] at hpt
    have hpl := pairsOn_len hwk.2.2 (l := ((leavesK (T).t)).take k) (fun x hx => hpi x (List.mem_of_mem_take hx))
    rw [List.length_take, Nat.min_eq_left (by omega)] at hpl
    refine any 3 [] 12 [1, 2] fun w6a hM6a => ?_
    have hx6_5 : k < (leavesK (T).t).length := hkx
    refine av [0, 1, 2, 3, 4] [1] 5 (a := by exact fun _ hw2 => kixM hx6_5 (hM6a.rd 1 rfl) (h0 := by omega)) (b := ?_)
    refine av [] [] 6 (s := Vi (x9)) (a := by exact fun w2 hw2 => cv (Ru.congr (v := I ((leavesK (T).t)[k]'hx6_5)) (v' := I (x9)) (Ru.load1 el3 rfl (ldm (hw2.rd 0 rfl) hx6_5)) ((I_congr hx9.symm))) rfl) (b := ?_)
    have hx6_7 : (x9).toNat < ((T).l).length := (by omega)
    refine av [] [] 7 (a := by exact fun _ hw2 => kixF hx6_7 (hNT.at hM6a).1 (h0 := by omega)) (b := ?_)
    refine aO [] [] 8 ?_
    refine ov 0 [] (a := kldN hx6_7 (hNT.at hM6a).1) (b := ?_)
    refine os 0 [] [1, 2] ?_
    refine aO [] [] 9 ?_
    refine cq 0 [] (b := rowOf_fn (((T).l)[(x9).toNat]'hx6_7) w6a (((hNT.at hM6a)).2.get hx6_7) qo (by exact hxv)) (c := ?_)
    rintro _ w6_9 ⟨A16_9, c16_9, rfl, hR6_9⟩
    have hM6_9 := hM6a.cl 0 hR6_9
    have hcr6_9_0 := (hM6_9.cap 0 rfl).1
    refine os 0 [] [2, 3] ?_
    refine aO [] [] 10 ?_
    refine aF 0 [] 1 (hM6_9.rd 0 rfl) (fun w6_10 A6_10 c6_10 hc6_10 hM6_10 => ?_) (hn := by first | omega | (simp only [List.length_append, prs_lenG]; omega)) (hb := by first | omega | (simp only [List.length_append, prs_lenG]; omega))
    refine os 0 [] [2, 3] ?_
    refine an [11] [] ?_
    refine ov 2 [] (a := kaddN (k + 1)) (b := ?_)
    have hq2 : (pairsOn (T).t (((leavesK (T).t)).take k) ++ prsP ((((T).l)[(x9).toNat]'hx6_7)).t : List PairT) = pairsOn (T).t (((leavesK (T).t)).take (k + 1)) := hpt.symm
    have hMn2 := hM6_10.reF 1 hq2
    exact le3 2 [] (k + 1) A6_10 c6_10 [1, 2, 3] (h := by exact (by (try dsimp only); omega))
  refine E1 7 [] (.slice (A2) ((pairsOn (T).t (((leavesK (T).t)).take k)).length) (c2)) ?_
  have hq3 : (pairsOn (T).t (((leavesK (T).t)).take k) : List PairT) = pairsK (T).t := (by rw [List.take_of_length_le (by omega)]; rfl)
  have hMn3 := hM_l4.reF 0 hq3
  exact ⟨A2, c2, (sl_congr (by rw [List.take_of_length_le (by omega)]; rfl)), (hMn3.pk [0])⟩
theorem hasKey_fn (T : TreeL) (key : Int) (w : World) (hNT : TrN w T) (hs : SzT T) (hwk : WK (T).t) :
    Does Tryd.prog 77 [.agg #[I ((T).root), .slice ((T).A) ((T).l.length) ((T).cp)], I (key)] w (fun v w1 => v = .bool (isInB (pairsK (T).t) key) ∧ Mem w w1 [] []) := by
  have hM : Mem w w [] [] := Mem.refl
  refine Does.n1 Tryd.func77 rfl Tryd.results77 Tryd.ntmps77 rfl ?_
  have hsl := wk_len3 hwk.2.2 hwk.1 (by omega)
  have hll : ((leavesK (T).t)).length ≤ 343 := Nat.le_trans leaf_len hsl
  have hpi : ∀ x ∈ (leavesK (T).t), inT (T).t x = true := fun x hx => (wk_mem hwk.1 (List.mem_filter.1 hx).1).1
  have hpl := pairsOn_len hwk.2.2 hpi
  have hpk : (pairsK (T).t).length ≤ 1715 := by show (pairsOn (T).t (leavesK (T).t)).length ≤ 1715; omega
  refine Bx 2 [] fun w0_0 b0_0 hb0_0 hM0_0 => ?_
  refine cq 5 [0] (b := pairsOf_fn T w0_0 (hNT.at hM0_0) q0 (by exact hwk)) (c := ?_)
  rintro _ w1_1 ⟨A11_1, c11_1, rfl, hR1_1⟩
  have hM1_1 := hM0_0.cl 0 hR1_1
  have hcr1_1_0 := (hM1_1.cap 0 rfl).1
  refine cq 0 [] (b := skeysOf_fn _ _ _ w1_1 (hM1_1.rd 0 rfl) qo) (c := ?_)
  rintro _ w1_2 ⟨A11_2, c11_2, rfl, hR1_2⟩
  have hM1_2 := hM1_1.cl 0 hR1_2
  have hcr1_2_0 := (hM1_2.cap 0 rfl).1
  refine cp 1 [] (b := isIn_fn _ _ _ _ w1_2 (hM1_2.rd 0 rfl) (by first | omega | (simp only [List.length_map]; omega))) (c := fun w1_4 hM1_4 => ?_)
  refine E1 3 [] (.bool (decide (key ∈ (keysP (pairsK (T).t))))) ?_
  exact ⟨(by first | rfl | (unfold isInB; rfl)), (Mem.none hM1_4)⟩
end Go.Proofs.YtemejgglbhjodaaDoor
end
section
namespace Go.Proofs.YtemejgglbhjodaaDoor
open Go.Px
set_option maxHeartbeats 8000000 in
theorem dropTree_fn (T : TreeL) (key : Int) (w : World) (hNT : TrN w T) (hs : SzT T) (hv : validT (T).t = true) :
    Does Tryd.prog 78 [.agg #[I ((T).root), .slice ((T).A) ((T).l.length) ((T).cp)], I (key)] w (fun v w1 => ∃ (r1 : Int) (j1 : Int) (L1 : List PgL) (A1 : Option Addr) (c1 : Nat), v = .tuple #[.agg #[I (r1), .slice (A1) ((L1).length) (c1)], I (j1)] ∧ ((⟨r1, tsG L1⟩ : TrT) = dropF (T).t key) ∧ Mem w w1 [] [[⟨.slice (A1) ((L1).length) (c1), 39, 3, ((L1).length), (L1).flatMap encPg⟩], (L1).flatMap (pgF 3)]) := by
  have hM : Mem w w [] [] := Mem.refl
  refine Does.nG (rs := [.cell 4 25, .tmp 5]) Tryd.func78 rfl Tryd.results78 Tryd.ntmps78 rfl ?_
  have hvk := valid_ok hv
  have hP := path_ok (key := key) hv
  have hpp := hP.pos
  have hp3 := hP.le
  have hl16 := valid_len hv
  rw [pages_len] at hl16
  obtain ⟨lf, hlf⟩ : ∃ z, z = leafI (pathK (T).t key) := ⟨_, rfl⟩
  have hli := inT_t.1 (hP.inn ((pathK (T).t key).length - 1) (by omega))
  rw [show (pathK (T).t key).getD ((pathK (T).t key).length - 1) 0 = lf from hlf.symm] at hli
  have hjl : (lf).toNat < (T).l.length := by omega
  have hgl : gP (T).t lf = ((T).l[(lf).toNat]'hjl).t := gP_at rfl hjl
  have hszl := hs.at hjl
  have hfl := hP.fr ((pathK (T).t key).length - 1) (by omega)
  have hkl := hP.leaf
  rw [show (pathK (T).t key).getD ((pathK (T).t key).length - 1) 0 = lf from hlf.symm] at hfl hkl
  have hvl := (fr_leaf hfl hkl).1
  have hrl := prs_valid hfl hkl
  have h4l := fr_len hfl
  rw [hgl] at hvl hrl h4l
  have hvl0 : ((T).l[(lf).toNat]'hjl).v.l.length = ((T).l[(lf).toNat]'hjl).k.l.length := hvl
  have h4l0 : ((T).l[(lf).toNat]'hjl).k.l.length ≤ 4 := h4l
  have hpl := dropR_len (r := prsP ((T).l[(lf).toNat]'hjl).t) (k := key)
  rw [prs_lenG] at hpl
  have hL := valid_Lv hv
  have hir : 0 ≤ (T).root ∧ (T).root < ((T).l.length : Int) := inT_t.1 hL.r3.2
  refine Bx 2 [] fun w0_0 b0_0 hb0_0 hM0_0 => ?_
  refine Al 0 [] fun w0_1 b0_1 hb0_1 hM0_1 => ?_
  refine cq 5 [1] (b := scopyTree_fn T w0_1 (hNT.at hM0_1) q0) (c := ?_)
  rintro _ w1_1 ⟨L11_1, A11_1, c11_1, rfl, hts1_1, hR1_1⟩
  have hM1_1 := hM0_1.cl 0 hR1_1
  have hcr1_1_0 := (hM1_1.cap 0 rfl).1
  have hLl := tsg_eq_len hts1_1
  refine Al 0 [] fun w1_2 b1_2 hb1_2 hM1_2 => ?_
  refine Sb 0 [] 0 fun w1_3 hM1_3 => ?_
  refine cq 5 [4] (b := pathTo_fn T _ w1_3 (hNT.at hM1_3) q0 q0) (c := ?_)
  rintro _ w2_2 ⟨A12_2, c12_2, rfl, hR2_2⟩
  have hM2_2 := hM1_3.cl 0 hR2_2
  have hcr2_2_0 := (hM2_2.cap 0 rfl).1
  refine ov 6 [] (a := ksub) (b := ?_)
  refine any 3 [] 16 [0, 1, 2, 3, 4, 5] fun w4a hM4a => ?_
  have hx4_4 : ((pathK (T).t key).length - 1) < (pathK (T).t key).length := (by omega)
  refine av [0, 1, 2, 3] [5] 4 (a := by exact fun _ hw2 => kixM hx4_4 (hM4a.rd 0 rfl) (h0 := by omega)) (b := ?_)
  refine av [] [] 5 (s := Vi (lf)) (a := by exact fun w2 hw2 => cv (Ru.congr (v := I ((pathK (T).t key)[((pathK (T).t key).length - 1)]'hx4_4)) (v' := I (lf)) (Ru.load1 el3 rfl (ldm (hw2.rd 0 rfl) hx4_4)) (I_congr ((getD_in hx4_4).symm.trans hlf.symm))) rfl) (b := ?_)
  have hx4_6 : (lf).toNat < ((T).l).length := (by omega)
  refine av [] [] 6 (a := by exact fun _ hw2 => kixF hx4_6 (hNT.at hM4a).1 (h0 := by omega)) (b := ?_)
  refine aO [9] [] 7 ?_
  refine ov 0 [] (a := kldN hx4_6 (hNT.at hM4a).1) (b := ?_)
  refine os 0 [] [0, 1, 2, 3, 4, 5] ?_
  refine aO [] [] 8 ?_
  refine cq 0 [] (b := rowOf_fn (((T).l)[(lf).toNat]'hx4_6) w4a (((hNT.at hM4a)).2.get hx4_6) qo (by exact hvl0)) (c := ?_)
  rintro _ w4_8 ⟨A14_8, c14_8, rfl, hR4_8⟩
  have hM4_8 := hM4a.cl 0 hR4_8
  have hcr4_8_0 := (hM4_8.cap 0 rfl).1
  refine os 0 [] [1, 2, 3, 4, 5, 6] ?_
  refine aO [] [] 10 ?_
  refine cq 0 [] (b := sDropPair_fn _ _ _ _ w4_8 (hM4_8.rd 0 rfl) (by rw [prs_lenG]; omega) qo (by exact hrl)) (c := ?_)
  rintro _ w4_10 ⟨A14_10, c14_10, rfl, hR4_10⟩
  have hM4_10 := hM4_8.cl 0 hR4_10
  have hcr4_10_0 := (hM4_10.cap 0 rfl).1
  refine os 0 [] [2, 3, 4, 5, 6, 7] ?_
  refine an [11, 12, 13, 14, 15] [] ?_
  refine any 1 [] 10 [0, 1, 2, 3, 5, 6, 7] fun w5a hM5a => ?_
  have hx5_4 : ((pathK (T).t key).length - 1) < (pathK (T).t key).length := (by omega)
  refine av [0, 1, 2, 3] [3] 4 (a := by exact fun _ hw2 => kixM hx5_4 (hM5a.rd 2 rfl) (h0 := by omega)) (b := ?_)
  refine av [] [] 5 (s := Vi (lf)) (a := by exact fun w2 hw2 => cv (Ru.congr (v := I ((pathK (T).t key)[((pathK (T).t key).length - 1)]'hx5_4)) (v' := I (lf)) (Ru.load1 el3 rfl (ldm (hw2.rd 2 rfl) hx5_4)) (I_congr ((getD_in hx5_4).symm.trans hlf.symm))) rfl) (b := ?_)
  refine aO [6] [] 7 ?_
  refine cq 0 [] (b := leafOf_fn _ _ _ w5a (hM5a.rd 0 rfl) qo qo) (c := ?_)
  rintro _ w5_7 ⟨A15_7, c15_7, A25_7, c25_7, A35_7, c35_7, rfl, hR5_7⟩
  have hM5_7 := hM5a.cl 0 hR5_7
  have hcr5_7_0 := (hM5_7.cap 0 rfl).1
  have hcr5_7_1 := (hM5_7.cap 1 rfl).1
  have hcr5_7_2 := (hM5_7.cap 2 rfl).1
  refine os 0 [] [3, 4, 5, 6, 8, 9, 10] ?_
  have hx5_8 : (lf).toNat < (L11_1).length := (by omega)
  refine av [] [] 8 (a := by exact fun _ hw2 => kixF hx5_8 (hM5_7.rd 7 rfl) (h0 := by omega)) (b := ?_)
  refine aO [] [] 9 ?_
  let p1_ : PgL := (⟨⟨A15_7, c15_7, keysP (dropR (prsP ((((T).l)[(lf).toNat]'hx4_6)).t) key)⟩, ⟨A25_7, c25_7, ([] : List Int)⟩, ⟨A35_7, c35_7, (dropR (prsP ((((T).l)[(lf).toNat]'hx4_6)).t) key).map PairT.val⟩⟩ : PgL)
  refine sF 0 [] 7 p1_ hx5_8 fun w5_9 hM5_9 => ?_
  refine os 0 [] [3, 4, 5, 6, 8, 9, 10] ?_
  refine an [] [] ?_
  have hMk1 := Mem.gset (k := ⟨A15_7, c15_7, keysP (dropR (prsP ((((T).l)[(lf).toNat]'hx4_6)).t) key)⟩) (c := ⟨A25_7, c25_7, ([] : List Int)⟩) (v := ⟨A35_7, c35_7, (dropR (prsP ((((T).l)[(lf).toNat]'hx4_6)).t) key).map PairT.val⟩) ((lf).toNat) (hM5_9.pk [8, 0, 1, 2, 3, 4, 5, 6, 7, 9, 10])
  have hq2 : ((L11_1).set ((lf).toNat) p1_ : List PgL) = (L11_1).set ((lf).toNat) p1_ := rfl
  have hMn2 := hMk1.reF 5 hq2
  have hMn3 := hMn2.reB 4 1 (show (L11_1).length = ((L11_1).set ((lf).toNat) p1_).length from (by first | rfl | simp | (simp; omega)))
  refine Lt 2 [] (([]).map I) (fun w6_0 b6_0 hb6_0 hM6_0 => ?_)
  refine ct7 2 [] (fun (a1 : Nat) (Ch1 : List PgL) (g1 : List Int) (A7 : Option Addr) (c7 : Nat) (A8 : Option Addr) (c8 : Nat) => ([(11, Vl (A8) ((g1).length) (c8))] : List (Nat × SV))) (fun (a1 : Nat) (Ch1 : List PgL) (g1 : List Int) (A7 : Option Addr) (c7 : Nat) (A8 : Option Addr) (c8 : Nat) => (DV (T).t (pathK (T).t key) a1 ((⟨(T).root, tsG Ch1⟩ : TrT), g1)) ∧ (mendL (pathK (T).t key) (pathK (T).t key).length (beginF (T).t (pathK (T).t key) key, []) = ((⟨(T).root, tsG Ch1⟩ : TrT), g1))) (fun (a1 : Nat) (Ch1 : List PgL) (g1 : List Int) (A7 : Option Addr) (c7 : Nat) (A8 : Option Addr) (c8 : Nat) => [[⟨.slice (A8) ((g1).length) (c8), 3, 1, ((g1).length), (g1).map I⟩], (Ch1).flatMap (pgF 3), [⟨.slice (bl b1_2) 1 1, 25, 2, 1, [I ((T).root), .slice (A7) ((Ch1).length) (c7)]⟩], [⟨.slice (A7) ((Ch1).length) (c7), 39, 3, ((Ch1).length), (Ch1).flatMap encPg⟩]]) [4, 6] [2, 3, 4, 7, 8] ?_ (fun a1 Ch1 g1 A7 c7 A8 c8 σ w_b0 hI hM_b0 => ?_)
  · have hq4 : ((L11_1).set ((lf).toNat) p1_ : List PgL) = ((L11_1).set ((lf).toNat) p1_) := (by first | rfl | simp | (simp; omega))
    have hMn4 := hM6_0.reF 6 hq4
    have hq5 : ([] : List Int) = ([] : List Int) := (by first | rfl | simp | (simp; omega))
    have hMn5 := hMn4.reM 0 hq5 (f := I)
    refine lp7 1 [] (fun (a : Nat) (Ch : List PgL) (g9 : List Int) (A2 : Option Addr) (c2 : Nat) (A3 : Option Addr) (c3 : Nat) => ([(8, Vi ((((a : Nat) : Int) - 1))), (11, Vl (A3) ((g9).length) (c3))] : List (Nat × SV))) (fun (a : Nat) (Ch : List PgL) (g9 : List Int) (A2 : Option Addr) (c2 : Nat) (A3 : Option Addr) (c3 : Nat) => (DV (T).t (pathK (T).t key) a ((⟨(T).root, tsG Ch⟩ : TrT), g9)) ∧ (mendL (pathK (T).t key) a ((⟨(T).root, tsG Ch⟩ : TrT), g9) = mendL (pathK (T).t key) (pathK (T).t key).length (beginF (T).t (pathK (T).t key) key, []))) (fun (a : Nat) (Ch : List PgL) (g9 : List Int) (A2 : Option Addr) (c2 : Nat) (A3 : Option Addr) (c3 : Nat) => [[⟨.slice (A3) ((g9).length) (c3), 3, 1, ((g9).length), (g9).map I⟩], (Ch).flatMap (pgF 3), [⟨.slice (bl b1_2) 1 1, 25, 2, 1, [I ((T).root), .slice (A2) ((Ch).length) (c2)]⟩], [⟨.slice (A2) ((Ch).length) (c2), 39, 3, ((Ch).length), (Ch).flatMap encPg⟩]]) (fun (a : Nat) (Ch : List PgL) (g9 : List Int) (A2 : Option Addr) (c2 : Nat) (A3 : Option Addr) (c3 : Nat) => a) [4, 6, 7] [0, 1, 5, 6] [2, 3, 4, 7, 8] ((pathK (T).t key).length) ((L11_1).set ((lf).toNat) p1_) (([] : List Int) : List Int) A11_1 c11_1 (bl b6_0) 0 (fun a Ch g9 A2 c2 A3 c3 σ w_l7 hI hM_l7 => ?_) (h0 := ⟨(by (try dsimp only); rw [show (⟨(T).root, tsG ((L11_1).set ((lf).toNat) p1_)⟩ : TrT) = beginF (T).t (pathK (T).t key) key from (by rw [tsg_set, hts1_1]; unfold beginF setP; rw [← hlf, hgl]; rfl)]; exact DV.start hv hP), (by (try dsimp only); rw [show (⟨(T).root, tsG ((L11_1).set ((lf).toNat) p1_)⟩ : TrT) = beginF (T).t (pathK (T).t key) key from (by rw [tsg_set, hts1_1]; unfold beginF setP; rw [← hlf, hgl]; rfl)])⟩)
    obtain ⟨hi0_l7, hi1_l7⟩ := hI
    have hcl0_l7 := (hM_l7.cap 0 rfl).1
    have hcl3_l7 := (hM_l7.cap 3 rfl).1
    have hcl4_l7 := (hM_l7.cap 4 rfl).1
    have hcl5_l7 := (hM_l7.cap 5 rfl).1
    have hcl6_l7 := (hM_l7.cap 6 rfl).1
    have hD := hi0_l7
    have ha1 := hD.a1
    obtain ⟨cur, hcu⟩ : ∃ z, z = (pathK (T).t key).getD (a - 1) 0 := ⟨_, rfl⟩
    have hcl := hD.len
    simp only [pages_len, List.length_map] at hcl
    have hci := inT_t.1 (hP.inn (a - 1) (by omega))
    rw [← hcu] at hci
    have hjc : (cur).toNat < (Ch).length := by omega
    have hgc : gP (⟨(T).root, tsG Ch⟩ : TrT) cur = ((Ch)[(cur).toNat]'hjc).t := gP_ch hjc
    have hsm := hD.small
    have hzc : SzT ⟨(T).root, A2, c2, Ch⟩ := sz_small hsm (by omega)
    have hgl9 : (g9).length + a ≤ (pathK (T).t key).length := hD.gl
    refine dr 2 [] ?_
    refine qp 3 [] 52 (fun g52 => ?_) (fun g52 => ?_)
    · have hx7_7 : (a - 1) < (pathK (T).t key).length := (by omega)
      refine qv 4 [2] (a := by exact fun _ hw2 => kixM hx7_7 (hw2.rd 6 rfl) (h0 := by omega)) (b := ?_)
      refine qv 0 [] (s := Vi (cur)) (a := by exact fun w2 hw2 => cv (Ru.congr (v := I ((pathK (T).t key)[(a - 1)]'hx7_7)) (v' := I (cur)) (Ru.load1 el3 rfl (ldm (hw2.rd 6 rfl) hx7_7)) (I_congr ((getD_in hx7_7).symm.trans hcu.symm))) rfl) (b := ?_)
      have hx7_9 : (cur).toNat < (Ch).length := (by omega)
      refine qv 0 [] (a := by exact fun _ hw2 => kixF hx7_9 (hw2.rd 3 rfl) (h0 := by omega)) (b := ?_)
      refine qv 0 [] (a := by exact fun _ hw2 => kflF hx7_9 (hw2.rd 3 rfl)) (b := ?_)
      refine qv 0 [] (a := by exact fun _ hw2 => kldF hx7_9 (hw2.rd 3 rfl)) (b := ?_)
      refine qn 3 [] fun w7d hM7d => ?_
      refine cd 0 [] (fun c64 => ?_) (fun c64 => ?_)
      · have hk2 : ¬ 2 ≤ (gP (⟨(T).root, tsG Ch⟩ : TrT) ((pathK (T).t key).getD (a - 1) 0)).keys.length := by rw [← hcu, hgc]; show ¬ 2 ≤ (((Ch)[(cur).toNat]'hjc).k.l).length; omega
        have ha2 : 2 ≤ a := by omega
        have hmk := hD.place hv hP ha2
        have hmd := hD.md hmk
        have hDn := hD.next hv ha2 hmk
        have hgo := mendL_go (P := (pathK (T).t key)) (s := ((⟨(T).root, tsG Ch⟩ : TrT), g9)) ha2 hk2
        obtain ⟨up9, hup⟩ : ∃ z, z = (pathK (T).t key).getD (a - 2) 0 := ⟨_, rfl⟩
        have hui := inT_t.1 hmk.iu
        rw [← hup] at hui
        have hju : (up9).toNat < (Ch).length := by omega
        have hgu : gP (⟨(T).root, tsG Ch⟩ : TrT) up9 = ((Ch)[(up9).toNat]'hju).t := gP_ch hju
        rw [← hup, ← hcu, hgu] at hmd hDn hgo
        have hpk : -1 ≤ plcI (((Ch)[(up9).toNat]'hju).c.l) cur ∧ plcI (((Ch)[(up9).toNat]'hju).c.l) cur ≤ 1000 := by unfold plcI; have h9 := (hsm _ (gP_mem (T := (⟨(T).root, tsG Ch⟩ : TrT)) (i := up9) (inT_iff.2 (by simp only [List.length_map]; omega)))).2.1; rw [hgu] at h9; have h8 : (((Ch)[(up9).toNat]'hju).c.l).length ≤ 6 := h9; split; (have h7 := List.idxOf_lt_length_iff.2 (by assumption); omega); omega
        have hszu : ((Ch)[(up9).toNat]'hju).k.l.length ≤ 1048576 ∧ ((Ch)[(up9).toNat]'hju).c.l.length ≤ 1048576 ∧ ((Ch)[(up9).toNat]'hju).v.l.length ≤ 1048576 := hzc.at hju
        refine ov 6 [] (a := ksub) (b := ?_)
        have hx8_3 : (a - 1 - 1) < (pathK (T).t key).length := (by omega)
        refine ov 0 [] (a := kixM hx8_3 (hM7d.rd 6 rfl) (h0 := by omega)) (b := ?_)
        refine ov 0 [] (s := Vi (up9)) (a := by exact cv (Ru.congr (v := I ((pathK (T).t key)[(a - 1 - 1)]'hx8_3)) (v' := I (up9)) (Ru.load1 el3 rfl (ldm (hM7d.rd 6 rfl) hx8_3)) (I_congr (by rw [hup, show a - 2 = a - 1 - 1 by omega, getD_in (show a - 1 - 1 < (pathK (T).t key).length by omega)]))) rfl) (b := ?_)
        have hcp9 : ∀ (j : Nat) (h : j < (Ch).length), (Ch)[j].k.l.length ≤ (Ch)[j].k.cp ∧ (Ch)[j].c.l.length ≤ (Ch)[j].c.cp := fun j h => ⟨(hM7d.gcap 1 rfl h).1, (hM7d.gcap 1 rfl h).2.1⟩
        refine any 3 [] 20 [0, 1, 2, 3, 4, 5, 6, 7, 8] fun w9a hM9a => ?_
        have hx9_5 : (up9).toNat < (Ch).length := hju
        refine av [0, 1, 2, 3, 4] [2, 2] 5 (a := by exact fun _ hw2 => kixF hx9_5 (hM9a.rd 3 rfl) (h0 := by omega)) (b := ?_)
        refine av [] [] 6 (a := by exact fun _ hw2 => kflF hx9_5 (hM9a.rd 3 rfl)) (b := ?_)
        refine av [] [] 7 (a := by exact fun _ hw2 => kldF hx9_5 (hw2.rd 3 rfl)) (b := ?_)
        have hx9_10 : (a - 1) < (pathK (T).t key).length := (by omega)
        refine av [8, 9] [] 10 (a := by exact fun _ hw2 => kixM hx9_10 (hM9a.rd 6 rfl) (h0 := by omega)) (b := ?_)
        refine av [] [] 11 (s := Vi (cur)) (a := by exact fun w2 hw2 => cv (Ru.congr (v := I ((pathK (T).t key)[(a - 1)]'hx9_10)) (v' := I (cur)) (Ru.load1 el3 rfl (ldm (hw2.rd 6 rfl) hx9_10)) (I_congr ((getD_in hx9_10).symm.trans hcu.symm))) rfl) (b := ?_)
        refine aT [] [] 12 17 ?_ ?_
        · refine cq 0 [] (vs := [.slice (((Ch)[(up9).toNat]'hx9_5).c.A) ((((Ch)[(up9).toNat]'hx9_5).c.l).length) (((Ch)[(up9).toNat]'hx9_5).c.cp), I (cur)]) (hvs := (by first | rfl | (rw [show (((Ch)[(up9).toNat]'hx9_5).c.l).length = ((Ch)[(up9).toNat]'hx9_5).c.l.length from (by first | rfl | (simp; done) | omega | (simp; omega))]; rfl))) (b := placeOf_fn (((Ch)[(up9).toNat]'hx9_5).c.A) (((Ch)[(up9).toNat]'hx9_5).c.cp) (((Ch)[(up9).toNat]'hx9_5).c.l) _ w9a ((NsP.mem hM9a 1 rfl).get hx9_5).2.1 qo) (c := ?_)
          rintro _ w9_12 ⟨rfl, hR9_12⟩
          have hM9_12 := hM9a.cl 0 hR9_12
          refine os 0 [] [0, 1, 2, 3, 4, 5, 6, 7, 8] ?_
          refine aT [] [] 13 17 ?_ ?_
          · refine cq 0 [] (b := mend_fn (⟨(T).root, A2, c2, Ch⟩ : TreeL) _ _ ((plcI (((Ch)[(up9).toNat]'hju).c.l) cur - 1).toNat) _ _ w9_12 ⟨(hM9_12.rd 3 rfl), (NsP.mem hM9_12 1 rfl)⟩ (by exact hzc) (by rfl) (by exact hpk) (by exact hmd) (by exact hcp9)) (c := ?_)
            rintro _ w9_13 ⟨L19_13, A19_13, c19_13, rfl, hts9_13, hR9_13⟩
            have hM9_13 := hM9_12.cl 0 hR9_13
            have hcr9_13_0 := (hM9_13.cap 0 rfl).1
            refine os 0 [] [2, 3, 4, 5, 6, 7, 8, 9, 10] ?_
            refine aO [14, 15, 16] [] 17 ?_
            refine Al 0 [] fun w9_17 b9_17 hb9_17 hM9_17 => ?_
            refine os 0 [] [3, 4, 5, 6, 7, 8, 9, 10, 11] ?_
            refine aO [] [] 18 ?_
            refine Sb 0 [] 0 fun w9_18 hM9_18 => ?_
            refine os 0 [] [3, 4, 5, 6, 7, 8, 9, 10, 11] ?_
            refine an [19] [] ?_
            refine Sb 3 [0] 5 fun w10_1 hM10_1 => ?_
            have hMk7 := hM10_1.pk [0, 1, 2, 3, 5, 7, 8, 9, 10, 11]
            obtain ⟨m2, hm2⟩ : ∃ z, z = (mendF (⟨(T).root, tsG Ch⟩ : TrT) up9 (plcI (((Ch)[(up9).toNat]'hju).c.l) cur - 1).toNat).2 := ⟨_, rfl⟩
            refine ov 4 [] (s := Vi (m2)) (a := by exact cv (Ru.congr (v := I ((mendF ((⟨(T).root, A2, c2, Ch⟩ : TreeL)).t up9 (plcI (((Ch)[(up9).toNat]'hju).c.l) cur - 1).toNat).2)) (v' := I (m2)) (Ru.move rfl) ((I_congr hm2.symm))) rfl) (b := ?_)
            refine cd 2 [] (fun c89 => ?_) (fun c89 => ?_)
            · refine ov 2 [] (s := Vi (m2)) (a := by exact cv (Ru.congr (v := I ((mendF ((⟨(T).root, A2, c2, Ch⟩ : TreeL)).t up9 (plcI (((Ch)[(up9).toNat]'hju).c.l) cur - 1).toNat).2)) (v' := I (m2)) (Ru.move rfl) ((I_congr hm2.symm))) rfl) (b := ?_)
              refine Lt 0 [] (([m2]).map I) (fun w12_2 b12_2 hb12_2 hM12_2 => ?_)
              refine aM 0 [] 4 (hM12_2.rd 0 rfl) (fun w12_3 A12_3 c12_3 hc12_3 hM12_3 => ?_) (hn := by first | omega | (simp only [List.length_append, List.length_cons, List.length_nil]; omega)) (hb := by first | omega | (simp only [List.length_append, List.length_cons, List.length_nil]; omega))
              refine ov 4 [] (a := ksub) (b := ?_)
              have hq8 : (g9 ++ [m2] : List Int) = (goneF g9 m2) := (by unfold goneF; first | (rw [if_pos (by omega)]; done) | (rw [if_neg (by omega)]))
              have hMn8 := hM12_3.reM 4 hq8
              exact le7 2 [] (a - 1) L19_13 (goneF g9 m2) A19_13 c19_13 A12_3 c12_3 [4, 3, 5, 2, 6, 7, 8, 9, 10] (hm := (by (try dsimp only); have := hD.a1; omega)) (hL := by exact (Has.cons (I_congr (by first | rfl | omega | (simp; omega) | simp)) (Has.cons (sl_congr (by unfold goneF; first | (rw [if_pos (by omega)]; done) | (rw [if_neg (by omega)]))) Has.nil))) (h := by exact ⟨(by (try dsimp only); rw [hts9_13, hm2]; exact hDn), (by (try dsimp only); rw [hts9_13, hm2]; rw [← hi1_l7]; exact hgo.symm)⟩)
            refine ov 3 [] (a := ksub) (b := ?_)
            have hq10 : (g9 : List Int) = (goneF g9 m2) := (by unfold goneF; first | (rw [if_pos (by omega)]; done) | (rw [if_neg (by omega)]))
            have hMn10 := hMk7.reM 3 hq10
            exact le7 2 [] (a - 1) L19_13 (goneF g9 m2) A19_13 c19_13 A3 c3 [3, 2, 4, 1, 5, 6, 7, 8, 9] (hm := (by (try dsimp only); have := hD.a1; omega)) (hL := by exact (Has.cons (I_congr (by first | rfl | omega | (simp; omega) | simp)) (Has.cons (sl_congr (by unfold goneF; first | (rw [if_pos (by omega)]; done) | (rw [if_neg (by omega)]))) Has.nil))) (h := by exact ⟨(by (try dsimp only); rw [hts9_13, hm2]; exact hDn), (by (try dsimp only); rw [hts9_13, hm2]; rw [← hi1_l7]; exact hgo.symm)⟩)
          refine Al 0 [] fun w9_17 b9_17 hb9_17 hM9_17 => ?_
          refine os 0 [] [1, 2, 3, 4, 5, 6, 7, 8, 9] ?_
          refine aO [] [] 13 ?_
          refine cq 0 [] (b := mend_fn (⟨(T).root, A2, c2, Ch⟩ : TreeL) _ _ ((plcI (((Ch)[(up9).toNat]'hju).c.l) cur - 1).toNat) _ _ w9_17 ⟨(hM9_17.rd 4 rfl), (NsP.mem hM9_17 2 rfl)⟩ (by exact hzc) (by rfl) (by exact hpk) (by exact hmd) (by exact hcp9)) (c := ?_)
          rintro _ w9_13 ⟨L19_13, A19_13, c19_13, rfl, hts9_13, hR9_13⟩
          have hM9_13 := hM9_17.cl 0 hR9_13
          have hcr9_13_0 := (hM9_13.cap 0 rfl).1
          refine os 0 [] [3, 4, 5, 6, 7, 8, 9, 10, 11] ?_
          refine aO [14, 15, 16] [] 18 ?_
          refine Sb 0 [] 2 fun w9_18 hM9_18 => ?_
          refine os 0 [] [3, 4, 5, 6, 7, 8, 9, 10, 11] ?_
          refine an [19] [] ?_
          refine Sb 3 [2] 5 fun w10_1 hM10_1 => ?_
          have hMk12 := hM10_1.pk [0, 1, 2, 3, 5, 7, 8, 9, 10, 11]
          obtain ⟨m2, hm2⟩ : ∃ z, z = (mendF (⟨(T).root, tsG Ch⟩ : TrT) up9 (plcI (((Ch)[(up9).toNat]'hju).c.l) cur - 1).toNat).2 := ⟨_, rfl⟩
          refine ov 4 [] (s := Vi (m2)) (a := by exact cv (Ru.congr (v := I ((mendF ((⟨(T).root, A2, c2, Ch⟩ : TreeL)).t up9 (plcI (((Ch)[(up9).toNat]'hju).c.l) cur - 1).toNat).2)) (v' := I (m2)) (Ru.move rfl) ((I_congr hm2.symm))) rfl) (b := ?_)
          refine cd 2 [] (fun c89 => ?_) (fun c89 => ?_)
          · refine ov 2 [] (s := Vi (m2)) (a := by exact cv (Ru.congr (v := I ((mendF ((⟨(T).root, A2, c2, Ch⟩ : TreeL)).t up9 (plcI (((Ch)[(up9).toNat]'hju).c.l) cur - 1).toNat).2)) (v' := I (m2)) (Ru.move rfl) ((I_congr hm2.symm))) rfl) (b := ?_)
            refine Lt 0 [] (([m2]).map I) (fun w12_2 b12_2 hb12_2 hM12_2 => ?_)
            refine aM 0 [] 4 (hM12_2.rd 0 rfl) (fun w12_3 A12_3 c12_3 hc12_3 hM12_3 => ?_) (hn := by first | omega | (simp only [List.length_append, List.length_cons, List.length_nil]; omega)) (hb := by first | omega | (simp only [List.length_append, List.length_cons, List.length_nil]; omega))
            refine ov 4 [] (a := ksub) (b := ?_)
            have hq13 : (g9 ++ [m2] : List Int) = (goneF g9 m2) := (by unfold goneF; first | (rw [if_pos (by omega)]; done) | (rw [if_neg (by omega)]))
            have hMn13 := hM12_3.reM 4 hq13
            exact le7 2 [] (a - 1) L19_13 (goneF g9 m2) A19_13 c19_13 A12_3 c12_3 [4, 2, 5, 1, 6, 7, 8, 9, 10] (hm := (by (try dsimp only); have := hD.a1; omega)) (hL := by exact (Has.cons (I_congr (by first | rfl | omega | (simp; omega) | simp)) (Has.cons (sl_congr (by unfold goneF; first | (rw [if_pos (by omega)]; done) | (rw [if_neg (by omega)]))) Has.nil))) (h := by exact ⟨(by (try dsimp only); rw [hts9_13, hm2]; exact hDn), (by (try dsimp only); rw [hts9_13, hm2]; rw [← hi1_l7]; exact hgo.symm)⟩)
          refine ov 3 [] (a := ksub) (b := ?_)
          have hq15 : (g9 : List Int) = (goneF g9 m2) := (by unfold goneF; first | (rw [if_pos (by omega)]; done) | (rw [if_neg (by omega)]))
          have hMn15 := hMk12.reM 3 hq15
          exact le7 2 [] (a - 1) L19_13 (goneF g9 m2) A19_13 c19_13 A3 c3 [3, 1, 4, 0, 5, 6, 7, 8, 9] (hm := (by (try dsimp only); have := hD.a1; omega)) (hL := by exact (Has.cons (I_congr (by first | rfl | omega | (simp; omega) | simp)) (Has.cons (sl_congr (by unfold goneF; first | (rw [if_pos (by omega)]; done) | (rw [if_neg (by omega)]))) Has.nil))) (h := by exact ⟨(by (try dsimp only); rw [hts9_13, hm2]; exact hDn), (by (try dsimp only); rw [hts9_13, hm2]; rw [← hi1_l7]; exact hgo.symm)⟩)
        refine Al 0 [] fun w9_17 b9_17 hb9_17 hM9_17 => ?_
        refine os 0 [] [1, 2, 3, 4, 5, 6, 7, 8, 9] ?_
        refine aO [] [] 12 ?_
        refine cq 0 [] (vs := [.slice (((Ch)[(up9).toNat]'hx9_5).c.A) ((((Ch)[(up9).toNat]'hx9_5).c.l).length) (((Ch)[(up9).toNat]'hx9_5).c.cp), I (cur)]) (hvs := (by first | rfl | (rw [show (((Ch)[(up9).toNat]'hx9_5).c.l).length = ((Ch)[(up9).toNat]'hx9_5).c.l.length from (by first | rfl | (simp; done) | omega | (simp; omega))]; rfl))) (b := placeOf_fn (((Ch)[(up9).toNat]'hx9_5).c.A) (((Ch)[(up9).toNat]'hx9_5).c.cp) (((Ch)[(up9).toNat]'hx9_5).c.l) _ w9_17 ((NsP.mem hM9_17 2 rfl).get hx9_5).2.1 qo) (c := ?_)
        rintro _ w9_12 ⟨rfl, hR9_12⟩
        have hM9_12 := hM9_17.cl 0 hR9_12
        refine os 0 [] [1, 2, 3, 4, 5, 6, 7, 8, 9] ?_
        refine aO [] [] 13 ?_
        refine cq 0 [] (b := mend_fn (⟨(T).root, A2, c2, Ch⟩ : TreeL) _ _ ((plcI (((Ch)[(up9).toNat]'hju).c.l) cur - 1).toNat) _ _ w9_12 ⟨(hM9_12.rd 4 rfl), (NsP.mem hM9_12 2 rfl)⟩ (by exact hzc) (by rfl) (by exact hpk) (by exact hmd) (by exact hcp9)) (c := ?_)
        rintro _ w9_13 ⟨L19_13, A19_13, c19_13, rfl, hts9_13, hR9_13⟩
        have hM9_13 := hM9_12.cl 0 hR9_13
        have hcr9_13_0 := (hM9_13.cap 0 rfl).1
        refine os 0 [] [3, 4, 5, 6, 7, 8, 9, 10, 11] ?_
        refine aO [14, 15, 16] [] 18 ?_
        refine Sb 0 [] 2 fun w9_18 hM9_18 => ?_
        refine os 0 [] [3, 4, 5, 6, 7, 8, 9, 10, 11] ?_
        refine an [19] [] ?_
        refine Sb 3 [2] 5 fun w10_1 hM10_1 => ?_
        have hMk17 := hM10_1.pk [0, 1, 2, 3, 5, 7, 8, 9, 10, 11]
        obtain ⟨m2, hm2⟩ : ∃ z, z = (mendF (⟨(T).root, tsG Ch⟩ : TrT) up9 (plcI (((Ch)[(up9).toNat]'hju).c.l) cur - 1).toNat).2 := ⟨_, rfl⟩
        refine ov 4 [] (s := Vi (m2)) (a := by exact cv (Ru.congr (v := I ((mendF ((⟨(T).root, A2, c2, Ch⟩ : TreeL)).t up9 (plcI (((Ch)[(up9).toNat]'hju).c.l) cur - 1).toNat).2)) (v' := I (m2)) (Ru.move rfl) ((I_congr hm2.symm))) rfl) (b := ?_)
        refine cd 2 [] (fun c89 => ?_) (fun c89 => ?_)
        · refine ov 2 [] (s := Vi (m2)) (a := by exact cv (Ru.congr (v := I ((mendF ((⟨(T).root, A2, c2, Ch⟩ : TreeL)).t up9 (plcI (((Ch)[(up9).toNat]'hju).c.l) cur - 1).toNat).2)) (v' := I (m2)) (Ru.move rfl) ((I_congr hm2.symm))) rfl) (b := ?_)
          refine Lt 0 [] (([m2]).map I) (fun w12_2 b12_2 hb12_2 hM12_2 => ?_)
          refine aM 0 [] 4 (hM12_2.rd 0 rfl) (fun w12_3 A12_3 c12_3 hc12_3 hM12_3 => ?_) (hn := by first | omega | (simp only [List.length_append, List.length_cons, List.length_nil]; omega)) (hb := by first | omega | (simp only [List.length_append, List.length_cons, List.length_nil]; omega))
          refine ov 4 [] (a := ksub) (b := ?_)
          have hq18 : (g9 ++ [m2] : List Int) = (goneF g9 m2) := (by unfold goneF; first | (rw [if_pos (by omega)]; done) | (rw [if_neg (by omega)]))
          have hMn18 := hM12_3.reM 4 hq18
          exact le7 2 [] (a - 1) L19_13 (goneF g9 m2) A19_13 c19_13 A12_3 c12_3 [4, 2, 5, 1, 6, 7, 8, 9, 10] (hm := (by (try dsimp only); have := hD.a1; omega)) (hL := by exact (Has.cons (I_congr (by first | rfl | omega | (simp; omega) | simp)) (Has.cons (sl_congr (by unfold goneF; first | (rw [if_pos (by omega)]; done) | (rw [if_neg (by omega)]))) Has.nil))) (h := by exact ⟨(by (try dsimp only); rw [hts9_13, hm2]; exact hDn), (by (try dsimp only); rw [hts9_13, hm2]; rw [← hi1_l7]; exact hgo.symm)⟩)
        refine ov 3 [] (a := ksub) (b := ?_)
        have hq20 : (g9 : List Int) = (goneF g9 m2) := (by unfold goneF; first | (rw [if_pos (by omega)]; done) | (rw [if_neg (by omega)]))
        have hMn20 := hMk17.reM 3 hq20
        exact le7 2 [] (a - 1) L19_13 (goneF g9 m2) A19_13 c19_13 A3 c3 [3, 1, 4, 0, 5, 6, 7, 8, 9] (hm := (by (try dsimp only); have := hD.a1; omega)) (hL := by exact (Has.cons (I_congr (by first | rfl | omega | (simp; omega) | simp)) (Has.cons (sl_congr (by unfold goneF; first | (rw [if_pos (by omega)]; done) | (rw [if_neg (by omega)]))) Has.nil))) (h := by exact ⟨(by (try dsimp only); rw [hts9_13, hm2]; exact hDn), (by (try dsimp only); rw [hts9_13, hm2]; rw [← hi1_l7]; exact hgo.symm)⟩)
      exact ce7 1 [] a Ch g9 A2 c2 A3 c3 [0, 1, 2, 3, 4, 5, 6, 7, 8] (h := by exact ⟨hD, (by (try dsimp only); rw [← hi1_l7]; exact mendL_stop (s := ((⟨(T).root, tsG Ch⟩ : TrT), g9)) (by omega) (by first | (left; omega) | (right; rw [← hcu, hgc]; show 2 ≤ (((Ch)[(cur).toNat]'hjc).k.l).length; omega)))⟩)
    refine qn 12 [] fun w7d hM7d => ?_
    exact ce7 2 [] a Ch g9 A2 c2 A3 c3 [0, 1, 2, 3, 4, 5, 6, 7, 8] (h := by exact ⟨hD, (by (try dsimp only); rw [← hi1_l7]; exact mendL_stop (s := ((⟨(T).root, tsG Ch⟩ : TrT), g9)) (by omega) (by first | (left; omega) | (right; rw [← hcu, hgc]; show 2 ≤ (((Ch)[(cur).toNat]'hjc).k.l).length; omega)))⟩)
  obtain ⟨hi0_b0, hi1_b0⟩ := hI
  have hcl0_b0 := (hM_b0.cap 0 rfl).1
  have hcl3_b0 := (hM_b0.cap 3 rfl).1
  have hcl4_b0 := (hM_b0.cap 4 rfl).1
  have hcl5_b0 := (hM_b0.cap 5 rfl).1
  have hcl6_b0 := (hM_b0.cap 6 rfl).1
  have hD1 := hi0_b0
  have hcl1 := hD1.len
  simp only [pages_len, List.length_map] at hcl1
  have hgl1 : (g1).length + a1 ≤ (pathK (T).t key).length := hD1.gl
  have ha11 := hD1.a1
  have hjr : ((T).root).toNat < (Ch1).length := by omega
  have hgr : gP (⟨(T).root, tsG Ch1⟩ : TrT) (T).root = ((Ch1)[((T).root).toNat]'hjr).t := gP_ch hjr
  obtain ⟨hF1, hF2, hF3, hF4⟩ := hD1.fin hv hP
  refine ct4 6 [] (fun (r2 : Int) (g2 : List Int) (A9 : Option Addr) (c9 : Nat) => ([(11, Vl (A9) ((g2).length) (c9))] : List (Nat × SV))) (fun (r2 : Int) (g2 : List Int) (A9 : Option Addr) (c9 : Nat) => (rootF ((⟨(T).root, tsG Ch1⟩ : TrT), g1) = (⟨r2, tsG Ch1⟩, g2))) (fun (r2 : Int) (g2 : List Int) (A9 : Option Addr) (c9 : Nat) => [[⟨.slice (A9) ((g2).length) (c9), 3, 1, ((g2).length), (g2).map I⟩], [⟨.slice (bl b1_2) 1 1, 25, 2, 1, [I (r2), .slice (A7) ((Ch1).length) (c7)]⟩]]) [4, 6, 15] [1, 3, 4, 5, 6, 7, 8] ?_ (fun r2 g2 A9 c9 σ w_c106 hI hM_c106 => ?_)
  · have hx15_4 : ((T).root).toNat < (Ch1).length := hjr
    refine ov 6 [2, 2] (a := kixF hx15_4 (hM_b0.rd 3 rfl) (h0 := by omega)) (b := ?_)
    refine ov 0 [] (a := kflF hx15_4 (hM_b0.rd 3 rfl)) (b := ?_)
    refine ov 0 [] (a := kldF hx15_4 (hM_b0.rd 3 rfl)) (b := ?_)
    refine cd 3 [] (fun c106 => ?_) (fun c106 => ?_)
    · have hk1 : (gP (⟨(T).root, tsG Ch1⟩ : TrT) (T).root).kids.length = 1 := by rw [hgr]; show (((Ch1)[((T).root).toNat]'hjr).c.l).length = 1; omega
      obtain ⟨k0, hk0⟩ : ∃ z, z = (((Ch1)[((T).root).toNat]'hjr).c.l).getD 0 0 := ⟨_, rfl⟩
      have hRy : rootF ((⟨(T).root, tsG Ch1⟩ : TrT), g1) = (⟨k0, tsG Ch1⟩, g1 ++ [(T).root]) := by rw [root_yes (s := ((⟨(T).root, tsG Ch1⟩ : TrT), g1)) hk1]; rw [show ((⟨(T).root, tsG Ch1⟩ : TrT), g1).1.root = (T).root from rfl, hgr, hk0]; rfl
      refine Lt 5 [2] (([(T).root]).map I) (fun w16_3 b16_3 hb16_3 hM16_3 => ?_)
      refine aM 0 [] 1 (hM16_3.rd 0 rfl) (fun w16_4 A16_4 c16_4 hc16_4 hM16_4 => ?_) (hn := by first | omega | (simp only [List.length_append, List.length_cons, List.length_nil]; omega)) (hb := by first | omega | (simp only [List.length_append, List.length_cons, List.length_nil]; omega))
      have hx17_4 : ((T).root).toNat < (Ch1).length := hjr
      refine ov 7 [3, 3] (a := kixF hx17_4 (hM16_4.rd 4 rfl) (h0 := by omega)) (b := ?_)
      refine ov 0 [] (a := kflF hx17_4 (hM16_4.rd 4 rfl)) (b := ?_)
      refine ov 0 [] (a := kldF hx17_4 (hM16_4.rd 4 rfl)) (b := ?_)
      have hx17_7 : 0 < (((Ch1)[((T).root).toNat]'hx17_4).c.l).length := (by omega)
      refine ov 0 [] (a := kixM hx17_7 ((NsP.mem hM16_4 2 rfl).get hx17_4).2.1 (h0 := by omega)) (b := ?_)
      refine ov 0 [] (s := Vi (k0)) (a := by exact cv (Ru.congr (v := I ((((Ch1)[((T).root).toNat]'hx17_4).c.l)[0]'hx17_7)) (v' := I (k0)) (Ru.load1 el3 rfl (ldm ((NsP.mem hM16_4 2 rfl).get hx17_4).2.1 hx17_7)) (I_congr ((getD_in hx17_7).symm.trans hk0.symm))) rfl) (b := ?_)
      refine Sb 1 [] 3 fun w17_10 hM17_10 => ?_
      have hq24 : (g1 ++ [(T).root] : List Int) = (g1 ++ [(T).root]) := (by first | rfl | simp | (simp; omega))
      have hMn24 := hM17_10.reM 1 hq24
      exact ce4 1 [] k0 (g1 ++ [(T).root]) A16_4 c16_4 [1, 3, 2, 4, 5, 6, 7, 8, 9] (h := by exact (by (try dsimp only); first | exact hRy | exact hRn))
    have hRn : rootF ((⟨(T).root, tsG Ch1⟩ : TrT), g1) = (⟨(T).root, tsG Ch1⟩, g1) := root_no (s := ((⟨(T).root, tsG Ch1⟩ : TrT), g1)) (by show ¬ (gP (⟨(T).root, tsG Ch1⟩ : TrT) (T).root).kids.length = 1; rw [hgr]; show ¬ (((Ch1)[((T).root).toNat]'hjr).c.l).length = 1; omega)
    exact ce4 1 [] ((T).root) g1 A8 c8 [0, 2, 1, 3, 4, 5, 6, 7, 8] (h := by exact (by (try dsimp only); first | exact hRy | exact hRn))
  have hi0_c106 := hI
  have hcl0_c106 := (hM_c106.cap 0 rfl).1
  have hcl3_c106 := (hM_c106.cap 3 rfl).1
  have hcl4_c106 := (hM_c106.cap 4 rfl).1
  have hcl5_c106 := (hM_c106.cap 5 rfl).1
  have hcl6_c106 := (hM_c106.cap 6 rfl).1
  rw [hi0_c106] at hF1 hF2 hF3 hF4
  have hg2l : (g2).length ≤ 3 := Nat.le_trans hF4 hp3
  have hdf : cutA 4 (⟨r2, tsG Ch1⟩ : TrT) g2 = dropF (T).t key := by unfold dropF; rw [hi1_b0, hi0_c106]
  refine lp8 6 [] (fun (i : Nat) (r3 : Int) (Ch3 : List PgL) (g3 : List Int) (A2 : Option Addr) (c2 : Nat) (A3 : Option Addr) (c3 : Nat) => ([(11, Vl (A3) ((g3).length) (c3)), (16, Vi (((i : Nat) : Int)))] : List (Nat × SV))) (fun (i : Nat) (r3 : Int) (Ch3 : List PgL) (g3 : List Int) (A2 : Option Addr) (c2 : Nat) (A3 : Option Addr) (c3 : Nat) => (i ≤ (g3).length ∧ (g3).length ≤ 3) ∧ (∃ lv, FV lv (⟨r3, tsG Ch3⟩ : TrT) ((g3).drop i)) ∧ (cutA (4 - i) (⟨r3, tsG Ch3⟩ : TrT) ((g3).drop i) = dropF (T).t key) ∧ ((Ch3).length ≤ 64)) (fun (i : Nat) (r3 : Int) (Ch3 : List PgL) (g3 : List Int) (A2 : Option Addr) (c2 : Nat) (A3 : Option Addr) (c3 : Nat) => [[⟨.slice (A3) ((g3).length) (c3), 3, 1, ((g3).length), (g3).map I⟩], [⟨.slice (bl b1_2) 1 1, 25, 2, 1, [I (r3), .slice (A2) ((Ch3).length) (c2)]⟩], (Ch3).flatMap (pgF 3), [⟨.slice (A2) ((Ch3).length) (c2), 39, 3, ((Ch3).length), (Ch3).flatMap encPg⟩]]) (fun (i : Nat) (r3 : Int) (Ch3 : List PgL) (g3 : List Int) (A2 : Option Addr) (c2 : Nat) (A3 : Option Addr) (c3 : Nat) => (g3).length - i) [4, 6, 15] [0, 1, 2, 3] [4, 5, 6, 7, 8] 0 r2 Ch1 g2 A7 c7 A9 c9 (fun i r3 Ch3 g3 A2 c2 A3 c3 σ w_l19 hI hM_l19 => ?_) (h0 := ⟨⟨Nat.zero_le _, hg2l⟩, ⟨_, hF1⟩, hdf, (by (try dsimp only); omega)⟩)
  obtain ⟨hi0_l19, hi1_l19, hi2_l19, hi3_l19⟩ := hI
  have hcl0_l19 := (hM_l19.cap 0 rfl).1
  have hcl3_l19 := (hM_l19.cap 3 rfl).1
  have hcl4_l19 := (hM_l19.cap 4 rfl).1
  have hcl5_l19 := (hM_l19.cap 5 rfl).1
  have hcl6_l19 := (hM_l19.cap 6 rfl).1
  obtain ⟨lv9, hFV⟩ := hi1_l19
  have hkb := fun p hp => hFV.kb (by simp only [List.length_map]; exact hi3_l19) (p := p) hp
  have hzz : SzT ⟨r3, A2, c2, Ch3⟩ := sz_small hFV.small (by omega)
  have hrr := inT_iff.1 hFV.root.1
  simp only [List.length_map] at hrr
  refine cd 8 [] (fun c125 => ?_) (fun c125 => ?_)
  · have hik : i < (g3).length := by omega
    obtain ⟨gi, hgi⟩ : ∃ z, z = (g3)[i]'hik := ⟨_, rfl⟩
    have hgir := hFV.at hik
    rw [← hgi] at hgir
    simp only [List.length_map] at hgir
    have hgb : ∀ x ∈ (g3).drop i, 0 ≤ x ∧ x < ((Ch3).length : Int) := fun x hx => by have h9 := inT_iff.1 (hFV.gin x hx); simp only [List.length_map] at h9; exact h9
    refine any 4 [] 7 [0, 2, 3, 4, 5, 6, 7, 8] fun w21a hM21a => ?_
    have hx21_3 : i < (g3).length := hik
    refine av [1, 2] [] 3 (a := by exact fun _ hw2 => kixM hx21_3 (hM21a.rd 0 rfl) (h0 := by omega)) (b := ?_)
    refine av [] [] 4 (s := Vi (gi)) (a := by exact fun w2 hw2 => cv (Ru.congr (v := I ((g3)[i]'hx21_3)) (v' := I (gi)) (Ru.load1 el3 rfl (ldm (hw2.rd 0 rfl) hx21_3)) ((I_congr hgi.symm))) rfl) (b := ?_)
    refine aO [] [] 0 ?_
    refine os 1 [1] [0, 2, 3, 4, 5, 6, 7, 8] ?_
    refine aO [] [] 5 ?_
    refine cq 0 [] (b := cutPage_fn (⟨r3, A2, c2, Ch3⟩ : TreeL) _ w21a ⟨(hM21a.rd 3 rfl), (NsP.mem hM21a 2 rfl)⟩ (by exact hzz) (by exact hgir) (by constructor <;> (first | exact hrr.1 | (show r3 ≤ 1000; omega))) (by exact fun p hp x hx => hkb p.t (List.mem_map.2 ⟨p, hp, rfl⟩) x hx)) (c := ?_)
    rintro _ w21_5 ⟨L121_5, A121_5, c121_5, rfl, hts21_5, hR21_5⟩
    have hM21_5 := hM21a.cl 0 hR21_5
    have hcr21_5_0 := (hM21_5.cap 0 rfl).1
    refine os 0 [] [2, 4, 5, 6, 7, 8, 9, 10] ?_
    refine aO [] [] 6 ?_
    refine Sb 0 [] 3 fun w21_6 hM21_6 => ?_
    refine os 0 [] [2, 4, 5, 6, 7, 8, 9, 10] ?_
    refine an [] [] ?_
    have hMk26 := hM21_6.pk [0, 1, 2, 3, 6, 7, 8, 9, 10]
    refine ov 3 [] (a := kaddN (i + 1)) (b := ?_)
    have hq27 : (g3 : List Int) = gmL (g3) i 0 gi := gm_zero.symm
    have hMn27 : Mem w w21_6 [] [[⟨.slice (A121_5) ((L121_5).length) (c121_5), 39, 3, ((L121_5).length), (L121_5).flatMap encPg⟩], (L121_5).flatMap (pgF 3), [⟨.slice (A3) ((g3).length) (c3), 3, 1, ((g3).length), (gmL (g3) i 0 gi).map I⟩], [⟨.slice (bl b1_2) 1 1, 25, 2, 1, [I (shI gi ((⟨r3, A2, c2, Ch3⟩ : TreeL)).root), .slice (A121_5) ((L121_5).length) (c121_5)]⟩], [⟨.slice (A14_10) ((dropR (prsP ((((T).l)[(lf).toNat]'hx4_6)).t) key).length) (c14_10), 57, 2, ((dropR (prsP ((((T).l)[(lf).toNat]'hx4_6)).t) key).length), (dropR (prsP ((((T).l)[(lf).toNat]'hx4_6)).t) key).flatMap encP⟩], [⟨.slice (A14_8) ((prsP ((((T).l)[(lf).toNat]'hx4_6)).t).length) (c14_8), 57, 2, ((prsP ((((T).l)[(lf).toNat]'hx4_6)).t).length), (prsP ((((T).l)[(lf).toNat]'hx4_6)).t).flatMap encP⟩], [⟨.slice (A12_2) ((pathK (T).t key).length) (c12_2), 3, 1, ((pathK (T).t key).length), (pathK (T).t key).map I⟩], [⟨.slice (bl b0_1) 1 1, 25, 2, 1, [I (0), .slice (none) (0) (0)]⟩], [⟨.slice (bl b0_0) 1 1, 25, 2, 1, [I ((T).root), .slice ((T).A) ((T).l.length) ((T).cp)]⟩]] := hMk26.relen 2 (n' := (g3).length) (xs' := (gmL (g3) i 0 gi).map I) rfl (by first | rfl | exact congrArg List.length hq27 | (have hqq := congrArg List.length hq27; first | omega | (simp at hqq ⊢; omega)) | (simp; done) | (simp; omega)) (congrArg (fun z_ => (z_).map I) hq27) rfl
    refine lp1 3 [] (fun (m : Nat) => ([(11, Vl (A3) ((g3).length) (c3)), (17, Vi ((((i + 1 + m) : Nat) : Int)))] : List (Nat × SV))) (fun (m : Nat) => (i + 1 + m ≤ (g3).length)) (fun (m : Nat) => [[⟨.slice (A3) ((g3).length) (c3), 3, 1, ((g3).length), (gmL (g3) i m gi).map I⟩]]) (fun (m : Nat) => (g3).length - (i + 1 + m)) [4, 6, 15, 16] [2] [0, 1, 3, 4, 5, 6, 7, 8] 0 (fun m σ w_l23 hI hM_l23 => ?_) (h0 := (by (try dsimp only); omega))
    have hi0_l23 := hI
    have hcl0_l23 := (hM_l23.cap 0 rfl).1
    have hcl1_l23 := (hM_l23.cap 1 rfl).1
    have hcl4_l23 := (hM_l23.cap 4 rfl).1
    have hcl5_l23 := (hM_l23.cap 5 rfl).1
    have hcl6_l23 := (hM_l23.cap 6 rfl).1
    have hgml := gm_len (m := m) (gi := gi) hik
    refine cd 8 [] (fun c139 => ?_) (fun c139 => ?_)
    · have hkm : i + 1 + m < (g3).length := by omega
      obtain ⟨z9, hz9⟩ : ∃ z, z = (g3)[i + 1 + m]'hkm := ⟨_, rfl⟩
      have hzb := hgb z9 (by rw [hz9]; exact List.mem_drop_iff_getElem.2 ⟨1 + m, by omega, by congr 1; omega⟩)
      have hshv : z9 - (if decide (z9 > gi) = true then 1 else 0) = shI gi (g3)[i + 1 + m] := by rw [← hz9]; unfold shI; simp
      have hif : (0 : Int) ≤ (if decide (z9 > gi) = true then 1 else 0) ∧ (if decide (z9 > gi) = true then (1 : Int) else 0) ≤ 1 := by split <;> omega
      refine any 3 [] 19 [1, 2, 3, 4, 5, 6, 7, 8] fun w25a hM25a => ?_
      have hx25_4 : (i + 1 + m) < (gmL (g3) i m gi).length := (by rw [hgml]; omega)
      refine av [0, 1, 2, 3] [] 4 (a := by exact fun _ hw2 => kixM hx25_4 (hM25a.rd 0 rfl) (h0 := by omega)) (b := ?_)
      have hx25_8 : (i + 1 + m) < (gmL (g3) i m gi).length := (by rw [hgml]; omega)
      refine av [6, 7] [] 8 (a := by exact fun _ hw2 => kixM hx25_8 (hM25a.rd 0 rfl) (h0 := by omega)) (b := ?_)
      have hx25_12 : i < (gmL (g3) i m gi).length := (by rw [hgml]; omega)
      refine av [10, 11] [] 12 (a := by exact fun _ hw2 => kixM hx25_12 (hM25a.rd 0 rfl) (h0 := by omega)) (b := ?_)
      refine aH [] [] 5 9 13 ?_ ?_ ?_
      · refine ov 0 [] (s := Vi (z9)) (a := by exact cv (Ru.congr (v := I ((gmL (g3) i m gi)[(i + 1 + m)]'hx25_4)) (v' := I (z9)) (Ru.load1 el3 rfl (ldm (hM25a.rd 0 rfl) hx25_4)) ((I_congr (by rw [hz9]; exact gm_get hkm _)))) rfl) (b := ?_)
        refine os 0 [] [1, 2, 3, 4, 5, 6, 7, 8] ?_
        refine aT [] [] 9 13 ?_ ?_
        · refine ov 0 [] (s := Vi (z9)) (a := by exact cv (Ru.congr (v := I ((gmL (g3) i m gi)[(i + 1 + m)]'hx25_8)) (v' := I (z9)) (Ru.load1 el3 rfl (ldm (hM25a.rd 0 rfl) hx25_8)) ((I_congr (by rw [hz9]; exact gm_get hkm _)))) rfl) (b := ?_)
          refine os 0 [] [1, 2, 3, 4, 5, 6, 7, 8] ?_
          refine aO [] [] 13 ?_
          refine ov 0 [] (s := Vi (gi)) (a := by exact cv (Ru.congr (v := I ((gmL (g3) i m gi)[i]'hx25_12)) (v' := I (gi)) (Ru.load1 el3 rfl (ldm (hM25a.rd 0 rfl) hx25_12)) ((I_congr ((gm_geti hik _).trans hgi.symm)))) rfl) (b := ?_)
          refine os 0 [] [1, 2, 3, 4, 5, 6, 7, 8] ?_
          refine aO [14] [] 15 ?_
          refine cp 0 [] (b := stoInt_fn (decide (z9 > gi)) w25a ) (c := fun w25_15 hM25_15 => ?_)
          refine os 0 [] [1, 2, 3, 4, 5, 6, 7, 8] ?_
          refine av [] [] 16 (a := by exact fun _ hw2 => ksub) (b := ?_)
          have hx25_17 : (i + 1 + m) < (gmL (g3) i m gi).length := (by rw [hgml]; omega)
          refine av [] [] 17 (a := by exact fun _ hw2 => kixM hx25_17 (hM25_15.rd 0 rfl) (h0 := by omega)) (b := ?_)
          refine aO [] [] 18 ?_
          refine sM 0 [] 0 hx25_17 fun w25_18 hM25_18 => ?_
          refine os 0 [] [1, 2, 3, 4, 5, 6, 7, 8] ?_
          refine an [] [] ?_
          refine ov 2 [] (a := kaddN ((i + 1 + m) + 1)) (b := ?_)
          have hq28 : ((gmL (g3) i m gi).set ((i + 1 + m)) (z9 - (if (decide (z9 > gi)) then 1 else 0)) : List Int) = gmL (g3) i (m + 1) gi := (by rw [hshv]; exact gm_set hkm)
          let r2_ : List FE := [⟨.slice (A121_5) ((L121_5).length) (c121_5), 39, 3, ((L121_5).length), (L121_5).flatMap encPg⟩]
          let r3_ : List FE := [⟨.slice (bl b1_2) 1 1, 25, 2, 1, [I (shI gi ((⟨r3, A2, c2, Ch3⟩ : TreeL)).root), .slice (A121_5) ((L121_5).length) (c121_5)]⟩]
          let r4_ : List FE := [⟨.slice (A14_10) ((dropR (prsP ((((T).l)[(lf).toNat]'hx4_6)).t) key).length) (c14_10), 57, 2, ((dropR (prsP ((((T).l)[(lf).toNat]'hx4_6)).t) key).length), (dropR (prsP ((((T).l)[(lf).toNat]'hx4_6)).t) key).flatMap encP⟩]
          let r5_ : List FE := [⟨.slice (A14_8) ((prsP ((((T).l)[(lf).toNat]'hx4_6)).t).length) (c14_8), 57, 2, ((prsP ((((T).l)[(lf).toNat]'hx4_6)).t).length), (prsP ((((T).l)[(lf).toNat]'hx4_6)).t).flatMap encP⟩]
          let r6_ : List FE := [⟨.slice (A12_2) ((pathK (T).t key).length) (c12_2), 3, 1, ((pathK (T).t key).length), (pathK (T).t key).map I⟩]
          let r7_ : List FE := [⟨.slice (bl b0_1) 1 1, 25, 2, 1, [I (0), .slice (none) (0) (0)]⟩]
          let r8_ : List FE := [⟨.slice (bl b0_0) 1 1, 25, 2, 1, [I ((T).root), .slice ((T).A) ((T).l.length) ((T).cp)]⟩]
          have hMn28 : Mem w w25_18 [] [[⟨.slice (A3) ((g3).length) (c3), 3, 1, ((g3).length), (gmL (g3) i (m + 1) gi).map I⟩], r2_, (L121_5).flatMap (pgF 3), r3_, r4_, r5_, r6_, r7_, r8_] := hM25_18.relen 0 (n' := (g3).length) (xs' := (gmL (g3) i (m + 1) gi).map I) rfl (by first | rfl | exact congrArg List.length hq28 | (have hqq := congrArg List.length hq28; first | omega | (simp at hqq ⊢; omega)) | (simp; done) | (simp; omega)) (congrArg (fun z_ => (z_).map I) hq28) rfl
          exact le1 2 [] (m + 1) [0, 1, 2, 3, 4, 5, 6, 7, 8] (h := by exact (by (try dsimp only); omega))
        refine ov 0 [] (s := Vi (gi)) (a := by exact cv (Ru.congr (v := I ((gmL (g3) i m gi)[i]'hx25_12)) (v' := I (gi)) (Ru.load1 el3 rfl (ldm (hM25a.rd 0 rfl) hx25_12)) ((I_congr ((gm_geti hik _).trans hgi.symm)))) rfl) (b := ?_)
        refine os 0 [] [1, 2, 3, 4, 5, 6, 7, 8] ?_
        refine aO [] [] 9 ?_
        refine ov 0 [] (s := Vi (z9)) (a := by exact cv (Ru.congr (v := I ((gmL (g3) i m gi)[(i + 1 + m)]'hx25_8)) (v' := I (z9)) (Ru.load1 el3 rfl (ldm (hM25a.rd 0 rfl) hx25_8)) ((I_congr (by rw [hz9]; exact gm_get hkm _)))) rfl) (b := ?_)
        refine os 0 [] [1, 2, 3, 4, 5, 6, 7, 8] ?_
        refine aO [14] [] 15 ?_
        refine cp 0 [] (b := stoInt_fn (decide (z9 > gi)) w25a ) (c := fun w25_15 hM25_15 => ?_)
        refine os 0 [] [1, 2, 3, 4, 5, 6, 7, 8] ?_
        refine av [] [] 16 (a := by exact fun _ hw2 => ksub) (b := ?_)
        have hx25_17 : (i + 1 + m) < (gmL (g3) i m gi).length := (by rw [hgml]; omega)
        refine av [] [] 17 (a := by exact fun _ hw2 => kixM hx25_17 (hM25_15.rd 0 rfl) (h0 := by omega)) (b := ?_)
        refine aO [] [] 18 ?_
        refine sM 0 [] 0 hx25_17 fun w25_18 hM25_18 => ?_
        refine os 0 [] [1, 2, 3, 4, 5, 6, 7, 8] ?_
        refine an [] [] ?_
        refine ov 2 [] (a := kaddN ((i + 1 + m) + 1)) (b := ?_)
        have hq29 : ((gmL (g3) i m gi).set ((i + 1 + m)) (z9 - (if (decide (z9 > gi)) then 1 else 0)) : List Int) = gmL (g3) i (m + 1) gi := (by rw [hshv]; exact gm_set hkm)
        let r9_ : List FE := [⟨.slice (A121_5) ((L121_5).length) (c121_5), 39, 3, ((L121_5).length), (L121_5).flatMap encPg⟩]
        let r10_ : List FE := [⟨.slice (bl b1_2) 1 1, 25, 2, 1, [I (shI gi ((⟨r3, A2, c2, Ch3⟩ : TreeL)).root), .slice (A121_5) ((L121_5).length) (c121_5)]⟩]
        let r11_ : List FE := [⟨.slice (A14_10) ((dropR (prsP ((((T).l)[(lf).toNat]'hx4_6)).t) key).length) (c14_10), 57, 2, ((dropR (prsP ((((T).l)[(lf).toNat]'hx4_6)).t) key).length), (dropR (prsP ((((T).l)[(lf).toNat]'hx4_6)).t) key).flatMap encP⟩]
        let r12_ : List FE := [⟨.slice (A14_8) ((prsP ((((T).l)[(lf).toNat]'hx4_6)).t).length) (c14_8), 57, 2, ((prsP ((((T).l)[(lf).toNat]'hx4_6)).t).length), (prsP ((((T).l)[(lf).toNat]'hx4_6)).t).flatMap encP⟩]
        let r13_ : List FE := [⟨.slice (A12_2) ((pathK (T).t key).length) (c12_2), 3, 1, ((pathK (T).t key).length), (pathK (T).t key).map I⟩]
        let r14_ : List FE := [⟨.slice (bl b0_1) 1 1, 25, 2, 1, [I (0), .slice (none) (0) (0)]⟩]
        let r15_ : List FE := [⟨.slice (bl b0_0) 1 1, 25, 2, 1, [I ((T).root), .slice ((T).A) ((T).l.length) ((T).cp)]⟩]
        have hMn29 : Mem w w25_18 [] [[⟨.slice (A3) ((g3).length) (c3), 3, 1, ((g3).length), (gmL (g3) i (m + 1) gi).map I⟩], r9_, (L121_5).flatMap (pgF 3), r10_, r11_, r12_, r13_, r14_, r15_] := hM25_18.relen 0 (n' := (g3).length) (xs' := (gmL (g3) i (m + 1) gi).map I) rfl (by first | rfl | exact congrArg List.length hq29 | (have hqq := congrArg List.length hq29; first | omega | (simp at hqq ⊢; omega)) | (simp; done) | (simp; omega)) (congrArg (fun z_ => (z_).map I) hq29) rfl
        exact le1 2 [] (m + 1) [0, 1, 2, 3, 4, 5, 6, 7, 8] (h := by exact (by (try dsimp only); omega))
      · refine ov 0 [] (s := Vi (z9)) (a := by exact cv (Ru.congr (v := I ((gmL (g3) i m gi)[(i + 1 + m)]'hx25_8)) (v' := I (z9)) (Ru.load1 el3 rfl (ldm (hM25a.rd 0 rfl) hx25_8)) ((I_congr (by rw [hz9]; exact gm_get hkm _)))) rfl) (b := ?_)
        refine os 0 [] [1, 2, 3, 4, 5, 6, 7, 8] ?_
        refine aT [] [] 5 13 ?_ ?_
        · refine ov 0 [] (s := Vi (z9)) (a := by exact cv (Ru.congr (v := I ((gmL (g3) i m gi)[(i + 1 + m)]'hx25_4)) (v' := I (z9)) (Ru.load1 el3 rfl (ldm (hM25a.rd 0 rfl) hx25_4)) ((I_congr (by rw [hz9]; exact gm_get hkm _)))) rfl) (b := ?_)
          refine os 0 [] [1, 2, 3, 4, 5, 6, 7, 8] ?_
          refine aO [] [] 13 ?_
          refine ov 0 [] (s := Vi (gi)) (a := by exact cv (Ru.congr (v := I ((gmL (g3) i m gi)[i]'hx25_12)) (v' := I (gi)) (Ru.load1 el3 rfl (ldm (hM25a.rd 0 rfl) hx25_12)) ((I_congr ((gm_geti hik _).trans hgi.symm)))) rfl) (b := ?_)
          refine os 0 [] [1, 2, 3, 4, 5, 6, 7, 8] ?_
          refine aO [14] [] 15 ?_
          refine cp 0 [] (b := stoInt_fn (decide (z9 > gi)) w25a ) (c := fun w25_15 hM25_15 => ?_)
          refine os 0 [] [1, 2, 3, 4, 5, 6, 7, 8] ?_
          refine av [] [] 16 (a := by exact fun _ hw2 => ksub) (b := ?_)
          have hx25_17 : (i + 1 + m) < (gmL (g3) i m gi).length := (by rw [hgml]; omega)
          refine av [] [] 17 (a := by exact fun _ hw2 => kixM hx25_17 (hM25_15.rd 0 rfl) (h0 := by omega)) (b := ?_)
          refine aO [] [] 18 ?_
          refine sM 0 [] 0 hx25_17 fun w25_18 hM25_18 => ?_
          refine os 0 [] [1, 2, 3, 4, 5, 6, 7, 8] ?_
          refine an [] [] ?_
          refine ov 2 [] (a := kaddN ((i + 1 + m) + 1)) (b := ?_)
          have hq30 : ((gmL (g3) i m gi).set ((i + 1 + m)) (z9 - (if (decide (z9 > gi)) then 1 else 0)) : List Int) = gmL (g3) i (m + 1) gi := (by rw [hshv]; exact gm_set hkm)
          let r16_ : List FE := [⟨.slice (A121_5) ((L121_5).length) (c121_5), 39, 3, ((L121_5).length), (L121_5).flatMap encPg⟩]
          let r17_ : List FE := [⟨.slice (bl b1_2) 1 1, 25, 2, 1, [I (shI gi ((⟨r3, A2, c2, Ch3⟩ : TreeL)).root), .slice (A121_5) ((L121_5).length) (c121_5)]⟩]
          let r18_ : List FE := [⟨.slice (A14_10) ((dropR (prsP ((((T).l)[(lf).toNat]'hx4_6)).t) key).length) (c14_10), 57, 2, ((dropR (prsP ((((T).l)[(lf).toNat]'hx4_6)).t) key).length), (dropR (prsP ((((T).l)[(lf).toNat]'hx4_6)).t) key).flatMap encP⟩]
          let r19_ : List FE := [⟨.slice (A14_8) ((prsP ((((T).l)[(lf).toNat]'hx4_6)).t).length) (c14_8), 57, 2, ((prsP ((((T).l)[(lf).toNat]'hx4_6)).t).length), (prsP ((((T).l)[(lf).toNat]'hx4_6)).t).flatMap encP⟩]
          let r20_ : List FE := [⟨.slice (A12_2) ((pathK (T).t key).length) (c12_2), 3, 1, ((pathK (T).t key).length), (pathK (T).t key).map I⟩]
          let r21_ : List FE := [⟨.slice (bl b0_1) 1 1, 25, 2, 1, [I (0), .slice (none) (0) (0)]⟩]
          let r22_ : List FE := [⟨.slice (bl b0_0) 1 1, 25, 2, 1, [I ((T).root), .slice ((T).A) ((T).l.length) ((T).cp)]⟩]
          have hMn30 : Mem w w25_18 [] [[⟨.slice (A3) ((g3).length) (c3), 3, 1, ((g3).length), (gmL (g3) i (m + 1) gi).map I⟩], r16_, (L121_5).flatMap (pgF 3), r17_, r18_, r19_, r20_, r21_, r22_] := hM25_18.relen 0 (n' := (g3).length) (xs' := (gmL (g3) i (m + 1) gi).map I) rfl (by first | rfl | exact congrArg List.length hq30 | (have hqq := congrArg List.length hq30; first | omega | (simp at hqq ⊢; omega)) | (simp; done) | (simp; omega)) (congrArg (fun z_ => (z_).map I) hq30) rfl
          exact le1 2 [] (m + 1) [0, 1, 2, 3, 4, 5, 6, 7, 8] (h := by exact (by (try dsimp only); omega))
        refine ov 0 [] (s := Vi (gi)) (a := by exact cv (Ru.congr (v := I ((gmL (g3) i m gi)[i]'hx25_12)) (v' := I (gi)) (Ru.load1 el3 rfl (ldm (hM25a.rd 0 rfl) hx25_12)) ((I_congr ((gm_geti hik _).trans hgi.symm)))) rfl) (b := ?_)
        refine os 0 [] [1, 2, 3, 4, 5, 6, 7, 8] ?_
        refine aT [14] [] 5 15 ?_ ?_
        · refine ov 0 [] (s := Vi (z9)) (a := by exact cv (Ru.congr (v := I ((gmL (g3) i m gi)[(i + 1 + m)]'hx25_4)) (v' := I (z9)) (Ru.load1 el3 rfl (ldm (hM25a.rd 0 rfl) hx25_4)) ((I_congr (by rw [hz9]; exact gm_get hkm _)))) rfl) (b := ?_)
          refine os 0 [] [1, 2, 3, 4, 5, 6, 7, 8] ?_
          refine aO [] [] 15 ?_
          refine cp 0 [] (b := stoInt_fn (decide (z9 > gi)) w25a ) (c := fun w25_15 hM25_15 => ?_)
          refine os 0 [] [1, 2, 3, 4, 5, 6, 7, 8] ?_
          refine av [] [] 16 (a := by exact fun _ hw2 => ksub) (b := ?_)
          have hx25_17 : (i + 1 + m) < (gmL (g3) i m gi).length := (by rw [hgml]; omega)
          refine av [] [] 17 (a := by exact fun _ hw2 => kixM hx25_17 (hM25_15.rd 0 rfl) (h0 := by omega)) (b := ?_)
          refine aO [] [] 18 ?_
          refine sM 0 [] 0 hx25_17 fun w25_18 hM25_18 => ?_
          refine os 0 [] [1, 2, 3, 4, 5, 6, 7, 8] ?_
          refine an [] [] ?_
          refine ov 2 [] (a := kaddN ((i + 1 + m) + 1)) (b := ?_)
          have hq31 : ((gmL (g3) i m gi).set ((i + 1 + m)) (z9 - (if (decide (z9 > gi)) then 1 else 0)) : List Int) = gmL (g3) i (m + 1) gi := (by rw [hshv]; exact gm_set hkm)
          let r23_ : List FE := [⟨.slice (A121_5) ((L121_5).length) (c121_5), 39, 3, ((L121_5).length), (L121_5).flatMap encPg⟩]
          let r24_ : List FE := [⟨.slice (bl b1_2) 1 1, 25, 2, 1, [I (shI gi ((⟨r3, A2, c2, Ch3⟩ : TreeL)).root), .slice (A121_5) ((L121_5).length) (c121_5)]⟩]
          let r25_ : List FE := [⟨.slice (A14_10) ((dropR (prsP ((((T).l)[(lf).toNat]'hx4_6)).t) key).length) (c14_10), 57, 2, ((dropR (prsP ((((T).l)[(lf).toNat]'hx4_6)).t) key).length), (dropR (prsP ((((T).l)[(lf).toNat]'hx4_6)).t) key).flatMap encP⟩]
          let r26_ : List FE := [⟨.slice (A14_8) ((prsP ((((T).l)[(lf).toNat]'hx4_6)).t).length) (c14_8), 57, 2, ((prsP ((((T).l)[(lf).toNat]'hx4_6)).t).length), (prsP ((((T).l)[(lf).toNat]'hx4_6)).t).flatMap encP⟩]
          let r27_ : List FE := [⟨.slice (A12_2) ((pathK (T).t key).length) (c12_2), 3, 1, ((pathK (T).t key).length), (pathK (T).t key).map I⟩]
          let r28_ : List FE := [⟨.slice (bl b0_1) 1 1, 25, 2, 1, [I (0), .slice (none) (0) (0)]⟩]
          let r29_ : List FE := [⟨.slice (bl b0_0) 1 1, 25, 2, 1, [I ((T).root), .slice ((T).A) ((T).l.length) ((T).cp)]⟩]
          have hMn31 : Mem w w25_18 [] [[⟨.slice (A3) ((g3).length) (c3), 3, 1, ((g3).length), (gmL (g3) i (m + 1) gi).map I⟩], r23_, (L121_5).flatMap (pgF 3), r24_, r25_, r26_, r27_, r28_, r29_] := hM25_18.relen 0 (n' := (g3).length) (xs' := (gmL (g3) i (m + 1) gi).map I) rfl (by first | rfl | exact congrArg List.length hq31 | (have hqq := congrArg List.length hq31; first | omega | (simp at hqq ⊢; omega)) | (simp; done) | (simp; omega)) (congrArg (fun z_ => (z_).map I) hq31) rfl
          exact le1 2 [] (m + 1) [0, 1, 2, 3, 4, 5, 6, 7, 8] (h := by exact (by (try dsimp only); omega))
        refine cp 0 [] (b := stoInt_fn (decide (z9 > gi)) w25a ) (c := fun w25_15 hM25_15 => ?_)
        refine os 0 [] [1, 2, 3, 4, 5, 6, 7, 8] ?_
        refine aO [] [] 5 ?_
        refine ov 0 [] (s := Vi (z9)) (a := by exact cv (Ru.congr (v := I ((gmL (g3) i m gi)[(i + 1 + m)]'hx25_4)) (v' := I (z9)) (Ru.load1 el3 rfl (ldm (hM25_15.rd 0 rfl) hx25_4)) ((I_congr (by rw [hz9]; exact gm_get hkm _)))) rfl) (b := ?_)
        refine os 0 [] [1, 2, 3, 4, 5, 6, 7, 8] ?_
        refine av [] [] 16 (a := by exact fun _ hw2 => ksub) (b := ?_)
        have hx25_17 : (i + 1 + m) < (gmL (g3) i m gi).length := (by rw [hgml]; omega)
        refine av [] [] 17 (a := by exact fun _ hw2 => kixM hx25_17 (hM25_15.rd 0 rfl) (h0 := by omega)) (b := ?_)
        refine aO [] [] 18 ?_
        refine sM 0 [] 0 hx25_17 fun w25_18 hM25_18 => ?_
        refine os 0 [] [1, 2, 3, 4, 5, 6, 7, 8] ?_
        refine an [] [] ?_
        refine ov 2 [] (a := kaddN ((i + 1 + m) + 1)) (b := ?_)
        have hq32 : ((gmL (g3) i m gi).set ((i + 1 + m)) (z9 - (if (decide (z9 > gi)) then 1 else 0)) : List Int) = gmL (g3) i (m + 1) gi := (by rw [hshv]; exact gm_set hkm)
        let r30_ : List FE := [⟨.slice (A121_5) ((L121_5).length) (c121_5), 39, 3, ((L121_5).length), (L121_5).flatMap encPg⟩]
        let r31_ : List FE := [⟨.slice (bl b1_2) 1 1, 25, 2, 1, [I (shI gi ((⟨r3, A2, c2, Ch3⟩ : TreeL)).root), .slice (A121_5) ((L121_5).length) (c121_5)]⟩]
        let r32_ : List FE := [⟨.slice (A14_10) ((dropR (prsP ((((T).l)[(lf).toNat]'hx4_6)).t) key).length) (c14_10), 57, 2, ((dropR (prsP ((((T).l)[(lf).toNat]'hx4_6)).t) key).length), (dropR (prsP ((((T).l)[(lf).toNat]'hx4_6)).t) key).flatMap encP⟩]
        let r33_ : List FE := [⟨.slice (A14_8) ((prsP ((((T).l)[(lf).toNat]'hx4_6)).t).length) (c14_8), 57, 2, ((prsP ((((T).l)[(lf).toNat]'hx4_6)).t).length), (prsP ((((T).l)[(lf).toNat]'hx4_6)).t).flatMap encP⟩]
        let r34_ : List FE := [⟨.slice (A12_2) ((pathK (T).t key).length) (c12_2), 3, 1, ((pathK (T).t key).length), (pathK (T).t key).map I⟩]
        let r35_ : List FE := [⟨.slice (bl b0_1) 1 1, 25, 2, 1, [I (0), .slice (none) (0) (0)]⟩]
        let r36_ : List FE := [⟨.slice (bl b0_0) 1 1, 25, 2, 1, [I ((T).root), .slice ((T).A) ((T).l.length) ((T).cp)]⟩]
        have hMn32 : Mem w w25_18 [] [[⟨.slice (A3) ((g3).length) (c3), 3, 1, ((g3).length), (gmL (g3) i (m + 1) gi).map I⟩], r30_, (L121_5).flatMap (pgF 3), r31_, r32_, r33_, r34_, r35_, r36_] := hM25_18.relen 0 (n' := (g3).length) (xs' := (gmL (g3) i (m + 1) gi).map I) rfl (by first | rfl | exact congrArg List.length hq32 | (have hqq := congrArg List.length hq32; first | omega | (simp at hqq ⊢; omega)) | (simp; done) | (simp; omega)) (congrArg (fun z_ => (z_).map I) hq32) rfl
        exact le1 2 [] (m + 1) [0, 1, 2, 3, 4, 5, 6, 7, 8] (h := by exact (by (try dsimp only); omega))
      refine ov 0 [] (s := Vi (gi)) (a := by exact cv (Ru.congr (v := I ((gmL (g3) i m gi)[i]'hx25_12)) (v' := I (gi)) (Ru.load1 el3 rfl (ldm (hM25a.rd 0 rfl) hx25_12)) ((I_congr ((gm_geti hik _).trans hgi.symm)))) rfl) (b := ?_)
      refine os 0 [] [1, 2, 3, 4, 5, 6, 7, 8] ?_
      refine aT [] [] 5 9 ?_ ?_
      · refine ov 0 [] (s := Vi (z9)) (a := by exact cv (Ru.congr (v := I ((gmL (g3) i m gi)[(i + 1 + m)]'hx25_4)) (v' := I (z9)) (Ru.load1 el3 rfl (ldm (hM25a.rd 0 rfl) hx25_4)) ((I_congr (by rw [hz9]; exact gm_get hkm _)))) rfl) (b := ?_)
        refine os 0 [] [1, 2, 3, 4, 5, 6, 7, 8] ?_
        refine aO [] [] 9 ?_
        refine ov 0 [] (s := Vi (z9)) (a := by exact cv (Ru.congr (v := I ((gmL (g3) i m gi)[(i + 1 + m)]'hx25_8)) (v' := I (z9)) (Ru.load1 el3 rfl (ldm (hM25a.rd 0 rfl) hx25_8)) ((I_congr (by rw [hz9]; exact gm_get hkm _)))) rfl) (b := ?_)
        refine os 0 [] [1, 2, 3, 4, 5, 6, 7, 8] ?_
        refine aO [14] [] 15 ?_
        refine cp 0 [] (b := stoInt_fn (decide (z9 > gi)) w25a ) (c := fun w25_15 hM25_15 => ?_)
        refine os 0 [] [1, 2, 3, 4, 5, 6, 7, 8] ?_
        refine av [] [] 16 (a := by exact fun _ hw2 => ksub) (b := ?_)
        have hx25_17 : (i + 1 + m) < (gmL (g3) i m gi).length := (by rw [hgml]; omega)
        refine av [] [] 17 (a := by exact fun _ hw2 => kixM hx25_17 (hM25_15.rd 0 rfl) (h0 := by omega)) (b := ?_)
        refine aO [] [] 18 ?_
        refine sM 0 [] 0 hx25_17 fun w25_18 hM25_18 => ?_
        refine os 0 [] [1, 2, 3, 4, 5, 6, 7, 8] ?_
        refine an [] [] ?_
        refine ov 2 [] (a := kaddN ((i + 1 + m) + 1)) (b := ?_)
        have hq33 : ((gmL (g3) i m gi).set ((i + 1 + m)) (z9 - (if (decide (z9 > gi)) then 1 else 0)) : List Int) = gmL (g3) i (m + 1) gi := (by rw [hshv]; exact gm_set hkm)
        let r37_ : List FE := [⟨.slice (A121_5) ((L121_5).length) (c121_5), 39, 3, ((L121_5).length), (L121_5).flatMap encPg⟩]
        let r38_ : List FE := [⟨.slice (bl b1_2) 1 1, 25, 2, 1, [I (shI gi ((⟨r3, A2, c2, Ch3⟩ : TreeL)).root), .slice (A121_5) ((L121_5).length) (c121_5)]⟩]
        let r39_ : List FE := [⟨.slice (A14_10) ((dropR (prsP ((((T).l)[(lf).toNat]'hx4_6)).t) key).length) (c14_10), 57, 2, ((dropR (prsP ((((T).l)[(lf).toNat]'hx4_6)).t) key).length), (dropR (prsP ((((T).l)[(lf).toNat]'hx4_6)).t) key).flatMap encP⟩]
        let r40_ : List FE := [⟨.slice (A14_8) ((prsP ((((T).l)[(lf).toNat]'hx4_6)).t).length) (c14_8), 57, 2, ((prsP ((((T).l)[(lf).toNat]'hx4_6)).t).length), (prsP ((((T).l)[(lf).toNat]'hx4_6)).t).flatMap encP⟩]
        let r41_ : List FE := [⟨.slice (A12_2) ((pathK (T).t key).length) (c12_2), 3, 1, ((pathK (T).t key).length), (pathK (T).t key).map I⟩]
        let r42_ : List FE := [⟨.slice (bl b0_1) 1 1, 25, 2, 1, [I (0), .slice (none) (0) (0)]⟩]
        let r43_ : List FE := [⟨.slice (bl b0_0) 1 1, 25, 2, 1, [I ((T).root), .slice ((T).A) ((T).l.length) ((T).cp)]⟩]
        have hMn33 : Mem w w25_18 [] [[⟨.slice (A3) ((g3).length) (c3), 3, 1, ((g3).length), (gmL (g3) i (m + 1) gi).map I⟩], r37_, (L121_5).flatMap (pgF 3), r38_, r39_, r40_, r41_, r42_, r43_] := hM25_18.relen 0 (n' := (g3).length) (xs' := (gmL (g3) i (m + 1) gi).map I) rfl (by first | rfl | exact congrArg List.length hq33 | (have hqq := congrArg List.length hq33; first | omega | (simp at hqq ⊢; omega)) | (simp; done) | (simp; omega)) (congrArg (fun z_ => (z_).map I) hq33) rfl
        exact le1 2 [] (m + 1) [0, 1, 2, 3, 4, 5, 6, 7, 8] (h := by exact (by (try dsimp only); omega))
      refine ov 0 [] (s := Vi (z9)) (a := by exact cv (Ru.congr (v := I ((gmL (g3) i m gi)[(i + 1 + m)]'hx25_8)) (v' := I (z9)) (Ru.load1 el3 rfl (ldm (hM25a.rd 0 rfl) hx25_8)) ((I_congr (by rw [hz9]; exact gm_get hkm _)))) rfl) (b := ?_)
      refine os 0 [] [1, 2, 3, 4, 5, 6, 7, 8] ?_
      refine aT [14] [] 5 15 ?_ ?_
      · refine ov 0 [] (s := Vi (z9)) (a := by exact cv (Ru.congr (v := I ((gmL (g3) i m gi)[(i + 1 + m)]'hx25_4)) (v' := I (z9)) (Ru.load1 el3 rfl (ldm (hM25a.rd 0 rfl) hx25_4)) ((I_congr (by rw [hz9]; exact gm_get hkm _)))) rfl) (b := ?_)
        refine os 0 [] [1, 2, 3, 4, 5, 6, 7, 8] ?_
        refine aO [] [] 15 ?_
        refine cp 0 [] (b := stoInt_fn (decide (z9 > gi)) w25a ) (c := fun w25_15 hM25_15 => ?_)
        refine os 0 [] [1, 2, 3, 4, 5, 6, 7, 8] ?_
        refine av [] [] 16 (a := by exact fun _ hw2 => ksub) (b := ?_)
        have hx25_17 : (i + 1 + m) < (gmL (g3) i m gi).length := (by rw [hgml]; omega)
        refine av [] [] 17 (a := by exact fun _ hw2 => kixM hx25_17 (hM25_15.rd 0 rfl) (h0 := by omega)) (b := ?_)
        refine aO [] [] 18 ?_
        refine sM 0 [] 0 hx25_17 fun w25_18 hM25_18 => ?_
        refine os 0 [] [1, 2, 3, 4, 5, 6, 7, 8] ?_
        refine an [] [] ?_
        refine ov 2 [] (a := kaddN ((i + 1 + m) + 1)) (b := ?_)
        have hq34 : ((gmL (g3) i m gi).set ((i + 1 + m)) (z9 - (if (decide (z9 > gi)) then 1 else 0)) : List Int) = gmL (g3) i (m + 1) gi := (by rw [hshv]; exact gm_set hkm)
        let r44_ : List FE := [⟨.slice (A121_5) ((L121_5).length) (c121_5), 39, 3, ((L121_5).length), (L121_5).flatMap encPg⟩]
        let r45_ : List FE := [⟨.slice (bl b1_2) 1 1, 25, 2, 1, [I (shI gi ((⟨r3, A2, c2, Ch3⟩ : TreeL)).root), .slice (A121_5) ((L121_5).length) (c121_5)]⟩]
        let r46_ : List FE := [⟨.slice (A14_10) ((dropR (prsP ((((T).l)[(lf).toNat]'hx4_6)).t) key).length) (c14_10), 57, 2, ((dropR (prsP ((((T).l)[(lf).toNat]'hx4_6)).t) key).length), (dropR (prsP ((((T).l)[(lf).toNat]'hx4_6)).t) key).flatMap encP⟩]
        let r47_ : List FE := [⟨.slice (A14_8) ((prsP ((((T).l)[(lf).toNat]'hx4_6)).t).length) (c14_8), 57, 2, ((prsP ((((T).l)[(lf).toNat]'hx4_6)).t).length), (prsP ((((T).l)[(lf).toNat]'hx4_6)).t).flatMap encP⟩]
        let r48_ : List FE := [⟨.slice (A12_2) ((pathK (T).t key).length) (c12_2), 3, 1, ((pathK (T).t key).length), (pathK (T).t key).map I⟩]
        let r49_ : List FE := [⟨.slice (bl b0_1) 1 1, 25, 2, 1, [I (0), .slice (none) (0) (0)]⟩]
        let r50_ : List FE := [⟨.slice (bl b0_0) 1 1, 25, 2, 1, [I ((T).root), .slice ((T).A) ((T).l.length) ((T).cp)]⟩]
        have hMn34 : Mem w w25_18 [] [[⟨.slice (A3) ((g3).length) (c3), 3, 1, ((g3).length), (gmL (g3) i (m + 1) gi).map I⟩], r44_, (L121_5).flatMap (pgF 3), r45_, r46_, r47_, r48_, r49_, r50_] := hM25_18.relen 0 (n' := (g3).length) (xs' := (gmL (g3) i (m + 1) gi).map I) rfl (by first | rfl | exact congrArg List.length hq34 | (have hqq := congrArg List.length hq34; first | omega | (simp at hqq ⊢; omega)) | (simp; done) | (simp; omega)) (congrArg (fun z_ => (z_).map I) hq34) rfl
        exact le1 2 [] (m + 1) [0, 1, 2, 3, 4, 5, 6, 7, 8] (h := by exact (by (try dsimp only); omega))
      refine cp 0 [] (b := stoInt_fn (decide (z9 > gi)) w25a ) (c := fun w25_15 hM25_15 => ?_)
      refine os 0 [] [1, 2, 3, 4, 5, 6, 7, 8] ?_
      refine aO [] [] 5 ?_
      refine ov 0 [] (s := Vi (z9)) (a := by exact cv (Ru.congr (v := I ((gmL (g3) i m gi)[(i + 1 + m)]'hx25_4)) (v' := I (z9)) (Ru.load1 el3 rfl (ldm (hM25_15.rd 0 rfl) hx25_4)) ((I_congr (by rw [hz9]; exact gm_get hkm _)))) rfl) (b := ?_)
      refine os 0 [] [1, 2, 3, 4, 5, 6, 7, 8] ?_
      refine av [] [] 16 (a := by exact fun _ hw2 => ksub) (b := ?_)
      have hx25_17 : (i + 1 + m) < (gmL (g3) i m gi).length := (by rw [hgml]; omega)
      refine av [] [] 17 (a := by exact fun _ hw2 => kixM hx25_17 (hM25_15.rd 0 rfl) (h0 := by omega)) (b := ?_)
      refine aO [] [] 18 ?_
      refine sM 0 [] 0 hx25_17 fun w25_18 hM25_18 => ?_
      refine os 0 [] [1, 2, 3, 4, 5, 6, 7, 8] ?_
      refine an [] [] ?_
      refine ov 2 [] (a := kaddN ((i + 1 + m) + 1)) (b := ?_)
      have hq35 : ((gmL (g3) i m gi).set ((i + 1 + m)) (z9 - (if (decide (z9 > gi)) then 1 else 0)) : List Int) = gmL (g3) i (m + 1) gi := (by rw [hshv]; exact gm_set hkm)
      let r51_ : List FE := [⟨.slice (A121_5) ((L121_5).length) (c121_5), 39, 3, ((L121_5).length), (L121_5).flatMap encPg⟩]
      let r52_ : List FE := [⟨.slice (bl b1_2) 1 1, 25, 2, 1, [I (shI gi ((⟨r3, A2, c2, Ch3⟩ : TreeL)).root), .slice (A121_5) ((L121_5).length) (c121_5)]⟩]
      let r53_ : List FE := [⟨.slice (A14_10) ((dropR (prsP ((((T).l)[(lf).toNat]'hx4_6)).t) key).length) (c14_10), 57, 2, ((dropR (prsP ((((T).l)[(lf).toNat]'hx4_6)).t) key).length), (dropR (prsP ((((T).l)[(lf).toNat]'hx4_6)).t) key).flatMap encP⟩]
      let r54_ : List FE := [⟨.slice (A14_8) ((prsP ((((T).l)[(lf).toNat]'hx4_6)).t).length) (c14_8), 57, 2, ((prsP ((((T).l)[(lf).toNat]'hx4_6)).t).length), (prsP ((((T).l)[(lf).toNat]'hx4_6)).t).flatMap encP⟩]
      let r55_ : List FE := [⟨.slice (A12_2) ((pathK (T).t key).length) (c12_2), 3, 1, ((pathK (T).t key).length), (pathK (T).t key).map I⟩]
      let r56_ : List FE := [⟨.slice (bl b0_1) 1 1, 25, 2, 1, [I (0), .slice (none) (0) (0)]⟩]
      let r57_ : List FE := [⟨.slice (bl b0_0) 1 1, 25, 2, 1, [I ((T).root), .slice ((T).A) ((T).l.length) ((T).cp)]⟩]
      have hMn35 : Mem w w25_18 [] [[⟨.slice (A3) ((g3).length) (c3), 3, 1, ((g3).length), (gmL (g3) i (m + 1) gi).map I⟩], r51_, (L121_5).flatMap (pgF 3), r52_, r53_, r54_, r55_, r56_, r57_] := hM25_18.relen 0 (n' := (g3).length) (xs' := (gmL (g3) i (m + 1) gi).map I) rfl (by first | rfl | exact congrArg List.length hq35 | (have hqq := congrArg List.length hq35; first | omega | (simp at hqq ⊢; omega)) | (simp; done) | (simp; omega)) (congrArg (fun z_ => (z_).map I) hq35) rfl
      exact le1 2 [] (m + 1) [0, 1, 2, 3, 4, 5, 6, 7, 8] (h := by exact (by (try dsimp only); omega))
    refine ov 3 [] (a := kaddN (i + 1)) (b := ?_)
    have hq36 : (gmL (g3) i m gi : List Int) = ((g3).take (i + 1) ++ ((g3).drop (i + 1)).map (shI gi)) := (gm_end (by omega))
    have hMn36 := hM_l23.reM 0 hq36
    exact le8 2 [] (i + 1) (shI gi ((⟨r3, A2, c2, Ch3⟩ : TreeL)).root) L121_5 ((g3).take (i + 1) ++ ((g3).drop (i + 1)).map (shI gi)) A121_5 c121_5 A3 c3 [0, 3, 2, 1, 4, 5, 6, 7, 8] (hm := (by (try dsimp only); simp only [List.length_append, List.length_take, List.length_map, List.length_drop]; omega)) (h := by exact ⟨(by (try dsimp only); simp only [List.length_append, List.length_take, List.length_map, List.length_drop]; omega), ⟨_, by rw [hts21_5, gm_drop hik]; rw [hgi]; exact hFV.step hik⟩, (by (try dsimp only); rw [hts21_5, gm_drop hik]; rw [hgi, ← cutA_go hik (by omega)]; exact hi2_l19), (by (try dsimp only); have h9 := congrArg (fun z => z.pages.length) hts21_5; have h8 : (cutF (TreeL.t ⟨r3, A2, c2, Ch3⟩) gi).pages.length + 1 = (Ch3).length := by { have h6 := cut_len (R := TreeL.t ⟨r3, A2, c2, Ch3⟩) (g0 := gi) (inT_t.2 hgir); rwa [pages_len] at h6 }; have h7 := hi3_l19; simp only [List.length_map] at h9; omega)⟩)
  refine Sb 5 [1] 7 fun w26_2 hM26_2 => ?_
  refine EG 3 [] ?_
  refine PG (vs := [.agg #[I (r3), .slice (A2) ((Ch3).length) (c2)], I ((((g1).length : Nat) : Int))]) (ResV.cell (l := [I (r3), .slice (A2) ((Ch3).length) (c2)]) rfl (mem_blk (i := 7) (j := 0) hM26_2 rfl rfl) el25 rfl (ResV.tmp rfl ResV.nil)) ?_
  exact ⟨r3, (((g1).length : Nat) : Int), Ch3, A2, c2, rfl, (by rw [← hi2_l19, List.drop_eq_nil_of_le (by omega), cutA_nil]), (hM26_2.pk [3, 2])⟩
set_option maxHeartbeats 2000000 in
theorem sDropKey_fn (T : TreeL) (key : Int) (w : World) (hNT : TrN w T) (hs : SzT T) :
    Does Tryd.prog 64 [.agg #[I ((T).root), .slice ((T).A) ((T).l.length) ((T).cp)], I (key)] w (fun v w1 => ∃ (r1 : Int) (L1 : List PgL) (A1 : Option Addr) (c1 : Nat), v = .tuple #[.agg #[I (r1), .slice (A1) ((L1).length) (c1)], .bool ((validT (T).t && isInB (pairsK (T).t) key))] ∧ ((validT (T).t && isInB (pairsK (T).t) key) = true → (⟨r1, tsG L1⟩ : TrT) = dropF (T).t key ∧ WK (⟨r1, tsG L1⟩ : TrT)) ∧ (SzT ⟨r1, A1, c1, L1⟩) ∧ ((L1).length ≤ 64) ∧ Mem w w1 [] [[⟨.slice (A1) ((L1).length) (c1), 39, 3, ((L1).length), (L1).flatMap encPg⟩], (L1).flatMap (pgF 3)]) := by
  have hM : Mem w w [] [] := Mem.refl
  refine Does.nG (rs := [.cell 4 25, .tmp 5]) Tryd.func64 rfl Tryd.results64 Tryd.ntmps64 rfl ?_
  refine Bx 2 [] fun w0_0 b0_0 hb0_0 hM0_0 => ?_
  refine Al 0 [] fun w0_1 b0_1 hb0_1 hM0_1 => ?_
  refine cp 6 [1] (b := svalidTree_fn T w0_1 (hNT.at hM0_1) q0) (c := fun w1_1 hM1_1 => ?_)
  refine pt 2 [] 11 (fun g11 => ?_) (fun g11 => ?_)
  · have hn1 : validT (T).t = false := by simpa using g11
    refine Sb 10 [] 0 fun w2_1 hM2_1 => ?_
    have hMk1 := Mem.gnil (e := 3) hM2_1
    refine EG 3 [] ?_
    refine PG (vs := [.agg #[I (0), .slice (none) (0) (0)], .bool (false)]) (ResV.cell (l := [I (0), .slice (none) (0) (0)]) rfl (mem_blk (i := 1) (j := 0) hMk1 rfl rfl) el25 rfl (ResV.tmp rfl ResV.nil)) ?_
    have hpf : (validT (T).t && isInB (pairsK (T).t) key) = false := by first | (rw [hn1]; rfl) | (rw [hn2, Bool.and_false])
    have hMn2 := Mem.addNil (e := 39) (sz := 3) hMk1
    have hq3 : ([] : List PgL) = ([] : List PgL) := (by first | rfl | simp | (simp; omega))
    have hMn3 := hMn2.reF 0 hq3 (f := encPg)
    exact ⟨0, ([] : List PgL), none, 0, (by rw [hpf]; rfl), (fun hb => absurd hb (by rw [hpf]; simp)), (sz_small (by simp) (by simp)), (by simp), (hMn3.pk [0, 1])⟩
  have hv1 : validT (T).t = true := by simpa using g11
  refine cp 2 [1] (b := hasKey_fn T _ w1_1 (hNT.at hM1_1) q0 (by exact valid_WK hv1)) (c := fun w1_6 hM1_6 => ?_)
  refine cn 3 [] (fun c16 => ?_) (fun c16 => ?_)
  · have hn2 : isInB (pairsK (T).t) key = false := by first | (exfalso; simp_all; done) | simpa using c16
    refine Sb 3 [] 0 fun w2_1 hM2_1 => ?_
    have hMk5 := Mem.gnil (e := 3) hM2_1
    refine EG 3 [] ?_
    refine PG (vs := [.agg #[I (0), .slice (none) (0) (0)], .bool (false)]) (ResV.cell (l := [I (0), .slice (none) (0) (0)]) rfl (mem_blk (i := 1) (j := 0) hMk5 rfl rfl) el25 rfl (ResV.tmp rfl ResV.nil)) ?_
    have hpf : (validT (T).t && isInB (pairsK (T).t) key) = false := by first | (rw [hn1]; rfl) | (rw [hn2, Bool.and_false])
    have hMn6 := Mem.addNil (e := 39) (sz := 3) hMk5
    have hq7 : ([] : List PgL) = ([] : List PgL) := (by first | rfl | simp | (simp; omega))
    have hMn7 := hMn6.reF 0 hq7 (f := encPg)
    exact ⟨0, ([] : List PgL), none, 0, (by rw [hpf]; rfl), (fun hb => absurd hb (by rw [hpf]; simp)), (sz_small (by simp) (by simp)), (by simp), (hMn7.pk [0, 1])⟩
  have hv2 : isInB (pairsK (T).t) key = true := by simpa using c16
  refine cq 5 [1] (b := dropTree_fn T _ w1_6 (hNT.at hM1_6) q0 (by exact hv1)) (c := ?_)
  rintro _ w3_2 ⟨r13_2, j13_2, L13_2, A13_2, c13_2, rfl, hts3_2, hR3_2⟩
  have hM3_2 := hM1_6.cl 0 hR3_2
  have hcr3_2_0 := (hM3_2.cap 0 rfl).1
  refine Al 3 [] fun w3_6 b3_6 hb3_6 hM3_6 => ?_
  refine Sb 0 [] 0 fun w3_7 hM3_7 => ?_
  refine Sb 5 [0] 3 fun w4_1 hM4_1 => ?_
  refine EG 3 [] ?_
  refine PG (vs := [.agg #[I (r13_2), .slice (A13_2) ((L13_2).length) (c13_2)], .bool (true)]) (ResV.cell (l := [I (r13_2), .slice (A13_2) ((L13_2).length) (c13_2)]) rfl (mem_blk (i := 3) (j := 0) hM4_1 rfl rfl) el25 rfl (ResV.tmp rfl ResV.nil)) ?_
  have hpf : (validT (T).t && isInB (pairsK (T).t) key) = true := by rw [hv1, hv2]; rfl
  have hwk3 := drop_WK (key := key) hv1
  rw [← hts3_2] at hwk3
  have hll3 := hwk3.2.1
  simp only [List.length_map] at hll3
  exact ⟨r13_2, L13_2, A13_2, c13_2, (by rw [hpf]; rfl), (fun _ => ⟨hts3_2, hwk3⟩), (sz_small hwk3.2.2 (by omega)), (by omega), (hM4_1.pk [1, 2])⟩
end Go.Proofs.YtemejgglbhjodaaDoor
end
