/- Own layer, part 8: plain theorems on the walk of this program's functions and on what they compute; no conditions. -/
import Derived.Test.YtemejgglbhjodaaDoorP6
set_option linter.unusedVariables false
set_option linter.unusedSimpArgs false
section
namespace Go.Proofs.YtemejgglbhjodaaDoor
open Go.Px
theorem share_fn (a : Nat) (p : Nat) (i : Nat) (w : World) (h : a ≤ 24 ∧ i ≤ 5 ∧ 1 ≤ p) (hm : a * i / p ≤ a * (i + 1) / p) :
    Does Tryd.prog 70 [I (((a : Nat) : Int)), I (((p : Nat) : Int)), I (((i : Nat) : Int))] w (fun v w1 => v = I (((shrF a p i : Nat) : Int)) ∧ Mem w w1 [] []) := by
  have hM : Mem w w [] [] := Mem.refl
  refine Does.n1 Tryd.func70 rfl Tryd.results70 Tryd.ntmps70 rfl ?_
  have hm1 := sh_mul (i := i + 1) h.1 (by omega)
  have hm2 := sh_mul (i := i) h.1 (by omega)
  have hd1 : a * (i + 1) / p ≤ a * (i + 1) := Nat.div_le_self _ _
  have hd2 : a * i / p ≤ a * i := Nat.div_le_self _ _
  have hq1 : (0 : Int) ≤ ((a * i / p : Nat) : Int) := Int.natCast_nonneg _
  have hq2 : (0 : Int) ≤ ((a * (i + 1) / p : Nat) : Int) := Int.natCast_nonneg _
  have hc1 : ((a : Nat) : Int) * (((i + 1) : Nat) : Int) = ((a * (i + 1) : Nat) : Int) := (Int.natCast_mul _ _).symm
  have hc2 : ((a : Nat) : Int) * ((i : Nat) : Int) = ((a * i : Nat) : Int) := (Int.natCast_mul _ _).symm
  have hc3 : ((a * (i + 1) : Nat) : Int) / ((p : Nat) : Int) = ((a * (i + 1) / p : Nat) : Int) := (Int.natCast_ediv _ _).symm
  have hc4 : ((a * i : Nat) : Int) / ((p : Nat) : Int) = ((a * i / p : Nat) : Int) := (Int.natCast_ediv _ _).symm
  refine dr 5 [] ?_
  refine qv 2 [] (a := by exact fun _ hw2 => kaddN (i + 1)) (b := ?_)
  refine qv 0 [] (s := Vi ((((a * (i + 1)) : Nat) : Int))) (a := by exact fun w2 hw2 => cv (Ru.congr (v := I ((((a : Nat) : Int) * (((i + 1) : Nat) : Int)))) (v' := I ((((a * (i + 1)) : Nat) : Int))) (Ru.mul rfl rfl (by rw [hc1]; omega)) ((I_congr hc1))) rfl) (b := ?_)
  refine qv 1 [] (s := Vi ((((a * (i + 1) / p) : Nat) : Int))) (a := by exact fun w2 hw2 => cv (Ru.congr (v := I (((((a * (i + 1)) : Nat) : Int) / ((p : Nat) : Int)))) (v' := I ((((a * (i + 1) / p) : Nat) : Int))) (Ru.quo rfl rfl (by omega)) ((I_congr hc3))) rfl) (b := ?_)
  refine qv 2 [] (s := Vi ((((a * i) : Nat) : Int))) (a := by exact fun w2 hw2 => cv (Ru.congr (v := I ((((a : Nat) : Int) * ((i : Nat) : Int)))) (v' := I ((((a * i) : Nat) : Int))) (Ru.mul rfl rfl (by rw [hc2]; omega)) ((I_congr hc2))) rfl) (b := ?_)
  refine qv 1 [] (s := Vi ((((a * i / p) : Nat) : Int))) (a := by exact fun w2 hw2 => cv (Ru.congr (v := I (((((a * i) : Nat) : Int) / ((p : Nat) : Int)))) (v' := I ((((a * i / p) : Nat) : Int))) (Ru.quo rfl rfl (by omega)) ((I_congr hc4))) rfl) (b := ?_)
  refine qv 0 [] (s := Vi ((((shrF a p i) : Nat) : Int))) (a := by exact fun w2 hw2 => cv (Ru.congr (v := I (((((a * (i + 1) / p) : Nat) : Int) - (((a * i / p) : Nat) : Int)))) (v' := I ((((shrF a p i) : Nat) : Int))) (Ru.sub rfl rfl (by omega)) ((I_congr (by unfold shrF; omega)))) rfl) (b := ?_)
  refine qn 1 [] fun w1d hM1d => ?_
  refine E1 1 [] (I ((((shrF a p i) : Nat) : Int))) ?_
  exact ⟨rfl, (Mem.none hM1d)⟩
set_option maxHeartbeats 8000000 in
theorem load_fn (A : Option Addr) (c : Nat) (l : List PairT) (w : World) (hA : Rd w A ((l).flatMap encP)) (hl : l.length ≤ 1048576) (h24 : l.length ≤ 24) (hc : l.length ≤ c) :
    Does Tryd.prog 59 [.slice (A) ((l).length) (c)] w (fun v w1 => ∃ (L1 : List PgL) (A1 : Option Addr) (c1 : Nat), v = .agg #[I (0), .slice (A1) ((L1).length) (c1)] ∧ (WK ⟨0, tsG L1⟩) ∧ ((L1).length ≤ 16) ∧ Mem w w1 [] [[⟨.slice (A1) ((L1).length) (c1), 39, 3, ((L1).length), (L1).flatMap encPg⟩], (L1).flatMap (pgF 3)]) := by
  have hM : Mem w w [] [] := Mem.refl
  refine Does.nG (rs := [.cell 2 25]) Tryd.func59 rfl Tryd.results59 Tryd.ntmps59 rfl ?_
  have hp9 := part_le h24
  obtain ⟨n9, hn⟩ : ∃ z, z = partN l.length := ⟨_, rfl⟩
  rw [← hn] at hp9
  refine Al 2 [] fun w0_0 b0_0 hb0_0 hM0_0 => ?_
  refine ov 5 [] (a := kaddN ((l).length + 4)) (b := ?_)
  refine ov 0 [] (a := ksub) (b := ?_)
  refine ov 0 [] (a := kquoN ((((l).length + 4) - 1) / 4)) (b := ?_)
  refine ov 0 [] (s := Vi (((n9 : Nat) : Int))) (a := by exact cv (Ru.congr (v := I ((max 1 ((((((l).length + 4) - 1) / 4) : Nat) : Int)))) (v' := I (((n9 : Nat) : Int))) (Ru.bmax rfl rfl) ((I_congr (by rw [hn]; unfold partN; split <;> omega)))) rfl) (b := ?_)
  refine Lt 4 [] (([]).flatMap encPg) (fun w2_0 b2_0 hb2_0 hM2_0 => ?_)
  have hMk1 := Mem.gnil (e := 3) hM2_0
  have hq2 : ([] : List PgL) = ([] : List PgL) := (by first | rfl | simp | (simp; omega))
  have hMn2 := hMk1.reF 1 hq2 (f := encPg)
  refine lp5 12 [] (fun (k : Nat) (at9 : Nat) (Lv : List PgL) (A2 : Option Addr) (c2 : Nat) => ([(4, Vl (A2) ((Lv).length) (c2)), (5, Vi (((at9 : Nat) : Int))), (6, Vi (((k : Nat) : Int)))] : List (Nat × SV))) (fun (k : Nat) (at9 : Nat) (Lv : List PgL) (A2 : Option Addr) (c2 : Nat) => (k ≤ n9 ∧ (Lv).length = k) ∧ (at9 = l.length * k / n9 ∧ at9 ≤ l.length) ∧ (lfs Lv) ∧ ((5 ≤ l.length → fulls Lv))) (fun (k : Nat) (at9 : Nat) (Lv : List PgL) (A2 : Option Addr) (c2 : Nat) => [(Lv).flatMap (pgF 3), [⟨.slice (A2) ((Lv).length) (c2), 39, 3, ((Lv).length), (Lv).flatMap encPg⟩]]) (fun (k : Nat) (at9 : Nat) (Lv : List PgL) (A2 : Option Addr) (c2 : Nat) => n9 - k) [0, 2, 3] [0, 1] [2] 0 0 (([] : List PgL) : List PgL) (bl b2_0) 0 (fun k at9 Lv A2 c2 σ w_l5 hI hM_l5 => ?_) (h0 := ⟨(by (try dsimp only); simp), (by (try dsimp only); simp), lfs_nil, (fun _ => fulls_nil)⟩)
  obtain ⟨hi0_l5, hi1_l5, hi2_l5, hi3_l5⟩ := hI
  have hcl1_l5 := (hM_l5.cap 1 rfl).1
  refine cd 7 [] (fun c25 => ?_) (fun c25 => ?_)
  · have hsa := share_at (i := k) h24 hn (by omega)
    obtain ⟨nx9, hnx⟩ : ∃ z, z = l.length * (k + 1) / n9 := ⟨_, rfl⟩
    have hat := hi1_l5.1
    rw [← hnx, ← hat] at hsa
    refine cp 9 [] (b := share_fn _ _ _ w_l5 qo (by (rw [← hnx, ← hat]; omega))) (c := fun w7_4 hM7_4 => ?_)
    refine ov 0 [] (s := Vi ((((nx9 - at9) : Nat) : Int))) (a := by exact cv (Ru.congr (v := I (((shrF ((l).length) n9 k : Nat) : Int))) (v' := I ((((nx9 - at9) : Nat) : Int))) (Ru.assign rfl) ((I_congr (by unfold shrF; rw [← hnx, ← hat])))) rfl) (b := ?_)
    refine ov 8 [] (a := kaddN (at9 + (nx9 - at9))) (b := ?_)
    refine ov 0 [] (s := Vl (if c = at9 then A else ofs (A) (at9 * 2)) ((((l).take ((at9 + (nx9 - at9)))).drop (at9)).length) (c - at9)) (a := by exact cv (Ru.congr (v := .slice (if c = at9 then A else ofs (A) (at9 * 2)) ((at9 + (nx9 - at9)) - at9) (c - at9)) (v' := .slice (if c = at9 then A else ofs (A) (at9 * 2)) ((((l).take ((at9 + (nx9 - at9)))).drop (at9)).length) (c - at9)) (Ru.lslice (l := at9) (h := (at9 + (nx9 - at9))) Tryd.underlying31 el57 rfl rfl rfl (by omega) (by omega) (by omega)) (sl_congr (by first | rfl | (simp; done) | omega | (simp; omega)))) rfl) (b := ?_)
    refine cq 0 [] (b := leafOf_fn _ _ _ w7_4 (rd_dropN (k := at9) (c := c) encP_len (rd_takeN encP_len (hA.at hM7_4)) q2 q2) (by first | omega | (simp only [List.length_drop, List.length_take]; omega)) (by first | omega | (simp only [List.length_drop, List.length_take]; omega))) (c := ?_)
    rintro _ w8_7 ⟨A18_7, c18_7, A28_7, c28_7, A38_7, c38_7, rfl, hR8_7⟩
    have hM8_7 := hM7_4.cl 0 hR8_7
    have hcr8_7_0 := (hM8_7.cap 0 rfl).1
    have hcr8_7_1 := (hM8_7.cap 1 rfl).1
    have hcr8_7_2 := (hM8_7.cap 2 rfl).1
    let p1_ : PgL := (⟨⟨A18_7, c18_7, keysP (((l).take ((at9 + (nx9 - at9)))).drop (at9))⟩, ⟨A28_7, c28_7, ([] : List Int)⟩, ⟨A38_7, c38_7, (((l).take ((at9 + (nx9 - at9)))).drop (at9)).map PairT.val⟩⟩ : PgL)
    refine Lt 0 [] (([p1_]).flatMap encPg) (fun w8_8 b8_8 hb8_8 hM8_8 => ?_)
    refine aF 0 [] 5 (hM8_8.rd 0 rfl) (fun w8_9 A8_9 c8_9 hc8_9 hM8_9 => ?_) (hn := by first | omega | (simp only [List.length_append, List.length_cons, List.length_nil]; omega)) (hb := by first | omega | (simp only [List.length_append, List.length_cons, List.length_nil]; omega))
    have hMk4 := Mem.gapp (k := ⟨A18_7, c18_7, keysP (((l).take ((at9 + (nx9 - at9)))).drop (at9))⟩) (c := ⟨A28_7, c28_7, ([] : List Int)⟩) (v := ⟨A38_7, c38_7, (((l).take ((at9 + (nx9 - at9)))).drop (at9)).map PairT.val⟩) (hM8_9.pk [4, 1, 2, 3, 0, 5, 6])
    refine ov 5 [] (s := Vi (((nx9 : Nat) : Int))) (a := by exact cv (Ru.congr (v := I ((((at9 : Nat) : Int) + (((nx9 - at9) : Nat) : Int)))) (v' := I (((nx9 : Nat) : Int))) (Ru.add rfl rfl (by omega)) ((I_congr (by omega)))) rfl) (b := ?_)
    refine ov 4 [] (a := kaddN (k + 1)) (b := ?_)
    have hq5 : (Lv ++ [p1_] : List PgL) = (Lv ++ [p1_]) := (by first | rfl | simp | (simp; omega))
    have hMn5 := hMk4.reF 2 hq5
    exact le5 2 [] (k + 1) nx9 (Lv ++ [p1_]) A8_9 c8_9 [0, 2, 3] (h := by exact ⟨(by (try dsimp only); simp only [List.length_append, List.length_cons, List.length_nil]; omega), ⟨hnx, (by show nx9 ≤ l.length; omega)⟩, (lfs_snoc hi2_l5 (lf_leafP (by simp only [List.length_drop, List.length_take]; omega))), (fun h5 => fulls_snoc (hi3_l5 h5) (by show 1 ≤ (keysP ((l.take (at9 + (nx9 - at9))).drop at9)).length; simp only [List.length_map, List.length_drop, List.length_take]; omega))⟩)
  refine cd 7 [] (fun c47 => ?_) (fun c47 => ?_)
  · refine Sb 4 [] 2 fun w11_2 hM11_2 => ?_
    refine EG 2 [] ?_
    refine PG (vs := [.agg #[I (0), .slice (A2) ((Lv).length) (c2)]]) (ResV.cell (l := [I (0), .slice (A2) ((Lv).length) (c2)]) rfl (mem_blk (i := 2) (j := 0) hM11_2 rfl rfl) el25 rfl ResV.nil) ?_
    exact ⟨Lv, A2, c2, (by first | rfl | exact sl_congr (by first | omega | (simp; done) | (simp; omega)) | (simp; done)), (wk_load1 hi2_l5 (by omega)), (by omega), (hM11_2.pk [1, 0])⟩
  refine cd 7 [] (fun c51 => ?_) (fun c51 => ?_)
  · refine Lt 2 [] (([]).map I) (fun w13_0 b13_0 hb13_0 hM13_0 => ?_)
    refine Lt 0 [] (([]).map I) (fun w13_1 b13_1 hb13_1 hM13_1 => ?_)
    refine Al 1 [] fun w13_3 b13_3 hb13_3 hM13_3 => ?_
    refine Sb 0 [] 0 fun w13_4 hM13_4 => ?_
    have hq8 : ([] : List Int) = ([] : List Int) := rfl
    have hMn8 := hM13_4.reM 2 hq8 (f := I)
    have hMn9 := hMn8.reB 0 0 (show 0 = (([] : List Int)).length from (by first | rfl | simp | (simp; omega)))
    have hq10 : ([] : List Int) = ([] : List Int) := rfl
    have hMn10 := hMn9.reM 1 hq10 (f := I)
    have hMn11 := hMn10.reB 0 1 (show 0 = (([] : List Int)).length from (by first | rfl | simp | (simp; omega)))
    refine lp7 7 [] (fun (i : Nat) (ks : List Int) (cs : List Int) (A3 : Option Addr) (c3 : Nat) (A4 : Option Addr) (c4 : Nat) => ([(9, Vi (((i : Nat) : Int)))] : List (Nat × SV))) (fun (i : Nat) (ks : List Int) (cs : List Int) (A3 : Option Addr) (c3 : Nat) (A4 : Option Addr) (c4 : Nat) => (i ≤ n9 ∧ (ks).length = i - 1 ∧ (cs).length = i) ∧ (∀ x ∈ cs, 1 ≤ x ∧ x < ((i : Nat) : Int) + 1)) (fun (i : Nat) (ks : List Int) (cs : List Int) (A3 : Option Addr) (c3 : Nat) (A4 : Option Addr) (c4 : Nat) => [[⟨.slice (bl b13_3) 1 1, 98, 2, 1, [.slice (A3) ((ks).length) (c3), .slice (A4) ((cs).length) (c4)]⟩], [⟨.slice (A4) ((cs).length) (c4), 3, 1, ((cs).length), (cs).map I⟩], [⟨.slice (A3) ((ks).length) (c3), 3, 1, ((ks).length), (ks).map I⟩]]) (fun (i : Nat) (ks : List Int) (cs : List Int) (A3 : Option Addr) (c3 : Nat) (A4 : Option Addr) (c4 : Nat) => n9 - i) [2, 3, 4, 8] [0, 1, 2] [3, 4, 5] 0 (([] : List Int) : List Int) (([] : List Int) : List Int) (bl b13_0) 0 (bl b13_1) 0 (fun i ks cs A3 c3 A4 c4 σ w_l15 hI hM_l15 => ?_) (h0 := ⟨(by (try dsimp only); simp), (by (try dsimp only); simp)⟩)
    obtain ⟨hi0_l15, hi1_l15⟩ := hI
    have hcl1_l15 := (hM_l15.cap 1 rfl).1
    have hcl2_l15 := (hM_l15.cap 2 rfl).1
    have hcl4_l15 := (hM_l15.cap 4 rfl).1
    refine cd 7 [] (fun c57 => ?_) (fun c57 => ?_)
    · refine ct3 3 [] (fun (ks2 : List Int) (B3 : Option Addr) (d3 : Nat) => ([] : List (Nat × SV))) (fun (ks2 : List Int) (B3 : Option Addr) (d3 : Nat) => ((ks2).length = i)) (fun (ks2 : List Int) (B3 : Option Addr) (d3 : Nat) => [[⟨.slice (bl b13_3) 1 1, 98, 2, 1, [.slice (B3) ((ks2).length) (d3), .slice (A4) ((cs).length) (c4)]⟩], [⟨.slice (B3) ((ks2).length) (d3), 3, 1, ((ks2).length), (ks2).map I⟩]]) [2, 3, 4, 8, 9] [1, 3, 4, 5] ?_ (fun ks2 B3 d3 σ w_c61 hI hM_c61 => ?_)
      · refine cd 5 [] (fun c61 => ?_) (fun c61 => ?_)
        · refine any 0 [] 13 [1, 3, 4, 5] fun w18a hM18a => ?_
          have hx18_4 : i < (Lv).length := (by omega)
          refine av [0, 2, 3] [] 4 (a := by exact fun _ hw2 => kixF hx18_4 (hM18a.rd 4 rfl) (h0 := by omega)) (b := ?_)
          refine av [] [] 5 (a := by exact fun _ hw2 => kflF hx18_4 (hM18a.rd 4 rfl)) (b := ?_)
          refine av [] [] 6 (a := by exact fun _ hw2 => kldF hx18_4 (hw2.rd 2 rfl)) (b := ?_)
          have hx18_7 : 0 < (((Lv)[i]'hx18_4).k.l).length := (by have h9 := hi3_l5 (hp9.2.2 (by omega)) _ (List.getElem_mem hx18_4); omega)
          refine av [] [] 7 (a := by exact fun _ hw2 => kixM hx18_7 ((NsP.mem hM18a 3 rfl).get hx18_4).1 (h0 := by (have h9 := hi3_l5 (hp9.2.2 (by omega)) _ (List.getElem_mem hx18_4); omega))) (b := ?_)
          refine aT [] [] 1 8 ?_ ?_
          · refine os 1 [0] [1, 3, 4, 5] ?_
            refine aO [] [] 8 ?_
            refine ov 0 [] (a := kldM hx18_7 ((NsP.mem hM18a 3 rfl).get hx18_4).1) (b := ?_)
            refine os 0 [] [1, 3, 4, 5] ?_
            refine aO [] [] 9 ?_
            refine Lt 0 [] (([(((Lv)[i]'hx18_4).k.l)[0]'hx18_7]).map I) (fun w18_9 b18_9 hb18_9 hM18_9 => ?_)
            refine os 0 [] [2, 4, 5, 6] ?_
            refine aO [] [] 10 ?_
            refine aM 0 [] 3 (hM18_9.rd 0 rfl) (fun w18_10 A18_10 c18_10 hc18_10 hM18_10 => ?_) (hn := by first | omega | (simp only [List.length_append, List.length_cons, List.length_nil]; omega)) (hb := by first | omega | (simp only [List.length_append, List.length_cons, List.length_nil]; omega))
            refine os 0 [] [2, 4, 5, 6] ?_
            refine aO [11] [] 12 ?_
            refine Sb 0 [] 1 fun w18_12 hM18_12 => ?_
            refine os 0 [] [2, 4, 5, 6] ?_
            refine an [] [] ?_
            have hq12 : (ks ++ [(((Lv)[i]'hx18_4).k.l)[0]'hx18_7] : List Int) = (ks ++ [(((Lv)[i]'hx18_4).k.l)[0]'hx18_7]) := (by first | rfl | simp | (simp; omega))
            have hMn12 := hM18_12.reM 3 hq12
            exact ce3 0 [] (ks ++ [(((Lv)[i]'hx18_4).k.l)[0]'hx18_7]) A18_10 c18_10 [1, 3, 2, 4, 5, 6] (h := by exact (by (try dsimp only); first | (simp only [List.length_append, List.length_cons, List.length_nil]; omega) | omega))
          refine ov 0 [] (a := kldM hx18_7 ((NsP.mem hM18a 3 rfl).get hx18_4).1) (b := ?_)
          refine os 0 [] [1, 3, 4, 5] ?_
          refine aT [] [] 1 9 ?_ ?_
          · refine os 1 [0] [1, 3, 4, 5] ?_
            refine aO [] [] 9 ?_
            refine Lt 0 [] (([(((Lv)[i]'hx18_4).k.l)[0]'hx18_7]).map I) (fun w18_9 b18_9 hb18_9 hM18_9 => ?_)
            refine os 0 [] [2, 4, 5, 6] ?_
            refine aO [] [] 10 ?_
            refine aM 0 [] 3 (hM18_9.rd 0 rfl) (fun w18_10 A18_10 c18_10 hc18_10 hM18_10 => ?_) (hn := by first | omega | (simp only [List.length_append, List.length_cons, List.length_nil]; omega)) (hb := by first | omega | (simp only [List.length_append, List.length_cons, List.length_nil]; omega))
            refine os 0 [] [2, 4, 5, 6] ?_
            refine aO [11] [] 12 ?_
            refine Sb 0 [] 1 fun w18_12 hM18_12 => ?_
            refine os 0 [] [2, 4, 5, 6] ?_
            refine an [] [] ?_
            have hq13 : (ks ++ [(((Lv)[i]'hx18_4).k.l)[0]'hx18_7] : List Int) = (ks ++ [(((Lv)[i]'hx18_4).k.l)[0]'hx18_7]) := (by first | rfl | simp | (simp; omega))
            have hMn13 := hM18_12.reM 3 hq13
            exact ce3 0 [] (ks ++ [(((Lv)[i]'hx18_4).k.l)[0]'hx18_7]) A18_10 c18_10 [1, 3, 2, 4, 5, 6] (h := by exact (by (try dsimp only); first | (simp only [List.length_append, List.length_cons, List.length_nil]; omega) | omega))
          refine Lt 0 [] (([(((Lv)[i]'hx18_4).k.l)[0]'hx18_7]).map I) (fun w18_9 b18_9 hb18_9 hM18_9 => ?_)
          refine os 0 [] [2, 4, 5, 6] ?_
          refine aO [] [] 1 ?_
          refine os 1 [1] [2, 4, 5, 6] ?_
          refine aO [] [] 10 ?_
          refine aM 0 [] 3 (hM18_9.rd 0 rfl) (fun w18_10 A18_10 c18_10 hc18_10 hM18_10 => ?_) (hn := by first | omega | (simp only [List.length_append, List.length_cons, List.length_nil]; omega)) (hb := by first | omega | (simp only [List.length_append, List.length_cons, List.length_nil]; omega))
          refine os 0 [] [2, 4, 5, 6] ?_
          refine aO [11] [] 12 ?_
          refine Sb 0 [] 1 fun w18_12 hM18_12 => ?_
          refine os 0 [] [2, 4, 5, 6] ?_
          refine an [] [] ?_
          have hq14 : (ks ++ [(((Lv)[i]'hx18_4).k.l)[0]'hx18_7] : List Int) = (ks ++ [(((Lv)[i]'hx18_4).k.l)[0]'hx18_7]) := (by first | rfl | simp | (simp; omega))
          have hMn14 := hM18_12.reM 3 hq14
          exact ce3 0 [] (ks ++ [(((Lv)[i]'hx18_4).k.l)[0]'hx18_7]) A18_10 c18_10 [1, 3, 2, 4, 5, 6] (h := by exact (by (try dsimp only); first | (simp only [List.length_append, List.length_cons, List.length_nil]; omega) | omega))
        exact ce3 1 [] ks A3 c3 [0, 2, 1, 3, 4, 5] (h := by exact (by (try dsimp only); first | (simp only [List.length_append, List.length_cons, List.length_nil]; omega) | omega))
      have hi0_c61 := hI
      have hcl1_c61 := (hM_c61.cap 1 rfl).1
      have hcl2_c61 := (hM_c61.cap 2 rfl).1
      have hcl4_c61 := (hM_c61.cap 4 rfl).1
      refine ov 4 [0] (a := kaddN (i + 1)) (b := ?_)
      refine Lt 0 [] (([(((i + 1) : Nat) : Int)]).map I) (fun w19_4 b19_4 hb19_4 hM19_4 => ?_)
      refine aM 0 [] 3 (hM19_4.rd 0 rfl) (fun w19_5 A19_5 c19_5 hc19_5 hM19_5 => ?_) (hn := by first | omega | (simp only [List.length_append, List.length_cons, List.length_nil]; omega)) (hb := by first | omega | (simp only [List.length_append, List.length_cons, List.length_nil]; omega))
      refine Sb 1 [] 1 fun w19_7 hM19_7 => ?_
      refine ov 3 [] (a := kaddN (i + 1)) (b := ?_)
      have hq15 : (cs ++ [(((i + 1) : Nat) : Int)] : List Int) = (cs ++ [(((i + 1) : Nat) : Int)]) := (by first | rfl | simp | (simp; omega))
      have hMn15 := hM19_7.reM 3 hq15
      exact le7 2 [] (i + 1) ks2 (cs ++ [(((i + 1) : Nat) : Int)]) B3 d3 A19_5 c19_5 [1, 3, 2, 4, 5, 6] (h := by exact ⟨(by (try dsimp only); first | (simp only [List.length_append, List.length_cons, List.length_nil]; omega) | omega), (mem_snocB hi1_l15 (by omega) (by omega))⟩)
    refine cq 4 [0] (b := innerOf_fn A3 c3 ks A4 c4 cs w_l15 (hM_l15.rd 2 rfl) (hM_l15.rd 1 rfl)) (c := ?_)
    rintro _ w20_1 ⟨A120_1, c120_1, rfl, hR20_1⟩
    have hM20_1 := hM_l15.cl 0 hR20_1
    have hcr20_1_0 := (hM20_1.cap 0 rfl).1
    have hMk16 := Mem.gnil (e := 3) hM20_1
    refine Lt 0 [] (([(⟨⟨A3, c3, ks⟩, ⟨A4, c4, cs⟩, ⟨A120_1, c120_1, ([] : List Int)⟩⟩ : PgL)]).flatMap encPg) (fun w20_2 b20_2 hb20_2 hM20_2 => ?_)
    refine aF 1 [] 0 (hM20_2.rd 7 rfl) (fun w20_4 A20_4 c20_4 hc20_4 hM20_4 => ?_) (hn := by first | omega | (simp only [List.length_append, List.length_cons, List.length_nil]; omega)) (hb := by first | omega | (simp only [List.length_append, List.length_cons, List.length_nil]; omega))
    have hMk17 := Mem.gapp (k := ⟨A3, c3, ks⟩) (c := ⟨A4, c4, cs⟩) (v := ⟨A120_1, c120_1, ([] : List Int)⟩) (hM20_4.pk [1, 5, 4, 2, 0, 3, 6, 7, 8])
    have hMk18 := Mem.gcat (hMk17.pk [0, 3, 1, 2, 4, 5])
    have hMn19 := hMk18.reK 0 (show (([] : List PgL) ++ [(⟨⟨A3, c3, ks⟩, ⟨A4, c4, cs⟩, ⟨A120_1, c120_1, ([] : List Int)⟩⟩ : PgL)] ++ Lv : List PgL) = [(⟨⟨A3, c3, ks⟩, ⟨A4, c4, cs⟩, ⟨A120_1, c120_1, ([] : List Int)⟩⟩ : PgL)] ++ Lv from (by simp))
    refine Sb 1 [] 4 fun w20_6 hM20_6 => ?_
    refine EG 2 [] ?_
    refine PG (vs := [.agg #[I (0), .slice (A20_4) (([(⟨⟨A3, c3, ks⟩, ⟨A4, c4, cs⟩, ⟨A120_1, c120_1, ([] : List Int)⟩⟩ : PgL)] ++ Lv).length) (c20_4)]]) (ResV.cell (l := [I (0), .slice (A20_4) (([(⟨⟨A3, c3, ks⟩, ⟨A4, c4, cs⟩, ⟨A120_1, c120_1, ([] : List Int)⟩⟩ : PgL)] ++ Lv).length) (c20_4)]) rfl (mem_blk (i := 4) (j := 0) hM20_6 rfl rfl) el25 rfl ResV.nil) ?_
    have hq20 : ([(⟨⟨A3, c3, ks⟩, ⟨A4, c4, cs⟩, ⟨A120_1, c120_1, ([] : List Int)⟩⟩ : PgL)] ++ Lv : List PgL) = ([(⟨⟨A3, c3, ks⟩, ⟨A4, c4, cs⟩, ⟨A120_1, c120_1, ([] : List Int)⟩⟩ : PgL)] ++ Lv) := (by first | rfl | simp | (simp; omega))
    have hMn20 := hM20_6.reF 1 hq20
    exact ⟨[(⟨⟨A3, c3, ks⟩, ⟨A4, c4, cs⟩, ⟨A120_1, c120_1, ([] : List Int)⟩⟩ : PgL)] ++ Lv, A20_4, c20_4, (by first | rfl | exact sl_congr (by first | omega | (simp; done) | (simp; omega)) | (simp; done)), (by have h9 := wk_load2 (X := (⟨⟨A3, c3, ks⟩, ⟨A4, c4, cs⟩, ⟨A120_1, c120_1, ([] : List Int)⟩⟩ : PgL)) hi2_l5 (by omega) (by show (ks).length ≤ 5; omega) (by show (cs).length ≤ 6; omega) rfl (by show 1 ≤ (cs).length; omega) (by intro x hx; have := hi1_l15 x hx; omega); exact h9), (by simp; omega), (hMn20.pk [1, 0])⟩
  refine ov 4 [] (s := Vi (3)) (a := by exact cv (Ru.congr (v := I ((((n9 : Nat) : Int) / 2))) (v' := I (3)) (Ru.quo rfl rfl (by omega)) ((I_congr (by omega)))) rfl) (b := ?_)
  refine Lt 4 [] (([]).map I) (fun w22_0 b22_0 hb22_0 hM22_0 => ?_)
  refine Lt 0 [] (([]).map I) (fun w22_1 b22_1 hb22_1 hM22_1 => ?_)
  refine Al 1 [] fun w22_3 b22_3 hb22_3 hM22_3 => ?_
  refine Sb 0 [] 0 fun w22_4 hM22_4 => ?_
  refine Lt 3 [] (([]).map I) (fun w23_0 b23_0 hb23_0 hM23_0 => ?_)
  refine Lt 0 [] (([]).map I) (fun w23_1 b23_1 hb23_1 hM23_1 => ?_)
  refine Al 1 [] fun w23_3 b23_3 hb23_3 hM23_3 => ?_
  refine Sb 0 [] 0 fun w23_4 hM23_4 => ?_
  have hq22 : ([] : List Int) = ([] : List Int) := rfl
  have hMn22 := hM23_4.reM 5 hq22 (f := I)
  have hMn23 := hMn22.reB 3 0 (show 0 = (([] : List Int)).length from (by first | rfl | simp | (simp; omega)))
  have hq24 : ([] : List Int) = ([] : List Int) := rfl
  have hMn24 := hMn23.reM 4 hq24 (f := I)
  have hMn25 := hMn24.reB 3 1 (show 0 = (([] : List Int)).length from (by first | rfl | simp | (simp; omega)))
  have hq26 : ([] : List Int) = ([] : List Int) := rfl
  have hMn26 := hMn25.reM 2 hq26 (f := I)
  have hMn27 := hMn26.reB 0 0 (show 0 = (([] : List Int)).length from (by first | rfl | simp | (simp; omega)))
  have hq28 : ([] : List Int) = ([] : List Int) := rfl
  have hMn28 := hMn27.reM 1 hq28 (f := I)
  have hMn29 := hMn28.reB 0 1 (show 0 = (([] : List Int)).length from (by first | rfl | simp | (simp; omega)))
  refine lp13 7 [] (fun (i : Nat) (ka : List Int) (ca : List Int) (kb : List Int) (cb : List Int) (A3 : Option Addr) (c3 : Nat) (A4 : Option Addr) (c4 : Nat) (A5 : Option Addr) (c5 : Nat) (A6 : Option Addr) (c6 : Nat) => ([(13, Vi (((i : Nat) : Int)))] : List (Nat × SV))) (fun (i : Nat) (ka : List Int) (ca : List Int) (kb : List Int) (cb : List Int) (A3 : Option Addr) (c3 : Nat) (A4 : Option Addr) (c4 : Nat) (A5 : Option Addr) (c5 : Nat) (A6 : Option Addr) (c6 : Nat) => (i ≤ 6) ∧ ((ka).length = min i 3 - 1 ∧ (ca).length = min i 3 ∧ (kb).length = i - 4 ∧ (cb).length = i - 3) ∧ (∀ x ∈ ca, 2 ≤ x ∧ x < ((min i 3 : Nat) : Int) + 2) ∧ (∀ x ∈ cb, 6 ≤ x ∧ x < ((max i 3 : Nat) : Int) + 3)) (fun (i : Nat) (ka : List Int) (ca : List Int) (kb : List Int) (cb : List Int) (A3 : Option Addr) (c3 : Nat) (A4 : Option Addr) (c4 : Nat) (A5 : Option Addr) (c5 : Nat) (A6 : Option Addr) (c6 : Nat) => [[⟨.slice (bl b23_3) 1 1, 98, 2, 1, [.slice (A5) ((kb).length) (c5), .slice (A6) ((cb).length) (c6)]⟩], [⟨.slice (A6) ((cb).length) (c6), 3, 1, ((cb).length), (cb).map I⟩], [⟨.slice (A5) ((kb).length) (c5), 3, 1, ((kb).length), (kb).map I⟩], [⟨.slice (bl b22_3) 1 1, 98, 2, 1, [.slice (A3) ((ka).length) (c3), .slice (A4) ((ca).length) (c4)]⟩], [⟨.slice (A4) ((ca).length) (c4), 3, 1, ((ca).length), (ca).map I⟩], [⟨.slice (A3) ((ka).length) (c3), 3, 1, ((ka).length), (ka).map I⟩]]) (fun (i : Nat) (ka : List Int) (ca : List Int) (kb : List Int) (cb : List Int) (A3 : Option Addr) (c3 : Nat) (A4 : Option Addr) (c4 : Nat) (A5 : Option Addr) (c5 : Nat) (A6 : Option Addr) (c6 : Nat) => 6 - i) [2, 3, 4, 10, 11, 12] [0, 1, 2, 3, 4, 5] [6, 7, 8] 0 (([] : List Int) : List Int) (([] : List Int) : List Int) (([] : List Int) : List Int) (([] : List Int) : List Int) (bl b22_0) 0 (bl b22_1) 0 (bl b23_0) 0 (bl b23_1) 0 (fun i ka ca kb cb A3 c3 A4 c4 A5 c5 A6 c6 σ w_l25 hI hM_l25 => ?_) (h0 := ⟨(by (try dsimp only); omega), (by (try dsimp only); simp), (by (try dsimp only); simp), (by (try dsimp only); simp)⟩)
  obtain ⟨hi0_l25, hi1_l25, hi2_l25, hi3_l25⟩ := hI
  have hcl1_l25 := (hM_l25.cap 1 rfl).1
  have hcl2_l25 := (hM_l25.cap 2 rfl).1
  have hcl4_l25 := (hM_l25.cap 4 rfl).1
  have hcl5_l25 := (hM_l25.cap 5 rfl).1
  have hcl7_l25 := (hM_l25.cap 7 rfl).1
  refine cd 7 [] (fun c97 => ?_) (fun c97 => ?_)
  · refine ct6 3 [] (fun (ca2 : List Int) (cb2 : List Int) (B4 : Option Addr) (d4 : Nat) (B6 : Option Addr) (d6 : Nat) => ([] : List (Nat × SV))) (fun (ca2 : List Int) (cb2 : List Int) (B4 : Option Addr) (d4 : Nat) (B6 : Option Addr) (d6 : Nat) => ((ca2).length = min (i + 1) 3 ∧ (cb2).length = (i + 1) - 3) ∧ (∀ x ∈ ca2, 2 ≤ x ∧ x < ((min (i + 1) 3 : Nat) : Int) + 2) ∧ (∀ x ∈ cb2, 6 ≤ x ∧ x < ((max (i + 1) 3 : Nat) : Int) + 3)) (fun (ca2 : List Int) (cb2 : List Int) (B4 : Option Addr) (d4 : Nat) (B6 : Option Addr) (d6 : Nat) => [[⟨.slice (bl b23_3) 1 1, 98, 2, 1, [.slice (A5) ((kb).length) (c5), .slice (B6) ((cb2).length) (d6)]⟩], [⟨.slice (B6) ((cb2).length) (d6), 3, 1, ((cb2).length), (cb2).map I⟩], [⟨.slice (bl b22_3) 1 1, 98, 2, 1, [.slice (A3) ((ka).length) (c3), .slice (B4) ((ca2).length) (d4)]⟩], [⟨.slice (B4) ((ca2).length) (d4), 3, 1, ((ca2).length), (ca2).map I⟩]]) [2, 3, 4, 10, 11, 12, 13] [2, 5, 6, 7, 8] ?_ (fun ca2 cb2 B4 d4 B6 d6 σ w_c102 hI hM_c102 => ?_)
    · refine cd 6 [] (fun c102 => ?_) (fun c102 => ?_)
      · refine ov 4 [3] (a := kaddN (2 + i)) (b := ?_)
        refine Lt 0 [] (([(((2 + i) : Nat) : Int)]).map I) (fun w28_4 b28_4 hb28_4 hM28_4 => ?_)
        refine aM 0 [] 5 (hM28_4.rd 0 rfl) (fun w28_5 A28_5 c28_5 hc28_5 hM28_5 => ?_) (hn := by first | omega | (simp only [List.length_append, List.length_cons, List.length_nil]; omega)) (hb := by first | omega | (simp only [List.length_append, List.length_cons, List.length_nil]; omega))
        refine Sb 1 [] 4 fun w28_7 hM28_7 => ?_
        have hq30 : (ca ++ [(((2 + i) : Nat) : Int)] : List Int) = (ca ++ [(((2 + i) : Nat) : Int)]) := (by first | rfl | simp | (simp; omega))
        have hMn30 := hM28_7.reM 5 hq30
        exact ce6 1 [] (ca ++ [(((2 + i) : Nat) : Int)]) cb A28_5 c28_5 A6 c6 [1, 2, 4, 5, 3, 6, 7, 8, 9] (h := by exact ⟨(by (try dsimp only); first | (simp only [List.length_append, List.length_cons, List.length_nil]; omega) | omega), (by (try dsimp only); first | exact mem_snocB hi2_l25 (by omega) (by omega) | exact fun x hx => (by have := hi2_l25 x hx; omega)), (by (try dsimp only); first | exact mem_snocB hi3_l25 (by omega) (by omega) | exact fun x hx => (by have := hi3_l25 x hx; omega))⟩)
      refine ov 4 [0] (a := kaddN (3 + i)) (b := ?_)
      refine Lt 0 [] (([(((3 + i) : Nat) : Int)]).map I) (fun w29_4 b29_4 hb29_4 hM29_4 => ?_)
      refine aM 0 [] 2 (hM29_4.rd 0 rfl) (fun w29_5 A29_5 c29_5 hc29_5 hM29_5 => ?_) (hn := by first | omega | (simp only [List.length_append, List.length_cons, List.length_nil]; omega)) (hb := by first | omega | (simp only [List.length_append, List.length_cons, List.length_nil]; omega))
      refine Sb 1 [] 1 fun w29_7 hM29_7 => ?_
      have hq31 : (cb ++ [(((3 + i) : Nat) : Int)] : List Int) = (cb ++ [(((3 + i) : Nat) : Int)]) := (by first | rfl | simp | (simp; omega))
      have hMn31 := hM29_7.reM 2 hq31
      exact ce6 1 [] ca (cb ++ [(((3 + i) : Nat) : Int)]) A4 c4 A29_5 c29_5 [1, 2, 4, 5, 3, 6, 7, 8, 9] (h := by exact ⟨(by (try dsimp only); first | (simp only [List.length_append, List.length_cons, List.length_nil]; omega) | omega), (by (try dsimp only); first | exact mem_snocB hi2_l25 (by omega) (by omega) | exact fun x hx => (by have := hi2_l25 x hx; omega)), (by (try dsimp only); first | exact mem_snocB hi3_l25 (by omega) (by omega) | exact fun x hx => (by have := hi3_l25 x hx; omega))⟩)
    obtain ⟨hi0_c102, hi1_c102, hi2_c102⟩ := hI
    have hcl1_c102 := (hM_c102.cap 1 rfl).1
    have hcl3_c102 := (hM_c102.cap 3 rfl).1
    have hcl4_c102 := (hM_c102.cap 4 rfl).1
    have hcl5_c102 := (hM_c102.cap 5 rfl).1
    have hcl7_c102 := (hM_c102.cap 7 rfl).1
    refine ct3 0 [] (fun (ka2 : List Int) (B3 : Option Addr) (d3 : Nat) => ([] : List (Nat × SV))) (fun (ka2 : List Int) (B3 : Option Addr) (d3 : Nat) => ((ka2).length = min (i + 1) 3 - 1)) (fun (ka2 : List Int) (B3 : Option Addr) (d3 : Nat) => [[⟨.slice (bl b22_3) 1 1, 98, 2, 1, [.slice (B3) ((ka2).length) (d3), .slice (B4) ((ca2).length) (d4)]⟩], [⟨.slice (B3) ((ka2).length) (d3), 3, 1, ((ka2).length), (ka2).map I⟩]]) [2, 3, 4, 10, 11, 12, 13] [0, 1, 3, 4, 6, 7, 8] ?_ (fun ka2 B3 d3 σ w_c123 hI hM_c123 => ?_)
    · refine pp 5 [] 119 (fun g119 => ?_) (fun g119 => ?_)
      · refine cd 5 [] (fun c123 => ?_) (fun c123 => ?_)
        · refine any 0 [] 13 [0, 1, 3, 4, 6, 7, 8] fun w31a hM31a => ?_
          have hx31_4 : i < (Lv).length := (by omega)
          refine av [0, 2, 3] [] 4 (a := by exact fun _ hw2 => kixF hx31_4 (hM31a.rd 7 rfl) (h0 := by omega)) (b := ?_)
          refine av [] [] 5 (a := by exact fun _ hw2 => kflF hx31_4 (hM31a.rd 7 rfl)) (b := ?_)
          refine av [] [] 6 (a := by exact fun _ hw2 => kldF hx31_4 (hw2.rd 5 rfl)) (b := ?_)
          have hx31_7 : 0 < (((Lv)[i]'hx31_4).k.l).length := (by have h9 := hi3_l5 (hp9.2.2 (by omega)) _ (List.getElem_mem hx31_4); omega)
          refine av [] [] 7 (a := by exact fun _ hw2 => kixM hx31_7 ((NsP.mem hM31a 6 rfl).get hx31_4).1 (h0 := by (have h9 := hi3_l5 (hp9.2.2 (by omega)) _ (List.getElem_mem hx31_4); omega))) (b := ?_)
          refine aT [] [] 1 8 ?_ ?_
          · refine os 1 [2] [0, 1, 3, 4, 6, 7, 8] ?_
            refine aO [] [] 8 ?_
            refine ov 0 [] (a := kldM hx31_7 ((NsP.mem hM31a 6 rfl).get hx31_4).1) (b := ?_)
            refine os 0 [] [0, 1, 3, 4, 6, 7, 8] ?_
            refine aO [] [] 9 ?_
            refine Lt 0 [] (([(((Lv)[i]'hx31_4).k.l)[0]'hx31_7]).map I) (fun w31_9 b31_9 hb31_9 hM31_9 => ?_)
            refine os 0 [] [1, 2, 4, 5, 7, 8, 9] ?_
            refine aO [] [] 10 ?_
            refine aM 0 [] 6 (hM31_9.rd 0 rfl) (fun w31_10 A31_10 c31_10 hc31_10 hM31_10 => ?_) (hn := by first | omega | (simp only [List.length_append, List.length_cons, List.length_nil]; omega)) (hb := by first | omega | (simp only [List.length_append, List.length_cons, List.length_nil]; omega))
            refine os 0 [] [1, 2, 4, 5, 7, 8, 9] ?_
            refine aO [11] [] 12 ?_
            refine Sb 0 [] 3 fun w31_12 hM31_12 => ?_
            refine os 0 [] [1, 2, 4, 5, 7, 8, 9] ?_
            refine an [] [] ?_
            have hq32 : (ka ++ [(((Lv)[i]'hx31_4).k.l)[0]'hx31_7] : List Int) = (ka ++ [(((Lv)[i]'hx31_4).k.l)[0]'hx31_7]) := (by first | rfl | simp | (simp; omega))
            have hMn32 := hM31_12.reM 6 hq32
            exact ce3 0 [] (ka ++ [(((Lv)[i]'hx31_4).k.l)[0]'hx31_7]) A31_10 c31_10 [3, 6, 1, 2, 4, 5, 7, 8, 9] (h := by exact (by (try dsimp only); first | (simp only [List.length_append, List.length_cons, List.length_nil]; omega) | omega))
          refine ov 0 [] (a := kldM hx31_7 ((NsP.mem hM31a 6 rfl).get hx31_4).1) (b := ?_)
          refine os 0 [] [0, 1, 3, 4, 6, 7, 8] ?_
          refine aT [] [] 1 9 ?_ ?_
          · refine os 1 [2] [0, 1, 3, 4, 6, 7, 8] ?_
            refine aO [] [] 9 ?_
            refine Lt 0 [] (([(((Lv)[i]'hx31_4).k.l)[0]'hx31_7]).map I) (fun w31_9 b31_9 hb31_9 hM31_9 => ?_)
            refine os 0 [] [1, 2, 4, 5, 7, 8, 9] ?_
            refine aO [] [] 10 ?_
            refine aM 0 [] 6 (hM31_9.rd 0 rfl) (fun w31_10 A31_10 c31_10 hc31_10 hM31_10 => ?_) (hn := by first | omega | (simp only [List.length_append, List.length_cons, List.length_nil]; omega)) (hb := by first | omega | (simp only [List.length_append, List.length_cons, List.length_nil]; omega))
            refine os 0 [] [1, 2, 4, 5, 7, 8, 9] ?_
            refine aO [11] [] 12 ?_
            refine Sb 0 [] 3 fun w31_12 hM31_12 => ?_
            refine os 0 [] [1, 2, 4, 5, 7, 8, 9] ?_
            refine an [] [] ?_
            have hq33 : (ka ++ [(((Lv)[i]'hx31_4).k.l)[0]'hx31_7] : List Int) = (ka ++ [(((Lv)[i]'hx31_4).k.l)[0]'hx31_7]) := (by first | rfl | simp | (simp; omega))
            have hMn33 := hM31_12.reM 6 hq33
            exact ce3 0 [] (ka ++ [(((Lv)[i]'hx31_4).k.l)[0]'hx31_7]) A31_10 c31_10 [3, 6, 1, 2, 4, 5, 7, 8, 9] (h := by exact (by (try dsimp only); first | (simp only [List.length_append, List.length_cons, List.length_nil]; omega) | omega))
          refine Lt 0 [] (([(((Lv)[i]'hx31_4).k.l)[0]'hx31_7]).map I) (fun w31_9 b31_9 hb31_9 hM31_9 => ?_)
          refine os 0 [] [1, 2, 4, 5, 7, 8, 9] ?_
          refine aO [] [] 1 ?_
          refine os 1 [3] [1, 2, 4, 5, 7, 8, 9] ?_
          refine aO [] [] 10 ?_
          refine aM 0 [] 6 (hM31_9.rd 0 rfl) (fun w31_10 A31_10 c31_10 hc31_10 hM31_10 => ?_) (hn := by first | omega | (simp only [List.length_append, List.length_cons, List.length_nil]; omega)) (hb := by first | omega | (simp only [List.length_append, List.length_cons, List.length_nil]; omega))
          refine os 0 [] [1, 2, 4, 5, 7, 8, 9] ?_
          refine aO [11] [] 12 ?_
          refine Sb 0 [] 3 fun w31_12 hM31_12 => ?_
          refine os 0 [] [1, 2, 4, 5, 7, 8, 9] ?_
          refine an [] [] ?_
          have hq34 : (ka ++ [(((Lv)[i]'hx31_4).k.l)[0]'hx31_7] : List Int) = (ka ++ [(((Lv)[i]'hx31_4).k.l)[0]'hx31_7]) := (by first | rfl | simp | (simp; omega))
          have hMn34 := hM31_12.reM 6 hq34
          exact ce3 0 [] (ka ++ [(((Lv)[i]'hx31_4).k.l)[0]'hx31_7]) A31_10 c31_10 [3, 6, 1, 2, 4, 5, 7, 8, 9] (h := by exact (by (try dsimp only); first | (simp only [List.length_append, List.length_cons, List.length_nil]; omega) | omega))
        exact ce3 1 [] ka A3 c3 [2, 5, 0, 1, 3, 4, 6, 7, 8] (h := by exact (by (try dsimp only); first | (simp only [List.length_append, List.length_cons, List.length_nil]; omega) | omega))
      exact ce3 7 [] ka A3 c3 [2, 5, 0, 1, 3, 4, 6, 7, 8] (h := by exact (by (try dsimp only); first | (simp only [List.length_append, List.length_cons, List.length_nil]; omega) | omega))
    have hi0_c123 := hI
    have hcl1_c123 := (hM_c123.cap 1 rfl).1
    have hcl3_c123 := (hM_c123.cap 3 rfl).1
    have hcl4_c123 := (hM_c123.cap 4 rfl).1
    have hcl5_c123 := (hM_c123.cap 5 rfl).1
    have hcl7_c123 := (hM_c123.cap 7 rfl).1
    refine cd 6 [] (fun c138 => ?_) (fun c138 => ?_)
    · refine any 0 [] 13 [0, 1, 3, 4, 6, 7, 8] fun w33a hM33a => ?_
      have hx33_4 : i < (Lv).length := (by omega)
      refine av [0, 2, 3] [] 4 (a := by exact fun _ hw2 => kixF hx33_4 (hM33a.rd 7 rfl) (h0 := by omega)) (b := ?_)
      refine av [] [] 5 (a := by exact fun _ hw2 => kflF hx33_4 (hM33a.rd 7 rfl)) (b := ?_)
      refine av [] [] 6 (a := by exact fun _ hw2 => kldF hx33_4 (hw2.rd 5 rfl)) (b := ?_)
      have hx33_7 : 0 < (((Lv)[i]'hx33_4).k.l).length := (by have h9 := hi3_l5 (hp9.2.2 (by omega)) _ (List.getElem_mem hx33_4); omega)
      refine av [] [] 7 (a := by exact fun _ hw2 => kixM hx33_7 ((NsP.mem hM33a 6 rfl).get hx33_4).1 (h0 := by (have h9 := hi3_l5 (hp9.2.2 (by omega)) _ (List.getElem_mem hx33_4); omega))) (b := ?_)
      refine aT [] [] 1 8 ?_ ?_
      · refine os 1 [2] [0, 1, 3, 4, 6, 7, 8] ?_
        refine aO [] [] 8 ?_
        refine ov 0 [] (a := kldM hx33_7 ((NsP.mem hM33a 6 rfl).get hx33_4).1) (b := ?_)
        refine os 0 [] [0, 1, 3, 4, 6, 7, 8] ?_
        refine aO [] [] 9 ?_
        refine Lt 0 [] (([(((Lv)[i]'hx33_4).k.l)[0]'hx33_7]).map I) (fun w33_9 b33_9 hb33_9 hM33_9 => ?_)
        refine os 0 [] [1, 2, 4, 5, 7, 8, 9] ?_
        refine aO [] [] 10 ?_
        refine aM 0 [] 6 (hM33_9.rd 0 rfl) (fun w33_10 A33_10 c33_10 hc33_10 hM33_10 => ?_) (hn := by first | omega | (simp only [List.length_append, List.length_cons, List.length_nil]; omega)) (hb := by first | omega | (simp only [List.length_append, List.length_cons, List.length_nil]; omega))
        refine os 0 [] [1, 2, 4, 5, 7, 8, 9] ?_
        refine aO [11] [] 12 ?_
        refine Sb 0 [] 3 fun w33_12 hM33_12 => ?_
        refine os 0 [] [1, 2, 4, 5, 7, 8, 9] ?_
        refine an [] [] ?_
        refine ov 2 [] (a := kaddN (i + 1)) (b := ?_)
        have hq35 : (kb ++ [(((Lv)[i]'hx33_4).k.l)[0]'hx33_7] : List Int) = (kb ++ [(((Lv)[i]'hx33_4).k.l)[0]'hx33_7]) := (by first | rfl | simp | (simp; omega))
        have hMn35 := hM33_12.reM 6 hq35
        exact le13 2 [] (i + 1) ka2 ca2 (kb ++ [(((Lv)[i]'hx33_4).k.l)[0]'hx33_7]) cb2 B3 d3 B4 d4 A33_10 c33_10 B6 d6 [3, 4, 6, 1, 5, 2, 7, 8, 9] (h := by exact ⟨(by (try dsimp only); omega), (by (try dsimp only); first | (simp only [List.length_append, List.length_cons, List.length_nil]; omega) | omega), hi1_c102, hi2_c102⟩)
      refine ov 0 [] (a := kldM hx33_7 ((NsP.mem hM33a 6 rfl).get hx33_4).1) (b := ?_)
      refine os 0 [] [0, 1, 3, 4, 6, 7, 8] ?_
      refine aT [] [] 1 9 ?_ ?_
      · refine os 1 [2] [0, 1, 3, 4, 6, 7, 8] ?_
        refine aO [] [] 9 ?_
        refine Lt 0 [] (([(((Lv)[i]'hx33_4).k.l)[0]'hx33_7]).map I) (fun w33_9 b33_9 hb33_9 hM33_9 => ?_)
        refine os 0 [] [1, 2, 4, 5, 7, 8, 9] ?_
        refine aO [] [] 10 ?_
        refine aM 0 [] 6 (hM33_9.rd 0 rfl) (fun w33_10 A33_10 c33_10 hc33_10 hM33_10 => ?_) (hn := by first | omega | (simp only [List.length_append, List.length_cons, List.length_nil]; omega)) (hb := by first | omega | (simp only [List.length_append, List.length_cons, List.length_nil]; omega))
        refine os 0 [] [1, 2, 4, 5, 7, 8, 9] ?_
        refine aO [11] [] 12 ?_
        refine Sb 0 [] 3 fun w33_12 hM33_12 => ?_
        refine os 0 [] [1, 2, 4, 5, 7, 8, 9] ?_
        refine an [] [] ?_
        refine ov 2 [] (a := kaddN (i + 1)) (b := ?_)
        have hq36 : (kb ++ [(((Lv)[i]'hx33_4).k.l)[0]'hx33_7] : List Int) = (kb ++ [(((Lv)[i]'hx33_4).k.l)[0]'hx33_7]) := (by first | rfl | simp | (simp; omega))
        have hMn36 := hM33_12.reM 6 hq36
        exact le13 2 [] (i + 1) ka2 ca2 (kb ++ [(((Lv)[i]'hx33_4).k.l)[0]'hx33_7]) cb2 B3 d3 B4 d4 A33_10 c33_10 B6 d6 [3, 4, 6, 1, 5, 2, 7, 8, 9] (h := by exact ⟨(by (try dsimp only); omega), (by (try dsimp only); first | (simp only [List.length_append, List.length_cons, List.length_nil]; omega) | omega), hi1_c102, hi2_c102⟩)
      refine Lt 0 [] (([(((Lv)[i]'hx33_4).k.l)[0]'hx33_7]).map I) (fun w33_9 b33_9 hb33_9 hM33_9 => ?_)
      refine os 0 [] [1, 2, 4, 5, 7, 8, 9] ?_
      refine aO [] [] 1 ?_
      refine os 1 [3] [1, 2, 4, 5, 7, 8, 9] ?_
      refine aO [] [] 10 ?_
      refine aM 0 [] 6 (hM33_9.rd 0 rfl) (fun w33_10 A33_10 c33_10 hc33_10 hM33_10 => ?_) (hn := by first | omega | (simp only [List.length_append, List.length_cons, List.length_nil]; omega)) (hb := by first | omega | (simp only [List.length_append, List.length_cons, List.length_nil]; omega))
      refine os 0 [] [1, 2, 4, 5, 7, 8, 9] ?_
      refine aO [11] [] 12 ?_
      refine Sb 0 [] 3 fun w33_12 hM33_12 => ?_
      refine os 0 [] [1, 2, 4, 5, 7, 8, 9] ?_
      refine an [] [] ?_
      refine ov 2 [] (a := kaddN (i + 1)) (b := ?_)
      have hq37 : (kb ++ [(((Lv)[i]'hx33_4).k.l)[0]'hx33_7] : List Int) = (kb ++ [(((Lv)[i]'hx33_4).k.l)[0]'hx33_7]) := (by first | rfl | simp | (simp; omega))
      have hMn37 := hM33_12.reM 6 hq37
      exact le13 2 [] (i + 1) ka2 ca2 (kb ++ [(((Lv)[i]'hx33_4).k.l)[0]'hx33_7]) cb2 B3 d3 B4 d4 A33_10 c33_10 B6 d6 [3, 4, 6, 1, 5, 2, 7, 8, 9] (h := by exact ⟨(by (try dsimp only); omega), (by (try dsimp only); first | (simp only [List.length_append, List.length_cons, List.length_nil]; omega) | omega), hi1_c102, hi2_c102⟩)
    refine ov 3 [] (a := kaddN (i + 1)) (b := ?_)
    exact le13 2 [] (i + 1) ka2 ca2 kb cb2 B3 d3 B4 d4 A5 c5 B6 d6 [2, 3, 5, 0, 4, 1, 6, 7, 8] (h := by exact ⟨(by (try dsimp only); omega), (by (try dsimp only); first | (simp only [List.length_append, List.length_cons, List.length_nil]; omega) | omega), hi1_c102, hi2_c102⟩)
  have hx34_2 : 3 < (Lv).length := (by omega)
  refine ov 5 [] (a := kixF hx34_2 (hM_l25.rd 7 rfl) (h0 := by omega)) (b := ?_)
  refine ov 0 [] (a := kflF hx34_2 (hM_l25.rd 7 rfl)) (b := ?_)
  refine ov 0 [] (a := kldF hx34_2 (hM_l25.rd 7 rfl)) (b := ?_)
  have hx34_5 : 0 < (((Lv)[3]'hx34_2).k.l).length := (by have h9 := hi3_l5 (hp9.2.2 (by omega)) _ (List.getElem_mem hx34_2); omega)
  refine ov 0 [] (a := kixM hx34_5 ((NsP.mem hM_l25 6 rfl).get hx34_2).1 (h0 := by (have h9 := hi3_l5 (hp9.2.2 (by omega)) _ (List.getElem_mem hx34_2); omega))) (b := ?_)
  refine ov 0 [] (a := kldM hx34_5 ((NsP.mem hM_l25 6 rfl).get hx34_2).1) (b := ?_)
  refine Lt 0 [] (([(((Lv)[3]'hx34_2).k.l)[0]'hx34_5]).map I) (fun w34_7 b34_7 hb34_7 hM34_7 => ?_)
  refine ov 1 [] (a := kadd) (b := ?_)
  refine Lt 0 [] (([1, (2 + 3)]).map I) (fun w34_10 b34_10 hb34_10 hM34_10 => ?_)
  refine Al 1 [] fun w34_12 b34_12 hb34_12 hM34_12 => ?_
  refine Sb 0 [] 0 fun w34_13 hM34_13 => ?_
  refine any 2 [] 6 [0, 1, 2, 3, 4, 5, 6, 7, 8, 9, 10, 11] fun w35a hM35a => ?_
  refine aO [0, 2] [0, 6] 1 ?_
  refine cq 0 [] (b := innerOf_fn (bl b34_7) 1 ([(((Lv)[3]'hx34_2).k.l)[0]'hx34_5]) (bl b34_10) 2 [1, (2 + 3)] w35a (hM35a.rd 2 rfl) (hM35a.rd 1 rfl)) (c := ?_)
  rintro _ w35_1 ⟨A135_1, c135_1, rfl, hR35_1⟩
  have hM35_1 := hM35a.cl 0 hR35_1
  have hcr35_1_0 := (hM35_1.cap 0 rfl).1
  refine os 0 [] [1, 2, 3, 4, 5, 6, 7, 8, 9, 10, 11, 12] ?_
  refine aO [] [] 3 ?_
  refine cq 0 [] (b := innerOf_fn A3 c3 ka A4 c4 ca w35_1 (hM35_1.rd 9 rfl) (hM35_1.rd 8 rfl)) (c := ?_)
  rintro _ w35_3 ⟨A135_3, c135_3, rfl, hR35_3⟩
  have hM35_3 := hM35_1.cl 0 hR35_3
  have hcr35_3_0 := (hM35_3.cap 0 rfl).1
  refine os 0 [] [2, 3, 4, 5, 6, 7, 8, 9, 10, 11, 12, 13] ?_
  refine aO [] [] 4 ?_
  let p2_ : PgL := (⟨⟨bl b34_7, 1, [(((Lv)[3]'hx34_2).k.l)[0]'hx34_5]⟩, ⟨bl b34_10, 2, [1, (2 + 3)]⟩, ⟨A135_1, c135_1, ([] : List Int)⟩⟩ : PgL)
  refine Lt 0 [] (([p2_, (⟨⟨A3, c3, ka⟩, ⟨A4, c4, ca⟩, ⟨A135_3, c135_3, ([] : List Int)⟩⟩ : PgL)]).flatMap encPg) (fun w35_4 b35_4 hb35_4 hM35_4 => ?_)
  refine os 0 [] [3, 4, 5, 6, 7, 8, 9, 10, 11, 12, 13, 14] ?_
  refine an [5] [] ?_
  have hMk38 := Mem.gnil (e := 3) hM35_4
  have hMk39 := Mem.gapp (k := ⟨bl b34_7, 1, [(((Lv)[3]'hx34_2).k.l)[0]'hx34_5]⟩) (c := ⟨bl b34_10, 2, [1, (2 + 3)]⟩) (v := ⟨A135_1, c135_1, ([] : List Int)⟩) (hMk38.pk [0, 6, 5, 3, 1, 2, 4, 7, 8, 9, 10, 11, 12, 13, 14, 15])
  have hMk40 := Mem.gnil (e := 3) hMk39
  have hMk41 := Mem.gapp (k := ⟨A3, c3, ka⟩) (c := ⟨A4, c4, ca⟩) (v := ⟨A135_3, c135_3, ([] : List Int)⟩) (hMk40.pk [0, 10, 9, 3, 1, 2, 4, 5, 6, 7, 8, 11, 12, 13])
  have hcp36_3 := hMk41.cap 9 rfl
  refine ov 5 [] (s := Vl (A2) (((Lv).take (3)).length) (c2)) (a := by exact cv (Ru.congr (v := .slice (A2) (3) (c2)) (v' := .slice (A2) (((Lv).take (3)).length) (c2)) (Ru.lsliceTo (h := 3) Tryd.underlying23 el39 rfl rfl (by omega) (by omega)) (sl_congr (by first | rfl | (simp; done) | omega | (simp; omega)))) rfl) (b := ?_)
  refine aF 0 [] 2 (rd_takeN encPg_len (hMk41.rd 9 rfl)) (fun w36_4 A36_4 c36_4 hc36_4 hM36_4 => ?_) (hn := by first | omega | (simp only [List.length_append, List.length_cons, List.length_nil, List.length_take, List.length_drop]; omega) | (simp; omega)) (hb := by first | omega | (simp only [List.length_append, List.length_cons, List.length_nil, List.length_take, List.length_drop]; omega) | (simp; omega))
  refine cq 6 [4] (b := innerOf_fn A5 c5 kb A6 c6 cb w36_4 (hM36_4.rd 6 rfl) (hM36_4.rd 5 rfl)) (c := ?_)
  rintro _ w37_2 ⟨A137_2, c137_2, rfl, hR37_2⟩
  have hM37_2 := hM36_4.cl 0 hR37_2
  have hcr37_2_0 := (hM37_2.cap 0 rfl).1
  refine Lt 0 [] (([(⟨⟨A5, c5, kb⟩, ⟨A6, c6, cb⟩, ⟨A137_2, c137_2, ([] : List Int)⟩⟩ : PgL)]).flatMap encPg) (fun w37_3 b37_3 hb37_3 hM37_3 => ?_)
  refine aF 0 [] 4 (hM37_3.rd 0 rfl) (fun w37_4 A37_4 c37_4 hc37_4 hM37_4 => ?_) (hn := by first | omega | (simp only [List.length_append, List.length_cons, List.length_nil, List.length_take, List.length_drop]; omega) | (simp; omega)) (hb := by first | omega | (simp only [List.length_append, List.length_cons, List.length_nil, List.length_take, List.length_drop]; omega) | (simp; omega))
  have hMk42 := Mem.gnil (e := 3) hM37_4
  have hMk43 := Mem.gapp (k := ⟨A5, c5, kb⟩) (c := ⟨A6, c6, cb⟩) (v := ⟨A137_2, c137_2, ([] : List Int)⟩) (hMk42.pk [0, 9, 8, 2, 1, 3, 4, 5, 6, 7, 10, 11, 12, 13])
  have hcp38_3 := hMk43.cap 9 rfl
  refine ov 7 [] (s := Vl (if c2 = 3 then A2 else ofs (A2) (3 * 3)) (((Lv).drop (3)).length) (c2 - 3)) (a := by exact cv (Ru.congr (v := .slice (if c2 = 3 then A2 else ofs (A2) (3 * 3)) (((Lv).length) - 3) (c2 - 3)) (v' := .slice (if c2 = 3 then A2 else ofs (A2) (3 * 3)) (((Lv).drop (3)).length) (c2 - 3)) (Ru.lsliceFrom (l := 3) Tryd.underlying23 el39 rfl rfl (by omega) (by omega)) (sl_congr (by first | rfl | (simp; done) | omega | (simp; omega)))) rfl) (b := ?_)
  refine aF 0 [] 4 (rd_dropN (k := 3) (c := c2) encPg_len (hMk43.rd 9 rfl) q2 q2) (fun w38_4 A38_4 c38_4 hc38_4 hM38_4 => ?_) (hn := by first | omega | (simp only [List.length_append, List.length_cons, List.length_nil, List.length_take, List.length_drop]; omega) | (simp; omega)) (hb := by first | omega | (simp only [List.length_append, List.length_cons, List.length_nil, List.length_take, List.length_drop]; omega) | (simp; omega))
  refine Sb 1 [] 10 fun w38_6 hM38_6 => ?_
  have hMk44 := Mem.gsplit 3 (hM38_6.pk [8, 0, 1, 2, 3, 4, 5, 6, 7, 9, 10])
  have hMk45 := Mem.gcat (hMk44.pk [5, 4, 0, 1, 2, 3, 6, 7, 8, 9, 10, 11])
  have hMk46 := Mem.gcat (hMk45.pk [0, 1, 2, 3, 4, 5, 6, 7, 8, 9, 10])
  have hMk47 := Mem.gcat (hMk46.pk [0, 2, 1, 3, 4, 5, 6, 7, 8, 9])
  have hMk48 := Mem.gcat (hMk47.pk [0, 1, 2, 3, 4, 5, 6, 7, 8])
  have hMn49 := hMk48.reK 0 (show (([] : List PgL) ++ [p2_] ++ (([] : List PgL) ++ [(⟨⟨A3, c3, ka⟩, ⟨A4, c4, ca⟩, ⟨A135_3, c135_3, ([] : List Int)⟩⟩ : PgL)]) ++ ((Lv).take 3) ++ (([] : List PgL) ++ [(⟨⟨A5, c5, kb⟩, ⟨A6, c6, cb⟩, ⟨A137_2, c137_2, ([] : List Int)⟩⟩ : PgL)]) ++ ((Lv).drop 3) : List PgL) = [p2_, (⟨⟨A3, c3, ka⟩, ⟨A4, c4, ca⟩, ⟨A135_3, c135_3, ([] : List Int)⟩⟩ : PgL)] ++ (Lv).take (3) ++ [(⟨⟨A5, c5, kb⟩, ⟨A6, c6, cb⟩, ⟨A137_2, c137_2, ([] : List Int)⟩⟩ : PgL)] ++ (Lv).drop (3) from (by simp))
  refine EG 2 [] ?_
  refine PG (vs := [.agg #[I (0), .slice (A38_4) (([p2_, (⟨⟨A3, c3, ka⟩, ⟨A4, c4, ca⟩, ⟨A135_3, c135_3, ([] : List Int)⟩⟩ : PgL)] ++ (Lv).take (3) ++ [(⟨⟨A5, c5, kb⟩, ⟨A6, c6, cb⟩, ⟨A137_2, c137_2, ([] : List Int)⟩⟩ : PgL)] ++ (Lv).drop (3)).length) (c38_4)]]) (ResV.cell (l := [I (0), .slice (A38_4) (([p2_, (⟨⟨A3, c3, ka⟩, ⟨A4, c4, ca⟩, ⟨A135_3, c135_3, ([] : List Int)⟩⟩ : PgL)] ++ (Lv).take (3) ++ [(⟨⟨A5, c5, kb⟩, ⟨A6, c6, cb⟩, ⟨A137_2, c137_2, ([] : List Int)⟩⟩ : PgL)] ++ (Lv).drop (3)).length) (c38_4)]) rfl (mem_blk (i := 7) (j := 0) hMn49 rfl rfl) el25 rfl ResV.nil) ?_
  have hq50 : ([p2_, (⟨⟨A3, c3, ka⟩, ⟨A4, c4, ca⟩, ⟨A135_3, c135_3, ([] : List Int)⟩⟩ : PgL)] ++ (Lv).take (3) ++ [(⟨⟨A5, c5, kb⟩, ⟨A6, c6, cb⟩, ⟨A137_2, c137_2, ([] : List Int)⟩⟩ : PgL)] ++ (Lv).drop (3) : List PgL) = ([p2_, (⟨⟨A3, c3, ka⟩, ⟨A4, c4, ca⟩, ⟨A135_3, c135_3, ([] : List Int)⟩⟩ : PgL)] ++ (Lv).take (3) ++ [(⟨⟨A5, c5, kb⟩, ⟨A6, c6, cb⟩, ⟨A137_2, c137_2, ([] : List Int)⟩⟩ : PgL)] ++ (Lv).drop (3)) := (by first | rfl | simp | (simp; omega))
  have hMn50 := hMn49.reF 2 hq50
  exact ⟨[p2_, (⟨⟨A3, c3, ka⟩, ⟨A4, c4, ca⟩, ⟨A135_3, c135_3, ([] : List Int)⟩⟩ : PgL)] ++ (Lv).take (3) ++ [(⟨⟨A5, c5, kb⟩, ⟨A6, c6, cb⟩, ⟨A137_2, c137_2, ([] : List Int)⟩⟩ : PgL)] ++ (Lv).drop (3), A38_4, c38_4, (by first | rfl | exact sl_congr (by first | omega | (simp; done) | (simp; omega)) | (simp; done)), (by have h9 := wk_load3 (X := p2_) (Y := (⟨⟨A3, c3, ka⟩, ⟨A4, c4, ca⟩, ⟨A135_3, c135_3, ([] : List Int)⟩⟩ : PgL)) (Z := (⟨⟨A5, c5, kb⟩, ⟨A6, c6, cb⟩, ⟨A137_2, c137_2, ([] : List Int)⟩⟩ : PgL)) hi2_l5 (by omega) ⟨rfl, rfl, rfl⟩ ⟨(by show (ka).length ≤ 5; omega), (by show (ca).length ≤ 6; omega), rfl, (by show 1 ≤ (ca).length; omega), (by intro x hx; have := hi2_l25 x hx; omega)⟩ ⟨(by show (kb).length ≤ 5; omega), (by show (cb).length ≤ 6; omega), rfl, (by show 1 ≤ (cb).length; omega), (by intro x hx; have := hi3_l25 x hx; omega)⟩; simpa using h9), (by simp; omega), (hMn50.pk [2, 0])⟩
end Go.Proofs.YtemejgglbhjodaaDoor
end
section
namespace Go.Proofs.YtemejgglbhjodaaDoor
open Go.Px
theorem goodRow2_fn (gr : Nat) (rA : Option Addr) (rc : Nat) (rl : List UInt8) (rq : Nat) (w : World) (hrA : Rd w rA (rl.map byteV)) (hro : Off rA (rl.map byteV) [some gr]) (hrl : rl.length ≤ 2000) (hM : Mem w w [some gr] [[⟨.slice (bl gr) 1 1, 73, 2, 1, [.slice (rA) ((rl).length) (rc), I (((rq : Nat) : Int))]⟩]]) (hrq : rq ≤ 999999000) :
    Does Tryd.prog 60 [.pointer (ofs (bl gr) (0))] w (fun v w1 => ∃ (l1 : List PairT) (A1 : Option Addr) (c1 : Nat) (q1 : Nat), v = .slice (A1) ((l1).length) (c1) ∧ (l1.length ≤ 24) ∧ (q1 ≤ rq + 200) ∧ Mem w w1 [some gr] [[⟨.slice (bl gr) 1 1, 73, 2, 1, [.slice (rA) ((rl).length) (rc), I (((q1 : Nat) : Int))]⟩], [⟨.slice (A1) ((l1).length) (c1), 57, 2, ((l1).length), (l1).flatMap encP⟩]]) := by
  refine Does.n1 Tryd.func60 rfl Tryd.results60 Tryd.ntmps60 rfl ?_
  refine Lt 6 [] (([]).flatMap encP) (fun w1_0 b1_0 hb1_0 hM1_0 => ?_)
  refine Lt 6 [] (([6, 9, 13, 4, 20, 24, 1, 0]).map I) (fun w2_1 b2_1 hb2_1 hM2_1 => ?_)
  have hMf2_2 := hM2_1.pk [2, 0, 1]
  refine cq 0 [] (vs := [.pointer (ofs (bl gr) (0)), .slice (bl b2_1) (([6, 9, 13, 4, 20, 24, 1, 0]).length) (8)]) (hvs := (by first | rfl | (rw [show ([6, 9, 13, 4, 20, 24, 1, 0]).length = 8 from (by first | rfl | (simp; done) | omega | (simp; omega))]; rfl))) (b := one_fn gr rA rc rl rq (bl b2_1) 8 [6, 9, 13, 4, 20, 24, 1, 0] w2_1 (hrA.atR hMf2_2 hro) hro hrl (hMf2_2.rd 1 rfl) (Off.of_ng (hMf2_2.ng 1 0 (by decide) rfl rfl)) (hMf2_2.fp [0] rfl rfl) q0 (by simp) (by simp)) (c := ?_)
  rintro _ w2_2 ⟨k2_2, rfl, hk2_2, hR2_2⟩
  have hM2_2 := hMf2_2.cl 1 hR2_2
  have hk0 := (by decide : ∀ k ∈ ([6, 9, 13, 4, 20, 24, 1, 0] : List Int), 0 ≤ k ∧ k ≤ 24) _ hk2_2
  have hq1 : ([] : List PairT) = ([] : List PairT) := (by first | rfl | simp | (simp; omega))
  have hMn1 := hM2_2.reF 2 hq1 (f := encP)
  refine lp5 3 [] (fun (k : Int) (L : List PairT) (A2 : Option Addr) (c2 : Nat) (q : Nat) => ([(3, Vl (A2) ((L).length) (c2)), (4, Vi (k))] : List (Nat × SV))) (fun (k : Int) (L : List PairT) (A2 : Option Addr) (c2 : Nat) (q : Nat) => (0 ≤ k ∧ k ≤ 24) ∧ (q + 2 * k ≤ rq + 49) ∧ (L.length ≤ 24) ∧ (asc (keysP L) = true)) (fun (k : Int) (L : List PairT) (A2 : Option Addr) (c2 : Nat) (q : Nat) => [[⟨.slice (bl gr) 1 1, 73, 2, 1, [.slice (rA) ((rl).length) (rc), I (((q : Nat) : Int))]⟩], [⟨.slice (A2) ((L).length) (c2), 57, 2, ((L).length), (L).flatMap encP⟩]]) (fun (k : Int) (L : List PairT) (A2 : Option Addr) (c2 : Nat) (q : Nat) => k.toNat) [0] [0, 2] [1] k2_2 (([] : List PairT) : List PairT) (bl b1_0) 0 (rq + 1) (fun k L A2 c2 q σ w_l3 hI hM_l3 => ?_) (h0 := ⟨(by (try dsimp only); first | omega | (simp; omega)), (by (try dsimp only); first | omega | (simp; omega)), (by (try dsimp only); simp), (by (try dsimp only); rfl)⟩)
  obtain ⟨hi0_l3, hi1_l3, hi2_l3, hi3_l3⟩ := hI
  have hcl1_l3 := (hM_l3.cap 1 rfl).1
  have hcl2_l3 := (hM_l3.cap 2 rfl).1
  obtain ⟨hk1, hk2⟩ := hi0_l3
  refine cd 6 [] (fun c11 => ?_) (fun c11 => ?_)
  · refine cq 6 [] (b := pick_fn gr rA rc rl q _ w_l3 (hrA.atR hM_l3 hro) hro hrl (hM_l3.fp [0] rfl rfl) q0) (c := ?_)
    rintro _ w5_1 ⟨k5_1, rfl, hk5_1, hR5_1⟩
    have hM5_1 := hM_l3.cl 1 hR5_1
    refine cq 1 [] (b := pick_fn gr rA rc rl (q + 1) _ w5_1 (hrA.atR hM5_1 hro) hro hrl (hM5_1.fp [0] rfl rfl) q0) (c := ?_)
    rintro _ w5_3 ⟨k5_3, rfl, hk5_3, hR5_3⟩
    have hM5_3 := hM5_1.cl 1 hR5_3
    refine ov 0 [] (a := ksub) (b := ?_)
    refine Al 1 [] fun w5_6 b5_6 hb5_6 hM5_6 => ?_
    refine Sb 0 [] 0 fun w5_7 hM5_7 => ?_
    refine cq 5 [0] (b := sput_fn _ _ _ (⟨k5_1, (k5_3 - 100)⟩ : PairT) w5_7 (hM5_7.rd 2 rfl) qo (by exact hi3_l3) qo) (c := ?_)
    rintro _ w6_2 ⟨A16_2, c16_2, rfl, hR6_2⟩
    have hM6_2 := hM5_7.cl 0 hR6_2
    have hcr6_2_0 := (hM6_2.cap 0 rfl).1
    refine cd 3 [] (fun c24 => ?_) (fun c24 => ?_)
    · refine cq 3 [1] (b := sput_fn _ _ _ (⟨k5_1, (k5_3 - 100)⟩ : PairT) w6_2 (hM6_2.rd 3 rfl) qo (by exact hi3_l3) qo) (c := ?_)
      rintro _ w7_2 ⟨A17_2, c17_2, rfl, hR7_2⟩
      have hM7_2 := hM6_2.cl 0 hR7_2
      have hcr7_2_0 := (hM7_2.cap 0 rfl).1
      refine ov 4 [] (a := ksub) (b := ?_)
      have hq2 : (putP L (⟨k5_1, (k5_3 - 100)⟩ : PairT) : List PairT) = (putP L (⟨k5_1, (k5_3 - 100)⟩ : PairT)) := (by first | rfl | simp | (simp; omega))
      have hMn2 := hM7_2.reF 0 hq2
      exact le5 2 [] (k - 1) (putP L (⟨k5_1, (k5_3 - 100)⟩ : PairT)) A17_2 c17_2 ((q + 1) + 1) [3, 0, 5] (h := by exact ⟨(by (try dsimp only); omega), (by (try dsimp only); omega), (by (try dsimp only); first | omega | (simp; omega) | (have h9 := put_len (l := L) (x := ⟨k5_2, k5_4⟩); omega)), (by (try dsimp only); first | exact hi3_l3 | exact put_keys_pair hi3_l3 _)⟩)
    refine ov 3 [] (a := ksub) (b := ?_)
    exact le5 2 [] (k - 1) L A2 c2 ((q + 1) + 1) [2, 3, 4] (h := by exact ⟨(by (try dsimp only); omega), (by (try dsimp only); omega), (by (try dsimp only); first | omega | (simp; omega) | (have h9 := put_len (l := L) (x := ⟨k5_2, k5_4⟩); omega)), (by (try dsimp only); first | exact hi3_l3 | exact put_keys_pair hi3_l3 _)⟩)
  refine E1 7 [] (.slice (A2) ((L).length) (c2)) ?_
  have hZ := (hM_l3.pk [0, 1])
  exact ⟨L, A2, c2, _, (by first | rfl | exact sl_congr (by first | omega | (simp; done) | (simp; omega)) | (simp; done)), (by omega), (by omega), hZ⟩
set_option maxHeartbeats 4000000 in
theorem goodTree_fn (gr : Nat) (rA : Option Addr) (rc : Nat) (rl : List UInt8) (rq : Nat) (w : World) (hrA : Rd w rA (rl.map byteV)) (hro : Off rA (rl.map byteV) [some gr]) (hrl : rl.length ≤ 2000) (hM : Mem w w [some gr] [[⟨.slice (bl gr) 1 1, 73, 2, 1, [.slice (rA) ((rl).length) (rc), I (((rq : Nat) : Int))]⟩]]) (hrq : rq ≤ 999998000) :
    Does Tryd.prog 36 [.pointer (ofs (bl gr) (0))] w (fun v w1 => ∃ (r1 : Int) (L1 : List PgL) (A1 : Option Addr) (c1 : Nat) (q1 : Nat), v = .agg #[I (r1), .slice (A1) ((L1).length) (c1)] ∧ (WK ⟨r1, tsG L1⟩) ∧ (q1 ≤ rq + 250) ∧ Mem w w1 [some gr] [[⟨.slice (bl gr) 1 1, 73, 2, 1, [.slice (rA) ((rl).length) (rc), I (((q1 : Nat) : Int))]⟩], [⟨.slice (A1) ((L1).length) (c1), 39, 3, ((L1).length), (L1).flatMap encPg⟩], (L1).flatMap (pgF 3)]) := by
  refine Does.nG (rs := [.cell 2 25]) Tryd.func36 rfl Tryd.results36 Tryd.ntmps36 rfl ?_
  refine Al 2 [] fun w0_0 b0_0 hb0_0 hM0_0 => ?_
  have hMf1_1 := hM0_0.pk [1, 0]
  refine cq 4 [] (b := goodRow2_fn gr rA rc rl rq w0_0 (hrA.atR hMf1_1 hro) hro hrl (hMf1_1.fp [0] rfl rfl) q0) (c := ?_)
  rintro _ w1_1 ⟨l11_1, A11_1, c11_1, q11_1, rfl, hl1_1, hq1_1, hR1_1⟩
  have hM1_1 := hMf1_1.cl 1 hR1_1
  have hcr1_1_1 := (hM1_1.cap 1 rfl).1
  refine cq 0 [] (b := load_fn _ _ _ w1_1 (hM1_1.rd 1 rfl) qo (by exact hl1_1) qo) (c := ?_)
  rintro _ w1_2 ⟨L11_2, A11_2, c11_2, rfl, hwk1_2, hll1_2, hR1_2⟩
  have hM1_2 := hM1_1.cl 0 hR1_2
  have hcr1_2_0 := (hM1_2.cap 0 rfl).1
  refine Al 0 [] fun w1_3 b1_3 hb1_3 hM1_3 => ?_
  refine Sb 0 [] 0 fun w1_4 hM1_4 => ?_
  refine Lt 5 [] (([3, 6, 0, 10]).map I) (fun w2_1 b2_1 hb2_1 hM2_1 => ?_)
  have hMf2_2 := hM2_1.pk [4, 0, 1, 2, 3, 5, 6]
  refine cq 0 [] (vs := [.pointer (ofs (bl gr) (0)), .slice (bl b2_1) (([3, 6, 0, 10]).length) (4)]) (hvs := (by first | rfl | (rw [show ([3, 6, 0, 10]).length = 4 from (by first | rfl | (simp; done) | omega | (simp; omega))]; rfl))) (b := one_fn gr rA rc rl q11_1 (bl b2_1) 4 [3, 6, 0, 10] w2_1 (hrA.atR hMf2_2 hro) hro hrl (hMf2_2.rd 1 rfl) (Off.of_ng (hMf2_2.ng 1 0 (by decide) rfl rfl)) (hMf2_2.fp [0] rfl rfl) q0 (by simp) (by simp)) (c := ?_)
  rintro _ w2_2 ⟨k2_2, rfl, hk2_2, hR2_2⟩
  have hM2_2 := hMf2_2.cl 1 hR2_2
  have hk0 := (by decide : ∀ k ∈ ([3, 6, 0, 10] : List Int), 0 ≤ k ∧ k ≤ 10) _ hk2_2
  refine lp6 3 [] (fun (k : Int) (r9 : Int) (Lx : List PgL) (A2 : Option Addr) (c2 : Nat) (q : Nat) => ([(4, Vi (k))] : List (Nat × SV))) (fun (k : Int) (r9 : Int) (Lx : List PgL) (A2 : Option Addr) (c2 : Nat) (q : Nat) => (0 ≤ k ∧ k ≤ 10) ∧ (q + 4 * k ≤ rq + 241) ∧ (WK ⟨r9, tsG Lx⟩)) (fun (k : Int) (r9 : Int) (Lx : List PgL) (A2 : Option Addr) (c2 : Nat) (q : Nat) => [[⟨.slice (bl gr) 1 1, 73, 2, 1, [.slice (rA) ((rl).length) (rc), I (((q : Nat) : Int))]⟩], [⟨.slice (bl b1_3) 1 1, 25, 2, 1, [I (r9), .slice (A2) ((Lx).length) (c2)]⟩], [⟨.slice (A2) ((Lx).length) (c2), 39, 3, ((Lx).length), (Lx).flatMap encPg⟩], (Lx).flatMap (pgF 3)]) (fun (k : Int) (r9 : Int) (Lx : List PgL) (A2 : Option Addr) (c2 : Nat) (q : Nat) => k.toNat) [0, 2, 3] [0, 2, 3, 4] [1, 5, 6] k2_2 (0 : Int) L11_2 A11_2 c11_2 (q11_1 + 1) (fun k r9 Lx A2 c2 q σ w_l3 hI hM_l3 => ?_) (h0 := ⟨(by (try dsimp only); omega), (by (try dsimp only); omega), hwk1_2⟩)
  obtain ⟨hi0_l3, hi1_l3, hi2_l3⟩ := hI
  have hcl2_l3 := (hM_l3.cap 2 rfl).1
  have hcl4_l3 := (hM_l3.cap 4 rfl).1
  have hcl5_l3 := (hM_l3.cap 5 rfl).1
  obtain ⟨hk1, hk2⟩ := hi0_l3
  have hll9 := hi2_l3.2.1
  simp only [List.length_map] at hll9
  have hsz9 : SzT ⟨r9, A2, c2, Lx⟩ := sz_small hi2_l3.2.2 (by omega)
  refine cd 6 [] (fun c17 => ?_) (fun c17 => ?_)
  · refine ct5 1 [] (fun (r8 : Int) (L8 : List PgL) (A8 : Option Addr) (c8 : Nat) (q8 : Nat) => ([] : List (Nat × SV))) (fun (r8 : Int) (L8 : List PgL) (A8 : Option Addr) (c8 : Nat) (q8 : Nat) => (WK ⟨r8, tsG L8⟩) ∧ (q8 + 4 * (k - 1) ≤ rq + 241)) (fun (r8 : Int) (L8 : List PgL) (A8 : Option Addr) (c8 : Nat) (q8 : Nat) => [[⟨.slice (bl gr) 1 1, 73, 2, 1, [.slice (rA) ((rl).length) (rc), I (((q8 : Nat) : Int))]⟩], [⟨.slice (bl b1_3) 1 1, 25, 2, 1, [I (r8), .slice (A8) ((L8).length) (c8)]⟩], [⟨.slice (A8) ((L8).length) (c8), 39, 3, ((L8).length), (L8).flatMap encPg⟩], (L8).flatMap (pgF 3)]) [0, 2, 3, 4] [4, 5, 6] ?_ (fun r8 L8 A8 c8 q8 σ w_b1 hI hM_b1 => ?_)
    · refine ct7 1 [] (fun (bx5 : Nat) (rr5 : Int) (L5 : List PgL) (A50 : Option Addr) (c50 : Nat) (b5 : Bool) (q5 : Nat) => ([(5, Vp (bl bx5) (0)), (6, Vb (b5))] : List (Nat × SV))) (fun (bx5 : Nat) (rr5 : Int) (L5 : List PgL) (A50 : Option Addr) (c50 : Nat) (b5 : Bool) (q5 : Nat) => (b5 = true → WK ⟨rr5, tsG L5⟩) ∧ (q5 ≤ rq + 241 - 4 * k.toNat + 2)) (fun (bx5 : Nat) (rr5 : Int) (L5 : List PgL) (A50 : Option Addr) (c50 : Nat) (b5 : Bool) (q5 : Nat) => [[⟨.slice (bl gr) 1 1, 73, 2, 1, [.slice (rA) ((rl).length) (rc), I (((q5 : Nat) : Int))]⟩], [⟨.slice (bl bx5) 1 1, 25, 2, 1, [I (rr5), .slice (A50) ((L5).length) (c50)]⟩], [⟨.slice (A50) ((L5).length) (c50), 39, 3, ((L5).length), (L5).flatMap encPg⟩], (L5).flatMap (pgF 3)]) [0, 2, 3, 4] [1, 2, 3, 4, 5, 6] ?_ (fun bx5 rr5 L5 A50 c50 b5 q5 σ w_r5 hI hM_r5 => ?_)
      · refine any 0 [] 13 [1, 2, 3, 4, 5, 6] fun w5a hM5a => ?_
        refine aT [0, 1, 3] [0] 2 10 ?_ ?_
        · refine cq 0 [] (b := pick_fn gr rA rc rl q _ w5a (hrA.atR hM5a hro) hro hrl (hM5a.fp [0] rfl rfl) q0) (c := ?_)
          rintro _ w5_2 ⟨k5_2, rfl, hk5_2, hR5_2⟩
          have hM5_2 := hM5a.cl 1 hR5_2
          refine os 0 [] [1, 2, 3, 4, 5, 6] ?_
          refine aT [] [] 4 10 ?_ ?_
          · refine cq 0 [] (b := pick_fn gr rA rc rl (q + 1) _ w5_2 (hrA.atR hM5_2 hro) hro hrl (hM5_2.fp [0] rfl rfl) q0) (c := ?_)
            rintro _ w5_4 ⟨k5_4, rfl, hk5_4, hR5_4⟩
            have hM5_4 := hM5_2.cl 1 hR5_4
            refine os 0 [] [1, 2, 3, 4, 5, 6] ?_
            refine aT [5] [] 6 10 ?_ ?_
            · refine cq 0 [] (b := sPutKey_fn (⟨r9, A2, c2, Lx⟩ : TreeL) (⟨k5_2, k5_4⟩ : PairT) w5_4 ⟨(hM5_4.rd 2 rfl), (NsP.mem hM5_4 3 rfl)⟩ (by exact hsz9)) (c := ?_)
              rintro _ w5_6 ⟨r15_6, L15_6, A15_6, c15_6, rfl, hts5_6, hzs5_6, hll5_6, hR5_6⟩
              have hM5_6 := hM5_4.cl 0 hR5_6
              have hcr5_6_0 := (hM5_6.cap 0 rfl).1
              refine os 0 [] [3, 4, 5, 6, 7, 8] ?_
              refine aO [7, 8, 9] [] 10 ?_
              refine Al 0 [] fun w5_10 b5_10 hb5_10 hM5_10 => ?_
              refine os 0 [] [4, 5, 6, 7, 8, 9] ?_
              refine aO [] [] 11 ?_
              refine Sb 0 [] 0 fun w5_11 hM5_11 => ?_
              refine os 0 [] [4, 5, 6, 7, 8, 9] ?_
              refine an [12] [] ?_
              exact ce7 0 [] b5_10 r15_6 L15_6 A15_6 c15_6 (validT ((⟨r9, A2, c2, Lx⟩ : TreeL)).t && validR [(⟨k5_2, k5_4⟩ : PairT)] && validT (putF ((⟨r9, A2, c2, Lx⟩ : TreeL)).t (⟨k5_2, k5_4⟩ : PairT))) ((q + 1) + 1) [3, 0, 1, 2, 4, 5, 6, 7, 8, 9] (h := by exact ⟨(fun hb => by have h9 := hts5_6 hb; rw [h9]; exact valid_WK (by have h8 := hb; simp only [Bool.and_eq_true] at h8; exact h8.2)), (by (try dsimp only); omega)⟩)
            refine Al 0 [] fun w5_10 b5_10 hb5_10 hM5_10 => ?_
            refine os 0 [] [2, 3, 4, 5, 6, 7] ?_
            refine aO [] [] 6 ?_
            refine cq 0 [] (b := sPutKey_fn (⟨r9, A2, c2, Lx⟩ : TreeL) (⟨k5_2, k5_4⟩ : PairT) w5_10 ⟨(hM5_10.rd 3 rfl), (NsP.mem hM5_10 4 rfl)⟩ (by exact hsz9)) (c := ?_)
            rintro _ w5_6 ⟨r15_6, L15_6, A15_6, c15_6, rfl, hts5_6, hzs5_6, hll5_6, hR5_6⟩
            have hM5_6 := hM5_10.cl 0 hR5_6
            have hcr5_6_0 := (hM5_6.cap 0 rfl).1
            refine os 0 [] [4, 5, 6, 7, 8, 9] ?_
            refine aO [7, 8, 9] [] 11 ?_
            refine Sb 0 [] 2 fun w5_11 hM5_11 => ?_
            refine os 0 [] [4, 5, 6, 7, 8, 9] ?_
            refine an [12] [] ?_
            exact ce7 0 [] b5_10 r15_6 L15_6 A15_6 c15_6 (validT ((⟨r9, A2, c2, Lx⟩ : TreeL)).t && validR [(⟨k5_2, k5_4⟩ : PairT)] && validT (putF ((⟨r9, A2, c2, Lx⟩ : TreeL)).t (⟨k5_2, k5_4⟩ : PairT))) ((q + 1) + 1) [3, 2, 0, 1, 4, 5, 6, 7, 8, 9] (h := by exact ⟨(fun hb => by have h9 := hts5_6 hb; rw [h9]; exact valid_WK (by have h8 := hb; simp only [Bool.and_eq_true] at h8; exact h8.2)), (by (try dsimp only); omega)⟩)
          refine Al 0 [] fun w5_10 b5_10 hb5_10 hM5_10 => ?_
          refine os 0 [] [2, 3, 4, 5, 6, 7] ?_
          refine aO [] [] 4 ?_
          have hMf5_4 := hM5_10.pk [1, 0, 2, 3, 4, 5, 6, 7]
          refine cq 0 [] (b := pick_fn gr rA rc rl (q + 1) _ w5_10 (hrA.atR hMf5_4 hro) hro hrl (hMf5_4.fp [0] rfl rfl) q0) (c := ?_)
          rintro _ w5_4 ⟨k5_4, rfl, hk5_4, hR5_4⟩
          have hM5_4 := hMf5_4.cl 1 hR5_4
          refine os 0 [] [2, 3, 4, 5, 6, 7] ?_
          refine aO [5] [] 6 ?_
          refine cq 0 [] (b := sPutKey_fn (⟨r9, A2, c2, Lx⟩ : TreeL) (⟨k5_2, k5_4⟩ : PairT) w5_4 ⟨(hM5_4.rd 3 rfl), (NsP.mem hM5_4 4 rfl)⟩ (by exact hsz9)) (c := ?_)
          rintro _ w5_6 ⟨r15_6, L15_6, A15_6, c15_6, rfl, hts5_6, hzs5_6, hll5_6, hR5_6⟩
          have hM5_6 := hM5_4.cl 0 hR5_6
          have hcr5_6_0 := (hM5_6.cap 0 rfl).1
          refine os 0 [] [4, 5, 6, 7, 8, 9] ?_
          refine aO [7, 8, 9] [] 11 ?_
          refine Sb 0 [] 3 fun w5_11 hM5_11 => ?_
          refine os 0 [] [4, 5, 6, 7, 8, 9] ?_
          refine an [12] [] ?_
          exact ce7 0 [] b5_10 r15_6 L15_6 A15_6 c15_6 (validT ((⟨r9, A2, c2, Lx⟩ : TreeL)).t && validR [(⟨k5_2, k5_4⟩ : PairT)] && validT (putF ((⟨r9, A2, c2, Lx⟩ : TreeL)).t (⟨k5_2, k5_4⟩ : PairT))) ((q + 1) + 1) [2, 3, 0, 1, 4, 5, 6, 7, 8, 9] (h := by exact ⟨(fun hb => by have h9 := hts5_6 hb; rw [h9]; exact valid_WK (by have h8 := hb; simp only [Bool.and_eq_true] at h8; exact h8.2)), (by (try dsimp only); omega)⟩)
        refine Al 0 [] fun w5_10 b5_10 hb5_10 hM5_10 => ?_
        refine os 0 [] [2, 3, 4, 5, 6, 7] ?_
        refine aO [] [] 2 ?_
        have hMf5_2 := hM5_10.pk [1, 0, 2, 3, 4, 5, 6, 7]
        refine cq 0 [] (b := pick_fn gr rA rc rl q _ w5_10 (hrA.atR hMf5_2 hro) hro hrl (hMf5_2.fp [0] rfl rfl) q0) (c := ?_)
        rintro _ w5_2 ⟨k5_2, rfl, hk5_2, hR5_2⟩
        have hM5_2 := hMf5_2.cl 1 hR5_2
        refine os 0 [] [2, 3, 4, 5, 6, 7] ?_
        refine aO [] [] 4 ?_
        refine cq 0 [] (b := pick_fn gr rA rc rl (q + 1) _ w5_2 (hrA.atR hM5_2 hro) hro hrl (hM5_2.fp [0] rfl rfl) q0) (c := ?_)
        rintro _ w5_4 ⟨k5_4, rfl, hk5_4, hR5_4⟩
        have hM5_4 := hM5_2.cl 1 hR5_4
        refine os 0 [] [2, 3, 4, 5, 6, 7] ?_
        refine aO [5] [] 6 ?_
        refine cq 0 [] (b := sPutKey_fn (⟨r9, A2, c2, Lx⟩ : TreeL) (⟨k5_2, k5_4⟩ : PairT) w5_4 ⟨(hM5_4.rd 3 rfl), (NsP.mem hM5_4 4 rfl)⟩ (by exact hsz9)) (c := ?_)
        rintro _ w5_6 ⟨r15_6, L15_6, A15_6, c15_6, rfl, hts5_6, hzs5_6, hll5_6, hR5_6⟩
        have hM5_6 := hM5_4.cl 0 hR5_6
        have hcr5_6_0 := (hM5_6.cap 0 rfl).1
        refine os 0 [] [4, 5, 6, 7, 8, 9] ?_
        refine aO [7, 8, 9] [] 11 ?_
        refine Sb 0 [] 3 fun w5_11 hM5_11 => ?_
        refine os 0 [] [4, 5, 6, 7, 8, 9] ?_
        refine an [12] [] ?_
        exact ce7 0 [] b5_10 r15_6 L15_6 A15_6 c15_6 (validT ((⟨r9, A2, c2, Lx⟩ : TreeL)).t && validR [(⟨k5_2, k5_4⟩ : PairT)] && validT (putF ((⟨r9, A2, c2, Lx⟩ : TreeL)).t (⟨k5_2, k5_4⟩ : PairT))) ((q + 1) + 1) [2, 3, 0, 1, 4, 5, 6, 7, 8, 9] (h := by exact ⟨(fun hb => by have h9 := hts5_6 hb; rw [h9]; exact valid_WK (by have h8 := hb; simp only [Bool.and_eq_true] at h8; exact h8.2)), (by (try dsimp only); omega)⟩)
      obtain ⟨hi0_r5, hi1_r5⟩ := hI
      have hcl2_r5 := (hM_r5.cap 2 rfl).1
      have hcl5_r5 := (hM_r5.cap 5 rfl).1
      have hcl7_r5 := (hM_r5.cap 7 rfl).1
      have hcl8_r5 := (hM_r5.cap 8 rfl).1
      refine ct4 0 [] (fun (r6 : Int) (L6 : List PgL) (A6 : Option Addr) (c6 : Nat) => ([] : List (Nat × SV))) (fun (r6 : Int) (L6 : List PgL) (A6 : Option Addr) (c6 : Nat) => (WK ⟨r6, tsG L6⟩)) (fun (r6 : Int) (L6 : List PgL) (A6 : Option Addr) (c6 : Nat) => [[⟨.slice (bl b1_3) 1 1, 25, 2, 1, [I (r6), .slice (A6) ((L6).length) (c6)]⟩], [⟨.slice (A6) ((L6).length) (c6), 39, 3, ((L6).length), (L6).flatMap encPg⟩], (L6).flatMap (pgF 3)]) [0, 2, 3, 4] [0, 7, 8, 9] ?_ (fun r6 L6 A6 c6 σ w_c30 hI hM_c30 => ?_)
      · refine cb 4 [] (fun c30 => ?_) (fun c30 => ?_)
        · refine Sb 2 [1] 4 fun w7_1 hM7_1 => ?_
          have hMk6 := hM7_1.pk [0, 2, 3, 4, 7, 8, 9]
          exact ce4 1 [] rr5 L5 A50 c50 [3, 1, 2, 0, 4, 5, 6] (h := by exact (by (try dsimp only); first | exact hi0_r5 (by simpa using c30) | exact hi2_l3))
        have hMk8 := hM_r5.pk [0, 4, 5, 6, 7, 8, 9]
        exact ce4 1 [] r9 Lx A2 c2 [1, 2, 3, 0, 4, 5, 6] (h := by exact (by (try dsimp only); first | exact hi0_r5 (by simpa using c30) | exact hi2_l3))
      have hi0_c30 := hI
      have hcl1_c30 := (hM_c30.cap 1 rfl).1
      have hcl4_c30 := (hM_c30.cap 4 rfl).1
      have hcl5_c30 := (hM_c30.cap 5 rfl).1
      have hll6 := hi0_c30.2.1
      simp only [List.length_map] at hll6
      have hsz6 : SzT ⟨r6, A6, c6, L6⟩ := sz_small hi0_c30.2.2 (by omega)
      have hMf8_1 := hM_c30.pk [3, 0, 1, 2, 4, 5, 6]
      refine cq 3 [] (b := pick_fn gr rA rc rl q5 _ w_c30 (hrA.atR hMf8_1 hro) hro hrl (hMf8_1.fp [0] rfl rfl) q0) (c := ?_)
      rintro _ w8_1 ⟨k8_1, rfl, hk8_1, hR8_1⟩
      have hM8_1 := hMf8_1.cl 1 hR8_1
      refine cd 2 [] (fun c34 => ?_) (fun c34 => ?_)
      · have hsl6 := wk_len3 hi0_c30.2.2 hi0_c30.1 (by omega)
        have hpk6 : (pairsK (⟨r6, tsG L6⟩ : TrT)).length ≤ 1715 := by have h9 : (leavesK (⟨r6, tsG L6⟩ : TrT)).length ≤ 343 := Nat.le_trans leaf_len hsl6; have h8 := pairsOn_len (T := (⟨r6, tsG L6⟩ : TrT)) hi0_c30.2.2 (l := leavesK (⟨r6, tsG L6⟩ : TrT)) (fun x hx => (wk_mem hi0_c30.1 (List.mem_filter.1 hx).1).1); show (pairsOn _ _).length ≤ 1715; omega
        refine cq 3 [1] (b := pairsOf_fn (⟨r6, A6, c6, L6⟩ : TreeL) w8_1 ⟨(hM8_1.rd 2 rfl), (NsP.mem hM8_1 3 rfl)⟩ (by exact hsz6) (by exact hi0_c30)) (c := ?_)
        rintro _ w9_1 ⟨A19_1, c19_1, rfl, hR9_1⟩
        have hM9_1 := hM8_1.cl 0 hR9_1
        have hcr9_1_0 := (hM9_1.cap 0 rfl).1
        refine cq 0 [] (b := skeysOf_fn _ _ _ w9_1 (hM9_1.rd 0 rfl) (by exact Nat.le_trans hpk6 (by omega))) (c := ?_)
        rintro _ w9_2 ⟨A19_2, c19_2, rfl, hR9_2⟩
        have hM9_2 := hM9_1.cl 0 hR9_2
        have hcr9_2_0 := (hM9_2.cap 0 rfl).1
        refine cd 8 [] (fun c40 => ?_) (fun c40 => ?_)
        · refine ct7 0 [] (fun (bx8 : Nat) (rr8 : Int) (L8 : List PgL) (A80 : Option Addr) (c80 : Nat) (b8 : Bool) (q8 : Nat) => ([(8, Vp (bl bx8) (0)), (9, Vb (b8))] : List (Nat × SV))) (fun (bx8 : Nat) (rr8 : Int) (L8 : List PgL) (A80 : Option Addr) (c80 : Nat) (b8 : Bool) (q8 : Nat) => (b8 = true → WK ⟨rr8, tsG L8⟩) ∧ (q8 ≤ rq + 241 - 4 * k.toNat + 4)) (fun (bx8 : Nat) (rr8 : Int) (L8 : List PgL) (A80 : Option Addr) (c80 : Nat) (b8 : Bool) (q8 : Nat) => [[⟨.slice (bl gr) 1 1, 73, 2, 1, [.slice (rA) ((rl).length) (rc), I (((q8 : Nat) : Int))]⟩], [⟨.slice (bl bx8) 1 1, 25, 2, 1, [I (rr8), .slice (A80) ((L8).length) (c80)]⟩], [⟨.slice (A80) ((L8).length) (c80), 39, 3, ((L8).length), (L8).flatMap encPg⟩], (L8).flatMap (pgF 3)]) [0, 2, 3, 4] [0, 1, 3, 4, 5, 6, 7, 8] ?_ (fun bx8 rr8 L8 A80 c80 b8 q8 σ w_r11 hI hM_r11 => ?_)
          · refine any 0 [] 15 [0, 1, 3, 4, 5, 6, 7, 8] fun w11a hM11a => ?_
            refine aT [0, 1, 2, 3, 4] [2] 5 12 ?_ ?_
            · have hMf11_5 := hM11a.pk [2, 0, 1, 3, 4, 5, 6, 7, 8]
              refine cq 0 [] (b := pick_fn gr rA rc rl (q5 + 1) _ w11a (hrA.atR hMf11_5 hro) hro hrl (hMf11_5.fp [0] rfl rfl) q0) (c := ?_)
              rintro _ w11_5 ⟨k11_5, rfl, hk11_5, hR11_5⟩
              have hM11_5 := hMf11_5.cl 1 hR11_5
              refine os 0 [] [1, 2, 3, 4, 5, 6, 7, 8] ?_
              have hx11_6 : k11_5.toNat < (keysP (pairsK ((⟨r6, A6, c6, L6⟩ : TreeL)).t)).length := (by omega)
              refine av [] [] 6 (a := by exact fun _ hw2 => kixM hx11_6 (hM11_5.rd 1 rfl) (h0 := by omega)) (b := ?_)
              refine av [] [] 7 (a := by exact fun _ hw2 => kldM hx11_6 (hw2.rd 0 rfl)) (b := ?_)
              refine aT [] [] 8 12 ?_ ?_
              · refine cq 0 [] (b := sDropKey_fn (⟨r6, A6, c6, L6⟩ : TreeL) _ w11_5 ⟨(hM11_5.rd 4 rfl), (NsP.mem hM11_5 5 rfl)⟩ (by exact hsz6)) (c := ?_)
                rintro _ w11_8 ⟨r111_8, L111_8, A111_8, c111_8, rfl, hts11_8, hzs11_8, hll11_8, hR11_8⟩
                have hM11_8 := hM11_5.cl 0 hR11_8
                have hcr11_8_0 := (hM11_8.cap 0 rfl).1
                refine os 0 [] [3, 4, 5, 6, 7, 8, 9, 10] ?_
                refine aO [9, 10, 11] [] 12 ?_
                refine Al 0 [] fun w11_12 b11_12 hb11_12 hM11_12 => ?_
                refine os 0 [] [4, 5, 6, 7, 8, 9, 10, 11] ?_
                refine aO [] [] 13 ?_
                refine Sb 0 [] 0 fun w11_13 hM11_13 => ?_
                refine os 0 [] [4, 5, 6, 7, 8, 9, 10, 11] ?_
                refine an [14] [] ?_
                exact ce7 0 [] b11_12 r111_8 L111_8 A111_8 c111_8 (validT ((⟨r6, A6, c6, L6⟩ : TreeL)).t && isInB (pairsK ((⟨r6, A6, c6, L6⟩ : TreeL)).t) ((keysP (pairsK ((⟨r6, A6, c6, L6⟩ : TreeL)).t))[k11_5.toNat]'hx11_6)) ((q5 + 1) + 1) [3, 0, 1, 2, 4, 5, 6, 7, 8, 9, 10, 11] (h := by exact ⟨(fun hb => (hts11_8 hb).2), (by (try dsimp only); omega)⟩)
              refine Al 0 [] fun w11_12 b11_12 hb11_12 hM11_12 => ?_
              refine os 0 [] [2, 3, 4, 5, 6, 7, 8, 9] ?_
              refine aO [] [] 8 ?_
              refine cq 0 [] (b := sDropKey_fn (⟨r6, A6, c6, L6⟩ : TreeL) _ w11_12 ⟨(hM11_12.rd 5 rfl), (NsP.mem hM11_12 6 rfl)⟩ (by exact hsz6)) (c := ?_)
              rintro _ w11_8 ⟨r111_8, L111_8, A111_8, c111_8, rfl, hts11_8, hzs11_8, hll11_8, hR11_8⟩
              have hM11_8 := hM11_12.cl 0 hR11_8
              have hcr11_8_0 := (hM11_8.cap 0 rfl).1
              refine os 0 [] [4, 5, 6, 7, 8, 9, 10, 11] ?_
              refine aO [9, 10, 11] [] 13 ?_
              refine Sb 0 [] 2 fun w11_13 hM11_13 => ?_
              refine os 0 [] [4, 5, 6, 7, 8, 9, 10, 11] ?_
              refine an [14] [] ?_
              exact ce7 0 [] b11_12 r111_8 L111_8 A111_8 c111_8 (validT ((⟨r6, A6, c6, L6⟩ : TreeL)).t && isInB (pairsK ((⟨r6, A6, c6, L6⟩ : TreeL)).t) ((keysP (pairsK ((⟨r6, A6, c6, L6⟩ : TreeL)).t))[k11_5.toNat]'hx11_6)) ((q5 + 1) + 1) [3, 2, 0, 1, 4, 5, 6, 7, 8, 9, 10, 11] (h := by exact ⟨(fun hb => (hts11_8 hb).2), (by (try dsimp only); omega)⟩)
            refine Al 0 [] fun w11_12 b11_12 hb11_12 hM11_12 => ?_
            refine os 0 [] [1, 2, 4, 5, 6, 7, 8, 9] ?_
            refine aO [] [] 5 ?_
            have hMf11_5 := hM11_12.pk [3, 0, 1, 2, 4, 5, 6, 7, 8, 9]
            refine cq 0 [] (b := pick_fn gr rA rc rl (q5 + 1) _ w11_12 (hrA.atR hMf11_5 hro) hro hrl (hMf11_5.fp [0] rfl rfl) q0) (c := ?_)
            rintro _ w11_5 ⟨k11_5, rfl, hk11_5, hR11_5⟩
            have hM11_5 := hMf11_5.cl 1 hR11_5
            refine os 0 [] [2, 3, 4, 5, 6, 7, 8, 9] ?_
            have hx11_6 : k11_5.toNat < (keysP (pairsK ((⟨r6, A6, c6, L6⟩ : TreeL)).t)).length := (by omega)
            refine av [] [] 6 (a := by exact fun _ hw2 => kixM hx11_6 (hM11_5.rd 2 rfl) (h0 := by omega)) (b := ?_)
            refine av [] [] 7 (a := by exact fun _ hw2 => kldM hx11_6 (hw2.rd 0 rfl)) (b := ?_)
            refine aO [] [] 8 ?_
            refine cq 0 [] (b := sDropKey_fn (⟨r6, A6, c6, L6⟩ : TreeL) _ w11_5 ⟨(hM11_5.rd 5 rfl), (NsP.mem hM11_5 6 rfl)⟩ (by exact hsz6)) (c := ?_)
            rintro _ w11_8 ⟨r111_8, L111_8, A111_8, c111_8, rfl, hts11_8, hzs11_8, hll11_8, hR11_8⟩
            have hM11_8 := hM11_5.cl 0 hR11_8
            have hcr11_8_0 := (hM11_8.cap 0 rfl).1
            refine os 0 [] [4, 5, 6, 7, 8, 9, 10, 11] ?_
            refine aO [9, 10, 11] [] 13 ?_
            refine Sb 0 [] 3 fun w11_13 hM11_13 => ?_
            refine os 0 [] [4, 5, 6, 7, 8, 9, 10, 11] ?_
            refine an [14] [] ?_
            exact ce7 0 [] b11_12 r111_8 L111_8 A111_8 c111_8 (validT ((⟨r6, A6, c6, L6⟩ : TreeL)).t && isInB (pairsK ((⟨r6, A6, c6, L6⟩ : TreeL)).t) ((keysP (pairsK ((⟨r6, A6, c6, L6⟩ : TreeL)).t))[k11_5.toNat]'hx11_6)) ((q5 + 1) + 1) [2, 3, 0, 1, 4, 5, 6, 7, 8, 9, 10, 11] (h := by exact ⟨(fun hb => (hts11_8 hb).2), (by (try dsimp only); omega)⟩)
          obtain ⟨hi0_r11, hi1_r11⟩ := hI
          have hcl2_r11 := (hM_r11.cap 2 rfl).1
          have hcl4_r11 := (hM_r11.cap 4 rfl).1
          have hcl5_r11 := (hM_r11.cap 5 rfl).1
          have hcl7_r11 := (hM_r11.cap 7 rfl).1
          have hcl9_r11 := (hM_r11.cap 9 rfl).1
          have hcl10_r11 := (hM_r11.cap 10 rfl).1
          refine cb 4 [] (fun c53 => ?_) (fun c53 => ?_)
          · refine Sb 2 [1] 6 fun w13_1 hM13_1 => ?_
            have hMk13 := hM13_1.pk [0, 2, 3, 4, 5, 6, 9, 10, 11]
            exact ce5 1 [] rr8 L8 A80 c80 q8 [0, 5, 1, 2, 6, 7, 8] (h := by exact ⟨(by (try dsimp only); first | exact hi0_r11 (by simpa using c53) | exact hi0_c30), (by (try dsimp only); omega)⟩)
          exact ce5 1 [] r6 L6 A6 c6 q8 [0, 6, 7, 8, 9, 10, 11] (h := by exact ⟨(by (try dsimp only); first | exact hi0_r11 (by simpa using c53) | exact hi0_c30), (by (try dsimp only); omega)⟩)
        exact ce5 1 [] r6 L6 A6 c6 (q5 + 1) [2, 3, 4, 5, 6, 7, 8] (h := by exact ⟨(by (try dsimp only); first | exact hi0_r11 (by simpa using c53) | exact hi0_c30), (by (try dsimp only); omega)⟩)
      exact ce5 1 [] r6 L6 A6 c6 (q5 + 1) [0, 1, 2, 3, 4, 5, 6] (h := by exact ⟨(by (try dsimp only); first | exact hi0_r11 (by simpa using c53) | exact hi0_c30), (by (try dsimp only); omega)⟩)
    obtain ⟨hi0_b1, hi1_b1⟩ := hI
    have hcl2_b1 := (hM_b1.cap 2 rfl).1
    have hcl4_b1 := (hM_b1.cap 4 rfl).1
    have hcl5_b1 := (hM_b1.cap 5 rfl).1
    refine ov 2 [] (a := ksub) (b := ?_)
    exact le6 2 [] (k - 1) r8 L8 A8 c8 q8 [0, 1, 2, 3, 4, 5, 6] (h := by exact ⟨(by (try dsimp only); omega), (by (try dsimp only); omega), hi0_b1⟩)
  refine Sb 4 [1] 6 fun w14_1 hM14_1 => ?_
  refine EG 2 [] ?_
  refine PG (vs := [.agg #[I (r9), .slice (A2) ((Lx).length) (c2)]]) (ResV.cell (l := [I (r9), .slice (A2) ((Lx).length) (c2)]) rfl (mem_blk (i := 6) (j := 0) hM14_1 rfl rfl) el25 rfl ResV.nil) ?_
  have hZ := (hM14_1.pk [0, 2, 3])
  exact ⟨r9, Lx, A2, c2, _, (by first | rfl | exact sl_congr (by first | omega | (simp; done) | (simp; omega)) | (simp; done)), hi2_l3, (by omega), hZ⟩
end Go.Proofs.YtemejgglbhjodaaDoor
end
section
namespace Go.Proofs.YtemejgglbhjodaaDoor
open Go.Px
theorem spoil_fn (gr : Nat) (rA : Option Addr) (rc : Nat) (rl : List UInt8) (rq : Nat) (A : Option Addr) (c : Nat) (l : List Int) (top : Int) (w : World) (hrA : Rd w rA (rl.map byteV)) (hro : Off rA (rl.map byteV) [some gr]) (hrl : rl.length ≤ 2000) (hA : Rd w A ((l).map I)) (hoA : Off A ((l).map I) [some gr]) (hM : Mem w w [some gr] [[⟨.slice (bl gr) 1 1, 73, 2, 1, [.slice (rA) ((rl).length) (rc), I (((rq : Nat) : Int))]⟩]]) (hrq : rq ≤ 999999950) (hl0 : l.length ≤ 1000) :
    Does Tryd.prog 39 [.pointer (ofs (bl gr) (0)), .slice (A) ((l).length) (c), I (top)] w (fun v w1 => ∃ (l1 : List Int) (A1 : Option Addr) (c1 : Nat) (q1 : Nat) (H : FE), v = .slice (A1) ((l1).length) (c1) ∧ (l1.length ≤ l.length + 1) ∧ (q1 ≤ rq + 10) ∧ (∀ w2, H.own w2 → Rd w2 A1 (l1.map I)) ∧ Mem w w1 [some gr] [[⟨.slice (bl gr) 1 1, 73, 2, 1, [.slice (rA) ((rl).length) (rc), I (((q1 : Nat) : Int))]⟩], [H]]) := by
  refine Does.n1 Tryd.func39 rfl Tryd.results39 Tryd.ntmps39 rfl ?_
  refine cq 7 [] (b := scopyInts_fn _ _ _ w (hA.atR hM hoA) qo) (c := ?_)
  rintro _ w1_1 ⟨A11_1, c11_1, rfl, hR1_1⟩
  have hM1_1 := hM.cl 0 hR1_1
  have hcr1_1_0 := (hM1_1.cap 0 rfl).1
  have hMf2_1 := hM1_1.pk [1, 0]
  refine cq 6 [] (b := pick_fn gr rA rc rl rq _ w1_1 (hrA.atR hMf2_1 hro) hro hrl (hMf2_1.fp [0] rfl rfl) q0) (c := ?_)
  rintro _ w2_1 ⟨k2_1, rfl, hk2_1, hR2_1⟩
  have hM2_1 := hMf2_1.cl 1 hR2_1
  refine cd 7 [] (fun c12 => ?_) (fun c12 => ?_)
  · refine Lt 3 [] (([top]).map I) (fun w4_2 b4_2 hb4_2 hM4_2 => ?_)
    refine aM 0 [] 2 (hM4_2.rd 0 rfl) (fun w4_3 A4_3 c4_3 hc4_3 hM4_3 => ?_)
    refine E1 8 [] (.slice (A4_3) ((l ++ [top]).length) (c4_3)) ?_
    exact ⟨l ++ [top], A4_3, c4_3, rq + 1, ⟨.slice (A4_3) ((l ++ [top]).length) (c4_3), 3, 1, ((l ++ [top]).length), (l ++ [top]).map I⟩, (by first | rfl | exact sl_congr (by first | omega | (simp; done) | (simp; omega))), (by first | omega | (simp; done) | (simp; omega)), (by omega), (fun _ h => own_rd h), (hM4_3.pick [1, 2] (by decide) rfl)⟩
  refine cd 5 [] (fun c18 => ?_) (fun c18 => ?_)
  · refine cd 6 [] (fun c22 => ?_) (fun c22 => ?_)
    · have hcp7_1 := hM2_1.cap 1 rfl
      refine ov 2 [] (s := Vl (if c11_1 = 1 then A11_1 else ofs (A11_1) (1 * 1)) (((l).drop (1)).length) (c11_1 - 1)) (a := by exact cv (Ru.congr (v := .slice (if c11_1 = 1 then A11_1 else ofs (A11_1) (1 * 1)) (((l).length) - 1) (c11_1 - 1)) (v' := .slice (if c11_1 = 1 then A11_1 else ofs (A11_1) (1 * 1)) (((l).drop (1)).length) (c11_1 - 1)) (Ru.lsliceFrom (l := 1) Tryd.underlying29 el3 rfl rfl (by omega) (by omega)) (sl_congr (by first | rfl | (simp; done) | omega | (simp; omega)))) rfl) (b := ?_)
      refine E1 8 [] (.slice (if c11_1 = 1 then A11_1 else ofs (A11_1) (1 * 1)) (((l).drop (1)).length) (c11_1 - 1)) ?_
      exact ⟨(l).drop (1), if c11_1 = 1 then A11_1 else ofs (A11_1) (1 * 1), c11_1 - 1, rq + 1, ⟨.slice (A11_1) ((l).length) (c11_1), 3, 1, ((l).length), (l).map I⟩, (by first | rfl | exact sl_congr (by first | omega | (simp; done) | (simp; omega))), (by first | omega | (simp; done) | (simp; omega)), (by omega), (fun _ h => rd_drop1 (own_rd h) (by omega) (by omega)), (hM2_1.pick [0, 1] (by decide) rfl)⟩
    refine E1 7 [] (.slice (A11_1) ((l).length) (c11_1)) ?_
    exact ⟨l, A11_1, c11_1, rq + 1, ⟨.slice (A11_1) ((l).length) (c11_1), 3, 1, ((l).length), (l).map I⟩, (by first | rfl | exact sl_congr (by first | omega | (simp; done) | (simp; omega))), (by first | omega | (simp; done) | (simp; omega)), (by omega), (fun _ h => own_rd h), (hM2_1.pick [0, 1] (by decide) rfl)⟩
  refine cd 5 [] (fun c25 => ?_) (fun c25 => ?_)
  · refine cd 6 [] (fun c29 => ?_) (fun c29 => ?_)
    · refine cq 5 [] (b := pick_fn gr rA rc rl (rq + 1) _ w2_1 (hrA.atR hM2_1 hro) hro hrl (hM2_1.fp [0] rfl rfl) q0) (c := ?_)
      rintro _ w10_4 ⟨k10_4, rfl, hk10_4, hR10_4⟩
      have hM10_4 := hM2_1.cl 1 hR10_4
      refine Lt 2 [] (([(-1), top, 0, 1]).map I) (fun w10_7 b10_7 hb10_7 hM10_7 => ?_)
      have hMf10_8 := hM10_7.pk [1, 0, 2]
      refine cq 0 [] (vs := [.pointer (ofs (bl gr) (0)), .slice (bl b10_7) (([(-1), top, 0, 1]).length) (4)]) (hvs := (by first | rfl | (rw [show ([(-1), top, 0, 1]).length = 4 from (by first | rfl | (simp; done) | omega | (simp; omega))]; rfl))) (b := one_fn gr rA rc rl ((rq + 1) + 1) (bl b10_7) 4 [(-1), top, 0, 1] w10_7 (hrA.atR hMf10_8 hro) hro hrl (hMf10_8.rd 1 rfl) (Off.of_ng (hMf10_8.ng 1 0 (by decide) rfl rfl)) (hMf10_8.fp [0] rfl rfl) q0 (by simp) (by simp)) (c := ?_)
      rintro _ w10_8 ⟨k10_8, rfl, hk10_8, hR10_8⟩
      have hM10_8 := hMf10_8.cl 1 hR10_8
      have hx10_9 : k10_4.toNat < (l).length := (by omega)
      refine ov 0 [] (a := kixM hx10_9 (hM10_8.rd 2 rfl) (h0 := by omega)) (b := ?_)
      refine sM 0 [] 2 hx10_9 fun w10_10 hM10_10 => ?_
      refine E1 7 [] (.slice (A11_1) ((l).length) (c11_1)) ?_
      exact ⟨(l).set (k10_4.toNat) k10_8, A11_1, c11_1, ((rq + 1) + 1) + 1, ⟨.slice (A11_1) ((l).length) (c11_1), 3, 1, ((l).length), ((l).set (k10_4.toNat) k10_8).map I⟩, (by first | rfl | exact sl_congr (by first | omega | (simp; done) | (simp; omega))), (by first | omega | (simp; done) | (simp; omega)), (by omega), (fun _ h => own_rd h), (hM10_10.pick [0, 2] (by decide) rfl)⟩
    refine E1 7 [] (.slice (A11_1) ((l).length) (c11_1)) ?_
    exact ⟨l, A11_1, c11_1, rq + 1, ⟨.slice (A11_1) ((l).length) (c11_1), 3, 1, ((l).length), (l).map I⟩, (by first | rfl | exact sl_congr (by first | omega | (simp; done) | (simp; omega))), (by first | omega | (simp; done) | (simp; omega)), (by omega), (fun _ h => own_rd h), (hM2_1.pick [0, 1] (by decide) rfl)⟩
  refine E1 7 [] (.slice (A11_1) ((l).length) (c11_1)) ?_
  exact ⟨l, A11_1, c11_1, rq + 1, ⟨.slice (A11_1) ((l).length) (c11_1), 3, 1, ((l).length), (l).map I⟩, (by first | rfl | exact sl_congr (by first | omega | (simp; done) | (simp; omega))), (by first | omega | (simp; done) | (simp; omega)), (by omega), (fun _ h => own_rd h), (hM2_1.pick [0, 1] (by decide) rfl)⟩
set_option maxHeartbeats 4000000 in
theorem anyTree_fn (gr : Nat) (rA : Option Addr) (rc : Nat) (rl : List UInt8) (rq : Nat) (w : World) (hrA : Rd w rA (rl.map byteV)) (hro : Off rA (rl.map byteV) [some gr]) (hrl : rl.length ≤ 2000) (hM : Mem w w [some gr] [[⟨.slice (bl gr) 1 1, 73, 2, 1, [.slice (rA) ((rl).length) (rc), I (((rq : Nat) : Int))]⟩]]) (hrq : rq ≤ 999997500) :
    Does Tryd.prog 18 [.pointer (ofs (bl gr) (0))] w (fun v w1 => ∃ (r1 : Int) (L1 : List PgL) (A1 : Option Addr) (c1 : Nat) (q1 : Nat) (G : List FE), v = .agg #[I (r1), .slice (A1) ((L1).length) (c1)] ∧ (SzT ⟨r1, A1, c1, L1⟩) ∧ ((L1).length ≤ 64) ∧ (q1 ≤ rq + 300) ∧ (∀ w2, (∀ f ∈ G, f.own w2) → TrN w2 ⟨r1, A1, c1, L1⟩) ∧ Mem w w1 [some gr] [[⟨.slice (bl gr) 1 1, 73, 2, 1, [.slice (rA) ((rl).length) (rc), I (((q1 : Nat) : Int))]⟩], G]) := by
  refine Does.nG (rs := [.cell 2 25]) Tryd.func18 rfl Tryd.results18 Tryd.ntmps18 rfl ?_
  refine Al 2 [] fun w0_0 b0_0 hb0_0 hM0_0 => ?_
  have hMf1_1 := hM0_0.pk [1, 0]
  refine cq 4 [] (b := goodTree_fn gr rA rc rl rq w0_0 (hrA.atR hMf1_1 hro) hro hrl (hMf1_1.fp [0] rfl rfl) q0) (c := ?_)
  rintro _ w1_1 ⟨r11_1, L11_1, A11_1, c11_1, q11_1, rfl, hwk1_1, hq1_1, hR1_1⟩
  have hM1_1 := hMf1_1.cl 1 hR1_1
  have hcr1_1_1 := (hM1_1.cap 1 rfl).1
  have hll1 := hwk1_1.2.1
  simp only [List.length_map] at hll1
  have hsz1 : SzT ⟨r11_1, A11_1, c11_1, L11_1⟩ := sz_small hwk1_1.2.2 (by omega)
  refine Al 0 [] fun w1_2 b1_2 hb1_2 hM1_2 => ?_
  refine Sb 0 [] 0 fun w1_3 hM1_3 => ?_
  have hMf2_4 := hM1_3.pk [1, 0, 2, 3, 4]
  refine cq 7 [1] (b := pick_fn gr rA rc rl q11_1 _ w1_3 (hrA.atR hMf2_4 hro) hro hrl (hMf2_4.fp [0] rfl rfl) q0) (c := ?_)
  rintro _ w2_4 ⟨k2_4, rfl, hk2_4, hR2_4⟩
  have hM2_4 := hMf2_4.cl 1 hR2_4
  refine cq 6 [] (b := pick_fn gr rA rc rl (q11_1 + 1) _ w2_4 (hrA.atR hM2_4 hro) hro hrl (hM2_4.fp [0] rfl rfl) q0) (c := ?_)
  rintro _ w3_1 ⟨k3_1, rfl, hk3_1, hR3_1⟩
  have hM3_1 := hM2_4.cl 1 hR3_1
  refine cd 7 [] (fun c14 => ?_) (fun c14 => ?_)
  · refine Lt 5 [1] (([(-1), (((L11_1).length : Nat) : Int), 0]).map I) (fun w5_4 b5_4 hb5_4 hM5_4 => ?_)
    have hMf5_5 := hM5_4.pk [1, 0, 2, 3, 4, 5]
    refine cq 0 [] (vs := [.pointer (ofs (bl gr) (0)), .slice (bl b5_4) (([(-1), (((L11_1).length : Nat) : Int), 0]).length) (3)]) (hvs := (by first | rfl | (rw [show ([(-1), (((L11_1).length : Nat) : Int), 0]).length = 3 from (by first | rfl | (simp; done) | omega | (simp; omega))]; rfl))) (b := one_fn gr rA rc rl ((q11_1 + 1) + 1) (bl b5_4) 3 [(-1), (((L11_1).length : Nat) : Int), 0] w5_4 (hrA.atR hMf5_5 hro) hro hrl (hMf5_5.rd 1 rfl) (Off.of_ng (hMf5_5.ng 1 0 (by decide) rfl rfl)) (hMf5_5.fp [0] rfl rfl) q0 (by simp) (by simp)) (c := ?_)
    rintro _ w5_5 ⟨k5_5, rfl, hk5_5, hR5_5⟩
    have hM5_5 := hMf5_5.cl 1 hR5_5
    refine Sb 1 [] 2 fun w5_7 hM5_7 => ?_
    refine Sb 4 [2] 5 fun w14_1 hM14_1 => ?_
    refine EG 2 [] ?_
    refine PG (vs := [.agg #[I (k5_5), .slice (A11_1) ((L11_1).length) (c11_1)]]) (ResV.cell (l := [I (k5_5), .slice (A11_1) ((L11_1).length) (c11_1)]) rfl (mem_blk (i := 5) (j := 0) hM14_1 rfl rfl) el25 rfl ResV.nil) ?_
    exact ⟨k5_5, L11_1, A11_1, c11_1, ((q11_1 + 1) + 1) + 1, [⟨.slice (A11_1) ((L11_1).length) (c11_1), 39, 3, ((L11_1).length), (L11_1).flatMap encPg⟩] ++ (L11_1).flatMap (pgF 3), (by first | rfl | (simp; done)), (sz_root hsz1), (by omega), (by omega), (fun w2 h => TrN.ofown h), Mem.gmrg (hM14_1.pick [0, 3, 4] (by decide) rfl)⟩
  refine cd 5 [] (fun c23 => ?_) (fun c23 => ?_)
  · have hpg := hwk1_1.2.2 _ (List.mem_map.2 ⟨_, List.getElem_mem (show (k2_4).toNat < (L11_1).length by omega), rfl⟩)
    have hpk : (((L11_1)[(k2_4).toNat]'(by omega))).k.l.length ≤ 5 := hpg.1
    have hpc : (((L11_1)[(k2_4).toNat]'(by omega))).c.l.length ≤ 6 := hpg.2.1
    have hpv : (((L11_1)[(k2_4).toNat]'(by omega))).v.l.length ≤ 5 := hpg.2.2
    refine any 0 [] 17 [1, 3, 4] fun w7a hM7a => ?_
    have hx7_7 : (k2_4).toNat < (L11_1).length := (by omega)
    refine av [0, 1, 2, 3, 4, 5, 6] [0, 0] 7 (a := by exact fun _ hw2 => kixF hx7_7 (hM7a.rd 2 rfl) (h0 := by omega)) (b := ?_)
    refine av [] [] 8 (a := by exact fun _ hw2 => kflF hx7_7 (hM7a.rd 2 rfl)) (b := ?_)
    refine aT [] [] 9 11 ?_ ?_
    · refine ov 0 [] (a := kldF hx7_7 (hM7a.rd 2 rfl)) (b := ?_)
      refine os 0 [] [1, 3, 4] ?_
      refine aT [] [] 10 11 ?_ ?_
      · refine cq 0 [] (vs := [.slice (((L11_1)[(k2_4).toNat]'hx7_7).k.A) ((((L11_1)[(k2_4).toNat]'hx7_7).k.l).length) (((L11_1)[(k2_4).toNat]'hx7_7).k.cp)]) (hvs := (by first | rfl | (rw [show (((L11_1)[(k2_4).toNat]'hx7_7).k.l).length = ((L11_1)[(k2_4).toNat]'hx7_7).k.l.length from (by first | rfl | (simp; done) | omega | (simp; omega))]; rfl))) (b := scopyInts_fn (((L11_1)[(k2_4).toNat]'hx7_7).k.A) (((L11_1)[(k2_4).toNat]'hx7_7).k.cp) (((L11_1)[(k2_4).toNat]'hx7_7).k.l) w7a ((NsP.mem hM7a 3 rfl).get hx7_7).1 qo) (c := ?_)
        rintro _ w7_10 ⟨A17_10, c17_10, rfl, hR7_10⟩
        have hM7_10 := hM7a.cl 0 hR7_10
        have hcr7_10_0 := (hM7_10.cap 0 rfl).1
        refine os 0 [] [2, 4, 5] ?_
        refine aO [] [] 11 ?_
        refine Lt 0 [] (([(3 : Int)]).map I) (fun w7_11 b7_11 hb7_11 hM7_11 => ?_)
        refine os 0 [] [3, 5, 6] ?_
        refine aO [] [] 12 ?_
        refine aM 0 [] 1 (hM7_11.rd 0 rfl) (fun w7_12 A7_12 c7_12 hc7_12 hM7_12 => ?_) (hn := by first | omega | (simp only [List.length_append, List.length_cons, List.length_nil]; omega)) (hb := by first | omega | (simp only [List.length_append, List.length_cons, List.length_nil]; omega))
        refine os 0 [] [3, 5, 6] ?_
        refine aO [] [] 13 ?_
        have hMf7_13 := hM7_12.pk [2, 0, 1, 3, 4, 5, 6]
        refine cq 0 [] (b := spoil_fn gr rA rc rl ((q11_1 + 1) + 1) _ _ _ _ w7_12 (hrA.atR hMf7_13 hro) hro hrl (hMf7_13.rd 2 rfl) (Off.of_ng (hMf7_13.ng 2 0 (by decide) rfl rfl)) (hMf7_13.fp [0] rfl rfl) q0 (by first | omega | (simp only [List.length_append, List.length_cons, List.length_nil]; omega))) (c := ?_)
        rintro _ w7_13 ⟨l17_13, A17_13, c17_13, q17_13, H7_13, rfl, hl7_13, hq7_13, hH7_13, hR7_13⟩
        have hM7_13 := hMf7_13.cl 1 hR7_13
        refine os 0 [] [4, 6, 7] ?_
        have hx7_14 : (k2_4).toNat < (L11_1).length := (by omega)
        refine av [] [] 14 (a := by exact fun _ hw2 => kixF hx7_14 (hM7_13.rd 5 rfl) (h0 := by omega)) (b := ?_)
        refine av [] [] 15 (a := by exact fun _ hw2 => kflF hx7_14 (hM7_13.rd 5 rfl)) (b := ?_)
        refine aO [] [] 16 ?_
        let p1_ : PgL := (⟨⟨A17_13, c17_13, l17_13⟩, ⟨((L11_1)[(k2_4).toNat]'hx7_14).c.A, ((L11_1)[(k2_4).toNat]'hx7_14).c.cp, ((L11_1)[(k2_4).toNat]'hx7_14).c.l⟩, ⟨((L11_1)[(k2_4).toNat]'hx7_14).v.A, ((L11_1)[(k2_4).toNat]'hx7_14).v.cp, ((L11_1)[(k2_4).toNat]'hx7_14).v.l⟩⟩ : PgL)
        refine sP 0 [] 5 p1_ hx7_14 fun w7_16 hM7_16 => ?_
        refine os 0 [] [4, 6, 7] ?_
        refine an [] [] ?_
        refine Sb 3 [4] 7 fun w14_1 hM14_1 => ?_
        refine EG 2 [] ?_
        refine PG (vs := [.agg #[I (r11_1), .slice (A11_1) ((L11_1).length) (c11_1)]]) (ResV.cell (l := [I (r11_1), .slice (A11_1) ((L11_1).length) (c11_1)]) rfl (mem_blk (i := 7) (j := 0) hM14_1 rfl rfl) el25 rfl ResV.nil) ?_
        have hlx := hl7_13
        try simp only [List.length_append, List.length_cons, List.length_nil] at hlx
        exact ⟨r11_1, (L11_1).set ((k2_4).toNat) p1_, A11_1, c11_1, q17_13, ([⟨.slice (A11_1) ((L11_1).length) (c11_1), 39, 3, ((L11_1).length), ((L11_1).set ((k2_4).toNat) p1_).flatMap encPg⟩] ++ (L11_1).flatMap (pgF 3)) ++ [H7_13], (congrArg (fun z => Value.agg #[I (r11_1), .slice (A11_1) z (c11_1)]) (show (L11_1).length = ((L11_1).set ((k2_4).toNat) p1_).length from by simp)), (sz_set hsz1 (by have h9 := hwk1_1.2.2 _ (List.mem_map.2 ⟨_, List.getElem_mem (show (k2_4).toNat < (L11_1).length by omega), rfl⟩); have e1 : (((L11_1)[(k2_4).toNat]'(by omega))).k.l.length ≤ 5 := h9.1; have e2 : (((L11_1)[(k2_4).toNat]'(by omega))).c.l.length ≤ 6 := h9.2.1; have e3 : (((L11_1)[(k2_4).toNat]'(by omega))).v.l.length ≤ 5 := h9.2.2; refine ⟨?_, ?_, ?_⟩ <;> (first | (show (((L11_1)[(k2_4).toNat]'(by omega))).k.l.length ≤ 1000; omega) | (show (((L11_1)[(k2_4).toNat]'(by omega))).c.l.length ≤ 1000; omega) | (show (((L11_1)[(k2_4).toNat]'(by omega))).v.l.length ≤ 1000; omega) | (show (l17_13).length ≤ 1000; omega)))), (by simp; omega), (by omega), (fun w2 h => TrN.set1 (k := (k2_4).toNat) (X := p1_) (by omega) (fun hn hh => ⟨hH7_13 _ hh, hn.2⟩) h), Mem.gmrg (Mem.gmrg (hM14_1.pick [0, 5, 6, 1] (by decide) rfl))⟩
      refine Lt 0 [] (([(3 : Int)]).map I) (fun w7_11 b7_11 hb7_11 hM7_11 => ?_)
      refine os 0 [] [2, 4, 5] ?_
      refine aO [] [] 10 ?_
      refine cq 0 [] (vs := [.slice (((L11_1)[(k2_4).toNat]'hx7_7).k.A) ((((L11_1)[(k2_4).toNat]'hx7_7).k.l).length) (((L11_1)[(k2_4).toNat]'hx7_7).k.cp)]) (hvs := (by first | rfl | (rw [show (((L11_1)[(k2_4).toNat]'hx7_7).k.l).length = ((L11_1)[(k2_4).toNat]'hx7_7).k.l.length from (by first | rfl | (simp; done) | omega | (simp; omega))]; rfl))) (b := scopyInts_fn (((L11_1)[(k2_4).toNat]'hx7_7).k.A) (((L11_1)[(k2_4).toNat]'hx7_7).k.cp) (((L11_1)[(k2_4).toNat]'hx7_7).k.l) w7_11 ((NsP.mem hM7_11 4 rfl).get hx7_7).1 qo) (c := ?_)
      rintro _ w7_10 ⟨A17_10, c17_10, rfl, hR7_10⟩
      have hM7_10 := hM7_11.cl 0 hR7_10
      have hcr7_10_0 := (hM7_10.cap 0 rfl).1
      refine os 0 [] [3, 5, 6] ?_
      refine aO [] [] 12 ?_
      refine aM 0 [] 0 (hM7_10.rd 1 rfl) (fun w7_12 A7_12 c7_12 hc7_12 hM7_12 => ?_) (hn := by first | omega | (simp only [List.length_append, List.length_cons, List.length_nil]; omega)) (hb := by first | omega | (simp only [List.length_append, List.length_cons, List.length_nil]; omega))
      refine os 0 [] [3, 5, 6] ?_
      refine aO [] [] 13 ?_
      have hMf7_13 := hM7_12.pk [2, 0, 1, 3, 4, 5, 6]
      refine cq 0 [] (b := spoil_fn gr rA rc rl ((q11_1 + 1) + 1) _ _ _ _ w7_12 (hrA.atR hMf7_13 hro) hro hrl (hMf7_13.rd 1 rfl) (Off.of_ng (hMf7_13.ng 1 0 (by decide) rfl rfl)) (hMf7_13.fp [0] rfl rfl) q0 (by first | omega | (simp only [List.length_append, List.length_cons, List.length_nil]; omega))) (c := ?_)
      rintro _ w7_13 ⟨l17_13, A17_13, c17_13, q17_13, H7_13, rfl, hl7_13, hq7_13, hH7_13, hR7_13⟩
      have hM7_13 := hMf7_13.cl 1 hR7_13
      refine os 0 [] [4, 6, 7] ?_
      have hx7_14 : (k2_4).toNat < (L11_1).length := (by omega)
      refine av [] [] 14 (a := by exact fun _ hw2 => kixF hx7_14 (hM7_13.rd 5 rfl) (h0 := by omega)) (b := ?_)
      refine av [] [] 15 (a := by exact fun _ hw2 => kflF hx7_14 (hM7_13.rd 5 rfl)) (b := ?_)
      refine aO [] [] 16 ?_
      let p2_ : PgL := (⟨⟨A17_13, c17_13, l17_13⟩, ⟨((L11_1)[(k2_4).toNat]'hx7_14).c.A, ((L11_1)[(k2_4).toNat]'hx7_14).c.cp, ((L11_1)[(k2_4).toNat]'hx7_14).c.l⟩, ⟨((L11_1)[(k2_4).toNat]'hx7_14).v.A, ((L11_1)[(k2_4).toNat]'hx7_14).v.cp, ((L11_1)[(k2_4).toNat]'hx7_14).v.l⟩⟩ : PgL)
      refine sP 0 [] 5 p2_ hx7_14 fun w7_16 hM7_16 => ?_
      refine os 0 [] [4, 6, 7] ?_
      refine an [] [] ?_
      refine Sb 3 [4] 7 fun w14_1 hM14_1 => ?_
      refine EG 2 [] ?_
      refine PG (vs := [.agg #[I (r11_1), .slice (A11_1) ((L11_1).length) (c11_1)]]) (ResV.cell (l := [I (r11_1), .slice (A11_1) ((L11_1).length) (c11_1)]) rfl (mem_blk (i := 7) (j := 0) hM14_1 rfl rfl) el25 rfl ResV.nil) ?_
      have hlx := hl7_13
      try simp only [List.length_append, List.length_cons, List.length_nil] at hlx
      exact ⟨r11_1, (L11_1).set ((k2_4).toNat) p2_, A11_1, c11_1, q17_13, ([⟨.slice (A11_1) ((L11_1).length) (c11_1), 39, 3, ((L11_1).length), ((L11_1).set ((k2_4).toNat) p2_).flatMap encPg⟩] ++ (L11_1).flatMap (pgF 3)) ++ [H7_13], (congrArg (fun z => Value.agg #[I (r11_1), .slice (A11_1) z (c11_1)]) (show (L11_1).length = ((L11_1).set ((k2_4).toNat) p2_).length from by simp)), (sz_set hsz1 (by have h9 := hwk1_1.2.2 _ (List.mem_map.2 ⟨_, List.getElem_mem (show (k2_4).toNat < (L11_1).length by omega), rfl⟩); have e1 : (((L11_1)[(k2_4).toNat]'(by omega))).k.l.length ≤ 5 := h9.1; have e2 : (((L11_1)[(k2_4).toNat]'(by omega))).c.l.length ≤ 6 := h9.2.1; have e3 : (((L11_1)[(k2_4).toNat]'(by omega))).v.l.length ≤ 5 := h9.2.2; refine ⟨?_, ?_, ?_⟩ <;> (first | (show (((L11_1)[(k2_4).toNat]'(by omega))).k.l.length ≤ 1000; omega) | (show (((L11_1)[(k2_4).toNat]'(by omega))).c.l.length ≤ 1000; omega) | (show (((L11_1)[(k2_4).toNat]'(by omega))).v.l.length ≤ 1000; omega) | (show (l17_13).length ≤ 1000; omega)))), (by simp; omega), (by omega), (fun w2 h => TrN.set1 (k := (k2_4).toNat) (X := p2_) (by omega) (fun hn hh => ⟨hH7_13 _ hh, hn.2⟩) h), Mem.gmrg (Mem.gmrg (hM14_1.pick [0, 5, 6, 1] (by decide) rfl))⟩
    refine Lt 0 [] (([(3 : Int)]).map I) (fun w7_11 b7_11 hb7_11 hM7_11 => ?_)
    refine os 0 [] [2, 4, 5] ?_
    refine aO [] [] 9 ?_
    refine ov 0 [] (a := kldF hx7_7 (hM7_11.rd 3 rfl)) (b := ?_)
    refine os 0 [] [2, 4, 5] ?_
    refine aO [] [] 10 ?_
    refine cq 0 [] (vs := [.slice (((L11_1)[(k2_4).toNat]'hx7_7).k.A) ((((L11_1)[(k2_4).toNat]'hx7_7).k.l).length) (((L11_1)[(k2_4).toNat]'hx7_7).k.cp)]) (hvs := (by first | rfl | (rw [show (((L11_1)[(k2_4).toNat]'hx7_7).k.l).length = ((L11_1)[(k2_4).toNat]'hx7_7).k.l.length from (by first | rfl | (simp; done) | omega | (simp; omega))]; rfl))) (b := scopyInts_fn (((L11_1)[(k2_4).toNat]'hx7_7).k.A) (((L11_1)[(k2_4).toNat]'hx7_7).k.cp) (((L11_1)[(k2_4).toNat]'hx7_7).k.l) w7_11 ((NsP.mem hM7_11 4 rfl).get hx7_7).1 qo) (c := ?_)
    rintro _ w7_10 ⟨A17_10, c17_10, rfl, hR7_10⟩
    have hM7_10 := hM7_11.cl 0 hR7_10
    have hcr7_10_0 := (hM7_10.cap 0 rfl).1
    refine os 0 [] [3, 5, 6] ?_
    refine aO [] [] 12 ?_
    refine aM 0 [] 0 (hM7_10.rd 1 rfl) (fun w7_12 A7_12 c7_12 hc7_12 hM7_12 => ?_) (hn := by first | omega | (simp only [List.length_append, List.length_cons, List.length_nil]; omega)) (hb := by first | omega | (simp only [List.length_append, List.length_cons, List.length_nil]; omega))
    refine os 0 [] [3, 5, 6] ?_
    refine aO [] [] 13 ?_
    have hMf7_13 := hM7_12.pk [2, 0, 1, 3, 4, 5, 6]
    refine cq 0 [] (b := spoil_fn gr rA rc rl ((q11_1 + 1) + 1) _ _ _ _ w7_12 (hrA.atR hMf7_13 hro) hro hrl (hMf7_13.rd 1 rfl) (Off.of_ng (hMf7_13.ng 1 0 (by decide) rfl rfl)) (hMf7_13.fp [0] rfl rfl) q0 (by first | omega | (simp only [List.length_append, List.length_cons, List.length_nil]; omega))) (c := ?_)
    rintro _ w7_13 ⟨l17_13, A17_13, c17_13, q17_13, H7_13, rfl, hl7_13, hq7_13, hH7_13, hR7_13⟩
    have hM7_13 := hMf7_13.cl 1 hR7_13
    refine os 0 [] [4, 6, 7] ?_
    have hx7_14 : (k2_4).toNat < (L11_1).length := (by omega)
    refine av [] [] 14 (a := by exact fun _ hw2 => kixF hx7_14 (hM7_13.rd 5 rfl) (h0 := by omega)) (b := ?_)
    refine av [] [] 15 (a := by exact fun _ hw2 => kflF hx7_14 (hM7_13.rd 5 rfl)) (b := ?_)
    refine aO [] [] 16 ?_
    let p3_ : PgL := (⟨⟨A17_13, c17_13, l17_13⟩, ⟨((L11_1)[(k2_4).toNat]'hx7_14).c.A, ((L11_1)[(k2_4).toNat]'hx7_14).c.cp, ((L11_1)[(k2_4).toNat]'hx7_14).c.l⟩, ⟨((L11_1)[(k2_4).toNat]'hx7_14).v.A, ((L11_1)[(k2_4).toNat]'hx7_14).v.cp, ((L11_1)[(k2_4).toNat]'hx7_14).v.l⟩⟩ : PgL)
    refine sP 0 [] 5 p3_ hx7_14 fun w7_16 hM7_16 => ?_
    refine os 0 [] [4, 6, 7] ?_
    refine an [] [] ?_
    refine Sb 3 [4] 7 fun w14_1 hM14_1 => ?_
    refine EG 2 [] ?_
    refine PG (vs := [.agg #[I (r11_1), .slice (A11_1) ((L11_1).length) (c11_1)]]) (ResV.cell (l := [I (r11_1), .slice (A11_1) ((L11_1).length) (c11_1)]) rfl (mem_blk (i := 7) (j := 0) hM14_1 rfl rfl) el25 rfl ResV.nil) ?_
    have hlx := hl7_13
    try simp only [List.length_append, List.length_cons, List.length_nil] at hlx
    exact ⟨r11_1, (L11_1).set ((k2_4).toNat) p3_, A11_1, c11_1, q17_13, ([⟨.slice (A11_1) ((L11_1).length) (c11_1), 39, 3, ((L11_1).length), ((L11_1).set ((k2_4).toNat) p3_).flatMap encPg⟩] ++ (L11_1).flatMap (pgF 3)) ++ [H7_13], (congrArg (fun z => Value.agg #[I (r11_1), .slice (A11_1) z (c11_1)]) (show (L11_1).length = ((L11_1).set ((k2_4).toNat) p3_).length from by simp)), (sz_set hsz1 (by have h9 := hwk1_1.2.2 _ (List.mem_map.2 ⟨_, List.getElem_mem (show (k2_4).toNat < (L11_1).length by omega), rfl⟩); have e1 : (((L11_1)[(k2_4).toNat]'(by omega))).k.l.length ≤ 5 := h9.1; have e2 : (((L11_1)[(k2_4).toNat]'(by omega))).c.l.length ≤ 6 := h9.2.1; have e3 : (((L11_1)[(k2_4).toNat]'(by omega))).v.l.length ≤ 5 := h9.2.2; refine ⟨?_, ?_, ?_⟩ <;> (first | (show (((L11_1)[(k2_4).toNat]'(by omega))).k.l.length ≤ 1000; omega) | (show (((L11_1)[(k2_4).toNat]'(by omega))).c.l.length ≤ 1000; omega) | (show (((L11_1)[(k2_4).toNat]'(by omega))).v.l.length ≤ 1000; omega) | (show (l17_13).length ≤ 1000; omega)))), (by simp; omega), (by omega), (fun w2 h => TrN.set1 (k := (k2_4).toNat) (X := p3_) (by omega) (fun hn hh => ⟨hH7_13 _ hh, hn.2⟩) h), Mem.gmrg (Mem.gmrg (hM14_1.pick [0, 5, 6, 1] (by decide) rfl))⟩
  refine cd 5 [] (fun c41 => ?_) (fun c41 => ?_)
  · have hpg := hwk1_1.2.2 _ (List.mem_map.2 ⟨_, List.getElem_mem (show (k2_4).toNat < (L11_1).length by omega), rfl⟩)
    have hpk : (((L11_1)[(k2_4).toNat]'(by omega))).k.l.length ≤ 5 := hpg.1
    have hpc : (((L11_1)[(k2_4).toNat]'(by omega))).c.l.length ≤ 6 := hpg.2.1
    have hpv : (((L11_1)[(k2_4).toNat]'(by omega))).v.l.length ≤ 5 := hpg.2.2
    refine any 0 [] 15 [1, 3, 4] fun w9a hM9a => ?_
    have hx9_7 : (k2_4).toNat < (L11_1).length := (by omega)
    refine av [0, 1, 2, 3, 4, 5, 6] [0, 0] 7 (a := by exact fun _ hw2 => kixF hx9_7 (hM9a.rd 2 rfl) (h0 := by omega)) (b := ?_)
    refine av [] [] 8 (a := by exact fun _ hw2 => kflF hx9_7 (hM9a.rd 2 rfl)) (b := ?_)
    refine aO [10] [] 9 ?_
    refine ov 0 [] (a := kldF hx9_7 (hM9a.rd 2 rfl)) (b := ?_)
    refine os 0 [] [1, 3, 4] ?_
    refine aO [] [] 11 ?_
    refine cq 0 [] (vs := [.pointer (ofs (bl gr) (0)), .slice (((L11_1)[(k2_4).toNat]'hx9_7).c.A) ((((L11_1)[(k2_4).toNat]'hx9_7).c.l).length) (((L11_1)[(k2_4).toNat]'hx9_7).c.cp), I (k2_4)]) (hvs := (by first | rfl | (rw [show (((L11_1)[(k2_4).toNat]'hx9_7).c.l).length = ((L11_1)[(k2_4).toNat]'hx9_7).c.l.length from (by first | rfl | (simp; done) | omega | (simp; omega))]; rfl))) (b := spoil_fn gr rA rc rl ((q11_1 + 1) + 1) (((L11_1)[(k2_4).toNat]'hx9_7).c.A) (((L11_1)[(k2_4).toNat]'hx9_7).c.cp) (((L11_1)[(k2_4).toNat]'hx9_7).c.l) _ w9a (hrA.atR hM9a hro) hro hrl ((NsP.mem hM9a 3 rfl).get hx9_7).2.1 (Off.of_ng (Mem.ngP hM9a 3 0 (by decide) rfl rfl hx9_7 ((L11_1)[(k2_4).toNat]'hx9_7).c (by simp [pgF]))) (hM9a.fp [0] rfl rfl) q0 (by first | omega | (simp only [List.length_append, List.length_cons, List.length_nil]; omega))) (c := ?_)
    rintro _ w9_11 ⟨l19_11, A19_11, c19_11, q19_11, H9_11, rfl, hl9_11, hq9_11, hH9_11, hR9_11⟩
    have hM9_11 := hM9a.cl 1 hR9_11
    refine os 0 [] [2, 4, 5] ?_
    have hx9_12 : (k2_4).toNat < (L11_1).length := (by omega)
    refine av [] [] 12 (a := by exact fun _ hw2 => kixF hx9_12 (hM9_11.rd 3 rfl) (h0 := by omega)) (b := ?_)
    refine av [] [] 13 (a := by exact fun _ hw2 => kflF hx9_12 (hM9_11.rd 3 rfl)) (b := ?_)
    refine aO [] [] 14 ?_
    let p4_ : PgL := (⟨⟨((L11_1)[(k2_4).toNat]'hx9_12).k.A, ((L11_1)[(k2_4).toNat]'hx9_12).k.cp, ((L11_1)[(k2_4).toNat]'hx9_12).k.l⟩, ⟨A19_11, c19_11, l19_11⟩, ⟨((L11_1)[(k2_4).toNat]'hx9_12).v.A, ((L11_1)[(k2_4).toNat]'hx9_12).v.cp, ((L11_1)[(k2_4).toNat]'hx9_12).v.l⟩⟩ : PgL)
    refine sP 0 [] 3 p4_ hx9_12 fun w9_14 hM9_14 => ?_
    refine os 0 [] [2, 4, 5] ?_
    refine an [] [] ?_
    refine Sb 3 [2] 5 fun w14_1 hM14_1 => ?_
    refine EG 2 [] ?_
    refine PG (vs := [.agg #[I (r11_1), .slice (A11_1) ((L11_1).length) (c11_1)]]) (ResV.cell (l := [I (r11_1), .slice (A11_1) ((L11_1).length) (c11_1)]) rfl (mem_blk (i := 5) (j := 0) hM14_1 rfl rfl) el25 rfl ResV.nil) ?_
    have hlx := hl9_11
    try simp only [List.length_append, List.length_cons, List.length_nil] at hlx
    exact ⟨r11_1, (L11_1).set ((k2_4).toNat) p4_, A11_1, c11_1, q19_11, ([⟨.slice (A11_1) ((L11_1).length) (c11_1), 39, 3, ((L11_1).length), ((L11_1).set ((k2_4).toNat) p4_).flatMap encPg⟩] ++ (L11_1).flatMap (pgF 3)) ++ [H9_11], (congrArg (fun z => Value.agg #[I (r11_1), .slice (A11_1) z (c11_1)]) (show (L11_1).length = ((L11_1).set ((k2_4).toNat) p4_).length from by simp)), (sz_set hsz1 (by have h9 := hwk1_1.2.2 _ (List.mem_map.2 ⟨_, List.getElem_mem (show (k2_4).toNat < (L11_1).length by omega), rfl⟩); have e1 : (((L11_1)[(k2_4).toNat]'(by omega))).k.l.length ≤ 5 := h9.1; have e2 : (((L11_1)[(k2_4).toNat]'(by omega))).c.l.length ≤ 6 := h9.2.1; have e3 : (((L11_1)[(k2_4).toNat]'(by omega))).v.l.length ≤ 5 := h9.2.2; refine ⟨?_, ?_, ?_⟩ <;> (first | (show (((L11_1)[(k2_4).toNat]'(by omega))).k.l.length ≤ 1000; omega) | (show (((L11_1)[(k2_4).toNat]'(by omega))).c.l.length ≤ 1000; omega) | (show (((L11_1)[(k2_4).toNat]'(by omega))).v.l.length ≤ 1000; omega) | (show (l19_11).length ≤ 1000; omega)))), (by simp; omega), (by omega), (fun w2 h => TrN.set1 (k := (k2_4).toNat) (X := p4_) (by omega) (fun hn hh => ⟨hn.1, hH9_11 _ hh, hn.2.2⟩) h), Mem.gmrg (Mem.gmrg (hM14_1.pick [0, 3, 4, 1] (by decide) rfl))⟩
  refine cd 5 [] (fun c57 => ?_) (fun c57 => ?_)
  · have hpg := hwk1_1.2.2 _ (List.mem_map.2 ⟨_, List.getElem_mem (show (k2_4).toNat < (L11_1).length by omega), rfl⟩)
    have hpk : (((L11_1)[(k2_4).toNat]'(by omega))).k.l.length ≤ 5 := hpg.1
    have hpc : (((L11_1)[(k2_4).toNat]'(by omega))).c.l.length ≤ 6 := hpg.2.1
    have hpv : (((L11_1)[(k2_4).toNat]'(by omega))).v.l.length ≤ 5 := hpg.2.2
    refine any 0 [] 14 [1, 3, 4] fun w11a hM11a => ?_
    have hx11_7 : (k2_4).toNat < (L11_1).length := (by omega)
    refine av [0, 1, 2, 3, 4, 5, 6] [0, 0] 7 (a := by exact fun _ hw2 => kixF hx11_7 (hM11a.rd 2 rfl) (h0 := by omega)) (b := ?_)
    refine av [] [] 8 (a := by exact fun _ hw2 => kflF hx11_7 (hM11a.rd 2 rfl)) (b := ?_)
    refine aO [] [] 9 ?_
    refine ov 0 [] (a := kldF hx11_7 (hM11a.rd 2 rfl)) (b := ?_)
    refine os 0 [] [1, 3, 4] ?_
    refine aO [] [] 10 ?_
    refine cq 0 [] (vs := [.pointer (ofs (bl gr) (0)), .slice (((L11_1)[(k2_4).toNat]'hx11_7).v.A) ((((L11_1)[(k2_4).toNat]'hx11_7).v.l).length) (((L11_1)[(k2_4).toNat]'hx11_7).v.cp), I (1001)]) (hvs := (by first | rfl | (rw [show (((L11_1)[(k2_4).toNat]'hx11_7).v.l).length = ((L11_1)[(k2_4).toNat]'hx11_7).v.l.length from (by first | rfl | (simp; done) | omega | (simp; omega))]; rfl))) (b := spoil_fn gr rA rc rl ((q11_1 + 1) + 1) (((L11_1)[(k2_4).toNat]'hx11_7).v.A) (((L11_1)[(k2_4).toNat]'hx11_7).v.cp) (((L11_1)[(k2_4).toNat]'hx11_7).v.l) _ w11a (hrA.atR hM11a hro) hro hrl ((NsP.mem hM11a 3 rfl).get hx11_7).2.2 (Off.of_ng (Mem.ngP hM11a 3 0 (by decide) rfl rfl hx11_7 ((L11_1)[(k2_4).toNat]'hx11_7).v (by simp [pgF]))) (hM11a.fp [0] rfl rfl) q0 (by first | omega | (simp only [List.length_append, List.length_cons, List.length_nil]; omega))) (c := ?_)
    rintro _ w11_10 ⟨l111_10, A111_10, c111_10, q111_10, H11_10, rfl, hl11_10, hq11_10, hH11_10, hR11_10⟩
    have hM11_10 := hM11a.cl 1 hR11_10
    refine os 0 [] [2, 4, 5] ?_
    have hx11_11 : (k2_4).toNat < (L11_1).length := (by omega)
    refine av [] [] 11 (a := by exact fun _ hw2 => kixF hx11_11 (hM11_10.rd 3 rfl) (h0 := by omega)) (b := ?_)
    refine av [] [] 12 (a := by exact fun _ hw2 => kflF hx11_11 (hM11_10.rd 3 rfl)) (b := ?_)
    refine aO [] [] 13 ?_
    let p5_ : PgL := (⟨⟨((L11_1)[(k2_4).toNat]'hx11_11).k.A, ((L11_1)[(k2_4).toNat]'hx11_11).k.cp, ((L11_1)[(k2_4).toNat]'hx11_11).k.l⟩, ⟨((L11_1)[(k2_4).toNat]'hx11_11).c.A, ((L11_1)[(k2_4).toNat]'hx11_11).c.cp, ((L11_1)[(k2_4).toNat]'hx11_11).c.l⟩, ⟨A111_10, c111_10, l111_10⟩⟩ : PgL)
    refine sP 0 [] 3 p5_ hx11_11 fun w11_13 hM11_13 => ?_
    refine os 0 [] [2, 4, 5] ?_
    refine an [] [] ?_
    refine Sb 3 [2] 5 fun w14_1 hM14_1 => ?_
    refine EG 2 [] ?_
    refine PG (vs := [.agg #[I (r11_1), .slice (A11_1) ((L11_1).length) (c11_1)]]) (ResV.cell (l := [I (r11_1), .slice (A11_1) ((L11_1).length) (c11_1)]) rfl (mem_blk (i := 5) (j := 0) hM14_1 rfl rfl) el25 rfl ResV.nil) ?_
    have hlx := hl11_10
    try simp only [List.length_append, List.length_cons, List.length_nil] at hlx
    exact ⟨r11_1, (L11_1).set ((k2_4).toNat) p5_, A11_1, c11_1, q111_10, ([⟨.slice (A11_1) ((L11_1).length) (c11_1), 39, 3, ((L11_1).length), ((L11_1).set ((k2_4).toNat) p5_).flatMap encPg⟩] ++ (L11_1).flatMap (pgF 3)) ++ [H11_10], (congrArg (fun z => Value.agg #[I (r11_1), .slice (A11_1) z (c11_1)]) (show (L11_1).length = ((L11_1).set ((k2_4).toNat) p5_).length from by simp)), (sz_set hsz1 (by have h9 := hwk1_1.2.2 _ (List.mem_map.2 ⟨_, List.getElem_mem (show (k2_4).toNat < (L11_1).length by omega), rfl⟩); have e1 : (((L11_1)[(k2_4).toNat]'(by omega))).k.l.length ≤ 5 := h9.1; have e2 : (((L11_1)[(k2_4).toNat]'(by omega))).c.l.length ≤ 6 := h9.2.1; have e3 : (((L11_1)[(k2_4).toNat]'(by omega))).v.l.length ≤ 5 := h9.2.2; refine ⟨?_, ?_, ?_⟩ <;> (first | (show (((L11_1)[(k2_4).toNat]'(by omega))).k.l.length ≤ 1000; omega) | (show (((L11_1)[(k2_4).toNat]'(by omega))).c.l.length ≤ 1000; omega) | (show (((L11_1)[(k2_4).toNat]'(by omega))).v.l.length ≤ 1000; omega) | (show (l111_10).length ≤ 1000; omega)))), (by simp; omega), (by omega), (fun w2 h => TrN.set1 (k := (k2_4).toNat) (X := p5_) (by omega) (fun hn hh => ⟨hn.1, hn.2.1, hH11_10 _ hh⟩) h), Mem.gmrg (Mem.gmrg (hM14_1.pick [0, 3, 4, 1] (by decide) rfl))⟩
  refine cd 5 [] (fun c72 => ?_) (fun c72 => ?_)
  · have hcp13_3 := hM3_1.cap 2 rfl
    refine ov 4 [1] (s := Vl (A11_1) (((L11_1).take ((k2_4).toNat)).length) (c11_1)) (a := by exact cv (Ru.congr (v := .slice (A11_1) ((k2_4).toNat) (c11_1)) (v' := .slice (A11_1) (((L11_1).take ((k2_4).toNat)).length) (c11_1)) (Ru.lsliceTo (h := (k2_4).toNat) Tryd.underlying23 el39 rfl rfl (by omega) (by omega)) (sl_congr (by first | rfl | (simp; done) | omega | (simp; omega)))) rfl) (b := ?_)
    refine Sb 1 [] 1 fun w13_5 hM13_5 => ?_
    refine Sb 4 [1] 4 fun w14_1 hM14_1 => ?_
    refine EG 2 [] ?_
    refine PG (vs := [.agg #[I (r11_1), .slice (A11_1) (((L11_1).take ((k2_4).toNat)).length) (c11_1)]]) (ResV.cell (l := [I (r11_1), .slice (A11_1) (((L11_1).take ((k2_4).toNat)).length) (c11_1)]) rfl (mem_blk (i := 4) (j := 0) hM14_1 rfl rfl) el25 rfl ResV.nil) ?_
    exact ⟨r11_1, (L11_1).take (k2_4).toNat, A11_1, c11_1, (q11_1 + 1) + 1, [⟨.slice (A11_1) ((L11_1).length) (c11_1), 39, 3, ((L11_1).length), (L11_1).flatMap encPg⟩] ++ (L11_1).flatMap (pgF 3), (congrArg (fun z => Value.agg #[I (r11_1), .slice (A11_1) z (c11_1)]) (show ((L11_1).take ((k2_4).toNat)).length = ((L11_1).take (k2_4).toNat).length from by rw [List.length_take, Nat.min_eq_left (by omega)])), (sz_take hsz1), (by rw [List.length_take]; omega), (by omega), (fun w2 h => TrN.take (r := r11_1) (T := ⟨0, A11_1, c11_1, L11_1⟩) (TrN.ofown h) _), Mem.gmrg (hM14_1.pick [0, 2, 3] (by decide) rfl)⟩
  refine Sb 4 [1] 4 fun w14_1 hM14_1 => ?_
  refine EG 2 [] ?_
  refine PG (vs := [.agg #[I (r11_1), .slice (A11_1) ((L11_1).length) (c11_1)]]) (ResV.cell (l := [I (r11_1), .slice (A11_1) ((L11_1).length) (c11_1)]) rfl (mem_blk (i := 4) (j := 0) hM14_1 rfl rfl) el25 rfl ResV.nil) ?_
  exact ⟨r11_1, L11_1, A11_1, c11_1, (q11_1 + 1) + 1, [⟨.slice (A11_1) ((L11_1).length) (c11_1), 39, 3, ((L11_1).length), (L11_1).flatMap encPg⟩] ++ (L11_1).flatMap (pgF 3), (by first | rfl | (simp; done)), (sz_root hsz1), (by omega), (by omega), (fun w2 h => TrN.ofown h), Mem.gmrg (hM14_1.pick [0, 2, 3] (by decide) rfl)⟩
theorem DrawFormatTree_fn (A : Option Addr) (c : Nat) (l : List UInt8) (w : World) (hA : Rd w A ((l).map byteV)) (hl : l.length ≤ 1048576) (hc : l.length ≤ c) :
    Does Tryd.prog 6 [.slice (A) ((l).length) (c)] w (fun v w1 => ∃ (r1 : Int) (L1 : List PgL) (A1 : Option Addr) (c1 : Nat) (G : List FE), v = .agg #[I (r1), .slice (A1) ((L1).length) (c1)] ∧ (SzT ⟨r1, A1, c1, L1⟩) ∧ ((L1).length ≤ 64) ∧ (∀ w2, (∀ f ∈ G, f.own w2) → TrN w2 ⟨r1, A1, c1, L1⟩) ∧ Mem w w1 [] [G]) := by
  have hM : Mem w w [] [] := Mem.refl
  refine Does.nG (rs := [.cell 2 25]) Tryd.func6 rfl Tryd.results6 Tryd.ntmps6 rfl ?_
  refine Al 2 [] fun w0_0 b0_0 hb0_0 hM0_0 => ?_
  refine cq 4 [] (b := newReader_fn _ _ _ w0_0 (hA.at hM0_0) q0 q0) (c := ?_)
  rintro _ w1_1 ⟨gr1_1, l11_1, rfl, hl11_1, hlen1_1, hR1_1⟩
  have hM1_1 := hM0_0.cl 0 hR1_1
  have hrA : Rd w A (List.map byteV l11_1) := by rcases hl11_1 with h | h <;> rw [h]; exact hA; exact rd_take1 hA
  have hrl := hlen1_1
  refine cq 0 [] (b := anyTree_fn gr1_1 A c l11_1 0 w1_1 (hrA.at hM1_1) (Mem.ng_old hM1_1 hrA 0 rfl) hrl (hM1_1.fp [0] rfl rfl) q0) (c := ?_)
  rintro _ w1_2 ⟨r11_2, L11_2, A11_2, c11_2, q11_2, G1_2, rfl, hz1_2, hll1_2, hq1_2, hG1_2, hR1_2⟩
  have hM1_2 := hM1_1.cl 1 hR1_2
  refine Sb 0 [] 2 fun w1_3 hM1_3 => ?_
  refine EG 2 [] ?_
  refine PG (vs := [.agg #[I (r11_2), .slice (A11_2) ((L11_2).length) (c11_2)]]) (ResV.cell (l := [I (r11_2), .slice (A11_2) ((L11_2).length) (c11_2)]) rfl (mem_blk (i := 2) (j := 0) hM1_3 rfl rfl) el25 rfl ResV.nil) ?_
  exact ⟨r11_2, L11_2, A11_2, c11_2, G1_2, (by first | rfl | exact sl_congr (by first | omega | (simp; done) | (simp; omega)) | (simp; done)), hz1_2, hll1_2, hG1_2, (hM1_3.pk [1])⟩
theorem DrawRenumberTree_fn (A : Option Addr) (c : Nat) (l : List UInt8) (w : World) (hA : Rd w A ((l).map byteV)) (hl : l.length ≤ 1048576) (hc : l.length ≤ c) :
    Does Tryd.prog 13 [.slice (A) ((l).length) (c)] w (fun v w1 => ∃ (r1 : Int) (L1 : List PgL) (A1 : Option Addr) (c1 : Nat) (G : List FE), v = .agg #[I (r1), .slice (A1) ((L1).length) (c1)] ∧ (SzT ⟨r1, A1, c1, L1⟩) ∧ ((L1).length ≤ 64) ∧ (∀ w2, (∀ f ∈ G, f.own w2) → TrN w2 ⟨r1, A1, c1, L1⟩) ∧ Mem w w1 [] [G]) := by
  have hM : Mem w w [] [] := Mem.refl
  refine Does.nG (rs := [.cell 2 25]) Tryd.func13 rfl Tryd.results13 Tryd.ntmps13 rfl ?_
  refine Al 2 [] fun w0_0 b0_0 hb0_0 hM0_0 => ?_
  refine cq 4 [] (b := newReader_fn _ _ _ w0_0 (hA.at hM0_0) q0 q0) (c := ?_)
  rintro _ w1_1 ⟨gr1_1, l11_1, rfl, hl11_1, hlen1_1, hR1_1⟩
  have hM1_1 := hM0_0.cl 0 hR1_1
  have hrA : Rd w A (List.map byteV l11_1) := by rcases hl11_1 with h | h <;> rw [h]; exact hA; exact rd_take1 hA
  have hrl := hlen1_1
  refine cq 0 [] (b := anyTree_fn gr1_1 A c l11_1 0 w1_1 (hrA.at hM1_1) (Mem.ng_old hM1_1 hrA 0 rfl) hrl (hM1_1.fp [0] rfl rfl) q0) (c := ?_)
  rintro _ w1_2 ⟨r11_2, L11_2, A11_2, c11_2, q11_2, G1_2, rfl, hz1_2, hll1_2, hq1_2, hG1_2, hR1_2⟩
  have hM1_2 := hM1_1.cl 1 hR1_2
  refine Sb 0 [] 2 fun w1_3 hM1_3 => ?_
  refine EG 2 [] ?_
  refine PG (vs := [.agg #[I (r11_2), .slice (A11_2) ((L11_2).length) (c11_2)]]) (ResV.cell (l := [I (r11_2), .slice (A11_2) ((L11_2).length) (c11_2)]) rfl (mem_blk (i := 2) (j := 0) hM1_3 rfl rfl) el25 rfl ResV.nil) ?_
  exact ⟨r11_2, L11_2, A11_2, c11_2, G1_2, (by first | rfl | exact sl_congr (by first | omega | (simp; done) | (simp; omega)) | (simp; done)), hz1_2, hll1_2, hG1_2, (hM1_3.pk [1])⟩
end Go.Proofs.YtemejgglbhjodaaDoor
end
section
namespace Go.Proofs.YtemejgglbhjodaaDoor
open Go.Px
theorem leavesBelow0_fn : ∀ (T : TreeL) (at0 : Int) (A : Option Addr) (c : Nat) (l : List Int) (w : World) (hNT : TrN w T) (hOT : TrO T [(Value.slice (A) ((l).length) (c)).ownBlock]) (hM : Mem w w [(Value.slice (A) ((l).length) (c)).ownBlock] [[⟨.slice (A) ((l).length) (c), 3, 1, ((l).length), (l).map I⟩]]) (hs : SzT T) (hsm : ∀ p ∈ (T).t.pages, smallP p) (hok : wkB (T).t 0 at0) (h3 : 0 ≤ 3) (hl9 : l.length ≤ 1000 * (4 - 0)), Does Tryd.prog 25 [.agg #[I ((T).root), .slice ((T).A) ((T).l.length) ((T).cp)], I (at0), .slice (A) ((l).length) (c)] w (fun v w1 => ∃ (A1 : Option Addr) (c1 : Nat), v = .slice (A1) ((l ++ leavesB (T).t 0 at0).length) (c1) ∧ Mem w w1 [(Value.slice (A) ((l).length) (c)).ownBlock] [[⟨.slice (A1) ((l ++ leavesB (T).t 0 at0).length) (c1), 3, 1, ((l ++ leavesB (T).t 0 at0).length), (l ++ leavesB (T).t 0 at0).map I⟩]]) := by
  intro T at0 A c l w hNT hOT hM hs hsm hok h3 hl9; exact hok.elim
set_option maxHeartbeats 2000000 in
theorem leavesBelowS_fn (n : Nat) (ih_fn : ∀ (T : TreeL) (at0 : Int) (A : Option Addr) (c : Nat) (l : List Int) (w : World) (hNT : TrN w T) (hOT : TrO T [(Value.slice (A) ((l).length) (c)).ownBlock]) (hM : Mem w w [(Value.slice (A) ((l).length) (c)).ownBlock] [[⟨.slice (A) ((l).length) (c), 3, 1, ((l).length), (l).map I⟩]]) (hs : SzT T) (hsm : ∀ p ∈ (T).t.pages, smallP p) (hok : wkB (T).t n at0) (h3 : n ≤ 3) (hl9 : l.length ≤ 1000 * (4 - n)), Does Tryd.prog 25 [.agg #[I ((T).root), .slice ((T).A) ((T).l.length) ((T).cp)], I (at0), .slice (A) ((l).length) (c)] w (fun v w1 => ∃ (A1 : Option Addr) (c1 : Nat), v = .slice (A1) ((l ++ leavesB (T).t n at0).length) (c1) ∧ Mem w w1 [(Value.slice (A) ((l).length) (c)).ownBlock] [[⟨.slice (A1) ((l ++ leavesB (T).t n at0).length) (c1), 3, 1, ((l ++ leavesB (T).t n at0).length), (l ++ leavesB (T).t n at0).map I⟩]])) (T : TreeL) (at0 : Int) (A : Option Addr) (c : Nat) (l : List Int) (w : World) (hNT : TrN w T) (hOT : TrO T [(Value.slice (A) ((l).length) (c)).ownBlock]) (hM : Mem w w [(Value.slice (A) ((l).length) (c)).ownBlock] [[⟨.slice (A) ((l).length) (c), 3, 1, ((l).length), (l).map I⟩]]) (hs : SzT T) (hsm : ∀ p ∈ (T).t.pages, smallP p) (hok : wkB (T).t (n + 1) at0) (h3 : (n + 1) ≤ 3) (hl9 : l.length ≤ 1000 * (4 - (n + 1))) :
    Does Tryd.prog 25 [.agg #[I ((T).root), .slice ((T).A) ((T).l.length) ((T).cp)], I (at0), .slice (A) ((l).length) (c)] w (fun v w1 => ∃ (A1 : Option Addr) (c1 : Nat), v = .slice (A1) ((l ++ leavesB (T).t (n + 1) at0).length) (c1) ∧ Mem w w1 [(Value.slice (A) ((l).length) (c)).ownBlock] [[⟨.slice (A1) ((l ++ leavesB (T).t (n + 1) at0).length) (c1), 3, 1, ((l ++ leavesB (T).t (n + 1) at0).length), (l ++ leavesB (T).t (n + 1) at0).map I⟩]]) := by
  refine Does.n1 Tryd.func25 rfl Tryd.results25 Tryd.ntmps25 rfl ?_
  have hat := inT_t.1 hok.1
  have hjx : (at0).toNat < (T).l.length := by omega
  have hki : (gP (T).t at0).kids = ((T).l[(at0).toNat]'hjx).c.l := by rw [gP_at rfl hjx]; rfl
  have hsz := hs.at hjx
  have hsl := wk_len3 hsm hok h3
  have hll := leaf_len (T := (T).t) (d := n + 1) (i := at0)
  refine Bx 2 [] fun w0_0 b0_0 hb0_0 hM0_0 => ?_
  have hx1_3 : (at0).toNat < ((T).l).length := (by first | omega | (simp; omega))
  refine ov 8 [0] (a := kixF hx1_3 (hNT.atR hM0_0 hOT).1) (b := ?_)
  refine ov 0 [] (a := kflF hx1_3 (hNT.atR hM0_0 hOT).1) (b := ?_)
  refine ov 0 [] (a := kldF hx1_3 (hNT.atR hM0_0 hOT).1) (b := ?_)
  refine cd 3 [] (fun c16 => ?_) (fun c16 => ?_)
  · have hle := leavesB_leaf (T := (T).t) (d := n) (i := at0) (by rw [hki]; exact List.eq_nil_of_length_eq_zero (by omega))
    refine Lt 4 [] (([at0]).map I) (fun w2_2 b2_2 hb2_2 hM2_2 => ?_)
    refine aM 0 [] 2 (hM2_2.rd 0 rfl) (fun w2_3 A2_3 c2_3 hc2_3 hM2_3 => ?_) (hn := by first | omega | (simp only [List.length_append, List.length_cons, List.length_nil]; omega)) (hb := by first | omega | (simp only [List.length_append, List.length_cons, List.length_nil]; omega))
    refine E1 3 [] (.slice (A2_3) ((l ++ [at0]).length) (c2_3)) ?_
    have hq1 : (l ++ [at0] : List Int) = l ++ leavesB (T).t (n + 1) at0 := (by rw [hle])
    have hMn1 := hM2_3.reM 2 hq1
    exact ⟨A2_3, c2_3, (sl_congr (by rw [hle])), (hMn1.pk [2])⟩
  have hle := leavesB_in (T := (T).t) (d := n) (i := at0) (by rw [hki]; intro e9; exact absurd (congrArg List.length e9) (by simp only [List.length_nil]; omega))
  rw [hki] at hle
  have hx3_3 : (at0).toNat < ((T).l).length := (by first | omega | (simp; omega))
  refine ov 7 [0] (a := kixF hx3_3 (hNT.atR hM0_0 hOT).1) (b := ?_)
  refine ov 0 [] (a := kflF hx3_3 (hNT.atR hM0_0 hOT).1) (b := ?_)
  refine ov 0 [] (a := kldF hx3_3 (hNT.atR hM0_0 hOT).1) (b := ?_)
  have hq2 : (l : List Int) = l ++ ((((T).l[(at0).toNat]'hjx).c.l).take 0).flatMap (leavesB (T).t n) := (by simp)
  have hMn2 := hM0_0.reM 1 hq2
  refine lp3 4 [] (fun (k : Nat) (A2 : Option Addr) (c2 : Nat) => ([(2, Vl (A2) ((l ++ ((((T).l[(at0).toNat]'hjx).c.l).take k).flatMap (leavesB (T).t n)).length) (c2)), (28, Vi (((k : Nat) : Int)))] : List (Nat × SV))) (fun (k : Nat) (A2 : Option Addr) (c2 : Nat) => (k ≤ (((T).l[(at0).toNat]'hjx).c.l).length)) (fun (k : Nat) (A2 : Option Addr) (c2 : Nat) => [[⟨.slice (A2) ((l ++ ((((T).l[(at0).toNat]'hjx).c.l).take k).flatMap (leavesB (T).t n)).length) (c2), 3, 1, ((l ++ ((((T).l[(at0).toNat]'hjx).c.l).take k).flatMap (leavesB (T).t n)).length), (l ++ ((((T).l[(at0).toNat]'hjx).c.l).take k).flatMap (leavesB (T).t n)).map I⟩]]) (fun (k : Nat) (A2 : Option Addr) (c2 : Nat) => (((T).l[(at0).toNat]'hjx).c.l).length - k) [3, 26, 27] [1] [0] 0 A c (fun k A2 c2 σ w_l4 hI hM_l4 => ?_) (h0 := (Nat.zero_le _))
  have hi0_l4 := hI
  have hcl0_l4 := (hM_l4.cap 0 rfl).1
  refine cd 5 [] (fun c29 => ?_) (fun c29 => ?_)
  · have hx5_0 : k < ((((T).l)[(at0).toNat]'hx3_3).c.l).length := (by omega)
    refine ov 5 [] (a := kixM hx5_0 (((hNT.atR hM_l4 hOT)).2.get hx3_3).2.1 (h0 := by omega)) (b := ?_)
    have hok1 := wk_step hok (k := k) (by rw [hki]; exact hx5_0)
    simp only [hki] at hok1
    have hfs := flat_snoc (f := leavesB (T).t n) hx5_0
    refine ov 0 [] (a := kldM hx5_0 (((hNT.atR hM_l4 hOT)).2.get hx3_3).2.1) (b := ?_)
    refine cq 6 [1] (b := ih_fn T _ _ _ _ w_l4 (hNT.atR hM_l4 hOT) (TrO.cons (TrO.own hM_l4 hNT hOT 0 rfl) TrO.nil) (hM_l4.fp [0] rfl rfl) q0 (by exact hsm) (by exact hok1) qo (by (rw [List.length_append]; have h8 := congrArg List.length hle; have h7 := flat_le (f := leavesB (T).t n) hx5_0; rw [← hfs, List.length_append] at h7; omega))) (c := ?_)
    rintro _ w6_3 ⟨A16_3, c16_3, rfl, hR6_3⟩
    have hM6_3 := hM_l4.cl 1 hR6_3
    have hcr6_3_0 := (hM6_3.cap 0 rfl).1
    refine ov 3 [] (a := kaddN (k + 1)) (b := ?_)
    have hq3 : ((l ++ ((((T).l[(at0).toNat]'hjx).c.l).take k).flatMap (leavesB (T).t n)) ++ leavesB (T).t n (((((T).l)[(at0).toNat]'hx3_3).c.l)[k]'hx5_0) : List Int) = l ++ ((((T).l[(at0).toNat]'hjx).c.l).take (k + 1)).flatMap (leavesB (T).t n) := (by rw [← hfs, List.append_assoc])
    have hMn3 := hM6_3.reM 0 hq3
    exact le3 2 [] (k + 1) A16_3 c16_3 [0, 1] (h := by exact (by (try dsimp only); omega))
  refine E1 7 [] (.slice (A2) ((l ++ ((((T).l[(at0).toNat]'hjx).c.l).take k).flatMap (leavesB (T).t n)).length) (c2)) ?_
  have hkk : (((T).l[(at0).toNat]'hjx).c.l).take k = ((T).l[(at0).toNat]'hjx).c.l := List.take_of_length_le (by omega)
  have hq4 : (l ++ ((((T).l[(at0).toNat]'hjx).c.l).take k).flatMap (leavesB (T).t n) : List Int) = l ++ leavesB (T).t (n + 1) at0 := (by rw [hle, hkk])
  have hMn4 := hM_l4.reM 0 hq4
  exact ⟨A2, c2, (sl_congr (by rw [hle, hkk])), (hMn4.pk [0])⟩
theorem leavesBelow_fn : ∀ (n : Nat), ∀ (T : TreeL) (at0 : Int) (A : Option Addr) (c : Nat) (l : List Int) (w : World) (hNT : TrN w T) (hOT : TrO T [(Value.slice (A) ((l).length) (c)).ownBlock]) (hM : Mem w w [(Value.slice (A) ((l).length) (c)).ownBlock] [[⟨.slice (A) ((l).length) (c), 3, 1, ((l).length), (l).map I⟩]]) (hs : SzT T) (hsm : ∀ p ∈ (T).t.pages, smallP p) (hok : wkB (T).t n at0) (h3 : n ≤ 3) (hl9 : l.length ≤ 1000 * (4 - n)), Does Tryd.prog 25 [.agg #[I ((T).root), .slice ((T).A) ((T).l.length) ((T).cp)], I (at0), .slice (A) ((l).length) (c)] w (fun v w1 => ∃ (A1 : Option Addr) (c1 : Nat), v = .slice (A1) ((l ++ leavesB (T).t n at0).length) (c1) ∧ Mem w w1 [(Value.slice (A) ((l).length) (c)).ownBlock] [[⟨.slice (A1) ((l ++ leavesB (T).t n at0).length) (c1), 3, 1, ((l ++ leavesB (T).t n at0).length), (l ++ leavesB (T).t n at0).map I⟩]]) := by
  intro n
  induction n with
  | zero => exact leavesBelow0_fn
  | succ n ih => exact leavesBelowS_fn n ih
theorem LeavesOf_fn (T : TreeL) (w : World) (hNT : TrN w T) (hs : SzT T) :
    Does Tryd.prog 10 [.agg #[I ((T).root), .slice ((T).A) ((T).l.length) ((T).cp)]] w (fun v w1 => ∃ (A1 : Option Addr) (c1 : Nat), v = .slice (A1) (((leavesI (T).t)).length) (c1) ∧ Mem w w1 [] [[⟨.slice (A1) (((leavesI (T).t)).length) (c1), 3, 1, (((leavesI (T).t)).length), ((leavesI (T).t)).map I⟩]]) := by
  have hM : Mem w w [] [] := Mem.refl
  refine Does.n1 Tryd.func10 rfl Tryd.results10 Tryd.ntmps10 rfl ?_
  refine Bx 2 [] fun w0_0 b0_0 hb0_0 hM0_0 => ?_
  refine cp 6 [0] (b := ValidTree_fn T w0_0 (hNT.at hM0_0) q0) (c := fun w1_1 hM1_1 => ?_)
  refine cn 2 [] (fun c5 => ?_) (fun c5 => ?_)
  · have hv : validT (T).t = false := by simpa using c5
    have hli : leavesI (T).t = [] := by unfold leavesI; rw [hv]; rfl
    refine E1 5 [] (.slice (none) (0) (0)) ?_
    have hMn1 := Mem.addNil (e := 3) (sz := 1) hM1_1
    have hq2 : ([] : List Int) = (leavesI (T).t) := (by rw [hli])
    have hMn2 := hMn1.reM 0 hq2 (f := I)
    exact ⟨none, 0, (sl_congr (by rw [hli]; rfl)), (hMn2.pk [0])⟩
  have hv : validT (T).t = true := by simpa using c5
  have hwk := valid_WK hv
  have hli : leavesI (T).t = leavesK (T).t := by unfold leavesI; rw [hv]; rfl
  have hMn3 := Mem.addNil (e := 3) (sz := 1) hM1_1
  refine cq 6 [1, 1] (b := leavesBelow_fn 3 T _ none 0 [] w1_1 (hNT.at hMn3) (TrO.cons (TrO.old hMn3 hNT 0 rfl) TrO.nil) (hMn3.fp [0] rfl rfl) q0 (by exact hwk.2.2) (by exact hwk.1) qo (by simp)) (c := ?_)
  rintro _ w3_3 ⟨A13_3, c13_3, rfl, hR3_3⟩
  have hM3_3 := hMn3.cl 1 hR3_3
  have hcr3_3_0 := (hM3_3.cap 0 rfl).1
  refine E1 3 [] (.slice (A13_3) (([] ++ leavesB (T).t 3 ((T).root)).length) (c13_3)) ?_
  have hq4 : ([] ++ leavesB (T).t 3 ((T).root) : List Int) = (leavesI (T).t) := (by rw [hli]; rfl)
  have hMn4 := hM3_3.reM 0 hq4
  exact ⟨A13_3, c13_3, (sl_congr (by rw [hli]; rfl)), (hMn4.pk [0])⟩
set_option maxHeartbeats 2000000 in
theorem PairsOf_fn (T : TreeL) (w : World) (hNT : TrN w T) (hs : SzT T) :
    Does Tryd.prog 11 [.agg #[I ((T).root), .slice ((T).A) ((T).l.length) ((T).cp)]] w (fun v w1 => ∃ (A1 : Option Addr) (c1 : Nat), v = .slice (A1) (((pairsI (T).t)).length) (c1) ∧ Mem w w1 [] [[⟨.slice (A1) (((pairsI (T).t)).length) (c1), 57, 2, (((pairsI (T).t)).length), ((pairsI (T).t)).flatMap encP⟩]]) := by
  have hM : Mem w w [] [] := Mem.refl
  refine Does.n1 Tryd.func11 rfl Tryd.results11 Tryd.ntmps11 rfl ?_
  refine Bx 2 [] fun w0_0 b0_0 hb0_0 hM0_0 => ?_
  refine cq 10 [0] (b := LeavesOf_fn T w0_0 (hNT.at hM0_0) q0) (c := ?_)
  rintro _ w2_1 ⟨A12_1, c12_1, rfl, hR2_1⟩
  have hM2_1 := hM0_0.cl 0 hR2_1
  have hcr2_1_0 := (hM2_1.cap 0 rfl).1
  have hMn1 := Mem.addNil (e := 57) (sz := 2) hM2_1
  have hq2 : ([] : List PairT) = pairsOn (T).t ((leavesI (T).t).take 0) := (by simp [pairsOn])
  have hMn2 := hMn1.reF 0 hq2 (f := encP)
  refine lp3 4 [] (fun (k : Nat) (A2 : Option Addr) (c2 : Nat) => ([(3, Vl (A2) ((pairsOn (T).t ((leavesI (T).t).take k)).length) (c2)), (9, Vi (((k : Nat) : Int)))] : List (Nat × SV))) (fun (k : Nat) (A2 : Option Addr) (c2 : Nat) => (k ≤ (leavesI (T).t).length)) (fun (k : Nat) (A2 : Option Addr) (c2 : Nat) => [[⟨.slice (A2) ((pairsOn (T).t ((leavesI (T).t).take k)).length) (c2), 57, 2, ((pairsOn (T).t ((leavesI (T).t).take k)).length), (pairsOn (T).t ((leavesI (T).t).take k)).flatMap encP⟩]]) (fun (k : Nat) (A2 : Option Addr) (c2 : Nat) => (leavesI (T).t).length - k) [1, 7, 8] [0] [1, 2] 0 none 0 (fun k A2 c2 σ w_l3 hI hM_l3 => ?_) (h0 := (Nat.zero_le _))
  have hi0_l3 := hI
  have hcl0_l3 := (hM_l3.cap 0 rfl).1
  have hcl1_l3 := (hM_l3.cap 1 rfl).1
  refine cd 5 [] (fun c10 => ?_) (fun c10 => ?_)
  · have hkx : k < (leavesI (T).t).length := by omega
    have hv : validT (T).t = true := by cases h9 : validT (T).t with | true => rfl | false => (exfalso; unfold leavesI at hkx; rw [h9] at hkx; simp at hkx)
    have hwk := valid_WK hv
    have hli : leavesI (T).t = leavesK (T).t := by unfold leavesI; rw [hv]; rfl
    obtain ⟨x9, hx9⟩ : ∃ z, z = (leavesI (T).t)[k]'hkx := ⟨_, rfl⟩
    have hxm : x9 ∈ leavesK (T).t := by rw [hx9, ← hli]; exact List.getElem_mem hkx
    have hmx := wk_mem hwk.1 (List.mem_filter.1 hxm).1
    have hxi := inT_t.1 hmx.1
    have hjx : (x9).toNat < (T).l.length := by omega
    have hgx : gP (T).t x9 = ((T).l[(x9).toNat]'hjx).t := gP_at rfl hjx
    have hxv := hmx.2 (by have h9 := (List.mem_filter.1 hxm).2; unfold isLf at h9; exact of_decide_eq_true h9)
    rw [hgx] at hxv
    have hxv : ((T).l[(x9).toNat]'hjx).v.l.length = ((T).l[(x9).toNat]'hjx).k.l.length := hxv
    have hsx := small_at hwk.2.2 hmx.1
    rw [hgx] at hsx
    have hk5 : ((T).l[(x9).toNat]'hjx).k.l.length ≤ 5 := hsx.1
    have hpt := pairsOn_take (T := (T).t) hkx
    rw [← hx9, hgx] at hpt
    have hsl := wk_len3 hwk.2.2 hwk.1 (by omega)
    have hll : (leavesI (T).t).length ≤ 343 := by rw [hli]; exact Nat.le_trans leaf_len hsl
    have hpl := pairsOn_len hwk.2.2 (l := (leavesI (T).t).take k) (fun x hx => (wk_mem hwk.1 (List.mem_filter.1 (by rw [← leavesB, ← leavesK, ← hli]; exact List.mem_of_mem_take hx)).1).1)
    rw [List.length_take, Nat.min_eq_left (by omega)] at hpl
    have hx4_0 : k < ((leavesI (T).t)).length := hkx
    refine ov 5 [] (a := kixM hx4_0 (hM_l3.rd 1 rfl) (h0 := by omega)) (b := ?_)
    refine ov 0 [] (s := Vi (x9)) (a := by exact cv (Ru.congr (v := I (((leavesI (T).t))[k]'hx4_0)) (v' := I (x9)) (Ru.load1 el3 rfl (ldm (hM_l3.rd 1 rfl) hx4_0)) ((I_congr hx9.symm))) rfl) (b := ?_)
    have hx5_4 : (x9).toNat < ((T).l).length := (by omega)
    refine ov 7 [2] (a := kixF hx5_4 (hNT.at hM_l3).1 (h0 := by omega)) (b := ?_)
    refine ov 0 [] (a := kldN hx5_4 (hNT.at hM_l3).1) (b := ?_)
    refine cq 0 [] (b := pairsOfLeaf_fn (((T).l)[(x9).toNat]'hx5_4) w_l3 (((hNT.at hM_l3)).2.get hx5_4) qo (by exact hxv)) (c := ?_)
    rintro _ w5_6 ⟨A15_6, c15_6, rfl, hR5_6⟩
    have hM5_6 := hM_l3.cl 0 hR5_6
    have hcr5_6_0 := (hM5_6.cap 0 rfl).1
    refine aF 0 [] 1 (hM5_6.rd 0 rfl) (fun w5_7 A5_7 c5_7 hc5_7 hM5_7 => ?_) (hn := by first | omega | (simp only [List.length_append, prs_lenG]; omega)) (hb := by first | omega | (simp only [List.length_append, prs_lenG]; omega))
    refine ov 3 [] (a := kaddN (k + 1)) (b := ?_)
    have hq3 : (pairsOn (T).t ((leavesI (T).t).take k) ++ prsP ((((T).l)[(x9).toNat]'hx5_4)).t : List PairT) = pairsOn (T).t ((leavesI (T).t).take (k + 1)) := hpt.symm
    have hMn3 := hM5_7.reF 1 hq3
    exact le3 2 [] (k + 1) A5_7 c5_7 [1, 2, 3] (h := by exact (by (try dsimp only); omega))
  refine E1 7 [] (.slice (A2) ((pairsOn (T).t ((leavesI (T).t).take k)).length) (c2)) ?_
  have hq4 : (pairsOn (T).t ((leavesI (T).t).take k) : List PairT) = (pairsI (T).t) := (by rw [List.take_of_length_le (by omega)]; rfl)
  have hMn4 := hM_l3.reF 0 hq4
  exact ⟨A2, c2, (sl_congr (by rw [List.take_of_length_le (by omega)]; rfl)), (hMn4.pk [0])⟩
end Go.Proofs.YtemejgglbhjodaaDoor
end
section
namespace Go.Proofs.YtemejgglbhjodaaDoor
open Go.Px
set_option maxHeartbeats 2000000 in
theorem icopyTree_fn (T : TreeL) (w : World) (hNT : TrN w T) (hs : SzT T) :
    Does Tryd.prog 32 [.agg #[I ((T).root), .slice ((T).A) ((T).l.length) ((T).cp)]] w (fun v w1 => ∃ (L1 : List PgL) (A1 : Option Addr) (c1 : Nat), v = .agg #[I ((T).root), .slice (A1) ((L1).length) (c1)] ∧ (tsG L1 = tsG (T).l) ∧ Mem w w1 [] [[⟨.slice (A1) ((L1).length) (c1), 39, 3, ((L1).length), (L1).flatMap encPg⟩], (L1).flatMap (pgF 3)]) := by
  have hM : Mem w w [] [] := Mem.refl
  refine Does.nG (rs := [.cell 2 25]) Tryd.func32 rfl Tryd.results32 Tryd.ntmps32 rfl ?_
  have hs1 := hs.1
  refine Bx 2 [] fun w0_0 b0_0 hb0_0 hM0_0 => ?_
  refine Al 0 [] fun w0_1 b0_1 hb0_1 hM0_1 => ?_
  refine any 2 [] 9 [0, 1] fun w1a hM1a => ?_
  refine aT [0, 1, 2, 3, 4] [1, 1] 5 7 ?_ ?_
  · refine O.mmake (k := (T).l.length) (sz := 3) (xs := (List.replicate ((T).l.length) (⟨⟨none, 0, []⟩, ⟨none, 0, []⟩, ⟨none, 0, []⟩⟩ : PgL)).flatMap encPg) hM1a rfl Tryd.underlying23 el39 rfl rfl rfl rfl (by omega) (by omega) (zer_flat rfl) (fun w1_5 b1_5 hb1_5 hM1_5 => ?_)
    refine os 0 [] [1, 2] ?_
    refine aO [6] [] 7 ?_
    refine Al 0 [] fun w1_7 b1_7 hb1_7 hM1_7 => ?_
    refine os 0 [] [2, 3] ?_
    refine aO [] [] 8 ?_
    refine Sb 0 [] 0 fun w1_8 hM1_8 => ?_
    refine os 0 [] [2, 3] ?_
    refine an [] [] ?_
    have hMk1 := Mem.gnil (e := 3) hM1_8
    have hq2 : (List.replicate ((T).l.length) (⟨⟨none, 0, []⟩, ⟨none, 0, []⟩, ⟨none, 0, []⟩⟩ : PgL) : List PgL) = ([] : List PgL) ++ List.replicate ((T).l.length - 0) (⟨⟨none, 0, []⟩, ⟨none, 0, []⟩, ⟨none, 0, []⟩⟩ : PgL) := (by simp)
    have hMn2 : Mem w w1_8 [] [(([] : List PgL)).flatMap (pgF 3), [⟨.slice (bl b1_7) 1 1, 25, 2, 1, [I ((T).root), .slice (bl b1_5) ((T).l.length) ((T).l.length)]⟩], [⟨.slice (bl b1_5) ((T).l.length) ((T).l.length), 39, 3, ((T).l.length), (([] : List PgL) ++ List.replicate ((T).l.length - 0) (⟨⟨none, 0, []⟩, ⟨none, 0, []⟩, ⟨none, 0, []⟩⟩ : PgL)).flatMap encPg⟩], [⟨.slice (bl b0_1) 1 1, 25, 2, 1, [I (0), .slice (none) (0) (0)]⟩], [⟨.slice (bl b0_0) 1 1, 25, 2, 1, [I ((T).root), .slice ((T).A) ((T).l.length) ((T).cp)]⟩]] := hMk1.relen 2 (n' := (T).l.length) (xs' := (([] : List PgL) ++ List.replicate ((T).l.length - 0) (⟨⟨none, 0, []⟩, ⟨none, 0, []⟩, ⟨none, 0, []⟩⟩ : PgL)).flatMap encPg) rfl (by first | rfl | exact congrArg List.length hq2 | (have hqq := congrArg List.length hq2; first | omega | (simp at hqq ⊢; omega)) | (simp; done) | (simp; omega)) (congrArg (fun z_ => (z_).flatMap encPg) hq2) rfl
    refine lp2 9 [4] (fun (k : Nat) (Ch : List PgL) => ([(16, Vi (((k : Nat) : Int)))] : List (Nat × SV))) (fun (k : Nat) (Ch : List PgL) => (k ≤ (T).l.length) ∧ (tsG Ch = (tsG (T).l).take k)) (fun (k : Nat) (Ch : List PgL) => [(Ch).flatMap (pgF 3), [⟨.slice (bl b1_5) ((T).l.length) ((T).l.length), 39, 3, ((T).l.length), (Ch ++ List.replicate ((T).l.length - k) (⟨⟨none, 0, []⟩, ⟨none, 0, []⟩, ⟨none, 0, []⟩⟩ : PgL)).flatMap encPg⟩]]) (fun (k : Nat) (Ch : List PgL) => (T).l.length - k) [2, 3, 14, 15] [0, 2] [1, 3, 4] 0 (([] : List PgL) : List PgL) (fun k Ch σ w_l3 hI hM_l3 => ?_) (h0 := ⟨(Nat.zero_le _), (by (try dsimp only); simp)⟩)
    obtain ⟨hi0_l3, hi1_l3⟩ := hI
    have hcl1_l3 := (hM_l3.cap 1 rfl).1
    have hCl := tsg_len hi1_l3 hi0_l3
    refine cd 5 [] (fun c17 => ?_) (fun c17 => ?_)
    · have hx4_1 : k < ((T).l).length := (by first | omega | (simp; omega))
      refine ov 6 [] (a := kixF hx4_1 (hNT.at hM_l3).1) (b := ?_)
      refine ov 0 [] (a := kldN hx4_1 (hNT.at hM_l3).1) (b := ?_)
      refine Al 0 [] fun w4_3 b4_3 hb4_3 hM4_3 => ?_
      refine Sb 1 [] 0 fun w4_5 hM4_5 => ?_
      refine any 1 [] 15 [0, 1, 3, 4, 5] fun w5a hM5a => ?_
      refine aO [0, 1, 2, 3, 4, 6, 7, 9, 10] [2, 0, 0, 0] 5 ?_
      refine cq 0 [] (vs := [.slice ((((T).l)[k]'hx4_1).k.A) (((((T).l)[k]'hx4_1).k.l).length) ((((T).l)[k]'hx4_1).k.cp)]) (hvs := (by first | rfl | (rw [show ((((T).l)[k]'hx4_1).k.l).length = (((T).l)[k]'hx4_1).k.l.length from (by first | rfl | (simp; done) | omega | (simp; omega))]; rfl))) (b := Cloneint_fn ((((T).l)[k]'hx4_1).k.A) ((((T).l)[k]'hx4_1).k.cp) ((((T).l)[k]'hx4_1).k.l) w5a (((hNT.at hM5a)).2.get hx4_1).1 (by exact (hs.at hx4_1).1)) (c := ?_)
      rintro _ w5_5 ⟨A15_5, c15_5, rfl, hR5_5⟩
      have hM5_5 := hM5a.cl 0 hR5_5
      have hcr5_5_0 := (hM5_5.cap 0 rfl).1
      refine os 0 [] [1, 2, 4, 5, 6] ?_
      refine aO [] [] 8 ?_
      refine cq 0 [] (vs := [.slice ((((T).l)[k]'hx4_1).c.A) (((((T).l)[k]'hx4_1).c.l).length) ((((T).l)[k]'hx4_1).c.cp)]) (hvs := (by first | rfl | (rw [show ((((T).l)[k]'hx4_1).c.l).length = (((T).l)[k]'hx4_1).c.l.length from (by first | rfl | (simp; done) | omega | (simp; omega))]; rfl))) (b := Cloneint_fn ((((T).l)[k]'hx4_1).c.A) ((((T).l)[k]'hx4_1).c.cp) ((((T).l)[k]'hx4_1).c.l) w5_5 (((hNT.at hM5_5)).2.get hx4_1).2.1 (by exact (hs.at hx4_1).2.1)) (c := ?_)
      rintro _ w5_8 ⟨A15_8, c15_8, rfl, hR5_8⟩
      have hM5_8 := hM5_5.cl 0 hR5_8
      have hcr5_8_0 := (hM5_8.cap 0 rfl).1
      refine os 0 [] [2, 3, 5, 6, 7] ?_
      refine aO [] [] 11 ?_
      refine cq 0 [] (vs := [.slice ((((T).l)[k]'hx4_1).v.A) (((((T).l)[k]'hx4_1).v.l).length) ((((T).l)[k]'hx4_1).v.cp)]) (hvs := (by first | rfl | (rw [show ((((T).l)[k]'hx4_1).v.l).length = (((T).l)[k]'hx4_1).v.l.length from (by first | rfl | (simp; done) | omega | (simp; omega))]; rfl))) (b := Cloneint_fn ((((T).l)[k]'hx4_1).v.A) ((((T).l)[k]'hx4_1).v.cp) ((((T).l)[k]'hx4_1).v.l) w5_8 (((hNT.at hM5_8)).2.get hx4_1).2.2 (by exact (hs.at hx4_1).2.2)) (c := ?_)
      rintro _ w5_11 ⟨A15_11, c15_11, rfl, hR5_11⟩
      have hM5_11 := hM5_8.cl 0 hR5_11
      have hcr5_11_0 := (hM5_11.cap 0 rfl).1
      refine os 0 [] [3, 4, 6, 7, 8] ?_
      have hx5_13 : k < (Ch ++ List.replicate ((T).l.length - k) (⟨⟨none, 0, []⟩, ⟨none, 0, []⟩, ⟨none, 0, []⟩⟩ : PgL)).length := (by simp; omega)
      refine av [12] [] 13 (a := by exact fun _ hw2 => kixF hx5_13 (hM5_11.rd 5 rfl) (h0 := by simp; omega)) (b := ?_)
      refine aO [] [] 14 ?_
      let p1_ : PgL := (⟨⟨A15_5, c15_5, ((((T).l)[k]'hx4_1).k.l)⟩, ⟨A15_8, c15_8, ((((T).l)[k]'hx4_1).c.l)⟩, ⟨A15_11, c15_11, ((((T).l)[k]'hx4_1).v.l)⟩⟩ : PgL)
      refine sF 0 [] 5 p1_ hx5_13 fun w5_14 hM5_14 => ?_
      refine os 0 [] [3, 4, 6, 7, 8] ?_
      refine an [] [] ?_
      have hMk4 := Mem.gapp (k := ⟨A15_5, c15_5, ((((T).l)[k]'hx4_1).k.l)⟩) (c := ⟨A15_8, c15_8, ((((T).l)[k]'hx4_1).c.l)⟩) (v := ⟨A15_11, c15_11, ((((T).l)[k]'hx4_1).v.l)⟩) (hM5_14.pk [4, 2, 1, 0, 3, 5, 6, 7, 8])
      refine ov 1 [] (a := kaddN (k + 1)) (b := ?_)
      have hq5 : ((Ch ++ List.replicate ((T).l.length - k) (⟨⟨none, 0, []⟩, ⟨none, 0, []⟩, ⟨none, 0, []⟩⟩ : PgL)).set (k) p1_ : List PgL) = (Ch ++ [p1_]) ++ List.replicate ((T).l.length - (k + 1)) (⟨⟨none, 0, []⟩, ⟨none, 0, []⟩, ⟨none, 0, []⟩⟩ : PgL) := (fill_app hCl hx4_1)
      let r2_ : List FE := [⟨.slice (bl b1_7) 1 1, 25, 2, 1, [I ((T).root), .slice (bl b1_5) ((T).l.length) ((T).l.length)]⟩]
      let r3_ : List FE := [⟨.slice (bl b0_1) 1 1, 25, 2, 1, [I (0), .slice (none) (0) (0)]⟩]
      let r4_ : List FE := [⟨.slice (bl b0_0) 1 1, 25, 2, 1, [I ((T).root), .slice ((T).A) ((T).l.length) ((T).cp)]⟩]
      have hMn5 : Mem w w5_14 [] [(Ch ++ [p1_]).flatMap (pgF 3), [⟨.slice (bl b4_3) 1 1, 39, 3, 1, [.slice ((((T).l)[k]'hx4_1).k.A) ((((T).l)[k]'hx4_1).k.l.length) ((((T).l)[k]'hx4_1).k.cp), .slice ((((T).l)[k]'hx4_1).c.A) ((((T).l)[k]'hx4_1).c.l.length) ((((T).l)[k]'hx4_1).c.cp), .slice ((((T).l)[k]'hx4_1).v.A) ((((T).l)[k]'hx4_1).v.l.length) ((((T).l)[k]'hx4_1).v.cp)]⟩], [⟨.slice (bl b1_5) ((T).l.length) ((T).l.length), 39, 3, ((T).l.length), ((Ch ++ [p1_]) ++ List.replicate ((T).l.length - (k + 1)) (⟨⟨none, 0, []⟩, ⟨none, 0, []⟩, ⟨none, 0, []⟩⟩ : PgL)).flatMap encPg⟩], r2_, r3_, r4_] := hMk4.relen 2 (n' := (T).l.length) (xs' := ((Ch ++ [p1_]) ++ List.replicate ((T).l.length - (k + 1)) (⟨⟨none, 0, []⟩, ⟨none, 0, []⟩, ⟨none, 0, []⟩⟩ : PgL)).flatMap encPg) rfl (by first | rfl | exact congrArg List.length hq5 | (have hqq := congrArg List.length hq5; first | omega | (simp at hqq ⊢; omega)) | (simp; done) | (simp; omega)) (congrArg (fun z_ => (z_).flatMap encPg) hq5) rfl
      exact le2 2 [] (k + 1) (Ch ++ [p1_]) [0, 2, 3, 4, 5] (h := by exact ⟨(by (try dsimp only); omega), (tsg_snoc hi1_l3 hx4_1 rfl)⟩)
    refine Sb 4 [2] 3 fun w7_1 hM7_1 => ?_
    refine EG 2 [] ?_
    refine PG (vs := [.agg #[I ((T).root), .slice (bl b1_5) ((T).l.length) ((T).l.length)]]) (ResV.cell (l := [I ((T).root), .slice (bl b1_5) ((T).l.length) ((T).l.length)]) rfl (mem_blk (i := 3) (j := 0) hM7_1 rfl rfl) el25 rfl ResV.nil) ?_
    have hke : k = (T).l.length := by omega
    rw [hke, List.take_of_length_le (by simp)] at hi1_l3
    have hq7 : (Ch ++ List.replicate ((T).l.length - k) (⟨⟨none, 0, []⟩, ⟨none, 0, []⟩, ⟨none, 0, []⟩⟩ : PgL) : List PgL) = Ch := (by rw [hke]; simp)
    have hMn7 := hM7_1.reF 1 hq7
    exact ⟨Ch, bl b1_5, (T).l.length, (by rw [show (Ch).length = (T).l.length by omega]; rfl), hi1_l3, (hMn7.pk [1, 0])⟩
  refine Al 0 [] fun w1_7 b1_7 hb1_7 hM1_7 => ?_
  refine os 0 [] [1, 2] ?_
  refine aO [] [] 5 ?_
  refine O.mmake (k := (T).l.length) (sz := 3) (xs := (List.replicate ((T).l.length) (⟨⟨none, 0, []⟩, ⟨none, 0, []⟩, ⟨none, 0, []⟩⟩ : PgL)).flatMap encPg) hM1_7 rfl Tryd.underlying23 el39 rfl rfl rfl rfl (by omega) (by omega) (zer_flat rfl) (fun w1_5 b1_5 hb1_5 hM1_5 => ?_)
  refine os 0 [] [2, 3] ?_
  refine aO [6] [] 8 ?_
  refine Sb 0 [] 1 fun w1_8 hM1_8 => ?_
  refine os 0 [] [2, 3] ?_
  refine an [] [] ?_
  have hMk9 := Mem.gnil (e := 3) hM1_8
  have hq10 : (List.replicate ((T).l.length) (⟨⟨none, 0, []⟩, ⟨none, 0, []⟩, ⟨none, 0, []⟩⟩ : PgL) : List PgL) = ([] : List PgL) ++ List.replicate ((T).l.length - 0) (⟨⟨none, 0, []⟩, ⟨none, 0, []⟩, ⟨none, 0, []⟩⟩ : PgL) := (by simp)
  have hMn10 : Mem w w1_8 [] [(([] : List PgL)).flatMap (pgF 3), [⟨.slice (bl b1_5) ((T).l.length) ((T).l.length), 39, 3, ((T).l.length), (([] : List PgL) ++ List.replicate ((T).l.length - 0) (⟨⟨none, 0, []⟩, ⟨none, 0, []⟩, ⟨none, 0, []⟩⟩ : PgL)).flatMap encPg⟩], [⟨.slice (bl b1_7) 1 1, 25, 2, 1, [I ((T).root), .slice (bl b1_5) ((T).l.length) ((T).l.length)]⟩], [⟨.slice (bl b0_1) 1 1, 25, 2, 1, [I (0), .slice (none) (0) (0)]⟩], [⟨.slice (bl b0_0) 1 1, 25, 2, 1, [I ((T).root), .slice ((T).A) ((T).l.length) ((T).cp)]⟩]] := hMk9.relen 1 (n' := (T).l.length) (xs' := (([] : List PgL) ++ List.replicate ((T).l.length - 0) (⟨⟨none, 0, []⟩, ⟨none, 0, []⟩, ⟨none, 0, []⟩⟩ : PgL)).flatMap encPg) rfl (by first | rfl | exact congrArg List.length hq10 | (have hqq := congrArg List.length hq10; first | omega | (simp at hqq ⊢; omega)) | (simp; done) | (simp; omega)) (congrArg (fun z_ => (z_).flatMap encPg) hq10) rfl
  refine lp2 9 [4] (fun (k : Nat) (Ch : List PgL) => ([(16, Vi (((k : Nat) : Int)))] : List (Nat × SV))) (fun (k : Nat) (Ch : List PgL) => (k ≤ (T).l.length) ∧ (tsG Ch = (tsG (T).l).take k)) (fun (k : Nat) (Ch : List PgL) => [(Ch).flatMap (pgF 3), [⟨.slice (bl b1_5) ((T).l.length) ((T).l.length), 39, 3, ((T).l.length), (Ch ++ List.replicate ((T).l.length - k) (⟨⟨none, 0, []⟩, ⟨none, 0, []⟩, ⟨none, 0, []⟩⟩ : PgL)).flatMap encPg⟩]]) (fun (k : Nat) (Ch : List PgL) => (T).l.length - k) [2, 3, 14, 15] [0, 1] [2, 3, 4] 0 (([] : List PgL) : List PgL) (fun k Ch σ w_l3 hI hM_l3 => ?_) (h0 := ⟨(Nat.zero_le _), (by (try dsimp only); simp)⟩)
  obtain ⟨hi0_l3, hi1_l3⟩ := hI
  have hcl1_l3 := (hM_l3.cap 1 rfl).1
  have hCl := tsg_len hi1_l3 hi0_l3
  refine cd 5 [] (fun c17 => ?_) (fun c17 => ?_)
  · have hx4_1 : k < ((T).l).length := (by first | omega | (simp; omega))
    refine ov 6 [] (a := kixF hx4_1 (hNT.at hM_l3).1) (b := ?_)
    refine ov 0 [] (a := kldN hx4_1 (hNT.at hM_l3).1) (b := ?_)
    refine Al 0 [] fun w4_3 b4_3 hb4_3 hM4_3 => ?_
    refine Sb 1 [] 0 fun w4_5 hM4_5 => ?_
    refine any 1 [] 15 [0, 1, 3, 4, 5] fun w5a hM5a => ?_
    refine aO [0, 1, 2, 3, 4, 6, 7, 9, 10] [2, 0, 0, 0] 5 ?_
    refine cq 0 [] (vs := [.slice ((((T).l)[k]'hx4_1).k.A) (((((T).l)[k]'hx4_1).k.l).length) ((((T).l)[k]'hx4_1).k.cp)]) (hvs := (by first | rfl | (rw [show ((((T).l)[k]'hx4_1).k.l).length = (((T).l)[k]'hx4_1).k.l.length from (by first | rfl | (simp; done) | omega | (simp; omega))]; rfl))) (b := Cloneint_fn ((((T).l)[k]'hx4_1).k.A) ((((T).l)[k]'hx4_1).k.cp) ((((T).l)[k]'hx4_1).k.l) w5a (((hNT.at hM5a)).2.get hx4_1).1 (by exact (hs.at hx4_1).1)) (c := ?_)
    rintro _ w5_5 ⟨A15_5, c15_5, rfl, hR5_5⟩
    have hM5_5 := hM5a.cl 0 hR5_5
    have hcr5_5_0 := (hM5_5.cap 0 rfl).1
    refine os 0 [] [1, 2, 4, 5, 6] ?_
    refine aO [] [] 8 ?_
    refine cq 0 [] (vs := [.slice ((((T).l)[k]'hx4_1).c.A) (((((T).l)[k]'hx4_1).c.l).length) ((((T).l)[k]'hx4_1).c.cp)]) (hvs := (by first | rfl | (rw [show ((((T).l)[k]'hx4_1).c.l).length = (((T).l)[k]'hx4_1).c.l.length from (by first | rfl | (simp; done) | omega | (simp; omega))]; rfl))) (b := Cloneint_fn ((((T).l)[k]'hx4_1).c.A) ((((T).l)[k]'hx4_1).c.cp) ((((T).l)[k]'hx4_1).c.l) w5_5 (((hNT.at hM5_5)).2.get hx4_1).2.1 (by exact (hs.at hx4_1).2.1)) (c := ?_)
    rintro _ w5_8 ⟨A15_8, c15_8, rfl, hR5_8⟩
    have hM5_8 := hM5_5.cl 0 hR5_8
    have hcr5_8_0 := (hM5_8.cap 0 rfl).1
    refine os 0 [] [2, 3, 5, 6, 7] ?_
    refine aO [] [] 11 ?_
    refine cq 0 [] (vs := [.slice ((((T).l)[k]'hx4_1).v.A) (((((T).l)[k]'hx4_1).v.l).length) ((((T).l)[k]'hx4_1).v.cp)]) (hvs := (by first | rfl | (rw [show ((((T).l)[k]'hx4_1).v.l).length = (((T).l)[k]'hx4_1).v.l.length from (by first | rfl | (simp; done) | omega | (simp; omega))]; rfl))) (b := Cloneint_fn ((((T).l)[k]'hx4_1).v.A) ((((T).l)[k]'hx4_1).v.cp) ((((T).l)[k]'hx4_1).v.l) w5_8 (((hNT.at hM5_8)).2.get hx4_1).2.2 (by exact (hs.at hx4_1).2.2)) (c := ?_)
    rintro _ w5_11 ⟨A15_11, c15_11, rfl, hR5_11⟩
    have hM5_11 := hM5_8.cl 0 hR5_11
    have hcr5_11_0 := (hM5_11.cap 0 rfl).1
    refine os 0 [] [3, 4, 6, 7, 8] ?_
    have hx5_13 : k < (Ch ++ List.replicate ((T).l.length - k) (⟨⟨none, 0, []⟩, ⟨none, 0, []⟩, ⟨none, 0, []⟩⟩ : PgL)).length := (by simp; omega)
    refine av [12] [] 13 (a := by exact fun _ hw2 => kixF hx5_13 (hM5_11.rd 5 rfl) (h0 := by simp; omega)) (b := ?_)
    refine aO [] [] 14 ?_
    let p5_ : PgL := (⟨⟨A15_5, c15_5, ((((T).l)[k]'hx4_1).k.l)⟩, ⟨A15_8, c15_8, ((((T).l)[k]'hx4_1).c.l)⟩, ⟨A15_11, c15_11, ((((T).l)[k]'hx4_1).v.l)⟩⟩ : PgL)
    refine sF 0 [] 5 p5_ hx5_13 fun w5_14 hM5_14 => ?_
    refine os 0 [] [3, 4, 6, 7, 8] ?_
    refine an [] [] ?_
    have hMk12 := Mem.gapp (k := ⟨A15_5, c15_5, ((((T).l)[k]'hx4_1).k.l)⟩) (c := ⟨A15_8, c15_8, ((((T).l)[k]'hx4_1).c.l)⟩) (v := ⟨A15_11, c15_11, ((((T).l)[k]'hx4_1).v.l)⟩) (hM5_14.pk [4, 2, 1, 0, 3, 5, 6, 7, 8])
    refine ov 1 [] (a := kaddN (k + 1)) (b := ?_)
    have hq13 : ((Ch ++ List.replicate ((T).l.length - k) (⟨⟨none, 0, []⟩, ⟨none, 0, []⟩, ⟨none, 0, []⟩⟩ : PgL)).set (k) p5_ : List PgL) = (Ch ++ [p5_]) ++ List.replicate ((T).l.length - (k + 1)) (⟨⟨none, 0, []⟩, ⟨none, 0, []⟩, ⟨none, 0, []⟩⟩ : PgL) := (fill_app hCl hx4_1)
    let r6_ : List FE := [⟨.slice (bl b1_7) 1 1, 25, 2, 1, [I ((T).root), .slice (bl b1_5) ((T).l.length) ((T).l.length)]⟩]
    let r7_ : List FE := [⟨.slice (bl b0_1) 1 1, 25, 2, 1, [I (0), .slice (none) (0) (0)]⟩]
    let r8_ : List FE := [⟨.slice (bl b0_0) 1 1, 25, 2, 1, [I ((T).root), .slice ((T).A) ((T).l.length) ((T).cp)]⟩]
    have hMn13 : Mem w w5_14 [] [(Ch ++ [p5_]).flatMap (pgF 3), [⟨.slice (bl b4_3) 1 1, 39, 3, 1, [.slice ((((T).l)[k]'hx4_1).k.A) ((((T).l)[k]'hx4_1).k.l.length) ((((T).l)[k]'hx4_1).k.cp), .slice ((((T).l)[k]'hx4_1).c.A) ((((T).l)[k]'hx4_1).c.l.length) ((((T).l)[k]'hx4_1).c.cp), .slice ((((T).l)[k]'hx4_1).v.A) ((((T).l)[k]'hx4_1).v.l.length) ((((T).l)[k]'hx4_1).v.cp)]⟩], [⟨.slice (bl b1_5) ((T).l.length) ((T).l.length), 39, 3, ((T).l.length), ((Ch ++ [p5_]) ++ List.replicate ((T).l.length - (k + 1)) (⟨⟨none, 0, []⟩, ⟨none, 0, []⟩, ⟨none, 0, []⟩⟩ : PgL)).flatMap encPg⟩], r6_, r7_, r8_] := hMk12.relen 2 (n' := (T).l.length) (xs' := ((Ch ++ [p5_]) ++ List.replicate ((T).l.length - (k + 1)) (⟨⟨none, 0, []⟩, ⟨none, 0, []⟩, ⟨none, 0, []⟩⟩ : PgL)).flatMap encPg) rfl (by first | rfl | exact congrArg List.length hq13 | (have hqq := congrArg List.length hq13; first | omega | (simp at hqq ⊢; omega)) | (simp; done) | (simp; omega)) (congrArg (fun z_ => (z_).flatMap encPg) hq13) rfl
    exact le2 2 [] (k + 1) (Ch ++ [p5_]) [0, 2, 3, 4, 5] (h := by exact ⟨(by (try dsimp only); omega), (tsg_snoc hi1_l3 hx4_1 rfl)⟩)
  refine Sb 4 [2] 3 fun w7_1 hM7_1 => ?_
  refine EG 2 [] ?_
  refine PG (vs := [.agg #[I ((T).root), .slice (bl b1_5) ((T).l.length) ((T).l.length)]]) (ResV.cell (l := [I ((T).root), .slice (bl b1_5) ((T).l.length) ((T).l.length)]) rfl (mem_blk (i := 3) (j := 0) hM7_1 rfl rfl) el25 rfl ResV.nil) ?_
  have hke : k = (T).l.length := by omega
  rw [hke, List.take_of_length_le (by simp)] at hi1_l3
  have hq15 : (Ch ++ List.replicate ((T).l.length - k) (⟨⟨none, 0, []⟩, ⟨none, 0, []⟩, ⟨none, 0, []⟩⟩ : PgL) : List PgL) = Ch := (by rw [hke]; simp)
  have hMn15 := hM7_1.reF 1 hq15
  exact ⟨Ch, bl b1_5, (T).l.length, (by rw [show (Ch).length = (T).l.length by omega]; rfl), hi1_l3, (hMn15.pk [1, 0])⟩
end Go.Proofs.YtemejgglbhjodaaDoor
end
section
namespace Go.Proofs.YtemejgglbhjodaaDoor
open Go.Px
theorem orderBelow0_fn : ∀ (T : TreeL) (at0 : Int) (A : Option Addr) (c : Nat) (l : List Int) (w : World) (hNT : TrN w T) (hOT : TrO T [(Value.slice (A) ((l).length) (c)).ownBlock]) (hM : Mem w w [(Value.slice (A) ((l).length) (c)).ownBlock] [[⟨.slice (A) ((l).length) (c), 3, 1, ((l).length), (l).map I⟩]]) (hs : SzT T) (hsm : ∀ p ∈ (T).t.pages, smallP p) (hok : wkB (T).t 0 at0) (h3 : 0 ≤ 3) (hl9 : l.length ≤ 1000 * (4 - 0)), Does Tryd.prog 31 [.agg #[I ((T).root), .slice ((T).A) ((T).l.length) ((T).cp)], I (at0), .slice (A) ((l).length) (c)] w (fun v w1 => ∃ (A1 : Option Addr) (c1 : Nat), v = .slice (A1) ((l ++ subT (T).t 0 at0).length) (c1) ∧ Mem w w1 [(Value.slice (A) ((l).length) (c)).ownBlock] [[⟨.slice (A1) ((l ++ subT (T).t 0 at0).length) (c1), 3, 1, ((l ++ subT (T).t 0 at0).length), (l ++ subT (T).t 0 at0).map I⟩]]) := by
  intro T at0 A c l w hNT hOT hM hs hsm hok h3 hl9; exact hok.elim
set_option maxHeartbeats 2000000 in
theorem orderBelowS_fn (n : Nat) (ih_fn : ∀ (T : TreeL) (at0 : Int) (A : Option Addr) (c : Nat) (l : List Int) (w : World) (hNT : TrN w T) (hOT : TrO T [(Value.slice (A) ((l).length) (c)).ownBlock]) (hM : Mem w w [(Value.slice (A) ((l).length) (c)).ownBlock] [[⟨.slice (A) ((l).length) (c), 3, 1, ((l).length), (l).map I⟩]]) (hs : SzT T) (hsm : ∀ p ∈ (T).t.pages, smallP p) (hok : wkB (T).t n at0) (h3 : n ≤ 3) (hl9 : l.length ≤ 1000 * (4 - n)), Does Tryd.prog 31 [.agg #[I ((T).root), .slice ((T).A) ((T).l.length) ((T).cp)], I (at0), .slice (A) ((l).length) (c)] w (fun v w1 => ∃ (A1 : Option Addr) (c1 : Nat), v = .slice (A1) ((l ++ subT (T).t n at0).length) (c1) ∧ Mem w w1 [(Value.slice (A) ((l).length) (c)).ownBlock] [[⟨.slice (A1) ((l ++ subT (T).t n at0).length) (c1), 3, 1, ((l ++ subT (T).t n at0).length), (l ++ subT (T).t n at0).map I⟩]])) (T : TreeL) (at0 : Int) (A : Option Addr) (c : Nat) (l : List Int) (w : World) (hNT : TrN w T) (hOT : TrO T [(Value.slice (A) ((l).length) (c)).ownBlock]) (hM : Mem w w [(Value.slice (A) ((l).length) (c)).ownBlock] [[⟨.slice (A) ((l).length) (c), 3, 1, ((l).length), (l).map I⟩]]) (hs : SzT T) (hsm : ∀ p ∈ (T).t.pages, smallP p) (hok : wkB (T).t (n + 1) at0) (h3 : (n + 1) ≤ 3) (hl9 : l.length ≤ 1000 * (4 - (n + 1))) :
    Does Tryd.prog 31 [.agg #[I ((T).root), .slice ((T).A) ((T).l.length) ((T).cp)], I (at0), .slice (A) ((l).length) (c)] w (fun v w1 => ∃ (A1 : Option Addr) (c1 : Nat), v = .slice (A1) ((l ++ subT (T).t (n + 1) at0).length) (c1) ∧ Mem w w1 [(Value.slice (A) ((l).length) (c)).ownBlock] [[⟨.slice (A1) ((l ++ subT (T).t (n + 1) at0).length) (c1), 3, 1, ((l ++ subT (T).t (n + 1) at0).length), (l ++ subT (T).t (n + 1) at0).map I⟩]]) := by
  refine Does.n1 Tryd.func31 rfl Tryd.results31 Tryd.ntmps31 rfl ?_
  have hat := inT_t.1 hok.1
  have hjx : (at0).toNat < (T).l.length := by omega
  have hki : (gP (T).t at0).kids = ((T).l[(at0).toNat]'hjx).c.l := by rw [gP_at rfl hjx]; rfl
  have hsz := hs.at hjx
  have hsl := wk_len3 hsm hok h3
  have hse : subT (T).t (n + 1) at0 = at0 :: (((T).l[(at0).toNat]'hjx).c.l).flatMap (subT (T).t n) := by simp only [subT]; rw [hki]
  refine Bx 2 [] fun w0_0 b0_0 hb0_0 hM0_0 => ?_
  refine Lt 6 [] (([at0]).map I) (fun w1_2 b1_2 hb1_2 hM1_2 => ?_)
  refine aM 0 [] 2 (hM1_2.rd 0 rfl) (fun w1_3 A1_3 c1_3 hc1_3 hM1_3 => ?_) (hn := by first | omega | (simp only [List.length_append, List.length_cons, List.length_nil]; omega)) (hb := by first | omega | (simp only [List.length_append, List.length_cons, List.length_nil]; omega))
  have hx2_3 : (at0).toNat < ((T).l).length := (by first | omega | (simp; omega))
  refine ov 8 [1] (a := kixF hx2_3 (hNT.atR hM1_3 hOT).1) (b := ?_)
  refine ov 0 [] (a := kflF hx2_3 (hNT.atR hM1_3 hOT).1) (b := ?_)
  refine ov 0 [] (a := kldF hx2_3 (hNT.atR hM1_3 hOT).1) (b := ?_)
  have hq1 : (l ++ [at0] : List Int) = (l ++ [at0]) ++ ((((T).l[(at0).toNat]'hjx).c.l).take 0).flatMap (subT (T).t n) := (by simp)
  have hMn1 := hM1_3.reM 2 hq1
  refine lp3 4 [] (fun (k : Nat) (A2 : Option Addr) (c2 : Nat) => ([(2, Vl (A2) (((l ++ [at0]) ++ ((((T).l[(at0).toNat]'hjx).c.l).take k).flatMap (subT (T).t n)).length) (c2)), (20, Vi (((k : Nat) : Int)))] : List (Nat × SV))) (fun (k : Nat) (A2 : Option Addr) (c2 : Nat) => (k ≤ (((T).l[(at0).toNat]'hjx).c.l).length)) (fun (k : Nat) (A2 : Option Addr) (c2 : Nat) => [[⟨.slice (A2) (((l ++ [at0]) ++ ((((T).l[(at0).toNat]'hjx).c.l).take k).flatMap (subT (T).t n)).length) (c2), 3, 1, (((l ++ [at0]) ++ ((((T).l[(at0).toNat]'hjx).c.l).take k).flatMap (subT (T).t n)).length), ((l ++ [at0]) ++ ((((T).l[(at0).toNat]'hjx).c.l).take k).flatMap (subT (T).t n)).map I⟩]]) (fun (k : Nat) (A2 : Option Addr) (c2 : Nat) => (((T).l[(at0).toNat]'hjx).c.l).length - k) [3, 18, 19] [2] [0, 1] 0 A1_3 c1_3 (fun k A2 c2 σ w_l3 hI hM_l3 => ?_) (h0 := (Nat.zero_le _))
  have hi0_l3 := hI
  have hcl0_l3 := (hM_l3.cap 0 rfl).1
  have hcl1_l3 := (hM_l3.cap 1 rfl).1
  refine cd 5 [] (fun c21 => ?_) (fun c21 => ?_)
  · have hx4_0 : k < ((((T).l)[(at0).toNat]'hx2_3).c.l).length := (by omega)
    refine ov 5 [] (a := kixM hx4_0 (((hNT.atR hM_l3 hOT)).2.get hx2_3).2.1 (h0 := by omega)) (b := ?_)
    have hok1 := wk_step hok (k := k) (by rw [hki]; exact hx4_0)
    simp only [hki] at hok1
    have hfs := flat_snoc (f := subT (T).t n) hx4_0
    refine ov 0 [] (a := kldM hx4_0 (((hNT.atR hM_l3 hOT)).2.get hx2_3).2.1) (b := ?_)
    refine cq 6 [2] (b := ih_fn T _ _ _ _ w_l3 (hNT.atR hM_l3 hOT) (TrO.cons (TrO.own hM_l3 hNT hOT 0 rfl) TrO.nil) (hM_l3.fp [0] rfl rfl) q0 (by exact hsm) (by exact hok1) qo (by (have h8 := congrArg List.length hse; have h7 := flat_le (f := subT (T).t n) hx4_0; rw [← hfs] at h7; simp only [List.length_append, List.length_cons, List.length_nil] at h7 h8 ⊢; omega))) (c := ?_)
    rintro _ w5_3 ⟨A15_3, c15_3, rfl, hR5_3⟩
    have hM5_3 := hM_l3.cl 1 hR5_3
    have hcr5_3_0 := (hM5_3.cap 0 rfl).1
    refine ov 3 [] (a := kaddN (k + 1)) (b := ?_)
    have hq2 : (((l ++ [at0]) ++ ((((T).l[(at0).toNat]'hjx).c.l).take k).flatMap (subT (T).t n)) ++ subT (T).t n (((((T).l)[(at0).toNat]'hx2_3).c.l)[k]'hx4_0) : List Int) = (l ++ [at0]) ++ ((((T).l[(at0).toNat]'hjx).c.l).take (k + 1)).flatMap (subT (T).t n) := (by rw [← hfs, List.append_assoc])
    have hMn2 := hM5_3.reM 0 hq2
    exact le3 2 [] (k + 1) A15_3 c15_3 [0, 1, 2] (h := by exact (by (try dsimp only); omega))
  refine E1 7 [] (.slice (A2) (((l ++ [at0]) ++ ((((T).l[(at0).toNat]'hjx).c.l).take k).flatMap (subT (T).t n)).length) (c2)) ?_
  have hkk : (((T).l[(at0).toNat]'hjx).c.l).take k = ((T).l[(at0).toNat]'hjx).c.l := List.take_of_length_le (by omega)
  have hq3 : ((l ++ [at0]) ++ ((((T).l[(at0).toNat]'hjx).c.l).take k).flatMap (subT (T).t n) : List Int) = l ++ subT (T).t (n + 1) at0 := (by rw [hse, hkk]; simp)
  have hMn3 := hM_l3.reM 0 hq3
  exact ⟨A2, c2, (sl_congr (by rw [hse, hkk]; simp)), (hMn3.pk [0])⟩
theorem orderBelow_fn : ∀ (n : Nat), ∀ (T : TreeL) (at0 : Int) (A : Option Addr) (c : Nat) (l : List Int) (w : World) (hNT : TrN w T) (hOT : TrO T [(Value.slice (A) ((l).length) (c)).ownBlock]) (hM : Mem w w [(Value.slice (A) ((l).length) (c)).ownBlock] [[⟨.slice (A) ((l).length) (c), 3, 1, ((l).length), (l).map I⟩]]) (hs : SzT T) (hsm : ∀ p ∈ (T).t.pages, smallP p) (hok : wkB (T).t n at0) (h3 : n ≤ 3) (hl9 : l.length ≤ 1000 * (4 - n)), Does Tryd.prog 31 [.agg #[I ((T).root), .slice ((T).A) ((T).l.length) ((T).cp)], I (at0), .slice (A) ((l).length) (c)] w (fun v w1 => ∃ (A1 : Option Addr) (c1 : Nat), v = .slice (A1) ((l ++ subT (T).t n at0).length) (c1) ∧ Mem w w1 [(Value.slice (A) ((l).length) (c)).ownBlock] [[⟨.slice (A1) ((l ++ subT (T).t n at0).length) (c1), 3, 1, ((l ++ subT (T).t n at0).length), (l ++ subT (T).t n at0).map I⟩]]) := by
  intro n
  induction n with
  | zero => exact orderBelow0_fn
  | succ n ih => exact orderBelowS_fn n ih
end Go.Proofs.YtemejgglbhjodaaDoor
end
section
namespace Go.Proofs.YtemejgglbhjodaaDoor
open Go.Px
set_option maxHeartbeats 8000000 in
theorem RenumberTree_fn (T : TreeL) (w : World) (hNT : TrN w T) (hs : SzT T) :
    Does Tryd.prog 14 [.agg #[I ((T).root), .slice ((T).A) ((T).l.length) ((T).cp)]] w (fun v w1 => ∃ (r1 : Int) (L1 : List PgL) (A1 : Option Addr) (c1 : Nat), v = .tuple #[.agg #[I (r1), .slice (A1) ((L1).length) (c1)], .bool ((validT (T).t))] ∧ ((⟨r1, tsG L1⟩ : TrT) = renO (T).t) ∧ (SzT ⟨r1, A1, c1, L1⟩) ∧ ((L1).length ≤ 64) ∧ Mem w w1 [] [[⟨.slice (A1) ((L1).length) (c1), 39, 3, ((L1).length), (L1).flatMap encPg⟩], (L1).flatMap (pgF 3)]) := by
  have hM : Mem w w [] [] := Mem.refl
  refine Does.nG (rs := [.cell 2 25, .tmp 3]) Tryd.func14 rfl Tryd.results14 Tryd.ntmps14 rfl ?_
  refine Bx 2 [] fun w0_0 b0_0 hb0_0 hM0_0 => ?_
  refine Al 0 [] fun w0_1 b0_1 hb0_1 hM0_1 => ?_
  refine cp 6 [1] (b := ValidTree_fn T w0_1 (hNT.at hM0_1) q0) (c := fun w1_1 hM1_1 => ?_)
  refine cn 2 [] (fun c17 => ?_) (fun c17 => ?_)
  · refine Sb 3 [] 0 fun w2_1 hM2_1 => ?_
    have hMk1 := Mem.gnil (e := 3) hM2_1
    have hMn2 := Mem.addNil (e := 39) (sz := 3) hMk1
    refine EG 3 [] ?_
    refine PG (vs := [.agg #[I (0), .slice (none) (0) (0)], .bool (false)]) (ResV.cell (l := [I (0), .slice (none) (0) (0)]) rfl (mem_blk (i := 2) (j := 0) hMn2 rfl rfl) el25 rfl (ResV.tmp rfl ResV.nil)) ?_
    have hvf : validT (T).t = false := by simpa using c17
    have hMn3 := Mem.addNil (e := 39) (sz := 3) hMn2
    have hq4 : ([] : List PgL) = ([] : List PgL) := (by first | rfl | simp | (simp; omega))
    have hMn4 := hMn3.reF 0 hq4 (f := encPg)
    exact ⟨0, ([] : List PgL), none, 0, (by rw [hvf]; rfl), (by rw [renO_no hvf]; rfl), (sz_small (by simp) (by simp)), (by simp), (hMn4.pk [0, 2])⟩
  have hv : validT (T).t = true := by simpa using c17
  obtain ⟨_, hon, hol, hoi, hor⟩ := ord_yes hv
  rw [pages_len] at hol
  have hl16 := valid_len hv
  rw [pages_len] at hl16
  have hwk := valid_WK hv
  have hob : ∀ k, (h : k < (ordK (T).t).length) → 0 ≤ (ordK (T).t)[k] ∧ (ordK (T).t)[k] < ((T).l.length : Int) := fun k h => inT_t.1 (hoi _ (List.getElem_mem h)).1
  have hMn6 := Mem.addNil (e := 3) (sz := 1) hM1_1
  refine cq 6 [2, 2] (b := orderBelow_fn 3 T _ none 0 [] w1_1 (hNT.at hMn6) (TrO.cons (TrO.old hMn6 hNT 0 rfl) TrO.nil) (hMn6.fp [0] rfl rfl) q0 (by exact hwk.2.2) (by exact hwk.1) qo (by simp)) (c := ?_)
  rintro _ w3_3 ⟨A13_3, c13_3, rfl, hR3_3⟩
  have hM3_3 := hMn6.cl 1 hR3_3
  have hcr3_3_0 := (hM3_3.cap 0 rfl).1
  have hq7 : ([] ++ subT (T).t 3 ((T).root) : List Int) = (ordK (T).t) := rfl
  have hMn7 := hM3_3.reM 0 hq7
  have hle3 : (([] : List Int) ++ subT (T).t 3 (T).root).length = (ordK (T).t).length := rfl
  refine go 4 [] ?_
  refine O.marr (m := 16) (sz := 1) (xs := (List.replicate 16 (0 : Int)).map I) hMn7 rfl rfl el64 (by kernel_rfl) (by simp) (by decide) (fun w4_0 b4_0 hb4_0 hM4_0 => ?_)
  have hMn8 := hM4_0.reA 0 (show List.replicate 16 (0 : Int) = nbL [] from nb_nil)
  have hMn9 := hMn8.reA 0 (show nbL [] = nbL ((ordK (T).t).take 0) from (by simp))
  refine lp1 9 [] (fun (k1 : Nat) => ([(25, Vi (((k1 : Nat) : Int)))] : List (Nat × SV))) (fun (k1 : Nat) => (k1 ≤ (ordK (T).t).length)) (fun (k1 : Nat) => [[⟨.slice (bl b4_0) (16) (16), 64, 1, 16, (nbL ((ordK (T).t).take k1)).map I⟩]]) (fun (k1 : Nat) => (ordK (T).t).length - k1) [1, 2, 4, 5, 23, 24] [0] [1, 2, 3] 0 (fun k1 σ w_l6 hI hM_l6 => ?_) (h0 := (Nat.zero_le _))
  have hi0_l6 := hI
  have hcl1_l6 := (hM_l6.cap 1 rfl).1
  refine cd 5 [] (fun c26 => ?_) (fun c26 => ?_)
  · obtain ⟨x9, hx9⟩ : ∃ z, z = (ordK (T).t)[k1]'(by omega) := ⟨_, rfl⟩
    have hxb := hob k1 (by omega)
    rw [← hx9] at hxb
    have hxm : x9 ∈ (ordK (T).t) := by rw [hx9]; exact List.getElem_mem _
    have hx7_1 : k1 < ((ordK (T).t)).length := (by omega)
    refine ov 6 [] (a := kixM hx7_1 (hM_l6.rd 1 rfl) (h0 := by omega)) (b := ?_)
    refine ov 0 [] (s := Vi (x9)) (a := by exact cv (Ru.congr (v := I (((ordK (T).t))[k1]'hx7_1)) (v' := I (x9)) (Ru.load1 el3 rfl (ldm (hM_l6.rd 1 rfl) hx7_1)) ((I_congr hx9.symm))) rfl) (b := ?_)
    have hx8_2 : (x9).toNat < (nbL ((ordK (T).t).take k1)).length := (by rw [nb_len]; omega)
    refine ov 6 [] (s := Vp (bl b4_0) (((x9).toNat) * 1)) (a := by exact cv (Ru.indexArr (j := (x9).toNat) Tryd.underlying64 el3 rfl rfl rfl (by omega) (by simp; omega)) rfl) (b := ?_)
    refine sM 0 [] 0 hx8_2 fun w8_3 hM8_3 => ?_
    have hMn10 := hM8_3.reA 0 (show (nbL ((ordK (T).t).take k1)).set ((x9).toNat) ((k1 : Nat) : Int) = nbL ((ordK (T).t).take (k1 + 1)) from (by rw [hx9]; exact nb_set hon (by omega) (by have := hob k1 (by omega); omega)))
    refine ov 2 [] (a := kaddN (k1 + 1)) (b := ?_)
    exact le1 2 [] (k1 + 1) [0, 1, 2, 3] (h := by exact (by (try dsimp only); omega))
  have hMn11 := hM_l6.reA 0 (show nbL ((ordK (T).t).take k1) = nbL (ordK (T).t) from (by rw [List.take_of_length_le (by omega)]))
  refine cq 4 [3] (b := icopyTree_fn T w_l6 (hNT.at hMn11) (by exact hs)) (c := ?_)
  rintro _ w10_1 ⟨L110_1, A110_1, c110_1, rfl, hts10_1, hR10_1⟩
  have hM10_1 := hMn11.cl 0 hR10_1
  have hcr10_1_0 := (hM10_1.cap 0 rfl).1
  have hLl := tsg_eq_len hts10_1
  refine Al 0 [] fun w10_2 b10_2 hb10_2 hM10_2 => ?_
  refine Sb 0 [] 0 fun w10_3 hM10_3 => ?_
  refine Al 4 [] fun w11_1 b11_1 hb11_1 hM11_1 => ?_
  refine Sb 0 [] 0 fun w11_2 hM11_2 => ?_
  have hMn12 := Mem.addNil (e := 39) (sz := 3) hM11_2
  have hq13 : ([] : List PgL) = ([] : List PgL) := (by first | rfl | simp | (simp; omega))
  have hMn13 := hMn12.reF 0 hq13 (f := encPg)
  refine lp5 9 [] (fun (k : Nat) (Ch : List PgL) (Q9 : List PgL) (A2 : Option Addr) (c2 : Nat) => ([(39, Vi (((k : Nat) : Int)))] : List (Nat × SV))) (fun (k : Nat) (Ch : List PgL) (Q9 : List PgL) (A2 : Option Addr) (c2 : Nat) => (k ≤ (ordK (T).t).length) ∧ (RN (T).t Ch Q9 k)) (fun (k : Nat) (Ch : List PgL) (Q9 : List PgL) (A2 : Option Addr) (c2 : Nat) => [[⟨.slice (A2) ((Q9).length) (c2), 39, 3, ((Q9).length), (Q9).flatMap encPg⟩], [⟨.slice (bl b11_1) 1 1, 25, 2, 1, [I (0), .slice (A2) ((Q9).length) (c2)]⟩], [⟨.slice (A110_1) ((Ch).length) (c110_1), 39, 3, ((Ch).length), (Ch).flatMap encPg⟩], (Ch).flatMap (pgF 3)]) (fun (k : Nat) (Ch : List PgL) (Q9 : List PgL) (A2 : Option Addr) (c2 : Nat) => (ordK (T).t).length - k) [2, 5, 8, 9, 37, 38] [0, 1, 3, 4] [2, 5, 6, 7, 8] 0 L110_1 (([] : List PgL) : List PgL) none 0 (fun k Ch Q9 A2 c2 σ w_l13 hI hM_l13 => ?_) (h0 := ⟨(Nat.zero_le _), (RN.start rfl hts10_1)⟩)
  obtain ⟨hi0_l13, hi1_l13⟩ := hI
  have hcl0_l13 := (hM_l13.cap 0 rfl).1
  have hcl2_l13 := (hM_l13.cap 2 rfl).1
  have hcl6_l13 := (hM_l13.cap 6 rfl).1
  have hRN := hi1_l13
  have hCl := hRN.len
  rw [pages_len] at hCl
  have hQl := hRN.ql
  refine cd 5 [] (fun c40 => ?_) (fun c40 => ?_)
  · obtain ⟨x9, hx9⟩ : ∃ z, z = (ordK (T).t)[k]'(by omega) := ⟨_, rfl⟩
    have hxb := hob k (by omega)
    rw [← hx9] at hxb
    have hxm : x9 ∈ (ordK (T).t) := by rw [hx9]; exact List.getElem_mem _
    have hx14_0 : k < ((ordK (T).t)).length := (by omega)
    refine ov 5 [] (a := kixM hx14_0 (hM_l13.rd 6 rfl) (h0 := by omega)) (b := ?_)
    refine ov 0 [] (s := Vi (x9)) (a := by exact cv (Ru.congr (v := I (((ordK (T).t))[k]'hx14_0)) (v' := I (x9)) (Ru.load1 el3 rfl (ldm (hM_l13.rd 6 rfl) hx14_0)) ((I_congr hx9.symm))) rfl) (b := ?_)
    have hx15_3 : (x9).toNat < (Ch).length := (by omega)
    refine ov 7 [4] (a := kixF hx15_3 (hM_l13.rd 2 rfl) (h0 := by omega)) (b := ?_)
    have hXt : (gP (T).t x9).kids = ((Ch)[(x9).toNat]'hx15_3).c.l := by have h9 := hRN.td k (Nat.le_refl _) (by omega); rw [getD_in (show k < (ordK (T).t).length by omega), ← hx9, gP_ch hx15_3] at h9; rw [← h9]; rfl
    have hc6 : (((Ch)[(x9).toNat]'hx15_3).c.l).length ≤ 6 := by rw [← hXt]; exact (small_at hwk.2.2 (hoi _ hxm).1).2.1
    refine ov 0 [] (a := kldN hx15_3 (hM_l13.rd 2 rfl)) (b := ?_)
    refine Al 0 [] fun w15_5 b15_5 hb15_5 hM15_5 => ?_
    refine Sb 0 [] 0 fun w15_6 hM15_6 => ?_
    have hMk15 := Mem.gout hx15_3 (hM15_6.pk [4, 0, 1, 2, 3, 5, 6, 7, 8, 9])
    have hq16 : (((Ch)[(x9).toNat]'hx15_3).c.l : List Int) = ((((Ch)[(x9).toNat]'hx15_3).c.l).take 0).map (plcI (ordK (T).t)) ++ (((Ch)[(x9).toNat]'hx15_3).c.l).drop 0 := (by simp)
    have hMn16 := hMk15.reM 2 hq16
    refine lp1 10 [4] (fun (i : Nat) => ([(51, Vi (((i : Nat) : Int)))] : List (Nat × SV))) (fun (i : Nat) => (i ≤ (((Ch)[(x9).toNat]'hx15_3).c.l).length)) (fun (i : Nat) => [[⟨.slice (((Ch)[(x9).toNat]'hx15_3).c.A) ((((((Ch)[(x9).toNat]'hx15_3).c.l).take i).map (plcI (ordK (T).t)) ++ (((Ch)[(x9).toNat]'hx15_3).c.l).drop i).length) (((Ch)[(x9).toNat]'hx15_3).c.cp), 3, 1, ((((((Ch)[(x9).toNat]'hx15_3).c.l).take i).map (plcI (ordK (T).t)) ++ (((Ch)[(x9).toNat]'hx15_3).c.l).drop i).length), (((((Ch)[(x9).toNat]'hx15_3).c.l).take i).map (plcI (ordK (T).t)) ++ (((Ch)[(x9).toNat]'hx15_3).c.l).drop i).map I⟩]]) (fun (i : Nat) => (((Ch)[(x9).toNat]'hx15_3).c.l).length - i) [2, 5, 8, 9, 12, 37, 38, 39, 49, 50] [2] [0, 1, 3, 4, 5, 6, 7, 8, 9, 10, 11, 12] 0 (fun i σ w_l17 hI hM_l17 => ?_) (h0 := (Nat.zero_le _))
    have hi0_l17 := hI
    have hcl0_l17 := (hM_l17.cap 0 rfl).1
    have hcl2_l17 := (hM_l17.cap 2 rfl).1
    have hcl3_l17 := (hM_l17.cap 3 rfl).1
    have hcl5_l17 := (hM_l17.cap 5 rfl).1
    have hcl7_l17 := (hM_l17.cap 7 rfl).1
    have hcl10_l17 := (hM_l17.cap 10 rfl).1
    have hml := mid_len (f := (plcI (ordK (T).t))) (l := ((Ch)[(x9).toNat]'hx15_3).c.l) (k := i)
    refine cd 5 [] (fun c52 => ?_) (fun c52 => ?_)
    · have hi2 : i < (((Ch)[(x9).toNat]'hx15_3).c.l).length := by omega
      obtain ⟨z9, hz9⟩ : ∃ z, z = (((Ch)[(x9).toNat]'hx15_3).c.l)[i]'hi2 := ⟨_, rfl⟩
      have hzm : z9 ∈ (ordK (T).t) := by rw [hz9]; exact (hoi _ hxm).2 _ (by rw [hXt]; exact List.getElem_mem hi2)
      have hzb := inT_t.1 (hoi _ hzm).1
      have hx18_1 : i < (((((Ch)[(x9).toNat]'hx15_3).c.l).take i).map (plcI (ordK (T).t)) ++ (((Ch)[(x9).toNat]'hx15_3).c.l).drop i).length := (by rw [hml]; exact hi2)
      refine ov 6 [] (a := kixM hx18_1 (hM_l17.rd 0 rfl) (h0 := by omega)) (b := ?_)
      refine ov 0 [] (s := Vi (z9)) (a := by exact cv (Ru.congr (v := I ((((((Ch)[(x9).toNat]'hx15_3).c.l).take i).map (plcI (ordK (T).t)) ++ (((Ch)[(x9).toNat]'hx15_3).c.l).drop i)[i]'hx18_1)) (v' := I (z9)) (Ru.load1 el3 rfl (ldm (hM_l17.rd 0 rfl) hx18_1)) ((I_congr (by rw [hz9]; exact mid_get hi2 _)))) rfl) (b := ?_)
      refine any 3 [] 8 [1, 2, 3, 4, 5, 6, 7, 8, 9, 10, 11, 12] fun w19a hM19a => ?_
      have hx19_4 : (z9).toNat < (nbL (ordK (T).t)).length := (by rw [nb_len]; omega)
      refine av [0, 1, 2, 3] [3] 4 (s := Vp (bl b4_0) (((z9).toNat) * 1)) (a := by exact fun w2 hw2 => cv (Ru.indexArr (j := (z9).toNat) Tryd.underlying64 el3 rfl rfl rfl (by omega) (by simp; omega)) rfl) (b := ?_)
      refine av [] [] 5 (s := Vi (((plcI (ordK (T).t)) z9))) (a := by exact fun w2 hw2 => cv (Ru.congr (v := I ((nbL (ordK (T).t))[(z9).toNat]'hx19_4)) (v' := I (((plcI (ordK (T).t)) z9))) (Ru.load1 el3 rfl (ldm (hw2.rd 8 rfl) hx19_4)) ((I_congr (nb_get hzm (by omega) _)))) rfl) (b := ?_)
      have hx19_6 : i < (((((Ch)[(x9).toNat]'hx15_3).c.l).take i).map (plcI (ordK (T).t)) ++ (((Ch)[(x9).toNat]'hx15_3).c.l).drop i).length := (by rw [hml]; exact hi2)
      refine av [] [] 6 (a := by exact fun _ hw2 => kixM hx19_6 (hM19a.rd 0 rfl) (h0 := by omega)) (b := ?_)
      refine aO [] [] 7 ?_
      refine sM 0 [] 0 hx19_6 fun w19_7 hM19_7 => ?_
      refine os 0 [] [1, 2, 3, 4, 5, 6, 7, 8, 9, 10, 11, 12] ?_
      refine an [] [] ?_
      refine ov 1 [] (a := kaddN (i + 1)) (b := ?_)
      have hq17 : ((((((Ch)[(x9).toNat]'hx15_3).c.l).take i).map (plcI (ordK (T).t)) ++ (((Ch)[(x9).toNat]'hx15_3).c.l).drop i).set (i) ((plcI (ordK (T).t)) z9) : List Int) = ((((Ch)[(x9).toNat]'hx15_3).c.l).take (i + 1)).map (plcI (ordK (T).t)) ++ (((Ch)[(x9).toNat]'hx15_3).c.l).drop (i + 1) := (by rw [hz9]; exact mid_set hi2)
      have hMn17 := hM19_7.reM 0 hq17
      exact le1 2 [] (i + 1) [0, 1, 2, 3, 4, 5, 6, 7, 8, 9, 10, 11, 12] (h := by exact (by (try dsimp only); omega))
    have hq18 : (((((Ch)[(x9).toNat]'hx15_3).c.l).take i).map (plcI (ordK (T).t)) ++ (((Ch)[(x9).toNat]'hx15_3).c.l).drop i : List Int) = (((Ch)[(x9).toNat]'hx15_3).c.l).map (plcI (ordK (T).t)) := (mid_all (by omega))
    have hMn18 := hM_l17.reM 0 hq18
    have hMk19 := Mem.gback (l := Ch) (k := ((Ch)[(x9).toNat]'hx15_3).k) (c := (doneP (plcI (ordK (T).t)) ((Ch)[(x9).toNat]'hx15_3)).c) (v := ((Ch)[(x9).toNat]'hx15_3).v) hx15_3 (hMn18.pk [1, 2, 0, 3, 4, 5, 6, 7, 8, 9, 10, 11, 12])
    refine Lt 5 [3, 1] (([(Ch)[(x9).toNat]'hx15_3]).flatMap encPg) (fun w21_3 b21_3 hb21_3 hM21_3 => ?_)
    refine aF 0 [] 3 (hM21_3.rd 0 rfl) (fun w21_4 A21_4 c21_4 hc21_4 hM21_4 => ?_)
    refine Sb 1 [] 4 fun w21_6 hM21_6 => ?_
    have hMk20 := Mem.reE hM21_6 3 (xs' := (Q9 ++ [doneP (plcI (ordK (T).t)) ((Ch)[(x9).toNat]'hx15_3)]).flatMap encPg) done_app (show (Q9 ++ [(Ch)[(x9).toNat]'hx15_3]).length = (Q9 ++ [doneP (plcI (ordK (T).t)) ((Ch)[(x9).toNat]'hx15_3)]).length from (by simp))
    have hMn21 := hMk20.reB 4 1 (show (Q9 ++ [(Ch)[(x9).toNat]'hx15_3]).length = (Q9 ++ [doneP (plcI (ordK (T).t)) ((Ch)[(x9).toNat]'hx15_3)]).length from (by simp))
    have hMk22 := Mem.reE hMn21 5 (xs' := ((Ch).set ((x9).toNat) (doneP (plcI (ordK (T).t)) ((Ch)[(x9).toNat]'hx15_3))).flatMap encPg) (done_set hx15_3) (show (Ch).length = ((Ch).set ((x9).toNat) (doneP (plcI (ordK (T).t)) ((Ch)[(x9).toNat]'hx15_3))).length from (by simp))
    have hRN2 := hRN.step hv (by omega) hx9 hx15_3
    refine ov 2 [] (a := kaddN (k + 1)) (b := ?_)
    have hq23 : (Q9 ++ [doneP (plcI (ordK (T).t)) ((Ch)[(x9).toNat]'hx15_3)] : List PgL) = (Q9 ++ [doneP (plcI (ordK (T).t)) ((Ch)[(x9).toNat]'hx15_3)]) := (by first | rfl | simp | (simp; omega))
    have hMn23 := hMk22.reF 3 hq23
    have hq24 : ((Ch).set ((x9).toNat) (doneP (plcI (ordK (T).t)) ((Ch)[(x9).toNat]'hx15_3)) : List PgL) = ((Ch).set ((x9).toNat) (doneP (plcI (ordK (T).t)) ((Ch)[(x9).toNat]'hx15_3))) := (by first | rfl | simp | (simp; omega))
    have hMn24 := hMn23.reF 5 hq24
    exact le5 2 [] (k + 1) ((Ch).set ((x9).toNat) (doneP (plcI (ordK (T).t)) ((Ch)[(x9).toNat]'hx15_3))) (Q9 ++ [doneP (plcI (ordK (T).t)) ((Ch)[(x9).toNat]'hx15_3)]) A21_4 c21_4 [3, 4, 5, 1, 6, 7, 8, 9, 10] (h := by exact ⟨(by (try dsimp only); omega), hRN2⟩)
  have hRN3 := hRN
  refine Sb 4 [1] 7 fun w23_1 hM23_1 => ?_
  refine EG 3 [] ?_
  refine PG (vs := [.agg #[I (0), .slice (A2) ((Q9).length) (c2)], .bool (true)]) (ResV.cell (l := [I (0), .slice (A2) ((Q9).length) (c2)]) rfl (mem_blk (i := 7) (j := 0) hM23_1 rfl rfl) el25 rfl (ResV.tmp rfl ResV.nil)) ?_
  obtain ⟨hfe, hfp⟩ := hRN3.fin hv (by omega)
  have hMk26 := Mem.gperm hfp (hM23_1.pk [3, 0, 1, 2, 4, 5, 6, 7, 8])
  have hrv := (ren_valid hv).1
  have hszq := sz_small (r := 0) (A := A2) (c := c2) (L := Q9) (by rw [← show (renF (T).t).pages = tsG Q9 from (congrArg TrT.pages hfe).symm]; exact valid_small_all hrv) (by omega)
  exact ⟨0, Q9, A2, c2, (by rw [hv]; rfl), (by rw [renO_yes hv]; exact hfe), hszq, (by omega), (hMk26.pk [1, 0])⟩
end Go.Proofs.YtemejgglbhjodaaDoor
end
