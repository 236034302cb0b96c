/- Own layer, part 6: plain theorems on the walk of this program's functions and on what they compute; no conditions. -/
import Derived.Test.YtemejgglbhjodaaDoorP4
set_option linter.unusedVariables false
set_option linter.unusedSimpArgs false
section
namespace Go.Proofs.YtemejgglbhjodaaDoor
open Go.Px
theorem sSplitV_fn (A : Option Addr) (c : Nat) (l : List PairT) (w : World) (hA : Rd w A ((l).flatMap encP)) (hl : l.length ≤ 1048576) (hcp : l.length ≤ c) (hv : validR l = true) :
    Does Tryd.prog 87 [.slice (A) ((l).length) (c)] w (fun v w1 => ∃ (A1 : Option Addr) (c1 : Nat) (A2 : Option Addr) (c2 : Nat), v = .tuple #[.slice (A1) ((l.take ((l.length + 1) / 2)).length) (c1), .slice (A2) ((l.drop ((l.length + 1) / 2)).length) (c2)] ∧ Mem w w1 [] [[⟨.slice (A1) ((l.take ((l.length + 1) / 2)).length) (c1), 57, 2, ((l.take ((l.length + 1) / 2)).length), (l.take ((l.length + 1) / 2)).flatMap encP⟩], [⟨.slice (A2) ((l.drop ((l.length + 1) / 2)).length) (c2), 57, 2, ((l.drop ((l.length + 1) / 2)).length), (l.drop ((l.length + 1) / 2)).flatMap encP⟩]]) := by
  have hM : Mem w w [] [] := Mem.refl
  refine Does.n2 Tryd.func87 rfl Tryd.results87 Tryd.ntmps87 rfl ?_
  refine cp 9 [] (b := validRow_fn _ _ _ w (hA.at hM) q0) (c := fun w1_1 hM1_1 => ?_)
  refine cn 2 [] (fun c7 => ?_) (fun c7 => ?_)
  · (exfalso; simp [hv] at c7)
  refine ov 5 [] (a := kaddN ((l).length + 1)) (b := ?_)
  refine ov 0 [] (a := kquoN (((l).length + 1) / 2)) (b := ?_)
  refine any 3 [] 10 [] fun w4a hM4a => ?_
  refine av [0, 1] [] 2 (s := Vl (A) (((l).take ((((l).length + 1) / 2))).length) (c)) (a := by exact fun w2 hw2 => cv (Ru.congr (v := .slice (A) ((((l).length + 1) / 2)) (c)) (v' := .slice (A) (((l).take ((((l).length + 1) / 2))).length) (c)) (Ru.lsliceTo (h := (((l).length + 1) / 2)) Tryd.underlying31 el57 rfl rfl (by omega) (by omega)) (sl_congr (by first | rfl | (simp; done) | omega | (simp; omega)))) rfl) (b := ?_)
  refine av [4, 5] [] 6 (s := Vl (if c = (((l).length + 1) / 2) then A else ofs (A) ((((l).length + 1) / 2) * 2)) (((l).drop ((((l).length + 1) / 2))).length) (c - (((l).length + 1) / 2))) (a := by exact fun w2 hw2 => cv (Ru.congr (v := .slice (if c = (((l).length + 1) / 2) then A else ofs (A) ((((l).length + 1) / 2) * 2)) (((l).length) - (((l).length + 1) / 2)) (c - (((l).length + 1) / 2))) (v' := .slice (if c = (((l).length + 1) / 2) then A else ofs (A) ((((l).length + 1) / 2) * 2)) (((l).drop ((((l).length + 1) / 2))).length) (c - (((l).length + 1) / 2))) (Ru.lsliceFrom (l := (((l).length + 1) / 2)) Tryd.underlying31 el57 rfl rfl (by omega) (by omega)) (sl_congr (by first | rfl | (simp; done) | omega | (simp; omega)))) rfl) (b := ?_)
  refine aO [] [] 3 ?_
  refine cq 0 [] (b := scopyRow_fn _ _ _ w4a (rd_takeN encP_len (hA.at hM4a)) q0) (c := ?_)
  rintro _ w4_3 ⟨A14_3, c14_3, rfl, hR4_3⟩
  have hM4_3 := hM4a.cl 0 hR4_3
  have hcr4_3_0 := (hM4_3.cap 0 rfl).1
  refine os 0 [] [] ?_
  refine aO [] [] 7 ?_
  refine cq 0 [] (b := scopyRow_fn _ _ _ w4_3 (rd_dropN (k := (((l).length + 1) / 2)) (c := c) encP_len (hA.at hM4_3) q2 q2) q0) (c := ?_)
  rintro _ w4_7 ⟨A14_7, c14_7, rfl, hR4_7⟩
  have hM4_7 := hM4_3.cl 0 hR4_7
  have hcr4_7_0 := (hM4_7.cap 0 rfl).1
  refine os 0 [] [] ?_
  refine an [8, 9] [] ?_
  refine E2 1 [] (.slice (A14_3) ((((l).take ((((l).length + 1) / 2)))).length) (c14_3)) (.slice (A14_7) ((((l).drop ((((l).length + 1) / 2)))).length) (c14_7)) ?_
  have hq1 : (((l).take ((((l).length + 1) / 2))) : List PairT) = l.take ((l.length + 1) / 2) := (by first | rfl | simp | (simp; omega))
  have hMn1 := hM4_7.reF 1 hq1
  have hq2 : (((l).drop ((((l).length + 1) / 2))) : List PairT) = l.drop ((l.length + 1) / 2) := (by first | rfl | simp | (simp; omega))
  have hMn2 := hMn1.reF 0 hq2
  exact ⟨A14_3, c14_3, A14_7, c14_7, (by first | rfl | exact sl_congr (by first | omega | (simp; done) | (simp; omega)) | (simp; done)), (hMn2.pk [1, 0])⟩
set_option maxHeartbeats 8000000 in
theorem putTree_fn (T : TreeL) (x : PairT) (w : World) (hNT : TrN w T) (hs : SzT T) (hv : validT (T).t = true) (hx : validR [x] = true) :
    Does Tryd.prog 75 [.agg #[I ((T).root), .slice ((T).A) ((T).l.length) ((T).cp)], .agg #[I ((x).key), I ((x).val)]] w (fun v w1 => ∃ (r1 : Int) (L1 : List PgL) (A1 : Option Addr) (c1 : Nat), v = .agg #[I (r1), .slice (A1) ((L1).length) (c1)] ∧ ((⟨r1, tsG L1⟩ : TrT) = putF (T).t x) ∧ Mem w w1 [] [[⟨.slice (A1) ((L1).length) (c1), 39, 3, ((L1).length), (L1).flatMap encPg⟩], (L1).flatMap (pgF 3)]) := by
  have hM : Mem w w [] [] := Mem.refl
  refine Does.nG (rs := [.cell 4 25]) Tryd.func75 rfl Tryd.results75 Tryd.ntmps75 rfl ?_
  have hvk := valid_ok hv
  have hP := path_ok (key := (x).key) hv
  have hpp := hP.pos
  have hp3 := hP.le
  have hl16 := valid_len hv
  rw [pages_len] at hl16
  obtain ⟨lf, hlf⟩ : ∃ z, z = leafI (pathK (T).t (x).key) := ⟨_, rfl⟩
  have hli := inT_t.1 (hP.inn ((pathK (T).t (x).key).length - 1) (by omega))
  rw [show (pathK (T).t (x).key).getD ((pathK (T).t (x).key).length - 1) 0 = lf from hlf.symm] at hli
  have hjl : (lf).toNat < (T).l.length := by omega
  have hgl : gP (T).t lf = ((T).l[(lf).toNat]'hjl).t := gP_at rfl hjl
  have hszl := hs.at hjl
  have hfl := hP.fr ((pathK (T).t (x).key).length - 1) (by omega)
  have hkl := hP.leaf
  rw [show (pathK (T).t (x).key).getD ((pathK (T).t (x).key).length - 1) 0 = lf from hlf.symm] at hfl hkl
  have hvl := (fr_leaf hfl hkl).1
  have hrl := prs_valid hfl hkl
  have h4l := fr_len hfl
  rw [hgl] at hvl hrl h4l
  have hvl0 : ((T).l[(lf).toNat]'hjl).v.l.length = ((T).l[(lf).toNat]'hjl).k.l.length := hvl
  have h4l0 : ((T).l[(lf).toNat]'hjl).k.l.length ≤ 4 := h4l
  have hpl := put_len (l := prsP ((T).l[(lf).toNat]'hjl).t) (x := x)
  rw [prs_lenG] at hpl
  refine Bx 2 [] fun w0_0 b0_0 hb0_0 hM0_0 => ?_
  refine Bx 0 [] fun w0_1 b0_1 hb0_1 hM0_1 => ?_
  refine Al 0 [] fun w0_2 b0_2 hb0_2 hM0_2 => ?_
  refine cq 4 [2] (b := scopyTree_fn T w0_2 (hNT.at hM0_2) q0) (c := ?_)
  rintro _ w1_1 ⟨L11_1, A11_1, c11_1, rfl, hts1_1, hR1_1⟩
  have hM1_1 := hM0_2.cl 0 hR1_1
  have hcr1_1_0 := (hM1_1.cap 0 rfl).1
  have hLl := tsg_eq_len hts1_1
  refine Al 0 [] fun w1_2 b1_2 hb1_2 hM1_2 => ?_
  refine Sb 0 [] 0 fun w1_3 hM1_3 => ?_
  refine cq 6 [5, 4] (b := pathTo_fn T _ w1_3 (hNT.at hM1_3) q0 q0) (c := ?_)
  rintro _ w2_3 ⟨A12_3, c12_3, rfl, hR2_3⟩
  have hM2_3 := hM1_3.cl 0 hR2_3
  have hcr2_3_0 := (hM2_3.cap 0 rfl).1
  refine ov 6 [] (a := ksub) (b := ?_)
  refine any 3 [] 12 [0, 1, 2, 3, 4, 5, 6] fun w4a hM4a => ?_
  have hx4_4 : ((pathK (T).t (x).key).length - 1) < (pathK (T).t ((x).key)).length := (by omega)
  refine av [0, 1, 2, 3] [6] 4 (a := by exact fun _ hw2 => kixM hx4_4 (hM4a.rd 0 rfl) (h0 := by omega)) (b := ?_)
  refine av [] [] 5 (s := Vi (lf)) (a := by exact fun w2 hw2 => cv (Ru.congr (v := I ((pathK (T).t ((x).key))[((pathK (T).t (x).key).length - 1)]'hx4_4)) (v' := I (lf)) (Ru.load1 el3 rfl (ldm (hw2.rd 0 rfl) hx4_4)) (I_congr ((getD_in hx4_4).symm.trans hlf.symm))) rfl) (b := ?_)
  have hx4_6 : (lf).toNat < ((T).l).length := (by omega)
  refine av [] [] 6 (a := by exact fun _ hw2 => kixF hx4_6 (hNT.at hM4a).1 (h0 := by omega)) (b := ?_)
  refine aO [9] [5] 7 ?_
  refine ov 0 [] (a := kldN hx4_6 (hNT.at hM4a).1) (b := ?_)
  refine os 0 [] [0, 1, 2, 3, 4, 5, 6] ?_
  refine aO [] [] 8 ?_
  refine cq 0 [] (b := rowOf_fn (((T).l)[(lf).toNat]'hx4_6) w4a (((hNT.at hM4a)).2.get hx4_6) qo (by exact hvl0)) (c := ?_)
  rintro _ w4_8 ⟨A14_8, c14_8, rfl, hR4_8⟩
  have hM4_8 := hM4a.cl 0 hR4_8
  have hcr4_8_0 := (hM4_8.cap 0 rfl).1
  refine os 0 [] [1, 2, 3, 4, 5, 6, 7] ?_
  refine aO [] [] 10 ?_
  refine cq 0 [] (b := sput_fn _ _ _ x w4_8 (hM4_8.rd 0 rfl) (by rw [prs_lenG]; omega) (by exact validR_asc hrl) qo) (c := ?_)
  rintro _ w4_10 ⟨A14_10, c14_10, rfl, hR4_10⟩
  have hM4_10 := hM4_8.cl 0 hR4_10
  have hcr4_10_0 := (hM4_10.cap 0 rfl).1
  refine os 0 [] [2, 3, 4, 5, 6, 7, 8] ?_
  refine an [11] [] ?_
  refine any 1 [] 10 [0, 1, 2, 3, 5, 6, 7, 8] fun w5a hM5a => ?_
  have hx5_4 : ((pathK (T).t (x).key).length - 1) < (pathK (T).t ((x).key)).length := (by omega)
  refine av [0, 1, 2, 3] [3] 4 (a := by exact fun _ hw2 => kixM hx5_4 (hM5a.rd 2 rfl) (h0 := by omega)) (b := ?_)
  refine av [] [] 5 (s := Vi (lf)) (a := by exact fun w2 hw2 => cv (Ru.congr (v := I ((pathK (T).t ((x).key))[((pathK (T).t (x).key).length - 1)]'hx5_4)) (v' := I (lf)) (Ru.load1 el3 rfl (ldm (hw2.rd 2 rfl) hx5_4)) (I_congr ((getD_in hx5_4).symm.trans hlf.symm))) rfl) (b := ?_)
  refine aO [6] [] 7 ?_
  refine cq 0 [] (b := leafOf_fn _ _ _ w5a (hM5a.rd 0 rfl) qo qo) (c := ?_)
  rintro _ w5_7 ⟨A15_7, c15_7, A25_7, c25_7, A35_7, c35_7, rfl, hR5_7⟩
  have hM5_7 := hM5a.cl 0 hR5_7
  have hcr5_7_0 := (hM5_7.cap 0 rfl).1
  have hcr5_7_1 := (hM5_7.cap 1 rfl).1
  have hcr5_7_2 := (hM5_7.cap 2 rfl).1
  refine os 0 [] [3, 4, 5, 6, 8, 9, 10, 11] ?_
  have hx5_8 : (lf).toNat < (L11_1).length := (by omega)
  refine av [] [] 8 (a := by exact fun _ hw2 => kixF hx5_8 (hM5_7.rd 7 rfl) (h0 := by omega)) (b := ?_)
  refine aO [] [] 9 ?_
  let p1_ : PgL := (⟨⟨A15_7, c15_7, keysP (putP (prsP ((((T).l)[(lf).toNat]'hx4_6)).t) x)⟩, ⟨A25_7, c25_7, ([] : List Int)⟩, ⟨A35_7, c35_7, (putP (prsP ((((T).l)[(lf).toNat]'hx4_6)).t) x).map PairT.val⟩⟩ : PgL)
  refine sF 0 [] 7 p1_ hx5_8 fun w5_9 hM5_9 => ?_
  refine os 0 [] [3, 4, 5, 6, 8, 9, 10, 11] ?_
  refine an [] [] ?_
  have hMk1 := Mem.gset (k := ⟨A15_7, c15_7, keysP (putP (prsP ((((T).l)[(lf).toNat]'hx4_6)).t) x)⟩) (c := ⟨A25_7, c25_7, ([] : List Int)⟩) (v := ⟨A35_7, c35_7, (putP (prsP ((((T).l)[(lf).toNat]'hx4_6)).t) x).map PairT.val⟩) ((lf).toNat) (hM5_9.pk [8, 0, 1, 2, 3, 4, 5, 6, 7, 9, 10, 11])
  have hq2 : ((L11_1).set ((lf).toNat) p1_ : List PgL) = (L11_1).set ((lf).toNat) p1_ := rfl
  have hMn2 := hMk1.reF 5 hq2
  have hMn3 := hMn2.reB 4 1 (show (L11_1).length = ((L11_1).set ((lf).toNat) p1_).length from (by first | rfl | simp | (simp; omega)))
  have hq4 : ((L11_1).set ((lf).toNat) p1_ : List PgL) = ((L11_1).set ((lf).toNat) p1_) := (by first | rfl | simp | (simp; omega))
  have hMn4 := hMn3.reF 5 hq4
  refine lp5 2 [] (fun (a : Nat) (rt : Int) (Ch : List PgL) (A2 : Option Addr) (c2 : Nat) => ([(7, Vi ((((a : Nat) : Int) - 1)))] : List (Nat × SV))) (fun (a : Nat) (rt : Int) (Ch : List PgL) (A2 : Option Addr) (c2 : Nat) => (GI (T).t (pathK (T).t (x).key) a (⟨rt, tsG Ch⟩ : TrT)) ∧ (growT (pathK (T).t (x).key) a (⟨rt, tsG Ch⟩ : TrT) = putF (T).t x)) (fun (a : Nat) (rt : Int) (Ch : List PgL) (A2 : Option Addr) (c2 : Nat) => [(Ch).flatMap (pgF 3), [⟨.slice (bl b1_2) 1 1, 25, 2, 1, [I (rt), .slice (A2) ((Ch).length) (c2)]⟩], [⟨.slice (A2) ((Ch).length) (c2), 39, 3, ((Ch).length), (Ch).flatMap encPg⟩]]) (fun (a : Nat) (rt : Int) (Ch : List PgL) (A2 : Option Addr) (c2 : Nat) => a) [4, 5, 6] [0, 4, 5] [1, 2, 3, 6, 7, 8] ((pathK (T).t (x).key).length) ((T).root) ((L11_1).set ((lf).toNat) p1_) A11_1 c11_1 (fun a rt Ch A2 c2 σ w_l6 hI hM_l6 => ?_) (h0 := ⟨(by (try dsimp only); rw [show (⟨(T).root, tsG ((L11_1).set ((lf).toNat) p1_)⟩ : TrT) = startT (T).t (pathK (T).t (x).key) x from (by rw [tsg_set, hts1_1]; unfold startT setP; rw [← hlf, hgl]; rfl)]; exact GI.start hv hP hx), (by (try dsimp only); rw [show (⟨(T).root, tsG ((L11_1).set ((lf).toNat) p1_)⟩ : TrT) = startT (T).t (pathK (T).t (x).key) x from (by rw [tsg_set, hts1_1]; unfold startT setP; rw [← hlf, hgl]; rfl)]; exact rfl)⟩)
  obtain ⟨hi0_l6, hi1_l6⟩ := hI
  have hcl2_l6 := (hM_l6.cap 2 rfl).1
  have hcl3_l6 := (hM_l6.cap 3 rfl).1
  have hcl4_l6 := (hM_l6.cap 4 rfl).1
  have hcl5_l6 := (hM_l6.cap 5 rfl).1
  have hG := hi0_l6
  have ha1 := hG.a1
  obtain ⟨cur, hcu⟩ : ∃ z, z = (pathK (T).t (x).key).getD (a - 1) 0 := ⟨_, rfl⟩
  have hcl := hG.len
  simp only [pages_len, List.length_map] at hcl
  have hci := inT_iff.1 (hG.curIn hP (k := a - 1) (by omega))
  simp only [List.length_map] at hci
  rw [← hcu] at hci
  have hjc : (cur).toNat < (Ch).length := by omega
  have hgc : gP (⟨rt, tsG Ch⟩ : TrT) cur = ((Ch)[(cur).toNat]'hjc).t := gP_ch hjc
  have hcr := hG.cur
  rw [← hcu, hgc] at hcr
  have hk5 : (((Ch)[(cur).toNat]'hjc).k.l).length ≤ 5 := hcr.1
  obtain ⟨sp, hsp⟩ : ∃ z, z = split1 ((Ch)[(cur).toNat]'hjc).t := ⟨_, rfl⟩
  have hsp0 := hsp
  refine dr 2 [] ?_
  refine qp 3 [] 48 (fun g48 => ?_) (fun g48 => ?_)
  · have hx6_7 : (a - 1) < (pathK (T).t ((x).key)).length := (by omega)
    refine qv 4 [1] (a := by exact fun _ hw2 => kixM hx6_7 (hw2.rd 5 rfl) (h0 := by omega)) (b := ?_)
    refine qv 0 [] (s := Vi (cur)) (a := by exact fun w2 hw2 => cv (Ru.congr (v := I ((pathK (T).t ((x).key))[(a - 1)]'hx6_7)) (v' := I (cur)) (Ru.load1 el3 rfl (ldm (hw2.rd 5 rfl) hx6_7)) (I_congr ((getD_in hx6_7).symm.trans hcu.symm))) rfl) (b := ?_)
    have hx6_9 : (cur).toNat < (Ch).length := (by omega)
    refine qv 0 [] (a := by exact fun _ hw2 => kixF hx6_9 (hw2.rd 2 rfl) (h0 := by omega)) (b := ?_)
    refine qv 0 [] (a := by exact fun _ hw2 => kflF hx6_9 (hw2.rd 2 rfl)) (b := ?_)
    refine qv 0 [] (a := by exact fun _ hw2 => kldF hx6_9 (hw2.rd 2 rfl)) (b := ?_)
    refine qn 3 [] fun w6d hM6d => ?_
    refine cd 0 [] (fun c60 => ?_) (fun c60 => ?_)
    · refine ct3 13 [1] (fun (Ch2 : List PgL) (A2 : Option Addr) (c2 : Nat) => ([(10, Vi ((sp).2.1))] : List (Nat × SV))) (fun (Ch2 : List PgL) (A2 : Option Addr) (c2 : Nat) => ((⟨rt, tsG Ch2⟩ : TrT) = addP (setP (⟨rt, tsG Ch⟩ : TrT) cur sp.1) sp.2.2)) (fun (Ch2 : List PgL) (A2 : Option Addr) (c2 : Nat) => [(Ch2).flatMap (pgF 3), [⟨.slice (bl b1_2) 1 1, 25, 2, 1, [I (rt), .slice (A2) ((Ch2).length) (c2)]⟩], [⟨.slice (A2) ((Ch2).length) (c2), 39, 3, ((Ch2).length), (Ch2).flatMap encPg⟩]]) [4, 5, 6, 7, 9] [3, 4, 5, 6, 7, 8] ?_ (fun Ch2 A2 c2 σ w_c74 hI hM_c74 => ?_)
      · refine dr 1 [] ?_
        have hx9_4 : (a - 1) < (pathK (T).t ((x).key)).length := (by omega)
        refine qv 4 [1] (a := by exact fun _ hw2 => kixM hx9_4 (hw2.rd 5 rfl) (h0 := by omega)) (b := ?_)
        refine qv 0 [] (s := Vi (cur)) (a := by exact fun w2 hw2 => cv (Ru.congr (v := I ((pathK (T).t ((x).key))[(a - 1)]'hx9_4)) (v' := I (cur)) (Ru.load1 el3 rfl (ldm (hw2.rd 5 rfl) hx9_4)) (I_congr ((getD_in hx9_4).symm.trans hcu.symm))) rfl) (b := ?_)
        have hx9_6 : (cur).toNat < (Ch).length := (by omega)
        refine qv 0 [] (a := by exact fun _ hw2 => kixF hx9_6 (hw2.rd 2 rfl) (h0 := by omega)) (b := ?_)
        refine qv 0 [] (a := by exact fun _ hw2 => kflF hx9_6 (hw2.rd 2 rfl)) (b := ?_)
        refine qv 0 [] (a := by exact fun _ hw2 => kldF hx9_6 (hw2.rd 2 rfl)) (b := ?_)
        refine qn 2 [] fun w9d hM9d => ?_
        refine cd 0 [] (fun c74 => ?_) (fun c74 => ?_)
        · have hk0 : ((Ch)[(cur).toNat]'hjc).t.kids = [] := List.eq_nil_of_length_eq_zero (by show (((Ch)[(cur).toNat]'hjc).c.l).length = 0; omega)
          have hcv : ((Ch)[(cur).toNat]'hjc).t.vals.length = ((Ch)[(cur).toNat]'hjc).t.keys.length ∧ validR (prsP ((Ch)[(cur).toNat]'hjc).t) = true := by rcases hcr.2 with h9 | h9; exact h9.2; (exfalso; have h8 := h9.1; rw [hk0] at h8; simp at h8)
          have hcv1 : ((Ch)[(cur).toNat]'hjc).v.l.length = (((Ch)[(cur).toNat]'hjc).k.l).length := hcv.1
          rw [split_lf hk0] at hsp
          have hpl5 : (prsP ((Ch)[(cur).toNat]'hjc).t).length = (((Ch)[(cur).toNat]'hjc).k.l).length := prs_lenG
          have hd0 : 0 < ((prsP ((Ch)[(cur).toNat]'hjc).t).drop (((prsP ((Ch)[(cur).toNat]'hjc).t).length + 1) / 2)).length := by rw [List.length_drop, hpl5]; omega
          refine any 1 [] 15 [0, 1, 2, 3, 4, 5, 6, 7, 8] fun w10a hM10a => ?_
          have hx10_4 : (a - 1) < (pathK (T).t ((x).key)).length := (by omega)
          refine av [0, 1, 2, 3] [1] 4 (a := by exact fun _ hw2 => kixM hx10_4 (hM10a.rd 5 rfl) (h0 := by omega)) (b := ?_)
          refine av [] [] 5 (s := Vi (cur)) (a := by exact fun w2 hw2 => cv (Ru.congr (v := I ((pathK (T).t ((x).key))[(a - 1)]'hx10_4)) (v' := I (cur)) (Ru.load1 el3 rfl (ldm (hw2.rd 5 rfl) hx10_4)) (I_congr ((getD_in hx10_4).symm.trans hcu.symm))) rfl) (b := ?_)
          have hx10_6 : (cur).toNat < (Ch).length := (by omega)
          refine av [] [] 6 (a := by exact fun _ hw2 => kixF hx10_6 (hM10a.rd 2 rfl) (h0 := by omega)) (b := ?_)
          refine av [] [] 7 (a := by exact fun _ hw2 => kldN hx10_6 (hw2.rd 2 rfl)) (b := ?_)
          refine aO [] [] 8 ?_
          refine cq 0 [] (b := rowOf_fn ((Ch)[(cur).toNat]'hx10_6) w10a ((NsP.mem hM10a 0 rfl).get hx10_6) qo (by exact hcv1)) (c := ?_)
          rintro _ w10_8 ⟨A110_8, c110_8, rfl, hR10_8⟩
          have hM10_8 := hM10a.cl 0 hR10_8
          have hcr10_8_0 := (hM10_8.cap 0 rfl).1
          refine os 0 [] [1, 2, 3, 4, 5, 6, 7, 8, 9] ?_
          refine aO [] [] 9 ?_
          refine cq 0 [] (b := sSplitV_fn _ _ _ w10_8 (hM10_8.rd 0 rfl) qo qo (by exact hcv.2)) (c := ?_)
          rintro _ w10_9 ⟨A110_9, c110_9, A210_9, c210_9, rfl, hR10_9⟩
          have hM10_9 := hM10_8.cl 0 hR10_9
          have hcr10_9_0 := (hM10_9.cap 0 rfl).1
          have hcr10_9_1 := (hM10_9.cap 1 rfl).1
          refine os 0 [] [3, 4, 5, 6, 7, 8, 9, 10, 11] ?_
          refine an [10, 11, 12, 13, 14] [] ?_
          have hx11_1 : 0 < ((prsP (((Ch)[(cur).toNat]'hx10_6)).t).drop (((prsP (((Ch)[(cur).toNat]'hx10_6)).t).length + 1) / 2)).length := hd0
          refine ov 3 [] (a := kixF hx11_1 (hM10_9.rd 1 rfl) (h0 := by omega)) (b := ?_)
          refine ov 0 [] (a := kflF hx11_1 (hM10_9.rd 1 rfl)) (b := ?_)
          refine ov 0 [] (s := Vi ((sp).2.1)) (a := by exact cv (Ru.congr (v := I ((((prsP (((Ch)[(cur).toNat]'hx10_6)).t).drop (((prsP (((Ch)[(cur).toNat]'hx10_6)).t).length + 1) / 2))[0]'hx11_1).key)) (v' := I ((sp).2.1)) (Ru.load1 el3 rfl (ldf encP_len (hM10_9.rd 1 rfl) hx11_1 rfl)) (I_congr (by rw [hsp]; exact (getP_key hd0).symm))) rfl) (b := ?_)
          refine any 3 [] 10 [0, 1, 2, 3, 4, 6, 7, 8, 9, 10, 11] fun w12a hM12a => ?_
          have hx12_4 : (a - 1) < (pathK (T).t ((x).key)).length := (by omega)
          refine av [0, 1, 2, 3] [4] 4 (a := by exact fun _ hw2 => kixM hx12_4 (hM12a.rd 8 rfl) (h0 := by omega)) (b := ?_)
          refine av [] [] 5 (s := Vi (cur)) (a := by exact fun w2 hw2 => cv (Ru.congr (v := I ((pathK (T).t ((x).key))[(a - 1)]'hx12_4)) (v' := I (cur)) (Ru.load1 el3 rfl (ldm (hw2.rd 7 rfl) hx12_4)) (I_congr ((getD_in hx12_4).symm.trans hcu.symm))) rfl) (b := ?_)
          refine aO [6] [] 7 ?_
          refine cq 0 [] (b := leafOf_fn _ _ _ w12a (hM12a.rd 0 rfl) (by first | omega | (simp only [List.length_take, List.length_drop, List.length_cons, List.length_nil, prs_lenG]; omega)) qo) (c := ?_)
          rintro _ w12_7 ⟨A112_7, c112_7, A212_7, c212_7, A312_7, c312_7, rfl, hR12_7⟩
          have hM12_7 := hM12a.cl 0 hR12_7
          have hcr12_7_0 := (hM12_7.cap 0 rfl).1
          have hcr12_7_1 := (hM12_7.cap 1 rfl).1
          have hcr12_7_2 := (hM12_7.cap 2 rfl).1
          refine os 0 [] [3, 4, 5, 6, 7, 9, 10, 11, 12, 13, 14] ?_
          have hx12_8 : (cur).toNat < (Ch).length := (by omega)
          refine av [] [] 8 (a := by exact fun _ hw2 => kixF hx12_8 (hM12_7.rd 8 rfl) (h0 := by omega)) (b := ?_)
          refine aO [] [] 9 ?_
          let p2_ : PgL := (⟨⟨A112_7, c112_7, keysP ((prsP (((Ch)[(cur).toNat]'hx10_6)).t).take (((prsP (((Ch)[(cur).toNat]'hx10_6)).t).length + 1) / 2))⟩, ⟨A212_7, c212_7, ([] : List Int)⟩, ⟨A312_7, c312_7, ((prsP (((Ch)[(cur).toNat]'hx10_6)).t).take (((prsP (((Ch)[(cur).toNat]'hx10_6)).t).length + 1) / 2)).map PairT.val⟩⟩ : PgL)
          refine sF 0 [] 8 p2_ hx12_8 fun w12_9 hM12_9 => ?_
          refine os 0 [] [3, 4, 5, 6, 7, 9, 10, 11, 12, 13, 14] ?_
          refine an [] [] ?_
          have hMk6 := Mem.gset (k := ⟨A112_7, c112_7, keysP ((prsP (((Ch)[(cur).toNat]'hx10_6)).t).take (((prsP (((Ch)[(cur).toNat]'hx10_6)).t).length + 1) / 2))⟩) (c := ⟨A212_7, c212_7, ([] : List Int)⟩) (v := ⟨A312_7, c312_7, ((prsP (((Ch)[(cur).toNat]'hx10_6)).t).take (((prsP (((Ch)[(cur).toNat]'hx10_6)).t).length + 1) / 2)).map PairT.val⟩) ((cur).toNat) (hM12_9.pk [6, 0, 1, 2, 3, 4, 5, 7, 8, 9, 10, 11, 12, 13, 14])
          refine any 0 [] 8 [0, 1, 2, 3, 6, 7, 8, 9, 10, 11] fun w13a hM13a => ?_
          refine aT [0, 2] [] 1 3 ?_ ?_
          · refine os 1 [4] [0, 1, 2, 3, 6, 7, 8, 9, 10, 11] ?_
            refine aO [] [] 3 ?_
            refine cq 0 [] (b := leafOf_fn _ _ _ w13a (hM13a.rd 2 rfl) (by first | omega | (simp only [List.length_take, List.length_drop, List.length_cons, List.length_nil, prs_lenG]; omega)) qo) (c := ?_)
            rintro _ w13_3 ⟨A113_3, c113_3, A213_3, c213_3, A313_3, c313_3, rfl, hR13_3⟩
            have hM13_3 := hM13a.cl 0 hR13_3
            have hcr13_3_0 := (hM13_3.cap 0 rfl).1
            have hcr13_3_1 := (hM13_3.cap 1 rfl).1
            have hcr13_3_2 := (hM13_3.cap 2 rfl).1
            refine os 0 [] [3, 4, 5, 6, 9, 10, 11, 12, 13, 14] ?_
            refine aO [] [] 4 ?_
            let p3_ : PgL := (⟨⟨A113_3, c113_3, keysP ((prsP (((Ch)[(cur).toNat]'hx10_6)).t).drop (((prsP (((Ch)[(cur).toNat]'hx10_6)).t).length + 1) / 2))⟩, ⟨A213_3, c213_3, ([] : List Int)⟩, ⟨A313_3, c313_3, ((prsP (((Ch)[(cur).toNat]'hx10_6)).t).drop (((prsP (((Ch)[(cur).toNat]'hx10_6)).t).length + 1) / 2)).map PairT.val⟩⟩ : PgL)
            refine Lt 0 [] (([p3_]).flatMap encPg) (fun w13_4 b13_4 hb13_4 hM13_4 => ?_)
            refine os 0 [] [4, 5, 6, 7, 10, 11, 12, 13, 14, 15] ?_
            refine aO [] [] 5 ?_
            refine aF 0 [] 9 (hM13_4.rd 0 rfl) (fun w13_5 A13_5 c13_5 hc13_5 hM13_5 => ?_) (hn := by first | omega | (simp only [List.length_append, List.length_set, List.length_cons, List.length_nil]; omega)) (hb := by first | omega | (simp only [List.length_append, List.length_set, List.length_cons, List.length_nil]; omega))
            refine os 0 [] [4, 5, 6, 7, 10, 11, 12, 13, 14, 15] ?_
            refine aO [6] [] 7 ?_
            refine Sb 0 [] 8 fun w13_7 hM13_7 => ?_
            refine os 0 [] [4, 5, 6, 7, 10, 11, 12, 13, 14, 15] ?_
            refine an [] [] ?_
            have hMk7 := Mem.gapp (k := ⟨A113_3, c113_3, keysP ((prsP (((Ch)[(cur).toNat]'hx10_6)).t).drop (((prsP (((Ch)[(cur).toNat]'hx10_6)).t).length + 1) / 2))⟩) (c := ⟨A213_3, c213_3, ([] : List Int)⟩) (v := ⟨A313_3, c313_3, ((prsP (((Ch)[(cur).toNat]'hx10_6)).t).drop (((prsP (((Ch)[(cur).toNat]'hx10_6)).t).length + 1) / 2)).map PairT.val⟩) (hM13_7.pk [4, 1, 2, 3, 0, 5, 6, 7, 8, 9, 10, 11, 12, 13, 14, 15])
            have hR1 : (⟨rt, tsG ((Ch).set ((cur).toNat) p2_ ++ [p3_])⟩ : TrT) = addP (setP (⟨rt, tsG Ch⟩ : TrT) cur sp.1) sp.2.2 := by rw [tsg_app, tsg_set]; rw [hsp]; rfl
            have hq8 : ((Ch).set ((cur).toNat) p2_ ++ [p3_] : List PgL) = ((Ch).set ((cur).toNat) p2_ ++ [p3_]) := (by first | rfl | simp | (simp; omega))
            have hMn8 := hMk7.reF 6 hq8
            exact ce3 0 [] ((Ch).set ((cur).toNat) p2_ ++ [p3_]) A13_5 c13_5 [0, 5, 6, 7, 8, 9, 10, 11, 12] (hL := by exact (Has.cons (I_congr (by first | rfl | exact (congrArg (fun z => z.2.1) hsp).symm)) Has.nil)) (h := by exact hR1)
          refine cq 0 [] (b := leafOf_fn _ _ _ w13a (hM13a.rd 2 rfl) (by first | omega | (simp only [List.length_take, List.length_drop, List.length_cons, List.length_nil, prs_lenG]; omega)) qo) (c := ?_)
          rintro _ w13_3 ⟨A113_3, c113_3, A213_3, c213_3, A313_3, c313_3, rfl, hR13_3⟩
          have hM13_3 := hM13a.cl 0 hR13_3
          have hcr13_3_0 := (hM13_3.cap 0 rfl).1
          have hcr13_3_1 := (hM13_3.cap 1 rfl).1
          have hcr13_3_2 := (hM13_3.cap 2 rfl).1
          refine os 0 [] [3, 4, 5, 6, 9, 10, 11, 12, 13, 14] ?_
          refine aT [] [] 1 4 ?_ ?_
          · refine os 1 [7] [3, 4, 5, 6, 9, 10, 11, 12, 13, 14] ?_
            refine aO [] [] 4 ?_
            let p4_ : PgL := (⟨⟨A113_3, c113_3, keysP ((prsP (((Ch)[(cur).toNat]'hx10_6)).t).drop (((prsP (((Ch)[(cur).toNat]'hx10_6)).t).length + 1) / 2))⟩, ⟨A213_3, c213_3, ([] : List Int)⟩, ⟨A313_3, c313_3, ((prsP (((Ch)[(cur).toNat]'hx10_6)).t).drop (((prsP (((Ch)[(cur).toNat]'hx10_6)).t).length + 1) / 2)).map PairT.val⟩⟩ : PgL)
            refine Lt 0 [] (([p4_]).flatMap encPg) (fun w13_4 b13_4 hb13_4 hM13_4 => ?_)
            refine os 0 [] [4, 5, 6, 7, 10, 11, 12, 13, 14, 15] ?_
            refine aO [] [] 5 ?_
            refine aF 0 [] 9 (hM13_4.rd 0 rfl) (fun w13_5 A13_5 c13_5 hc13_5 hM13_5 => ?_) (hn := by first | omega | (simp only [List.length_append, List.length_set, List.length_cons, List.length_nil]; omega)) (hb := by first | omega | (simp only [List.length_append, List.length_set, List.length_cons, List.length_nil]; omega))
            refine os 0 [] [4, 5, 6, 7, 10, 11, 12, 13, 14, 15] ?_
            refine aO [6] [] 7 ?_
            refine Sb 0 [] 8 fun w13_7 hM13_7 => ?_
            refine os 0 [] [4, 5, 6, 7, 10, 11, 12, 13, 14, 15] ?_
            refine an [] [] ?_
            have hMk10 := Mem.gapp (k := ⟨A113_3, c113_3, keysP ((prsP (((Ch)[(cur).toNat]'hx10_6)).t).drop (((prsP (((Ch)[(cur).toNat]'hx10_6)).t).length + 1) / 2))⟩) (c := ⟨A213_3, c213_3, ([] : List Int)⟩) (v := ⟨A313_3, c313_3, ((prsP (((Ch)[(cur).toNat]'hx10_6)).t).drop (((prsP (((Ch)[(cur).toNat]'hx10_6)).t).length + 1) / 2)).map PairT.val⟩) (hM13_7.pk [4, 1, 2, 3, 0, 5, 6, 7, 8, 9, 10, 11, 12, 13, 14, 15])
            have hR1 : (⟨rt, tsG ((Ch).set ((cur).toNat) p2_ ++ [p4_])⟩ : TrT) = addP (setP (⟨rt, tsG Ch⟩ : TrT) cur sp.1) sp.2.2 := by rw [tsg_app, tsg_set]; rw [hsp]; rfl
            have hq11 : ((Ch).set ((cur).toNat) p2_ ++ [p4_] : List PgL) = ((Ch).set ((cur).toNat) p2_ ++ [p4_]) := (by first | rfl | simp | (simp; omega))
            have hMn11 := hMk10.reF 6 hq11
            exact ce3 0 [] ((Ch).set ((cur).toNat) p2_ ++ [p4_]) A13_5 c13_5 [0, 5, 6, 7, 8, 9, 10, 11, 12] (hL := by exact (Has.cons (I_congr (by first | rfl | exact (congrArg (fun z => z.2.1) hsp).symm)) Has.nil)) (h := by exact hR1)
          let p5_ : PgL := (⟨⟨A113_3, c113_3, keysP ((prsP (((Ch)[(cur).toNat]'hx10_6)).t).drop (((prsP (((Ch)[(cur).toNat]'hx10_6)).t).length + 1) / 2))⟩, ⟨A213_3, c213_3, ([] : List Int)⟩, ⟨A313_3, c313_3, ((prsP (((Ch)[(cur).toNat]'hx10_6)).t).drop (((prsP (((Ch)[(cur).toNat]'hx10_6)).t).length + 1) / 2)).map PairT.val⟩⟩ : PgL)
          refine Lt 0 [] (([p5_]).flatMap encPg) (fun w13_4 b13_4 hb13_4 hM13_4 => ?_)
          refine os 0 [] [4, 5, 6, 7, 10, 11, 12, 13, 14, 15] ?_
          refine aO [] [] 1 ?_
          refine os 1 [8] [4, 5, 6, 7, 10, 11, 12, 13, 14, 15] ?_
          refine aO [] [] 5 ?_
          refine aF 0 [] 9 (hM13_4.rd 0 rfl) (fun w13_5 A13_5 c13_5 hc13_5 hM13_5 => ?_) (hn := by first | omega | (simp only [List.length_append, List.length_set, List.length_cons, List.length_nil]; omega)) (hb := by first | omega | (simp only [List.length_append, List.length_set, List.length_cons, List.length_nil]; omega))
          refine os 0 [] [4, 5, 6, 7, 10, 11, 12, 13, 14, 15] ?_
          refine aO [6] [] 7 ?_
          refine Sb 0 [] 8 fun w13_7 hM13_7 => ?_
          refine os 0 [] [4, 5, 6, 7, 10, 11, 12, 13, 14, 15] ?_
          refine an [] [] ?_
          have hMk13 := Mem.gapp (k := ⟨A113_3, c113_3, keysP ((prsP (((Ch)[(cur).toNat]'hx10_6)).t).drop (((prsP (((Ch)[(cur).toNat]'hx10_6)).t).length + 1) / 2))⟩) (c := ⟨A213_3, c213_3, ([] : List Int)⟩) (v := ⟨A313_3, c313_3, ((prsP (((Ch)[(cur).toNat]'hx10_6)).t).drop (((prsP (((Ch)[(cur).toNat]'hx10_6)).t).length + 1) / 2)).map PairT.val⟩) (hM13_7.pk [4, 1, 2, 3, 0, 5, 6, 7, 8, 9, 10, 11, 12, 13, 14, 15])
          have hR1 : (⟨rt, tsG ((Ch).set ((cur).toNat) p2_ ++ [p5_])⟩ : TrT) = addP (setP (⟨rt, tsG Ch⟩ : TrT) cur sp.1) sp.2.2 := by rw [tsg_app, tsg_set]; rw [hsp]; rfl
          have hq14 : ((Ch).set ((cur).toNat) p2_ ++ [p5_] : List PgL) = ((Ch).set ((cur).toNat) p2_ ++ [p5_]) := (by first | rfl | simp | (simp; omega))
          have hMn14 := hMk13.reF 6 hq14
          exact ce3 0 [] ((Ch).set ((cur).toNat) p2_ ++ [p5_]) A13_5 c13_5 [0, 5, 6, 7, 8, 9, 10, 11, 12] (hL := by exact (Has.cons (I_congr (by first | rfl | exact (congrArg (fun z => z.2.1) hsp).symm)) Has.nil)) (h := by exact hR1)
        have hk0 : ((Ch)[(cur).toNat]'hjc).t.kids ≠ [] := by intro e9; exact absurd (show (((Ch)[(cur).toNat]'hjc).c.l).length = 0 from congrArg List.length e9) (by omega)
        have hci2 : (((Ch)[(cur).toNat]'hjc).c.l).length = (((Ch)[(cur).toNat]'hjc).k.l).length + 1 ∧ 1 ≤ (((Ch)[(cur).toNat]'hjc).k.l).length := by rcases hcr.2 with h9 | h9; (exact absurd h9.1 hk0); exact h9
        rw [split_in hk0] at hsp
        refine ct10 0 [] (fun (bx13 : Nat) (P13_0 : Option Addr) (p13_0 : Nat) (P13_1 : Option Addr) (p13_1 : Nat) (bx15 : Nat) (P15_0 : Option Addr) (p15_0 : Nat) (P15_1 : Option Addr) (p15_1 : Nat) => ([(13, Vp (bl bx13) (0)), (14, Vi ((((Ch)[(cur).toNat]'hjc).k.l).getD ((((Ch)[(cur).toNat]'hjc).k.l).length / 2) 0)), (15, Vp (bl bx15) (0))] : List (Nat × SV))) (fun (bx13 : Nat) (P13_0 : Option Addr) (p13_0 : Nat) (P13_1 : Option Addr) (p13_1 : Nat) (bx15 : Nat) (P15_0 : Option Addr) (p15_0 : Nat) (P15_1 : Option Addr) (p15_1 : Nat) => True) (fun (bx13 : Nat) (P13_0 : Option Addr) (p13_0 : Nat) (P13_1 : Option Addr) (p13_1 : Nat) (bx15 : Nat) (P15_0 : Option Addr) (p15_0 : Nat) (P15_1 : Option Addr) (p15_1 : Nat) => [[⟨.slice (bl bx13) 1 1, 98, 2, 1, [.slice (P13_0) (((((Ch)[(cur).toNat]'hjc).k.l).take ((((Ch)[(cur).toNat]'hjc).k.l).length / 2)).length) (p13_0), .slice (P13_1) (((((Ch)[(cur).toNat]'hjc).c.l).take ((((Ch)[(cur).toNat]'hjc).k.l).length / 2 + 1)).length) (p13_1)]⟩], [⟨.slice (bl bx15) 1 1, 98, 2, 1, [.slice (P15_0) (((((Ch)[(cur).toNat]'hjc).k.l).drop ((((Ch)[(cur).toNat]'hjc).k.l).length / 2 + 1)).length) (p15_0), .slice (P15_1) (((((Ch)[(cur).toNat]'hjc).c.l).drop ((((Ch)[(cur).toNat]'hjc).k.l).length / 2 + 1)).length) (p15_1)]⟩], [⟨.slice (P13_0) (((((Ch)[(cur).toNat]'hjc).k.l).take ((((Ch)[(cur).toNat]'hjc).k.l).length / 2)).length) (p13_0), 3, 1, (((((Ch)[(cur).toNat]'hjc).k.l).take ((((Ch)[(cur).toNat]'hjc).k.l).length / 2)).length), ((((Ch)[(cur).toNat]'hjc).k.l).take ((((Ch)[(cur).toNat]'hjc).k.l).length / 2)).map I⟩], [⟨.slice (P13_1) (((((Ch)[(cur).toNat]'hjc).c.l).take ((((Ch)[(cur).toNat]'hjc).k.l).length / 2 + 1)).length) (p13_1), 3, 1, (((((Ch)[(cur).toNat]'hjc).c.l).take ((((Ch)[(cur).toNat]'hjc).k.l).length / 2 + 1)).length), ((((Ch)[(cur).toNat]'hjc).c.l).take ((((Ch)[(cur).toNat]'hjc).k.l).length / 2 + 1)).map I⟩], [⟨.slice (P15_0) (((((Ch)[(cur).toNat]'hjc).k.l).drop ((((Ch)[(cur).toNat]'hjc).k.l).length / 2 + 1)).length) (p15_0), 3, 1, (((((Ch)[(cur).toNat]'hjc).k.l).drop ((((Ch)[(cur).toNat]'hjc).k.l).length / 2 + 1)).length), ((((Ch)[(cur).toNat]'hjc).k.l).drop ((((Ch)[(cur).toNat]'hjc).k.l).length / 2 + 1)).map I⟩], [⟨.slice (P15_1) (((((Ch)[(cur).toNat]'hjc).c.l).drop ((((Ch)[(cur).toNat]'hjc).k.l).length / 2 + 1)).length) (p15_1), 3, 1, (((((Ch)[(cur).toNat]'hjc).c.l).drop ((((Ch)[(cur).toNat]'hjc).k.l).length / 2 + 1)).length), ((((Ch)[(cur).toNat]'hjc).c.l).drop ((((Ch)[(cur).toNat]'hjc).k.l).length / 2 + 1)).map I⟩]]) [4, 5, 6, 7, 9] [0, 1, 2, 3, 4, 5, 6, 7, 8] ?_ (fun bx13 P13_0 p13_0 P13_1 p13_1 bx15 P15_0 p15_0 P15_1 p15_1 σ w_r14 hI hM_r14 => ?_)
        · have hgc14 := hM9d.gcap 0 rfl hjc
          refine any 0 [] 19 [0, 1, 2, 3, 4, 5, 6, 7, 8] fun w14a hM14a => ?_
          have hx14_4 : (a - 1) < (pathK (T).t ((x).key)).length := (by omega)
          refine av [0, 1, 2, 3] [1] 4 (a := by exact fun _ hw2 => kixM hx14_4 (hM14a.rd 5 rfl) (h0 := by omega)) (b := ?_)
          refine av [] [] 5 (s := Vi (cur)) (a := by exact fun w2 hw2 => cv (Ru.congr (v := I ((pathK (T).t ((x).key))[(a - 1)]'hx14_4)) (v' := I (cur)) (Ru.load1 el3 rfl (ldm (hw2.rd 5 rfl) hx14_4)) (I_congr ((getD_in hx14_4).symm.trans hcu.symm))) rfl) (b := ?_)
          have hx14_6 : (cur).toNat < (Ch).length := (by omega)
          refine av [] [] 6 (a := by exact fun _ hw2 => kixF hx14_6 (hM14a.rd 2 rfl) (h0 := by omega)) (b := ?_)
          refine av [] [] 7 (a := by exact fun _ hw2 => kldN hx14_6 (hw2.rd 2 rfl)) (b := ?_)
          refine jn10 [] [] (fun (bx13 : Nat) (bx15 : Nat) (Q0 : Option Addr) (u0 : Nat) (Q1 : Option Addr) (u1 : Nat) (Q2 : Option Addr) (u2 : Nat) (Q3 : Option Addr) (u3 : Nat) => ([(13, Vp (bl bx13) (0)), (15, Vp (bl bx15) (0)), (119, Va [.sl (Q0) (((((((Ch)[(cur).toNat]'hx14_6)).k.l)).take ((((((Ch)[(cur).toNat]'hx14_6)).k.l)).length / 2)).length) (u0), .sl (Q1) (((((((Ch)[(cur).toNat]'hx14_6)).c.l)).take ((((((Ch)[(cur).toNat]'hx14_6)).k.l)).length / 2 + 1)).length) (u1)]), (120, Vi ((((((Ch)[(cur).toNat]'hx14_6)).k.l)).getD ((((((Ch)[(cur).toNat]'hx14_6)).k.l)).length / 2) 0)), (121, Va [.sl (Q2) (((((((Ch)[(cur).toNat]'hx14_6)).k.l)).drop ((((((Ch)[(cur).toNat]'hx14_6)).k.l)).length / 2 + 1)).length) (u2), .sl (Q3) (((((((Ch)[(cur).toNat]'hx14_6)).c.l)).drop ((((((Ch)[(cur).toNat]'hx14_6)).k.l)).length / 2 + 1)).length) (u3)])] : List (Nat × SV))) (fun (bx13 : Nat) (bx15 : Nat) (Q0 : Option Addr) (u0 : Nat) (Q1 : Option Addr) (u1 : Nat) (Q2 : Option Addr) (u2 : Nat) (Q3 : Option Addr) (u3 : Nat) => [[⟨.slice (Q0) (((((((Ch)[(cur).toNat]'hx14_6)).k.l)).take ((((((Ch)[(cur).toNat]'hx14_6)).k.l)).length / 2)).length) (u0), 3, 1, (((((((Ch)[(cur).toNat]'hx14_6)).k.l)).take ((((((Ch)[(cur).toNat]'hx14_6)).k.l)).length / 2)).length), ((((((Ch)[(cur).toNat]'hx14_6)).k.l)).take ((((((Ch)[(cur).toNat]'hx14_6)).k.l)).length / 2)).map I⟩], [⟨.slice (Q1) (((((((Ch)[(cur).toNat]'hx14_6)).c.l)).take ((((((Ch)[(cur).toNat]'hx14_6)).k.l)).length / 2 + 1)).length) (u1), 3, 1, (((((((Ch)[(cur).toNat]'hx14_6)).c.l)).take ((((((Ch)[(cur).toNat]'hx14_6)).k.l)).length / 2 + 1)).length), ((((((Ch)[(cur).toNat]'hx14_6)).c.l)).take ((((((Ch)[(cur).toNat]'hx14_6)).k.l)).length / 2 + 1)).map I⟩], [⟨.slice (Q2) (((((((Ch)[(cur).toNat]'hx14_6)).k.l)).drop ((((((Ch)[(cur).toNat]'hx14_6)).k.l)).length / 2 + 1)).length) (u2), 3, 1, (((((((Ch)[(cur).toNat]'hx14_6)).k.l)).drop ((((((Ch)[(cur).toNat]'hx14_6)).k.l)).length / 2 + 1)).length), ((((((Ch)[(cur).toNat]'hx14_6)).k.l)).drop ((((((Ch)[(cur).toNat]'hx14_6)).k.l)).length / 2 + 1)).map I⟩], [⟨.slice (Q3) (((((((Ch)[(cur).toNat]'hx14_6)).c.l)).drop ((((((Ch)[(cur).toNat]'hx14_6)).k.l)).length / 2 + 1)).length) (u3), 3, 1, (((((((Ch)[(cur).toNat]'hx14_6)).c.l)).drop ((((((Ch)[(cur).toNat]'hx14_6)).k.l)).length / 2 + 1)).length), ((((((Ch)[(cur).toNat]'hx14_6)).c.l)).drop ((((((Ch)[(cur).toNat]'hx14_6)).k.l)).length / 2 + 1)).map I⟩], [⟨.slice (bl bx13) 1 1, 98, 2, 1, [.slice (none) (0) (0), .slice (none) (0) (0)]⟩], [⟨.slice (bl bx15) 1 1, 98, 2, 1, [.slice (none) (0) (0), .slice (none) (0) (0)]⟩]]) [4, 5, 6, 7, 9] [0, 1, 2, 3, 4, 5, 6, 7, 8] 3 [true, true, true, true, true, true, true, true, true, true, true, true, true, true, true, true, false, false, false] (fun J14 => ?_) (fun bx13 bx15 Q0 u0 Q1 u1 Q2 u2 Q3 u3 σ w_j14 hM_j14 => ?_)
          · refine aH [] [] 8 14 15 ?_ ?_ ?_
            · refine cp 0 [] (b := insideOf_fn ((Ch)[(cur).toNat]'hx14_6) w14a ((NsP.mem hM14a 0 rfl).get hx14_6)) (c := fun w14_8 hM14_8 => ?_)
              refine os 0 [] [0, 1, 2, 3, 4, 5, 6, 7, 8] ?_
              refine aH [] [] 9 14 15 ?_ ?_ ?_
              · refine cq 0 [] (b := splitInner_fn ((((Ch)[(cur).toNat]'hx14_6)).k.A) ((((Ch)[(cur).toNat]'hx14_6)).k.cp) ((((Ch)[(cur).toNat]'hx14_6)).k.l) ((((Ch)[(cur).toNat]'hx14_6)).c.A) ((((Ch)[(cur).toNat]'hx14_6)).c.cp) ((((Ch)[(cur).toNat]'hx14_6)).c.l) w14_8 ((NsP.mem hM14_8 0 rfl).get hx14_6).1 ((NsP.mem hM14_8 0 rfl).get hx14_6).2.1 (by exact ⟨hgc14.1, hgc14.2.1⟩) qo qo) (c := ?_)
                rintro _ w14_9 ⟨A114_9, c114_9, A214_9, c214_9, A314_9, c314_9, A414_9, c414_9, rfl, hR14_9⟩
                have hM14_9 := hM14_8.cl 0 hR14_9
                have hcr14_9_0 := (hM14_9.cap 0 rfl).1
                have hcr14_9_1 := (hM14_9.cap 1 rfl).1
                have hcr14_9_2 := (hM14_9.cap 2 rfl).1
                have hcr14_9_3 := (hM14_9.cap 3 rfl).1
                refine os 0 [] [4, 5, 6, 7, 8, 9, 10, 11, 12] ?_
                refine aT [10, 11, 12, 13] [] 14 15 ?_ ?_
                · refine Al 0 [] fun w14_14 b14_14 hb14_14 hM14_14 => ?_
                  refine os 0 [] [5, 6, 7, 8, 9, 10, 11, 12, 13] ?_
                  refine aO [] [] 15 ?_
                  refine Al 0 [] fun w14_15 b14_15 hb14_15 hM14_15 => ?_
                  refine os 0 [] [6, 7, 8, 9, 10, 11, 12, 13, 14] ?_
                  exact jd10 [] [] J14 b14_14 b14_15 A114_9 c114_9 A214_9 c214_9 A314_9 c314_9 A414_9 c414_9 [2, 3, 4, 5, 1, 0, 6, 7, 8, 9, 10, 11, 12, 13, 14]
                refine Al 0 [] fun w14_15 b14_15 hb14_15 hM14_15 => ?_
                refine os 0 [] [5, 6, 7, 8, 9, 10, 11, 12, 13] ?_
                refine aO [] [] 14 ?_
                refine Al 0 [] fun w14_14 b14_14 hb14_14 hM14_14 => ?_
                refine os 0 [] [6, 7, 8, 9, 10, 11, 12, 13, 14] ?_
                exact jd10 [] [] J14 b14_14 b14_15 A114_9 c114_9 A214_9 c214_9 A314_9 c314_9 A414_9 c414_9 [2, 3, 4, 5, 0, 1, 6, 7, 8, 9, 10, 11, 12, 13, 14]
              · refine Al 0 [] fun w14_14 b14_14 hb14_14 hM14_14 => ?_
                refine os 0 [] [1, 2, 3, 4, 5, 6, 7, 8, 9] ?_
                refine aT [] [] 9 15 ?_ ?_
                · refine cq 0 [] (b := splitInner_fn ((((Ch)[(cur).toNat]'hx14_6)).k.A) ((((Ch)[(cur).toNat]'hx14_6)).k.cp) ((((Ch)[(cur).toNat]'hx14_6)).k.l) ((((Ch)[(cur).toNat]'hx14_6)).c.A) ((((Ch)[(cur).toNat]'hx14_6)).c.cp) ((((Ch)[(cur).toNat]'hx14_6)).c.l) w14_14 ((NsP.mem hM14_14 1 rfl).get hx14_6).1 ((NsP.mem hM14_14 1 rfl).get hx14_6).2.1 (by exact ⟨hgc14.1, hgc14.2.1⟩) qo qo) (c := ?_)
                  rintro _ w14_9 ⟨A114_9, c114_9, A214_9, c214_9, A314_9, c314_9, A414_9, c414_9, rfl, hR14_9⟩
                  have hM14_9 := hM14_14.cl 0 hR14_9
                  have hcr14_9_0 := (hM14_9.cap 0 rfl).1
                  have hcr14_9_1 := (hM14_9.cap 1 rfl).1
                  have hcr14_9_2 := (hM14_9.cap 2 rfl).1
                  have hcr14_9_3 := (hM14_9.cap 3 rfl).1
                  refine os 0 [] [5, 6, 7, 8, 9, 10, 11, 12, 13] ?_
                  refine aO [10, 11, 12, 13] [] 15 ?_
                  refine Al 0 [] fun w14_15 b14_15 hb14_15 hM14_15 => ?_
                  refine os 0 [] [6, 7, 8, 9, 10, 11, 12, 13, 14] ?_
                  exact jd10 [] [] J14 b14_14 b14_15 A114_9 c114_9 A214_9 c214_9 A314_9 c314_9 A414_9 c414_9 [1, 2, 3, 4, 5, 0, 6, 7, 8, 9, 10, 11, 12, 13, 14]
                refine Al 0 [] fun w14_15 b14_15 hb14_15 hM14_15 => ?_
                refine os 0 [] [2, 3, 4, 5, 6, 7, 8, 9, 10] ?_
                refine aO [] [] 9 ?_
                refine cq 0 [] (b := splitInner_fn ((((Ch)[(cur).toNat]'hx14_6)).k.A) ((((Ch)[(cur).toNat]'hx14_6)).k.cp) ((((Ch)[(cur).toNat]'hx14_6)).k.l) ((((Ch)[(cur).toNat]'hx14_6)).c.A) ((((Ch)[(cur).toNat]'hx14_6)).c.cp) ((((Ch)[(cur).toNat]'hx14_6)).c.l) w14_15 ((NsP.mem hM14_15 2 rfl).get hx14_6).1 ((NsP.mem hM14_15 2 rfl).get hx14_6).2.1 (by exact ⟨hgc14.1, hgc14.2.1⟩) qo qo) (c := ?_)
                rintro _ w14_9 ⟨A114_9, c114_9, A214_9, c214_9, A314_9, c314_9, A414_9, c414_9, rfl, hR14_9⟩
                have hM14_9 := hM14_15.cl 0 hR14_9
                have hcr14_9_0 := (hM14_9.cap 0 rfl).1
                have hcr14_9_1 := (hM14_9.cap 1 rfl).1
                have hcr14_9_2 := (hM14_9.cap 2 rfl).1
                have hcr14_9_3 := (hM14_9.cap 3 rfl).1
                refine os 0 [] [6, 7, 8, 9, 10, 11, 12, 13, 14] ?_
                exact jd10 [10, 11, 12, 13] [] J14 b14_14 b14_15 A114_9 c114_9 A214_9 c214_9 A314_9 c314_9 A414_9 c414_9 [0, 1, 2, 3, 5, 4, 6, 7, 8, 9, 10, 11, 12, 13, 14]
              refine Al 0 [] fun w14_15 b14_15 hb14_15 hM14_15 => ?_
              refine os 0 [] [1, 2, 3, 4, 5, 6, 7, 8, 9] ?_
              refine aT [] [] 9 14 ?_ ?_
              · refine cq 0 [] (b := splitInner_fn ((((Ch)[(cur).toNat]'hx14_6)).k.A) ((((Ch)[(cur).toNat]'hx14_6)).k.cp) ((((Ch)[(cur).toNat]'hx14_6)).k.l) ((((Ch)[(cur).toNat]'hx14_6)).c.A) ((((Ch)[(cur).toNat]'hx14_6)).c.cp) ((((Ch)[(cur).toNat]'hx14_6)).c.l) w14_15 ((NsP.mem hM14_15 1 rfl).get hx14_6).1 ((NsP.mem hM14_15 1 rfl).get hx14_6).2.1 (by exact ⟨hgc14.1, hgc14.2.1⟩) qo qo) (c := ?_)
                rintro _ w14_9 ⟨A114_9, c114_9, A214_9, c214_9, A314_9, c314_9, A414_9, c414_9, rfl, hR14_9⟩
                have hM14_9 := hM14_15.cl 0 hR14_9
                have hcr14_9_0 := (hM14_9.cap 0 rfl).1
                have hcr14_9_1 := (hM14_9.cap 1 rfl).1
                have hcr14_9_2 := (hM14_9.cap 2 rfl).1
                have hcr14_9_3 := (hM14_9.cap 3 rfl).1
                refine os 0 [] [5, 6, 7, 8, 9, 10, 11, 12, 13] ?_
                refine aO [10, 11, 12, 13] [] 14 ?_
                refine Al 0 [] fun w14_14 b14_14 hb14_14 hM14_14 => ?_
                refine os 0 [] [6, 7, 8, 9, 10, 11, 12, 13, 14] ?_
                exact jd10 [] [] J14 b14_14 b14_15 A114_9 c114_9 A214_9 c214_9 A314_9 c314_9 A414_9 c414_9 [1, 2, 3, 4, 0, 5, 6, 7, 8, 9, 10, 11, 12, 13, 14]
              refine Al 0 [] fun w14_14 b14_14 hb14_14 hM14_14 => ?_
              refine os 0 [] [2, 3, 4, 5, 6, 7, 8, 9, 10] ?_
              refine aO [] [] 9 ?_
              refine cq 0 [] (b := splitInner_fn ((((Ch)[(cur).toNat]'hx14_6)).k.A) ((((Ch)[(cur).toNat]'hx14_6)).k.cp) ((((Ch)[(cur).toNat]'hx14_6)).k.l) ((((Ch)[(cur).toNat]'hx14_6)).c.A) ((((Ch)[(cur).toNat]'hx14_6)).c.cp) ((((Ch)[(cur).toNat]'hx14_6)).c.l) w14_14 ((NsP.mem hM14_14 2 rfl).get hx14_6).1 ((NsP.mem hM14_14 2 rfl).get hx14_6).2.1 (by exact ⟨hgc14.1, hgc14.2.1⟩) qo qo) (c := ?_)
              rintro _ w14_9 ⟨A114_9, c114_9, A214_9, c214_9, A314_9, c314_9, A414_9, c414_9, rfl, hR14_9⟩
              have hM14_9 := hM14_14.cl 0 hR14_9
              have hcr14_9_0 := (hM14_9.cap 0 rfl).1
              have hcr14_9_1 := (hM14_9.cap 1 rfl).1
              have hcr14_9_2 := (hM14_9.cap 2 rfl).1
              have hcr14_9_3 := (hM14_9.cap 3 rfl).1
              refine os 0 [] [6, 7, 8, 9, 10, 11, 12, 13, 14] ?_
              exact jd10 [10, 11, 12, 13] [] J14 b14_14 b14_15 A114_9 c114_9 A214_9 c214_9 A314_9 c314_9 A414_9 c414_9 [0, 1, 2, 3, 4, 5, 6, 7, 8, 9, 10, 11, 12, 13, 14]
            · refine Al 0 [] fun w14_14 b14_14 hb14_14 hM14_14 => ?_
              refine os 0 [] [1, 2, 3, 4, 5, 6, 7, 8, 9] ?_
              refine aT [] [] 8 15 ?_ ?_
              · refine cp 0 [] (b := insideOf_fn ((Ch)[(cur).toNat]'hx14_6) w14_14 ((NsP.mem hM14_14 1 rfl).get hx14_6)) (c := fun w14_8 hM14_8 => ?_)
                refine os 0 [] [1, 2, 3, 4, 5, 6, 7, 8, 9] ?_
                refine aT [] [] 9 15 ?_ ?_
                · refine cq 0 [] (b := splitInner_fn ((((Ch)[(cur).toNat]'hx14_6)).k.A) ((((Ch)[(cur).toNat]'hx14_6)).k.cp) ((((Ch)[(cur).toNat]'hx14_6)).k.l) ((((Ch)[(cur).toNat]'hx14_6)).c.A) ((((Ch)[(cur).toNat]'hx14_6)).c.cp) ((((Ch)[(cur).toNat]'hx14_6)).c.l) w14_8 ((NsP.mem hM14_8 1 rfl).get hx14_6).1 ((NsP.mem hM14_8 1 rfl).get hx14_6).2.1 (by exact ⟨hgc14.1, hgc14.2.1⟩) qo qo) (c := ?_)
                  rintro _ w14_9 ⟨A114_9, c114_9, A214_9, c214_9, A314_9, c314_9, A414_9, c414_9, rfl, hR14_9⟩
                  have hM14_9 := hM14_8.cl 0 hR14_9
                  have hcr14_9_0 := (hM14_9.cap 0 rfl).1
                  have hcr14_9_1 := (hM14_9.cap 1 rfl).1
                  have hcr14_9_2 := (hM14_9.cap 2 rfl).1
                  have hcr14_9_3 := (hM14_9.cap 3 rfl).1
                  refine os 0 [] [5, 6, 7, 8, 9, 10, 11, 12, 13] ?_
                  refine aO [10, 11, 12, 13] [] 15 ?_
                  refine Al 0 [] fun w14_15 b14_15 hb14_15 hM14_15 => ?_
                  refine os 0 [] [6, 7, 8, 9, 10, 11, 12, 13, 14] ?_
                  exact jd10 [] [] J14 b14_14 b14_15 A114_9 c114_9 A214_9 c214_9 A314_9 c314_9 A414_9 c414_9 [1, 2, 3, 4, 5, 0, 6, 7, 8, 9, 10, 11, 12, 13, 14]
                refine Al 0 [] fun w14_15 b14_15 hb14_15 hM14_15 => ?_
                refine os 0 [] [2, 3, 4, 5, 6, 7, 8, 9, 10] ?_
                refine aO [] [] 9 ?_
                refine cq 0 [] (b := splitInner_fn ((((Ch)[(cur).toNat]'hx14_6)).k.A) ((((Ch)[(cur).toNat]'hx14_6)).k.cp) ((((Ch)[(cur).toNat]'hx14_6)).k.l) ((((Ch)[(cur).toNat]'hx14_6)).c.A) ((((Ch)[(cur).toNat]'hx14_6)).c.cp) ((((Ch)[(cur).toNat]'hx14_6)).c.l) w14_15 ((NsP.mem hM14_15 2 rfl).get hx14_6).1 ((NsP.mem hM14_15 2 rfl).get hx14_6).2.1 (by exact ⟨hgc14.1, hgc14.2.1⟩) qo qo) (c := ?_)
                rintro _ w14_9 ⟨A114_9, c114_9, A214_9, c214_9, A314_9, c314_9, A414_9, c414_9, rfl, hR14_9⟩
                have hM14_9 := hM14_15.cl 0 hR14_9
                have hcr14_9_0 := (hM14_9.cap 0 rfl).1
                have hcr14_9_1 := (hM14_9.cap 1 rfl).1
                have hcr14_9_2 := (hM14_9.cap 2 rfl).1
                have hcr14_9_3 := (hM14_9.cap 3 rfl).1
                refine os 0 [] [6, 7, 8, 9, 10, 11, 12, 13, 14] ?_
                exact jd10 [10, 11, 12, 13] [] J14 b14_14 b14_15 A114_9 c114_9 A214_9 c214_9 A314_9 c314_9 A414_9 c414_9 [0, 1, 2, 3, 5, 4, 6, 7, 8, 9, 10, 11, 12, 13, 14]
              refine Al 0 [] fun w14_15 b14_15 hb14_15 hM14_15 => ?_
              refine os 0 [] [2, 3, 4, 5, 6, 7, 8, 9, 10] ?_
              refine aO [] [] 8 ?_
              refine cp 0 [] (b := insideOf_fn ((Ch)[(cur).toNat]'hx14_6) w14_15 ((NsP.mem hM14_15 2 rfl).get hx14_6)) (c := fun w14_8 hM14_8 => ?_)
              refine os 0 [] [2, 3, 4, 5, 6, 7, 8, 9, 10] ?_
              refine aO [] [] 9 ?_
              refine cq 0 [] (b := splitInner_fn ((((Ch)[(cur).toNat]'hx14_6)).k.A) ((((Ch)[(cur).toNat]'hx14_6)).k.cp) ((((Ch)[(cur).toNat]'hx14_6)).k.l) ((((Ch)[(cur).toNat]'hx14_6)).c.A) ((((Ch)[(cur).toNat]'hx14_6)).c.cp) ((((Ch)[(cur).toNat]'hx14_6)).c.l) w14_8 ((NsP.mem hM14_8 2 rfl).get hx14_6).1 ((NsP.mem hM14_8 2 rfl).get hx14_6).2.1 (by exact ⟨hgc14.1, hgc14.2.1⟩) qo qo) (c := ?_)
              rintro _ w14_9 ⟨A114_9, c114_9, A214_9, c214_9, A314_9, c314_9, A414_9, c414_9, rfl, hR14_9⟩
              have hM14_9 := hM14_8.cl 0 hR14_9
              have hcr14_9_0 := (hM14_9.cap 0 rfl).1
              have hcr14_9_1 := (hM14_9.cap 1 rfl).1
              have hcr14_9_2 := (hM14_9.cap 2 rfl).1
              have hcr14_9_3 := (hM14_9.cap 3 rfl).1
              refine os 0 [] [6, 7, 8, 9, 10, 11, 12, 13, 14] ?_
              exact jd10 [10, 11, 12, 13] [] J14 b14_14 b14_15 A114_9 c114_9 A214_9 c214_9 A314_9 c314_9 A414_9 c414_9 [0, 1, 2, 3, 5, 4, 6, 7, 8, 9, 10, 11, 12, 13, 14]
            refine Al 0 [] fun w14_15 b14_15 hb14_15 hM14_15 => ?_
            refine os 0 [] [1, 2, 3, 4, 5, 6, 7, 8, 9] ?_
            refine aT [] [] 8 14 ?_ ?_
            · refine cp 0 [] (b := insideOf_fn ((Ch)[(cur).toNat]'hx14_6) w14_15 ((NsP.mem hM14_15 1 rfl).get hx14_6)) (c := fun w14_8 hM14_8 => ?_)
              refine os 0 [] [1, 2, 3, 4, 5, 6, 7, 8, 9] ?_
              refine aT [] [] 9 14 ?_ ?_
              · refine cq 0 [] (b := splitInner_fn ((((Ch)[(cur).toNat]'hx14_6)).k.A) ((((Ch)[(cur).toNat]'hx14_6)).k.cp) ((((Ch)[(cur).toNat]'hx14_6)).k.l) ((((Ch)[(cur).toNat]'hx14_6)).c.A) ((((Ch)[(cur).toNat]'hx14_6)).c.cp) ((((Ch)[(cur).toNat]'hx14_6)).c.l) w14_8 ((NsP.mem hM14_8 1 rfl).get hx14_6).1 ((NsP.mem hM14_8 1 rfl).get hx14_6).2.1 (by exact ⟨hgc14.1, hgc14.2.1⟩) qo qo) (c := ?_)
                rintro _ w14_9 ⟨A114_9, c114_9, A214_9, c214_9, A314_9, c314_9, A414_9, c414_9, rfl, hR14_9⟩
                have hM14_9 := hM14_8.cl 0 hR14_9
                have hcr14_9_0 := (hM14_9.cap 0 rfl).1
                have hcr14_9_1 := (hM14_9.cap 1 rfl).1
                have hcr14_9_2 := (hM14_9.cap 2 rfl).1
                have hcr14_9_3 := (hM14_9.cap 3 rfl).1
                refine os 0 [] [5, 6, 7, 8, 9, 10, 11, 12, 13] ?_
                refine aO [10, 11, 12, 13] [] 14 ?_
                refine Al 0 [] fun w14_14 b14_14 hb14_14 hM14_14 => ?_
                refine os 0 [] [6, 7, 8, 9, 10, 11, 12, 13, 14] ?_
                exact jd10 [] [] J14 b14_14 b14_15 A114_9 c114_9 A214_9 c214_9 A314_9 c314_9 A414_9 c414_9 [1, 2, 3, 4, 0, 5, 6, 7, 8, 9, 10, 11, 12, 13, 14]
              refine Al 0 [] fun w14_14 b14_14 hb14_14 hM14_14 => ?_
              refine os 0 [] [2, 3, 4, 5, 6, 7, 8, 9, 10] ?_
              refine aO [] [] 9 ?_
              refine cq 0 [] (b := splitInner_fn ((((Ch)[(cur).toNat]'hx14_6)).k.A) ((((Ch)[(cur).toNat]'hx14_6)).k.cp) ((((Ch)[(cur).toNat]'hx14_6)).k.l) ((((Ch)[(cur).toNat]'hx14_6)).c.A) ((((Ch)[(cur).toNat]'hx14_6)).c.cp) ((((Ch)[(cur).toNat]'hx14_6)).c.l) w14_14 ((NsP.mem hM14_14 2 rfl).get hx14_6).1 ((NsP.mem hM14_14 2 rfl).get hx14_6).2.1 (by exact ⟨hgc14.1, hgc14.2.1⟩) qo qo) (c := ?_)
              rintro _ w14_9 ⟨A114_9, c114_9, A214_9, c214_9, A314_9, c314_9, A414_9, c414_9, rfl, hR14_9⟩
              have hM14_9 := hM14_14.cl 0 hR14_9
              have hcr14_9_0 := (hM14_9.cap 0 rfl).1
              have hcr14_9_1 := (hM14_9.cap 1 rfl).1
              have hcr14_9_2 := (hM14_9.cap 2 rfl).1
              have hcr14_9_3 := (hM14_9.cap 3 rfl).1
              refine os 0 [] [6, 7, 8, 9, 10, 11, 12, 13, 14] ?_
              exact jd10 [10, 11, 12, 13] [] J14 b14_14 b14_15 A114_9 c114_9 A214_9 c214_9 A314_9 c314_9 A414_9 c414_9 [0, 1, 2, 3, 4, 5, 6, 7, 8, 9, 10, 11, 12, 13, 14]
            refine Al 0 [] fun w14_14 b14_14 hb14_14 hM14_14 => ?_
            refine os 0 [] [2, 3, 4, 5, 6, 7, 8, 9, 10] ?_
            refine aO [] [] 8 ?_
            refine cp 0 [] (b := insideOf_fn ((Ch)[(cur).toNat]'hx14_6) w14_14 ((NsP.mem hM14_14 2 rfl).get hx14_6)) (c := fun w14_8 hM14_8 => ?_)
            refine os 0 [] [2, 3, 4, 5, 6, 7, 8, 9, 10] ?_
            refine aO [] [] 9 ?_
            refine cq 0 [] (b := splitInner_fn ((((Ch)[(cur).toNat]'hx14_6)).k.A) ((((Ch)[(cur).toNat]'hx14_6)).k.cp) ((((Ch)[(cur).toNat]'hx14_6)).k.l) ((((Ch)[(cur).toNat]'hx14_6)).c.A) ((((Ch)[(cur).toNat]'hx14_6)).c.cp) ((((Ch)[(cur).toNat]'hx14_6)).c.l) w14_8 ((NsP.mem hM14_8 2 rfl).get hx14_6).1 ((NsP.mem hM14_8 2 rfl).get hx14_6).2.1 (by exact ⟨hgc14.1, hgc14.2.1⟩) qo qo) (c := ?_)
            rintro _ w14_9 ⟨A114_9, c114_9, A214_9, c214_9, A314_9, c314_9, A414_9, c414_9, rfl, hR14_9⟩
            have hM14_9 := hM14_8.cl 0 hR14_9
            have hcr14_9_0 := (hM14_9.cap 0 rfl).1
            have hcr14_9_1 := (hM14_9.cap 1 rfl).1
            have hcr14_9_2 := (hM14_9.cap 2 rfl).1
            have hcr14_9_3 := (hM14_9.cap 3 rfl).1
            refine os 0 [] [6, 7, 8, 9, 10, 11, 12, 13, 14] ?_
            exact jd10 [10, 11, 12, 13] [] J14 b14_14 b14_15 A114_9 c114_9 A214_9 c214_9 A314_9 c314_9 A414_9 c414_9 [0, 1, 2, 3, 4, 5, 6, 7, 8, 9, 10, 11, 12, 13, 14]
          refine aO [] [] 16 ?_
          refine Sb 0 [] 4 fun w14_16 hM14_16 => ?_
          refine os 0 [] [6, 7, 8, 9, 10, 11, 12, 13, 14] ?_
          refine aO [17] [] 18 ?_
          refine Sb 0 [] 5 fun w14_18 hM14_18 => ?_
          refine os 0 [] [6, 7, 8, 9, 10, 11, 12, 13, 14] ?_
          refine an [] [] ?_
          have hq16 : ((((((Ch)[(cur).toNat]'hx14_6)).k.l)).take ((((((Ch)[(cur).toNat]'hx14_6)).k.l)).length / 2) : List Int) = (((Ch)[(cur).toNat]'hjc).k.l).take ((((Ch)[(cur).toNat]'hjc).k.l).length / 2) := (by first | rfl | simp | (simp; omega))
          have hMn16 := hM14_18.reM 0 hq16
          have hq17 : ((((((Ch)[(cur).toNat]'hx14_6)).c.l)).take ((((((Ch)[(cur).toNat]'hx14_6)).k.l)).length / 2 + 1) : List Int) = (((Ch)[(cur).toNat]'hjc).c.l).take ((((Ch)[(cur).toNat]'hjc).k.l).length / 2 + 1) := (by first | rfl | simp | (simp; omega))
          have hMn17 := hMn16.reM 1 hq17
          have hq18 : ((((((Ch)[(cur).toNat]'hx14_6)).k.l)).drop ((((((Ch)[(cur).toNat]'hx14_6)).k.l)).length / 2 + 1) : List Int) = (((Ch)[(cur).toNat]'hjc).k.l).drop ((((Ch)[(cur).toNat]'hjc).k.l).length / 2 + 1) := (by first | rfl | simp | (simp; omega))
          have hMn18 := hMn17.reM 2 hq18
          have hq19 : ((((((Ch)[(cur).toNat]'hx14_6)).c.l)).drop ((((((Ch)[(cur).toNat]'hx14_6)).k.l)).length / 2 + 1) : List Int) = (((Ch)[(cur).toNat]'hjc).c.l).drop ((((Ch)[(cur).toNat]'hjc).k.l).length / 2 + 1) := (by first | rfl | simp | (simp; omega))
          have hMn19 := hMn18.reM 3 hq19
          exact ce10 0 [] bx13 Q0 u0 Q1 u1 bx15 Q2 u2 Q3 u3 [4, 5, 0, 1, 2, 3, 6, 7, 8, 9, 10, 11, 12, 13, 14] (h := by exact trivial)
        have hcl2_r14 := (hM_r14.cap 2 rfl).1
        have hcl3_r14 := (hM_r14.cap 3 rfl).1
        have hcl4_r14 := (hM_r14.cap 4 rfl).1
        have hcl5_r14 := (hM_r14.cap 5 rfl).1
        have hcl8_r14 := (hM_r14.cap 8 rfl).1
        have hcl9_r14 := (hM_r14.cap 9 rfl).1
        have hcl10_r14 := (hM_r14.cap 10 rfl).1
        have hcl11_r14 := (hM_r14.cap 11 rfl).1
        refine any 6 [] 10 [0, 1, 2, 3, 4, 5, 6, 7, 9, 10, 11, 12, 13, 14] fun w16a hM16a => ?_
        have hx16_4 : (a - 1) < (pathK (T).t ((x).key)).length := (by omega)
        refine av [0, 1, 2, 3] [7] 4 (a := by exact fun _ hw2 => kixM hx16_4 (hM16a.rd 11 rfl) (h0 := by omega)) (b := ?_)
        refine av [] [] 5 (s := Vi (cur)) (a := by exact fun w2 hw2 => cv (Ru.congr (v := I ((pathK (T).t ((x).key))[(a - 1)]'hx16_4)) (v' := I (cur)) (Ru.load1 el3 rfl (ldm (hw2.rd 10 rfl) hx16_4)) (I_congr ((getD_in hx16_4).symm.trans hcu.symm))) rfl) (b := ?_)
        refine aO [6] [0] 7 ?_
        refine cq 0 [] (b := innerOf_fn P13_0 p13_0 ((((Ch)[(cur).toNat]'hjc).k.l).take ((((Ch)[(cur).toNat]'hjc).k.l).length / 2)) P13_1 p13_1 ((((Ch)[(cur).toNat]'hjc).c.l).take ((((Ch)[(cur).toNat]'hjc).k.l).length / 2 + 1)) w16a (hM16a.rd 2 rfl) (hM16a.rd 3 rfl)) (c := ?_)
        rintro _ w16_7 ⟨A116_7, c116_7, rfl, hR16_7⟩
        have hM16_7 := hM16a.cl 0 hR16_7
        have hcr16_7_0 := (hM16_7.cap 0 rfl).1
        refine os 0 [] [1, 2, 3, 4, 5, 6, 7, 8, 10, 11, 12, 13, 14, 15] ?_
        have hx16_8 : (cur).toNat < (Ch).length := (by omega)
        refine av [] [] 8 (a := by exact fun _ hw2 => kixF hx16_8 (hM16_7.rd 9 rfl) (h0 := by omega)) (b := ?_)
        refine aO [] [] 9 ?_
        let p6_ : PgL := (⟨⟨P13_0, p13_0, (((Ch)[(cur).toNat]'hjc).k.l).take ((((Ch)[(cur).toNat]'hjc).k.l).length / 2)⟩, ⟨P13_1, p13_1, (((Ch)[(cur).toNat]'hjc).c.l).take ((((Ch)[(cur).toNat]'hjc).k.l).length / 2 + 1)⟩, ⟨A116_7, c116_7, ([] : List Int)⟩⟩ : PgL)
        refine sF 0 [] 9 p6_ hx16_8 fun w16_9 hM16_9 => ?_
        refine os 0 [] [1, 2, 3, 4, 5, 6, 7, 8, 10, 11, 12, 13, 14, 15] ?_
        refine an [] [] ?_
        have hMk20 := Mem.gset (k := ⟨P13_0, p13_0, (((Ch)[(cur).toNat]'hjc).k.l).take ((((Ch)[(cur).toNat]'hjc).k.l).length / 2)⟩) (c := ⟨P13_1, p13_1, (((Ch)[(cur).toNat]'hjc).c.l).take ((((Ch)[(cur).toNat]'hjc).k.l).length / 2 + 1)⟩) (v := ⟨A116_7, c116_7, ([] : List Int)⟩) ((cur).toNat) (hM16_9.pk [7, 3, 4, 0, 1, 2, 5, 6, 8, 9, 10, 11, 12, 13, 14, 15])
        refine any 0 [] 8 [0, 1, 2, 3, 4, 7, 8, 9, 10, 11, 12] fun w17a hM17a => ?_
        refine aT [0, 2] [2] 1 3 ?_ ?_
        · refine os 1 [5] [0, 1, 2, 3, 4, 7, 8, 9, 10, 11, 12] ?_
          refine aO [] [] 3 ?_
          refine cq 0 [] (b := innerOf_fn P15_0 p15_0 ((((Ch)[(cur).toNat]'hjc).k.l).drop ((((Ch)[(cur).toNat]'hjc).k.l).length / 2 + 1)) P15_1 p15_1 ((((Ch)[(cur).toNat]'hjc).c.l).drop ((((Ch)[(cur).toNat]'hjc).k.l).length / 2 + 1)) w17a (hM17a.rd 3 rfl) (hM17a.rd 4 rfl)) (c := ?_)
          rintro _ w17_3 ⟨A117_3, c117_3, rfl, hR17_3⟩
          have hM17_3 := hM17a.cl 0 hR17_3
          have hcr17_3_0 := (hM17_3.cap 0 rfl).1
          refine os 0 [] [1, 2, 3, 4, 5, 8, 9, 10, 11, 12, 13] ?_
          refine aO [] [] 4 ?_
          let p7_ : PgL := (⟨⟨P15_0, p15_0, (((Ch)[(cur).toNat]'hjc).k.l).drop ((((Ch)[(cur).toNat]'hjc).k.l).length / 2 + 1)⟩, ⟨P15_1, p15_1, (((Ch)[(cur).toNat]'hjc).c.l).drop ((((Ch)[(cur).toNat]'hjc).k.l).length / 2 + 1)⟩, ⟨A117_3, c117_3, ([] : List Int)⟩⟩ : PgL)
          refine Lt 0 [] (([p7_]).flatMap encPg) (fun w17_4 b17_4 hb17_4 hM17_4 => ?_)
          refine os 0 [] [2, 3, 4, 5, 6, 9, 10, 11, 12, 13, 14] ?_
          refine aO [] [] 5 ?_
          refine aF 0 [] 8 (hM17_4.rd 0 rfl) (fun w17_5 A17_5 c17_5 hc17_5 hM17_5 => ?_) (hn := by first | omega | (simp only [List.length_append, List.length_set, List.length_cons, List.length_nil]; omega)) (hb := by first | omega | (simp only [List.length_append, List.length_set, List.length_cons, List.length_nil]; omega))
          refine os 0 [] [2, 3, 4, 5, 6, 9, 10, 11, 12, 13, 14] ?_
          refine aO [6] [] 7 ?_
          refine Sb 0 [] 7 fun w17_7 hM17_7 => ?_
          refine os 0 [] [2, 3, 4, 5, 6, 9, 10, 11, 12, 13, 14] ?_
          refine an [] [] ?_
          have hMk21 := Mem.gapp (k := ⟨P15_0, p15_0, (((Ch)[(cur).toNat]'hjc).k.l).drop ((((Ch)[(cur).toNat]'hjc).k.l).length / 2 + 1)⟩) (c := ⟨P15_1, p15_1, (((Ch)[(cur).toNat]'hjc).c.l).drop ((((Ch)[(cur).toNat]'hjc).k.l).length / 2 + 1)⟩) (v := ⟨A117_3, c117_3, ([] : List Int)⟩) (hM17_7.pk [2, 5, 6, 1, 0, 3, 4, 7, 8, 9, 10, 11, 12, 13, 14])
          have hR1 : (⟨rt, tsG ((Ch).set ((cur).toNat) p6_ ++ [p7_])⟩ : TrT) = addP (setP (⟨rt, tsG Ch⟩ : TrT) cur sp.1) sp.2.2 := by rw [tsg_app, tsg_set]; rw [hsp]; rfl
          have hq22 : ((Ch).set ((cur).toNat) p6_ ++ [p7_] : List PgL) = ((Ch).set ((cur).toNat) p6_ ++ [p7_]) := (by first | rfl | simp | (simp; omega))
          have hMn22 := hMk21.reF 5 hq22
          exact ce3 0 [] ((Ch).set ((cur).toNat) p6_ ++ [p7_]) A17_5 c17_5 [0, 4, 5, 6, 7, 8, 9, 10, 11] (hL := by exact (Has.cons (I_congr (by first | rfl | exact (congrArg (fun z => z.2.1) hsp).symm)) Has.nil)) (h := by exact hR1)
        refine cq 0 [] (b := innerOf_fn P15_0 p15_0 ((((Ch)[(cur).toNat]'hjc).k.l).drop ((((Ch)[(cur).toNat]'hjc).k.l).length / 2 + 1)) P15_1 p15_1 ((((Ch)[(cur).toNat]'hjc).c.l).drop ((((Ch)[(cur).toNat]'hjc).k.l).length / 2 + 1)) w17a (hM17a.rd 3 rfl) (hM17a.rd 4 rfl)) (c := ?_)
        rintro _ w17_3 ⟨A117_3, c117_3, rfl, hR17_3⟩
        have hM17_3 := hM17a.cl 0 hR17_3
        have hcr17_3_0 := (hM17_3.cap 0 rfl).1
        refine os 0 [] [1, 2, 3, 4, 5, 8, 9, 10, 11, 12, 13] ?_
        refine aT [] [] 1 4 ?_ ?_
        · refine os 1 [6] [1, 2, 3, 4, 5, 8, 9, 10, 11, 12, 13] ?_
          refine aO [] [] 4 ?_
          let p8_ : PgL := (⟨⟨P15_0, p15_0, (((Ch)[(cur).toNat]'hjc).k.l).drop ((((Ch)[(cur).toNat]'hjc).k.l).length / 2 + 1)⟩, ⟨P15_1, p15_1, (((Ch)[(cur).toNat]'hjc).c.l).drop ((((Ch)[(cur).toNat]'hjc).k.l).length / 2 + 1)⟩, ⟨A117_3, c117_3, ([] : List Int)⟩⟩ : PgL)
          refine Lt 0 [] (([p8_]).flatMap encPg) (fun w17_4 b17_4 hb17_4 hM17_4 => ?_)
          refine os 0 [] [2, 3, 4, 5, 6, 9, 10, 11, 12, 13, 14] ?_
          refine aO [] [] 5 ?_
          refine aF 0 [] 8 (hM17_4.rd 0 rfl) (fun w17_5 A17_5 c17_5 hc17_5 hM17_5 => ?_) (hn := by first | omega | (simp only [List.length_append, List.length_set, List.length_cons, List.length_nil]; omega)) (hb := by first | omega | (simp only [List.length_append, List.length_set, List.length_cons, List.length_nil]; omega))
          refine os 0 [] [2, 3, 4, 5, 6, 9, 10, 11, 12, 13, 14] ?_
          refine aO [6] [] 7 ?_
          refine Sb 0 [] 7 fun w17_7 hM17_7 => ?_
          refine os 0 [] [2, 3, 4, 5, 6, 9, 10, 11, 12, 13, 14] ?_
          refine an [] [] ?_
          have hMk24 := Mem.gapp (k := ⟨P15_0, p15_0, (((Ch)[(cur).toNat]'hjc).k.l).drop ((((Ch)[(cur).toNat]'hjc).k.l).length / 2 + 1)⟩) (c := ⟨P15_1, p15_1, (((Ch)[(cur).toNat]'hjc).c.l).drop ((((Ch)[(cur).toNat]'hjc).k.l).length / 2 + 1)⟩) (v := ⟨A117_3, c117_3, ([] : List Int)⟩) (hM17_7.pk [2, 5, 6, 1, 0, 3, 4, 7, 8, 9, 10, 11, 12, 13, 14])
          have hR1 : (⟨rt, tsG ((Ch).set ((cur).toNat) p6_ ++ [p8_])⟩ : TrT) = addP (setP (⟨rt, tsG Ch⟩ : TrT) cur sp.1) sp.2.2 := by rw [tsg_app, tsg_set]; rw [hsp]; rfl
          have hq25 : ((Ch).set ((cur).toNat) p6_ ++ [p8_] : List PgL) = ((Ch).set ((cur).toNat) p6_ ++ [p8_]) := (by first | rfl | simp | (simp; omega))
          have hMn25 := hMk24.reF 5 hq25
          exact ce3 0 [] ((Ch).set ((cur).toNat) p6_ ++ [p8_]) A17_5 c17_5 [0, 4, 5, 6, 7, 8, 9, 10, 11] (hL := by exact (Has.cons (I_congr (by first | rfl | exact (congrArg (fun z => z.2.1) hsp).symm)) Has.nil)) (h := by exact hR1)
        let p9_ : PgL := (⟨⟨P15_0, p15_0, (((Ch)[(cur).toNat]'hjc).k.l).drop ((((Ch)[(cur).toNat]'hjc).k.l).length / 2 + 1)⟩, ⟨P15_1, p15_1, (((Ch)[(cur).toNat]'hjc).c.l).drop ((((Ch)[(cur).toNat]'hjc).k.l).length / 2 + 1)⟩, ⟨A117_3, c117_3, ([] : List Int)⟩⟩ : PgL)
        refine Lt 0 [] (([p9_]).flatMap encPg) (fun w17_4 b17_4 hb17_4 hM17_4 => ?_)
        refine os 0 [] [2, 3, 4, 5, 6, 9, 10, 11, 12, 13, 14] ?_
        refine aO [] [] 1 ?_
        refine os 1 [7] [2, 3, 4, 5, 6, 9, 10, 11, 12, 13, 14] ?_
        refine aO [] [] 5 ?_
        refine aF 0 [] 8 (hM17_4.rd 0 rfl) (fun w17_5 A17_5 c17_5 hc17_5 hM17_5 => ?_) (hn := by first | omega | (simp only [List.length_append, List.length_set, List.length_cons, List.length_nil]; omega)) (hb := by first | omega | (simp only [List.length_append, List.length_set, List.length_cons, List.length_nil]; omega))
        refine os 0 [] [2, 3, 4, 5, 6, 9, 10, 11, 12, 13, 14] ?_
        refine aO [6] [] 7 ?_
        refine Sb 0 [] 7 fun w17_7 hM17_7 => ?_
        refine os 0 [] [2, 3, 4, 5, 6, 9, 10, 11, 12, 13, 14] ?_
        refine an [] [] ?_
        have hMk27 := Mem.gapp (k := ⟨P15_0, p15_0, (((Ch)[(cur).toNat]'hjc).k.l).drop ((((Ch)[(cur).toNat]'hjc).k.l).length / 2 + 1)⟩) (c := ⟨P15_1, p15_1, (((Ch)[(cur).toNat]'hjc).c.l).drop ((((Ch)[(cur).toNat]'hjc).k.l).length / 2 + 1)⟩) (v := ⟨A117_3, c117_3, ([] : List Int)⟩) (hM17_7.pk [2, 5, 6, 1, 0, 3, 4, 7, 8, 9, 10, 11, 12, 13, 14])
        have hR1 : (⟨rt, tsG ((Ch).set ((cur).toNat) p6_ ++ [p9_])⟩ : TrT) = addP (setP (⟨rt, tsG Ch⟩ : TrT) cur sp.1) sp.2.2 := by rw [tsg_app, tsg_set]; rw [hsp]; rfl
        have hq28 : ((Ch).set ((cur).toNat) p6_ ++ [p9_] : List PgL) = ((Ch).set ((cur).toNat) p6_ ++ [p9_]) := (by first | rfl | simp | (simp; omega))
        have hMn28 := hMk27.reF 5 hq28
        exact ce3 0 [] ((Ch).set ((cur).toNat) p6_ ++ [p9_]) A17_5 c17_5 [0, 4, 5, 6, 7, 8, 9, 10, 11] (hL := by exact (Has.cons (I_congr (by first | rfl | exact (congrArg (fun z => z.2.1) hsp).symm)) Has.nil)) (h := by exact hR1)
      have hi0_c74 := hI
      have hcl2_c74 := (hM_c74.cap 2 rfl).1
      have hcl3_c74 := (hM_c74.cap 3 rfl).1
      have hcl4_c74 := (hM_c74.cap 4 rfl).1
      have hcl5_c74 := (hM_c74.cap 5 rfl).1
      have hR1 := hi0_c74
      have hle : (Ch2).length = (Ch).length + 1 := by have h9 := congrArg (fun z => z.pages.length) hR1; simpa [addP, setP] using h9
      refine cd 6 [] (fun c140 => ?_) (fun c140 => ?_)
      · refine ct3 0 [] (fun (Ch4 : List PgL) (A4 : Option Addr) (c4 : Nat) => ([] : List (Nat × SV))) (fun (Ch4 : List PgL) (A4 : Option Addr) (c4 : Nat) => ((⟨rt, tsG Ch4⟩ : TrT) = addP (⟨rt, tsG Ch2⟩ : TrT) (innP [sp.2.1] [cur, ((Ch).length : Int)]))) (fun (Ch4 : List PgL) (A4 : Option Addr) (c4 : Nat) => [(Ch4).flatMap (pgF 3), [⟨.slice (bl b1_2) 1 1, 25, 2, 1, [I (rt), .slice (A4) ((Ch4).length) (c4)]⟩], [⟨.slice (A4) ((Ch4).length) (c4), 39, 3, ((Ch4).length), (Ch4).flatMap encPg⟩]]) [4, 5] [3, 4, 5, 6, 7, 8] ?_ (fun Ch4 A4 c4 σ w_r19 hI hM_r19 => ?_)
        · refine any 0 [] 15 [0, 3, 4, 5, 6, 7, 8] fun w19a hM19a => ?_
          have hx19_5 : 0 < (pathK (T).t ((x).key)).length := (by omega)
          refine av [0, 2, 4] [] 5 (a := by exact fun _ hw2 => kixM hx19_5 (hM19a.rd 5 rfl) (h0 := by omega)) (b := ?_)
          refine av [] [] 6 (s := Vi (cur)) (a := by exact fun w2 hw2 => cv (Ru.congr (v := I ((pathK (T).t ((x).key))[0]'hx19_5)) (v' := I (cur)) (Ru.load1 el3 rfl (ldm (hw2.rd 3 rfl) hx19_5)) (I_congr (by rw [hcu, show a - 1 = 0 by omega, getD_in hx19_5]))) rfl) (b := ?_)
          refine aH [7] [] 1 3 8 ?_ ?_ ?_
          · refine os 1 [1] [0, 3, 4, 5, 6, 7, 8] ?_
            refine aT [] [] 3 8 ?_ ?_
            · refine Lt 0 [] (([(sp).2.1]).map I) (fun w19_3 b19_3 hb19_3 hM19_3 => ?_)
              refine os 0 [] [1, 4, 5, 6, 7, 8, 9] ?_
              refine aO [] [] 8 ?_
              refine Lt 0 [] (([cur, (((Ch).length : Nat) : Int)]).map I) (fun w19_8 b19_8 hb19_8 hM19_8 => ?_)
              refine os 0 [] [2, 5, 6, 7, 8, 9, 10] ?_
              refine aO [9] [] 10 ?_
              refine cq 0 [] (b := innerOf_fn (bl b19_3) 1 [(sp).2.1] (bl b19_8) 2 [cur, (((Ch).length : Nat) : Int)] w19_8 (hM19_8.rd 1 rfl) (hM19_8.rd 0 rfl)) (c := ?_)
              rintro _ w19_10 ⟨A119_10, c119_10, rfl, hR19_10⟩
              have hM19_10 := hM19_8.cl 0 hR19_10
              have hcr19_10_0 := (hM19_10.cap 0 rfl).1
              refine os 0 [] [3, 6, 7, 8, 9, 10, 11] ?_
              refine aO [] [] 11 ?_
              let p10_ : PgL := (⟨⟨bl b19_3, 1, [(sp).2.1]⟩, ⟨bl b19_8, 2, [cur, (((Ch).length : Nat) : Int)]⟩, ⟨A119_10, c119_10, ([] : List Int)⟩⟩ : PgL)
              refine Lt 0 [] (([p10_]).flatMap encPg) (fun w19_11 b19_11 hb19_11 hM19_11 => ?_)
              refine os 0 [] [4, 7, 8, 9, 10, 11, 12] ?_
              refine aO [] [] 12 ?_
              refine aF 0 [] 6 (hM19_11.rd 0 rfl) (fun w19_12 A19_12 c19_12 hc19_12 hM19_12 => ?_) (hn := by first | omega | (simp only [List.length_append, List.length_set, List.length_cons, List.length_nil]; omega)) (hb := by first | omega | (simp only [List.length_append, List.length_set, List.length_cons, List.length_nil]; omega))
              refine os 0 [] [4, 7, 8, 9, 10, 11, 12] ?_
              refine aO [13] [] 14 ?_
              refine Sb 0 [] 5 fun w19_14 hM19_14 => ?_
              refine os 0 [] [4, 7, 8, 9, 10, 11, 12] ?_
              refine an [] [] ?_
              have hMk30 := Mem.gapp (k := ⟨bl b19_3, 1, [(sp).2.1]⟩) (c := ⟨bl b19_8, 2, [cur, (((Ch).length : Nat) : Int)]⟩) (v := ⟨A119_10, c119_10, ([] : List Int)⟩) (hM19_14.pk [4, 3, 2, 1, 0, 5, 6, 7, 8, 9, 10, 11, 12])
              have hR2 : (⟨rt, tsG (Ch2 ++ [p10_])⟩ : TrT) = addP (⟨rt, tsG Ch2⟩ : TrT) (innP [sp.2.1] [cur, ((Ch).length : Int)]) := by rw [tsg_app]; rfl
              have hq31 : (Ch2 ++ [p10_] : List PgL) = (Ch2 ++ [p10_]) := (by first | rfl | simp | (simp; omega))
              have hMn31 := hMk30.reF 3 hq31
              exact ce3 0 [] (Ch2 ++ [p10_]) A19_12 c19_12 [0, 2, 3, 4, 5, 6, 7, 8, 9] (h := by exact hR2)
            refine Lt 0 [] (([cur, (((Ch).length : Nat) : Int)]).map I) (fun w19_8 b19_8 hb19_8 hM19_8 => ?_)
            refine os 0 [] [1, 4, 5, 6, 7, 8, 9] ?_
            refine aO [] [] 3 ?_
            refine Lt 0 [] (([(sp).2.1]).map I) (fun w19_3 b19_3 hb19_3 hM19_3 => ?_)
            refine os 0 [] [2, 5, 6, 7, 8, 9, 10] ?_
            refine aO [9] [] 10 ?_
            refine cq 0 [] (b := innerOf_fn (bl b19_3) 1 [(sp).2.1] (bl b19_8) 2 [cur, (((Ch).length : Nat) : Int)] w19_3 (hM19_3.rd 0 rfl) (hM19_3.rd 1 rfl)) (c := ?_)
            rintro _ w19_10 ⟨A119_10, c119_10, rfl, hR19_10⟩
            have hM19_10 := hM19_3.cl 0 hR19_10
            have hcr19_10_0 := (hM19_10.cap 0 rfl).1
            refine os 0 [] [3, 6, 7, 8, 9, 10, 11] ?_
            refine aO [] [] 11 ?_
            let p11_ : PgL := (⟨⟨bl b19_3, 1, [(sp).2.1]⟩, ⟨bl b19_8, 2, [cur, (((Ch).length : Nat) : Int)]⟩, ⟨A119_10, c119_10, ([] : List Int)⟩⟩ : PgL)
            refine Lt 0 [] (([p11_]).flatMap encPg) (fun w19_11 b19_11 hb19_11 hM19_11 => ?_)
            refine os 0 [] [4, 7, 8, 9, 10, 11, 12] ?_
            refine aO [] [] 12 ?_
            refine aF 0 [] 6 (hM19_11.rd 0 rfl) (fun w19_12 A19_12 c19_12 hc19_12 hM19_12 => ?_) (hn := by first | omega | (simp only [List.length_append, List.length_set, List.length_cons, List.length_nil]; omega)) (hb := by first | omega | (simp only [List.length_append, List.length_set, List.length_cons, List.length_nil]; omega))
            refine os 0 [] [4, 7, 8, 9, 10, 11, 12] ?_
            refine aO [13] [] 14 ?_
            refine Sb 0 [] 5 fun w19_14 hM19_14 => ?_
            refine os 0 [] [4, 7, 8, 9, 10, 11, 12] ?_
            refine an [] [] ?_
            have hMk33 := Mem.gapp (k := ⟨bl b19_3, 1, [(sp).2.1]⟩) (c := ⟨bl b19_8, 2, [cur, (((Ch).length : Nat) : Int)]⟩) (v := ⟨A119_10, c119_10, ([] : List Int)⟩) (hM19_14.pk [4, 2, 3, 1, 0, 5, 6, 7, 8, 9, 10, 11, 12])
            have hR2 : (⟨rt, tsG (Ch2 ++ [p11_])⟩ : TrT) = addP (⟨rt, tsG Ch2⟩ : TrT) (innP [sp.2.1] [cur, ((Ch).length : Int)]) := by rw [tsg_app]; rfl
            have hq34 : (Ch2 ++ [p11_] : List PgL) = (Ch2 ++ [p11_]) := (by first | rfl | simp | (simp; omega))
            have hMn34 := hMk33.reF 3 hq34
            exact ce3 0 [] (Ch2 ++ [p11_]) A19_12 c19_12 [0, 2, 3, 4, 5, 6, 7, 8, 9] (h := by exact hR2)
          · refine Lt 0 [] (([(sp).2.1]).map I) (fun w19_3 b19_3 hb19_3 hM19_3 => ?_)
            refine os 0 [] [1, 4, 5, 6, 7, 8, 9] ?_
            refine aT [] [] 1 8 ?_ ?_
            · refine os 1 [2] [1, 4, 5, 6, 7, 8, 9] ?_
              refine aO [] [] 8 ?_
              refine Lt 0 [] (([cur, (((Ch).length : Nat) : Int)]).map I) (fun w19_8 b19_8 hb19_8 hM19_8 => ?_)
              refine os 0 [] [2, 5, 6, 7, 8, 9, 10] ?_
              refine aO [9] [] 10 ?_
              refine cq 0 [] (b := innerOf_fn (bl b19_3) 1 [(sp).2.1] (bl b19_8) 2 [cur, (((Ch).length : Nat) : Int)] w19_8 (hM19_8.rd 1 rfl) (hM19_8.rd 0 rfl)) (c := ?_)
              rintro _ w19_10 ⟨A119_10, c119_10, rfl, hR19_10⟩
              have hM19_10 := hM19_8.cl 0 hR19_10
              have hcr19_10_0 := (hM19_10.cap 0 rfl).1
              refine os 0 [] [3, 6, 7, 8, 9, 10, 11] ?_
              refine aO [] [] 11 ?_
              let p12_ : PgL := (⟨⟨bl b19_3, 1, [(sp).2.1]⟩, ⟨bl b19_8, 2, [cur, (((Ch).length : Nat) : Int)]⟩, ⟨A119_10, c119_10, ([] : List Int)⟩⟩ : PgL)
              refine Lt 0 [] (([p12_]).flatMap encPg) (fun w19_11 b19_11 hb19_11 hM19_11 => ?_)
              refine os 0 [] [4, 7, 8, 9, 10, 11, 12] ?_
              refine aO [] [] 12 ?_
              refine aF 0 [] 6 (hM19_11.rd 0 rfl) (fun w19_12 A19_12 c19_12 hc19_12 hM19_12 => ?_) (hn := by first | omega | (simp only [List.length_append, List.length_set, List.length_cons, List.length_nil]; omega)) (hb := by first | omega | (simp only [List.length_append, List.length_set, List.length_cons, List.length_nil]; omega))
              refine os 0 [] [4, 7, 8, 9, 10, 11, 12] ?_
              refine aO [13] [] 14 ?_
              refine Sb 0 [] 5 fun w19_14 hM19_14 => ?_
              refine os 0 [] [4, 7, 8, 9, 10, 11, 12] ?_
              refine an [] [] ?_
              have hMk36 := Mem.gapp (k := ⟨bl b19_3, 1, [(sp).2.1]⟩) (c := ⟨bl b19_8, 2, [cur, (((Ch).length : Nat) : Int)]⟩) (v := ⟨A119_10, c119_10, ([] : List Int)⟩) (hM19_14.pk [4, 3, 2, 1, 0, 5, 6, 7, 8, 9, 10, 11, 12])
              have hR2 : (⟨rt, tsG (Ch2 ++ [p12_])⟩ : TrT) = addP (⟨rt, tsG Ch2⟩ : TrT) (innP [sp.2.1] [cur, ((Ch).length : Int)]) := by rw [tsg_app]; rfl
              have hq37 : (Ch2 ++ [p12_] : List PgL) = (Ch2 ++ [p12_]) := (by first | rfl | simp | (simp; omega))
              have hMn37 := hMk36.reF 3 hq37
              exact ce3 0 [] (Ch2 ++ [p12_]) A19_12 c19_12 [0, 2, 3, 4, 5, 6, 7, 8, 9] (h := by exact hR2)
            refine Lt 0 [] (([cur, (((Ch).length : Nat) : Int)]).map I) (fun w19_8 b19_8 hb19_8 hM19_8 => ?_)
            refine os 0 [] [2, 5, 6, 7, 8, 9, 10] ?_
            refine aT [9] [] 1 10 ?_ ?_
            · refine os 1 [3] [2, 5, 6, 7, 8, 9, 10] ?_
              refine aO [] [] 10 ?_
              refine cq 0 [] (b := innerOf_fn (bl b19_3) 1 [(sp).2.1] (bl b19_8) 2 [cur, (((Ch).length : Nat) : Int)] w19_8 (hM19_8.rd 1 rfl) (hM19_8.rd 0 rfl)) (c := ?_)
              rintro _ w19_10 ⟨A119_10, c119_10, rfl, hR19_10⟩
              have hM19_10 := hM19_8.cl 0 hR19_10
              have hcr19_10_0 := (hM19_10.cap 0 rfl).1
              refine os 0 [] [3, 6, 7, 8, 9, 10, 11] ?_
              refine aO [] [] 11 ?_
              let p13_ : PgL := (⟨⟨bl b19_3, 1, [(sp).2.1]⟩, ⟨bl b19_8, 2, [cur, (((Ch).length : Nat) : Int)]⟩, ⟨A119_10, c119_10, ([] : List Int)⟩⟩ : PgL)
              refine Lt 0 [] (([p13_]).flatMap encPg) (fun w19_11 b19_11 hb19_11 hM19_11 => ?_)
              refine os 0 [] [4, 7, 8, 9, 10, 11, 12] ?_
              refine aO [] [] 12 ?_
              refine aF 0 [] 6 (hM19_11.rd 0 rfl) (fun w19_12 A19_12 c19_12 hc19_12 hM19_12 => ?_) (hn := by first | omega | (simp only [List.length_append, List.length_set, List.length_cons, List.length_nil]; omega)) (hb := by first | omega | (simp only [List.length_append, List.length_set, List.length_cons, List.length_nil]; omega))
              refine os 0 [] [4, 7, 8, 9, 10, 11, 12] ?_
              refine aO [13] [] 14 ?_
              refine Sb 0 [] 5 fun w19_14 hM19_14 => ?_
              refine os 0 [] [4, 7, 8, 9, 10, 11, 12] ?_
              refine an [] [] ?_
              have hMk39 := Mem.gapp (k := ⟨bl b19_3, 1, [(sp).2.1]⟩) (c := ⟨bl b19_8, 2, [cur, (((Ch).length : Nat) : Int)]⟩) (v := ⟨A119_10, c119_10, ([] : List Int)⟩) (hM19_14.pk [4, 3, 2, 1, 0, 5, 6, 7, 8, 9, 10, 11, 12])
              have hR2 : (⟨rt, tsG (Ch2 ++ [p13_])⟩ : TrT) = addP (⟨rt, tsG Ch2⟩ : TrT) (innP [sp.2.1] [cur, ((Ch).length : Int)]) := by rw [tsg_app]; rfl
              have hq40 : (Ch2 ++ [p13_] : List PgL) = (Ch2 ++ [p13_]) := (by first | rfl | simp | (simp; omega))
              have hMn40 := hMk39.reF 3 hq40
              exact ce3 0 [] (Ch2 ++ [p13_]) A19_12 c19_12 [0, 2, 3, 4, 5, 6, 7, 8, 9] (h := by exact hR2)
            refine cq 0 [] (b := innerOf_fn (bl b19_3) 1 [(sp).2.1] (bl b19_8) 2 [cur, (((Ch).length : Nat) : Int)] w19_8 (hM19_8.rd 1 rfl) (hM19_8.rd 0 rfl)) (c := ?_)
            rintro _ w19_10 ⟨A119_10, c119_10, rfl, hR19_10⟩
            have hM19_10 := hM19_8.cl 0 hR19_10
            have hcr19_10_0 := (hM19_10.cap 0 rfl).1
            refine os 0 [] [3, 6, 7, 8, 9, 10, 11] ?_
            refine aT [] [] 1 11 ?_ ?_
            · refine os 1 [4] [3, 6, 7, 8, 9, 10, 11] ?_
              refine aO [] [] 11 ?_
              let p14_ : PgL := (⟨⟨bl b19_3, 1, [(sp).2.1]⟩, ⟨bl b19_8, 2, [cur, (((Ch).length : Nat) : Int)]⟩, ⟨A119_10, c119_10, ([] : List Int)⟩⟩ : PgL)
              refine Lt 0 [] (([p14_]).flatMap encPg) (fun w19_11 b19_11 hb19_11 hM19_11 => ?_)
              refine os 0 [] [4, 7, 8, 9, 10, 11, 12] ?_
              refine aO [] [] 12 ?_
              refine aF 0 [] 6 (hM19_11.rd 0 rfl) (fun w19_12 A19_12 c19_12 hc19_12 hM19_12 => ?_) (hn := by first | omega | (simp only [List.length_append, List.length_set, List.length_cons, List.length_nil]; omega)) (hb := by first | omega | (simp only [List.length_append, List.length_set, List.length_cons, List.length_nil]; omega))
              refine os 0 [] [4, 7, 8, 9, 10, 11, 12] ?_
              refine aO [13] [] 14 ?_
              refine Sb 0 [] 5 fun w19_14 hM19_14 => ?_
              refine os 0 [] [4, 7, 8, 9, 10, 11, 12] ?_
              refine an [] [] ?_
              have hMk42 := Mem.gapp (k := ⟨bl b19_3, 1, [(sp).2.1]⟩) (c := ⟨bl b19_8, 2, [cur, (((Ch).length : Nat) : Int)]⟩) (v := ⟨A119_10, c119_10, ([] : List Int)⟩) (hM19_14.pk [4, 3, 2, 1, 0, 5, 6, 7, 8, 9, 10, 11, 12])
              have hR2 : (⟨rt, tsG (Ch2 ++ [p14_])⟩ : TrT) = addP (⟨rt, tsG Ch2⟩ : TrT) (innP [sp.2.1] [cur, ((Ch).length : Int)]) := by rw [tsg_app]; rfl
              have hq43 : (Ch2 ++ [p14_] : List PgL) = (Ch2 ++ [p14_]) := (by first | rfl | simp | (simp; omega))
              have hMn43 := hMk42.reF 3 hq43
              exact ce3 0 [] (Ch2 ++ [p14_]) A19_12 c19_12 [0, 2, 3, 4, 5, 6, 7, 8, 9] (h := by exact hR2)
            let p15_ : PgL := (⟨⟨bl b19_3, 1, [(sp).2.1]⟩, ⟨bl b19_8, 2, [cur, (((Ch).length : Nat) : Int)]⟩, ⟨A119_10, c119_10, ([] : List Int)⟩⟩ : PgL)
            refine Lt 0 [] (([p15_]).flatMap encPg) (fun w19_11 b19_11 hb19_11 hM19_11 => ?_)
            refine os 0 [] [4, 7, 8, 9, 10, 11, 12] ?_
            refine aO [] [] 1 ?_
            refine os 1 [5] [4, 7, 8, 9, 10, 11, 12] ?_
            refine aO [] [] 12 ?_
            refine aF 0 [] 6 (hM19_11.rd 0 rfl) (fun w19_12 A19_12 c19_12 hc19_12 hM19_12 => ?_) (hn := by first | omega | (simp only [List.length_append, List.length_set, List.length_cons, List.length_nil]; omega)) (hb := by first | omega | (simp only [List.length_append, List.length_set, List.length_cons, List.length_nil]; omega))
            refine os 0 [] [4, 7, 8, 9, 10, 11, 12] ?_
            refine aO [13] [] 14 ?_
            refine Sb 0 [] 5 fun w19_14 hM19_14 => ?_
            refine os 0 [] [4, 7, 8, 9, 10, 11, 12] ?_
            refine an [] [] ?_
            have hMk45 := Mem.gapp (k := ⟨bl b19_3, 1, [(sp).2.1]⟩) (c := ⟨bl b19_8, 2, [cur, (((Ch).length : Nat) : Int)]⟩) (v := ⟨A119_10, c119_10, ([] : List Int)⟩) (hM19_14.pk [4, 3, 2, 1, 0, 5, 6, 7, 8, 9, 10, 11, 12])
            have hR2 : (⟨rt, tsG (Ch2 ++ [p15_])⟩ : TrT) = addP (⟨rt, tsG Ch2⟩ : TrT) (innP [sp.2.1] [cur, ((Ch).length : Int)]) := by rw [tsg_app]; rfl
            have hq46 : (Ch2 ++ [p15_] : List PgL) = (Ch2 ++ [p15_]) := (by first | rfl | simp | (simp; omega))
            have hMn46 := hMk45.reF 3 hq46
            exact ce3 0 [] (Ch2 ++ [p15_]) A19_12 c19_12 [0, 2, 3, 4, 5, 6, 7, 8, 9] (h := by exact hR2)
          refine Lt 0 [] (([cur, (((Ch).length : Nat) : Int)]).map I) (fun w19_8 b19_8 hb19_8 hM19_8 => ?_)
          refine os 0 [] [1, 4, 5, 6, 7, 8, 9] ?_
          refine aT [] [] 1 3 ?_ ?_
          · refine os 1 [2] [1, 4, 5, 6, 7, 8, 9] ?_
            refine aO [] [] 3 ?_
            refine Lt 0 [] (([(sp).2.1]).map I) (fun w19_3 b19_3 hb19_3 hM19_3 => ?_)
            refine os 0 [] [2, 5, 6, 7, 8, 9, 10] ?_
            refine aO [9] [] 10 ?_
            refine cq 0 [] (b := innerOf_fn (bl b19_3) 1 [(sp).2.1] (bl b19_8) 2 [cur, (((Ch).length : Nat) : Int)] w19_3 (hM19_3.rd 0 rfl) (hM19_3.rd 1 rfl)) (c := ?_)
            rintro _ w19_10 ⟨A119_10, c119_10, rfl, hR19_10⟩
            have hM19_10 := hM19_3.cl 0 hR19_10
            have hcr19_10_0 := (hM19_10.cap 0 rfl).1
            refine os 0 [] [3, 6, 7, 8, 9, 10, 11] ?_
            refine aO [] [] 11 ?_
            let p16_ : PgL := (⟨⟨bl b19_3, 1, [(sp).2.1]⟩, ⟨bl b19_8, 2, [cur, (((Ch).length : Nat) : Int)]⟩, ⟨A119_10, c119_10, ([] : List Int)⟩⟩ : PgL)
            refine Lt 0 [] (([p16_]).flatMap encPg) (fun w19_11 b19_11 hb19_11 hM19_11 => ?_)
            refine os 0 [] [4, 7, 8, 9, 10, 11, 12] ?_
            refine aO [] [] 12 ?_
            refine aF 0 [] 6 (hM19_11.rd 0 rfl) (fun w19_12 A19_12 c19_12 hc19_12 hM19_12 => ?_) (hn := by first | omega | (simp only [List.length_append, List.length_set, List.length_cons, List.length_nil]; omega)) (hb := by first | omega | (simp only [List.length_append, List.length_set, List.length_cons, List.length_nil]; omega))
            refine os 0 [] [4, 7, 8, 9, 10, 11, 12] ?_
            refine aO [13] [] 14 ?_
            refine Sb 0 [] 5 fun w19_14 hM19_14 => ?_
            refine os 0 [] [4, 7, 8, 9, 10, 11, 12] ?_
            refine an [] [] ?_
            have hMk48 := Mem.gapp (k := ⟨bl b19_3, 1, [(sp).2.1]⟩) (c := ⟨bl b19_8, 2, [cur, (((Ch).length : Nat) : Int)]⟩) (v := ⟨A119_10, c119_10, ([] : List Int)⟩) (hM19_14.pk [4, 2, 3, 1, 0, 5, 6, 7, 8, 9, 10, 11, 12])
            have hR2 : (⟨rt, tsG (Ch2 ++ [p16_])⟩ : TrT) = addP (⟨rt, tsG Ch2⟩ : TrT) (innP [sp.2.1] [cur, ((Ch).length : Int)]) := by rw [tsg_app]; rfl
            have hq49 : (Ch2 ++ [p16_] : List PgL) = (Ch2 ++ [p16_]) := (by first | rfl | simp | (simp; omega))
            have hMn49 := hMk48.reF 3 hq49
            exact ce3 0 [] (Ch2 ++ [p16_]) A19_12 c19_12 [0, 2, 3, 4, 5, 6, 7, 8, 9] (h := by exact hR2)
          refine Lt 0 [] (([(sp).2.1]).map I) (fun w19_3 b19_3 hb19_3 hM19_3 => ?_)
          refine os 0 [] [2, 5, 6, 7, 8, 9, 10] ?_
          refine aT [9] [] 1 10 ?_ ?_
          · refine os 1 [3] [2, 5, 6, 7, 8, 9, 10] ?_
            refine aO [] [] 10 ?_
            refine cq 0 [] (b := innerOf_fn (bl b19_3) 1 [(sp).2.1] (bl b19_8) 2 [cur, (((Ch).length : Nat) : Int)] w19_3 (hM19_3.rd 0 rfl) (hM19_3.rd 1 rfl)) (c := ?_)
            rintro _ w19_10 ⟨A119_10, c119_10, rfl, hR19_10⟩
            have hM19_10 := hM19_3.cl 0 hR19_10
            have hcr19_10_0 := (hM19_10.cap 0 rfl).1
            refine os 0 [] [3, 6, 7, 8, 9, 10, 11] ?_
            refine aO [] [] 11 ?_
            let p17_ : PgL := (⟨⟨bl b19_3, 1, [(sp).2.1]⟩, ⟨bl b19_8, 2, [cur, (((Ch).length : Nat) : Int)]⟩, ⟨A119_10, c119_10, ([] : List Int)⟩⟩ : PgL)
            refine Lt 0 [] (([p17_]).flatMap encPg) (fun w19_11 b19_11 hb19_11 hM19_11 => ?_)
            refine os 0 [] [4, 7, 8, 9, 10, 11, 12] ?_
            refine aO [] [] 12 ?_
            refine aF 0 [] 6 (hM19_11.rd 0 rfl) (fun w19_12 A19_12 c19_12 hc19_12 hM19_12 => ?_) (hn := by first | omega | (simp only [List.length_append, List.length_set, List.length_cons, List.length_nil]; omega)) (hb := by first | omega | (simp only [List.length_append, List.length_set, List.length_cons, List.length_nil]; omega))
            refine os 0 [] [4, 7, 8, 9, 10, 11, 12] ?_
            refine aO [13] [] 14 ?_
            refine Sb 0 [] 5 fun w19_14 hM19_14 => ?_
            refine os 0 [] [4, 7, 8, 9, 10, 11, 12] ?_
            refine an [] [] ?_
            have hMk51 := Mem.gapp (k := ⟨bl b19_3, 1, [(sp).2.1]⟩) (c := ⟨bl b19_8, 2, [cur, (((Ch).length : Nat) : Int)]⟩) (v := ⟨A119_10, c119_10, ([] : List Int)⟩) (hM19_14.pk [4, 2, 3, 1, 0, 5, 6, 7, 8, 9, 10, 11, 12])
            have hR2 : (⟨rt, tsG (Ch2 ++ [p17_])⟩ : TrT) = addP (⟨rt, tsG Ch2⟩ : TrT) (innP [sp.2.1] [cur, ((Ch).length : Int)]) := by rw [tsg_app]; rfl
            have hq52 : (Ch2 ++ [p17_] : List PgL) = (Ch2 ++ [p17_]) := (by first | rfl | simp | (simp; omega))
            have hMn52 := hMk51.reF 3 hq52
            exact ce3 0 [] (Ch2 ++ [p17_]) A19_12 c19_12 [0, 2, 3, 4, 5, 6, 7, 8, 9] (h := by exact hR2)
          refine cq 0 [] (b := innerOf_fn (bl b19_3) 1 [(sp).2.1] (bl b19_8) 2 [cur, (((Ch).length : Nat) : Int)] w19_3 (hM19_3.rd 0 rfl) (hM19_3.rd 1 rfl)) (c := ?_)
          rintro _ w19_10 ⟨A119_10, c119_10, rfl, hR19_10⟩
          have hM19_10 := hM19_3.cl 0 hR19_10
          have hcr19_10_0 := (hM19_10.cap 0 rfl).1
          refine os 0 [] [3, 6, 7, 8, 9, 10, 11] ?_
          refine aT [] [] 1 11 ?_ ?_
          · refine os 1 [4] [3, 6, 7, 8, 9, 10, 11] ?_
            refine aO [] [] 11 ?_
            let p18_ : PgL := (⟨⟨bl b19_3, 1, [(sp).2.1]⟩, ⟨bl b19_8, 2, [cur, (((Ch).length : Nat) : Int)]⟩, ⟨A119_10, c119_10, ([] : List Int)⟩⟩ : PgL)
            refine Lt 0 [] (([p18_]).flatMap encPg) (fun w19_11 b19_11 hb19_11 hM19_11 => ?_)
            refine os 0 [] [4, 7, 8, 9, 10, 11, 12] ?_
            refine aO [] [] 12 ?_
            refine aF 0 [] 6 (hM19_11.rd 0 rfl) (fun w19_12 A19_12 c19_12 hc19_12 hM19_12 => ?_) (hn := by first | omega | (simp only [List.length_append, List.length_set, List.length_cons, List.length_nil]; omega)) (hb := by first | omega | (simp only [List.length_append, List.length_set, List.length_cons, List.length_nil]; omega))
            refine os 0 [] [4, 7, 8, 9, 10, 11, 12] ?_
            refine aO [13] [] 14 ?_
            refine Sb 0 [] 5 fun w19_14 hM19_14 => ?_
            refine os 0 [] [4, 7, 8, 9, 10, 11, 12] ?_
            refine an [] [] ?_
            have hMk54 := Mem.gapp (k := ⟨bl b19_3, 1, [(sp).2.1]⟩) (c := ⟨bl b19_8, 2, [cur, (((Ch).length : Nat) : Int)]⟩) (v := ⟨A119_10, c119_10, ([] : List Int)⟩) (hM19_14.pk [4, 2, 3, 1, 0, 5, 6, 7, 8, 9, 10, 11, 12])
            have hR2 : (⟨rt, tsG (Ch2 ++ [p18_])⟩ : TrT) = addP (⟨rt, tsG Ch2⟩ : TrT) (innP [sp.2.1] [cur, ((Ch).length : Int)]) := by rw [tsg_app]; rfl
            have hq55 : (Ch2 ++ [p18_] : List PgL) = (Ch2 ++ [p18_]) := (by first | rfl | simp | (simp; omega))
            have hMn55 := hMk54.reF 3 hq55
            exact ce3 0 [] (Ch2 ++ [p18_]) A19_12 c19_12 [0, 2, 3, 4, 5, 6, 7, 8, 9] (h := by exact hR2)
          let p19_ : PgL := (⟨⟨bl b19_3, 1, [(sp).2.1]⟩, ⟨bl b19_8, 2, [cur, (((Ch).length : Nat) : Int)]⟩, ⟨A119_10, c119_10, ([] : List Int)⟩⟩ : PgL)
          refine Lt 0 [] (([p19_]).flatMap encPg) (fun w19_11 b19_11 hb19_11 hM19_11 => ?_)
          refine os 0 [] [4, 7, 8, 9, 10, 11, 12] ?_
          refine aO [] [] 1 ?_
          refine os 1 [5] [4, 7, 8, 9, 10, 11, 12] ?_
          refine aO [] [] 12 ?_
          refine aF 0 [] 6 (hM19_11.rd 0 rfl) (fun w19_12 A19_12 c19_12 hc19_12 hM19_12 => ?_) (hn := by first | omega | (simp only [List.length_append, List.length_set, List.length_cons, List.length_nil]; omega)) (hb := by first | omega | (simp only [List.length_append, List.length_set, List.length_cons, List.length_nil]; omega))
          refine os 0 [] [4, 7, 8, 9, 10, 11, 12] ?_
          refine aO [13] [] 14 ?_
          refine Sb 0 [] 5 fun w19_14 hM19_14 => ?_
          refine os 0 [] [4, 7, 8, 9, 10, 11, 12] ?_
          refine an [] [] ?_
          have hMk57 := Mem.gapp (k := ⟨bl b19_3, 1, [(sp).2.1]⟩) (c := ⟨bl b19_8, 2, [cur, (((Ch).length : Nat) : Int)]⟩) (v := ⟨A119_10, c119_10, ([] : List Int)⟩) (hM19_14.pk [4, 2, 3, 1, 0, 5, 6, 7, 8, 9, 10, 11, 12])
          have hR2 : (⟨rt, tsG (Ch2 ++ [p19_])⟩ : TrT) = addP (⟨rt, tsG Ch2⟩ : TrT) (innP [sp.2.1] [cur, ((Ch).length : Int)]) := by rw [tsg_app]; rfl
          have hq58 : (Ch2 ++ [p19_] : List PgL) = (Ch2 ++ [p19_]) := (by first | rfl | simp | (simp; omega))
          have hMn58 := hMk57.reF 3 hq58
          exact ce3 0 [] (Ch2 ++ [p19_]) A19_12 c19_12 [0, 2, 3, 4, 5, 6, 7, 8, 9] (h := by exact hR2)
        have hi0_r19 := hI
        have hcl2_r19 := (hM_r19.cap 2 rfl).1
        have hcl3_r19 := (hM_r19.cap 3 rfl).1
        have hcl4_r19 := (hM_r19.cap 4 rfl).1
        have hcl5_r19 := (hM_r19.cap 5 rfl).1
        have hR2 := hi0_r19
        have hle4 : (Ch4).length = (Ch).length + 2 := by have h9 := congrArg (fun z => z.pages.length) hR2; simp [addP] at h9; omega
        refine ov 5 [1] (a := ksub) (b := ?_)
        refine Sb 1 [] 1 fun w20_5 hM20_5 => ?_
        refine Sb 4 [1] 6 fun w21_1 hM21_1 => ?_
        refine EG 2 [] ?_
        refine PG (vs := [.agg #[I (((((Ch4).length : Nat) : Int) - 1)), .slice (A4) ((Ch4).length) (c4)]]) (ResV.cell (l := [I (((((Ch4).length : Nat) : Int) - 1)), .slice (A4) ((Ch4).length) (c4)]) rfl (mem_blk (i := 6) (j := 0) hM21_1 rfl rfl) el25 rfl ResV.nil) ?_
        have ha0 : a = 1 := by omega
        subst ha0
        have hgr := grow_root (R := (⟨rt, tsG Ch⟩ : TrT)) (P := (pathK (T).t (x).key)) (by rw [show (1 : Nat) - 1 = 0 from rfl] at hcu; rw [← hcu, hgc]; show ¬ (((Ch)[(cur).toNat]'hjc).k.l).length ≤ 4; omega)
        rw [show (1 : Nat) - 1 = 0 from rfl] at hcu
        rw [← hcu, hgc, ← hsp0, ← hR1] at hgr
        have hrs : (⟨((Ch).length : Int) + 1, tsG Ch4⟩ : TrT) = putF (T).t x := by rw [← hi1_l6, hgr]; have h9 := congrArg TrT.pages hR2; rw [show tsG Ch4 = _ from h9]; simp only [List.length_map]; rfl
        exact ⟨(((Ch).length : Int) + 1), Ch4, A4, c4, (by first | rfl | (refine congrArg Value.agg (congrArg List.toArray ?_); refine List.cons_eq_cons.2 ⟨I_congr (by omega), ?_⟩; first | rfl | simp)), hrs, (hM21_1.pk [2, 0])⟩
      have ha2 : 2 ≤ a := by omega
      have hab := hG.above hP ha2 (q := sp.1) (r := sp.2.2)
      obtain ⟨up9, hup⟩ : ∃ z, z = (pathK (T).t (x).key).getD (a - 2) 0 := ⟨_, rfl⟩
      rw [← hcu, ← hup, ← hR1] at hab
      have hin2 := above_in hP ha2 ha1.2
      rw [← hcu, ← hup] at hin2
      have hui := inT_iff.1 (hG.curIn hP (k := a - 2) (by omega))
      refine go 2 [] ?_
      simp only [List.length_map] at hui
      rw [← hup] at hui
      have hju : (up9).toNat < (Ch2).length := by omega
      have hgu9 : gP (⟨rt, tsG Ch2⟩ : TrT) up9 = ((Ch2)[(up9).toNat]'hju).t := gP_ch hju
      rw [hgu9] at hab
      rw [← hab] at hin2
      obtain ⟨hin3, hin4, hin5, hin6⟩ := hin2
      have hin4 : ((Ch2)[(up9).toNat]'hju).c.l.length = ((Ch2)[(up9).toNat]'hju).k.l.length + 1 := hin4
      have hin5 : ((Ch2)[(up9).toNat]'hju).k.l.length ≤ 4 := hin5
      have hpk := plc_kid (l := ((Ch2)[(up9).toNat]'hju).c.l) (n := cur) (m := ((Ch2)[(up9).toNat]'hju).k.l.length) hin3 hin4
      refine ov 3 [] (a := ksub) (b := ?_)
      have hx22_3 : (a - 1 - 1) < (pathK (T).t ((x).key)).length := (by omega)
      refine ov 0 [] (a := kixM hx22_3 (hM_c74.rd 5 rfl) (h0 := by omega)) (b := ?_)
      refine ov 0 [] (s := Vi (up9)) (a := by exact cv (Ru.congr (v := I ((pathK (T).t ((x).key))[(a - 1 - 1)]'hx22_3)) (v' := I (up9)) (Ru.load1 el3 rfl (ldm (hM_c74.rd 5 rfl) hx22_3)) (I_congr (by rw [hup, show a - 2 = a - 1 - 1 by omega, getD_in (show a - 1 - 1 < (pathK (T).t (x).key).length by omega)]))) rfl) (b := ?_)
      refine ct3 2 [] (fun (Ch5 : List PgL) (A5 : Option Addr) (c5 : Nat) => ([] : List (Nat × SV))) (fun (Ch5 : List PgL) (A5 : Option Addr) (c5 : Nat) => ((⟨rt, tsG Ch5⟩ : TrT) = setP (⟨rt, tsG Ch2⟩ : TrT) up9 (addK (gP (T).t up9) (plcI (gP (T).t up9).kids cur) sp.2.1 ((Ch).length : Int)))) (fun (Ch5 : List PgL) (A5 : Option Addr) (c5 : Nat) => [(Ch5).flatMap (pgF 3), [⟨.slice (bl b1_2) 1 1, 25, 2, 1, [I (rt), .slice (A5) ((Ch5).length) (c5)]⟩], [⟨.slice (A5) ((Ch5).length) (c5), 39, 3, ((Ch5).length), (Ch5).flatMap encPg⟩]]) [4, 5, 6, 7] [3, 4, 5, 6, 7, 8] ?_ (fun Ch5 A5 c5 σ w_r23 hI hM_r23 => ?_)
      · have hgu23 := hM_c74.gcap 0 rfl hju
        refine any 0 [] 26 [0, 1, 3, 4, 5, 6, 7, 8] fun w23a hM23a => ?_
        have hx23_6 : (up9).toNat < (Ch2).length := hju
        refine av [0, 1, 2, 3, 4, 5] [1, 1] 6 (a := by exact fun _ hw2 => kixF hx23_6 (hM23a.rd 2 rfl) (h0 := by omega)) (b := ?_)
        have hx23_12 : (up9).toNat < (Ch2).length := hju
        refine av [9, 10, 11] [1] 12 (a := by exact fun _ hw2 => kixF hx23_12 (hM23a.rd 2 rfl) (h0 := by omega)) (b := ?_)
        refine av [] [] 13 (a := by exact fun _ hw2 => kflF hx23_12 (hM23a.rd 2 rfl)) (b := ?_)
        have hx23_17 : (a - 1) < (pathK (T).t ((x).key)).length := (by omega)
        refine av [15, 16] [] 17 (a := by exact fun _ hw2 => kixM hx23_17 (hM23a.rd 5 rfl) (h0 := by omega)) (b := ?_)
        refine av [] [] 18 (s := Vi (cur)) (a := by exact fun w2 hw2 => cv (Ru.congr (v := I ((pathK (T).t ((x).key))[(a - 1)]'hx23_17)) (v' := I (cur)) (Ru.load1 el3 rfl (ldm (hw2.rd 4 rfl) hx23_17)) (I_congr ((getD_in hx23_17).symm.trans hcu.symm))) rfl) (b := ?_)
        refine aT [20, 21] [] 7 14 ?_ ?_
        · refine ov 0 [] (a := kldN hx23_6 (hM23a.rd 2 rfl)) (b := ?_)
          refine os 0 [] [0, 1, 3, 4, 5, 6, 7, 8] ?_
          refine aT [] [] 8 14 ?_ ?_
          · refine cp 0 [] (b := insideOf_fn ((Ch2)[(up9).toNat]'hx23_6) w23a ((NsP.mem hM23a 0 rfl).get hx23_6)) (c := fun w23_8 hM23_8 => ?_)
            refine os 0 [] [0, 1, 3, 4, 5, 6, 7, 8] ?_
            refine aO [] [] 14 ?_
            refine ov 0 [] (a := kldF hx23_12 (hM23_8.rd 2 rfl)) (b := ?_)
            refine os 0 [] [0, 1, 3, 4, 5, 6, 7, 8] ?_
            refine aO [] [] 19 ?_
            refine cq 0 [] (vs := [.slice (((Ch2)[(up9).toNat]'hx23_12).c.A) ((((Ch2)[(up9).toNat]'hx23_12).c.l).length) (((Ch2)[(up9).toNat]'hx23_12).c.cp), I (cur)]) (hvs := (by first | rfl | (rw [show (((Ch2)[(up9).toNat]'hx23_12).c.l).length = ((Ch2)[(up9).toNat]'hx23_12).c.l.length from (by first | rfl | (simp; done) | omega | (simp; omega))]; rfl))) (b := placeOf_fn (((Ch2)[(up9).toNat]'hx23_12).c.A) (((Ch2)[(up9).toNat]'hx23_12).c.cp) (((Ch2)[(up9).toNat]'hx23_12).c.l) _ w23_8 ((NsP.mem hM23_8 0 rfl).get hx23_12).2.1 qo) (c := ?_)
            rintro _ w23_19 ⟨rfl, hR23_19⟩
            have hM23_19 := hM23_8.cl 0 hR23_19
            refine os 0 [] [0, 1, 3, 4, 5, 6, 7, 8] ?_
            refine aO [] [] 22 ?_
            refine cq 0 [] (b := addKid_fn ((((Ch2)[(up9).toNat]'hx23_6)).k.A) ((((Ch2)[(up9).toNat]'hx23_6)).k.cp) ((((Ch2)[(up9).toNat]'hx23_6)).k.l) ((((Ch2)[(up9).toNat]'hx23_6)).c.A) ((((Ch2)[(up9).toNat]'hx23_6)).c.cp) ((((Ch2)[(up9).toNat]'hx23_6)).c.l) _ _ _ w23_19 ((NsP.mem hM23_19 0 rfl).get hx23_6).1 ((NsP.mem hM23_19 0 rfl).get hx23_6).2.1 (by exact ⟨hgu23.1, hgu23.2.1⟩) (by exact hpk) qo (by exact hin4)) (c := ?_)
            rintro _ w23_22 ⟨A123_22, c123_22, A223_22, c223_22, rfl, hR23_22⟩
            have hM23_22 := hM23_19.cl 0 hR23_22
            have hcr23_22_0 := (hM23_22.cap 0 rfl).1
            have hcr23_22_1 := (hM23_22.cap 1 rfl).1
            refine os 0 [] [2, 3, 5, 6, 7, 8, 9, 10] ?_
            refine aO [] [] 23 ?_
            refine cq 0 [] (b := innerOf_fn A123_22 c123_22 ((((((Ch2)[(up9).toNat]'hx23_6)).k.l)).take ((plcI (((Ch2)[(up9).toNat]'hx23_12).c.l) cur)).toNat ++ [((sp).2.1)] ++ (((((Ch2)[(up9).toNat]'hx23_6)).k.l)).drop ((plcI (((Ch2)[(up9).toNat]'hx23_12).c.l) cur)).toNat) A223_22 c223_22 ((((((Ch2)[(up9).toNat]'hx23_6)).c.l)).take (((plcI (((Ch2)[(up9).toNat]'hx23_12).c.l) cur)).toNat + 1) ++ [(((Ch).length : Nat) : Int)] ++ (((((Ch2)[(up9).toNat]'hx23_6)).c.l)).drop (((plcI (((Ch2)[(up9).toNat]'hx23_12).c.l) cur)).toNat + 1)) w23_22 (hM23_22.rd 0 rfl) (hM23_22.rd 1 rfl)) (c := ?_)
            rintro _ w23_23 ⟨A123_23, c123_23, rfl, hR23_23⟩
            have hM23_23 := hM23_22.cl 0 hR23_23
            have hcr23_23_0 := (hM23_23.cap 0 rfl).1
            refine os 0 [] [3, 4, 6, 7, 8, 9, 10, 11] ?_
            have hx23_24 : (up9).toNat < (Ch2).length := hju
            refine av [] [] 24 (a := by exact fun _ hw2 => kixF hx23_24 (hM23_23.rd 5 rfl) (h0 := by omega)) (b := ?_)
            refine aO [] [] 25 ?_
            let p20_ : PgL := (⟨⟨A123_22, c123_22, (((((Ch2)[(up9).toNat]'hx23_6)).k.l)).take ((plcI (((Ch2)[(up9).toNat]'hx23_12).c.l) cur)).toNat ++ [((sp).2.1)] ++ (((((Ch2)[(up9).toNat]'hx23_6)).k.l)).drop ((plcI (((Ch2)[(up9).toNat]'hx23_12).c.l) cur)).toNat⟩, ⟨A223_22, c223_22, (((((Ch2)[(up9).toNat]'hx23_6)).c.l)).take (((plcI (((Ch2)[(up9).toNat]'hx23_12).c.l) cur)).toNat + 1) ++ [(((Ch).length : Nat) : Int)] ++ (((((Ch2)[(up9).toNat]'hx23_6)).c.l)).drop (((plcI (((Ch2)[(up9).toNat]'hx23_12).c.l) cur)).toNat + 1)⟩, ⟨A123_23, c123_23, ([] : List Int)⟩⟩ : PgL)
            refine sF 0 [] 5 p20_ hx23_24 fun w23_25 hM23_25 => ?_
            refine os 0 [] [3, 4, 6, 7, 8, 9, 10, 11] ?_
            refine an [] [] ?_
            have hMk61 := Mem.gset (k := ⟨A123_22, c123_22, (((((Ch2)[(up9).toNat]'hx23_6)).k.l)).take ((plcI (((Ch2)[(up9).toNat]'hx23_12).c.l) cur)).toNat ++ [((sp).2.1)] ++ (((((Ch2)[(up9).toNat]'hx23_6)).k.l)).drop ((plcI (((Ch2)[(up9).toNat]'hx23_12).c.l) cur)).toNat⟩) (c := ⟨A223_22, c223_22, (((((Ch2)[(up9).toNat]'hx23_6)).c.l)).take (((plcI (((Ch2)[(up9).toNat]'hx23_12).c.l) cur)).toNat + 1) ++ [(((Ch).length : Nat) : Int)] ++ (((((Ch2)[(up9).toNat]'hx23_6)).c.l)).drop (((plcI (((Ch2)[(up9).toNat]'hx23_12).c.l) cur)).toNat + 1)⟩) (v := ⟨A123_23, c123_23, ([] : List Int)⟩) ((up9).toNat) (hM23_25.pk [3, 1, 2, 0, 4, 5, 6, 7, 8, 9, 10, 11])
            have hR3 : (⟨rt, tsG ((Ch2).set ((up9).toNat) p20_)⟩ : TrT) = setP (⟨rt, tsG Ch2⟩ : TrT) up9 (addK (gP (T).t up9) (plcI (gP (T).t up9).kids cur) sp.2.1 ((Ch).length : Int)) := by rw [tsg_set, ← hab]; rfl
            have hq62 : ((Ch2).set ((up9).toNat) p20_ : List PgL) = (Ch2).set ((up9).toNat) p20_ := rfl
            have hMn62 := hMk61.reF 2 hq62
            have hMn63 := hMn62.reB 1 1 (show (Ch2).length = ((Ch2).set ((up9).toNat) p20_).length from (by first | rfl | simp | (simp; omega)))
            have hq64 : ((Ch2).set ((up9).toNat) p20_ : List PgL) = ((Ch2).set ((up9).toNat) p20_) := (by first | rfl | simp | (simp; omega))
            have hMn64 := hMn63.reF 2 hq64
            exact ce3 0 [] ((Ch2).set ((up9).toNat) p20_) A2 c2 [0, 1, 2, 3, 4, 5, 6, 7, 8] (h := by exact hR3)
          refine ov 0 [] (a := kldF hx23_12 (hM23a.rd 2 rfl)) (b := ?_)
          refine os 0 [] [0, 1, 3, 4, 5, 6, 7, 8] ?_
          refine aO [] [] 8 ?_
          refine cp 0 [] (b := insideOf_fn ((Ch2)[(up9).toNat]'hx23_6) w23a ((NsP.mem hM23a 0 rfl).get hx23_6)) (c := fun w23_8 hM23_8 => ?_)
          refine os 0 [] [0, 1, 3, 4, 5, 6, 7, 8] ?_
          refine aO [] [] 19 ?_
          refine cq 0 [] (vs := [.slice (((Ch2)[(up9).toNat]'hx23_12).c.A) ((((Ch2)[(up9).toNat]'hx23_12).c.l).length) (((Ch2)[(up9).toNat]'hx23_12).c.cp), I (cur)]) (hvs := (by first | rfl | (rw [show (((Ch2)[(up9).toNat]'hx23_12).c.l).length = ((Ch2)[(up9).toNat]'hx23_12).c.l.length from (by first | rfl | (simp; done) | omega | (simp; omega))]; rfl))) (b := placeOf_fn (((Ch2)[(up9).toNat]'hx23_12).c.A) (((Ch2)[(up9).toNat]'hx23_12).c.cp) (((Ch2)[(up9).toNat]'hx23_12).c.l) _ w23_8 ((NsP.mem hM23_8 0 rfl).get hx23_12).2.1 qo) (c := ?_)
          rintro _ w23_19 ⟨rfl, hR23_19⟩
          have hM23_19 := hM23_8.cl 0 hR23_19
          refine os 0 [] [0, 1, 3, 4, 5, 6, 7, 8] ?_
          refine aO [] [] 22 ?_
          refine cq 0 [] (b := addKid_fn ((((Ch2)[(up9).toNat]'hx23_6)).k.A) ((((Ch2)[(up9).toNat]'hx23_6)).k.cp) ((((Ch2)[(up9).toNat]'hx23_6)).k.l) ((((Ch2)[(up9).toNat]'hx23_6)).c.A) ((((Ch2)[(up9).toNat]'hx23_6)).c.cp) ((((Ch2)[(up9).toNat]'hx23_6)).c.l) _ _ _ w23_19 ((NsP.mem hM23_19 0 rfl).get hx23_6).1 ((NsP.mem hM23_19 0 rfl).get hx23_6).2.1 (by exact ⟨hgu23.1, hgu23.2.1⟩) (by exact hpk) qo (by exact hin4)) (c := ?_)
          rintro _ w23_22 ⟨A123_22, c123_22, A223_22, c223_22, rfl, hR23_22⟩
          have hM23_22 := hM23_19.cl 0 hR23_22
          have hcr23_22_0 := (hM23_22.cap 0 rfl).1
          have hcr23_22_1 := (hM23_22.cap 1 rfl).1
          refine os 0 [] [2, 3, 5, 6, 7, 8, 9, 10] ?_
          refine aO [] [] 23 ?_
          refine cq 0 [] (b := innerOf_fn A123_22 c123_22 ((((((Ch2)[(up9).toNat]'hx23_6)).k.l)).take ((plcI (((Ch2)[(up9).toNat]'hx23_12).c.l) cur)).toNat ++ [((sp).2.1)] ++ (((((Ch2)[(up9).toNat]'hx23_6)).k.l)).drop ((plcI (((Ch2)[(up9).toNat]'hx23_12).c.l) cur)).toNat) A223_22 c223_22 ((((((Ch2)[(up9).toNat]'hx23_6)).c.l)).take (((plcI (((Ch2)[(up9).toNat]'hx23_12).c.l) cur)).toNat + 1) ++ [(((Ch).length : Nat) : Int)] ++ (((((Ch2)[(up9).toNat]'hx23_6)).c.l)).drop (((plcI (((Ch2)[(up9).toNat]'hx23_12).c.l) cur)).toNat + 1)) w23_22 (hM23_22.rd 0 rfl) (hM23_22.rd 1 rfl)) (c := ?_)
          rintro _ w23_23 ⟨A123_23, c123_23, rfl, hR23_23⟩
          have hM23_23 := hM23_22.cl 0 hR23_23
          have hcr23_23_0 := (hM23_23.cap 0 rfl).1
          refine os 0 [] [3, 4, 6, 7, 8, 9, 10, 11] ?_
          have hx23_24 : (up9).toNat < (Ch2).length := hju
          refine av [] [] 24 (a := by exact fun _ hw2 => kixF hx23_24 (hM23_23.rd 5 rfl) (h0 := by omega)) (b := ?_)
          refine aO [] [] 25 ?_
          let p21_ : PgL := (⟨⟨A123_22, c123_22, (((((Ch2)[(up9).toNat]'hx23_6)).k.l)).take ((plcI (((Ch2)[(up9).toNat]'hx23_12).c.l) cur)).toNat ++ [((sp).2.1)] ++ (((((Ch2)[(up9).toNat]'hx23_6)).k.l)).drop ((plcI (((Ch2)[(up9).toNat]'hx23_12).c.l) cur)).toNat⟩, ⟨A223_22, c223_22, (((((Ch2)[(up9).toNat]'hx23_6)).c.l)).take (((plcI (((Ch2)[(up9).toNat]'hx23_12).c.l) cur)).toNat + 1) ++ [(((Ch).length : Nat) : Int)] ++ (((((Ch2)[(up9).toNat]'hx23_6)).c.l)).drop (((plcI (((Ch2)[(up9).toNat]'hx23_12).c.l) cur)).toNat + 1)⟩, ⟨A123_23, c123_23, ([] : List Int)⟩⟩ : PgL)
          refine sF 0 [] 5 p21_ hx23_24 fun w23_25 hM23_25 => ?_
          refine os 0 [] [3, 4, 6, 7, 8, 9, 10, 11] ?_
          refine an [] [] ?_
          have hMk66 := Mem.gset (k := ⟨A123_22, c123_22, (((((Ch2)[(up9).toNat]'hx23_6)).k.l)).take ((plcI (((Ch2)[(up9).toNat]'hx23_12).c.l) cur)).toNat ++ [((sp).2.1)] ++ (((((Ch2)[(up9).toNat]'hx23_6)).k.l)).drop ((plcI (((Ch2)[(up9).toNat]'hx23_12).c.l) cur)).toNat⟩) (c := ⟨A223_22, c223_22, (((((Ch2)[(up9).toNat]'hx23_6)).c.l)).take (((plcI (((Ch2)[(up9).toNat]'hx23_12).c.l) cur)).toNat + 1) ++ [(((Ch).length : Nat) : Int)] ++ (((((Ch2)[(up9).toNat]'hx23_6)).c.l)).drop (((plcI (((Ch2)[(up9).toNat]'hx23_12).c.l) cur)).toNat + 1)⟩) (v := ⟨A123_23, c123_23, ([] : List Int)⟩) ((up9).toNat) (hM23_25.pk [3, 1, 2, 0, 4, 5, 6, 7, 8, 9, 10, 11])
          have hR3 : (⟨rt, tsG ((Ch2).set ((up9).toNat) p21_)⟩ : TrT) = setP (⟨rt, tsG Ch2⟩ : TrT) up9 (addK (gP (T).t up9) (plcI (gP (T).t up9).kids cur) sp.2.1 ((Ch).length : Int)) := by rw [tsg_set, ← hab]; rfl
          have hq67 : ((Ch2).set ((up9).toNat) p21_ : List PgL) = (Ch2).set ((up9).toNat) p21_ := rfl
          have hMn67 := hMk66.reF 2 hq67
          have hMn68 := hMn67.reB 1 1 (show (Ch2).length = ((Ch2).set ((up9).toNat) p21_).length from (by first | rfl | simp | (simp; omega)))
          have hq69 : ((Ch2).set ((up9).toNat) p21_ : List PgL) = ((Ch2).set ((up9).toNat) p21_) := (by first | rfl | simp | (simp; omega))
          have hMn69 := hMn68.reF 2 hq69
          exact ce3 0 [] ((Ch2).set ((up9).toNat) p21_) A2 c2 [0, 1, 2, 3, 4, 5, 6, 7, 8] (h := by exact hR3)
        refine ov 0 [] (a := kldF hx23_12 (hM23a.rd 2 rfl)) (b := ?_)
        refine os 0 [] [0, 1, 3, 4, 5, 6, 7, 8] ?_
        refine aO [] [] 7 ?_
        refine ov 0 [] (a := kldN hx23_6 (hM23a.rd 2 rfl)) (b := ?_)
        refine os 0 [] [0, 1, 3, 4, 5, 6, 7, 8] ?_
        refine aO [] [] 8 ?_
        refine cp 0 [] (b := insideOf_fn ((Ch2)[(up9).toNat]'hx23_6) w23a ((NsP.mem hM23a 0 rfl).get hx23_6)) (c := fun w23_8 hM23_8 => ?_)
        refine os 0 [] [0, 1, 3, 4, 5, 6, 7, 8] ?_
        refine aO [] [] 19 ?_
        refine cq 0 [] (vs := [.slice (((Ch2)[(up9).toNat]'hx23_12).c.A) ((((Ch2)[(up9).toNat]'hx23_12).c.l).length) (((Ch2)[(up9).toNat]'hx23_12).c.cp), I (cur)]) (hvs := (by first | rfl | (rw [show (((Ch2)[(up9).toNat]'hx23_12).c.l).length = ((Ch2)[(up9).toNat]'hx23_12).c.l.length from (by first | rfl | (simp; done) | omega | (simp; omega))]; rfl))) (b := placeOf_fn (((Ch2)[(up9).toNat]'hx23_12).c.A) (((Ch2)[(up9).toNat]'hx23_12).c.cp) (((Ch2)[(up9).toNat]'hx23_12).c.l) _ w23_8 ((NsP.mem hM23_8 0 rfl).get hx23_12).2.1 qo) (c := ?_)
        rintro _ w23_19 ⟨rfl, hR23_19⟩
        have hM23_19 := hM23_8.cl 0 hR23_19
        refine os 0 [] [0, 1, 3, 4, 5, 6, 7, 8] ?_
        refine aO [] [] 22 ?_
        refine cq 0 [] (b := addKid_fn ((((Ch2)[(up9).toNat]'hx23_6)).k.A) ((((Ch2)[(up9).toNat]'hx23_6)).k.cp) ((((Ch2)[(up9).toNat]'hx23_6)).k.l) ((((Ch2)[(up9).toNat]'hx23_6)).c.A) ((((Ch2)[(up9).toNat]'hx23_6)).c.cp) ((((Ch2)[(up9).toNat]'hx23_6)).c.l) _ _ _ w23_19 ((NsP.mem hM23_19 0 rfl).get hx23_6).1 ((NsP.mem hM23_19 0 rfl).get hx23_6).2.1 (by exact ⟨hgu23.1, hgu23.2.1⟩) (by exact hpk) qo (by exact hin4)) (c := ?_)
        rintro _ w23_22 ⟨A123_22, c123_22, A223_22, c223_22, rfl, hR23_22⟩
        have hM23_22 := hM23_19.cl 0 hR23_22
        have hcr23_22_0 := (hM23_22.cap 0 rfl).1
        have hcr23_22_1 := (hM23_22.cap 1 rfl).1
        refine os 0 [] [2, 3, 5, 6, 7, 8, 9, 10] ?_
        refine aO [] [] 23 ?_
        refine cq 0 [] (b := innerOf_fn A123_22 c123_22 ((((((Ch2)[(up9).toNat]'hx23_6)).k.l)).take ((plcI (((Ch2)[(up9).toNat]'hx23_12).c.l) cur)).toNat ++ [((sp).2.1)] ++ (((((Ch2)[(up9).toNat]'hx23_6)).k.l)).drop ((plcI (((Ch2)[(up9).toNat]'hx23_12).c.l) cur)).toNat) A223_22 c223_22 ((((((Ch2)[(up9).toNat]'hx23_6)).c.l)).take (((plcI (((Ch2)[(up9).toNat]'hx23_12).c.l) cur)).toNat + 1) ++ [(((Ch).length : Nat) : Int)] ++ (((((Ch2)[(up9).toNat]'hx23_6)).c.l)).drop (((plcI (((Ch2)[(up9).toNat]'hx23_12).c.l) cur)).toNat + 1)) w23_22 (hM23_22.rd 0 rfl) (hM23_22.rd 1 rfl)) (c := ?_)
        rintro _ w23_23 ⟨A123_23, c123_23, rfl, hR23_23⟩
        have hM23_23 := hM23_22.cl 0 hR23_23
        have hcr23_23_0 := (hM23_23.cap 0 rfl).1
        refine os 0 [] [3, 4, 6, 7, 8, 9, 10, 11] ?_
        have hx23_24 : (up9).toNat < (Ch2).length := hju
        refine av [] [] 24 (a := by exact fun _ hw2 => kixF hx23_24 (hM23_23.rd 5 rfl) (h0 := by omega)) (b := ?_)
        refine aO [] [] 25 ?_
        let p22_ : PgL := (⟨⟨A123_22, c123_22, (((((Ch2)[(up9).toNat]'hx23_6)).k.l)).take ((plcI (((Ch2)[(up9).toNat]'hx23_12).c.l) cur)).toNat ++ [((sp).2.1)] ++ (((((Ch2)[(up9).toNat]'hx23_6)).k.l)).drop ((plcI (((Ch2)[(up9).toNat]'hx23_12).c.l) cur)).toNat⟩, ⟨A223_22, c223_22, (((((Ch2)[(up9).toNat]'hx23_6)).c.l)).take (((plcI (((Ch2)[(up9).toNat]'hx23_12).c.l) cur)).toNat + 1) ++ [(((Ch).length : Nat) : Int)] ++ (((((Ch2)[(up9).toNat]'hx23_6)).c.l)).drop (((plcI (((Ch2)[(up9).toNat]'hx23_12).c.l) cur)).toNat + 1)⟩, ⟨A123_23, c123_23, ([] : List Int)⟩⟩ : PgL)
        refine sF 0 [] 5 p22_ hx23_24 fun w23_25 hM23_25 => ?_
        refine os 0 [] [3, 4, 6, 7, 8, 9, 10, 11] ?_
        refine an [] [] ?_
        have hMk71 := Mem.gset (k := ⟨A123_22, c123_22, (((((Ch2)[(up9).toNat]'hx23_6)).k.l)).take ((plcI (((Ch2)[(up9).toNat]'hx23_12).c.l) cur)).toNat ++ [((sp).2.1)] ++ (((((Ch2)[(up9).toNat]'hx23_6)).k.l)).drop ((plcI (((Ch2)[(up9).toNat]'hx23_12).c.l) cur)).toNat⟩) (c := ⟨A223_22, c223_22, (((((Ch2)[(up9).toNat]'hx23_6)).c.l)).take (((plcI (((Ch2)[(up9).toNat]'hx23_12).c.l) cur)).toNat + 1) ++ [(((Ch).length : Nat) : Int)] ++ (((((Ch2)[(up9).toNat]'hx23_6)).c.l)).drop (((plcI (((Ch2)[(up9).toNat]'hx23_12).c.l) cur)).toNat + 1)⟩) (v := ⟨A123_23, c123_23, ([] : List Int)⟩) ((up9).toNat) (hM23_25.pk [3, 1, 2, 0, 4, 5, 6, 7, 8, 9, 10, 11])
        have hR3 : (⟨rt, tsG ((Ch2).set ((up9).toNat) p22_)⟩ : TrT) = setP (⟨rt, tsG Ch2⟩ : TrT) up9 (addK (gP (T).t up9) (plcI (gP (T).t up9).kids cur) sp.2.1 ((Ch).length : Int)) := by rw [tsg_set, ← hab]; rfl
        have hq72 : ((Ch2).set ((up9).toNat) p22_ : List PgL) = (Ch2).set ((up9).toNat) p22_ := rfl
        have hMn72 := hMk71.reF 2 hq72
        have hMn73 := hMn72.reB 1 1 (show (Ch2).length = ((Ch2).set ((up9).toNat) p22_).length from (by first | rfl | simp | (simp; omega)))
        have hq74 : ((Ch2).set ((up9).toNat) p22_ : List PgL) = ((Ch2).set ((up9).toNat) p22_) := (by first | rfl | simp | (simp; omega))
        have hMn74 := hMn73.reF 2 hq74
        exact ce3 0 [] ((Ch2).set ((up9).toNat) p22_) A2 c2 [0, 1, 2, 3, 4, 5, 6, 7, 8] (h := by exact hR3)
      have hi0_r23 := hI
      have hcl2_r23 := (hM_r23.cap 2 rfl).1
      have hcl3_r23 := (hM_r23.cap 3 rfl).1
      have hcl4_r23 := (hM_r23.cap 4 rfl).1
      have hcl5_r23 := (hM_r23.cap 5 rfl).1
      have hR3 := hi0_r23
      have hGn := hG.next hP ha2 (q := (addK (gP (T).t up9) (plcI (gP (T).t up9).kids cur) sp.2.1 ((Ch).length : Int))) (by rw [← hup, ← hcu, hgc, ← hsp0]; simp)
      have hgu := grow_up ha2 hG hP (by rw [← hcu, hgc]; show ¬ (((Ch)[(cur).toNat]'hjc).k.l).length ≤ 4; omega) (q := (addK (gP (T).t up9) (plcI (gP (T).t up9).kids cur) sp.2.1 ((Ch).length : Int))) (by rw [← hup, ← hcu, hgc, ← hsp0]; simp)
      rw [← hcu, ← hup, hgc, ← hsp0, ← hR1, ← hR3] at hGn hgu
      refine ov 2 [] (a := ksub) (b := ?_)
      exact le5 2 [] (a - 1) rt Ch5 A5 c5 [0, 1, 2, 3, 4, 5, 6, 7, 8] (hm := (by (try dsimp only); have := hG.a1; omega)) (h := by exact ⟨hGn, (by (try dsimp only); rw [← hgu]; exact hi1_l6)⟩)
    refine Sb 4 [1] 6 fun w25_1 hM25_1 => ?_
    refine EG 2 [] ?_
    refine PG (vs := [.agg #[I (rt), .slice (A2) ((Ch).length) (c2)]]) (ResV.cell (l := [I (rt), .slice (A2) ((Ch).length) (c2)]) rfl (mem_blk (i := 6) (j := 0) hM25_1 rfl rfl) el25 rfl ResV.nil) ?_
    have hgs := grow_stop (R := (⟨rt, tsG Ch⟩ : TrT)) (P := (pathK (T).t (x).key)) (a := a) (by omega) (by rw [← hcu, hgc]; show (((Ch)[(cur).toNat]'hjc).k.l).length ≤ 4; omega)
    exact ⟨rt, Ch, A2, c2, (by first | rfl | exact sl_congr (by first | omega | (simp; done) | (simp; omega)) | (simp; done)), (by rw [← hi1_l6, hgs]), (hM25_1.pk [2, 0])⟩
  exfalso; omega
end Go.Proofs.YtemejgglbhjodaaDoor
end
section
namespace Go.Proofs.YtemejgglbhjodaaDoor
open Go.Px
set_option maxHeartbeats 2000000 in
theorem sPutKey_fn (T : TreeL) (x : PairT) (w : World) (hNT : TrN w T) (hs : SzT T) :
    Does Tryd.prog 61 [.agg #[I ((T).root), .slice ((T).A) ((T).l.length) ((T).cp)], .agg #[I ((x).key), I ((x).val)]] w (fun v w1 => ∃ (r1 : Int) (L1 : List PgL) (A1 : Option Addr) (c1 : Nat), v = .tuple #[.agg #[I (r1), .slice (A1) ((L1).length) (c1)], .bool ((validT (T).t && validR [x] && validT (putF (T).t x)))] ∧ ((validT (T).t && validR [x] && validT (putF (T).t x)) = true → (⟨r1, tsG L1⟩ : TrT) = putF (T).t x) ∧ (SzT ⟨r1, A1, c1, L1⟩) ∧ ((L1).length ≤ 64) ∧ Mem w w1 [] [[⟨.slice (A1) ((L1).length) (c1), 39, 3, ((L1).length), (L1).flatMap encPg⟩], (L1).flatMap (pgF 3)]) := by
  have hM : Mem w w [] [] := Mem.refl
  refine Does.nG (rs := [.cell 4 25, .tmp 5]) Tryd.func61 rfl Tryd.results61 Tryd.ntmps61 rfl ?_
  refine Bx 2 [] fun w0_0 b0_0 hb0_0 hM0_0 => ?_
  refine Bx 0 [] fun w0_1 b0_1 hb0_1 hM0_1 => ?_
  refine Al 0 [] fun w0_2 b0_2 hb0_2 hM0_2 => ?_
  refine cp 6 [2] (b := svalidTree_fn T w0_2 (hNT.at hM0_2) q0) (c := fun w1_1 hM1_1 => ?_)
  refine pt 2 [] 9 (fun g9 => ?_) (fun g9 => ?_)
  · have hn1 : validT (T).t = false := by simpa using g9
    refine Sb 17 [] 0 fun w2_1 hM2_1 => ?_
    have hMk1 := Mem.gnil (e := 3) hM2_1
    refine EG 3 [] ?_
    refine PG (vs := [.agg #[I (0), .slice (none) (0) (0)], .bool (false)]) (ResV.cell (l := [I (0), .slice (none) (0) (0)]) rfl (mem_blk (i := 1) (j := 0) hMk1 rfl rfl) el25 rfl (ResV.tmp rfl ResV.nil)) ?_
    have hpf : (validT (T).t && validR [x] && validT (putF (T).t x)) = false := by first | (rw [hn1]; rfl) | (rw [hn2, Bool.and_false]; rfl) | (rw [hn3, Bool.and_false])
    have hMn2 := Mem.addNil (e := 39) (sz := 3) hMk1
    have hq3 : ([] : List PgL) = ([] : List PgL) := (by first | rfl | simp | (simp; omega))
    have hMn3 := hMn2.reF 0 hq3 (f := encPg)
    exact ⟨0, ([] : List PgL), none, 0, (by rw [hpf]; rfl), (fun hb => absurd hb (by rw [hpf]; simp)), (sz_small (by simp) (by simp)), (by simp), (hMn3.pk [0, 1])⟩
  have hv1 : validT (T).t = true := by simpa using g9
  refine Lt 1 [1] (([x]).flatMap encP) (fun w1_5 b1_5 hb1_5 hM1_5 => ?_)
  refine cq 0 [] (vs := [.slice (bl b1_5) (([x]).length) (1)]) (hvs := (by first | rfl | (rw [show ([x]).length = 1 from (by first | rfl | (simp; done) | omega | (simp; omega))]; rfl))) (b := validRow_fn (bl b1_5) 1 [x] w1_5 (hM1_5.rd 0 rfl) q0) (c := ?_)
  rintro _ w1_6 ⟨rfl, hR1_6⟩
  have hM1_6 := hM1_5.cl 0 hR1_6
  refine pt 3 [] 15 (fun g15 => ?_) (fun g15 => ?_)
  · have hn2 : validR [x] = false := by simpa using g15
    refine Sb 11 [] 1 fun w2_1 hM2_1 => ?_
    have hMk5 := Mem.gnil (e := 3) hM2_1
    refine EG 3 [] ?_
    refine PG (vs := [.agg #[I (0), .slice (none) (0) (0)], .bool (false)]) (ResV.cell (l := [I (0), .slice (none) (0) (0)]) rfl (mem_blk (i := 2) (j := 0) hMk5 rfl rfl) el25 rfl (ResV.tmp rfl ResV.nil)) ?_
    have hpf : (validT (T).t && validR [x] && validT (putF (T).t x)) = false := by first | (rw [hn1]; rfl) | (rw [hn2, Bool.and_false]; rfl) | (rw [hn3, Bool.and_false])
    have hMn6 := Mem.addNil (e := 39) (sz := 3) hMk5
    have hq7 : ([] : List PgL) = ([] : List PgL) := (by first | rfl | simp | (simp; omega))
    have hMn7 := hMn6.reF 0 hq7 (f := encPg)
    exact ⟨0, ([] : List PgL), none, 0, (by rw [hpf]; rfl), (fun hb => absurd hb (by rw [hpf]; simp)), (sz_small (by simp) (by simp)), (by simp), (hMn7.pk [0, 1])⟩
  have hv2 : validR [x] = true := by simpa using g15
  refine cq 2 [3, 2] (b := putTree_fn T x w1_6 (hNT.at hM1_6) q0 (by exact hv1) (by exact hv2)) (c := ?_)
  rintro _ w1_12 ⟨r11_12, L11_12, A11_12, c11_12, rfl, hts1_12, hR1_12⟩
  have hM1_12 := hM1_6.cl 0 hR1_12
  have hcr1_12_0 := (hM1_12.cap 0 rfl).1
  have hsz1 := put_sz (A := A11_12) (c := c11_12) hv1 hv2 hts1_12
  refine cp 0 [] (b := svalidTree_fn (⟨r11_12, A11_12, c11_12, L11_12⟩ : TreeL) w1_12 ⟨(hM1_12.rd 0 rfl), (NsP.mem hM1_12 1 rfl)⟩ (by exact hsz1.1)) (c := fun w1_13 hM1_13 => ?_)
  refine cn 3 [] (fun c21 => ?_) (fun c21 => ?_)
  · have hn3 : validT (putF (T).t x) = false := by first | (exfalso; simp_all; done) | (rw [← hts1_12]; exact (show validT (TreeL.t ⟨r11_12, A11_12, c11_12, L11_12⟩) = false from (by simpa using c21)))
    refine Sb 3 [] 3 fun w2_1 hM2_1 => ?_
    have hMk9 := Mem.gnil (e := 3) hM2_1
    refine EG 3 [] ?_
    refine PG (vs := [.agg #[I (0), .slice (none) (0) (0)], .bool (false)]) (ResV.cell (l := [I (0), .slice (none) (0) (0)]) rfl (mem_blk (i := 4) (j := 0) hMk9 rfl rfl) el25 rfl (ResV.tmp rfl ResV.nil)) ?_
    have hpf : (validT (T).t && validR [x] && validT (putF (T).t x)) = false := by first | (rw [hn1]; rfl) | (rw [hn2, Bool.and_false]; rfl) | (rw [hn3, Bool.and_false])
    have hMn10 := Mem.addNil (e := 39) (sz := 3) hMk9
    have hq11 : ([] : List PgL) = ([] : List PgL) := (by first | rfl | simp | (simp; omega))
    have hMn11 := hMn10.reF 0 hq11 (f := encPg)
    exact ⟨0, ([] : List PgL), none, 0, (by rw [hpf]; rfl), (fun hb => absurd hb (by rw [hpf]; simp)), (sz_small (by simp) (by simp)), (by simp), (hMn11.pk [0, 1])⟩
  have hv3 : validT (putF (T).t x) = true := by rw [← hts1_12]; exact (show validT (TreeL.t ⟨r11_12, A11_12, c11_12, L11_12⟩) = true from (by simpa using c21))
  refine cq 5 [5, 4] (b := putTree_fn T x w1_13 (hNT.at hM1_13) q0 (by exact hv1) (by exact hv2)) (c := ?_)
  rintro _ w3_2 ⟨r13_2, L13_2, A13_2, c13_2, rfl, hts3_2, hR3_2⟩
  have hM3_2 := hM1_13.cl 0 hR3_2
  have hcr3_2_0 := (hM3_2.cap 0 rfl).1
  refine Sb 0 [] 5 fun w3_3 hM3_3 => ?_
  refine EG 3 [] ?_
  refine PG (vs := [.agg #[I (r13_2), .slice (A13_2) ((L13_2).length) (c13_2)], .bool (true)]) (ResV.cell (l := [I (r13_2), .slice (A13_2) ((L13_2).length) (c13_2)]) rfl (mem_blk (i := 5) (j := 0) hM3_3 rfl rfl) el25 rfl (ResV.tmp rfl ResV.nil)) ?_
  have hpf : (validT (T).t && validR [x] && validT (putF (T).t x)) = true := by rw [hv1, hv2, hv3]; rfl
  have hsz3 := put_sz (A := A13_2) (c := c13_2) hv1 hv2 hts3_2
  exact ⟨r13_2, L13_2, A13_2, c13_2, (by rw [hpf]; rfl), (fun _ => hts3_2), hsz3.1, (by have := hsz3.2; omega), (hM3_3.pk [0, 1])⟩
theorem sDropPair_fn (A : Option Addr) (c : Nat) (l : List PairT) (k : Int) (w : World) (hA : Rd w A ((l).flatMap encP)) (hl : l.length ≤ 1048576) (hcp : l.length ≤ c) (hv : validR l = true) :
    Does Tryd.prog 91 [.slice (A) ((l).length) (c), I (k)] w (fun v w1 => ∃ (A1 : Option Addr) (c1 : Nat), v = .tuple #[.slice (A1) ((dropR l k).length) (c1), .bool (isInB l k)] ∧ Mem w w1 [] [[⟨.slice (A1) ((dropR l k).length) (c1), 57, 2, ((dropR l k).length), (dropR l k).flatMap encP⟩]]) := by
  have hM : Mem w w [] [] := Mem.refl
  refine Does.n2 Tryd.func91 rfl Tryd.results91 Tryd.ntmps91 rfl ?_
  have hpl := plc_le l k
  have hbe : below (keysP l) k = plc l k := rfl
  have h24 := (validR_iff.1 hv).1
  have hasc := validR_asc hv
  refine cp 9 [] (b := validRow_fn _ _ _ w (hA.at hM) q0) (c := fun w1_1 hM1_1 => ?_)
  refine pt 2 [] 10 (fun g10 => ?_) (fun g10 => ?_)
  · (exfalso; simp [hv] at g10)
  refine cq 1 [] (b := skeysOf_fn _ _ _ w1_1 (hA.at hM1_1) q0) (c := ?_)
  rintro _ w1_5 ⟨A11_5, c11_5, rfl, hR1_5⟩
  have hM1_5 := hM1_1.cl 0 hR1_5
  have hcr1_5_0 := (hM1_5.cap 0 rfl).1
  refine cp 1 [] (b := isIn_fn _ _ _ _ w1_5 (hM1_5.rd 0 rfl) q0) (c := fun w1_7 hM1_7 => ?_)
  refine cn 3 [] (fun c16 => ?_) (fun c16 => ?_)
  · have hin : isInB l k = false := by simpa [isInB] using c16
    refine E2 6 [] (.slice (none) (0) (0)) (.bool (false)) ?_
    have hMn1 := Mem.addNil (e := 57) (sz := 2) hM1_7
    have hq2 : ([] : List PairT) = dropR l k := (by rw [dropR_no hin])
    have hMn2 := hMn1.reF 0 hq2 (f := encP)
    exact ⟨none, 0, (by rw [dropR_no hin, hin]; rfl), (hMn2.pk [0])⟩
  have hin : isInB l k = true := by simpa [isInB] using c16
  obtain ⟨hpb, _⟩ := (isIn_at hasc).1 hin
  refine cq 4 [] (b := skeysOf_fn _ _ _ w1_7 (hA.at hM1_7) q0) (c := ?_)
  rintro _ w3_1 ⟨A13_1, c13_1, rfl, hR3_1⟩
  have hM3_1 := hM1_7.cl 0 hR3_1
  have hcr3_1_0 := (hM3_1.cap 0 rfl).1
  refine cp 1 [] (b := sbelow_fn _ _ _ _ w3_1 (hM3_1.rd 0 rfl) q0) (c := fun w3_3 hM3_3 => ?_)
  refine any 3 [] 11 [0, 1] fun w4a hM4a => ?_
  refine av [0, 1] [] 2 (s := Vl (A) (((l).take (below (keysP l) k)).length) (c)) (a := by exact fun w2 hw2 => cv (Ru.congr (v := .slice (A) (below (keysP l) k) (c)) (v' := .slice (A) (((l).take (below (keysP l) k)).length) (c)) (Ru.lsliceTo (h := below (keysP l) k) Tryd.underlying31 el57 rfl rfl (by omega) (by omega)) (sl_congr (by first | rfl | (simp; done) | omega | (simp; omega)))) rfl) (b := ?_)
  refine av [4, 5] [] 6 (a := by exact fun _ hw2 => kaddN (below (keysP l) k + 1)) (b := ?_)
  refine av [] [] 7 (s := Vl (if c = (below (keysP l) k + 1) then A else ofs (A) ((below (keysP l) k + 1) * 2)) (((l).drop ((below (keysP l) k + 1))).length) (c - (below (keysP l) k + 1))) (a := by exact fun w2 hw2 => cv (Ru.congr (v := .slice (if c = (below (keysP l) k + 1) then A else ofs (A) ((below (keysP l) k + 1) * 2)) (((l).length) - (below (keysP l) k + 1)) (c - (below (keysP l) k + 1))) (v' := .slice (if c = (below (keysP l) k + 1) then A else ofs (A) ((below (keysP l) k + 1) * 2)) (((l).drop ((below (keysP l) k + 1))).length) (c - (below (keysP l) k + 1))) (Ru.lsliceFrom (l := (below (keysP l) k + 1)) Tryd.underlying31 el57 rfl rfl (by omega) (by omega)) (sl_congr (by first | rfl | (simp; done) | omega | (simp; omega)))) rfl) (b := ?_)
  refine aO [] [] 3 ?_
  refine cq 0 [] (b := scopyRow_fn _ _ _ w4a (rd_takeN encP_len (hA.at hM4a)) q0) (c := ?_)
  rintro _ w4_3 ⟨A14_3, c14_3, rfl, hR4_3⟩
  have hM4_3 := hM4a.cl 0 hR4_3
  have hcr4_3_0 := (hM4_3.cap 0 rfl).1
  refine os 0 [] [1, 2] ?_
  refine aO [] [] 8 ?_
  refine aF 0 [] 0 (rd_dropN (k := (below (keysP l) k + 1)) (c := c) encP_len (hA.at hM4_3) q2 q2) (fun w4_8 A4_8 c4_8 hc4_8 hM4_8 => ?_) (hn := by first | omega | (simp only [List.length_take, List.length_drop]; omega)) (hb := by first | omega | (simp only [List.length_take, List.length_drop]; omega))
  refine os 0 [] [1, 2] ?_
  refine an [9, 10] [] ?_
  refine E2 1 [] (.slice (A4_8) ((((l).take (below (keysP l) k)) ++ (l).drop ((below (keysP l) k + 1))).length) (c4_8)) (.bool (true)) ?_
  have hq3 : (((l).take (below (keysP l) k)) ++ (l).drop ((below (keysP l) k + 1)) : List PairT) = dropR l k := (by rw [dropR_in hin]; rfl)
  have hMn3 := hM4_8.reF 0 hq3
  exact ⟨A4_8, c4_8, (by rw [dropR_in hin, hin]; rfl), (hMn3.pk [0])⟩
set_option maxHeartbeats 2000000 in
theorem cutKid_fn (KA : Option Addr) (kc : Nat) (kl : List Int) (CA : Option Addr) (cc : Nat) (cl : List Int) (pl : Int) (w : World) (hRK : Rd w KA ((kl).map I)) (hRC : Rd w CA ((cl).map I)) (hcp : (kl).length ≤ kc ∧ (cl).length ≤ cc) (h0 : 1 ≤ pl ∧ pl ≤ ((kl).length : Int)) (h1 : (kl).length ≤ 1000) (h2 : (cl).length = (kl).length + 1) :
    Does Tryd.prog 101 [.agg #[.slice (KA) ((kl).length) (kc), .slice (CA) ((cl).length) (cc)], I (pl)] w (fun v w1 => ∃ (A1 : Option Addr) (c1 : Nat) (A2 : Option Addr) (c2 : Nat), v = .agg #[.slice (A1) (((kl).take ((pl).toNat - 1) ++ (kl).drop (pl).toNat).length) (c1), .slice (A2) (((cl).take (pl).toNat ++ (cl).drop ((pl).toNat + 1)).length) (c2)] ∧ Mem w w1 [] [[⟨.slice (A1) (((kl).take ((pl).toNat - 1) ++ (kl).drop (pl).toNat).length) (c1), 3, 1, (((kl).take ((pl).toNat - 1) ++ (kl).drop (pl).toNat).length), ((kl).take ((pl).toNat - 1) ++ (kl).drop (pl).toNat).map I⟩], [⟨.slice (A2) (((cl).take (pl).toNat ++ (cl).drop ((pl).toNat + 1)).length) (c2), 3, 1, (((cl).take (pl).toNat ++ (cl).drop ((pl).toNat + 1)).length), ((cl).take (pl).toNat ++ (cl).drop ((pl).toNat + 1)).map I⟩]]) := by
  have hM : Mem w w [] [] := Mem.refl
  refine Does.nG (rs := [.cell 4 98]) Tryd.func101 rfl Tryd.results101 Tryd.ntmps101 rfl ?_
  refine Bx 2 [] fun w0_0 b0_0 hb0_0 hM0_0 => ?_
  refine Al 0 [] fun w0_1 b0_1 hb0_1 hM0_1 => ?_
  have hpe : (pl + 1).toNat = (pl).toNat + 1 := by omega
  have hpm : (pl - 1).toNat = (pl).toNat - 1 := by omega
  refine any 2 [] 12 [0, 1] fun w1a hM1a => ?_
  refine av [0, 1, 2] [1] 3 (a := by exact fun _ hw2 => ksub) (b := ?_)
  refine av [] [] 4 (s := Vl (KA) (((kl).take (((pl - 1)).toNat)).length) (kc)) (a := by exact fun w2 hw2 => cv (Ru.congr (v := .slice (KA) (((pl - 1)).toNat) (kc)) (v' := .slice (KA) (((kl).take (((pl - 1)).toNat)).length) (kc)) (Ru.lsliceTo (h := ((pl - 1)).toNat) Tryd.underlying29 el3 rfl rfl (by omega) (by omega)) (sl_congr (by first | rfl | (simp; done) | omega | (simp; omega)))) rfl) (b := ?_)
  refine av [6, 7, 8] [1] 9 (s := Vl (if kc = (pl).toNat then KA else ofs (KA) (((pl).toNat) * 1)) (((kl).drop ((pl).toNat)).length) (kc - ((pl).toNat))) (a := by exact fun w2 hw2 => cv (Ru.congr (v := .slice (if kc = (pl).toNat then KA else ofs (KA) (((pl).toNat) * 1)) (((kl).length) - ((pl).toNat)) (kc - ((pl).toNat))) (v' := .slice (if kc = (pl).toNat then KA else ofs (KA) (((pl).toNat) * 1)) (((kl).drop ((pl).toNat)).length) (kc - ((pl).toNat))) (Ru.lsliceFrom (l := (pl).toNat) Tryd.underlying29 el3 rfl rfl (by omega) (by omega)) (sl_congr (by first | rfl | (simp; done) | omega | (simp; omega)))) rfl) (b := ?_)
  refine aO [] [] 5 ?_
  refine cq 0 [] (b := scopyInts_fn _ _ _ w1a (rd_take1 (hRK.at hM1a)) q0) (c := ?_)
  rintro _ w1_5 ⟨A11_5, c11_5, rfl, hR1_5⟩
  have hM1_5 := hM1a.cl 0 hR1_5
  have hcr1_5_0 := (hM1_5.cap 0 rfl).1
  refine os 0 [] [1, 2] ?_
  refine aO [] [] 10 ?_
  refine aM 0 [] 0 (rd_drop1 (k := (pl).toNat) (c := kc) (hRK.at hM1_5) q2 q2) (fun w1_10 A1_10 c1_10 hc1_10 hM1_10 => ?_) (hn := by first | omega | (simp only [List.length_take, List.length_drop]; omega)) (hb := by first | omega | (simp only [List.length_take, List.length_drop]; omega))
  refine os 0 [] [1, 2] ?_
  refine an [11] [] ?_
  refine any 1 [] 12 [0, 1, 2] fun w2a hM2a => ?_
  refine av [0, 1, 2] [2] 3 (s := Vl (CA) (((cl).take ((pl).toNat)).length) (cc)) (a := by exact fun w2 hw2 => cv (Ru.congr (v := .slice (CA) ((pl).toNat) (cc)) (v' := .slice (CA) (((cl).take ((pl).toNat)).length) (cc)) (Ru.lsliceTo (h := (pl).toNat) Tryd.underlying29 el3 rfl rfl (by omega) (by omega)) (sl_congr (by first | rfl | (simp; done) | omega | (simp; omega)))) rfl) (b := ?_)
  refine av [5, 6, 7] [2] 8 (a := by exact fun _ hw2 => kadd) (b := ?_)
  refine av [] [] 9 (s := Vl (if cc = ((pl + 1)).toNat then CA else ofs (CA) ((((pl + 1)).toNat) * 1)) (((cl).drop (((pl + 1)).toNat)).length) (cc - (((pl + 1)).toNat))) (a := by exact fun w2 hw2 => cv (Ru.congr (v := .slice (if cc = ((pl + 1)).toNat then CA else ofs (CA) ((((pl + 1)).toNat) * 1)) (((cl).length) - (((pl + 1)).toNat)) (cc - (((pl + 1)).toNat))) (v' := .slice (if cc = ((pl + 1)).toNat then CA else ofs (CA) ((((pl + 1)).toNat) * 1)) (((cl).drop (((pl + 1)).toNat)).length) (cc - (((pl + 1)).toNat))) (Ru.lsliceFrom (l := ((pl + 1)).toNat) Tryd.underlying29 el3 rfl rfl (by omega) (by omega)) (sl_congr (by first | rfl | (simp; done) | omega | (simp; omega)))) rfl) (b := ?_)
  refine aO [] [] 4 ?_
  refine cq 0 [] (b := scopyInts_fn _ _ _ w2a (rd_take1 (hRC.at hM2a)) q0) (c := ?_)
  rintro _ w2_4 ⟨A12_4, c12_4, rfl, hR2_4⟩
  have hM2_4 := hM2a.cl 0 hR2_4
  have hcr2_4_0 := (hM2_4.cap 0 rfl).1
  refine os 0 [] [1, 2, 3] ?_
  refine aO [] [] 10 ?_
  refine aM 0 [] 0 (rd_drop1 (k := ((pl + 1)).toNat) (c := cc) (hRC.at hM2_4) q2 q2) (fun w2_10 A2_10 c2_10 hc2_10 hM2_10 => ?_) (hn := by first | omega | (simp only [List.length_take, List.length_drop]; omega)) (hb := by first | omega | (simp only [List.length_take, List.length_drop]; omega))
  refine os 0 [] [1, 2, 3] ?_
  refine an [11] [] ?_
  refine Sb 5 [] 2 fun w3_3 hM3_3 => ?_
  refine EG 2 [] ?_
  refine PG (vs := [.agg #[.slice (A1_10) ((((kl).take (((pl - 1)).toNat)) ++ (kl).drop ((pl).toNat)).length) (c1_10), .slice (A2_10) ((((cl).take ((pl).toNat)) ++ (cl).drop (((pl + 1)).toNat)).length) (c2_10)]]) (ResV.cell (l := [.slice (A1_10) ((((kl).take (((pl - 1)).toNat)) ++ (kl).drop ((pl).toNat)).length) (c1_10), .slice (A2_10) ((((cl).take ((pl).toNat)) ++ (cl).drop (((pl + 1)).toNat)).length) (c2_10)]) rfl (mem_blk (i := 2) (j := 0) hM3_3 rfl rfl) el98 rfl ResV.nil) ?_
  have hq1 : (((kl).take (((pl - 1)).toNat)) ++ (kl).drop ((pl).toNat) : List Int) = (kl).take ((pl).toNat - 1) ++ (kl).drop (pl).toNat := (by rw [hpm])
  have hMn1 := hM3_3.reM 1 hq1
  have hq2 : (((cl).take ((pl).toNat)) ++ (cl).drop (((pl + 1)).toNat) : List Int) = (cl).take (pl).toNat ++ (cl).drop ((pl).toNat + 1) := (by rw [hpe])
  have hMn2 := hMn1.reM 0 hq2
  exact ⟨A1_10, c1_10, A2_10, c2_10, (by rw [hpe, hpm]; first | rfl | (simp; done)), (hMn2.pk [1, 0])⟩
theorem stoInt_fn (b : Bool) (w : World) :
    Does Tryd.prog 94 [.bool (b)] w (fun v w1 => v = I ((if b then 1 else 0)) ∧ Mem w w1 [] []) := by
  have hM : Mem w w [] [] := Mem.refl
  refine Does.n1 Tryd.func94 rfl Tryd.results94 Tryd.ntmps94 rfl ?_
  refine cb 9 [] (fun c3 => ?_) (fun c3 => ?_)
  · have hb : b = true := by simpa using c3
    refine E1 5 [] (I (1)) ?_
    exact ⟨(by first | (rw [hb]; rfl) | (subst hb; rfl) | (simp_all; done)), (Mem.none hM)⟩
  have hb : b = false := by simpa using c3
  refine E1 6 [] (I (0)) ?_
  exact ⟨(by first | (rw [hb]; rfl) | (subst hb; rfl) | (simp_all; done)), (Mem.none hM)⟩
set_option maxHeartbeats 4000000 in
theorem cutPage_fn (T : TreeL) (g : Int) (w : World) (hNT : TrN w T) (hs : SzT T) (hg : 0 ≤ g ∧ g < ((T).l.length : Int)) (hrb : 0 ≤ (T).root ∧ (T).root ≤ 1000) (hkb : ∀ p ∈ (T).l, ∀ x ∈ (p).c.l, 0 ≤ x ∧ x ≤ 1000) :
    Does Tryd.prog 93 [.agg #[I ((T).root), .slice ((T).A) ((T).l.length) ((T).cp)], I (g)] w (fun v w1 => ∃ (L1 : List PgL) (A1 : Option Addr) (c1 : Nat), v = .agg #[I (shI g (T).root), .slice (A1) ((L1).length) (c1)] ∧ ((⟨shI g (T).root, tsG L1⟩ : TrT) = cutF (T).t g) ∧ Mem w w1 [] [[⟨.slice (A1) ((L1).length) (c1), 39, 3, ((L1).length), (L1).flatMap encPg⟩], (L1).flatMap (pgF 3)]) := by
  have hM : Mem w w [] [] := Mem.refl
  refine Does.nG (rs := [.cell 4 25]) Tryd.func93 rfl Tryd.results93 Tryd.ntmps93 rfl ?_
  have hs1 := hs.1
  have hif0 : (0 : Int) ≤ (if decide ((T).root > g) = true then 1 else 0) ∧ (if decide ((T).root > g) = true then (1 : Int) else 0) ≤ 1 := by split <;> omega
  refine Bx 2 [] fun w0_0 b0_0 hb0_0 hM0_0 => ?_
  refine Al 0 [] fun w0_1 b0_1 hb0_1 hM0_1 => ?_
  refine ct3 1 [] (fun (bx5 : Nat) (P5_1 : Option Addr) (p5_1 : Nat) => ([(5, Vp (bl bx5) (0))] : List (Nat × SV))) (fun (bx5 : Nat) (P5_1 : Option Addr) (p5_1 : Nat) => True) (fun (bx5 : Nat) (P5_1 : Option Addr) (p5_1 : Nat) => [[⟨.slice (bl bx5) 1 1, 25, 2, 1, [I (shI g (T).root), .slice (P5_1) ((([] : List PgL)).length) (p5_1)]⟩], [⟨.slice (P5_1) ((([] : List PgL)).length) (p5_1), 39, 3, ((([] : List PgL)).length), (([] : List PgL)).flatMap encPg⟩], (([] : List PgL)).flatMap (pgF 3)]) [1, 2, 4] [0, 1] ?_ (fun bx5 P5_1 p5_1 σ w_r1 hI hM_r1 => ?_)
  · refine any 0 [] 12 [0, 1] fun w1a hM1a => ?_
    have hMk1 := Mem.gnil (e := 3) hM1a
    refine aH [0, 1, 2, 3, 4, 5] [1, 1] 6 8 10 ?_ ?_ ?_
    · refine cp 0 [] (b := stoInt_fn (decide ((T).root > g)) w1a ) (c := fun w1_6 hM1_6 => ?_)
      refine os 0 [] [1, 2] ?_
      refine av [] [] 7 (s := Vi (shI g (T).root)) (a := by exact fun w2 hw2 => cv (Ru.congr (v := I (((T).root - (if (decide ((T).root > g)) then 1 else 0)))) (v' := I (shI g (T).root)) (Ru.sub rfl rfl (by omega)) ((I_congr (by unfold shI; simp)))) rfl) (b := ?_)
      refine aT [] [] 8 10 ?_ ?_
      · refine Lt 0 [] (([]).flatMap encPg) (fun w1_8 b1_8 hb1_8 hM1_8 => ?_)
        refine os 0 [] [2, 3] ?_
        refine aO [9] [] 10 ?_
        refine Al 0 [] fun w1_10 b1_10 hb1_10 hM1_10 => ?_
        refine os 0 [] [3, 4] ?_
        refine aO [] [] 11 ?_
        refine Sb 0 [] 0 fun w1_11 hM1_11 => ?_
        refine os 0 [] [3, 4] ?_
        refine an [] [] ?_
        have hq2 : ([] : List PgL) = ([] : List PgL) := (by first | rfl | simp | (simp; omega))
        have hMn2 := hM1_11.reF 1 hq2 (f := encPg)
        exact ce3 0 [] b1_10 (bl b1_8) 0 [0, 1, 2, 3, 4] (h := by exact trivial)
      refine Al 0 [] fun w1_10 b1_10 hb1_10 hM1_10 => ?_
      refine os 0 [] [2, 3] ?_
      refine aO [] [] 8 ?_
      refine Lt 0 [] (([]).flatMap encPg) (fun w1_8 b1_8 hb1_8 hM1_8 => ?_)
      refine os 0 [] [3, 4] ?_
      refine aO [9] [] 11 ?_
      refine Sb 0 [] 1 fun w1_11 hM1_11 => ?_
      refine os 0 [] [3, 4] ?_
      refine an [] [] ?_
      have hq4 : ([] : List PgL) = ([] : List PgL) := (by first | rfl | simp | (simp; omega))
      have hMn4 := hM1_11.reF 0 hq4 (f := encPg)
      exact ce3 0 [] b1_10 (bl b1_8) 0 [1, 0, 2, 3, 4] (h := by exact trivial)
    · refine Lt 0 [] (([]).flatMap encPg) (fun w1_8 b1_8 hb1_8 hM1_8 => ?_)
      refine os 0 [] [2, 3] ?_
      refine aT [] [] 6 10 ?_ ?_
      · refine cp 0 [] (b := stoInt_fn (decide ((T).root > g)) w1_8 ) (c := fun w1_6 hM1_6 => ?_)
        refine os 0 [] [2, 3] ?_
        refine av [] [] 7 (s := Vi (shI g (T).root)) (a := by exact fun w2 hw2 => cv (Ru.congr (v := I (((T).root - (if (decide ((T).root > g)) then 1 else 0)))) (v' := I (shI g (T).root)) (Ru.sub rfl rfl (by omega)) ((I_congr (by unfold shI; simp)))) rfl) (b := ?_)
        refine aO [9] [] 10 ?_
        refine Al 0 [] fun w1_10 b1_10 hb1_10 hM1_10 => ?_
        refine os 0 [] [3, 4] ?_
        refine aO [] [] 11 ?_
        refine Sb 0 [] 0 fun w1_11 hM1_11 => ?_
        refine os 0 [] [3, 4] ?_
        refine an [] [] ?_
        have hq6 : ([] : List PgL) = ([] : List PgL) := (by first | rfl | simp | (simp; omega))
        have hMn6 := hM1_11.reF 1 hq6 (f := encPg)
        exact ce3 0 [] b1_10 (bl b1_8) 0 [0, 1, 2, 3, 4] (h := by exact trivial)
      refine Al 0 [] fun w1_10 b1_10 hb1_10 hM1_10 => ?_
      refine os 0 [] [3, 4] ?_
      refine aO [] [] 6 ?_
      refine cp 0 [] (b := stoInt_fn (decide ((T).root > g)) w1_10 ) (c := fun w1_6 hM1_6 => ?_)
      refine os 0 [] [3, 4] ?_
      refine av [] [] 7 (s := Vi (shI g (T).root)) (a := by exact fun w2 hw2 => cv (Ru.congr (v := I (((T).root - (if (decide ((T).root > g)) then 1 else 0)))) (v' := I (shI g (T).root)) (Ru.sub rfl rfl (by omega)) ((I_congr (by unfold shI; simp)))) rfl) (b := ?_)
      refine aO [9] [] 11 ?_
      refine Sb 0 [] 0 fun w1_11 hM1_11 => ?_
      refine os 0 [] [3, 4] ?_
      refine an [] [] ?_
      have hq8 : ([] : List PgL) = ([] : List PgL) := (by first | rfl | simp | (simp; omega))
      have hMn8 := hM1_11.reF 1 hq8 (f := encPg)
      exact ce3 0 [] b1_10 (bl b1_8) 0 [0, 1, 2, 3, 4] (h := by exact trivial)
    refine Al 0 [] fun w1_10 b1_10 hb1_10 hM1_10 => ?_
    refine os 0 [] [2, 3] ?_
    refine aT [] [] 6 8 ?_ ?_
    · refine cp 0 [] (b := stoInt_fn (decide ((T).root > g)) w1_10 ) (c := fun w1_6 hM1_6 => ?_)
      refine os 0 [] [2, 3] ?_
      refine av [] [] 7 (s := Vi (shI g (T).root)) (a := by exact fun w2 hw2 => cv (Ru.congr (v := I (((T).root - (if (decide ((T).root > g)) then 1 else 0)))) (v' := I (shI g (T).root)) (Ru.sub rfl rfl (by omega)) ((I_congr (by unfold shI; simp)))) rfl) (b := ?_)
      refine aO [] [] 8 ?_
      refine Lt 0 [] (([]).flatMap encPg) (fun w1_8 b1_8 hb1_8 hM1_8 => ?_)
      refine os 0 [] [3, 4] ?_
      refine aO [9] [] 11 ?_
      refine Sb 0 [] 1 fun w1_11 hM1_11 => ?_
      refine os 0 [] [3, 4] ?_
      refine an [] [] ?_
      have hq10 : ([] : List PgL) = ([] : List PgL) := (by first | rfl | simp | (simp; omega))
      have hMn10 := hM1_11.reF 0 hq10 (f := encPg)
      exact ce3 0 [] b1_10 (bl b1_8) 0 [1, 0, 2, 3, 4] (h := by exact trivial)
    refine Lt 0 [] (([]).flatMap encPg) (fun w1_8 b1_8 hb1_8 hM1_8 => ?_)
    refine os 0 [] [3, 4] ?_
    refine aO [] [] 6 ?_
    refine cp 0 [] (b := stoInt_fn (decide ((T).root > g)) w1_8 ) (c := fun w1_6 hM1_6 => ?_)
    refine os 0 [] [3, 4] ?_
    refine av [] [] 7 (s := Vi (shI g (T).root)) (a := by exact fun w2 hw2 => cv (Ru.congr (v := I (((T).root - (if (decide ((T).root > g)) then 1 else 0)))) (v' := I (shI g (T).root)) (Ru.sub rfl rfl (by omega)) ((I_congr (by unfold shI; simp)))) rfl) (b := ?_)
    refine aO [9] [] 11 ?_
    refine Sb 0 [] 1 fun w1_11 hM1_11 => ?_
    refine os 0 [] [3, 4] ?_
    refine an [] [] ?_
    have hq12 : ([] : List PgL) = ([] : List PgL) := (by first | rfl | simp | (simp; omega))
    have hMn12 := hM1_11.reF 0 hq12 (f := encPg)
    exact ce3 0 [] b1_10 (bl b1_8) 0 [1, 0, 2, 3, 4] (h := by exact trivial)
  have hcl1_r1 := (hM_r1.cap 1 rfl).1
  refine lp4 6 [] (fun (k : Nat) (Ch : List PgL) (A2 : Option Addr) (c2 : Nat) => ([(6, Vi (((k : Nat) : Int)))] : List (Nat × SV))) (fun (k : Nat) (Ch : List PgL) (A2 : Option Addr) (c2 : Nat) => (k ≤ (T).l.length) ∧ (tsG Ch = cutX (tsG (T).l) g k)) (fun (k : Nat) (Ch : List PgL) (A2 : Option Addr) (c2 : Nat) => [[⟨.slice (bl bx5) 1 1, 25, 2, 1, [I (shI g (T).root), .slice (A2) ((Ch).length) (c2)]⟩], [⟨.slice (A2) ((Ch).length) (c2), 39, 3, ((Ch).length), (Ch).flatMap encPg⟩], (Ch).flatMap (pgF 3)]) (fun (k : Nat) (Ch : List PgL) (A2 : Option Addr) (c2 : Nat) => (T).l.length - k) [1, 2, 4, 5] [0, 1, 2] [3, 4] 0 (([] : List PgL) : List PgL) P5_1 p5_1 (fun k Ch A2 c2 σ w_l3 hI hM_l3 => ?_) (h0 := ⟨(Nat.zero_le _), rfl⟩)
  obtain ⟨hi0_l3, hi1_l3⟩ := hI
  have hcl1_l3 := (hM_l3.cap 1 rfl).1
  have hCl : (Ch).length ≤ (T).l.length := by have h9 := congrArg List.length hi1_l3; have h8 := cutX_len (l := tsG (T).l) (g := g) (k := k); simp only [List.length_map] at h9 h8; omega
  refine cd 9 [4] (fun c23 => ?_) (fun c23 => ?_)
  · have hkx : k < (T).l.length := by omega
    have hszk := hs.at hkx
    refine cd 10 [] (fun c28 => ?_) (fun c28 => ?_)
    · have hke : (k : Int) = g := by omega
      refine ov 3 [] (a := kaddN (k + 1)) (b := ?_)
      exact le4 2 [] (k + 1) Ch A2 c2 [0, 1, 2, 3, 4] (h := by exact ⟨(by (try dsimp only); omega), (by (try dsimp only); first | (rw [cutX_eq (by simpa using hkx) hke, hi1_l3]; done) | (rw [tsg_app, hi1_l3, cutX_ne (by simpa using hkx) hg.1 hkn]; simp only [List.getElem_map]; rfl))⟩)
    have hkn : (k : Int) ≠ g := by omega
    have hx6_3 : k < ((T).l).length := (by first | omega | (simp; omega))
    refine ov 6 [4] (a := kixF hx6_3 (hNT.at hM_l3).1) (b := ?_)
    refine ov 0 [] (a := kldN hx6_3 (hNT.at hM_l3).1) (b := ?_)
    refine cq 0 [] (b := copyPage_fn (((T).l)[k]'hx6_3) w_l3 (((hNT.at hM_l3)).2.get hx6_3) (by exact hs.at hx6_3)) (c := ?_)
    rintro _ w6_5 ⟨A16_5, c16_5, A26_5, c26_5, A36_5, c36_5, rfl, hR6_5⟩
    have hM6_5 := hM_l3.cl 0 hR6_5
    have hcr6_5_0 := (hM6_5.cap 0 rfl).1
    have hcr6_5_1 := (hM6_5.cap 1 rfl).1
    have hcr6_5_2 := (hM6_5.cap 2 rfl).1
    refine Al 0 [] fun w6_6 b6_6 hb6_6 hM6_6 => ?_
    refine Sb 0 [] 0 fun w6_7 hM6_7 => ?_
    have hq16 : (((((T).l)[k]'hx6_3)).c.l : List Int) = (((((T).l[k]'hx6_3).c.l)).take 0).map (shI g) ++ ((((T).l[k]'hx6_3).c.l)).drop 0 := (by simp)
    have hMn16 := hM6_7.reM 2 hq16
    have hMn17 := hMn16.reB 0 1 (show (((((T).l)[k]'hx6_3)).c.l).length = ((((((T).l[k]'hx6_3).c.l)).take 0).map (shI g) ++ ((((T).l[k]'hx6_3).c.l)).drop 0).length from congrArg List.length hq16)
    refine lp3 7 [] (fun (k2 : Nat) (A3 : Option Addr) (c3 : Nat) => ([(8, Vi (((k2 : Nat) : Int)))] : List (Nat × SV))) (fun (k2 : Nat) (A3 : Option Addr) (c3 : Nat) => (k2 ≤ (((T).l[k]'hx6_3).c.l).length)) (fun (k2 : Nat) (A3 : Option Addr) (c3 : Nat) => [[⟨.slice (bl b6_6) 1 1, 39, 3, 1, [.slice (A16_5) ((((((T).l)[k]'hx6_3)).k.l).length) (c16_5), .slice (A3) (((((((T).l[k]'hx6_3).c.l)).take k2).map (shI g) ++ ((((T).l[k]'hx6_3).c.l)).drop k2).length) (c3), .slice (A36_5) ((((((T).l)[k]'hx6_3)).v.l).length) (c36_5)]⟩], [⟨.slice (A3) (((((((T).l[k]'hx6_3).c.l)).take k2).map (shI g) ++ ((((T).l[k]'hx6_3).c.l)).drop k2).length) (c3), 3, 1, (((((((T).l[k]'hx6_3).c.l)).take k2).map (shI g) ++ ((((T).l[k]'hx6_3).c.l)).drop k2).length), ((((((T).l[k]'hx6_3).c.l)).take k2).map (shI g) ++ ((((T).l[k]'hx6_3).c.l)).drop k2).map I⟩]]) (fun (k2 : Nat) (A3 : Option Addr) (c3 : Nat) => (((T).l[k]'hx6_3).c.l).length - k2) [1, 2, 4, 5, 6, 7] [0, 2] [1, 3, 4, 5, 6, 7, 8] 0 A26_5 c26_5 (fun k2 A3 c3 σ w_l8 hI hM_l8 => ?_) (h0 := (Nat.zero_le _))
    have hi0_l8 := hI
    have hcl1_l8 := (hM_l8.cap 1 rfl).1
    have hcl2_l8 := (hM_l8.cap 2 rfl).1
    have hcl3_l8 := (hM_l8.cap 3 rfl).1
    have hcl5_l8 := (hM_l8.cap 5 rfl).1
    have hml := mid_len (f := shI g) (l := ((T).l[k]'hx6_3).c.l) (k := k2)
    refine cd 9 [0] (fun c39 => ?_) (fun c39 => ?_)
    · have hk2 : k2 < (((T).l[k]'hx6_3).c.l).length := by omega
      obtain ⟨z9, hz9⟩ : ∃ z, z = (((T).l[k]'hx6_3).c.l)[k2]'hk2 := ⟨_, rfl⟩
      have hzb := hkb _ (List.getElem_mem hkx) z9 (by rw [hz9]; exact List.getElem_mem hk2)
      have hshv : z9 - (if decide (z9 > g) = true then 1 else 0) = shI g (((T).l[k]'hx6_3).c.l)[k2] := by rw [← hz9]; unfold shI; simp
      have hif : (0 : Int) ≤ (if decide (z9 > g) = true then 1 else 0) ∧ (if decide (z9 > g) = true then (1 : Int) else 0) ≤ 1 := by split <;> omega
      refine any 3 [] 19 [0, 2, 3, 4, 5, 6, 7, 8] fun w10a hM10a => ?_
      have hx10_6 : k2 < ((((((T).l[k]'hx6_3).c.l)).take k2).map (shI g) ++ ((((T).l[k]'hx6_3).c.l)).drop k2).length := (by omega)
      refine av [0, 1, 2, 3, 4, 5] [0, 0] 6 (a := by exact fun _ hw2 => kixM hx10_6 (hM10a.rd 1 rfl) (h0 := by omega)) (b := ?_)
      have hx10_11 : k2 < ((((((T).l[k]'hx6_3).c.l)).take k2).map (shI g) ++ ((((T).l[k]'hx6_3).c.l)).drop k2).length := (by omega)
      refine av [8, 9, 10] [0] 11 (a := by exact fun _ hw2 => kixM hx10_11 (hM10a.rd 1 rfl) (h0 := by omega)) (b := ?_)
      refine aT [13] [] 7 12 ?_ ?_
      · refine ov 0 [] (s := Vi (z9)) (a := by exact cv (Ru.congr (v := I (((((((T).l[k]'hx6_3).c.l)).take k2).map (shI g) ++ ((((T).l[k]'hx6_3).c.l)).drop k2)[k2]'hx10_6)) (v' := I (z9)) (Ru.load1 el3 rfl (ldm (hM10a.rd 1 rfl) hx10_6)) ((I_congr (by rw [hz9]; exact mid_get hk2 _)))) rfl) (b := ?_)
        refine os 0 [] [0, 2, 3, 4, 5, 6, 7, 8] ?_
        refine aO [] [] 12 ?_
        refine ov 0 [] (s := Vi (z9)) (a := by exact cv (Ru.congr (v := I (((((((T).l[k]'hx6_3).c.l)).take k2).map (shI g) ++ ((((T).l[k]'hx6_3).c.l)).drop k2)[k2]'hx10_11)) (v' := I (z9)) (Ru.load1 el3 rfl (ldm (hM10a.rd 1 rfl) hx10_11)) ((I_congr (by rw [hz9]; exact mid_get hk2 _)))) rfl) (b := ?_)
        refine os 0 [] [0, 2, 3, 4, 5, 6, 7, 8] ?_
        refine aO [14] [] 15 ?_
        refine cp 0 [] (b := stoInt_fn (decide (z9 > g)) w10a ) (c := fun w10_15 hM10_15 => ?_)
        refine os 0 [] [0, 2, 3, 4, 5, 6, 7, 8] ?_
        refine av [] [] 16 (a := by exact fun _ hw2 => ksub) (b := ?_)
        have hx10_17 : k2 < ((((((T).l[k]'hx6_3).c.l)).take k2).map (shI g) ++ ((((T).l[k]'hx6_3).c.l)).drop k2).length := (by omega)
        refine av [] [] 17 (a := by exact fun _ hw2 => kixM hx10_17 (hM10_15.rd 1 rfl) (h0 := by omega)) (b := ?_)
        refine aO [] [] 18 ?_
        refine sM 0 [] 1 hx10_17 fun w10_18 hM10_18 => ?_
        refine os 0 [] [0, 2, 3, 4, 5, 6, 7, 8] ?_
        refine an [] [] ?_
        refine ov 2 [] (a := kaddN (k2 + 1)) (b := ?_)
        have hq18 : (((((((T).l[k]'hx6_3).c.l)).take k2).map (shI g) ++ ((((T).l[k]'hx6_3).c.l)).drop k2).set (k2) (z9 - (if (decide (z9 > g)) then 1 else 0)) : List Int) = (((((T).l[k]'hx6_3).c.l)).take (k2 + 1)).map (shI g) ++ ((((T).l[k]'hx6_3).c.l)).drop (k2 + 1) := (by rw [hshv]; exact mid_set hk2)
        have hMn18 := hM10_18.reM 1 hq18
        have hMn19 := hMn18.reB 0 1 (show ((((((T).l[k]'hx6_3).c.l)).take k2).map (shI g) ++ ((((T).l[k]'hx6_3).c.l)).drop k2).length = ((((((T).l[k]'hx6_3).c.l)).take (k2 + 1)).map (shI g) ++ ((((T).l[k]'hx6_3).c.l)).drop (k2 + 1)).length from (by simp only [mid_len]))
        exact le3 2 [] (k2 + 1) A3 c3 [0, 1, 2, 3, 4, 5, 6, 7, 8] (h := by exact (by (try dsimp only); omega))
      refine ov 0 [] (s := Vi (z9)) (a := by exact cv (Ru.congr (v := I (((((((T).l[k]'hx6_3).c.l)).take k2).map (shI g) ++ ((((T).l[k]'hx6_3).c.l)).drop k2)[k2]'hx10_11)) (v' := I (z9)) (Ru.load1 el3 rfl (ldm (hM10a.rd 1 rfl) hx10_11)) ((I_congr (by rw [hz9]; exact mid_get hk2 _)))) rfl) (b := ?_)
      refine os 0 [] [0, 2, 3, 4, 5, 6, 7, 8] ?_
      refine aT [14] [] 7 15 ?_ ?_
      · refine ov 0 [] (s := Vi (z9)) (a := by exact cv (Ru.congr (v := I (((((((T).l[k]'hx6_3).c.l)).take k2).map (shI g) ++ ((((T).l[k]'hx6_3).c.l)).drop k2)[k2]'hx10_6)) (v' := I (z9)) (Ru.load1 el3 rfl (ldm (hM10a.rd 1 rfl) hx10_6)) ((I_congr (by rw [hz9]; exact mid_get hk2 _)))) rfl) (b := ?_)
        refine os 0 [] [0, 2, 3, 4, 5, 6, 7, 8] ?_
        refine aO [] [] 15 ?_
        refine cp 0 [] (b := stoInt_fn (decide (z9 > g)) w10a ) (c := fun w10_15 hM10_15 => ?_)
        refine os 0 [] [0, 2, 3, 4, 5, 6, 7, 8] ?_
        refine av [] [] 16 (a := by exact fun _ hw2 => ksub) (b := ?_)
        have hx10_17 : k2 < ((((((T).l[k]'hx6_3).c.l)).take k2).map (shI g) ++ ((((T).l[k]'hx6_3).c.l)).drop k2).length := (by omega)
        refine av [] [] 17 (a := by exact fun _ hw2 => kixM hx10_17 (hM10_15.rd 1 rfl) (h0 := by omega)) (b := ?_)
        refine aO [] [] 18 ?_
        refine sM 0 [] 1 hx10_17 fun w10_18 hM10_18 => ?_
        refine os 0 [] [0, 2, 3, 4, 5, 6, 7, 8] ?_
        refine an [] [] ?_
        refine ov 2 [] (a := kaddN (k2 + 1)) (b := ?_)
        have hq20 : (((((((T).l[k]'hx6_3).c.l)).take k2).map (shI g) ++ ((((T).l[k]'hx6_3).c.l)).drop k2).set (k2) (z9 - (if (decide (z9 > g)) then 1 else 0)) : List Int) = (((((T).l[k]'hx6_3).c.l)).take (k2 + 1)).map (shI g) ++ ((((T).l[k]'hx6_3).c.l)).drop (k2 + 1) := (by rw [hshv]; exact mid_set hk2)
        have hMn20 := hM10_18.reM 1 hq20
        have hMn21 := hMn20.reB 0 1 (show ((((((T).l[k]'hx6_3).c.l)).take k2).map (shI g) ++ ((((T).l[k]'hx6_3).c.l)).drop k2).length = ((((((T).l[k]'hx6_3).c.l)).take (k2 + 1)).map (shI g) ++ ((((T).l[k]'hx6_3).c.l)).drop (k2 + 1)).length from (by simp only [mid_len]))
        exact le3 2 [] (k2 + 1) A3 c3 [0, 1, 2, 3, 4, 5, 6, 7, 8] (h := by exact (by (try dsimp only); omega))
      refine cp 0 [] (b := stoInt_fn (decide (z9 > g)) w10a ) (c := fun w10_15 hM10_15 => ?_)
      refine os 0 [] [0, 2, 3, 4, 5, 6, 7, 8] ?_
      refine aO [] [] 7 ?_
      refine ov 0 [] (s := Vi (z9)) (a := by exact cv (Ru.congr (v := I (((((((T).l[k]'hx6_3).c.l)).take k2).map (shI g) ++ ((((T).l[k]'hx6_3).c.l)).drop k2)[k2]'hx10_6)) (v' := I (z9)) (Ru.load1 el3 rfl (ldm (hM10_15.rd 1 rfl) hx10_6)) ((I_congr (by rw [hz9]; exact mid_get hk2 _)))) rfl) (b := ?_)
      refine os 0 [] [0, 2, 3, 4, 5, 6, 7, 8] ?_
      refine av [] [] 16 (a := by exact fun _ hw2 => ksub) (b := ?_)
      have hx10_17 : k2 < ((((((T).l[k]'hx6_3).c.l)).take k2).map (shI g) ++ ((((T).l[k]'hx6_3).c.l)).drop k2).length := (by omega)
      refine av [] [] 17 (a := by exact fun _ hw2 => kixM hx10_17 (hM10_15.rd 1 rfl) (h0 := by omega)) (b := ?_)
      refine aO [] [] 18 ?_
      refine sM 0 [] 1 hx10_17 fun w10_18 hM10_18 => ?_
      refine os 0 [] [0, 2, 3, 4, 5, 6, 7, 8] ?_
      refine an [] [] ?_
      refine ov 2 [] (a := kaddN (k2 + 1)) (b := ?_)
      have hq22 : (((((((T).l[k]'hx6_3).c.l)).take k2).map (shI g) ++ ((((T).l[k]'hx6_3).c.l)).drop k2).set (k2) (z9 - (if (decide (z9 > g)) then 1 else 0)) : List Int) = (((((T).l[k]'hx6_3).c.l)).take (k2 + 1)).map (shI g) ++ ((((T).l[k]'hx6_3).c.l)).drop (k2 + 1) := (by rw [hshv]; exact mid_set hk2)
      have hMn22 := hM10_18.reM 1 hq22
      have hMn23 := hMn22.reB 0 1 (show ((((((T).l[k]'hx6_3).c.l)).take k2).map (shI g) ++ ((((T).l[k]'hx6_3).c.l)).drop k2).length = ((((((T).l[k]'hx6_3).c.l)).take (k2 + 1)).map (shI g) ++ ((((T).l[k]'hx6_3).c.l)).drop (k2 + 1)).length from (by simp only [mid_len]))
      exact le3 2 [] (k2 + 1) A3 c3 [0, 1, 2, 3, 4, 5, 6, 7, 8] (h := by exact (by (try dsimp only); omega))
    have hq24 : ((((((T).l[k]'hx6_3).c.l)).take k2).map (shI g) ++ ((((T).l[k]'hx6_3).c.l)).drop k2 : List Int) = ((((T).l[k]'hx6_3).c.l)).map (shI g) := (mid_all (by omega))
    have hMn24 := hM_l8.reM 1 hq24
    have hMn25 := hMn24.reB 0 1 (show ((((((T).l[k]'hx6_3).c.l)).take k2).map (shI g) ++ ((((T).l[k]'hx6_3).c.l)).drop k2).length = (((((T).l[k]'hx6_3).c.l)).map (shI g)).length from congrArg List.length hq24)
    let p1_ : PgL := (⟨⟨A16_5, c16_5, ((((T).l)[k]'hx6_3)).k.l⟩, ⟨A3, c3, ((((T).l[k]'hx6_3).c.l)).map (shI g)⟩, ⟨A36_5, c36_5, ((((T).l)[k]'hx6_3)).v.l⟩⟩ : PgL)
    refine Lt 5 [4, 0] (([p1_]).flatMap encPg) (fun w11_3 b11_3 hb11_3 hM11_3 => ?_)
    refine aF 0 [] 6 (hM11_3.rd 0 rfl) (fun w11_4 A11_4 c11_4 hc11_4 hM11_4 => ?_)
    refine Sb 1 [] 5 fun w11_6 hM11_6 => ?_
    have hMk26 := Mem.gapp (k := ⟨A16_5, c16_5, ((((T).l)[k]'hx6_3)).k.l⟩) (c := ⟨A3, c3, ((((T).l[k]'hx6_3).c.l)).map (shI g)⟩) (v := ⟨A36_5, c36_5, ((((T).l)[k]'hx6_3)).v.l⟩) (hM11_6.pk [7, 3, 2, 4, 0, 1, 5, 6, 8, 9])
    refine ov 3 [] (a := kaddN (k + 1)) (b := ?_)
    have hq27 : (Ch ++ [p1_] : List PgL) = (Ch ++ [p1_]) := (by first | rfl | simp | (simp; omega))
    have hMn27 := hMk26.reF 4 hq27
    exact le4 2 [] (k + 1) (Ch ++ [p1_]) A11_4 c11_4 [3, 4, 0, 5, 6] (h := by exact ⟨(by (try dsimp only); omega), (by (try dsimp only); first | (rw [cutX_eq (by simpa using hkx) hke, hi1_l3]; done) | (rw [tsg_app, hi1_l3, cutX_ne (by simpa using hkx) hg.1 hkn]; simp only [List.getElem_map]; rfl))⟩)
  refine Sb 4 [0] 3 fun w12_1 hM12_1 => ?_
  refine EG 2 [] ?_
  refine PG (vs := [.agg #[I (shI g (T).root), .slice (A2) ((Ch).length) (c2)]]) (ResV.cell (l := [I (shI g (T).root), .slice (A2) ((Ch).length) (c2)]) rfl (mem_blk (i := 3) (j := 0) hM12_1 rfl rfl) el25 rfl ResV.nil) ?_
  exact ⟨Ch, A2, c2, (by first | rfl | exact sl_congr (by first | omega | (simp; done) | (simp; omega)) | (simp; done)), (cutX_all (T := (T).t) (k := k) (by rw [pages_len]; omega) rfl hi1_l3), (hM12_1.pk [1, 2])⟩
end Go.Proofs.YtemejgglbhjodaaDoor
end
