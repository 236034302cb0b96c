/- Own layer, part 7: plain theorems on the walk of this program's functions and on what they compute; no conditions. -/
import Derived.Test.YtemejgglbhjodaaGreatDoorP5
set_option linter.unusedVariables false
set_option linter.unusedSimpArgs false
namespace Go.Proofs.YtemejgglbhjodaaGreatDoor
open Go.Px
set_option maxHeartbeats 8000000 in
theorem aCi (T : bN) (up : Int) (pl : Int) (f : Nat) (a9 : Int) (b9 : Int) (w : World) (hNT : TrN w T) (hs : SzT T) (hfp : f = (pl - 1).toNat) (hpb : -1 <= pl /\ pl <= 1000) (hmd : MD T.t up f a9 b9) (hcp9 : ∀ (j : Nat) (h : j < T.l.length), T.l[j].k.l.length <= T.l[j].k.cp /\ T.l[j].c.l.length <= T.l[j].c.cp) :
  aR Tryz.prog 201 [.agg #[I T.root, .slice T.A T.l.length T.cp], I up, I pl] w (λ v w1 => ∃ (L1 : List PgL) (A1 : Option Addr) (c1 : Nat), v = .tuple #[.agg #[I T.root, .slice A1 L1.length c1], I (eE T.t up f).2] /\ ((⟨T.root, tsG L1⟩ : TrT) = (eE T.t up f).1) /\ Mem w w1 [] [oG A1 c1 L1, L1.flatMap (pgF 3)]) := by
 have hM : Mem w w [] [] := Mem.refl
 refine aR.nG (rs := [.cell 6 25, .tmp 7]) Tryz.func201 rfl Tryz.results201 Tryz.ntmps201 rfl ?_
 have hi_up := aX.1 hmd.iu
 rw [cP] at hi_up
 have hju : up.toNat < T.l.length := by omega
 have hg_up : gP T.t up = (T.l[up.toNat]'hju).t := jH rfl hju
 have hz_up := iP hmd.sm hmd.iu
 rw [hg_up] at hz_up
 have hk_up : (T.l[up.toNat]'hju).k.l.length <= 5 := hz_up.1
 have hc_up : (T.l[up.toNat]'hju).c.l.length <= 6 := hz_up.2.1
 have hi_a9 := aX.1 hmd.ia
 rw [cP] at hi_a9
 have hja : a9.toNat < T.l.length := by omega
 have hg_a9 : gP T.t a9 = (T.l[a9.toNat]'hja).t := jH rfl hja
 have hz_a9 := iP hmd.sm hmd.ia
 rw [hg_a9] at hz_a9
 have hk_a9 : (T.l[a9.toNat]'hja).k.l.length <= 5 := hz_a9.1
 have hc_a9 : (T.l[a9.toNat]'hja).c.l.length <= 6 := hz_a9.2.1
 have hi_b9 := aX.1 hmd.ib
 rw [cP] at hi_b9
 have hjb : b9.toNat < T.l.length := by omega
 have hg_b9 : gP T.t b9 = (T.l[b9.toNat]'hjb).t := jH rfl hjb
 have hz_b9 := iP hmd.sm hmd.ib
 rw [hg_b9] at hz_b9
 have hk_b9 : (T.l[b9.toNat]'hjb).k.l.length <= 5 := hz_b9.1
 have hc_b9 : (T.l[b9.toNat]'hjb).c.l.length <= 6 := hz_b9.2.1
 have hkl := hmd.kl
 have hf1 := hmd.f1
 have hea := hmd.ea
 have heb := hmd.eb
 rw [hg_up] at hkl hf1 hea heb
 have hkl : (T.l[up.toNat]'hju).c.l.length = (T.l[up.toNat]'hju).k.l.length + 1 := hkl
 have hf1 : f + 1 <= (T.l[up.toNat]'hju).k.l.length := hf1
 have hea : (T.l[up.toNat]'hju).c.l.getD f 0 = a9 := hea
 have heb : (T.l[up.toNat]'hju).c.l.getD (f + 1) 0 = b9 := heb
 have hfe : ((f + 1 : Nat) : Int).toNat = f + 1 := rfl
 have hcpu := hcp9 _ hju
 refine Bx 2 [] λ G6 P0 O5 i5 => ?_
 refine Al 0 [] λ P4 Q0 P5 Z2 => ?_
 refine cq 5 [1] (b := pP T P4 (hNT.at Z2) q0) (c := ?_)
 rintro _ T6 ⟨a0, k0, l0, rfl, K0, E4⟩
 have f4 := Z2.cl 0 E4
 have l6 := (f4.cap 0 rfl).1
 have hLl := nM K0
 refine Al 0 [] λ U6 R0 S5 o5 => ?_
 refine Sb 0 [] 0 λ V4 o0 => ?_
 refine ov 4 [] (a := eV) (b := ?_)
 refine ov 0 [] (s := Vi ((f : Nat) : Int)) (a := by exact cv (Ru.congr (Ru.bmax rfl rfl) (I_congr (by rw [hfp]; omega))) rfl) (b := ?_)
 have Y0 : up.toNat < T.l.length := t1
 refine ov 7 [4] (a := cJ Y0 (hNT.at o0).1 (h0 := t1)) (b := ?_)
 refine ov 0 [] (a := fZ Y0 (hNT.at o0).1) (b := ?_)
 refine ov 0 [] (a := gF Y0 (hNT.at o0).1) (b := ?_)
 have j2 : f < (T.l[up.toNat]'Y0).c.l.length := t1
 refine ov 1 [] (a := cG j2 ((hNT.at o0).2.get Y0).2.1 (h0 := t1)) (b := ?_)
 refine ov 0 [] (s := Vi a9) (a := by exact cv (Ru.congr (Ru.load1 el3 rfl (ldm ((hNT.at o0).2.get Y0).2.1 j2)) (I_congr ((bF j2).symm.trans hea))) rfl) (b := ?_)
 have Z0 : up.toNat < T.l.length := t1
 refine ov 7 [4] (a := cJ Z0 (hNT.at o0).1 (h0 := t1)) (b := ?_)
 refine ov 0 [] (a := fZ Z0 (hNT.at o0).1) (b := ?_)
 refine ov 0 [] (a := gF Z0 (hNT.at o0).1) (b := ?_)
 refine ov 1 [] (a := bL (f + 1)) (b := ?_)
 have k2 : (f + 1) < (T.l[up.toNat]'Z0).c.l.length := t1
 refine ov 0 [] (a := cG k2 ((hNT.at o0).2.get Z0).2.1 (h0 := t1)) (b := ?_)
 refine ov 0 [] (s := Vi b9) (a := by exact cv (Ru.congr (Ru.load1 el3 rfl (ldm ((hNT.at o0).2.get Z0).2.1 k2)) (I_congr ((bF k2).symm.trans heb))) rfl) (b := ?_)
 have l2 : a9.toNat < T.l.length := t1
 refine ov 8 [4] (a := cJ l2 (hNT.at o0).1 (h0 := t1)) (b := ?_)
 refine ov 0 [] (a := fZ l2 (hNT.at o0).1) (b := ?_)
 refine ov 0 [] (a := gF l2 (hNT.at o0).1) (b := ?_)
 refine cd 3 [] (λ c52 => ?_) (λ c52 => ?_)
 have hk0 : (gP T.t a9).kids = [] := by rw [hg_a9]; exact aP (by show (T.l[a9.toNat]'hja).c.l.length = 0; omega)
 have hlf := hmd.lf hk0
 rw [hg_a9, hg_b9] at hlf
 have hlfA : (T.l[a9.toNat]'hja).v.l.length = (T.l[a9.toNat]'hja).k.l.length := hlf.1
 have hlfB : (T.l[b9.toNat]'hjb).v.l.length = (T.l[b9.toNat]'hjb).k.l.length := hlf.2
 let rw9 : List PairT := aV (T.l[a9.toNat]'hja).t ++ aV (T.l[b9.toNat]'hjb).t
 have hrw : rw9 = aV (T.l[a9.toNat]'hja).t ++ aV (T.l[b9.toNat]'hjb).t := rfl
 have hrl : rw9.length = (T.l[a9.toNat]'hja).k.l.length + (T.l[b9.toNat]'hjb).k.l.length := by rw [hrw, aA, dF, dF]
 refine ct2 0 [] (λ (A5 : Option Addr) (c5 : Nat) => ([(12, Vl A5 rw9.length c5)] : List (Nat × SV))) (λ A5 c5 => True) (λ A5 c5 => [oP A5 c5 rw9]) [1, 3, 6, 8, 9, 10, 11] [0, 1, 2, 3, 4] ?_ (λ A5 c5 σ q7 hI n3 => ?_)
 refine any 0 [] 14 [0, 1, 2, 3, 4] λ s2 s0 => ?_
 have z0 : a9.toNat < T.l.length := t1
 refine av [0, 1, 2] [4] 3 (a := by exact λ _ hw2 => cJ z0 (hNT.at s0).1 (h0 := t1)) (b := ?_)
 have x0 : b9.toNat < T.l.length := t1
 refine av [6, 7, 8] [4] 9 (a := by exact λ _ hw2 => cJ x0 (hNT.at s0).1 (h0 := t1)) (b := ?_)
 refine aT [] [] 4 10 ?_ ?_
 refine ov 0 [] (a := gL z0 (hNT.at s0).1) (b := ?_)
 refine os 0 [] [0, 1, 2, 3, 4] ?_
 refine aT [] [] 5 10 ?_ ?_
 refine cq 0 [] (b := jJ (T.l[a9.toNat]'z0) s2 ((hNT.at s0).2.get z0) qo (by exact hlfA)) (c := ?_)
 rintro _ q1 ⟨B2, Q2, rfl, p1⟩
 have r0 := s0.cl 0 p1
 have s3 := (r0.cap 0 rfl).1
 refine os 0 [] [1, 2, 3, 4, 5] ?_
 refine aO [] [] 10 ?_
 refine ov 0 [] (a := gL x0 (hNT.at r0).1) (b := ?_)
 refine os 0 [] [1, 2, 3, 4, 5] ?_
 refine aO [] [] 11 ?_
 refine cq 0 [] (b := jJ (T.l[b9.toNat]'x0) q1 ((hNT.at r0).2.get x0) qo (by exact hlfB)) (c := ?_)
 rintro _ Y3 ⟨A2, P2, rfl, o1⟩
 have C0 := r0.cl 0 o1
 have r3 := (C0.cap 0 rfl).1
 refine os 0 [] [2, 3, 4, 5, 6] ?_
 refine aO [] [] 12 ?_
 refine aF 0 [] 1 (C0.rd 0 rfl) (λ Z3 b1 g1 q3 l1 => ?_) (hn := by first | omega | (simp only [aA, dF]; omega)) (hb := by first | omega | (simp only [aA, dF]; omega))
 refine os 0 [] [2, 3, 4, 5, 6] ?_
 refine an [13] [] ?_
 have z5 := l1.rF 1 (rw9 : List PairT) (e := hrw.symm)
 exact ce2 0 [] b1 g1 [1, 2, 3, 4, 5, 6] (h := t12)
 refine ov 0 [] (a := gL x0 (hNT.at s0).1) (b := ?_)
 refine os 0 [] [0, 1, 2, 3, 4] ?_
 refine aO [] [] 5 ?_
 refine cq 0 [] (b := jJ (T.l[a9.toNat]'z0) s2 ((hNT.at s0).2.get z0) qo (by exact hlfA)) (c := ?_)
 rintro _ q1 ⟨B2, Q2, rfl, p1⟩
 have r0 := s0.cl 0 p1
 have s3 := (r0.cap 0 rfl).1
 refine os 0 [] [1, 2, 3, 4, 5] ?_
 refine aO [] [] 11 ?_
 refine cq 0 [] (b := jJ (T.l[b9.toNat]'x0) q1 ((hNT.at r0).2.get x0) qo (by exact hlfB)) (c := ?_)
 rintro _ Y3 ⟨A2, P2, rfl, o1⟩
 have C0 := r0.cl 0 o1
 have r3 := (C0.cap 0 rfl).1
 refine os 0 [] [2, 3, 4, 5, 6] ?_
 refine aO [] [] 12 ?_
 refine aF 0 [] 1 (C0.rd 0 rfl) (λ Z3 b1 g1 q3 l1 => ?_) (hn := by first | omega | (simp only [aA, dF]; omega)) (hb := by first | omega | (simp only [aA, dF]; omega))
 refine os 0 [] [2, 3, 4, 5, 6] ?_
 refine an [13] [] ?_
 have F5 := l1.rF 1 (rw9 : List PairT) (e := hrw.symm)
 exact ce2 0 [] b1 g1 [1, 2, 3, 4, 5, 6] (h := t12)
 refine ov 0 [] (a := gL x0 (hNT.at s0).1) (b := ?_)
 refine os 0 [] [0, 1, 2, 3, 4] ?_
 refine aO [] [] 4 ?_
 refine ov 0 [] (a := gL z0 (hNT.at s0).1) (b := ?_)
 refine os 0 [] [0, 1, 2, 3, 4] ?_
 refine aO [] [] 5 ?_
 refine cq 0 [] (b := jJ (T.l[a9.toNat]'z0) s2 ((hNT.at s0).2.get z0) qo (by exact hlfA)) (c := ?_)
 rintro _ q1 ⟨B2, Q2, rfl, p1⟩
 have r0 := s0.cl 0 p1
 have s3 := (r0.cap 0 rfl).1
 refine os 0 [] [1, 2, 3, 4, 5] ?_
 refine aO [] [] 11 ?_
 refine cq 0 [] (b := jJ (T.l[b9.toNat]'x0) q1 ((hNT.at r0).2.get x0) qo (by exact hlfB)) (c := ?_)
 rintro _ Y3 ⟨A2, P2, rfl, o1⟩
 have C0 := r0.cl 0 o1
 have r3 := (C0.cap 0 rfl).1
 refine os 0 [] [2, 3, 4, 5, 6] ?_
 refine aO [] [] 12 ?_
 refine aF 0 [] 1 (C0.rd 0 rfl) (λ Z3 b1 g1 q3 l1 => ?_) (hn := by first | omega | (simp only [aA, dF]; omega)) (hb := by first | omega | (simp only [aA, dF]; omega))
 refine os 0 [] [2, 3, 4, 5, 6] ?_
 refine an [13] [] ?_
 have K5 := l1.rF 1 (rw9 : List PairT) (e := hrw.symm)
 exact ce2 0 [] b1 g1 [1, 2, 3, 4, 5, 6] (h := t12)
 have W5 := (n3.cap 0 rfl).1
 have Z5 := (n3.cap 2 rfl).1
 refine cd 7 [] (λ c68 => ?_) (λ c68 => ?_)
 refine any 1 [] 7 [0, 1, 3, 4, 5] λ d5 k3 => ?_
 refine aO [0, 1, 2, 3] [1] 4 ?_
 refine cq 0 [] (b := kJ _ _ _ d5 (k3.rd 0 rfl) qo qo) (c := ?_)
 rintro _ l7 ⟨C2, R2, G2, V2, J2, Y2, rfl, L4⟩
 have v1 := k3.cl 0 L4
 have x6 := (v1.cap 0 rfl).1
 have y6 := (v1.cap 1 rfl).1
 have z6 := (v1.cap 2 rfl).1
 refine os 0 [] [3, 4, 6, 7, 8] ?_
 have C3 : a9.toNat < a0.length := t14
 refine av [] [] 5 (a := by exact λ _ hw2 => cJ C3 (v1.rd 5 rfl) (h0 := t1)) (b := ?_)
 refine aO [] [] 6 ?_
 let A0 : PgL := (⟨⟨C2, R2, bG rw9⟩, ⟨G2, V2, ([] : List Int)⟩, ⟨J2, Y2, rw9.map PairT.val⟩⟩ : PgL)
 refine sF 0 [] 5 A0 C3 λ m7 l4 => ?_
 refine os 0 [] [3, 4, 6, 7, 8] ?_
 refine an [] [] ?_
 have y5 := Mem.gset (k := ⟨C2, R2, bG rw9⟩) (c := ⟨G2, V2, ([] : List Int)⟩) (v := ⟨J2, Y2, rw9.map PairT.val⟩) a9.toNat (l4.pk [6, 0, 1, 2, 3, 4, 5, 7, 8])
 refine any 1 [] 15 [0, 1, 2, 4, 5] λ g5 b2 => ?_
 have n0 : up.toNat < T.l.length := t1
 refine av [0, 1, 2, 3, 4, 5] [2, 4] 6 (a := by exact λ _ hw2 => cJ n0 (hNT.at b2).1 (h0 := t1)) (b := ?_)
 refine av [9] [] 10 (a := by exact λ _ hw2 => bL (f + 1)) (b := ?_)
 refine aO [] [] 7 ?_
 refine ov 0 [] (a := gL n0 (hNT.at b2).1) (b := ?_)
 refine os 0 [] [0, 1, 2, 4, 5] ?_
 refine aO [] [] 8 ?_
 refine cp 0 [] (b := fO (T.l[up.toNat]'n0) g5 ((hNT.at b2).2.get n0)) (c := λ f5 a2 => ?_)
 refine os 0 [] [0, 1, 2, 4, 5] ?_
 refine aO [] [] 11 ?_
 refine cq 0 [] (b := aAh (T.l[up.toNat]'n0).k.A (T.l[up.toNat]'n0).k.cp (T.l[up.toNat]'n0).k.l (T.l[up.toNat]'n0).c.A (T.l[up.toNat]'n0).c.cp (T.l[up.toNat]'n0).c.l _ f5 ((hNT.at a2).2.get n0).1 ((hNT.at a2).2.get n0).2.1 (by exact hcpu) (by constructor <;> omega) qo qo) (c := ?_)
 rintro _ e5 ⟨D1, P1, F1, R1, rfl, M4⟩
 have m1 := a2.cl 0 M4
 have B6 := (m1.cap 0 rfl).1
 have C6 := (m1.cap 1 rfl).1
 refine os 0 [] [2, 3, 4, 6, 7] ?_
 refine aO [] [] 12 ?_
 refine cq 0 [] (b := eD D1 P1 ((T.l[up.toNat]'n0).k.l.take ((((f + 1) : Nat) : Int).toNat - 1) ++ (T.l[up.toNat]'n0).k.l.drop (((f + 1) : Nat) : Int).toNat) F1 R1 ((T.l[up.toNat]'n0).c.l.take (((f + 1) : Nat) : Int).toNat ++ (T.l[up.toNat]'n0).c.l.drop ((((f + 1) : Nat) : Int).toNat + 1)) e5 (m1.rd 0 rfl) (m1.rd 1 rfl)) (c := ?_)
 rintro _ n7 ⟨D2, S2, rfl, N4⟩
 have l3 := m1.cl 0 N4
 have D6 := (l3.cap 0 rfl).1
 refine os 0 [] [3, 4, 5, 7, 8] ?_
 have D3 : up.toNat < (a0.set a9.toNat A0).length := t14
 refine av [] [] 13 (a := by exact λ _ hw2 => cJ D3 (l3.rd 6 rfl) (h0 := t1)) (b := ?_)
 refine aO [] [] 14 ?_
 let E0 : PgL := (⟨⟨D1, P1, (T.l[up.toNat]'n0).k.l.take ((((f + 1) : Nat) : Int).toNat - 1) ++ (T.l[up.toNat]'n0).k.l.drop (((f + 1) : Nat) : Int).toNat⟩, ⟨F1, R1, (T.l[up.toNat]'n0).c.l.take (((f + 1) : Nat) : Int).toNat ++ (T.l[up.toNat]'n0).c.l.drop ((((f + 1) : Nat) : Int).toNat + 1)⟩, ⟨D2, S2, ([] : List Int)⟩⟩ : PgL)
 refine sF 0 [] 6 E0 D3 λ o7 m4 => ?_
 refine os 0 [] [3, 4, 5, 7, 8] ?_
 refine an [] [] ?_
 have q4 := Mem.gset (k := ⟨D1, P1, (T.l[up.toNat]'n0).k.l.take ((((f + 1) : Nat) : Int).toNat - 1) ++ (T.l[up.toNat]'n0).k.l.drop (((f + 1) : Nat) : Int).toNat⟩) (c := ⟨F1, R1, (T.l[up.toNat]'n0).c.l.take (((f + 1) : Nat) : Int).toNat ++ (T.l[up.toNat]'n0).c.l.drop ((((f + 1) : Nat) : Int).toNat + 1)⟩) (v := ⟨D2, S2, ([] : List Int)⟩) up.toNat (m4.pk [3, 1, 2, 0, 4, 5, 6, 7, 8])
 have A4 := q4.rF 3 ((a0.set a9.toNat A0).set up.toNat E0 : List PgL) (e := rfl)
 have N5 := A4.reB 2 1 (show a0.length = ((a0.set a9.toNat A0).set up.toNat E0).length from t2)
 refine Sb 4 [2] 4 λ H6 a3 => ?_
 refine EG 3 [] ?_
 refine PG (vs := [.agg #[I T.root, .slice k0 ((a0.set a9.toNat A0).set up.toNat E0).length l0], I b9]) (bX.cell (l := [I T.root, .slice k0 ((a0.set a9.toNat A0).set up.toNat E0).length l0]) rfl (cA (i := 4) (j := 0) a3 rfl rfl) kH rfl (bX.tmp rfl bX.nil)) ?_
 have hfin := aHr hmd hk0 (by rw [hg_a9, hg_b9, <- hrw]; omega) (L := tsG ((a0.set a9.toNat A0).set up.toNat E0)) (by rw [cV, cV, K0, hg_a9, hg_b9, hg_up]; rfl)
 have B4 := a3.rF 3 (((a0.set a9.toNat A0).set up.toNat E0) : List PgL) (e := t2)
 exact ⟨(a0.set a9.toNat A0).set up.toNat E0, k0, l0, (by rw [hfin.2]; rfl), hfin.1, (B4.pk [3, 0])⟩
 refine ov 5 [] (a := bL (rw9.length + 1)) (b := ?_)
 refine ov 0 [] (a := aAr ((rw9.length + 1) / 2)) (b := ?_)
 refine any 3 [] 9 [0, 1, 3, 4, 5] λ Q4 S1 => ?_
 have d6 := S1.cap 0 rfl
 refine av [0, 1, 2, 3, 4] [1] 5 (s := Vl A5 (rw9.take ((rw9.length + 1) / 2)).length c5) (a := by exact λ w2 hw2 => cv (Ru.congr (Ru.lsliceTo (h := ((rw9.length + 1) / 2)) Tryz.underlying43 jA rfl rfl t1 t1) (sl_congr t6)) rfl) (b := ?_)
 refine aO [] [] 6 ?_
 refine cq 0 [] (b := kJ _ _ _ Q4 (nK dI (S1.rd 0 rfl)) (by first | omega | (simp only [aB]; omega)) (by first | omega | (simp only [aB]; omega))) (c := ?_)
 rintro _ I6 ⟨u2, K2, E2, T2, H2, W2, rfl, C4⟩
 have r1 := S1.cl 0 C4
 have f6 := (r1.cap 0 rfl).1
 have g6 := (r1.cap 1 rfl).1
 have h6 := (r1.cap 2 rfl).1
 refine os 0 [] [3, 4, 6, 7, 8] ?_
 have w3 : a9.toNat < a0.length := t14
 refine av [] [] 7 (a := by exact λ _ hw2 => cJ w3 (r1.rd 5 rfl) (h0 := t1)) (b := ?_)
 refine aO [] [] 8 ?_
 let c0 : PgL := (⟨⟨u2, K2, bG (rw9.take ((rw9.length + 1) / 2))⟩, ⟨E2, T2, ([] : List Int)⟩, ⟨H2, W2, (rw9.take ((rw9.length + 1) / 2)).map PairT.val⟩⟩ : PgL)
 refine sF 0 [] 5 c0 w3 λ J6 c4 => ?_
 refine os 0 [] [3, 4, 6, 7, 8] ?_
 refine an [] [] ?_
 have u5 := Mem.gset (k := ⟨u2, K2, bG (rw9.take ((rw9.length + 1) / 2))⟩) (c := ⟨E2, T2, ([] : List Int)⟩) (v := ⟨H2, W2, (rw9.take ((rw9.length + 1) / 2)).map PairT.val⟩) a9.toNat (c4.pk [6, 0, 1, 2, 3, 4, 5, 7, 8])
 refine any 1 [] 9 [0, 1, 2, 4, 5] λ R4 T1 => ?_
 have e6 := T1.cap 1 rfl
 refine av [0, 1, 2, 3, 4] [2] 5 (s := Vl (if c5 = ((rw9.length + 1) / 2) then A5 else ofs A5 (((rw9.length + 1) / 2) * 2)) (rw9.drop ((rw9.length + 1) / 2)).length (c5 - ((rw9.length + 1) / 2))) (a := by exact λ w2 hw2 => cv (Ru.congr (Ru.lsliceFrom (l := ((rw9.length + 1) / 2)) Tryz.underlying43 jA rfl rfl t1 t1) (sl_congr t6)) rfl) (b := ?_)
 refine aO [] [] 6 ?_
 refine cq 0 [] (b := kJ _ _ _ R4 (kY (k := ((rw9.length + 1) / 2)) (c := c5) dI (T1.rd 1 rfl) q2 q2) (by first | omega | (simp only [aI]; omega)) (by first | omega | (simp only [aI]; omega))) (c := ?_)
 rintro _ K6 ⟨v2, L2, F2, U2, I2, X2, rfl, D4⟩
 have s1 := T1.cl 0 D4
 have i6 := (s1.cap 0 rfl).1
 have j6 := (s1.cap 1 rfl).1
 have k6 := (s1.cap 2 rfl).1
 refine os 0 [] [3, 4, 5, 7, 8] ?_
 have x3 : b9.toNat < (a0.set a9.toNat c0).length := t14
 refine av [] [] 7 (a := by exact λ _ hw2 => cJ x3 (s1.rd 6 rfl) (h0 := t1)) (b := ?_)
 refine aO [] [] 8 ?_
 let e0 : PgL := (⟨⟨v2, L2, bG (rw9.drop ((rw9.length + 1) / 2))⟩, ⟨F2, U2, ([] : List Int)⟩, ⟨I2, X2, (rw9.drop ((rw9.length + 1) / 2)).map PairT.val⟩⟩ : PgL)
 refine sF 0 [] 6 e0 x3 λ L6 d4 => ?_
 refine os 0 [] [3, 4, 5, 7, 8] ?_
 refine an [] [] ?_
 have v5 := Mem.gset (k := ⟨v2, L2, bG (rw9.drop ((rw9.length + 1) / 2))⟩) (c := ⟨F2, U2, ([] : List Int)⟩) (v := ⟨I2, X2, (rw9.drop ((rw9.length + 1) / 2)).map PairT.val⟩) b9.toNat (d4.pk [3, 0, 1, 2, 4, 5, 6, 7, 8])
 have hj2 : up.toNat < ((a0.set a9.toNat c0).set b9.toNat e0).length := by simp only [eW]; omega
 have hold : (((a0.set a9.toNat c0).set b9.toNat e0)[up.toNat]'hj2).t = gP T.t up := by rw [<- jW (r := T.root) hj2, cV, cV, K0]; exact aDh hmd
 have hkold : (((a0.set a9.toNat c0).set b9.toNat e0)[up.toNat]'hj2).k.l.length = (T.l[up.toNat]'hju).k.l.length := by have h9 := congrArg (λ z => z.keys.length) hold; rw [hg_up] at h9; exact h9
 obtain ⟨v9, hv9⟩ : ∃ z, z = (rw9.getD ((rw9.length + 1) / 2) ⟨0, 0⟩).key := ⟨_, rfl⟩
 refine any 1 [] 14 [1, 2, 3, 4, 5] λ M6 W0 => ?_
 have f0 : up.toNat < ((a0.set a9.toNat c0).set b9.toNat e0).length := t14
 refine av [0, 1, 2] [1] 3 (a := by exact λ _ hw2 => cJ f0 (W0.rd 3 rfl) (h0 := t1)) (b := ?_)
 refine av [] [] 4 (a := by exact λ _ hw2 => fZ f0 (W0.rd 3 rfl)) (b := ?_)
 refine av [] [] 5 (a := by exact λ _ hw2 => gF f0 (hw2.rd 2 rfl)) (b := ?_)
 have x1 : ((rw9.length + 1) / 2) < rw9.length := t1
 refine av [6, 7, 8] [] 9 (a := by exact λ _ hw2 => cJ x1 (W0.rd 1 rfl) (h0 := t1)) (b := ?_)
 refine av [] [] 10 (a := by exact λ _ hw2 => fZ x1 (W0.rd 1 rfl)) (b := ?_)
 refine av [] [] 11 (s := Vi v9) (a := by exact λ w2 hw2 => cv (Ru.congr (Ru.load1 el3 rfl (ldf dI (hw2.rd 0 rfl) x1 rfl)) (I_congr ((qB x1).symm.trans hv9.symm))) rfl) (b := ?_)
 have h2 : f < (((a0.set a9.toNat c0).set b9.toNat e0)[up.toNat]'f0).k.l.length := (by rw [hkold]; omega)
 refine av [] [] 12 (a := by exact λ _ hw2 => cG h2 ((NsP.mem W0 0 rfl).get f0).1 (h0 := t1)) (b := ?_)
 refine aO [] [] 13 ?_
 refine O.mstore (vs := [I v9]) (xs' := ((((a0.set a9.toNat c0).set b9.toNat e0)[up.toNat]'f0).k.l.set f v9).map I) 0 (3 * up.toNat) W0 rfl (aHy (e := 3) ((a0.set a9.toNat c0).set b9.toNat e0) f0) rfl el3 rfl rfl rfl rfl rfl t13 t11 (wX (l := (((a0.set a9.toNat c0).set b9.toNat e0)[up.toNat]'f0).k.l) (a := v9) h2) (congrArg (λ z_ : List FE => [z_, oP A5 c5 rw9, [⟨.slice (bl R0) 1 1, 25, 2, 1, [I T.root, .slice k0 a0.length l0]⟩], [⟨.slice k0 a0.length l0, 42, 3, a0.length, ((a0.set a9.toNat c0).set b9.toNat e0).flatMap encPg⟩], [⟨.slice (bl Q0) 1 1, 25, 2, 1, [I 0, .slice none 0 0]⟩], [⟨.slice (bl P0) 1 1, 25, 2, 1, [I T.root, .slice T.A T.l.length T.cp]⟩]]) (vL (e := 3) ((a0.set a9.toNat c0).set b9.toNat e0) f0 h2)) (λ U3 (e4 : Mem w U3 [] [(((a0.set a9.toNat c0).set b9.toNat e0).set up.toNat (⟨⟨(((a0.set a9.toNat c0).set b9.toNat e0)[up.toNat]'f0).k.A, (((a0.set a9.toNat c0).set b9.toNat e0)[up.toNat]'f0).k.cp, (((a0.set a9.toNat c0).set b9.toNat e0)[up.toNat]'f0).k.l.set f v9⟩, (((a0.set a9.toNat c0).set b9.toNat e0)[up.toNat]'f0).c, (((a0.set a9.toNat c0).set b9.toNat e0)[up.toNat]'f0).v⟩ : PgL)).flatMap (pgF 3), oP A5 c5 rw9, [⟨.slice (bl R0) 1 1, 25, 2, 1, [I T.root, .slice k0 a0.length l0]⟩], [⟨.slice k0 a0.length l0, 42, 3, a0.length, ((a0.set a9.toNat c0).set b9.toNat e0).flatMap encPg⟩], [⟨.slice (bl Q0) 1 1, 25, 2, 1, [I 0, .slice none 0 0]⟩], [⟨.slice (bl P0) 1 1, 25, 2, 1, [I T.root, .slice T.A T.l.length T.cp]⟩]]) => ?_)
 refine os 0 [] [1, 2, 3, 4, 5] ?_
 refine an [] [] ?_
 let Q3 : List FE := (((a0.set a9.toNat c0).set b9.toNat e0).set up.toNat (⟨⟨(((a0.set a9.toNat c0).set b9.toNat e0)[up.toNat]'f0).k.A, (((a0.set a9.toNat c0).set b9.toNat e0)[up.toNat]'f0).k.cp, (((a0.set a9.toNat c0).set b9.toNat e0)[up.toNat]'f0).k.l.set f v9⟩, (((a0.set a9.toNat c0).set b9.toNat e0)[up.toNat]'f0).c, (((a0.set a9.toNat c0).set b9.toNat e0)[up.toNat]'f0).v⟩ : PgL)).flatMap (pgF 3)
 let R3 : List FE := (oP A5 c5 rw9)
 let S3 : List FE := [⟨.slice (bl R0) 1 1, 25, 2, 1, [I T.root, .slice k0 a0.length l0]⟩]
 let F6 : List FE := [⟨.slice k0 a0.length l0, 42, 3, a0.length, ((a0.set a9.toNat c0).set b9.toNat e0).flatMap encPg⟩]
 let T3 : List FE := [⟨.slice (bl Q0) 1 1, 25, 2, 1, [I 0, .slice none 0 0]⟩]
 let E3 : List FE := [⟨.slice (bl P0) 1 1, 25, 2, 1, [I T.root, .slice T.A T.l.length T.cp]⟩]
 have n4 : Mem w U3 [] [Q3, R3, S3, [⟨.slice k0 a0.length l0, 42, 3, a0.length, (((a0.set a9.toNat c0).set b9.toNat e0).set up.toNat (⟨⟨(((a0.set a9.toNat c0).set b9.toNat e0)[up.toNat]'f0).k.A, (((a0.set a9.toNat c0).set b9.toNat e0)[up.toNat]'f0).k.cp, (((a0.set a9.toNat c0).set b9.toNat e0)[up.toNat]'f0).k.l.set f v9⟩, (((a0.set a9.toNat c0).set b9.toNat e0)[up.toNat]'f0).c, (((a0.set a9.toNat c0).set b9.toNat e0)[up.toNat]'f0).v⟩ : PgL)).flatMap encPg⟩], T3, E3] := Mem.cast e4 (congrArg (λ z_ : List Value => [Q3, R3, S3, [⟨.slice k0 a0.length l0, 42, 3, a0.length, z_⟩], T3, E3]) (sE ((a0.set a9.toNat c0).set b9.toNat e0) f0 (f := f) (v := v9)))
 have r4 := n4.rF 3 (((a0.set a9.toNat c0).set b9.toNat e0).set up.toNat (⟨⟨(((a0.set a9.toNat c0).set b9.toNat e0)[up.toNat]'f0).k.A, (((a0.set a9.toNat c0).set b9.toNat e0)[up.toNat]'f0).k.cp, (((a0.set a9.toNat c0).set b9.toNat e0)[up.toNat]'f0).k.l.set f v9⟩, (((a0.set a9.toNat c0).set b9.toNat e0)[up.toNat]'f0).c, (((a0.set a9.toNat c0).set b9.toNat e0)[up.toNat]'f0).v⟩ : PgL) : List PgL) (e := rfl)
 have B5 := r4.reB 2 1 (show a0.length = (((a0.set a9.toNat c0).set b9.toNat e0).set up.toNat (⟨⟨(((a0.set a9.toNat c0).set b9.toNat e0)[up.toNat]'f0).k.A, (((a0.set a9.toNat c0).set b9.toNat e0)[up.toNat]'f0).k.cp, (((a0.set a9.toNat c0).set b9.toNat e0)[up.toNat]'f0).k.l.set f v9⟩, (((a0.set a9.toNat c0).set b9.toNat e0)[up.toNat]'f0).c, (((a0.set a9.toNat c0).set b9.toNat e0)[up.toNat]'f0).v⟩ : PgL)).length from t2)
 refine Sb 3 [2] 4 λ N6 b3 => ?_
 refine EG 3 [] ?_
 refine PG (vs := [.agg #[I T.root, .slice k0 (((a0.set a9.toNat c0).set b9.toNat e0).set up.toNat (⟨⟨(((a0.set a9.toNat c0).set b9.toNat e0)[up.toNat]'f0).k.A, (((a0.set a9.toNat c0).set b9.toNat e0)[up.toNat]'f0).k.cp, (((a0.set a9.toNat c0).set b9.toNat e0)[up.toNat]'f0).k.l.set f v9⟩, (((a0.set a9.toNat c0).set b9.toNat e0)[up.toNat]'f0).c, (((a0.set a9.toNat c0).set b9.toNat e0)[up.toNat]'f0).v⟩ : PgL)).length l0], I (-1)]) (bX.cell (l := [I T.root, .slice k0 (((a0.set a9.toNat c0).set b9.toNat e0).set up.toNat (⟨⟨(((a0.set a9.toNat c0).set b9.toNat e0)[up.toNat]'f0).k.A, (((a0.set a9.toNat c0).set b9.toNat e0)[up.toNat]'f0).k.cp, (((a0.set a9.toNat c0).set b9.toNat e0)[up.toNat]'f0).k.l.set f v9⟩, (((a0.set a9.toNat c0).set b9.toNat e0)[up.toNat]'f0).c, (((a0.set a9.toNat c0).set b9.toNat e0)[up.toNat]'f0).v⟩ : PgL)).length l0]) rfl (cA (i := 4) (j := 0) b3 rfl rfl) kH rfl (bX.tmp rfl bX.nil)) ?_
 have hfin := aHs hmd hk0 (r := rw9) (by rw [hg_a9, hg_b9]) t1 (L := tsG (((a0.set a9.toNat c0).set b9.toNat e0).set up.toNat (⟨⟨(((a0.set a9.toNat c0).set b9.toNat e0)[up.toNat]'f0).k.A, (((a0.set a9.toNat c0).set b9.toNat e0)[up.toNat]'f0).k.cp, (((a0.set a9.toNat c0).set b9.toNat e0)[up.toNat]'f0).k.l.set f v9⟩, (((a0.set a9.toNat c0).set b9.toNat e0)[up.toNat]'f0).c, (((a0.set a9.toNat c0).set b9.toNat e0)[up.toNat]'f0).v⟩ : PgL))) (by rw [cV, show (⟨⟨(((a0.set a9.toNat c0).set b9.toNat e0)[up.toNat]'f0).k.A, (((a0.set a9.toNat c0).set b9.toNat e0)[up.toNat]'f0).k.cp, (((a0.set a9.toNat c0).set b9.toNat e0)[up.toNat]'f0).k.l.set f v9⟩, (((a0.set a9.toNat c0).set b9.toNat e0)[up.toNat]'f0).c, (((a0.set a9.toNat c0).set b9.toNat e0)[up.toNat]'f0).v⟩ : PgL).t = mD (gP T.t up) f v9 from (by rw [<- hold]; rfl), cV, cV, K0, hv9]; rfl)
 have s4 := b3.rF 3 ((((a0.set a9.toNat c0).set b9.toNat e0).set up.toNat (⟨⟨(((a0.set a9.toNat c0).set b9.toNat e0)[up.toNat]'f0).k.A, (((a0.set a9.toNat c0).set b9.toNat e0)[up.toNat]'f0).k.cp, (((a0.set a9.toNat c0).set b9.toNat e0)[up.toNat]'f0).k.l.set f v9⟩, (((a0.set a9.toNat c0).set b9.toNat e0)[up.toNat]'f0).c, (((a0.set a9.toNat c0).set b9.toNat e0)[up.toNat]'f0).v⟩ : PgL)) : List PgL) (e := t2)
 exact ⟨((a0.set a9.toNat c0).set b9.toNat e0).set up.toNat (⟨⟨(((a0.set a9.toNat c0).set b9.toNat e0)[up.toNat]'f0).k.A, (((a0.set a9.toNat c0).set b9.toNat e0)[up.toNat]'f0).k.cp, (((a0.set a9.toNat c0).set b9.toNat e0)[up.toNat]'f0).k.l.set f v9⟩, (((a0.set a9.toNat c0).set b9.toNat e0)[up.toNat]'f0).c, (((a0.set a9.toNat c0).set b9.toNat e0)[up.toNat]'f0).v⟩ : PgL), k0, l0, (by rw [hfin.2]; rfl), hfin.1, (s4.pk [3, 0])⟩
 have hk0 : (gP T.t a9).kids ≠ [] := by rw [hg_a9]; intro e9; exact absurd (show (T.l[a9.toNat]'hja).c.l.length = 0 from congrArg List.length e9) t1
 have hnn := hmd.inn hk0
 rw [hg_a9, hg_b9] at hnn
 have hnA : (T.l[a9.toNat]'hja).c.l.length = (T.l[a9.toNat]'hja).k.l.length + 1 := hnn.1
 have hnB : (T.l[b9.toNat]'hjb).c.l.length = (T.l[b9.toNat]'hjb).k.l.length + 1 := hnn.2
 obtain ⟨k9, hk9⟩ : ∃ z, z = (T.l[up.toNat]'hju).k.l.getD f 0 := ⟨_, rfl⟩
 let ks9 : List Int := (T.l[a9.toNat]'hja).k.l ++ [k9] ++ (T.l[b9.toNat]'hjb).k.l
 have hks : ks9 = (T.l[a9.toNat]'hja).k.l ++ [k9] ++ (T.l[b9.toNat]'hjb).k.l := rfl
 let cs9 : List Int := (T.l[a9.toNat]'hja).c.l ++ (T.l[b9.toNat]'hjb).c.l
 have hcs : cs9 = (T.l[a9.toNat]'hja).c.l ++ (T.l[b9.toNat]'hjb).c.l := rfl
 have hksl : ks9.length = (T.l[a9.toNat]'hja).k.l.length + 1 + (T.l[b9.toNat]'hjb).k.l.length := by rw [hks]; simp; omega
 have hcsl : cs9.length = ks9.length + 1 := by rw [hksl, hcs, aA]; omega
 have hksb : ks9 = iW T.t up a9 b9 f := by unfold iW; rw [hks, hg_a9, hg_b9, hg_up, hk9]; rfl
 have hcsb : cs9 = mI T.t a9 b9 := by unfold mI; rw [hcs, hg_a9, hg_b9]; rfl
 have i0 : a9.toNat < T.l.length := t1
 refine ov 6 [4] (a := cJ i0 (hNT.at o0).1 (h0 := t1)) (b := ?_)
 refine ov 0 [] (a := gL i0 (hNT.at o0).1) (b := ?_)
 refine cp 0 [] (b := fO (T.l[a9.toNat]'i0) V4 ((hNT.at o0).2.get i0)) (c := λ O6 j5 => ?_)
 refine Al 0 [] λ P6 G1 Q5 k5 => ?_
 refine Sb 0 [] 0 λ S4 U1 => ?_
 have j0 : b9.toNat < T.l.length := t1
 refine ov 6 [5] (a := cJ j0 (hNT.at U1).1 (h0 := t1)) (b := ?_)
 refine ov 0 [] (a := gL j0 (hNT.at U1).1) (b := ?_)
 refine cp 0 [] (b := fO (T.l[b9.toNat]'j0) S4 ((hNT.at U1).2.get j0)) (c := λ Q6 l5 => ?_)
 refine Al 0 [] λ R6 H1 R5 m5 => ?_
 refine Sb 0 [] 0 λ S6 n5 => ?_
 refine ct2 1 [] (λ (A7 : Option Addr) (c7 : Nat) => ([(16, Vl A7 ks9.length c7)] : List (Nat × SV))) (λ A7 c7 => True) (λ A7 c7 => [oI A7 c7 ks9]) [1, 3, 6, 8, 9, 10, 11, 14, 15] [0, 1, 2, 3, 4, 5, 6] ?_ (λ A7 c7 σ p7 hI m3 => ?_)
 refine any 0 [] 18 [0, 1, 2, 3, 4, 5, 6] λ p2 t0 => ?_
 have u0 : up.toNat < T.l.length := t1
 refine av [0, 1, 3, 4, 5] [1, 6] 6 (a := by exact λ _ hw2 => cJ u0 (hNT.at t0).1 (h0 := t1)) (b := ?_)
 refine av [] [] 7 (a := by exact λ _ hw2 => fZ u0 (hNT.at t0).1) (b := ?_)
 refine aT [9, 14, 15] [0] 2 8 ?_ ?_
 refine cq 0 [] (b := cM (T.l[a9.toNat]'i0).k.A (T.l[a9.toNat]'i0).k.cp (T.l[a9.toNat]'i0).k.l p2 ((hNT.at t0).2.get i0).1 qo) (c := ?_)
 rintro _ o2 ⟨z1, M1, rfl, J0⟩
 have p0 := t0.cl 0 J0
 have g2 := (p0.cap 0 rfl).1
 refine os 0 [] [1, 2, 3, 4, 5, 6, 7] ?_
 refine aO [] [] 8 ?_
 refine ov 0 [] (a := gF u0 (hNT.at p0).1) (b := ?_)
 refine os 0 [] [1, 2, 3, 4, 5, 6, 7] ?_
 have y0 : f < (T.l[up.toNat]'u0).k.l.length := t1
 refine av [] [] 10 (a := by exact λ _ hw2 => cG y0 ((hNT.at p0).2.get u0).1 (h0 := t1)) (b := ?_)
 refine aO [] [] 11 ?_
 refine ov 0 [] (s := Vi k9) (a := by exact cv (Ru.congr (Ru.load1 el3 rfl (ldm ((hNT.at p0).2.get u0).1 y0)) (I_congr ((bF y0).symm.trans hk9.symm))) rfl) (b := ?_)
 refine os 0 [] [1, 2, 3, 4, 5, 6, 7] ?_
 refine aO [] [] 12 ?_
 refine Lt 0 [] (([k9]).map I) (λ y1 I1 d2 B0 => ?_)
 refine os 0 [] [2, 3, 4, 5, 6, 7, 8] ?_
 refine aO [] [] 13 ?_
 refine aM 0 [] 1 (B0.rd 0 rfl) (λ m2 C1 O1 e2 H0 => ?_) (hn := t5) (hb := t5)
 refine os 0 [] [2, 3, 4, 5, 6, 7, 8] ?_
 refine aO [] [] 16 ?_
 refine aM 0 [] 1 ((hNT.at H0).2.get j0).1 (λ n2 F0 G0 f2 I0 => ?_) (hn := t5) (hb := t5)
 refine os 0 [] [2, 3, 4, 5, 6, 7, 8] ?_
 refine an [17] [] ?_
 have C5 := I0.rM 1 (ks9 : List Int) (e := hks.symm)
 exact ce2 0 [] F0 G0 [1, 2, 3, 4, 5, 6, 7, 8] (h := t12)
 refine ov 0 [] (a := gF u0 (hNT.at t0).1) (b := ?_)
 refine os 0 [] [0, 1, 2, 3, 4, 5, 6] ?_
 have y0 : f < (T.l[up.toNat]'u0).k.l.length := t1
 refine av [] [] 10 (a := by exact λ _ hw2 => cG y0 ((hNT.at t0).2.get u0).1 (h0 := t1)) (b := ?_)
 refine aT [] [] 2 11 ?_ ?_
 refine cq 0 [] (b := cM (T.l[a9.toNat]'i0).k.A (T.l[a9.toNat]'i0).k.cp (T.l[a9.toNat]'i0).k.l p2 ((hNT.at t0).2.get i0).1 qo) (c := ?_)
 rintro _ o2 ⟨z1, M1, rfl, J0⟩
 have p0 := t0.cl 0 J0
 have g2 := (p0.cap 0 rfl).1
 refine os 0 [] [1, 2, 3, 4, 5, 6, 7] ?_
 refine aO [] [] 11 ?_
 refine ov 0 [] (s := Vi k9) (a := by exact cv (Ru.congr (Ru.load1 el3 rfl (ldm ((hNT.at p0).2.get u0).1 y0)) (I_congr ((bF y0).symm.trans hk9.symm))) rfl) (b := ?_)
 refine os 0 [] [1, 2, 3, 4, 5, 6, 7] ?_
 refine aO [] [] 12 ?_
 refine Lt 0 [] (([k9]).map I) (λ y1 I1 d2 B0 => ?_)
 refine os 0 [] [2, 3, 4, 5, 6, 7, 8] ?_
 refine aO [] [] 13 ?_
 refine aM 0 [] 1 (B0.rd 0 rfl) (λ m2 C1 O1 e2 H0 => ?_) (hn := t5) (hb := t5)
 refine os 0 [] [2, 3, 4, 5, 6, 7, 8] ?_
 refine aO [] [] 16 ?_
 refine aM 0 [] 1 ((hNT.at H0).2.get j0).1 (λ n2 F0 G0 f2 I0 => ?_) (hn := t5) (hb := t5)
 refine os 0 [] [2, 3, 4, 5, 6, 7, 8] ?_
 refine an [17] [] ?_
 have D5 := I0.rM 1 (ks9 : List Int) (e := hks.symm)
 exact ce2 0 [] F0 G0 [1, 2, 3, 4, 5, 6, 7, 8] (h := t12)
 refine ov 0 [] (s := Vi k9) (a := by exact cv (Ru.congr (Ru.load1 el3 rfl (ldm ((hNT.at t0).2.get u0).1 y0)) (I_congr ((bF y0).symm.trans hk9.symm))) rfl) (b := ?_)
 refine os 0 [] [0, 1, 2, 3, 4, 5, 6] ?_
 refine aT [] [] 2 12 ?_ ?_
 refine cq 0 [] (b := cM (T.l[a9.toNat]'i0).k.A (T.l[a9.toNat]'i0).k.cp (T.l[a9.toNat]'i0).k.l p2 ((hNT.at t0).2.get i0).1 qo) (c := ?_)
 rintro _ o2 ⟨z1, M1, rfl, J0⟩
 have p0 := t0.cl 0 J0
 have g2 := (p0.cap 0 rfl).1
 refine os 0 [] [1, 2, 3, 4, 5, 6, 7] ?_
 refine aO [] [] 12 ?_
 refine Lt 0 [] (([k9]).map I) (λ y1 I1 d2 B0 => ?_)
 refine os 0 [] [2, 3, 4, 5, 6, 7, 8] ?_
 refine aO [] [] 13 ?_
 refine aM 0 [] 1 (B0.rd 0 rfl) (λ m2 C1 O1 e2 H0 => ?_) (hn := t5) (hb := t5)
 refine os 0 [] [2, 3, 4, 5, 6, 7, 8] ?_
 refine aO [] [] 16 ?_
 refine aM 0 [] 1 ((hNT.at H0).2.get j0).1 (λ n2 F0 G0 f2 I0 => ?_) (hn := t5) (hb := t5)
 refine os 0 [] [2, 3, 4, 5, 6, 7, 8] ?_
 refine an [17] [] ?_
 have E5 := I0.rM 1 (ks9 : List Int) (e := hks.symm)
 exact ce2 0 [] F0 G0 [1, 2, 3, 4, 5, 6, 7, 8] (h := t12)
 refine Lt 0 [] (([k9]).map I) (λ y1 I1 d2 B0 => ?_)
 refine os 0 [] [1, 2, 3, 4, 5, 6, 7] ?_
 refine aO [] [] 2 ?_
 refine cq 0 [] (b := cM (T.l[a9.toNat]'i0).k.A (T.l[a9.toNat]'i0).k.cp (T.l[a9.toNat]'i0).k.l y1 ((hNT.at B0).2.get i0).1 qo) (c := ?_)
 rintro _ o2 ⟨z1, M1, rfl, J0⟩
 have p0 := B0.cl 0 J0
 have g2 := (p0.cap 0 rfl).1
 refine os 0 [] [2, 3, 4, 5, 6, 7, 8] ?_
 refine aO [] [] 13 ?_
 refine aM 0 [] 0 (p0.rd 1 rfl) (λ m2 C1 O1 e2 H0 => ?_) (hn := t5) (hb := t5)
 refine os 0 [] [2, 3, 4, 5, 6, 7, 8] ?_
 refine aO [] [] 16 ?_
 refine aM 0 [] 0 ((hNT.at H0).2.get j0).1 (λ n2 F0 G0 f2 I0 => ?_) (hn := t5) (hb := t5)
 refine os 0 [] [2, 3, 4, 5, 6, 7, 8] ?_
 refine an [17] [] ?_
 have G5 := I0.rM 0 (ks9 : List Int) (e := hks.symm)
 exact ce2 0 [] F0 G0 [0, 2, 3, 4, 5, 6, 7, 8] (h := t12)
 have V5 := (m3.cap 0 rfl).1
 have a6 := (m3.cap 4 rfl).1
 refine ct3 0 [] (λ (bx9 : Nat) (A6 : Option Addr) (c6 : Nat) => ([(17, Vp (bl bx9) 0)] : List (Nat × SV))) (λ bx9 A6 c6 => True) (λ bx9 A6 c6 => [[⟨.slice (bl bx9) 1 1, 65, 2, 1, [.slice A7 ks9.length c7, .slice A6 cs9.length c6]⟩], oI A6 c6 cs9]) [1, 3, 6, 8, 9, 10, 11, 16] [0, 1, 2, 3, 4, 5, 6, 7] ?_ (λ bx9 A6 c6 σ h5 hI X0 => ?_)
 refine any 0 [] 10 [0, 1, 2, 3, 4, 5, 6, 7] λ U4 d3 => ?_
 refine aT [0, 1, 2, 4, 5] [2, 1] 3 8 ?_ ?_
 refine cq 0 [] (b := cM (T.l[a9.toNat]'i0).c.A (T.l[a9.toNat]'i0).c.cp (T.l[a9.toNat]'i0).c.l U4 ((hNT.at d3).2.get i0).2.1 qo) (c := ?_)
 rintro _ T4 ⟨a4, b4, rfl, c2⟩
 have h1 := d3.cl 0 c2
 have O4 := (h1.cap 0 rfl).1
 refine os 0 [] [1, 2, 3, 4, 5, 6, 7, 8] ?_
 refine aT [] [] 6 8 ?_ ?_
 refine aM 0 [] 0 ((hNT.at h1).2.get j0).2.1 (λ V3 a1 e1 p3 c3 => ?_) (hn := t18) (hb := t18)
 refine os 0 [] [1, 2, 3, 4, 5, 6, 7, 8] ?_
 refine aO [7] [] 8 ?_
 refine Al 0 [] λ r2 d1 o3 i1 => ?_
 refine os 0 [] [2, 3, 4, 5, 6, 7, 8, 9] ?_
 refine aO [] [] 9 ?_
 refine Sb 0 [] 0 λ W3 j1 => ?_
 refine os 0 [] [2, 3, 4, 5, 6, 7, 8, 9] ?_
 refine an [] [] ?_
 have t3 : ((T.l[a9.toNat]'i0).c.l ++ (T.l[b9.toNat]'j0).c.l : List Int) = cs9 := hcs.symm
 have t4 := j1.reM 1 t3
 have H5 := t4.reB 0 1 (show ((T.l[a9.toNat]'i0).c.l ++ (T.l[b9.toNat]'j0).c.l).length = cs9.length from congrArg List.length t3)
 exact ce3 0 [] d1 a1 e1 [0, 1, 2, 3, 4, 5, 6, 7, 8, 9] (h := t12)
 refine Al 0 [] λ r2 d1 o3 i1 => ?_
 refine os 0 [] [2, 3, 4, 5, 6, 7, 8, 9] ?_
 refine aO [] [] 6 ?_
 refine aM 0 [] 1 ((hNT.at i1).2.get j0).2.1 (λ V3 a1 e1 p3 c3 => ?_) (hn := t18) (hb := t18)
 refine os 0 [] [2, 3, 4, 5, 6, 7, 8, 9] ?_
 refine aO [7] [] 9 ?_
 refine Sb 0 [] 0 λ W3 j1 => ?_
 refine os 0 [] [2, 3, 4, 5, 6, 7, 8, 9] ?_
 refine an [] [] ?_
 have u3 : ((T.l[a9.toNat]'i0).c.l ++ (T.l[b9.toNat]'j0).c.l : List Int) = cs9 := hcs.symm
 have u4 := j1.reM 1 u3
 have I5 := u4.reB 0 1 (show ((T.l[a9.toNat]'i0).c.l ++ (T.l[b9.toNat]'j0).c.l).length = cs9.length from congrArg List.length u3)
 exact ce3 0 [] d1 a1 e1 [0, 1, 2, 3, 4, 5, 6, 7, 8, 9] (h := t12)
 refine Al 0 [] λ r2 d1 o3 i1 => ?_
 refine os 0 [] [1, 2, 3, 4, 5, 6, 7, 8] ?_
 refine aO [] [] 3 ?_
 refine cq 0 [] (b := cM (T.l[a9.toNat]'i0).c.A (T.l[a9.toNat]'i0).c.cp (T.l[a9.toNat]'i0).c.l r2 ((hNT.at i1).2.get i0).2.1 qo) (c := ?_)
 rintro _ T4 ⟨a4, b4, rfl, c2⟩
 have h1 := i1.cl 0 c2
 have O4 := (h1.cap 0 rfl).1
 refine os 0 [] [2, 3, 4, 5, 6, 7, 8, 9] ?_
 refine aO [] [] 6 ?_
 refine aM 0 [] 0 ((hNT.at h1).2.get j0).2.1 (λ V3 a1 e1 p3 c3 => ?_) (hn := t18) (hb := t18)
 refine os 0 [] [2, 3, 4, 5, 6, 7, 8, 9] ?_
 refine aO [7] [] 9 ?_
 refine Sb 0 [] 1 λ W3 j1 => ?_
 refine os 0 [] [2, 3, 4, 5, 6, 7, 8, 9] ?_
 refine an [] [] ?_
 have v3 : ((T.l[a9.toNat]'i0).c.l ++ (T.l[b9.toNat]'j0).c.l : List Int) = cs9 := hcs.symm
 have v4 := j1.reM 0 v3
 have J5 := v4.reB 1 1 (show ((T.l[a9.toNat]'i0).c.l ++ (T.l[b9.toNat]'j0).c.l).length = cs9.length from congrArg List.length v3)
 exact ce3 0 [] d1 a1 e1 [1, 0, 2, 3, 4, 5, 6, 7, 8, 9] (h := t12)
 have X5 := (X0.cap 1 rfl).1
 have Y5 := (X0.cap 2 rfl).1
 have b6 := (X0.cap 6 rfl).1
 refine cd 7 [] (λ c164 => ?_) (λ c164 => ?_)
 refine any 1 [] 7 [0, 1, 2, 3, 4, 5, 7, 8, 9] λ W4 V1 => ?_
 refine aO [0, 1, 2, 3] [5, 0] 4 ?_
 refine cq 0 [] (b := eD A7 c7 ks9 A6 c6 cs9 W4 (V1.rd 2 rfl) (V1.rd 1 rfl)) (c := ?_)
 rintro _ V6 ⟨v0, w0, rfl, F4⟩
 have e3 := V1.cl 0 F4
 have m6 := (e3.cap 0 rfl).1
 refine os 0 [] [1, 2, 3, 4, 5, 6, 8, 9, 10] ?_
 have y3 : a9.toNat < a0.length := t14
 refine av [] [] 5 (a := by exact λ _ hw2 => cJ y3 (e3.rd 7 rfl) (h0 := t1)) (b := ?_)
 refine aO [] [] 6 ?_
 refine sF 0 [] 7 (⟨⟨A7, c7, ks9⟩, ⟨A6, c6, cs9⟩, ⟨v0, w0, ([] : List Int)⟩⟩ : PgL) y3 λ W6 g4 => ?_
 refine os 0 [] [1, 2, 3, 4, 5, 6, 8, 9, 10] ?_
 refine an [] [] ?_
 have w5 := Mem.gset (k := ⟨A7, c7, ks9⟩) (c := ⟨A6, c6, cs9⟩) (v := ⟨v0, w0, ([] : List Int)⟩) a9.toNat (g4.pk [8, 3, 2, 0, 1, 4, 5, 6, 7, 9, 10])
 refine any 1 [] 15 [0, 1, 2, 3, 4, 6, 7] λ Z4 X1 => ?_
 have m0 : up.toNat < T.l.length := t1
 refine av [0, 1, 2, 3, 4, 5] [4, 6] 6 (a := by exact λ _ hw2 => cJ m0 (hNT.at X1).1 (h0 := t1)) (b := ?_)
 refine av [9] [] 10 (a := by exact λ _ hw2 => bL (f + 1)) (b := ?_)
 refine aO [] [] 7 ?_
 refine ov 0 [] (a := gL m0 (hNT.at X1).1) (b := ?_)
 refine os 0 [] [0, 1, 2, 3, 4, 6, 7] ?_
 refine aO [] [] 8 ?_
 refine cp 0 [] (b := fO (T.l[up.toNat]'m0) Z4 ((hNT.at X1).2.get m0)) (c := λ Y4 W1 => ?_)
 refine os 0 [] [0, 1, 2, 3, 4, 6, 7] ?_
 refine aO [] [] 11 ?_
 refine cq 0 [] (b := aAh (T.l[up.toNat]'m0).k.A (T.l[up.toNat]'m0).k.cp (T.l[up.toNat]'m0).k.l (T.l[up.toNat]'m0).c.A (T.l[up.toNat]'m0).c.cp (T.l[up.toNat]'m0).c.l _ Y4 ((hNT.at W1).2.get m0).1 ((hNT.at W1).2.get m0).2.1 (by exact hcpu) (by constructor <;> omega) qo qo) (c := ?_)
 rintro _ X4 ⟨B1, N1, E1, Q1, rfl, G4⟩
 have k1 := W1.cl 0 G4
 have n6 := (k1.cap 0 rfl).1
 have o6 := (k1.cap 1 rfl).1
 refine os 0 [] [2, 3, 4, 5, 6, 8, 9] ?_
 refine aO [] [] 12 ?_
 refine cq 0 [] (b := eD B1 N1 ((T.l[up.toNat]'m0).k.l.take ((((f + 1) : Nat) : Int).toNat - 1) ++ (T.l[up.toNat]'m0).k.l.drop (((f + 1) : Nat) : Int).toNat) E1 Q1 ((T.l[up.toNat]'m0).c.l.take (((f + 1) : Nat) : Int).toNat ++ (T.l[up.toNat]'m0).c.l.drop ((((f + 1) : Nat) : Int).toNat + 1)) X4 (k1.rd 0 rfl) (k1.rd 1 rfl)) (c := ?_)
 rintro _ X6 ⟨x2, M2, rfl, H4⟩
 have f3 := k1.cl 0 H4
 have p6 := (f3.cap 0 rfl).1
 refine os 0 [] [3, 4, 5, 6, 7, 9, 10] ?_
 have z3 : up.toNat < (a0.set a9.toNat (⟨⟨A7, c7, ks9⟩, ⟨A6, c6, cs9⟩, ⟨v0, w0, ([] : List Int)⟩⟩ : PgL)).length := t14
 refine av [] [] 13 (a := by exact λ _ hw2 => cJ z3 (f3.rd 8 rfl) (h0 := t1)) (b := ?_)
 refine aO [] [] 14 ?_
 let D0 : PgL := (⟨⟨B1, N1, (T.l[up.toNat]'m0).k.l.take ((((f + 1) : Nat) : Int).toNat - 1) ++ (T.l[up.toNat]'m0).k.l.drop (((f + 1) : Nat) : Int).toNat⟩, ⟨E1, Q1, (T.l[up.toNat]'m0).c.l.take (((f + 1) : Nat) : Int).toNat ++ (T.l[up.toNat]'m0).c.l.drop ((((f + 1) : Nat) : Int).toNat + 1)⟩, ⟨x2, M2, ([] : List Int)⟩⟩ : PgL)
 refine sF 0 [] 8 D0 z3 λ Y6 h4 => ?_
 refine os 0 [] [3, 4, 5, 6, 7, 9, 10] ?_
 refine an [] [] ?_
 have o4 := Mem.gset (k := ⟨B1, N1, (T.l[up.toNat]'m0).k.l.take ((((f + 1) : Nat) : Int).toNat - 1) ++ (T.l[up.toNat]'m0).k.l.drop (((f + 1) : Nat) : Int).toNat⟩) (c := ⟨E1, Q1, (T.l[up.toNat]'m0).c.l.take (((f + 1) : Nat) : Int).toNat ++ (T.l[up.toNat]'m0).c.l.drop ((((f + 1) : Nat) : Int).toNat + 1)⟩) (v := ⟨x2, M2, ([] : List Int)⟩) up.toNat (h4.pk [3, 1, 2, 0, 4, 5, 6, 7, 8, 9, 10])
 have w4 := o4.rF 5 ((a0.set a9.toNat (⟨⟨A7, c7, ks9⟩, ⟨A6, c6, cs9⟩, ⟨v0, w0, ([] : List Int)⟩⟩ : PgL)).set up.toNat D0 : List PgL) (e := rfl)
 have L5 := w4.reB 4 1 (show a0.length = ((a0.set a9.toNat (⟨⟨A7, c7, ks9⟩, ⟨A6, c6, cs9⟩, ⟨v0, w0, ([] : List Int)⟩⟩ : PgL)).set up.toNat D0).length from t2)
 refine Sb 4 [4] 6 λ Z6 g3 => ?_
 refine EG 3 [] ?_
 refine PG (vs := [.agg #[I T.root, .slice k0 ((a0.set a9.toNat (⟨⟨A7, c7, ks9⟩, ⟨A6, c6, cs9⟩, ⟨v0, w0, ([] : List Int)⟩⟩ : PgL)).set up.toNat D0).length l0], I b9]) (bX.cell (l := [I T.root, .slice k0 ((a0.set a9.toNat (⟨⟨A7, c7, ks9⟩, ⟨A6, c6, cs9⟩, ⟨v0, w0, ([] : List Int)⟩⟩ : PgL)).set up.toNat D0).length l0]) rfl (cA (i := 6) (j := 0) g3 rfl rfl) kH rfl (bX.tmp rfl bX.nil)) ?_
 have hfin := aLs hmd hk0 (by rw [<- hksb]; omega) (L := tsG ((a0.set a9.toNat (⟨⟨A7, c7, ks9⟩, ⟨A6, c6, cs9⟩, ⟨v0, w0, ([] : List Int)⟩⟩ : PgL)).set up.toNat D0)) (by rw [cV, cV, K0, <- hksb, <- hcsb, hg_up]; rfl)
 have x4 := g3.rF 5 (((a0.set a9.toNat (⟨⟨A7, c7, ks9⟩, ⟨A6, c6, cs9⟩, ⟨v0, w0, ([] : List Int)⟩⟩ : PgL)).set up.toNat D0) : List PgL) (e := t2)
 exact ⟨(a0.set a9.toNat (⟨⟨A7, c7, ks9⟩, ⟨A6, c6, cs9⟩, ⟨v0, w0, ([] : List Int)⟩⟩ : PgL)).set up.toNat D0, k0, l0, (by rw [hfin.2]; rfl), hfin.1, (x4.pk [5, 0])⟩
 refine cq 4 [0] (b := eN A7 c7 ks9 A6 c6 cs9 h5 (X0.rd 2 rfl) (X0.rd 1 rfl) (by constructor <;> omega) qo qo) (c := ?_)
 rintro _ a7 ⟨L0, S0, M0, T0, N0, U0, O0, V0, rfl, I4⟩
 have u1 := X0.cl 0 I4
 have q6 := (u1.cap 0 rfl).1
 have r6 := (u1.cap 1 rfl).1
 have s6 := (u1.cap 2 rfl).1
 have u6 := (u1.cap 3 rfl).1
 refine Al 4 [] λ d7 J1 T5 q5 => ?_
 refine Al 0 [] λ e7 K1 U5 r5 => ?_
 refine Sb 0 [] 1 λ f7 s5 => ?_
 refine Sb 1 [] 0 λ b7 p5 => ?_
 refine any 2 [] 7 [0, 1, 2, 3, 4, 5, 6, 7, 8, 9, 10, 11, 13, 14, 15] λ a5 Y1 => ?_
 refine aO [0, 1, 2, 3] [11, 1] 4 ?_
 refine cq 0 [] (b := eD L0 S0 (ks9.take (ks9.length / 2)) M0 T0 (cs9.take (ks9.length / 2 + 1)) a5 (Y1.rd 2 rfl) (Y1.rd 3 rfl)) (c := ?_)
 rintro _ g7 ⟨y2, N2, rfl, J4⟩
 have h3 := Y1.cl 0 J4
 have v6 := (h3.cap 0 rfl).1
 refine os 0 [] [1, 2, 3, 4, 5, 6, 7, 8, 9, 10, 11, 12, 14, 15, 16] ?_
 have A3 : a9.toNat < a0.length := t14
 refine av [] [] 5 (a := by exact λ _ hw2 => cJ A3 (h3.rd 13 rfl) (h0 := t1)) (b := ?_)
 refine aO [] [] 6 ?_
 let b0 : PgL := (⟨⟨L0, S0, ks9.take (ks9.length / 2)⟩, ⟨M0, T0, cs9.take (ks9.length / 2 + 1)⟩, ⟨y2, N2, ([] : List Int)⟩⟩ : PgL)
 refine sF 0 [] 13 b0 A3 λ h7 i4 => ?_
 refine os 0 [] [1, 2, 3, 4, 5, 6, 7, 8, 9, 10, 11, 12, 14, 15, 16] ?_
 refine an [] [] ?_
 have x5 := Mem.gset (k := ⟨L0, S0, ks9.take (ks9.length / 2)⟩) (c := ⟨M0, T0, cs9.take (ks9.length / 2 + 1)⟩) (v := ⟨y2, N2, ([] : List Int)⟩) a9.toNat (i4.pk [14, 3, 4, 0, 1, 2, 5, 6, 7, 8, 9, 10, 11, 12, 13, 15, 16])
 refine any 1 [] 7 [0, 1, 2, 3, 4, 5, 6, 7, 8, 9, 10, 12, 13] λ b5 Z1 => ?_
 refine aO [0, 1, 2, 3] [10, 1] 4 ?_
 refine cq 0 [] (b := eD N0 U0 (ks9.drop (ks9.length / 2 + 1)) O0 V0 (cs9.drop (ks9.length / 2 + 1)) b5 (Z1.rd 3 rfl) (Z1.rd 4 rfl)) (c := ?_)
 rintro _ i7 ⟨z2, O2, rfl, K4⟩
 have i3 := Z1.cl 0 K4
 have w6 := (i3.cap 0 rfl).1
 refine os 0 [] [1, 2, 3, 4, 5, 6, 7, 8, 9, 10, 11, 13, 14] ?_
 have B3 : b9.toNat < (a0.set a9.toNat b0).length := t14
 refine av [] [] 5 (a := by exact λ _ hw2 => cJ B3 (i3.rd 12 rfl) (h0 := t1)) (b := ?_)
 refine aO [] [] 6 ?_
 let d0 : PgL := (⟨⟨N0, U0, ks9.drop (ks9.length / 2 + 1)⟩, ⟨O0, V0, cs9.drop (ks9.length / 2 + 1)⟩, ⟨z2, O2, ([] : List Int)⟩⟩ : PgL)
 refine sF 0 [] 12 d0 B3 λ j7 j4 => ?_
 refine os 0 [] [1, 2, 3, 4, 5, 6, 7, 8, 9, 10, 11, 13, 14] ?_
 refine an [] [] ?_
 have n1 := Mem.gset (k := ⟨N0, U0, ks9.drop (ks9.length / 2 + 1)⟩) (c := ⟨O0, V0, cs9.drop (ks9.length / 2 + 1)⟩) (v := ⟨z2, O2, ([] : List Int)⟩) b9.toNat (j4.pk [1, 4, 5, 0, 2, 3, 6, 7, 8, 9, 10, 11, 12, 13, 14])
 have hj2 : up.toNat < ((a0.set a9.toNat b0).set b9.toNat d0).length := by simp only [eW]; omega
 have hold : (((a0.set a9.toNat b0).set b9.toNat d0)[up.toNat]'hj2).t = gP T.t up := by rw [<- jW (r := T.root) hj2, cV, cV, K0]; exact aDh hmd
 have hkold : (((a0.set a9.toNat b0).set b9.toNat d0)[up.toNat]'hj2).k.l.length = (T.l[up.toNat]'hju).k.l.length := by have h9 := congrArg (λ z => z.keys.length) hold; rw [hg_up] at h9; exact h9
 obtain ⟨v9, hv9⟩ : ∃ z, z = ks9.getD (ks9.length / 2) 0 := ⟨_, rfl⟩
 have g0 : up.toNat < ((a0.set a9.toNat b0).set b9.toNat d0).length := t14
 refine ov 5 [8] (a := cJ g0 (n1.rd 9 rfl) (h0 := t1)) (b := ?_)
 refine ov 0 [] (a := fZ g0 (n1.rd 9 rfl)) (b := ?_)
 refine ov 0 [] (a := gF g0 (n1.rd 9 rfl)) (b := ?_)
 refine ov 1 [] (s := Vi v9) (a := by exact cv (Ru.congr (Ru.move rfl) (I_congr hv9.symm)) rfl) (b := ?_)
 have i2 : f < (((a0.set a9.toNat b0).set b9.toNat d0)[up.toNat]'g0).k.l.length := (by rw [hkold]; omega)
 refine ov 0 [] (a := cG i2 ((NsP.mem n1 0 rfl).get g0).1 (h0 := t1)) (b := ?_)
 refine O.mstore (vs := [I v9]) (xs' := ((((a0.set a9.toNat b0).set b9.toNat d0)[up.toNat]'g0).k.l.set f v9).map I) 0 (3 * up.toNat) n1 rfl (aHy (e := 3) ((a0.set a9.toNat b0).set b9.toNat d0) g0) rfl el3 rfl rfl rfl rfl rfl t13 t11 (wX (l := (((a0.set a9.toNat b0).set b9.toNat d0)[up.toNat]'g0).k.l) (a := v9) i2) (congrArg (λ z_ : List FE => [z_, [⟨.slice (bl K1) 1 1, 65, 2, 1, [.slice N0 (ks9.drop (ks9.length / 2 + 1)).length U0, .slice O0 (cs9.drop (ks9.length / 2 + 1)).length V0]⟩], [⟨.slice (bl J1) 1 1, 65, 2, 1, [.slice L0 (ks9.take (ks9.length / 2)).length S0, .slice M0 (cs9.take (ks9.length / 2 + 1)).length T0]⟩], [⟨.slice (bl bx9) 1 1, 65, 2, 1, [.slice A7 ks9.length c7, .slice A6 cs9.length c6]⟩], oI A6 c6 cs9, oI A7 c7 ks9, [⟨.slice (bl H1) 1 1, 65, 2, 1, [.slice (T.l[b9.toNat]'j0).k.A (T.l[b9.toNat]'j0).k.l.length (T.l[b9.toNat]'j0).k.cp, .slice (T.l[b9.toNat]'j0).c.A (T.l[b9.toNat]'j0).c.l.length (T.l[b9.toNat]'j0).c.cp]⟩], [⟨.slice (bl G1) 1 1, 65, 2, 1, [.slice (T.l[a9.toNat]'i0).k.A (T.l[a9.toNat]'i0).k.l.length (T.l[a9.toNat]'i0).k.cp, .slice (T.l[a9.toNat]'i0).c.A (T.l[a9.toNat]'i0).c.l.length (T.l[a9.toNat]'i0).c.cp]⟩], [⟨.slice (bl R0) 1 1, 25, 2, 1, [I T.root, .slice k0 a0.length l0]⟩], [⟨.slice k0 a0.length l0, 42, 3, a0.length, ((a0.set a9.toNat b0).set b9.toNat d0).flatMap encPg⟩], [⟨.slice (bl Q0) 1 1, 25, 2, 1, [I 0, .slice none 0 0]⟩], [⟨.slice (bl P0) 1 1, 25, 2, 1, [I T.root, .slice T.A T.l.length T.cp]⟩]]) (vL (e := 3) ((a0.set a9.toNat b0).set b9.toNat d0) g0 i2)) (λ X3 (k4 : Mem w X3 [] [(((a0.set a9.toNat b0).set b9.toNat d0).set up.toNat (⟨⟨(((a0.set a9.toNat b0).set b9.toNat d0)[up.toNat]'g0).k.A, (((a0.set a9.toNat b0).set b9.toNat d0)[up.toNat]'g0).k.cp, (((a0.set a9.toNat b0).set b9.toNat d0)[up.toNat]'g0).k.l.set f v9⟩, (((a0.set a9.toNat b0).set b9.toNat d0)[up.toNat]'g0).c, (((a0.set a9.toNat b0).set b9.toNat d0)[up.toNat]'g0).v⟩ : PgL)).flatMap (pgF 3), [⟨.slice (bl K1) 1 1, 65, 2, 1, [.slice N0 (ks9.drop (ks9.length / 2 + 1)).length U0, .slice O0 (cs9.drop (ks9.length / 2 + 1)).length V0]⟩], [⟨.slice (bl J1) 1 1, 65, 2, 1, [.slice L0 (ks9.take (ks9.length / 2)).length S0, .slice M0 (cs9.take (ks9.length / 2 + 1)).length T0]⟩], [⟨.slice (bl bx9) 1 1, 65, 2, 1, [.slice A7 ks9.length c7, .slice A6 cs9.length c6]⟩], oI A6 c6 cs9, oI A7 c7 ks9, [⟨.slice (bl H1) 1 1, 65, 2, 1, [.slice (T.l[b9.toNat]'j0).k.A (T.l[b9.toNat]'j0).k.l.length (T.l[b9.toNat]'j0).k.cp, .slice (T.l[b9.toNat]'j0).c.A (T.l[b9.toNat]'j0).c.l.length (T.l[b9.toNat]'j0).c.cp]⟩], [⟨.slice (bl G1) 1 1, 65, 2, 1, [.slice (T.l[a9.toNat]'i0).k.A (T.l[a9.toNat]'i0).k.l.length (T.l[a9.toNat]'i0).k.cp, .slice (T.l[a9.toNat]'i0).c.A (T.l[a9.toNat]'i0).c.l.length (T.l[a9.toNat]'i0).c.cp]⟩], [⟨.slice (bl R0) 1 1, 25, 2, 1, [I T.root, .slice k0 a0.length l0]⟩], [⟨.slice k0 a0.length l0, 42, 3, a0.length, ((a0.set a9.toNat b0).set b9.toNat d0).flatMap encPg⟩], [⟨.slice (bl Q0) 1 1, 25, 2, 1, [I 0, .slice none 0 0]⟩], [⟨.slice (bl P0) 1 1, 25, 2, 1, [I T.root, .slice T.A T.l.length T.cp]⟩]]) => ?_)
 let F3 : List FE := (((a0.set a9.toNat b0).set b9.toNat d0).set up.toNat (⟨⟨(((a0.set a9.toNat b0).set b9.toNat d0)[up.toNat]'g0).k.A, (((a0.set a9.toNat b0).set b9.toNat d0)[up.toNat]'g0).k.cp, (((a0.set a9.toNat b0).set b9.toNat d0)[up.toNat]'g0).k.l.set f v9⟩, (((a0.set a9.toNat b0).set b9.toNat d0)[up.toNat]'g0).c, (((a0.set a9.toNat b0).set b9.toNat d0)[up.toNat]'g0).v⟩ : PgL)).flatMap (pgF 3)
 let G3 : List FE := [⟨.slice (bl K1) 1 1, 65, 2, 1, [.slice N0 (ks9.drop (ks9.length / 2 + 1)).length U0, .slice O0 (cs9.drop (ks9.length / 2 + 1)).length V0]⟩]
 let H3 : List FE := [⟨.slice (bl J1) 1 1, 65, 2, 1, [.slice L0 (ks9.take (ks9.length / 2)).length S0, .slice M0 (cs9.take (ks9.length / 2 + 1)).length T0]⟩]
 let I3 : List FE := [⟨.slice (bl bx9) 1 1, 65, 2, 1, [.slice A7 ks9.length c7, .slice A6 cs9.length c6]⟩]
 let J3 : List FE := (oI A6 c6 cs9)
 let K3 : List FE := (oI A7 c7 ks9)
 let L3 : List FE := [⟨.slice (bl H1) 1 1, 65, 2, 1, [.slice (T.l[b9.toNat]'j0).k.A (T.l[b9.toNat]'j0).k.l.length (T.l[b9.toNat]'j0).k.cp, .slice (T.l[b9.toNat]'j0).c.A (T.l[b9.toNat]'j0).c.l.length (T.l[b9.toNat]'j0).c.cp]⟩]
 let M3 : List FE := [⟨.slice (bl G1) 1 1, 65, 2, 1, [.slice (T.l[a9.toNat]'i0).k.A (T.l[a9.toNat]'i0).k.l.length (T.l[a9.toNat]'i0).k.cp, .slice (T.l[a9.toNat]'i0).c.A (T.l[a9.toNat]'i0).c.l.length (T.l[a9.toNat]'i0).c.cp]⟩]
 let N3 : List FE := [⟨.slice (bl R0) 1 1, 25, 2, 1, [I T.root, .slice k0 a0.length l0]⟩]
 let E6 : List FE := [⟨.slice k0 a0.length l0, 42, 3, a0.length, ((a0.set a9.toNat b0).set b9.toNat d0).flatMap encPg⟩]
 let O3 : List FE := [⟨.slice (bl Q0) 1 1, 25, 2, 1, [I 0, .slice none 0 0]⟩]
 let P3 : List FE := [⟨.slice (bl P0) 1 1, 25, 2, 1, [I T.root, .slice T.A T.l.length T.cp]⟩]
 have p4 : Mem w X3 [] [F3, G3, H3, I3, J3, K3, L3, M3, N3, [⟨.slice k0 a0.length l0, 42, 3, a0.length, (((a0.set a9.toNat b0).set b9.toNat d0).set up.toNat (⟨⟨(((a0.set a9.toNat b0).set b9.toNat d0)[up.toNat]'g0).k.A, (((a0.set a9.toNat b0).set b9.toNat d0)[up.toNat]'g0).k.cp, (((a0.set a9.toNat b0).set b9.toNat d0)[up.toNat]'g0).k.l.set f v9⟩, (((a0.set a9.toNat b0).set b9.toNat d0)[up.toNat]'g0).c, (((a0.set a9.toNat b0).set b9.toNat d0)[up.toNat]'g0).v⟩ : PgL)).flatMap encPg⟩], O3, P3] := Mem.cast k4 (congrArg (λ z_ : List Value => [F3, G3, H3, I3, J3, K3, L3, M3, N3, [⟨.slice k0 a0.length l0, 42, 3, a0.length, z_⟩], O3, P3]) (sE ((a0.set a9.toNat b0).set b9.toNat d0) g0 (f := f) (v := v9)))
 have y4 := p4.rF 9 (((a0.set a9.toNat b0).set b9.toNat d0).set up.toNat (⟨⟨(((a0.set a9.toNat b0).set b9.toNat d0)[up.toNat]'g0).k.A, (((a0.set a9.toNat b0).set b9.toNat d0)[up.toNat]'g0).k.cp, (((a0.set a9.toNat b0).set b9.toNat d0)[up.toNat]'g0).k.l.set f v9⟩, (((a0.set a9.toNat b0).set b9.toNat d0)[up.toNat]'g0).c, (((a0.set a9.toNat b0).set b9.toNat d0)[up.toNat]'g0).v⟩ : PgL) : List PgL) (e := rfl)
 have M5 := y4.reB 8 1 (show a0.length = (((a0.set a9.toNat b0).set b9.toNat d0).set up.toNat (⟨⟨(((a0.set a9.toNat b0).set b9.toNat d0)[up.toNat]'g0).k.A, (((a0.set a9.toNat b0).set b9.toNat d0)[up.toNat]'g0).k.cp, (((a0.set a9.toNat b0).set b9.toNat d0)[up.toNat]'g0).k.l.set f v9⟩, (((a0.set a9.toNat b0).set b9.toNat d0)[up.toNat]'g0).c, (((a0.set a9.toNat b0).set b9.toNat d0)[up.toNat]'g0).v⟩ : PgL)).length from t2)
 refine Sb 4 [8] 10 λ k7 j3 => ?_
 refine EG 3 [] ?_
 refine PG (vs := [.agg #[I T.root, .slice k0 (((a0.set a9.toNat b0).set b9.toNat d0).set up.toNat (⟨⟨(((a0.set a9.toNat b0).set b9.toNat d0)[up.toNat]'g0).k.A, (((a0.set a9.toNat b0).set b9.toNat d0)[up.toNat]'g0).k.cp, (((a0.set a9.toNat b0).set b9.toNat d0)[up.toNat]'g0).k.l.set f v9⟩, (((a0.set a9.toNat b0).set b9.toNat d0)[up.toNat]'g0).c, (((a0.set a9.toNat b0).set b9.toNat d0)[up.toNat]'g0).v⟩ : PgL)).length l0], I (-1)]) (bX.cell (l := [I T.root, .slice k0 (((a0.set a9.toNat b0).set b9.toNat d0).set up.toNat (⟨⟨(((a0.set a9.toNat b0).set b9.toNat d0)[up.toNat]'g0).k.A, (((a0.set a9.toNat b0).set b9.toNat d0)[up.toNat]'g0).k.cp, (((a0.set a9.toNat b0).set b9.toNat d0)[up.toNat]'g0).k.l.set f v9⟩, (((a0.set a9.toNat b0).set b9.toNat d0)[up.toNat]'g0).c, (((a0.set a9.toNat b0).set b9.toNat d0)[up.toNat]'g0).v⟩ : PgL)).length l0]) rfl (cA (i := 10) (j := 0) j3 rfl rfl) kH rfl (bX.tmp rfl bX.nil)) ?_
 have hfin := aLt hmd hk0 hksb hcsb t1 (L := tsG (((a0.set a9.toNat b0).set b9.toNat d0).set up.toNat (⟨⟨(((a0.set a9.toNat b0).set b9.toNat d0)[up.toNat]'g0).k.A, (((a0.set a9.toNat b0).set b9.toNat d0)[up.toNat]'g0).k.cp, (((a0.set a9.toNat b0).set b9.toNat d0)[up.toNat]'g0).k.l.set f v9⟩, (((a0.set a9.toNat b0).set b9.toNat d0)[up.toNat]'g0).c, (((a0.set a9.toNat b0).set b9.toNat d0)[up.toNat]'g0).v⟩ : PgL))) (by rw [cV, show (⟨⟨(((a0.set a9.toNat b0).set b9.toNat d0)[up.toNat]'g0).k.A, (((a0.set a9.toNat b0).set b9.toNat d0)[up.toNat]'g0).k.cp, (((a0.set a9.toNat b0).set b9.toNat d0)[up.toNat]'g0).k.l.set f v9⟩, (((a0.set a9.toNat b0).set b9.toNat d0)[up.toNat]'g0).c, (((a0.set a9.toNat b0).set b9.toNat d0)[up.toNat]'g0).v⟩ : PgL).t = mD (gP T.t up) f v9 from (by rw [<- hold]; rfl), cV, cV, K0, hv9]; rfl)
 have z4 := j3.rF 9 ((((a0.set a9.toNat b0).set b9.toNat d0).set up.toNat (⟨⟨(((a0.set a9.toNat b0).set b9.toNat d0)[up.toNat]'g0).k.A, (((a0.set a9.toNat b0).set b9.toNat d0)[up.toNat]'g0).k.cp, (((a0.set a9.toNat b0).set b9.toNat d0)[up.toNat]'g0).k.l.set f v9⟩, (((a0.set a9.toNat b0).set b9.toNat d0)[up.toNat]'g0).c, (((a0.set a9.toNat b0).set b9.toNat d0)[up.toNat]'g0).v⟩ : PgL)) : List PgL) (e := t2)
 exact ⟨((a0.set a9.toNat b0).set b9.toNat d0).set up.toNat (⟨⟨(((a0.set a9.toNat b0).set b9.toNat d0)[up.toNat]'g0).k.A, (((a0.set a9.toNat b0).set b9.toNat d0)[up.toNat]'g0).k.cp, (((a0.set a9.toNat b0).set b9.toNat d0)[up.toNat]'g0).k.l.set f v9⟩, (((a0.set a9.toNat b0).set b9.toNat d0)[up.toNat]'g0).c, (((a0.set a9.toNat b0).set b9.toNat d0)[up.toNat]'g0).v⟩ : PgL), k0, l0, (by rw [hfin.2]; rfl), hfin.1, (z4.pk [9, 0])⟩
end Go.Proofs.YtemejgglbhjodaaGreatDoor
namespace Go.Proofs.YtemejgglbhjodaaGreatDoor
open Go.Px
theorem aMi : ∀ (T : bN) (at0 : Int) (w : World) (hNT : TrN w T) (hs : SzT T) (hsm : ∀ p ∈ T.t.pages, eP p) (hok : wkB T.t 0 at0) (h3 : 0 <= 3), aR Tryz.prog 91 [.agg #[I T.root, .slice T.A T.l.length T.cp], I at0] w (λ v w1 => ∃ (A1 : Option Addr) (c1 : Nat), v = .slice A1 (aS T.t 0 at0).length c1 /\ Mem w w1 [] [oI A1 c1 (aS T.t 0 at0)]) := by
 intro T at0 w hNT hs hsm hok h3; cases hok
theorem aMj (n : Nat) (ih_fn : ∀ (T : bN) (at0 : Int) (w : World) (hNT : TrN w T) (hs : SzT T) (hsm : ∀ p ∈ T.t.pages, eP p) (hok : wkB T.t n at0) (h3 : n <= 3), aR Tryz.prog 91 [.agg #[I T.root, .slice T.A T.l.length T.cp], I at0] w (λ v w1 => ∃ (A1 : Option Addr) (c1 : Nat), v = .slice A1 (aS T.t n at0).length c1 /\ Mem w w1 [] [oI A1 c1 (aS T.t n at0)])) (T : bN) (at0 : Int) (w : World) (hNT : TrN w T) (hs : SzT T) (hsm : ∀ p ∈ T.t.pages, eP p) (hok : wkB T.t (n + 1) at0) (h3 : (n + 1) <= 3) :
  aR Tryz.prog 91 [.agg #[I T.root, .slice T.A T.l.length T.cp], I at0] w (λ v w1 => ∃ (A1 : Option Addr) (c1 : Nat), v = .slice A1 (aS T.t (n + 1) at0).length c1 /\ Mem w w1 [] [oI A1 c1 (aS T.t (n + 1) at0)]) := by
 have hM : Mem w w [] [] := Mem.refl
 refine aR.n1 Tryz.func91 rfl Tryz.results91 Tryz.ntmps91 rfl ?_
 have hat := fI.1 hok.1
 have hjx : at0.toNat < T.l.length := by omega
 have hki : (gP T.t at0).kids = (T.l[at0.toNat]'hjx).c.l := by rw [jH rfl hjx]; rfl
 have hsz := hs.at hjx
 have hsl := oC hsm hok h3
 have hse : aS T.t (n + 1) at0 = at0 :: (T.l[at0.toNat]'hjx).c.l.flatMap (aS T.t n) := by simp only [aS]; rw [hki]
 refine Bx 2 [] λ F0 u0 z0 w0 => ?_
 refine Lt 5 [] (([at0]).map I) (λ G0 i0 A0 k0 => ?_)
 have o0 : ([at0] : List Int) = at0 :: ((T.l[at0.toNat]'hjx).c.l.take 0).flatMap (aS T.t n) := t11
 have x0 := k0.reM 0 o0
 refine lp3 8 [] (λ (k : Nat) (A2 : Option Addr) (c2 : Nat) => ([(5, Vl A2 (at0 :: ((T.l[at0.toNat]'hjx).c.l.take k).flatMap (aS T.t n)).length c2), (6, Vi ((k : Nat) : Int))] : List (Nat × SV))) (λ k A2 c2 => (k <= (T.l[at0.toNat]'hjx).c.l.length)) (λ k A2 c2 => [oI A2 c2 (at0 :: ((T.l[at0.toNat]'hjx).c.l.take k).flatMap (aS T.t n))]) (λ k A2 c2 => (T.l[at0.toNat]'hjx).c.l.length - k) [1, 2] [0] [1] 0 (bl i0) 1 (λ k A2 c2 σ J0 hI d0 => ?_) (h0 := (bI _))
 have E0 := hI
 have C0 := (d0.cap 0 rfl).1
 have e0 : at0.toNat < T.l.length := t3
 refine ov 7 [1] (a := cJ e0 (hNT.at d0).1) (b := ?_)
 refine ov 0 [] (a := fZ e0 (hNT.at d0).1) (b := ?_)
 refine ov 0 [] (a := gF e0 (hNT.at d0).1) (b := ?_)
 refine cd 3 [] (λ c17 => ?_) (λ c17 => ?_)
 refine any 3 [] 14 [1] λ s0 a0 => ?_
 have b0 : at0.toNat < T.l.length := t3
 refine av [0, 1, 2, 3, 4] [0, 0] 5 (a := by exact λ _ hw2 => cJ b0 (hNT.at a0).1) (b := ?_)
 refine av [] [] 6 (a := by exact λ _ hw2 => fZ b0 (hNT.at a0).1) (b := ?_)
 refine aO [8] [] 7 ?_
 refine ov 0 [] (a := gF b0 (hNT.at a0).1) (b := ?_)
 refine os 0 [] [1] ?_
 have c0 : k < (T.l[at0.toNat]'b0).c.l.length := t3
 refine av [] [] 9 (a := by exact λ _ hw2 => cG c0 ((hNT.at a0).2.get b0).2.1) (b := ?_)
 have hok1 := aKj hok (k := k) (by rw [hki]; exact c0)
 simp only [hki] at hok1
 have hsl1 := oC hsm hok1 t1
 have hfs := vD (f := aS T.t n) c0
 refine aO [] [] 10 ?_
 refine ov 0 [] (a := eT c0 ((hNT.at a0).2.get b0).2.1) (b := ?_)
 refine os 0 [] [1] ?_
 refine aO [] [] 11 ?_
 refine cq 0 [] (b := ih_fn T _ s0 (hNT.at a0) q0 (by exact hsm) (by exact hok1) qo) (c := ?_)
 rintro _ H0 ⟨t0, v0, rfl, n0⟩
 have f0 := a0.cl 0 n0
 have D0 := (f0.cap 0 rfl).1
 refine os 0 [] [2] ?_
 refine aO [] [] 12 ?_
 refine aM 0 [] 1 (f0.rd 0 rfl) (λ I0 g0 j0 B0 l0 => ?_) (hn := by have h8 := congrArg List.length hse; have h9 := congrArg List.length hfs; have h7 := tM (f := aS T.t n) c0; simp only [aA, aG] at h8 h9 h7 ⊢; omega) (hb := by have h8 := congrArg List.length hse; have h9 := congrArg List.length hfs; have h7 := tM (f := aS T.t n) c0; simp only [aA, aG] at h8 h9 h7 ⊢; omega)
 refine os 0 [] [2] ?_
 refine an [13] [] ?_
 refine ov 2 [] (a := bL (k + 1)) (b := ?_)
 have p0 : (at0 :: ((T.l[at0.toNat]'hjx).c.l.take k).flatMap (aS T.t n) ++ (aS T.t n (((T.l[at0.toNat]'b0).c.l)[k]'c0)) : List Int) = at0 :: ((T.l[at0.toNat]'hjx).c.l.take (k + 1)).flatMap (aS T.t n) := (by rw [<- hfs]; simp)
 have y0 := l0.reM 1 p0
 exact le3 2 [] (k + 1) g0 j0 [1, 2] (h := t9)
 refine E1 7 [] (.slice A2 (at0 :: ((T.l[at0.toNat]'hjx).c.l.take k).flatMap (aS T.t n)).length c2) ?_
 have hkk : (T.l[at0.toNat]'hjx).c.l.take k = (T.l[at0.toNat]'hjx).c.l := aE t1
 have r0 : (at0 :: ((T.l[at0.toNat]'hjx).c.l.take k).flatMap (aS T.t n) : List Int) = (aS T.t (n + 1) at0) := (by rw [hse, hkk])
 have m0 := d0.reM 0 r0
 exact ⟨A2, c2, (sl_congr (by rw [hse, hkk])), (m0.pk [0])⟩
theorem aPs : ∀ (n : Nat), ∀ (T : bN) (at0 : Int) (w : World) (hNT : TrN w T) (hs : SzT T) (hsm : ∀ p ∈ T.t.pages, eP p) (hok : wkB T.t n at0) (h3 : n <= 3), aR Tryz.prog 91 [.agg #[I T.root, .slice T.A T.l.length T.cp], I at0] w (λ v w1 => ∃ (A1 : Option Addr) (c1 : Nat), v = .slice A1 (aS T.t n at0).length c1 /\ Mem w w1 [] [oI A1 c1 (aS T.t n at0)]) := by
 intro n
 induction n with
 | zero => exact aMi
 | succ n ih => exact aMj n ih
theorem aFb (T : bN) (w : World) (hNT : TrN w T) (hs : SzT T) (hwk : WK T.t) :
  aR Tryz.prog 152 [.agg #[I T.root, .slice T.A T.l.length T.cp]] w (λ v w1 => ∃ (A1 : Option Addr) (c1 : Nat), v = .slice A1 (dN T.t).length c1 /\ Mem w w1 [] [oI A1 c1 (dN T.t)]) := by
 have hM : Mem w w [] [] := Mem.refl
 refine aR.n1 Tryz.func152 rfl Tryz.results152 Tryz.ntmps152 rfl ?_
 have hsl := oC hwk.2.2 hwk.1 t1
 rw [show T.t.root = T.root from rfl] at hsl
 have hlk : dN T.t = (aS T.t 3 T.root).filter (oF T.t) := rfl
 refine Bx 2 [] λ L0 w0 D0 z0 => ?_
 refine Lt 4 [] (([]).map I) (λ u0 j0 E0 d0 => ?_)
 refine cq 7 [1, 1] (b := aPs 3 T _ u0 (hNT.at d0) q0 (by exact hwk.2.2) (by exact hwk.1) qo) (c := ?_)
 rintro _ M0 ⟨v0, y0, rfl, o0⟩
 have e0 := d0.cl 0 o0
 have J0 := (e0.cap 0 rfl).1
 have p0 : ([] : List Int) = ((aS T.t 3 T.root).take 0).filter (oF T.t) := t11
 have A0 := e0.reM 1 p0 (f := I)
 refine lp3 8 [] (λ (k : Nat) (A2 : Option Addr) (c2 : Nat) => ([(3, Vl A2 (((aS T.t 3 T.root).take k).filter (oF T.t)).length c2), (5, Vi ((k : Nat) : Int))] : List (Nat × SV))) (λ k A2 c2 => (k <= (aS T.t 3 T.root).length)) (λ k A2 c2 => [oI A2 c2 (((aS T.t 3 T.root).take k).filter (oF T.t))]) (λ k A2 c2 => (aS T.t 3 T.root).length - k) [1, 4] [1] [0, 2] 0 (bl j0) 0 (λ k A2 c2 σ Q0 hI b0 => ?_) (h0 := (bI _))
 have K0 := hI
 have H0 := (b0.cap 0 rfl).1
 have I0 := (b0.cap 1 rfl).1
 refine cd 8 [] (λ c14 => ?_) (λ c14 => ?_)
 have hkx : k < (aS T.t 3 T.root).length := by omega
 obtain ⟨x9, hx9⟩ : ∃ z, z = (aS T.t 3 T.root)[k]'hkx := ⟨_, rfl⟩
 have hmx := qS hwk.1 (x := x9) (by rw [hx9]; exact aC hkx)
 have hxi := fI.1 hmx.1
 have hjx : x9.toNat < T.l.length := by omega
 have hgx : gP T.t x9 = (T.l[x9.toNat]'hjx).t := jH rfl hjx
 have hft := aEl (p := oF T.t) hkx
 rw [<- hx9] at hft
 have hfl := zT (p := oF T.t) (l := (aS T.t 3 T.root)) (k := k)
 refine dr 4 [] ?_
 have f0 : k < (aS T.t 3 T.root).length := hkx
 refine qv 4 [2] (a := by exact λ _ hw2 => cG f0 (hw2.rd 1 rfl) (h0 := t1)) (b := ?_)
 refine qv 0 [] (s := Vi x9) (a := by exact λ w2 hw2 => cv (Ru.congr (Ru.load1 el3 rfl (ldm (hw2.rd 1 rfl) f0)) (I_congr hx9.symm)) rfl) (b := ?_)
 have c0 : x9.toNat < T.l.length := t1
 refine qv 0 [] (a := by exact λ _ hw2 => cJ c0 (hNT.at hw2).1 (h0 := t1)) (b := ?_)
 refine qv 0 [] (a := by exact λ _ hw2 => fZ c0 (hNT.at hw2).1) (b := ?_)
 refine qv 0 [] (a := by exact λ _ hw2 => gF c0 (hNT.at hw2).1) (b := ?_)
 refine qn 2 [] λ N0 a0 => ?_
 refine cd 0 [] (λ c27 => ?_) (λ c27 => ?_)
 have hlf : oF T.t x9 = true := by unfold oF; rw [hgx]; exact decide_eq_true (aP (by show (T.l[x9.toNat]'hjx).c.l.length = 0; omega))
 rw [hlf, if_pos rfl] at hft
 have g0 : k < (aS T.t 3 T.root).length := hkx
 refine ov 4 [] (a := cG g0 (a0.rd 1 rfl) (h0 := t1)) (b := ?_)
 refine ov 0 [] (s := Vi x9) (a := by exact cv (Ru.congr (Ru.load1 el3 rfl (ldm (a0.rd 1 rfl) g0)) (I_congr hx9.symm)) rfl) (b := ?_)
 refine Lt 0 [] (([x9]).map I) (λ O0 x0 F0 l0 => ?_)
 refine aM 0 [] 1 (l0.rd 0 rfl) (λ P0 i0 k0 G0 m0 => ?_) (hn := t5) (hb := t5)
 refine ov 4 [] (a := bL (k + 1)) (b := ?_)
 have r0 : (((aS T.t 3 T.root).take k).filter (oF T.t) ++ [x9] : List Int) = ((aS T.t 3 T.root).take (k + 1)).filter (oF T.t) := hft.symm
 have B0 := m0.reM 1 r0
 exact le3 2 [] (k + 1) i0 k0 [1, 2, 3] (h := t9)
 have hlf : oF T.t x9 = false := by unfold oF; rw [hgx]; exact decide_eq_false (λ e9 => absurd (show (T.l[x9.toNat]'hjx).c.l.length = 0 from congrArg List.length e9) t1)
 rw [hlf, if_neg t11, cS] at hft
 refine ov 3 [] (a := bL (k + 1)) (b := ?_)
 have s0 : (((aS T.t 3 T.root).take k).filter (oF T.t) : List Int) = ((aS T.t 3 T.root).take (k + 1)).filter (oF T.t) := hft.symm
 have C0 := a0.reM 0 s0
 exact le3 2 [] (k + 1) A2 c2 [0, 1, 2] (h := t9)
 refine E1 7 [] (.slice A2 (((aS T.t 3 T.root).take k).filter (oF T.t)).length c2) ?_
 have t0 : (((aS T.t 3 T.root).take k).filter (oF T.t) : List Int) = dN T.t := (by rw [hlk, aE t1])
 have n0 := b0.reM 0 t0
 exact ⟨A2, c2, (sl_congr (by rw [hlk, aE t1])), (n0.pk [0])⟩
theorem yU (T : bN) (w : World) (hNT : TrN w T) (hs : SzT T) (hwk : WK T.t) :
  aR Tryz.prog 116 [.agg #[I T.root, .slice T.A T.l.length T.cp]] w (λ v w1 => ∃ (A1 : Option Addr) (c1 : Nat), v = .slice A1 (bZ T.t).length c1 /\ Mem w w1 [] [oP A1 c1 (bZ T.t)]) := by
 have hM : Mem w w [] [] := Mem.refl
 refine aR.n1 Tryz.func116 rfl Tryz.results116 Tryz.ntmps116 rfl ?_
 have hsl := oC hwk.2.2 hwk.1 t1
 have hll : (dN T.t).length <= 343 := cR qH hsl
 have hpi : ∀ x ∈ (dN T.t), inT T.t x = true := λ x hx => (qS hwk.1 (eX.1 hx).1).1
 refine Bx 2 [] λ L0 x0 D0 A0 => ?_
 refine Lt 4 [] (([]).flatMap cY) (λ t0 j0 E0 d0 => ?_)
 refine cq 5 [1] (b := aFb T t0 (hNT.at d0) q0 (by exact hwk)) (c := ?_)
 rintro _ M0 ⟨v0, y0, rfl, n0⟩
 have e0 := d0.cl 0 n0
 have I0 := (e0.cap 0 rfl).1
 have p0 : ([] : List PairT) = cU T.t ((dN T.t).take 0) := (by simp [cU])
 have B0 := e0.reF 1 p0 (f := cY)
 refine lp3 8 [] (λ (k : Nat) (A2 : Option Addr) (c2 : Nat) => ([(3, Vl A2 (cU T.t ((dN T.t).take k)).length c2), (5, Vi ((k : Nat) : Int))] : List (Nat × SV))) (λ k A2 c2 => (k <= (dN T.t).length)) (λ k A2 c2 => [oP A2 c2 (cU T.t ((dN T.t).take k))]) (λ k A2 c2 => (dN T.t).length - k) [1, 4] [1] [0, 2] 0 (bl j0) 0 (λ k A2 c2 σ P0 hI c0 => ?_) (h0 := (bI _))
 have K0 := hI
 have G0 := (c0.cap 0 rfl).1
 have H0 := (c0.cap 1 rfl).1
 refine cd 8 [] (λ c12 => ?_) (λ c12 => ?_)
 have hkx : k < (dN T.t).length := by omega
 obtain ⟨x9, hx9⟩ : ∃ z, z = (dN T.t)[k]'hkx := ⟨_, rfl⟩
 have hxm : x9 ∈ (dN T.t) := by rw [hx9]; exact aC hkx
 have hmx := qS hwk.1 (eX.1 hxm).1
 have hxi := fI.1 hmx.1
 have hjx : x9.toNat < T.l.length := by omega
 have hgx : gP T.t x9 = (T.l[x9.toNat]'hjx).t := jH rfl hjx
 have hxv := hmx.2 (by have h9 := (eX.1 hxm).2; unfold oF at h9; exact of_decide_eq_true h9)
 rw [hgx] at hxv
 have hxv : (T.l[x9.toNat]'hjx).v.l.length = (T.l[x9.toNat]'hjx).k.l.length := hxv
 have hsx := iP hwk.2.2 hmx.1
 rw [hgx] at hsx
 have hk5 : (T.l[x9.toNat]'hjx).k.l.length <= 5 := hsx.1
 have hpt := uB (T := T.t) hkx
 rw [<- hx9, hgx] at hpt
 have hpl := mL hwk.2.2 (l := (dN T.t).take k) (λ x hx => hpi x (cN hx))
 rw [aB, dX t1] at hpl
 refine any 3 [] 12 [1, 2] λ u0 a0 => ?_
 have g0 : k < (dN T.t).length := hkx
 refine av [0, 1, 2, 3, 4] [1] 5 (a := by exact λ _ hw2 => cG g0 (a0.rd 1 rfl) (h0 := t1)) (b := ?_)
 refine av [] [] 6 (s := Vi x9) (a := by exact λ w2 hw2 => cv (Ru.congr (Ru.load1 el3 rfl (ldm (hw2.rd 0 rfl) g0)) (I_congr hx9.symm)) rfl) (b := ?_)
 have b0 : x9.toNat < T.l.length := t1
 refine av [] [] 7 (a := by exact λ _ hw2 => cJ b0 (hNT.at a0).1 (h0 := t1)) (b := ?_)
 refine aO [] [] 8 ?_
 refine ov 0 [] (a := gL b0 (hNT.at a0).1) (b := ?_)
 refine os 0 [] [1, 2] ?_
 refine aO [] [] 9 ?_
 refine cq 0 [] (b := jJ (T.l[x9.toNat]'b0) u0 ((hNT.at a0).2.get b0) qo (by exact hxv)) (c := ?_)
 rintro _ O0 ⟨w0, z0, rfl, o0⟩
 have f0 := a0.cl 0 o0
 have J0 := (f0.cap 0 rfl).1
 refine os 0 [] [2, 3] ?_
 refine aO [] [] 10 ?_
 refine aF 0 [] 1 (f0.rd 0 rfl) (λ N0 i0 k0 F0 l0 => ?_) (hn := by first | omega | (simp only [aA, dF]; omega)) (hb := by first | omega | (simp only [aA, dF]; omega))
 refine os 0 [] [2, 3] ?_
 refine an [11] [] ?_
 refine ov 2 [] (a := bL (k + 1)) (b := ?_)
 have r0 : (cU T.t ((dN T.t).take k) ++ aV (T.l[x9.toNat]'b0).t : List PairT) = cU T.t ((dN T.t).take (k + 1)) := hpt.symm
 have C0 := l0.reF 1 r0
 exact le3 2 [] (k + 1) i0 k0 [1, 2, 3] (h := t9)
 refine E1 7 [] (.slice A2 (cU T.t ((dN T.t).take k)).length c2) ?_
 have s0 : (cU T.t ((dN T.t).take k) : List PairT) = bZ T.t := (by rw [aE t1]; rfl)
 have m0 := c0.reF 0 s0
 exact ⟨A2, c2, (sl_congr (by rw [aE t1]; rfl)), (m0.pk [0])⟩
theorem aLg (T : bN) (key : Int) (w : World) (hNT : TrN w T) (hs : SzT T) (hwk : WK T.t) :
  aR Tryz.prog 175 [.agg #[I T.root, .slice T.A T.l.length T.cp], I key] w (λ v w1 => v = .bool (cT (bZ T.t) key) /\ Mem w w1 [] []) := by
 have hM : Mem w w [] [] := Mem.refl
 refine aR.n1 Tryz.func175 rfl Tryz.results175 Tryz.ntmps175 rfl ?_
 have hsl := oC hwk.2.2 hwk.1 t1
 have hll : (dN T.t).length <= 343 := cR qH hsl
 have hpi : ∀ x ∈ (dN T.t), inT T.t x = true := λ x hx => (qS hwk.1 (eX.1 hx).1).1
 have hpl := mL hwk.2.2 hpi
 have hpk : (bZ T.t).length <= 1715 := by show (cU T.t (dN T.t)).length <= 1715; omega
 refine Bx 2 [] λ g0 l0 o0 b0 => ?_
 refine cq 5 [0] (b := yU T g0 (hNT.at b0) q0 (by exact hwk)) (c := ?_)
 rintro _ h0 ⟨j0, m0, rfl, e0⟩
 have a0 := b0.cl 0 e0
 have p0 := (a0.cap 0 rfl).1
 refine cq 0 [] (b := kB _ _ _ h0 (a0.rd 0 rfl) qo) (c := ?_)
 rintro _ i0 ⟨k0, n0, rfl, f0⟩
 have c0 := a0.cl 0 f0
 have r0 := (c0.cap 0 rfl).1
 refine cp 1 [] (b := wQ _ _ _ _ i0 (c0.rd 0 rfl) (by first | omega | (simp only [bC]; omega))) (c := λ s0 d0 => ?_)
 refine E1 3 [] (.bool (decide (key ∈ (bG (bZ T.t))))) ?_
 exact ⟨(by first | rfl | (unfold cT; rfl)), (Mem.none d0)⟩
end Go.Proofs.YtemejgglbhjodaaGreatDoor
namespace Go.Proofs.YtemejgglbhjodaaGreatDoor
open Go.Px
set_option maxHeartbeats 8000000 in
theorem aEf (T : bN) (key : Int) (w : World) (hNT : TrN w T) (hs : SzT T) (hv : aN T.t = true) :
  aR Tryz.prog 176 [.agg #[I T.root, .slice T.A T.l.length T.cp], I key] w (λ v w1 => ∃ (r1 : Int) (j1 : Int) (L1 : List PgL) (A1 : Option Addr) (c1 : Nat), v = .tuple #[.agg #[I r1, .slice A1 L1.length c1], I j1] /\ ((⟨r1, tsG L1⟩ : TrT) = lH T.t key) /\ Mem w w1 [] [oG A1 c1 L1, L1.flatMap (pgF 3)]) := by
 have hM : Mem w w [] [] := Mem.refl
 refine aR.nG (rs := [.cell 4 25, .tmp 5]) Tryz.func176 rfl Tryz.results176 Tryz.ntmps176 rfl ?_
 have hvk := eF hv
 have hP := kK (key := key) hv
 have hpp := hP.pos
 have hp3 := hP.le
 have hl16 := fN hv
 rw [cP] at hl16
 obtain ⟨lf, hlf⟩ : ∃ z, z = gM (aY T.t key) := ⟨_, rfl⟩
 have hli := fI.1 (hP.inn ((aY T.t key).length - 1) t1)
 rw [show (aY T.t key).getD ((aY T.t key).length - 1) 0 = lf from hlf.symm] at hli
 have hjl : lf.toNat < T.l.length := by omega
 have hgl : gP T.t lf = (T.l[lf.toNat]'hjl).t := jH rfl hjl
 have hszl := hs.at hjl
 have hfl := hP.fr ((aY T.t key).length - 1) t1
 have hkl := hP.leaf
 rw [show (aY T.t key).getD ((aY T.t key).length - 1) 0 = lf from hlf.symm] at hfl hkl
 have hvl := (jS hfl hkl).1
 have hrl := gI hfl hkl
 have h4l := iA hfl
 rw [hgl] at hvl hrl h4l
 have hvl0 : (T.l[lf.toNat]'hjl).v.l.length = (T.l[lf.toNat]'hjl).k.l.length := hvl
 have h4l0 : (T.l[lf.toNat]'hjl).k.l.length <= 4 := h4l
 have hpl := uZ (r := aV (T.l[lf.toNat]'hjl).t) (k := key)
 rw [dF] at hpl
 have hL := nO hv
 have hir : 0 <= T.root /\ T.root < (T.l.length : Int) := fI.1 hL.r3.2
 refine Bx 2 [] λ B5 t0 L4 q4 => ?_
 refine Al 0 [] λ g4 u0 M4 S1 => ?_
 refine cq 5 [1] (b := pP T g4 (hNT.at S1) q0) (c := ?_)
 rintro _ F5 ⟨z0, o2, s2, rfl, y1, N2⟩
 have y2 := S1.cl 0 N2
 have q5 := (y2.cap 0 rfl).1
 have hLl := nM y1
 refine Al 0 [] λ G5 n0 O4 r4 => ?_
 refine Sb 0 [] 0 λ h4 T1 => ?_
 refine cq 5 [4] (b := vK T _ h4 (hNT.at T1) q0 q0) (c := ?_)
 rintro _ J5 ⟨p0, v0, rfl, P2⟩
 have C2 := T1.cl 0 P2
 have s5 := (C2.cap 0 rfl).1
 refine ov 6 [] (a := eV) (b := ?_)
 refine any 3 [] 16 [0, 1, 2, 3, 4, 5] λ l4 U0 => ?_
 have D1 : ((aY T.t key).length - 1) < (aY T.t key).length := t1
 refine av [0, 1, 2, 3] [5] 4 (a := by exact λ _ hw2 => cG D1 (U0.rd 0 rfl) (h0 := t1)) (b := ?_)
 refine av [] [] 5 (s := Vi lf) (a := by exact λ w2 hw2 => cv (Ru.congr (Ru.load1 el3 rfl (ldm (hw2.rd 0 rfl) D1)) (I_congr ((bF D1).symm.trans hlf.symm))) rfl) (b := ?_)
 have b0 : lf.toNat < T.l.length := t1
 refine av [] [] 6 (a := by exact λ _ hw2 => cJ b0 (hNT.at U0).1 (h0 := t1)) (b := ?_)
 refine aO [9] [] 7 ?_
 refine ov 0 [] (a := gL b0 (hNT.at U0).1) (b := ?_)
 refine os 0 [] [0, 1, 2, 3, 4, 5] ?_
 refine aO [] [] 8 ?_
 refine cq 0 [] (b := jJ (T.l[lf.toNat]'b0) l4 ((hNT.at U0).2.get b0) qo (by exact hvl0)) (c := ?_)
 rintro _ k4 ⟨s0, x0, rfl, R2⟩
 have i1 := U0.cl 0 R2
 have v5 := (i1.cap 0 rfl).1
 refine os 0 [] [1, 2, 3, 4, 5, 6] ?_
 refine aO [] [] 10 ?_
 refine cq 0 [] (b := aCx _ _ _ _ k4 (i1.rd 0 rfl) (by rw [dF]; omega) qo (by exact hrl)) (c := ?_)
 rintro _ K5 ⟨r0, w0, rfl, Q2⟩
 have D2 := i1.cl 0 Q2
 have u5 := (D2.cap 0 rfl).1
 refine os 0 [] [2, 3, 4, 5, 6, 7] ?_
 refine an [11, 12, 13, 14, 15] [] ?_
 refine any 1 [] 10 [0, 1, 2, 3, 5, 6, 7] λ m4 k1 => ?_
 have E1 : ((aY T.t key).length - 1) < (aY T.t key).length := t1
 refine av [0, 1, 2, 3] [3] 4 (a := by exact λ _ hw2 => cG E1 (k1.rd 2 rfl) (h0 := t1)) (b := ?_)
 refine av [] [] 5 (s := Vi lf) (a := by exact λ w2 hw2 => cv (Ru.congr (Ru.load1 el3 rfl (ldm (hw2.rd 2 rfl) E1)) (I_congr ((bF E1).symm.trans hlf.symm))) rfl) (b := ?_)
 refine aO [6] [] 7 ?_
 refine cq 0 [] (b := kJ _ _ _ m4 (k1.rd 0 rfl) qo qo) (c := ?_)
 rintro _ L5 ⟨J1, P1, K1, Q1, M1, R1, rfl, S2⟩
 have f1 := k1.cl 0 S2
 have w5 := (f1.cap 0 rfl).1
 have x5 := (f1.cap 1 rfl).1
 have y5 := (f1.cap 2 rfl).1
 refine os 0 [] [3, 4, 5, 6, 8, 9, 10] ?_
 have f2 : lf.toNat < z0.length := t1
 refine av [] [] 8 (a := by exact λ _ hw2 => cJ f2 (f1.rd 7 rfl) (h0 := t1)) (b := ?_)
 refine aO [] [] 9 ?_
 let I0 : PgL := (⟨⟨J1, P1, bG (eY (aV (T.l[lf.toNat]'b0).t) key)⟩, ⟨K1, Q1, ([] : List Int)⟩, ⟨M1, R1, (eY (aV (T.l[lf.toNat]'b0).t) key).map PairT.val⟩⟩ : PgL)
 refine sF 0 [] 7 I0 f2 λ M5 E2 => ?_
 refine os 0 [] [3, 4, 5, 6, 8, 9, 10] ?_
 refine an [] [] ?_
 have G2 := Mem.gset (k := ⟨J1, P1, bG (eY (aV (T.l[lf.toNat]'b0).t) key)⟩) (c := ⟨K1, Q1, ([] : List Int)⟩) (v := ⟨M1, R1, (eY (aV (T.l[lf.toNat]'b0).t) key).map PairT.val⟩) lf.toNat (E2.pk [8, 0, 1, 2, 3, 4, 5, 6, 7, 9, 10])
 have L2 := G2.rF 5 (z0.set lf.toNat I0 : List PgL) (e := rfl)
 have B4 := L2.reB 4 1 (show z0.length = (z0.set lf.toNat I0).length from t2)
 refine Lt 2 [] (([]).map I) (λ N5 q2 P4 F2 => ?_)
 refine ct7 2 [] (λ (a1 : Nat) (Ch1 : List PgL) (g1 : List Int) (A7 : Option Addr) (c7 : Nat) (A8 : Option Addr) (c8 : Nat) => ([(11, Vl A8 g1.length c8)] : List (Nat × SV))) (λ a1 Ch1 g1 A7 c7 A8 c8 => (DV T.t (aY T.t key) a1 ((⟨T.root, tsG Ch1⟩ : TrT), g1)) /\ (mK (aY T.t key) (aY T.t key).length (fP T.t (aY T.t key) key, []) = ((⟨T.root, tsG Ch1⟩ : TrT), g1))) (λ a1 Ch1 g1 A7 c7 A8 c8 => [oI A8 c8 g1, Ch1.flatMap (pgF 3), [⟨.slice (bl n0) 1 1, 25, 2, 1, [I T.root, .slice A7 Ch1.length c7]⟩], oG A7 c7 Ch1]) [4, 6] [2, 3, 4, 7, 8] ?_ (λ a1 Ch1 g1 A7 c7 A8 c8 σ O5 hI C0 => ?_)
 have M2 := F2.rF 6 ((z0.set lf.toNat I0) : List PgL) (e := t2)
 have X2 : ([] : List Int) = ([] : List Int) := t2
 have J4 := M2.reM 0 X2 (f := I)
 refine lp7 1 [] (λ (a : Nat) (Ch : List PgL) (g9 : List Int) (A2 : Option Addr) (c2 : Nat) (A3 : Option Addr) (c3 : Nat) => ([(8, Vi (((a : Nat) : Int) - 1)), (11, Vl A3 g9.length c3)] : List (Nat × SV))) (λ a Ch g9 A2 c2 A3 c3 => (DV T.t (aY T.t key) a ((⟨T.root, tsG Ch⟩ : TrT), g9)) /\ (mK (aY T.t key) a ((⟨T.root, tsG Ch⟩ : TrT), g9) = mK (aY T.t key) (aY T.t key).length (fP T.t (aY T.t key) key, []))) (λ a Ch g9 A2 c2 A3 c3 => [oI A3 c3 g9, Ch.flatMap (pgF 3), [⟨.slice (bl n0) 1 1, 25, 2, 1, [I T.root, .slice A2 Ch.length c2]⟩], oG A2 c2 Ch]) (λ a Ch g9 A2 c2 A3 c3 => a) [4, 6, 7] [0, 1, 5, 6] [2, 3, 4, 7, 8] (aY T.t key).length (z0.set lf.toNat I0) (([] : List Int) : List Int) o2 s2 (bl q2) 0 (λ a Ch g9 A2 c2 A3 c3 σ S5 hI b1 => ?_) (h0 := ⟨(by (try dsimp only); rw [show (⟨T.root, tsG (z0.set lf.toNat I0)⟩ : TrT) = fP T.t (aY T.t key) key from (by rw [cV, y1]; unfold fP cF; rw [<- hlf, hgl]; rfl)]; exact DV.start hv hP), (by (try dsimp only); rw [show (⟨T.root, tsG (z0.set lf.toNat I0)⟩ : TrT) = fP T.t (aY T.t key) key from (by rw [cV, y1]; unfold fP cF; rw [<- hlf, hgl]; rfl)])⟩)
 obtain ⟨U2, D0⟩ := hI
 have V4 := (b1.cap 0 rfl).1
 have a5 := (b1.cap 3 rfl).1
 have f5 := (b1.cap 4 rfl).1
 have k5 := (b1.cap 5 rfl).1
 have p5 := (b1.cap 6 rfl).1
 have hD := U2
 have ha1 := hD.a1
 obtain ⟨cur, hcu⟩ : ∃ z, z = (aY T.t key).getD (a - 1) 0 := ⟨_, rfl⟩
 have hcl := hD.len
 simp only [cP, bC] at hcl
 have hci := fI.1 (hP.inn (a - 1) t1)
 rw [<- hcu] at hci
 have hjc : cur.toNat < Ch.length := by omega
 have hgc : gP (⟨T.root, tsG Ch⟩ : TrT) cur = (Ch[cur.toNat]'hjc).t := jW hjc
 have hsm := hD.small
 have hzc : SzT ⟨T.root, A2, c2, Ch⟩ := fF hsm t1
 have hgl9 : g9.length + a <= (aY T.t key).length := hD.gl
 refine dr 2 [] ?_
 refine qp 3 [] 52 (λ g52 => ?_) (λ g52 => ?_)
 have F1 : (a - 1) < (aY T.t key).length := t1
 refine qv 4 [2] (a := by exact λ _ hw2 => cG F1 (hw2.rd 6 rfl) (h0 := t1)) (b := ?_)
 refine qv 0 [] (s := Vi cur) (a := by exact λ w2 hw2 => cv (Ru.congr (Ru.load1 el3 rfl (ldm (hw2.rd 6 rfl) F1)) (I_congr ((bF F1).symm.trans hcu.symm))) rfl) (b := ?_)
 have G1 : cur.toNat < Ch.length := t1
 refine qv 0 [] (a := by exact λ _ hw2 => cJ G1 (hw2.rd 3 rfl) (h0 := t1)) (b := ?_)
 refine qv 0 [] (a := by exact λ _ hw2 => fZ G1 (hw2.rd 3 rfl)) (b := ?_)
 refine qv 0 [] (a := by exact λ _ hw2 => gF G1 (hw2.rd 3 rfl)) (b := ?_)
 refine qn 3 [] λ n4 V0 => ?_
 refine cd 0 [] (λ c64 => ?_) (λ c64 => ?_)
 have hk2 : ¬ 2 <= (gP (⟨T.root, tsG Ch⟩ : TrT) ((aY T.t key).getD (a - 1) 0)).keys.length := by rw [<- hcu, hgc]; show ¬ 2 <= (Ch[cur.toNat]'hjc).k.l.length; omega
 have ha2 : 2 <= a := by omega
 have hmk := hD.place hv hP ha2
 have hmd := hD.md hmk
 have hDn := hD.next hv ha2 hmk
 have hgo := tW (P := (aY T.t key)) (s := ((⟨T.root, tsG Ch⟩ : TrT), g9)) ha2 hk2
 obtain ⟨up9, hup⟩ : ∃ z, z = (aY T.t key).getD (a - 2) 0 := ⟨_, rfl⟩
 have hui := fI.1 hmk.iu
 rw [<- hup] at hui
 have hju : up9.toNat < Ch.length := by omega
 have hgu : gP (⟨T.root, tsG Ch⟩ : TrT) up9 = (Ch[up9.toNat]'hju).t := jW hju
 rw [<- hup, <- hcu, hgu] at hmd hDn hgo
 have hpk : -1 <= dE (Ch[up9.toNat]'hju).c.l cur /\ dE (Ch[up9.toNat]'hju).c.l cur <= 1000 := by unfold dE; have h9 := (hsm _ (gP_mem (T := (⟨T.root, tsG Ch⟩ : TrT)) (i := up9) (aX.2 t23))).2.1; rw [hgu] at h9; have h8 : (Ch[up9.toNat]'hju).c.l.length <= 6 := h9; split; (have h7 := jT.2 t25; omega); omega
 have hszu : (Ch[up9.toNat]'hju).k.l.length <= 1048576 /\ (Ch[up9.toNat]'hju).c.l.length <= 1048576 /\ (Ch[up9.toNat]'hju).v.l.length <= 1048576 := hzc.at hju
 refine ov 6 [] (a := eV) (b := ?_)
 have h2 : (a - 1 - 1) < (aY T.t key).length := t1
 refine ov 0 [] (a := cG h2 (V0.rd 6 rfl) (h0 := t1)) (b := ?_)
 refine ov 0 [] (s := Vi up9) (a := by exact cv (Ru.congr (Ru.load1 el3 rfl (ldm (V0.rd 6 rfl) h2)) (I_congr (by rw [hup, show a - 2 = a - 1 - 1 by omega, bF (show a - 1 - 1 < (aY T.t key).length by omega)]))) rfl) (b := ?_)
 have hcp9 : ∀ (j : Nat) (h : j < Ch.length), Ch[j].k.l.length <= Ch[j].k.cp /\ Ch[j].c.l.length <= Ch[j].c.cp := λ j h => ⟨(V0.gcap 1 rfl h).1, (V0.gcap 1 rfl h).2.1⟩
 refine any 3 [] 20 [0, 1, 2, 3, 4, 5, 6, 7, 8] λ o4 X0 => ?_
 have o0 : up9.toNat < Ch.length := hju
 refine av [0, 1, 2, 3, 4] [2, 2] 5 (a := by exact λ _ hw2 => cJ o0 (X0.rd 3 rfl) (h0 := t1)) (b := ?_)
 refine av [] [] 6 (a := by exact λ _ hw2 => fZ o0 (X0.rd 3 rfl)) (b := ?_)
 refine av [] [] 7 (a := by exact λ _ hw2 => gF o0 (hw2.rd 3 rfl)) (b := ?_)
 have H1 : (a - 1) < (aY T.t key).length := t1
 refine av [8, 9] [] 10 (a := by exact λ _ hw2 => cG H1 (X0.rd 6 rfl) (h0 := t1)) (b := ?_)
 refine av [] [] 11 (s := Vi cur) (a := by exact λ w2 hw2 => cv (Ru.congr (Ru.load1 el3 rfl (ldm (hw2.rd 6 rfl) H1)) (I_congr ((bF H1).symm.trans hcu.symm))) rfl) (b := ?_)
 refine aT [] [] 12 17 ?_ ?_
 refine cq 0 [] (b := nJ (Ch[up9.toNat]'o0).c.A (Ch[up9.toNat]'o0).c.cp (Ch[up9.toNat]'o0).c.l _ o4 ((NsP.mem X0 1 rfl).get o0).2.1 qo) (c := ?_)
 rintro _ I1 ⟨rfl, l1⟩
 have G0 := X0.cl 0 l1
 refine os 0 [] [0, 1, 2, 3, 4, 5, 6, 7, 8] ?_
 refine aT [] [] 13 17 ?_ ?_
 refine cq 0 [] (b := aCi (⟨T.root, A2, c2, Ch⟩ : bN) _ _ (dE (Ch[up9.toNat]'hju).c.l cur - 1).toNat _ _ I1 ⟨(G0.rd 3 rfl), (NsP.mem G0 1 rfl)⟩ (by exact hzc) (by rfl) (by exact hpk) (by exact hmd) (by exact hcp9)) (c := ?_)
 rintro _ l2 ⟨A0, y0, B0, rfl, m0, d1⟩
 have W0 := G0.cl 0 d1
 have Z1 := (W0.cap 0 rfl).1
 refine os 0 [] [2, 3, 4, 5, 6, 7, 8, 9, 10] ?_
 refine aO [14, 15, 16] [] 17 ?_
 refine Al 0 [] λ h1 O1 X1 H0 => ?_
 refine os 0 [] [3, 4, 5, 6, 7, 8, 9, 10, 11] ?_
 refine aO [] [] 18 ?_
 refine Sb 0 [] 0 λ n2 V1 => ?_
 refine os 0 [] [3, 4, 5, 6, 7, 8, 9, 10, 11] ?_
 refine an [19] [] ?_
 refine Sb 3 [0] 5 λ i2 Q0 => ?_
 have K2 := Q0.pk [0, 1, 2, 3, 5, 7, 8, 9, 10, 11]
 obtain ⟨m2, hm2⟩ : ∃ z, z = (eE (⟨T.root, tsG Ch⟩ : TrT) up9 (dE (Ch[up9.toNat]'hju).c.l cur - 1).toNat).2 := ⟨_, rfl⟩
 refine ov 4 [] (s := Vi m2) (a := by exact cv (Ru.congr (Ru.move rfl) (I_congr hm2.symm)) rfl) (b := ?_)
 refine cd 2 [] (λ c89 => ?_) (λ c89 => ?_)
 refine ov 2 [] (s := Vi m2) (a := by exact cv (Ru.congr (Ru.move rfl) (I_congr hm2.symm)) rfl) (b := ?_)
 refine Lt 0 [] (([m2]).map I) (λ j2 N1 W1 R0 => ?_)
 refine aM 0 [] 4 (R0.rd 0 rfl) (λ k2 O0 P0 Y1 S0 => ?_) (hn := t5) (hb := t5)
 refine ov 4 [] (a := eV) (b := ?_)
 have K4 := S0.rM 4 ((dR g9 m2) : List Int) (e := by unfold dR; first | (rw [if_pos t1]; done) | (rw [if_neg t1]))
 exact le7 2 [] (a - 1) A0 (dR g9 m2) y0 B0 O0 P0 [4, 3, 5, 2, 6, 7, 8, 9, 10] (hm := (by (try dsimp only); have := hD.a1; omega)) (hL := by exact (Has.cons (I_congr t10) (Has.cons (sl_congr (by unfold dR; first | (rw [if_pos t1]; done) | (rw [if_neg t1]))) Has.nil))) (h := by exact ⟨(by (try dsimp only); rw [m0, hm2]; exact hDn), (by (try dsimp only); rw [m0, hm2]; rw [<- D0]; exact hgo.symm)⟩)
 refine ov 3 [] (a := eV) (b := ?_)
 have s4 := K2.rM 3 ((dR g9 m2) : List Int) (e := by unfold dR; first | (rw [if_pos t1]; done) | (rw [if_neg t1]))
 exact le7 2 [] (a - 1) A0 (dR g9 m2) y0 B0 A3 c3 [3, 2, 4, 1, 5, 6, 7, 8, 9] (hm := (by (try dsimp only); have := hD.a1; omega)) (hL := by exact (Has.cons (I_congr t10) (Has.cons (sl_congr (by unfold dR; first | (rw [if_pos t1]; done) | (rw [if_neg t1]))) Has.nil))) (h := by exact ⟨(by (try dsimp only); rw [m0, hm2]; exact hDn), (by (try dsimp only); rw [m0, hm2]; rw [<- D0]; exact hgo.symm)⟩)
 refine Al 0 [] λ h1 O1 X1 H0 => ?_
 refine os 0 [] [1, 2, 3, 4, 5, 6, 7, 8, 9] ?_
 refine aO [] [] 13 ?_
 refine cq 0 [] (b := aCi (⟨T.root, A2, c2, Ch⟩ : bN) _ _ (dE (Ch[up9.toNat]'hju).c.l cur - 1).toNat _ _ h1 ⟨(H0.rd 4 rfl), (NsP.mem H0 2 rfl)⟩ (by exact hzc) (by rfl) (by exact hpk) (by exact hmd) (by exact hcp9)) (c := ?_)
 rintro _ l2 ⟨A0, y0, B0, rfl, m0, d1⟩
 have W0 := H0.cl 0 d1
 have Z1 := (W0.cap 0 rfl).1
 refine os 0 [] [3, 4, 5, 6, 7, 8, 9, 10, 11] ?_
 refine aO [14, 15, 16] [] 18 ?_
 refine Sb 0 [] 2 λ n2 V1 => ?_
 refine os 0 [] [3, 4, 5, 6, 7, 8, 9, 10, 11] ?_
 refine an [19] [] ?_
 refine Sb 3 [2] 5 λ i2 Q0 => ?_
 have H2 := Q0.pk [0, 1, 2, 3, 5, 7, 8, 9, 10, 11]
 obtain ⟨m2, hm2⟩ : ∃ z, z = (eE (⟨T.root, tsG Ch⟩ : TrT) up9 (dE (Ch[up9.toNat]'hju).c.l cur - 1).toNat).2 := ⟨_, rfl⟩
 refine ov 4 [] (s := Vi m2) (a := by exact cv (Ru.congr (Ru.move rfl) (I_congr hm2.symm)) rfl) (b := ?_)
 refine cd 2 [] (λ c89 => ?_) (λ c89 => ?_)
 refine ov 2 [] (s := Vi m2) (a := by exact cv (Ru.congr (Ru.move rfl) (I_congr hm2.symm)) rfl) (b := ?_)
 refine Lt 0 [] (([m2]).map I) (λ j2 N1 W1 R0 => ?_)
 refine aM 0 [] 4 (R0.rd 0 rfl) (λ k2 O0 P0 Y1 S0 => ?_) (hn := t5) (hb := t5)
 refine ov 4 [] (a := eV) (b := ?_)
 have t4 := S0.rM 4 ((dR g9 m2) : List Int) (e := by unfold dR; first | (rw [if_pos t1]; done) | (rw [if_neg t1]))
 exact le7 2 [] (a - 1) A0 (dR g9 m2) y0 B0 O0 P0 [4, 2, 5, 1, 6, 7, 8, 9, 10] (hm := (by (try dsimp only); have := hD.a1; omega)) (hL := by exact (Has.cons (I_congr t10) (Has.cons (sl_congr (by unfold dR; first | (rw [if_pos t1]; done) | (rw [if_neg t1]))) Has.nil))) (h := by exact ⟨(by (try dsimp only); rw [m0, hm2]; exact hDn), (by (try dsimp only); rw [m0, hm2]; rw [<- D0]; exact hgo.symm)⟩)
 refine ov 3 [] (a := eV) (b := ?_)
 have u4 := H2.rM 3 ((dR g9 m2) : List Int) (e := by unfold dR; first | (rw [if_pos t1]; done) | (rw [if_neg t1]))
 exact le7 2 [] (a - 1) A0 (dR g9 m2) y0 B0 A3 c3 [3, 1, 4, 0, 5, 6, 7, 8, 9] (hm := (by (try dsimp only); have := hD.a1; omega)) (hL := by exact (Has.cons (I_congr t10) (Has.cons (sl_congr (by unfold dR; first | (rw [if_pos t1]; done) | (rw [if_neg t1]))) Has.nil))) (h := by exact ⟨(by (try dsimp only); rw [m0, hm2]; exact hDn), (by (try dsimp only); rw [m0, hm2]; rw [<- D0]; exact hgo.symm)⟩)
 refine Al 0 [] λ h1 O1 X1 H0 => ?_
 refine os 0 [] [1, 2, 3, 4, 5, 6, 7, 8, 9] ?_
 refine aO [] [] 12 ?_
 refine cq 0 [] (b := nJ (Ch[up9.toNat]'o0).c.A (Ch[up9.toNat]'o0).c.cp (Ch[up9.toNat]'o0).c.l _ h1 ((NsP.mem H0 2 rfl).get o0).2.1 qo) (c := ?_)
 rintro _ I1 ⟨rfl, l1⟩
 have G0 := H0.cl 0 l1
 refine os 0 [] [1, 2, 3, 4, 5, 6, 7, 8, 9] ?_
 refine aO [] [] 13 ?_
 refine cq 0 [] (b := aCi (⟨T.root, A2, c2, Ch⟩ : bN) _ _ (dE (Ch[up9.toNat]'hju).c.l cur - 1).toNat _ _ I1 ⟨(G0.rd 4 rfl), (NsP.mem G0 2 rfl)⟩ (by exact hzc) (by rfl) (by exact hpk) (by exact hmd) (by exact hcp9)) (c := ?_)
 rintro _ l2 ⟨A0, y0, B0, rfl, m0, d1⟩
 have W0 := G0.cl 0 d1
 have Z1 := (W0.cap 0 rfl).1
 refine os 0 [] [3, 4, 5, 6, 7, 8, 9, 10, 11] ?_
 refine aO [14, 15, 16] [] 18 ?_
 refine Sb 0 [] 2 λ n2 V1 => ?_
 refine os 0 [] [3, 4, 5, 6, 7, 8, 9, 10, 11] ?_
 refine an [19] [] ?_
 refine Sb 3 [2] 5 λ i2 Q0 => ?_
 have I2 := Q0.pk [0, 1, 2, 3, 5, 7, 8, 9, 10, 11]
 obtain ⟨m2, hm2⟩ : ∃ z, z = (eE (⟨T.root, tsG Ch⟩ : TrT) up9 (dE (Ch[up9.toNat]'hju).c.l cur - 1).toNat).2 := ⟨_, rfl⟩
 refine ov 4 [] (s := Vi m2) (a := by exact cv (Ru.congr (Ru.move rfl) (I_congr hm2.symm)) rfl) (b := ?_)
 refine cd 2 [] (λ c89 => ?_) (λ c89 => ?_)
 refine ov 2 [] (s := Vi m2) (a := by exact cv (Ru.congr (Ru.move rfl) (I_congr hm2.symm)) rfl) (b := ?_)
 refine Lt 0 [] (([m2]).map I) (λ j2 N1 W1 R0 => ?_)
 refine aM 0 [] 4 (R0.rd 0 rfl) (λ k2 O0 P0 Y1 S0 => ?_) (hn := t5) (hb := t5)
 refine ov 4 [] (a := eV) (b := ?_)
 have v4 := S0.rM 4 ((dR g9 m2) : List Int) (e := by unfold dR; first | (rw [if_pos t1]; done) | (rw [if_neg t1]))
 exact le7 2 [] (a - 1) A0 (dR g9 m2) y0 B0 O0 P0 [4, 2, 5, 1, 6, 7, 8, 9, 10] (hm := (by (try dsimp only); have := hD.a1; omega)) (hL := by exact (Has.cons (I_congr t10) (Has.cons (sl_congr (by unfold dR; first | (rw [if_pos t1]; done) | (rw [if_neg t1]))) Has.nil))) (h := by exact ⟨(by (try dsimp only); rw [m0, hm2]; exact hDn), (by (try dsimp only); rw [m0, hm2]; rw [<- D0]; exact hgo.symm)⟩)
 refine ov 3 [] (a := eV) (b := ?_)
 have w4 := I2.rM 3 ((dR g9 m2) : List Int) (e := by unfold dR; first | (rw [if_pos t1]; done) | (rw [if_neg t1]))
 exact le7 2 [] (a - 1) A0 (dR g9 m2) y0 B0 A3 c3 [3, 1, 4, 0, 5, 6, 7, 8, 9] (hm := (by (try dsimp only); have := hD.a1; omega)) (hL := by exact (Has.cons (I_congr t10) (Has.cons (sl_congr (by unfold dR; first | (rw [if_pos t1]; done) | (rw [if_neg t1]))) Has.nil))) (h := by exact ⟨(by (try dsimp only); rw [m0, hm2]; exact hDn), (by (try dsimp only); rw [m0, hm2]; rw [<- D0]; exact hgo.symm)⟩)
 exact ce7 1 [] a Ch g9 A2 c2 A3 c3 [0, 1, 2, 3, 4, 5, 6, 7, 8] (h := by exact ⟨hD, (by (try dsimp only); rw [<- D0]; exact mB (s := ((⟨T.root, tsG Ch⟩ : TrT), g9)) t1 (by first | (left; omega) | (right; rw [<- hcu, hgc]; show 2 <= (Ch[cur.toNat]'hjc).k.l.length; omega)))⟩)
 refine qn 12 [] λ n4 V0 => ?_
 exact ce7 2 [] a Ch g9 A2 c2 A3 c3 [0, 1, 2, 3, 4, 5, 6, 7, 8] (h := by exact ⟨hD, (by (try dsimp only); rw [<- D0]; exact mB (s := ((⟨T.root, tsG Ch⟩ : TrT), g9)) t1 (by first | (left; omega) | (right; rw [<- hcu, hgc]; show 2 <= (Ch[cur.toNat]'hjc).k.l.length; omega)))⟩)
 obtain ⟨T2, V2⟩ := hI
 have R4 := (C0.cap 0 rfl).1
 have X4 := (C0.cap 3 rfl).1
 have b5 := (C0.cap 4 rfl).1
 have g5 := (C0.cap 5 rfl).1
 have l5 := (C0.cap 6 rfl).1
 have hD1 := T2
 have hcl1 := hD1.len
 simp only [cP, bC] at hcl1
 have hgl1 : g1.length + a1 <= (aY T.t key).length := hD1.gl
 have ha11 := hD1.a1
 have hjr : T.root.toNat < Ch1.length := by omega
 have hgr : gP (⟨T.root, tsG Ch1⟩ : TrT) T.root = (Ch1[T.root.toNat]'hjr).t := jW hjr
 obtain ⟨hF1, hF2, hF3, hF4⟩ := hD1.fin hv hP
 refine ct4 6 [] (λ (r2 : Int) (g2 : List Int) (A9 : Option Addr) (c9 : Nat) => ([(11, Vl A9 g2.length c9)] : List (Nat × SV))) (λ r2 g2 A9 c9 => (kZ ((⟨T.root, tsG Ch1⟩ : TrT), g1) = (⟨r2, tsG Ch1⟩, g2))) (λ r2 g2 A9 c9 => [oI A9 c9 g2, [⟨.slice (bl n0) 1 1, 25, 2, 1, [I r2, .slice A7 Ch1.length c7]⟩]]) [4, 6, 15] [1, 3, 4, 5, 6, 7, 8] ?_ (λ r2 g2 A9 c9 σ P5 hI Y0 => ?_)
 have B1 : T.root.toNat < Ch1.length := hjr
 refine ov 6 [2, 2] (a := cJ B1 (C0.rd 3 rfl) (h0 := t1)) (b := ?_)
 refine ov 0 [] (a := fZ B1 (C0.rd 3 rfl)) (b := ?_)
 refine ov 0 [] (a := gF B1 (C0.rd 3 rfl)) (b := ?_)
 refine cd 3 [] (λ c106 => ?_) (λ c106 => ?_)
 have hk1 : (gP (⟨T.root, tsG Ch1⟩ : TrT) T.root).kids.length = 1 := by rw [hgr]; show (Ch1[T.root.toNat]'hjr).c.l.length = 1; omega
 obtain ⟨k0, hk0⟩ : ∃ z, z = (Ch1[T.root.toNat]'hjr).c.l.getD 0 0 := ⟨_, rfl⟩
 have hRy : kZ ((⟨T.root, tsG Ch1⟩ : TrT), g1) = (⟨k0, tsG Ch1⟩, g1 ++ [T.root]) := by rw [zA (s := ((⟨T.root, tsG Ch1⟩ : TrT), g1)) hk1]; rw [show ((⟨T.root, tsG Ch1⟩ : TrT), g1).1.root = T.root from rfl, hgr, hk0]; rfl
 refine Lt 5 [2] (([T.root]).map I) (λ C5 p4 N4 v2 => ?_)
 refine aM 0 [] 1 (v2.rd 0 rfl) (λ D5 p2 u2 Q4 T0 => ?_) (hn := t5) (hb := t5)
 have L0 : T.root.toNat < Ch1.length := hjr
 refine ov 7 [3, 3] (a := cJ L0 (T0.rd 4 rfl) (h0 := t1)) (b := ?_)
 refine ov 0 [] (a := fZ L0 (T0.rd 4 rfl)) (b := ?_)
 refine ov 0 [] (a := gF L0 (T0.rd 4 rfl)) (b := ?_)
 have C1 : 0 < (Ch1[T.root.toNat]'L0).c.l.length := t1
 refine ov 0 [] (a := cG C1 ((NsP.mem T0 2 rfl).get L0).2.1 (h0 := t1)) (b := ?_)
 refine ov 0 [] (s := Vi k0) (a := by exact cv (Ru.congr (Ru.load1 el3 rfl (ldm ((NsP.mem T0 2 rfl).get L0).2.1 C1)) (I_congr ((bF C1).symm.trans hk0.symm))) rfl) (b := ?_)
 refine Sb 1 [] 3 λ E5 x2 => ?_
 have x4 := x2.rM 1 ((g1 ++ [T.root]) : List Int) (e := t2)
 exact ce4 1 [] k0 (g1 ++ [T.root]) p2 u2 [1, 3, 2, 4, 5, 6, 7, 8, 9] (h := by exact (by (try dsimp only); first | exact hRy | exact hRn))
 have hRn : kZ ((⟨T.root, tsG Ch1⟩ : TrT), g1) = (⟨T.root, tsG Ch1⟩, g1) := wU (s := ((⟨T.root, tsG Ch1⟩ : TrT), g1)) (by show ¬ (gP (⟨T.root, tsG Ch1⟩ : TrT) T.root).kids.length = 1; rw [hgr]; show ¬ (Ch1[T.root.toNat]'hjr).c.l.length = 1; omega)
 exact ce4 1 [] T.root g1 A8 c8 [0, 2, 1, 3, 4, 5, 6, 7, 8] (h := by exact (by (try dsimp only); first | exact hRy | exact hRn))
 have a2 := hI
 have S4 := (Y0.cap 0 rfl).1
 have Y4 := (Y0.cap 3 rfl).1
 have c5 := (Y0.cap 4 rfl).1
 have h5 := (Y0.cap 5 rfl).1
 have m5 := (Y0.cap 6 rfl).1
 rw [a2] at hF1 hF2 hF3 hF4
 have hg2l : g2.length <= 3 := cR hF4 hp3
 have hdf : pX 4 (⟨r2, tsG Ch1⟩ : TrT) g2 = lH T.t key := by unfold lH; rw [V2, a2]
 refine lp8 6 [] (λ (i : Nat) (r3 : Int) (Ch3 : List PgL) (g3 : List Int) (A2 : Option Addr) (c2 : Nat) (A3 : Option Addr) (c3 : Nat) => ([(11, Vl A3 g3.length c3), (16, Vi ((i : Nat) : Int))] : List (Nat × SV))) (λ i r3 Ch3 g3 A2 c2 A3 c3 => (i <= g3.length /\ g3.length <= 3) /\ (∃ lv, FV lv (⟨r3, tsG Ch3⟩ : TrT) (g3.drop i)) /\ (pX (4 - i) (⟨r3, tsG Ch3⟩ : TrT) (g3.drop i) = lH T.t key) /\ (Ch3.length <= 64)) (λ i r3 Ch3 g3 A2 c2 A3 c3 => [oI A3 c3 g3, [⟨.slice (bl n0) 1 1, 25, 2, 1, [I r3, .slice A2 Ch3.length c2]⟩], Ch3.flatMap (pgF 3), oG A2 c2 Ch3]) (λ i r3 Ch3 g3 A2 c2 A3 c3 => g3.length - i) [4, 6, 15] [0, 1, 2, 3] [4, 5, 6, 7, 8] 0 r2 Ch1 g2 A7 c7 A9 c9 (λ i r3 Ch3 g3 A2 c2 A3 c3 σ Q5 hI Z0 => ?_) (h0 := ⟨⟨bI _, hg2l⟩, ⟨_, hF1⟩, hdf, t7⟩)
 obtain ⟨z5, W2, b2, d2⟩ := hI
 have T4 := (Z0.cap 0 rfl).1
 have Z4 := (Z0.cap 3 rfl).1
 have d5 := (Z0.cap 4 rfl).1
 have i5 := (Z0.cap 5 rfl).1
 have n5 := (Z0.cap 6 rfl).1
 obtain ⟨lv9, hFV⟩ := W2
 have hkb := λ p hp => hFV.kb (by simp only [bC]; exact d2) (p := p) hp
 have hzz : SzT ⟨r3, A2, c2, Ch3⟩ := fF hFV.small t1
 have hrr := aX.1 hFV.root.1
 simp only [bC] at hrr
 refine cd 8 [] (λ c125 => ?_) (λ c125 => ?_)
 have hik : i < g3.length := by omega
 obtain ⟨gi, hgi⟩ : ∃ z, z = g3[i]'hik := ⟨_, rfl⟩
 have hgir := hFV.at hik
 rw [<- hgi] at hgir
 simp only [bC] at hgir
 have hgb : ∀ x ∈ g3.drop i, 0 <= x /\ x < (Ch3.length : Int) := λ x hx => by have h9 := aX.1 (hFV.gin x hx); simp only [bC] at h9; exact h9
 refine any 4 [] 7 [0, 2, 3, 4, 5, 6, 7, 8] λ j4 e1 => ?_
 have e2 : i < g3.length := hik
 refine av [1, 2] [] 3 (a := by exact λ _ hw2 => cG e2 (e1.rd 0 rfl) (h0 := t1)) (b := ?_)
 refine av [] [] 4 (s := Vi gi) (a := by exact λ w2 hw2 => cv (Ru.congr (Ru.load1 el3 rfl (ldm (hw2.rd 0 rfl) e2)) (I_congr hgi.symm)) rfl) (b := ?_)
 refine aO [] [] 0 ?_
 refine os 1 [1] [0, 2, 3, 4, 5, 6, 7, 8] ?_
 refine aO [] [] 5 ?_
 refine cq 0 [] (b := aHe (⟨r3, A2, c2, Ch3⟩ : bN) _ j4 ⟨(e1.rd 3 rfl), (NsP.mem e1 2 rfl)⟩ (by exact hzz) (by exact hgir) (by constructor <;> (first | exact hrr.1 | (show r3 <= 1000; omega))) (by exact λ p hp x hx => hkb p.t (bU.2 ⟨p, hp, rfl⟩) x hx)) (c := ?_)
 rintro _ H5 ⟨a0, d0, e0, rfl, z1, O2⟩
 have z2 := e1.cl 0 O2
 have r5 := (z2.cap 0 rfl).1
 refine os 0 [] [2, 4, 5, 6, 7, 8, 9, 10] ?_
 refine aO [] [] 6 ?_
 refine Sb 0 [] 3 λ i4 B2 => ?_
 refine os 0 [] [2, 4, 5, 6, 7, 8, 9, 10] ?_
 refine an [] [] ?_
 have J2 := B2.pk [0, 1, 2, 3, 6, 7, 8, 9, 10]
 refine ov 3 [] (a := bL (i + 1)) (b := ?_)
 have m1 : (g3 : List Int) = gmL g3 i 0 gi := gm_zero.symm
 have y4 : Mem w i4 [] [oG d0 e0 a0, a0.flatMap (pgF 3), [⟨.slice A3 g3.length c3, 3, 1, g3.length, (gmL g3 i 0 gi).map I⟩], [⟨.slice (bl n0) 1 1, 25, 2, 1, [I (shI gi (⟨r3, A2, c2, Ch3⟩ : bN).root), .slice d0 a0.length e0]⟩], oP r0 w0 (eY (aV (T.l[lf.toNat]'b0).t) key), oP s0 x0 (aV (T.l[lf.toNat]'b0).t), oI p0 v0 (aY T.t key), [⟨.slice (bl u0) 1 1, 25, 2, 1, [I 0, .slice none 0 0]⟩], [⟨.slice (bl t0) 1 1, 25, 2, 1, [I T.root, .slice T.A T.l.length T.cp]⟩]] := J2.relen 2 (n' := g3.length) (xs' := (gmL g3 i 0 gi).map I) rfl (by first | rfl | exact congrArg List.length m1 | (have hqq := congrArg List.length m1; first | omega | (simp at hqq ⊢; omega)) | (simp; done) | (simp; omega)) (congrArg (λ z_ => z_.map I) m1) rfl
 refine lp1 3 [] (λ (m : Nat) => ([(11, Vl A3 g3.length c3), (17, Vi (((i + 1 + m) : Nat) : Int))] : List (Nat × SV))) (λ m => (i + 1 + m <= g3.length)) (λ m => [[⟨.slice A3 g3.length c3, 3, 1, g3.length, (gmL g3 i m gi).map I⟩]]) (λ m => g3.length - (i + 1 + m)) [4, 6, 15, 16] [2] [0, 1, 3, 4, 5, 6, 7, 8] 0 (λ m σ R5 hI K0 => ?_) (h0 := t7)
 have A5 := hI
 have U4 := (K0.cap 0 rfl).1
 have W4 := (K0.cap 1 rfl).1
 have e5 := (K0.cap 4 rfl).1
 have j5 := (K0.cap 5 rfl).1
 have o5 := (K0.cap 6 rfl).1
 have hgml := gm_len (m := m) (gi := gi) hik
 refine cd 8 [] (λ c139 => ?_) (λ c139 => ?_)
 have hkm : i + 1 + m < g3.length := by omega
 obtain ⟨z9, hz9⟩ : ∃ z, z = g3[i + 1 + m]'hkm := ⟨_, rfl⟩
 have hzb := hgb z9 (by rw [hz9]; exact dS.2 ⟨1 + m, t1, by congr 1; omega⟩)
 have hshv : z9 - (if decide (z9 > gi) = true then 1 else 0) = shI gi g3[i + 1 + m] := by rw [<- hz9]; unfold shI; simp
 have hif : (0 : Int) <= (if decide (z9 > gi) = true then 1 else 0) /\ (if decide (z9 > gi) = true then (1 : Int) else 0) <= 1 := by split <;> omega
 refine any 3 [] 19 [1, 2, 3, 4, 5, 6, 7, 8] λ F0 f0 => ?_
 have E0 : (i + 1 + m) < (gmL g3 i m gi).length := (by rw [hgml]; omega)
 refine av [0, 1, 2, 3] [] 4 (a := by exact λ _ hw2 => cG E0 (f0.rd 0 rfl) (h0 := t1)) (b := ?_)
 have N0 : (i + 1 + m) < (gmL g3 i m gi).length := (by rw [hgml]; omega)
 refine av [6, 7] [] 8 (a := by exact λ _ hw2 => cG N0 (f0.rd 0 rfl) (h0 := t1)) (b := ?_)
 have M0 : i < (gmL g3 i m gi).length := (by rw [hgml]; omega)
 refine av [10, 11] [] 12 (a := by exact λ _ hw2 => cG M0 (f0.rd 0 rfl) (h0 := t1)) (b := ?_)
 refine aH [] [] 5 9 13 ?_ ?_ ?_
 refine ov 0 [] (s := Vi z9) (a := by exact cv (Ru.congr (Ru.load1 el3 rfl (ldm (f0.rd 0 rfl) E0)) (I_congr (by rw [hz9]; exact mP hkm _))) rfl) (b := ?_)
 refine os 0 [] [1, 2, 3, 4, 5, 6, 7, 8] ?_
 refine aT [] [] 9 13 ?_ ?_
 refine ov 0 [] (s := Vi z9) (a := by exact cv (Ru.congr (Ru.load1 el3 rfl (ldm (f0.rd 0 rfl) N0)) (I_congr (by rw [hz9]; exact mP hkm _))) rfl) (b := ?_)
 refine os 0 [] [1, 2, 3, 4, 5, 6, 7, 8] ?_
 refine aO [] [] 13 ?_
 refine ov 0 [] (s := Vi gi) (a := by exact cv (Ru.congr (Ru.load1 el3 rfl (ldm (f0.rd 0 rfl) M0)) (I_congr ((tP hik _).trans hgi.symm))) rfl) (b := ?_)
 refine os 0 [] [1, 2, 3, 4, 5, 6, 7, 8] ?_
 refine aO [14] [] 15 ?_
 refine cp 0 [] (b := fM (decide (z9 > gi)) F0 ) (c := λ J0 i0 => ?_)
 refine os 0 [] [1, 2, 3, 4, 5, 6, 7, 8] ?_
 refine av [] [] 16 (a := by exact λ _ hw2 => eV) (b := ?_)
 have c0 : (i + 1 + m) < (gmL g3 i m gi).length := (by rw [hgml]; omega)
 refine av [] [] 17 (a := by exact λ _ hw2 => cG c0 (i0.rd 0 rfl) (h0 := t1)) (b := ?_)
 refine aO [] [] 18 ?_
 refine sM 0 [] 0 c0 λ l0 j0 => ?_
 refine os 0 [] [1, 2, 3, 4, 5, 6, 7, 8] ?_
 refine an [] [] ?_
 refine ov 2 [] (a := bL ((i + 1 + m) + 1)) (b := ?_)
 have n1 : ((gmL g3 i m gi).set (i + 1 + m) (z9 - (if (decide (z9 > gi)) then 1 else 0)) : List Int) = gmL g3 i (m + 1) gi := (by rw [hshv]; exact qC hkm)
 let v3 : List FE := (oG d0 e0 a0)
 let H3 : List FE := [⟨.slice (bl n0) 1 1, 25, 2, 1, [I (shI gi (⟨r3, A2, c2, Ch3⟩ : bN).root), .slice d0 a0.length e0]⟩]
 let S3 : List FE := (oP r0 w0 (eY (aV (T.l[lf.toNat]'b0).t) key))
 let b4 : List FE := (oP s0 x0 (aV (T.l[lf.toNat]'b0).t))
 let c4 : List FE := (oI p0 v0 (aY T.t key))
 let d4 : List FE := [⟨.slice (bl u0) 1 1, 25, 2, 1, [I 0, .slice none 0 0]⟩]
 let e4 : List FE := [⟨.slice (bl t0) 1 1, 25, 2, 1, [I T.root, .slice T.A T.l.length T.cp]⟩]
 have z4 : Mem w l0 [] [[⟨.slice A3 g3.length c3, 3, 1, g3.length, (gmL g3 i (m + 1) gi).map I⟩], v3, a0.flatMap (pgF 3), H3, S3, b4, c4, d4, e4] := j0.relen 0 (n' := g3.length) (xs' := (gmL g3 i (m + 1) gi).map I) rfl (by first | rfl | exact congrArg List.length n1 | (have hqq := congrArg List.length n1; first | omega | (simp at hqq ⊢; omega)) | (simp; done) | (simp; omega)) (congrArg (λ z_ => z_.map I) n1) rfl
 exact le1 2 [] (m + 1) [0, 1, 2, 3, 4, 5, 6, 7, 8] (h := t9)
 refine ov 0 [] (s := Vi gi) (a := by exact cv (Ru.congr (Ru.load1 el3 rfl (ldm (f0.rd 0 rfl) M0)) (I_congr ((tP hik _).trans hgi.symm))) rfl) (b := ?_)
 refine os 0 [] [1, 2, 3, 4, 5, 6, 7, 8] ?_
 refine aO [] [] 9 ?_
 refine ov 0 [] (s := Vi z9) (a := by exact cv (Ru.congr (Ru.load1 el3 rfl (ldm (f0.rd 0 rfl) N0)) (I_congr (by rw [hz9]; exact mP hkm _))) rfl) (b := ?_)
 refine os 0 [] [1, 2, 3, 4, 5, 6, 7, 8] ?_
 refine aO [14] [] 15 ?_
 refine cp 0 [] (b := fM (decide (z9 > gi)) F0 ) (c := λ J0 i0 => ?_)
 refine os 0 [] [1, 2, 3, 4, 5, 6, 7, 8] ?_
 refine av [] [] 16 (a := by exact λ _ hw2 => eV) (b := ?_)
 have c0 : (i + 1 + m) < (gmL g3 i m gi).length := (by rw [hgml]; omega)
 refine av [] [] 17 (a := by exact λ _ hw2 => cG c0 (i0.rd 0 rfl) (h0 := t1)) (b := ?_)
 refine aO [] [] 18 ?_
 refine sM 0 [] 0 c0 λ l0 j0 => ?_
 refine os 0 [] [1, 2, 3, 4, 5, 6, 7, 8] ?_
 refine an [] [] ?_
 refine ov 2 [] (a := bL ((i + 1 + m) + 1)) (b := ?_)
 have o1 : ((gmL g3 i m gi).set (i + 1 + m) (z9 - (if (decide (z9 > gi)) then 1 else 0)) : List Int) = gmL g3 i (m + 1) gi := (by rw [hshv]; exact qC hkm)
 let f4 : List FE := (oG d0 e0 a0)
 let Y2 : List FE := [⟨.slice (bl n0) 1 1, 25, 2, 1, [I (shI gi (⟨r3, A2, c2, Ch3⟩ : bN).root), .slice d0 a0.length e0]⟩]
 let Z2 : List FE := (oP r0 w0 (eY (aV (T.l[lf.toNat]'b0).t) key))
 let a3 : List FE := (oP s0 x0 (aV (T.l[lf.toNat]'b0).t))
 let b3 : List FE := (oI p0 v0 (aY T.t key))
 let d3 : List FE := [⟨.slice (bl u0) 1 1, 25, 2, 1, [I 0, .slice none 0 0]⟩]
 let e3 : List FE := [⟨.slice (bl t0) 1 1, 25, 2, 1, [I T.root, .slice T.A T.l.length T.cp]⟩]
 have A4 : Mem w l0 [] [[⟨.slice A3 g3.length c3, 3, 1, g3.length, (gmL g3 i (m + 1) gi).map I⟩], f4, a0.flatMap (pgF 3), Y2, Z2, a3, b3, d3, e3] := j0.relen 0 (n' := g3.length) (xs' := (gmL g3 i (m + 1) gi).map I) rfl (by first | rfl | exact congrArg List.length o1 | (have hqq := congrArg List.length o1; first | omega | (simp at hqq ⊢; omega)) | (simp; done) | (simp; omega)) (congrArg (λ z_ => z_.map I) o1) rfl
 exact le1 2 [] (m + 1) [0, 1, 2, 3, 4, 5, 6, 7, 8] (h := t9)
 refine ov 0 [] (s := Vi z9) (a := by exact cv (Ru.congr (Ru.load1 el3 rfl (ldm (f0.rd 0 rfl) N0)) (I_congr (by rw [hz9]; exact mP hkm _))) rfl) (b := ?_)
 refine os 0 [] [1, 2, 3, 4, 5, 6, 7, 8] ?_
 refine aT [] [] 5 13 ?_ ?_
 refine ov 0 [] (s := Vi z9) (a := by exact cv (Ru.congr (Ru.load1 el3 rfl (ldm (f0.rd 0 rfl) E0)) (I_congr (by rw [hz9]; exact mP hkm _))) rfl) (b := ?_)
 refine os 0 [] [1, 2, 3, 4, 5, 6, 7, 8] ?_
 refine aO [] [] 13 ?_
 refine ov 0 [] (s := Vi gi) (a := by exact cv (Ru.congr (Ru.load1 el3 rfl (ldm (f0.rd 0 rfl) M0)) (I_congr ((tP hik _).trans hgi.symm))) rfl) (b := ?_)
 refine os 0 [] [1, 2, 3, 4, 5, 6, 7, 8] ?_
 refine aO [14] [] 15 ?_
 refine cp 0 [] (b := fM (decide (z9 > gi)) F0 ) (c := λ J0 i0 => ?_)
 refine os 0 [] [1, 2, 3, 4, 5, 6, 7, 8] ?_
 refine av [] [] 16 (a := by exact λ _ hw2 => eV) (b := ?_)
 have c0 : (i + 1 + m) < (gmL g3 i m gi).length := (by rw [hgml]; omega)
 refine av [] [] 17 (a := by exact λ _ hw2 => cG c0 (i0.rd 0 rfl) (h0 := t1)) (b := ?_)
 refine aO [] [] 18 ?_
 refine sM 0 [] 0 c0 λ l0 j0 => ?_
 refine os 0 [] [1, 2, 3, 4, 5, 6, 7, 8] ?_
 refine an [] [] ?_
 refine ov 2 [] (a := bL ((i + 1 + m) + 1)) (b := ?_)
 have p1 : ((gmL g3 i m gi).set (i + 1 + m) (z9 - (if (decide (z9 > gi)) then 1 else 0)) : List Int) = gmL g3 i (m + 1) gi := (by rw [hshv]; exact qC hkm)
 let f3 : List FE := (oG d0 e0 a0)
 let h3 : List FE := [⟨.slice (bl n0) 1 1, 25, 2, 1, [I (shI gi (⟨r3, A2, c2, Ch3⟩ : bN).root), .slice d0 a0.length e0]⟩]
 let i3 : List FE := (oP r0 w0 (eY (aV (T.l[lf.toNat]'b0).t) key))
 let j3 : List FE := (oP s0 x0 (aV (T.l[lf.toNat]'b0).t))
 let k3 : List FE := (oI p0 v0 (aY T.t key))
 let l3 : List FE := [⟨.slice (bl u0) 1 1, 25, 2, 1, [I 0, .slice none 0 0]⟩]
 let m3 : List FE := [⟨.slice (bl t0) 1 1, 25, 2, 1, [I T.root, .slice T.A T.l.length T.cp]⟩]
 have C4 : Mem w l0 [] [[⟨.slice A3 g3.length c3, 3, 1, g3.length, (gmL g3 i (m + 1) gi).map I⟩], f3, a0.flatMap (pgF 3), h3, i3, j3, k3, l3, m3] := j0.relen 0 (n' := g3.length) (xs' := (gmL g3 i (m + 1) gi).map I) rfl (by first | rfl | exact congrArg List.length p1 | (have hqq := congrArg List.length p1; first | omega | (simp at hqq ⊢; omega)) | (simp; done) | (simp; omega)) (congrArg (λ z_ => z_.map I) p1) rfl
 exact le1 2 [] (m + 1) [0, 1, 2, 3, 4, 5, 6, 7, 8] (h := t9)
 refine ov 0 [] (s := Vi gi) (a := by exact cv (Ru.congr (Ru.load1 el3 rfl (ldm (f0.rd 0 rfl) M0)) (I_congr ((tP hik _).trans hgi.symm))) rfl) (b := ?_)
 refine os 0 [] [1, 2, 3, 4, 5, 6, 7, 8] ?_
 refine aT [14] [] 5 15 ?_ ?_
 refine ov 0 [] (s := Vi z9) (a := by exact cv (Ru.congr (Ru.load1 el3 rfl (ldm (f0.rd 0 rfl) E0)) (I_congr (by rw [hz9]; exact mP hkm _))) rfl) (b := ?_)
 refine os 0 [] [1, 2, 3, 4, 5, 6, 7, 8] ?_
 refine aO [] [] 15 ?_
 refine cp 0 [] (b := fM (decide (z9 > gi)) F0 ) (c := λ J0 i0 => ?_)
 refine os 0 [] [1, 2, 3, 4, 5, 6, 7, 8] ?_
 refine av [] [] 16 (a := by exact λ _ hw2 => eV) (b := ?_)
 have c0 : (i + 1 + m) < (gmL g3 i m gi).length := (by rw [hgml]; omega)
 refine av [] [] 17 (a := by exact λ _ hw2 => cG c0 (i0.rd 0 rfl) (h0 := t1)) (b := ?_)
 refine aO [] [] 18 ?_
 refine sM 0 [] 0 c0 λ l0 j0 => ?_
 refine os 0 [] [1, 2, 3, 4, 5, 6, 7, 8] ?_
 refine an [] [] ?_
 refine ov 2 [] (a := bL ((i + 1 + m) + 1)) (b := ?_)
 have q1 : ((gmL g3 i m gi).set (i + 1 + m) (z9 - (if (decide (z9 > gi)) then 1 else 0)) : List Int) = gmL g3 i (m + 1) gi := (by rw [hshv]; exact qC hkm)
 let n3 : List FE := (oG d0 e0 a0)
 let o3 : List FE := [⟨.slice (bl n0) 1 1, 25, 2, 1, [I (shI gi (⟨r3, A2, c2, Ch3⟩ : bN).root), .slice d0 a0.length e0]⟩]
 let p3 : List FE := (oP r0 w0 (eY (aV (T.l[lf.toNat]'b0).t) key))
 let q3 : List FE := (oP s0 x0 (aV (T.l[lf.toNat]'b0).t))
 let s3 : List FE := (oI p0 v0 (aY T.t key))
 let t3 : List FE := [⟨.slice (bl u0) 1 1, 25, 2, 1, [I 0, .slice none 0 0]⟩]
 let u3 : List FE := [⟨.slice (bl t0) 1 1, 25, 2, 1, [I T.root, .slice T.A T.l.length T.cp]⟩]
 have D4 : Mem w l0 [] [[⟨.slice A3 g3.length c3, 3, 1, g3.length, (gmL g3 i (m + 1) gi).map I⟩], n3, a0.flatMap (pgF 3), o3, p3, q3, s3, t3, u3] := j0.relen 0 (n' := g3.length) (xs' := (gmL g3 i (m + 1) gi).map I) rfl (by first | rfl | exact congrArg List.length q1 | (have hqq := congrArg List.length q1; first | omega | (simp at hqq ⊢; omega)) | (simp; done) | (simp; omega)) (congrArg (λ z_ => z_.map I) q1) rfl
 exact le1 2 [] (m + 1) [0, 1, 2, 3, 4, 5, 6, 7, 8] (h := t9)
 refine cp 0 [] (b := fM (decide (z9 > gi)) F0 ) (c := λ J0 i0 => ?_)
 refine os 0 [] [1, 2, 3, 4, 5, 6, 7, 8] ?_
 refine aO [] [] 5 ?_
 refine ov 0 [] (s := Vi z9) (a := by exact cv (Ru.congr (Ru.load1 el3 rfl (ldm (i0.rd 0 rfl) E0)) (I_congr (by rw [hz9]; exact mP hkm _))) rfl) (b := ?_)
 refine os 0 [] [1, 2, 3, 4, 5, 6, 7, 8] ?_
 refine av [] [] 16 (a := by exact λ _ hw2 => eV) (b := ?_)
 have c0 : (i + 1 + m) < (gmL g3 i m gi).length := (by rw [hgml]; omega)
 refine av [] [] 17 (a := by exact λ _ hw2 => cG c0 (i0.rd 0 rfl) (h0 := t1)) (b := ?_)
 refine aO [] [] 18 ?_
 refine sM 0 [] 0 c0 λ l0 j0 => ?_
 refine os 0 [] [1, 2, 3, 4, 5, 6, 7, 8] ?_
 refine an [] [] ?_
 refine ov 2 [] (a := bL ((i + 1 + m) + 1)) (b := ?_)
 have s1 : ((gmL g3 i m gi).set (i + 1 + m) (z9 - (if (decide (z9 > gi)) then 1 else 0)) : List Int) = gmL g3 i (m + 1) gi := (by rw [hshv]; exact qC hkm)
 let w3 : List FE := (oG d0 e0 a0)
 let x3 : List FE := [⟨.slice (bl n0) 1 1, 25, 2, 1, [I (shI gi (⟨r3, A2, c2, Ch3⟩ : bN).root), .slice d0 a0.length e0]⟩]
 let y3 : List FE := (oP r0 w0 (eY (aV (T.l[lf.toNat]'b0).t) key))
 let z3 : List FE := (oP s0 x0 (aV (T.l[lf.toNat]'b0).t))
 let B3 : List FE := (oI p0 v0 (aY T.t key))
 let C3 : List FE := [⟨.slice (bl u0) 1 1, 25, 2, 1, [I 0, .slice none 0 0]⟩]
 let D3 : List FE := [⟨.slice (bl t0) 1 1, 25, 2, 1, [I T.root, .slice T.A T.l.length T.cp]⟩]
 have E4 : Mem w l0 [] [[⟨.slice A3 g3.length c3, 3, 1, g3.length, (gmL g3 i (m + 1) gi).map I⟩], w3, a0.flatMap (pgF 3), x3, y3, z3, B3, C3, D3] := j0.relen 0 (n' := g3.length) (xs' := (gmL g3 i (m + 1) gi).map I) rfl (by first | rfl | exact congrArg List.length s1 | (have hqq := congrArg List.length s1; first | omega | (simp at hqq ⊢; omega)) | (simp; done) | (simp; omega)) (congrArg (λ z_ => z_.map I) s1) rfl
 exact le1 2 [] (m + 1) [0, 1, 2, 3, 4, 5, 6, 7, 8] (h := t9)
 refine ov 0 [] (s := Vi gi) (a := by exact cv (Ru.congr (Ru.load1 el3 rfl (ldm (f0.rd 0 rfl) M0)) (I_congr ((tP hik _).trans hgi.symm))) rfl) (b := ?_)
 refine os 0 [] [1, 2, 3, 4, 5, 6, 7, 8] ?_
 refine aT [] [] 5 9 ?_ ?_
 refine ov 0 [] (s := Vi z9) (a := by exact cv (Ru.congr (Ru.load1 el3 rfl (ldm (f0.rd 0 rfl) E0)) (I_congr (by rw [hz9]; exact mP hkm _))) rfl) (b := ?_)
 refine os 0 [] [1, 2, 3, 4, 5, 6, 7, 8] ?_
 refine aO [] [] 9 ?_
 refine ov 0 [] (s := Vi z9) (a := by exact cv (Ru.congr (Ru.load1 el3 rfl (ldm (f0.rd 0 rfl) N0)) (I_congr (by rw [hz9]; exact mP hkm _))) rfl) (b := ?_)
 refine os 0 [] [1, 2, 3, 4, 5, 6, 7, 8] ?_
 refine aO [14] [] 15 ?_
 refine cp 0 [] (b := fM (decide (z9 > gi)) F0 ) (c := λ J0 i0 => ?_)
 refine os 0 [] [1, 2, 3, 4, 5, 6, 7, 8] ?_
 refine av [] [] 16 (a := by exact λ _ hw2 => eV) (b := ?_)
 have c0 : (i + 1 + m) < (gmL g3 i m gi).length := (by rw [hgml]; omega)
 refine av [] [] 17 (a := by exact λ _ hw2 => cG c0 (i0.rd 0 rfl) (h0 := t1)) (b := ?_)
 refine aO [] [] 18 ?_
 refine sM 0 [] 0 c0 λ l0 j0 => ?_
 refine os 0 [] [1, 2, 3, 4, 5, 6, 7, 8] ?_
 refine an [] [] ?_
 refine ov 2 [] (a := bL ((i + 1 + m) + 1)) (b := ?_)
 have u1 : ((gmL g3 i m gi).set (i + 1 + m) (z9 - (if (decide (z9 > gi)) then 1 else 0)) : List Int) = gmL g3 i (m + 1) gi := (by rw [hshv]; exact qC hkm)
 let E3 : List FE := (oG d0 e0 a0)
 let F3 : List FE := [⟨.slice (bl n0) 1 1, 25, 2, 1, [I (shI gi (⟨r3, A2, c2, Ch3⟩ : bN).root), .slice d0 a0.length e0]⟩]
 let G3 : List FE := (oP r0 w0 (eY (aV (T.l[lf.toNat]'b0).t) key))
 let I3 : List FE := (oP s0 x0 (aV (T.l[lf.toNat]'b0).t))
 let J3 : List FE := (oI p0 v0 (aY T.t key))
 let K3 : List FE := [⟨.slice (bl u0) 1 1, 25, 2, 1, [I 0, .slice none 0 0]⟩]
 let L3 : List FE := [⟨.slice (bl t0) 1 1, 25, 2, 1, [I T.root, .slice T.A T.l.length T.cp]⟩]
 have F4 : Mem w l0 [] [[⟨.slice A3 g3.length c3, 3, 1, g3.length, (gmL g3 i (m + 1) gi).map I⟩], E3, a0.flatMap (pgF 3), F3, G3, I3, J3, K3, L3] := j0.relen 0 (n' := g3.length) (xs' := (gmL g3 i (m + 1) gi).map I) rfl (by first | rfl | exact congrArg List.length u1 | (have hqq := congrArg List.length u1; first | omega | (simp at hqq ⊢; omega)) | (simp; done) | (simp; omega)) (congrArg (λ z_ => z_.map I) u1) rfl
 exact le1 2 [] (m + 1) [0, 1, 2, 3, 4, 5, 6, 7, 8] (h := t9)
 refine ov 0 [] (s := Vi z9) (a := by exact cv (Ru.congr (Ru.load1 el3 rfl (ldm (f0.rd 0 rfl) N0)) (I_congr (by rw [hz9]; exact mP hkm _))) rfl) (b := ?_)
 refine os 0 [] [1, 2, 3, 4, 5, 6, 7, 8] ?_
 refine aT [14] [] 5 15 ?_ ?_
 refine ov 0 [] (s := Vi z9) (a := by exact cv (Ru.congr (Ru.load1 el3 rfl (ldm (f0.rd 0 rfl) E0)) (I_congr (by rw [hz9]; exact mP hkm _))) rfl) (b := ?_)
 refine os 0 [] [1, 2, 3, 4, 5, 6, 7, 8] ?_
 refine aO [] [] 15 ?_
 refine cp 0 [] (b := fM (decide (z9 > gi)) F0 ) (c := λ J0 i0 => ?_)
 refine os 0 [] [1, 2, 3, 4, 5, 6, 7, 8] ?_
 refine av [] [] 16 (a := by exact λ _ hw2 => eV) (b := ?_)
 have c0 : (i + 1 + m) < (gmL g3 i m gi).length := (by rw [hgml]; omega)
 refine av [] [] 17 (a := by exact λ _ hw2 => cG c0 (i0.rd 0 rfl) (h0 := t1)) (b := ?_)
 refine aO [] [] 18 ?_
 refine sM 0 [] 0 c0 λ l0 j0 => ?_
 refine os 0 [] [1, 2, 3, 4, 5, 6, 7, 8] ?_
 refine an [] [] ?_
 refine ov 2 [] (a := bL ((i + 1 + m) + 1)) (b := ?_)
 have v1 : ((gmL g3 i m gi).set (i + 1 + m) (z9 - (if (decide (z9 > gi)) then 1 else 0)) : List Int) = gmL g3 i (m + 1) gi := (by rw [hshv]; exact qC hkm)
 let M3 : List FE := (oG d0 e0 a0)
 let N3 : List FE := [⟨.slice (bl n0) 1 1, 25, 2, 1, [I (shI gi (⟨r3, A2, c2, Ch3⟩ : bN).root), .slice d0 a0.length e0]⟩]
 let O3 : List FE := (oP r0 w0 (eY (aV (T.l[lf.toNat]'b0).t) key))
 let P3 : List FE := (oP s0 x0 (aV (T.l[lf.toNat]'b0).t))
 let Q3 : List FE := (oI p0 v0 (aY T.t key))
 let R3 : List FE := [⟨.slice (bl u0) 1 1, 25, 2, 1, [I 0, .slice none 0 0]⟩]
 let T3 : List FE := [⟨.slice (bl t0) 1 1, 25, 2, 1, [I T.root, .slice T.A T.l.length T.cp]⟩]
 have G4 : Mem w l0 [] [[⟨.slice A3 g3.length c3, 3, 1, g3.length, (gmL g3 i (m + 1) gi).map I⟩], M3, a0.flatMap (pgF 3), N3, O3, P3, Q3, R3, T3] := j0.relen 0 (n' := g3.length) (xs' := (gmL g3 i (m + 1) gi).map I) rfl (by first | rfl | exact congrArg List.length v1 | (have hqq := congrArg List.length v1; first | omega | (simp at hqq ⊢; omega)) | (simp; done) | (simp; omega)) (congrArg (λ z_ => z_.map I) v1) rfl
 exact le1 2 [] (m + 1) [0, 1, 2, 3, 4, 5, 6, 7, 8] (h := t9)
 refine cp 0 [] (b := fM (decide (z9 > gi)) F0 ) (c := λ J0 i0 => ?_)
 refine os 0 [] [1, 2, 3, 4, 5, 6, 7, 8] ?_
 refine aO [] [] 5 ?_
 refine ov 0 [] (s := Vi z9) (a := by exact cv (Ru.congr (Ru.load1 el3 rfl (ldm (i0.rd 0 rfl) E0)) (I_congr (by rw [hz9]; exact mP hkm _))) rfl) (b := ?_)
 refine os 0 [] [1, 2, 3, 4, 5, 6, 7, 8] ?_
 refine av [] [] 16 (a := by exact λ _ hw2 => eV) (b := ?_)
 have c0 : (i + 1 + m) < (gmL g3 i m gi).length := (by rw [hgml]; omega)
 refine av [] [] 17 (a := by exact λ _ hw2 => cG c0 (i0.rd 0 rfl) (h0 := t1)) (b := ?_)
 refine aO [] [] 18 ?_
 refine sM 0 [] 0 c0 λ l0 j0 => ?_
 refine os 0 [] [1, 2, 3, 4, 5, 6, 7, 8] ?_
 refine an [] [] ?_
 refine ov 2 [] (a := bL ((i + 1 + m) + 1)) (b := ?_)
 have x1 : ((gmL g3 i m gi).set (i + 1 + m) (z9 - (if (decide (z9 > gi)) then 1 else 0)) : List Int) = gmL g3 i (m + 1) gi := (by rw [hshv]; exact qC hkm)
 let U3 : List FE := (oG d0 e0 a0)
 let V3 : List FE := [⟨.slice (bl n0) 1 1, 25, 2, 1, [I (shI gi (⟨r3, A2, c2, Ch3⟩ : bN).root), .slice d0 a0.length e0]⟩]
 let W3 : List FE := (oP r0 w0 (eY (aV (T.l[lf.toNat]'b0).t) key))
 let X3 : List FE := (oP s0 x0 (aV (T.l[lf.toNat]'b0).t))
 let Y3 : List FE := (oI p0 v0 (aY T.t key))
 let Z3 : List FE := [⟨.slice (bl u0) 1 1, 25, 2, 1, [I 0, .slice none 0 0]⟩]
 let a4 : List FE := [⟨.slice (bl t0) 1 1, 25, 2, 1, [I T.root, .slice T.A T.l.length T.cp]⟩]
 have H4 : Mem w l0 [] [[⟨.slice A3 g3.length c3, 3, 1, g3.length, (gmL g3 i (m + 1) gi).map I⟩], U3, a0.flatMap (pgF 3), V3, W3, X3, Y3, Z3, a4] := j0.relen 0 (n' := g3.length) (xs' := (gmL g3 i (m + 1) gi).map I) rfl (by first | rfl | exact congrArg List.length x1 | (have hqq := congrArg List.length x1; first | omega | (simp at hqq ⊢; omega)) | (simp; done) | (simp; omega)) (congrArg (λ z_ => z_.map I) x1) rfl
 exact le1 2 [] (m + 1) [0, 1, 2, 3, 4, 5, 6, 7, 8] (h := t9)
 refine ov 3 [] (a := bL (i + 1)) (b := ?_)
 have I4 := K0.rM 0 ((g3.take (i + 1) ++ (g3.drop (i + 1)).map (shI gi)) : List Int) (e := (gm_end t1))
 exact le8 2 [] (i + 1) (shI gi (⟨r3, A2, c2, Ch3⟩ : bN).root) a0 (g3.take (i + 1) ++ (g3.drop (i + 1)).map (shI gi)) d0 e0 A3 c3 [0, 3, 2, 1, 4, 5, 6, 7, 8] (hm := (by (try dsimp only); simp only [aA, aB, bC, aI]; omega)) (h := by exact ⟨(by (try dsimp only); simp only [aA, aB, bC, aI]; omega), ⟨_, by rw [z1, aJd hik]; rw [hgi]; exact hFV.step hik⟩, (by (try dsimp only); rw [z1, aJd hik]; rw [hgi, <- cutA_go hik t1]; exact b2), (by (try dsimp only); have h9 := congrArg (λ z => z.pages.length) z1; have h8 : (lV (bN.t ⟨r3, A2, c2, Ch3⟩) gi).pages.length + 1 = Ch3.length := by { have h6 := pD (R := bN.t ⟨r3, A2, c2, Ch3⟩) (g0 := gi) (fI.2 hgir); rwa [cP] at h6 }; have h7 := d2; simp only [bC] at h9; omega)⟩)
 refine Sb 5 [1] 7 λ I5 U1 => ?_
 refine EG 3 [] ?_
 refine PG (vs := [.agg #[I r3, .slice A2 Ch3.length c2], I ((g1.length : Nat) : Int)]) (bX.cell (l := [I r3, .slice A2 Ch3.length c2]) rfl (cA (i := 7) (j := 0) U1 rfl rfl) kH rfl (bX.tmp rfl bX.nil)) ?_
 exact ⟨r3, ((g1.length : Nat) : Int), Ch3, A2, c2, rfl, (by rw [<- b2, List.drop_eq_nil_of_le t1, pY]), (U1.pk [3, 2])⟩
set_option maxHeartbeats 2000000 in
theorem aFv (T : bN) (key : Int) (w : World) (hNT : TrN w T) (hs : SzT T) :
  aR Tryz.prog 146 [.agg #[I T.root, .slice T.A T.l.length T.cp], I key] w (λ v w1 => ∃ (r1 : Int) (L1 : List PgL) (A1 : Option Addr) (c1 : Nat), v = .tuple #[.agg #[I r1, .slice A1 L1.length c1], .bool (aN T.t && cT (bZ T.t) key)] /\ ((aN T.t && cT (bZ T.t) key) = true -> (⟨r1, tsG L1⟩ : TrT) = lH T.t key /\ WK (⟨r1, tsG L1⟩ : TrT)) /\ (SzT ⟨r1, A1, c1, L1⟩) /\ (L1.length <= 64) /\ Mem w w1 [] [oG A1 c1 L1, L1.flatMap (pgF 3)]) := by
 have hM : Mem w w [] [] := Mem.refl
 refine aR.nG (rs := [.cell 4 25, .tmp 5]) Tryz.func146 rfl Tryz.results146 Tryz.ntmps146 rfl ?_
 refine Bx 2 [] λ K0 z0 F0 C0 => ?_
 refine Al 0 [] λ v0 A0 G0 k0 => ?_
 refine cp 6 [1] (b := jM T v0 (hNT.at k0) q0) (c := λ w0 l0 => ?_)
 refine pt 2 [] 11 (λ g11 => ?_) (λ g11 => ?_)
 have hn1 : aN T.t = false := by simpa using g11
 refine Sb 10 [] 0 λ y0 d0 => ?_
 have h0 := Mem.gnil (e := 3) d0
 refine EG 3 [] ?_
 refine PG (vs := [.agg #[I 0, .slice none 0 0], .bool false]) (bX.cell (l := [I 0, .slice none 0 0]) rfl (cA (i := 1) (j := 0) h0 rfl rfl) kH rfl (bX.tmp rfl bX.nil)) ?_
 have hpf : (aN T.t && cT (bZ T.t) key) = false := by first | (rw [hn1]; rfl) | (rw [hn2, cX])
 have n0 := Mem.addNil (e := 42) (sz := 3) h0
 have t0 : ([] : List PgL) = ([] : List PgL) := t2
 have o0 := n0.reF 0 t0 (f := encPg)
 exact ⟨0, ([] : List PgL), none, 0, (by rw [hpf]; rfl), (λ hb => absurd hb (by rw [hpf]; simp)), (fF t11 t11), t11, (o0.pk [0, 1])⟩
 have hv1 : aN T.t = true := by simpa using g11
 refine cp 2 [1] (b := aLg T _ w0 (hNT.at l0) q0 (by exact qQ hv1)) (c := λ x0 f0 => ?_)
 refine cn 3 [] (λ c16 => ?_) (λ c16 => ?_)
 have hn2 : cT (bZ T.t) key = false := by first | (exfalso; simp_all; done) | simpa using c16
 refine Sb 3 [] 0 λ y0 d0 => ?_
 have i0 := Mem.gnil (e := 3) d0
 refine EG 3 [] ?_
 refine PG (vs := [.agg #[I 0, .slice none 0 0], .bool false]) (bX.cell (l := [I 0, .slice none 0 0]) rfl (cA (i := 1) (j := 0) i0 rfl rfl) kH rfl (bX.tmp rfl bX.nil)) ?_
 have hpf : (aN T.t && cT (bZ T.t) key) = false := by first | (rw [hn1]; rfl) | (rw [hn2, cX])
 have p0 := Mem.addNil (e := 42) (sz := 3) i0
 have u0 : ([] : List PgL) = ([] : List PgL) := t2
 have r0 := p0.reF 0 u0 (f := encPg)
 exact ⟨0, ([] : List PgL), none, 0, (by rw [hpf]; rfl), (λ hb => absurd hb (by rw [hpf]; simp)), (fF t11 t11), t11, (r0.pk [0, 1])⟩
 have hv2 : cT (bZ T.t) key = true := by simpa using c16
 refine cq 5 [1] (b := aEf T _ x0 (hNT.at f0) q0 (by exact hv1)) (c := ?_)
 rintro _ L0 ⟨e0, J0, b0, a0, c0, rfl, j0, s0⟩
 have m0 := f0.cl 0 s0
 have I0 := (m0.cap 0 rfl).1
 refine Al 3 [] λ M0 B0 H0 D0 => ?_
 refine Sb 0 [] 0 λ N0 E0 => ?_
 refine Sb 5 [0] 3 λ O0 g0 => ?_
 refine EG 3 [] ?_
 refine PG (vs := [.agg #[I e0, .slice a0 b0.length c0], .bool true]) (bX.cell (l := [I e0, .slice a0 b0.length c0]) rfl (cA (i := 3) (j := 0) g0 rfl rfl) kH rfl (bX.tmp rfl bX.nil)) ?_
 have hpf : (aN T.t && cT (bZ T.t) key) = true := by rw [hv1, hv2]; rfl
 have hwk3 := drop_WK (key := key) hv1
 rw [<- j0] at hwk3
 have hll3 := hwk3.2.1
 simp only [bC] at hll3
 exact ⟨e0, b0, a0, c0, (by rw [hpf]; rfl), (λ _ => ⟨j0, hwk3⟩), (fF hwk3.2.2 t1), t1, (g0.pk [1, 2])⟩
end Go.Proofs.YtemejgglbhjodaaGreatDoor
namespace Go.Proofs.YtemejgglbhjodaaGreatDoor
open Go.Px
theorem wF : ∀ (T : bN) (at0 : Int) (A : Option Addr) (c : Nat) (l : List Int) (w : World) (hNT : TrN w T) (hOT : TrO T [(Value.slice A l.length c).ownBlock]) (hM : Mem w w [(Value.slice A l.length c).ownBlock] [oI A c l]) (hs : SzT T) (hsm : ∀ p ∈ T.t.pages, eP p) (hok : wkB T.t 0 at0) (h3 : 0 <= 3) (hl9 : l.length <= 1000 * (4 - 0)), aR Tryz.prog 199 [.agg #[I T.root, .slice T.A T.l.length T.cp], I at0, .slice A l.length c] w (λ v w1 => ∃ (A1 : Option Addr) (c1 : Nat), v = .slice A1 (l ++ dA T.t 0 at0).length c1 /\ Mem w w1 [(Value.slice A l.length c).ownBlock] [oI A1 c1 (l ++ dA T.t 0 at0)]) := by
 intro T at0 A c l w hNT hOT hM hs hsm hok h3 hl9; exact hok.elim
set_option maxHeartbeats 2000000 in
theorem wG (n : Nat) (ih_fn : ∀ (T : bN) (at0 : Int) (A : Option Addr) (c : Nat) (l : List Int) (w : World) (hNT : TrN w T) (hOT : TrO T [(Value.slice A l.length c).ownBlock]) (hM : Mem w w [(Value.slice A l.length c).ownBlock] [oI A c l]) (hs : SzT T) (hsm : ∀ p ∈ T.t.pages, eP p) (hok : wkB T.t n at0) (h3 : n <= 3) (hl9 : l.length <= 1000 * (4 - n)), aR Tryz.prog 199 [.agg #[I T.root, .slice T.A T.l.length T.cp], I at0, .slice A l.length c] w (λ v w1 => ∃ (A1 : Option Addr) (c1 : Nat), v = .slice A1 (l ++ dA T.t n at0).length c1 /\ Mem w w1 [(Value.slice A l.length c).ownBlock] [oI A1 c1 (l ++ dA T.t n at0)])) (T : bN) (at0 : Int) (A : Option Addr) (c : Nat) (l : List Int) (w : World) (hNT : TrN w T) (hOT : TrO T [(Value.slice A l.length c).ownBlock]) (hM : Mem w w [(Value.slice A l.length c).ownBlock] [oI A c l]) (hs : SzT T) (hsm : ∀ p ∈ T.t.pages, eP p) (hok : wkB T.t (n + 1) at0) (h3 : (n + 1) <= 3) (hl9 : l.length <= 1000 * (4 - (n + 1))) :
  aR Tryz.prog 199 [.agg #[I T.root, .slice T.A T.l.length T.cp], I at0, .slice A l.length c] w (λ v w1 => ∃ (A1 : Option Addr) (c1 : Nat), v = .slice A1 (l ++ dA T.t (n + 1) at0).length c1 /\ Mem w w1 [(Value.slice A l.length c).ownBlock] [oI A1 c1 (l ++ dA T.t (n + 1) at0)]) := by
 refine aR.n1 Tryz.func199 rfl Tryz.results199 Tryz.ntmps199 rfl ?_
 have hat := fI.1 hok.1
 have hjx : at0.toNat < T.l.length := by omega
 have hki : (gP T.t at0).kids = (T.l[at0.toNat]'hjx).c.l := by rw [jH rfl hjx]; rfl
 have hsz := hs.at hjx
 have hsl := oC hsm hok h3
 have hll := qH (T := T.t) (d := n + 1) (i := at0)
 refine Bx 2 [] λ G0 w0 A0 b0 => ?_
 have e0 : at0.toNat < T.l.length := t3
 refine ov 8 [0] (a := cJ e0 (hNT.atR b0 hOT).1) (b := ?_)
 refine ov 0 [] (a := fZ e0 (hNT.atR b0 hOT).1) (b := ?_)
 refine ov 0 [] (a := gF e0 (hNT.atR b0 hOT).1) (b := ?_)
 refine cd 3 [] (λ c16 => ?_) (λ c16 => ?_)
 have hle := pJ (T := T.t) (d := n) (i := at0) (by rw [hki]; exact aP t1)
 refine Lt 4 [] (([at0]).map I) (λ H0 x0 B0 l0 => ?_)
 refine aM 0 [] 2 (l0.rd 0 rfl) (λ I0 f0 g0 C0 m0 => ?_) (hn := t5) (hb := t5)
 refine E1 3 [] (.slice f0 (l ++ [at0]).length g0) ?_
 have r0 : (l ++ [at0] : List Int) = l ++ dA T.t (n + 1) at0 := (by rw [hle])
 have n0 := m0.reM 2 r0
 exact ⟨f0, g0, (sl_congr (by rw [hle])), (n0.pk [2])⟩
 have hle := sI (T := T.t) (d := n) (i := at0) (by rw [hki]; intro e9; exact absurd (congrArg List.length e9) (by simp only [bA]; omega))
 rw [hki] at hle
 have c0 : at0.toNat < T.l.length := t3
 refine ov 7 [0] (a := cJ c0 (hNT.atR b0 hOT).1) (b := ?_)
 refine ov 0 [] (a := fZ c0 (hNT.atR b0 hOT).1) (b := ?_)
 refine ov 0 [] (a := gF c0 (hNT.atR b0 hOT).1) (b := ?_)
 have s0 : (l : List Int) = l ++ ((T.l[at0.toNat]'hjx).c.l.take 0).flatMap (dA T.t n) := t11
 have y0 := b0.reM 1 s0
 refine lp3 4 [] (λ (k : Nat) (A2 : Option Addr) (c2 : Nat) => ([(2, Vl A2 (l ++ ((T.l[at0.toNat]'hjx).c.l.take k).flatMap (dA T.t n)).length c2), (28, Vi ((k : Nat) : Int))] : List (Nat × SV))) (λ k A2 c2 => (k <= (T.l[at0.toNat]'hjx).c.l.length)) (λ k A2 c2 => [oI A2 c2 (l ++ ((T.l[at0.toNat]'hjx).c.l.take k).flatMap (dA T.t n))]) (λ k A2 c2 => (T.l[at0.toNat]'hjx).c.l.length - k) [3, 26, 27] [1] [0] 0 A c (λ k A2 c2 σ v0 hI a0 => ?_) (h0 := (bI _))
 have F0 := hI
 have D0 := (a0.cap 0 rfl).1
 refine cd 5 [] (λ c29 => ?_) (λ c29 => ?_)
 have d0 : k < (T.l[at0.toNat]'c0).c.l.length := t1
 refine ov 5 [] (a := cG d0 ((hNT.atR a0 hOT).2.get c0).2.1 (h0 := t1)) (b := ?_)
 have hok1 := aKj hok (k := k) (by rw [hki]; exact d0)
 simp only [hki] at hok1
 have hfs := vD (f := dA T.t n) d0
 refine ov 0 [] (a := eT d0 ((hNT.atR a0 hOT).2.get c0).2.1) (b := ?_)
 refine cq 6 [1] (b := ih_fn T _ _ _ _ v0 (hNT.atR a0 hOT) (TrO.cons (TrO.own a0 hNT hOT 0 rfl) TrO.nil) (a0.fp [0] rfl rfl) q0 (by exact hsm) (by exact hok1) qo (by (rw [aA]; have h8 := congrArg List.length hle; have h7 := tM (f := dA T.t n) d0; rw [<- hfs, aA] at h7; omega))) (c := ?_)
 rintro _ J0 ⟨j0, k0, rfl, p0⟩
 have i0 := a0.cl 1 p0
 have E0 := (i0.cap 0 rfl).1
 refine ov 3 [] (a := bL (k + 1)) (b := ?_)
 have t0 : ((l ++ ((T.l[at0.toNat]'hjx).c.l.take k).flatMap (dA T.t n)) ++ dA T.t n (((T.l[at0.toNat]'c0).c.l)[k]'d0) : List Int) = l ++ ((T.l[at0.toNat]'hjx).c.l.take (k + 1)).flatMap (dA T.t n) := (by rw [<- hfs, bO])
 have z0 := i0.reM 0 t0
 exact le3 2 [] (k + 1) j0 k0 [0, 1] (h := t9)
 refine E1 7 [] (.slice A2 (l ++ ((T.l[at0.toNat]'hjx).c.l.take k).flatMap (dA T.t n)).length c2) ?_
 have hkk : (T.l[at0.toNat]'hjx).c.l.take k = (T.l[at0.toNat]'hjx).c.l := aE t1
 have u0 : (l ++ ((T.l[at0.toNat]'hjx).c.l.take k).flatMap (dA T.t n) : List Int) = l ++ dA T.t (n + 1) at0 := (by rw [hle, hkk])
 have o0 := a0.reM 0 u0
 exact ⟨A2, c2, (sl_congr (by rw [hle, hkk])), (o0.pk [0])⟩
theorem yI : ∀ (n : Nat), ∀ (T : bN) (at0 : Int) (A : Option Addr) (c : Nat) (l : List Int) (w : World) (hNT : TrN w T) (hOT : TrO T [(Value.slice A l.length c).ownBlock]) (hM : Mem w w [(Value.slice A l.length c).ownBlock] [oI A c l]) (hs : SzT T) (hsm : ∀ p ∈ T.t.pages, eP p) (hok : wkB T.t n at0) (h3 : n <= 3) (hl9 : l.length <= 1000 * (4 - n)), aR Tryz.prog 199 [.agg #[I T.root, .slice T.A T.l.length T.cp], I at0, .slice A l.length c] w (λ v w1 => ∃ (A1 : Option Addr) (c1 : Nat), v = .slice A1 (l ++ dA T.t n at0).length c1 /\ Mem w w1 [(Value.slice A l.length c).ownBlock] [oI A1 c1 (l ++ dA T.t n at0)]) := by
 intro n
 induction n with
 | zero => exact wF
 | succ n ih => exact wG n ih
theorem aDt (T : bN) (w : World) (hNT : TrN w T) (hs : SzT T) :
  aR Tryz.prog 174 [.agg #[I T.root, .slice T.A T.l.length T.cp]] w (λ v w1 => ∃ (A1 : Option Addr) (c1 : Nat), v = .slice A1 (eG T.t).length c1 /\ Mem w w1 [] [oI A1 c1 (eG T.t)]) := by
 have hM : Mem w w [] [] := Mem.refl
 refine aR.n1 Tryz.func174 rfl Tryz.results174 Tryz.ntmps174 rfl ?_
 refine Bx 2 [] λ l0 n0 o0 f0 => ?_
 refine cp 6 [0] (b := gS T l0 (hNT.at f0) q0) (c := λ m0 d0 => ?_)
 refine cn 2 [] (λ c5 => ?_) (λ c5 => ?_)
 have hv : aN T.t = false := by simpa using c5
 have hli : eG T.t = [] := by unfold eG; rw [hv]; rfl
 refine E1 5 [] (.slice none 0 0) ?_
 have g0 := Mem.addNil (e := 3) (sz := 1) d0
 have k0 : ([] : List Int) = (eG T.t) := (by rw [hli])
 have h0 := g0.reM 0 k0 (f := I)
 exact ⟨none, 0, (sl_congr (by rw [hli]; rfl)), (h0.pk [0])⟩
 have hv : aN T.t = true := by simpa using c5
 have hwk := qQ hv
 have hli : eG T.t = dN T.t := by unfold eG; rw [hv]; rfl
 have a0 := Mem.addNil (e := 3) (sz := 1) d0
 refine cq 6 [1, 1] (b := yI 3 T _ none 0 [] m0 (hNT.at a0) (TrO.cons (TrO.old a0 hNT 0 rfl) TrO.nil) (a0.fp [0] rfl rfl) q0 (by exact hwk.2.2) (by exact hwk.1) qo t11) (c := ?_)
 rintro _ r0 ⟨b0, c0, rfl, j0⟩
 have e0 := a0.cl 1 j0
 have p0 := (e0.cap 0 rfl).1
 refine E1 3 [] (.slice b0 ([] ++ dA T.t 3 T.root).length c0) ?_
 have i0 := e0.rM 0 ((eG T.t) : List Int) (e := by rw [hli]; rfl)
 exact ⟨b0, c0, (sl_congr (by rw [hli]; rfl)), (i0.pk [0])⟩
set_option maxHeartbeats 2000000 in
theorem aHa (T : bN) (w : World) (hNT : TrN w T) (hs : SzT T) :
  aR Tryz.prog 143 [.agg #[I T.root, .slice T.A T.l.length T.cp]] w (λ v w1 => ∃ (A1 : Option Addr) (c1 : Nat), v = .slice A1 (gC T.t).length c1 /\ Mem w w1 [] [oP A1 c1 (gC T.t)]) := by
 have hM : Mem w w [] [] := Mem.refl
 refine aR.n1 Tryz.func143 rfl Tryz.results143 Tryz.ntmps143 rfl ?_
 refine Bx 2 [] λ s0 w0 B0 c0 => ?_
 refine cq 10 [0] (b := aDt T s0 (hNT.at c0) q0) (c := ?_)
 rintro _ I0 ⟨u0, x0, rfl, m0⟩
 have d0 := c0.cl 0 m0
 have F0 := (d0.cap 0 rfl).1
 have k0 := Mem.addNil (e := 27) (sz := 2) d0
 have o0 : ([] : List PairT) = cU T.t ((eG T.t).take 0) := (by simp [cU])
 have z0 := k0.reF 0 o0 (f := cY)
 refine lp3 4 [] (λ (k : Nat) (A2 : Option Addr) (c2 : Nat) => ([(3, Vl A2 (cU T.t ((eG T.t).take k)).length c2), (9, Vi ((k : Nat) : Int))] : List (Nat × SV))) (λ k A2 c2 => (k <= (eG T.t).length)) (λ k A2 c2 => [oP A2 c2 (cU T.t ((eG T.t).take k))]) (λ k A2 c2 => (eG T.t).length - k) [1, 7, 8] [0] [1, 2] 0 none 0 (λ k A2 c2 σ t0 hI a0 => ?_) (h0 := (bI _))
 have H0 := hI
 have D0 := (a0.cap 0 rfl).1
 have E0 := (a0.cap 1 rfl).1
 refine cd 5 [] (λ c10 => ?_) (λ c10 => ?_)
 have hkx : k < (eG T.t).length := by omega
 have hv : aN T.t = true := by cases h9 : aN T.t with | true => rfl | false => (exfalso; unfold eG at hkx; rw [h9] at hkx; simp at hkx)
 have hwk := qQ hv
 have hli : eG T.t = dN T.t := by unfold eG; rw [hv]; rfl
 obtain ⟨x9, hx9⟩ : ∃ z, z = (eG T.t)[k]'hkx := ⟨_, rfl⟩
 have hxm : x9 ∈ dN T.t := by rw [hx9, <- hli]; exact aC hkx
 have hmx := qS hwk.1 (eX.1 hxm).1
 have hxi := fI.1 hmx.1
 have hjx : x9.toNat < T.l.length := by omega
 have hgx : gP T.t x9 = (T.l[x9.toNat]'hjx).t := jH rfl hjx
 have hxv := hmx.2 (by have h9 := (eX.1 hxm).2; unfold oF at h9; exact of_decide_eq_true h9)
 rw [hgx] at hxv
 have hxv : (T.l[x9.toNat]'hjx).v.l.length = (T.l[x9.toNat]'hjx).k.l.length := hxv
 have hsx := iP hwk.2.2 hmx.1
 rw [hgx] at hsx
 have hk5 : (T.l[x9.toNat]'hjx).k.l.length <= 5 := hsx.1
 have hpt := uB (T := T.t) hkx
 rw [<- hx9, hgx] at hpt
 have hsl := oC hwk.2.2 hwk.1 t1
 have hll : (eG T.t).length <= 343 := by rw [hli]; exact cR qH hsl
 have hpl := mL hwk.2.2 (l := (eG T.t).take k) (λ x hx => (qS hwk.1 (eX.1 (by rw [<- dA, <- dN, <- hli]; exact cN hx)).1).1)
 rw [aB, dX t1] at hpl
 have f0 : k < (eG T.t).length := hkx
 refine ov 5 [] (a := cG f0 (a0.rd 1 rfl) (h0 := t1)) (b := ?_)
 refine ov 0 [] (s := Vi x9) (a := by exact cv (Ru.congr (Ru.load1 el3 rfl (ldm (a0.rd 1 rfl) f0)) (I_congr hx9.symm)) rfl) (b := ?_)
 have b0 : x9.toNat < T.l.length := t1
 refine ov 7 [2] (a := cJ b0 (hNT.at a0).1 (h0 := t1)) (b := ?_)
 refine ov 0 [] (a := gL b0 (hNT.at a0).1) (b := ?_)
 refine cq 0 [] (b := gD (T.l[x9.toNat]'b0) t0 ((hNT.at a0).2.get b0) qo (by exact hxv)) (c := ?_)
 rintro _ J0 ⟨v0, y0, rfl, n0⟩
 have e0 := a0.cl 0 n0
 have G0 := (e0.cap 0 rfl).1
 refine aF 0 [] 1 (e0.rd 0 rfl) (λ K0 g0 i0 C0 j0 => ?_) (hn := by first | omega | (simp only [aA, dF]; omega)) (hb := by first | omega | (simp only [aA, dF]; omega))
 refine ov 3 [] (a := bL (k + 1)) (b := ?_)
 have p0 : (cU T.t ((eG T.t).take k) ++ aV (T.l[x9.toNat]'b0).t : List PairT) = cU T.t ((eG T.t).take (k + 1)) := hpt.symm
 have A0 := j0.reF 1 p0
 exact le3 2 [] (k + 1) g0 i0 [1, 2, 3] (h := t9)
 refine E1 7 [] (.slice A2 (cU T.t ((eG T.t).take k)).length c2) ?_
 have r0 : (cU T.t ((eG T.t).take k) : List PairT) = (gC T.t) := (by rw [aE t1]; rfl)
 have l0 := a0.reF 0 r0
 exact ⟨A2, c2, (sl_congr (by rw [aE t1]; rfl)), (l0.pk [0])⟩
theorem aLk (x : PairT) (w : World) :
  aR Tryz.prog 30 [.agg #[I x.key, I x.val]] w (λ v w1 => v = .bool (nD x.key && fA x.val) /\ Mem w w1 [] []) := by
 have hM : Mem w w [] [] := Mem.refl
 refine aR.n1 Tryz.func30 rfl Tryz.results30 Tryz.ntmps30 rfl ?_
 refine Bx 2 [] λ c0 e0 g0 f0 => ?_
 refine cp 6 [0] (b := aEu _ c0 ) (c := λ d0 a0 => ?_)
 refine pt 1 [] 6 (λ g6 => ?_) (λ g6 => ?_)
 refine cp 2 [0] (b := pH _ d0 ) (c := λ h0 b0 => ?_)
 refine E1 4 [] (.bool (fA x.val)) ?_
 exact ⟨(by first | rfl | simp_all), (Mem.none b0)⟩
 refine E1 7 [] (.bool false) ?_
 exact ⟨(by first | rfl | simp_all), (Mem.none a0)⟩
theorem zK (A : Option Addr) (c : Nat) (l : List PairT) (w : World) (hA : Rd w A (l.flatMap cY)) (hl : l.length <= 1048576) :
  aR Tryz.prog 77 [.slice A l.length c] w (λ v w1 => ∃ (A1 : Option Addr) (c1 : Nat), v = .slice A1 (l.map PairT.val).length c1 /\ Mem w w1 [] [oI A1 c1 (l.map PairT.val)]) := by
 have hM : Mem w w [] [] := Mem.refl
 refine aR.n1 Tryz.func77 rfl Tryz.results77 Tryz.ntmps77 rfl ?_
 refine go 8 [] ?_
 refine O.mmake (k := l.length) (sz := 1) (xs := (List.replicate l.length (0 : Int)).map I) hM rfl Tryz.underlying30 el3 rfl rfl rfl rfl t1 t1 (aKl rfl) (λ n0 b0 s0 i0 => ?_)
 have d0 : (List.replicate l.length (0 : Int) : List Int) = (l.take 0).map PairT.val ++ List.replicate (l.length - 0) (0 : Int) := aAk
 have q0 : Mem w n0 [] [[⟨.slice (bl b0) l.length l.length, 3, 1, l.length, ((l.take 0).map PairT.val ++ List.replicate (l.length - 0) (0 : Int)).map I⟩]] := i0.relen 0 (n' := l.length) (xs' := ((l.take 0).map PairT.val ++ List.replicate (l.length - 0) (0 : Int)).map I) rfl (by first | rfl | exact congrArg List.length d0 | (have hqq := congrArg List.length d0; first | omega | (simp at hqq ⊢; omega)) | (simp; done) | (simp; omega)) (congrArg (λ z_ => z_.map I) d0) rfl
 refine lp1 10 [] (λ (k : Nat) => ([(3, Vl (bl b0) l.length l.length), (11, Vi ((k : Nat) : Int))] : List (Nat × SV))) (λ k => (k <= l.length)) (λ k => [[⟨.slice (bl b0) l.length l.length, 3, 1, l.length, ((l.take k).map PairT.val ++ List.replicate (l.length - k) (0 : Int)).map I⟩]]) (λ k => l.length - k) [9, 10] [0] [] 0 (λ k σ x0 hI c0 => ?_) (h0 := (bI _))
 have m0 := hI
 have u0 := (c0.cap 0 rfl).1
 refine cd 5 [] (λ c12 => ?_) (λ c12 => ?_)
 have a0 : k < l.length := t3
 refine ov 6 [] (a := cJ a0 (hA.at c0)) (b := ?_)
 refine ov 0 [] (a := gL a0 (hA.at c0)) (b := ?_)
 refine Al 0 [] λ v0 g0 t0 p0 => ?_
 refine Sb 1 [] 0 λ w0 j0 => ?_
 have f0 : k < ((l.take k).map PairT.val ++ List.replicate (l.length - k) (0 : Int)).length := (by rw [aEk m0]; exact a0)
 refine ov 6 [0] (a := cG f0 (j0.rd 1 rfl) (h0 := t1)) (b := ?_)
 refine sM 0 [] 1 f0 λ o0 k0 => ?_
 refine ov 2 [] (a := bL (k + 1)) (b := ?_)
 have e0 : (((l.take k).map PairT.val ++ List.replicate (l.length - k) (0 : Int)).set k (l[k]'a0).val : List Int) = (l.take (k + 1)).map PairT.val ++ List.replicate (l.length - (k + 1)) (0 : Int) := (xW a0)
 have r0 : Mem w o0 [] [[⟨.slice (bl g0) 1 1, 27, 2, 1, [I (l[k]'a0).key, I (l[k]'a0).val]⟩], [⟨.slice (bl b0) l.length l.length, 3, 1, l.length, ((l.take (k + 1)).map PairT.val ++ List.replicate (l.length - (k + 1)) (0 : Int)).map I⟩]] := k0.relen 1 (n' := l.length) (xs' := ((l.take (k + 1)).map PairT.val ++ List.replicate (l.length - (k + 1)) (0 : Int)).map I) rfl (by first | rfl | exact congrArg List.length e0 | (have hqq := congrArg List.length e0; first | omega | (simp at hqq ⊢; omega)) | (simp; done) | (simp; omega)) (congrArg (λ z_ => z_.map I) e0) rfl
 exact le1 2 [] (k + 1) [1] (h := t9)
 refine E1 7 [] (.slice (bl b0) l.length l.length) ?_
 have l0 := c0.rM 0 (l.map PairT.val : List Int) (e := (aEi t1))
 exact ⟨bl b0, l.length, (by first | rfl | exact sl_congr t8 | (simp; done)), (l0.pk [0])⟩
theorem iM (p : PgL) (w : World) (hNp : PgN w p) :
  aR Tryz.prog 40 [.agg #[.slice p.k.A p.k.l.length p.k.cp, .slice p.c.A p.c.l.length p.c.cp, .slice p.v.A p.v.l.length p.v.cp]] w (λ v w1 => v = .agg #[.slice p.k.A p.k.l.length p.k.cp, .slice p.c.A p.c.l.length p.c.cp] /\ Mem w w1 [] []) := by
 have hM : Mem w w [] [] := Mem.refl
 refine aR.nG (rs := [.cell 2 65]) Tryz.func40 rfl Tryz.results40 Tryz.ntmps40 rfl ?_
 refine Bx 2 [] λ h0 b0 f0 d0 => ?_
 refine Al 0 [] λ i0 c0 g0 e0 => ?_
 refine Sb 8 [1, 1] 0 λ j0 a0 => ?_
 refine EG 2 [] ?_
 refine PG (vs := [.agg #[.slice p.k.A p.k.l.length p.k.cp, .slice p.c.A p.c.l.length p.c.cp]]) (bX.cell (l := [.slice p.k.A p.k.l.length p.k.cp, .slice p.c.A p.c.l.length p.c.cp]) rfl (cA (i := 0) (j := 0) a0 rfl rfl) tK rfl bX.nil) ?_
 exact ⟨rfl, (Mem.none a0)⟩
theorem iN (KA : Option Addr) (kc : Nat) (kl : List Int) (CA : Option Addr) (cc : Nat) (cl : List Int) (w : World) (hRK : Rd w KA (kl.map I)) (hRC : Rd w CA (cl.map I)) :
  aR Tryz.prog 37 [.agg #[.slice KA kl.length kc, .slice CA cl.length cc]] w (λ v w1 => v = .agg #[.slice KA kl.length kc, .slice CA cl.length cc, .slice none 0 0] /\ Mem w w1 [] []) := by
 have hM : Mem w w [] [] := Mem.refl
 refine aR.nG (rs := [.cell 2 42]) Tryz.func37 rfl Tryz.results37 Tryz.ntmps37 rfl ?_
 refine Bx 2 [] λ h0 b0 f0 d0 => ?_
 refine Al 0 [] λ i0 c0 g0 e0 => ?_
 refine Sb 8 [1, 1] 0 λ j0 a0 => ?_
 refine EG 2 [] ?_
 refine PG (vs := [.agg #[.slice KA kl.length kc, .slice CA cl.length cc, .slice none 0 0]]) (bX.cell (l := [.slice KA kl.length kc, .slice CA cl.length cc, .slice none 0 0]) rfl (cA (i := 0) (j := 0) a0 rfl rfl) tJ rfl bX.nil) ?_
 exact ⟨(by first | rfl | exact sl_congr t8 | (simp; done)), (Mem.none a0)⟩
theorem lD (A : Option Addr) (c : Nat) (l : List PairT) (w : World) (hA : Rd w A (l.flatMap cY)) (hl : l.length <= 1048576) :
  aR Tryz.prog 33 [.slice A l.length c] w (λ v w1 => ∃ (A1 : Option Addr) (c1 : Nat) (A3 : Option Addr) (c3 : Nat), v = .agg #[.slice A1 (bG l).length c1, .slice none 0 0, .slice A3 (l.map PairT.val).length c3] /\ Mem w w1 [] [oI A1 c1 (bG l), oI A3 c3 (l.map PairT.val)]) := by
 have hM : Mem w w [] [] := Mem.refl
 refine aR.nG (rs := [.cell 2 42]) Tryz.func33 rfl Tryz.results33 Tryz.ntmps33 rfl ?_
 refine Al 2 [] λ k0 m0 n0 f0 => ?_
 refine cq 4 [] (b := pI _ _ _ k0 (hA.at f0) q0) (c := ?_)
 rintro _ l0 ⟨a0, c0, rfl, i0⟩
 have e0 := f0.cl 0 i0
 have o0 := (e0.cap 0 rfl).1
 refine cq 1 [] (b := zK _ _ _ l0 (hA.at e0) q0) (c := ?_)
 rintro _ r0 ⟨b0, d0, rfl, j0⟩
 have h0 := e0.cl 0 j0
 have p0 := (h0.cap 0 rfl).1
 refine Sb 1 [] 2 λ s0 g0 => ?_
 refine EG 2 [] ?_
 refine PG (vs := [.agg #[.slice a0 (bG l).length c0, .slice none 0 0, .slice b0 (l.map PairT.val).length d0]]) (bX.cell (l := [.slice a0 (bG l).length c0, .slice none 0 0, .slice b0 (l.map PairT.val).length d0]) rfl (cA (i := 2) (j := 0) g0 rfl rfl) tJ rfl bX.nil) ?_
 exact ⟨a0, c0, b0, d0, (by first | rfl | exact sl_congr t8 | (simp; done)), (g0.pk [1, 0])⟩
theorem rW (p : PgL) (n : Int) (w : World) (hNp : PgN w p) (hp : p.c.l.length <= 1048576) :
  aR Tryz.prog 38 [.agg #[.slice p.k.A p.k.l.length p.k.cp, .slice p.c.A p.c.l.length p.c.cp, .slice p.v.A p.v.l.length p.v.cp], I n] w (λ v w1 => v = I (dE p.c.l n) /\ Mem w w1 [] []) := by
 have hM : Mem w w [] [] := Mem.refl
 refine aR.n1 Tryz.func38 rfl Tryz.results38 Tryz.ntmps38 rfl ?_
 refine Bx 2 [] λ i0 d0 f0 e0 => ?_
 refine lp1 11 [0] (λ (k : Nat) => ([(10, Vi ((k : Nat) : Int))] : List (Nat × SV))) (λ k => (k <= p.c.l.length) /\ (∀ x ∈ p.c.l.take k, x ≠ n)) (λ k => []) (λ k => p.c.l.length - k) [1, 8, 9] [] [0] 0 (λ k σ j0 hI a0 => ?_) (h0 := ⟨(bI _), t15⟩)
 obtain ⟨g0, c0⟩ := hI
 refine cd 5 [] (λ c11 => ?_) (λ c11 => ?_)
 have b0 : k < p.c.l.length := t3
 refine ov 6 [] (a := cG b0 (hNp.at a0).2.1) (b := ?_)
 refine ov 0 [] (a := eT b0 (hNp.at a0).2.1) (b := ?_)
 refine cd 9 [] (λ c17 => ?_) (λ c17 => ?_)
 refine E1 6 [] (I ((k : Nat) : Int)) ?_
 exact ⟨(I_congr (by rw [aCu b0 c17 c0])), (Mem.none a0)⟩
 refine ov 2 [] (a := bL (k + 1)) (b := ?_)
 exact le1 2 [] (k + 1) [0] (h := by exact ⟨t7, (yL c0 b0 c17)⟩)
 refine E1 6 [] (I (-1)) ?_
 exact ⟨(I_congr (by rw [aJt (by have := c0; rwa [aE t1] at this)])), (Mem.none a0)⟩
theorem yA (A : Option Addr) (c : Nat) (l : List PairT) (w : World) (hA : Rd w A (l.flatMap cY)) (hl : l.length <= 1048576) (hcp : l.length <= c) (hv : bW l = true) :
  aR Tryz.prog 81 [.slice A l.length c] w (λ v w1 => ∃ (A1 : Option Addr) (c1 : Nat) (A2 : Option Addr) (c2 : Nat), v = .tuple #[.slice A1 (l.take ((l.length + 1) / 2)).length c1, .slice A2 (l.drop ((l.length + 1) / 2)).length c2] /\ Mem w w1 [] [oP A1 c1 (l.take ((l.length + 1) / 2)), oP A2 c2 (l.drop ((l.length + 1) / 2))]) := by
 have hM : Mem w w [] [] := Mem.refl
 refine aR.n2 Tryz.func81 rfl Tryz.results81 Tryz.ntmps81 rfl ?_
 refine cp 9 [] (b := nT _ _ _ w (hA.at hM) q0) (c := λ r0 n0 => ?_)
 refine cn 2 [] (λ c7 => ?_) (λ c7 => ?_)
 (exfalso; simp [hv] at c7)
 refine ov 5 [] (a := bL (l.length + 1)) (b := ?_)
 refine ov 0 [] (a := aAr ((l.length + 1) / 2)) (b := ?_)
 refine any 3 [] 10 [] λ m0 g0 => ?_
 refine av [0, 1] [] 2 (s := Vl A (l.take ((l.length + 1) / 2)).length c) (a := by exact λ w2 hw2 => cv (Ru.congr (Ru.lsliceTo (h := ((l.length + 1) / 2)) Tryz.underlying43 jA rfl rfl t1 t1) (sl_congr t6)) rfl) (b := ?_)
 refine av [4, 5] [] 6 (s := Vl (if c = ((l.length + 1) / 2) then A else ofs A (((l.length + 1) / 2) * 2)) (l.drop ((l.length + 1) / 2)).length (c - ((l.length + 1) / 2))) (a := by exact λ w2 hw2 => cv (Ru.congr (Ru.lsliceFrom (l := ((l.length + 1) / 2)) Tryz.underlying43 jA rfl rfl t1 t1) (sl_congr t6)) rfl) (b := ?_)
 refine aO [] [] 3 ?_
 refine cq 0 [] (b := mS _ _ _ m0 (nK dI (hA.at g0)) q0) (c := ?_)
 rintro _ l0 ⟨b0, d0, rfl, j0⟩
 have a0 := g0.cl 0 j0
 have o0 := (a0.cap 0 rfl).1
 refine os 0 [] [] ?_
 refine aO [] [] 7 ?_
 refine cq 0 [] (b := mS _ _ _ l0 (kY (k := ((l.length + 1) / 2)) (c := c) dI (hA.at a0) q2 q2) q0) (c := ?_)
 rintro _ s0 ⟨c0, e0, rfl, k0⟩
 have f0 := a0.cl 0 k0
 have p0 := (f0.cap 0 rfl).1
 refine os 0 [] [] ?_
 refine an [8, 9] [] ?_
 refine E2 1 [] (.slice b0 (l.take ((l.length + 1) / 2)).length d0) (.slice c0 (l.drop ((l.length + 1) / 2)).length e0) ?_
 have h0 := f0.rF 1 (l.take ((l.length + 1) / 2) : List PairT) (e := t2)
 have i0 := h0.rF 0 (l.drop ((l.length + 1) / 2) : List PairT) (e := t2)
 exact ⟨b0, d0, c0, e0, (by first | rfl | exact sl_congr t8 | (simp; done)), (i0.pk [1, 0])⟩
end Go.Proofs.YtemejgglbhjodaaGreatDoor
namespace Go.Proofs.YtemejgglbhjodaaGreatDoor
open Go.Px
set_option maxHeartbeats 1000000 in
theorem oE (KA : Option Addr) (kc : Nat) (kl : List Int) (CA : Option Addr) (cc : Nat) (cl : List Int) (w : World) (hRK : Rd w KA (kl.map I)) (hRC : Rd w CA (cl.map I)) (h9 : kl.length <= 1048576 /\ cl.length <= 1048576) :
  aR Tryz.prog 83 [.agg #[.slice KA kl.length kc, .slice CA cl.length cc]] w (λ v w1 => v = .bool (inB kl cl) /\ Mem w w1 [] []) := by
 have hM : Mem w w [] [] := Mem.refl
 refine aR.n1 Tryz.func83 rfl Tryz.results83 Tryz.ntmps83 rfl ?_
 refine Bx 2 [] λ m0 n0 q0 d0 => ?_
 refine pp 10 [0] 10 (λ g10 => ?_) (λ g10 => ?_)
 refine E1 18 [] (.bool false) ?_
 exact ⟨(by rw [sH (by first | (left; omega) | (right; left; omega) | (right; right; left; simp_all; done))]), (Mem.none d0)⟩
 refine pp 6 [0] 16 (λ g16 => ?_) (λ g16 => ?_)
 refine E1 12 [] (.bool false) ?_
 exact ⟨(by rw [sH (by first | (left; omega) | (right; left; omega) | (right; right; left; simp_all; done))]), (Mem.none d0)⟩
 refine cp 2 [0] (b := lP _ _ _ m0 (hRK.at d0) qo) (c := λ u0 e0 => ?_)
 refine cn 3 [] (λ c21 => ?_) (λ c21 => ?_)
 refine E1 5 [] (.bool false) ?_
 exact ⟨(by rw [sH (by first | (left; omega) | (right; left; omega) | (right; right; left; simp_all; done))]), (Mem.none e0)⟩
 have h15 : 1 <= kl.length /\ kl.length <= 5 := by omega
 have hvk : bR kl = true := by simp_all
 refine ov 10 [0, 0] (a := bL (kl.length + 1)) (b := ?_)
 refine cd 2 [] (λ c29 => ?_) (λ c29 => ?_)
 refine E1 5 [] (.bool false) ?_
 exact ⟨(by rw [sH (.inr (.inr (.inr (.inl t1))))]), (Mem.none e0)⟩
 refine go 3 [] ?_
 refine O.marr (m := 16) (sz := 1) (xs := (List.replicate 16 false).map boV) e0 rfl rfl el75 (by kernel_rfl) t11 t19 (λ v0 c0 r0 i0 => ?_)
 have j0 := i0.reA 0 (show List.replicate 16 false = lT [] from aPa)
 have o0 := j0.reA 0 (show lT [] = lT (cl.take 0) from t11)
 refine lp1 10 [1] (λ (k : Nat) => ([(33, Vi ((k : Nat) : Int))] : List (Nat × SV))) (λ k => (k <= cl.length) /\ (qG (cl.take k) = true)) (λ k => [[⟨.slice (bl c0) 16 16, 75, 1, 16, (lT (cl.take k)).map boV⟩]]) (λ k => cl.length - k) [3, 31, 32] [0] [1] 0 (λ k σ w0 hI b0 => ?_) (h0 := ⟨(bI _), (by (try dsimp only); simp [qG])⟩)
 obtain ⟨s0, f0⟩ := hI
 refine cd 5 [] (λ c34 => ?_) (λ c34 => ?_)
 have a0 : k < cl.length := t3
 refine ov 5 [] (a := cG a0 (hRC.at b0)) (b := ?_)
 refine ov 0 [] (a := eT a0 (hRC.at b0)) (b := ?_)
 refine pp 8 [] 39 (λ g39 => ?_) (λ g39 => ?_)
 refine E1 15 [] (.bool false) ?_
 exact ⟨(by rw [sH (.inr (.inr (.inr (.inr (aCg a0 (by first | (left; omega) | (right; left; omega) | (right; right; have h8 := c47; rw [uH t1] at h8; exact of_decide_eq_true h8)))))))]), (Mem.none b0)⟩
 refine pp 4 [] 43 (λ g43 => ?_) (λ g43 => ?_)
 refine E1 11 [] (.bool false) ?_
 exact ⟨(by rw [sH (.inr (.inr (.inr (.inr (aCg a0 (by first | (left; omega) | (right; left; omega) | (right; right; have h8 := c47; rw [uH t1] at h8; exact of_decide_eq_true h8)))))))]), (Mem.none b0)⟩
 have l0 : (cl[k]'a0).toNat < (lT (cl.take k)).length := (by rw [aFz]; omega)
 refine ov 1 [] (s := Vp (bl c0) ((cl[k]'a0).toNat * 1)) (a := by exact cv (Ru.indexArr (j := (cl[k]'a0).toNat) Tryz.underlying75 el4 rfl rfl rfl t1 t13) rfl) (b := ?_)
 refine ov 0 [] (a := eT l0 (b0.rd 0 rfl)) (b := ?_)
 refine cb 2 [] (λ c47 => ?_) (λ c47 => ?_)
 refine E1 5 [] (.bool false) ?_
 exact ⟨(by rw [sH (.inr (.inr (.inr (.inr (aCg a0 (by first | (left; omega) | (right; left; omega) | (right; right; have h8 := c47; rw [uH t1] at h8; exact of_decide_eq_true h8)))))))]), (Mem.none b0)⟩
 have hns : cl[k] ∉ cl.take k := (by have h8 := c47; rw [uH t1] at h8; exact of_decide_eq_false h8)
 have k0 : (cl[k]'a0).toNat < (lT (cl.take k)).length := (by rw [aFz]; omega)
 refine ov 3 [] (s := Vp (bl c0) ((cl[k]'a0).toNat * 1)) (a := by exact cv (Ru.indexArr (j := (cl[k]'a0).toNat) Tryz.underlying75 el4 rfl rfl rfl t1 t13) rfl) (b := ?_)
 refine sM 0 [] 0 k0 λ t0 g0 => ?_
 have p0 := g0.reA 0 (show (lT (cl.take k)).set (cl[k]'a0).toNat true = lT (cl.take (k + 1)) from (by rw [aPb t1, <- dO a0]))
 refine ov 2 [] (a := bL (k + 1)) (b := ?_)
 exact le1 2 [] (k + 1) [0, 1] (h := by exact ⟨t7, (aLo a0 f0 t1 t1 hns)⟩)
 refine E1 6 [] (.bool true) ?_
 exact ⟨(by rw [qX.2 ⟨h15.1, h15.2, hvk, t1, by rwa [qO t1] at f0⟩]), (Mem.none b0)⟩
end Go.Proofs.YtemejgglbhjodaaGreatDoor
namespace Go.Proofs.YtemejgglbhjodaaGreatDoor
open Go.Px
theorem aDv (KA : Option Addr) (kc : Nat) (kl : List Int) (CA : Option Addr) (cc : Nat) (cl : List Int) (key : Int) (w : World) (hRK : Rd w KA (kl.map I)) (hRC : Rd w CA (cl.map I)) (h9 : kl.length <= 1048576 /\ cl.length <= 1048576) (hin : inB kl cl = true) :
  aR Tryz.prog 74 [.agg #[.slice KA kl.length kc, .slice CA cl.length cc], I key] w (λ v w1 => v = I (cl.getD (gW kl key) 0) /\ Mem w w1 [] []) := by
 have hM : Mem w w [] [] := Mem.refl
 refine aR.n1 Tryz.func74 rfl Tryz.results74 Tryz.ntmps74 rfl ?_
 have hin9 := qX.1 hin
 have hu9 := rK kl key
 refine Bx 2 [] λ d0 e0 g0 b0 => ?_
 refine cp 6 [0] (b := oE KA kc kl CA cc cl d0 (hRK.at b0) (hRC.at b0) (by exact h9)) (c := λ i0 f0 => ?_)
 refine cn 2 [] (λ c7 => ?_) (λ c7 => ?_)
 (exfalso; simp [hin] at c7)
 refine dr 2 [] ?_
 refine qc 5 [0, 0] (X := I ((gW kl key : Nat) : Int)) (b := by exact λ w2 hw2 => (aDs KA kc kl key w2 (hRK.at hw2) qo).mono λ _ _ h => ⟨h.1.trans (I_congr (by rw [if_pos hin9.2.2.1])), Mem.call0 hw2 h.2⟩) (c := ?_)
 have a0 : gW kl key < cl.length := t1
 refine qv 0 [] (a := by exact λ _ hw2 => cG a0 (hRC.at hw2) (h0 := t1)) (b := ?_)
 refine qv 0 [] (s := Vi (cl.getD (gW kl key) 0)) (a := by exact λ w2 hw2 => cv (Ru.congr (Ru.load1 el3 rfl (ldm (hRC.at hw2) a0)) (I_congr (bF a0).symm)) rfl) (b := ?_)
 refine qn 1 [] λ j0 c0 => ?_
 refine E1 1 [] (I (cl.getD (gW kl key) 0)) ?_
 exact ⟨rfl, (Mem.none c0)⟩
set_option maxHeartbeats 2000000 in
theorem vW (KA : Option Addr) (kc : Nat) (kl : List Int) (CA : Option Addr) (cc : Nat) (cl : List Int) (w : World) (hRK : Rd w KA (kl.map I)) (hRC : Rd w CA (cl.map I)) (hcp : kl.length <= kc /\ cl.length <= cc) (h1 : 1 <= kl.length /\ kl.length <= 1000) (h2 : cl.length = kl.length + 1) :
  aR Tryz.prog 82 [.agg #[.slice KA kl.length kc, .slice CA cl.length cc]] w (λ v w1 => ∃ (A1 : Option Addr) (c1 : Nat) (A2 : Option Addr) (c2 : Nat) (A3 : Option Addr) (c3 : Nat) (A4 : Option Addr) (c4 : Nat), v = .tuple #[.agg #[.slice A1 (kl.take (kl.length / 2)).length c1, .slice A2 (cl.take (kl.length / 2 + 1)).length c2], I (kl.getD (kl.length / 2) 0), .agg #[.slice A3 (kl.drop (kl.length / 2 + 1)).length c3, .slice A4 (cl.drop (kl.length / 2 + 1)).length c4]] /\ Mem w w1 [] [oI A1 c1 (kl.take (kl.length / 2)), oI A2 c2 (cl.take (kl.length / 2 + 1)), oI A3 c3 (kl.drop (kl.length / 2 + 1)), oI A4 c4 (cl.drop (kl.length / 2 + 1))]) := by
 have hM : Mem w w [] [] := Mem.refl
 refine aR.nG (rs := [.cell 2 65, .tmp 3, .cell 4 65]) Tryz.func82 rfl Tryz.results82 Tryz.ntmps82 rfl ?_
 refine Bx 2 [] λ L1 m1 C1 p1 => ?_
 refine Al 0 [] λ M1 n1 D1 q1 => ?_
 refine Al 1 [] λ N1 o1 E1 r1 => ?_
 refine ov 6 [2] (a := aAr (kl.length / 2)) (b := ?_)
 refine ct5 2 [] (λ (bx6 : Nat) (a0 : Option Addr) (e0 : Nat) (b0 : Option Addr) (f0 : Nat) => ([(6, Vp (bl bx6) 0)] : List (Nat × SV))) (λ bx6 a0 e0 b0 f0 => True) (λ bx6 a0 e0 b0 f0 => [[⟨.slice (bl bx6) 1 1, 65, 2, 1, [.slice a0 (kl.take (kl.length / 2)).length e0, .slice b0 (cl.take (kl.length / 2 + 1)).length f0]⟩], oI a0 e0 (kl.take (kl.length / 2)), oI b0 f0 (cl.take (kl.length / 2 + 1))]) [1, 2, 4, 5] [0, 1, 2] ?_ (λ bx6 a0 e0 b0 f0 σ R1 hI P0 => ?_)
 refine any 0 [] 14 [0, 1, 2] λ k1 N0 => ?_
 refine av [0, 1, 2] [2] 3 (s := Vl KA (kl.take (kl.length / 2)).length kc) (a := by exact λ w2 hw2 => cv (Ru.congr (Ru.lsliceTo (h := (kl.length / 2)) Tryz.underlying30 el3 rfl rfl t1 t1) (sl_congr t6)) rfl) (b := ?_)
 refine av [5, 6, 7] [2] 8 (a := by exact λ _ hw2 => bL ((kl.length / 2) + 1)) (b := ?_)
 refine av [] [] 9 (s := Vl CA (cl.take ((kl.length / 2) + 1)).length cc) (a := by exact λ w2 hw2 => cv (Ru.congr (Ru.lsliceTo (h := ((kl.length / 2) + 1)) Tryz.underlying30 el3 rfl rfl t1 t1) (sl_congr t6)) rfl) (b := ?_)
 refine aT [] [] 4 12 ?_ ?_
 refine cq 0 [] (b := cD _ _ _ k1 (fE (hRK.at N0)) q0) (c := ?_)
 rintro _ L0 ⟨A0, C0, rfl, I0⟩
 have j0 := N0.cl 0 I0
 have i1 := (j0.cap 0 rfl).1
 refine os 0 [] [1, 2, 3] ?_
 refine aT [] [] 10 12 ?_ ?_
 refine cq 0 [] (b := cD _ _ _ L0 (fE (hRC.at j0)) q0) (c := ?_)
 rintro _ V0 ⟨n0, s0, rfl, y0⟩
 have u0 := j0.cl 0 y0
 have S0 := (u0.cap 0 rfl).1
 refine os 0 [] [2, 3, 4] ?_
 refine aO [11] [] 12 ?_
 refine Al 0 [] λ F0 p0 Q0 l0 => ?_
 refine os 0 [] [3, 4, 5] ?_
 refine aO [] [] 13 ?_
 refine Sb 0 [] 0 λ W0 v0 => ?_
 refine os 0 [] [3, 4, 5] ?_
 refine an [] [] ?_
 have a1 := v0.rM 2 (kl.take (kl.length / 2) : List Int) (e := t2)
 have U0 : ((cl.take ((kl.length / 2) + 1)) : List Int) = cl.take (kl.length / 2 + 1) := t2
 have x1 := a1.reM 1 U0
 exact ce5 0 [] p0 A0 C0 n0 s0 [0, 2, 1, 3, 4, 5] (h := t12)
 refine Al 0 [] λ F0 p0 Q0 l0 => ?_
 refine os 0 [] [2, 3, 4] ?_
 refine aO [] [] 10 ?_
 refine cq 0 [] (b := cD _ _ _ F0 (fE (hRC.at l0)) q0) (c := ?_)
 rintro _ V0 ⟨n0, s0, rfl, y0⟩
 have u0 := l0.cl 0 y0
 have S0 := (u0.cap 0 rfl).1
 refine os 0 [] [3, 4, 5] ?_
 refine aO [11] [] 13 ?_
 refine Sb 0 [] 1 λ W0 v0 => ?_
 refine os 0 [] [3, 4, 5] ?_
 refine an [] [] ?_
 have d1 := v0.rM 2 (kl.take (kl.length / 2) : List Int) (e := t2)
 have y1 := d1.rM 0 (cl.take (kl.length / 2 + 1) : List Int) (e := t2)
 exact ce5 0 [] p0 A0 C0 n0 s0 [1, 2, 0, 3, 4, 5] (h := t12)
 refine Al 0 [] λ F0 p0 Q0 l0 => ?_
 refine os 0 [] [1, 2, 3] ?_
 refine aO [] [] 4 ?_
 refine cq 0 [] (b := cD _ _ _ F0 (fE (hRK.at l0)) q0) (c := ?_)
 rintro _ L0 ⟨A0, C0, rfl, I0⟩
 have j0 := l0.cl 0 I0
 have i1 := (j0.cap 0 rfl).1
 refine os 0 [] [2, 3, 4] ?_
 refine aO [] [] 10 ?_
 refine cq 0 [] (b := cD _ _ _ L0 (fE (hRC.at j0)) q0) (c := ?_)
 rintro _ V0 ⟨n0, s0, rfl, y0⟩
 have u0 := j0.cl 0 y0
 have S0 := (u0.cap 0 rfl).1
 refine os 0 [] [3, 4, 5] ?_
 refine aO [11] [] 13 ?_
 refine Sb 0 [] 2 λ W0 v0 => ?_
 refine os 0 [] [3, 4, 5] ?_
 refine an [] [] ?_
 have e1 := v0.rM 1 (kl.take (kl.length / 2) : List Int) (e := t2)
 have z1 := e1.rM 0 (cl.take (kl.length / 2 + 1) : List Int) (e := t2)
 exact ce5 0 [] p0 A0 C0 n0 s0 [2, 1, 0, 3, 4, 5] (h := t12)
 have F1 := (P0.cap 1 rfl).1
 have H1 := (P0.cap 2 rfl).1
 refine ct5 0 [] (λ (bx7 : Nat) (c0 : Option Addr) (g0 : Nat) (d0 : Option Addr) (i0 : Nat) => ([(7, Vp (bl bx7) 0)] : List (Nat × SV))) (λ bx7 c0 g0 d0 i0 => True) (λ bx7 c0 g0 d0 i0 => [[⟨.slice (bl bx7) 1 1, 65, 2, 1, [.slice c0 (kl.drop (kl.length / 2 + 1)).length g0, .slice d0 (cl.drop (kl.length / 2 + 1)).length i0]⟩], oI c0 g0 (kl.drop (kl.length / 2 + 1)), oI d0 i0 (cl.drop (kl.length / 2 + 1))]) [1, 2, 4, 5, 6] [0, 1, 2, 3, 4, 5] ?_ (λ bx7 c0 g0 d0 i0 σ S1 hI E0 => ?_)
 refine any 0 [] 15 [0, 1, 2, 3, 4, 5] λ l1 O0 => ?_
 refine av [0, 1, 2] [5] 3 (a := by exact λ _ hw2 => bL ((kl.length / 2) + 1)) (b := ?_)
 refine av [] [] 4 (s := Vl (if kc = ((kl.length / 2) + 1) then KA else ofs KA (((kl.length / 2) + 1) * 1)) (kl.drop ((kl.length / 2) + 1)).length (kc - ((kl.length / 2) + 1))) (a := by exact λ w2 hw2 => cv (Ru.congr (Ru.lsliceFrom (l := ((kl.length / 2) + 1)) Tryz.underlying30 el3 rfl rfl t1 t1) (sl_congr t6)) rfl) (b := ?_)
 refine av [6, 7, 8] [5] 9 (a := by exact λ _ hw2 => bL ((kl.length / 2) + 1)) (b := ?_)
 refine av [] [] 10 (s := Vl (if cc = ((kl.length / 2) + 1) then CA else ofs CA (((kl.length / 2) + 1) * 1)) (cl.drop ((kl.length / 2) + 1)).length (cc - ((kl.length / 2) + 1))) (a := by exact λ w2 hw2 => cv (Ru.congr (Ru.lsliceFrom (l := ((kl.length / 2) + 1)) Tryz.underlying30 el3 rfl rfl t1 t1) (sl_congr t6)) rfl) (b := ?_)
 refine aT [] [] 5 13 ?_ ?_
 refine cq 0 [] (b := cD _ _ _ l1 (fK (k := ((kl.length / 2) + 1)) (c := kc) (hRK.at O0) q2 q2) q0) (c := ?_)
 rintro _ M0 ⟨B0, D0, rfl, J0⟩
 have k0 := O0.cl 0 J0
 have j1 := (k0.cap 0 rfl).1
 refine os 0 [] [1, 2, 3, 4, 5, 6] ?_
 refine aT [] [] 11 13 ?_ ?_
 refine cq 0 [] (b := cD _ _ _ M0 (fK (k := ((kl.length / 2) + 1)) (c := cc) (hRC.at k0) q2 q2) q0) (c := ?_)
 rintro _ X0 ⟨o0, t0, rfl, z0⟩
 have w0 := k0.cl 0 z0
 have T0 := (w0.cap 0 rfl).1
 refine os 0 [] [2, 3, 4, 5, 6, 7] ?_
 refine aO [12] [] 13 ?_
 refine Al 0 [] λ G0 r0 R0 m0 => ?_
 refine os 0 [] [3, 4, 5, 6, 7, 8] ?_
 refine aO [] [] 14 ?_
 refine Sb 0 [] 0 λ Y0 x0 => ?_
 refine os 0 [] [3, 4, 5, 6, 7, 8] ?_
 refine an [] [] ?_
 have f1 := x0.rM 2 (kl.drop (kl.length / 2 + 1) : List Int) (e := t2)
 have B1 := f1.rM 1 (cl.drop (kl.length / 2 + 1) : List Int) (e := t2)
 exact ce5 0 [] r0 B0 D0 o0 t0 [0, 2, 1, 3, 4, 5, 6, 7, 8] (h := t12)
 refine Al 0 [] λ G0 r0 R0 m0 => ?_
 refine os 0 [] [2, 3, 4, 5, 6, 7] ?_
 refine aO [] [] 11 ?_
 refine cq 0 [] (b := cD _ _ _ G0 (fK (k := ((kl.length / 2) + 1)) (c := cc) (hRC.at m0) q2 q2) q0) (c := ?_)
 rintro _ X0 ⟨o0, t0, rfl, z0⟩
 have w0 := m0.cl 0 z0
 have T0 := (w0.cap 0 rfl).1
 refine os 0 [] [3, 4, 5, 6, 7, 8] ?_
 refine aO [12] [] 14 ?_
 refine Sb 0 [] 1 λ Y0 x0 => ?_
 refine os 0 [] [3, 4, 5, 6, 7, 8] ?_
 refine an [] [] ?_
 have g1 := x0.rM 2 (kl.drop (kl.length / 2 + 1) : List Int) (e := t2)
 have u1 := g1.rM 0 (cl.drop (kl.length / 2 + 1) : List Int) (e := t2)
 exact ce5 0 [] r0 B0 D0 o0 t0 [1, 2, 0, 3, 4, 5, 6, 7, 8] (h := t12)
 refine Al 0 [] λ G0 r0 R0 m0 => ?_
 refine os 0 [] [1, 2, 3, 4, 5, 6] ?_
 refine aO [] [] 5 ?_
 refine cq 0 [] (b := cD _ _ _ G0 (fK (k := ((kl.length / 2) + 1)) (c := kc) (hRK.at m0) q2 q2) q0) (c := ?_)
 rintro _ M0 ⟨B0, D0, rfl, J0⟩
 have k0 := m0.cl 0 J0
 have j1 := (k0.cap 0 rfl).1
 refine os 0 [] [2, 3, 4, 5, 6, 7] ?_
 refine aO [] [] 11 ?_
 refine cq 0 [] (b := cD _ _ _ M0 (fK (k := ((kl.length / 2) + 1)) (c := cc) (hRC.at k0) q2 q2) q0) (c := ?_)
 rintro _ X0 ⟨o0, t0, rfl, z0⟩
 have w0 := k0.cl 0 z0
 have T0 := (w0.cap 0 rfl).1
 refine os 0 [] [3, 4, 5, 6, 7, 8] ?_
 refine aO [12] [] 14 ?_
 refine Sb 0 [] 2 λ Y0 x0 => ?_
 refine os 0 [] [3, 4, 5, 6, 7, 8] ?_
 refine an [] [] ?_
 have b1 := x0.rM 1 (kl.drop (kl.length / 2 + 1) : List Int) (e := t2)
 have v1 := b1.rM 0 (cl.drop (kl.length / 2 + 1) : List Int) (e := t2)
 exact ce5 0 [] r0 B0 D0 o0 t0 [2, 1, 0, 3, 4, 5, 6, 7, 8] (h := t12)
 have G1 := (E0.cap 1 rfl).1
 have I1 := (E0.cap 2 rfl).1
 have J1 := (E0.cap 4 rfl).1
 have K1 := (E0.cap 5 rfl).1
 have U0 : kl.length / 2 < kl.length := by omega
 refine any 1 [] 10 [0, 1, 2, 3, 4, 5, 8] λ Q1 Z0 => ?_
 have K0 : (kl.length / 2) < kl.length := t1
 refine av [0, 1, 2, 3] [3, 6] 4 (a := by exact λ _ hw2 => cG K0 (hRK.at Z0) (h0 := t1)) (b := ?_)
 refine av [] [] 5 (s := Vi (kl.getD (kl.length / 2) 0)) (a := by exact λ w2 hw2 => cv (Ru.congr (Ru.load1 el3 rfl (ldm (hRK.at hw2) K0)) (I_congr (bF K0).symm)) rfl) (b := ?_)
 refine aO [6] [0] 7 ?_
 refine Sb 0 [] 7 λ O1 s1 => ?_
 refine os 0 [] [0, 1, 2, 3, 4, 5, 8] ?_
 refine aO [8] [] 9 ?_
 refine Sb 0 [] 6 λ P1 H0 => ?_
 refine os 0 [] [0, 1, 2, 3, 4, 5, 8] ?_
 refine an [] [] ?_
 refine EG 1 [] ?_
 refine PG (vs := [.agg #[.slice a0 (kl.take (kl.length / 2)).length e0, .slice b0 (cl.take (kl.length / 2 + 1)).length f0], I (kl.getD (kl.length / 2) 0), .agg #[.slice c0 (kl.drop (kl.length / 2 + 1)).length g0, .slice d0 (cl.drop (kl.length / 2 + 1)).length i0]]) (bX.cell (l := [.slice a0 (kl.take (kl.length / 2)).length e0, .slice b0 (cl.take (kl.length / 2 + 1)).length f0]) rfl (cA (i := 7) (j := 0) H0 rfl rfl) tK rfl (bX.tmp rfl (bX.cell (l := [.slice c0 (kl.drop (kl.length / 2 + 1)).length g0, .slice d0 (cl.drop (kl.length / 2 + 1)).length i0]) rfl (cA (i := 6) (j := 0) H0 rfl rfl) tK rfl bX.nil))) ?_
 exact ⟨a0, e0, b0, f0, c0, g0, d0, i0, (by first | rfl | exact sl_congr t8 | (simp; done)), (H0.pk [4, 5, 1, 2])⟩
set_option maxHeartbeats 2000000 in
theorem tQ (T : bN) (w : World) (hNT : TrN w T) (hs : SzT T) :
  aR Tryz.prog 32 [.agg #[I T.root, .slice T.A T.l.length T.cp]] w (λ v w1 => ∃ (L1 : List PgL) (A1 : Option Addr) (c1 : Nat), v = .agg #[I T.root, .slice A1 L1.length c1] /\ (tsG L1 = tsG T.l) /\ Mem w w1 [] [oG A1 c1 L1, L1.flatMap (pgF 3)]) := by
 have hM : Mem w w [] [] := Mem.refl
 refine aR.nG (rs := [.cell 2 25]) Tryz.func32 rfl Tryz.results32 Tryz.ntmps32 rfl ?_
 have hs1 := hs.1
 refine Bx 2 [] λ D1 u0 B1 s1 => ?_
 refine Al 0 [] λ E1 v0 C1 u1 => ?_
 refine any 2 [] 9 [0, 1] λ F1 O0 => ?_
 refine aT [0, 1, 2, 3, 4] [1, 1] 5 7 ?_ ?_
 refine O.mmake (k := T.l.length) (sz := 3) (xs := (List.replicate T.l.length (⟨⟨none, 0, []⟩, ⟨none, 0, []⟩, ⟨none, 0, []⟩⟩ : PgL)).flatMap encPg) O0 rfl Tryz.underlying23 tJ rfl rfl rfl rfl t1 t1 (uN rfl) (λ l1 b0 X0 N0 => ?_)
 refine os 0 [] [1, 2] ?_
 refine aO [6] [] 7 ?_
 refine Al 0 [] λ m1 m0 Y0 M0 => ?_
 refine os 0 [] [2, 3] ?_
 refine aO [] [] 8 ?_
 refine Sb 0 [] 0 λ H0 x0 => ?_
 refine os 0 [] [2, 3] ?_
 refine an [] [] ?_
 have R0 := Mem.gnil (e := 3) x0
 have F0 : (List.replicate T.l.length (⟨⟨none, 0, []⟩, ⟨none, 0, []⟩, ⟨none, 0, []⟩⟩ : PgL) : List PgL) = ([] : List PgL) ++ List.replicate (T.l.length - 0) (⟨⟨none, 0, []⟩, ⟨none, 0, []⟩, ⟨none, 0, []⟩⟩ : PgL) := t11
 have y1 : Mem w H0 [] [([] : List PgL).flatMap (pgF 3), [⟨.slice (bl m0) 1 1, 25, 2, 1, [I T.root, .slice (bl b0) T.l.length T.l.length]⟩], [⟨.slice (bl b0) T.l.length T.l.length, 42, 3, T.l.length, (([] : List PgL) ++ List.replicate (T.l.length - 0) (⟨⟨none, 0, []⟩, ⟨none, 0, []⟩, ⟨none, 0, []⟩⟩ : PgL)).flatMap encPg⟩], [⟨.slice (bl v0) 1 1, 25, 2, 1, [I 0, .slice none 0 0]⟩], [⟨.slice (bl u0) 1 1, 25, 2, 1, [I T.root, .slice T.A T.l.length T.cp]⟩]] := R0.relen 2 (n' := T.l.length) (xs' := (([] : List PgL) ++ List.replicate (T.l.length - 0) (⟨⟨none, 0, []⟩, ⟨none, 0, []⟩, ⟨none, 0, []⟩⟩ : PgL)).flatMap encPg) rfl (by first | rfl | exact congrArg List.length F0 | (have hqq := congrArg List.length F0; first | omega | (simp at hqq ⊢; omega)) | (simp; done) | (simp; omega)) (congrArg (λ z_ => z_.flatMap encPg) F0) rfl
 refine lp2 9 [4] (λ (k : Nat) (Ch : List PgL) => ([(16, Vi ((k : Nat) : Int))] : List (Nat × SV))) (λ k Ch => (k <= T.l.length) /\ (tsG Ch = (tsG T.l).take k)) (λ k Ch => [Ch.flatMap (pgF 3), [⟨.slice (bl b0) T.l.length T.l.length, 42, 3, T.l.length, (Ch ++ List.replicate (T.l.length - k) (⟨⟨none, 0, []⟩, ⟨none, 0, []⟩, ⟨none, 0, []⟩⟩ : PgL)).flatMap encPg⟩]]) (λ k Ch => T.l.length - k) [2, 3, 14, 15] [0, 2] [1, 3, 4] 0 (([] : List PgL) : List PgL) (λ k Ch σ r1 hI f0 => ?_) (h0 := ⟨(bI _), t15⟩)
 obtain ⟨C0, c0⟩ := hI
 have a1 := (f0.cap 1 rfl).1
 have hCl := aDg c0 C0
 refine cd 5 [] (λ c17 => ?_) (λ c17 => ?_)
 have a0 : k < T.l.length := t3
 refine ov 6 [] (a := cJ a0 (hNT.at f0).1) (b := ?_)
 refine ov 0 [] (a := gL a0 (hNT.at f0).1) (b := ?_)
 refine Al 0 [] λ n1 w0 Z0 P0 => ?_
 refine Sb 1 [] 0 λ o1 Q0 => ?_
 refine any 1 [] 15 [0, 1, 3, 4, 5] λ L0 r0 => ?_
 refine aO [0, 1, 2, 3, 4, 6, 7, 9, 10] [2, 0, 0, 0] 5 ?_
 refine cq 0 [] (b := cD (T.l[k]'a0).k.A (T.l[k]'a0).k.cp (T.l[k]'a0).k.l L0 ((hNT.at r0).2.get a0).1 (by exact (hs.at a0).1)) (c := ?_)
 rintro _ J0 ⟨k0, o0, rfl, A0⟩
 have d0 := r0.cl 0 A0
 have d1 := (d0.cap 0 rfl).1
 refine os 0 [] [1, 2, 4, 5, 6] ?_
 refine aO [] [] 8 ?_
 refine cq 0 [] (b := cD (T.l[k]'a0).c.A (T.l[k]'a0).c.cp (T.l[k]'a0).c.l J0 ((hNT.at d0).2.get a0).2.1 (by exact (hs.at a0).2.1)) (c := ?_)
 rintro _ K0 ⟨l0, p0, rfl, B0⟩
 have e0 := d0.cl 0 B0
 have e1 := (e0.cap 0 rfl).1
 refine os 0 [] [2, 3, 5, 6, 7] ?_
 refine aO [] [] 11 ?_
 refine cq 0 [] (b := cD (T.l[k]'a0).v.A (T.l[k]'a0).v.cp (T.l[k]'a0).v.l K0 ((hNT.at e0).2.get a0).2.2 (by exact (hs.at a0).2.2)) (c := ?_)
 rintro _ p1 ⟨j0, n0, rfl, z0⟩
 have q0 := e0.cl 0 z0
 have b1 := (q0.cap 0 rfl).1
 refine os 0 [] [3, 4, 6, 7, 8] ?_
 have t0 : k < (Ch ++ List.replicate (T.l.length - k) (⟨⟨none, 0, []⟩, ⟨none, 0, []⟩, ⟨none, 0, []⟩⟩ : PgL)).length := t13
 refine av [12] [] 13 (a := by exact λ _ hw2 => cJ t0 (q0.rd 5 rfl) (h0 := t13)) (b := ?_)
 refine aO [] [] 14 ?_
 let g0 : PgL := (⟨⟨k0, o0, (T.l[k]'a0).k.l⟩, ⟨l0, p0, (T.l[k]'a0).c.l⟩, ⟨j0, n0, (T.l[k]'a0).v.l⟩⟩ : PgL)
 refine sF 0 [] 5 g0 t0 λ I0 y0 => ?_
 refine os 0 [] [3, 4, 6, 7, 8] ?_
 refine an [] [] ?_
 have T0 := Mem.gapp (k := ⟨k0, o0, (T.l[k]'a0).k.l⟩) (c := ⟨l0, p0, (T.l[k]'a0).c.l⟩) (v := ⟨j0, n0, (T.l[k]'a0).v.l⟩) (y0.pk [4, 2, 1, 0, 3, 5, 6, 7, 8])
 refine ov 1 [] (a := bL (k + 1)) (b := ?_)
 have G0 : ((Ch ++ List.replicate (T.l.length - k) (⟨⟨none, 0, []⟩, ⟨none, 0, []⟩, ⟨none, 0, []⟩⟩ : PgL)).set k g0 : List PgL) = (Ch ++ [g0]) ++ List.replicate (T.l.length - (k + 1)) (⟨⟨none, 0, []⟩, ⟨none, 0, []⟩, ⟨none, 0, []⟩⟩ : PgL) := (aEj hCl a0)
 let f1 : List FE := [⟨.slice (bl m0) 1 1, 25, 2, 1, [I T.root, .slice (bl b0) T.l.length T.l.length]⟩]
 let g1 : List FE := [⟨.slice (bl v0) 1 1, 25, 2, 1, [I 0, .slice none 0 0]⟩]
 let h1 : List FE := [⟨.slice (bl u0) 1 1, 25, 2, 1, [I T.root, .slice T.A T.l.length T.cp]⟩]
 have z1 : Mem w I0 [] [(Ch ++ [g0]).flatMap (pgF 3), [⟨.slice (bl w0) 1 1, 42, 3, 1, [.slice (T.l[k]'a0).k.A (T.l[k]'a0).k.l.length (T.l[k]'a0).k.cp, .slice (T.l[k]'a0).c.A (T.l[k]'a0).c.l.length (T.l[k]'a0).c.cp, .slice (T.l[k]'a0).v.A (T.l[k]'a0).v.l.length (T.l[k]'a0).v.cp]⟩], [⟨.slice (bl b0) T.l.length T.l.length, 42, 3, T.l.length, ((Ch ++ [g0]) ++ List.replicate (T.l.length - (k + 1)) (⟨⟨none, 0, []⟩, ⟨none, 0, []⟩, ⟨none, 0, []⟩⟩ : PgL)).flatMap encPg⟩], f1, g1, h1] := T0.relen 2 (n' := T.l.length) (xs' := ((Ch ++ [g0]) ++ List.replicate (T.l.length - (k + 1)) (⟨⟨none, 0, []⟩, ⟨none, 0, []⟩, ⟨none, 0, []⟩⟩ : PgL)).flatMap encPg) rfl (by first | rfl | exact congrArg List.length G0 | (have hqq := congrArg List.length G0; first | omega | (simp at hqq ⊢; omega)) | (simp; done) | (simp; omega)) (congrArg (λ z_ => z_.flatMap encPg) G0) rfl
 exact le2 2 [] (k + 1) (Ch ++ [g0]) [0, 2, 3, 4, 5] (h := by exact ⟨t7, (pA c0 a0 rfl)⟩)
 refine Sb 4 [2] 3 λ q1 s0 => ?_
 refine EG 2 [] ?_
 refine PG (vs := [.agg #[I T.root, .slice (bl b0) T.l.length T.l.length]]) (bX.cell (l := [I T.root, .slice (bl b0) T.l.length T.l.length]) rfl (cA (i := 3) (j := 0) s0 rfl rfl) kH rfl bX.nil) ?_
 have hke : k = T.l.length := by omega
 rw [hke, aE t11] at c0
 have W0 := s0.rF 1 (Ch : List PgL) (e := by rw [hke]; simp)
 exact ⟨Ch, bl b0, T.l.length, (by rw [show Ch.length = T.l.length by omega]; rfl), c0, (W0.pk [1, 0])⟩
 refine Al 0 [] λ m1 m0 Y0 M0 => ?_
 refine os 0 [] [1, 2] ?_
 refine aO [] [] 5 ?_
 refine O.mmake (k := T.l.length) (sz := 3) (xs := (List.replicate T.l.length (⟨⟨none, 0, []⟩, ⟨none, 0, []⟩, ⟨none, 0, []⟩⟩ : PgL)).flatMap encPg) M0 rfl Tryz.underlying23 tJ rfl rfl rfl rfl t1 t1 (uN rfl) (λ l1 b0 X0 N0 => ?_)
 refine os 0 [] [2, 3] ?_
 refine aO [6] [] 8 ?_
 refine Sb 0 [] 1 λ H0 x0 => ?_
 refine os 0 [] [2, 3] ?_
 refine an [] [] ?_
 have U0 := Mem.gnil (e := 3) x0
 have D0 : (List.replicate T.l.length (⟨⟨none, 0, []⟩, ⟨none, 0, []⟩, ⟨none, 0, []⟩⟩ : PgL) : List PgL) = ([] : List PgL) ++ List.replicate (T.l.length - 0) (⟨⟨none, 0, []⟩, ⟨none, 0, []⟩, ⟨none, 0, []⟩⟩ : PgL) := t11
 have v1 : Mem w H0 [] [([] : List PgL).flatMap (pgF 3), [⟨.slice (bl b0) T.l.length T.l.length, 42, 3, T.l.length, (([] : List PgL) ++ List.replicate (T.l.length - 0) (⟨⟨none, 0, []⟩, ⟨none, 0, []⟩, ⟨none, 0, []⟩⟩ : PgL)).flatMap encPg⟩], [⟨.slice (bl m0) 1 1, 25, 2, 1, [I T.root, .slice (bl b0) T.l.length T.l.length]⟩], [⟨.slice (bl v0) 1 1, 25, 2, 1, [I 0, .slice none 0 0]⟩], [⟨.slice (bl u0) 1 1, 25, 2, 1, [I T.root, .slice T.A T.l.length T.cp]⟩]] := U0.relen 1 (n' := T.l.length) (xs' := (([] : List PgL) ++ List.replicate (T.l.length - 0) (⟨⟨none, 0, []⟩, ⟨none, 0, []⟩, ⟨none, 0, []⟩⟩ : PgL)).flatMap encPg) rfl (by first | rfl | exact congrArg List.length D0 | (have hqq := congrArg List.length D0; first | omega | (simp at hqq ⊢; omega)) | (simp; done) | (simp; omega)) (congrArg (λ z_ => z_.flatMap encPg) D0) rfl
 refine lp2 9 [4] (λ (k : Nat) (Ch : List PgL) => ([(16, Vi ((k : Nat) : Int))] : List (Nat × SV))) (λ k Ch => (k <= T.l.length) /\ (tsG Ch = (tsG T.l).take k)) (λ k Ch => [Ch.flatMap (pgF 3), [⟨.slice (bl b0) T.l.length T.l.length, 42, 3, T.l.length, (Ch ++ List.replicate (T.l.length - k) (⟨⟨none, 0, []⟩, ⟨none, 0, []⟩, ⟨none, 0, []⟩⟩ : PgL)).flatMap encPg⟩]]) (λ k Ch => T.l.length - k) [2, 3, 14, 15] [0, 1] [2, 3, 4] 0 (([] : List PgL) : List PgL) (λ k Ch σ r1 hI f0 => ?_) (h0 := ⟨(bI _), t15⟩)
 obtain ⟨C0, c0⟩ := hI
 have a1 := (f0.cap 1 rfl).1
 have hCl := aDg c0 C0
 refine cd 5 [] (λ c17 => ?_) (λ c17 => ?_)
 have a0 : k < T.l.length := t3
 refine ov 6 [] (a := cJ a0 (hNT.at f0).1) (b := ?_)
 refine ov 0 [] (a := gL a0 (hNT.at f0).1) (b := ?_)
 refine Al 0 [] λ n1 w0 Z0 P0 => ?_
 refine Sb 1 [] 0 λ o1 Q0 => ?_
 refine any 1 [] 15 [0, 1, 3, 4, 5] λ L0 r0 => ?_
 refine aO [0, 1, 2, 3, 4, 6, 7, 9, 10] [2, 0, 0, 0] 5 ?_
 refine cq 0 [] (b := cD (T.l[k]'a0).k.A (T.l[k]'a0).k.cp (T.l[k]'a0).k.l L0 ((hNT.at r0).2.get a0).1 (by exact (hs.at a0).1)) (c := ?_)
 rintro _ J0 ⟨k0, o0, rfl, A0⟩
 have d0 := r0.cl 0 A0
 have d1 := (d0.cap 0 rfl).1
 refine os 0 [] [1, 2, 4, 5, 6] ?_
 refine aO [] [] 8 ?_
 refine cq 0 [] (b := cD (T.l[k]'a0).c.A (T.l[k]'a0).c.cp (T.l[k]'a0).c.l J0 ((hNT.at d0).2.get a0).2.1 (by exact (hs.at a0).2.1)) (c := ?_)
 rintro _ K0 ⟨l0, p0, rfl, B0⟩
 have e0 := d0.cl 0 B0
 have e1 := (e0.cap 0 rfl).1
 refine os 0 [] [2, 3, 5, 6, 7] ?_
 refine aO [] [] 11 ?_
 refine cq 0 [] (b := cD (T.l[k]'a0).v.A (T.l[k]'a0).v.cp (T.l[k]'a0).v.l K0 ((hNT.at e0).2.get a0).2.2 (by exact (hs.at a0).2.2)) (c := ?_)
 rintro _ p1 ⟨j0, n0, rfl, z0⟩
 have q0 := e0.cl 0 z0
 have b1 := (q0.cap 0 rfl).1
 refine os 0 [] [3, 4, 6, 7, 8] ?_
 have t0 : k < (Ch ++ List.replicate (T.l.length - k) (⟨⟨none, 0, []⟩, ⟨none, 0, []⟩, ⟨none, 0, []⟩⟩ : PgL)).length := t13
 refine av [12] [] 13 (a := by exact λ _ hw2 => cJ t0 (q0.rd 5 rfl) (h0 := t13)) (b := ?_)
 refine aO [] [] 14 ?_
 let i0 : PgL := (⟨⟨k0, o0, (T.l[k]'a0).k.l⟩, ⟨l0, p0, (T.l[k]'a0).c.l⟩, ⟨j0, n0, (T.l[k]'a0).v.l⟩⟩ : PgL)
 refine sF 0 [] 5 i0 t0 λ I0 y0 => ?_
 refine os 0 [] [3, 4, 6, 7, 8] ?_
 refine an [] [] ?_
 have S0 := Mem.gapp (k := ⟨k0, o0, (T.l[k]'a0).k.l⟩) (c := ⟨l0, p0, (T.l[k]'a0).c.l⟩) (v := ⟨j0, n0, (T.l[k]'a0).v.l⟩) (y0.pk [4, 2, 1, 0, 3, 5, 6, 7, 8])
 refine ov 1 [] (a := bL (k + 1)) (b := ?_)
 have E0 : ((Ch ++ List.replicate (T.l.length - k) (⟨⟨none, 0, []⟩, ⟨none, 0, []⟩, ⟨none, 0, []⟩⟩ : PgL)).set k i0 : List PgL) = (Ch ++ [i0]) ++ List.replicate (T.l.length - (k + 1)) (⟨⟨none, 0, []⟩, ⟨none, 0, []⟩, ⟨none, 0, []⟩⟩ : PgL) := (aEj hCl a0)
 let i1 : List FE := [⟨.slice (bl m0) 1 1, 25, 2, 1, [I T.root, .slice (bl b0) T.l.length T.l.length]⟩]
 let j1 : List FE := [⟨.slice (bl v0) 1 1, 25, 2, 1, [I 0, .slice none 0 0]⟩]
 let k1 : List FE := [⟨.slice (bl u0) 1 1, 25, 2, 1, [I T.root, .slice T.A T.l.length T.cp]⟩]
 have x1 : Mem w I0 [] [(Ch ++ [i0]).flatMap (pgF 3), [⟨.slice (bl w0) 1 1, 42, 3, 1, [.slice (T.l[k]'a0).k.A (T.l[k]'a0).k.l.length (T.l[k]'a0).k.cp, .slice (T.l[k]'a0).c.A (T.l[k]'a0).c.l.length (T.l[k]'a0).c.cp, .slice (T.l[k]'a0).v.A (T.l[k]'a0).v.l.length (T.l[k]'a0).v.cp]⟩], [⟨.slice (bl b0) T.l.length T.l.length, 42, 3, T.l.length, ((Ch ++ [i0]) ++ List.replicate (T.l.length - (k + 1)) (⟨⟨none, 0, []⟩, ⟨none, 0, []⟩, ⟨none, 0, []⟩⟩ : PgL)).flatMap encPg⟩], i1, j1, k1] := S0.relen 2 (n' := T.l.length) (xs' := ((Ch ++ [i0]) ++ List.replicate (T.l.length - (k + 1)) (⟨⟨none, 0, []⟩, ⟨none, 0, []⟩, ⟨none, 0, []⟩⟩ : PgL)).flatMap encPg) rfl (by first | rfl | exact congrArg List.length E0 | (have hqq := congrArg List.length E0; first | omega | (simp at hqq ⊢; omega)) | (simp; done) | (simp; omega)) (congrArg (λ z_ => z_.flatMap encPg) E0) rfl
 exact le2 2 [] (k + 1) (Ch ++ [i0]) [0, 2, 3, 4, 5] (h := by exact ⟨t7, (pA c0 a0 rfl)⟩)
 refine Sb 4 [2] 3 λ q1 s0 => ?_
 refine EG 2 [] ?_
 refine PG (vs := [.agg #[I T.root, .slice (bl b0) T.l.length T.l.length]]) (bX.cell (l := [I T.root, .slice (bl b0) T.l.length T.l.length]) rfl (cA (i := 3) (j := 0) s0 rfl rfl) kH rfl bX.nil) ?_
 have hke : k = T.l.length := by omega
 rw [hke, aE t11] at c0
 have V0 := s0.rF 1 (Ch : List PgL) (e := by rw [hke]; simp)
 exact ⟨Ch, bl b0, T.l.length, (by rw [show Ch.length = T.l.length by omega]; rfl), c0, (V0.pk [1, 0])⟩
end Go.Proofs.YtemejgglbhjodaaGreatDoor
