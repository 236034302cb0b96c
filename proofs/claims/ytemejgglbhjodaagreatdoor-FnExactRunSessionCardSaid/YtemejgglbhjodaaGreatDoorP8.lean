/- Own layer, part 9: plain theorems on the walk of this program's functions and on what they compute; no conditions. -/
import Derived.Test.YtemejgglbhjodaaGreatDoorP7
set_option linter.unusedVariables false
set_option linter.unusedSimpArgs false
namespace Go.Proofs.YtemejgglbhjodaaGreatDoor
open Go.Px
theorem aHb (A : Option Addr) (c : Nat) (l : List PairT) (k : Int) (w : World) (hA : Rd w A (l.flatMap cY)) (hl : l.length <= 1048576) (hv : bW l = true) :
  aR Tryz.prog 172 [.slice A l.length c, I k] w (λ v w1 => v = .tuple #[I ((lW l k).getD 0), .bool (lW l k).isSome] /\ Mem w w1 [] []) := by
 have hM : Mem w w [] [] := Mem.refl
 refine aR.n2 Tryz.func172 rfl Tryz.results172 Tryz.ntmps172 rfl ?_
 have hasc := pQ hv
 refine cp 9 [] (b := nT _ _ _ w (hA.at hM) q0) (c := λ d0 c0 => ?_)
 refine cn 2 [] (λ c10 => ?_) (λ c10 => ?_)
 (exfalso; simp [hv] at c10)
 refine cp 5 [] (b := oH _ _ _ _ d0 (hA.at c0) q0 (by exact (eM.1 hv).2.2)) (c := λ e0 a0 => ?_)
 refine cn 12 [] (λ c18 => ?_) (λ c18 => ?_)
 have hin : cT l k = false := by simpa using c18
 refine E2 6 [] (I 0) (.bool false) ?_
 exact ⟨(by rw [aCh (l := l) (k := k) (by simpa [cT] using hin)]; rfl), (Mem.none a0)⟩
 have hin : cT l k = true := by simpa using c18
 obtain ⟨hpb, hpk⟩ := (mE hasc).1 hin
 have hlk := aFd hasc hpb hpk
 have b0 : plc l k < l.length := hpb
 refine ov 5 [] (a := cJ b0 (hA.at a0) (h0 := t1)) (b := ?_)
 refine ov 0 [] (a := fZ b0 (hA.at a0)) (b := ?_)
 refine ov 0 [] (a := gF b0 (hA.at a0)) (b := ?_)
 refine E2 4 [] (I (l[plc l k]'b0).val) (.bool true) ?_
 exact ⟨(by rw [hlk]; rfl), (Mem.none a0)⟩
theorem aHq (T : bN) (key : Int) (w : World) (hNT : TrN w T) (hs : SzT T) (hv : aN T.t = true) :
  aR Tryz.prog 173 [.agg #[I T.root, .slice T.A T.l.length T.cp], I key] w (λ v w1 => v = I (gM (aY T.t key)) /\ Mem w w1 [] []) := by
 have hM : Mem w w [] [] := Mem.refl
 refine aR.n1 Tryz.func173 rfl Tryz.results173 Tryz.ntmps173 rfl ?_
 have hpp := (kK (key := key) hv).pos
 have hp3 := (kK (key := key) hv).le
 refine Bx 2 [] λ e0 g0 j0 c0 => ?_
 refine cq 6 [0] (b := uU T _ e0 (hNT.at c0) q0 (by exact hv)) (c := ?_)
 rintro _ l0 ⟨f0, i0, rfl, d0⟩
 have a0 := c0.cl 0 d0
 have k0 := (a0.cap 0 rfl).1
 refine ov 7 [] (a := eV) (b := ?_)
 have b0 : ((aY T.t key).length - 1) < (aY T.t key).length := t1
 refine ov 0 [] (a := cG b0 (a0.rd 0 rfl) (h0 := t1)) (b := ?_)
 refine ov 0 [] (a := eT b0 (a0.rd 0 rfl)) (b := ?_)
 refine E1 3 [] (I ((aY T.t key)[((aY T.t key).length - 1)]'b0)) ?_
 exact ⟨(I_congr (bF b0).symm), (Mem.none a0)⟩
theorem aKn (T : bN) (key : Int) (w : World) (hNT : TrN w T) (hs : SzT T) (hv : aN T.t = true) :
  aR Tryz.prog 142 [.agg #[I T.root, .slice T.A T.l.length T.cp], I key] w (λ v w1 => v = .tuple #[I ((mO T.t key).getD 0), .bool (mO T.t key).isSome] /\ Mem w w1 [] []) := by
 have hM : Mem w w [] [] := Mem.refl
 refine aR.n2 Tryz.func142 rfl Tryz.results142 Tryz.ntmps142 rfl ?_
 have hP := kK (key := key) hv
 have hpp := hP.pos
 have hp3 := hP.le
 obtain ⟨lf, hlf⟩ : ∃ z, z = gM (aY T.t key) := ⟨_, rfl⟩
 have hli := fI.1 (hP.inn ((aY T.t key).length - 1) t1)
 rw [show (aY T.t key).getD ((aY T.t key).length - 1) 0 = lf from hlf.symm] at hli
 have hjl : lf.toNat < T.l.length := by omega
 have hgl : gP T.t lf = (T.l[lf.toNat]'hjl).t := jH rfl hjl
 have hfl := hP.fr ((aY T.t key).length - 1) t1
 have hkl := hP.leaf
 rw [show (aY T.t key).getD ((aY T.t key).length - 1) 0 = lf from hlf.symm] at hfl hkl
 have hvl := (jS hfl hkl).1
 have hrl := gI hfl hkl
 have h4l := iA hfl
 rw [hgl] at hvl hrl h4l
 have hvl0 : (T.l[lf.toNat]'hjl).v.l.length = (T.l[lf.toNat]'hjl).k.l.length := hvl
 have h4l0 : (T.l[lf.toNat]'hjl).k.l.length <= 4 := h4l
 have hgv : mO T.t key = lW (aV (T.l[lf.toNat]'hjl).t) key := by unfold mO; rw [<- hlf, hgl]
 refine Bx 2 [] λ k0 p0 t0 e0 => ?_
 refine cp 7 [0] (b := gS T k0 (hNT.at e0) q0) (c := λ v0 s0 => ?_)
 refine cn 2 [] (λ c8 => ?_) (λ c8 => ?_)
 (exfalso; simp [hv] at c8)
 refine any 2 [] 14 [0] λ n0 d0 => ?_
 refine aO [0, 1, 2, 3, 8] [0, 0] 4 ?_
 refine cq 0 [] (b := aHq T _ n0 (hNT.at d0) q0 (by exact hv)) (c := ?_)
 rintro _ l0 ⟨j0, g0⟩
 obtain rfl : _ = I lf := j0.trans (I_congr hlf.symm)
 have b0 := d0.cl 0 g0
 refine os 0 [] [0] ?_
 have a0 : lf.toNat < T.l.length := t1
 refine av [] [] 5 (a := by exact λ _ hw2 => cJ a0 (hNT.at b0).1 (h0 := t1)) (b := ?_)
 refine aO [] [] 6 ?_
 refine ov 0 [] (a := gL a0 (hNT.at b0).1) (b := ?_)
 refine os 0 [] [0] ?_
 refine aO [] [] 7 ?_
 refine cq 0 [] (b := gD (T.l[lf.toNat]'a0) l0 ((hNT.at b0).2.get a0) qo (by exact hvl0)) (c := ?_)
 rintro _ m0 ⟨o0, r0, rfl, i0⟩
 have c0 := b0.cl 0 i0
 have u0 := (c0.cap 0 rfl).1
 refine os 0 [] [1] ?_
 refine aO [] [] 9 ?_
 refine cp 0 [] (b := aHb _ _ _ _ m0 (c0.rd 0 rfl) (by rw [dF]; omega) (by exact hrl)) (c := λ w0 f0 => ?_)
 refine os 0 [] [1] ?_
 refine an [10, 11, 12, 13] [] ?_
 refine E2 1 [] (I ((lW (aV (T.l[lf.toNat]'a0).t) key).getD 0)) (.bool (lW (aV (T.l[lf.toNat]'a0).t) key).isSome) ?_
 exact ⟨(by rw [hgv]), (Mem.none f0)⟩
theorem aIa (T : bN) (key : Int) (w : World) (hNT : TrN w T) (hs : SzT T) (hv : aN T.t = true) :
  aR Tryz.prog 147 [.agg #[I T.root, .slice T.A T.l.length T.cp], I key] w (λ v w1 => v = .tuple #[I ((mO T.t key).getD 0), .bool (mO T.t key).isSome] /\ Mem w w1 [] []) := by
 have hM : Mem w w [] [] := Mem.refl
 refine aR.n2 Tryz.func147 rfl Tryz.results147 Tryz.ntmps147 rfl ?_
 have hP := kK (key := key) hv
 have hpp := hP.pos
 have hp3 := hP.le
 obtain ⟨lf, hlf⟩ : ∃ z, z = gM (aY T.t key) := ⟨_, rfl⟩
 have hli := fI.1 (hP.inn ((aY T.t key).length - 1) t1)
 rw [show (aY T.t key).getD ((aY T.t key).length - 1) 0 = lf from hlf.symm] at hli
 have hjl : lf.toNat < T.l.length := by omega
 have hgl : gP T.t lf = (T.l[lf.toNat]'hjl).t := jH rfl hjl
 have hfl := hP.fr ((aY T.t key).length - 1) t1
 have hkl := hP.leaf
 rw [show (aY T.t key).getD ((aY T.t key).length - 1) 0 = lf from hlf.symm] at hfl hkl
 have hvl := (jS hfl hkl).1
 have hrl := gI hfl hkl
 have h4l := iA hfl
 rw [hgl] at hvl hrl h4l
 have hvl0 : (T.l[lf.toNat]'hjl).v.l.length = (T.l[lf.toNat]'hjl).k.l.length := hvl
 have h4l0 : (T.l[lf.toNat]'hjl).k.l.length <= 4 := h4l
 have hgv : mO T.t key = lW (aV (T.l[lf.toNat]'hjl).t) key := by unfold mO; rw [<- hlf, hgl]
 refine Bx 2 [] λ l0 s0 v0 f0 => ?_
 refine cp 7 [0] (b := jM T l0 (hNT.at f0) q0) (c := λ m0 d0 => ?_)
 refine cn 2 [] (λ c9 => ?_) (λ c9 => ?_)
 (exfalso; simp [hv] at c9)
 refine cq 5 [0] (b := vK T _ m0 (hNT.at d0) q0 (by exact hv)) (c := ?_)
 rintro _ y0 ⟨p0, t0, rfl, j0⟩
 have g0 := d0.cl 0 j0
 have w0 := (g0.cap 0 rfl).1
 refine any 3 [] 17 [0, 1] λ o0 b0 => ?_
 refine av [0, 1, 2, 3, 4] [1] 5 (a := by exact λ _ hw2 => eV) (b := ?_)
 have c0 : ((aY T.t key).length - 1) < (aY T.t key).length := t1
 refine av [] [] 6 (a := by exact λ _ hw2 => cG c0 (b0.rd 0 rfl) (h0 := t1)) (b := ?_)
 refine av [] [] 7 (s := Vi lf) (a := by exact λ w2 hw2 => cv (Ru.congr (Ru.load1 el3 rfl (ldm (hw2.rd 0 rfl) c0)) (I_congr ((bF c0).symm.trans hlf.symm))) rfl) (b := ?_)
 have a0 : lf.toNat < T.l.length := t1
 refine av [] [] 8 (a := by exact λ _ hw2 => cJ a0 (hNT.at b0).1 (h0 := t1)) (b := ?_)
 refine aO [11] [] 9 ?_
 refine ov 0 [] (a := gL a0 (hNT.at b0).1) (b := ?_)
 refine os 0 [] [0, 1] ?_
 refine aO [] [] 10 ?_
 refine cq 0 [] (b := jJ (T.l[lf.toNat]'a0) o0 ((hNT.at b0).2.get a0) qo (by exact hvl0)) (c := ?_)
 rintro _ n0 ⟨r0, u0, rfl, k0⟩
 have e0 := b0.cl 0 k0
 have x0 := (e0.cap 0 rfl).1
 refine os 0 [] [1, 2] ?_
 refine aO [] [] 12 ?_
 refine cp 0 [] (b := aFw _ _ _ _ n0 (e0.rd 0 rfl) (by rw [dF]; omega)) (c := λ z0 i0 => ?_)
 refine os 0 [] [1, 2] ?_
 refine an [13, 14, 15, 16] [] ?_
 refine E2 1 [] (I (if bW (aV (T.l[lf.toNat]'a0).t) then (lW (aV (T.l[lf.toNat]'a0).t) key).getD 0 else 0)) (.bool (bW (aV (T.l[lf.toNat]'a0).t) && (lW (aV (T.l[lf.toNat]'a0).t) key).isSome)) ?_
 exact ⟨(by rw [hgv, if_pos hrl, hrl]; rfl), (Mem.none i0)⟩
set_option maxHeartbeats 2000000 in
theorem aDw (T : bN) (a : Int) (b : Int) (w : World) (hNT : TrN w T) (hs : SzT T) (hv : aN T.t = true) :
  aR Tryz.prog 103 [.agg #[I T.root, .slice T.A T.l.length T.cp], I a, I b, I 24] w (λ v w1 => ∃ (A1 : Option Addr) (c1 : Nat), v = .slice A1 (kA (bZ T.t) a b).length c1 /\ Mem w w1 [] [oP A1 c1 (kA (bZ T.t) a b)]) := by
 have hM : Mem w w [] [] := Mem.refl
 refine aR.n1 Tryz.func103 rfl Tryz.results103 Tryz.ntmps103 rfl ?_
 have hasc := (aAv hv).1
 rw [<- jY hv] at hasc
 have hpl := yT (T := T.t)
 refine Bx 2 [] λ x0 z0 H0 e0 => ?_
 refine cq 10 [0] (b := aHa T x0 (hNT.at e0) q0) (c := ?_)
 rintro _ P0 ⟨y0, C0, rfl, p0⟩
 have f0 := e0.cl 0 p0
 have N0 := (f0.cap 0 rfl).1
 have l0 := Mem.addNil (e := 27) (sz := 2) f0
 have r0 : ([] : List PairT) = ((gC T.t).take 0).filter (iE a b) := t11
 have E0 := l0.reF 0 r0 (f := cY)
 refine lp3 4 [] (λ (k : Nat) (A2 : Option Addr) (c2 : Nat) => ([(9, Vl A2 (((gC T.t).take k).filter (iE a b)).length c2), (15, Vi ((k : Nat) : Int))] : List (Nat × SV))) (λ k A2 c2 => (k <= (gC T.t).length) /\ ((((gC T.t).take k).filter (iE a b)).length <= 24)) (λ k A2 c2 => [oP A2 c2 (((gC T.t).take k).filter (iE a b))]) (λ k A2 c2 => (gC T.t).length - k) [1, 2, 3, 13, 14] [0] [1, 2] 0 none 0 (λ k A2 c2 σ U0 hI c0 => ?_) (h0 := ⟨(bI _), t15⟩)
 obtain ⟨O0, b0⟩ := hI
 have L0 := (c0.cap 0 rfl).1
 have M0 := (c0.cap 1 rfl).1
 refine cd 5 [] (λ c16 => ?_) (λ c16 => ?_)
 have a0 : k < (gC T.t).length := t1
 refine ov 5 [] (a := cJ a0 (c0.rd 1 rfl) (h0 := t1)) (b := ?_)
 refine ov 0 [] (a := gL a0 (c0.rd 1 rfl)) (b := ?_)
 refine Al 0 [] λ Q0 A0 I0 D0 => ?_
 refine Sb 0 [] 0 λ R0 d0 => ?_
 refine cd 9 [0] (λ c22 => ?_) (λ c22 => ?_)
 refine ov 2 [] (a := bL (k + 1)) (b := ?_)
 have s0 : (((gC T.t).take k).filter (iE a b) : List PairT) = ((gC T.t).take (k + 1)).filter (iE a b) := (by first | exact lB a0 t1 t1 | exact mF a0 (.inl t1))
 have F0 := d0.reF 1 s0
 exact le3 2 [] (k + 1) A2 c2 [1, 2, 3] (h := by exact ⟨t7, (by (try dsimp only); first | (rw [<- lB a0 t1 t1, aA]; simp only [aG, bA]; omega) | (rw [<- mF a0 (.inl t1)]; exact b0))⟩)
 refine pp 9 [0] 27 (λ g27 => ?_) (λ g27 => ?_)
 refine E1 14 [] (.slice A2 (((gC T.t).take k).filter (iE a b)).length c2) ?_
 have t0 : (((gC T.t).take k).filter (iE a b) : List PairT) = kA (bZ T.t) a b := (by rw [<- jY hv]; first | exact lA t1 b0 | exact oZ hasc a0 t1 b0 | exact jL t1)
 have m0 := d0.reF 1 t0
 exact ⟨A2, c2, (sl_congr (congrArg List.length (by rw [<- jY hv]; first | exact lA t1 b0 | exact oZ hasc a0 t1 b0 | exact jL t1))), (m0.pk [1])⟩
 refine cd 6 [] (λ c32 => ?_) (λ c32 => ?_)
 refine E1 7 [] (.slice A2 (((gC T.t).take k).filter (iE a b)).length c2) ?_
 have u0 : (((gC T.t).take k).filter (iE a b) : List PairT) = kA (bZ T.t) a b := (by rw [<- jY hv]; first | exact lA t1 b0 | exact oZ hasc a0 t1 b0 | exact jL t1)
 have n0 := d0.reF 1 u0
 exact ⟨A2, c2, (sl_congr (congrArg List.length (by rw [<- jY hv]; first | exact lA t1 b0 | exact oZ hasc a0 t1 b0 | exact jL t1))), (n0.pk [1])⟩
 refine Lt 4 [0] (([(gC T.t)[k]'a0]).flatMap cY) (λ S0 B0 J0 j0 => ?_)
 refine aF 0 [] 2 (j0.rd 0 rfl) (λ T0 g0 i0 K0 k0 => ?_)
 refine ov 3 [] (a := bL (k + 1)) (b := ?_)
 have v0 : (((gC T.t).take k).filter (iE a b) ++ [(gC T.t)[k]'a0] : List PairT) = ((gC T.t).take (k + 1)).filter (iE a b) := (by first | exact lB a0 t1 t1 | exact mF a0 (.inl t1))
 have G0 := k0.reF 2 v0
 exact le3 2 [] (k + 1) g0 i0 [2, 3, 4] (h := by exact ⟨t7, (by (try dsimp only); first | (rw [<- lB a0 t1 t1, aA]; simp only [aG, bA]; omega) | (rw [<- mF a0 (.inl t1)]; exact b0))⟩)
 refine E1 7 [] (.slice A2 (((gC T.t).take k).filter (iE a b)).length c2) ?_
 have w0 : (((gC T.t).take k).filter (iE a b) : List PairT) = kA (bZ T.t) a b := (by rw [<- jY hv]; first | exact lA t1 b0 | exact oZ hasc a0 t1 b0 | exact jL t1)
 have o0 := c0.reF 0 w0
 exact ⟨A2, c2, (sl_congr (congrArg List.length (by rw [<- jY hv]; first | exact lA t1 b0 | exact oZ hasc a0 t1 b0 | exact jL t1))), (o0.pk [0])⟩
set_option maxHeartbeats 2000000 in
theorem aCy (T : bN) (a : Int) (b : Int) (w : World) (hNT : TrN w T) (hs : SzT T) (hv : aN T.t = true) :
  aR Tryz.prog 148 [.agg #[I T.root, .slice T.A T.l.length T.cp], I a, I b, I 24] w (λ v w1 => ∃ (A1 : Option Addr) (c1 : Nat), v = .slice A1 (kA (bZ T.t) a b).length c1 /\ Mem w w1 [] [oP A1 c1 (kA (bZ T.t) a b)]) := by
 have hM : Mem w w [] [] := Mem.refl
 refine aR.n1 Tryz.func148 rfl Tryz.results148 Tryz.ntmps148 rfl ?_
 have hpl := yT (T := T.t)
 rw [jY hv] at hpl
 refine Bx 2 [] λ R0 B0 J0 E0 => ?_
 refine Lt 4 [] (([]).flatMap cY) (λ y0 j0 K0 l0 => ?_)
 refine cp 6 [1] (b := jM T y0 (hNT.at l0) q0) (c := λ z0 f0 => ?_)
 refine cn 2 [] (λ c15 => ?_) (λ c15 => ?_)
 (exfalso; simp [hv] at c15)
 refine cq 4 [1] (b := yU T z0 (hNT.at f0) q0 (by exact qQ hv)) (c := ?_)
 rintro _ S0 ⟨A0, D0, rfl, r0⟩
 have g0 := f0.cl 0 r0
 have P0 := (g0.cap 0 rfl).1
 have s0 : ([] : List PairT) = ((bZ T.t).take 0).filter (iE a b) := t11
 have F0 := g0.reF 1 s0 (f := cY)
 refine lp3 8 [] (λ (k : Nat) (A2 : Option Addr) (c2 : Nat) => ([(9, Vl A2 (((bZ T.t).take k).filter (iE a b)).length c2), (11, Vi ((k : Nat) : Int))] : List (Nat × SV))) (λ k A2 c2 => (k <= (bZ T.t).length) /\ ((((bZ T.t).take k).filter (iE a b)).length <= 24)) (λ k A2 c2 => [oP A2 c2 (((bZ T.t).take k).filter (iE a b))]) (λ k A2 c2 => (bZ T.t).length - k) [1, 2, 3, 10] [1] [0, 2] 0 (bl j0) 0 (λ k A2 c2 σ V0 hI b0 => ?_) (h0 := ⟨(bI _), t15⟩)
 obtain ⟨Q0, c0⟩ := hI
 have N0 := (b0.cap 0 rfl).1
 have O0 := (b0.cap 1 rfl).1
 refine pp 8 [] 22 (λ g22 => ?_) (λ g22 => ?_)
 refine cd 6 [] (λ c27 => ?_) (λ c27 => ?_)
 have a0 : k < (bZ T.t).length := t1
 refine ov 7 [] (a := cJ a0 (b0.rd 1 rfl) (h0 := t1)) (b := ?_)
 refine ov 0 [] (a := fZ a0 (b0.rd 1 rfl)) (b := ?_)
 refine ov 0 [] (a := gF a0 (b0.rd 1 rfl)) (b := ?_)
 refine pp 3 [] 37 (λ g37 => ?_) (λ g37 => ?_)
 have e0 : k < (bZ T.t).length := t1
 refine ov 2 [] (a := cJ e0 (b0.rd 1 rfl) (h0 := t1)) (b := ?_)
 refine ov 0 [] (a := fZ e0 (b0.rd 1 rfl)) (b := ?_)
 refine ov 0 [] (a := gF e0 (b0.rd 1 rfl)) (b := ?_)
 refine cd 4 [] (λ c45 => ?_) (λ c45 => ?_)
 have d0 : k < (bZ T.t).length := t1
 refine ov 4 [] (a := cJ d0 (b0.rd 1 rfl) (h0 := t1)) (b := ?_)
 refine ov 0 [] (a := gL d0 (b0.rd 1 rfl)) (b := ?_)
 refine Lt 0 [] (([(bZ T.t)[k]'d0]).flatMap cY) (λ T0 C0 L0 m0 => ?_)
 refine aF 0 [] 1 (m0.rd 0 rfl) (λ U0 i0 k0 M0 n0 => ?_)
 refine ov 4 [] (a := bL (k + 1)) (b := ?_)
 have t0 : (((bZ T.t).take k).filter (iE a b) ++ [(bZ T.t)[k]'d0] : List PairT) = ((bZ T.t).take (k + 1)).filter (iE a b) := (by first | exact lB a0 t1 t1 | exact mF a0 t1)
 have G0 := n0.reF 1 t0
 exact le3 2 [] (k + 1) i0 k0 [1, 2, 3] (h := by exact ⟨t7, (by (try dsimp only); first | (rw [<- lB a0 t1 t1, aA]; simp only [aG, bA]; omega) | (rw [<- mF a0 t1]; exact c0))⟩)
 refine ov 3 [] (a := bL (k + 1)) (b := ?_)
 have u0 : (((bZ T.t).take k).filter (iE a b) : List PairT) = ((bZ T.t).take (k + 1)).filter (iE a b) := (by first | exact lB a0 t1 t1 | exact mF a0 t1)
 have H0 := b0.reF 0 u0
 exact le3 2 [] (k + 1) A2 c2 [0, 1, 2] (h := by exact ⟨t7, (by (try dsimp only); first | (rw [<- lB a0 t1 t1, aA]; simp only [aG, bA]; omega) | (rw [<- mF a0 t1]; exact c0))⟩)
 refine ov 13 [] (a := bL (k + 1)) (b := ?_)
 have v0 : (((bZ T.t).take k).filter (iE a b) : List PairT) = ((bZ T.t).take (k + 1)).filter (iE a b) := (by first | exact lB a0 t1 t1 | exact mF a0 t1)
 have I0 := b0.reF 0 v0
 exact le3 2 [] (k + 1) A2 c2 [0, 1, 2] (h := by exact ⟨t7, (by (try dsimp only); first | (rw [<- lB a0 t1 t1, aA]; simp only [aG, bA]; omega) | (rw [<- mF a0 t1]; exact c0))⟩)
 refine E1 7 [] (.slice A2 (((bZ T.t).take k).filter (iE a b)).length c2) ?_
 have w0 : (((bZ T.t).take k).filter (iE a b) : List PairT) = kA (bZ T.t) a b := (by first | exact lA t1 c0 | exact jL t1)
 have o0 := b0.reF 0 w0
 exact ⟨A2, c2, (sl_congr (congrArg List.length (by first | exact lA t1 c0 | exact jL t1))), (o0.pk [0])⟩
 refine E1 14 [] (.slice A2 (((bZ T.t).take k).filter (iE a b)).length c2) ?_
 have x0 : (((bZ T.t).take k).filter (iE a b) : List PairT) = kA (bZ T.t) a b := (by first | exact lA t1 c0 | exact jL t1)
 have p0 := b0.reF 0 x0
 exact ⟨A2, c2, (sl_congr (congrArg List.length (by first | exact lA t1 c0 | exact jL t1))), (p0.pk [0])⟩
theorem aDr (T : bN) (w : World) (hNT : TrN w T) (hs : SzT T) (hv : aN T.t = true) :
  aR Tryz.prog 105 [.agg #[I T.root, .slice T.A T.l.length T.cp]] w (λ v w1 => v = I ((bH T.t : Nat) : Int) /\ Mem w w1 [] []) := by
 have hM : Mem w w [] [] := Mem.refl
 refine aR.n1 Tryz.func105 rfl Tryz.results105 Tryz.ntmps105 rfl ?_
 have hvk := eF hv
 have hvo := hvk.2.1
 have hv3 := hvk.1
 have hh1 := qE (T := T.t)
 have hs1 := hs.1
 refine Bx 2 [] λ g0 i0 k0 e0 => ?_
 refine cp 6 [0] (b := gS T g0 (hNT.at e0) q0) (c := λ m0 j0 => ?_)
 refine cn 2 [] (λ c7 => ?_) (λ c7 => ?_)
 (exfalso; simp [hv] at c7)
 refine lp5 13 [0] (λ (n : Nat) (cur : Int) (e : Nat) (lo2 : Int) (hi2 : Int) => ([(3, Vi ((n : Nat) : Int)), (4, Vi cur)] : List (Nat × SV))) (λ n cur e lo2 hi2 => (n + e = bH T.t) /\ (okB T.t (e + 1) cur lo2 hi2 = true)) (λ n cur e lo2 hi2 => []) (λ n cur e lo2 hi2 => e) [1] [] [0] 1 T.root (bH T.t - 1) (0 : Int) (100 : Int) (λ n cur e lo2 hi2 σ n0 hI a0 => ?_) (h0 := ⟨t7, (by (try dsimp only); rw [show bH T.t - 1 + 1 = bH T.t by omega]; exact hvo)⟩)
 obtain ⟨l0, f0⟩ := hI
 have hok := f0
 have hcu := fI.1 (iX hok)
 have hjx : cur.toNat < T.l.length := by omega
 have hgp : gP T.t cur = (T.l[cur.toNat]'hjx).t := jH rfl hjx
 have c0 : cur.toNat < T.l.length := t1
 refine ov 6 [0] (a := cJ c0 (hNT.at a0).1 (h0 := t1)) (b := ?_)
 refine ov 0 [] (a := fZ c0 (hNT.at a0).1) (b := ?_)
 refine ov 0 [] (a := gF c0 (hNT.at a0).1) (b := ?_)
 refine cd 3 [] (λ c17 => ?_) (λ c17 => ?_)
 have hk0 : 0 < (gP T.t cur).kids.length := by rw [hgp]; show 0 < (T.l[cur.toNat]'hjx).c.l.length; omega
 obtain ⟨kid, hkid⟩ : ∃ z, z = (gP T.t cur).kids[0] := ⟨_, rfl⟩
 have hok1 := iC hok hk0
 rw [<- hkid] at hok1
 have hen : e ≠ 0 := λ e9 => by rw [(pL hok).2 e9] at hk0; simp at hk0
 have hkid2 : kid = (T.l[cur.toNat]'hjx).c.l.getD 0 0 := by rw [hkid, <- bF hk0, hgp]; rfl
 refine ov 5 [] (a := bL (n + 1)) (b := ?_)
 have b0 : cur.toNat < T.l.length := t1
 refine ov 6 [0] (a := cJ b0 (hNT.at a0).1 (h0 := t1)) (b := ?_)
 refine ov 0 [] (a := fZ b0 (hNT.at a0).1) (b := ?_)
 refine ov 0 [] (a := gF b0 (hNT.at a0).1) (b := ?_)
 have d0 : 0 < (T.l[cur.toNat]'b0).c.l.length := t1
 refine ov 0 [] (a := cG d0 ((hNT.at a0).2.get b0).2.1 (h0 := t1)) (b := ?_)
 refine ov 0 [] (s := Vi kid) (a := by exact cv (Ru.congr (Ru.load1 el3 rfl (ldm ((hNT.at a0).2.get b0).2.1 d0)) (I_congr ((bF d0).symm.trans hkid2.symm))) rfl) (b := ?_)
 exact le5 2 [] (n + 1) kid (e - 1) _ _ [0] (h := by exact ⟨t7, (by (try dsimp only); rw [show e - 1 + 1 = e by omega]; exact hok1)⟩)
 refine E1 7 [] (I ((n : Nat) : Int)) ?_
 have he0 : e = 0 := (pL hok).1 (by rw [hgp]; exact aP (by show (T.l[cur.toNat]'hjx).c.l.length = 0; omega))
 exact ⟨(I_congr t1), (Mem.none a0)⟩
end Go.Proofs.YtemejgglbhjodaaGreatDoor
section
namespace Go.Px
open Go.RowKit
section
variable {w0 w : World} {R : List (Option Nat)} {M : List (List FE)} {T U : bN} {e e2 t9 : TypeId} {b : Nat} {P : Bool} {A : Option Addr} {r : Int} {c : Nat} {L : List PgL}
theorem jK (h : aN T.t = true) : SzT T := by
 have h1 := (fN h).2
 rw [cP] at h1
 exact fF (r := T.root) (A := T.A) (c := T.cp) (iK h) t1
theorem TrO.held (h : Mem w0 w R M) (i j k : Nat) (hij : i ≠ j) (hik : i ≠ k) {n1 c1 m1 sz1 n2 m2 : Nat} {xs1 : List Value} {g1 : List FE} (hi : M[i]? = some (⟨.slice (bl b) n1 c1, t9, sz1, m1, xs1⟩ :: g1)) (hj : M[j]? = some [⟨.slice T.A n2 T.cp, e2, 3, m2, T.l.flatMap encPg⟩]) (hk : M[k]? = some (T.l.flatMap (pgF e))) : TrO T [some b] :=
 ⟨Off.of_ng (h.ng j i (Ne.symm hij) hj hi), λ x hx => by
  obtain ⟨q, hq, rfl⟩ := aJ hx
  exact ⟨Off.of_ng (Mem.ngP h k i (Ne.symm hik) hk hi hq _ (by simp [pgF])), Off.of_ng (Mem.ngP h k i (Ne.symm hik) hk hi hq _ (by simp [pgF])), Off.of_ng (Mem.ngP h k i (Ne.symm hik) hk hi hq _ (by simp [pgF]))⟩⟩
theorem Mem.mrg2 {g1 g2 : List FE} (h : Mem w0 w R (g1 :: g2 :: M)) : Mem w0 w R ((g1 ++ g2) :: M) := by simpa [Mem] using h
theorem tT (hM : Mem w0 w R [[⟨.slice (bl b) 1 1, t9, 2, 1, [I (if P then U.root else T.root), .slice (if P then U.A else T.A) (if P then U.l.length else T.l.length) (if P then U.cp else T.cp)]⟩], [⟨.slice U.A U.l.length U.cp, e2, 3, U.l.length, U.l.flatMap encPg⟩], U.l.flatMap (pgF e)]) (hT : TrO T [some b]) :
  ∃ G : List FE, (∀ w2, TrN w2 T -> (∀ f ∈ G, f.own w2) -> TrN w2 (if P then U else T)) /\ TrO (if P then U else T) [some b] /\ Mem w0 w R [[⟨.slice (bl b) 1 1, t9, 2, 1, [I (if P then U else T).root, .slice (if P then U else T).A (if P then U else T).l.length (if P then U else T).cp]⟩], G] := by
 cases P with
 | false =>
  refine ⟨[], λ _ h _ => h, hT, ?_⟩
  have h2 := Mem.pick hM [0] t19 rfl
  simpa [Mem, pick] using h2
 | true =>
  refine ⟨[⟨.slice U.A U.l.length U.cp, e2, 3, U.l.length, U.l.flatMap encPg⟩] ++ U.l.flatMap (pgF e), λ w2 _ h => TrN.ofown (r := U.root) h, TrO.held hM 0 1 2 t19 t19 rfl rfl rfl, ?_⟩
  simpa [Mem] using hM
end
def pN (ns : List Int) : List Int := (ns ++ [0, 0]).take 2
section
variable {T : TrT} {w : Str} {a b n : Int} {ns : List Int}
theorem pO : (pN ns).length = 2 := by simp [pN]
theorem pad_set {k : Nat} (h : ns.length = k) (hk : k < 2) : (pN ns).set k n = pN (ns ++ [n]) := by
 match ns, h with
 | [], h => subst h; rfl
 | [a], h => subst h; rfl
 | a :: b :: l, h => simp at h; omega
theorem rG {k : Nat} (hk : k < 2) (h : k < (pN ns).length) : (pN ns)[k] = ns.getD k 0 := by
 match ns, k, hk with
 | [], 0, _ => rfl
 | [], 1, _ => rfl
 | [a], 0, _ => rfl
 | [a], 1, _ => rfl
 | a :: b :: l, 0, _ => rfl
 | a :: b :: l, 1, _ => rfl
def getA (T : TrT) (k : Int) : Str := match mO T k with | some v => bS v | none => noS
theorem aJc {k : Int} (h : (mO T k).isSome = false) : getA T k = noS := by unfold getA; cases hv : mO T k with | none => rfl | some v => rw [hv] at h; cases h
theorem aEq {k : Int} (h : (mO T k).isSome = true) : getA T k = bS ((mO T k).getD 0) := by unfold getA; cases hv : mO T k with | none => rw [hv] at h; cases h | some v => rfl
theorem aOa {k : Int} (hv : aN T = true) : -1000 <= (mO T k).getD 0 /\ (mO T k).getD 0 <= 1000 := by
 cases h : mO T k with
 | none => decide
 | some v => exact aNz hv h
theorem aBs (h : w = jI) : lX T w a b = (if putB T ⟨a, b⟩ then iO T ⟨a, b⟩ else T, if putB T ⟨a, b⟩ then okS else noS) := by
 subst h; unfold lX; rw [if_pos rfl]; split <;> rfl
theorem xP (h : w = fT) : lX T w a b = (if aAi T a then lH T a else T, if aAi T a then okS else noS) := by
 subst h; unfold lX; rw [if_neg t19, if_pos rfl]; split <;> rfl
theorem aBr (h : w = jX) : lX T w a b = (T, getA T a) := by
 subst h; unfold lX; rw [if_neg t19, if_neg t19, if_pos rfl]; rfl
theorem xQ (h : w = fX) : lX T w a b = (T, iH (kA (bZ T) a b)) := by
 subst h; unfold lX; rw [if_neg t19, if_neg t19, if_neg t19, if_pos rfl]
theorem aMz (h : w = gN) : lX T w a b = (T, frX T) := by
 subst h; unfold lX; rw [if_neg t19, if_neg t19, if_neg t19, if_neg t19, if_pos rfl]
theorem aKx (h1 : w ≠ jI) (h2 : w ≠ fT) (h3 : w ≠ jX) (h4 : w ≠ fX) (h5 : w ≠ gN) : lX T w a b = (T, bS (T.pages.length : Int) ++ ([32] ++ bS ((bH T : Nat) : Int))) := by
 unfold lX; rw [if_neg h1, if_neg h2, if_neg h3, if_neg h4, if_neg h5]
theorem aOp (w : Str) : fW w <= 2 := by unfold fW; split <;> (try split) <;> (try split) <;> omega
end
theorem Ru.bmin {P : Program} {σ : Sig} {w : World} {dst : Option Tmp} {T : TypeId} {pos : String} {after : Array Edge} {g : Option (Nat × Bool)} {x y : Operand} {t t' : TypeId} {a b : Int} (hx : ev σ x = I a) (hy : ev σ y = I b) : Ru P σ ⟨dst, .call ⟨.builtin .min, #[x, y], #[t, t']⟩, T, pos, after, g⟩ w (I (min a b)) := by
 have e : min a b = if b < a then b else a := by split <;> omega
 rw [e]
 simp [Ru, execOp, resolve, invoke, builtin, hx, hy, Builtin.min_, Builtin.min2]
section
variable {T : TrT} {w p q : Str}
theorem xA (h : (eJ p).isSome = false \/ (eJ q).isSome = false) : uL T w p q = (T, noS) := by
 unfold uL
 rcases h with h | h
 ·cases hp : eJ p with | none => rfl | some x => rw [hp] at h; cases h
 cases hq : eJ q with
 | none => cases eJ p <;> rfl
 | some x => rw [hq] at h; cases h
theorem zH (h1 : (eJ p).isSome = true) (h2 : (eJ q).isSome = true) : uL T w p q = lX T w ((eJ p).getD 0) ((eJ q).getD 0) := by
 unfold uL
 cases hp : eJ p with
 | none => rw [hp] at h1; cases h1
 | some x => cases hq : eJ q with
  | none => rw [hq] at h2; cases h2
  | some y => rfl
theorem aJr (h : (eJ p).isSome = false) : tZ T w p = (T, noS) := by
 unfold tZ
 cases hp : eJ p with | none => rfl | some x => rw [hp] at h; cases h
theorem yR (h : (eJ p).isSome = true) : tZ T w p = lX T w ((eJ p).getD 0) 0 := by
 unfold tZ
 cases hp : eJ p with | none => rw [hp] at h; cases h | some x => rfl
theorem putT {a b : Int} (h : putB T ⟨a, b⟩ = true) : lX T jI a b = (iO T ⟨a, b⟩, okS) := by rw [aBs rfl, h]; rfl
theorem putN {a b : Int} (h : putB T ⟨a, b⟩ = false) : lX T jI a b = (T, noS) := by rw [aBs rfl, h]; rfl
theorem dropT {a b : Int} (h : aAi T a = true) : lX T fT a b = (lH T a, okS) := by rw [xP rfl, h]; rfl
theorem dropN {a b : Int} (h : aAi T a = false) : lX T fT a b = (T, noS) := by rw [xP rfl, h]; rfl
theorem min20 {n : Nat} : min (n : Int) 20 = ((min n 20 : Nat) : Int) := by
 rcases Nat.le_total n 20 with h | h
 ·rw [dX h, Int.min_eq_left t1]
 rw [Nat.min_eq_right h, Int.min_eq_right t1]; rfl
theorem aId {l : List Str} {k : Nat} (h : k = min l.length 20) : jQ mX (l.take k) = eR l := by
 unfold eR
 congr 1
 subst h
 rcases Nat.le_total l.length 20 with h9 | h9
 ·rw [dX h9, List.take_length, aE h9]
 rw [Nat.min_eq_right h9]
end
def pB : PgL := ⟨⟨none, 0, []⟩, ⟨none, 0, []⟩, ⟨none, 0, []⟩⟩
section
variable {w0 w : World} {R : List (Option Nat)} {M : List (List FE)} {e2 t9 : TypeId} {b n m c : Nat} {A : Option Addr}
theorem one_trn {e : TypeId} (h : ∀ f ∈ ([⟨.slice A n c, e, 3, m, [pB].flatMap encPg⟩] : List FE), f.own w) : TrN w ⟨0, A, c, [pB]⟩ :=
 ⟨pM (show (⟨.slice A n c, e, 3, m, [pB].flatMap encPg⟩ : FE).own w from h _ t11), λ x hx => by rw [aU.1 hx]; exact ⟨Rd.nil, Rd.nil, Rd.nil⟩⟩
theorem one_off {e : TypeId} (h : Mem w0 w R M) (i j : Nat) (hij : i ≠ j) {n1 c1 m1 sz1 n2 m2 : Nat} {xs1 : List Value} {g1 g2 : List FE} (hi : M[i]? = some (⟨.slice (bl b) n1 c1, t9, sz1, m1, xs1⟩ :: g1)) (hj : M[j]? = some (⟨.slice A n2 c, e, 3, m2, [pB].flatMap encPg⟩ :: g2)) : TrO ⟨0, A, c, [pB]⟩ [some b] :=
 ⟨Off.of_ng (h.ng j i (Ne.symm hij) hj hi), λ x hx => by rw [aU.1 hx]; exact ⟨.inl rfl, .inl rfl, .inl rfl⟩⟩
theorem aEs {T U : bN} {G H : List FE} (h1 : ∀ w2, (∀ f ∈ G, f.own w2) -> TrN w2 T) (h2 : ∀ w2, TrN w2 T -> (∀ f ∈ H, f.own w2) -> TrN w2 U) : ∀ w2, (∀ f ∈ H ++ G, f.own w2) -> TrN w2 U := λ w2 h =>
 h2 w2 (h1 w2 λ f hf => h f (eQ _ hf)) λ f hf => h f (dZ _ hf)
end
section
variable {P : Bool} {T U : bN} {X : TrT} {p q : Str}
theorem aCf (h : P = true -> U.t = X) : (if P then U else T).t = if P then X else T.t := by cases P with | false => rfl | true => exact h rfl
end
end Go.Px
end
namespace Go.Proofs.YtemejgglbhjodaaGreatDoor
open Go.Px
open Go.RowKit
theorem aKt (s : Str) (w : World) (hlw : LW w) (hs : s.length <= 4000000000) :
  aR Tryz.prog 52 [S s, S ([32])] w (λ v w1 => ∃ (A1 : Option Addr) (c1 : Nat), v = .slice A1 (cQ 32 s).length c1 /\ Mem w w1 [] [oS A1 c1 (cQ 32 s)]) := by
 obtain ⟨m, hm⟩ := hlw.max
 have hv := aIi (c := 32) (s := s)
 have hl := congrArg List.length hv
 simp only [bC] at hl
 refine ⟨(Tryz.strings_Split ⟨s.toArray⟩ ⟨#[32]⟩ m w (by rw [uV]; omega) hm t19).mono λ e w' ⟨he, hw⟩ => ?_⟩
 have hcount : Lib.countB ⟨s.toArray⟩ ⟨#[32]⟩ + 1 = (cQ 32 s).length := by
  rw [<- hl]
  exact (Lib.splitB_all ⟨#[32]⟩ t19 0 _ _ rfl).symm
 rw [hcount] at he
 rw [hv] at hw
 refine ⟨_, he, some ⟨w.heap.size, 0, none⟩, (cQ 32 s).length, rfl, ?_⟩
 have hB : Blk w' w.heap.size 9 ((cQ 32 s).map S) := by rw [hw]; exact heap_alloc_new w _
 have hb := Lib.countB_le ⟨#[32]⟩ t19 s.length ⟨s.toArray⟩ (by rw [uV]; exact dD _)
 rw [uV] at hb
 exact Mem.cons Mem.refl (by rw [hw]; exact yD w _) (blk_own' (m := (cQ 32 s).length) (sz := 1) hB t11 (by simp only [maxLen]; omega)) (λ k hk => by simp [FE.blk, Value.ownBlock] at hk; omega)
def LwO (R : List (Option Nat)) : Prop := kM Tryz.prog aDd R /\ some 0 ∉ R /\ some 4 ∉ R
theorem aDz {w0 w : World} {R : List (Option Nat)} {L : List FE} {k i : Nat} {v : Value} (h : w0.cell? ⟨k, i, none⟩ = some v) (hM : iS w0 w R L) (hk : some k ∉ R) : w.cell? ⟨k, i, none⟩ = some v := by
 have hlt : k < w0.heap.size := by
  rcases fB k w0.heap.size with h1 | h1
  ·exact h1
  unfold World.cell? at h; rw [Array.getElem?_eq_none h1] at h; cases h
 exact (World.cell?_of_block (hM.block k hlt hk)).trans h
theorem LW.atR {w0 w : World} {R : List (Option Nat)} {L : List FE} (h : LW w0) (hM : iS w0 w R L) (ho : LwO R) : LW w :=
 ⟨uK h.tab hM ho.1, by obtain ⟨m, hm⟩ := h.max; exact ⟨m, aDz hm hM ho.2.1⟩, by obtain ⟨t, p, hp⟩ := h.err; exact ⟨t, p, aDz hp hM ho.2.2⟩⟩
theorem LwO.old {w0 w : World} {M : List (List FE)} (h : LW w0) (hM : Mem w0 w [] M) (i : Nat) {b n c m sz : Nat} {e' : TypeId} {xs : List Value} {g : List FE} (hi : M[i]? = some (⟨.slice (bl b) n c, e', sz, m, xs⟩ :: g)) : LwO [some b] := by
 have hlt : ∀ {k : Nat} {v : Value}, w0.cell? ⟨k, 0, none⟩ = some v -> some k ∉ [some b] := λ {k v} h hm => by
  have hk : k < w0.heap.size := by
   rcases fB k w0.heap.size with h1 | h1
   ·exact h1
   unfold World.cell? at h; rw [Array.getElem?_eq_none h1] at h; cases h
  have := hM.born _ (dM.2 ⟨_, cE hi, dG⟩) b rfl
  simp at hm this
  omega
 obtain ⟨m, hm⟩ := h.max
 obtain ⟨t, p, hp⟩ := h.err
 exact ⟨kM.old h.tab hM i hi, hlt hm, hlt hp⟩
end Go.Proofs.YtemejgglbhjodaaGreatDoor
namespace Go.Proofs.YtemejgglbhjodaaGreatDoor
open Go.Px
theorem aJf (b : Nat) (T : bN) (ru : Int) (Au : Option Addr) (nu : Nat) (cu : Nat) (ok : Bool) (w : World) (hNT : TrN w T) (hOT : TrO T [some b]) (hM : Mem w w [some b] [[⟨.slice (bl b) 1 1, 90, 2, 1, [I T.root, .slice T.A T.l.length T.cp]⟩]]) :
  aR Tryz.prog 100 [.pointer (ofs (bl b) 0), .agg #[I ru, .slice Au nu cu], .bool ok] w (λ v w1 => v = S (if ok then okS else noS) /\ Mem w w1 [some b] [[⟨.slice (bl b) 1 1, 90, 2, 1, [I (if ok then ru else T.root), .slice (if ok then Au else T.A) (if ok then nu else T.l.length) (if ok then cu else T.cp)]⟩]]) := by
 refine aR.n1 Tryz.func100 rfl Tryz.results100 Tryz.ntmps100 rfl ?_
 refine Bx 2 [] λ e0 c0 d0 a0 => ?_
 refine cn 8 [] (λ c8 => ?_) (λ c8 => ?_)
 ·refine E1 5 [] (S ([110, 111])) ?_
  cases hk : ok with
  | true => (exfalso; simp [hk] at c8)
  | false => exact ⟨rfl, (a0.pk [1])⟩
 refine Sb 7 [0] 1 λ f0 b0 => ?_
 refine E1 6 [] (S ([111, 107])) ?_
 cases hk : ok with
 | false => (exfalso; simp [hk] at c8)
 | true => exact ⟨rfl, (b0.pk [1])⟩
theorem sget_fn (b : Nat) (T : bN) (key : Int) (w : World) (hNT : TrN w T) (hOT : TrO T [some b]) (hM : Mem w w [some b] [[⟨.slice (bl b) 1 1, 90, 2, 1, [I T.root, .slice T.A T.l.length T.cp]⟩]]) (hv : aN T.t = true) (hlw : LW w) (hlO : LwO [some b]) :
  aR Tryz.prog 102 [.pointer (ofs (bl b) 0), I key] w (λ v w1 => v = S (getA T.t key) /\ Mem w w1 [some b] [[⟨.slice (bl b) 1 1, 90, 2, 1, [I T.root, .slice T.A T.l.length T.cp]⟩]]) := by
 refine aR.n1 Tryz.func102 rfl Tryz.results102 Tryz.ntmps102 rfl ?_
 refine cp 11 [0] (b := aKn T _ w (hNT.atR hM hOT) (by exact jK hv) (by exact hv)) (c := λ c0 a0 => ?_)
 have hgr := aOa (k := key) hv
 refine cn 12 [] (λ c17 => ?_) (λ c17 => ?_)
 have hg : (mO T.t key).isSome = false := by simpa using c17
 refine E1 5 [] (S ([110, 111])) ?_
 exact ⟨(by rw [aJc hg]; rfl), (a0.pk [0])⟩
 have hg : (mO T.t key).isSome = true := by simpa using c17
 refine cp 4 [] (b := mU _ c0 (hlw.atR a0 hlO).tab qo) (c := λ d0 b0 => ?_)
 refine E1 3 [] (S (bS ((mO T.t key).getD 0))) ?_
 exact ⟨(by rw [aEq hg]), (b0.pk [0])⟩
theorem wH (s : Str) (w : World) :
  aR Tryz.prog 99 [S s] w (λ v w1 => v = I (fW s) /\ Mem w w1 [] []) := by
 have hM : Mem w w [] [] := Mem.refl
 refine aR.n1 Tryz.func99 rfl Tryz.results99 Tryz.ntmps99 rfl ?_
 refine cd 16 [] (λ c4 => ?_) (λ c4 => ?_)
 refine cd 1 [] (λ c4 => ?_) (λ c4 => ?_)
 refine E1 5 [] (I 2) ?_
 exact ⟨(I_congr (by unfold fW jI fX fT jX gN fQ; simp_all)), (Mem.none hM)⟩
 refine cd 6 [] (λ c7 => ?_) (λ c7 => ?_)
 refine cd 1 [] (λ c7 => ?_) (λ c7 => ?_)
 refine E1 5 [] (I 1) ?_
 exact ⟨(I_congr (by unfold fW jI fX fT jX gN fQ; simp_all)), (Mem.none hM)⟩
 refine cd 6 [] (λ c10 => ?_) (λ c10 => ?_)
 refine cd 1 [] (λ c10 => ?_) (λ c10 => ?_)
 refine E1 5 [] (I 0) ?_
 exact ⟨(I_congr (by unfold fW jI fX fT jX gN fQ; simp_all)), (Mem.none hM)⟩
 refine E1 6 [] (I (-1)) ?_
 exact ⟨(I_congr (by unfold fW jI fX fT jX gN fQ; simp_all)), (Mem.none hM)⟩
 refine cd 4 [] (λ c10 => ?_) (λ c10 => ?_)
 refine E1 5 [] (I 0) ?_
 exact ⟨(I_congr (by unfold fW jI fX fT jX gN fQ; simp_all)), (Mem.none hM)⟩
 refine E1 6 [] (I (-1)) ?_
 exact ⟨(I_congr (by unfold fW jI fX fT jX gN fQ; simp_all)), (Mem.none hM)⟩
 refine cd 4 [] (λ c7 => ?_) (λ c7 => ?_)
 refine E1 5 [] (I 1) ?_
 exact ⟨(I_congr (by unfold fW jI fX fT jX gN fQ; simp_all)), (Mem.none hM)⟩
 refine cd 6 [] (λ c10 => ?_) (λ c10 => ?_)
 refine cd 1 [] (λ c10 => ?_) (λ c10 => ?_)
 refine E1 5 [] (I 0) ?_
 exact ⟨(I_congr (by unfold fW jI fX fT jX gN fQ; simp_all)), (Mem.none hM)⟩
 refine E1 6 [] (I (-1)) ?_
 exact ⟨(I_congr (by unfold fW jI fX fT jX gN fQ; simp_all)), (Mem.none hM)⟩
 refine cd 4 [] (λ c10 => ?_) (λ c10 => ?_)
 refine E1 5 [] (I 0) ?_
 exact ⟨(I_congr (by unfold fW jI fX fT jX gN fQ; simp_all)), (Mem.none hM)⟩
 refine E1 6 [] (I (-1)) ?_
 exact ⟨(I_congr (by unfold fW jI fX fT jX gN fQ; simp_all)), (Mem.none hM)⟩
 refine cd 4 [] (λ c4 => ?_) (λ c4 => ?_)
 refine E1 5 [] (I 2) ?_
 exact ⟨(I_congr (by unfold fW jI fX fT jX gN fQ; simp_all)), (Mem.none hM)⟩
 refine cd 6 [] (λ c7 => ?_) (λ c7 => ?_)
 refine cd 1 [] (λ c7 => ?_) (λ c7 => ?_)
 refine E1 5 [] (I 1) ?_
 exact ⟨(I_congr (by unfold fW jI fX fT jX gN fQ; simp_all)), (Mem.none hM)⟩
 refine cd 6 [] (λ c10 => ?_) (λ c10 => ?_)
 refine cd 1 [] (λ c10 => ?_) (λ c10 => ?_)
 refine E1 5 [] (I 0) ?_
 exact ⟨(I_congr (by unfold fW jI fX fT jX gN fQ; simp_all)), (Mem.none hM)⟩
 refine E1 6 [] (I (-1)) ?_
 exact ⟨(I_congr (by unfold fW jI fX fT jX gN fQ; simp_all)), (Mem.none hM)⟩
 refine cd 4 [] (λ c10 => ?_) (λ c10 => ?_)
 refine E1 5 [] (I 0) ?_
 exact ⟨(I_congr (by unfold fW jI fX fT jX gN fQ; simp_all)), (Mem.none hM)⟩
 refine E1 6 [] (I (-1)) ?_
 exact ⟨(I_congr (by unfold fW jI fX fT jX gN fQ; simp_all)), (Mem.none hM)⟩
 refine cd 4 [] (λ c7 => ?_) (λ c7 => ?_)
 refine E1 5 [] (I 1) ?_
 exact ⟨(I_congr (by unfold fW jI fX fT jX gN fQ; simp_all)), (Mem.none hM)⟩
 refine cd 6 [] (λ c10 => ?_) (λ c10 => ?_)
 refine cd 1 [] (λ c10 => ?_) (λ c10 => ?_)
 refine E1 5 [] (I 0) ?_
 exact ⟨(I_congr (by unfold fW jI fX fT jX gN fQ; simp_all)), (Mem.none hM)⟩
 refine E1 6 [] (I (-1)) ?_
 exact ⟨(I_congr (by unfold fW jI fX fT jX gN fQ; simp_all)), (Mem.none hM)⟩
 refine cd 4 [] (λ c10 => ?_) (λ c10 => ?_)
 refine E1 5 [] (I 0) ?_
 exact ⟨(I_congr (by unfold fW jI fX fT jX gN fQ; simp_all)), (Mem.none hM)⟩
 refine E1 6 [] (I (-1)) ?_
 exact ⟨(I_congr (by unfold fW jI fX fT jX gN fQ; simp_all)), (Mem.none hM)⟩
end Go.Proofs.YtemejgglbhjodaaGreatDoor
namespace Go.Proofs.YtemejgglbhjodaaGreatDoor
open Go.Px
set_option maxHeartbeats 4000000 in
theorem aHi (b : Nat) (T : bN) (s : Str) (w : World) (hNT : TrN w T) (hOT : TrO T [some b]) (hM : Mem w w [some b] [[⟨.slice (bl b) 1 1, 90, 2, 1, [I T.root, .slice T.A T.l.length T.cp]⟩]]) (hv : aN T.t = true) (hlw : LW w) (hlO : LwO [some b]) (hs : s.length <= 1048576) :
  aR Tryz.prog 62 [.pointer (ofs (bl b) 0), S s] w (λ v w1 => ∃ (T2 : bN) (G : List FE), v = S (eZ T.t s).2 /\ (T2.t = (eZ T.t s).1) /\ (∀ w2, TrN w2 T -> (∀ f ∈ G, f.own w2) -> TrN w2 T2) /\ (TrO T2 [some b]) /\ Mem w w1 [some b] [[⟨.slice (bl b) 1 1, 90, 2, 1, [I T2.root, .slice T2.A T2.l.length T2.cp]⟩], G]) := by
 refine aR.n1 Tryz.func62 rfl Tryz.results62 Tryz.ntmps62 rfl ?_
 have hsn : 0 < (cQ 32 s).length := List.length_pos_iff.2 (aDb 32 s)
 have hwL := aGi (c := 32) (s := s)
 have hl16 := fN hv
 rw [cP] at hl16
 have hh3 := (eF hv).1
 have hi1 := cL (n := ((T.l.length : Nat) : Int)) t1 t1
 have hi2 := cL (n := ((bH T.t : Nat) : Int)) t1 t1
 refine cq 7 [] (b := aKt _ w (hlw.atR hM hlO) qo) (c := ?_)
 rintro _ o1 ⟨u0, d0, rfl, Y0⟩
 have m0 := hM.cl 0 Y0
 have C1 := (m0.cap 0 rfl).1
 have D0 : 0 < (cQ 32 s).length := hsn
 refine ov 6 [] (a := cG D0 (m0.rd 0 rfl) (h0 := t1)) (b := ?_)
 refine ov 0 [] (a := eT D0 (m0.rd 0 rfl)) (b := ?_)
 refine cp 0 [] (b := wH _ o1 ) (c := λ S1 A0 => ?_)
 refine ov 2 [] (a := eV) (b := ?_)
 refine cd 2 [] (λ c20 => ?_) (λ c20 => ?_)
 have hst := aKc (T := T.t) hsn t1
 refine E1 5 [] (S ([119, 104, 97, 116])) ?_
 have N0 := Mem.gnil (e := 3) A0
 exact ⟨T, [], (by rw [hst]; try rfl), (by rw [hst]), (λ _ h9 _ => h9), hOT, (N0.pk [2, 0])⟩
 have hna : fW ((cQ 32 s)[0]) = ((cQ 32 s).length : Int) - 1 := by omega
 have hn2 := aOp ((cQ 32 s)[0])
 have hwl : ((cQ 32 s).drop 1).length = (cQ 32 s).length - 1 := aI
 refine go 3 [] ?_
 refine O.marr (m := 2) (sz := 1) (xs := (List.replicate 2 (0 : Int)).map I) A0 rfl rfl el134 (by kernel_rfl) t11 t19 (λ T1 b0 x1 L0 => ?_)
 have B0 := L0.reA 0 (show List.replicate 2 (0 : Int) = pN [] from rfl)
 have z1 := B0.cap 1 rfl
 refine ov 5 [] (s := Vl (if d0 = 1 then u0 else ofs u0 (1 * 1)) ((cQ 32 s).drop 1).length (d0 - 1)) (a := by exact cv (Ru.congr (Ru.lsliceFrom (l := 1) Tryz.underlying47 el9 rfl rfl t1 t1) (sl_congr t6)) rfl) (b := ?_)
 have u1 := B0.reA 0 (show pN [] = pN ([] : List Int) from rfl)
 refine lp2 4 [] (λ (k : Nat) (ns : List Int) => ([(24, Vi ((k : Nat) : Int))] : List (Nat × SV))) (λ k ns => (k <= ((cQ 32 s).drop 1).length) /\ (iI (((cQ 32 s).drop 1).take k) = some ns)) (λ k ns => [[⟨.slice (bl b0) 2 2, 134, 1, 2, (pN ns).map I⟩]]) (λ k ns => ((cQ 32 s).drop 1).length - k) [0, 5, 6, 22, 23] [0] [1, 2] 0 (([] : List Int) : List Int) (λ k ns σ t0 hI a0 => ?_) (h0 := ⟨(bI _), rfl⟩)
 obtain ⟨F1, q0⟩ := hI
 have y1 := (a0.cap 1 rfl).1
 have hnl : ns.length = k := by have h9 := yP q0; rw [aB] at h9; omega
 refine cd 5 [] (λ c25 => ?_) (λ c25 => ?_)
 have c0 : k < ((cQ 32 s).drop 1).length := t1
 refine ov 6 [] (a := cG c0 (fK (k := 1) (c := d0) (a0.rd 1 rfl) q2 q2) (h0 := t1)) (b := ?_)
 refine ov 0 [] (a := eT c0 (fK (k := 1) (c := d0) (a0.rd 1 rfl) q2 q2)) (b := ?_)
 refine cp 6 [] (b := zX _ t0 (hlw.atR a0 hlO)) (c := λ U1 M0 => ?_)
 refine cn 12 [] (λ c35 => ?_) (λ c35 => ?_)
 have hst := st_no (T := T.t) hsn hna (yO c0 (aOr (by simpa using c35)))
 refine E1 5 [] (S ([110, 111])) ?_
 have O0 := Mem.gnil (e := 3) M0
 exact ⟨T, [], (by rw [hst]; try rfl), (by rw [hst]), (λ _ h9 _ => h9), hOT, (O0.pk [3, 0])⟩
 have hns := aOs (d := (0 : Int)) (show (eJ (((cQ 32 s).drop 1)[k]'c0)).isSome = true by simpa using c35)
 have c1 : k < (pN ns).length := (by rw [pO]; omega)
 refine ov 4 [] (s := Vp (bl b0) (k * 1)) (a := by exact cv (Ru.indexArr (j := k) Tryz.underlying134 el3 rfl rfl rfl t1 t13) rfl) (b := ?_)
 refine sM 0 [] 0 c1 λ K1 E0 => ?_
 have v1 := E0.reA 0 (show (pN ns).set k ((eJ (((cQ 32 s).drop 1)[k]'c0)).getD 0) = pN (ns ++ [(eJ (((cQ 32 s).drop 1)[k]'c0)).getD 0]) from (pad_set hnl t1))
 refine ov 2 [] (a := bL (k + 1)) (b := ?_)
 exact le2 2 [] (k + 1) (ns ++ [(eJ (((cQ 32 s).drop 1)[k]'c0)).getD 0]) [0, 1, 2] (h := by exact ⟨t7, (vX c0 q0 hns)⟩)
 have hfull : iI ((cQ 32 s).drop 1) = some ns := by have h9 := q0; rwa [aE t1] at h9
 have hst0 := st_cmd (T := T.t) hsn hna hfull
 obtain ⟨x9, hx9⟩ : ∃ z, z = ns.getD 0 0 := ⟨_, rfl⟩
 obtain ⟨y9, hy9⟩ : ∃ z, z = ns.getD 1 0 := ⟨_, rfl⟩
 rw [<- hx9, <- hy9] at hst0
 have C0 : 0 < (cQ 32 s).length := hsn
 refine ov 5 [] (a := cG C0 (a0.rd 1 rfl) (h0 := t1)) (b := ?_)
 refine ov 0 [] (a := eT C0 (a0.rd 1 rfl)) (b := ?_)
 refine cd 7 [] (λ c43 => ?_) (λ c43 => ?_)
 have hst := hst0.trans (aBs c43)
 refine any 1 [] 15 [0, 1] λ k1 w0 => ?_
 have d1 : 0 < (pN ns).length := (by rw [pO]; omega)
 refine av [0, 1, 2, 3] [] 5 (s := Vp (bl b0) (0 * 1)) (a := by exact λ w2 hw2 => cv (Ru.indexArr (j := 0) Tryz.underlying134 el3 rfl rfl rfl t1 t11) rfl) (b := ?_)
 refine av [] [] 6 (s := Vi x9) (a := by exact λ w2 hw2 => cv (Ru.congr (Ru.load1 el3 rfl (ldm (hw2.rd 0 rfl) d1)) (I_congr ((rG t1 _).trans hx9.symm))) rfl) (b := ?_)
 have e1 : 1 < (pN ns).length := (by rw [pO]; omega)
 refine av [] [] 7 (s := Vp (bl b0) (1 * 1)) (a := by exact λ w2 hw2 => cv (Ru.indexArr (j := 1) Tryz.underlying134 el3 rfl rfl rfl t1 t11) rfl) (b := ?_)
 refine av [] [] 8 (s := Vi y9) (a := by exact λ w2 hw2 => cv (Ru.congr (Ru.load1 el3 rfl (ldm (hw2.rd 0 rfl) e1)) (I_congr ((rG t1 _).trans hy9.symm))) rfl) (b := ?_)
 refine aO [9] [] 4 ?_
 refine os 1 [2] [0, 1] ?_
 refine aO [] [] 10 ?_
 refine cq 0 [] (b := aKs T (⟨x9, y9⟩ : PairT) k1 (hNT.atR w0 hOT) (by exact jK hv)) (c := ?_)
 rintro _ j1 ⟨r0, i0, f0, k0, rfl, a1, I1, G1, T0⟩
 have v0 := w0.cl 0 T0
 have A1 := (v0.cap 0 rfl).1
 refine os 0 [] [2, 3] ?_
 refine aO [11, 12] [] 13 ?_
 have o0 := v0.pk [4, 0, 1, 2, 3]
 refine cq 0 [] (b := aJf b T r0 f0 i0.length k0 _ j1 (hNT.atR o0 hOT) hOT (o0.fp [0] rfl rfl)) (c := ?_)
 rintro _ L1 ⟨rfl, U0⟩
 have F0 := o0.cl 1 U0
 refine os 0 [] [3, 4] ?_
 refine an [14] [] ?_
 refine E1 1 [] (S (if (aN T.t && bW [(⟨x9, y9⟩ : PairT)] && aN (iO T.t (⟨x9, y9⟩ : PairT))) then okS else noS)) ?_
 obtain ⟨G9, hg9, ho9, hM9⟩ := tT (T := T) (U := (⟨r0, f0, k0, i0⟩ : bN)) (P := (aN T.t && bW [(⟨x9, y9⟩ : PairT)] && aN (iO T.t (⟨x9, y9⟩ : PairT)))) (F0.pk [0, 1, 2]) hOT
 exact ⟨(if (aN T.t && bW [(⟨x9, y9⟩ : PairT)] && aN (iO T.t (⟨x9, y9⟩ : PairT))) then (⟨r0, f0, k0, i0⟩ : bN) else T), G9, (by rw [hst]; try rfl), (by rw [hst]; exact aCf a1), hg9, ho9, hM9⟩
 refine cd 5 [] (λ c59 => ?_) (λ c59 => ?_)
 have hst := hst0.trans (xP c59)
 refine any 1 [] 12 [0, 1] λ m1 y0 => ?_
 have f1 : 0 < (pN ns).length := (by rw [pO]; omega)
 refine av [0, 1, 2, 3] [] 5 (s := Vp (bl b0) (0 * 1)) (a := by exact λ w2 hw2 => cv (Ru.indexArr (j := 0) Tryz.underlying134 el3 rfl rfl rfl t1 t11) rfl) (b := ?_)
 refine av [] [] 6 (s := Vi x9) (a := by exact λ w2 hw2 => cv (Ru.congr (Ru.load1 el3 rfl (ldm (hw2.rd 0 rfl) f1)) (I_congr ((rG t1 _).trans hx9.symm))) rfl) (b := ?_)
 refine aO [] [] 4 ?_
 refine os 1 [2] [0, 1] ?_
 refine aO [] [] 7 ?_
 refine cq 0 [] (b := aGu T _ m1 (hNT.atR y0 hOT) (by exact jK hv)) (c := ?_)
 rintro _ l1 ⟨s0, j0, g0, l0, rfl, b1, J1, H1, W0⟩
 have x0 := y0.cl 0 W0
 have B1 := (x0.cap 0 rfl).1
 refine os 0 [] [2, 3] ?_
 refine aO [8, 9] [] 10 ?_
 have p0 := x0.pk [4, 0, 1, 2, 3]
 refine cq 0 [] (b := aJf b T s0 g0 j0.length l0 _ l1 (hNT.atR p0 hOT) hOT (p0.fp [0] rfl rfl)) (c := ?_)
 rintro _ N1 ⟨rfl, V0⟩
 have G0 := p0.cl 1 V0
 refine os 0 [] [3, 4] ?_
 refine an [11] [] ?_
 refine E1 1 [] (S (if (aN T.t && cT (bZ T.t) x9) then okS else noS)) ?_
 obtain ⟨G9, hg9, ho9, hM9⟩ := tT (T := T) (U := (⟨s0, g0, l0, j0⟩ : bN)) (P := (aN T.t && cT (bZ T.t) x9)) (G0.pk [0, 1, 2]) hOT
 exact ⟨(if (aN T.t && cT (bZ T.t) x9) then (⟨s0, g0, l0, j0⟩ : bN) else T), G9, (by rw [hst]; try rfl), (by rw [hst]; exact aCf b1), hg9, ho9, hM9⟩
 refine cd 5 [] (λ c72 => ?_) (λ c72 => ?_)
 have hst := hst0.trans (aBr c72)
 have g1 : 0 < (pN ns).length := (by rw [pO]; omega)
 refine ov 3 [] (s := Vp (bl b0) (0 * 1)) (a := by exact cv (Ru.indexArr (j := 0) Tryz.underlying134 el3 rfl rfl rfl t1 t11) rfl) (b := ?_)
 refine ov 0 [] (s := Vi x9) (a := by exact cv (Ru.congr (Ru.load1 el3 rfl (ldm (a0.rd 0 rfl) g1)) (I_congr ((rG t1 _).trans hx9.symm))) rfl) (b := ?_)
 have e0 := a0.pk [2, 0, 1]
 refine cq 0 [] (b := sget_fn b T _ t0 (hNT.atR e0 hOT) hOT (e0.fp [0] rfl rfl) (by exact hv) (hlw.atR e0 hlO) hlO) (c := ?_)
 rintro _ O1 ⟨rfl, X0⟩
 have H0 := e0.cl 1 X0
 refine E1 3 [] (S (getA T.t x9)) ?_
 have P0 := Mem.gnil (e := 3) H0
 exact ⟨T, [], (by rw [hst]; try rfl), (by rw [hst]), (λ _ h9 _ => h9), hOT, (P0.pk [1, 0])⟩
 refine cd 5 [] (λ c78 => ?_) (λ c78 => ?_)
 have hst := hst0.trans (xQ c78)
 have hsv := sN (a := x9) (b := y9) hv
 have hsl := pR hsv
 refine any 1 [] 11 [0, 1, 2] λ q1 z0 => ?_
 have h1 : 0 < (pN ns).length := (by rw [pO]; omega)
 refine av [0, 1, 2, 3] [2] 4 (s := Vp (bl b0) (0 * 1)) (a := by exact λ w2 hw2 => cv (Ru.indexArr (j := 0) Tryz.underlying134 el3 rfl rfl rfl t1 t11) rfl) (b := ?_)
 refine av [] [] 5 (s := Vi x9) (a := by exact λ w2 hw2 => cv (Ru.congr (Ru.load1 el3 rfl (ldm (hw2.rd 0 rfl) h1)) (I_congr ((rG t1 _).trans hx9.symm))) rfl) (b := ?_)
 have i1 : 1 < (pN ns).length := (by rw [pO]; omega)
 refine av [] [] 6 (s := Vp (bl b0) (1 * 1)) (a := by exact λ w2 hw2 => cv (Ru.indexArr (j := 1) Tryz.underlying134 el3 rfl rfl rfl t1 t11) rfl) (b := ?_)
 refine av [] [] 7 (s := Vi y9) (a := by exact λ w2 hw2 => cv (Ru.congr (Ru.load1 el3 rfl (ldm (hw2.rd 0 rfl) i1)) (I_congr ((rG t1 _).trans hy9.symm))) rfl) (b := ?_)
 refine aO [] [] 8 ?_
 refine cq 0 [] (b := aDw T _ _ q1 (hNT.atR z0 hOT) (by exact jK hv) (by exact hv)) (c := ?_)
 rintro _ p1 ⟨r1, s1, rfl, Z0⟩
 have n0 := z0.cl 0 Z0
 have D1 := (n0.cap 0 rfl).1
 refine os 0 [] [1, 2, 3] ?_
 refine aO [] [] 9 ?_
 refine cp 0 [] (b := tA _ _ _ p1 (n0.rd 0 rfl) qo (hlw.atR n0 hlO).tab) (c := λ P1 I0 => ?_)
 refine os 0 [] [1, 2, 3] ?_
 refine an [10] [] ?_
 refine E1 1 [] (S (aEp (kA (bZ T.t) x9 y9))) ?_
 have Q0 := Mem.gnil (e := 3) I0
 exact ⟨T, [], (by rw [hst, tO hsv]), (by rw [hst]), (λ _ h9 _ => h9), hOT, (Q0.pk [4, 0])⟩
 refine cd 5 [] (λ c90 => ?_) (λ c90 => ?_)
 have hst := hst0.trans (aMz c90)
 refine cp 6 [2] (b := zN T t0 (hNT.atR a0 hOT) (by exact jK hv) (hlw.atR a0 hlO).tab) (c := λ Q1 J0 => ?_)
 refine E1 3 [] (S (frX T.t)) ?_
 have R0 := Mem.gnil (e := 3) J0
 exact ⟨T, [], (by rw [hst]; try rfl), (by rw [hst]), (λ _ h9 _ => h9), hOT, (R0.pk [3, 0])⟩
 have hst := hst0.trans (aKx c43 c59 c72 c78 c90)
 refine dr 2 [] ?_
 refine qc 6 [2] (X := S (bS ((T.l.length : Nat) : Int))) (b := by exact λ w2 hw2 => (mU ((T.l.length : Nat) : Int) w2 (hlw.atR hw2 hlO).tab qo).mono λ _ _ h => ⟨h.1, Mem.call0 (M1 := []) hw2 h.2⟩) (c := ?_)
 refine qv 0 [] (a := by exact λ _ hw2 => iF (h := by simp only [aG, bA]; omega)) (b := ?_)
 refine qc 4 [2] (X := I ((bH T.t : Nat) : Int)) (b := by exact λ w2 hw2 => (aDr T w2 (hNT.atR hw2 hOT) (by exact jK hv) (by exact hv)).mono λ _ _ h => ⟨h.1, Mem.call0 (M1 := []) hw2 h.2⟩) (c := ?_)
 refine qc 0 [] (X := S (bS ((bH T.t : Nat) : Int))) (b := by exact λ w2 hw2 => (mU ((bH T.t : Nat) : Int) w2 (hlw.atR hw2 hlO).tab qo).mono λ _ _ h => ⟨h.1, Mem.call0 (M1 := []) hw2 h.2⟩) (c := ?_)
 refine qv 0 [] (a := by exact λ _ hw2 => iF (h := t21)) (b := ?_)
 refine qn 1 [] λ R1 K0 => ?_
 refine E1 1 [] (S ((bS ((T.l.length : Nat) : Int) ++ [32]) ++ bS ((bH T.t : Nat) : Int))) ?_
 have S0 := Mem.gnil (e := 3) K0
 exact ⟨T, [], (by rw [hst]; simp [cP]), (by rw [hst]), (λ _ h9 _ => h9), hOT, (S0.pk [3, 0])⟩
end Go.Proofs.YtemejgglbhjodaaGreatDoor
namespace Go.Proofs.YtemejgglbhjodaaGreatDoor
open Go.Px
set_option maxHeartbeats 2000000 in
theorem dput_fn (b : Nat) (T : bN) (p : Str) (q : Str) (w : World) (hNT : TrN w T) (hOT : TrO T [some b]) (hM : Mem w w [some b] [[⟨.slice (bl b) 1 1, 103, 2, 1, [I T.root, .slice T.A T.l.length T.cp]⟩]]) (hv : aN T.t = true) :
  aR Tryz.prog 108 [.pointer (ofs (bl b) 0), S p, S q] w (λ v w1 => ∃ (T2 : bN) (G : List FE), v = S (uL T.t jI p q).2 /\ (T2.t = (uL T.t jI p q).1) /\ (∀ w2, TrN w2 T -> (∀ f ∈ G, f.own w2) -> TrN w2 T2) /\ (TrO T2 [some b]) /\ Mem w w1 [some b] [[⟨.slice (bl b) 1 1, 103, 2, 1, [I T2.root, .slice T2.A T2.l.length T2.cp]⟩], G]) := by
 refine aR.n1 Tryz.func108 rfl Tryz.results108 Tryz.ntmps108 rfl ?_
 refine cp 7 [] (b := lI _ w ) (c := λ n0 q0 => ?_)
 refine cp 9 [] (b := lI _ n0 ) (c := λ o0 e0 => ?_)
 refine cq 15 [0] (b := aIb T (⟨(eJ p).getD 0, (eJ q).getD 0⟩ : PairT) o0 (hNT.atR e0 hOT) (by exact jK hv)) (c := ?_)
 rintro _ y0 ⟨f0, c0, b0, d0, rfl, m0, v0, u0, l0⟩
 have g0 := e0.cl 0 l0
 have t0 := (g0.cap 0 rfl).1
 refine Al 3 [] λ w0 p0 s0 r0 => ?_
 refine Sb 0 [] 0 λ x0 a0 => ?_
 refine pt 8 [] 36 (λ g36 => ?_) (λ g36 => ?_)
 have hst := xA (T := T.t) (w := jI) (q := q) (.inl (by simpa using g36))
 refine E1 14 [] (S ([110, 111])) ?_
 have i0 := Mem.gnil (e := 3) a0
 exact ⟨T, [], (by rw [hst]; try rfl), (by rw [hst]), (λ _ h9 _ => h9), hOT, (i0.pk [4, 0])⟩
 have h1 : (eJ p).isSome = true := (by simpa using g36)
 refine pt 4 [] 40 (λ g40 => ?_) (λ g40 => ?_)
 have hst := xA (T := T.t) (w := jI) (p := p) (.inr (by simpa using g40))
 refine E1 10 [] (S ([110, 111])) ?_
 have j0 := Mem.gnil (e := 3) a0
 exact ⟨T, [], (by rw [hst]; try rfl), (by rw [hst]), (λ _ h9 _ => h9), hOT, (j0.pk [4, 0])⟩
 have h2 : (eJ q).isSome = true := (by simpa using g40)
 refine cn 4 [] (λ c43 => ?_) (λ c43 => ?_)
 have hst := (zH (T := T.t) (w := jI) h1 h2).trans (putN (show (aN T.t && bW [(⟨((eJ p).getD 0), ((eJ q).getD 0)⟩ : PairT)] && aN (iO T.t (⟨((eJ p).getD 0), ((eJ q).getD 0)⟩ : PairT))) = false from (by simpa using c43)))
 refine E1 5 [] (S ([110, 111])) ?_
 have k0 := Mem.gnil (e := 3) a0
 exact ⟨T, [], (by rw [hst]; try rfl), (by rw [hst]), (λ _ h9 _ => h9), hOT, (k0.pk [4, 0])⟩
 have hyp : (aN T.t && bW [(⟨((eJ p).getD 0), ((eJ q).getD 0)⟩ : PairT)] && aN (iO T.t (⟨((eJ p).getD 0), ((eJ q).getD 0)⟩ : PairT))) = true := (by simpa using c43)
 have hst := (zH (T := T.t) (w := jI) h1 h2).trans (putT hyp)
 refine Sb 7 [0] 3 λ z0 h0 => ?_
 refine E1 6 [] (S ([111, 107])) ?_
 obtain ⟨G9, hg9, ho9, hM9⟩ := tT (T := T) (U := (⟨f0, b0, d0, c0⟩ : bN)) (P := true) (h0.pk [3, 1, 2]) hOT
 exact ⟨(if true then (⟨f0, b0, d0, c0⟩ : bN) else T), G9, (by rw [hst]; try rfl), (by rw [hst]; exact aCf (λ _ => m0 hyp)), hg9, ho9, hM9⟩
set_option maxHeartbeats 2000000 in
theorem aNf (b : Nat) (T : bN) (p : Str) (w : World) (hNT : TrN w T) (hOT : TrO T [some b]) (hM : Mem w w [some b] [[⟨.slice (bl b) 1 1, 103, 2, 1, [I T.root, .slice T.A T.l.length T.cp]⟩]]) (hv : aN T.t = true) :
  aR Tryz.prog 109 [.pointer (ofs (bl b) 0), S p] w (λ v w1 => ∃ (T2 : bN) (G : List FE), v = S (tZ T.t fT p).2 /\ (T2.t = (tZ T.t fT p).1) /\ (∀ w2, TrN w2 T -> (∀ f ∈ G, f.own w2) -> TrN w2 T2) /\ (TrO T2 [some b]) /\ Mem w w1 [some b] [[⟨.slice (bl b) 1 1, 103, 2, 1, [I T2.root, .slice T2.A T2.l.length T2.cp]⟩], G]) := by
 refine aR.n1 Tryz.func109 rfl Tryz.results109 Tryz.ntmps109 rfl ?_
 refine cp 7 [] (b := lI _ w ) (c := λ m0 d0 => ?_)
 refine cq 13 [0] (b := aFv T _ m0 (hNT.atR d0 hOT) (by exact jK hv)) (c := ?_)
 rintro _ u0 ⟨f0, b0, a0, c0, rfl, l0, s0, r0, k0⟩
 have g0 := d0.cl 0 k0
 have q0 := (g0.cap 0 rfl).1
 refine Al 3 [] λ v0 n0 p0 o0 => ?_
 refine Sb 0 [] 0 λ t0 e0 => ?_
 refine pt 8 [] 25 (λ g25 => ?_) (λ g25 => ?_)
 have hst := aJr (T := T.t) (w := fT) (by simpa using g25)
 refine E1 10 [] (S ([110, 111])) ?_
 have i0 := Mem.gnil (e := 3) e0
 exact ⟨T, [], (by rw [hst]; try rfl), (by rw [hst]), (λ _ h9 _ => h9), hOT, (i0.pk [4, 0])⟩
 have h1 : (eJ p).isSome = true := (by simpa using g25)
 refine cn 4 [] (λ c28 => ?_) (λ c28 => ?_)
 have hst := (yR (T := T.t) (w := fT) h1).trans (dropN (show (aN T.t && cT (bZ T.t) ((eJ p).getD 0)) = false from (by simpa using c28)))
 refine E1 5 [] (S ([110, 111])) ?_
 have j0 := Mem.gnil (e := 3) e0
 exact ⟨T, [], (by rw [hst]; try rfl), (by rw [hst]), (λ _ h9 _ => h9), hOT, (j0.pk [4, 0])⟩
 have hyp : (aN T.t && cT (bZ T.t) ((eJ p).getD 0)) = true := (by simpa using c28)
 have hst := (yR (T := T.t) (w := fT) h1).trans (dropT hyp)
 refine Sb 7 [0] 3 λ w0 h0 => ?_
 refine E1 6 [] (S ([111, 107])) ?_
 obtain ⟨G9, hg9, ho9, hM9⟩ := tT (T := T) (U := (⟨f0, a0, c0, b0⟩ : bN)) (P := true) (h0.pk [3, 1, 2]) hOT
 exact ⟨(if true then (⟨f0, a0, c0, b0⟩ : bN) else T), G9, (by rw [hst]; try rfl), (by rw [hst]; exact aCf (λ _ => (l0 hyp).1)), hg9, ho9, hM9⟩
set_option maxHeartbeats 2000000 in
theorem dget_fn (b : Nat) (T : bN) (p : Str) (w : World) (hNT : TrN w T) (hOT : TrO T [some b]) (hM : Mem w w [some b] [[⟨.slice (bl b) 1 1, 103, 2, 1, [I T.root, .slice T.A T.l.length T.cp]⟩]]) (hv : aN T.t = true) :
  aR Tryz.prog 110 [.pointer (ofs (bl b) 0), S p] w (λ v w1 => ∃ (T2 : bN) (G : List FE), v = S (tZ T.t jX p).2 /\ (T2.t = (tZ T.t jX p).1) /\ (∀ w2, TrN w2 T -> (∀ f ∈ G, f.own w2) -> TrN w2 T2) /\ (TrO T2 [some b]) /\ Mem w w1 [some b] [[⟨.slice (bl b) 1 1, 103, 2, 1, [I T2.root, .slice T2.A T2.l.length T2.cp]⟩], G]) := by
 refine aR.n1 Tryz.func110 rfl Tryz.results110 Tryz.ntmps110 rfl ?_
 refine cp 7 [] (b := lI _ w ) (c := λ g0 b0 => ?_)
 refine cp 13 [0] (b := aIa T _ g0 (hNT.atR b0 hOT) (by exact jK hv) (by exact hv)) (c := λ h0 a0 => ?_)
 refine pt 12 [] 25 (λ g25 => ?_) (λ g25 => ?_)
 have hst := aJr (T := T.t) (w := jX) (by simpa using g25)
 refine E1 10 [] (S ([110, 111])) ?_
 have d0 := Mem.gnil (e := 3) a0
 exact ⟨T, [], (by rw [hst]; try rfl), (by rw [hst]), (λ _ h9 _ => h9), hOT, (d0.pk [1, 0])⟩
 have h1 : (eJ p).isSome = true := (by simpa using g25)
 have hst0 := (yR (T := T.t) (w := jX) h1).trans (aBr rfl)
 have hgr := aOa (k := ((eJ p).getD 0)) hv
 refine cn 4 [] (λ c28 => ?_) (λ c28 => ?_)
 have hst := hst0.trans (congrArg (Prod.mk T.t) (aJc (by simpa using c28)))
 refine E1 5 [] (S ([110, 111])) ?_
 have e0 := Mem.gnil (e := 3) a0
 exact ⟨T, [], (by rw [hst]; try rfl), (by rw [hst]), (λ _ h9 _ => h9), hOT, (e0.pk [1, 0])⟩
 have hst := hst0.trans (congrArg (Prod.mk T.t) (aEq (by simpa using c28)))
 refine cp 4 [] (b := gK _ h0 qo) (c := λ i0 c0 => ?_)
 refine E1 3 [] (S (bS ((mO T.t ((eJ p).getD 0)).getD 0))) ?_
 have f0 := Mem.gnil (e := 3) c0
 exact ⟨T, [], (by rw [hst]; try rfl), (by rw [hst]), (λ _ h9 _ => h9), hOT, (f0.pk [1, 0])⟩
set_option maxHeartbeats 2000000 in
theorem aNk (b : Nat) (T : bN) (p : Str) (q : Str) (w : World) (hNT : TrN w T) (hOT : TrO T [some b]) (hM : Mem w w [some b] [[⟨.slice (bl b) 1 1, 103, 2, 1, [I T.root, .slice T.A T.l.length T.cp]⟩]]) (hv : aN T.t = true) :
  aR Tryz.prog 111 [.pointer (ofs (bl b) 0), S p, S q] w (λ v w1 => ∃ (T2 : bN) (G : List FE), v = S (uL T.t fX p q).2 /\ (T2.t = (uL T.t fX p q).1) /\ (∀ w2, TrN w2 T -> (∀ f ∈ G, f.own w2) -> TrN w2 T2) /\ (TrO T2 [some b]) /\ Mem w w1 [some b] [[⟨.slice (bl b) 1 1, 103, 2, 1, [I T2.root, .slice T2.A T2.l.length T2.cp]⟩], G]) := by
 refine aR.n1 Tryz.func111 rfl Tryz.results111 Tryz.ntmps111 rfl ?_
 refine cp 7 [] (b := lI _ w ) (c := λ h0 m0 => ?_)
 refine cp 9 [] (b := lI _ h0 ) (c := λ i0 a0 => ?_)
 refine pt 12 [] 23 (λ g23 => ?_) (λ g23 => ?_)
 have hst := xA (T := T.t) (w := fX) (q := q) (.inl (by simpa using g23))
 refine E1 10 [] (S ([110, 111])) ?_
 have d0 := Mem.gnil (e := 3) a0
 exact ⟨T, [], (by rw [hst]; try rfl), (by rw [hst]), (λ _ h9 _ => h9), hOT, (d0.pk [1, 0])⟩
 have h1 : (eJ p).isSome = true := (by simpa using g23)
 refine cn 4 [] (λ c26 => ?_) (λ c26 => ?_)
 have hst := xA (T := T.t) (w := fX) (p := p) (.inr (by simpa using c26))
 refine E1 5 [] (S ([110, 111])) ?_
 have e0 := Mem.gnil (e := 3) a0
 exact ⟨T, [], (by rw [hst]; try rfl), (by rw [hst]), (λ _ h9 _ => h9), hOT, (e0.pk [1, 0])⟩
 have h2 : (eJ q).isSome = true := (by simpa using c26)
 have hst := (zH (T := T.t) (w := fX) h1 h2).trans (xQ rfl)
 have hsv := sN (a := ((eJ p).getD 0)) (b := ((eJ q).getD 0)) hv
 have hsl := pR hsv
 refine cq 9 [0] (b := aCy T _ _ i0 (hNT.atR a0 hOT) (by exact jK hv) (by exact hv)) (c := ?_)
 rintro _ j0 ⟨k0, l0, rfl, g0⟩
 have b0 := a0.cl 0 g0
 have n0 := (b0.cap 0 rfl).1
 refine cp 0 [] (b := zB _ _ _ j0 (b0.rd 0 rfl) qo (by exact lK hsv) (by exact hsl)) (c := λ o0 c0 => ?_)
 refine E1 3 [] (S (iH (kA (bZ T.t) ((eJ p).getD 0) ((eJ q).getD 0)))) ?_
 have f0 := Mem.gnil (e := 3) c0
 exact ⟨T, [], (by rw [hst]; try rfl), (by rw [hst]), (λ _ h9 _ => h9), hOT, (f0.pk [2, 0])⟩
set_option maxHeartbeats 4000000 in
theorem aNg (b : Nat) (T : bN) (s : Str) (w : World) (hNT : TrN w T) (hOT : TrO T [some b]) (hM : Mem w w [some b] [[⟨.slice (bl b) 1 1, 103, 2, 1, [I T.root, .slice T.A T.l.length T.cp]⟩]]) (hv : aN T.t = true) (hs : s.length <= 1048576) :
  aR Tryz.prog 66 [.pointer (ofs (bl b) 0), S s] w (λ v w1 => ∃ (T2 : bN) (G : List FE), v = S (eZ T.t s).2 /\ (T2.t = (eZ T.t s).1) /\ (∀ w2, TrN w2 T -> (∀ f ∈ G, f.own w2) -> TrN w2 T2) /\ (TrO T2 [some b]) /\ Mem w w1 [some b] [[⟨.slice (bl b) 1 1, 103, 2, 1, [I T2.root, .slice T2.A T2.l.length T2.cp]⟩], G]) := by
 refine aR.n1 Tryz.func66 rfl Tryz.results66 Tryz.ntmps66 rfl ?_
 have hsn : 0 < (cQ 32 s).length := List.length_pos_iff.2 (aDb 32 s)
 have hl16 := fN hv
 rw [cP] at hl16
 have hh3 := (eF hv).1
 have hi1 := cL (n := ((T.l.length : Nat) : Int)) t1 t1
 have hi2 := cL (n := ((bH T.t : Nat) : Int)) t1 t1
 refine cq 7 [] (b := aIg _ (32 : UInt8) w q0) (c := ?_)
 rintro _ B1 ⟨p1, r1, rfl, a1⟩
 have c0 := hM.cl 0 a1
 have y1 := (c0.cap 0 rfl).1
 refine ct1 4 [] (λ (q0 : Bool) => ([(8, Vb q0)] : List (Nat × SV))) (λ q0 => (q0 = decide ((cQ 32 s)[0] = jI /\ (cQ 32 s).length = 3))) (λ q0 => []) [0, 1, 5] [0, 1] ?_ (λ q0 σ H1 hI f0 => ?_)
 have x0 : 0 < (cQ (32 : UInt8) s).length := hsn
 refine ov 2 [] (a := cG x0 (c0.rd 0 rfl) (h0 := t1)) (b := ?_)
 refine ov 0 [] (a := eT x0 (c0.rd 0 rfl)) (b := ?_)
 refine pp 2 [] 13 (λ g13 => ?_) (λ g13 => ?_)
 exact ce1 6 [] (decide ((((cQ (32 : UInt8) s).length : Nat) : Int) = 3)) [0, 1] (h := by exact (by (try dsimp only); first | exact decide_eq_decide.2 ⟨λ h9 => ⟨g13, t1⟩, λ h9 => by omega⟩ | exact (decide_eq_false (λ h9 => g13 h9.1)).symm))
 exact ce1 6 [] false [0, 1] (h := by exact (by (try dsimp only); first | exact decide_eq_decide.2 ⟨λ h9 => ⟨g13, t1⟩, λ h9 => by omega⟩ | exact (decide_eq_false (λ h9 => g13 h9.1)).symm))
 have t0 := hI
 have s1 := (f0.cap 0 rfl).1
 refine cb 0 [] (λ c8 => ?_) (λ c8 => ?_)
 obtain ⟨hw9, hl9⟩ := of_decide_eq_true (t0.symm.trans c8)
 have hst := aIk (T := T.t) (s := s) (w := jI) t1 hw9 rfl
 refine any 1 [] 9 [0] λ j1 d0 => ?_
 have m0 : 1 < (cQ (32 : UInt8) s).length := t1
 refine av [0, 1] [] 2 (a := by exact λ _ hw2 => cG m0 (d0.rd 0 rfl) (h0 := t1)) (b := ?_)
 refine av [] [] 3 (a := by exact λ _ hw2 => eT m0 (hw2.rd 0 rfl)) (b := ?_)
 have n0 : 2 < (cQ (32 : UInt8) s).length := t1
 refine av [4] [] 5 (a := by exact λ _ hw2 => cG n0 (d0.rd 0 rfl) (h0 := t1)) (b := ?_)
 refine av [] [] 6 (a := by exact λ _ hw2 => eT n0 (hw2.rd 0 rfl)) (b := ?_)
 refine aO [] [] 7 ?_
 have i0 := d0.pk [1, 0]
 refine cq 0 [] (b := dput_fn b T _ _ j1 (hNT.atR i0 hOT) hOT (i0.fp [0] rfl rfl) (by exact hv)) (c := ?_)
 rintro _ C1 ⟨F0, B0, rfl, f1, J0, W0, b1⟩
 have P0 := i0.cl 1 b1
 refine os 0 [] [2] ?_
 refine an [8] [] ?_
 refine E1 1 [] (S (uL T.t jI ((cQ (32 : UInt8) s)[1]'m0) ((cQ (32 : UInt8) s)[2]'n0)).2) ?_
 exact ⟨F0, B0, (by rw [hst]), (by rw [hst]; exact f1), J0, W0, (P0.pk [0, 1])⟩
 have hn1 := of_decide_eq_false (t0.symm.trans c8)
 refine ct1 0 [] (λ (q1 : Bool) => ([(26, Vb q1)] : List (Nat × SV))) (λ q1 => (q1 = decide ((cQ 32 s)[0] = fT /\ (cQ 32 s).length = 2))) (λ q1 => []) [0, 1, 5] [0, 1] ?_ (λ q1 σ l1 hI a0 => ?_)
 have y0 : 0 < (cQ (32 : UInt8) s).length := hsn
 refine ov 2 [] (a := cG y0 (f0.rd 0 rfl) (h0 := t1)) (b := ?_)
 refine ov 0 [] (a := eT y0 (f0.rd 0 rfl)) (b := ?_)
 refine pp 2 [] 31 (λ g31 => ?_) (λ g31 => ?_)
 exact ce1 6 [] (decide ((((cQ (32 : UInt8) s).length : Nat) : Int) = 2)) [0, 1] (h := by exact (by (try dsimp only); first | exact decide_eq_decide.2 ⟨λ h9 => ⟨g31, t1⟩, λ h9 => by omega⟩ | exact (decide_eq_false (λ h9 => g31 h9.1)).symm))
 exact ce1 6 [] false [0, 1] (h := by exact (by (try dsimp only); first | exact decide_eq_decide.2 ⟨λ h9 => ⟨g31, t1⟩, λ h9 => by omega⟩ | exact (decide_eq_false (λ h9 => g31 h9.1)).symm))
 have u0 := hI
 have u1 := (a0.cap 0 rfl).1
 refine cb 0 [] (λ c26 => ?_) (λ c26 => ?_)
 obtain ⟨hw9, hl9⟩ := of_decide_eq_true (u0.symm.trans c26)
 have hst := aIj (T := T.t) (s := s) (w := fT) t1 hw9 rfl
 have o0 : 1 < (cQ (32 : UInt8) s).length := t1
 refine ov 4 [] (a := cG o0 (a0.rd 0 rfl) (h0 := t1)) (b := ?_)
 refine ov 0 [] (a := eT o0 (a0.rd 0 rfl)) (b := ?_)
 have j0 := a0.pk [1, 0]
 refine cq 0 [] (b := aNf b T _ l1 (hNT.atR j0 hOT) hOT (j0.fp [0] rfl rfl) (by exact hv)) (c := ?_)
 rintro _ D1 ⟨G0, C0, rfl, g1, K0, X0, c1⟩
 have Q0 := j0.cl 1 c1
 refine E1 3 [] (S (tZ T.t fT ((cQ (32 : UInt8) s)[1]'o0)).2) ?_
 exact ⟨G0, C0, (by rw [hst]), (by rw [hst]; exact g1), K0, X0, (Q0.pk [0, 1])⟩
 have hn2 := of_decide_eq_false (u0.symm.trans c26)
 refine ct1 0 [] (λ (q2 : Bool) => ([(41, Vb q2)] : List (Nat × SV))) (λ q2 => (q2 = decide ((cQ 32 s)[0] = jX /\ (cQ 32 s).length = 2))) (λ q2 => []) [0, 1, 5] [0, 1] ?_ (λ q2 σ m1 hI b0 => ?_)
 have z0 : 0 < (cQ (32 : UInt8) s).length := hsn
 refine ov 2 [] (a := cG z0 (a0.rd 0 rfl) (h0 := t1)) (b := ?_)
 refine ov 0 [] (a := eT z0 (a0.rd 0 rfl)) (b := ?_)
 refine pp 2 [] 46 (λ g46 => ?_) (λ g46 => ?_)
 exact ce1 6 [] (decide ((((cQ (32 : UInt8) s).length : Nat) : Int) = 2)) [0, 1] (h := by exact (by (try dsimp only); first | exact decide_eq_decide.2 ⟨λ h9 => ⟨g46, t1⟩, λ h9 => by omega⟩ | exact (decide_eq_false (λ h9 => g46 h9.1)).symm))
 exact ce1 6 [] false [0, 1] (h := by exact (by (try dsimp only); first | exact decide_eq_decide.2 ⟨λ h9 => ⟨g46, t1⟩, λ h9 => by omega⟩ | exact (decide_eq_false (λ h9 => g46 h9.1)).symm))
 have v0 := hI
 have v1 := (b0.cap 0 rfl).1
 refine cb 0 [] (λ c41 => ?_) (λ c41 => ?_)
 obtain ⟨hw9, hl9⟩ := of_decide_eq_true (v0.symm.trans c41)
 have hst := aIj (T := T.t) (s := s) (w := jX) t1 hw9 rfl
 have p0 : 1 < (cQ (32 : UInt8) s).length := t1
 refine ov 4 [] (a := cG p0 (b0.rd 0 rfl) (h0 := t1)) (b := ?_)
 refine ov 0 [] (a := eT p0 (b0.rd 0 rfl)) (b := ?_)
 have k0 := b0.pk [1, 0]
 refine cq 0 [] (b := dget_fn b T _ m1 (hNT.atR k0 hOT) hOT (k0.fp [0] rfl rfl) (by exact hv)) (c := ?_)
 rintro _ F1 ⟨H0, D0, rfl, h1, L0, Y0, d1⟩
 have R0 := k0.cl 1 d1
 refine E1 3 [] (S (tZ T.t jX ((cQ (32 : UInt8) s)[1]'p0)).2) ?_
 exact ⟨H0, D0, (by rw [hst]), (by rw [hst]; exact h1), L0, Y0, (R0.pk [0, 1])⟩
 have hn3 := of_decide_eq_false (v0.symm.trans c41)
 refine ct1 0 [] (λ (q3 : Bool) => ([(56, Vb q3)] : List (Nat × SV))) (λ q3 => (q3 = decide ((cQ 32 s)[0] = fX /\ (cQ 32 s).length = 3))) (λ q3 => []) [0, 1, 5] [0, 1] ?_ (λ q3 σ o1 hI g0 => ?_)
 have A0 : 0 < (cQ (32 : UInt8) s).length := hsn
 refine ov 2 [] (a := cG A0 (b0.rd 0 rfl) (h0 := t1)) (b := ?_)
 refine ov 0 [] (a := eT A0 (b0.rd 0 rfl)) (b := ?_)
 refine pp 2 [] 61 (λ g61 => ?_) (λ g61 => ?_)
 exact ce1 6 [] (decide ((((cQ (32 : UInt8) s).length : Nat) : Int) = 3)) [0, 1] (h := by exact (by (try dsimp only); first | exact decide_eq_decide.2 ⟨λ h9 => ⟨g61, t1⟩, λ h9 => by omega⟩ | exact (decide_eq_false (λ h9 => g61 h9.1)).symm))
 exact ce1 6 [] false [0, 1] (h := by exact (by (try dsimp only); first | exact decide_eq_decide.2 ⟨λ h9 => ⟨g61, t1⟩, λ h9 => by omega⟩ | exact (decide_eq_false (λ h9 => g61 h9.1)).symm))
 have w0 := hI
 have x1 := (g0.cap 0 rfl).1
 refine cb 0 [] (λ c56 => ?_) (λ c56 => ?_)
 obtain ⟨hw9, hl9⟩ := of_decide_eq_true (w0.symm.trans c56)
 have hst := aIk (T := T.t) (s := s) (w := fX) t1 hw9 rfl
 refine any 1 [] 9 [0] λ k1 e0 => ?_
 have r0 : 1 < (cQ (32 : UInt8) s).length := t1
 refine av [0, 1] [] 2 (a := by exact λ _ hw2 => cG r0 (e0.rd 0 rfl) (h0 := t1)) (b := ?_)
 refine av [] [] 3 (a := by exact λ _ hw2 => eT r0 (hw2.rd 0 rfl)) (b := ?_)
 have s0 : 2 < (cQ (32 : UInt8) s).length := t1
 refine av [4] [] 5 (a := by exact λ _ hw2 => cG s0 (e0.rd 0 rfl) (h0 := t1)) (b := ?_)
 refine av [] [] 6 (a := by exact λ _ hw2 => eT s0 (hw2.rd 0 rfl)) (b := ?_)
 refine aO [] [] 7 ?_
 have l0 := e0.pk [1, 0]
 refine cq 0 [] (b := aNk b T _ _ k1 (hNT.atR l0 hOT) hOT (l0.fp [0] rfl rfl) (by exact hv)) (c := ?_)
 rintro _ G1 ⟨I0, E0, rfl, i1, M0, Z0, e1⟩
 have S0 := l0.cl 1 e1
 refine os 0 [] [2] ?_
 refine an [8] [] ?_
 refine E1 1 [] (S (uL T.t fX ((cQ (32 : UInt8) s)[1]'r0) ((cQ (32 : UInt8) s)[2]'s0)).2) ?_
 exact ⟨I0, E0, (by rw [hst]), (by rw [hst]; exact i1), M0, Z0, (S0.pk [0, 1])⟩
 have hn4 := of_decide_eq_false (w0.symm.trans c56)
 refine cd 6 [] (λ c74 => ?_) (λ c74 => ?_)
 have hst : eZ T.t s = _ := (congrArg (eZ T.t) c74).trans st_tree
 refine cp 6 [1] (b := zC T o1 (hNT.atR g0 hOT) (by exact jK hv)) (c := λ z1 N0 => ?_)
 refine E1 3 [] (S (frX T.t)) ?_
 have T0 := Mem.gnil (e := 3) N0
 exact ⟨T, [], (by rw [hst]; try rfl), (by rw [hst]), (λ _ h9 _ => h9), hOT, (T0.pk [2, 0])⟩
 refine cd 6 [] (λ c82 => ?_) (λ c82 => ?_)
 have hst : eZ T.t s = _ := (congrArg (eZ T.t) c82).trans aPf
 refine dr 1 [] ?_
 refine qc 6 [1] (X := S (bS ((T.l.length : Nat) : Int))) (b := by exact λ w2 hw2 => (gK ((T.l.length : Nat) : Int) w2 qo).mono λ _ _ h => ⟨h.1, Mem.call0 (M1 := []) hw2 h.2⟩) (c := ?_)
 refine qv 0 [] (a := by exact λ _ hw2 => iF (h := by simp only [aG, bA]; omega)) (b := ?_)
 refine qc 4 [1] (X := I ((bH T.t : Nat) : Int)) (b := by exact λ w2 hw2 => (qD T w2 (hNT.atR hw2 hOT) (by exact jK hv)).mono λ _ _ h => ⟨h.1, Mem.call0 (M1 := []) hw2 h.2⟩) (c := ?_)
 refine qc 0 [] (X := S (bS ((bH T.t : Nat) : Int))) (b := by exact λ w2 hw2 => (gK ((bH T.t : Nat) : Int) w2 qo).mono λ _ _ h => ⟨h.1, Mem.call0 (M1 := []) hw2 h.2⟩) (c := ?_)
 refine qv 0 [] (a := by exact λ _ hw2 => iF (h := t21)) (b := ?_)
 refine qn 1 [] λ A1 O0 => ?_
 refine E1 1 [] (S ((bS ((T.l.length : Nat) : Int) ++ [32]) ++ bS ((bH T.t : Nat) : Int))) ?_
 have U0 := Mem.gnil (e := 3) O0
 exact ⟨T, [], (by rw [hst]; simp [cP]), (by rw [hst]), (λ _ h9 _ => h9), hOT, (U0.pk [2, 0])⟩
 have hst := st_else (T := T.t) hsn hn1 hn2 hn3 hn4 c74 c82
 refine E1 6 [] (S ([119, 104, 97, 116])) ?_
 have V0 := Mem.gnil (e := 3) g0
 exact ⟨T, [], (by rw [hst]; try rfl), (by rw [hst]), (λ _ h9 _ => h9), hOT, (V0.pk [2, 0])⟩
end Go.Proofs.YtemejgglbhjodaaGreatDoor
namespace Go.Proofs.YtemejgglbhjodaaGreatDoor
open Go.Px
set_option maxHeartbeats 4000000 in
theorem fY (ZA : Option Addr) (zc : Nat) (l : List Str) (w : World) (hZA : Rd w ZA (l.map S)) (hl : l.length <= 1048576) (hp : ∀ x ∈ l, x.length <= 1048576) (hcz : l.length <= zc) (hlw : LW w) :
  aR Tryz.prog 23 [.slice ZA l.length zc] w (λ v w1 => v = S (eR l) /\ Mem w w1 [] []) := by
 have hM : Mem w w [] [] := Mem.refl
 refine aR.n1 Tryz.func23 rfl Tryz.results23 Tryz.ntmps23 rfl ?_
 have htl : (l.take (min l.length 20)).length = min l.length 20 := by rw [aB]; omega
 have hmn : min l.length 20 <= 20 := Nat.min_le_right _ _
 have hmn2 : min l.length 20 <= l.length := Nat.min_le_left _ _
 refine go 6 [] ?_
 refine O.mmake (k := 1) (sz := 3) (xs := (List.replicate 1 (⟨⟨none, 0, []⟩, ⟨none, 0, []⟩, ⟨none, 0, []⟩⟩ : PgL)).flatMap encPg) hM rfl Tryz.underlying23 tJ rfl rfl rfl rfl t1 t1 (uN rfl) (λ e1 a0 W0 R0 => ?_)
 refine ov 1 [] (s := Va [.i 0, .sl (bl a0) 1 1]) (a := by exact cv (Ru.buildN (cs := [I 0, .slice (bl a0) 1 1]) mf90 rfl (by kernel_rfl)) rfl) (b := ?_)
 refine Al 0 [] λ f1 d0 X0 S0 => ?_
 refine Sb 0 [] 0 λ g1 T0 => ?_
 refine Al 3 [] λ N0 b0 Y0 x0 => ?_
 refine ov 7 [] (s := Vi (((min l.length 20) : Nat) : Int)) (a := by exact cv (Ru.congr (Ru.bmin rfl rfl) (I_congr min20)) rfl) (b := ?_)
 refine ov 0 [] (s := Vl ZA (l.take (min l.length 20)).length zc) (a := by exact cv (Ru.congr (Ru.lsliceTo (h := (min l.length 20)) Tryz.underlying47 el9 rfl rfl t1 t1) (sl_congr t6)) rfl) (b := ?_)
 have f0 : (List.replicate 1 (⟨⟨none, 0, []⟩, ⟨none, 0, []⟩, ⟨none, 0, []⟩⟩ : PgL) : List PgL) = [pB] := rfl
 have l0 : Mem w N0 [] [[⟨.slice (bl b0) 1 1, 93, 2, 1, [(.pointer none), .slice none 0 0]⟩], [⟨.slice (bl d0) 1 1, 90, 2, 1, [I 0, .slice (bl a0) 1 1]⟩], [⟨.slice (bl a0) 1 1, 42, 3, 1, ([pB]).flatMap encPg⟩]] := x0.relen 2 (n' := 1) (xs' := ([pB]).flatMap encPg) rfl (by first | rfl | exact congrArg List.length f0 | (have hqq := congrArg List.length f0; first | omega | (simp at hqq ⊢; omega)) | (simp; done) | (simp; omega)) (congrArg (λ z_ => z_.flatMap encPg) f0) rfl
 have hg0 : ∀ w2, (∀ f ∈ ([⟨.slice (bl a0) 1 1, 42, 3, 1, ([pB]).flatMap encPg⟩] : List FE), f.own w2) -> TrN w2 ⟨0, bl a0, 1, [pB]⟩ := λ w2 h9 => one_trn h9
 have ho0 : TrO ⟨0, bl a0, 1, [pB]⟩ [some d0] := one_off l0 1 2 t19 rfl rfl
 have B0 := Mem.addNil (e := 5) (sz := 1) l0
 have L0 : ([] : List UInt8) = jQ mX (l.take 0) := (by simp [jQ])
 have C0 := B0.reM 0 L0 (f := byteV)
 have U0 := C0.reB 1 1 (show 0 = (jQ mX (l.take 0)).length from (by simp [jQ]))
 refine lp6 4 [] (λ (k : Nat) (Tc : bN) (Gc : List FE) (pv : Value) (A2 : Option Addr) (c2 : Nat) => ([(16, Vi ((k : Nat) : Int))] : List (Nat × SV))) (λ k Tc Gc pv A2 c2 => (k <= min l.length 20) /\ (pv = .pointer none \/ pv = .pointer (ofs (bl b0) 0)) /\ (Tc.t = ssT mX (l.take k)) /\ (∀ w2, (∀ f ∈ Gc, f.own w2) -> TrN w2 Tc) /\ (TrO Tc [some d0])) (λ k Tc Gc pv A2 c2 => [oB A2 c2 (jQ mX (l.take k)), [⟨.slice (bl b0) 1 1, 93, 2, 1, [pv, .slice A2 (jQ mX (l.take k)).length c2]⟩], [⟨.slice (bl d0) 1 1, 90, 2, 1, [I Tc.root, .slice Tc.A Tc.l.length Tc.cp]⟩], Gc]) (λ k Tc Gc pv A2 c2 => 20 - k) [3, 4, 14, 15] [0, 1, 2, 3] [] 0 ((⟨0, bl a0, 1, [pB]⟩ : bN) : bN) (([⟨.slice (bl a0) 1 1, 42, 3, 1, ([pB]).flatMap encPg⟩] : List FE) : List FE) ((.pointer none) : Value) none 0 (λ k Tc Gc pv A2 c2 σ o0 hI c0 => ?_) (h0 := ⟨(bI _), (.inl rfl), rfl, hg0, ho0⟩)
 obtain ⟨c1, d1, I0, J0, K0⟩ := hI
 have Z0 := (c0.cap 0 rfl).1
 have hTc := I0
 have hgc := J0
 have hoc := K0
 have hvt := sL (l := l.take k) yS
 have hvc : aN Tc.t = true := by rw [hTc]; exact hvt
 have hrl := uG (l := l.take k) yS
 rw [aB] at hrl
 refine cd 5 [] (λ c17 => ?_) (λ c17 => ?_)
 have hkl : k < l.length := by omega
 have hsl := zE hvc (l[k]'hkl)
 have n0 : k < (l.take (min l.length 20)).length := (by rw [aB]; omega)
 refine ov 5 [] (a := cG n0 (fE (hZA.at c0)) (h0 := t1)) (b := ?_)
 refine ov 0 [] (s := Vs (l[k]'hkl)) (a := by exact cv (Ru.congr (Ru.load1 el9 rfl (ldm (fE (hZA.at c0)) n0)) (congrArg S iJ)) rfl) (b := ?_)
 have e0 := c0.pk [2, 0, 1, 3]
 refine cq 5 [] (b := aHi d0 Tc _ o0 (hgc _ (Mem.gownT e0 3 rfl)) hoc (e0.fp [0] rfl rfl) (by exact hvc) (hlw.at e0) (LwO.old hlw e0 0 rfl) (by exact hp _ (aC hkl))) (c := ?_)
 rintro _ O0 ⟨s0, r0, rfl, M0, w0, E0, F0⟩
 have y0 := e0.cl 1 F0
 have j0 := y0.pk [3, 2, 0, 1, 4]
 refine cq 0 [] (b := hY b0 A2 c2 (jQ mX (l.take k)) pv _ O0 (j0.fp [0, 1] rfl rfl) (by first | exact .inl rfl | exact .inr rfl | assumption) qo) (c := ?_)
 rintro _ P0 ⟨p0, t0, rfl, G0⟩
 have g0 := j0.cl 2 G0
 have a1 := (g0.cap 1 rfl).1
 have A0 := Mem.mrg2 (g0.pk [3, 4, 0, 1, 2])
 have hgn := aEs hgc w0
 have k0 := A0.pk [1, 2, 0, 3]
 refine cq 2 [] (b := iL b0 p0 t0 ((jQ mX (l.take k)) ++ (eZ Tc.t (l[k]'hkl)).2) (.pointer (ofs (bl b0) 0)) (10 : UInt8) P0 (k0.fp [0, 1] rfl rfl) (by first | exact .inl rfl | exact .inr rfl | assumption) (by simp only [aA]; omega)) (c := ?_)
 rintro _ h1 ⟨q0, u0, rfl, H0⟩
 have i0 := k0.cl 2 H0
 have b1 := (i0.cap 1 rfl).1
 refine ov 2 [] (a := bL (k + 1)) (b := ?_)
 have m0 : (((jQ mX (l.take k)) ++ (eZ Tc.t (l[k]'hkl)).2) ++ [(10 : UInt8)] : List UInt8) = jQ mX (l.take (k + 1)) := (by rw [hTc]; exact aBb hkl)
 have D0 := i0.reM 1 m0
 have V0 := D0.reB 0 1 (show (((jQ mX (l.take k)) ++ (eZ Tc.t (l[k]'hkl)).2) ++ [(10 : UInt8)]).length = (jQ mX (l.take (k + 1))).length from congrArg List.length m0)
 exact le6 2 [] (k + 1) s0 (r0 ++ Gc) ((.pointer (ofs (bl b0) 0)) : Value) q0 u0 [1, 0, 3, 2] (h := by exact ⟨t7, (.inr rfl), (by (try dsimp only); rw [M0, hTc]; exact (aBc hkl).symm), hgn, E0⟩)
 refine go 3 [] ?_
 refine O.callg [.pointer (ofs (bl b0) 0)] rfl en64 rfl rfl (uW (l := jQ mX (l.take k)) o0 c0.size (c0.builder 1 0 rfl rfl (by first | exact .inl rfl | exact .inr rfl | assumption))) ?_
 rintro _ Q0 ⟨rfl, v0⟩
 have z0 : Mem w Q0 [] [] := vI c0 v0
 refine E1 3 [] (S (jQ mX (l.take k))) ?_
 exact ⟨(congrArg S (aId t1)), (Mem.none z0)⟩
theorem jZ (ZA : Option Addr) (zc : Nat) (l : List Str) (w : World) (hZA : Rd w ZA (l.map S)) (hl : l.length <= 1048576) (hp : ∀ x ∈ l, x.length <= 1048576) :
  aR Tryz.prog 24 [.slice ZA l.length zc] w (λ v w1 => v = S (eR l) /\ Mem w w1 [] []) := by
 have hM : Mem w w [] [] := Mem.refl
 refine aR.n1 Tryz.func24 rfl Tryz.results24 Tryz.ntmps24 rfl ?_
 have hmn : min l.length 20 <= 20 := Nat.min_le_right _ _
 have hmn2 : min l.length 20 <= l.length := Nat.min_le_left _ _
 have hmn3 : min l.length 20 = l.length \/ min l.length 20 = 20 := by omega
 refine cq 6 [] (b := kJ none 0 [] w Rd.nil q0 q0) (c := ?_)
 rintro _ N0 ⟨g0, k0, i0, l0, j0, m0, rfl, x0⟩
 have e0 := hM.cl 0 x0
 have J0 := (e0.cap 0 rfl).1
 have K0 := (e0.cap 1 rfl).1
 have L0 := (e0.cap 2 rfl).1
 let a0 : PgL := (⟨⟨g0, k0, bG []⟩, ⟨i0, l0, ([] : List Int)⟩, ⟨j0, m0, [].map PairT.val⟩⟩ : PgL)
 refine Lt 0 [] (([a0]).flatMap encPg) (λ O0 b0 H0 E0 => ?_)
 refine ov 1 [] (s := Va [.i 0, .sl (bl b0) 1 1]) (a := by exact cv (Ru.buildN (cs := [I 0, .slice (bl b0) 1 1]) mf103 rfl (by kernel_rfl)) rfl) (b := ?_)
 refine Bx 0 [] λ P0 d0 I0 s0 => ?_
 have u0 := Mem.gnil (e := 3) s0
 have v0 := Mem.gapp (k := ⟨g0, k0, bG []⟩) (c := ⟨i0, l0, ([] : List Int)⟩) (v := ⟨j0, m0, [].map PairT.val⟩) (u0.pk [0, 3, 4, 5, 1, 2])
 have n0 := v0.reK 0 (show (([] : List PgL) ++ [a0] : List PgL) = [a0] from rfl)
 have hg0 : ∀ w2, (∀ f ∈ ([⟨.slice (bl b0) 1 1, 42, 3, 1, ([a0]).flatMap encPg⟩] ++ ([a0]).flatMap (pgF 3) : List FE), f.own w2) -> TrN w2 (⟨0, bl b0, 1, [a0]⟩ : bN) := λ w2 h9 => TrN.ofown h9
 have ho0 : TrO (⟨0, bl b0, 1, [a0]⟩ : bN) [some d0] := TrO.held n0 1 2 0 t19 t19 rfl rfl rfl
 have F0 := Mem.mrg2 (n0.pk [2, 0, 1])
 refine lp3 12 [] (λ (k : Nat) (Tc : bN) (Gc : List FE) => ([(4, Vs (jQ mX (l.take k))), (5, Vi ((k : Nat) : Int))] : List (Nat × SV))) (λ k Tc Gc => (k <= min l.length 20) /\ (Tc.t = ssT mX (l.take k)) /\ (∀ w2, (∀ f ∈ Gc, f.own w2) -> TrN w2 Tc) /\ (TrO Tc [some d0])) (λ k Tc Gc => [Gc, [⟨.slice (bl d0) 1 1, 103, 2, 1, [I Tc.root, .slice Tc.A Tc.l.length Tc.cp]⟩]]) (λ k Tc Gc => 20 - k) [0, 3] [0, 1] [] 0 ((⟨0, bl b0, 1, [a0]⟩ : bN) : bN) (([⟨.slice (bl b0) 1 1, 42, 3, 1, ([a0]).flatMap encPg⟩] ++ ([a0]).flatMap (pgF 3) : List FE) : List FE) (λ k Tc Gc σ D0 hI c0 => ?_) (hL := by exact (Has.cons rfl (Has.cons (I_congr t10) Has.nil))) (h0 := ⟨(bI _), rfl, hg0, ho0⟩)
 obtain ⟨M0, z0, A0, B0⟩ := hI
 have hTc := z0
 have hgc := A0
 have hoc := B0
 have hvt := sL (l := l.take k) yS
 have hvc : aN Tc.t = true := by rw [hTc]; exact hvt
 have hrl := uG (l := l.take k) yS
 rw [aB] at hrl
 refine pp 8 [] 15 (λ g15 => ?_) (λ g15 => ?_)
 refine cd 4 [] (λ c18 => ?_) (λ c18 => ?_)
 have hkl : k < l.length := by omega
 have hsl := zE hvc (l[k]'hkl)
 refine ov 8 [] (a := cG hkl (hZA.at c0) (h0 := t1)) (b := ?_)
 refine ov 0 [] (a := eT hkl (hZA.at c0)) (b := ?_)
 have f0 := c0.pk [1, 0]
 refine cq 0 [] (b := aNg d0 Tc _ D0 (hgc _ (Mem.gownT f0 1 rfl)) hoc (f0.fp [0] rfl rfl) (by exact hvc) (by exact hp _ (aC hkl))) (c := ?_)
 rintro _ Q0 ⟨p0, o0, rfl, C0, r0, w0, y0⟩
 have t0 := f0.cl 1 y0
 have G0 := Mem.mrg2 (t0.pk [1, 2, 0])
 have hgn := aEs hgc r0
 refine ov 0 [] (a := iF) (b := ?_)
 refine ov 0 [] (a := iF (h := t21)) (b := ?_)
 refine ov 4 [] (a := bL (k + 1)) (b := ?_)
 exact le3 2 [] (k + 1) p0 (o0 ++ Gc) [0, 1] (hL := by exact (Has.cons (congrArg S (by rw [hTc]; exact aBb hkl)) (Has.cons (I_congr t10) Has.nil))) (h := by exact ⟨t7, (by (try dsimp only); rw [C0, hTc]; exact (aBc hkl).symm), hgn, w0⟩)
 refine E1 7 [] (S (jQ mX (l.take k))) ?_
 exact ⟨(congrArg S (aId t1)), (Mem.none c0)⟩
 refine E1 12 [] (S (jQ mX (l.take k))) ?_
 exact ⟨(congrArg S (aId t1)), (Mem.none c0)⟩
end Go.Proofs.YtemejgglbhjodaaGreatDoor
