/- Own layer, part 10: plain theorems on the walk of this program's functions and on what they compute; no conditions. -/
import Derived.Test.YtemejgglbhjodaaGreatDoorP8
set_option linter.unusedVariables false
set_option linter.unusedSimpArgs false
namespace Go.Proofs.YtemejgglbhjodaaGreatDoor
open Go.Px
set_option maxHeartbeats 2000000 in
theorem jR (A : Option Addr) (c : Nat) (l : List UInt8) (w : World) (hA : Rd w A (l.map byteV)) (hl : l.length <= 1048576) (hc : l.length <= c) :
  aR Tryz.prog 22 [.slice A l.length c] w (λ v w1 => ∃ (L1 : List Str) (A1 : Option Addr) (c1 : Nat), v = .slice A1 L1.length c1 /\ (L1.length <= 18) /\ (∀ x ∈ L1, x.length <= 110) /\ Mem w w1 [] [oS A1 c1 L1]) := by
 have hM : Mem w w [] [] := Mem.refl
 refine aR.n1 Tryz.func22 rfl Tryz.results22 Tryz.ntmps22 rfl ?_
 refine cq 7 [] (b := aCl _ _ _ w (hA.at hM) q0 q0) (c := ?_)
 rintro _ z2 ⟨a0, c0, rfl, h1, i1, a1⟩
 have G1 := hM.cl 0 a1
 have hrA : Rd w A (List.map byteV c0) := by rcases h1 with h | h <;> rw [h]; exact hA; exact fE hA
 have hrl := i1
 refine Lt 4 [] (([]).map S) (λ B2 E0 T1 H1 => ?_)
 refine Lt 6 [] (([10, 14, 6, 18, 3, 0]).map I) (λ r1 w0 U1 P0 => ?_)
 have j0 := P0.pk [2, 0, 1]
 refine cq 0 [] (vs := [.pointer (ofs (bl a0) 0), .slice (bl w0) ([10, 14, 6, 18, 3, 0]).length 6]) (hvs := (by first | rfl | (rw [show ([10, 14, 6, 18, 3, 0]).length = 6 from t6]; rfl))) (b := one_fn a0 A c c0 0 (bl w0) 6 [10, 14, 6, 18, 3, 0] r1 (hrA.at j0) (Mem.ng_old j0 hrA 0 rfl) hrl (j0.rd 1 rfl) (Off.of_ng (j0.ng 1 0 t19 rfl rfl)) (j0.fp [0] rfl rfl) q0 t11 t11) (c := ?_)
 rintro _ C2 ⟨t0, rfl, g1, b1⟩
 have Q0 := j0.cl 1 b1
 have hkn : 0 <= t0 /\ t0 <= 18 := (by decide : ∀ k ∈ ([10, 14, 6, 18, 3, 0] : List Int), 0 <= k /\ k <= 18) _ g1
 have j1 : ([] : List Str) = ([] : List Str) := t2
 have M1 := Q0.reM 2 j1 (f := S)
 refine lp5 3 [] (λ (n : Nat) (L : List Str) (q : Nat) (A2 : Option Addr) (c2 : Nat) => ([(4, Vl A2 L.length c2), (5, Vi ((n : Nat) : Int))] : List (Nat × SV))) (λ n L q A2 c2 => (n + L.length <= 18) /\ (∀ x ∈ L, x.length <= 100) /\ (q + 10 * n <= 200)) (λ n L q A2 c2 => [[⟨.slice (bl a0) 1 1, 131, 2, 1, [.slice A c0.length c, I ((q : Nat) : Int)]⟩], oS A2 c2 L]) (λ n L q A2 c2 => n) [3] [0, 2] [1] t0.toNat (([] : List Str) : List Str) ((0 + 1) : Nat) (bl E0) 0 (λ n L q A2 c2 σ A0 hI b0 => ?_) (h0 := ⟨(by (try dsimp only); first | omega | (simp; omega)), t15, t7⟩)
 obtain ⟨f2, d0, g2⟩ := hI
 have b2 := (b0.cap 1 rfl).1
 have e2 := (b0.cap 2 rfl).1
 refine cd 6 [] (λ c15 => ?_) (λ c15 => ?_)
 refine cq 6 [] (b := mY a0 A c c0 q _ A0 (hrA.at b0) (Mem.ng_old b0 hrA 0 rfl) hrl (b0.fp [0] rfl rfl) q0) (c := ?_)
 rintro _ s1 ⟨e0, rfl, k2, d1⟩
 have I1 := b0.cl 1 d1
 refine cp 0 [] (b := gK _ s1 (by constructor <;> omega)) (c := λ u1 m0 => ?_)
 have hi6 := cL (n := e0) t1 t1
 refine cq 5 [] (b := mY a0 A c c0 (q + 1) _ u1 (hrA.at m0) (Mem.ng_old m0 hrA 0 rfl) hrl (m0.fp [0] rfl rfl) q0) (c := ?_)
 rintro _ D2 ⟨u0, rfl, l2, e1⟩
 have J1 := m0.cl 1 e1
 refine ct1 2 [] (λ (q9 : Bool) => ([(29, Vb q9)] : List (Nat × SV))) (λ q9 => True) (λ q9 => []) [3, 4, 5, 6, 22] [0, 1, 2] ?_ (λ q9 σ x1 hI g0 => ?_)
 refine cd 5 [] (λ c29 => ?_) (λ c29 => ?_)
 exact ce1 1 [] (decide (u0 = 0)) [0, 1, 2] (h := t12)
 refine cd 5 [] (λ c29 => ?_) (λ c29 => ?_)
 exact ce1 1 [] (decide (u0 = 1)) [0, 1, 2] (h := t12)
 exact ce1 4 [] (decide (u0 = 2)) [0, 1, 2] (h := t12)
 have a2 := (g0.cap 1 rfl).1
 have d2 := (g0.cap 2 rfl).1
 refine cb 0 [] (λ c29 => ?_) (λ c29 => ?_)
 refine ov 3 [] (a := iF (h := t5)) (b := ?_)
 refine ov 0 [] (a := iF (h := t5)) (b := ?_)
 refine cq 1 [] (b := mY a0 A c c0 ((q + 1) + 1) _ x1 (hrA.at g0) (Mem.ng_old g0 hrA 0 rfl) hrl (g0.fp [0] rfl rfl) q0) (c := ?_)
 rintro _ m1 ⟨n0, rfl, h2, V0⟩
 have C1 := g0.cl 1 V0
 refine cp 0 [] (b := gK _ m1 (by constructor <;> omega)) (c := λ q2 D1 => ?_)
 have hi12 := cL (n := n0) t1 t1
 refine ov 0 [] (a := iF (h := t5)) (b := ?_)
 refine Lt 0 [] (([((([112, 117, 116, 32] ++ bS e0) ++ [32]) ++ bS n0)]).map S) (λ r2 y1 Q1 I0 => ?_)
 refine aM 0 [] 2 (I0.rd 0 rfl) (λ s2 B0 F0 X1 J0 => ?_) (hn := t5) (hb := t5)
 refine ov 4 [] (a := eV) (b := ?_)
 have N1 := J0.rM 2 ((L ++ ([((([112, 117, 116, 32] ++ bS e0) ++ [32]) ++ bS n0)])) : List Str) (e := t2)
 exact le5 2 [] (n - 1) (L ++ ([((([112, 117, 116, 32] ++ bS e0) ++ [32]) ++ bS n0)])) (((q + 1) + 1) + 1) B0 F0 [1, 2, 3] (h := by exact ⟨t20, (λ x hx => by rcases bE.1 hx with hx | hx; exact d0 x hx; rw [aU.1 hx]; (try simp only [aA, aG, bA]); omega), t7⟩)
 refine cd 5 [] (λ c43 => ?_) (λ c43 => ?_)
 refine Lt 3 [] (([[100, 114, 111, 112, 32], [103, 101, 116, 32]]).map S) (λ o1 v0 R1 K0 => ?_)
 have i0 := K0.pk [1, 0, 2, 3]
 refine cq 0 [] (vs := [.pointer (ofs (bl a0) 0), .slice (bl v0) ([[100, 114, 111, 112, 32], [103, 101, 116, 32]]).length 2]) (hvs := (by first | rfl | (rw [show ([[100, 114, 111, 112, 32], [103, 101, 116, 32]]).length = 2 from t6]; rfl))) (b := aJq a0 A c c0 ((q + 1) + 1) (bl v0) 2 ([[100, 114, 111, 112, 32], [103, 101, 116, 32]]) o1 (hrA.at i0) (Mem.ng_old i0 hrA 0 rfl) hrl (i0.rd 1 rfl) (Off.of_ng (i0.ng 1 0 t19 rfl rfl)) (i0.fp [0] rfl rfl) q0 t11 t11) (c := ?_)
 rintro _ u2 ⟨p0, rfl, k1, W0⟩
 have F1 := i0.cl 1 W0
 have hsn : p0.length <= 5 := (by decide : ∀ s ∈ ([[100, 114, 111, 112, 32], [103, 101, 116, 32]] : List Str), s.length <= 5) _ k1
 refine ov 1 [] (a := iF (h := t5)) (b := ?_)
 refine Lt 0 [] (([(p0 ++ bS e0)]).map S) (λ v2 z1 S1 L0 => ?_)
 refine aM 0 [] 3 (L0.rd 0 rfl) (λ w2 C0 G0 Y1 M0 => ?_) (hn := t5) (hb := t5)
 refine ov 4 [] (a := eV) (b := ?_)
 have O1 := M0.rM 3 ((L ++ ([(p0 ++ bS e0)])) : List Str) (e := t2)
 exact le5 2 [] (n - 1) (L ++ ([(p0 ++ bS e0)])) (((q + 1) + 1) + 1) C0 G0 [1, 3, 4] (h := by exact ⟨t20, (λ x hx => by rcases bE.1 hx with hx | hx; exact d0 x hx; rw [aU.1 hx]; (try simp only [aA, aG, bA]); omega), t7⟩)
 refine Lt 3 [] (([[116, 114, 101, 101], [112, 97, 103, 101, 115], [115, 99, 97, 110, 32, 51, 32, 49, 50], [115, 99, 97, 110, 32, 48, 32, 49, 48, 48], [112, 117, 116, 32, 49, 48, 48, 32, 49], [112, 117, 116, 32, 53, 32, 45, 55], [], [104, 101, 108, 112], [103, 101, 116, 32, 120], [100, 114, 111, 112, 32, 57, 57]]).map S) (λ v1 x0 V1 R0 => ?_)
 have k0 := R0.pk [1, 0, 2, 3]
 refine cq 0 [] (vs := [.pointer (ofs (bl a0) 0), .slice (bl x0) ([[116, 114, 101, 101], [112, 97, 103, 101, 115], [115, 99, 97, 110, 32, 51, 32, 49, 50], [115, 99, 97, 110, 32, 48, 32, 49, 48, 48], [112, 117, 116, 32, 49, 48, 48, 32, 49], [112, 117, 116, 32, 53, 32, 45, 55], [], [104, 101, 108, 112], [103, 101, 116, 32, 120], [100, 114, 111, 112, 32, 57, 57]]).length 10]) (hvs := (by first | rfl | (rw [show ([[116, 114, 101, 101], [112, 97, 103, 101, 115], [115, 99, 97, 110, 32, 51, 32, 49, 50], [115, 99, 97, 110, 32, 48, 32, 49, 48, 48], [112, 117, 116, 32, 49, 48, 48, 32, 49], [112, 117, 116, 32, 53, 32, 45, 55], [], [104, 101, 108, 112], [103, 101, 116, 32, 120], [100, 114, 111, 112, 32, 57, 57]]).length = 10 from t6]; rfl))) (b := aJq a0 A c c0 ((q + 1) + 1) (bl x0) 10 ([[116, 114, 101, 101], [112, 97, 103, 101, 115], [115, 99, 97, 110, 32, 51, 32, 49, 50], [115, 99, 97, 110, 32, 48, 32, 49, 48, 48], [112, 117, 116, 32, 49, 48, 48, 32, 49], [112, 117, 116, 32, 53, 32, 45, 55], [], [104, 101, 108, 112], [103, 101, 116, 32, 120], [100, 114, 111, 112, 32, 57, 57]]) v1 (hrA.at k0) (Mem.ng_old k0 hrA 0 rfl) hrl (k0.rd 1 rfl) (Off.of_ng (k0.ng 1 0 t19 rfl rfl)) (k0.fp [0] rfl rfl) q0 t11 t11) (c := ?_)
 rintro _ E2 ⟨r0, rfl, l1, f1⟩
 have K1 := k0.cl 1 f1
 have hsn : r0.length <= 11 := (by decide : ∀ s ∈ ([[116, 114, 101, 101], [112, 97, 103, 101, 115], [115, 99, 97, 110, 32, 51, 32, 49, 50], [115, 99, 97, 110, 32, 48, 32, 49, 48, 48], [112, 117, 116, 32, 49, 48, 48, 32, 49], [112, 117, 116, 32, 53, 32, 45, 55], [], [104, 101, 108, 112], [103, 101, 116, 32, 120], [100, 114, 111, 112, 32, 57, 57]] : List Str), s.length <= 11) _ l1
 refine Lt 0 [] (([r0]).map S) (λ F2 B1 W1 S0 => ?_)
 refine aM 0 [] 3 (S0.rd 0 rfl) (λ G2 D0 H0 Z1 T0 => ?_) (hn := t5) (hb := t5)
 refine ov 4 [] (a := eV) (b := ?_)
 have P1 := T0.rM 3 ((L ++ [r0]) : List Str) (e := t2)
 exact le5 2 [] (n - 1) (L ++ [r0]) (((q + 1) + 1) + 1) D0 H0 [1, 3, 4] (h := by exact ⟨t20, (λ x hx => by rcases bE.1 hx with hx | hx; exact d0 x hx; rw [aU.1 hx]; (try simp only [aA, aG, bA]); omega), t7⟩)
 refine pp 8 [] 56 (λ g56 => ?_) (λ g56 => ?_)
 refine cq 1 [] (b := mY a0 A c c0 q _ A0 (hrA.at b0) (Mem.ng_old b0 hrA 0 rfl) hrl (b0.fp [0] rfl rfl) q0) (c := ?_)
 rintro _ p1 ⟨o2, rfl, i2, X0⟩
 have l0 := b0.cl 1 X0
 refine cd 3 [] (λ c60 => ?_) (λ c60 => ?_)
 refine cq 5 [] (b := mY a0 A c c0 (q + 1) _ p1 (hrA.at l0) (Mem.ng_old l0 hrA 0 rfl) hrl (l0.fp [0] rfl rfl) q0) (c := ?_)
 rintro _ q1 ⟨o0, rfl, j2, Y0⟩
 have f0 := l0.cl 1 Y0
 have s0 : o0.toNat < L.length := t1
 refine ov 8 [] (a := cG s0 (f0.rd 1 rfl) (h0 := t1)) (b := ?_)
 refine ov 0 [] (a := eT s0 (f0.rd 1 rfl)) (b := ?_)
 refine cq 0 [] (b := aLu a0 A c c0 ((q + 1) + 1) _ q1 (hrA.at f0) (Mem.ng_old f0 hrA 0 rfl) hrl (f0.fp [0] rfl rfl) q0 (by exact cR (d0 _ (aC _)) t1)) (c := ?_)
 rintro _ x2 ⟨z0, p2, rfl, m2, n2, Z0⟩
 have N0 := f0.cl 1 Z0
 have y0 : o0.toNat < L.length := t1
 refine ov 0 [] (a := cG y0 (N0.rd 1 rfl) (h0 := t1)) (b := ?_)
 refine sM 0 [] 1 y0 λ y2 O0 => ?_
 refine E1 7 [] (.slice A2 L.length c2) ?_
 have U0 := O0.rM 1 ((L.set o0.toNat z0) : List Str) (e := t2)
 exact ⟨L.set o0.toNat z0, A2, c2, (by first | rfl | exact sl_congr t8 | (simp; done)), t24, (λ x hx => by rcases List.mem_or_eq_of_mem_set hx with hx | rfl; exact cR (d0 x hx) t1; (have h9 := d0 _ (aC s0); omega)), (U0.pk [1])⟩
 refine E1 7 [] (.slice A2 L.length c2) ?_
 exact ⟨L, A2, c2, (by first | rfl | exact sl_congr t8 | (simp; done)), t1, (λ x hx => cR (d0 x hx) t1), (l0.pk [1])⟩
 refine E1 13 [] (.slice A2 L.length c2) ?_
 exact ⟨L, A2, c2, (by first | rfl | exact sl_congr t8 | (simp; done)), t1, (λ x hx => cR (d0 x hx) t1), (b0.pk [1])⟩
end Go.Proofs.YtemejgglbhjodaaGreatDoor
section
namespace Go.Px
open Go.RowKit
theorem aGd : eR [[103, 101, 116, 32, 49], [100, 114, 111, 112, 32, 49], [112, 117, 116, 32, 49, 48, 48, 32, 49], [112, 117, 116, 32, 49, 32, 49, 48, 48, 49], [112, 117, 116, 32, 48, 49, 32, 49], [112, 117, 116, 32, 49, 32, 45, 49, 48, 48, 48], [103, 101, 116, 32, 49], [115, 99, 97, 110, 32, 48, 32, 120], [115, 99, 97, 110, 32, 49, 32, 49], [116, 114, 101, 101], [112, 117, 116, 32, 49], [112, 97, 103, 101, 115], [100, 114, 111, 112, 32, 49], [116, 114, 101, 101]] = [110, 111, 10, 110, 111, 10, 110, 111, 10, 110, 111, 10, 110, 111, 10, 111, 107, 10, 45, 49, 48, 48, 48, 10, 110, 111, 10, 10, 49, 58, 45, 49, 48, 48, 48, 10, 119, 104, 97, 116, 10, 49, 32, 49, 10, 111, 107, 10, 10] := by
 kernel_rfl
theorem aIe : eR [[112, 117, 116, 32, 49, 32, 49], [112, 117, 116, 32, 50, 32, 50], [112, 117, 116, 32, 51, 32, 51], [112, 117, 116, 32, 52, 32, 52], [112, 97, 103, 101, 115], [112, 117, 116, 32, 53, 32, 53], [112, 97, 103, 101, 115], [116, 114, 101, 101], [115, 99, 97, 110, 32, 50, 32, 53], [100, 114, 111, 112, 32, 49], [116, 114, 101, 101], [100, 114, 111, 112, 32, 50], [116, 114, 101, 101], [112, 97, 103, 101, 115], [103, 101, 116, 32, 52], [103, 101, 116, 32, 50]] = [111, 107, 10, 111, 107, 10, 111, 107, 10, 111, 107, 10, 49, 32, 49, 10, 111, 107, 10, 51, 32, 50, 10, 40, 49, 58, 49, 44, 50, 58, 50, 44, 51, 58, 51, 32, 52, 32, 52, 58, 52, 44, 53, 58, 53, 41, 10, 50, 58, 50, 44, 51, 58, 51, 44, 52, 58, 52, 10, 111, 107, 10, 40, 50, 58, 50, 44, 51, 58, 51, 32, 52, 32, 52, 58, 52, 44, 53, 58, 53, 41, 10, 111, 107, 10, 51, 58, 51, 44, 52, 58, 52, 44, 53, 58, 53, 10, 49, 32, 49, 10, 52, 10, 110, 111, 10] := by
 kernel_rfl
end Go.Px
end
section
namespace Go.Px
open Go.RowKit
def askW : List Str := [fQ, [103, 101, 116, 32, 53], [115, 99, 97, 110, 32, 49, 32, 57], gN]
theorem aPg {T : TrT} : (eZ T fQ).1 = T /\ (eZ T [103, 101, 116, 32, 53]).1 = T /\ (eZ T [115, 99, 97, 110, 32, 49, 32, 57]).1 = T := by
 refine ⟨rfl, ?_, ?_⟩
 ·rw [aIj (w := jX) rfl rfl rfl]
  unfold tZ
  split
  ·rw [aBr rfl]
  rfl
 rw [aIk (w := fX) rfl rfl rfl]
 unfold uL
 split
 ·rw [xQ rfl]
 rfl
theorem aMx (T : TrT) : ∃ Q : Str, 0 < Q.length /\ jQ T askW = Q ++ jQ T [gN] := by
 obtain ⟨h1, h2, h3⟩ := aPg (T := T)
 refine ⟨(eZ T fQ).2 ++ 10 :: ((eZ T [103, 101, 116, 32, 53]).2 ++ 10 :: ((eZ T [115, 99, 97, 110, 32, 49, 32, 57]).2 ++ [10])), by simp only [aA, aG]; omega, ?_⟩
 unfold askW
 simp only [jQ, h1, h2, h3, bO, List.cons_append, List.nil_append]
theorem aPc {l : List Str} (h : l.length + 4 <= 20) : ∃ O X Q : Str, eR l = O /\ eR (l ++ [gN]) = O ++ X /\ eR (l ++ askW) = O ++ (Q ++ X) /\ 0 < Q.length /\ (O ++ (Q ++ X)).length <= 96020 := by
 obtain ⟨Q, hQ, hq⟩ := aMx (ssT mX l)
 have e2 : eR (l ++ askW) = eR l ++ (Q ++ jQ (ssT mX l) [gN]) := by
  rw [aGb (by show l.length + 4 <= 20; omega), hq]
 refine ⟨_, jQ (ssT mX l) [gN], Q, rfl, ?_, e2, hQ, ?_⟩
 ·rw [aGb t13]
 rw [<- e2]; exact aGc _
theorem aMd {l : List Str} {n : Nat} : (eR (l.take n)).length <= (eR l).length /\ (eR l).take (eR (l.take n)).length = eR (l.take n) :=
 ⟨(vY l n).length_le, (List.prefix_iff_eq_take.1 (vY l n)).symm⟩
end Go.Px
end
