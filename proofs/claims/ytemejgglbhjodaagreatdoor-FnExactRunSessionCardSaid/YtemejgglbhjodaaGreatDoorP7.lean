/- Own layer, part 8: plain theorems on the walk of this program's functions and on what they compute; no conditions. -/
import Derived.Test.YtemejgglbhjodaaGreatDoorP6
set_option linter.unusedVariables false
set_option linter.unusedSimpArgs false
namespace Go.Proofs.YtemejgglbhjodaaGreatDoor
open Go.Px
set_option maxHeartbeats 2000000 in
theorem aKm (KA : Option Addr) (kc : Nat) (kl : List Int) (CA : Option Addr) (cc : Nat) (cl : List Int) (pl : Nat) (key : Int) (kid : Int) (w : World) (hRK : Rd w KA (kl.map I)) (hRC : Rd w CA (cl.map I)) (h9 : kl.length <= 1000 /\ cl.length <= 1000) (hin : inB kl cl = true) (hpl : pl < cl.length) :
  aR Tryz.prog 39 [.agg #[.slice KA kl.length kc, .slice CA cl.length cc], I ((pl : Nat) : Int), I key, I kid] w (λ v w1 => ∃ (L1 : List Int) (A1 : Option Addr) (c1 : Nat) (L2 : List Int) (A2 : Option Addr) (c2 : Nat), v = .tuple #[.agg #[.slice A1 L1.length c1, .slice A2 L2.length c2], .bool (inB (kl.take pl ++ ([key] ++ kl.drop pl)) (cl.take (pl + 1) ++ ([kid] ++ cl.drop (pl + 1))))] /\ (inB (kl.take pl ++ ([key] ++ kl.drop pl)) (cl.take (pl + 1) ++ ([kid] ++ cl.drop (pl + 1))) = true -> L1 = kl.take pl ++ ([key] ++ kl.drop pl) /\ L2 = cl.take (pl + 1) ++ ([kid] ++ cl.drop (pl + 1))) /\ Mem w w1 [] [oI A1 c1 L1, oI A2 c2 L2]) := by
 have hM : Mem w w [] [] := Mem.refl
 refine aR.nG (rs := [.cell 8 65, .tmp 9]) Tryz.func39 rfl Tryz.results39 Tryz.ntmps39 rfl ?_
 have hin9 := qX.1 hin
 refine Bx 2 [] λ w2 g2 r2 i2 => ?_
 refine Al 0 [] λ O1 h2 s2 j1 => ?_
 refine cp 6 [1] (b := oE KA kc kl CA cc cl O1 (hRK.at j1) (hRC.at j1) q0) (c := λ x2 j2 => ?_)
 refine pt 2 [] 14 (λ g14 => ?_) (λ g14 => ?_)
 ·(exfalso; simp [hin] at g14)
 refine pp 4 [] 18 (λ g18 => ?_) (λ g18 => ?_)
 ·exfalso; omega
 refine cd 7 [1] (λ c24 => ?_) (λ c24 => ?_)
 ·(exfalso; first | omega | simp_all)
 refine ct5 1 [] (λ (bx10 : Nat) (u0 : Option Addr) (z0 : Nat) (v0 : Option Addr) (A0 : Nat) => ([(10, Vp (bl bx10) 0)] : List (Nat × SV))) (λ bx10 u0 z0 v0 A0 => True) (λ bx10 u0 z0 v0 A0 => [[⟨.slice (bl bx10) 1 1, 65, 2, 1, [.slice u0 (kl.take pl ++ ([key] ++ kl.drop pl)).length z0, .slice v0 (cl.take (pl + 1) ++ ([kid] ++ cl.drop (pl + 1))).length A0]⟩], oI u0 z0 (kl.take pl ++ ([key] ++ kl.drop pl)), oI v0 A0 (cl.take (pl + 1) ++ ([kid] ++ cl.drop (pl + 1)))]) [8] [0, 1] ?_ (λ bx10 u0 z0 v0 A0 σ f2 hI K0 => ?_)
 ·refine any 0 [] 18 [0, 1] λ Q1 k1 => ?_
  refine av [0, 1, 3, 4, 7, 8, 10] [1, 1] 11 (a := by exact λ _ hw2 => bL (pl + 1)) (b := ?_)
  refine jn5 [12] [] (λ (f0 : Option Addr) (g0 : Nat) (t0 : Option Addr) (w0 : Nat) (a0 : Nat) => ([(10, Vp (bl a0) 0), (41, Va [.sl f0 (kl.take pl ++ ([key] ++ kl.drop pl)).length g0, .sl t0 (cl.take (pl + 1) ++ ([kid] ++ cl.drop (pl + 1))).length w0])] : List (Nat × SV))) (λ f0 g0 t0 w0 a0 => [[⟨.slice (bl a0) 1 1, 65, 2, 1, [.slice none 0 0, .slice none 0 0]⟩], oI t0 w0 (cl.take (pl + 1) ++ ([kid] ++ cl.drop (pl + 1))), oI f0 g0 (kl.take pl ++ ([key] ++ kl.drop pl))]) [8] [0, 1] 1 [true, true, true, true, true, true, true, true, true, true, true, true, true, true, true, true, true, false] (λ X0 => ?_) (λ f0 g0 t0 w0 a0 σ D2 l2 => ?_)
  rotate_left
  ·refine aO [] [] 17 ?_
   refine Sb 0 [] 0 λ y2 u1 => ?_
   refine os 0 [] [3, 4] ?_
   refine an [] [] ?_
   have D1 := u1.rM 2 (kl.take pl ++ ([key] ++ kl.drop pl) : List Int) (e := t2)
   have q2 := D1.rM 1 (cl.take (pl + 1) ++ ([kid] ++ cl.drop (pl + 1)) : List Int) (e := t2)
   exact ce5 0 [] a0 f0 g0 t0 w0 [0, 2, 1, 3, 4] (h := t12)
  refine jn6 [] [] (λ (f0 : Option Addr) (g0 : Nat) (h0 : Option Addr) (i0 : Nat) (b0 : Nat) (a0 : Nat) => ([(10, Vp (bl a0) 0), (32, Vl f0 (kl.take pl ++ ([key] ++ kl.drop pl)).length g0), (35, Vl h0 cl.length i0), (39, Vl (bl b0) 1 1)] : List (Nat × SV))) (λ f0 g0 h0 i0 b0 a0 => [[⟨.slice (bl a0) 1 1, 65, 2, 1, [.slice none 0 0, .slice none 0 0]⟩], [⟨.slice (bl b0) 1 1, 3, 1, 1, ([kid]).map I⟩], oI h0 i0 cl, oI f0 g0 (kl.take pl ++ ([key] ++ kl.drop pl))]) [8, 37] [0, 1] 3 [true, true, true, true, true, true, true, true, true, true, true, true, true, true, false, false, true, false] (λ M0 => ?_) (λ f0 g0 h0 i0 b0 a0 σ R1 v1 => ?_)
  rotate_left
  ·refine aO [] [] 14 ?_
   have I0 := v1.pk [2, 1, 0, 3, 4, 5]
   refine cq 0 [] (vs := [.slice h0 cl.length i0, I (((pl + 1) : Nat) : Int), .slice (bl b0) ([kid]).length 1]) (hvs := (by first | rfl | (rw [show ([kid]).length = 1 from t6]; rfl))) (b := kG _ _ _ _ (bl b0) 1 [kid] R1 (I0.fp [0, 1] rfl rfl) q0 q0 q0 q0) (c := ?_)
   rintro _ P1 ⟨t0, w0, rfl, T0⟩
   have S0 := I0.cl 2 T0
   have K1 := (S0.cap 0 rfl).1
   refine os 0 [] [3, 4] ?_
   exact jd5 [15] [] X0 f0 g0 t0 w0 a0 [1, 0, 2, 3, 4]
  refine jn5 [] [] (λ (f0 : Option Addr) (g0 : Nat) (h0 : Option Addr) (i0 : Nat) (b0 : Nat) => ([(32, Vl f0 (kl.take pl ++ ([key] ++ kl.drop pl)).length g0), (35, Vl h0 cl.length i0), (39, Vl (bl b0) 1 1)] : List (Nat × SV))) (λ f0 g0 h0 i0 b0 => [[⟨.slice (bl b0) 1 1, 3, 1, 1, ([kid]).map I⟩], oI h0 i0 cl, oI f0 g0 (kl.take pl ++ ([key] ++ kl.drop pl))]) [8, 37] [0, 1] 4 [true, true, true, true, true, true, true, true, true, true, true, true, true, true, false, false, false, false] (λ f1 => ?_) (λ f0 g0 h0 i0 b0 σ X1 y1 => ?_)
  rotate_left
  ·refine aT [] [] 14 16 ?_ ?_
   ·have I0 := y1.pk [1, 0, 2, 3, 4]
    refine cq 0 [] (vs := [.slice h0 cl.length i0, I (((pl + 1) : Nat) : Int), .slice (bl b0) ([kid]).length 1]) (hvs := (by first | rfl | (rw [show ([kid]).length = 1 from t6]; rfl))) (b := kG _ _ _ _ (bl b0) 1 [kid] X1 (I0.fp [0, 1] rfl rfl) q0 q0 q0 q0) (c := ?_)
    rintro _ P1 ⟨t0, w0, rfl, T0⟩
    have S0 := I0.cl 2 T0
    have K1 := (S0.cap 0 rfl).1
    refine os 0 [] [2, 3] ?_
    refine aO [15] [] 16 ?_
    refine Al 0 [] λ n0 a0 o0 l0 => ?_
    refine os 0 [] [3, 4] ?_
    exact jd5 [] [] X0 f0 g0 t0 w0 a0 [0, 1, 2, 3, 4]
   refine Al 0 [] λ n0 a0 o0 l0 => ?_
   refine os 0 [] [4, 5] ?_
   exact jd6 [] [] M0 f0 g0 h0 i0 b0 a0 [0, 1, 2, 3, 4, 5]
  refine jn5 [] [] (λ (f0 : Option Addr) (g0 : Nat) (h0 : Option Addr) (i0 : Nat) (a0 : Nat) => ([(10, Vp (bl a0) 0), (32, Vl f0 (kl.take pl ++ ([key] ++ kl.drop pl)).length g0), (35, Vl h0 cl.length i0)] : List (Nat × SV))) (λ f0 g0 h0 i0 a0 => [[⟨.slice (bl a0) 1 1, 65, 2, 1, [.slice none 0 0, .slice none 0 0]⟩], oI h0 i0 cl, oI f0 g0 (kl.take pl ++ ([key] ++ kl.drop pl))]) [8, 37, 38] [0, 1] 4 [true, true, true, true, true, true, true, true, true, true, true, true, true, false, false, false, true, false] (λ g1 => ?_) (λ f0 g0 h0 i0 a0 σ H2 p2 => ?_)
  rotate_left
  ·refine aO [] [] 13 ?_
   refine Lt 0 [] (([kid]).map I) (λ p0 b0 s0 m0 => ?_)
   refine os 0 [] [4, 5] ?_
   exact jd6 [] [] M0 f0 g0 h0 i0 b0 a0 [1, 0, 2, 3, 4, 5]
  refine jn4 [] [] (λ (f0 : Option Addr) (g0 : Nat) (b0 : Nat) (a0 : Nat) => ([(10, Vp (bl a0) 0), (32, Vl f0 (kl.take pl ++ ([key] ++ kl.drop pl)).length g0), (39, Vl (bl b0) 1 1)] : List (Nat × SV))) (λ f0 g0 b0 a0 => [[⟨.slice (bl a0) 1 1, 65, 2, 1, [.slice none 0 0, .slice none 0 0]⟩], [⟨.slice (bl b0) 1 1, 3, 1, 1, ([kid]).map I⟩], oI f0 g0 (kl.take pl ++ ([key] ++ kl.drop pl))]) [8, 34, 37] [0, 1] 4 [true, true, true, true, true, true, true, true, true, false, true, true, true, true, false, false, true, false] (λ P0 => ?_) (λ f0 g0 b0 a0 σ Y1 r1 => ?_)
  rotate_left
  ·refine aO [] [] 9 ?_
   refine cq 0 [] (b := cD _ _ _ Y1 (hRC.at r1) q0) (c := ?_)
   rintro _ W0 ⟨h0, i0, rfl, E0⟩
   have C0 := r1.cl 0 E0
   have V0 := (C0.cap 0 rfl).1
   refine os 0 [] [4, 5] ?_
   exact jd6 [] [] M0 f0 g0 h0 i0 b0 a0 [1, 2, 0, 3, 4, 5]
  refine jn3 [] [] (λ (f0 : Option Addr) (g0 : Nat) (b0 : Nat) => ([(32, Vl f0 (kl.take pl ++ ([key] ++ kl.drop pl)).length g0), (39, Vl (bl b0) 1 1)] : List (Nat × SV))) (λ f0 g0 b0 => [[⟨.slice (bl b0) 1 1, 3, 1, 1, ([kid]).map I⟩], oI f0 g0 (kl.take pl ++ ([key] ++ kl.drop pl))]) [8, 34, 37] [0, 1] 5 [true, true, true, true, true, true, true, true, true, false, true, true, true, true, false, false, false, false] (λ h1 => ?_) (λ f0 g0 b0 σ Z1 s1 => ?_)
  rotate_left
  ·refine aT [] [] 9 16 ?_ ?_
   ·refine cq 0 [] (b := cD _ _ _ Z1 (hRC.at s1) q0) (c := ?_)
    rintro _ W0 ⟨h0, i0, rfl, E0⟩
    have C0 := s1.cl 0 E0
    have V0 := (C0.cap 0 rfl).1
    refine os 0 [] [3, 4] ?_
    exact jd5 [] [] f1 f0 g0 h0 i0 b0 [1, 0, 2, 3, 4]
   refine Al 0 [] λ n0 a0 o0 l0 => ?_
   refine os 0 [] [3, 4] ?_
   exact jd4 [] [] P0 f0 g0 b0 a0 [0, 1, 2, 3, 4]
  refine jn3 [] [] (λ (f0 : Option Addr) (g0 : Nat) (a0 : Nat) => ([(10, Vp (bl a0) 0), (32, Vl f0 (kl.take pl ++ ([key] ++ kl.drop pl)).length g0)] : List (Nat × SV))) (λ f0 g0 a0 => [[⟨.slice (bl a0) 1 1, 65, 2, 1, [.slice none 0 0, .slice none 0 0]⟩], oI f0 g0 (kl.take pl ++ ([key] ++ kl.drop pl))]) [8, 34, 37, 38] [0, 1] 5 [true, true, true, true, true, true, true, true, true, false, true, true, true, false, false, false, true, false] (λ i1 => ?_) (λ f0 g0 a0 σ a2 t1 => ?_)
  rotate_left
  ·refine aT [] [] 9 13 ?_ ?_
   ·refine cq 0 [] (b := cD _ _ _ a2 (hRC.at t1) q0) (c := ?_)
    rintro _ W0 ⟨h0, i0, rfl, E0⟩
    have C0 := t1.cl 0 E0
    have V0 := (C0.cap 0 rfl).1
    refine os 0 [] [3, 4] ?_
    exact jd5 [] [] g1 f0 g0 h0 i0 a0 [1, 0, 2, 3, 4]
   refine Lt 0 [] (([kid]).map I) (λ p0 b0 s0 m0 => ?_)
   refine os 0 [] [3, 4] ?_
   exact jd4 [] [] P0 f0 g0 b0 a0 [1, 0, 2, 3, 4]
  refine jn5 [] [] (λ (d0 : Option Addr) (e0 : Nat) (c0 : Nat) (b0 : Nat) (a0 : Nat) => ([(10, Vp (bl a0) 0), (28, Vl d0 kl.length e0), (31, Vl (bl c0) 1 1), (39, Vl (bl b0) 1 1)] : List (Nat × SV))) (λ d0 e0 c0 b0 a0 => [[⟨.slice (bl a0) 1 1, 65, 2, 1, [.slice none 0 0, .slice none 0 0]⟩], [⟨.slice (bl b0) 1 1, 3, 1, 1, ([kid]).map I⟩], [⟨.slice (bl c0) 1 1, 3, 1, 1, ([key]).map I⟩], oI d0 e0 kl]) [8, 29, 34, 37] [0, 1] 5 [true, true, true, true, true, true, false, true, true, false, true, true, true, true, false, false, true, false] (λ J0 => ?_) (λ d0 e0 c0 b0 a0 σ b2 z1 => ?_)
  rotate_left
  ·refine aO [] [] 6 ?_
   have r0 := z1.pk [3, 2, 0, 1, 4, 5]
   refine cq 0 [] (vs := [.slice d0 kl.length e0, I ((pl : Nat) : Int), .slice (bl c0) ([key]).length 1]) (hvs := (by first | rfl | (rw [show ([key]).length = 1 from t6]; rfl))) (b := kG _ _ _ _ (bl c0) 1 [key] b2 (r0.fp [0, 1] rfl rfl) q0 q0 q0 q0) (c := ?_)
   rintro _ L0 ⟨f0, g0, rfl, D0⟩
   have y0 := r0.cl 2 D0
   have U0 := (y0.cap 0 rfl).1
   refine os 0 [] [3, 4] ?_
   exact jd4 [] [] P0 f0 g0 b0 a0 [1, 2, 0, 3, 4]
  refine jn4 [] [] (λ (d0 : Option Addr) (e0 : Nat) (c0 : Nat) (b0 : Nat) => ([(28, Vl d0 kl.length e0), (31, Vl (bl c0) 1 1), (39, Vl (bl b0) 1 1)] : List (Nat × SV))) (λ d0 e0 c0 b0 => [[⟨.slice (bl b0) 1 1, 3, 1, 1, ([kid]).map I⟩], [⟨.slice (bl c0) 1 1, 3, 1, 1, ([key]).map I⟩], oI d0 e0 kl]) [8, 29, 34, 37] [0, 1] 6 [true, true, true, true, true, true, false, true, true, false, true, true, true, true, false, false, false, false] (λ Q0 => ?_) (λ d0 e0 c0 b0 σ d2 B1 => ?_)
  rotate_left
  ·refine aT [] [] 6 16 ?_ ?_
   ·have r0 := B1.pk [2, 1, 0, 3, 4]
    refine cq 0 [] (vs := [.slice d0 kl.length e0, I ((pl : Nat) : Int), .slice (bl c0) ([key]).length 1]) (hvs := (by first | rfl | (rw [show ([key]).length = 1 from t6]; rfl))) (b := kG _ _ _ _ (bl c0) 1 [key] d2 (r0.fp [0, 1] rfl rfl) q0 q0 q0 q0) (c := ?_)
    rintro _ L0 ⟨f0, g0, rfl, D0⟩
    have y0 := r0.cl 2 D0
    have U0 := (y0.cap 0 rfl).1
    refine os 0 [] [2, 3] ?_
    exact jd3 [] [] h1 f0 g0 b0 [1, 0, 2, 3]
   refine Al 0 [] λ n0 a0 o0 l0 => ?_
   refine os 0 [] [4, 5] ?_
   exact jd5 [] [] J0 d0 e0 c0 b0 a0 [0, 1, 2, 3, 4, 5]
  refine jn4 [] [] (λ (d0 : Option Addr) (e0 : Nat) (c0 : Nat) (a0 : Nat) => ([(10, Vp (bl a0) 0), (28, Vl d0 kl.length e0), (31, Vl (bl c0) 1 1)] : List (Nat × SV))) (λ d0 e0 c0 a0 => [[⟨.slice (bl a0) 1 1, 65, 2, 1, [.slice none 0 0, .slice none 0 0]⟩], [⟨.slice (bl c0) 1 1, 3, 1, 1, ([key]).map I⟩], oI d0 e0 kl]) [8, 29, 34, 37, 38] [0, 1] 6 [true, true, true, true, true, true, false, true, true, false, true, true, true, false, false, false, true, false] (λ R0 => ?_) (λ d0 e0 c0 a0 σ e2 C1 => ?_)
  rotate_left
  ·refine aT [] [] 6 13 ?_ ?_
   ·have r0 := C1.pk [2, 1, 0, 3, 4]
    refine cq 0 [] (vs := [.slice d0 kl.length e0, I ((pl : Nat) : Int), .slice (bl c0) ([key]).length 1]) (hvs := (by first | rfl | (rw [show ([key]).length = 1 from t6]; rfl))) (b := kG _ _ _ _ (bl c0) 1 [key] e2 (r0.fp [0, 1] rfl rfl) q0 q0 q0 q0) (c := ?_)
    rintro _ L0 ⟨f0, g0, rfl, D0⟩
    have y0 := r0.cl 2 D0
    have U0 := (y0.cap 0 rfl).1
    refine os 0 [] [2, 3] ?_
    exact jd3 [] [] i1 f0 g0 a0 [1, 0, 2, 3]
   refine Lt 0 [] (([kid]).map I) (λ p0 b0 s0 m0 => ?_)
   refine os 0 [] [4, 5] ?_
   exact jd5 [] [] J0 d0 e0 c0 b0 a0 [1, 0, 2, 3, 4, 5]
  refine jn4 [] [] (λ (d0 : Option Addr) (e0 : Nat) (b0 : Nat) (a0 : Nat) => ([(10, Vp (bl a0) 0), (28, Vl d0 kl.length e0), (39, Vl (bl b0) 1 1)] : List (Nat × SV))) (λ d0 e0 b0 a0 => [[⟨.slice (bl a0) 1 1, 65, 2, 1, [.slice none 0 0, .slice none 0 0]⟩], [⟨.slice (bl b0) 1 1, 3, 1, 1, ([kid]).map I⟩], oI d0 e0 kl]) [8, 29, 30, 34, 37] [0, 1] 6 [true, true, true, true, true, false, false, true, true, false, true, true, true, true, false, false, true, false] (λ N0 => ?_) (λ d0 e0 b0 a0 σ E2 m2 => ?_)
  rotate_left
  ·refine aO [] [] 5 ?_
   refine Lt 0 [] (([key]).map I) (λ B0 c0 F0 x0 => ?_)
   refine os 0 [] [4, 5] ?_
   exact jd5 [] [] J0 d0 e0 c0 b0 a0 [1, 2, 0, 3, 4, 5]
  refine jn3 [] [] (λ (c0 : Nat) (b0 : Nat) (a0 : Nat) => ([(10, Vp (bl a0) 0), (31, Vl (bl c0) 1 1), (39, Vl (bl b0) 1 1)] : List (Nat × SV))) (λ c0 b0 a0 => [[⟨.slice (bl a0) 1 1, 65, 2, 1, [.slice none 0 0, .slice none 0 0]⟩], [⟨.slice (bl b0) 1 1, 3, 1, 1, ([kid]).map I⟩], [⟨.slice (bl c0) 1 1, 3, 1, 1, ([key]).map I⟩]]) [8, 27, 29, 34, 37] [0, 1] 6 [true, true, false, true, true, true, false, true, true, false, true, true, true, true, false, false, true, false] (λ O0 => ?_) (λ c0 b0 a0 σ S1 n1 => ?_)
  rotate_left
  ·refine aO [] [] 2 ?_
   refine cq 0 [] (b := cD _ _ _ S1 (hRK.at n1) q0) (c := ?_)
   rintro _ H0 ⟨d0, e0, rfl, k0⟩
   have j0 := n1.cl 0 k0
   have G0 := (j0.cap 0 rfl).1
   refine os 0 [] [4, 5] ?_
   exact jd5 [] [] J0 d0 e0 c0 b0 a0 [1, 2, 3, 0, 4, 5]
  refine jn3 [] [] (λ (d0 : Option Addr) (e0 : Nat) (c0 : Nat) => ([(28, Vl d0 kl.length e0), (31, Vl (bl c0) 1 1)] : List (Nat × SV))) (λ d0 e0 c0 => [[⟨.slice (bl c0) 1 1, 3, 1, 1, ([key]).map I⟩], oI d0 e0 kl]) [8, 29, 34, 37, 38] [0, 1] 7 [true, true, true, true, true, true, false, true, true, false, true, true, true, false, false, false, false, false] (λ Y0 => ?_) (λ d0 e0 c0 σ T1 x1 => ?_)
  rotate_left
  ·refine aH [] [] 6 13 16 ?_ ?_ ?_
   ·have r0 := x1.pk [1, 0, 2, 3]
    refine cq 0 [] (vs := [.slice d0 kl.length e0, I ((pl : Nat) : Int), .slice (bl c0) ([key]).length 1]) (hvs := (by first | rfl | (rw [show ([key]).length = 1 from t6]; rfl))) (b := kG _ _ _ _ (bl c0) 1 [key] T1 (r0.fp [0, 1] rfl rfl) q0 q0 q0 q0) (c := ?_)
    rintro _ L0 ⟨f0, g0, rfl, D0⟩
    have y0 := r0.cl 2 D0
    have U0 := (y0.cap 0 rfl).1
    refine os 0 [] [1, 2] ?_
    refine aH [] [] 9 13 16 ?_ ?_ ?_
    ·refine cq 0 [] (b := cD _ _ _ L0 (hRC.at y0) q0) (c := ?_)
     rintro _ W0 ⟨h0, i0, rfl, E0⟩
     have C0 := y0.cl 0 E0
     have V0 := (C0.cap 0 rfl).1
     refine os 0 [] [2, 3] ?_
     refine aT [] [] 13 16 ?_ ?_
     ·refine Lt 0 [] (([kid]).map I) (λ p0 b0 s0 m0 => ?_)
      refine os 0 [] [3, 4] ?_
      exact jd5 [] [] f1 f0 g0 h0 i0 b0 [0, 1, 2, 3, 4]
     refine Al 0 [] λ n0 a0 o0 l0 => ?_
     refine os 0 [] [3, 4] ?_
     exact jd5 [] [] g1 f0 g0 h0 i0 a0 [0, 1, 2, 3, 4]
    ·refine Lt 0 [] (([kid]).map I) (λ p0 b0 s0 m0 => ?_)
     refine os 0 [] [2, 3] ?_
     exact jd3 [] [] h1 f0 g0 b0 [0, 1, 2, 3]
    refine Al 0 [] λ n0 a0 o0 l0 => ?_
    refine os 0 [] [2, 3] ?_
    exact jd3 [] [] i1 f0 g0 a0 [0, 1, 2, 3]
   ·refine Lt 0 [] (([kid]).map I) (λ p0 b0 s0 m0 => ?_)
    refine os 0 [] [3, 4] ?_
    exact jd4 [] [] Q0 d0 e0 c0 b0 [0, 1, 2, 3, 4]
   refine Al 0 [] λ n0 a0 o0 l0 => ?_
   refine os 0 [] [3, 4] ?_
   exact jd4 [] [] R0 d0 e0 c0 a0 [0, 1, 2, 3, 4]
  refine jn3 [] [] (λ (d0 : Option Addr) (e0 : Nat) (b0 : Nat) => ([(28, Vl d0 kl.length e0), (39, Vl (bl b0) 1 1)] : List (Nat × SV))) (λ d0 e0 b0 => [[⟨.slice (bl b0) 1 1, 3, 1, 1, ([kid]).map I⟩], oI d0 e0 kl]) [8, 29, 30, 34, 37] [0, 1] 7 [true, true, true, true, true, false, false, true, true, false, true, true, true, true, false, false, false, false] (λ Z0 => ?_) (λ d0 e0 b0 σ F2 n2 => ?_)
  rotate_left
  ·refine aT [] [] 5 16 ?_ ?_
   ·refine Lt 0 [] (([key]).map I) (λ B0 c0 F0 x0 => ?_)
    refine os 0 [] [3, 4] ?_
    exact jd4 [] [] Q0 d0 e0 c0 b0 [1, 0, 2, 3, 4]
   refine Al 0 [] λ n0 a0 o0 l0 => ?_
   refine os 0 [] [3, 4] ?_
   exact jd4 [] [] N0 d0 e0 b0 a0 [0, 1, 2, 3, 4]
  refine jn3 [] [] (λ (d0 : Option Addr) (e0 : Nat) (a0 : Nat) => ([(10, Vp (bl a0) 0), (28, Vl d0 kl.length e0)] : List (Nat × SV))) (λ d0 e0 a0 => [[⟨.slice (bl a0) 1 1, 65, 2, 1, [.slice none 0 0, .slice none 0 0]⟩], oI d0 e0 kl]) [8, 29, 30, 34, 37, 38] [0, 1] 7 [true, true, true, true, true, false, false, true, true, false, true, true, true, false, false, false, true, false] (λ a1 => ?_) (λ d0 e0 a0 σ G2 o2 => ?_)
  rotate_left
  ·refine aT [] [] 5 13 ?_ ?_
   ·refine Lt 0 [] (([key]).map I) (λ B0 c0 F0 x0 => ?_)
    refine os 0 [] [3, 4] ?_
    exact jd4 [] [] R0 d0 e0 c0 a0 [1, 0, 2, 3, 4]
   refine Lt 0 [] (([kid]).map I) (λ p0 b0 s0 m0 => ?_)
   refine os 0 [] [3, 4] ?_
   exact jd4 [] [] N0 d0 e0 b0 a0 [1, 0, 2, 3, 4]
  refine jn2 [] [] (λ (c0 : Nat) (b0 : Nat) => ([(31, Vl (bl c0) 1 1), (39, Vl (bl b0) 1 1)] : List (Nat × SV))) (λ c0 b0 => [[⟨.slice (bl b0) 1 1, 3, 1, 1, ([kid]).map I⟩], [⟨.slice (bl c0) 1 1, 3, 1, 1, ([key]).map I⟩]]) [8, 27, 29, 34, 37] [0, 1] 7 [true, true, false, true, true, true, false, true, true, false, true, true, true, true, false, false, false, false] (λ b1 => ?_) (λ c0 b0 σ U1 o1 => ?_)
  rotate_left
  ·refine aT [] [] 2 16 ?_ ?_
   ·refine cq 0 [] (b := cD _ _ _ U1 (hRK.at o1) q0) (c := ?_)
    rintro _ H0 ⟨d0, e0, rfl, k0⟩
    have j0 := o1.cl 0 k0
    have G0 := (j0.cap 0 rfl).1
    refine os 0 [] [3, 4] ?_
    exact jd4 [] [] Q0 d0 e0 c0 b0 [1, 2, 0, 3, 4]
   refine Al 0 [] λ n0 a0 o0 l0 => ?_
   refine os 0 [] [3, 4] ?_
   exact jd3 [] [] O0 c0 b0 a0 [0, 1, 2, 3, 4]
  refine jn2 [] [] (λ (c0 : Nat) (a0 : Nat) => ([(10, Vp (bl a0) 0), (31, Vl (bl c0) 1 1)] : List (Nat × SV))) (λ c0 a0 => [[⟨.slice (bl a0) 1 1, 65, 2, 1, [.slice none 0 0, .slice none 0 0]⟩], [⟨.slice (bl c0) 1 1, 3, 1, 1, ([key]).map I⟩]]) [8, 27, 29, 34, 37, 38] [0, 1] 7 [true, true, false, true, true, true, false, true, true, false, true, true, true, false, false, false, true, false] (λ d1 => ?_) (λ c0 a0 σ V1 p1 => ?_)
  rotate_left
  ·refine aT [] [] 2 13 ?_ ?_
   ·refine cq 0 [] (b := cD _ _ _ V1 (hRK.at p1) q0) (c := ?_)
    rintro _ H0 ⟨d0, e0, rfl, k0⟩
    have j0 := p1.cl 0 k0
    have G0 := (j0.cap 0 rfl).1
    refine os 0 [] [3, 4] ?_
    exact jd4 [] [] R0 d0 e0 c0 a0 [1, 2, 0, 3, 4]
   refine Lt 0 [] (([kid]).map I) (λ p0 b0 s0 m0 => ?_)
   refine os 0 [] [3, 4] ?_
   exact jd3 [] [] O0 c0 b0 a0 [1, 0, 2, 3, 4]
  refine jn2 [] [] (λ (b0 : Nat) (a0 : Nat) => ([(10, Vp (bl a0) 0), (39, Vl (bl b0) 1 1)] : List (Nat × SV))) (λ b0 a0 => [[⟨.slice (bl a0) 1 1, 65, 2, 1, [.slice none 0 0, .slice none 0 0]⟩], [⟨.slice (bl b0) 1 1, 3, 1, 1, ([kid]).map I⟩]]) [8, 27, 29, 30, 34, 37] [0, 1] 7 [true, true, false, true, true, false, false, true, true, false, true, true, true, true, false, false, true, false] (λ e1 => ?_) (λ b0 a0 σ W1 q1 => ?_)
  rotate_left
  ·refine aT [] [] 2 5 ?_ ?_
   ·refine cq 0 [] (b := cD _ _ _ W1 (hRK.at q1) q0) (c := ?_)
    rintro _ H0 ⟨d0, e0, rfl, k0⟩
    have j0 := q1.cl 0 k0
    have G0 := (j0.cap 0 rfl).1
    refine os 0 [] [3, 4] ?_
    exact jd4 [] [] N0 d0 e0 b0 a0 [1, 2, 0, 3, 4]
   refine Lt 0 [] (([key]).map I) (λ B0 c0 F0 x0 => ?_)
   refine os 0 [] [3, 4] ?_
   exact jd3 [] [] O0 c0 b0 a0 [1, 2, 0, 3, 4]
  refine aQ [] [] 2 5 13 16 ?_ ?_ ?_ ?_
  ·refine cq 0 [] (b := cD _ _ _ Q1 (hRK.at k1) q0) (c := ?_)
   rintro _ H0 ⟨d0, e0, rfl, k0⟩
   have j0 := k1.cl 0 k0
   have G0 := (j0.cap 0 rfl).1
   refine os 0 [] [1, 2] ?_
   refine aH [] [] 5 13 16 ?_ ?_ ?_
   ·refine Lt 0 [] (([key]).map I) (λ B0 c0 F0 x0 => ?_)
    refine os 0 [] [2, 3] ?_
    exact jd3 [] [] Y0 d0 e0 c0 [0, 1, 2, 3]
   ·refine Lt 0 [] (([kid]).map I) (λ p0 b0 s0 m0 => ?_)
    refine os 0 [] [2, 3] ?_
    exact jd3 [] [] Z0 d0 e0 b0 [0, 1, 2, 3]
   refine Al 0 [] λ n0 a0 o0 l0 => ?_
   refine os 0 [] [2, 3] ?_
   exact jd3 [] [] a1 d0 e0 a0 [0, 1, 2, 3]
  ·refine Lt 0 [] (([key]).map I) (λ B0 c0 F0 x0 => ?_)
   refine os 0 [] [1, 2] ?_
   refine aH [] [] 2 13 16 ?_ ?_ ?_
   ·refine cq 0 [] (b := cD _ _ _ B0 (hRK.at x0) q0) (c := ?_)
    rintro _ H0 ⟨d0, e0, rfl, k0⟩
    have j0 := x0.cl 0 k0
    have G0 := (j0.cap 0 rfl).1
    refine os 0 [] [2, 3] ?_
    exact jd3 [] [] Y0 d0 e0 c0 [1, 0, 2, 3]
   ·refine Lt 0 [] (([kid]).map I) (λ p0 b0 s0 m0 => ?_)
    refine os 0 [] [2, 3] ?_
    exact jd2 [] [] b1 c0 b0 [0, 1, 2, 3]
   refine Al 0 [] λ n0 a0 o0 l0 => ?_
   refine os 0 [] [2, 3] ?_
   exact jd2 [] [] d1 c0 a0 [0, 1, 2, 3]
  ·refine Lt 0 [] (([kid]).map I) (λ p0 b0 s0 m0 => ?_)
   refine os 0 [] [1, 2] ?_
   refine aH [] [] 2 5 16 ?_ ?_ ?_
   ·refine cq 0 [] (b := cD _ _ _ p0 (hRK.at m0) q0) (c := ?_)
    rintro _ H0 ⟨d0, e0, rfl, k0⟩
    have j0 := m0.cl 0 k0
    have G0 := (j0.cap 0 rfl).1
    refine os 0 [] [2, 3] ?_
    exact jd3 [] [] Z0 d0 e0 b0 [1, 0, 2, 3]
   ·refine Lt 0 [] (([key]).map I) (λ B0 c0 F0 x0 => ?_)
    refine os 0 [] [2, 3] ?_
    exact jd2 [] [] b1 c0 b0 [1, 0, 2, 3]
   refine Al 0 [] λ n0 a0 o0 l0 => ?_
   refine os 0 [] [2, 3] ?_
   exact jd2 [] [] e1 b0 a0 [0, 1, 2, 3]
  refine Al 0 [] λ n0 a0 o0 l0 => ?_
  refine os 0 [] [1, 2] ?_
  refine aH [] [] 2 5 13 ?_ ?_ ?_
  ·refine cq 0 [] (b := cD _ _ _ n0 (hRK.at l0) q0) (c := ?_)
   rintro _ H0 ⟨d0, e0, rfl, k0⟩
   have j0 := l0.cl 0 k0
   have G0 := (j0.cap 0 rfl).1
   refine os 0 [] [2, 3] ?_
   exact jd3 [] [] a1 d0 e0 a0 [1, 0, 2, 3]
  ·refine Lt 0 [] (([key]).map I) (λ B0 c0 F0 x0 => ?_)
   refine os 0 [] [2, 3] ?_
   exact jd2 [] [] d1 c0 a0 [1, 0, 2, 3]
  refine Lt 0 [] (([kid]).map I) (λ p0 b0 s0 m0 => ?_)
  refine os 0 [] [2, 3] ?_
  exact jd2 [] [] e1 b0 a0 [1, 0, 2, 3]
 have u2 := (K0.cap 1 rfl).1
 have v2 := (K0.cap 2 rfl).1
 refine cp 4 [0] (b := oE u0 z0 (kl.take pl ++ ([key] ++ kl.drop pl)) v0 A0 (cl.take (pl + 1) ++ ([kid] ++ cl.drop (pl + 1))) f2 (K0.rd 1 rfl) (K0.rd 2 rfl) (by simp only [aA, aB, aI, aG, bA]; omega)) (c := λ z2 k2 => ?_)
 refine cn 2 [] (λ c44 => ?_) (λ c44 => ?_)
 ·have hnob : inB (kl.take pl ++ ([key] ++ kl.drop pl)) (cl.take (pl + 1) ++ ([kid] ++ cl.drop (pl + 1))) = false := by simpa using c44
  refine Sb 3 [] 3 λ B2 l1 => ?_
  refine EG 3 [] ?_
  refine PG (vs := [.agg #[.slice none 0 0, .slice none 0 0], .bool false]) (bX.cell (l := [.slice none 0 0, .slice none 0 0]) rfl (cA (i := 3) (j := 0) l1 rfl rfl) tK rfl (bX.tmp rfl bX.nil)) ?_
  have E1 := Mem.addNil (e := 3) (sz := 1) l1
  have M1 : ([] : List Int) = ([] : List Int) := t2
  have F1 := E1.reM 0 M1 (f := I)
  have G1 := Mem.addNil (e := 3) (sz := 1) F1
  have N1 : ([] : List Int) = ([] : List Int) := t2
  have H1 := G1.reM 0 N1 (f := I)
  exact ⟨([] : List Int), none, 0, ([] : List Int), none, 0, (by rw [hnob]; rfl), (λ h9 => by rw [hnob] at h9; cases h9), (H1.pk [1, 0])⟩
 have hyes : inB (kl.take pl ++ ([key] ++ kl.drop pl)) (cl.take (pl + 1) ++ ([kid] ++ cl.drop (pl + 1))) = true := by simpa using c44
 refine Sb 4 [0] 3 λ C2 m1 => ?_
 refine EG 3 [] ?_
 refine PG (vs := [.agg #[.slice u0 (kl.take pl ++ ([key] ++ kl.drop pl)).length z0, .slice v0 (cl.take (pl + 1) ++ ([kid] ++ cl.drop (pl + 1))).length A0], .bool true]) (bX.cell (l := [.slice u0 (kl.take pl ++ ([key] ++ kl.drop pl)).length z0, .slice v0 (cl.take (pl + 1) ++ ([kid] ++ cl.drop (pl + 1))).length A0]) rfl (cA (i := 3) (j := 0) m1 rfl rfl) tK rfl (bX.tmp rfl bX.nil)) ?_
 have hyb : inB (kl.take pl ++ ([key] ++ kl.drop pl)) (cl.take (pl + 1) ++ ([kid] ++ cl.drop (pl + 1))) = true := hyes
 have I1 := m1.rM 1 ((kl.take pl ++ ([key] ++ kl.drop pl)) : List Int) (e := t2)
 have J1 := I1.rM 2 ((cl.take (pl + 1) ++ ([kid] ++ cl.drop (pl + 1))) : List Int) (e := t2)
 exact ⟨kl.take pl ++ ([key] ++ kl.drop pl), u0, z0, cl.take (pl + 1) ++ ([kid] ++ cl.drop (pl + 1)), v0, A0, (by rw [hyb]; rfl), (λ _ => ⟨rfl, rfl⟩), (J1.pk [1, 2])⟩
theorem uU (T : bN) (key : Int) (w : World) (hNT : TrN w T) (hs : SzT T) (hv : aN T.t = true) :
  aR Tryz.prog 31 [.agg #[I T.root, .slice T.A T.l.length T.cp], I key] w (λ v w1 => ∃ (A1 : Option Addr) (c1 : Nat), v = .slice A1 (aY T.t key).length c1 /\ Mem w w1 [] [oI A1 c1 (aY T.t key)]) := by
 have hM : Mem w w [] [] := Mem.refl
 refine aR.n1 Tryz.func31 rfl Tryz.results31 Tryz.ntmps31 rfl ?_
 have hvk := eF hv
 have hvo := hvk.2.1
 have hv3 := hvk.1
 have hh1 := qE (T := T.t)
 have hs1 := hs.1
 refine Bx 2 [] λ s0 v0 B0 j0 => ?_
 refine cp 6 [0] (b := gS T s0 (hNT.at j0) q0) (c := λ H0 x0 => ?_)
 refine cn 2 [] (λ c9 => ?_) (λ c9 => ?_)
 (exfalso; simp [hv] at c9)
 refine Lt 10 [0] (([T.root]).map I) (λ I0 g0 C0 k0 => ?_)
 have z0 := k0.rM 0 (([] : List Int) ++ [T.root] : List Int) (e := rfl)
 refine lp7 4 [] (λ (pre : List Int) (cur : Int) (e : Nat) (lo2 : Int) (hi2 : Int) (A2 : Option Addr) (c2 : Nat) => ([(5, Vi cur), (6, Vl A2 (pre ++ [cur]).length c2)] : List (Nat × SV))) (λ pre cur e lo2 hi2 A2 c2 => (pre.length + e <= 2) /\ (aY T.t key = pre ++ iY T.t key (e + 1) cur) /\ (okB T.t (e + 1) cur lo2 hi2 = true)) (λ pre cur e lo2 hi2 A2 c2 => [oI A2 c2 (pre ++ [cur])]) (λ pre cur e lo2 hi2 A2 c2 => e) [1, 2] [0] [1] (([] : List Int) : List Int) T.root (bH T.t - 1) (0 : Int) (100 : Int) (bl g0) 1 (λ pre cur e lo2 hi2 A2 c2 σ u0 hI b0 => ?_) (h0 := ⟨t22, (by (try dsimp only); rw [show bH T.t - 1 + 1 = bH T.t by omega]; rfl), (by (try dsimp only); rw [show bH T.t - 1 + 1 = bH T.t by omega]; exact hvo)⟩)
 obtain ⟨G0, e0, p0⟩ := hI
 have F0 := (b0.cap 0 rfl).1
 have hok := p0
 have hpl1 : (pre ++ [cur]).length = pre.length + 1 := by simp
 have hcu := fI.1 (iX hok)
 have hjx : cur.toNat < T.l.length := by omega
 have hgp : gP T.t cur = (T.l[cur.toNat]'hjx).t := jH rfl hjx
 have d0 : cur.toNat < T.l.length := t1
 refine ov 6 [1] (a := cJ d0 (hNT.at b0).1 (h0 := t1)) (b := ?_)
 refine ov 0 [] (a := fZ d0 (hNT.at b0).1) (b := ?_)
 refine ov 0 [] (a := gF d0 (hNT.at b0).1) (b := ?_)
 refine cd 3 [] (λ c21 => ?_) (λ c21 => ?_)
 have hkn : (gP T.t cur).kids ≠ [] := by rw [hgp]; intro e9; exact absurd (show (T.l[cur.toNat]'hjx).c.l.length = 0 from congrArg List.length e9) t1
 have hrl := nL (key := key) hok hkn
 have hpg := qM (key := key) hok hkn
 have hok1 := iC hok hrl
 have hen : e ≠ 0 := λ e9 => hkn ((pL hok).2 e9)
 have hrl2 : gW (T.l[cur.toNat]'hjx).k.l key < (T.l[cur.toNat]'hjx).c.l.length := by have h9 := hrl; rw [hgp] at h9; exact h9
 obtain ⟨kid, hkid⟩ : ∃ z, z = ((T.l[cur.toNat]'hjx).c.l)[gW (T.l[cur.toNat]'hjx).k.l key]'hrl2 := ⟨_, rfl⟩
 have hkk : (gP T.t cur).kids[gW (gP T.t cur).keys key]'hrl = kid := by rw [hkid]; simp only [hgp]; rfl
 rw [hkk] at hpg hok1
 have hsz := hs.at hjx
 have hinb := aEt hv (iX hok) hkn
 rw [hgp] at hinb
 have a0 : cur.toNat < T.l.length := t1
 refine ov 7 [1] (a := cJ a0 (hNT.at b0).1 (h0 := t1)) (b := ?_)
 refine ov 0 [] (a := gL a0 (hNT.at b0).1) (b := ?_)
 refine cp 0 [] (b := iM (T.l[cur.toNat]'a0) u0 ((hNT.at b0).2.get a0)) (c := λ t0 c0 => ?_)
 refine cq 1 [] (b := aDv (T.l[cur.toNat]'a0).k.A (T.l[cur.toNat]'a0).k.cp (T.l[cur.toNat]'a0).k.l (T.l[cur.toNat]'a0).c.A (T.l[cur.toNat]'a0).c.cp (T.l[cur.toNat]'a0).c.l _ t0 ((hNT.at c0).2.get a0).1 ((hNT.at c0).2.get a0).2.1 (by exact ⟨hsz.1, hsz.2.1⟩) (by exact hinb)) (c := ?_)
 rintro _ J0 ⟨r0, o0⟩
 obtain rfl : _ = I kid := r0.trans (I_congr (by rw [hkid]; exact bF hrl2))
 have y0 := c0.cl 0 o0
 refine Lt 5 [] (([kid]).map I) (λ K0 w0 D0 l0 => ?_)
 refine aM 0 [] 1 (l0.rd 0 rfl) (λ L0 f0 i0 E0 m0 => ?_) (hn := t3) (hb := t3)
 have A0 := m0.rM 1 ((pre ++ [cur]) ++ [kid] : List Int) (e := t11)
 exact le7 2 [] (pre ++ [cur]) kid (e - 1) _ _ f0 i0 [1, 2] (h := by exact ⟨t22, (by (try dsimp only); rw [e0, hpg, show e - 1 + 1 = e by omega]; simp), (by (try dsimp only); rw [show e - 1 + 1 = e by omega]; exact hok1)⟩)
 refine E1 7 [] (.slice A2 (pre ++ [cur]).length c2) ?_
 have hk0 : (gP T.t cur).kids = [] := by rw [hgp]; exact aP (by show (T.l[cur.toNat]'hjx).c.l.length = 0; omega)
 have hpe : pre ++ [cur] = aY T.t key := by rw [e0, nI hk0]
 have n0 := b0.rM 0 (aY T.t key : List Int) (e := hpe)
 exact ⟨A2, c2, (sl_congr (by rw [hpe])), (n0.pk [0])⟩
theorem aGk (p : PgL) (w : World) (hNp : PgN w p) (hcp : p.k.l.length <= p.k.cp /\ p.c.l.length <= p.c.cp) (h1k : 2 <= p.k.l.length /\ p.k.l.length <= 1000) (hle : p.c.l = [] -> p.v.l.length = p.k.l.length /\ bW (aV p.t) = true) (hin : p.c.l ≠ [] -> p.c.l.length = p.k.l.length + 1) :
  aR Tryz.prog 36 [.agg #[.slice p.k.A p.k.l.length p.k.cp, .slice p.c.A p.c.l.length p.c.cp, .slice p.v.A p.v.l.length p.v.cp]] w (λ v w1 => ∃ (L1 : List Int) (A1 : Option Addr) (c1 : Nat) (L2 : List Int) (A2 : Option Addr) (c2 : Nat) (L3 : List Int) (A3 : Option Addr) (c3 : Nat) (L4 : List Int) (A4 : Option Addr) (c4 : Nat) (L5 : List Int) (A5 : Option Addr) (c5 : Nat) (L6 : List Int) (A6 : Option Addr) (c6 : Nat), v = .tuple #[.agg #[.slice A1 L1.length c1, .slice A2 L2.length c2, .slice A3 L3.length c3], I (dY p.t).2.1, .agg #[.slice A4 L4.length c4, .slice A5 L5.length c5, .slice A6 L6.length c6]] /\ ((⟨L1, L2, L3⟩ : PgT) = (dY p.t).1) /\ ((⟨L4, L5, L6⟩ : PgT) = (dY p.t).2.2) /\ Mem w w1 [] [oI A1 c1 L1, oI A2 c2 L2, oI A3 c3 L3, oI A4 c4 L4, oI A5 c5 L5, oI A6 c6 L6]) := by
 have hM : Mem w w [] [] := Mem.refl
 refine aR.nG (rs := [.cell 2 42, .tmp 3, .cell 4 42]) Tryz.func36 rfl Tryz.results36 Tryz.ntmps36 rfl ?_
 have hpl : (aV p.t).length = p.k.l.length := dF
 refine Bx 2 [] λ Z1 o1 I1 y1 => ?_
 refine Al 0 [] λ a2 p1 J1 z1 => ?_
 refine Al 1 [] λ E0 q1 K1 u0 => ?_
 refine cd 9 [2] (λ c13 => ?_) (λ c13 => ?_)
 have hk0 : p.c.l = [] := aP t1
 obtain ⟨hvl, hvr⟩ := hle hk0
 have hsp := aGm (p := p.t) hk0
 have hd0 : 0 < ((aV p.t).drop (((aV p.t).length + 1) / 2)).length := by rw [aI, hpl]; omega
 refine cq 3 [2] (b := gD p E0 (hNp.at u0) qo (by exact hvl)) (c := ?_)
 rintro _ f1 ⟨l1, u1, rfl, V0⟩
 have v0 := u0.cl 0 V0
 have O1 := (v0.cap 0 rfl).1
 refine cq 0 [] (b := yA _ _ _ f1 (v0.rd 0 rfl) qo qo (by exact hvr)) (c := ?_)
 rintro _ b2 ⟨m1, v1, n1, x1, rfl, W0⟩
 have A0 := v0.cl 0 W0
 have P1 := (A0.cap 0 rfl).1
 have Q1 := (A0.cap 1 rfl).1
 refine any 7 [] 11 [0, 1, 2, 5] λ h1 k0 => ?_
 have z0 : 0 < ((aV p.t).drop (((aV p.t).length + 1) / 2)).length := hd0
 refine av [0, 2] [] 3 (a := by exact λ _ hw2 => cJ z0 (k0.rd 1 rfl) (h0 := t1)) (b := ?_)
 refine av [] [] 4 (a := by exact λ _ hw2 => fZ z0 (k0.rd 1 rfl)) (b := ?_)
 refine av [] [] 5 (s := Vi (dY p.t).2.1) (a := by exact λ w2 hw2 => cv (Ru.congr (Ru.load1 el3 rfl (ldf dI (hw2.rd 1 rfl) z0 rfl)) (I_congr (by rw [hsp]; exact (qB hd0).symm))) rfl) (b := ?_)
 refine aO [6] [] 1 ?_
 refine cq 0 [] (b := lD _ _ _ h1 (k0.rd 0 rfl) (by first | omega | (simp only [aB, aI, dF]; omega))) (c := ?_)
 rintro _ g1 ⟨m0, q0, o0, s0, rfl, X0⟩
 have j0 := k0.cl 0 X0
 have R1 := (j0.cap 0 rfl).1
 have S1 := (j0.cap 1 rfl).1
 refine os 0 [] [2, 3, 4, 7] ?_
 refine aO [] [] 7 ?_
 refine cq 0 [] (b := lD _ _ _ g1 (j0.rd 3 rfl) (by first | omega | (simp only [aB, aI, dF]; omega))) (c := ?_)
 rintro _ e2 ⟨n0, r0, p0, t0, rfl, Y0⟩
 have B0 := j0.cl 0 Y0
 have T1 := (B0.cap 0 rfl).1
 have U1 := (B0.cap 1 rfl).1
 refine os 0 [] [4, 5, 6, 9] ?_
 refine aO [] [] 8 ?_
 refine Sb 0 [] 8 λ f2 B1 => ?_
 refine os 0 [] [4, 5, 6, 9] ?_
 refine aO [9] [] 10 ?_
 refine Sb 0 [] 7 λ d2 w0 => ?_
 refine os 0 [] [4, 5, 6, 9] ?_
 refine an [] [] ?_
 refine EG 1 [] ?_
 refine PG (vs := [.agg #[.slice m0 (bG ((aV p.t).take (((aV p.t).length + 1) / 2))).length q0, .slice none 0 0, .slice o0 (((aV p.t).take (((aV p.t).length + 1) / 2)).map PairT.val).length s0], I (dY p.t).2.1, .agg #[.slice n0 (bG ((aV p.t).drop (((aV p.t).length + 1) / 2))).length r0, .slice none 0 0, .slice p0 (((aV p.t).drop (((aV p.t).length + 1) / 2)).map PairT.val).length t0]]) (bX.cell (l := [.slice m0 (bG ((aV p.t).take (((aV p.t).length + 1) / 2))).length q0, .slice none 0 0, .slice o0 (((aV p.t).take (((aV p.t).length + 1) / 2)).map PairT.val).length s0]) rfl (cA (i := 8) (j := 0) w0 rfl rfl) tJ rfl (bX.tmp rfl (bX.cell (l := [.slice n0 (bG ((aV p.t).drop (((aV p.t).length + 1) / 2))).length r0, .slice none 0 0, .slice p0 (((aV p.t).drop (((aV p.t).length + 1) / 2)).map PairT.val).length t0]) rfl (cA (i := 7) (j := 0) w0 rfl rfl) tJ rfl bX.nil))) ?_
 have F0 := w0.rM 2 ((bG ((aV p.t).take (((aV p.t).length + 1) / 2))) : List Int) (e := t2)
 have N0 := Mem.addNil (e := 3) (sz := 1) F0
 have d1 : ([] : List Int) = ([] : List Int) := t2
 have O0 := N0.reM 0 d1 (f := I)
 have P0 := O0.rM 4 ((((aV p.t).take (((aV p.t).length + 1) / 2)).map PairT.val) : List Int) (e := t2)
 have Q0 := P0.rM 1 ((bG ((aV p.t).drop (((aV p.t).length + 1) / 2))) : List Int) (e := t2)
 have R0 := Mem.addNil (e := 3) (sz := 1) Q0
 have e1 : ([] : List Int) = ([] : List Int) := t2
 have S0 := R0.reM 0 e1 (f := I)
 have T0 := S0.rM 3 ((((aV p.t).drop (((aV p.t).length + 1) / 2)).map PairT.val) : List Int) (e := t2)
 exact ⟨bG ((aV p.t).take (((aV p.t).length + 1) / 2)), m0, q0, ([] : List Int), none, 0, ((aV p.t).take (((aV p.t).length + 1) / 2)).map PairT.val, o0, s0, bG ((aV p.t).drop (((aV p.t).length + 1) / 2)), n0, r0, ([] : List Int), none, 0, ((aV p.t).drop (((aV p.t).length + 1) / 2)).map PairT.val, p0, t0, (by first | rfl | (rw [hsp]; rfl) | (simp only [hsp]; rfl)), (by rw [hsp]; rfl), (by rw [hsp]; rfl), (T0.pk [4, 1, 5, 2, 0, 3])⟩
 have hk0 : p.c.l ≠ [] := by intro e9; rw [e9] at c13; simp at c13
 have hci := hin hk0
 have hsp := aGl (p := p.t) hk0
 refine cp 4 [2] (b := iM p E0 (hNp.at u0)) (c := λ i1 x0 => ?_)
 refine cq 0 [] (b := vW p.k.A p.k.cp p.k.l p.c.A p.c.cp p.c.l i1 (hNp.at x0).1 (hNp.at x0).2.1 (by exact hcp) qo (by exact hci)) (c := ?_)
 rintro _ h2 ⟨a0, e0, b0, f0, c0, g0, d0, i0, rfl, Z0⟩
 have l0 := x0.cl 0 Z0
 have V1 := (l0.cap 0 rfl).1
 have W1 := (l0.cap 1 rfl).1
 have X1 := (l0.cap 2 rfl).1
 have Y1 := (l0.cap 3 rfl).1
 refine Al 4 [] λ i2 r1 M1 D1 => ?_
 refine Al 0 [] λ j2 s1 N1 E1 => ?_
 refine Sb 0 [] 1 λ k2 F1 => ?_
 refine Sb 1 [] 0 λ g2 C1 => ?_
 refine any 2 [] 8 [0, 1, 2, 3, 4, 5, 8] λ k1 D0 => ?_
 refine aO [0, 2, 3] [1, 0] 1 ?_
 refine cp 0 [] (b := iN a0 e0 (p.k.l.take (p.k.l.length / 2)) b0 f0 (p.c.l.take (p.k.l.length / 2 + 1)) k1 (D0.rd 2 rfl) (D0.rd 3 rfl)) (c := λ j1 C0 => ?_)
 refine os 0 [] [0, 1, 2, 3, 4, 5, 8] ?_
 refine aO [] [] 4 ?_
 refine cp 0 [] (b := iN c0 g0 (p.k.l.drop (p.k.l.length / 2 + 1)) d0 i0 (p.c.l.drop (p.k.l.length / 2 + 1)) j1 (C0.rd 4 rfl) (C0.rd 5 rfl)) (c := λ l2 G1 => ?_)
 refine os 0 [] [0, 1, 2, 3, 4, 5, 8] ?_
 refine aO [] [] 5 ?_
 refine Sb 0 [] 7 λ m2 H1 => ?_
 refine os 0 [] [0, 1, 2, 3, 4, 5, 8] ?_
 refine aO [6] [] 7 ?_
 refine Sb 0 [] 6 λ n2 y0 => ?_
 refine os 0 [] [0, 1, 2, 3, 4, 5, 8] ?_
 refine an [] [] ?_
 refine EG 1 [] ?_
 refine PG (vs := [.agg #[.slice a0 (p.k.l.take (p.k.l.length / 2)).length e0, .slice b0 (p.c.l.take (p.k.l.length / 2 + 1)).length f0, .slice none 0 0], I (p.k.l.getD (p.k.l.length / 2) 0), .agg #[.slice c0 (p.k.l.drop (p.k.l.length / 2 + 1)).length g0, .slice d0 (p.c.l.drop (p.k.l.length / 2 + 1)).length i0, .slice none 0 0]]) (bX.cell (l := [.slice a0 (p.k.l.take (p.k.l.length / 2)).length e0, .slice b0 (p.c.l.take (p.k.l.length / 2 + 1)).length f0, .slice none 0 0]) rfl (cA (i := 7) (j := 0) y0 rfl rfl) tJ rfl (bX.tmp rfl (bX.cell (l := [.slice c0 (p.k.l.drop (p.k.l.length / 2 + 1)).length g0, .slice d0 (p.c.l.drop (p.k.l.length / 2 + 1)).length i0, .slice none 0 0]) rfl (cA (i := 6) (j := 0) y0 rfl rfl) tJ rfl bX.nil))) ?_
 have U0 := y0.rM 2 ((p.k.l.take (p.k.l.length / 2)) : List Int) (e := t2)
 have G0 := U0.rM 3 ((p.c.l.take (p.k.l.length / 2 + 1)) : List Int) (e := t2)
 have H0 := Mem.addNil (e := 3) (sz := 1) G0
 have a1 : ([] : List Int) = ([] : List Int) := t2
 have I0 := H0.reM 0 a1 (f := I)
 have J0 := I0.rM 5 ((p.k.l.drop (p.k.l.length / 2 + 1)) : List Int) (e := t2)
 have K0 := J0.rM 6 ((p.c.l.drop (p.k.l.length / 2 + 1)) : List Int) (e := t2)
 have L0 := Mem.addNil (e := 3) (sz := 1) K0
 have b1 : ([] : List Int) = ([] : List Int) := t2
 have M0 := L0.reM 0 b1 (f := I)
 exact ⟨p.k.l.take (p.k.l.length / 2), a0, e0, p.c.l.take (p.k.l.length / 2 + 1), b0, f0, ([] : List Int), none, 0, p.k.l.drop (p.k.l.length / 2 + 1), c0, g0, p.c.l.drop (p.k.l.length / 2 + 1), d0, i0, ([] : List Int), none, 0, (by first | rfl | (rw [hsp]; rfl) | (simp only [hsp]; rfl)), (by rw [hsp]; rfl), (by rw [hsp]; rfl), (M0.pk [4, 5, 1, 6, 7, 0])⟩
end Go.Proofs.YtemejgglbhjodaaGreatDoor
namespace Go.Proofs.YtemejgglbhjodaaGreatDoor
open Go.Px
set_option maxHeartbeats 8000000 in
theorem aKs (T : bN) (x : PairT) (w : World) (hNT : TrN w T) (hs : SzT T) :
  aR Tryz.prog 12 [.agg #[I T.root, .slice T.A T.l.length T.cp], .agg #[I x.key, I x.val]] w (λ v w1 => ∃ (r1 : Int) (L1 : List PgL) (A1 : Option Addr) (c1 : Nat), v = .tuple #[.agg #[I r1, .slice A1 L1.length c1], .bool (aN T.t && bW [x] && aN (iO T.t x))] /\ ((aN T.t && bW [x] && aN (iO T.t x)) = true -> (⟨r1, tsG L1⟩ : TrT) = iO T.t x) /\ (SzT ⟨r1, A1, c1, L1⟩) /\ (L1.length <= 64) /\ Mem w w1 [] [oG A1 c1 L1, L1.flatMap (pgF 3)]) := by
 have hM : Mem w w [] [] := Mem.refl
 refine aR.nG (rs := [.cell 4 25, .tmp 5]) Tryz.func12 rfl Tryz.results12 Tryz.ntmps12 rfl ?_
 refine Bx 2 [] λ A4 j3 P3 v3 => ?_
 refine Bx 0 [] λ B4 k3 Q3 w3 => ?_
 refine Al 0 [] λ P2 l3 R3 N1 => ?_
 refine cp 6 [2] (b := gS T P2 (hNT.at N1) q0) (c := λ S2 G3 => ?_)
 refine pt 2 [] 23 (λ g23 => ?_) (λ g23 => ?_)
 have hn1 : aN T.t = false := by simpa using g23
 refine Sb 9 [] 0 λ a3 V0 => ?_
 have q1 := Mem.gnil (e := 3) V0
 refine EG 3 [] ?_
 refine PG (vs := [.agg #[I 0, .slice none 0 0], .bool false]) (bX.cell (l := [I 0, .slice none 0 0]) rfl (cA (i := 1) (j := 0) q1 rfl rfl) kH rfl (bX.tmp rfl bX.nil)) ?_
 have hpf : (aN T.t && bW [x] && aN (iO T.t x)) = false := by first | (rw [hn1]; rfl) | (rw [hn2, cX]; rfl) | (rw [hn3, cX])
 have i2 := Mem.addNil (e := 42) (sz := 3) q1
 have L2 : ([] : List PgL) = ([] : List PgL) := t2
 have m2 := i2.reF 0 L2 (f := encPg)
 exact ⟨0, ([] : List PgL), none, 0, (by rw [hpf]; rfl), (λ hb => absurd hb (by rw [hpf]; simp)), (fF t11 t11), t11, (m2.pk [0, 1])⟩
 have hv1 : aN T.t = true := by simpa using g23
 refine cp 1 [1] (b := aLk x S2 ) (c := λ T2 m1 => ?_)
 refine cn 3 [] (λ c27 => ?_) (λ c27 => ?_)
 have hn2 : bW [x] = false := by rw [sK]; simpa using c27
 refine Sb 3 [] 0 λ a3 V0 => ?_
 have x1 := Mem.gnil (e := 3) V0
 refine EG 3 [] ?_
 refine PG (vs := [.agg #[I 0, .slice none 0 0], .bool false]) (bX.cell (l := [I 0, .slice none 0 0]) rfl (cA (i := 1) (j := 0) x1 rfl rfl) kH rfl (bX.tmp rfl bX.nil)) ?_
 have hpf : (aN T.t && bW [x] && aN (iO T.t x)) = false := by first | (rw [hn1]; rfl) | (rw [hn2, cX]; rfl) | (rw [hn3, cX])
 have u2 := Mem.addNil (e := 42) (sz := 3) x1
 have N2 : ([] : List PgL) = ([] : List PgL) := t2
 have v2 := u2.reF 0 N2 (f := encPg)
 exact ⟨0, ([] : List PgL), none, 0, (by rw [hpf]; rfl), (λ hb => absurd hb (by rw [hpf]; simp)), (fF t11 t11), t11, (v2.pk [0, 1])⟩
 have hv2 : bW [x] = true := by rw [sK]; simpa using c27
 have hvk := eF hv1
 have hP := kK (key := x.key) hv1
 have hpp := hP.pos
 have hp3 := hP.le
 have hl16 := fN hv1
 rw [cP] at hl16
 obtain ⟨lf, hlf⟩ : ∃ z, z = gM (aY T.t x.key) := ⟨_, rfl⟩
 have hli := fI.1 (hP.inn ((aY T.t x.key).length - 1) t1)
 rw [show (aY T.t x.key).getD ((aY T.t x.key).length - 1) 0 = lf from hlf.symm] at hli
 have hjl : lf.toNat < T.l.length := by omega
 have hfl := hP.fr ((aY T.t x.key).length - 1) t1
 have hkl := hP.leaf
 rw [show (aY T.t x.key).getD ((aY T.t x.key).length - 1) 0 = lf from hlf.symm] at hfl hkl
 obtain ⟨lo9, hi9, hrg⟩ := path_rg (key := x.key) hv1 (aFm hv2).1 (aFm hv2).2
 refine cq 6 [2, 1] (b := uU T _ T2 (hNT.at m1) q0 (by exact hv1)) (c := ?_)
 rintro _ b3 ⟨g3, s3, rfl, B2⟩
 have W0 := m1.cl 0 B2
 have u4 := (W0.cap 0 rfl).1
 refine cq 5 [3] (b := tQ T b3 (hNT.at W0) q0) (c := ?_)
 rintro _ Y4 ⟨a0, G1, I1, rfl, L0, C2⟩
 have Y1 := W0.cl 0 C2
 have v4 := (Y1.cap 0 rfl).1
 have hLl := nM L0
 have hj4 : lf.toNat < a0.length := by omega
 have htE : (a0[lf.toNat]'hj4).t = (T.l[lf.toNat]'hjl).t := by have h9 := congrArg (λ z => z[lf.toNat]?) L0; simpa [hj4, hjl] using h9
 have hgl : gP T.t lf = (a0[lf.toNat]'hj4).t := (jH rfl hjl).trans htE.symm
 have hvl := (jS hfl hkl).1
 have hrl := gI hfl hkl
 have h4l := iA hfl
 rw [hgl] at hvl hrl h4l
 have hvl0 : (a0[lf.toNat]'hj4).v.l.length = (a0[lf.toNat]'hj4).k.l.length := hvl
 have h4l0 : (a0[lf.toNat]'hj4).k.l.length <= 4 := h4l
 have hpl := wT (l := aV (a0[lf.toNat]'hj4).t) (x := x)
 rw [dF] at hpl
 refine Al 0 [] λ Z4 h1 a4 J3 => ?_
 refine Sb 0 [] 0 λ a5 p1 => ?_
 refine ov 6 [] (a := eV) (b := ?_)
 have e1 : ((aY T.t x.key).length - 1) < (aY T.t x.key).length := t1
 refine ov 0 [] (a := cG e1 (p1.rd 3 rfl) (h0 := t1)) (b := ?_)
 refine ov 0 [] (s := Vi lf) (a := by exact cv (Ru.congr (Ru.load1 el3 rfl (ldm (p1.rd 3 rfl) e1)) (I_congr ((bF e1).symm.trans hlf.symm))) rfl) (b := ?_)
 refine any 3 [] 14 [0, 2, 3, 4, 5, 6] λ e3 M0 => ?_
 have m0 : lf.toNat < a0.length := t1
 refine av [0, 1, 2, 3, 4, 5] [0, 0] 6 (a := by exact λ _ hw2 => cJ m0 (M0.rd 1 rfl) (h0 := t1)) (b := ?_)
 refine aO [9] [4] 7 ?_
 refine ov 0 [] (a := gL m0 (M0.rd 1 rfl)) (b := ?_)
 refine os 0 [] [0, 2, 3, 4, 5, 6] ?_
 refine aO [] [] 8 ?_
 refine cq 0 [] (b := gD (a0[lf.toNat]'m0) e3 ((NsP.mem M0 2 rfl).get m0) qo (by exact hvl0)) (c := ?_)
 rintro _ d3 ⟨i3, u3, rfl, F2⟩
 have Z0 := M0.cl 0 F2
 have z4 := (Z0.cap 0 rfl).1
 refine os 0 [] [1, 3, 4, 5, 6, 7] ?_
 refine aO [] [] 10 ?_
 refine cq 0 [] (b := aFr _ _ _ x d3 (Z0.rd 0 rfl) (by rw [dF]; omega) (by exact (eM.1 hrl).2.2)) (c := ?_)
 rintro _ c3 ⟨h3, t3, rfl, D2⟩
 have X0 := Z0.cl 0 D2
 have w4 := (X0.cap 0 rfl).1
 refine os 0 [] [2, 4, 5, 6, 7, 8] ?_
 refine aO [] [] 11 ?_
 refine cq 0 [] (b := lD _ _ _ c3 (X0.rd 0 rfl) qo) (c := ?_)
 rintro _ b5 ⟨f1, i1, g1, j1, rfl, E2⟩
 have Y0 := X0.cl 0 E2
 have x4 := (Y0.cap 0 rfl).1
 have y4 := (Y0.cap 1 rfl).1
 refine os 0 [] [4, 6, 7, 8, 9, 10] ?_
 have E1 : lf.toNat < a0.length := t1
 refine av [] [] 12 (a := by exact λ _ hw2 => cJ E1 (Y0.rd 5 rfl) (h0 := t1)) (b := ?_)
 refine aO [] [] 13 ?_
 let n0 : PgL := (⟨⟨f1, i1, bG (hH (aV (a0[lf.toNat]'m0).t) x)⟩, ⟨none, 0, []⟩, ⟨g1, j1, (hH (aV (a0[lf.toNat]'m0).t) x).map PairT.val⟩⟩ : PgL)
 refine sF 0 [] 5 n0 E1 λ c5 Z1 => ?_
 refine os 0 [] [4, 6, 7, 8, 9, 10] ?_
 refine an [] [] ?_
 have w2 := Mem.addNil (e := 3) (sz := 1) Z1
 have a2 := Mem.gset (k := ⟨f1, i1, bG (hH (aV (a0[lf.toNat]'m0).t) x)⟩) (c := ⟨none, 0, []⟩) (v := ⟨g1, j1, (hH (aV (a0[lf.toNat]'m0).t) x).map PairT.val⟩) lf.toNat (w2.pk [7, 1, 0, 2, 3, 4, 5, 6, 8, 9, 10, 11])
 have e2 := a2.rF 4 (a0.set lf.toNat n0 : List PgL) (e := rfl)
 have f2 := e2.reB 3 1 (show a0.length = (a0.set lf.toNat n0).length from t2)
 refine ov 5 [] (a := eV) (b := ?_)
 have M3 := f2.rF 4 ((a0.set lf.toNat n0) : List PgL) (e := t2)
 refine lp5 3 [] (λ (a : Nat) (rt : Int) (Ch : List PgL) (A2 : Option Addr) (c2 : Nat) => ([(9, Vi (((a : Nat) : Int) - 1))] : List (Nat × SV))) (λ a rt Ch A2 c2 => (GI T.t (aY T.t x.key) a (⟨rt, tsG Ch⟩ : TrT)) /\ (nC (aY T.t x.key) a (⟨rt, tsG Ch⟩ : TrT) = iO T.t x) /\ (OI (aY T.t x.key) lo9 hi9 a (⟨rt, tsG Ch⟩ : TrT))) (λ a rt Ch A2 c2 => [Ch.flatMap (pgF 3), [⟨.slice (bl h1) 1 1, 25, 2, 1, [I rt, .slice A2 Ch.length c2]⟩], oG A2 c2 Ch]) (λ a rt Ch A2 c2 => a) [4, 6, 7] [0, 3, 4] [1, 2, 5, 6, 7, 8] (aY T.t x.key).length T.root (a0.set lf.toNat n0) G1 I1 (λ a rt Ch A2 c2 σ F1 hI b0 => ?_) (h0 := ⟨(by (try dsimp only); rw [show (⟨T.root, tsG (a0.set lf.toNat n0)⟩ : TrT) = kP T.t (aY T.t x.key) x from (by rw [cV, L0]; unfold kP cF; rw [<- hlf, hgl]; rfl)]; exact GI.start hv1 hP hv2), (by (try dsimp only); rw [show (⟨T.root, tsG (a0.set lf.toNat n0)⟩ : TrT) = kP T.t (aY T.t x.key) x from (by rw [cV, L0]; unfold kP cF; rw [<- hlf, hgl]; rfl)]; exact rfl), (by (try dsimp only); rw [show (⟨T.root, tsG (a0.set lf.toNat n0)⟩ : TrT) = kP T.t (aY T.t x.key) x from (by rw [cV, L0]; unfold kP cF; rw [<- hlf, hgl]; rfl)]; exact OI.start hv1 hP hv2 hrg)⟩)
 obtain ⟨H2, N0, y1⟩ := hI
 have d4 := (b0.cap 2 rfl).1
 have f4 := (b0.cap 3 rfl).1
 have g4 := (b0.cap 4 rfl).1
 have h4 := (b0.cap 5 rfl).1
 have hG := H2
 have ha1 := hG.a1
 obtain ⟨cur, hcu⟩ : ∃ z, z = (aY T.t x.key).getD (a - 1) 0 := ⟨_, rfl⟩
 have hcl := hG.len
 simp only [cP, bC] at hcl
 have hci := aX.1 (hG.curIn hP (k := a - 1) t1)
 simp only [bC] at hci
 rw [<- hcu] at hci
 have hjc : cur.toNat < Ch.length := by omega
 have hgc : gP (⟨rt, tsG Ch⟩ : TrT) cur = (Ch[cur.toNat]'hjc).t := jW hjc
 have hcr := hG.cur
 rw [<- hcu, hgc] at hcr
 have hk5 : (Ch[cur.toNat]'hjc).k.l.length <= 5 := hcr.1
 obtain ⟨sp, hsp⟩ : ∃ z, z = dY (Ch[cur.toNat]'hjc).t := ⟨_, rfl⟩
 have hsp0 := hsp
 refine cd 6 [] (λ c58 => ?_) (λ c58 => ?_)
 have b1 : (a - 1) < (aY T.t x.key).length := t1
 refine ov 7 [] (a := cG b1 (b0.rd 5 rfl) (h0 := t1)) (b := ?_)
 refine ov 0 [] (s := Vi cur) (a := by exact cv (Ru.congr (Ru.load1 el3 rfl (ldm (b0.rd 5 rfl) b1)) (I_congr ((bF b1).symm.trans hcu.symm))) rfl) (b := ?_)
 have d1 : cur.toNat < Ch.length := t1
 refine ov 8 [1] (a := cJ d1 (b0.rd 2 rfl) (h0 := t1)) (b := ?_)
 refine ov 0 [] (a := fZ d1 (b0.rd 2 rfl)) (b := ?_)
 refine ov 0 [] (a := gF d1 (b0.rd 2 rfl)) (b := ?_)
 refine cd 3 [] (λ c72 => ?_) (λ c72 => ?_)
 have hgs := vG (R := (⟨rt, tsG Ch⟩ : TrT)) (P := (aY T.t x.key)) (a := a) t1 (by rw [<- hcu, hgc]; show (Ch[cur.toNat]'hjc).k.l.length <= 4; omega)
 have hrs : (⟨rt, tsG Ch⟩ : TrT) = iO T.t x := by rw [<- N0, hgs]
 have hsz9 := aCw (A := A2) (c := c2) hv1 hv2 hrs
 have hvs9 : aN (bN.t ⟨rt, A2, c2, Ch⟩) = aN (iO T.t x) := congrArg aN hrs
 refine cp 5 [1] (b := gS (⟨rt, A2, c2, Ch⟩ : bN) F1 ⟨(b0.rd 2 rfl), (NsP.mem b0 0 rfl)⟩ (by exact hsz9.1)) (c := λ X2 X1 => ?_)
 refine cn 2 [] (λ c151 => ?_) (λ c151 => ?_)
 have hn3 : aN (iO T.t x) = false := by rw [<- hvs9]; simpa using c151
 refine Sb 3 [] 6 λ Y2 U0 => ?_
 have s1 := Mem.gnil (e := 3) U0
 refine EG 3 [] ?_
 refine PG (vs := [.agg #[I 0, .slice none 0 0], .bool false]) (bX.cell (l := [I 0, .slice none 0 0]) rfl (cA (i := 7) (j := 0) s1 rfl rfl) kH rfl (bX.tmp rfl bX.nil)) ?_
 have hpf : (aN T.t && bW [x] && aN (iO T.t x)) = false := by first | (rw [hn1]; rfl) | (rw [hn2, cX]; rfl) | (rw [hn3, cX])
 have g2 := Mem.addNil (e := 42) (sz := 3) s1
 have J2 : ([] : List PgL) = ([] : List PgL) := t2
 have h2 := g2.reF 0 J2 (f := encPg)
 exact ⟨0, ([] : List PgL), none, 0, (by rw [hpf]; rfl), (λ hb => absurd hb (by rw [hpf]; simp)), (fF t11 t11), t11, (h2.pk [0, 1])⟩
 have hv3 : aN (iO T.t x) = true := by rw [<- hvs9]; simpa using c151
 refine Sb 4 [1] 6 λ Z2 K0 => ?_
 refine EG 3 [] ?_
 refine PG (vs := [.agg #[I rt, .slice A2 Ch.length c2], .bool true]) (bX.cell (l := [I rt, .slice A2 Ch.length c2]) rfl (cA (i := 6) (j := 0) K0 rfl rfl) kH rfl (bX.tmp rfl bX.nil)) ?_
 have hpf : (aN T.t && bW [x] && aN (iO T.t x)) = true := by rw [hv1, hv2, hv3]; rfl
 exact ⟨rt, Ch, A2, c2, (by rw [hpf]; rfl), (λ _ => hrs), hsz9.1, (by have := hsz9.2; omega), (K0.pk [2, 0])⟩
 have hgc12 := b0.gcap 0 rfl hjc
 have hle9 : (Ch[cur.toNat]'hjc).c.l = [] -> (Ch[cur.toNat]'hjc).v.l.length = (Ch[cur.toNat]'hjc).k.l.length /\ bW (aV (Ch[cur.toNat]'hjc).t) = true := λ hk0 => by rcases hcr.2 with h9 | h9; exact h9.2; (exfalso; have h8 := h9.1; rw [show (Ch[cur.toNat]'hjc).t.kids = [] from hk0] at h8; simp at h8)
 have hin9 : (Ch[cur.toNat]'hjc).c.l ≠ [] -> (Ch[cur.toNat]'hjc).c.l.length = (Ch[cur.toNat]'hjc).k.l.length + 1 := λ hk0 => by rcases hcr.2 with h9 | h9; exact absurd h9.1 hk0; exact h9.1
 have O0 : cur.toNat < Ch.length := t1
 refine ov 6 [1] (a := cJ O0 (b0.rd 2 rfl) (h0 := t1)) (b := ?_)
 refine ov 0 [] (a := gL O0 (b0.rd 2 rfl)) (b := ?_)
 refine cq 0 [] (b := aGk (Ch[cur.toNat]'O0) F1 ((NsP.mem b0 0 rfl).get O0) (by exact ⟨hgc12.1, hgc12.2.1⟩) qo (by exact hle9) (by exact hin9)) (c := ?_)
 rintro _ G4 ⟨y0, s0, E0, z0, t0, F0, A0, u0, G0, B0, v0, H0, C0, w0, I0, D0, x0, J0, rfl, K1, M1, x2⟩
 have r0 := b0.cl 0 x2
 have l4 := (r0.cap 0 rfl).1
 have m4 := (r0.cap 1 rfl).1
 have n4 := (r0.cap 2 rfl).1
 have o4 := (r0.cap 3 rfl).1
 have p4 := (r0.cap 4 rfl).1
 have q4 := (r0.cap 5 rfl).1
 refine Al 4 [] λ C4 m3 S3 x3 => ?_
 refine Al 0 [] λ D4 n3 T3 y3 => ?_
 refine Sb 0 [] 1 λ E4 z3 => ?_
 refine Sb 1 [] 0 λ F4 O1 => ?_
 have B1 : cur.toNat < Ch.length := t1
 refine ov 14 [9, 9, 1] (a := cJ B1 (O1.rd 10 rfl) (h0 := t1)) (b := ?_)
 refine sF 0 [] 10 (⟨⟨s0, E0, y0⟩, ⟨t0, F0, z0⟩, ⟨u0, G0, A0⟩⟩ : PgL) B1 λ H4 P1 => ?_
 have K3 := Mem.gset (k := ⟨s0, E0, y0⟩) (c := ⟨t0, F0, z0⟩) (v := ⟨u0, G0, A0⟩) cur.toNat (P1.pk [8, 2, 3, 4, 0, 1, 5, 6, 7, 9, 10, 11, 12, 13, 14, 15, 16])
 refine ct3 1 [] (λ (Ch2 : List PgL) (A2 : Option Addr) (c2 : Nat) => ([(12, Vi sp.2.1), (14, Vi (Ch.length : Int))] : List (Nat × SV))) (λ Ch2 A2 c2 => ((⟨rt, tsG Ch2⟩ : TrT) = iV (cF (⟨rt, tsG Ch⟩ : TrT) cur sp.1) sp.2.2)) (λ Ch2 A2 c2 => [Ch2.flatMap (pgF 3), [⟨.slice (bl h1) 1 1, 25, 2, 1, [I rt, .slice A2 Ch2.length c2]⟩], oG A2 c2 Ch2]) [4, 6, 7, 9, 10] [1, 2, 8, 9, 10, 11, 12, 13] ?_ (λ Ch2 A2 c2 σ f3 hI d0 => ?_)
 refine Lt 4 [6, 1] (([(⟨⟨v0, H0, B0⟩, ⟨w0, I0, C0⟩, ⟨x0, J0, D0⟩⟩ : PgL)]).flatMap encPg) (λ I4 o3 U3 Q1 => ?_)
 refine aF 0 [] 8 (Q1.rd 0 rfl) (λ J4 H1 J1 b4 A3 => ?_) (hn := t4) (hb := t4)
 refine Sb 1 [] 7 λ K4 R1 => ?_
 have b2 := Mem.gapp (k := ⟨v0, H0, B0⟩) (c := ⟨w0, I0, C0⟩) (v := ⟨x0, J0, D0⟩) (R1.pk [1, 4, 5, 6, 0, 2, 3, 7, 8, 9, 10, 11, 12, 13, 14])
 have hR1 : (⟨rt, tsG (Ch.set cur.toNat (⟨⟨s0, E0, y0⟩, ⟨t0, F0, z0⟩, ⟨u0, G0, A0⟩⟩ : PgL) ++ [(⟨⟨v0, H0, B0⟩, ⟨w0, I0, C0⟩, ⟨x0, J0, D0⟩⟩ : PgL)])⟩ : TrT) = iV (cF (⟨rt, tsG Ch⟩ : TrT) cur sp.1) sp.2.2 := by rw [gJ, cV, hsp]; unfold iV cF; rw [<- K1, <- M1]; rfl
 have N3 := b2.rF 5 ((Ch.set cur.toNat (⟨⟨s0, E0, y0⟩, ⟨t0, F0, z0⟩, ⟨u0, G0, A0⟩⟩ : PgL) ++ [(⟨⟨v0, H0, B0⟩, ⟨w0, I0, C0⟩, ⟨x0, J0, D0⟩⟩ : PgL)]) : List PgL) (e := t2)
 exact ce3 1 [] (Ch.set cur.toNat (⟨⟨s0, E0, y0⟩, ⟨t0, F0, z0⟩, ⟨u0, G0, A0⟩⟩ : PgL) ++ [(⟨⟨v0, H0, B0⟩, ⟨w0, I0, C0⟩, ⟨x0, J0, D0⟩⟩ : PgL)]) H1 J1 [0, 4, 5, 2, 3, 6, 7, 8, 9, 10, 11] (hL := by exact (Has.cons (I_congr (by first | rfl | omega | rw [hsp])) (Has.cons (I_congr (by first | rfl | omega | rw [hsp])) Has.nil))) (h := by exact hR1)
 have I2 := hI
 have e4 := (d0.cap 2 rfl).1
 have i4 := (d0.cap 5 rfl).1
 have j4 := (d0.cap 6 rfl).1
 have k4 := (d0.cap 7 rfl).1
 have hR1 := I2
 have hle : Ch2.length = Ch.length + 1 := by have h9 := congrArg (λ z => z.pages.length) hR1; simpa [iV, cF] using h9
 refine cd 6 [] (λ c98 => ?_) (λ c98 => ?_)
 refine Lt 3 [] (([sp.2.1]).map I) (λ L4 Q0 V3 B3 => ?_)
 refine Lt 2 [] (([cur, (Ch.length : Int)]).map I) (λ Q2 R0 W3 k1 => ?_)
 refine cp 1 [] (b := iN (bl Q0) 1 [sp.2.1] (bl R0) 2 [cur, (Ch.length : Int)] Q2 (k1.rd 1 rfl) (k1.rd 0 rfl)) (c := λ M4 C3 => ?_)
 refine Al 0 [] λ N4 p3 X3 D3 => ?_
 refine Sb 0 [] 0 λ O4 E3 => ?_
 let e0 : PgL := (⟨⟨bl Q0, 1, [sp.2.1]⟩, ⟨bl R0, 2, [cur, (Ch.length : Int)]⟩, ⟨none, 0, []⟩⟩ : PgL)
 refine Lt 6 [4, 0] (([e0]).flatMap encPg) (λ P4 q3 Y3 S1 => ?_)
 refine aF 0 [] 6 (S1.rd 0 rfl) (λ Q4 o0 p0 c4 F3 => ?_) (hn := t4) (hb := t4)
 refine Sb 1 [] 5 λ R4 T1 => ?_
 have j2 := Mem.addNil (e := 3) (sz := 1) T1
 have L3 := Mem.gapp (k := ⟨bl Q0, 1, [sp.2.1]⟩) (c := ⟨bl R0, 2, [cur, (Ch.length : Int)]⟩) (v := ⟨none, 0, []⟩) (j2.pk [5, 4, 3, 0, 1, 2, 6, 7, 8, 9, 10, 11, 12, 13, 14, 15])
 have hR2 : (⟨rt, tsG (Ch2 ++ [e0])⟩ : TrT) = iV (⟨rt, tsG Ch2⟩ : TrT) (dP [sp.2.1] [cur, (Ch.length : Int)]) := by rw [gJ]; rfl
 refine ov 4 [] (a := bL (Ch.length + 1)) (b := ?_)
 refine Sb 1 [] 3 λ R2 l1 => ?_
 have ha0 : a = 1 := by omega
 subst ha0
 have hgr := vF (R := (⟨rt, tsG Ch⟩ : TrT)) (P := (aY T.t x.key)) (by rw [show (1 : Nat) - 1 = 0 from rfl] at hcu; rw [<- hcu, hgc]; show ¬ (Ch[cur.toNat]'hjc).k.l.length <= 4; omega)
 rw [show (1 : Nat) - 1 = 0 from rfl] at hcu
 rw [<- hcu, hgc, <- hsp0, <- hR1] at hgr
 have hrs : (⟨(((Ch.length + 1) : Nat) : Int), tsG (Ch2 ++ [e0])⟩ : TrT) = iO T.t x := by rw [<- N0, hgr]; have h9 := congrArg TrT.pages hR2; rw [show tsG (Ch2 ++ [e0]) = _ from h9]; simp only [bC]; rfl
 have hsz9 := aCw (A := o0) (c := p0) hv1 hv2 hrs
 have hvs9 : aN (bN.t ⟨(((Ch.length + 1) : Nat) : Int), o0, p0, Ch2 ++ [e0]⟩) = aN (iO T.t x) := congrArg aN hrs
 refine cp 6 [3] (b := gS (⟨(((Ch.length + 1) : Nat) : Int), o0, p0, Ch2 ++ [e0]⟩ : bN) R2 ⟨(l1.rd 4 rfl), (NsP.mem l1 0 rfl)⟩ (by exact hsz9.1)) (c := λ X2 X1 => ?_)
 refine cn 2 [] (λ c151 => ?_) (λ c151 => ?_)
 have hn3 : aN (iO T.t x) = false := by rw [<- hvs9]; simpa using c151
 refine Sb 3 [] 10 λ Y2 U0 => ?_
 have u1 := Mem.gnil (e := 3) U0
 refine EG 3 [] ?_
 refine PG (vs := [.agg #[I 0, .slice none 0 0], .bool false]) (bX.cell (l := [I 0, .slice none 0 0]) rfl (cA (i := 11) (j := 0) u1 rfl rfl) kH rfl (bX.tmp rfl bX.nil)) ?_
 have hpf : (aN T.t && bW [x] && aN (iO T.t x)) = false := by first | (rw [hn1]; rfl) | (rw [hn2, cX]; rfl) | (rw [hn3, cX])
 have k2 := Mem.addNil (e := 42) (sz := 3) u1
 have K2 : ([] : List PgL) = ([] : List PgL) := t2
 have l2 := k2.reF 0 K2 (f := encPg)
 exact ⟨0, ([] : List PgL), none, 0, (by rw [hpf]; rfl), (λ hb => absurd hb (by rw [hpf]; simp)), (fF t11 t11), t11, (l2.pk [0, 1])⟩
 have hv3 : aN (iO T.t x) = true := by rw [<- hvs9]; simpa using c151
 refine Sb 4 [3] 10 λ Z2 K0 => ?_
 refine EG 3 [] ?_
 refine PG (vs := [.agg #[I (((Ch.length + 1) : Nat) : Int), .slice o0 (Ch2 ++ [e0]).length p0], .bool true]) (bX.cell (l := [I (((Ch.length + 1) : Nat) : Int), .slice o0 (Ch2 ++ [e0]).length p0]) rfl (cA (i := 10) (j := 0) K0 rfl rfl) kH rfl (bX.tmp rfl bX.nil)) ?_
 have hpf : (aN T.t && bW [x] && aN (iO T.t x)) = true := by rw [hv1, hv2, hv3]; rfl
 have n2 := K0.rF 4 ((Ch2 ++ [e0]) : List PgL) (e := t2)
 exact ⟨(((Ch.length + 1) : Nat) : Int), Ch2 ++ [e0], o0, p0, (by rw [hpf]; rfl), (λ _ => hrs), hsz9.1, (by have := hsz9.2; omega), (n2.pk [4, 0])⟩
 have ha2 : 2 <= a := by omega
 have hab := hG.above hP ha2 (q := sp.1) (r := sp.2.2)
 obtain ⟨up9, hup⟩ : ∃ z, z = (aY T.t x.key).getD (a - 2) 0 := ⟨_, rfl⟩
 rw [<- hcu, <- hup, <- hR1] at hab
 have hin2 := tC hP ha2 ha1.2
 rw [<- hcu, <- hup] at hin2
 have hui := aX.1 (hG.curIn hP (k := a - 2) t1)
 refine go 2 [] ?_
 simp only [bC] at hui
 rw [<- hup] at hui
 have hju : up9.toNat < Ch2.length := by omega
 have hgu9 : gP (⟨rt, tsG Ch2⟩ : TrT) up9 = (Ch2[up9.toNat]'hju).t := jW hju
 rw [hgu9] at hab
 rw [<- hab] at hin2
 obtain ⟨hin3, hin4, hin5, hin6⟩ := hin2
 have hin4 : (Ch2[up9.toNat]'hju).c.l.length = (Ch2[up9.toNat]'hju).k.l.length + 1 := hin4
 have hin5 : (Ch2[up9.toNat]'hju).k.l.length <= 4 := hin5
 have hpk := uD (l := (Ch2[up9.toNat]'hju).c.l) (n := cur) (m := (Ch2[up9.toNat]'hju).k.l.length) hin3 hin4
 obtain ⟨pk9, hpk9⟩ := Int.eq_ofNat_of_zero_le hpk.1
 have hinb := aEt hv1 (i := up9) (by rw [hup]; exact hP.inn (a - 2) t1) (by rw [<- hab]; intro e9; have h8 := congrArg List.length e9; exact absurd (show (Ch2[up9.toNat]'hju).c.l.length = 0 from h8) t1)
 rw [<- hab] at hinb
 have z1 : (kN (gP T.t up9) (dE (gP T.t up9).kids cur) sp.2.1 (Ch.length : Int)) = kN (gP T.t ((aY T.t x.key).getD (a - 2) 0)) (dE (gP T.t ((aY T.t x.key).getD (a - 2) 0)).kids ((aY T.t x.key).getD (a - 1) 0)) (dY (gP (⟨rt, tsG Ch⟩ : TrT) ((aY T.t x.key).getD (a - 1) 0))).2.1 (Ch.length : Int) := by rw [<- hup, <- hcu, hgc, <- hsp0]
 have hadk : (kN (gP T.t up9) (dE (gP T.t up9).kids cur) sp.2.1 (Ch.length : Int)).keys = (Ch2[up9.toNat]'hju).k.l.take pk9 ++ ([sp.2.1] ++ (Ch2[up9.toNat]'hju).k.l.drop pk9) /\ (kN (gP T.t up9) (dE (gP T.t up9).kids cur) sp.2.1 (Ch.length : Int)).kids = (Ch2[up9.toNat]'hju).c.l.take (pk9 + 1) ++ ([(Ch.length : Int)] ++ (Ch2[up9.toNat]'hju).c.l.drop (pk9 + 1)) /\ (kN (gP T.t up9) (dE (gP T.t up9).kids cur) sp.2.1 (Ch.length : Int)).vals = [] := by rw [<- hab]; unfold kN; rw [show dE (Ch2[up9.toNat]'hju).t.kids cur = (pk9 : Int) from hpk9]; exact ⟨by simp [dP, PgL.t], by simp [dP, PgL.t], rfl⟩
 have hgu := aCd ha2 hG hP (by rw [<- hcu, hgc]; show ¬ (Ch[cur.toNat]'hjc).k.l.length <= 4; omega) (q := (kN (gP T.t up9) (dE (gP T.t up9).kids cur) sp.2.1 (Ch.length : Int))) (by rw [<- hup, <- hcu, hgc, <- hsp0]; simp)
 rw [<- hcu, <- hup, hgc, <- hsp0, <- hR1] at hgu
 refine ov 3 [] (a := eV) (b := ?_)
 have C1 : (a - 1 - 1) < (aY T.t x.key).length := t1
 refine ov 0 [] (a := cG C1 (d0.rd 7 rfl) (h0 := t1)) (b := ?_)
 refine ov 0 [] (s := Vi up9) (a := by exact cv (Ru.congr (Ru.load1 el3 rfl (ldm (d0.rd 7 rfl) C1)) (I_congr (by rw [hup, show a - 2 = a - 1 - 1 by omega, bF (show a - 1 - 1 < (aY T.t x.key).length by omega)]))) rfl) (b := ?_)
 have P0 : up9.toNat < Ch2.length := hju
 refine ov 7 [1] (a := cJ P0 (d0.rd 2 rfl) (h0 := t1)) (b := ?_)
 refine ov 0 [] (a := gL P0 (d0.rd 2 rfl)) (b := ?_)
 refine cq 1 [] (b := rW (Ch2[up9.toNat]'P0) _ f3 ((NsP.mem d0 0 rfl).get P0) qo) (c := ?_)
 rintro _ U2 ⟨O2, y2⟩
 obtain rfl : _ = I ((pk9 : Nat) : Int) := O2.trans (I_congr hpk9)
 have S0 := d0.cl 0 y2
 have c0 : up9.toNat < Ch2.length := hju
 refine ov 7 [1] (a := cJ c0 (S0.rd 2 rfl) (h0 := t1)) (b := ?_)
 refine ov 0 [] (a := gL c0 (S0.rd 2 rfl)) (b := ?_)
 refine cp 0 [] (b := iM (Ch2[up9.toNat]'c0) U2 ((NsP.mem S0 0 rfl).get c0)) (c := λ V2 T0 => ?_)
 refine cq 3 [] (b := aKm (Ch2[up9.toNat]'c0).k.A (Ch2[up9.toNat]'c0).k.cp (Ch2[up9.toNat]'c0).k.l (Ch2[up9.toNat]'c0).c.A (Ch2[up9.toNat]'c0).c.cp (Ch2[up9.toNat]'c0).c.l _ _ _ V2 ((NsP.mem T0 0 rfl).get c0).1 ((NsP.mem T0 0 rfl).get c0).2.1 qo (by exact hinb) qo) (c := ?_)
 rintro _ U4 ⟨f0, i0, k0, g0, j0, l0, rfl, G2, z2⟩
 have n1 := T0.cl 0 z2
 have r4 := (n1.cap 0 rfl).1
 have s4 := (n1.cap 1 rfl).1
 refine Al 3 [] λ S4 r3 Z3 H3 => ?_
 refine Sb 0 [] 0 λ T4 I3 => ?_
 refine cn 8 [] (λ c141 => ?_) (λ c141 => ?_)
 have h16 : ¬ (Ch.length : Int) < 16 := λ h9 => by have h8 := add_inB ha2 ha1.2 hv1 hP hrg hG.cur y1 (by rw [<- hcu, hgc]; show ¬ (Ch[cur.toNat]'hjc).k.l.length <= 4; omega) (Ch.length : Int) z1 (by rw [cP]; omega) h9; rw [hadk.1, hadk.2.1] at h8; exact absurd h8 (by simpa using c141)
 have hgl9 := aEr (aY T.t x.key) (a - 1) (cF (⟨rt, tsG Ch2⟩ : TrT) up9 (kN (gP T.t up9) (dE (gP T.t up9).kids cur) sp.2.1 (Ch.length : Int)))
 have hsl9 : (cF (⟨rt, tsG Ch2⟩ : TrT) up9 (kN (gP T.t up9) (dE (gP T.t up9).kids cur) sp.2.1 (Ch.length : Int))).pages.length = Ch.length + 1 := by simp [cF, hle]
 have hn3 : aN (iO T.t x) = false := aPk (by rw [<- N0, hgu]; omega)
 refine Sb 3 [] 11 λ V4 U1 => ?_
 have v1 := Mem.gnil (e := 3) U1
 refine EG 3 [] ?_
 refine PG (vs := [.agg #[I 0, .slice none 0 0], .bool false]) (bX.cell (l := [I 0, .slice none 0 0]) rfl (cA (i := 12) (j := 0) v1 rfl rfl) kH rfl (bX.tmp rfl bX.nil)) ?_
 have hpf : (aN T.t && bW [x] && aN (iO T.t x)) = false := by first | (rw [hn1]; rfl) | (rw [hn2, cX]; rfl) | (rw [hn3, cX])
 have o2 := Mem.addNil (e := 42) (sz := 3) v1
 have M2 : ([] : List PgL) = ([] : List PgL) := t2
 have p2 := o2.reF 0 M2 (f := encPg)
 exact ⟨0, ([] : List PgL), none, 0, (by rw [hpf]; rfl), (λ hb => absurd hb (by rw [hpf]; simp)), (fF t11 t11), t11, (p2.pk [0, 1])⟩
 have hLL := G2 (by simpa using c141)
 have hpgE : (⟨f0, g0, []⟩ : PgT) = (kN (gP T.t up9) (dE (gP T.t up9).kids cur) sp.2.1 (Ch.length : Int)) := pg_mk (hadk.1.trans hLL.1.symm) (hadk.2.1.trans hLL.2.symm) hadk.2.2
 refine any 1 [] 7 [0, 1, 2, 3, 4, 6, 7, 8, 9, 10, 11, 12, 13] λ W2 o1 => ?_
 refine aO [0, 1, 2, 3] [4, 0] 4 ?_
 refine cp 0 [] (b := iN i0 k0 f0 j0 l0 g0 W2 (o1.rd 1 rfl) (o1.rd 2 rfl)) (c := λ W4 V1 => ?_)
 refine os 0 [] [0, 1, 2, 3, 4, 6, 7, 8, 9, 10, 11, 12, 13] ?_
 have D1 : up9.toNat < Ch2.length := hju
 refine av [] [] 5 (a := by exact λ _ hw2 => cJ D1 (V1.rd 5 rfl) (h0 := t1)) (b := ?_)
 refine aO [] [] 6 ?_
 refine sF 0 [] 5 (⟨⟨i0, k0, f0⟩, ⟨j0, l0, g0⟩, ⟨none, 0, []⟩⟩ : PgL) D1 λ X4 W1 => ?_
 refine os 0 [] [0, 1, 2, 3, 4, 6, 7, 8, 9, 10, 11, 12, 13] ?_
 refine an [] [] ?_
 have q2 := Mem.addNil (e := 3) (sz := 1) W1
 have d2 := Mem.gset (k := ⟨i0, k0, f0⟩) (c := ⟨j0, l0, g0⟩) (v := ⟨none, 0, []⟩) up9.toNat (q2.pk [4, 2, 3, 0, 1, 5, 6, 7, 8, 9, 10, 11, 12, 13, 14])
 have hR3 : (⟨rt, tsG (Ch2.set up9.toNat (⟨⟨i0, k0, f0⟩, ⟨j0, l0, g0⟩, ⟨none, 0, []⟩⟩ : PgL))⟩ : TrT) = cF (⟨rt, tsG Ch2⟩ : TrT) up9 (kN (gP T.t up9) (dE (gP T.t up9).kids cur) sp.2.1 (Ch.length : Int)) := by rw [cV, <- hpgE]; rfl
 have hGn := hG.next hP ha2 (q := (kN (gP T.t up9) (dE (gP T.t up9).kids cur) sp.2.1 (Ch.length : Int))) (by rw [<- hup, <- hcu, hgc, <- hsp0]; simp)
 rw [<- hcu, <- hup, hgc, <- hsp0, <- hR1, <- hR3] at hGn
 rw [<- hR3] at hgu
 have hao9 := aAb ha2 ha1.2 hP hrg hG.cur y1 (by rw [<- hcu, hgc]; show ¬ (Ch[cur.toNat]'hjc).k.l.length <= 4; omega) (Ch.length : Int) z1
 have hOn : OI (aY T.t x.key) lo9 hi9 (a - 1) (cF (⟨rt, tsG Ch2⟩ : TrT) up9 (kN (gP T.t up9) (dE (gP T.t up9).kids cur) sp.2.1 (Ch.length : Int))) := OI.next hao9.1 hao9.2.1 (by rw [<- hup]; exact fH (aX.2 ⟨t1, by simp only [bC]; omega⟩))
 rw [<- hR3] at hOn
 have r2 := d2.rF 3 (Ch2.set up9.toNat (⟨⟨i0, k0, f0⟩, ⟨j0, l0, g0⟩, ⟨none, 0, []⟩⟩ : PgL) : List PgL) (e := rfl)
 have s2 := r2.reB 2 1 (show Ch2.length = (Ch2.set up9.toNat (⟨⟨i0, k0, f0⟩, ⟨j0, l0, g0⟩, ⟨none, 0, []⟩⟩ : PgL)).length from t2)
 refine ov 2 [] (a := eV) (b := ?_)
 have O3 := s2.rF 3 ((Ch2.set up9.toNat (⟨⟨i0, k0, f0⟩, ⟨j0, l0, g0⟩, ⟨none, 0, []⟩⟩ : PgL)) : List PgL) (e := t2)
 exact le5 2 [] (a - 1) rt (Ch2.set up9.toNat (⟨⟨i0, k0, f0⟩, ⟨j0, l0, g0⟩, ⟨none, 0, []⟩⟩ : PgL)) A2 c2 [0, 2, 3, 6, 7, 8, 9, 10, 11] (hm := (by (try dsimp only); have := hG.a1; omega)) (h := by exact ⟨hGn, (by (try dsimp only); rw [<- hgu]; exact N0), hOn⟩)
 exfalso; omega
end Go.Proofs.YtemejgglbhjodaaGreatDoor
namespace Go.Proofs.YtemejgglbhjodaaGreatDoor
open Go.Px
theorem aGv (n : Nat) (w : World) (hn9 : n <= 1048576) :
  aR Tryz.prog 225 [.slice none 0 0, I ((n : Nat) : Int)] w (λ v w1 => ∃ (A1 : Option Addr) (c1 : Nat), v = .slice A1 ([] : List Int).length c1 /\ Mem w w1 [] [oI A1 c1 ([] : List Int)]) := by
 have hM : Mem w w [] [] := Mem.refl
 refine aR.n1 Tryz.func225 rfl Tryz.results225 Tryz.ntmps225 rfl ?_
 refine cd 10 [] (λ c6 => ?_) (λ c6 => ?_)
 exfalso; omega
 refine ov 6 [] (s := Vi ((0 : Nat) : Int)) (a := by exact cv (Ru.bcap Tryz.underlying30 rfl) rfl) (b := ?_)
 refine ov 2 [] (a := eV) (b := ?_)
 refine ov 0 [] (s := Vi ((n : Nat) : Int)) (a := by exact cv (Ru.congr (Ru.sub rfl rfl t1) (I_congr t11)) rfl) (b := ?_)
 refine cd 7 [] (λ c16 => ?_) (λ c16 => ?_)
 refine ov 3 [] (s := Vi ((0 : Nat) : Int)) (a := by exact cv (Ru.bcap Tryz.underlying30 rfl) rfl) (b := ?_)
 refine ov 0 [] (s := Vl none 0 0) (a := by exact cv (Ru.lsliceTo (h := 0) Tryz.underlying30 el3 rfl rfl t1 t1) rfl) (b := ?_)
 refine go 1 [] ?_
 refine O.mgrow (A := none) (c := 0) (k := 0) (m := n) (sz := 1) (olds := []) (k1 := n) (xs1 := zer [.int .i64 0] n) (M' := λ a0 b0 => [[⟨.slice (bl a0) n b0, 3, 1, n, zer [.int .i64 0] n⟩]]) hM rfl Tryz.underlying30 Tryz.underlying3 el3 ⟨rfl, t19⟩ rfl rfl t1 rfl Rd.nil rfl t1 t1 t1 t1 t1 rfl (λ _ _ => rfl) (λ i0 a0 b0 j0 k0 c0 => ?_)
 try dsimp only at c0
 have l0 := c0.cap 0 rfl
 refine ov 2 [] (s := Vl (bl a0) 0 b0) (a := by exact cv (Ru.lsliceTo (h := 0) Tryz.underlying30 el3 rfl rfl t1 t1) rfl) (b := ?_)
 refine E1 8 [] (.slice (bl a0) 0 b0) ?_
 have d0 : Mem w i0 [] [[⟨.slice (bl a0) 0 b0, 3, 1, 0, ([] : List Int).map I⟩]] := Mem.shrink (i := 0) (k := 0) c0 rfl t1 rfl
 have e0 := d0.rM 0 (([] : List Int) : List Int) (e := rfl)
 exact ⟨bl a0, b0, (by first | rfl | exact sl_congr t8 | (simp; done)), (e0.pk [0])⟩
 refine E1 7 [] (.slice none 0 0) ?_
 have f0 := Mem.addNil (e := 3) (sz := 1) hM
 have h0 : ([] : List Int) = ([] : List Int) := t2
 have g0 := f0.reM 0 h0 (f := I)
 exact ⟨none, 0, (by first | rfl | exact sl_congr t8 | (simp; done)), (g0.pk [0])⟩
set_option maxHeartbeats 1000000 in
theorem pC (ZA : Option Addr) (zc : Nat) (L : List SlL) (w : World) (hZA : Rd w ZA (L.map slV)) (hNZA : SlN w L) (hl : L.length <= 1000) (hf : (L.flatMap SlL.l).length <= 1048576) :
  aR Tryz.prog 224 [.slice ZA L.length zc] w (λ v w1 => ∃ (A1 : Option Addr) (c1 : Nat), v = .slice A1 (L.flatMap SlL.l).length c1 /\ Mem w w1 [] [oI A1 c1 (L.flatMap SlL.l)]) := by
 have hM : Mem w w [] [] := Mem.refl
 refine aR.n1 Tryz.func224 rfl Tryz.results224 Tryz.ntmps224 rfl ?_
 refine lp1 16 [] (λ (k : Nat) => ([(3, Vi ((((L.take k).flatMap SlL.l).length : Nat) : Int)), (11, Vi ((k : Nat) : Int))] : List (Nat × SV))) (λ k => (k <= L.length)) (λ k => []) (λ k => L.length - k) [0, 9, 10] [] [] 0 (λ k σ q0 hI d0 => ?_) (hL := by exact (Has.cons (I_congr t11) (Has.cons (I_congr t10) Has.nil))) (h0 := (bI _))
 have x0 := hI
 refine cd 5 [] (λ c12 => ?_) (λ c12 => ?_)
 have c0 : k < L.length := t1
 refine ov 5 [] (a := cG c0 (hZA.at d0) (h0 := t1)) (b := ?_)
 have hsl := aKa c0
 have hsb := aIf (L := L) (k := k + 1)
 refine ov 0 [] (a := eT c0 (hZA.at d0)) (b := ?_)
 refine ov 7 [] (a := bL (((L.take k).flatMap SlL.l).length + (L[k]'c0).l.length)) (b := ?_)
 refine cd 7 [] (λ c20 => ?_) (λ c20 => ?_)
 exfalso; omega
 refine ov 2 [] (a := bL (k + 1)) (b := ?_)
 exact le1 2 [] (k + 1) [] (hL := by exact (Has.cons (I_congr t1) (Has.cons (I_congr t10) Has.nil))) (h := t9)
 have hsb9 := aIf (L := L) (k := k)
 refine cq 4 [] (b := aGv _ q0 qo) (c := ?_)
 rintro _ z0 ⟨g0, j0, rfl, m0⟩
 have e0 := d0.cl 0 m0
 have v0 := (e0.cap 0 rfl).1
 have n0 : (([] : List Int) : List Int) = (L.take 0).flatMap SlL.l := t11
 have r0 := e0.reM 0 n0
 refine lp3 10 [] (λ (k2 : Nat) (A2 : Option Addr) (c2 : Nat) => ([(6, Vl A2 ((L.take k2).flatMap SlL.l).length c2), (27, Vi ((k2 : Nat) : Int))] : List (Nat × SV))) (λ k2 A2 c2 => (k2 <= L.length)) (λ k2 A2 c2 => [oI A2 c2 ((L.take k2).flatMap SlL.l)]) (λ k2 A2 c2 => L.length - k2) [25, 26] [0] [] 0 g0 j0 (λ k2 A2 c2 σ A0 hI b0 => ?_) (h0 := (bI _))
 have w0 := hI
 have u0 := (b0.cap 0 rfl).1
 refine cd 5 [] (λ c28 => ?_) (λ c28 => ?_)
 have a0 : k2 < L.length := t1
 refine ov 5 [] (a := cG a0 (hZA.at b0) (h0 := t1)) (b := ?_)
 have hsl := aKa a0
 have hsb := aIf (L := L) (k := k2 + 1)
 refine ov 0 [] (a := eT a0 (hZA.at b0)) (b := ?_)
 refine aM 5 [] 0 ((hNZA.at b0).get a0) (λ y0 f0 i0 t0 k0 => ?_) (hn := t1) (hb := t1)
 refine ov 3 [] (a := bL (k2 + 1)) (b := ?_)
 have o0 : ((L.take k2).flatMap SlL.l ++ (L[k2]'a0).l : List Int) = (L.take (k2 + 1)).flatMap SlL.l := (aGh a0)
 have s0 := k0.reM 0 o0
 exact le3 2 [] (k2 + 1) f0 i0 [0] (h := t9)
 refine E1 7 [] (.slice A2 ((L.take k2).flatMap SlL.l).length c2) ?_
 have p0 : ((L.take k2).flatMap SlL.l : List Int) = L.flatMap SlL.l := (by rw [aE t1])
 have l0 := b0.reM 0 p0
 exact ⟨A2, c2, (sl_congr (by rw [aE t1])), (l0.pk [0])⟩
theorem aDq (n : Nat) (w : World) (hn9 : n <= 1048576) :
  aR Tryz.prog 223 [.slice none 0 0, I ((n : Nat) : Int)] w (λ v w1 => ∃ (A1 : Option Addr) (c1 : Nat), v = .slice A1 ([] : List PairT).length c1 /\ Mem w w1 [] [oP A1 c1 ([] : List PairT)]) := by
 have hM : Mem w w [] [] := Mem.refl
 refine aR.n1 Tryz.func223 rfl Tryz.results223 Tryz.ntmps223 rfl ?_
 refine cd 10 [] (λ c6 => ?_) (λ c6 => ?_)
 exfalso; omega
 refine ov 6 [] (s := Vi ((0 : Nat) : Int)) (a := by exact cv (Ru.bcap Tryz.underlying43 rfl) rfl) (b := ?_)
 refine ov 2 [] (a := eV) (b := ?_)
 refine ov 0 [] (s := Vi ((n : Nat) : Int)) (a := by exact cv (Ru.congr (Ru.sub rfl rfl t1) (I_congr t11)) rfl) (b := ?_)
 refine cd 7 [] (λ c16 => ?_) (λ c16 => ?_)
 refine ov 3 [] (s := Vi ((0 : Nat) : Int)) (a := by exact cv (Ru.bcap Tryz.underlying43 rfl) rfl) (b := ?_)
 refine ov 0 [] (s := Vl none 0 0) (a := by exact cv (Ru.lsliceTo (h := 0) Tryz.underlying43 jA rfl rfl t1 t1) rfl) (b := ?_)
 refine go 1 [] ?_
 refine O.mgrow (A := none) (c := 0) (k := 0) (m := n) (sz := 2) (olds := []) (k1 := n) (xs1 := zer [.int .i64 0, .int .i64 0] n) (M' := λ a0 b0 => [[⟨.slice (bl a0) n b0, 27, 2, n, zer [.int .i64 0, .int .i64 0] n⟩]]) hM rfl Tryz.underlying43 Tryz.underlying3 jA ⟨rfl, t19⟩ rfl rfl t1 rfl Rd.nil rfl t1 t1 t1 t1 t1 rfl (λ _ _ => rfl) (λ i0 a0 b0 j0 k0 c0 => ?_)
 try dsimp only at c0
 have l0 := c0.cap 0 rfl
 refine ov 2 [] (s := Vl (bl a0) 0 b0) (a := by exact cv (Ru.lsliceTo (h := 0) Tryz.underlying43 jA rfl rfl t1 t1) rfl) (b := ?_)
 refine E1 8 [] (.slice (bl a0) 0 b0) ?_
 have d0 : Mem w i0 [] [[⟨.slice (bl a0) 0 b0, 27, 2, 0, ([] : List PairT).flatMap cY⟩]] := Mem.shrink (i := 0) (k := 0) c0 rfl t1 rfl
 have e0 := d0.rF 0 (([] : List PairT) : List PairT) (e := rfl)
 exact ⟨bl a0, b0, (by first | rfl | exact sl_congr t8 | (simp; done)), (e0.pk [0])⟩
 refine E1 7 [] (.slice none 0 0) ?_
 have f0 := Mem.addNil (e := 27) (sz := 2) hM
 have h0 : ([] : List PairT) = ([] : List PairT) := t2
 have g0 := f0.reF 0 h0 (f := cY)
 exact ⟨none, 0, (by first | rfl | exact sl_congr t8 | (simp; done)), (g0.pk [0])⟩
set_option maxHeartbeats 1000000 in
theorem zL (ZA : Option Addr) (zc : Nat) (L : List SlW) (w : World) (hZA : Rd w ZA (L.map slW)) (hNZA : SwN w L) (hl : L.length <= 1000) (hf : (L.flatMap SlW.lw).length <= 1048576) :
  aR Tryz.prog 215 [.slice ZA L.length zc] w (λ v w1 => ∃ (A1 : Option Addr) (c1 : Nat), v = .slice A1 (L.flatMap SlW.lw).length c1 /\ Mem w w1 [] [oP A1 c1 (L.flatMap SlW.lw)]) := by
 have hM : Mem w w [] [] := Mem.refl
 refine aR.n1 Tryz.func215 rfl Tryz.results215 Tryz.ntmps215 rfl ?_
 refine lp1 16 [] (λ (k : Nat) => ([(3, Vi ((((L.take k).flatMap SlW.lw).length : Nat) : Int)), (11, Vi ((k : Nat) : Int))] : List (Nat × SV))) (λ k => (k <= L.length)) (λ k => []) (λ k => L.length - k) [0, 9, 10] [] [] 0 (λ k σ q0 hI d0 => ?_) (hL := by exact (Has.cons (I_congr t11) (Has.cons (I_congr t10) Has.nil))) (h0 := (bI _))
 have x0 := hI
 refine cd 5 [] (λ c12 => ?_) (λ c12 => ?_)
 have c0 : k < L.length := t1
 refine ov 5 [] (a := cG c0 (hZA.at d0) (h0 := t1)) (b := ?_)
 have hsl := aKf c0
 have hsb := aIm (K := L) (k := k + 1)
 refine ov 0 [] (a := eT c0 (hZA.at d0)) (b := ?_)
 refine ov 7 [] (a := bL (((L.take k).flatMap SlW.lw).length + (L[k]'c0).lw.length)) (b := ?_)
 refine cd 7 [] (λ c20 => ?_) (λ c20 => ?_)
 exfalso; omega
 refine ov 2 [] (a := bL (k + 1)) (b := ?_)
 exact le1 2 [] (k + 1) [] (hL := by exact (Has.cons (I_congr t1) (Has.cons (I_congr t10) Has.nil))) (h := t9)
 have hsb9 := aIm (K := L) (k := k)
 refine cq 4 [] (b := aDq _ q0 qo) (c := ?_)
 rintro _ z0 ⟨g0, j0, rfl, m0⟩
 have e0 := d0.cl 0 m0
 have v0 := (e0.cap 0 rfl).1
 have n0 : (([] : List PairT) : List PairT) = (L.take 0).flatMap SlW.lw := t11
 have r0 := e0.reF 0 n0
 refine lp3 10 [] (λ (k2 : Nat) (A2 : Option Addr) (c2 : Nat) => ([(6, Vl A2 ((L.take k2).flatMap SlW.lw).length c2), (27, Vi ((k2 : Nat) : Int))] : List (Nat × SV))) (λ k2 A2 c2 => (k2 <= L.length)) (λ k2 A2 c2 => [oP A2 c2 ((L.take k2).flatMap SlW.lw)]) (λ k2 A2 c2 => L.length - k2) [25, 26] [0] [] 0 g0 j0 (λ k2 A2 c2 σ A0 hI b0 => ?_) (h0 := (bI _))
 have w0 := hI
 have u0 := (b0.cap 0 rfl).1
 refine cd 5 [] (λ c28 => ?_) (λ c28 => ?_)
 have a0 : k2 < L.length := t1
 refine ov 5 [] (a := cG a0 (hZA.at b0) (h0 := t1)) (b := ?_)
 have hsl := aKf a0
 have hsb := aIm (K := L) (k := k2 + 1)
 refine ov 0 [] (a := eT a0 (hZA.at b0)) (b := ?_)
 refine aF 5 [] 0 ((hNZA.at b0).get a0) (λ y0 f0 i0 t0 k0 => ?_) (hn := t1) (hb := t1)
 refine ov 3 [] (a := bL (k2 + 1)) (b := ?_)
 have o0 : ((L.take k2).flatMap SlW.lw ++ (L[k2]'a0).lw : List PairT) = (L.take (k2 + 1)).flatMap SlW.lw := (aGo a0)
 have s0 := k0.reF 0 o0
 exact le3 2 [] (k2 + 1) f0 i0 [0] (h := t9)
 refine E1 7 [] (.slice A2 ((L.take k2).flatMap SlW.lw).length c2) ?_
 have p0 : ((L.take k2).flatMap SlW.lw : List PairT) = L.flatMap SlW.lw := (by rw [aE t1])
 have l0 := b0.reF 0 p0
 exact ⟨A2, c2, (sl_congr (by rw [aE t1])), (l0.pk [0])⟩
theorem aAf (Ka : Option Addr) (kca : Nat) (ka : List Int) (Ca : Option Addr) (cca : Nat) (qa : List Int) (key : Int) (Kb : Option Addr) (kcb : Nat) (kb : List Int) (Cb : Option Addr) (ccb : Nat) (qb : List Int) (w : World) (hRKa : Rd w Ka (ka.map I)) (hRCa : Rd w Ca (qa.map I)) (hRKb : Rd w Kb (kb.map I)) (hRCb : Rd w Cb (qb.map I)) (h9 : ka.length <= 1000 /\ qa.length <= 1000 /\ kb.length <= 1000 /\ qb.length <= 1000) :
  aR Tryz.prog 216 [.agg #[.slice Ka ka.length kca, .slice Ca qa.length cca], I key, .agg #[.slice Kb kb.length kcb, .slice Cb qb.length ccb]] w (λ v w1 => ∃ (A1 : Option Addr) (c1 : Nat) (A2 : Option Addr) (c2 : Nat), v = .agg #[.slice A1 (ka ++ ([key] ++ kb)).length c1, .slice A2 (qa ++ qb).length c2] /\ Mem w w1 [] [oI A1 c1 (ka ++ ([key] ++ kb)), oI A2 c2 (qa ++ qb)]) := by
 have hM : Mem w w [] [] := Mem.refl
 refine aR.nG (rs := [.cell 6 65]) Tryz.func216 rfl Tryz.results216 Tryz.ntmps216 rfl ?_
 refine Bx 2 [] λ S0 G0 O0 J0 => ?_
 refine Bx 0 [] λ T0 H0 P0 K0 => ?_
 refine Al 0 [] λ U0 I0 Q0 L0 => ?_
 refine any 2 [] 16 [1, 2] λ X0 M0 => ?_
 refine jn5 [0, 1, 2, 4, 5, 8, 9, 10, 11] [1, 0, 1, 0] (λ (d0 : Option Addr) (a0 : Nat) (e0 : Nat) (b0 : Nat) (c0 : Nat) => ([(14, Vl d0 (([(⟨Ka, kca, ka⟩ : SlL), (⟨bl a0, 1, [key]⟩ : SlL), (⟨Kb, kcb, kb⟩ : SlL)]).flatMap SlL.l).length e0), (19, Vl (bl b0) 2 2)] : List (Nat × SV))) (λ d0 a0 e0 b0 c0 => [[⟨.slice (bl b0) 2 2, 30, 1, 2, ([(⟨Ca, cca, qa⟩ : SlL), (⟨Cb, ccb, qb⟩ : SlL)]).map slV⟩], oI d0 e0 (([(⟨Ka, kca, ka⟩ : SlL), (⟨bl a0, 1, [key]⟩ : SlL), (⟨Kb, kcb, kb⟩ : SlL)]).flatMap SlL.l), [⟨.slice (bl c0) 3 3, 30, 1, 3, ([(⟨Ka, kca, ka⟩ : SlL), (⟨bl a0, 1, [key]⟩ : SlL), (⟨Kb, kcb, kb⟩ : SlL)]).map slV⟩], [⟨.slice (bl a0) 1 1, 3, 1, 1, ([key]).map I⟩]]) [6] [0, 1, 2] 3 [true, true, true, true, true, true, true, true, true, true, true, true, true, false, false, false] (λ p0 => ?_) (λ d0 a0 e0 b0 c0 σ E0 h0 => ?_)
 rotate_left
 ·refine aO [] [] 13 ?_
  refine cq 0 [] (vs := [.slice (bl b0) ([(⟨Ca, cca, qa⟩ : SlL), (⟨Cb, ccb, qb⟩ : SlL)]).length 2]) (hvs := (by first | rfl | (rw [show ([(⟨Ca, cca, qa⟩ : SlL), (⟨Cb, ccb, qb⟩ : SlL)]).length = 2 from t6]; rfl))) (b := pC (bl b0) 2 [(⟨Ca, cca, qa⟩ : SlL), (⟨Cb, ccb, qb⟩ : SlL)] E0 (h0.rd 0 rfl) (SlN.cons (hRCa.at h0) (SlN.cons (hRCb.at h0) SlN.nil)) t11 t17) (c := ?_)
  rintro _ V0 ⟨i0, j0, rfl, y0⟩
  have u0 := h0.cl 0 y0
  have R0 := (u0.cap 0 rfl).1
  refine os 0 [] [6, 7] ?_
  refine aO [14] [] 15 ?_
  refine Sb 0 [] 5 λ W0 s0 => ?_
  refine os 0 [] [6, 7] ?_
  refine an [] [] ?_
  refine EG 1 [] ?_
  refine PG (vs := [.agg #[.slice d0 (([(⟨Ka, kca, ka⟩ : SlL), (⟨bl a0, 1, [key]⟩ : SlL), (⟨Kb, kcb, kb⟩ : SlL)]).flatMap SlL.l).length e0, .slice i0 ([(⟨Ca, cca, qa⟩ : SlL), (⟨Cb, ccb, qb⟩ : SlL)].flatMap SlL.l).length j0]]) (bX.cell (l := [.slice d0 (([(⟨Ka, kca, ka⟩ : SlL), (⟨bl a0, 1, [key]⟩ : SlL), (⟨Kb, kcb, kb⟩ : SlL)]).flatMap SlL.l).length e0, .slice i0 ([(⟨Ca, cca, qa⟩ : SlL), (⟨Cb, ccb, qb⟩ : SlL)].flatMap SlL.l).length j0]) rfl (cA (i := 5) (j := 0) s0 rfl rfl) tK rfl bX.nil) ?_
  have w0 := s0.rM 2 (ka ++ ([key] ++ kb) : List Int) (e := t11)
  have x0 := w0.rM 0 (qa ++ qb : List Int) (e := t11)
  exact ⟨d0, e0, i0, j0, (by simp [pack]), (x0.pk [2, 0])⟩
 refine jn3 [] [] (λ (c0 : Nat) (b0 : Nat) (a0 : Nat) => ([(13, Vl (bl c0) 3 3), (19, Vl (bl b0) 2 2)] : List (Nat × SV))) (λ c0 b0 a0 => [[⟨.slice (bl b0) 2 2, 30, 1, 2, ([(⟨Ca, cca, qa⟩ : SlL), (⟨Cb, ccb, qb⟩ : SlL)]).map slV⟩], [⟨.slice (bl c0) 3 3, 30, 1, 3, ([(⟨Ka, kca, ka⟩ : SlL), (⟨bl a0, 1, [key]⟩ : SlL), (⟨Kb, kcb, kb⟩ : SlL)]).map slV⟩], [⟨.slice (bl a0) 1 1, 3, 1, 1, ([key]).map I⟩]]) [6] [0, 1, 2] 4 [true, true, true, true, true, true, true, false, true, true, true, true, true, false, false, false] (λ q0 => ?_) (λ c0 b0 a0 σ F0 g0 => ?_)
 rotate_left
 ·refine aO [] [] 7 ?_
  refine cq 0 [] (vs := [.slice (bl c0) ([(⟨Ka, kca, ka⟩ : SlL), (⟨bl a0, 1, [key]⟩ : SlL), (⟨Kb, kcb, kb⟩ : SlL)]).length 3]) (hvs := (by first | rfl | (rw [show ([(⟨Ka, kca, ka⟩ : SlL), (⟨bl a0, 1, [key]⟩ : SlL), (⟨Kb, kcb, kb⟩ : SlL)]).length = 3 from t6]; rfl))) (b := pC (bl c0) 3 ([(⟨Ka, kca, ka⟩ : SlL), (⟨bl a0, 1, [key]⟩ : SlL), (⟨Kb, kcb, kb⟩ : SlL)]) F0 (g0.rd 1 rfl) (SlN.cons (hRKa.at g0) (SlN.cons (g0.rd 2 rfl) (SlN.cons (hRKb.at g0) SlN.nil))) t11 t17) (c := ?_)
  rintro _ D0 ⟨d0, e0, rfl, m0⟩
  have l0 := g0.cl 0 m0
  have B0 := (l0.cap 0 rfl).1
  refine os 0 [] [5, 6] ?_
  exact jd5 [] [] p0 d0 a0 e0 b0 c0 [1, 0, 2, 3, 4, 5, 6]
 refine jn2 [] [] (λ (a0 : Nat) (b0 : Nat) => ([(10, Vl (bl a0) 1 1), (19, Vl (bl b0) 2 2)] : List (Nat × SV))) (λ a0 b0 => [[⟨.slice (bl b0) 2 2, 30, 1, 2, ([(⟨Ca, cca, qa⟩ : SlL), (⟨Cb, ccb, qb⟩ : SlL)]).map slV⟩], [⟨.slice (bl a0) 1 1, 3, 1, 1, ([key]).map I⟩]]) [6, 8, 12] [0, 1, 2] 5 [true, true, true, true, true, true, false, false, true, true, true, true, true, false, false, false] (λ r0 => ?_) (λ a0 b0 σ Y0 N0 => ?_)
 rotate_left
 ·refine aO [] [] 6 ?_
  refine Lt 0 [] (([(⟨Ka, kca, ka⟩ : SlL), (⟨bl a0, 1, [key]⟩ : SlL), (⟨Kb, kcb, kb⟩ : SlL)]).map slV) (λ t0 c0 A0 f0 => ?_)
  refine os 0 [] [4, 5] ?_
  exact jd3 [] [] q0 c0 b0 a0 [1, 0, 2, 3, 4, 5]
 refine aT [] [] 3 12 ?_ ?_
 ·refine Lt 0 [] (([key]).map I) (λ C0 a0 z0 v0 => ?_)
  refine os 0 [] [2, 3] ?_
  refine aT [] [] 6 12 ?_ ?_
  ·refine Lt 0 [] (([(⟨Ka, kca, ka⟩ : SlL), (⟨bl a0, 1, [key]⟩ : SlL), (⟨Kb, kcb, kb⟩ : SlL)]).map slV) (λ t0 c0 A0 f0 => ?_)
   refine os 0 [] [3, 4] ?_
   refine aT [] [] 7 12 ?_ ?_
   ·refine cq 0 [] (vs := [.slice (bl c0) ([(⟨Ka, kca, ka⟩ : SlL), (⟨bl a0, 1, [key]⟩ : SlL), (⟨Kb, kcb, kb⟩ : SlL)]).length 3]) (hvs := (by first | rfl | (rw [show ([(⟨Ka, kca, ka⟩ : SlL), (⟨bl a0, 1, [key]⟩ : SlL), (⟨Kb, kcb, kb⟩ : SlL)]).length = 3 from t6]; rfl))) (b := pC (bl c0) 3 ([(⟨Ka, kca, ka⟩ : SlL), (⟨bl a0, 1, [key]⟩ : SlL), (⟨Kb, kcb, kb⟩ : SlL)]) t0 (f0.rd 0 rfl) (SlN.cons (hRKa.at f0) (SlN.cons (f0.rd 1 rfl) (SlN.cons (hRKb.at f0) SlN.nil))) t11 t17) (c := ?_)
    rintro _ D0 ⟨d0, e0, rfl, m0⟩
    have l0 := f0.cl 0 m0
    have B0 := (l0.cap 0 rfl).1
    refine os 0 [] [4, 5] ?_
    refine aO [] [] 12 ?_
    refine Lt 0 [] (([(⟨Ca, cca, qa⟩ : SlL), (⟨Cb, ccb, qb⟩ : SlL)]).map slV) (λ o0 b0 n0 k0 => ?_)
    refine os 0 [] [5, 6] ?_
    exact jd5 [] [] p0 d0 a0 e0 b0 c0 [0, 1, 2, 3, 4, 5, 6]
   refine Lt 0 [] (([(⟨Ca, cca, qa⟩ : SlL), (⟨Cb, ccb, qb⟩ : SlL)]).map slV) (λ o0 b0 n0 k0 => ?_)
   refine os 0 [] [4, 5] ?_
   exact jd3 [] [] q0 c0 b0 a0 [0, 1, 2, 3, 4, 5]
  refine Lt 0 [] (([(⟨Ca, cca, qa⟩ : SlL), (⟨Cb, ccb, qb⟩ : SlL)]).map slV) (λ o0 b0 n0 k0 => ?_)
  refine os 0 [] [3, 4] ?_
  exact jd2 [] [] r0 a0 b0 [0, 1, 2, 3, 4]
 refine Lt 0 [] (([(⟨Ca, cca, qa⟩ : SlL), (⟨Cb, ccb, qb⟩ : SlL)]).map slV) (λ o0 b0 n0 k0 => ?_)
 refine os 0 [] [2, 3] ?_
 refine aO [] [] 3 ?_
 refine Lt 0 [] (([key]).map I) (λ C0 a0 z0 v0 => ?_)
 refine os 0 [] [3, 4] ?_
 exact jd2 [] [] r0 a0 b0 [1, 0, 2, 3, 4]
theorem aNc (KA : Option Addr) (kc : Nat) (kl : List Int) (CA : Option Addr) (cc : Nat) (cl : List Int) (pl : Nat) (w : World) (hRK : Rd w KA (kl.map I)) (hRC : Rd w CA (cl.map I)) (h0 : 1 <= pl /\ pl <= kl.length) (h1 : kl.length <= 1000) (h2 : cl.length = kl.length + 1) :
  aR Tryz.prog 198 [.agg #[.slice KA kl.length kc, .slice CA cl.length cc], I ((pl : Nat) : Int)] w (λ v w1 => ∃ (A1 : Option Addr) (c1 : Nat) (A2 : Option Addr) (c2 : Nat), v = .agg #[.slice A1 (kl.take (pl - 1) ++ kl.drop pl).length c1, .slice A2 (cl.take pl ++ cl.drop (pl + 1)).length c2] /\ Mem w w1 [] [oI A1 c1 (kl.take (pl - 1) ++ kl.drop pl), oI A2 c2 (cl.take pl ++ cl.drop (pl + 1))]) := by
 have hM : Mem w w [] [] := Mem.refl
 refine aR.nG (rs := [.cell 4 65]) Tryz.func198 rfl Tryz.results198 Tryz.ntmps198 rfl ?_
 refine Bx 2 [] λ K0 y0 E0 C0 => ?_
 refine Al 0 [] λ L0 z0 F0 D0 => ?_
 refine any 2 [] 16 [1] λ v0 j0 => ?_
 refine av [0, 1, 3] [0] 4 (s := Vi (((pl - 1) : Nat) : Int)) (a := by exact λ w2 hw2 => cv (Ru.congr (Ru.sub rfl rfl t1) (I_congr t1)) rfl) (b := ?_)
 refine av [5, 7, 8, 10, 11] [0] 12 (a := by exact λ _ hw2 => bL (pl + 1)) (b := ?_)
 refine aO [] [] 2 ?_
 refine cq 0 [] (b := cD _ _ _ v0 (hRK.at j0) q0) (c := ?_)
 rintro _ s0 ⟨w0, A0, rfl, o0⟩
 have e0 := j0.cl 0 o0
 have H0 := (e0.cap 0 rfl).1
 refine os 0 [] [2] ?_
 refine aO [] [] 6 ?_
 refine cq 0 [] (b := sZ _ _ _ _ _ s0 (e0.fp [0] rfl rfl) qo qo qo) (c := ?_)
 rintro _ t0 ⟨b0, d0, rfl, p0⟩
 have f0 := e0.cl 1 p0
 have I0 := (f0.cap 0 rfl).1
 refine os 0 [] [2] ?_
 refine aO [] [] 9 ?_
 refine cq 0 [] (b := cD _ _ _ t0 (hRC.at f0) q0) (c := ?_)
 rintro _ u0 ⟨x0, B0, rfl, r0⟩
 have g0 := f0.cl 0 r0
 have J0 := (g0.cap 0 rfl).1
 refine os 0 [] [3] ?_
 refine aO [] [] 13 ?_
 refine cq 0 [] (b := sZ _ _ _ _ _ u0 (g0.fp [0] rfl rfl) qo qo qo) (c := ?_)
 rintro _ M0 ⟨a0, c0, rfl, n0⟩
 have k0 := g0.cl 1 n0
 have G0 := (k0.cap 0 rfl).1
 refine os 0 [] [3] ?_
 refine aO [14] [] 15 ?_
 refine Sb 0 [] 2 λ N0 i0 => ?_
 refine os 0 [] [3] ?_
 refine an [] [] ?_
 refine EG 1 [] ?_
 refine PG (vs := [.agg #[.slice b0 (kl.take (pl - 1) ++ kl.drop pl).length d0, .slice a0 (cl.take pl ++ cl.drop (pl + 1)).length c0]]) (bX.cell (l := [.slice b0 (kl.take (pl - 1) ++ kl.drop pl).length d0, .slice a0 (cl.take pl ++ cl.drop (pl + 1)).length c0]) rfl (cA (i := 2) (j := 0) i0 rfl rfl) tK rfl bX.nil) ?_
 have l0 := i0.rM 1 (kl.take (pl - 1) ++ kl.drop pl : List Int) (e := t2)
 have m0 := l0.rM 0 (cl.take pl ++ cl.drop (pl + 1) : List Int) (e := t2)
 exact ⟨b0, d0, a0, c0, (by first | rfl | exact sl_congr t8 | (simp; done)), (m0.pk [1, 0])⟩
theorem aDp (A : Option Addr) (c : Nat) (l : List PairT) (k : Int) (w : World) (hA : Rd w A (l.flatMap cY)) (hl : l.length <= 1048576) (hv : bW l = true) :
  aR Tryz.prog 169 [.slice A l.length c, I k] w (λ v w1 => ∃ (A1 : Option Addr) (c1 : Nat), v = .tuple #[.slice A1 (eY l k).length c1, .bool (cT l k)] /\ Mem w w1 [] [oP A1 c1 (eY l k)]) := by
 have hM : Mem w w [] [] := Mem.refl
 refine aR.n2 Tryz.func169 rfl Tryz.results169 Tryz.ntmps169 rfl ?_
 refine cp 9 [] (b := nT _ _ _ w (hA.at hM) q0) (c := λ j0 d0 => ?_)
 refine cn 2 [] (λ c10 => ?_) (λ c10 => ?_)
 (exfalso; simp [hv] at c10)
 refine cq 5 [] (b := xU _ _ _ _ j0 (hA.at d0) q0 (by exact (eM.1 hv).2.2)) (c := ?_)
 rintro _ l0 ⟨b0, c0, rfl, h0⟩
 have a0 := d0.cl 0 h0
 have k0 := (a0.cap 0 rfl).1
 refine cn 12 [] (λ c18 => ?_) (λ c18 => ?_)
 have hin : cT l k = false := by simpa using c18
 refine E2 6 [] (.slice none 0 0) (.bool false) ?_
 have e0 := Mem.addNil (e := 27) (sz := 2) a0
 have i0 : ([] : List PairT) = eY l k := (by rw [tH hin])
 have f0 := e0.reF 0 i0 (f := cY)
 exact ⟨none, 0, (by rw [tH hin, hin]; rfl), (f0.pk [0])⟩
 have hin : cT l k = true := by simpa using c18
 refine E2 8 [] (.slice b0 (nW l k).length c0) (.bool true) ?_
 have g0 := a0.rF 0 (eY l k : List PairT) (e := by unfold eY; rw [if_pos hin])
 exact ⟨b0, c0, (by rw [xV hin, aBz hin, hin]), (g0.pk [0])⟩
end Go.Proofs.YtemejgglbhjodaaGreatDoor
namespace Go.Proofs.YtemejgglbhjodaaGreatDoor
open Go.Px
set_option maxHeartbeats 4000000 in
theorem zW (b : Nat) (A : Option Addr) (c : Nat) (Ch : List PgL) (g : List Int) (j : Int) (a9 : Int) (b9 : Int) (w : World) (hM : Mem w w (rS [[⟨.slice (bl b) 1 1, 169, 18, 1, mdC A Ch.length c g j⟩], oG A c Ch, Ch.flatMap (pgF 3)]) [[⟨.slice (bl b) 1 1, 169, 18, 1, mdC A Ch.length c g j⟩], oG A c Ch, Ch.flatMap (pgF 3)]) (ha : 0 <= a9 /\ a9 < (Ch.length : Int)) (hb : 0 <= b9 /\ b9 < (Ch.length : Int)) (hab : a9 ≠ b9) (hk5 : (gP (⟨0, tsG Ch⟩ : TrT) a9).keys.length <= 5 /\ (gP (⟨0, tsG Ch⟩ : TrT) b9).keys.length <= 5) (hlA : (gP (⟨0, tsG Ch⟩ : TrT) a9).vals.length = (gP (⟨0, tsG Ch⟩ : TrT) a9).keys.length) (hlB : (gP (⟨0, tsG Ch⟩ : TrT) b9).vals.length = (gP (⟨0, tsG Ch⟩ : TrT) b9).keys.length) (hv : bW (aV (gP (⟨0, tsG Ch⟩ : TrT) a9) ++ aV (gP (⟨0, tsG Ch⟩ : TrT) b9)) = true) :
  aR Tryz.prog 196 [.pointer (ofs (bl b) 0), I a9, I b9] w (λ v w1 => ∃ (L2 : List PgL), v = .tuple #[.bool (mdR (aV (gP (⟨0, tsG Ch⟩ : TrT) a9) ++ aV (gP (⟨0, tsG Ch⟩ : TrT) b9)) (gP (⟨0, tsG Ch⟩ : TrT) b9)).1, I (mdR (aV (gP (⟨0, tsG Ch⟩ : TrT) a9) ++ aV (gP (⟨0, tsG Ch⟩ : TrT) b9)) (gP (⟨0, tsG Ch⟩ : TrT) b9)).2.1] /\ (tsG L2 = ((tsG Ch).set a9.toNat (mdR (aV (gP (⟨0, tsG Ch⟩ : TrT) a9) ++ aV (gP (⟨0, tsG Ch⟩ : TrT) b9)) (gP (⟨0, tsG Ch⟩ : TrT) b9)).2.2.1).set b9.toNat (mdR (aV (gP (⟨0, tsG Ch⟩ : TrT) a9) ++ aV (gP (⟨0, tsG Ch⟩ : TrT) b9)) (gP (⟨0, tsG Ch⟩ : TrT) b9)).2.2.2) /\ Mem w w1 (rS [[⟨.slice (bl b) 1 1, 169, 18, 1, mdC A Ch.length c g j⟩], oG A c Ch, Ch.flatMap (pgF 3)]) [[⟨.slice (bl b) 1 1, 169, 18, 1, mdC A L2.length c g j⟩], oG A c L2, L2.flatMap (pgF 3)]) := by
 refine aR.n2 Tryz.func196 rfl Tryz.results196 Tryz.ntmps196 rfl ?_
 have hja : a9.toNat < Ch.length := by omega
 have hg_a9 : gP (⟨0, tsG Ch⟩ : TrT) a9 = (Ch[a9.toNat]'hja).t := jW hja
 have hjb : b9.toNat < Ch.length := by omega
 have hg_b9 : gP (⟨0, tsG Ch⟩ : TrT) b9 = (Ch[b9.toNat]'hjb).t := jW hjb
 rw [hg_a9] at hk5 hlA
 rw [hg_b9] at hk5 hlB
 rw [hg_a9, hg_b9] at hv
 have hkA : (Ch[a9.toNat]'hja).k.l.length <= 5 := hk5.1
 have hkB : (Ch[b9.toNat]'hjb).k.l.length <= 5 := hk5.2
 have hvA : (Ch[a9.toNat]'hja).v.l.length = (Ch[a9.toNat]'hja).k.l.length := hlA
 have hvB : (Ch[b9.toNat]'hjb).v.l.length = (Ch[b9.toNat]'hjb).k.l.length := hlB
 obtain ⟨rw9, hrw⟩ : ∃ z, z = aV (Ch[a9.toNat]'hja).t ++ aV (Ch[b9.toNat]'hjb).t := ⟨_, rfl⟩
 have hrl : rw9.length = (Ch[a9.toNat]'hja).k.l.length + (Ch[b9.toNat]'hjb).k.l.length := by rw [hrw, aA, dF, dF]
 rw [<- hrw] at hv
 refine ct2 5 [] (λ (A5 : Option Addr) (c5 : Nat) => ([(8, Vl A5 rw9.length c5)] : List (Nat × SV))) (λ A5 c5 => True) (λ A5 c5 => [oP A5 c5 rw9]) [0, 1, 2] [0, 1, 2] ?_ (λ A5 c5 σ o1 hI n0 => ?_)
 refine any 0 [] 19 [0, 1, 2] λ k1 m0 => ?_
 refine av [0, 1, 2] [] 3 (s := Vl A Ch.length c) (a := by exact λ w2 hw2 => cv (Ru.load1 kV rfl ((hw2.rd 0 rfl).ld (k := 0) rfl)) rfl) (b := ?_)
 refine av [4] [] 5 (a := by exact λ _ hw2 => cJ hja (m0.rd 1 rfl) (h0 := t1)) (b := ?_)
 refine av [] [] 6 (a := by exact λ _ hw2 => gL hja (hw2.rd 1 rfl)) (b := ?_)
 refine av [8, 9, 10] [] 11 (s := Vl A Ch.length c) (a := by exact λ w2 hw2 => cv (Ru.load1 kV rfl ((hw2.rd 0 rfl).ld (k := 0) rfl)) rfl) (b := ?_)
 refine av [12] [] 13 (a := by exact λ _ hw2 => cJ hjb (m0.rd 1 rfl) (h0 := t1)) (b := ?_)
 refine av [] [] 14 (a := by exact λ _ hw2 => gL hjb (hw2.rd 1 rfl)) (b := ?_)
 refine aO [] [] 7 ?_
 refine cq 0 [] (b := gD (Ch[a9.toNat]'hja) k1 ((NsP.mem m0 2 rfl).get hja) qo (by exact hvA)) (c := ?_)
 rintro _ j1 ⟨i0, k0, rfl, d1⟩
 have o0 := m0.cl 0 d1
 have D1 := (o0.cap 0 rfl).1
 refine os 0 [] [1, 2, 3] ?_
 refine aO [] [] 15 ?_
 refine cq 0 [] (b := gD (Ch[b9.toNat]'hjb) j1 ((NsP.mem o0 3 rfl).get hjb) qo (by exact hvB)) (c := ?_)
 rintro _ M1 ⟨g0, j0, rfl, b1⟩
 have K0 := o0.cl 0 b1
 have B1 := (K0.cap 0 rfl).1
 refine os 0 [] [2, 3, 4] ?_
 refine aO [] [] 16 ?_
 refine Lt 0 [] (([(⟨i0, k0, aV (Ch[a9.toNat]'hja).t⟩ : SlW), (⟨g0, j0, aV (Ch[b9.toNat]'hjb).t⟩ : SlW)]).map slW) (λ i1 x0 y1 l0 => ?_)
 refine os 0 [] [3, 4, 5] ?_
 refine aO [] [] 17 ?_
 refine cq 0 [] (vs := [.slice (bl x0) ([(⟨i0, k0, aV (Ch[a9.toNat]'hja).t⟩ : SlW), (⟨g0, j0, aV (Ch[b9.toNat]'hjb).t⟩ : SlW)]).length 2]) (hvs := (by first | rfl | (rw [show ([(⟨i0, k0, aV (Ch[a9.toNat]'hja).t⟩ : SlW), (⟨g0, j0, aV (Ch[b9.toNat]'hjb).t⟩ : SlW)]).length = 2 from t6]; rfl))) (b := zL (bl x0) 2 ([(⟨i0, k0, aV (Ch[a9.toNat]'hja).t⟩ : SlW), (⟨g0, j0, aV (Ch[b9.toNat]'hjb).t⟩ : SlW)]) i1 (l0.rd 0 rfl) (SwN.cons (l0.rd 2 rfl) (SwN.cons (l0.rd 1 rfl) SwN.nil)) t11 (by (simp only [aK, List.flatMap_nil, aA, dF, bA]; omega))) (c := ?_)
 rintro _ N1 ⟨I0, J0, rfl, c1⟩
 have C0 := l0.cl 0 c1
 have C1 := (C0.cap 0 rfl).1
 refine os 0 [] [4, 5, 6] ?_
 refine an [18] [] ?_
 have u1 := C0.rF 0 (rw9 : List PairT) (e := by rw [hrw]; simp)
 exact ce2 0 [] I0 J0 [0, 4, 5, 6] (h := t12)
 have z1 := (n0.cap 0 rfl).1
 have A1 := (n0.cap 2 rfl).1
 refine cd 7 [] (λ c31 => ?_) (λ c31 => ?_)
 refine any 1 [] 9 [0, 1, 3] λ l1 D0 => ?_
 refine av [0, 1, 2] [] 3 (s := Vl A Ch.length c) (a := by exact λ w2 hw2 => cv (Ru.load1 kV rfl ((hw2.rd 1 rfl).ld (k := 0) rfl)) rfl) (b := ?_)
 refine aO [4, 5] [] 6 ?_
 refine cq 0 [] (b := lD _ _ _ l1 (D0.rd 0 rfl) qo) (c := ?_)
 rintro _ O1 ⟨b0, d0, c0, e0, rfl, e1⟩
 have p0 := D0.cl 0 e1
 have E1 := (p0.cap 0 rfl).1
 have F1 := (p0.cap 1 rfl).1
 refine os 0 [] [2, 3, 5] ?_
 refine av [] [] 7 (a := by exact λ _ hw2 => cJ hja (p0.rd 4 rfl) (h0 := t1)) (b := ?_)
 refine aO [] [] 8 ?_
 refine sF 0 [] 4 (⟨⟨b0, d0, bG rw9⟩, ⟨none, 0, []⟩, ⟨c0, e0, rw9.map PairT.val⟩⟩ : PgL) hja λ P1 L0 => ?_
 refine os 0 [] [2, 3, 5] ?_
 refine an [] [] ?_
 have W0 := Mem.addNil (e := 3) (sz := 1) L0
 have Q0 := Mem.gset (k := ⟨b0, d0, bG rw9⟩) (c := ⟨none, 0, []⟩) (v := ⟨c0, e0, rw9.map PairT.val⟩) a9.toNat (W0.pk [6, 1, 0, 2, 3, 4, 5])
 have X0 := Q0.rF 3 (Ch.set a9.toNat (⟨⟨b0, d0, bG rw9⟩, ⟨none, 0, []⟩, ⟨c0, e0, rw9.map PairT.val⟩⟩ : PgL) : List PgL) (e := rfl)
 have Y0 := X0.reC 2 (congrArg (λ z_ => mdC A z_ c g j) (show Ch.length = (Ch.set a9.toNat (⟨⟨b0, d0, bG rw9⟩, ⟨none, 0, []⟩, ⟨c0, e0, rw9.map PairT.val⟩⟩ : PgL)).length from t2))
 refine E2 6 [] (.bool true) (I 0) ?_
 have hJ := mdR_1 (r := rw9) (y := (Ch[b9.toNat]'hjb).t) t1
 have Z0 := Y0.rF 3 ((Ch.set a9.toNat (⟨⟨b0, d0, bG rw9⟩, ⟨none, 0, []⟩, ⟨c0, e0, rw9.map PairT.val⟩⟩ : PgL)) : List PgL) (e := t2)
 exact ⟨Ch.set a9.toNat (⟨⟨b0, d0, bG rw9⟩, ⟨none, 0, []⟩, ⟨c0, e0, rw9.map PairT.val⟩⟩ : PgL), (by rw [hg_a9, hg_b9, <- hrw, hJ]; try rfl), (by rw [hg_a9, hg_b9, <- hrw, hJ, aGe t1 hjb, cV]; rfl), (Z0.pk [2, 3, 0])⟩
 refine cq 4 [] (b := yA _ _ _ o1 (n0.rd 0 rfl) qo qo (by exact hv)) (c := ?_)
 rintro _ Q1 ⟨p1, r1, q1, s1, rfl, f1⟩
 have E0 := n0.cl 0 f1
 have G1 := (E0.cap 0 rfl).1
 have H1 := (E0.cap 1 rfl).1
 refine any 7 [] 9 [0, 1, 2, 3, 5] λ m1 F0 => ?_
 refine av [0, 1, 2] [] 3 (s := Vl A Ch.length c) (a := by exact λ w2 hw2 => cv (Ru.load1 kV rfl ((hw2.rd 3 rfl).ld (k := 0) rfl)) rfl) (b := ?_)
 refine aO [4, 5] [] 6 ?_
 refine cq 0 [] (b := lD _ _ _ m1 (F0.rd 0 rfl) (by simp only [aB]; omega)) (c := ?_)
 rintro _ R1 ⟨t0, y0, v0, A0, rfl, g1⟩
 have q0 := F0.cl 0 g1
 have I1 := (q0.cap 0 rfl).1
 have J1 := (q0.cap 1 rfl).1
 refine os 0 [] [2, 3, 4, 5, 7] ?_
 refine av [] [] 7 (a := by exact λ _ hw2 => cJ hja (q0.rd 6 rfl) (h0 := t1)) (b := ?_)
 refine aO [] [] 8 ?_
 let a0 : PgL := (⟨⟨t0, y0, bG (rw9.take ((rw9.length + 1) / 2))⟩, ⟨none, 0, []⟩, ⟨v0, A0, (rw9.take ((rw9.length + 1) / 2)).map PairT.val⟩⟩ : PgL)
 refine sF 0 [] 6 a0 hja λ S1 M0 => ?_
 refine os 0 [] [2, 3, 4, 5, 7] ?_
 refine an [] [] ?_
 have a1 := Mem.addNil (e := 3) (sz := 1) M0
 have R0 := Mem.gset (k := ⟨t0, y0, bG (rw9.take ((rw9.length + 1) / 2))⟩) (c := ⟨none, 0, []⟩) (v := ⟨v0, A0, (rw9.take ((rw9.length + 1) / 2)).map PairT.val⟩) a9.toNat (a1.pk [8, 1, 0, 2, 3, 4, 5, 6, 7])
 have S0 := R0.rF 5 (Ch.set a9.toNat a0 : List PgL) (e := rfl)
 have v1 := S0.reC 4 (congrArg (λ z_ => mdC A z_ c g j) (show Ch.length = (Ch.set a9.toNat a0).length from t2))
 refine any 1 [] 9 [0, 1, 2, 3, 4] λ n1 G0 => ?_
 refine av [0, 1, 2] [] 3 (s := Vl A (Ch.set a9.toNat a0).length c) (a := by exact λ w2 hw2 => cv (Ru.load1 kV rfl ((hw2.rd 4 rfl).ld (k := 0) rfl)) rfl) (b := ?_)
 refine aO [4, 5] [] 6 ?_
 refine cq 0 [] (b := lD _ _ _ n1 (G0.rd 2 rfl) (by simp only [aI]; omega)) (c := ?_)
 rintro _ T1 ⟨u0, z0, w0, B0, rfl, h1⟩
 have r0 := G0.cl 0 h1
 have K1 := (r0.cap 0 rfl).1
 have L1 := (r0.cap 1 rfl).1
 refine os 0 [] [2, 3, 4, 5, 6] ?_
 have H0 : b9.toNat < (Ch.set a9.toNat a0).length := t24
 refine av [] [] 7 (a := by exact λ _ hw2 => cJ H0 (r0.rd 7 rfl) (h0 := t1)) (b := ?_)
 refine aO [] [] 8 ?_
 let f0 : PgL := (⟨⟨u0, z0, bG (rw9.drop ((rw9.length + 1) / 2))⟩, ⟨none, 0, []⟩, ⟨w0, B0, (rw9.drop ((rw9.length + 1) / 2)).map PairT.val⟩⟩ : PgL)
 refine sF 0 [] 7 f0 H0 λ U1 N0 => ?_
 refine os 0 [] [2, 3, 4, 5, 6] ?_
 refine an [] [] ?_
 have T0 := Mem.addNil (e := 3) (sz := 1) N0
 have P0 := Mem.gset (k := ⟨u0, z0, bG (rw9.drop ((rw9.length + 1) / 2))⟩) (c := ⟨none, 0, []⟩) (v := ⟨w0, B0, (rw9.drop ((rw9.length + 1) / 2)).map PairT.val⟩) b9.toNat (T0.pk [3, 1, 0, 2, 4, 5, 6, 7, 8])
 have U0 := P0.rF 5 ((Ch.set a9.toNat a0).set b9.toNat f0 : List PgL) (e := rfl)
 have x1 := U0.reC 4 (congrArg (λ z_ => mdC A z_ c g j) (show (Ch.set a9.toNat a0).length = ((Ch.set a9.toNat a0).set b9.toNat f0).length from t2))
 refine dr 1 [] ?_
 have s0 : 0 < (rw9.drop ((rw9.length + 1) / 2)).length := (by simp only [aI]; omega)
 refine qv 1 [] (a := by exact λ _ hw2 => cJ s0 (hw2.rd 2 rfl) (h0 := t1)) (b := ?_)
 refine qv 0 [] (a := by exact λ _ hw2 => fZ s0 (hw2.rd 2 rfl)) (b := ?_)
 refine qv 0 [] (s := Vi (rw9.getD ((rw9.length + 1) / 2) ⟨0, 0⟩).key) (a := by exact λ w2 hw2 => cv (Ru.congr (Ru.load1 el3 rfl (ldf dI (hw2.rd 2 rfl) s0 rfl)) (I_congr (by rw [qB (show (rw9.length + 1) / 2 < rw9.length by omega)]; simp))) rfl) (b := ?_)
 refine qn 2 [] λ V1 O0 => ?_
 refine E2 1 [] (.bool false) (I (rw9.getD ((rw9.length + 1) / 2) ⟨0, 0⟩).key) ?_
 have hJ := mdR_2 (r := rw9) (y := (Ch[b9.toNat]'hjb).t) t1
 have V0 := O0.rF 5 (((Ch.set a9.toNat a0).set b9.toNat f0) : List PgL) (e := t2)
 exact ⟨(Ch.set a9.toNat a0).set b9.toNat f0, (by rw [hg_a9, hg_b9, <- hrw, hJ]; try rfl), (by rw [hg_a9, hg_b9, <- hrw, hJ, cV, cV]; rfl), (V0.pk [4, 5, 0])⟩
theorem zV (b : Nat) (A : Option Addr) (c : Nat) (Ch : List PgL) (g : List Int) (j : Int) (a9 : Int) (k9 : Int) (b9 : Int) (w : World) (hM : Mem w w (rS [[⟨.slice (bl b) 1 1, 169, 18, 1, mdC A Ch.length c g j⟩], oG A c Ch, Ch.flatMap (pgF 3)]) [[⟨.slice (bl b) 1 1, 169, 18, 1, mdC A Ch.length c g j⟩], oG A c Ch, Ch.flatMap (pgF 3)]) (ha : 0 <= a9 /\ a9 < (Ch.length : Int)) (hb : 0 <= b9 /\ b9 < (Ch.length : Int)) (hab : a9 ≠ b9) (hk5 : (gP (⟨0, tsG Ch⟩ : TrT) a9).keys.length <= 5 /\ (gP (⟨0, tsG Ch⟩ : TrT) b9).keys.length <= 5) (hcA : (gP (⟨0, tsG Ch⟩ : TrT) a9).kids.length = (gP (⟨0, tsG Ch⟩ : TrT) a9).keys.length + 1) (hcB : (gP (⟨0, tsG Ch⟩ : TrT) b9).kids.length = (gP (⟨0, tsG Ch⟩ : TrT) b9).keys.length + 1) :
  aR Tryz.prog 197 [.pointer (ofs (bl b) 0), I a9, I k9, I b9] w (λ v w1 => ∃ (L2 : List PgL), v = .tuple #[.bool (mdI ((gP (⟨0, tsG Ch⟩ : TrT) a9).keys ++ [k9] ++ (gP (⟨0, tsG Ch⟩ : TrT) b9).keys) ((gP (⟨0, tsG Ch⟩ : TrT) a9).kids ++ (gP (⟨0, tsG Ch⟩ : TrT) b9).kids) (gP (⟨0, tsG Ch⟩ : TrT) b9)).1, I (mdI ((gP (⟨0, tsG Ch⟩ : TrT) a9).keys ++ [k9] ++ (gP (⟨0, tsG Ch⟩ : TrT) b9).keys) ((gP (⟨0, tsG Ch⟩ : TrT) a9).kids ++ (gP (⟨0, tsG Ch⟩ : TrT) b9).kids) (gP (⟨0, tsG Ch⟩ : TrT) b9)).2.1] /\ (tsG L2 = ((tsG Ch).set a9.toNat (mdI ((gP (⟨0, tsG Ch⟩ : TrT) a9).keys ++ [k9] ++ (gP (⟨0, tsG Ch⟩ : TrT) b9).keys) ((gP (⟨0, tsG Ch⟩ : TrT) a9).kids ++ (gP (⟨0, tsG Ch⟩ : TrT) b9).kids) (gP (⟨0, tsG Ch⟩ : TrT) b9)).2.2.1).set b9.toNat (mdI ((gP (⟨0, tsG Ch⟩ : TrT) a9).keys ++ [k9] ++ (gP (⟨0, tsG Ch⟩ : TrT) b9).keys) ((gP (⟨0, tsG Ch⟩ : TrT) a9).kids ++ (gP (⟨0, tsG Ch⟩ : TrT) b9).kids) (gP (⟨0, tsG Ch⟩ : TrT) b9)).2.2.2) /\ Mem w w1 (rS [[⟨.slice (bl b) 1 1, 169, 18, 1, mdC A Ch.length c g j⟩], oG A c Ch, Ch.flatMap (pgF 3)]) [[⟨.slice (bl b) 1 1, 169, 18, 1, mdC A L2.length c g j⟩], oG A c L2, L2.flatMap (pgF 3)]) := by
 refine aR.n2 Tryz.func197 rfl Tryz.results197 Tryz.ntmps197 rfl ?_
 have hja : a9.toNat < Ch.length := by omega
 have hg_a9 : gP (⟨0, tsG Ch⟩ : TrT) a9 = (Ch[a9.toNat]'hja).t := jW hja
 have hjb : b9.toNat < Ch.length := by omega
 have hg_b9 : gP (⟨0, tsG Ch⟩ : TrT) b9 = (Ch[b9.toNat]'hjb).t := jW hjb
 rw [hg_a9] at hk5 hcA
 rw [hg_b9] at hk5 hcB
 have hkA : (Ch[a9.toNat]'hja).k.l.length <= 5 := hk5.1
 have hkB : (Ch[b9.toNat]'hjb).k.l.length <= 5 := hk5.2
 have hnA : (Ch[a9.toNat]'hja).c.l.length = (Ch[a9.toNat]'hja).k.l.length + 1 := hcA
 have hnB : (Ch[b9.toNat]'hjb).c.l.length = (Ch[b9.toNat]'hjb).k.l.length + 1 := hcB
 obtain ⟨ks9, hks⟩ : ∃ z, z = (Ch[a9.toNat]'hja).k.l ++ [k9] ++ (Ch[b9.toNat]'hjb).k.l := ⟨_, rfl⟩
 obtain ⟨cs9, hcs⟩ : ∃ z, z = (Ch[a9.toNat]'hja).c.l ++ (Ch[b9.toNat]'hjb).c.l := ⟨_, rfl⟩
 have hksl : ks9.length = (Ch[a9.toNat]'hja).k.l.length + 1 + (Ch[b9.toNat]'hjb).k.l.length := by rw [hks]; simp; omega
 have hcsl : cs9.length = ks9.length + 1 := by rw [hksl, hcs, aA]; omega
 have hJe : (mdI ((gP (⟨0, tsG Ch⟩ : TrT) a9).keys ++ [k9] ++ (gP (⟨0, tsG Ch⟩ : TrT) b9).keys) ((gP (⟨0, tsG Ch⟩ : TrT) a9).kids ++ (gP (⟨0, tsG Ch⟩ : TrT) b9).kids) (gP (⟨0, tsG Ch⟩ : TrT) b9)) = mdI ks9 cs9 (Ch[b9.toNat]'hjb).t := by rw [hg_a9, hg_b9, hks, hcs]; rfl
 refine ct5 5 [] (λ (bx9 : Nat) (A5 : Option Addr) (c5 : Nat) (A6 : Option Addr) (c6 : Nat) => ([(10, Vp (bl bx9) 0)] : List (Nat × SV))) (λ bx9 A5 c5 A6 c6 => True) (λ bx9 A5 c5 A6 c6 => [[⟨.slice (bl bx9) 1 1, 65, 2, 1, [.slice A5 ks9.length c5, .slice A6 cs9.length c6]⟩], oI A5 c5 ks9, oI A6 c6 cs9]) [0, 1, 3] [0, 1, 2] ?_ (λ bx9 A5 c5 A6 c6 σ v1 hI i0 => ?_)
 ·refine any 0 [] 20 [0, 1, 2] λ o1 x0 => ?_
  refine av [0, 1, 2] [] 3 (s := Vl A Ch.length c) (a := by exact λ w2 hw2 => cv (Ru.load1 kV rfl ((hw2.rd 0 rfl).ld (k := 0) rfl)) rfl) (b := ?_)
  refine av [4] [] 5 (a := by exact λ _ hw2 => cJ hja (x0.rd 1 rfl) (h0 := t1)) (b := ?_)
  refine av [] [] 6 (a := by exact λ _ hw2 => gL hja (hw2.rd 1 rfl)) (b := ?_)
  refine av [8, 9, 10, 11] [] 12 (s := Vl A Ch.length c) (a := by exact λ w2 hw2 => cv (Ru.load1 kV rfl ((hw2.rd 0 rfl).ld (k := 0) rfl)) rfl) (b := ?_)
  refine av [13] [] 14 (a := by exact λ _ hw2 => cJ hjb (x0.rd 1 rfl) (h0 := t1)) (b := ?_)
  refine av [] [] 15 (a := by exact λ _ hw2 => gL hjb (hw2.rd 1 rfl)) (b := ?_)
  refine jn5 [] [] (λ (c0 : Option Addr) (e0 : Nat) (d0 : Option Addr) (f0 : Nat) (a0 : Nat) => ([(10, Vp (bl a0) 0), (31, Va [.sl c0 ((Ch[a9.toNat]'hja).k.l ++ ([k9] ++ (Ch[b9.toNat]'hjb).k.l)).length e0, .sl d0 ((Ch[a9.toNat]'hja).c.l ++ (Ch[b9.toNat]'hjb).c.l).length f0])] : List (Nat × SV))) (λ c0 e0 d0 f0 a0 => [[⟨.slice (bl a0) 1 1, 65, 2, 1, [.slice none 0 0, .slice none 0 0]⟩], oI c0 e0 ((Ch[a9.toNat]'hja).k.l ++ ([k9] ++ (Ch[b9.toNat]'hjb).k.l)), oI d0 f0 ((Ch[a9.toNat]'hja).c.l ++ (Ch[b9.toNat]'hjb).c.l)]) [0, 1, 3] [0, 1, 2] 1 [true, true, true, true, true, true, true, true, true, true, true, true, true, true, true, true, true, true, true, false] (λ A0 => ?_) (λ c0 e0 d0 f0 a0 σ b2 D1 => ?_)
  rotate_left
  ·refine aO [] [] 19 ?_
   refine Sb 0 [] 0 λ P1 M0 => ?_
   refine os 0 [] [3, 4, 5] ?_
   refine an [] [] ?_
   have H0 : ((Ch[a9.toNat]'hja).k.l ++ ([k9] ++ (Ch[b9.toNat]'hjb).k.l) : List Int) = ks9 := (by rw [hks]; simp)
   have X0 := M0.reM 1 H0
   have e1 := X0.reB 0 0 (show ((Ch[a9.toNat]'hja).k.l ++ ([k9] ++ (Ch[b9.toNat]'hjb).k.l)).length = ks9.length from congrArg List.length H0)
   have I0 : ((Ch[a9.toNat]'hja).c.l ++ (Ch[b9.toNat]'hjb).c.l : List Int) = cs9 := hcs.symm
   have f1 := e1.reM 2 I0
   have F1 := f1.reB 0 1 (show ((Ch[a9.toNat]'hja).c.l ++ (Ch[b9.toNat]'hjb).c.l).length = cs9.length from congrArg List.length I0)
   exact ce5 0 [] a0 c0 e0 d0 f0 [0, 1, 2, 3, 4, 5] (h := t12)
  refine jn1 [] [] (λ (a0 : Nat) => ([(10, Vp (bl a0) 0), (21, Va [.sl (Ch[a9.toNat]'hja).k.A (Ch[a9.toNat]'hja).k.l.length (Ch[a9.toNat]'hja).k.cp, .sl (Ch[a9.toNat]'hja).c.A (Ch[a9.toNat]'hja).c.l.length (Ch[a9.toNat]'hja).c.cp]), (30, Va [.sl (Ch[b9.toNat]'hjb).k.A (Ch[b9.toNat]'hjb).k.l.length (Ch[b9.toNat]'hjb).k.cp, .sl (Ch[b9.toNat]'hjb).c.A (Ch[b9.toNat]'hjb).c.l.length (Ch[b9.toNat]'hjb).c.cp])] : List (Nat × SV))) (λ a0 => [[⟨.slice (bl a0) 1 1, 65, 2, 1, [.slice none 0 0, .slice none 0 0]⟩]]) [0, 1, 3, 22] [0, 1, 2] 2 [true, true, true, true, true, true, true, true, true, true, true, true, true, true, true, true, true, false, true, false] (λ B0 => ?_) (λ a0 σ s1 k0 => ?_)
  rotate_left
  ·refine aO [] [] 17 ?_
   refine cq 0 [] (b := aAf (Ch[a9.toNat]'hja).k.A (Ch[a9.toNat]'hja).k.cp (Ch[a9.toNat]'hja).k.l (Ch[a9.toNat]'hja).c.A (Ch[a9.toNat]'hja).c.cp (Ch[a9.toNat]'hja).c.l _ (Ch[b9.toNat]'hjb).k.A (Ch[b9.toNat]'hjb).k.cp (Ch[b9.toNat]'hjb).k.l (Ch[b9.toNat]'hjb).c.A (Ch[b9.toNat]'hjb).c.cp (Ch[b9.toNat]'hjb).c.l s1 ((NsP.mem k0 3 rfl).get hja).1 ((NsP.mem k0 3 rfl).get hja).2.1 ((NsP.mem k0 3 rfl).get hjb).1 ((NsP.mem k0 3 rfl).get hjb).2.1 (by refine ⟨?_, ?_, ?_, ?_⟩ <;> omega)) (c := ?_)
   rintro _ n1 ⟨c0, e0, d0, f0, rfl, y0⟩
   have j0 := k0.cl 0 y0
   have l1 := (j0.cap 0 rfl).1
   have m1 := (j0.cap 1 rfl).1
   refine os 0 [] [3, 4, 5] ?_
   exact jd5 [] [] A0 c0 e0 d0 f0 a0 [2, 0, 1, 3, 4, 5]
  refine jn1 [] [] (λ (a0 : Nat) => ([(10, Vp (bl a0) 0), (21, Va [.sl (Ch[a9.toNat]'hja).k.A (Ch[a9.toNat]'hja).k.l.length (Ch[a9.toNat]'hja).k.cp, .sl (Ch[a9.toNat]'hja).c.A (Ch[a9.toNat]'hja).c.l.length (Ch[a9.toNat]'hja).c.cp])] : List (Nat × SV))) (λ a0 => [[⟨.slice (bl a0) 1 1, 65, 2, 1, [.slice none 0 0, .slice none 0 0]⟩]]) [0, 1, 3, 22, 29] [0, 1, 2] 3 [true, true, true, true, true, true, true, true, true, true, true, true, true, true, true, true, false, false, true, false] (λ C0 => ?_) (λ a0 σ u1 T0 => ?_)
  rotate_left
  ·refine aO [] [] 16 ?_
   refine cp 0 [] (b := iM (Ch[b9.toNat]'hjb) u1 ((NsP.mem T0 3 rfl).get hjb)) (c := λ K0 g0 => ?_)
   refine os 0 [] [1, 2, 3] ?_
   exact jd1 [] [] B0 a0 [0, 1, 2, 3]
  refine aT [] [] 7 18 ?_ ?_
  ·refine cp 0 [] (b := iM (Ch[a9.toNat]'hja) o1 ((NsP.mem x0 2 rfl).get hja)) (c := λ L0 D0 => ?_)
   refine os 0 [] [0, 1, 2] ?_
   refine aT [] [] 16 18 ?_ ?_
   ·refine cp 0 [] (b := iM (Ch[b9.toNat]'hjb) L0 ((NsP.mem D0 2 rfl).get hjb)) (c := λ K0 g0 => ?_)
    refine os 0 [] [0, 1, 2] ?_
    refine aT [] [] 17 18 ?_ ?_
    ·refine cq 0 [] (b := aAf (Ch[a9.toNat]'hja).k.A (Ch[a9.toNat]'hja).k.cp (Ch[a9.toNat]'hja).k.l (Ch[a9.toNat]'hja).c.A (Ch[a9.toNat]'hja).c.cp (Ch[a9.toNat]'hja).c.l _ (Ch[b9.toNat]'hjb).k.A (Ch[b9.toNat]'hjb).k.cp (Ch[b9.toNat]'hjb).k.l (Ch[b9.toNat]'hjb).c.A (Ch[b9.toNat]'hjb).c.cp (Ch[b9.toNat]'hjb).c.l K0 ((NsP.mem g0 2 rfl).get hja).1 ((NsP.mem g0 2 rfl).get hja).2.1 ((NsP.mem g0 2 rfl).get hjb).1 ((NsP.mem g0 2 rfl).get hjb).2.1 (by refine ⟨?_, ?_, ?_, ?_⟩ <;> omega)) (c := ?_)
     rintro _ n1 ⟨c0, e0, d0, f0, rfl, y0⟩
     have j0 := g0.cl 0 y0
     have l1 := (j0.cap 0 rfl).1
     have m1 := (j0.cap 1 rfl).1
     refine os 0 [] [2, 3, 4] ?_
     refine aO [] [] 18 ?_
     refine Al 0 [] λ o0 a0 z0 m0 => ?_
     refine os 0 [] [3, 4, 5] ?_
     exact jd5 [] [] A0 c0 e0 d0 f0 a0 [0, 1, 2, 3, 4, 5]
    refine Al 0 [] λ o0 a0 z0 m0 => ?_
    refine os 0 [] [1, 2, 3] ?_
    exact jd1 [] [] B0 a0 [0, 1, 2, 3]
   refine Al 0 [] λ o0 a0 z0 m0 => ?_
   refine os 0 [] [1, 2, 3] ?_
   exact jd1 [] [] C0 a0 [0, 1, 2, 3]
  refine Al 0 [] λ o0 a0 z0 m0 => ?_
  refine os 0 [] [1, 2, 3] ?_
  refine aO [] [] 7 ?_
  refine cp 0 [] (b := iM (Ch[a9.toNat]'hja) o0 ((NsP.mem m0 3 rfl).get hja)) (c := λ L0 D0 => ?_)
  refine os 0 [] [1, 2, 3] ?_
  exact jd1 [] [] C0 a0 [0, 1, 2, 3]
 have I1 := (i0.cap 1 rfl).1
 have J1 := (i0.cap 2 rfl).1
 have K1 := (i0.cap 4 rfl).1
 refine cd 8 [0] (λ c35 => ?_) (λ c35 => ?_)
 ·refine any 1 [] 9 [0, 1, 2, 3, 5] λ p1 E0 => ?_
  refine av [0, 1, 2] [] 3 (s := Vl A Ch.length c) (a := by exact λ w2 hw2 => cv (Ru.load1 kV rfl ((hw2.rd 3 rfl).ld (k := 0) rfl)) rfl) (b := ?_)
  refine aO [4, 5] [0] 6 ?_
  refine cp 0 [] (b := iN A5 c5 ks9 A6 c6 cs9 p1 (E0.rd 1 rfl) (E0.rd 2 rfl)) (c := λ Q1 N0 => ?_)
  refine os 0 [] [0, 1, 2, 3, 5] ?_
  refine av [] [] 7 (a := by exact λ _ hw2 => cJ hja (N0.rd 4 rfl) (h0 := t1)) (b := ?_)
  refine aO [] [] 8 ?_
  refine sF 0 [] 4 (⟨⟨A5, c5, ks9⟩, ⟨A6, c6, cs9⟩, ⟨none, 0, []⟩⟩ : PgL) hja λ R1 O0 => ?_
  refine os 0 [] [0, 1, 2, 3, 5] ?_
  refine an [] [] ?_
  have g1 := Mem.addNil (e := 3) (sz := 1) O0
  have W0 := Mem.gset (k := ⟨A5, c5, ks9⟩) (c := ⟨A6, c6, cs9⟩) (v := ⟨none, 0, []⟩) a9.toNat (g1.pk [6, 2, 3, 0, 1, 4, 5])
  have h1 := W0.rF 3 (Ch.set a9.toNat (⟨⟨A5, c5, ks9⟩, ⟨A6, c6, cs9⟩, ⟨none, 0, []⟩⟩ : PgL) : List PgL) (e := rfl)
  have i1 := h1.reC 2 (congrArg (λ z_ => mdC A z_ c g j) (show Ch.length = (Ch.set a9.toNat (⟨⟨A5, c5, ks9⟩, ⟨A6, c6, cs9⟩, ⟨none, 0, []⟩⟩ : PgL)).length from t2))
  refine E2 6 [] (.bool true) (I 0) ?_
  have hJ := mdI_1 (ks := ks9) (cs := cs9) (y := (Ch[b9.toNat]'hjb).t) t1
  have j1 := i1.rF 3 ((Ch.set a9.toNat (⟨⟨A5, c5, ks9⟩, ⟨A6, c6, cs9⟩, ⟨none, 0, []⟩⟩ : PgL)) : List PgL) (e := t2)
  exact ⟨Ch.set a9.toNat (⟨⟨A5, c5, ks9⟩, ⟨A6, c6, cs9⟩, ⟨none, 0, []⟩⟩ : PgL), (by rw [hJe, hJ]; try rfl), (by rw [hJe, hJ, aGe t1 hjb, cV]; rfl), (j1.pk [2, 3, 0])⟩
 refine cq 4 [0] (b := vW A5 c5 ks9 A6 c6 cs9 v1 (i0.rd 1 rfl) (i0.rd 2 rfl) (by constructor <;> omega) (by constructor <;> omega) qo) (c := ?_)
 rintro _ S1 ⟨p0, t0, q0, u0, r0, v0, s0, w0, rfl, k1⟩
 have n0 := i0.cl 0 k1
 have L1 := (n0.cap 0 rfl).1
 have M1 := (n0.cap 1 rfl).1
 have N1 := (n0.cap 2 rfl).1
 have O1 := (n0.cap 3 rfl).1
 refine Al 4 [] λ U1 x1 G1 A1 => ?_
 refine Al 0 [] λ V1 y1 H1 B1 => ?_
 refine Sb 0 [] 1 λ W1 C1 => ?_
 refine Sb 1 [] 0 λ T1 z1 => ?_
 refine any 2 [] 9 [0, 1, 2, 3, 4, 5, 6, 7, 8, 9, 11] λ q1 F0 => ?_
 refine av [0, 1, 2] [] 3 (s := Vl A Ch.length c) (a := by exact λ w2 hw2 => cv (Ru.load1 kV rfl ((hw2.rd 9 rfl).ld (k := 0) rfl)) rfl) (b := ?_)
 refine aO [4, 5] [1] 6 ?_
 refine cp 0 [] (b := iN p0 t0 (ks9.take (ks9.length / 2)) q0 u0 (cs9.take (ks9.length / 2 + 1)) q1 (F0.rd 2 rfl) (F0.rd 3 rfl)) (c := λ X1 P0 => ?_)
 refine os 0 [] [0, 1, 2, 3, 4, 5, 6, 7, 8, 9, 11] ?_
 refine av [] [] 7 (a := by exact λ _ hw2 => cJ hja (P0.rd 10 rfl) (h0 := t1)) (b := ?_)
 refine aO [] [] 8 ?_
 let b0 : PgL := (⟨⟨p0, t0, ks9.take (ks9.length / 2)⟩, ⟨q0, u0, cs9.take (ks9.length / 2 + 1)⟩, ⟨none, 0, []⟩⟩ : PgL)
 refine sF 0 [] 10 b0 hja λ Y1 Q0 => ?_
 refine os 0 [] [0, 1, 2, 3, 4, 5, 6, 7, 8, 9, 11] ?_
 refine an [] [] ?_
 have Y0 := Mem.addNil (e := 3) (sz := 1) Q0
 have U0 := Mem.gset (k := ⟨p0, t0, ks9.take (ks9.length / 2)⟩) (c := ⟨q0, u0, cs9.take (ks9.length / 2 + 1)⟩) (v := ⟨none, 0, []⟩) a9.toNat (Y0.pk [12, 3, 4, 0, 1, 2, 5, 6, 7, 8, 9, 10, 11])
 have Z0 := U0.rF 9 (Ch.set a9.toNat b0 : List PgL) (e := rfl)
 have E1 := Z0.reC 8 (congrArg (λ z_ => mdC A z_ c g j) (show Ch.length = (Ch.set a9.toNat b0).length from t2))
 refine any 1 [] 9 [0, 1, 2, 3, 4, 5, 6, 7, 8] λ r1 G0 => ?_
 refine av [0, 1, 2] [] 3 (s := Vl A (Ch.set a9.toNat b0).length c) (a := by exact λ w2 hw2 => cv (Ru.load1 kV rfl ((hw2.rd 8 rfl).ld (k := 0) rfl)) rfl) (b := ?_)
 refine aO [4, 5] [1] 6 ?_
 refine cp 0 [] (b := iN r0 v0 (ks9.drop (ks9.length / 2 + 1)) s0 w0 (cs9.drop (ks9.length / 2 + 1)) r1 (G0.rd 3 rfl) (G0.rd 4 rfl)) (c := λ Z1 R0 => ?_)
 refine os 0 [] [0, 1, 2, 3, 4, 5, 6, 7, 8] ?_
 have J0 : b9.toNat < (Ch.set a9.toNat b0).length := t24
 refine av [] [] 7 (a := by exact λ _ hw2 => cJ J0 (R0.rd 9 rfl) (h0 := t1)) (b := ?_)
 refine aO [] [] 8 ?_
 let l0 : PgL := (⟨⟨r0, v0, ks9.drop (ks9.length / 2 + 1)⟩, ⟨s0, w0, cs9.drop (ks9.length / 2 + 1)⟩, ⟨none, 0, []⟩⟩ : PgL)
 refine sF 0 [] 9 l0 J0 λ a2 S0 => ?_
 refine os 0 [] [0, 1, 2, 3, 4, 5, 6, 7, 8] ?_
 refine an [] [] ?_
 have a1 := Mem.addNil (e := 3) (sz := 1) S0
 have V0 := Mem.gset (k := ⟨r0, v0, ks9.drop (ks9.length / 2 + 1)⟩) (c := ⟨s0, w0, cs9.drop (ks9.length / 2 + 1)⟩) (v := ⟨none, 0, []⟩) b9.toNat (a1.pk [1, 4, 5, 0, 2, 3, 6, 7, 8, 9, 10])
 have b1 := V0.rF 7 ((Ch.set a9.toNat b0).set b9.toNat l0 : List PgL) (e := rfl)
 have c1 := b1.reC 6 (congrArg (λ z_ => mdC A z_ c g j) (show (Ch.set a9.toNat b0).length = ((Ch.set a9.toNat b0).set b9.toNat l0).length from t2))
 refine E2 7 [] (.bool false) (I (ks9.getD (ks9.length / 2) 0)) ?_
 have hJ := mdI_2 (ks := ks9) (cs := cs9) (y := (Ch[b9.toNat]'hjb).t) t1
 have d1 := c1.rF 7 (((Ch.set a9.toNat b0).set b9.toNat l0) : List PgL) (e := t2)
 exact ⟨(Ch.set a9.toNat b0).set b9.toNat l0, (by rw [hJe, hJ]; try rfl), (by rw [hJe, hJ, cV, cV]; rfl), (d1.pk [6, 7, 0])⟩
end Go.Proofs.YtemejgglbhjodaaGreatDoor
namespace Go.Proofs.YtemejgglbhjodaaGreatDoor
open Go.Px
set_option maxHeartbeats 8000000 in
theorem aOc (b : Nat) (A : Option Addr) (c : Nat) (Ch : List PgL) (g : List Int) (j : Int) (up : Int) (cur : Int) (f : Nat) (a9 : Int) (b9 : Int) (w : World) (hM : Mem w w (rS [[⟨.slice (bl b) 1 1, 169, 18, 1, mdC A Ch.length c g j⟩], oG A c Ch, Ch.flatMap (pgF 3)]) [[⟨.slice (bl b) 1 1, 169, 18, 1, mdC A Ch.length c g j⟩], oG A c Ch, Ch.flatMap (pgF 3)]) (hmd : MD (⟨0, tsG Ch⟩ : TrT) up f a9 b9) (hfp : f = (dE (gP (⟨0, tsG Ch⟩ : TrT) up).kids cur - 1).toNat) (hvr : (gP (⟨0, tsG Ch⟩ : TrT) a9).kids = [] -> bW (aV (gP (⟨0, tsG Ch⟩ : TrT) a9) ++ aV (gP (⟨0, tsG Ch⟩ : TrT) b9)) = true) (hl16 : Ch.length <= 16) (hj9 : 0 <= j /\ j <= 1000) :
  aR Tryz.prog 170 [.pointer (ofs (bl b) 0), I up, I cur] w (λ v w1 => ∃ (L2 : List PgL) (j2 : Int), v = (.tuple #[]) /\ ((⟨0, tsG L2⟩ : TrT) = (eE (⟨0, tsG Ch⟩ : TrT) up f).1) /\ (j <= j2 /\ j2 <= j + 1) /\ Mem w w1 (rS [[⟨.slice (bl b) 1 1, 169, 18, 1, mdC A Ch.length c g j⟩], oG A c Ch, Ch.flatMap (pgF 3)]) [[⟨.slice (bl b) 1 1, 169, 18, 1, mdC A L2.length c (dR g (eE (⟨0, tsG Ch⟩ : TrT) up f).2) j2⟩], oG A c L2, L2.flatMap (pgF 3)]) := by
 refine aR.n0 Tryz.func170 rfl Tryz.results170 Tryz.ntmps170 rfl ?_
 have hi_up := aX.1 hmd.iu
 refine go 1 [] ?_
 simp only [bC] at hi_up
 have hju : up.toNat < Ch.length := by omega
 have hg_up : gP (⟨0, tsG Ch⟩ : TrT) up = (Ch[up.toNat]'hju).t := jW hju
 have hz_up := iP hmd.sm hmd.iu
 rw [hg_up] at hz_up
 have hk_up : (Ch[up.toNat]'hju).k.l.length <= 5 := hz_up.1
 have hc_up : (Ch[up.toNat]'hju).c.l.length <= 6 := hz_up.2.1
 have hi_a9 := aX.1 hmd.ia
 simp only [bC] at hi_a9
 have hja : a9.toNat < Ch.length := by omega
 have hg_a9 : gP (⟨0, tsG Ch⟩ : TrT) a9 = (Ch[a9.toNat]'hja).t := jW hja
 have hz_a9 := iP hmd.sm hmd.ia
 rw [hg_a9] at hz_a9
 have hk_a9 : (Ch[a9.toNat]'hja).k.l.length <= 5 := hz_a9.1
 have hc_a9 : (Ch[a9.toNat]'hja).c.l.length <= 6 := hz_a9.2.1
 have hi_b9 := aX.1 hmd.ib
 simp only [bC] at hi_b9
 have hjb : b9.toNat < Ch.length := by omega
 have hg_b9 : gP (⟨0, tsG Ch⟩ : TrT) b9 = (Ch[b9.toNat]'hjb).t := jW hjb
 have hz_b9 := iP hmd.sm hmd.ib
 rw [hg_b9] at hz_b9
 have hk_b9 : (Ch[b9.toNat]'hjb).k.l.length <= 5 := hz_b9.1
 have hc_b9 : (Ch[b9.toNat]'hjb).c.l.length <= 6 := hz_b9.2.1
 have hkl := hmd.kl
 have hf1 := hmd.f1
 have hea := hmd.ea
 have heb := hmd.eb
 rw [hg_up] at hkl hf1 hea heb hfp
 have hkl : (Ch[up.toNat]'hju).c.l.length = (Ch[up.toNat]'hju).k.l.length + 1 := hkl
 have hf1 : f + 1 <= (Ch[up.toNat]'hju).k.l.length := hf1
 have hea : (Ch[up.toNat]'hju).c.l.getD f 0 = a9 := hea
 have heb : (Ch[up.toNat]'hju).c.l.getD (f + 1) 0 = b9 := heb
 have hfp : f = (dE (Ch[up.toNat]'hju).c.l cur - 1).toNat := hfp
 have hpb := plcI_b (Ch[up.toNat]'hju).c.l cur
 refine ov 4 [] (s := Vl A Ch.length c) (a := by exact cv (Ru.load1 kV rfl ((hM.rd 0 rfl).ld (k := 0) rfl)) rfl) (b := ?_)
 refine ov 1 [] (a := cJ hju (hM.rd 1 rfl) (h0 := t1)) (b := ?_)
 refine ov 0 [] (a := gL hju (hM.rd 1 rfl)) (b := ?_)
 refine cp 1 [] (b := rW (Ch[up.toNat]'hju) _ w ((NsP.mem hM 2 rfl).get hju) qo) (c := λ h1 Y0 => ?_)
 refine ov 0 [] (s := Vi (((f + 1) : Nat) : Int)) (a := by exact cv (Ru.congr (Ru.bmax rfl rfl) (I_congr (by rw [hfp]; omega))) rfl) (b := ?_)
 refine dr 3 [] ?_
 refine qv 3 [] (s := Vl A Ch.length c) (a := by exact λ w2 hw2 => cv (Ru.load1 kV rfl ((hw2.rd 0 rfl).ld (k := 0) rfl)) rfl) (b := ?_)
 refine qv 1 [] (a := by exact λ _ hw2 => cJ hju (hw2.rd 1 rfl) (h0 := t1)) (b := ?_)
 refine qv 0 [] (a := by exact λ _ hw2 => fZ hju (hw2.rd 1 rfl)) (b := ?_)
 refine qv 0 [] (a := by exact λ _ hw2 => gF hju (hw2.rd 1 rfl)) (b := ?_)
 refine qv 1 [] (a := by exact λ _ hw2 => eV) (b := ?_)
 have l0 : f < (Ch[up.toNat]'hju).c.l.length := t1
 refine qv 0 [] (a := by exact λ _ hw2 => cG l0 ((NsP.mem hw2 2 rfl).get hju).2.1 (h0 := t1)) (b := ?_)
 refine qv 0 [] (s := Vi a9) (a := by exact λ w2 hw2 => cv (Ru.congr (Ru.load1 el3 rfl (ldm ((NsP.mem hw2 2 rfl).get hju).2.1 l0)) (I_congr ((bF l0).symm.trans hea))) rfl) (b := ?_)
 refine qv 3 [] (s := Vl A Ch.length c) (a := by exact λ w2 hw2 => cv (Ru.load1 kV rfl ((hw2.rd 0 rfl).ld (k := 0) rfl)) rfl) (b := ?_)
 refine qv 1 [] (a := by exact λ _ hw2 => cJ hju (hw2.rd 1 rfl) (h0 := t1)) (b := ?_)
 refine qv 0 [] (a := by exact λ _ hw2 => fZ hju (hw2.rd 1 rfl)) (b := ?_)
 refine qv 0 [] (a := by exact λ _ hw2 => gF hju (hw2.rd 1 rfl)) (b := ?_)
 have m0 : (f + 1) < (Ch[up.toNat]'hju).c.l.length := t1
 refine qv 1 [] (a := by exact λ _ hw2 => cG m0 ((NsP.mem hw2 2 rfl).get hju).2.1 (h0 := t1)) (b := ?_)
 refine qv 0 [] (s := Vi b9) (a := by exact λ w2 hw2 => cv (Ru.congr (Ru.load1 el3 rfl (ldm ((NsP.mem hw2 2 rfl).get hju).2.1 m0)) (I_congr ((bF m0).symm.trans heb))) rfl) (b := ?_)
 refine qn 2 [] λ v0 a0 => ?_
 refine ct1 8 [] (λ (L1 : List PgL) => ([(9, Vb (mdJ (⟨0, tsG Ch⟩ : TrT) up a9 b9 f).1), (10, Vi (mdJ (⟨0, tsG Ch⟩ : TrT) up a9 b9 f).2.1)] : List (Nat × SV))) (λ L1 => (tsG L1 = ((tsG Ch).set a9.toNat (mdJ (⟨0, tsG Ch⟩ : TrT) up a9 b9 f).2.2.1).set b9.toNat (mdJ (⟨0, tsG Ch⟩ : TrT) up a9 b9 f).2.2.2)) (λ L1 => [[⟨.slice (bl b) 1 1, 169, 18, 1, mdC A L1.length c g j⟩], oG A c L1, L1.flatMap (pgF 3)]) [0, 1, 6, 8] [] ?_ (λ L1 σ o1 hI c0 => ?_)
 refine ov 5 [] (s := Vl A Ch.length c) (a := by exact cv (Ru.load1 kV rfl ((a0.rd 0 rfl).ld (k := 0) rfl)) rfl) (b := ?_)
 refine ov 1 [] (a := cJ hja (a0.rd 1 rfl) (h0 := t1)) (b := ?_)
 refine ov 0 [] (a := fZ hja (a0.rd 1 rfl)) (b := ?_)
 refine ov 0 [] (a := gF hja (a0.rd 1 rfl)) (b := ?_)
 refine cd 3 [] (λ c53 => ?_) (λ c53 => ?_)
 have hk0 : (gP (⟨0, tsG Ch⟩ : TrT) a9).kids = [] := by rw [hg_a9]; exact aP (by show (Ch[a9.toNat]'hja).c.l.length = 0; omega)
 have hlf := hmd.lf hk0
 have hJe := mend_jR (R := (⟨0, tsG Ch⟩ : TrT)) (up := up) (b := b9) (f := f) hk0
 refine cq 4 [] (b := zW b A c Ch g j _ _ v0 (a0.fp [0, 1, 2] rfl rfl) qo qo (by exact hmd.nab) (by exact ⟨(iP hmd.sm hmd.ia).1, (iP hmd.sm hmd.ib).1⟩) (by exact hlf.1) (by exact hlf.2) (by exact hvr hk0)) (c := ?_)
 rintro _ k1 ⟨x0, rfl, q0, R0⟩
 have B0 := a0.cl 3 R0
 have b1 := (B0.cap 1 rfl).1
 exact ce1 6 [] x0 [0, 1, 2] (hL := by exact (Has.cons (congrArg Value.bool (by rw [hJe])) (Has.cons (I_congr (by rw [hJe])) Has.nil))) (h := by exact (by (try dsimp only); first | (rw [hJe]; exact q0) | (rw [hJe]; exact r0)))
 have hk0 : (gP (⟨0, tsG Ch⟩ : TrT) a9).kids ≠ [] := by rw [hg_a9]; intro e9; exact absurd (show (Ch[a9.toNat]'hja).c.l.length = 0 from congrArg List.length e9) t1
 have hnn := hmd.inn hk0
 have hJe := mend_jI (R := (⟨0, tsG Ch⟩ : TrT)) (up := up) (b := b9) (f := f) hk0
 obtain ⟨k9, hk9⟩ : ∃ z, z = (Ch[up.toNat]'hju).k.l.getD f 0 := ⟨_, rfl⟩
 rw [show (gP (⟨0, tsG Ch⟩ : TrT) up).keys.getD f 0 = k9 by rw [hg_up, hk9]; rfl] at hJe
 refine ov 6 [] (s := Vl A Ch.length c) (a := by exact cv (Ru.load1 kV rfl ((a0.rd 0 rfl).ld (k := 0) rfl)) rfl) (b := ?_)
 refine ov 1 [] (a := cJ hju (a0.rd 1 rfl) (h0 := t1)) (b := ?_)
 refine ov 0 [] (a := fZ hju (a0.rd 1 rfl)) (b := ?_)
 refine ov 0 [] (a := gF hju (a0.rd 1 rfl)) (b := ?_)
 refine ov 1 [] (a := eV) (b := ?_)
 have o0 : f < (Ch[up.toNat]'hju).k.l.length := t1
 refine ov 0 [] (a := cG o0 ((NsP.mem a0 2 rfl).get hju).1 (h0 := t1)) (b := ?_)
 refine ov 0 [] (s := Vi k9) (a := by exact cv (Ru.congr (Ru.load1 el3 rfl (ldm ((NsP.mem a0 2 rfl).get hju).1 o0)) (I_congr ((bF o0).symm.trans hk9.symm))) rfl) (b := ?_)
 refine cq 1 [] (b := zV b A c Ch g j _ _ _ v0 (a0.fp [0, 1, 2] rfl rfl) qo qo (by exact hmd.nab) (by exact ⟨(iP hmd.sm hmd.ia).1, (iP hmd.sm hmd.ib).1⟩) (by exact hnn.1) (by exact hnn.2)) (c := ?_)
 rintro _ l1 ⟨y0, rfl, r0, S0⟩
 have C0 := a0.cl 3 S0
 have c1 := (C0.cap 1 rfl).1
 exact ce1 6 [] y0 [0, 1, 2] (hL := by exact (Has.cons (congrArg Value.bool (by rw [hJe])) (Has.cons (I_congr (by rw [hJe])) Has.nil))) (h := by exact (by (try dsimp only); first | (rw [hJe]; exact q0) | (rw [hJe]; exact r0)))
 have U0 := hI
 have a1 := (c0.cap 1 rfl).1
 have hts1 := U0
 have hLl : L1.length = Ch.length := by have h9 := congrArg List.length hts1; simpa using h9
 have hj1 : up.toNat < L1.length := by omega
 have hold : (L1[up.toNat]'hj1).t = gP (⟨0, tsG Ch⟩ : TrT) up := by rw [<- jW (r := 0) hj1, hts1]; exact aDh hmd
 have hkold : (L1[up.toNat]'hj1).k.l.length = (Ch[up.toNat]'hju).k.l.length := by have h9 := congrArg (λ z => z.keys.length) hold; rw [hg_up] at h9; exact h9
 have hcold : (L1[up.toNat]'hj1).c.l.length = (Ch[up.toNat]'hju).c.l.length := by have h9 := congrArg (λ z => z.kids.length) hold; rw [hg_up] at h9; exact h9
 refine cn 6 [] (λ c81 => ?_) (λ c81 => ?_)
 have hj1f : (mdJ (⟨0, tsG Ch⟩ : TrT) up a9 b9 f).1 = false := by simpa using c81
 refine ov 5 [] (s := Vl A L1.length c) (a := by exact cv (Ru.load1 kV rfl ((c0.rd 0 rfl).ld (k := 0) rfl)) rfl) (b := ?_)
 refine ov 1 [] (a := cJ hj1 (c0.rd 1 rfl) (h0 := t1)) (b := ?_)
 refine ov 0 [] (a := fZ hj1 (c0.rd 1 rfl)) (b := ?_)
 refine ov 0 [] (a := gF hj1 (c0.rd 1 rfl)) (b := ?_)
 refine ov 1 [] (a := eV) (b := ?_)
 have p0 : f < (L1[up.toNat]'hj1).k.l.length := (by rw [hkold]; omega)
 refine ov 1 [] (a := cG p0 ((NsP.mem c0 2 rfl).get hj1).1 (h0 := t1)) (b := ?_)
 refine O.mstore (vs := [I (mdJ (⟨0, tsG Ch⟩ : TrT) up a9 b9 f).2.1]) (xs' := ((L1[up.toNat]'hj1).k.l.set f (mdJ (⟨0, tsG Ch⟩ : TrT) up a9 b9 f).2.1).map I) 2 (3 * up.toNat) c0 rfl (aHy (e := 3) L1 hj1) rfl el3 rfl rfl rfl rfl rfl t13 t11 (wX (l := (L1[up.toNat]'hj1).k.l) (a := (mdJ (⟨0, tsG Ch⟩ : TrT) up a9 b9 f).2.1) p0) (congrArg (λ z_ : List FE => ([[⟨.slice (bl b) 1 1, 169, 18, 1, mdC A L1.length c g j⟩], oG A c L1, z_] : List (List FE))) (vL (e := 3) L1 hj1 p0)) (λ w0 (D0 : Mem w w0 (rS [[⟨.slice (bl b) 1 1, 169, 18, 1, mdC A Ch.length c g j⟩], oG A c Ch, Ch.flatMap (pgF 3)]) [[⟨.slice (bl b) 1 1, 169, 18, 1, mdC A L1.length c g j⟩], oG A c L1, (L1.set up.toNat (⟨⟨(L1[up.toNat]'hj1).k.A, (L1[up.toNat]'hj1).k.cp, (L1[up.toNat]'hj1).k.l.set f (mdJ (⟨0, tsG Ch⟩ : TrT) up a9 b9 f).2.1⟩, (L1[up.toNat]'hj1).c, (L1[up.toNat]'hj1).v⟩ : PgL)).flatMap (pgF 3)]) => ?_)
 let t0 : List FE := [⟨.slice (bl b) 1 1, 169, 18, 1, mdC A L1.length c g j⟩]
 let g1 : List FE := (oG A c L1)
 let u0 : List FE := (L1.set up.toNat (⟨⟨(L1[up.toNat]'hj1).k.A, (L1[up.toNat]'hj1).k.cp, (L1[up.toNat]'hj1).k.l.set f (mdJ (⟨0, tsG Ch⟩ : TrT) up a9 b9 f).2.1⟩, (L1[up.toNat]'hj1).c, (L1[up.toNat]'hj1).v⟩ : PgL)).flatMap (pgF 3)
 have J0 : Mem w w0 (rS [[⟨.slice (bl b) 1 1, 169, 18, 1, mdC A Ch.length c g j⟩], oG A c Ch, Ch.flatMap (pgF 3)]) [t0, [⟨.slice A L1.length c, 42, 3, L1.length, (L1.set up.toNat (⟨⟨(L1[up.toNat]'hj1).k.A, (L1[up.toNat]'hj1).k.cp, (L1[up.toNat]'hj1).k.l.set f (mdJ (⟨0, tsG Ch⟩ : TrT) up a9 b9 f).2.1⟩, (L1[up.toNat]'hj1).c, (L1[up.toNat]'hj1).v⟩ : PgL)).flatMap encPg⟩], u0] := Mem.cast D0 (congrArg (λ z_ : List Value => ([t0, [⟨.slice A L1.length c, 42, 3, L1.length, z_⟩], u0] : List (List FE))) (sE L1 hj1 (f := f) (v := (mdJ (⟨0, tsG Ch⟩ : TrT) up a9 b9 f).2.1)))
 have N0 := J0.rF 1 (L1.set up.toNat (⟨⟨(L1[up.toNat]'hj1).k.A, (L1[up.toNat]'hj1).k.cp, (L1[up.toNat]'hj1).k.l.set f (mdJ (⟨0, tsG Ch⟩ : TrT) up a9 b9 f).2.1⟩, (L1[up.toNat]'hj1).c, (L1[up.toNat]'hj1).v⟩ : PgL) : List PgL) (e := rfl)
 have O0 := N0.reC 0 (congrArg (λ z_ => mdC A z_ c g j) (show L1.length = (L1.set up.toNat (⟨⟨(L1[up.toNat]'hj1).k.A, (L1[up.toNat]'hj1).k.cp, (L1[up.toNat]'hj1).k.l.set f (mdJ (⟨0, tsG Ch⟩ : TrT) up a9 b9 f).2.1⟩, (L1[up.toNat]'hj1).c, (L1[up.toNat]'hj1).v⟩ : PgL)).length from t2))
 refine E0 2 [] ?_
 have hfin := mend_no hmd hj1f
 have K0 := O0.reC 0 (congrArg (λ z_ => mdC A (L1.set up.toNat (⟨⟨(L1[up.toNat]'hj1).k.A, (L1[up.toNat]'hj1).k.cp, (L1[up.toNat]'hj1).k.l.set f (mdJ (⟨0, tsG Ch⟩ : TrT) up a9 b9 f).2.1⟩, (L1[up.toNat]'hj1).c, (L1[up.toNat]'hj1).v⟩ : PgL)).length c z_ j) (show g = dR g (eE (⟨0, tsG Ch⟩ : TrT) up f).2 from (by rw [hfin]; rfl)))
 have P0 := K0.rF 1 ((L1.set up.toNat (⟨⟨(L1[up.toNat]'hj1).k.A, (L1[up.toNat]'hj1).k.cp, (L1[up.toNat]'hj1).k.l.set f (mdJ (⟨0, tsG Ch⟩ : TrT) up a9 b9 f).2.1⟩, (L1[up.toNat]'hj1).c, (L1[up.toNat]'hj1).v⟩ : PgL)) : List PgL) (e := t2)
 exact ⟨L1.set up.toNat (⟨⟨(L1[up.toNat]'hj1).k.A, (L1[up.toNat]'hj1).k.cp, (L1[up.toNat]'hj1).k.l.set f (mdJ (⟨0, tsG Ch⟩ : TrT) up a9 b9 f).2.1⟩, (L1[up.toNat]'hj1).c, (L1[up.toNat]'hj1).v⟩ : PgL), j, (by first | rfl | exact sl_congr t8 | (simp; done)), (by rw [hfin, cV, show (⟨⟨(L1[up.toNat]'hj1).k.A, (L1[up.toNat]'hj1).k.cp, (L1[up.toNat]'hj1).k.l.set f (mdJ (⟨0, tsG Ch⟩ : TrT) up a9 b9 f).2.1⟩, (L1[up.toNat]'hj1).c, (L1[up.toNat]'hj1).v⟩ : PgL).t = mD (gP (⟨0, tsG Ch⟩ : TrT) up) f (mdJ (⟨0, tsG Ch⟩ : TrT) up a9 b9 f).2.1 from (by rw [<- hold]; rfl), hts1]), t1, (P0.pk [0, 1, 2])⟩
 have hj1t : (mdJ (⟨0, tsG Ch⟩ : TrT) up a9 b9 f).1 = true := by simpa using c81
 refine any 2 [] 18 [0, 2] λ X0 k0 => ?_
 refine av [0, 1, 2] [] 3 (s := Vl A L1.length c) (a := by exact λ w2 hw2 => cv (Ru.load1 kV rfl ((hw2.rd 0 rfl).ld (k := 0) rfl)) rfl) (b := ?_)
 refine av [4, 5, 6, 7] [] 8 (s := Vl A L1.length c) (a := by exact λ w2 hw2 => cv (Ru.load1 kV rfl ((hw2.rd 0 rfl).ld (k := 0) rfl)) rfl) (b := ?_)
 refine av [9] [] 10 (a := by exact λ _ hw2 => cJ hj1 (k0.rd 1 rfl) (h0 := t1)) (b := ?_)
 refine aO [13] [] 11 ?_
 refine ov 0 [] (a := gL hj1 (k0.rd 1 rfl)) (b := ?_)
 refine os 0 [] [0, 2] ?_
 refine aO [] [] 12 ?_
 refine cp 0 [] (b := iM (L1[up.toNat]'hj1) X0 ((NsP.mem k0 2 rfl).get hj1)) (c := λ V0 j0 => ?_)
 refine os 0 [] [0, 2] ?_
 refine aO [] [] 14 ?_
 refine cq 0 [] (b := aNc (L1[up.toNat]'hj1).k.A (L1[up.toNat]'hj1).k.cp (L1[up.toNat]'hj1).k.l (L1[up.toNat]'hj1).c.A (L1[up.toNat]'hj1).c.cp (L1[up.toNat]'hj1).c.l _ V0 ((NsP.mem j0 2 rfl).get hj1).1 ((NsP.mem j0 2 rfl).get hj1).2.1 (by constructor <;> omega) qo qo) (c := ?_)
 rintro _ W0 ⟨e0, g0, f0, i0, rfl, T0⟩
 have d0 := j0.cl 0 T0
 have d1 := (d0.cap 0 rfl).1
 have e1 := (d0.cap 1 rfl).1
 refine os 0 [] [2, 4] ?_
 refine aO [] [] 15 ?_
 refine cp 0 [] (b := iN e0 g0 ((L1[up.toNat]'hj1).k.l.take ((f + 1) - 1) ++ (L1[up.toNat]'hj1).k.l.drop (f + 1)) f0 i0 ((L1[up.toNat]'hj1).c.l.take (f + 1) ++ (L1[up.toNat]'hj1).c.l.drop ((f + 1) + 1)) W0 (d0.rd 0 rfl) (d0.rd 1 rfl)) (c := λ m1 F0 => ?_)
 refine os 0 [] [2, 4] ?_
 refine av [] [] 16 (a := by exact λ _ hw2 => cJ hj1 (F0.rd 3 rfl) (h0 := t1)) (b := ?_)
 refine aO [] [] 17 ?_
 let b0 : PgL := (⟨⟨e0, g0, (L1[up.toNat]'hj1).k.l.take ((f + 1) - 1) ++ (L1[up.toNat]'hj1).k.l.drop (f + 1)⟩, ⟨f0, i0, (L1[up.toNat]'hj1).c.l.take (f + 1) ++ (L1[up.toNat]'hj1).c.l.drop ((f + 1) + 1)⟩, ⟨none, 0, []⟩⟩ : PgL)
 refine sF 0 [] 3 b0 hj1 λ n1 G0 => ?_
 refine os 0 [] [2, 4] ?_
 refine an [] [] ?_
 have Q0 := Mem.addNil (e := 3) (sz := 1) G0
 have H0 := Mem.gset (k := ⟨e0, g0, (L1[up.toNat]'hj1).k.l.take ((f + 1) - 1) ++ (L1[up.toNat]'hj1).k.l.drop (f + 1)⟩) (c := ⟨f0, i0, (L1[up.toNat]'hj1).c.l.take (f + 1) ++ (L1[up.toNat]'hj1).c.l.drop ((f + 1) + 1)⟩) (v := ⟨none, 0, []⟩) up.toNat (Q0.pk [5, 1, 2, 0, 3, 4])
 have L0 := H0.rF 2 (L1.set up.toNat b0 : List PgL) (e := rfl)
 have Z0 := L0.reC 1 (congrArg (λ z_ => mdC A z_ c g j) (show L1.length = (L1.set up.toNat b0).length from t2))
 have s0 : 0 <= b9 /\ b9 < 16 := t1
 refine ov 6 [] (s := Vp (bl b) (1 + b9.toNat)) (a := by exact cv (Ru.indexArrK (j := b9.toNat) Tryz.underlying75 el4 rfl rfl rfl rfl rfl s0) rfl) (b := ?_)
 refine sX 0 [] 1 (mdC A (L1.set up.toNat b0).length c (g ++ [b9]) j) (hk := (by simp [mdC]; omega)) (hq := (aOj s0)) (h := λ i1 z0 => ?_)
 refine ov 5 [] (s := Vi j) (a := by exact cv (Ru.load1 el3 rfl ((z0.rd 1 rfl).ld (k := 17) rfl)) rfl) (b := ?_)
 refine ov 0 [] (a := oW) (b := ?_)
 refine sX 2 [] 1 (mdC A (L1.set up.toNat b0).length c (g ++ [b9]) (j + 1)) (hk := (by simp [mdC])) (hq := md_j) (h := λ j1 A0 => ?_)
 refine E0 1 [] ?_
 have hfin := aOl hmd hj1t
 have I0 := A0.reC 1 (congrArg (λ z_ => mdC A (L1.set up.toNat b0).length c z_ (j + 1)) (show g ++ [b9] = dR g (eE (⟨0, tsG Ch⟩ : TrT) up f).2 from (by rw [hfin]; exact (aLe hi_b9.1).symm)))
 have M0 := I0.rF 2 ((L1.set up.toNat b0) : List PgL) (e := t2)
 exact ⟨L1.set up.toNat b0, (j + 1), (by first | rfl | exact sl_congr t8 | (simp; done)), (by rw [hfin, cV, hts1, <- hold]; rfl), t1, (M0.pk [1, 2, 0])⟩
theorem qR (b : Nat) (A : Option Addr) (c : Nat) (Ch : List PgL) (g : List Int) (j : Int) (rt : Int) (lv : Int -> Nat) (w : World) (hM : Mem w w (rS [[⟨.slice (bl b) 1 1, 169, 18, 1, mdC A Ch.length c g j⟩], oG A c Ch, Ch.flatMap (pgF 3)]) [[⟨.slice (bl b) 1 1, 169, 18, 1, mdC A Ch.length c g j⟩], oG A c Ch, Ch.flatMap (pgF 3)]) (hFV : FV lv (⟨rt, tsG Ch⟩ : TrT) g) (hl16 : Ch.length <= 16) (hgl : g.length <= 16) :
  aR Tryz.prog 171 [.pointer (ofs (bl b) 0), I rt] w (λ v w1 => ∃ (L1 : List PgL) (A1 : Option Addr) (c1 : Nat), v = .agg #[I (eI g rt), .slice A1 L1.length c1] /\ ((⟨eI g rt, tsG L1⟩ : TrT) = aAa (⟨rt, tsG Ch⟩ : TrT) rt g) /\ (L1.length <= Ch.length) /\ Mem w w1 (rS [[⟨.slice (bl b) 1 1, 169, 18, 1, mdC A Ch.length c g j⟩], oG A c Ch, Ch.flatMap (pgF 3)]) [[⟨.slice (bl b) 1 1, 169, 18, 1, mdC A Ch.length c g j⟩], oG A1 c1 L1, L1.flatMap (pgF 3)]) := by
 refine aR.nG (rs := [.cell 4 25]) Tryz.func171 rfl Tryz.results171 Tryz.ntmps171 rfl ?_
 have hnd := hFV.nd
 have hrr := aX.1 hFV.root.1
 refine go 1 [] ?_
 simp only [bC] at hrr
 have hg0 : ∀ y ∈ g, 0 <= y := λ y hy => (aX.1 (hFV.gin y hy)).1
 refine Al 1 [] λ u1 r0 a1 u0 => ?_
 refine go 3 [] ?_
 refine O.marr (m := 16) (sz := 1) (xs := (List.replicate 16 (0 : Int)).map I) u0 rfl rfl el196 (by kernel_rfl) t11 t19 (λ D1 c0 e1 x0 => ?_)
 have F0 := x0.reA 0 (show List.replicate 16 (0 : Int) = ngL g 0 from (ng_zero g))
 refine ov 11 [] (s := Vl A Ch.length c) (a := by exact cv (Ru.load1 kV rfl ((F0.rd 2 rfl).ld (k := 0) rfl)) rfl) (b := ?_)
 refine lp1 4 [] (λ (k1 : Nat) => ([(6, Vi (eI g ((k1 : Nat) : Int))), (18, Vi ((k1 : Nat) : Int))] : List (Nat × SV))) (λ k1 => (k1 <= Ch.length)) (λ k1 => [[⟨.slice (bl c0) 16 16, 196, 1, 16, (ngL g k1).map I⟩]]) (λ k1 => Ch.length - k1) [0, 1, 4, 5, 17] [0] [1, 2, 3, 4] 0 (λ k1 σ K1 hI m0 => ?_) (hL := by exact (Has.cons (I_congr (aLw hg0).symm) (Has.cons (I_congr t10) Has.nil))) (h0 := (bI _))
 have s1 := hI
 have n1 := (m0.cap 3 rfl).1
 refine cd 5 [] (λ c19 => ?_) (λ c19 => ?_)
 have hnb := numG_b (g := g) (x := ((k1 : Nat) : Int))
 have Q0 : k1 < (ngL g k1).length := (by rw [aHu]; omega)
 refine ov 12 [] (s := Vp (bl c0) (k1 * 1)) (a := by exact cv (Ru.indexArr (j := k1) Tryz.underlying196 el3 rfl rfl rfl t1 t13) rfl) (b := ?_)
 refine sM 0 [] 0 Q0 λ H1 A0 => ?_
 have J0 := A0.reA 0 (show (ngL g k1).set k1 (eI g ((k1 : Nat) : Int)) = ngL g (k1 + 1) from ng_set)
 have q0 : 0 <= ((k1 : Nat) : Int) /\ ((k1 : Nat) : Int) < 16 := t1
 refine ov 7 [] (s := Vp (bl b) (1 + ((k1 : Nat) : Int).toNat)) (a := by exact cv (Ru.indexArrK (j := ((k1 : Nat) : Int).toNat) Tryz.underlying75 el4 rfl rfl rfl rfl rfl q0) rfl) (b := ?_)
 refine ov 0 [] (s := Vd (((k1 : Nat) : Int) ∈ g)) (a := by exact cv (Ru.load1 el4 rfl ((J0.rd 2 rfl).ld (aOi q0))) rfl) (b := ?_)
 refine cd 2 [] (λ c30 => ?_) (λ c30 => ?_)
 have hgk : ((k1 : Nat) : Int) ∉ g := by simpa using c30
 refine ov 2 [] (a := oW) (b := ?_)
 refine ov 3 [] (a := bL (k1 + 1)) (b := ?_)
 exact le1 2 [] (k1 + 1) [0, 1, 2, 3, 4] (hL := by exact (Has.cons (I_congr (by first | exact (aFh hnd hgk).symm | exact (aJm hnd hgk).symm)) (Has.cons (I_congr t10) Has.nil))) (h := t9)
 have hgk : ((k1 : Nat) : Int) ∈ g := by simpa using c30
 refine ov 2 [] (a := bL (k1 + 1)) (b := ?_)
 exact le1 2 [] (k1 + 1) [0, 1, 2, 3, 4] (hL := by exact (Has.cons (I_congr (by first | exact (aFh hnd hgk).symm | exact (aJm hnd hgk).symm)) (Has.cons (I_congr t10) Has.nil))) (h := t9)
 have K0 := m0.reA 0 (show ngL g k1 = ngL g Ch.length from (by rw [show k1 = Ch.length by omega]))
 have O0 : rt.toNat < (ngL g Ch.length).length := (by rw [aHu]; omega)
 refine ov 4 [] (s := Vp (bl c0) (rt.toNat * 1)) (a := by exact cv (Ru.indexArr (j := rt.toNat) Tryz.underlying196 el3 rfl rfl rfl t1 t13) rfl) (b := ?_)
 refine ov 0 [] (s := Vi (eI g rt)) (a := by exact cv (Ru.congr (Ru.load1 el3 rfl (ldm (K0.rd 0 rfl) O0)) (I_congr (aOm t1 hl16 _))) rfl) (b := ?_)
 refine Al 1 [] λ v1 i0 b1 S0 => ?_
 refine Sb 0 [] 0 λ x1 j0 => ?_
 refine ov 7 [] (s := Vl A Ch.length c) (a := by exact cv (Ru.load1 kV rfl ((j0.rd 3 rfl).ld (k := 0) rfl)) rfl) (b := ?_)
 have L0 := Mem.addNil (e := 42) (sz := 3) j0
 have N0 : ([] : List PgL) = ([] : List PgL) := t2
 have Y0 := L0.reF 0 N0 (f := encPg)
 refine lp5 4 [] (λ (k : Nat) (Ch2 : List PgL) (Q9 : List PgL) (A2 : Option Addr) (c2 : Nat) => ([(43, Vi ((k : Nat) : Int))] : List (Nat × SV))) (λ k Ch2 Q9 A2 c2 => (k <= Ch.length) /\ (WG (⟨rt, tsG Ch⟩ : TrT) g Ch2 Q9 k)) (λ k Ch2 Q9 A2 c2 => [oG A2 c2 Q9, [⟨.slice (bl i0) 1 1, 25, 2, 1, [I (eI g rt), .slice A2 Q9.length c2]⟩], [⟨.slice A Ch.length c, 42, 3, Ch.length, Ch2.flatMap encPg⟩], Ch2.flatMap (pgF 3)]) (λ k Ch2 Q9 A2 c2 => Ch.length - k) [0, 4, 5, 8, 41, 42] [0, 1, 5, 6] [2, 3, 4] 0 Ch (([] : List PgL) : List PgL) none 0 (λ k Ch2 Q9 A2 c2 σ I1 hI d0 => ?_) (h0 := ⟨(bI _), (WG.start rfl)⟩)
 obtain ⟨q1, M0⟩ := hI
 have h1 := (d0.cap 0 rfl).1
 have j1 := (d0.cap 2 rfl).1
 have hW := M0
 have hCl : Ch2.length = Ch.length := by have h9 := hW.len; simpa using h9
 have hQl : Q9.length <= k := by rw [hW.q, bC]; exact aLn
 refine cd 5 [] (λ c44 => ?_) (λ c44 => ?_)
 have a0 : k < Ch2.length := t1
 refine ov 6 [] (a := cJ a0 (d0.rd 2 rfl) (h0 := t1)) (b := ?_)
 have hXt : (gP (⟨rt, tsG Ch⟩ : TrT) ((k : Nat) : Int)).kids = (Ch2[k]'a0).c.l := by rw [<- hW.td k (dD _) t23, jW (show ((k : Nat) : Int).toNat < Ch2.length by omega)]; rfl
 have hki : inT (⟨rt, tsG Ch⟩ : TrT) ((k : Nat) : Int) = true := aX.2 t23
 have hsh := hFV.sh _ hki
 have hkd : ∀ z ∈ (gP (⟨rt, tsG Ch⟩ : TrT) ((k : Nat) : Int)).kids, 0 <= z /\ z < (Ch.length : Int) := λ z hz => by have h9 := (nZ hsh (λ e => by rw [e] at hz; simp at hz)).2.2.2 z hz; simpa using h9.1
 have hc6 : (Ch2[k]'a0).c.l.length <= 6 := by rw [<- hXt]; have h4 := hsh.k4; rcases hsh.c with ⟨_, h9, _⟩ | ⟨_, h9, _⟩; (rw [h9]; simp); omega
 refine ov 0 [] (a := gL a0 (d0.rd 2 rfl)) (b := ?_)
 refine Al 0 [] λ y1 s0 d1 T0 => ?_
 refine Sb 1 [] 0 λ z1 k0 => ?_
 have n0 : 0 <= ((k : Nat) : Int) /\ ((k : Nat) : Int) < 16 := t1
 refine ov 8 [] (s := Vp (bl b) (1 + ((k : Nat) : Int).toNat)) (a := by exact cv (Ru.indexArrK (j := ((k : Nat) : Int).toNat) Tryz.underlying75 el4 rfl rfl rfl rfl rfl n0) rfl) (b := ?_)
 refine ov 0 [] (s := Vd (((k : Nat) : Int) ∈ g)) (a := by exact cv (Ru.load1 el4 rfl ((k0.rd 7 rfl).ld (aOi n0))) rfl) (b := ?_)
 refine cd 1 [] (λ c53 => ?_) (λ c53 => ?_)
 have hgk : ((k : Nat) : Int) ∈ g := by simpa using c53
 refine ov 2 [] (a := bL (k + 1)) (b := ?_)
 exact le5 2 [] (k + 1) Ch2 Q9 A2 c2 [1, 2, 3, 4, 5, 6, 7] (h := by exact ⟨t7, (by (try dsimp only); first | exact hW2 | exact hW.skip hgk)⟩)
 have hgk : ((k : Nat) : Int) ∉ g := by simpa using c53
 have E0 := Mem.gout a0 (k0.pk [4, 0, 1, 2, 3, 5, 6, 7])
 have Z0 := E0.rM 2 (((Ch2[k]'a0).c.l.take 0).map (eI g) ++ (Ch2[k]'a0).c.l.drop 0 : List Int) (e := t11)
 refine lp1 10 [4] (λ (i : Nat) => ([(57, Vi ((i : Nat) : Int))] : List (Nat × SV))) (λ i => (i <= (Ch2[k]'a0).c.l.length)) (λ i => [oI (Ch2[k]'a0).c.A (Ch2[k]'a0).c.cp (((Ch2[k]'a0).c.l.take i).map (eI g) ++ (Ch2[k]'a0).c.l.drop i)]) (λ i => (Ch2[k]'a0).c.l.length - i) [0, 4, 5, 8, 10, 41, 42, 43, 55, 56] [2] [0, 1, 3, 4, 5, 6, 7, 8, 9, 10] 0 (λ i σ J1 hI b0 => ?_) (h0 := (bI _))
 have r1 := hI
 have i1 := (b0.cap 0 rfl).1
 have l1 := (b0.cap 2 rfl).1
 have m1 := (b0.cap 3 rfl).1
 have o1 := (b0.cap 5 rfl).1
 have p1 := (b0.cap 7 rfl).1
 have hml := rB (f := (eI g)) (l := (Ch2[k]'a0).c.l) (k := i)
 refine cd 5 [] (λ c58 => ?_) (λ c58 => ?_)
 have hi2 : i < (Ch2[k]'a0).c.l.length := by omega
 obtain ⟨z9, hz9⟩ : ∃ z, z = ((Ch2[k]'a0).c.l)[i]'hi2 := ⟨_, rfl⟩
 have hzb := hkd z9 (by rw [hXt, hz9]; exact aC hi2)
 have o0 : i < (((Ch2[k]'a0).c.l.take i).map (eI g) ++ (Ch2[k]'a0).c.l.drop i).length := (by rw [hml]; exact hi2)
 refine ov 6 [] (a := cG o0 (b0.rd 0 rfl) (h0 := t1)) (b := ?_)
 refine ov 0 [] (s := Vi z9) (a := by exact cv (Ru.congr (Ru.load1 el3 rfl (ldm (b0.rd 0 rfl) o0)) (I_congr (by rw [hz9]; exact qZ hi2 _))) rfl) (b := ?_)
 refine any 3 [] 8 [1, 2, 3, 4, 5, 6, 7, 8, 9, 10] λ C1 w0 => ?_
 have P0 : z9.toNat < (ngL g Ch.length).length := (by rw [aHu]; omega)
 refine av [0, 1, 2, 3] [3] 4 (s := Vp (bl c0) (z9.toNat * 1)) (a := by exact λ w2 hw2 => cv (Ru.indexArr (j := z9.toNat) Tryz.underlying196 el3 rfl rfl rfl t1 t13) rfl) (b := ?_)
 refine av [] [] 5 (s := Vi (eI g z9)) (a := by exact λ w2 hw2 => cv (Ru.congr (Ru.load1 el3 rfl (ldm (hw2.rd 7 rfl) P0)) (I_congr (aOm t1 hl16 _))) rfl) (b := ?_)
 have p0 : i < (((Ch2[k]'a0).c.l.take i).map (eI g) ++ (Ch2[k]'a0).c.l.drop i).length := (by rw [hml]; exact hi2)
 refine av [] [] 6 (a := by exact λ _ hw2 => cG p0 (w0.rd 0 rfl) (h0 := t1)) (b := ?_)
 refine aO [] [] 7 ?_
 refine sM 0 [] 0 p0 λ B1 v0 => ?_
 refine os 0 [] [1, 2, 3, 4, 5, 6, 7, 8, 9, 10] ?_
 refine an [] [] ?_
 refine ov 1 [] (a := bL (i + 1)) (b := ?_)
 have W0 := v0.rM 0 (((Ch2[k]'a0).c.l.take (i + 1)).map (eI g) ++ (Ch2[k]'a0).c.l.drop (i + 1) : List Int) (e := by rw [hz9]; exact tX hi2)
 exact le1 2 [] (i + 1) [0, 1, 2, 3, 4, 5, 6, 7, 8, 9, 10] (h := t9)
 have G0 := b0.rM 0 ((Ch2[k]'a0).c.l.map (eI g) : List Int) (e := (aCj t1))
 have V0 := Mem.gback (l := Ch2) (k := (Ch2[k]'a0).k) (c := (jV (eI g) (Ch2[k]'a0)).c) (v := (Ch2[k]'a0).v) a0 (G0.pk [1, 2, 0, 3, 4, 5, 6, 7, 8, 9, 10])
 refine Lt 5 [3, 1] (([Ch2[k]'a0]).flatMap encPg) (λ E1 t0 f1 y0 => ?_)
 refine aF 0 [] 3 (y0.rd 0 rfl) (λ F1 e0 f0 g1 U0 => ?_)
 refine Sb 1 [] 4 λ R0 z0 => ?_
 have B0 := Mem.reE z0 3 (xs' := (Q9 ++ [jV (eI g) (Ch2[k]'a0)]).flatMap encPg) aNh (show (Q9 ++ [Ch2[k]'a0]).length = (Q9 ++ [jV (eI g) (Ch2[k]'a0)]).length from t11)
 have H0 := B0.reB 4 1 (show (Q9 ++ [Ch2[k]'a0]).length = (Q9 ++ [jV (eI g) (Ch2[k]'a0)]).length from t11)
 have C0 := Mem.reE H0 5 (xs' := (Ch2.set k (jV (eI g) (Ch2[k]'a0))).flatMap encPg) (aNi a0) (show Ch.length = (Ch2.set k (jV (eI g) (Ch2[k]'a0))).length from (by rw [eW]; omega))
 have hW2 := hW.step hgk a0
 refine ov 2 [] (a := bL (k + 1)) (b := ?_)
 have I0 := C0.rF 3 ((Q9 ++ [jV (eI g) (Ch2[k]'a0)]) : List PgL) (e := t2)
 have g0 : (Ch2.set k (jV (eI g) (Ch2[k]'a0)) : List PgL) = (Ch2.set k (jV (eI g) (Ch2[k]'a0))) := t2
 have X0 : Mem w R0 (rS [[⟨.slice (bl b) 1 1, 169, 18, 1, mdC A Ch.length c g j⟩], oG A c Ch, Ch.flatMap (pgF 3)]) [[⟨.slice (bl t0) 1 1, 42, 3, 1, ([Ch2[k]'a0]).flatMap encPg⟩], (Ch2.set k (jV (eI g) (Ch2[k]'a0))).flatMap (pgF 3), [⟨.slice (bl s0) 1 1, 42, 3, 1, [.slice (Ch2[k]'a0).k.A (Ch2[k]'a0).k.l.length (Ch2[k]'a0).k.cp, .slice (Ch2[k]'a0).c.A (Ch2[k]'a0).c.l.length (Ch2[k]'a0).c.cp, .slice (Ch2[k]'a0).v.A (Ch2[k]'a0).v.l.length (Ch2[k]'a0).v.cp]⟩], oG e0 f0 (Q9 ++ [jV (eI g) (Ch2[k]'a0)]), [⟨.slice (bl i0) 1 1, 25, 2, 1, [I (eI g rt), .slice e0 (Q9 ++ [jV (eI g) (Ch2[k]'a0)]).length f0]⟩], [⟨.slice A Ch.length c, 42, 3, Ch.length, (Ch2.set k (jV (eI g) (Ch2[k]'a0))).flatMap encPg⟩], [⟨.slice (bl c0) 16 16, 196, 1, 16, (ngL g Ch.length).map I⟩], [⟨.slice (bl r0) 1 1, 25, 2, 1, [I 0, .slice none 0 0]⟩], [⟨.slice (bl b) 1 1, 169, 18, 1, mdC A Ch.length c g j⟩]] := I0.relen 5 (n' := Ch.length) (xs' := (Ch2.set k (jV (eI g) (Ch2[k]'a0))).flatMap encPg) rfl (by first | rfl | exact congrArg List.length g0 | (have hqq := congrArg List.length g0; first | omega | (simp at hqq ⊢; omega)) | (simp; done) | (simp; omega)) (congrArg (λ z_ => z_.flatMap encPg) g0) rfl
 exact le5 2 [] (k + 1) (Ch2.set k (jV (eI g) (Ch2[k]'a0))) (Q9 ++ [jV (eI g) (Ch2[k]'a0)]) e0 f0 [3, 4, 5, 1, 6, 7, 8] (h := by exact ⟨t7, (by (try dsimp only); first | exact hW2 | exact hW.skip hgk)⟩)
 have hW3 := hW
 refine Sb 4 [1] 5 λ G1 l0 => ?_
 refine EG 2 [] ?_
 refine PG (vs := [.agg #[I (eI g rt), .slice A2 Q9.length c2]]) (bX.cell (l := [I (eI g rt), .slice A2 Q9.length c2]) rfl (cA (i := 5) (j := 0) l0 rfl rfl) kH rfl bX.nil) ?_
 obtain ⟨hfe, D9, hfp⟩ := hW3.fin t23 rt
 have D0 := Mem.gsub hfp (l0.pk [3, 0, 1, 2, 4, 5, 6])
 exact ⟨Q9, A2, c2, rfl, hfe, t1, (D0.pk [6, 1, 0])⟩
theorem xT (T : bN) (key : Int) (w : World) (hNT : TrN w T) (hs : SzT T) :
  aR Tryz.prog 141 [.agg #[I T.root, .slice T.A T.l.length T.cp], I key] w (λ v w1 => ∃ (r1 : Int) (j1 : Int) (L1 : List PgL) (A1 : Option Addr) (c1 : Nat), v = .tuple #[.agg #[I r1, .slice A1 L1.length c1], I j1, .bool (aN T.t && cT (bZ T.t) key)] /\ ((aN T.t && cT (bZ T.t) key) = true -> (⟨r1, tsG L1⟩ : TrT) = lH T.t key) /\ (SzT ⟨r1, A1, c1, L1⟩) /\ (L1.length <= 64) /\ Mem w w1 [] [oG A1 c1 L1, L1.flatMap (pgF 3)]) := by
 have hM : Mem w w [] [] := Mem.refl
 refine aR.nG (rs := [.cell 4 25, .tmp 5, .tmp 6]) Tryz.func141 rfl Tryz.results141 Tryz.ntmps141 rfl ?_
 refine Bx 2 [] λ O2 d2 n2 j2 => ?_
 refine Al 0 [] λ R1 e2 o2 e1 => ?_
 refine cp 7 [1] (b := gS T R1 (hNT.at e1) q0) (c := λ V1 R0 => ?_)
 refine cn 2 [] (λ c16 => ?_) (λ c16 => ?_)
 have hn1 : aN T.t = false := by simpa using c16
 refine Sb 3 [] 0 λ R2 i1 => ?_
 have U0 := Mem.gnil (e := 3) i1
 refine EG 4 [] ?_
 refine PG (vs := [.agg #[I 0, .slice none 0 0], I 0, .bool false]) (bX.cell (l := [I 0, .slice none 0 0]) rfl (cA (i := 1) (j := 0) U0 rfl rfl) kH rfl (bX.tmp rfl (bX.tmp rfl bX.nil))) ?_
 have hpf : (aN T.t && cT (bZ T.t) key) = false := by rw [hn1]; rfl
 have u1 := Mem.addNil (e := 42) (sz := 3) U0
 have N1 : ([] : List PgL) = ([] : List PgL) := t2
 have v1 := u1.reF 0 N1 (f := encPg)
 have hZ := (v1.pk [0, 1])
 exact ⟨0, _, ([] : List PgL), none, 0, (by rw [hpf]; rfl), (λ hb => absurd hb (by rw [hpf]; simp)), (fF t11 t11), t11, hZ⟩
 have hv : aN T.t = true := by simpa using c16
 have hvk := eF hv
 have hP := kK (key := key) hv
 have hpp := hP.pos
 have hp3 := hP.le
 have hl16 := fN hv
 rw [cP] at hl16
 obtain ⟨lf, hlf⟩ : ∃ z, z = gM (aY T.t key) := ⟨_, rfl⟩
 have hli := fI.1 (hP.inn ((aY T.t key).length - 1) t1)
 rw [show (aY T.t key).getD ((aY T.t key).length - 1) 0 = lf from hlf.symm] at hli
 have hjl : lf.toNat < T.l.length := by omega
 have hgl : gP T.t lf = (T.l[lf.toNat]'hjl).t := jH rfl hjl
 have hszl := hs.at hjl
 have hfl := hP.fr ((aY T.t key).length - 1) t1
 have hkl := hP.leaf
 rw [show (aY T.t key).getD ((aY T.t key).length - 1) 0 = lf from hlf.symm] at hfl hkl
 have hvl := (jS hfl hkl).1
 have hrl := gI hfl hkl
 have h4l := iA hfl
 rw [hgl] at hvl hrl h4l
 have hvl0 : (T.l[lf.toNat]'hjl).v.l.length = (T.l[lf.toNat]'hjl).k.l.length := hvl
 have h4l0 : (T.l[lf.toNat]'hjl).k.l.length <= 4 := h4l
 have hpl := uZ (r := aV (T.l[lf.toNat]'hjl).t) (k := key)
 rw [dF] at hpl
 have hL := nO hv
 have hir : 0 <= T.root /\ T.root < (T.l.length : Int) := fI.1 hL.r3.2
 have hin9 : cT (bZ T.t) key = cT (aV (T.l[lf.toNat]'hjl).t) key := by rw [qF hv, <- hlf, hgl]
 refine cq 5 [1] (b := uU T _ V1 (hNT.at R0) q0 (by exact hv)) (c := ?_)
 rintro _ W1 ⟨a2, f2, rfl, B1⟩
 have n0 := R0.cl 0 B1
 have G2 := (n0.cap 0 rfl).1
 refine ov 7 [] (a := eV) (b := ?_)
 have L0 : ((aY T.t key).length - 1) < (aY T.t key).length := t1
 refine ov 0 [] (a := cG L0 (n0.rd 0 rfl) (h0 := t1)) (b := ?_)
 refine ov 0 [] (s := Vi lf) (a := by exact cv (Ru.congr (Ru.load1 el3 rfl (ldm (n0.rd 0 rfl) L0)) (I_congr ((bF L0).symm.trans hlf.symm))) rfl) (b := ?_)
 have j0 : lf.toNat < T.l.length := t1
 refine ov 7 [2] (a := cJ j0 (hNT.at n0).1 (h0 := t1)) (b := ?_)
 refine ov 0 [] (a := gL j0 (hNT.at n0).1) (b := ?_)
 refine cq 0 [] (b := gD (T.l[lf.toNat]'j0) W1 ((hNT.at n0).2.get j0) qo (by exact hvl0)) (c := ?_)
 rintro _ X1 ⟨b2, h2, rfl, C1⟩
 have A0 := n0.cl 0 C1
 have H2 := (A0.cap 0 rfl).1
 refine cq 1 [] (b := aDp _ _ _ _ X1 (A0.rd 0 rfl) (by rw [dF]; omega) (by exact hrl)) (c := ?_)
 rintro _ Y1 ⟨c2, i2, rfl, D1⟩
 have B0 := A0.cl 0 D1
 have I2 := (B0.cap 0 rfl).1
 refine cn 12 [] (λ c39 => ?_) (λ c39 => ?_)
 have hn2 : cT (aV (T.l[lf.toNat]'hjl).t) key = false := by simpa using c39
 refine Sb 3 [] 3 λ S2 k1 => ?_
 have V0 := Mem.gnil (e := 3) k1
 refine EG 4 [] ?_
 refine PG (vs := [.agg #[I 0, .slice none 0 0], I 0, .bool false]) (bX.cell (l := [I 0, .slice none 0 0]) rfl (cA (i := 4) (j := 0) V0 rfl rfl) kH rfl (bX.tmp rfl (bX.tmp rfl bX.nil))) ?_
 have hpf : (aN T.t && cT (bZ T.t) key) = false := by rw [hin9, hn2, cX]
 have x1 := Mem.addNil (e := 42) (sz := 3) V0
 have O1 : ([] : List PgL) = ([] : List PgL) := t2
 have y1 := x1.reF 0 O1 (f := encPg)
 have hZ := (y1.pk [0, 1])
 exact ⟨0, _, ([] : List PgL), none, 0, (by rw [hpf]; rfl), (λ hb => absurd hb (by rw [hpf]; simp)), (fF t11 t11), t11, hZ⟩
 have hlk9 : cT (aV (T.l[lf.toNat]'hjl).t) key = true := by simpa using c39
 have hlk : cT (aV (gP T.t (gM (aY T.t key)))) key = true := by rw [<- hlf, hgl]; exact hlk9
 refine cq 4 [4] (b := tQ T Y1 (hNT.at B0) q0) (c := ?_)
 rintro _ T2 ⟨d0, a0, b0, rfl, x0, E1⟩
 have l1 := B0.cl 0 E1
 have J2 := (l1.cap 0 rfl).1
 have hLl := nM x0
 refine ov 0 [] (s := Vl a0 d0.length b0) (a := by exact cv (Ru.field1 Tryz.underlying25 (by rfl) kV rfl rfl rfl) rfl) (b := ?_)
 refine ov 0 [] (s := Va [.sl a0 d0.length b0, .b false, .b false, .b false, .b false, .b false, .b false, .b false, .b false, .b false, .b false, .b false, .b false, .b false, .b false, .b false, .b false, .i 0]) (a := by exact cv (Ru.buildN (cs := [.slice a0 d0.length b0, .bool false, .bool false, .bool false, .bool false, .bool false, .bool false, .bool false, .bool false, .bool false, .bool false, .bool false, .bool false, .bool false, .bool false, .bool false, .bool false, I 0]) mf169 rfl (by kernel_rfl)) rfl) (b := ?_)
 refine Al 0 [] λ U2 m0 p2 k2 => ?_
 refine Sb 0 [] 0 λ V2 m1 => ?_
 have l2 := m1.reC 0 (md_nil (A := a0) (n := d0.length) (c := b0) (j := 0))
 refine any 2 [] 7 [0, 2, 3, 4, 5, 6, 7] λ Z1 S0 => ?_
 refine av [0] [] 1 (s := Vl a0 d0.length b0) (a := by exact λ w2 hw2 => cv (Ru.load1 kV rfl ((hw2.rd 0 rfl).ld (k := 0) rfl)) rfl) (b := ?_)
 refine aO [2, 3] [] 4 ?_
 refine cq 0 [] (b := lD _ _ _ Z1 (S0.rd 3 rfl) qo) (c := ?_)
 rintro _ W2 ⟨M0, P0, N0, Q0, rfl, F1⟩
 have C0 := S0.cl 0 F1
 have K2 := (C0.cap 0 rfl).1
 have L2 := (C0.cap 1 rfl).1
 refine os 0 [] [2, 4, 5, 6, 7, 8, 9] ?_
 have Z0 : lf.toNat < d0.length := t1
 refine av [] [] 5 (a := by exact λ _ hw2 => cJ Z0 (C0.rd 3 rfl) (h0 := t1)) (b := ?_)
 refine aO [] [] 6 ?_
 let l0 : PgL := (⟨⟨M0, P0, bG (eY (aV (T.l[lf.toNat]'j0).t) key)⟩, ⟨none, 0, []⟩, ⟨N0, Q0, (eY (aV (T.l[lf.toNat]'j0).t) key).map PairT.val⟩⟩ : PgL)
 refine sF 0 [] 3 l0 Z0 λ X2 n1 => ?_
 refine os 0 [] [2, 4, 5, 6, 7, 8, 9] ?_
 refine an [] [] ?_
 have p1 := Mem.addNil (e := 3) (sz := 1) n1
 have o1 := Mem.gset (k := ⟨M0, P0, bG (eY (aV (T.l[lf.toNat]'j0).t) key)⟩) (c := ⟨none, 0, []⟩) (v := ⟨N0, Q0, (eY (aV (T.l[lf.toNat]'j0).t) key).map PairT.val⟩) lf.toNat (p1.pk [5, 1, 0, 2, 3, 4, 6, 7, 8, 9, 10])
 have q1 := o1.rF 2 (d0.set lf.toNat l0 : List PgL) (e := rfl)
 have s1 := q1.reC 1 (congrArg (λ z_ => mdC a0 z_ b0 ([] : List Int) 0) (show d0.length = (d0.set lf.toNat l0).length from t2))
 refine ct4 0 [] (λ (a1 : Nat) (Ch1 : List PgL) (g1 : List Int) (j1 : Int) => ([] : List (Nat × SV))) (λ a1 Ch1 g1 j1 => (DV T.t (aY T.t key) a1 ((⟨T.root, tsG Ch1⟩ : TrT), g1)) /\ (mK (aY T.t key) (aY T.t key).length (fP T.t (aY T.t key) key, []) = ((⟨T.root, tsG Ch1⟩ : TrT), g1))) (λ a1 Ch1 g1 j1 => [Ch1.flatMap (pgF 3), [⟨.slice (bl m0) 1 1, 169, 18, 1, mdC a0 Ch1.length b0 g1 j1⟩], oG a0 b0 Ch1]) [2, 4, 11] [3, 4, 5, 6, 7] ?_ (λ a1 Ch1 g1 j1 σ Y2 hI e0 => ?_)
 refine ov 4 [] (a := eV) (b := ?_)
 have m2 := s1.rF 2 ((d0.set lf.toNat l0) : List PgL) (e := t2)
 refine lp4 3 [] (λ (a : Nat) (Ch : List PgL) (g9 : List Int) (j9 : Int) => ([(12, Vi (((a : Nat) : Int) - 1))] : List (Nat × SV))) (λ a Ch g9 j9 => (DV T.t (aY T.t key) a ((⟨T.root, tsG Ch⟩ : TrT), g9)) /\ (mK (aY T.t key) a ((⟨T.root, tsG Ch⟩ : TrT), g9) = mK (aY T.t key) (aY T.t key).length (fP T.t (aY T.t key) key, [])) /\ (DM T.t (aY T.t key) a ((⟨T.root, tsG Ch⟩ : TrT), g9)) /\ (0 <= j9 /\ j9 + a <= 3)) (λ a Ch g9 j9 => [Ch.flatMap (pgF 3), [⟨.slice (bl m0) 1 1, 169, 18, 1, mdC a0 Ch.length b0 g9 j9⟩], oG a0 b0 Ch]) (λ a Ch g9 j9 => a) [2, 4, 7, 11] [0, 1, 2] [3, 4, 5, 6, 7] (aY T.t key).length (d0.set lf.toNat l0) (([] : List Int) : List Int) (0 : Int) (λ a Ch g9 j9 σ a3 hI v0 => ?_) (h0 := ⟨(by (try dsimp only); rw [show (⟨T.root, tsG (d0.set lf.toNat l0)⟩ : TrT) = fP T.t (aY T.t key) key from (by rw [cV, x0]; unfold fP cF; rw [<- hlf, hgl]; rfl)]; exact DV.start hv hP), (by (try dsimp only); rw [show (⟨T.root, tsG (d0.set lf.toNat l0)⟩ : TrT) = fP T.t (aY T.t key) key from (by rw [cV, x0]; unfold fP cF; rw [<- hlf, hgl]; rfl)]), (by (try dsimp only); rw [show (⟨T.root, tsG (d0.set lf.toNat l0)⟩ : TrT) = fP T.t (aY T.t key) key from (by rw [cV, x0]; unfold fP cF; rw [<- hlf, hgl]; rfl)]; exact DM.start hv hP hlk), t7⟩)
 obtain ⟨I1, E0, K1, M2⟩ := hI
 have u2 := (v0.cap 2 rfl).1
 have y2 := (v0.cap 3 rfl).1
 have B2 := (v0.cap 4 rfl).1
 have E2 := (v0.cap 5 rfl).1
 have hD := I1
 have hDM := K1
 have ha1 := hD.a1
 obtain ⟨cur, hcu⟩ : ∃ z, z = (aY T.t key).getD (a - 1) 0 := ⟨_, rfl⟩
 have hcl := hD.len
 simp only [cP, bC] at hcl
 have hci := fI.1 (hP.inn (a - 1) t1)
 rw [<- hcu] at hci
 have hjc : cur.toNat < Ch.length := by omega
 have hgc : gP (⟨T.root, tsG Ch⟩ : TrT) cur = (Ch[cur.toNat]'hjc).t := jW hjc
 have hgl9 : g9.length + a <= (aY T.t key).length := hD.gl
 refine dr 2 [] ?_
 refine qp 3 [] 56 (λ g56 => ?_) (λ g56 => ?_)
 refine qv 1 [] (s := Vl a0 Ch.length b0) (a := by exact λ w2 hw2 => cv (Ru.load1 kV rfl ((hw2.rd 1 rfl).ld (k := 0) rfl)) rfl) (b := ?_)
 have F0 : (a - 1) < (aY T.t key).length := t1
 refine qv 2 [] (a := by exact λ _ hw2 => cG F0 (hw2.rd 5 rfl) (h0 := t1)) (b := ?_)
 refine qv 0 [] (s := Vi cur) (a := by exact λ w2 hw2 => cv (Ru.congr (Ru.load1 el3 rfl (ldm (hw2.rd 5 rfl) F0)) (I_congr ((bF F0).symm.trans hcu.symm))) rfl) (b := ?_)
 have G0 : cur.toNat < Ch.length := hjc
 refine qv 0 [] (a := by exact λ _ hw2 => cJ G0 (hw2.rd 2 rfl) (h0 := t1)) (b := ?_)
 refine qv 0 [] (a := by exact λ _ hw2 => fZ G0 (hw2.rd 2 rfl)) (b := ?_)
 refine qv 0 [] (a := by exact λ _ hw2 => gF G0 (hw2.rd 2 rfl)) (b := ?_)
 refine qn 3 [] λ S1 f1 => ?_
 refine cd 0 [] (λ c68 => ?_) (λ c68 => ?_)
 have hk2 : ¬ 2 <= (gP (⟨T.root, tsG Ch⟩ : TrT) ((aY T.t key).getD (a - 1) 0)).keys.length := by rw [<- hcu, hgc]; show ¬ 2 <= (Ch[cur.toNat]'hjc).k.l.length; omega
 have ha2 : 2 <= a := by omega
 have hmk := hD.place hv hP ha2
 have hmd := hD.md hmk
 have hDn := hD.next hv ha2 hmk
 have hgo := tW (P := (aY T.t key)) (s := ((⟨T.root, tsG Ch⟩ : TrT), g9)) ha2 hk2
 have hDMn := hDM.next hD hv hP ha2 rfl hmk
 have hrw9 := λ h9 => hDM.row hD hv hP ha2 hmk h9
 obtain ⟨up9, hup⟩ : ∃ z, z = (aY T.t key).getD (a - 2) 0 := ⟨_, rfl⟩
 rw [<- hup, <- hcu] at hmd hDn hgo hDMn hrw9
 refine any 3 [] 10 [3, 4, 5, 6, 7] λ T1 y0 => ?_
 refine av [0, 1] [] 2 (a := by exact λ _ hw2 => eV) (b := ?_)
 have X0 : (a - 1 - 1) < (aY T.t key).length := t1
 refine av [] [] 3 (a := by exact λ _ hw2 => cG X0 (y0.rd 5 rfl) (h0 := t1)) (b := ?_)
 refine av [] [] 4 (s := Vi up9) (a := by exact λ w2 hw2 => cv (Ru.congr (Ru.load1 el3 rfl (ldm (hw2.rd 2 rfl) X0)) (I_congr (by rw [hup, show a - 2 = a - 1 - 1 by omega, bF (show a - 1 - 1 < (aY T.t key).length by omega)]))) rfl) (b := ?_)
 have H0 : (a - 1) < (aY T.t key).length := t1
 refine av [5, 6] [] 7 (a := by exact λ _ hw2 => cG H0 (y0.rd 5 rfl) (h0 := t1)) (b := ?_)
 refine av [] [] 8 (s := Vi cur) (a := by exact λ w2 hw2 => cv (Ru.congr (Ru.load1 el3 rfl (ldm (hw2.rd 2 rfl) H0)) (I_congr ((bF H0).symm.trans hcu.symm))) rfl) (b := ?_)
 refine aO [] [] 9 ?_
 have T0 := y0.pk [1, 2, 0, 3, 4, 5, 6, 7]
 refine cq 0 [] (b := aOc m0 a0 b0 Ch g9 j9 _ _ (dE (gP (⟨0, tsG Ch⟩ : TrT) up9).kids cur - 1).toNat _ _ T1 (T0.fp [0, 1, 2] rfl rfl) (by exact hmd.r0) (by rfl) (by exact hrw9) qo qo) (c := ?_)
 rintro _ P2 ⟨O0, Q1, rfl, P1, N2, z1⟩
 have h1 := T0.cl 3 z1
 have F2 := (h1.cap 1 rfl).1
 have hts13_9T : (⟨T.root, tsG O0⟩ : TrT) = (eE (⟨T.root, tsG Ch⟩ : TrT) up9 (dE (gP (⟨T.root, tsG Ch⟩ : TrT) up9).kids cur - 1).toNat).1 := by rw [aAt (r := T.root)]; exact congrArg (λ z : TrT => (⟨T.root, z.pages⟩ : TrT)) P1
 have hm2T : (eE (⟨0, tsG Ch⟩ : TrT) up9 (dE (gP (⟨0, tsG Ch⟩ : TrT) up9).kids cur - 1).toNat).2 = (eE (⟨T.root, tsG Ch⟩ : TrT) up9 (dE (gP (⟨T.root, tsG Ch⟩ : TrT) up9).kids cur - 1).toNat).2 := by rw [aAt (r := T.root)]; rfl
 refine os 0 [] [3, 4, 5, 6, 7] ?_
 refine an [] [] ?_
 refine ov 2 [] (a := eV) (b := ?_)
 exact le4 2 [] (a - 1) O0 (dR g9 (eE (⟨0, tsG Ch⟩ : TrT) up9 (dE (gP (⟨0, tsG Ch⟩ : TrT) up9).kids cur - 1).toNat).2) Q1 [2, 0, 1, 3, 4, 5, 6, 7] (hm := (by (try dsimp only); have := hD.a1; omega)) (h := by exact ⟨(by (try dsimp only); rw [hts13_9T, hm2T]; exact hDn), (by (try dsimp only); rw [hts13_9T, hm2T]; rw [<- E0]; exact hgo.symm), (by (try dsimp only); rw [hts13_9T, hm2T]; exact hDMn), t7⟩)
 exact ce4 1 [] a Ch g9 j9 [0, 1, 2, 3, 4, 5, 6, 7] (h := by exact ⟨hD, (by (try dsimp only); rw [<- E0]; exact mB (s := ((⟨T.root, tsG Ch⟩ : TrT), g9)) t1 (by first | (left; omega) | (right; rw [<- hcu, hgc]; show 2 <= (Ch[cur.toNat]'hjc).k.l.length; omega)))⟩)
 refine qn 12 [] λ S1 f1 => ?_
 exact ce4 2 [] a Ch g9 j9 [0, 1, 2, 3, 4, 5, 6, 7] (h := by exact ⟨hD, (by (try dsimp only); rw [<- E0]; exact mB (s := ((⟨T.root, tsG Ch⟩ : TrT), g9)) t1 (by first | (left; omega) | (right; rw [<- hcu, hgc]; show 2 <= (Ch[cur.toNat]'hjc).k.l.length; omega)))⟩)
 obtain ⟨H1, J1⟩ := hI
 have q2 := (e0.cap 2 rfl).1
 have v2 := (e0.cap 3 rfl).1
 have z2 := (e0.cap 4 rfl).1
 have C2 := (e0.cap 5 rfl).1
 have hD1 := H1
 have hcl1 := hD1.len
 simp only [cP, bC] at hcl1
 have hgl1 : g1.length + a1 <= (aY T.t key).length := hD1.gl
 have ha11 := hD1.a1
 have hjr : T.root.toNat < Ch1.length := by omega
 have hgr : gP (⟨T.root, tsG Ch1⟩ : TrT) T.root = (Ch1[T.root.toNat]'hjr).t := jW hjr
 have hshr := hD1.sh T.root hL.r3.2
 have hcr : (gP (⟨T.root, tsG Ch1⟩ : TrT) T.root).kids = [] \/ (gP (⟨T.root, tsG Ch1⟩ : TrT) T.root).kids.length = (gP (⟨T.root, tsG Ch1⟩ : TrT) T.root).keys.length + 1 := by rcases hshr.c with ⟨_, h9, _⟩ | ⟨_, h9, _⟩; exact .inl h9; exact .inr h9
 rw [hgr] at hcr
 obtain ⟨hF1, hF2, hF3, hF4⟩ := hD1.fin hv hP
 refine ct2 6 [7] (λ (r2 : Int) (g2 : List Int) => ([(13, Vi r2)] : List (Nat × SV))) (λ r2 g2 => (kZ ((⟨T.root, tsG Ch1⟩ : TrT), g1) = (⟨r2, tsG Ch1⟩, g2))) (λ r2 g2 => [[⟨.slice (bl m0) 1 1, 169, 18, 1, mdC a0 Ch1.length b0 g2 j1⟩]]) [4, 11] [0, 2, 3, 4, 5, 6, 7] ?_ (λ r2 g2 σ Z2 hI u0 => ?_)
 refine ov 3 [] (s := Vl a0 Ch1.length b0) (a := by exact cv (Ru.load1 kV rfl ((e0.rd 1 rfl).ld (k := 0) rfl)) rfl) (b := ?_)
 have J0 : T.root.toNat < Ch1.length := hjr
 refine ov 1 [] (a := cJ J0 (e0.rd 2 rfl) (h0 := t1)) (b := ?_)
 refine ov 0 [] (a := fZ J0 (e0.rd 2 rfl)) (b := ?_)
 refine ov 0 [] (a := gF J0 (e0.rd 2 rfl)) (b := ?_)
 refine pp 3 [] 91 (λ g91 => ?_) (λ g91 => ?_)
 refine ov 1 [] (s := Vl a0 Ch1.length b0) (a := by exact cv (Ru.load1 kV rfl ((e0.rd 1 rfl).ld (k := 0) rfl)) rfl) (b := ?_)
 have I0 : T.root.toNat < Ch1.length := hjr
 refine ov 1 [] (a := cJ I0 (e0.rd 2 rfl) (h0 := t1)) (b := ?_)
 refine ov 0 [] (a := fZ I0 (e0.rd 2 rfl)) (b := ?_)
 refine ov 0 [] (a := gF I0 (e0.rd 2 rfl)) (b := ?_)
 refine cd 4 [] (λ c100 => ?_) (λ c100 => ?_)
 have hcr2 : (Ch1[T.root.toNat]'hjr).c.l.length = 0 \/ (Ch1[T.root.toNat]'hjr).c.l.length = (Ch1[T.root.toNat]'hjr).k.l.length + 1 := by rcases hcr with h9 | h9; exact .inl (by rw [show (Ch1[T.root.toNat]'hjr).c.l = [] from h9]; rfl); exact .inr h9
 have hk1 : (gP (⟨T.root, tsG Ch1⟩ : TrT) T.root).kids.length = 1 := by rw [hgr]; show (Ch1[T.root.toNat]'hjr).c.l.length = 1; first | omega | simp_all
 obtain ⟨k0, hk0⟩ : ∃ z, z = (Ch1[T.root.toNat]'hjr).c.l.getD 0 0 := ⟨_, rfl⟩
 have hRy : kZ ((⟨T.root, tsG Ch1⟩ : TrT), g1) = (⟨k0, tsG Ch1⟩, g1 ++ [T.root]) := by rw [zA (s := ((⟨T.root, tsG Ch1⟩ : TrT), g1)) hk1]; rw [show ((⟨T.root, tsG Ch1⟩ : TrT), g1).1.root = T.root from rfl, hgr, hk0]; rfl
 have hk1c : (Ch1[T.root.toNat]'hjr).c.l.length = 1 := by have h9 := hk1; rw [hgr] at h9; exact h9
 have Y0 : 0 <= T.root /\ T.root < 16 := t1
 refine ov 4 [] (s := Vp (bl m0) (1 + T.root.toNat)) (a := by exact cv (Ru.indexArrK (j := T.root.toNat) Tryz.underlying75 el4 rfl rfl rfl rfl rfl Y0) rfl) (b := ?_)
 refine sX 0 [] 1 (mdC a0 Ch1.length b0 (g1 ++ [T.root]) j1) (hk := (by simp [mdC]; omega)) (hq := (aOj Y0)) (h := λ Q2 o0 => ?_)
 refine ov 3 [] (s := Vl a0 Ch1.length b0) (a := by exact cv (Ru.load1 kV rfl ((o0.rd 1 rfl).ld (k := 0) rfl)) rfl) (b := ?_)
 have p0 : T.root.toNat < Ch1.length := hjr
 refine ov 1 [] (a := cJ p0 (o0.rd 2 rfl) (h0 := t1)) (b := ?_)
 refine ov 0 [] (a := fZ p0 (o0.rd 2 rfl)) (b := ?_)
 refine ov 0 [] (a := gF p0 (o0.rd 2 rfl)) (b := ?_)
 have K0 : 0 < (Ch1[T.root.toNat]'p0).c.l.length := t1
 refine ov 0 [] (a := cG K0 ((NsP.mem o0 0 rfl).get p0).2.1 (h0 := t1)) (b := ?_)
 refine ov 0 [] (s := Vi k0) (a := by exact cv (Ru.congr (Ru.load1 el3 rfl (ldm ((NsP.mem o0 0 rfl).get p0).2.1 K0)) (I_congr ((bF K0).symm.trans hk0.symm))) rfl) (b := ?_)
 exact ce2 2 [] k0 (g1 ++ [T.root]) [1, 0, 2, 3, 4, 5, 6, 7] (h := by exact (by (try dsimp only); first | exact hRy | exact hRn))
 have hcr2 : (Ch1[T.root.toNat]'hjr).c.l.length = 0 \/ (Ch1[T.root.toNat]'hjr).c.l.length = (Ch1[T.root.toNat]'hjr).k.l.length + 1 := by rcases hcr with h9 | h9; exact .inl (by rw [show (Ch1[T.root.toNat]'hjr).c.l = [] from h9]; rfl); exact .inr h9
 have hRn : kZ ((⟨T.root, tsG Ch1⟩ : TrT), g1) = (⟨T.root, tsG Ch1⟩, g1) := wU (s := ((⟨T.root, tsG Ch1⟩ : TrT), g1)) (by show ¬ (gP (⟨T.root, tsG Ch1⟩ : TrT) T.root).kids.length = 1; rw [hgr]; show ¬ (Ch1[T.root.toNat]'hjr).c.l.length = 1; first | omega | simp_all)
 exact ce2 1 [] T.root g1 [1, 0, 2, 3, 4, 5, 6, 7] (h := by exact (by (try dsimp only); first | exact hRy | exact hRn))
 have hcr2 : (Ch1[T.root.toNat]'hjr).c.l.length = 0 \/ (Ch1[T.root.toNat]'hjr).c.l.length = (Ch1[T.root.toNat]'hjr).k.l.length + 1 := by rcases hcr with h9 | h9; exact .inl (by rw [show (Ch1[T.root.toNat]'hjr).c.l = [] from h9]; rfl); exact .inr h9
 have hRn : kZ ((⟨T.root, tsG Ch1⟩ : TrT), g1) = (⟨T.root, tsG Ch1⟩, g1) := wU (s := ((⟨T.root, tsG Ch1⟩ : TrT), g1)) (by show ¬ (gP (⟨T.root, tsG Ch1⟩ : TrT) T.root).kids.length = 1; rw [hgr]; show ¬ (Ch1[T.root.toNat]'hjr).c.l.length = 1; first | omega | simp_all)
 exact ce2 12 [] T.root g1 [1, 0, 2, 3, 4, 5, 6, 7] (h := by exact (by (try dsimp only); first | exact hRy | exact hRn))
 have W0 := hI
 have s2 := (u0.cap 2 rfl).1
 have x2 := (u0.cap 3 rfl).1
 have A2 := (u0.cap 4 rfl).1
 have D2 := (u0.cap 5 rfl).1
 rw [W0] at hF1 hF2 hF3 hF4
 have hg2l : g2.length <= 3 := cR hF4 hp3
 have hdf : aAa (⟨r2, tsG Ch1⟩ : TrT) r2 g2 = lH T.t key := by rw [<- aEc (n := 4) hF1 t1]; unfold lH; rw [J1, W0]
 refine any 1 [] 7 [3, 4, 5, 7] λ d1 z0 => ?_
 refine aT [0, 2] [] 1 3 ?_ ?_
 have s0 := z0.pk [0, 2, 1, 3, 4, 5, 6, 7]
 refine cq 0 [] (b := qR m0 a0 b0 Ch1 g2 j1 _ _ d1 (s0.fp [0, 1, 2] rfl rfl) (by exact hF1) qo qo) (c := ?_)
 rintro _ U1 ⟨c0, f0, g0, rfl, w0, M1, D0⟩
 have t0 := s0.cl 3 D0
 have G1 := (t0.cap 1 rfl).1
 refine os 0 [] [3, 4, 5, 7] ?_
 refine aT [] [] 3 4 ?_ ?_
 refine ov 0 [] (s := Vi j1) (a := by exact cv (Ru.load1 el3 rfl ((t0.rd 0 rfl).ld (k := 17) rfl)) rfl) (b := ?_)
 refine os 0 [] [3, 4, 5, 7] ?_
 refine aO [] [] 4 ?_
 refine Sb 0 [] 6 λ b1 i0 => ?_
 refine os 0 [] [3, 4, 5, 7] ?_
 refine an [5, 6] [] ?_
 refine EG 1 [] ?_
 refine PG (vs := [.agg #[I (eI g2 r2), .slice f0 c0.length g0], I j1, .bool true]) (bX.cell (l := [I (eI g2 r2), .slice f0 c0.length g0]) rfl (cA (i := 6) (j := 0) i0 rfl rfl) kH rfl (bX.tmp rfl (bX.tmp rfl bX.nil))) ?_
 have hpf : (aN T.t && cT (bZ T.t) key) = true := by rw [hv, hin9, hlk9]; rfl
 have hdt : (⟨eI g2 r2, tsG c0⟩ : TrT) = lH T.t key := w0.trans hdf
 have hdv := iK (pF hv (by rw [<- qF hv, hin9]; exact hlk9))
 exact ⟨(eI g2 r2), j1, c0, f0, g0, (by rw [hpf]; rfl), (λ _ => hdt), (fF (by rw [show tsG c0 = (lH T.t key).pages from congrArg TrT.pages hdt]; exact hdv) t1), t1, (i0.pk [1, 2])⟩
 refine Sb 0 [] 6 λ b1 i0 => ?_
 refine os 0 [] [3, 4, 5, 7] ?_
 refine aO [] [] 3 ?_
 refine ov 0 [] (s := Vi j1) (a := by exact cv (Ru.load1 el3 rfl ((i0.rd 0 rfl).ld (k := 17) rfl)) rfl) (b := ?_)
 refine os 0 [] [3, 4, 5, 7] ?_
 refine an [5, 6] [] ?_
 refine EG 1 [] ?_
 refine PG (vs := [.agg #[I (eI g2 r2), .slice f0 c0.length g0], I j1, .bool true]) (bX.cell (l := [I (eI g2 r2), .slice f0 c0.length g0]) rfl (cA (i := 6) (j := 0) i0 rfl rfl) kH rfl (bX.tmp rfl (bX.tmp rfl bX.nil))) ?_
 have hpf : (aN T.t && cT (bZ T.t) key) = true := by rw [hv, hin9, hlk9]; rfl
 have hdt : (⟨eI g2 r2, tsG c0⟩ : TrT) = lH T.t key := w0.trans hdf
 have hdv := iK (pF hv (by rw [<- qF hv, hin9]; exact hlk9))
 exact ⟨(eI g2 r2), j1, c0, f0, g0, (by rw [hpf]; rfl), (λ _ => hdt), (fF (by rw [show tsG c0 = (lH T.t key).pages from congrArg TrT.pages hdt]; exact hdv) t1), t1, (i0.pk [1, 2])⟩
 refine ov 0 [] (s := Vi j1) (a := by exact cv (Ru.load1 el3 rfl ((z0.rd 0 rfl).ld (k := 17) rfl)) rfl) (b := ?_)
 refine os 0 [] [3, 4, 5, 7] ?_
 refine aO [] [] 1 ?_
 have s0 := z0.pk [0, 2, 1, 3, 4, 5, 6, 7]
 refine cq 0 [] (b := qR m0 a0 b0 Ch1 g2 j1 _ _ d1 (s0.fp [0, 1, 2] rfl rfl) (by exact hF1) qo qo) (c := ?_)
 rintro _ U1 ⟨c0, f0, g0, rfl, w0, M1, D0⟩
 have t0 := s0.cl 3 D0
 have G1 := (t0.cap 1 rfl).1
 refine os 0 [] [3, 4, 5, 7] ?_
 refine aO [] [] 4 ?_
 refine Sb 0 [] 6 λ b1 i0 => ?_
 refine os 0 [] [3, 4, 5, 7] ?_
 refine an [5, 6] [] ?_
 refine EG 1 [] ?_
 refine PG (vs := [.agg #[I (eI g2 r2), .slice f0 c0.length g0], I j1, .bool true]) (bX.cell (l := [I (eI g2 r2), .slice f0 c0.length g0]) rfl (cA (i := 6) (j := 0) i0 rfl rfl) kH rfl (bX.tmp rfl (bX.tmp rfl bX.nil))) ?_
 have hpf : (aN T.t && cT (bZ T.t) key) = true := by rw [hv, hin9, hlk9]; rfl
 have hdt : (⟨eI g2 r2, tsG c0⟩ : TrT) = lH T.t key := w0.trans hdf
 have hdv := iK (pF hv (by rw [<- qF hv, hin9]; exact hlk9))
 exact ⟨(eI g2 r2), j1, c0, f0, g0, (by rw [hpf]; rfl), (λ _ => hdt), (fF (by rw [show tsG c0 = (lH T.t key).pages from congrArg TrT.pages hdt]; exact hdv) t1), t1, (i0.pk [1, 2])⟩
theorem aGu (T : bN) (key : Int) (w : World) (hNT : TrN w T) (hs : SzT T) :
  aR Tryz.prog 101 [.agg #[I T.root, .slice T.A T.l.length T.cp], I key] w (λ v w1 => ∃ (r1 : Int) (L1 : List PgL) (A1 : Option Addr) (c1 : Nat), v = .tuple #[.agg #[I r1, .slice A1 L1.length c1], .bool (aN T.t && cT (bZ T.t) key)] /\ ((aN T.t && cT (bZ T.t) key) = true -> (⟨r1, tsG L1⟩ : TrT) = lH T.t key) /\ (SzT ⟨r1, A1, c1, L1⟩) /\ (L1.length <= 64) /\ Mem w w1 [] [oG A1 c1 L1, L1.flatMap (pgF 3)]) := by
 have hM : Mem w w [] [] := Mem.refl
 refine aR.nG (rs := [.cell 4 25, .tmp 5]) Tryz.func101 rfl Tryz.results101 Tryz.ntmps101 rfl ?_
 refine Bx 2 [] λ y0 m0 t0 p0 => ?_
 refine Al 0 [] λ l0 n0 u0 e0 => ?_
 refine cq 6 [1] (b := xT T _ l0 (hNT.at e0) q0) (c := ?_)
 rintro _ z0 ⟨d0, x0, b0, a0, c0, rfl, j0, k0, i0, h0⟩
 have g0 := e0.cl 0 h0
 have w0 := (g0.cap 0 rfl).1
 refine Al 4 [] λ A0 o0 v0 r0 => ?_
 refine Sb 0 [] 0 λ B0 s0 => ?_
 refine Sb 7 [0] 3 λ C0 f0 => ?_
 refine EG 3 [] ?_
 refine PG (vs := [.agg #[I d0, .slice a0 b0.length c0], .bool (aN T.t && cT (bZ T.t) key)]) (bX.cell (l := [I d0, .slice a0 b0.length c0]) rfl (cA (i := 3) (j := 0) f0 rfl rfl) kH rfl (bX.tmp rfl bX.nil)) ?_
 exact ⟨d0, b0, a0, c0, (by first | rfl | exact sl_congr t8 | (simp; done)), j0, k0, i0, (f0.pk [1, 2])⟩
end Go.Proofs.YtemejgglbhjodaaGreatDoor
