/- Own layer: part of this seat (LH). Plain theorems; no conditions. -/
import Derived.Test.YtgflcaeibbnkcaaLE
set_option linter.unusedVariables false
set_option linter.unusedSimpArgs false
namespace Go.Proofs.Ytgflcaeibbnkcaa
open Go.Px
theorem someLog_fn (gr : Nat) (rA : Option Addr) (rc : Nat) (rl : List UInt8) (rq : Nat) (w : World) (hrA : Rd w rA (rl.map byteV)) (hro : Off rA (rl.map byteV) [some gr]) (hrl : rl.length ≤ 2000) (hM : Mem w w [some gr] [[⟨.slice (bl gr) 1 1, 81, 2, 1, [.slice (rA) ((rl).length) (rc), I (((rq : Nat) : Int))]⟩]]) (hrq : rq ≤ 999999000) :
    Does Try.prog 45 [.pointer (ofs (bl gr) (0))] w (fun v w1 => ∃ (l1 : List RecT) (A1 : Option Addr) (c1 : Nat) (q1 : Nat), v = .slice (A1) ((l1).length) (c1) ∧ (l1.length ≤ 25) ∧ (q1 ≤ rq + 200) ∧ Mem w w1 [some gr] [[⟨.slice (bl gr) 1 1, 81, 2, 1, [.slice (rA) ((rl).length) (rc), I (((q1 : Nat) : Int))]⟩], [⟨.slice (A1) ((l1).length) (c1), 34, 3, ((l1).length), (l1).flatMap encG⟩]]) := by
  refine Does.enter1 Try.func45 rfl Try.results45 Try.ntmps45 rfl ?_
  refine C.seq ?_
  refine C.region ?_
  refine O.val (v := .slice (none) (0) (0)) rfl (Ru.assign rfl) rfl ?_
  refine O.nil ?_
  refine C.seq ?_
  refine C.region ?_
  refine O.mlit (sz := 3) (cs := []) hM rfl Try.underlying23 el34 rfl rfl rfl (by kernel_rfl) (by kernel_rfl) rfl rfl (fun w1_0 b1_0 hb1_0 (hM1_0 : Mem w w1_0 [some gr] [[⟨.slice (bl b1_0) (0) (0), 34, 3, 0, ([]).flatMap encG⟩], [⟨.slice (bl gr) 1 1, 81, 2, 1, [.slice (rA) ((rl).length) (rc), I (((rq : Nat) : Int))]⟩]]) => ?_)
  refine O.val (v := .slice (bl b1_0) (0) (0)) rfl (Ru.assign rfl) rfl ?_
  refine O.nil ?_
  refine C.seq ?_
  refine C.seq ?_
  refine C.region ?_
  refine O.val (v := .pointer (ofs (bl gr) (0))) rfl (Ru.move rfl) rfl ?_
  refine O.mlit (sz := 1) (cs := [I (6), I (10), I (14), I (4), I (24), I (0), I (25)]) hM1_0 rfl Try.underlying71 el3 rfl rfl rfl (by kernel_rfl) (by kernel_rfl) rfl rfl (fun w2_1 b2_1 hb2_1 (hM2_1 : Mem w w2_1 [some gr] [[⟨.slice (bl b2_1) (7) (7), 3, 1, 7, ([6, 10, 14, 4, 24, 0, 25]).map I⟩], [⟨.slice (bl b1_0) (0) (0), 34, 3, 0, ([]).flatMap encG⟩], [⟨.slice (bl gr) 1 1, 81, 2, 1, [.slice (rA) ((rl).length) (rc), I (((rq : Nat) : Int))]⟩]]) => ?_)
  have hMf2_2 : Mem w w2_1 [some gr] [[⟨.slice (bl gr) 1 1, 81, 2, 1, [.slice (rA) ((rl).length) (rc), I (((rq : Nat) : Int))]⟩], [⟨.slice (bl b2_1) (7) (7), 3, 1, 7, ([6, 10, 14, 4, 24, 0, 25]).map I⟩], [⟨.slice (bl b1_0) (0) (0), 34, 3, 0, ([]).flatMap encG⟩]] := hM2_1.pick [2, 0, 1] (by decide) rfl
  refine O.callg [.pointer (ofs (bl gr) (0)), .slice (bl b2_1) (([6, 10, 14, 4, 24, 0, 25]).length) (7)] rfl en68 (by first | rfl | (rw [show ([6, 10, 14, 4, 24, 0, 25]).length = 7 from (by first | rfl | (simp; done) | omega | (simp; omega))]; rfl)) rfl (one_fn gr rA rc rl rq (bl b2_1) 7 [6, 10, 14, 4, 24, 0, 25] w2_1 (hrA.atR hMf2_2 hro) hro hrl (hMf2_2.rd 1 rfl) (Off.of_ng (hMf2_2.ng 1 0 (by decide) rfl rfl)) (Mem.focus (Ma := [[⟨.slice (bl gr) 1 1, 81, 2, 1, [.slice (rA) ((rl).length) (rc), I (((rq : Nat) : Int))]⟩]]) (rest := [[⟨.slice (bl b2_1) (7) (7), 3, 1, 7, ([6, 10, 14, 4, 24, 0, 25]).map I⟩], [⟨.slice (bl b1_0) (0) (0), 34, 3, 0, ([]).flatMap encG⟩]]) hMf2_2 rfl) (by first | omega | assumption | (simp; omega) | simp | (intros; omega)) (by simp) (by simp)) ?_
  rintro _ w2_2 ⟨k2_2, rfl, hk2_2, hR2_2⟩
  have hM2_2 : Mem w w2_2 [some gr] [[⟨.slice (bl gr) 1 1, 81, 2, 1, [.slice (rA) ((rl).length) (rc), I (((rq + 1 : Nat) : Int))]⟩], [⟨.slice (bl b2_1) (7) (7), 3, 1, 7, ([6, 10, 14, 4, 24, 0, 25]).map I⟩], [⟨.slice (bl b1_0) (0) (0), 34, 3, 0, ([]).flatMap encG⟩]] := Mem.call (Ma := [[⟨.slice (bl gr) 1 1, 81, 2, 1, [.slice (rA) ((rl).length) (rc), I (((rq : Nat) : Int))]⟩]]) hMf2_2 hR2_2 rfl
  have hk0 := (by decide : ∀ k ∈ ([6, 10, 14, 4, 24, 0, 25] : List Int), 0 ≤ k ∧ k ≤ 25) _ hk2_2
  refine O.val (v := I (k2_2)) rfl (Ru.assign rfl) rfl ?_
  refine O.nil ?_
  refine C.block ?_
  have hq1 : ([] : List RecT) = ([] : List RecT) := (by first | rfl | simp | (simp; omega))
  have hMn1 : Mem w w2_2 [some gr] [[⟨.slice (bl gr) 1 1, 81, 2, 1, [.slice (rA) ((rl).length) (rc), I (((rq + 1 : Nat) : Int))]⟩], [⟨.slice (bl b2_1) (7) (7), 3, 1, 7, ([6, 10, 14, 4, 24, 0, 25]).map I⟩], [⟨.slice (bl b1_0) ((([] : List RecT)).length) (0), 34, 3, ((([] : List RecT)).length), (([] : List RecT)).flatMap encG⟩]] := hM2_2.relen 2 (n' := (([] : List RecT)).length) (xs' := (([] : List RecT)).flatMap encG) rfl (by first | rfl | exact congrArg List.length hq1 | (have hqq := congrArg List.length hq1; first | omega | (simp at hqq ⊢; omega)) | (simp; done) | (simp; omega)) (congrArg (fun z_ => (z_).flatMap encG) hq1) rfl
  refine C.loop (ι := Int × (List RecT) × (Option Addr) × Nat × Nat) (fun x_ => ([(0, .pointer (ofs (bl gr) (0))), (3, .slice (x_.2.2.1) ((x_.2.1).length) (x_.2.2.2.1)), (4, I (x_.1))] : List (Nat × Value))) (fun x_ w_ => (0 ≤ x_.1 ∧ x_.1 ≤ 25) ∧ (x_.2.2.2.2 + 3 * x_.1 ≤ rq + 76) ∧ (x_.2.1.length + x_.1 ≤ 25) ∧ (Mem w w_ [some gr] [[⟨.slice (bl gr) 1 1, 81, 2, 1, [.slice (rA) ((rl).length) (rc), I (((x_.2.2.2.2 : Nat) : Int))]⟩], [⟨.slice (bl b2_1) (7) (7), 3, 1, 7, ([6, 10, 14, 4, 24, 0, 25]).map I⟩], [⟨.slice (x_.2.2.1) ((x_.2.1).length) (x_.2.2.2.1), 34, 3, ((x_.2.1).length), (x_.2.1).flatMap encG⟩]])) (fun x_ => x_.1.toNat) (k2_2, ([] : List RecT), bl b1_0, 0, (rq + 1)) (Has.cons rfl (Has.cons (sl_congr (by first | rfl | omega | (simp; done) | (simp; omega) | exact congrArg List.length hq1 | (simp [← hq1]; done) | (simp [← hq1]; omega))) (Has.cons rfl Has.nil))) ⟨(by (try dsimp only); first | omega | (simp; omega)), (by (try dsimp only); first | omega | (simp; omega)), (by (try dsimp only); first | omega | (simp; omega) | (simp; done)), (hMn1.pick [0, 1, 2] (by decide) rfl)⟩ (fun ⟨k, L, A2, c2, q⟩ σ w_l3 hI => ?_)
  try dsimp only at hI
  obtain ⟨hi0_l3, hi1_l3, hi2_l3, hM_l3⟩ := hI
  have hcl1_l3 := (hM_l3.cap 1 rfl).1
  have hcl2_l3 := (hM_l3.cap 2 rfl).1
  obtain ⟨hk1, hk2⟩ := hi0_l3
  refine C.seq ?_
  refine C.seq ?_
  refine C.region ?_
  refine O.val (v := I (k)) rfl (Ru.move rfl) rfl ?_
  refine O.val (v := .bool (decide (k > 0))) rfl (Ru.gtr rfl rfl) rfl ?_
  refine O.nil ?_
  refine C.cond (p := k > 0) rfl (fun c11 => ?_) (fun c11 => ?_)
  · refine C.skip ?_
    refine C.seq ?_
    refine C.block ?_
    refine C.seq ?_
    refine C.region ?_
    refine O.val (v := .pointer (ofs (bl gr) (0))) rfl (Ru.move rfl) rfl ?_
    refine O.mlit (sz := 1) (cs := [I (1), I (1), I (2), I (3)]) hM_l3 rfl Try.underlying71 el3 rfl rfl rfl (by kernel_rfl) (by kernel_rfl) rfl rfl (fun w5_1 b5_1 hb5_1 (hM5_1 : Mem w w5_1 [some gr] [[⟨.slice (bl b5_1) (4) (4), 3, 1, 4, ([1, 1, 2, 3]).map I⟩], [⟨.slice (bl gr) 1 1, 81, 2, 1, [.slice (rA) ((rl).length) (rc), I (((q : Nat) : Int))]⟩], [⟨.slice (bl b2_1) (7) (7), 3, 1, 7, ([6, 10, 14, 4, 24, 0, 25]).map I⟩], [⟨.slice (A2) ((L).length) (c2), 34, 3, ((L).length), (L).flatMap encG⟩]]) => ?_)
    have hMf5_2 : Mem w w5_1 [some gr] [[⟨.slice (bl gr) 1 1, 81, 2, 1, [.slice (rA) ((rl).length) (rc), I (((q : Nat) : Int))]⟩], [⟨.slice (bl b5_1) (4) (4), 3, 1, 4, ([1, 1, 2, 3]).map I⟩], [⟨.slice (bl b2_1) (7) (7), 3, 1, 7, ([6, 10, 14, 4, 24, 0, 25]).map I⟩], [⟨.slice (A2) ((L).length) (c2), 34, 3, ((L).length), (L).flatMap encG⟩]] := hM5_1.pick [1, 0, 2, 3] (by decide) rfl
    refine O.callg [.pointer (ofs (bl gr) (0)), .slice (bl b5_1) (([1, 1, 2, 3]).length) (4)] rfl en68 (by first | rfl | (rw [show ([1, 1, 2, 3]).length = 4 from (by first | rfl | (simp; done) | omega | (simp; omega))]; rfl)) rfl (one_fn gr rA rc rl q (bl b5_1) 4 [1, 1, 2, 3] w5_1 (hrA.atR hMf5_2 hro) hro hrl (hMf5_2.rd 1 rfl) (Off.of_ng (hMf5_2.ng 1 0 (by decide) rfl rfl)) (Mem.focus (Ma := [[⟨.slice (bl gr) 1 1, 81, 2, 1, [.slice (rA) ((rl).length) (rc), I (((q : Nat) : Int))]⟩]]) (rest := [[⟨.slice (bl b5_1) (4) (4), 3, 1, 4, ([1, 1, 2, 3]).map I⟩], [⟨.slice (bl b2_1) (7) (7), 3, 1, 7, ([6, 10, 14, 4, 24, 0, 25]).map I⟩], [⟨.slice (A2) ((L).length) (c2), 34, 3, ((L).length), (L).flatMap encG⟩]]) hMf5_2 rfl) (by first | omega | assumption | (simp; omega) | simp | (intros; omega)) (by simp) (by simp)) ?_
    rintro _ w5_2 ⟨k5_2, rfl, hk5_2, hR5_2⟩
    have hM5_2 : Mem w w5_2 [some gr] [[⟨.slice (bl gr) 1 1, 81, 2, 1, [.slice (rA) ((rl).length) (rc), I (((q + 1 : Nat) : Int))]⟩], [⟨.slice (bl b5_1) (4) (4), 3, 1, 4, ([1, 1, 2, 3]).map I⟩], [⟨.slice (bl b2_1) (7) (7), 3, 1, 7, ([6, 10, 14, 4, 24, 0, 25]).map I⟩], [⟨.slice (A2) ((L).length) (c2), 34, 3, ((L).length), (L).flatMap encG⟩]] := Mem.call (Ma := [[⟨.slice (bl gr) 1 1, 81, 2, 1, [.slice (rA) ((rl).length) (rc), I (((q : Nat) : Int))]⟩]]) hMf5_2 hR5_2 rfl
    refine O.val (v := .pointer (ofs (bl gr) (0))) rfl (Ru.move rfl) rfl ?_
    refine O.callg [.pointer (ofs (bl gr) (0)), I (12)] rfl en53 rfl rfl (pick_fn gr rA rc rl (q + 1) 12 w5_2 (hrA.atR hM5_2 hro) hro hrl (Mem.focus (Ma := [[⟨.slice (bl gr) 1 1, 81, 2, 1, [.slice (rA) ((rl).length) (rc), I (((q + 1 : Nat) : Int))]⟩]]) (rest := [[⟨.slice (bl b5_1) (4) (4), 3, 1, 4, ([1, 1, 2, 3]).map I⟩], [⟨.slice (bl b2_1) (7) (7), 3, 1, 7, ([6, 10, 14, 4, 24, 0, 25]).map I⟩], [⟨.slice (A2) ((L).length) (c2), 34, 3, ((L).length), (L).flatMap encG⟩]]) hM5_2 rfl) (by first | omega | assumption | (simp; omega) | simp | (intros; omega))) ?_
    rintro _ w5_4 ⟨k5_4, rfl, hk5_4, hR5_4⟩
    have hM5_4 : Mem w w5_4 [some gr] [[⟨.slice (bl gr) 1 1, 81, 2, 1, [.slice (rA) ((rl).length) (rc), I ((((q + 1) + 1 : Nat) : Int))]⟩], [⟨.slice (bl b5_1) (4) (4), 3, 1, 4, ([1, 1, 2, 3]).map I⟩], [⟨.slice (bl b2_1) (7) (7), 3, 1, 7, ([6, 10, 14, 4, 24, 0, 25]).map I⟩], [⟨.slice (A2) ((L).length) (c2), 34, 3, ((L).length), (L).flatMap encG⟩]] := Mem.call (Ma := [[⟨.slice (bl gr) 1 1, 81, 2, 1, [.slice (rA) ((rl).length) (rc), I (((q + 1 : Nat) : Int))]⟩]]) hM5_2 hR5_4 rfl
    refine O.val (v := .agg #[I (k5_2), I (k5_4), I (0)]) rfl (Ru.build of34 rfl rfl rfl) rfl ?_
    refine O.malloc (k := 3) hM5_4 rfl rfl el34 rfl (fun w5_6 b5_6 hb5_6 (hM5_6 : Mem w w5_6 [some gr] [[⟨.slice (bl b5_6) 1 1, 34, 3, 1, [I (0), I (0), I (0)]⟩], [⟨.slice (bl gr) 1 1, 81, 2, 1, [.slice (rA) ((rl).length) (rc), I ((((q + 1) + 1 : Nat) : Int))]⟩], [⟨.slice (bl b5_1) (4) (4), 3, 1, 4, ([1, 1, 2, 3]).map I⟩], [⟨.slice (bl b2_1) (7) (7), 3, 1, 7, ([6, 10, 14, 4, 24, 0, 25]).map I⟩], [⟨.slice (A2) ((L).length) (c2), 34, 3, ((L).length), (L).flatMap encG⟩]]) => ?_)
    refine O.mstore (vs := [I (k5_2), I (k5_4), I (0)]) (xs' := [I (k5_2), I (k5_4), I (0)]) 0 0 hM5_6 rfl rfl rfl el34 rfl rfl rfl rfl rfl (by simp) (by simp) rfl rfl (fun w5_7 (hM5_7 : Mem w w5_7 [some gr] [[⟨.slice (bl b5_6) 1 1, 34, 3, 1, [I (k5_2), I (k5_4), I (0)]⟩], [⟨.slice (bl gr) 1 1, 81, 2, 1, [.slice (rA) ((rl).length) (rc), I ((((q + 1) + 1 : Nat) : Int))]⟩], [⟨.slice (bl b5_1) (4) (4), 3, 1, 4, ([1, 1, 2, 3]).map I⟩], [⟨.slice (bl b2_1) (7) (7), 3, 1, 7, ([6, 10, 14, 4, 24, 0, 25]).map I⟩], [⟨.slice (A2) ((L).length) (c2), 34, 3, ((L).length), (L).flatMap encG⟩]]) => ?_)
    refine O.nil ?_
    refine C.seq ?_
    refine C.seq ?_
    refine C.region ?_
    refine O.val (v := .pointer (ofs (bl b5_6) (0))) rfl (Ru.fieldA fl34_0 rfl rfl) rfl ?_
    refine O.val rfl (Ru.load1 el3 rfl ((hM5_7.rd 0 rfl).ld rfl)) rfl ?_
    refine O.val (v := .bool (decide (k5_2 = 1))) rfl (Ru.eql rfl rfl) rfl ?_
    refine O.nil ?_
    refine C.cond (p := k5_2 = 1) rfl (fun c22 => ?_) (fun c22 => ?_)
    · refine C.region ?_
      refine O.val (v := .pointer (ofs (bl gr) (0))) rfl (Ru.move rfl) rfl ?_
      have hMf7_1 : Mem w w5_7 [some gr] [[⟨.slice (bl gr) 1 1, 81, 2, 1, [.slice (rA) ((rl).length) (rc), I ((((q + 1) + 1 : Nat) : Int))]⟩], [⟨.slice (bl b5_6) 1 1, 34, 3, 1, [I (k5_2), I (k5_4), I (0)]⟩], [⟨.slice (bl b5_1) (4) (4), 3, 1, 4, ([1, 1, 2, 3]).map I⟩], [⟨.slice (bl b2_1) (7) (7), 3, 1, 7, ([6, 10, 14, 4, 24, 0, 25]).map I⟩], [⟨.slice (A2) ((L).length) (c2), 34, 3, ((L).length), (L).flatMap encG⟩]] := hM5_7.pick [1, 0, 2, 3, 4] (by decide) rfl
      refine O.callg [.pointer (ofs (bl gr) (0)), I (100)] rfl en53 rfl rfl (pick_fn gr rA rc rl ((q + 1) + 1) 100 w5_7 (hrA.atR hMf7_1 hro) hro hrl (Mem.focus (Ma := [[⟨.slice (bl gr) 1 1, 81, 2, 1, [.slice (rA) ((rl).length) (rc), I ((((q + 1) + 1 : Nat) : Int))]⟩]]) (rest := [[⟨.slice (bl b5_6) 1 1, 34, 3, 1, [I (k5_2), I (k5_4), I (0)]⟩], [⟨.slice (bl b5_1) (4) (4), 3, 1, 4, ([1, 1, 2, 3]).map I⟩], [⟨.slice (bl b2_1) (7) (7), 3, 1, 7, ([6, 10, 14, 4, 24, 0, 25]).map I⟩], [⟨.slice (A2) ((L).length) (c2), 34, 3, ((L).length), (L).flatMap encG⟩]]) hMf7_1 rfl) (by first | omega | assumption | (simp; omega) | simp | (intros; omega))) ?_
      rintro _ w7_1 ⟨k7_1, rfl, hk7_1, hR7_1⟩
      have hM7_1 : Mem w w7_1 [some gr] [[⟨.slice (bl gr) 1 1, 81, 2, 1, [.slice (rA) ((rl).length) (rc), I (((((q + 1) + 1) + 1 : Nat) : Int))]⟩], [⟨.slice (bl b5_6) 1 1, 34, 3, 1, [I (k5_2), I (k5_4), I (0)]⟩], [⟨.slice (bl b5_1) (4) (4), 3, 1, 4, ([1, 1, 2, 3]).map I⟩], [⟨.slice (bl b2_1) (7) (7), 3, 1, 7, ([6, 10, 14, 4, 24, 0, 25]).map I⟩], [⟨.slice (A2) ((L).length) (c2), 34, 3, ((L).length), (L).flatMap encG⟩]] := Mem.call (Ma := [[⟨.slice (bl gr) 1 1, 81, 2, 1, [.slice (rA) ((rl).length) (rc), I ((((q + 1) + 1 : Nat) : Int))]⟩]]) hMf7_1 hR7_1 rfl
      refine O.val (v := .pointer (ofs (bl b5_6) (2))) rfl (Ru.fieldA fl34_2 rfl rfl) rfl ?_
      refine O.mstore (vs := [I (k7_1)]) (xs' := [I (k5_2), I (k5_4), I (k7_1)]) 1 0 hM7_1 rfl rfl rfl el3 rfl rfl rfl rfl rfl (by simp) (by simp) rfl rfl (fun w7_3 (hM7_3 : Mem w w7_3 [some gr] [[⟨.slice (bl gr) 1 1, 81, 2, 1, [.slice (rA) ((rl).length) (rc), I (((((q + 1) + 1) + 1 : Nat) : Int))]⟩], [⟨.slice (bl b5_6) 1 1, 34, 3, 1, [I (k5_2), I (k5_4), I (k7_1)]⟩], [⟨.slice (bl b5_1) (4) (4), 3, 1, 4, ([1, 1, 2, 3]).map I⟩], [⟨.slice (bl b2_1) (7) (7), 3, 1, 7, ([6, 10, 14, 4, 24, 0, 25]).map I⟩], [⟨.slice (A2) ((L).length) (c2), 34, 3, ((L).length), (L).flatMap encG⟩]]) => ?_)
      refine O.nil ?_
      refine C.seq ?_
      refine C.seq ?_
      refine C.region ?_
      refine O.val (v := .pointer (ofs (bl b5_6) (0))) rfl (Ru.fieldA fl34_0 rfl rfl) rfl ?_
      refine O.val rfl (Ru.load1 el3 rfl ((hM7_3.rd 1 rfl).ld rfl)) rfl ?_
      refine O.val (v := .bool (decide (k5_2 = 3))) rfl (Ru.eql rfl rfl) rfl ?_
      refine O.nil ?_
      refine C.cond (p := k5_2 = 3) rfl (fun c28 => ?_) (fun c28 => ?_)
      · refine C.region ?_
        refine O.val (v := .pointer (ofs (bl b5_6) (1))) rfl (Ru.fieldA fl34_1 rfl rfl) rfl ?_
        refine O.mstore (vs := [I (0)]) (xs' := [I (k5_2), I (0), I (k7_1)]) 1 0 hM7_3 rfl rfl rfl el3 rfl rfl rfl rfl rfl (by simp) (by simp) rfl rfl (fun w9_1 (hM9_1 : Mem w w9_1 [some gr] [[⟨.slice (bl gr) 1 1, 81, 2, 1, [.slice (rA) ((rl).length) (rc), I (((((q + 1) + 1) + 1 : Nat) : Int))]⟩], [⟨.slice (bl b5_6) 1 1, 34, 3, 1, [I (k5_2), I (0), I (k7_1)]⟩], [⟨.slice (bl b5_1) (4) (4), 3, 1, 4, ([1, 1, 2, 3]).map I⟩], [⟨.slice (bl b2_1) (7) (7), 3, 1, 7, ([6, 10, 14, 4, 24, 0, 25]).map I⟩], [⟨.slice (A2) ((L).length) (c2), 34, 3, ((L).length), (L).flatMap encG⟩]]) => ?_)
        refine O.nil ?_
        refine C.region ?_
        refine O.val (v := .slice (A2) ((L).length) (c2)) rfl (Ru.move rfl) rfl ?_
        refine O.val rfl (Ru.loadN (vs := [I (k5_2), I (0), I (k7_1)]) el34 rfl rfl rfl ((mem_blk (i := 1) (j := 0) hM9_1 rfl rfl).lds (k := 0) rfl)) rfl ?_
        refine O.mlit (sz := 3) (cs := [I (k5_2), I (0), I (k7_1)]) hM9_1 rfl Try.underlying23 el34 rfl rfl rfl (by kernel_rfl) (by kernel_rfl) rfl rfl (fun w10_2 b10_2 hb10_2 (hM10_2 : Mem w w10_2 [some gr] [[⟨.slice (bl b10_2) (1) (1), 34, 3, 1, ([(⟨k5_2, 0, k7_1⟩ : RecT)]).flatMap encG⟩], [⟨.slice (bl gr) 1 1, 81, 2, 1, [.slice (rA) ((rl).length) (rc), I (((((q + 1) + 1) + 1 : Nat) : Int))]⟩], [⟨.slice (bl b5_6) 1 1, 34, 3, 1, [I (k5_2), I (0), I (k7_1)]⟩], [⟨.slice (bl b5_1) (4) (4), 3, 1, 4, ([1, 1, 2, 3]).map I⟩], [⟨.slice (bl b2_1) (7) (7), 3, 1, 7, ([6, 10, 14, 4, 24, 0, 25]).map I⟩], [⟨.slice (A2) ((L).length) (c2), 34, 3, ((L).length), (L).flatMap encG⟩]]) => ?_)
        refine O.mappend (sz := 3) (news := ([(⟨k5_2, 0, k7_1⟩ : RecT)]).flatMap encG) (m1 := (L ++ [(⟨k5_2, 0, k7_1⟩ : RecT)]).length) (xs1 := (L ++ [(⟨k5_2, 0, k7_1⟩ : RecT)]).flatMap encG) (M' := fun A10_3 c10_3 => [[⟨.slice (bl b10_2) (1) (1), 34, 3, 1, ([(⟨k5_2, 0, k7_1⟩ : RecT)]).flatMap encG⟩], [⟨.slice (bl gr) 1 1, 81, 2, 1, [.slice (rA) ((rl).length) (rc), I (((((q + 1) + 1) + 1 : Nat) : Int))]⟩], [⟨.slice (bl b5_6) 1 1, 34, 3, 1, [I (k5_2), I (0), I (k7_1)]⟩], [⟨.slice (bl b5_1) (4) (4), 3, 1, 4, ([1, 1, 2, 3]).map I⟩], [⟨.slice (bl b2_1) (7) (7), 3, 1, 7, ([6, 10, 14, 4, 24, 0, 25]).map I⟩], [⟨.slice (A10_3) ((L ++ [(⟨k5_2, 0, k7_1⟩ : RecT)]).length) (c10_3), 34, 3, ((L ++ [(⟨k5_2, 0, k7_1⟩ : RecT)]).length), (L ++ [(⟨k5_2, 0, k7_1⟩ : RecT)]).flatMap encG⟩]]) 5 0 hM10_2 rfl rfl rfl Try.underlying23 el34 ⟨rfl, by decide⟩ rfl rfl rfl (hM10_2.rd 0 rfl) (by rw [flat_len encG_len]; first | done | (simp; done) | (simp; omega)) (all_flat_one (fun _ => rfl) _) (by first | omega | (simp; omega)) (by first | omega | (simp; omega)) (by first | (simp; done) | (simp; omega)) (by simp) (fun _ _ => rfl) (fun w10_3 A10_3 c10_3 hc10_3 hM10_3 => ?_)
        try dsimp only at hM10_3
        refine O.val (v := .slice (A10_3) ((L ++ [(⟨k5_2, 0, k7_1⟩ : RecT)]).length) (c10_3)) rfl (Ru.assign rfl) rfl ?_
        refine O.nil ?_
        refine C.region ?_
        refine O.val (v := I (k)) rfl (Ru.move rfl) rfl ?_
        refine O.val (v := I ((k - 1))) rfl (Ru.sub rfl rfl (by omega)) rfl ?_
        refine O.val (v := I ((k - 1))) rfl (Ru.assign rfl) rfl ?_
        refine O.nil ?_
        have hq2 : (L ++ [(⟨k5_2, 0, k7_1⟩ : RecT)] : List RecT) = (L ++ [(⟨k5_2, 0, k7_1⟩ : RecT)]) := (by first | rfl | simp | (simp; omega))
        have hMn2 : Mem w w10_3 [some gr] [[⟨.slice (bl b10_2) (1) (1), 34, 3, 1, ([(⟨k5_2, 0, k7_1⟩ : RecT)]).flatMap encG⟩], [⟨.slice (bl gr) 1 1, 81, 2, 1, [.slice (rA) ((rl).length) (rc), I (((((q + 1) + 1) + 1 : Nat) : Int))]⟩], [⟨.slice (bl b5_6) 1 1, 34, 3, 1, [I (k5_2), I (0), I (k7_1)]⟩], [⟨.slice (bl b5_1) (4) (4), 3, 1, 4, ([1, 1, 2, 3]).map I⟩], [⟨.slice (bl b2_1) (7) (7), 3, 1, 7, ([6, 10, 14, 4, 24, 0, 25]).map I⟩], [⟨.slice (A10_3) (((L ++ [(⟨k5_2, 0, k7_1⟩ : RecT)])).length) (c10_3), 34, 3, (((L ++ [(⟨k5_2, 0, k7_1⟩ : RecT)])).length), ((L ++ [(⟨k5_2, 0, k7_1⟩ : RecT)])).flatMap encG⟩]] := hM10_3.relen 5 (n' := ((L ++ [(⟨k5_2, 0, k7_1⟩ : RecT)])).length) (xs' := ((L ++ [(⟨k5_2, 0, k7_1⟩ : RecT)])).flatMap encG) rfl (by first | rfl | exact congrArg List.length hq2 | (have hqq := congrArg List.length hq2; first | omega | (simp at hqq ⊢; omega)) | (simp; done) | (simp; omega)) (congrArg (fun z_ => (z_).flatMap encG) hq2) rfl
        simp only [blkQ]
        exact loopEnd (k - 1, L ++ [(⟨k5_2, 0, k7_1⟩ : RecT)], A10_3, c10_3, (((q + 1) + 1) + 1)) (by (try dsimp only); omega) (Has.cons rfl (Has.cons rfl (Has.cons (I_congr (by first | rfl | omega | (simp; omega) | simp)) Has.nil))) ⟨(by (try dsimp only); omega), (by (try dsimp only); omega), (by (try dsimp only); first | omega | (simp; omega) | (have h9 := put_len (l := L) (x := ⟨k5_2, k5_4⟩); omega)), (hMn2.pick [1, 4, 5] (by decide) rfl)⟩
      · refine C.skip ?_
        refine C.region ?_
        refine O.val (v := .slice (A2) ((L).length) (c2)) rfl (Ru.move rfl) rfl ?_
        refine O.val rfl (Ru.loadN (vs := [I (k5_2), I (k5_4), I (k7_1)]) el34 rfl rfl rfl ((mem_blk (i := 1) (j := 0) hM7_3 rfl rfl).lds (k := 0) rfl)) rfl ?_
        refine O.mlit (sz := 3) (cs := [I (k5_2), I (k5_4), I (k7_1)]) hM7_3 rfl Try.underlying23 el34 rfl rfl rfl (by kernel_rfl) (by kernel_rfl) rfl rfl (fun w10_2 b10_2 hb10_2 (hM10_2 : Mem w w10_2 [some gr] [[⟨.slice (bl b10_2) (1) (1), 34, 3, 1, ([(⟨k5_2, k5_4, k7_1⟩ : RecT)]).flatMap encG⟩], [⟨.slice (bl gr) 1 1, 81, 2, 1, [.slice (rA) ((rl).length) (rc), I (((((q + 1) + 1) + 1 : Nat) : Int))]⟩], [⟨.slice (bl b5_6) 1 1, 34, 3, 1, [I (k5_2), I (k5_4), I (k7_1)]⟩], [⟨.slice (bl b5_1) (4) (4), 3, 1, 4, ([1, 1, 2, 3]).map I⟩], [⟨.slice (bl b2_1) (7) (7), 3, 1, 7, ([6, 10, 14, 4, 24, 0, 25]).map I⟩], [⟨.slice (A2) ((L).length) (c2), 34, 3, ((L).length), (L).flatMap encG⟩]]) => ?_)
        refine O.mappend (sz := 3) (news := ([(⟨k5_2, k5_4, k7_1⟩ : RecT)]).flatMap encG) (m1 := (L ++ [(⟨k5_2, k5_4, k7_1⟩ : RecT)]).length) (xs1 := (L ++ [(⟨k5_2, k5_4, k7_1⟩ : RecT)]).flatMap encG) (M' := fun A10_3 c10_3 => [[⟨.slice (bl b10_2) (1) (1), 34, 3, 1, ([(⟨k5_2, k5_4, k7_1⟩ : RecT)]).flatMap encG⟩], [⟨.slice (bl gr) 1 1, 81, 2, 1, [.slice (rA) ((rl).length) (rc), I (((((q + 1) + 1) + 1 : Nat) : Int))]⟩], [⟨.slice (bl b5_6) 1 1, 34, 3, 1, [I (k5_2), I (k5_4), I (k7_1)]⟩], [⟨.slice (bl b5_1) (4) (4), 3, 1, 4, ([1, 1, 2, 3]).map I⟩], [⟨.slice (bl b2_1) (7) (7), 3, 1, 7, ([6, 10, 14, 4, 24, 0, 25]).map I⟩], [⟨.slice (A10_3) ((L ++ [(⟨k5_2, k5_4, k7_1⟩ : RecT)]).length) (c10_3), 34, 3, ((L ++ [(⟨k5_2, k5_4, k7_1⟩ : RecT)]).length), (L ++ [(⟨k5_2, k5_4, k7_1⟩ : RecT)]).flatMap encG⟩]]) 5 0 hM10_2 rfl rfl rfl Try.underlying23 el34 ⟨rfl, by decide⟩ rfl rfl rfl (hM10_2.rd 0 rfl) (by rw [flat_len encG_len]; first | done | (simp; done) | (simp; omega)) (all_flat_one (fun _ => rfl) _) (by first | omega | (simp; omega)) (by first | omega | (simp; omega)) (by first | (simp; done) | (simp; omega)) (by simp) (fun _ _ => rfl) (fun w10_3 A10_3 c10_3 hc10_3 hM10_3 => ?_)
        try dsimp only at hM10_3
        refine O.val (v := .slice (A10_3) ((L ++ [(⟨k5_2, k5_4, k7_1⟩ : RecT)]).length) (c10_3)) rfl (Ru.assign rfl) rfl ?_
        refine O.nil ?_
        refine C.region ?_
        refine O.val (v := I (k)) rfl (Ru.move rfl) rfl ?_
        refine O.val (v := I ((k - 1))) rfl (Ru.sub rfl rfl (by omega)) rfl ?_
        refine O.val (v := I ((k - 1))) rfl (Ru.assign rfl) rfl ?_
        refine O.nil ?_
        have hq3 : (L ++ [(⟨k5_2, k5_4, k7_1⟩ : RecT)] : List RecT) = (L ++ [(⟨k5_2, k5_4, k7_1⟩ : RecT)]) := (by first | rfl | simp | (simp; omega))
        have hMn3 : Mem w w10_3 [some gr] [[⟨.slice (bl b10_2) (1) (1), 34, 3, 1, ([(⟨k5_2, k5_4, k7_1⟩ : RecT)]).flatMap encG⟩], [⟨.slice (bl gr) 1 1, 81, 2, 1, [.slice (rA) ((rl).length) (rc), I (((((q + 1) + 1) + 1 : Nat) : Int))]⟩], [⟨.slice (bl b5_6) 1 1, 34, 3, 1, [I (k5_2), I (k5_4), I (k7_1)]⟩], [⟨.slice (bl b5_1) (4) (4), 3, 1, 4, ([1, 1, 2, 3]).map I⟩], [⟨.slice (bl b2_1) (7) (7), 3, 1, 7, ([6, 10, 14, 4, 24, 0, 25]).map I⟩], [⟨.slice (A10_3) (((L ++ [(⟨k5_2, k5_4, k7_1⟩ : RecT)])).length) (c10_3), 34, 3, (((L ++ [(⟨k5_2, k5_4, k7_1⟩ : RecT)])).length), ((L ++ [(⟨k5_2, k5_4, k7_1⟩ : RecT)])).flatMap encG⟩]] := hM10_3.relen 5 (n' := ((L ++ [(⟨k5_2, k5_4, k7_1⟩ : RecT)])).length) (xs' := ((L ++ [(⟨k5_2, k5_4, k7_1⟩ : RecT)])).flatMap encG) rfl (by first | rfl | exact congrArg List.length hq3 | (have hqq := congrArg List.length hq3; first | omega | (simp at hqq ⊢; omega)) | (simp; done) | (simp; omega)) (congrArg (fun z_ => (z_).flatMap encG) hq3) rfl
        simp only [blkQ]
        exact loopEnd (k - 1, L ++ [(⟨k5_2, k5_4, k7_1⟩ : RecT)], A10_3, c10_3, (((q + 1) + 1) + 1)) (by (try dsimp only); omega) (Has.cons rfl (Has.cons rfl (Has.cons (I_congr (by first | rfl | omega | (simp; omega) | simp)) Has.nil))) ⟨(by (try dsimp only); omega), (by (try dsimp only); omega), (by (try dsimp only); first | omega | (simp; omega) | (have h9 := put_len (l := L) (x := ⟨k5_2, k5_4⟩); omega)), (hMn3.pick [1, 4, 5] (by decide) rfl)⟩
    · refine C.skip ?_
      refine C.seq ?_
      refine C.seq ?_
      refine C.region ?_
      refine O.val (v := .pointer (ofs (bl b5_6) (0))) rfl (Ru.fieldA fl34_0 rfl rfl) rfl ?_
      refine O.val rfl (Ru.load1 el3 rfl ((hM5_7.rd 0 rfl).ld rfl)) rfl ?_
      refine O.val (v := .bool (decide (k5_2 = 3))) rfl (Ru.eql rfl rfl) rfl ?_
      refine O.nil ?_
      refine C.cond (p := k5_2 = 3) rfl (fun c28 => ?_) (fun c28 => ?_)
      · refine C.region ?_
        refine O.val (v := .pointer (ofs (bl b5_6) (1))) rfl (Ru.fieldA fl34_1 rfl rfl) rfl ?_
        refine O.mstore (vs := [I (0)]) (xs' := [I (k5_2), I (0), I (0)]) 0 0 hM5_7 rfl rfl rfl el3 rfl rfl rfl rfl rfl (by simp) (by simp) rfl rfl (fun w9_1 (hM9_1 : Mem w w9_1 [some gr] [[⟨.slice (bl b5_6) 1 1, 34, 3, 1, [I (k5_2), I (0), I (0)]⟩], [⟨.slice (bl gr) 1 1, 81, 2, 1, [.slice (rA) ((rl).length) (rc), I ((((q + 1) + 1 : Nat) : Int))]⟩], [⟨.slice (bl b5_1) (4) (4), 3, 1, 4, ([1, 1, 2, 3]).map I⟩], [⟨.slice (bl b2_1) (7) (7), 3, 1, 7, ([6, 10, 14, 4, 24, 0, 25]).map I⟩], [⟨.slice (A2) ((L).length) (c2), 34, 3, ((L).length), (L).flatMap encG⟩]]) => ?_)
        refine O.nil ?_
        refine C.region ?_
        refine O.val (v := .slice (A2) ((L).length) (c2)) rfl (Ru.move rfl) rfl ?_
        refine O.val rfl (Ru.loadN (vs := [I (k5_2), I (0), I (0)]) el34 rfl rfl rfl ((mem_blk (i := 0) (j := 0) hM9_1 rfl rfl).lds (k := 0) rfl)) rfl ?_
        refine O.mlit (sz := 3) (cs := [I (k5_2), I (0), I (0)]) hM9_1 rfl Try.underlying23 el34 rfl rfl rfl (by kernel_rfl) (by kernel_rfl) rfl rfl (fun w10_2 b10_2 hb10_2 (hM10_2 : Mem w w10_2 [some gr] [[⟨.slice (bl b10_2) (1) (1), 34, 3, 1, ([(⟨k5_2, 0, 0⟩ : RecT)]).flatMap encG⟩], [⟨.slice (bl b5_6) 1 1, 34, 3, 1, [I (k5_2), I (0), I (0)]⟩], [⟨.slice (bl gr) 1 1, 81, 2, 1, [.slice (rA) ((rl).length) (rc), I ((((q + 1) + 1 : Nat) : Int))]⟩], [⟨.slice (bl b5_1) (4) (4), 3, 1, 4, ([1, 1, 2, 3]).map I⟩], [⟨.slice (bl b2_1) (7) (7), 3, 1, 7, ([6, 10, 14, 4, 24, 0, 25]).map I⟩], [⟨.slice (A2) ((L).length) (c2), 34, 3, ((L).length), (L).flatMap encG⟩]]) => ?_)
        refine O.mappend (sz := 3) (news := ([(⟨k5_2, 0, 0⟩ : RecT)]).flatMap encG) (m1 := (L ++ [(⟨k5_2, 0, 0⟩ : RecT)]).length) (xs1 := (L ++ [(⟨k5_2, 0, 0⟩ : RecT)]).flatMap encG) (M' := fun A10_3 c10_3 => [[⟨.slice (bl b10_2) (1) (1), 34, 3, 1, ([(⟨k5_2, 0, 0⟩ : RecT)]).flatMap encG⟩], [⟨.slice (bl b5_6) 1 1, 34, 3, 1, [I (k5_2), I (0), I (0)]⟩], [⟨.slice (bl gr) 1 1, 81, 2, 1, [.slice (rA) ((rl).length) (rc), I ((((q + 1) + 1 : Nat) : Int))]⟩], [⟨.slice (bl b5_1) (4) (4), 3, 1, 4, ([1, 1, 2, 3]).map I⟩], [⟨.slice (bl b2_1) (7) (7), 3, 1, 7, ([6, 10, 14, 4, 24, 0, 25]).map I⟩], [⟨.slice (A10_3) ((L ++ [(⟨k5_2, 0, 0⟩ : RecT)]).length) (c10_3), 34, 3, ((L ++ [(⟨k5_2, 0, 0⟩ : RecT)]).length), (L ++ [(⟨k5_2, 0, 0⟩ : RecT)]).flatMap encG⟩]]) 5 0 hM10_2 rfl rfl rfl Try.underlying23 el34 ⟨rfl, by decide⟩ rfl rfl rfl (hM10_2.rd 0 rfl) (by rw [flat_len encG_len]; first | done | (simp; done) | (simp; omega)) (all_flat_one (fun _ => rfl) _) (by first | omega | (simp; omega)) (by first | omega | (simp; omega)) (by first | (simp; done) | (simp; omega)) (by simp) (fun _ _ => rfl) (fun w10_3 A10_3 c10_3 hc10_3 hM10_3 => ?_)
        try dsimp only at hM10_3
        refine O.val (v := .slice (A10_3) ((L ++ [(⟨k5_2, 0, 0⟩ : RecT)]).length) (c10_3)) rfl (Ru.assign rfl) rfl ?_
        refine O.nil ?_
        refine C.region ?_
        refine O.val (v := I (k)) rfl (Ru.move rfl) rfl ?_
        refine O.val (v := I ((k - 1))) rfl (Ru.sub rfl rfl (by omega)) rfl ?_
        refine O.val (v := I ((k - 1))) rfl (Ru.assign rfl) rfl ?_
        refine O.nil ?_
        have hq4 : (L ++ [(⟨k5_2, 0, 0⟩ : RecT)] : List RecT) = (L ++ [(⟨k5_2, 0, 0⟩ : RecT)]) := (by first | rfl | simp | (simp; omega))
        have hMn4 : Mem w w10_3 [some gr] [[⟨.slice (bl b10_2) (1) (1), 34, 3, 1, ([(⟨k5_2, 0, 0⟩ : RecT)]).flatMap encG⟩], [⟨.slice (bl b5_6) 1 1, 34, 3, 1, [I (k5_2), I (0), I (0)]⟩], [⟨.slice (bl gr) 1 1, 81, 2, 1, [.slice (rA) ((rl).length) (rc), I ((((q + 1) + 1 : Nat) : Int))]⟩], [⟨.slice (bl b5_1) (4) (4), 3, 1, 4, ([1, 1, 2, 3]).map I⟩], [⟨.slice (bl b2_1) (7) (7), 3, 1, 7, ([6, 10, 14, 4, 24, 0, 25]).map I⟩], [⟨.slice (A10_3) (((L ++ [(⟨k5_2, 0, 0⟩ : RecT)])).length) (c10_3), 34, 3, (((L ++ [(⟨k5_2, 0, 0⟩ : RecT)])).length), ((L ++ [(⟨k5_2, 0, 0⟩ : RecT)])).flatMap encG⟩]] := hM10_3.relen 5 (n' := ((L ++ [(⟨k5_2, 0, 0⟩ : RecT)])).length) (xs' := ((L ++ [(⟨k5_2, 0, 0⟩ : RecT)])).flatMap encG) rfl (by first | rfl | exact congrArg List.length hq4 | (have hqq := congrArg List.length hq4; first | omega | (simp at hqq ⊢; omega)) | (simp; done) | (simp; omega)) (congrArg (fun z_ => (z_).flatMap encG) hq4) rfl
        simp only [blkQ]
        exact loopEnd (k - 1, L ++ [(⟨k5_2, 0, 0⟩ : RecT)], A10_3, c10_3, ((q + 1) + 1)) (by (try dsimp only); omega) (Has.cons rfl (Has.cons rfl (Has.cons (I_congr (by first | rfl | omega | (simp; omega) | simp)) Has.nil))) ⟨(by (try dsimp only); omega), (by (try dsimp only); omega), (by (try dsimp only); first | omega | (simp; omega) | (have h9 := put_len (l := L) (x := ⟨k5_2, k5_4⟩); omega)), (hMn4.pick [2, 4, 5] (by decide) rfl)⟩
      · refine C.skip ?_
        refine C.region ?_
        refine O.val (v := .slice (A2) ((L).length) (c2)) rfl (Ru.move rfl) rfl ?_
        refine O.val rfl (Ru.loadN (vs := [I (k5_2), I (k5_4), I (0)]) el34 rfl rfl rfl ((mem_blk (i := 0) (j := 0) hM5_7 rfl rfl).lds (k := 0) rfl)) rfl ?_
        refine O.mlit (sz := 3) (cs := [I (k5_2), I (k5_4), I (0)]) hM5_7 rfl Try.underlying23 el34 rfl rfl rfl (by kernel_rfl) (by kernel_rfl) rfl rfl (fun w10_2 b10_2 hb10_2 (hM10_2 : Mem w w10_2 [some gr] [[⟨.slice (bl b10_2) (1) (1), 34, 3, 1, ([(⟨k5_2, k5_4, 0⟩ : RecT)]).flatMap encG⟩], [⟨.slice (bl b5_6) 1 1, 34, 3, 1, [I (k5_2), I (k5_4), I (0)]⟩], [⟨.slice (bl gr) 1 1, 81, 2, 1, [.slice (rA) ((rl).length) (rc), I ((((q + 1) + 1 : Nat) : Int))]⟩], [⟨.slice (bl b5_1) (4) (4), 3, 1, 4, ([1, 1, 2, 3]).map I⟩], [⟨.slice (bl b2_1) (7) (7), 3, 1, 7, ([6, 10, 14, 4, 24, 0, 25]).map I⟩], [⟨.slice (A2) ((L).length) (c2), 34, 3, ((L).length), (L).flatMap encG⟩]]) => ?_)
        refine O.mappend (sz := 3) (news := ([(⟨k5_2, k5_4, 0⟩ : RecT)]).flatMap encG) (m1 := (L ++ [(⟨k5_2, k5_4, 0⟩ : RecT)]).length) (xs1 := (L ++ [(⟨k5_2, k5_4, 0⟩ : RecT)]).flatMap encG) (M' := fun A10_3 c10_3 => [[⟨.slice (bl b10_2) (1) (1), 34, 3, 1, ([(⟨k5_2, k5_4, 0⟩ : RecT)]).flatMap encG⟩], [⟨.slice (bl b5_6) 1 1, 34, 3, 1, [I (k5_2), I (k5_4), I (0)]⟩], [⟨.slice (bl gr) 1 1, 81, 2, 1, [.slice (rA) ((rl).length) (rc), I ((((q + 1) + 1 : Nat) : Int))]⟩], [⟨.slice (bl b5_1) (4) (4), 3, 1, 4, ([1, 1, 2, 3]).map I⟩], [⟨.slice (bl b2_1) (7) (7), 3, 1, 7, ([6, 10, 14, 4, 24, 0, 25]).map I⟩], [⟨.slice (A10_3) ((L ++ [(⟨k5_2, k5_4, 0⟩ : RecT)]).length) (c10_3), 34, 3, ((L ++ [(⟨k5_2, k5_4, 0⟩ : RecT)]).length), (L ++ [(⟨k5_2, k5_4, 0⟩ : RecT)]).flatMap encG⟩]]) 5 0 hM10_2 rfl rfl rfl Try.underlying23 el34 ⟨rfl, by decide⟩ rfl rfl rfl (hM10_2.rd 0 rfl) (by rw [flat_len encG_len]; first | done | (simp; done) | (simp; omega)) (all_flat_one (fun _ => rfl) _) (by first | omega | (simp; omega)) (by first | omega | (simp; omega)) (by first | (simp; done) | (simp; omega)) (by simp) (fun _ _ => rfl) (fun w10_3 A10_3 c10_3 hc10_3 hM10_3 => ?_)
        try dsimp only at hM10_3
        refine O.val (v := .slice (A10_3) ((L ++ [(⟨k5_2, k5_4, 0⟩ : RecT)]).length) (c10_3)) rfl (Ru.assign rfl) rfl ?_
        refine O.nil ?_
        refine C.region ?_
        refine O.val (v := I (k)) rfl (Ru.move rfl) rfl ?_
        refine O.val (v := I ((k - 1))) rfl (Ru.sub rfl rfl (by omega)) rfl ?_
        refine O.val (v := I ((k - 1))) rfl (Ru.assign rfl) rfl ?_
        refine O.nil ?_
        have hq5 : (L ++ [(⟨k5_2, k5_4, 0⟩ : RecT)] : List RecT) = (L ++ [(⟨k5_2, k5_4, 0⟩ : RecT)]) := (by first | rfl | simp | (simp; omega))
        have hMn5 : Mem w w10_3 [some gr] [[⟨.slice (bl b10_2) (1) (1), 34, 3, 1, ([(⟨k5_2, k5_4, 0⟩ : RecT)]).flatMap encG⟩], [⟨.slice (bl b5_6) 1 1, 34, 3, 1, [I (k5_2), I (k5_4), I (0)]⟩], [⟨.slice (bl gr) 1 1, 81, 2, 1, [.slice (rA) ((rl).length) (rc), I ((((q + 1) + 1 : Nat) : Int))]⟩], [⟨.slice (bl b5_1) (4) (4), 3, 1, 4, ([1, 1, 2, 3]).map I⟩], [⟨.slice (bl b2_1) (7) (7), 3, 1, 7, ([6, 10, 14, 4, 24, 0, 25]).map I⟩], [⟨.slice (A10_3) (((L ++ [(⟨k5_2, k5_4, 0⟩ : RecT)])).length) (c10_3), 34, 3, (((L ++ [(⟨k5_2, k5_4, 0⟩ : RecT)])).length), ((L ++ [(⟨k5_2, k5_4, 0⟩ : RecT)])).flatMap encG⟩]] := hM10_3.relen 5 (n' := ((L ++ [(⟨k5_2, k5_4, 0⟩ : RecT)])).length) (xs' := ((L ++ [(⟨k5_2, k5_4, 0⟩ : RecT)])).flatMap encG) rfl (by first | rfl | exact congrArg List.length hq5 | (have hqq := congrArg List.length hq5; first | omega | (simp at hqq ⊢; omega)) | (simp; done) | (simp; omega)) (congrArg (fun z_ => (z_).flatMap encG) hq5) rfl
        simp only [blkQ]
        exact loopEnd (k - 1, L ++ [(⟨k5_2, k5_4, 0⟩ : RecT)], A10_3, c10_3, ((q + 1) + 1)) (by (try dsimp only); omega) (Has.cons rfl (Has.cons rfl (Has.cons (I_congr (by first | rfl | omega | (simp; omega) | simp)) Has.nil))) ⟨(by (try dsimp only); omega), (by (try dsimp only); omega), (by (try dsimp only); first | omega | (simp; omega) | (have h9 := put_len (l := L) (x := ⟨k5_2, k5_4⟩); omega)), (hMn5.pick [2, 4, 5] (by decide) rfl)⟩
  · have hkz : k = 0 := by omega
    refine C.exit ?_
    refine C.seq ?_
    refine C.seq ?_
    refine C.region ?_
    refine O.val (v := .slice (A2) ((L).length) (c2)) rfl (Ru.move rfl) rfl ?_
    refine O.val (v := I ((((L).length : Nat) : Int))) rfl (Ru.blenSlice Try.underlying23 rfl) rfl ?_
    refine O.val (v := .bool (decide ((((L).length : Nat) : Int) > 0))) rfl (Ru.gtr rfl rfl) rfl ?_
    refine O.val (v := .bool (decide ((((L).length : Nat) : Int) > 0))) rfl (Ru.move rfl) rfl ?_
    refine O.partp 37 ((((L).length : Nat) : Int) > 0) rfl (fun g37 => ?_) (fun g37 => ?_)
    · refine O.val (v := .pointer (ofs (bl gr) (0))) rfl (Ru.move rfl) rfl ?_
      refine O.callg [.pointer (ofs (bl gr) (0)), I (16)] rfl en53 rfl rfl (pick_fn gr rA rc rl q 16 w_l3 (hrA.atR hM_l3 hro) hro hrl (Mem.focus (Ma := [[⟨.slice (bl gr) 1 1, 81, 2, 1, [.slice (rA) ((rl).length) (rc), I (((q : Nat) : Int))]⟩]]) (rest := [[⟨.slice (bl b2_1) (7) (7), 3, 1, 7, ([6, 10, 14, 4, 24, 0, 25]).map I⟩], [⟨.slice (A2) ((L).length) (c2), 34, 3, ((L).length), (L).flatMap encG⟩]]) hM_l3 rfl) (by first | omega | assumption | (simp; omega) | simp | (intros; omega))) ?_
      rintro _ w11_5 ⟨k11_5, rfl, hk11_5, hR11_5⟩
      have hM11_5 : Mem w w11_5 [some gr] [[⟨.slice (bl gr) 1 1, 81, 2, 1, [.slice (rA) ((rl).length) (rc), I (((q + 1 : Nat) : Int))]⟩], [⟨.slice (bl b2_1) (7) (7), 3, 1, 7, ([6, 10, 14, 4, 24, 0, 25]).map I⟩], [⟨.slice (A2) ((L).length) (c2), 34, 3, ((L).length), (L).flatMap encG⟩]] := Mem.call (Ma := [[⟨.slice (bl gr) 1 1, 81, 2, 1, [.slice (rA) ((rl).length) (rc), I (((q : Nat) : Int))]⟩]]) hM_l3 hR11_5 rfl
      refine O.val (v := .bool (decide (k11_5 = 0))) rfl (Ru.eql rfl rfl) rfl ?_
      refine O.val (v := .bool (decide (k11_5 = 0))) rfl (Ru.pickT rfl rfl) rfl ?_
      refine O.nil ?_
      refine C.cond (p := k11_5 = 0) rfl (fun c41 => ?_) (fun c41 => ?_)
      · refine C.region ?_
        refine O.val (v := .slice (A2) ((L).length) (c2)) rfl (Ru.move rfl) rfl ?_
        refine O.val (v := .pointer (ofs (bl gr) (0))) rfl (Ru.move rfl) rfl ?_
        refine O.val (v := .slice (A2) ((L).length) (c2)) rfl (Ru.move rfl) rfl ?_
        refine O.val (v := I ((((L).length : Nat) : Int))) rfl (Ru.blenSlice Try.underlying23 rfl) rfl ?_
        refine O.callg [.pointer (ofs (bl gr) (0)), I ((((L).length : Nat) : Int))] rfl en53 rfl rfl (pick_fn gr rA rc rl (q + 1) (((L).length : Nat) : Int) w11_5 (hrA.atR hM11_5 hro) hro hrl (Mem.focus (Ma := [[⟨.slice (bl gr) 1 1, 81, 2, 1, [.slice (rA) ((rl).length) (rc), I (((q + 1 : Nat) : Int))]⟩]]) (rest := [[⟨.slice (bl b2_1) (7) (7), 3, 1, 7, ([6, 10, 14, 4, 24, 0, 25]).map I⟩], [⟨.slice (A2) ((L).length) (c2), 34, 3, ((L).length), (L).flatMap encG⟩]]) hM11_5 rfl) (by first | omega | assumption | (simp; omega) | simp | (intros; omega))) ?_
        rintro _ w12_4 ⟨k12_4, rfl, hk12_4, hR12_4⟩
        have hM12_4 : Mem w w12_4 [some gr] [[⟨.slice (bl gr) 1 1, 81, 2, 1, [.slice (rA) ((rl).length) (rc), I ((((q + 1) + 1 : Nat) : Int))]⟩], [⟨.slice (bl b2_1) (7) (7), 3, 1, 7, ([6, 10, 14, 4, 24, 0, 25]).map I⟩], [⟨.slice (A2) ((L).length) (c2), 34, 3, ((L).length), (L).flatMap encG⟩]] := Mem.call (Ma := [[⟨.slice (bl gr) 1 1, 81, 2, 1, [.slice (rA) ((rl).length) (rc), I (((q + 1 : Nat) : Int))]⟩]]) hM11_5 hR12_4 rfl
        refine O.val (v := .pointer (ofs (bl gr) (0))) rfl (Ru.move rfl) rfl ?_
        refine O.mlit (sz := 1) (cs := [I (0), I (4), I (2), I (3)]) hM12_4 rfl Try.underlying71 el3 rfl rfl rfl (by kernel_rfl) (by kernel_rfl) rfl rfl (fun w12_6 b12_6 hb12_6 (hM12_6 : Mem w w12_6 [some gr] [[⟨.slice (bl b12_6) (4) (4), 3, 1, 4, ([0, 4, 2, 3]).map I⟩], [⟨.slice (bl gr) 1 1, 81, 2, 1, [.slice (rA) ((rl).length) (rc), I ((((q + 1) + 1 : Nat) : Int))]⟩], [⟨.slice (bl b2_1) (7) (7), 3, 1, 7, ([6, 10, 14, 4, 24, 0, 25]).map I⟩], [⟨.slice (A2) ((L).length) (c2), 34, 3, ((L).length), (L).flatMap encG⟩]]) => ?_)
        have hMf12_7 : Mem w w12_6 [some gr] [[⟨.slice (bl gr) 1 1, 81, 2, 1, [.slice (rA) ((rl).length) (rc), I ((((q + 1) + 1 : Nat) : Int))]⟩], [⟨.slice (bl b12_6) (4) (4), 3, 1, 4, ([0, 4, 2, 3]).map I⟩], [⟨.slice (bl b2_1) (7) (7), 3, 1, 7, ([6, 10, 14, 4, 24, 0, 25]).map I⟩], [⟨.slice (A2) ((L).length) (c2), 34, 3, ((L).length), (L).flatMap encG⟩]] := hM12_6.pick [1, 0, 2, 3] (by decide) rfl
        refine O.callg [.pointer (ofs (bl gr) (0)), .slice (bl b12_6) (([0, 4, 2, 3]).length) (4)] rfl en68 (by first | rfl | (rw [show ([0, 4, 2, 3]).length = 4 from (by first | rfl | (simp; done) | omega | (simp; omega))]; rfl)) rfl (one_fn gr rA rc rl ((q + 1) + 1) (bl b12_6) 4 [0, 4, 2, 3] w12_6 (hrA.atR hMf12_7 hro) hro hrl (hMf12_7.rd 1 rfl) (Off.of_ng (hMf12_7.ng 1 0 (by decide) rfl rfl)) (Mem.focus (Ma := [[⟨.slice (bl gr) 1 1, 81, 2, 1, [.slice (rA) ((rl).length) (rc), I ((((q + 1) + 1 : Nat) : Int))]⟩]]) (rest := [[⟨.slice (bl b12_6) (4) (4), 3, 1, 4, ([0, 4, 2, 3]).map I⟩], [⟨.slice (bl b2_1) (7) (7), 3, 1, 7, ([6, 10, 14, 4, 24, 0, 25]).map I⟩], [⟨.slice (A2) ((L).length) (c2), 34, 3, ((L).length), (L).flatMap encG⟩]]) hMf12_7 rfl) (by first | omega | assumption | (simp; omega) | simp | (intros; omega)) (by simp) (by simp)) ?_
        rintro _ w12_7 ⟨k12_7, rfl, hk12_7, hR12_7⟩
        have hM12_7 : Mem w w12_7 [some gr] [[⟨.slice (bl gr) 1 1, 81, 2, 1, [.slice (rA) ((rl).length) (rc), I (((((q + 1) + 1) + 1 : Nat) : Int))]⟩], [⟨.slice (bl b12_6) (4) (4), 3, 1, 4, ([0, 4, 2, 3]).map I⟩], [⟨.slice (bl b2_1) (7) (7), 3, 1, 7, ([6, 10, 14, 4, 24, 0, 25]).map I⟩], [⟨.slice (A2) ((L).length) (c2), 34, 3, ((L).length), (L).flatMap encG⟩]] := Mem.call (Ma := [[⟨.slice (bl gr) 1 1, 81, 2, 1, [.slice (rA) ((rl).length) (rc), I ((((q + 1) + 1 : Nat) : Int))]⟩]]) hMf12_7 hR12_7 rfl
        refine O.val (v := .pointer (ofs (bl gr) (0))) rfl (Ru.move rfl) rfl ?_
        refine O.mlit (sz := 1) (cs := [I (100), I (5)]) hM12_7 rfl Try.underlying71 el3 rfl rfl rfl (by kernel_rfl) (by kernel_rfl) rfl rfl (fun w12_9 b12_9 hb12_9 (hM12_9 : Mem w w12_9 [some gr] [[⟨.slice (bl b12_9) (2) (2), 3, 1, 2, ([100, 5]).map I⟩], [⟨.slice (bl gr) 1 1, 81, 2, 1, [.slice (rA) ((rl).length) (rc), I (((((q + 1) + 1) + 1 : Nat) : Int))]⟩], [⟨.slice (bl b12_6) (4) (4), 3, 1, 4, ([0, 4, 2, 3]).map I⟩], [⟨.slice (bl b2_1) (7) (7), 3, 1, 7, ([6, 10, 14, 4, 24, 0, 25]).map I⟩], [⟨.slice (A2) ((L).length) (c2), 34, 3, ((L).length), (L).flatMap encG⟩]]) => ?_)
        have hMf12_10 : Mem w w12_9 [some gr] [[⟨.slice (bl gr) 1 1, 81, 2, 1, [.slice (rA) ((rl).length) (rc), I (((((q + 1) + 1) + 1 : Nat) : Int))]⟩], [⟨.slice (bl b12_9) (2) (2), 3, 1, 2, ([100, 5]).map I⟩], [⟨.slice (bl b12_6) (4) (4), 3, 1, 4, ([0, 4, 2, 3]).map I⟩], [⟨.slice (bl b2_1) (7) (7), 3, 1, 7, ([6, 10, 14, 4, 24, 0, 25]).map I⟩], [⟨.slice (A2) ((L).length) (c2), 34, 3, ((L).length), (L).flatMap encG⟩]] := hM12_9.pick [1, 0, 2, 3, 4] (by decide) rfl
        refine O.callg [.pointer (ofs (bl gr) (0)), .slice (bl b12_9) (([100, 5]).length) (2)] rfl en68 (by first | rfl | (rw [show ([100, 5]).length = 2 from (by first | rfl | (simp; done) | omega | (simp; omega))]; rfl)) rfl (one_fn gr rA rc rl (((q + 1) + 1) + 1) (bl b12_9) 2 [100, 5] w12_9 (hrA.atR hMf12_10 hro) hro hrl (hMf12_10.rd 1 rfl) (Off.of_ng (hMf12_10.ng 1 0 (by decide) rfl rfl)) (Mem.focus (Ma := [[⟨.slice (bl gr) 1 1, 81, 2, 1, [.slice (rA) ((rl).length) (rc), I (((((q + 1) + 1) + 1 : Nat) : Int))]⟩]]) (rest := [[⟨.slice (bl b12_9) (2) (2), 3, 1, 2, ([100, 5]).map I⟩], [⟨.slice (bl b12_6) (4) (4), 3, 1, 4, ([0, 4, 2, 3]).map I⟩], [⟨.slice (bl b2_1) (7) (7), 3, 1, 7, ([6, 10, 14, 4, 24, 0, 25]).map I⟩], [⟨.slice (A2) ((L).length) (c2), 34, 3, ((L).length), (L).flatMap encG⟩]]) hMf12_10 rfl) (by first | omega | assumption | (simp; omega) | simp | (intros; omega)) (by simp) (by simp)) ?_
        rintro _ w12_10 ⟨k12_10, rfl, hk12_10, hR12_10⟩
        have hM12_10 : Mem w w12_10 [some gr] [[⟨.slice (bl gr) 1 1, 81, 2, 1, [.slice (rA) ((rl).length) (rc), I ((((((q + 1) + 1) + 1) + 1 : Nat) : Int))]⟩], [⟨.slice (bl b12_9) (2) (2), 3, 1, 2, ([100, 5]).map I⟩], [⟨.slice (bl b12_6) (4) (4), 3, 1, 4, ([0, 4, 2, 3]).map I⟩], [⟨.slice (bl b2_1) (7) (7), 3, 1, 7, ([6, 10, 14, 4, 24, 0, 25]).map I⟩], [⟨.slice (A2) ((L).length) (c2), 34, 3, ((L).length), (L).flatMap encG⟩]] := Mem.call (Ma := [[⟨.slice (bl gr) 1 1, 81, 2, 1, [.slice (rA) ((rl).length) (rc), I (((((q + 1) + 1) + 1 : Nat) : Int))]⟩]]) hMf12_10 hR12_10 rfl
        refine O.val (v := .pointer (ofs (bl gr) (0))) rfl (Ru.move rfl) rfl ?_
        refine O.mlit (sz := 1) (cs := [I (1001), I (5), I (0)]) hM12_10 rfl Try.underlying71 el3 rfl rfl rfl (by kernel_rfl) (by kernel_rfl) rfl rfl (fun w12_12 b12_12 hb12_12 (hM12_12 : Mem w w12_12 [some gr] [[⟨.slice (bl b12_12) (3) (3), 3, 1, 3, ([1001, 5, 0]).map I⟩], [⟨.slice (bl gr) 1 1, 81, 2, 1, [.slice (rA) ((rl).length) (rc), I ((((((q + 1) + 1) + 1) + 1 : Nat) : Int))]⟩], [⟨.slice (bl b12_9) (2) (2), 3, 1, 2, ([100, 5]).map I⟩], [⟨.slice (bl b12_6) (4) (4), 3, 1, 4, ([0, 4, 2, 3]).map I⟩], [⟨.slice (bl b2_1) (7) (7), 3, 1, 7, ([6, 10, 14, 4, 24, 0, 25]).map I⟩], [⟨.slice (A2) ((L).length) (c2), 34, 3, ((L).length), (L).flatMap encG⟩]]) => ?_)
        have hMf12_13 : Mem w w12_12 [some gr] [[⟨.slice (bl gr) 1 1, 81, 2, 1, [.slice (rA) ((rl).length) (rc), I ((((((q + 1) + 1) + 1) + 1 : Nat) : Int))]⟩], [⟨.slice (bl b12_12) (3) (3), 3, 1, 3, ([1001, 5, 0]).map I⟩], [⟨.slice (bl b12_9) (2) (2), 3, 1, 2, ([100, 5]).map I⟩], [⟨.slice (bl b12_6) (4) (4), 3, 1, 4, ([0, 4, 2, 3]).map I⟩], [⟨.slice (bl b2_1) (7) (7), 3, 1, 7, ([6, 10, 14, 4, 24, 0, 25]).map I⟩], [⟨.slice (A2) ((L).length) (c2), 34, 3, ((L).length), (L).flatMap encG⟩]] := hM12_12.pick [1, 0, 2, 3, 4, 5] (by decide) rfl
        refine O.callg [.pointer (ofs (bl gr) (0)), .slice (bl b12_12) (([1001, 5, 0]).length) (3)] rfl en68 (by first | rfl | (rw [show ([1001, 5, 0]).length = 3 from (by first | rfl | (simp; done) | omega | (simp; omega))]; rfl)) rfl (one_fn gr rA rc rl ((((q + 1) + 1) + 1) + 1) (bl b12_12) 3 [1001, 5, 0] w12_12 (hrA.atR hMf12_13 hro) hro hrl (hMf12_13.rd 1 rfl) (Off.of_ng (hMf12_13.ng 1 0 (by decide) rfl rfl)) (Mem.focus (Ma := [[⟨.slice (bl gr) 1 1, 81, 2, 1, [.slice (rA) ((rl).length) (rc), I ((((((q + 1) + 1) + 1) + 1 : Nat) : Int))]⟩]]) (rest := [[⟨.slice (bl b12_12) (3) (3), 3, 1, 3, ([1001, 5, 0]).map I⟩], [⟨.slice (bl b12_9) (2) (2), 3, 1, 2, ([100, 5]).map I⟩], [⟨.slice (bl b12_6) (4) (4), 3, 1, 4, ([0, 4, 2, 3]).map I⟩], [⟨.slice (bl b2_1) (7) (7), 3, 1, 7, ([6, 10, 14, 4, 24, 0, 25]).map I⟩], [⟨.slice (A2) ((L).length) (c2), 34, 3, ((L).length), (L).flatMap encG⟩]]) hMf12_13 rfl) (by first | omega | assumption | (simp; omega) | simp | (intros; omega)) (by simp) (by simp)) ?_
        rintro _ w12_13 ⟨k12_13, rfl, hk12_13, hR12_13⟩
        have hM12_13 : Mem w w12_13 [some gr] [[⟨.slice (bl gr) 1 1, 81, 2, 1, [.slice (rA) ((rl).length) (rc), I (((((((q + 1) + 1) + 1) + 1) + 1 : Nat) : Int))]⟩], [⟨.slice (bl b12_12) (3) (3), 3, 1, 3, ([1001, 5, 0]).map I⟩], [⟨.slice (bl b12_9) (2) (2), 3, 1, 2, ([100, 5]).map I⟩], [⟨.slice (bl b12_6) (4) (4), 3, 1, 4, ([0, 4, 2, 3]).map I⟩], [⟨.slice (bl b2_1) (7) (7), 3, 1, 7, ([6, 10, 14, 4, 24, 0, 25]).map I⟩], [⟨.slice (A2) ((L).length) (c2), 34, 3, ((L).length), (L).flatMap encG⟩]] := Mem.call (Ma := [[⟨.slice (bl gr) 1 1, 81, 2, 1, [.slice (rA) ((rl).length) (rc), I ((((((q + 1) + 1) + 1) + 1 : Nat) : Int))]⟩]]) hMf12_13 hR12_13 rfl
        refine O.val (v := .agg #[I (k12_7), I (k12_10), I (k12_13)]) rfl (Ru.build of34 rfl rfl rfl) rfl ?_
        have hx12_15 : k12_4.toNat < (L).length := (by omega)
        refine O.val (v := .pointer (ofs (A2) ((k12_4.toNat) * 3))) rfl (Ru.indexA (j := k12_4.toNat) Try.underlying23 el34 rfl rfl (smf encG_len (hM12_13.rd 5 rfl) hx12_15 rfl) (by omega) (by omega)) rfl ?_
        refine O.mstore (vs := [I (k12_7), I (k12_10), I (k12_13)]) (xs' := ((L).set (k12_4.toNat) (⟨k12_7, k12_10, k12_13⟩ : RecT)).flatMap encG) 5 0 hM12_13 rfl rfl rfl el34 rfl rfl rfl rfl rfl (by rw [flat_len encG_len]; simp; omega) (by simp) (spl_flat encG_len (l := L) (a := (⟨k12_7, k12_10, k12_13⟩ : RecT)) hx12_15) rfl (fun w12_16 (hM12_16 : Mem w w12_16 [some gr] [[⟨.slice (bl gr) 1 1, 81, 2, 1, [.slice (rA) ((rl).length) (rc), I (((((((q + 1) + 1) + 1) + 1) + 1 : Nat) : Int))]⟩], [⟨.slice (bl b12_12) (3) (3), 3, 1, 3, ([1001, 5, 0]).map I⟩], [⟨.slice (bl b12_9) (2) (2), 3, 1, 2, ([100, 5]).map I⟩], [⟨.slice (bl b12_6) (4) (4), 3, 1, 4, ([0, 4, 2, 3]).map I⟩], [⟨.slice (bl b2_1) (7) (7), 3, 1, 7, ([6, 10, 14, 4, 24, 0, 25]).map I⟩], [⟨.slice (A2) ((L).length) (c2), 34, 3, ((L).length), ((L).set (k12_4.toNat) (⟨k12_7, k12_10, k12_13⟩ : RecT)).flatMap encG⟩]]) => ?_)
        refine O.nil ?_
        refine C.seq ?_
        refine C.region ?_
        refine O.val (v := .slice (A2) ((L).length) (c2)) rfl (Ru.move rfl) rfl ?_
        refine O.val (v := .slice (A2) ((L).length) (c2)) rfl (Ru.assign rfl) rfl ?_
        refine O.nil ?_
        refine C.ret ?_
        refine P1 (v := .slice (A2) ((L).length) (c2)) rfl ?_
        have hq6 : ((L).set (k12_4.toNat) (⟨k12_7, k12_10, k12_13⟩ : RecT) : List RecT) = ((L).set (k12_4.toNat) (⟨k12_7, k12_10, k12_13⟩ : RecT)) := (by first | rfl | simp | (simp; omega))
        have hMn6 : Mem w w12_16 [some gr] [[⟨.slice (bl gr) 1 1, 81, 2, 1, [.slice (rA) ((rl).length) (rc), I (((((((q + 1) + 1) + 1) + 1) + 1 : Nat) : Int))]⟩], [⟨.slice (bl b12_12) (3) (3), 3, 1, 3, ([1001, 5, 0]).map I⟩], [⟨.slice (bl b12_9) (2) (2), 3, 1, 2, ([100, 5]).map I⟩], [⟨.slice (bl b12_6) (4) (4), 3, 1, 4, ([0, 4, 2, 3]).map I⟩], [⟨.slice (bl b2_1) (7) (7), 3, 1, 7, ([6, 10, 14, 4, 24, 0, 25]).map I⟩], [⟨.slice (A2) (((L).set (k12_4.toNat) (⟨k12_7, k12_10, k12_13⟩ : RecT)).length) (c2), 34, 3, (((L).set (k12_4.toNat) (⟨k12_7, k12_10, k12_13⟩ : RecT)).length), (((L).set (k12_4.toNat) (⟨k12_7, k12_10, k12_13⟩ : RecT))).flatMap encG⟩]] := hM12_16.relen 5 (n' := ((L).set (k12_4.toNat) (⟨k12_7, k12_10, k12_13⟩ : RecT)).length) (xs' := (((L).set (k12_4.toNat) (⟨k12_7, k12_10, k12_13⟩ : RecT))).flatMap encG) rfl (by first | rfl | exact congrArg List.length hq6 | (have hqq := congrArg List.length hq6; first | omega | (simp at hqq ⊢; omega)) | (simp; done) | (simp; omega)) (congrArg (fun z_ => (z_).flatMap encG) hq6) rfl
        exact ⟨(L).set (k12_4.toNat) (⟨k12_7, k12_10, k12_13⟩ : RecT), A2, c2, _, (by first | rfl | exact sl_congr (by first | omega | (simp; done) | (simp; omega)) | (simp; done)), (by first | omega | (simp; omega)), (by omega), (hMn6.pick [0, 5] (by decide) rfl)⟩
      · refine C.skip ?_
        refine C.seq ?_
        refine C.region ?_
        refine O.val (v := .slice (A2) ((L).length) (c2)) rfl (Ru.move rfl) rfl ?_
        refine O.val (v := .slice (A2) ((L).length) (c2)) rfl (Ru.assign rfl) rfl ?_
        refine O.nil ?_
        refine C.ret ?_
        refine P1 (v := .slice (A2) ((L).length) (c2)) rfl ?_
        exact ⟨L, A2, c2, _, (by first | rfl | exact sl_congr (by first | omega | (simp; done) | (simp; omega)) | (simp; done)), (by first | omega | (simp; omega)), (by omega), (hM11_5.pick [0, 2] (by decide) rfl)⟩
    · refine O.pass rfl rfl rfl rfl rfl ?_
      refine O.pass rfl rfl rfl rfl rfl ?_
      refine O.pass rfl rfl rfl rfl rfl ?_
      refine O.val (v := .bool (false)) rfl (Ru.pickF rfl rfl) rfl ?_
      refine O.nil ?_
      refine C.condF rfl ?_
      refine C.skip ?_
      refine C.seq ?_
      refine C.region ?_
      refine O.val (v := .slice (A2) ((L).length) (c2)) rfl (Ru.move rfl) rfl ?_
      refine O.val (v := .slice (A2) ((L).length) (c2)) rfl (Ru.assign rfl) rfl ?_
      refine O.nil ?_
      refine C.ret ?_
      refine P1 (v := .slice (A2) ((L).length) (c2)) rfl ?_
      exact ⟨L, A2, c2, _, (by first | rfl | exact sl_congr (by first | omega | (simp; done) | (simp; omega)) | (simp; done)), (by first | omega | (simp; omega)), (by omega), (hM_l3.pick [0, 2] (by decide) rfl)⟩

theorem goodRow_fn (gr : Nat) (rA : Option Addr) (rc : Nat) (rl : List UInt8) (rq : Nat) (w : World) (hrA : Rd w rA (rl.map byteV)) (hro : Off rA (rl.map byteV) [some gr]) (hrl : rl.length ≤ 2000) (hM : Mem w w [some gr] [[⟨.slice (bl gr) 1 1, 81, 2, 1, [.slice (rA) ((rl).length) (rc), I (((rq : Nat) : Int))]⟩]]) (hrq : rq ≤ 999999000) :
    Does Try.prog 71 [.pointer (ofs (bl gr) (0))] w (fun v w1 => ∃ (l1 : List PairT) (A1 : Option Addr) (c1 : Nat) (q1 : Nat), v = .slice (A1) ((l1).length) (c1) ∧ (l1.length ≤ 25) ∧ (q1 ≤ rq + 200) ∧ Mem w w1 [some gr] [[⟨.slice (bl gr) 1 1, 81, 2, 1, [.slice (rA) ((rl).length) (rc), I (((q1 : Nat) : Int))]⟩], [⟨.slice (A1) ((l1).length) (c1), 53, 2, ((l1).length), (l1).flatMap encP⟩]]) := by
  refine Does.enter1 Try.func71 rfl Try.results71 Try.ntmps71 rfl ?_
  refine C.seq ?_
  refine C.region ?_
  refine O.val (v := .slice (none) (0) (0)) rfl (Ru.assign rfl) rfl ?_
  refine O.nil ?_
  refine C.seq ?_
  refine C.region ?_
  refine O.mlit (sz := 2) (cs := []) hM rfl Try.underlying36 el53 rfl rfl rfl (by kernel_rfl) (by kernel_rfl) rfl rfl (fun w1_0 b1_0 hb1_0 (hM1_0 : Mem w w1_0 [some gr] [[⟨.slice (bl b1_0) (0) (0), 53, 2, 0, ([]).flatMap encP⟩], [⟨.slice (bl gr) 1 1, 81, 2, 1, [.slice (rA) ((rl).length) (rc), I (((rq : Nat) : Int))]⟩]]) => ?_)
  refine O.val (v := .slice (bl b1_0) (0) (0)) rfl (Ru.assign rfl) rfl ?_
  refine O.nil ?_
  refine C.seq ?_
  refine C.seq ?_
  refine C.region ?_
  refine O.val (v := .pointer (ofs (bl gr) (0))) rfl (Ru.move rfl) rfl ?_
  refine O.mlit (sz := 1) (cs := [I (6), I (9), I (13), I (4), I (20), I (24), I (1), I (0)]) hM1_0 rfl Try.underlying71 el3 rfl rfl rfl (by kernel_rfl) (by kernel_rfl) rfl rfl (fun w2_1 b2_1 hb2_1 (hM2_1 : Mem w w2_1 [some gr] [[⟨.slice (bl b2_1) (8) (8), 3, 1, 8, ([6, 9, 13, 4, 20, 24, 1, 0]).map I⟩], [⟨.slice (bl b1_0) (0) (0), 53, 2, 0, ([]).flatMap encP⟩], [⟨.slice (bl gr) 1 1, 81, 2, 1, [.slice (rA) ((rl).length) (rc), I (((rq : Nat) : Int))]⟩]]) => ?_)
  have hMf2_2 : Mem w w2_1 [some gr] [[⟨.slice (bl gr) 1 1, 81, 2, 1, [.slice (rA) ((rl).length) (rc), I (((rq : Nat) : Int))]⟩], [⟨.slice (bl b2_1) (8) (8), 3, 1, 8, ([6, 9, 13, 4, 20, 24, 1, 0]).map I⟩], [⟨.slice (bl b1_0) (0) (0), 53, 2, 0, ([]).flatMap encP⟩]] := hM2_1.pick [2, 0, 1] (by decide) rfl
  refine O.callg [.pointer (ofs (bl gr) (0)), .slice (bl b2_1) (([6, 9, 13, 4, 20, 24, 1, 0]).length) (8)] rfl en68 (by first | rfl | (rw [show ([6, 9, 13, 4, 20, 24, 1, 0]).length = 8 from (by first | rfl | (simp; done) | omega | (simp; omega))]; rfl)) rfl (one_fn gr rA rc rl rq (bl b2_1) 8 [6, 9, 13, 4, 20, 24, 1, 0] w2_1 (hrA.atR hMf2_2 hro) hro hrl (hMf2_2.rd 1 rfl) (Off.of_ng (hMf2_2.ng 1 0 (by decide) rfl rfl)) (Mem.focus (Ma := [[⟨.slice (bl gr) 1 1, 81, 2, 1, [.slice (rA) ((rl).length) (rc), I (((rq : Nat) : Int))]⟩]]) (rest := [[⟨.slice (bl b2_1) (8) (8), 3, 1, 8, ([6, 9, 13, 4, 20, 24, 1, 0]).map I⟩], [⟨.slice (bl b1_0) (0) (0), 53, 2, 0, ([]).flatMap encP⟩]]) hMf2_2 rfl) (by first | omega | assumption | (simp; omega) | simp | (intros; omega)) (by simp) (by simp)) ?_
  rintro _ w2_2 ⟨k2_2, rfl, hk2_2, hR2_2⟩
  have hM2_2 : Mem w w2_2 [some gr] [[⟨.slice (bl gr) 1 1, 81, 2, 1, [.slice (rA) ((rl).length) (rc), I (((rq + 1 : Nat) : Int))]⟩], [⟨.slice (bl b2_1) (8) (8), 3, 1, 8, ([6, 9, 13, 4, 20, 24, 1, 0]).map I⟩], [⟨.slice (bl b1_0) (0) (0), 53, 2, 0, ([]).flatMap encP⟩]] := Mem.call (Ma := [[⟨.slice (bl gr) 1 1, 81, 2, 1, [.slice (rA) ((rl).length) (rc), I (((rq : Nat) : Int))]⟩]]) hMf2_2 hR2_2 rfl
  have hk0 := (by decide : ∀ k ∈ ([6, 9, 13, 4, 20, 24, 1, 0] : List Int), 0 ≤ k ∧ k ≤ 24) _ hk2_2
  refine O.val (v := I (k2_2)) rfl (Ru.assign rfl) rfl ?_
  refine O.nil ?_
  refine C.block ?_
  have hq1 : ([] : List PairT) = ([] : List PairT) := (by first | rfl | simp | (simp; omega))
  have hMn1 : Mem w w2_2 [some gr] [[⟨.slice (bl gr) 1 1, 81, 2, 1, [.slice (rA) ((rl).length) (rc), I (((rq + 1 : Nat) : Int))]⟩], [⟨.slice (bl b2_1) (8) (8), 3, 1, 8, ([6, 9, 13, 4, 20, 24, 1, 0]).map I⟩], [⟨.slice (bl b1_0) ((([] : List PairT)).length) (0), 53, 2, ((([] : List PairT)).length), (([] : List PairT)).flatMap encP⟩]] := hM2_2.relen 2 (n' := (([] : List PairT)).length) (xs' := (([] : List PairT)).flatMap encP) rfl (by first | rfl | exact congrArg List.length hq1 | (have hqq := congrArg List.length hq1; first | omega | (simp at hqq ⊢; omega)) | (simp; done) | (simp; omega)) (congrArg (fun z_ => (z_).flatMap encP) hq1) rfl
  refine C.loop (ι := Int × (List PairT) × (Option Addr) × Nat × Nat) (fun x_ => ([(0, .pointer (ofs (bl gr) (0))), (3, .slice (x_.2.2.1) ((x_.2.1).length) (x_.2.2.2.1)), (4, I (x_.1))] : List (Nat × Value))) (fun x_ w_ => (0 ≤ x_.1 ∧ x_.1 ≤ 24) ∧ (x_.2.2.2.2 + 2 * x_.1 ≤ rq + 49) ∧ (x_.2.1.length ≤ 24) ∧ (asc (keysP x_.2.1) = true) ∧ (Mem w w_ [some gr] [[⟨.slice (bl gr) 1 1, 81, 2, 1, [.slice (rA) ((rl).length) (rc), I (((x_.2.2.2.2 : Nat) : Int))]⟩], [⟨.slice (bl b2_1) (8) (8), 3, 1, 8, ([6, 9, 13, 4, 20, 24, 1, 0]).map I⟩], [⟨.slice (x_.2.2.1) ((x_.2.1).length) (x_.2.2.2.1), 53, 2, ((x_.2.1).length), (x_.2.1).flatMap encP⟩]])) (fun x_ => x_.1.toNat) (k2_2, ([] : List PairT), bl b1_0, 0, (rq + 1)) (Has.cons rfl (Has.cons (sl_congr (by first | rfl | omega | (simp; done) | (simp; omega) | exact congrArg List.length hq1 | (simp [← hq1]; done) | (simp [← hq1]; omega))) (Has.cons rfl Has.nil))) ⟨(by (try dsimp only); first | omega | (simp; omega)), (by (try dsimp only); first | omega | (simp; omega)), (by (try dsimp only); first | omega | (simp; omega) | (simp; done)), (by (try dsimp only); rfl), (hMn1.pick [0, 1, 2] (by decide) rfl)⟩ (fun ⟨k, L, A2, c2, q⟩ σ w_l3 hI => ?_)
  try dsimp only at hI
  obtain ⟨hi0_l3, hi1_l3, hi2_l3, hi3_l3, hM_l3⟩ := hI
  have hcl1_l3 := (hM_l3.cap 1 rfl).1
  have hcl2_l3 := (hM_l3.cap 2 rfl).1
  obtain ⟨hk1, hk2⟩ := hi0_l3
  refine C.seq ?_
  refine C.seq ?_
  refine C.region ?_
  refine O.val (v := I (k)) rfl (Ru.move rfl) rfl ?_
  refine O.val (v := .bool (decide (k > 0))) rfl (Ru.gtr rfl rfl) rfl ?_
  refine O.nil ?_
  refine C.cond (p := k > 0) rfl (fun c11 => ?_) (fun c11 => ?_)
  · refine C.skip ?_
    refine C.seq ?_
    refine C.block ?_
    refine C.seq ?_
    refine C.region ?_
    refine O.val (v := .pointer (ofs (bl gr) (0))) rfl (Ru.move rfl) rfl ?_
    refine O.callg [.pointer (ofs (bl gr) (0)), I (100)] rfl en53 rfl rfl (pick_fn gr rA rc rl q 100 w_l3 (hrA.atR hM_l3 hro) hro hrl (Mem.focus (Ma := [[⟨.slice (bl gr) 1 1, 81, 2, 1, [.slice (rA) ((rl).length) (rc), I (((q : Nat) : Int))]⟩]]) (rest := [[⟨.slice (bl b2_1) (8) (8), 3, 1, 8, ([6, 9, 13, 4, 20, 24, 1, 0]).map I⟩], [⟨.slice (A2) ((L).length) (c2), 53, 2, ((L).length), (L).flatMap encP⟩]]) hM_l3 rfl) (by first | omega | assumption | (simp; omega) | simp | (intros; omega))) ?_
    rintro _ w5_1 ⟨k5_1, rfl, hk5_1, hR5_1⟩
    have hM5_1 : Mem w w5_1 [some gr] [[⟨.slice (bl gr) 1 1, 81, 2, 1, [.slice (rA) ((rl).length) (rc), I (((q + 1 : Nat) : Int))]⟩], [⟨.slice (bl b2_1) (8) (8), 3, 1, 8, ([6, 9, 13, 4, 20, 24, 1, 0]).map I⟩], [⟨.slice (A2) ((L).length) (c2), 53, 2, ((L).length), (L).flatMap encP⟩]] := Mem.call (Ma := [[⟨.slice (bl gr) 1 1, 81, 2, 1, [.slice (rA) ((rl).length) (rc), I (((q : Nat) : Int))]⟩]]) hM_l3 hR5_1 rfl
    refine O.val (v := .pointer (ofs (bl gr) (0))) rfl (Ru.move rfl) rfl ?_
    refine O.callg [.pointer (ofs (bl gr) (0)), I (200)] rfl en53 rfl rfl (pick_fn gr rA rc rl (q + 1) 200 w5_1 (hrA.atR hM5_1 hro) hro hrl (Mem.focus (Ma := [[⟨.slice (bl gr) 1 1, 81, 2, 1, [.slice (rA) ((rl).length) (rc), I (((q + 1 : Nat) : Int))]⟩]]) (rest := [[⟨.slice (bl b2_1) (8) (8), 3, 1, 8, ([6, 9, 13, 4, 20, 24, 1, 0]).map I⟩], [⟨.slice (A2) ((L).length) (c2), 53, 2, ((L).length), (L).flatMap encP⟩]]) hM5_1 rfl) (by first | omega | assumption | (simp; omega) | simp | (intros; omega))) ?_
    rintro _ w5_3 ⟨k5_3, rfl, hk5_3, hR5_3⟩
    have hM5_3 : Mem w w5_3 [some gr] [[⟨.slice (bl gr) 1 1, 81, 2, 1, [.slice (rA) ((rl).length) (rc), I ((((q + 1) + 1 : Nat) : Int))]⟩], [⟨.slice (bl b2_1) (8) (8), 3, 1, 8, ([6, 9, 13, 4, 20, 24, 1, 0]).map I⟩], [⟨.slice (A2) ((L).length) (c2), 53, 2, ((L).length), (L).flatMap encP⟩]] := Mem.call (Ma := [[⟨.slice (bl gr) 1 1, 81, 2, 1, [.slice (rA) ((rl).length) (rc), I (((q + 1 : Nat) : Int))]⟩]]) hM5_1 hR5_3 rfl
    refine O.val (v := I ((k5_3 - 100))) rfl (Ru.sub rfl rfl (by omega)) rfl ?_
    refine O.val (v := .agg #[I (k5_1), I ((k5_3 - 100))]) rfl (Ru.build of53 rfl rfl rfl) rfl ?_
    refine O.malloc (k := 2) hM5_3 rfl rfl el53 rfl (fun w5_6 b5_6 hb5_6 (hM5_6 : Mem w w5_6 [some gr] [[⟨.slice (bl b5_6) 1 1, 53, 2, 1, [I (0), I (0)]⟩], [⟨.slice (bl gr) 1 1, 81, 2, 1, [.slice (rA) ((rl).length) (rc), I ((((q + 1) + 1 : Nat) : Int))]⟩], [⟨.slice (bl b2_1) (8) (8), 3, 1, 8, ([6, 9, 13, 4, 20, 24, 1, 0]).map I⟩], [⟨.slice (A2) ((L).length) (c2), 53, 2, ((L).length), (L).flatMap encP⟩]]) => ?_)
    refine O.mstore (vs := [I (k5_1), I ((k5_3 - 100))]) (xs' := [I (k5_1), I ((k5_3 - 100))]) 0 0 hM5_6 rfl rfl rfl el53 rfl rfl rfl rfl rfl (by simp) (by simp) rfl rfl (fun w5_7 (hM5_7 : Mem w w5_7 [some gr] [[⟨.slice (bl b5_6) 1 1, 53, 2, 1, [I (k5_1), I ((k5_3 - 100))]⟩], [⟨.slice (bl gr) 1 1, 81, 2, 1, [.slice (rA) ((rl).length) (rc), I ((((q + 1) + 1 : Nat) : Int))]⟩], [⟨.slice (bl b2_1) (8) (8), 3, 1, 8, ([6, 9, 13, 4, 20, 24, 1, 0]).map I⟩], [⟨.slice (A2) ((L).length) (c2), 53, 2, ((L).length), (L).flatMap encP⟩]]) => ?_)
    refine O.nil ?_
    refine C.seq ?_
    refine C.region ?_
    refine O.val (v := .slice (A2) ((L).length) (c2)) rfl (Ru.move rfl) rfl ?_
    refine O.val rfl (Ru.loadN (vs := [I (k5_1), I ((k5_3 - 100))]) el53 rfl rfl rfl ((mem_blk (i := 0) (j := 0) hM5_7 rfl rfl).lds (k := 0) rfl)) rfl ?_
    refine O.callg [.slice (A2) ((L).length) (c2), .agg #[I (k5_1), I ((k5_3 - 100))]] rfl en72 rfl rfl (sput_fn A2 c2 L (⟨k5_1, (k5_3 - 100)⟩ : PairT) w5_7 (hM5_7.rd 3 rfl) (by omega) (by exact hi3_l3) (by omega)) ?_
    rintro _ w6_2 ⟨A16_2, c16_2, rfl, hR6_2⟩
    have hM6_2 : Mem w w6_2 [some gr] [[⟨.slice (A16_2) ((putP L (⟨k5_1, (k5_3 - 100)⟩ : PairT)).length) (c16_2), 53, 2, ((putP L (⟨k5_1, (k5_3 - 100)⟩ : PairT)).length), (putP L (⟨k5_1, (k5_3 - 100)⟩ : PairT)).flatMap encP⟩], [⟨.slice (bl b5_6) 1 1, 53, 2, 1, [I (k5_1), I ((k5_3 - 100))]⟩], [⟨.slice (bl gr) 1 1, 81, 2, 1, [.slice (rA) ((rl).length) (rc), I ((((q + 1) + 1 : Nat) : Int))]⟩], [⟨.slice (bl b2_1) (8) (8), 3, 1, 8, ([6, 9, 13, 4, 20, 24, 1, 0]).map I⟩], [⟨.slice (A2) ((L).length) (c2), 53, 2, ((L).length), (L).flatMap encP⟩]] := Mem.call (Ma := []) hM5_7 hR6_2 rfl
    have hcr6_2_0 := (hM6_2.cap 0 rfl).1
    refine O.val (v := I ((((putP L (⟨k5_1, (k5_3 - 100)⟩ : PairT)).length : Nat) : Int))) rfl (Ru.blenSlice Try.underlying36 rfl) rfl ?_
    refine O.val (v := .bool (decide ((((putP L (⟨k5_1, (k5_3 - 100)⟩ : PairT)).length : Nat) : Int) ≤ 24))) rfl (Ru.leq rfl rfl) rfl ?_
    refine O.nil ?_
    refine C.cond (p := (((putP L (⟨k5_1, (k5_3 - 100)⟩ : PairT)).length : Nat) : Int) ≤ 24) rfl (fun c24 => ?_) (fun c24 => ?_)
    · refine C.region ?_
      refine O.val (v := .slice (A2) ((L).length) (c2)) rfl (Ru.move rfl) rfl ?_
      refine O.val rfl (Ru.loadN (vs := [I (k5_1), I ((k5_3 - 100))]) el53 rfl rfl rfl ((mem_blk (i := 1) (j := 0) hM6_2 rfl rfl).lds (k := 0) rfl)) rfl ?_
      refine O.callg [.slice (A2) ((L).length) (c2), .agg #[I (k5_1), I ((k5_3 - 100))]] rfl en72 rfl rfl (sput_fn A2 c2 L (⟨k5_1, (k5_3 - 100)⟩ : PairT) w6_2 (hM6_2.rd 4 rfl) (by omega) (by exact hi3_l3) (by omega)) ?_
      rintro _ w7_2 ⟨A17_2, c17_2, rfl, hR7_2⟩
      have hM7_2 : Mem w w7_2 [some gr] [[⟨.slice (A17_2) ((putP L (⟨k5_1, (k5_3 - 100)⟩ : PairT)).length) (c17_2), 53, 2, ((putP L (⟨k5_1, (k5_3 - 100)⟩ : PairT)).length), (putP L (⟨k5_1, (k5_3 - 100)⟩ : PairT)).flatMap encP⟩], [⟨.slice (A16_2) ((putP L (⟨k5_1, (k5_3 - 100)⟩ : PairT)).length) (c16_2), 53, 2, ((putP L (⟨k5_1, (k5_3 - 100)⟩ : PairT)).length), (putP L (⟨k5_1, (k5_3 - 100)⟩ : PairT)).flatMap encP⟩], [⟨.slice (bl b5_6) 1 1, 53, 2, 1, [I (k5_1), I ((k5_3 - 100))]⟩], [⟨.slice (bl gr) 1 1, 81, 2, 1, [.slice (rA) ((rl).length) (rc), I ((((q + 1) + 1 : Nat) : Int))]⟩], [⟨.slice (bl b2_1) (8) (8), 3, 1, 8, ([6, 9, 13, 4, 20, 24, 1, 0]).map I⟩], [⟨.slice (A2) ((L).length) (c2), 53, 2, ((L).length), (L).flatMap encP⟩]] := Mem.call (Ma := []) hM6_2 hR7_2 rfl
      have hcr7_2_0 := (hM7_2.cap 0 rfl).1
      refine O.val (v := .slice (A17_2) ((putP L (⟨k5_1, (k5_3 - 100)⟩ : PairT)).length) (c17_2)) rfl (Ru.assign rfl) rfl ?_
      refine O.nil ?_
      refine C.region ?_
      refine O.val (v := I (k)) rfl (Ru.move rfl) rfl ?_
      refine O.val (v := I ((k - 1))) rfl (Ru.sub rfl rfl (by omega)) rfl ?_
      refine O.val (v := I ((k - 1))) rfl (Ru.assign rfl) rfl ?_
      refine O.nil ?_
      have hq2 : (putP L (⟨k5_1, (k5_3 - 100)⟩ : PairT) : List PairT) = (putP L (⟨k5_1, (k5_3 - 100)⟩ : PairT)) := (by first | rfl | simp | (simp; omega))
      have hMn2 : Mem w w7_2 [some gr] [[⟨.slice (A17_2) (((putP L (⟨k5_1, (k5_3 - 100)⟩ : PairT))).length) (c17_2), 53, 2, (((putP L (⟨k5_1, (k5_3 - 100)⟩ : PairT))).length), ((putP L (⟨k5_1, (k5_3 - 100)⟩ : PairT))).flatMap encP⟩], [⟨.slice (A16_2) ((putP L (⟨k5_1, (k5_3 - 100)⟩ : PairT)).length) (c16_2), 53, 2, ((putP L (⟨k5_1, (k5_3 - 100)⟩ : PairT)).length), (putP L (⟨k5_1, (k5_3 - 100)⟩ : PairT)).flatMap encP⟩], [⟨.slice (bl b5_6) 1 1, 53, 2, 1, [I (k5_1), I ((k5_3 - 100))]⟩], [⟨.slice (bl gr) 1 1, 81, 2, 1, [.slice (rA) ((rl).length) (rc), I ((((q + 1) + 1 : Nat) : Int))]⟩], [⟨.slice (bl b2_1) (8) (8), 3, 1, 8, ([6, 9, 13, 4, 20, 24, 1, 0]).map I⟩], [⟨.slice (A2) ((L).length) (c2), 53, 2, ((L).length), (L).flatMap encP⟩]] := hM7_2.relen 0 (n' := ((putP L (⟨k5_1, (k5_3 - 100)⟩ : PairT))).length) (xs' := ((putP L (⟨k5_1, (k5_3 - 100)⟩ : PairT))).flatMap encP) rfl (by first | rfl | exact congrArg List.length hq2 | (have hqq := congrArg List.length hq2; first | omega | (simp at hqq ⊢; omega)) | (simp; done) | (simp; omega)) (congrArg (fun z_ => (z_).flatMap encP) hq2) rfl
      simp only [blkQ]
      exact loopEnd (k - 1, putP L (⟨k5_1, (k5_3 - 100)⟩ : PairT), A17_2, c17_2, ((q + 1) + 1)) (by (try dsimp only); omega) (Has.cons rfl (Has.cons rfl (Has.cons (I_congr (by first | rfl | omega | (simp; omega) | simp)) Has.nil))) ⟨(by (try dsimp only); omega), (by (try dsimp only); omega), (by (try dsimp only); first | omega | (simp; omega) | (have h9 := put_len (l := L) (x := ⟨k5_2, k5_4⟩); omega)), (by (try dsimp only); first | exact hi3_l3 | exact put_keys_pair hi3_l3 _), (hMn2.pick [3, 4, 0] (by decide) rfl)⟩
    · refine C.skip ?_
      refine C.region ?_
      refine O.val (v := I (k)) rfl (Ru.move rfl) rfl ?_
      refine O.val (v := I ((k - 1))) rfl (Ru.sub rfl rfl (by omega)) rfl ?_
      refine O.val (v := I ((k - 1))) rfl (Ru.assign rfl) rfl ?_
      refine O.nil ?_
      simp only [blkQ]
      exact loopEnd (k - 1, L, A2, c2, ((q + 1) + 1)) (by (try dsimp only); omega) (Has.cons rfl (Has.cons rfl (Has.cons (I_congr (by first | rfl | omega | (simp; omega) | simp)) Has.nil))) ⟨(by (try dsimp only); omega), (by (try dsimp only); omega), (by (try dsimp only); first | omega | (simp; omega) | (have h9 := put_len (l := L) (x := ⟨k5_2, k5_4⟩); omega)), (by (try dsimp only); first | exact hi3_l3 | exact put_keys_pair hi3_l3 _), (hM6_2.pick [2, 3, 4] (by decide) rfl)⟩
  · refine C.exit ?_
    refine C.seq ?_
    refine C.region ?_
    refine O.val (v := .slice (A2) ((L).length) (c2)) rfl (Ru.move rfl) rfl ?_
    refine O.val (v := .slice (A2) ((L).length) (c2)) rfl (Ru.assign rfl) rfl ?_
    refine O.nil ?_
    refine C.ret ?_
    refine P1 (v := .slice (A2) ((L).length) (c2)) rfl ?_
    exact ⟨L, A2, c2, _, (by first | rfl | exact sl_congr (by first | omega | (simp; done) | (simp; omega)) | (simp; done)), (by omega), (by omega), (hM_l3.pick [0, 2] (by decide) rfl)⟩

theorem anyRow_fn (gr : Nat) (rA : Option Addr) (rc : Nat) (rl : List UInt8) (rq : Nat) (w : World) (hrA : Rd w rA (rl.map byteV)) (hro : Off rA (rl.map byteV) [some gr]) (hrl : rl.length ≤ 2000) (hM : Mem w w [some gr] [[⟨.slice (bl gr) 1 1, 81, 2, 1, [.slice (rA) ((rl).length) (rc), I (((rq : Nat) : Int))]⟩]]) (hrq : rq ≤ 999999000) :
    Does Try.prog 54 [.pointer (ofs (bl gr) (0))] w (fun v w1 => ∃ (l1 : List PairT) (A1 : Option Addr) (c1 : Nat) (q1 : Nat), v = .slice (A1) ((l1).length) (c1) ∧ (l1.length ≤ 26) ∧ (q1 ≤ rq + 220) ∧ Mem w w1 [some gr] [[⟨.slice (bl gr) 1 1, 81, 2, 1, [.slice (rA) ((rl).length) (rc), I (((q1 : Nat) : Int))]⟩], [⟨.slice (A1) ((l1).length) (c1), 53, 2, ((l1).length), (l1).flatMap encP⟩]]) := by
  refine Does.enter1 Try.func54 rfl Try.results54 Try.ntmps54 rfl ?_
  refine C.seq ?_
  refine C.region ?_
  refine O.val (v := .slice (none) (0) (0)) rfl (Ru.assign rfl) rfl ?_
  refine O.nil ?_
  refine C.seq ?_
  refine C.region ?_
  refine O.val (v := .pointer (ofs (bl gr) (0))) rfl (Ru.move rfl) rfl ?_
  refine O.callg [.pointer (ofs (bl gr) (0))] rfl en71 rfl rfl (goodRow_fn gr rA rc rl rq w (hrA.atR hM hro) hro hrl (Mem.focus (Ma := [[⟨.slice (bl gr) 1 1, 81, 2, 1, [.slice (rA) ((rl).length) (rc), I (((rq : Nat) : Int))]⟩]]) (rest := []) hM rfl) (by first | omega | assumption | (simp; omega) | simp | (intros; omega))) ?_
  rintro _ w1_1 ⟨l11_1, A11_1, c11_1, q11_1, rfl, hl1_1, hq1_1, hR1_1⟩
  have hM1_1 : Mem w w1_1 [some gr] [[⟨.slice (bl gr) 1 1, 81, 2, 1, [.slice (rA) ((rl).length) (rc), I (((q11_1 : Nat) : Int))]⟩], [⟨.slice (A11_1) ((l11_1).length) (c11_1), 53, 2, ((l11_1).length), (l11_1).flatMap encP⟩]] := Mem.call (Ma := [[⟨.slice (bl gr) 1 1, 81, 2, 1, [.slice (rA) ((rl).length) (rc), I (((rq : Nat) : Int))]⟩]]) hM hR1_1 rfl
  have hcr1_1_1 := (hM1_1.cap 1 rfl).1
  refine O.val (v := .slice (A11_1) ((l11_1).length) (c11_1)) rfl (Ru.assign rfl) rfl ?_
  refine O.nil ?_
  refine C.seq ?_
  refine C.seq ?_
  refine C.region ?_
  refine O.val (v := .pointer (ofs (bl gr) (0))) rfl (Ru.move rfl) rfl ?_
  refine O.callg [.pointer (ofs (bl gr) (0)), I (14)] rfl en53 rfl rfl (pick_fn gr rA rc rl q11_1 14 w1_1 (hrA.atR hM1_1 hro) hro hrl (Mem.focus (Ma := [[⟨.slice (bl gr) 1 1, 81, 2, 1, [.slice (rA) ((rl).length) (rc), I (((q11_1 : Nat) : Int))]⟩]]) (rest := [[⟨.slice (A11_1) ((l11_1).length) (c11_1), 53, 2, ((l11_1).length), (l11_1).flatMap encP⟩]]) hM1_1 rfl) (by first | omega | assumption | (simp; omega) | simp | (intros; omega))) ?_
  rintro _ w2_1 ⟨k2_1, rfl, hk2_1, hR2_1⟩
  have hM2_1 : Mem w w2_1 [some gr] [[⟨.slice (bl gr) 1 1, 81, 2, 1, [.slice (rA) ((rl).length) (rc), I (((q11_1 + 1 : Nat) : Int))]⟩], [⟨.slice (A11_1) ((l11_1).length) (c11_1), 53, 2, ((l11_1).length), (l11_1).flatMap encP⟩]] := Mem.call (Ma := [[⟨.slice (bl gr) 1 1, 81, 2, 1, [.slice (rA) ((rl).length) (rc), I (((q11_1 : Nat) : Int))]⟩]]) hM1_1 hR2_1 rfl
  refine O.val (v := .bool (decide (k2_1 = 0))) rfl (Ru.eql rfl rfl) rfl ?_
  refine O.nil ?_
  refine C.cond (p := k2_1 = 0) rfl (fun c8 => ?_) (fun c8 => ?_)
  · refine C.region ?_
    refine O.val (v := .slice (A11_1) ((l11_1).length) (c11_1)) rfl (Ru.move rfl) rfl ?_
    refine O.val (v := .pointer (ofs (bl gr) (0))) rfl (Ru.move rfl) rfl ?_
    refine O.mlit (sz := 1) (cs := [I (99), I (0), I (100)]) hM2_1 rfl Try.underlying71 el3 rfl rfl rfl (by kernel_rfl) (by kernel_rfl) rfl rfl (fun w3_2 b3_2 hb3_2 (hM3_2 : Mem w w3_2 [some gr] [[⟨.slice (bl b3_2) (3) (3), 3, 1, 3, ([99, 0, 100]).map I⟩], [⟨.slice (bl gr) 1 1, 81, 2, 1, [.slice (rA) ((rl).length) (rc), I (((q11_1 + 1 : Nat) : Int))]⟩], [⟨.slice (A11_1) ((l11_1).length) (c11_1), 53, 2, ((l11_1).length), (l11_1).flatMap encP⟩]]) => ?_)
    have hMf3_3 : Mem w w3_2 [some gr] [[⟨.slice (bl gr) 1 1, 81, 2, 1, [.slice (rA) ((rl).length) (rc), I (((q11_1 + 1 : Nat) : Int))]⟩], [⟨.slice (bl b3_2) (3) (3), 3, 1, 3, ([99, 0, 100]).map I⟩], [⟨.slice (A11_1) ((l11_1).length) (c11_1), 53, 2, ((l11_1).length), (l11_1).flatMap encP⟩]] := hM3_2.pick [1, 0, 2] (by decide) rfl
    refine O.callg [.pointer (ofs (bl gr) (0)), .slice (bl b3_2) (([99, 0, 100]).length) (3)] rfl en68 (by first | rfl | (rw [show ([99, 0, 100]).length = 3 from (by first | rfl | (simp; done) | omega | (simp; omega))]; rfl)) rfl (one_fn gr rA rc rl (q11_1 + 1) (bl b3_2) 3 [99, 0, 100] w3_2 (hrA.atR hMf3_3 hro) hro hrl (hMf3_3.rd 1 rfl) (Off.of_ng (hMf3_3.ng 1 0 (by decide) rfl rfl)) (Mem.focus (Ma := [[⟨.slice (bl gr) 1 1, 81, 2, 1, [.slice (rA) ((rl).length) (rc), I (((q11_1 + 1 : Nat) : Int))]⟩]]) (rest := [[⟨.slice (bl b3_2) (3) (3), 3, 1, 3, ([99, 0, 100]).map I⟩], [⟨.slice (A11_1) ((l11_1).length) (c11_1), 53, 2, ((l11_1).length), (l11_1).flatMap encP⟩]]) hMf3_3 rfl) (by first | omega | assumption | (simp; omega) | simp | (intros; omega)) (by simp) (by simp)) ?_
    rintro _ w3_3 ⟨k3_3, rfl, hk3_3, hR3_3⟩
    have hM3_3 : Mem w w3_3 [some gr] [[⟨.slice (bl gr) 1 1, 81, 2, 1, [.slice (rA) ((rl).length) (rc), I ((((q11_1 + 1) + 1 : Nat) : Int))]⟩], [⟨.slice (bl b3_2) (3) (3), 3, 1, 3, ([99, 0, 100]).map I⟩], [⟨.slice (A11_1) ((l11_1).length) (c11_1), 53, 2, ((l11_1).length), (l11_1).flatMap encP⟩]] := Mem.call (Ma := [[⟨.slice (bl gr) 1 1, 81, 2, 1, [.slice (rA) ((rl).length) (rc), I (((q11_1 + 1 : Nat) : Int))]⟩]]) hMf3_3 hR3_3 rfl
    refine O.val (v := .pointer (ofs (bl gr) (0))) rfl (Ru.move rfl) rfl ?_
    refine O.mlit (sz := 1) (cs := [I (0), I (1001)]) hM3_3 rfl Try.underlying71 el3 rfl rfl rfl (by kernel_rfl) (by kernel_rfl) rfl rfl (fun w3_5 b3_5 hb3_5 (hM3_5 : Mem w w3_5 [some gr] [[⟨.slice (bl b3_5) (2) (2), 3, 1, 2, ([0, 1001]).map I⟩], [⟨.slice (bl gr) 1 1, 81, 2, 1, [.slice (rA) ((rl).length) (rc), I ((((q11_1 + 1) + 1 : Nat) : Int))]⟩], [⟨.slice (bl b3_2) (3) (3), 3, 1, 3, ([99, 0, 100]).map I⟩], [⟨.slice (A11_1) ((l11_1).length) (c11_1), 53, 2, ((l11_1).length), (l11_1).flatMap encP⟩]]) => ?_)
    have hMf3_6 : Mem w w3_5 [some gr] [[⟨.slice (bl gr) 1 1, 81, 2, 1, [.slice (rA) ((rl).length) (rc), I ((((q11_1 + 1) + 1 : Nat) : Int))]⟩], [⟨.slice (bl b3_5) (2) (2), 3, 1, 2, ([0, 1001]).map I⟩], [⟨.slice (bl b3_2) (3) (3), 3, 1, 3, ([99, 0, 100]).map I⟩], [⟨.slice (A11_1) ((l11_1).length) (c11_1), 53, 2, ((l11_1).length), (l11_1).flatMap encP⟩]] := hM3_5.pick [1, 0, 2, 3] (by decide) rfl
    refine O.callg [.pointer (ofs (bl gr) (0)), .slice (bl b3_5) (([0, 1001]).length) (2)] rfl en68 (by first | rfl | (rw [show ([0, 1001]).length = 2 from (by first | rfl | (simp; done) | omega | (simp; omega))]; rfl)) rfl (one_fn gr rA rc rl ((q11_1 + 1) + 1) (bl b3_5) 2 [0, 1001] w3_5 (hrA.atR hMf3_6 hro) hro hrl (hMf3_6.rd 1 rfl) (Off.of_ng (hMf3_6.ng 1 0 (by decide) rfl rfl)) (Mem.focus (Ma := [[⟨.slice (bl gr) 1 1, 81, 2, 1, [.slice (rA) ((rl).length) (rc), I ((((q11_1 + 1) + 1 : Nat) : Int))]⟩]]) (rest := [[⟨.slice (bl b3_5) (2) (2), 3, 1, 2, ([0, 1001]).map I⟩], [⟨.slice (bl b3_2) (3) (3), 3, 1, 3, ([99, 0, 100]).map I⟩], [⟨.slice (A11_1) ((l11_1).length) (c11_1), 53, 2, ((l11_1).length), (l11_1).flatMap encP⟩]]) hMf3_6 rfl) (by first | omega | assumption | (simp; omega) | simp | (intros; omega)) (by simp) (by simp)) ?_
    rintro _ w3_6 ⟨k3_6, rfl, hk3_6, hR3_6⟩
    have hM3_6 : Mem w w3_6 [some gr] [[⟨.slice (bl gr) 1 1, 81, 2, 1, [.slice (rA) ((rl).length) (rc), I (((((q11_1 + 1) + 1) + 1 : Nat) : Int))]⟩], [⟨.slice (bl b3_5) (2) (2), 3, 1, 2, ([0, 1001]).map I⟩], [⟨.slice (bl b3_2) (3) (3), 3, 1, 3, ([99, 0, 100]).map I⟩], [⟨.slice (A11_1) ((l11_1).length) (c11_1), 53, 2, ((l11_1).length), (l11_1).flatMap encP⟩]] := Mem.call (Ma := [[⟨.slice (bl gr) 1 1, 81, 2, 1, [.slice (rA) ((rl).length) (rc), I ((((q11_1 + 1) + 1 : Nat) : Int))]⟩]]) hMf3_6 hR3_6 rfl
    refine O.val (v := .agg #[I (k3_3), I (k3_6)]) rfl (Ru.build of53 rfl rfl rfl) rfl ?_
    refine O.mlit (sz := 2) (cs := [I (k3_3), I (k3_6)]) hM3_6 rfl Try.underlying36 el53 rfl rfl rfl (by kernel_rfl) (by kernel_rfl) rfl rfl (fun w3_8 b3_8 hb3_8 (hM3_8 : Mem w w3_8 [some gr] [[⟨.slice (bl b3_8) (1) (1), 53, 2, 1, ([(⟨k3_3, k3_6⟩ : PairT)]).flatMap encP⟩], [⟨.slice (bl gr) 1 1, 81, 2, 1, [.slice (rA) ((rl).length) (rc), I (((((q11_1 + 1) + 1) + 1 : Nat) : Int))]⟩], [⟨.slice (bl b3_5) (2) (2), 3, 1, 2, ([0, 1001]).map I⟩], [⟨.slice (bl b3_2) (3) (3), 3, 1, 3, ([99, 0, 100]).map I⟩], [⟨.slice (A11_1) ((l11_1).length) (c11_1), 53, 2, ((l11_1).length), (l11_1).flatMap encP⟩]]) => ?_)
    refine O.mappend (sz := 2) (news := ([(⟨k3_3, k3_6⟩ : PairT)]).flatMap encP) (m1 := (l11_1 ++ [(⟨k3_3, k3_6⟩ : PairT)]).length) (xs1 := (l11_1 ++ [(⟨k3_3, k3_6⟩ : PairT)]).flatMap encP) (M' := fun A3_9 c3_9 => [[⟨.slice (bl b3_8) (1) (1), 53, 2, 1, ([(⟨k3_3, k3_6⟩ : PairT)]).flatMap encP⟩], [⟨.slice (bl gr) 1 1, 81, 2, 1, [.slice (rA) ((rl).length) (rc), I (((((q11_1 + 1) + 1) + 1 : Nat) : Int))]⟩], [⟨.slice (bl b3_5) (2) (2), 3, 1, 2, ([0, 1001]).map I⟩], [⟨.slice (bl b3_2) (3) (3), 3, 1, 3, ([99, 0, 100]).map I⟩], [⟨.slice (A3_9) ((l11_1 ++ [(⟨k3_3, k3_6⟩ : PairT)]).length) (c3_9), 53, 2, ((l11_1 ++ [(⟨k3_3, k3_6⟩ : PairT)]).length), (l11_1 ++ [(⟨k3_3, k3_6⟩ : PairT)]).flatMap encP⟩]]) 4 0 hM3_8 rfl rfl rfl Try.underlying36 el53 ⟨rfl, by decide⟩ rfl rfl rfl (hM3_8.rd 0 rfl) (by rw [flat_len encP_len]; first | done | (simp; done) | (simp; omega)) (all_flat_one (fun _ => rfl) _) (by first | omega | (simp; omega)) (by first | omega | (simp; omega)) (by first | (simp; done) | (simp; omega)) (by simp) (fun _ _ => rfl) (fun w3_9 A3_9 c3_9 hc3_9 hM3_9 => ?_)
    try dsimp only at hM3_9
    refine O.val (v := .slice (A3_9) ((l11_1 ++ [(⟨k3_3, k3_6⟩ : PairT)]).length) (c3_9)) rfl (Ru.assign rfl) rfl ?_
    refine O.nil ?_
    refine C.seq ?_
    refine C.region ?_
    refine O.val (v := .slice (A3_9) ((l11_1 ++ [(⟨k3_3, k3_6⟩ : PairT)]).length) (c3_9)) rfl (Ru.move rfl) rfl ?_
    refine O.val (v := .slice (A3_9) ((l11_1 ++ [(⟨k3_3, k3_6⟩ : PairT)]).length) (c3_9)) rfl (Ru.assign rfl) rfl ?_
    refine O.nil ?_
    refine C.ret ?_
    refine P1 (v := .slice (A3_9) ((l11_1 ++ [(⟨k3_3, k3_6⟩ : PairT)]).length) (c3_9)) rfl ?_
    have hq1 : (l11_1 ++ [(⟨k3_3, k3_6⟩ : PairT)] : List PairT) = (l11_1 ++ [(⟨k3_3, k3_6⟩ : PairT)]) := (by first | rfl | simp | (simp; omega))
    have hMn1 : Mem w w3_9 [some gr] [[⟨.slice (bl b3_8) (1) (1), 53, 2, 1, ([(⟨k3_3, k3_6⟩ : PairT)]).flatMap encP⟩], [⟨.slice (bl gr) 1 1, 81, 2, 1, [.slice (rA) ((rl).length) (rc), I (((((q11_1 + 1) + 1) + 1 : Nat) : Int))]⟩], [⟨.slice (bl b3_5) (2) (2), 3, 1, 2, ([0, 1001]).map I⟩], [⟨.slice (bl b3_2) (3) (3), 3, 1, 3, ([99, 0, 100]).map I⟩], [⟨.slice (A3_9) ((l11_1 ++ [(⟨k3_3, k3_6⟩ : PairT)]).length) (c3_9), 53, 2, ((l11_1 ++ [(⟨k3_3, k3_6⟩ : PairT)]).length), ((l11_1 ++ [(⟨k3_3, k3_6⟩ : PairT)])).flatMap encP⟩]] := hM3_9.relen 4 (n' := (l11_1 ++ [(⟨k3_3, k3_6⟩ : PairT)]).length) (xs' := ((l11_1 ++ [(⟨k3_3, k3_6⟩ : PairT)])).flatMap encP) rfl (by first | rfl | exact congrArg List.length hq1 | (have hqq := congrArg List.length hq1; first | omega | (simp at hqq ⊢; omega)) | (simp; done) | (simp; omega)) (congrArg (fun z_ => (z_).flatMap encP) hq1) rfl
    exact ⟨l11_1 ++ [(⟨k3_3, k3_6⟩ : PairT)], A3_9, c3_9, _, (by first | rfl | exact sl_congr (by first | omega | (simp; done) | (simp; omega)) | (simp; done)), (by first | omega | (simp; omega)), (by omega), (hMn1.pick [1, 4] (by decide) rfl)⟩
  · refine C.skip ?_
    refine C.seq ?_
    refine C.region ?_
    refine O.val (v := .slice (A11_1) ((l11_1).length) (c11_1)) rfl (Ru.move rfl) rfl ?_
    refine O.val (v := .slice (A11_1) ((l11_1).length) (c11_1)) rfl (Ru.assign rfl) rfl ?_
    refine O.nil ?_
    refine C.ret ?_
    refine P1 (v := .slice (A11_1) ((l11_1).length) (c11_1)) rfl ?_
    exact ⟨l11_1, A11_1, c11_1, _, (by first | rfl | exact sl_congr (by first | omega | (simp; done) | (simp; omega)) | (simp; done)), (by first | omega | (simp; omega)), (by omega), (hM2_1.pick [0, 1] (by decide) rfl)⟩

theorem smallRow_fn (gr : Nat) (rA : Option Addr) (rc : Nat) (rl : List UInt8) (rq : Nat) (w : World) (hrA : Rd w rA (rl.map byteV)) (hro : Off rA (rl.map byteV) [some gr]) (hrl : rl.length ≤ 2000) (hM : Mem w w [some gr] [[⟨.slice (bl gr) 1 1, 81, 2, 1, [.slice (rA) ((rl).length) (rc), I (((rq : Nat) : Int))]⟩]]) (hrq : rq ≤ 999998500) :
    Does Try.prog 55 [.pointer (ofs (bl gr) (0))] w (fun v w1 => ∃ (l1 : List PairT) (A1 : Option Addr) (c1 : Nat) (q1 : Nat), v = .slice (A1) ((l1).length) (c1) ∧ (l1.length ≤ 26) ∧ (q1 ≤ rq + 260) ∧ Mem w w1 [some gr] [[⟨.slice (bl gr) 1 1, 81, 2, 1, [.slice (rA) ((rl).length) (rc), I (((q1 : Nat) : Int))]⟩], [⟨.slice (A1) ((l1).length) (c1), 53, 2, ((l1).length), (l1).flatMap encP⟩]]) := by
  refine Does.enter1 Try.func55 rfl Try.results55 Try.ntmps55 rfl ?_
  refine C.seq ?_
  refine C.region ?_
  refine O.val (v := .slice (none) (0) (0)) rfl (Ru.assign rfl) rfl ?_
  refine O.nil ?_
  refine C.seq ?_
  refine C.region ?_
  refine O.mlit (sz := 2) (cs := []) hM rfl Try.underlying36 el53 rfl rfl rfl (by kernel_rfl) (by kernel_rfl) rfl rfl (fun w1_0 b1_0 hb1_0 (hM1_0 : Mem w w1_0 [some gr] [[⟨.slice (bl b1_0) (0) (0), 53, 2, 0, ([]).flatMap encP⟩], [⟨.slice (bl gr) 1 1, 81, 2, 1, [.slice (rA) ((rl).length) (rc), I (((rq : Nat) : Int))]⟩]]) => ?_)
  refine O.val (v := .slice (bl b1_0) (0) (0)) rfl (Ru.assign rfl) rfl ?_
  refine O.nil ?_
  refine C.seq ?_
  refine C.seq ?_
  refine C.region ?_
  refine O.val (v := .pointer (ofs (bl gr) (0))) rfl (Ru.move rfl) rfl ?_
  refine O.mlit (sz := 1) (cs := [I (3), I (6), I (1), I (0), I (10)]) hM1_0 rfl Try.underlying71 el3 rfl rfl rfl (by kernel_rfl) (by kernel_rfl) rfl rfl (fun w2_1 b2_1 hb2_1 (hM2_1 : Mem w w2_1 [some gr] [[⟨.slice (bl b2_1) (5) (5), 3, 1, 5, ([3, 6, 1, 0, 10]).map I⟩], [⟨.slice (bl b1_0) (0) (0), 53, 2, 0, ([]).flatMap encP⟩], [⟨.slice (bl gr) 1 1, 81, 2, 1, [.slice (rA) ((rl).length) (rc), I (((rq : Nat) : Int))]⟩]]) => ?_)
  have hMf2_2 : Mem w w2_1 [some gr] [[⟨.slice (bl gr) 1 1, 81, 2, 1, [.slice (rA) ((rl).length) (rc), I (((rq : Nat) : Int))]⟩], [⟨.slice (bl b2_1) (5) (5), 3, 1, 5, ([3, 6, 1, 0, 10]).map I⟩], [⟨.slice (bl b1_0) (0) (0), 53, 2, 0, ([]).flatMap encP⟩]] := hM2_1.pick [2, 0, 1] (by decide) rfl
  refine O.callg [.pointer (ofs (bl gr) (0)), .slice (bl b2_1) (([3, 6, 1, 0, 10]).length) (5)] rfl en68 (by first | rfl | (rw [show ([3, 6, 1, 0, 10]).length = 5 from (by first | rfl | (simp; done) | omega | (simp; omega))]; rfl)) rfl (one_fn gr rA rc rl rq (bl b2_1) 5 [3, 6, 1, 0, 10] w2_1 (hrA.atR hMf2_2 hro) hro hrl (hMf2_2.rd 1 rfl) (Off.of_ng (hMf2_2.ng 1 0 (by decide) rfl rfl)) (Mem.focus (Ma := [[⟨.slice (bl gr) 1 1, 81, 2, 1, [.slice (rA) ((rl).length) (rc), I (((rq : Nat) : Int))]⟩]]) (rest := [[⟨.slice (bl b2_1) (5) (5), 3, 1, 5, ([3, 6, 1, 0, 10]).map I⟩], [⟨.slice (bl b1_0) (0) (0), 53, 2, 0, ([]).flatMap encP⟩]]) hMf2_2 rfl) (by first | omega | assumption | (simp; omega) | simp | (intros; omega)) (by simp) (by simp)) ?_
  rintro _ w2_2 ⟨k2_2, rfl, hk2_2, hR2_2⟩
  have hM2_2 : Mem w w2_2 [some gr] [[⟨.slice (bl gr) 1 1, 81, 2, 1, [.slice (rA) ((rl).length) (rc), I (((rq + 1 : Nat) : Int))]⟩], [⟨.slice (bl b2_1) (5) (5), 3, 1, 5, ([3, 6, 1, 0, 10]).map I⟩], [⟨.slice (bl b1_0) (0) (0), 53, 2, 0, ([]).flatMap encP⟩]] := Mem.call (Ma := [[⟨.slice (bl gr) 1 1, 81, 2, 1, [.slice (rA) ((rl).length) (rc), I (((rq : Nat) : Int))]⟩]]) hMf2_2 hR2_2 rfl
  have hk0 := (by decide : ∀ k ∈ ([3, 6, 1, 0, 10] : List Int), 0 ≤ k ∧ k ≤ 10) _ hk2_2
  refine O.val (v := I (k2_2)) rfl (Ru.assign rfl) rfl ?_
  refine O.nil ?_
  refine C.block ?_
  have hq1 : ([] : List PairT) = ([] : List PairT) := (by first | rfl | simp | (simp; omega))
  have hMn1 : Mem w w2_2 [some gr] [[⟨.slice (bl gr) 1 1, 81, 2, 1, [.slice (rA) ((rl).length) (rc), I (((rq + 1 : Nat) : Int))]⟩], [⟨.slice (bl b2_1) (5) (5), 3, 1, 5, ([3, 6, 1, 0, 10]).map I⟩], [⟨.slice (bl b1_0) ((([] : List PairT)).length) (0), 53, 2, ((([] : List PairT)).length), (([] : List PairT)).flatMap encP⟩]] := hM2_2.relen 2 (n' := (([] : List PairT)).length) (xs' := (([] : List PairT)).flatMap encP) rfl (by first | rfl | exact congrArg List.length hq1 | (have hqq := congrArg List.length hq1; first | omega | (simp at hqq ⊢; omega)) | (simp; done) | (simp; omega)) (congrArg (fun z_ => (z_).flatMap encP) hq1) rfl
  refine C.loop (ι := Int × (List PairT) × (Option Addr) × Nat × Nat) (fun x_ => ([(0, .pointer (ofs (bl gr) (0))), (3, .slice (x_.2.2.1) ((x_.2.1).length) (x_.2.2.2.1)), (4, I (x_.1))] : List (Nat × Value))) (fun x_ w_ => (0 ≤ x_.1 ∧ x_.1 ≤ 10) ∧ (x_.2.2.2.2 + 2 * x_.1 ≤ rq + 21) ∧ (x_.2.1.length + x_.1 ≤ 10) ∧ (asc (keysP x_.2.1) = true) ∧ (Mem w w_ [some gr] [[⟨.slice (bl gr) 1 1, 81, 2, 1, [.slice (rA) ((rl).length) (rc), I (((x_.2.2.2.2 : Nat) : Int))]⟩], [⟨.slice (bl b2_1) (5) (5), 3, 1, 5, ([3, 6, 1, 0, 10]).map I⟩], [⟨.slice (x_.2.2.1) ((x_.2.1).length) (x_.2.2.2.1), 53, 2, ((x_.2.1).length), (x_.2.1).flatMap encP⟩]])) (fun x_ => x_.1.toNat) (k2_2, ([] : List PairT), bl b1_0, 0, (rq + 1)) (Has.cons rfl (Has.cons (sl_congr (by first | rfl | omega | (simp; done) | (simp; omega) | exact congrArg List.length hq1 | (simp [← hq1]; done) | (simp [← hq1]; omega))) (Has.cons rfl Has.nil))) ⟨(by (try dsimp only); first | omega | (simp; omega)), (by (try dsimp only); first | omega | (simp; omega)), (by (try dsimp only); first | omega | (simp; omega) | (simp; done)), (by (try dsimp only); rfl), (hMn1.pick [0, 1, 2] (by decide) rfl)⟩ (fun ⟨k, L, A2, c2, q⟩ σ w_l3 hI => ?_)
  try dsimp only at hI
  obtain ⟨hi0_l3, hi1_l3, hi2_l3, hi3_l3, hM_l3⟩ := hI
  have hcl1_l3 := (hM_l3.cap 1 rfl).1
  have hcl2_l3 := (hM_l3.cap 2 rfl).1
  obtain ⟨hk1, hk2⟩ := hi0_l3
  refine C.seq ?_
  refine C.seq ?_
  refine C.region ?_
  refine O.val (v := I (k)) rfl (Ru.move rfl) rfl ?_
  refine O.val (v := .bool (decide (k > 0))) rfl (Ru.gtr rfl rfl) rfl ?_
  refine O.nil ?_
  refine C.cond (p := k > 0) rfl (fun c10 => ?_) (fun c10 => ?_)
  · refine C.skip ?_
    refine C.seq ?_
    refine C.block ?_
    refine C.region ?_
    refine O.val (v := .slice (A2) ((L).length) (c2)) rfl (Ru.move rfl) rfl ?_
    refine O.val (v := .pointer (ofs (bl gr) (0))) rfl (Ru.move rfl) rfl ?_
    refine O.callg [.pointer (ofs (bl gr) (0)), I (12)] rfl en53 rfl rfl (pick_fn gr rA rc rl q 12 w_l3 (hrA.atR hM_l3 hro) hro hrl (Mem.focus (Ma := [[⟨.slice (bl gr) 1 1, 81, 2, 1, [.slice (rA) ((rl).length) (rc), I (((q : Nat) : Int))]⟩]]) (rest := [[⟨.slice (bl b2_1) (5) (5), 3, 1, 5, ([3, 6, 1, 0, 10]).map I⟩], [⟨.slice (A2) ((L).length) (c2), 53, 2, ((L).length), (L).flatMap encP⟩]]) hM_l3 rfl) (by first | omega | assumption | (simp; omega) | simp | (intros; omega))) ?_
    rintro _ w5_2 ⟨k5_2, rfl, hk5_2, hR5_2⟩
    have hM5_2 : Mem w w5_2 [some gr] [[⟨.slice (bl gr) 1 1, 81, 2, 1, [.slice (rA) ((rl).length) (rc), I (((q + 1 : Nat) : Int))]⟩], [⟨.slice (bl b2_1) (5) (5), 3, 1, 5, ([3, 6, 1, 0, 10]).map I⟩], [⟨.slice (A2) ((L).length) (c2), 53, 2, ((L).length), (L).flatMap encP⟩]] := Mem.call (Ma := [[⟨.slice (bl gr) 1 1, 81, 2, 1, [.slice (rA) ((rl).length) (rc), I (((q : Nat) : Int))]⟩]]) hM_l3 hR5_2 rfl
    refine O.val (v := .pointer (ofs (bl gr) (0))) rfl (Ru.move rfl) rfl ?_
    refine O.callg [.pointer (ofs (bl gr) (0)), I (100)] rfl en53 rfl rfl (pick_fn gr rA rc rl (q + 1) 100 w5_2 (hrA.atR hM5_2 hro) hro hrl (Mem.focus (Ma := [[⟨.slice (bl gr) 1 1, 81, 2, 1, [.slice (rA) ((rl).length) (rc), I (((q + 1 : Nat) : Int))]⟩]]) (rest := [[⟨.slice (bl b2_1) (5) (5), 3, 1, 5, ([3, 6, 1, 0, 10]).map I⟩], [⟨.slice (A2) ((L).length) (c2), 53, 2, ((L).length), (L).flatMap encP⟩]]) hM5_2 rfl) (by first | omega | assumption | (simp; omega) | simp | (intros; omega))) ?_
    rintro _ w5_4 ⟨k5_4, rfl, hk5_4, hR5_4⟩
    have hM5_4 : Mem w w5_4 [some gr] [[⟨.slice (bl gr) 1 1, 81, 2, 1, [.slice (rA) ((rl).length) (rc), I ((((q + 1) + 1 : Nat) : Int))]⟩], [⟨.slice (bl b2_1) (5) (5), 3, 1, 5, ([3, 6, 1, 0, 10]).map I⟩], [⟨.slice (A2) ((L).length) (c2), 53, 2, ((L).length), (L).flatMap encP⟩]] := Mem.call (Ma := [[⟨.slice (bl gr) 1 1, 81, 2, 1, [.slice (rA) ((rl).length) (rc), I (((q + 1 : Nat) : Int))]⟩]]) hM5_2 hR5_4 rfl
    refine O.val (v := .agg #[I (k5_2), I (k5_4)]) rfl (Ru.build of53 rfl rfl rfl) rfl ?_
    refine O.callg [.slice (A2) ((L).length) (c2), .agg #[I (k5_2), I (k5_4)]] rfl en72 rfl rfl (sput_fn A2 c2 L (⟨k5_2, k5_4⟩ : PairT) w5_4 (hM5_4.rd 2 rfl) (by omega) (by exact hi3_l3) (by omega)) ?_
    rintro _ w5_6 ⟨A15_6, c15_6, rfl, hR5_6⟩
    have hM5_6 : Mem w w5_6 [some gr] [[⟨.slice (A15_6) ((putP L (⟨k5_2, k5_4⟩ : PairT)).length) (c15_6), 53, 2, ((putP L (⟨k5_2, k5_4⟩ : PairT)).length), (putP L (⟨k5_2, k5_4⟩ : PairT)).flatMap encP⟩], [⟨.slice (bl gr) 1 1, 81, 2, 1, [.slice (rA) ((rl).length) (rc), I ((((q + 1) + 1 : Nat) : Int))]⟩], [⟨.slice (bl b2_1) (5) (5), 3, 1, 5, ([3, 6, 1, 0, 10]).map I⟩], [⟨.slice (A2) ((L).length) (c2), 53, 2, ((L).length), (L).flatMap encP⟩]] := Mem.call (Ma := []) hM5_4 hR5_6 rfl
    have hcr5_6_0 := (hM5_6.cap 0 rfl).1
    refine O.val (v := .slice (A15_6) ((putP L (⟨k5_2, k5_4⟩ : PairT)).length) (c15_6)) rfl (Ru.assign rfl) rfl ?_
    refine O.nil ?_
    refine C.region ?_
    refine O.val (v := I (k)) rfl (Ru.move rfl) rfl ?_
    refine O.val (v := I ((k - 1))) rfl (Ru.sub rfl rfl (by omega)) rfl ?_
    refine O.val (v := I ((k - 1))) rfl (Ru.assign rfl) rfl ?_
    refine O.nil ?_
    have hq2 : (putP L (⟨k5_2, k5_4⟩ : PairT) : List PairT) = (putP L (⟨k5_2, k5_4⟩ : PairT)) := (by first | rfl | simp | (simp; omega))
    have hMn2 : Mem w w5_6 [some gr] [[⟨.slice (A15_6) (((putP L (⟨k5_2, k5_4⟩ : PairT))).length) (c15_6), 53, 2, (((putP L (⟨k5_2, k5_4⟩ : PairT))).length), ((putP L (⟨k5_2, k5_4⟩ : PairT))).flatMap encP⟩], [⟨.slice (bl gr) 1 1, 81, 2, 1, [.slice (rA) ((rl).length) (rc), I ((((q + 1) + 1 : Nat) : Int))]⟩], [⟨.slice (bl b2_1) (5) (5), 3, 1, 5, ([3, 6, 1, 0, 10]).map I⟩], [⟨.slice (A2) ((L).length) (c2), 53, 2, ((L).length), (L).flatMap encP⟩]] := hM5_6.relen 0 (n' := ((putP L (⟨k5_2, k5_4⟩ : PairT))).length) (xs' := ((putP L (⟨k5_2, k5_4⟩ : PairT))).flatMap encP) rfl (by first | rfl | exact congrArg List.length hq2 | (have hqq := congrArg List.length hq2; first | omega | (simp at hqq ⊢; omega)) | (simp; done) | (simp; omega)) (congrArg (fun z_ => (z_).flatMap encP) hq2) rfl
    simp only [blkQ]
    exact loopEnd (k - 1, putP L (⟨k5_2, k5_4⟩ : PairT), A15_6, c15_6, ((q + 1) + 1)) (by (try dsimp only); omega) (Has.cons rfl (Has.cons rfl (Has.cons (I_congr (by first | rfl | omega | (simp; omega) | simp)) Has.nil))) ⟨(by (try dsimp only); omega), (by (try dsimp only); omega), (by (try dsimp only); first | omega | (simp; omega) | (have h9 := put_len (l := L) (x := ⟨k5_2, k5_4⟩); omega)), (by (try dsimp only); first | exact hi3_l3 | exact put_keys_pair hi3_l3 _), (hMn2.pick [1, 2, 0] (by decide) rfl)⟩
  · refine C.exit ?_
    refine C.seq ?_
    refine C.seq ?_
    refine C.region ?_
    refine O.val (v := .pointer (ofs (bl gr) (0))) rfl (Ru.move rfl) rfl ?_
    refine O.callg [.pointer (ofs (bl gr) (0)), I (20)] rfl en53 rfl rfl (pick_fn gr rA rc rl q 20 w_l3 (hrA.atR hM_l3 hro) hro hrl (Mem.focus (Ma := [[⟨.slice (bl gr) 1 1, 81, 2, 1, [.slice (rA) ((rl).length) (rc), I (((q : Nat) : Int))]⟩]]) (rest := [[⟨.slice (bl b2_1) (5) (5), 3, 1, 5, ([3, 6, 1, 0, 10]).map I⟩], [⟨.slice (A2) ((L).length) (c2), 53, 2, ((L).length), (L).flatMap encP⟩]]) hM_l3 rfl) (by first | omega | assumption | (simp; omega) | simp | (intros; omega))) ?_
    rintro _ w6_1 ⟨k6_1, rfl, hk6_1, hR6_1⟩
    have hM6_1 : Mem w w6_1 [some gr] [[⟨.slice (bl gr) 1 1, 81, 2, 1, [.slice (rA) ((rl).length) (rc), I (((q + 1 : Nat) : Int))]⟩], [⟨.slice (bl b2_1) (5) (5), 3, 1, 5, ([3, 6, 1, 0, 10]).map I⟩], [⟨.slice (A2) ((L).length) (c2), 53, 2, ((L).length), (L).flatMap encP⟩]] := Mem.call (Ma := [[⟨.slice (bl gr) 1 1, 81, 2, 1, [.slice (rA) ((rl).length) (rc), I (((q : Nat) : Int))]⟩]]) hM_l3 hR6_1 rfl
    refine O.val (v := .bool (decide (k6_1 = 0))) rfl (Ru.eql rfl rfl) rfl ?_
    refine O.nil ?_
    refine C.cond (p := k6_1 = 0) rfl (fun c22 => ?_) (fun c22 => ?_)
    · refine C.seq ?_
      refine C.region ?_
      refine O.val (v := .pointer (ofs (bl gr) (0))) rfl (Ru.move rfl) rfl ?_
      refine O.callg [.pointer (ofs (bl gr) (0))] rfl en54 rfl rfl (anyRow_fn gr rA rc rl (q + 1) w6_1 (hrA.atR hM6_1 hro) hro hrl (Mem.focus (Ma := [[⟨.slice (bl gr) 1 1, 81, 2, 1, [.slice (rA) ((rl).length) (rc), I (((q + 1 : Nat) : Int))]⟩]]) (rest := [[⟨.slice (bl b2_1) (5) (5), 3, 1, 5, ([3, 6, 1, 0, 10]).map I⟩], [⟨.slice (A2) ((L).length) (c2), 53, 2, ((L).length), (L).flatMap encP⟩]]) hM6_1 rfl) (by first | omega | assumption | (simp; omega) | simp | (intros; omega))) ?_
      rintro _ w7_1 ⟨l17_1, A17_1, c17_1, q17_1, rfl, hl7_1, hq7_1, hR7_1⟩
      have hM7_1 : Mem w w7_1 [some gr] [[⟨.slice (bl gr) 1 1, 81, 2, 1, [.slice (rA) ((rl).length) (rc), I (((q17_1 : Nat) : Int))]⟩], [⟨.slice (A17_1) ((l17_1).length) (c17_1), 53, 2, ((l17_1).length), (l17_1).flatMap encP⟩], [⟨.slice (bl b2_1) (5) (5), 3, 1, 5, ([3, 6, 1, 0, 10]).map I⟩], [⟨.slice (A2) ((L).length) (c2), 53, 2, ((L).length), (L).flatMap encP⟩]] := Mem.call (Ma := [[⟨.slice (bl gr) 1 1, 81, 2, 1, [.slice (rA) ((rl).length) (rc), I (((q + 1 : Nat) : Int))]⟩]]) hM6_1 hR7_1 rfl
      have hcr7_1_1 := (hM7_1.cap 1 rfl).1
      refine O.val (v := .slice (A17_1) ((l17_1).length) (c17_1)) rfl (Ru.assign rfl) rfl ?_
      refine O.nil ?_
      refine C.ret ?_
      refine P1 (v := .slice (A17_1) ((l17_1).length) (c17_1)) rfl ?_
      exact ⟨l17_1, A17_1, c17_1, _, (by first | rfl | exact sl_congr (by first | omega | (simp; done) | (simp; omega)) | (simp; done)), (by omega), (by omega), (hM7_1.pick [0, 1] (by decide) rfl)⟩
    · refine C.skip ?_
      refine C.seq ?_
      refine C.region ?_
      refine O.val (v := .slice (A2) ((L).length) (c2)) rfl (Ru.move rfl) rfl ?_
      refine O.val (v := .slice (A2) ((L).length) (c2)) rfl (Ru.assign rfl) rfl ?_
      refine O.nil ?_
      refine C.ret ?_
      refine P1 (v := .slice (A2) ((L).length) (c2)) rfl ?_
      exact ⟨L, A2, c2, _, (by first | rfl | exact sl_congr (by first | omega | (simp; done) | (simp; omega)) | (simp; done)), (by omega), (by omega), (hM6_1.pick [0, 2] (by decide) rfl)⟩

theorem DrawValidLog_fn (A : Option Addr) (c : Nat) (l : List UInt8) (w : World) (hA : Rd w A ((l).map byteV)) (hl : l.length ≤ 1048576) (hc : l.length ≤ c) :
    Does Try.prog 18 [.slice (A) ((l).length) (c)] w (fun v w1 => ∃ (l1 : List RecT) (A1 : Option Addr) (c1 : Nat), v = .slice (A1) ((l1).length) (c1) ∧ (l1.length ≤ 25) ∧ Mem w w1 [] [[⟨.slice (A1) ((l1).length) (c1), 34, 3, ((l1).length), (l1).flatMap encG⟩]]) := by
  have hM : Mem w w [] [] := Mem.refl
  refine Does.enter1 Try.func18 rfl Try.results18 Try.ntmps18 rfl ?_
  refine C.seq ?_
  refine C.region ?_
  refine O.val (v := .slice (none) (0) (0)) rfl (Ru.assign rfl) rfl ?_
  refine O.nil ?_
  refine C.seq ?_
  refine C.region ?_
  refine O.val (v := .slice (A) ((l).length) (c)) rfl (Ru.move rfl) rfl ?_
  refine O.callg [.slice (A) ((l).length) (c)] rfl en46 rfl rfl (newReader_fn A c l w (hA.at hM) (by first | omega | assumption | (simp; omega) | simp | (intros; omega)) (by first | omega | assumption | (simp; omega) | simp | (intros; omega))) ?_
  rintro _ w1_1 ⟨gr1_1, l11_1, rfl, hl11_1, hlen1_1, hR1_1⟩
  have hM1_1 : Mem w w1_1 [] [[⟨.slice (bl gr1_1) 1 1, 81, 2, 1, [.slice (A) ((l11_1).length) (c), I (((0 : Nat) : Int))]⟩]] := Mem.call (Ma := []) hM hR1_1 rfl
  have hrA : Rd w A (List.map byteV l11_1) := by rcases hl11_1 with h | h <;> rw [h]; exact hA; exact rd_take1 hA
  have hrl := hlen1_1
  refine O.callg [.pointer (ofs (bl gr1_1) (0))] rfl en45 rfl rfl (someLog_fn gr1_1 A c l11_1 0 w1_1 (hrA.at hM1_1) (Mem.ng_old hM1_1 hrA 0 rfl) hrl (Mem.focus (Ma := [[⟨.slice (bl gr1_1) 1 1, 81, 2, 1, [.slice (A) ((l11_1).length) (c), I (((0 : Nat) : Int))]⟩]]) (rest := []) hM1_1 rfl) (by first | omega | assumption | (simp; omega) | simp | (intros; omega))) ?_
  rintro _ w1_2 ⟨l11_2, A11_2, c11_2, q11_2, rfl, hl1_2, hq1_2, hR1_2⟩
  have hM1_2 : Mem w w1_2 [] [[⟨.slice (bl gr1_1) 1 1, 81, 2, 1, [.slice (A) ((l11_1).length) (c), I (((q11_2 : Nat) : Int))]⟩], [⟨.slice (A11_2) ((l11_2).length) (c11_2), 34, 3, ((l11_2).length), (l11_2).flatMap encG⟩]] := Mem.call (Ma := [[⟨.slice (bl gr1_1) 1 1, 81, 2, 1, [.slice (A) ((l11_1).length) (c), I (((0 : Nat) : Int))]⟩]]) hM1_1 hR1_2 rfl
  have hcr1_2_1 := (hM1_2.cap 1 rfl).1
  refine O.val (v := .slice (A11_2) ((l11_2).length) (c11_2)) rfl (Ru.assign rfl) rfl ?_
  refine O.nil ?_
  refine C.ret ?_
  refine P1 (v := .slice (A11_2) ((l11_2).length) (c11_2)) rfl ?_
  exact ⟨l11_2, A11_2, c11_2, (by first | rfl | exact sl_congr (by first | omega | (simp; done) | (simp; omega)) | (simp; done)), (by omega), (hM1_2.pick [1] (by decide) rfl)⟩

theorem DrawShortLog_fn (A : Option Addr) (c : Nat) (l : List UInt8) (w : World) (hA : Rd w A ((l).map byteV)) (hl : l.length ≤ 1048576) (hc : l.length ≤ c) :
    Does Try.prog 24 [.slice (A) ((l).length) (c)] w (fun v w1 => ∃ (l1 : List RecT) (A1 : Option Addr) (c1 : Nat), v = .slice (A1) ((l1).length) (c1) ∧ (l1.length ≤ 25) ∧ Mem w w1 [] [[⟨.slice (A1) ((l1).length) (c1), 34, 3, ((l1).length), (l1).flatMap encG⟩]]) := by
  have hM : Mem w w [] [] := Mem.refl
  refine Does.enter1 Try.func24 rfl Try.results24 Try.ntmps24 rfl ?_
  refine C.seq ?_
  refine C.region ?_
  refine O.val (v := .slice (none) (0) (0)) rfl (Ru.assign rfl) rfl ?_
  refine O.nil ?_
  refine C.seq ?_
  refine C.region ?_
  refine O.val (v := .slice (A) ((l).length) (c)) rfl (Ru.move rfl) rfl ?_
  refine O.callg [.slice (A) ((l).length) (c)] rfl en46 rfl rfl (newReader_fn A c l w (hA.at hM) (by first | omega | assumption | (simp; omega) | simp | (intros; omega)) (by first | omega | assumption | (simp; omega) | simp | (intros; omega))) ?_
  rintro _ w1_1 ⟨gr1_1, l11_1, rfl, hl11_1, hlen1_1, hR1_1⟩
  have hM1_1 : Mem w w1_1 [] [[⟨.slice (bl gr1_1) 1 1, 81, 2, 1, [.slice (A) ((l11_1).length) (c), I (((0 : Nat) : Int))]⟩]] := Mem.call (Ma := []) hM hR1_1 rfl
  have hrA : Rd w A (List.map byteV l11_1) := by rcases hl11_1 with h | h <;> rw [h]; exact hA; exact rd_take1 hA
  have hrl := hlen1_1
  refine O.callg [.pointer (ofs (bl gr1_1) (0))] rfl en45 rfl rfl (someLog_fn gr1_1 A c l11_1 0 w1_1 (hrA.at hM1_1) (Mem.ng_old hM1_1 hrA 0 rfl) hrl (Mem.focus (Ma := [[⟨.slice (bl gr1_1) 1 1, 81, 2, 1, [.slice (A) ((l11_1).length) (c), I (((0 : Nat) : Int))]⟩]]) (rest := []) hM1_1 rfl) (by first | omega | assumption | (simp; omega) | simp | (intros; omega))) ?_
  rintro _ w1_2 ⟨l11_2, A11_2, c11_2, q11_2, rfl, hl1_2, hq1_2, hR1_2⟩
  have hM1_2 : Mem w w1_2 [] [[⟨.slice (bl gr1_1) 1 1, 81, 2, 1, [.slice (A) ((l11_1).length) (c), I (((q11_2 : Nat) : Int))]⟩], [⟨.slice (A11_2) ((l11_2).length) (c11_2), 34, 3, ((l11_2).length), (l11_2).flatMap encG⟩]] := Mem.call (Ma := [[⟨.slice (bl gr1_1) 1 1, 81, 2, 1, [.slice (A) ((l11_1).length) (c), I (((0 : Nat) : Int))]⟩]]) hM1_1 hR1_2 rfl
  have hcr1_2_1 := (hM1_2.cap 1 rfl).1
  refine O.val (v := .slice (A11_2) ((l11_2).length) (c11_2)) rfl (Ru.assign rfl) rfl ?_
  refine O.nil ?_
  refine C.ret ?_
  refine P1 (v := .slice (A11_2) ((l11_2).length) (c11_2)) rfl ?_
  exact ⟨l11_2, A11_2, c11_2, (by first | rfl | exact sl_congr (by first | omega | (simp; done) | (simp; omega)) | (simp; done)), (by omega), (hM1_2.pick [1] (by decide) rfl)⟩

theorem DrawReplayLog_fn (A : Option Addr) (c : Nat) (l : List UInt8) (w : World) (hA : Rd w A ((l).map byteV)) (hl : l.length ≤ 1048576) (hc : l.length ≤ c) :
    Does Try.prog 38 [.slice (A) ((l).length) (c)] w (fun v w1 => ∃ (l1 : List PairT) (A1 : Option Addr) (c1 : Nat) (l2 : List RecT) (A2 : Option Addr) (c2 : Nat), v = .tuple #[.slice (A1) ((l1).length) (c1), .slice (A2) ((l2).length) (c2)] ∧ (l1.length ≤ 26) ∧ (l2.length ≤ 26) ∧ Mem w w1 [] [[⟨.slice (A1) ((l1).length) (c1), 53, 2, ((l1).length), (l1).flatMap encP⟩], [⟨.slice (A2) ((l2).length) (c2), 34, 3, ((l2).length), (l2).flatMap encG⟩]]) := by
  have hM : Mem w w [] [] := Mem.refl
  refine Does.enter2 Try.func38 rfl Try.results38 Try.ntmps38 rfl ?_
  refine C.seq ?_
  refine C.region ?_
  refine O.val (v := .slice (none) (0) (0)) rfl (Ru.assign rfl) rfl ?_
  refine O.val (v := .slice (none) (0) (0)) rfl (Ru.assign rfl) rfl ?_
  refine O.nil ?_
  refine C.seq ?_
  refine C.region ?_
  refine O.val (v := .slice (A) ((l).length) (c)) rfl (Ru.move rfl) rfl ?_
  refine O.callg [.slice (A) ((l).length) (c)] rfl en46 rfl rfl (newReader_fn A c l w (hA.at hM) (by first | omega | assumption | (simp; omega) | simp | (intros; omega)) (by first | omega | assumption | (simp; omega) | simp | (intros; omega))) ?_
  rintro _ w1_1 ⟨gr1_1, l11_1, rfl, hl11_1, hlen1_1, hR1_1⟩
  have hM1_1 : Mem w w1_1 [] [[⟨.slice (bl gr1_1) 1 1, 81, 2, 1, [.slice (A) ((l11_1).length) (c), I (((0 : Nat) : Int))]⟩]] := Mem.call (Ma := []) hM hR1_1 rfl
  have hrA : Rd w A (List.map byteV l11_1) := by rcases hl11_1 with h | h <;> rw [h]; exact hA; exact rd_take1 hA
  have hrl := hlen1_1
  refine O.val (v := .pointer (ofs (bl gr1_1) (0))) rfl (Ru.assign rfl) rfl ?_
  refine O.nil ?_
  refine C.seq ?_
  refine C.region ?_
  refine O.val (v := .pointer (ofs (bl gr1_1) (0))) rfl (Ru.move rfl) rfl ?_
  refine O.callg [.pointer (ofs (bl gr1_1) (0))] rfl en55 rfl rfl (smallRow_fn gr1_1 A c l11_1 0 w1_1 (hrA.at hM1_1) (Mem.ng_old hM1_1 hrA 0 rfl) hrl (Mem.focus (Ma := [[⟨.slice (bl gr1_1) 1 1, 81, 2, 1, [.slice (A) ((l11_1).length) (c), I (((0 : Nat) : Int))]⟩]]) (rest := []) hM1_1 rfl) (by first | omega | assumption | (simp; omega) | simp | (intros; omega))) ?_
  rintro _ w2_1 ⟨l12_1, A12_1, c12_1, q12_1, rfl, hl2_1, hq2_1, hR2_1⟩
  have hM2_1 : Mem w w2_1 [] [[⟨.slice (bl gr1_1) 1 1, 81, 2, 1, [.slice (A) ((l11_1).length) (c), I (((q12_1 : Nat) : Int))]⟩], [⟨.slice (A12_1) ((l12_1).length) (c12_1), 53, 2, ((l12_1).length), (l12_1).flatMap encP⟩]] := Mem.call (Ma := [[⟨.slice (bl gr1_1) 1 1, 81, 2, 1, [.slice (A) ((l11_1).length) (c), I (((0 : Nat) : Int))]⟩]]) hM1_1 hR2_1 rfl
  have hcr2_1_1 := (hM2_1.cap 1 rfl).1
  refine O.val (v := .slice (A12_1) ((l12_1).length) (c12_1)) rfl (Ru.assign rfl) rfl ?_
  refine O.nil ?_
  refine C.seq ?_
  refine C.seq ?_
  refine C.region ?_
  refine O.val (v := .pointer (ofs (bl gr1_1) (0))) rfl (Ru.move rfl) rfl ?_
  refine O.callg [.pointer (ofs (bl gr1_1) (0)), I (4)] rfl en53 rfl rfl (pick_fn gr1_1 A c l11_1 q12_1 4 w2_1 (hrA.at hM2_1) (Mem.ng_old hM2_1 hrA 0 rfl) hrl (Mem.focus (Ma := [[⟨.slice (bl gr1_1) 1 1, 81, 2, 1, [.slice (A) ((l11_1).length) (c), I (((q12_1 : Nat) : Int))]⟩]]) (rest := [[⟨.slice (A12_1) ((l12_1).length) (c12_1), 53, 2, ((l12_1).length), (l12_1).flatMap encP⟩]]) hM2_1 rfl) (by first | omega | assumption | (simp; omega) | simp | (intros; omega))) ?_
  rintro _ w3_1 ⟨k3_1, rfl, hk3_1, hR3_1⟩
  have hM3_1 : Mem w w3_1 [] [[⟨.slice (bl gr1_1) 1 1, 81, 2, 1, [.slice (A) ((l11_1).length) (c), I (((q12_1 + 1 : Nat) : Int))]⟩], [⟨.slice (A12_1) ((l12_1).length) (c12_1), 53, 2, ((l12_1).length), (l12_1).flatMap encP⟩]] := Mem.call (Ma := [[⟨.slice (bl gr1_1) 1 1, 81, 2, 1, [.slice (A) ((l11_1).length) (c), I (((q12_1 : Nat) : Int))]⟩]]) hM2_1 hR3_1 rfl
  refine O.val (v := .bool (decide (k3_1 = 0))) rfl (Ru.eql rfl rfl) rfl ?_
  refine O.nil ?_
  refine C.cond (p := k3_1 = 0) rfl (fun c12 => ?_) (fun c12 => ?_)
  · refine C.region ?_
    refine O.val (v := .pointer (ofs (bl gr1_1) (0))) rfl (Ru.move rfl) rfl ?_
    refine O.callg [.pointer (ofs (bl gr1_1) (0))] rfl en54 rfl rfl (anyRow_fn gr1_1 A c l11_1 (q12_1 + 1) w3_1 (hrA.at hM3_1) (Mem.ng_old hM3_1 hrA 0 rfl) hrl (Mem.focus (Ma := [[⟨.slice (bl gr1_1) 1 1, 81, 2, 1, [.slice (A) ((l11_1).length) (c), I (((q12_1 + 1 : Nat) : Int))]⟩]]) (rest := [[⟨.slice (A12_1) ((l12_1).length) (c12_1), 53, 2, ((l12_1).length), (l12_1).flatMap encP⟩]]) hM3_1 rfl) (by first | omega | assumption | (simp; omega) | simp | (intros; omega))) ?_
    rintro _ w4_1 ⟨l14_1, A14_1, c14_1, q14_1, rfl, hl4_1, hq4_1, hR4_1⟩
    have hM4_1 : Mem w w4_1 [] [[⟨.slice (bl gr1_1) 1 1, 81, 2, 1, [.slice (A) ((l11_1).length) (c), I (((q14_1 : Nat) : Int))]⟩], [⟨.slice (A14_1) ((l14_1).length) (c14_1), 53, 2, ((l14_1).length), (l14_1).flatMap encP⟩], [⟨.slice (A12_1) ((l12_1).length) (c12_1), 53, 2, ((l12_1).length), (l12_1).flatMap encP⟩]] := Mem.call (Ma := [[⟨.slice (bl gr1_1) 1 1, 81, 2, 1, [.slice (A) ((l11_1).length) (c), I (((q12_1 + 1 : Nat) : Int))]⟩]]) hM3_1 hR4_1 rfl
    have hcr4_1_1 := (hM4_1.cap 1 rfl).1
    refine O.val (v := .slice (A14_1) ((l14_1).length) (c14_1)) rfl (Ru.assign rfl) rfl ?_
    refine O.nil ?_
    refine C.seq ?_
    refine C.region ?_
    refine O.val (v := .slice (A14_1) ((l14_1).length) (c14_1)) rfl (Ru.move rfl) rfl ?_
    refine O.val (v := .pointer (ofs (bl gr1_1) (0))) rfl (Ru.move rfl) rfl ?_
    refine O.callg [.pointer (ofs (bl gr1_1) (0))] rfl en45 rfl rfl (someLog_fn gr1_1 A c l11_1 q14_1 w4_1 (hrA.at hM4_1) (Mem.ng_old hM4_1 hrA 0 rfl) hrl (Mem.focus (Ma := [[⟨.slice (bl gr1_1) 1 1, 81, 2, 1, [.slice (A) ((l11_1).length) (c), I (((q14_1 : Nat) : Int))]⟩]]) (rest := [[⟨.slice (A14_1) ((l14_1).length) (c14_1), 53, 2, ((l14_1).length), (l14_1).flatMap encP⟩], [⟨.slice (A12_1) ((l12_1).length) (c12_1), 53, 2, ((l12_1).length), (l12_1).flatMap encP⟩]]) hM4_1 rfl) (by first | omega | assumption | (simp; omega) | simp | (intros; omega))) ?_
    rintro _ w5_2 ⟨l15_2, A15_2, c15_2, q15_2, rfl, hl5_2, hq5_2, hR5_2⟩
    have hM5_2 : Mem w w5_2 [] [[⟨.slice (bl gr1_1) 1 1, 81, 2, 1, [.slice (A) ((l11_1).length) (c), I (((q15_2 : Nat) : Int))]⟩], [⟨.slice (A15_2) ((l15_2).length) (c15_2), 34, 3, ((l15_2).length), (l15_2).flatMap encG⟩], [⟨.slice (A14_1) ((l14_1).length) (c14_1), 53, 2, ((l14_1).length), (l14_1).flatMap encP⟩], [⟨.slice (A12_1) ((l12_1).length) (c12_1), 53, 2, ((l12_1).length), (l12_1).flatMap encP⟩]] := Mem.call (Ma := [[⟨.slice (bl gr1_1) 1 1, 81, 2, 1, [.slice (A) ((l11_1).length) (c), I (((q14_1 : Nat) : Int))]⟩]]) hM4_1 hR5_2 rfl
    have hcr5_2_1 := (hM5_2.cap 1 rfl).1
    refine O.val (v := .slice (A14_1) ((l14_1).length) (c14_1)) rfl (Ru.assign rfl) rfl ?_
    refine O.val (v := .slice (A15_2) ((l15_2).length) (c15_2)) rfl (Ru.assign rfl) rfl ?_
    refine O.nil ?_
    refine C.ret ?_
    refine P2 (v := .slice (A14_1) ((l14_1).length) (c14_1)) (v' := .slice (A15_2) ((l15_2).length) (c15_2)) rfl rfl ?_
    exact ⟨l14_1, A14_1, c14_1, l15_2, A15_2, c15_2, (by first | rfl | exact sl_congr (by first | omega | (simp; done) | (simp; omega)) | (simp; done)), (by omega), (by omega), (hM5_2.pick [2, 1] (by decide) rfl)⟩
  · refine C.skip ?_
    refine C.seq ?_
    refine C.region ?_
    refine O.val (v := .slice (A12_1) ((l12_1).length) (c12_1)) rfl (Ru.move rfl) rfl ?_
    refine O.val (v := .pointer (ofs (bl gr1_1) (0))) rfl (Ru.move rfl) rfl ?_
    refine O.callg [.pointer (ofs (bl gr1_1) (0))] rfl en45 rfl rfl (someLog_fn gr1_1 A c l11_1 (q12_1 + 1) w3_1 (hrA.at hM3_1) (Mem.ng_old hM3_1 hrA 0 rfl) hrl (Mem.focus (Ma := [[⟨.slice (bl gr1_1) 1 1, 81, 2, 1, [.slice (A) ((l11_1).length) (c), I (((q12_1 + 1 : Nat) : Int))]⟩]]) (rest := [[⟨.slice (A12_1) ((l12_1).length) (c12_1), 53, 2, ((l12_1).length), (l12_1).flatMap encP⟩]]) hM3_1 rfl) (by first | omega | assumption | (simp; omega) | simp | (intros; omega))) ?_
    rintro _ w5_2 ⟨l15_2, A15_2, c15_2, q15_2, rfl, hl5_2, hq5_2, hR5_2⟩
    have hM5_2 : Mem w w5_2 [] [[⟨.slice (bl gr1_1) 1 1, 81, 2, 1, [.slice (A) ((l11_1).length) (c), I (((q15_2 : Nat) : Int))]⟩], [⟨.slice (A15_2) ((l15_2).length) (c15_2), 34, 3, ((l15_2).length), (l15_2).flatMap encG⟩], [⟨.slice (A12_1) ((l12_1).length) (c12_1), 53, 2, ((l12_1).length), (l12_1).flatMap encP⟩]] := Mem.call (Ma := [[⟨.slice (bl gr1_1) 1 1, 81, 2, 1, [.slice (A) ((l11_1).length) (c), I (((q12_1 + 1 : Nat) : Int))]⟩]]) hM3_1 hR5_2 rfl
    have hcr5_2_1 := (hM5_2.cap 1 rfl).1
    refine O.val (v := .slice (A12_1) ((l12_1).length) (c12_1)) rfl (Ru.assign rfl) rfl ?_
    refine O.val (v := .slice (A15_2) ((l15_2).length) (c15_2)) rfl (Ru.assign rfl) rfl ?_
    refine O.nil ?_
    refine C.ret ?_
    refine P2 (v := .slice (A12_1) ((l12_1).length) (c12_1)) (v' := .slice (A15_2) ((l15_2).length) (c15_2)) rfl rfl ?_
    exact ⟨l12_1, A12_1, c12_1, l15_2, A15_2, c15_2, (by first | rfl | exact sl_congr (by first | omega | (simp; done) | (simp; omega)) | (simp; done)), (by omega), (by omega), (hM5_2.pick [2, 1] (by decide) rfl)⟩

theorem DrawLogBetween_fn (A : Option Addr) (c : Nat) (l : List UInt8) (w : World) (hA : Rd w A ((l).map byteV)) (hl : l.length ≤ 1048576) (hc : l.length ≤ c) :
    Does Try.prog 30 [.slice (A) ((l).length) (c)] w (fun v w1 => ∃ (l1 : List PairT) (A1 : Option Addr) (c1 : Nat) (l2 : List PairT) (A2 : Option Addr) (c2 : Nat), v = .tuple #[.slice (A1) ((l1).length) (c1), .slice (A2) ((l2).length) (c2)] ∧ (l1.length ≤ 26) ∧ (l2.length ≤ 26) ∧ Mem w w1 [] [[⟨.slice (A1) ((l1).length) (c1), 53, 2, ((l1).length), (l1).flatMap encP⟩], [⟨.slice (A2) ((l2).length) (c2), 53, 2, ((l2).length), (l2).flatMap encP⟩]]) := by
  have hM : Mem w w [] [] := Mem.refl
  refine Does.enter2 Try.func30 rfl Try.results30 Try.ntmps30 rfl ?_
  refine C.seq ?_
  refine C.region ?_
  refine O.val (v := .slice (none) (0) (0)) rfl (Ru.assign rfl) rfl ?_
  refine O.val (v := .slice (none) (0) (0)) rfl (Ru.assign rfl) rfl ?_
  refine O.nil ?_
  refine C.seq ?_
  refine C.region ?_
  refine O.val (v := .slice (A) ((l).length) (c)) rfl (Ru.move rfl) rfl ?_
  refine O.callg [.slice (A) ((l).length) (c)] rfl en46 rfl rfl (newReader_fn A c l w (hA.at hM) (by first | omega | assumption | (simp; omega) | simp | (intros; omega)) (by first | omega | assumption | (simp; omega) | simp | (intros; omega))) ?_
  rintro _ w1_1 ⟨gr1_1, l11_1, rfl, hl11_1, hlen1_1, hR1_1⟩
  have hM1_1 : Mem w w1_1 [] [[⟨.slice (bl gr1_1) 1 1, 81, 2, 1, [.slice (A) ((l11_1).length) (c), I (((0 : Nat) : Int))]⟩]] := Mem.call (Ma := []) hM hR1_1 rfl
  have hrA : Rd w A (List.map byteV l11_1) := by rcases hl11_1 with h | h <;> rw [h]; exact hA; exact rd_take1 hA
  have hrl := hlen1_1
  refine O.val (v := .pointer (ofs (bl gr1_1) (0))) rfl (Ru.assign rfl) rfl ?_
  refine O.nil ?_
  refine C.seq ?_
  refine C.seq ?_
  refine C.region ?_
  refine O.val (v := .pointer (ofs (bl gr1_1) (0))) rfl (Ru.move rfl) rfl ?_
  refine O.callg [.pointer (ofs (bl gr1_1) (0)), I (3)] rfl en53 rfl rfl (pick_fn gr1_1 A c l11_1 0 3 w1_1 (hrA.at hM1_1) (Mem.ng_old hM1_1 hrA 0 rfl) hrl (Mem.focus (Ma := [[⟨.slice (bl gr1_1) 1 1, 81, 2, 1, [.slice (A) ((l11_1).length) (c), I (((0 : Nat) : Int))]⟩]]) (rest := []) hM1_1 rfl) (by first | omega | assumption | (simp; omega) | simp | (intros; omega))) ?_
  rintro _ w2_1 ⟨k2_1, rfl, hk2_1, hR2_1⟩
  have hM2_1 : Mem w w2_1 [] [[⟨.slice (bl gr1_1) 1 1, 81, 2, 1, [.slice (A) ((l11_1).length) (c), I (((0 + 1 : Nat) : Int))]⟩]] := Mem.call (Ma := [[⟨.slice (bl gr1_1) 1 1, 81, 2, 1, [.slice (A) ((l11_1).length) (c), I (((0 : Nat) : Int))]⟩]]) hM1_1 hR2_1 rfl
  refine O.val (v := .bool (decide (k2_1 = 0))) rfl (Ru.eql rfl rfl) rfl ?_
  refine O.nil ?_
  refine C.cond (p := k2_1 = 0) rfl (fun c11 => ?_) (fun c11 => ?_)
  · refine C.seq ?_
    refine C.region ?_
    refine O.val (v := .pointer (ofs (bl gr1_1) (0))) rfl (Ru.move rfl) rfl ?_
    refine O.callg [.pointer (ofs (bl gr1_1) (0))] rfl en54 rfl rfl (anyRow_fn gr1_1 A c l11_1 (0 + 1) w2_1 (hrA.at hM2_1) (Mem.ng_old hM2_1 hrA 0 rfl) hrl (Mem.focus (Ma := [[⟨.slice (bl gr1_1) 1 1, 81, 2, 1, [.slice (A) ((l11_1).length) (c), I (((0 + 1 : Nat) : Int))]⟩]]) (rest := []) hM2_1 rfl) (by first | omega | assumption | (simp; omega) | simp | (intros; omega))) ?_
    rintro _ w3_1 ⟨l13_1, A13_1, c13_1, q13_1, rfl, hl3_1, hq3_1, hR3_1⟩
    have hM3_1 : Mem w w3_1 [] [[⟨.slice (bl gr1_1) 1 1, 81, 2, 1, [.slice (A) ((l11_1).length) (c), I (((q13_1 : Nat) : Int))]⟩], [⟨.slice (A13_1) ((l13_1).length) (c13_1), 53, 2, ((l13_1).length), (l13_1).flatMap encP⟩]] := Mem.call (Ma := [[⟨.slice (bl gr1_1) 1 1, 81, 2, 1, [.slice (A) ((l11_1).length) (c), I (((0 + 1 : Nat) : Int))]⟩]]) hM2_1 hR3_1 rfl
    have hcr3_1_1 := (hM3_1.cap 1 rfl).1
    refine O.val (v := .slice (A13_1) ((l13_1).length) (c13_1)) rfl (Ru.assign rfl) rfl ?_
    refine O.nil ?_
    refine C.seq ?_
    refine C.region ?_
    refine O.val (v := .slice (A13_1) ((l13_1).length) (c13_1)) rfl (Ru.move rfl) rfl ?_
    refine O.val (v := .pointer (ofs (bl gr1_1) (0))) rfl (Ru.move rfl) rfl ?_
    refine O.callg [.pointer (ofs (bl gr1_1) (0))] rfl en54 rfl rfl (anyRow_fn gr1_1 A c l11_1 q13_1 w3_1 (hrA.at hM3_1) (Mem.ng_old hM3_1 hrA 0 rfl) hrl (Mem.focus (Ma := [[⟨.slice (bl gr1_1) 1 1, 81, 2, 1, [.slice (A) ((l11_1).length) (c), I (((q13_1 : Nat) : Int))]⟩]]) (rest := [[⟨.slice (A13_1) ((l13_1).length) (c13_1), 53, 2, ((l13_1).length), (l13_1).flatMap encP⟩]]) hM3_1 rfl) (by first | omega | assumption | (simp; omega) | simp | (intros; omega))) ?_
    rintro _ w4_2 ⟨l14_2, A14_2, c14_2, q14_2, rfl, hl4_2, hq4_2, hR4_2⟩
    have hM4_2 : Mem w w4_2 [] [[⟨.slice (bl gr1_1) 1 1, 81, 2, 1, [.slice (A) ((l11_1).length) (c), I (((q14_2 : Nat) : Int))]⟩], [⟨.slice (A14_2) ((l14_2).length) (c14_2), 53, 2, ((l14_2).length), (l14_2).flatMap encP⟩], [⟨.slice (A13_1) ((l13_1).length) (c13_1), 53, 2, ((l13_1).length), (l13_1).flatMap encP⟩]] := Mem.call (Ma := [[⟨.slice (bl gr1_1) 1 1, 81, 2, 1, [.slice (A) ((l11_1).length) (c), I (((q13_1 : Nat) : Int))]⟩]]) hM3_1 hR4_2 rfl
    have hcr4_2_1 := (hM4_2.cap 1 rfl).1
    refine O.val (v := .slice (A13_1) ((l13_1).length) (c13_1)) rfl (Ru.assign rfl) rfl ?_
    refine O.val (v := .slice (A14_2) ((l14_2).length) (c14_2)) rfl (Ru.assign rfl) rfl ?_
    refine O.nil ?_
    refine C.ret ?_
    refine P2 (v := .slice (A13_1) ((l13_1).length) (c13_1)) (v' := .slice (A14_2) ((l14_2).length) (c14_2)) rfl rfl ?_
    exact ⟨l13_1, A13_1, c13_1, l14_2, A14_2, c14_2, (by first | rfl | exact sl_congr (by first | omega | (simp; done) | (simp; omega)) | (simp; done)), (by omega), (by omega), (hM4_2.pick [2, 1] (by decide) rfl)⟩
  · refine C.skip ?_
    refine C.seq ?_
    refine C.region ?_
    refine O.val (v := .pointer (ofs (bl gr1_1) (0))) rfl (Ru.move rfl) rfl ?_
    refine O.callg [.pointer (ofs (bl gr1_1) (0))] rfl en55 rfl rfl (smallRow_fn gr1_1 A c l11_1 (0 + 1) w2_1 (hrA.at hM2_1) (Mem.ng_old hM2_1 hrA 0 rfl) hrl (Mem.focus (Ma := [[⟨.slice (bl gr1_1) 1 1, 81, 2, 1, [.slice (A) ((l11_1).length) (c), I (((0 + 1 : Nat) : Int))]⟩]]) (rest := []) hM2_1 rfl) (by first | omega | assumption | (simp; omega) | simp | (intros; omega))) ?_
    rintro _ w5_1 ⟨l15_1, A15_1, c15_1, q15_1, rfl, hl5_1, hq5_1, hR5_1⟩
    have hM5_1 : Mem w w5_1 [] [[⟨.slice (bl gr1_1) 1 1, 81, 2, 1, [.slice (A) ((l11_1).length) (c), I (((q15_1 : Nat) : Int))]⟩], [⟨.slice (A15_1) ((l15_1).length) (c15_1), 53, 2, ((l15_1).length), (l15_1).flatMap encP⟩]] := Mem.call (Ma := [[⟨.slice (bl gr1_1) 1 1, 81, 2, 1, [.slice (A) ((l11_1).length) (c), I (((0 + 1 : Nat) : Int))]⟩]]) hM2_1 hR5_1 rfl
    have hcr5_1_1 := (hM5_1.cap 1 rfl).1
    refine O.val (v := .slice (A15_1) ((l15_1).length) (c15_1)) rfl (Ru.assign rfl) rfl ?_
    refine O.nil ?_
    refine C.seq ?_
    refine C.region ?_
    refine O.val (v := .slice (A15_1) ((l15_1).length) (c15_1)) rfl (Ru.move rfl) rfl ?_
    refine O.val (v := .pointer (ofs (bl gr1_1) (0))) rfl (Ru.move rfl) rfl ?_
    refine O.callg [.pointer (ofs (bl gr1_1) (0))] rfl en55 rfl rfl (smallRow_fn gr1_1 A c l11_1 q15_1 w5_1 (hrA.at hM5_1) (Mem.ng_old hM5_1 hrA 0 rfl) hrl (Mem.focus (Ma := [[⟨.slice (bl gr1_1) 1 1, 81, 2, 1, [.slice (A) ((l11_1).length) (c), I (((q15_1 : Nat) : Int))]⟩]]) (rest := [[⟨.slice (A15_1) ((l15_1).length) (c15_1), 53, 2, ((l15_1).length), (l15_1).flatMap encP⟩]]) hM5_1 rfl) (by first | omega | assumption | (simp; omega) | simp | (intros; omega))) ?_
    rintro _ w6_2 ⟨l16_2, A16_2, c16_2, q16_2, rfl, hl6_2, hq6_2, hR6_2⟩
    have hM6_2 : Mem w w6_2 [] [[⟨.slice (bl gr1_1) 1 1, 81, 2, 1, [.slice (A) ((l11_1).length) (c), I (((q16_2 : Nat) : Int))]⟩], [⟨.slice (A16_2) ((l16_2).length) (c16_2), 53, 2, ((l16_2).length), (l16_2).flatMap encP⟩], [⟨.slice (A15_1) ((l15_1).length) (c15_1), 53, 2, ((l15_1).length), (l15_1).flatMap encP⟩]] := Mem.call (Ma := [[⟨.slice (bl gr1_1) 1 1, 81, 2, 1, [.slice (A) ((l11_1).length) (c), I (((q15_1 : Nat) : Int))]⟩]]) hM5_1 hR6_2 rfl
    have hcr6_2_1 := (hM6_2.cap 1 rfl).1
    refine O.val (v := .slice (A15_1) ((l15_1).length) (c15_1)) rfl (Ru.assign rfl) rfl ?_
    refine O.val (v := .slice (A16_2) ((l16_2).length) (c16_2)) rfl (Ru.assign rfl) rfl ?_
    refine O.nil ?_
    refine C.ret ?_
    refine P2 (v := .slice (A15_1) ((l15_1).length) (c15_1)) (v' := .slice (A16_2) ((l16_2).length) (c16_2)) rfl rfl ?_
    exact ⟨l15_1, A15_1, c15_1, l16_2, A16_2, c16_2, (by first | rfl | exact sl_congr (by first | omega | (simp; done) | (simp; omega)) | (simp; done)), (by omega), (by omega), (hM6_2.pick [2, 1] (by decide) rfl)⟩

theorem sValidLog_fn (A : Option Addr) (c : Nat) (l : List RecT) (w : World) (hA : Rd w A ((l).flatMap encG)) (hl : l.length ≤ 1048576) :
    Does Try.prog 20 [.slice (A) ((l).length) (c)] w (fun v w1 => v = .bool (validL l) ∧ Mem w w1 [] []) := by
  have hM : Mem w w [] [] := Mem.refl
  refine Does.enter1 Try.func20 rfl Try.results20 Try.ntmps20 rfl ?_
  refine C.seq ?_
  refine C.region ?_
  refine O.val (v := .bool (false)) rfl (Ru.assign rfl) rfl ?_
  refine O.nil ?_
  refine C.seq ?_
  refine C.region ?_
  refine O.val (v := .slice (A) ((l).length) (c)) rfl (Ru.move rfl) rfl ?_
  refine O.callg [.slice (A) ((l).length) (c)] rfl en48 rfl rfl (svalidLog_fn A c l w (hA.at hM) (by first | omega | assumption | (simp; omega) | simp | (intros; omega))) ?_
  rintro _ w1_1 ⟨rfl, hR1_1⟩
  have hM1_1 : Mem w w1_1 [] [] := Mem.call (Ma := []) hM hR1_1 rfl
  refine O.val (v := .bool (validL l)) rfl (Ru.assign rfl) rfl ?_
  refine O.nil ?_
  refine C.ret ?_
  refine P1 (v := .bool (validL l)) rfl ?_
  exact ⟨rfl, (Mem.none hM1_1)⟩
end Go.Proofs.Ytgflcaeibbnkcaa
