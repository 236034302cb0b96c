/- Own layer: part of this seat (ED). Plain theorems; no conditions. -/
import Derived.Test.YtfdlmimgooeioaaDoorEC
set_option linter.unusedVariables false
set_option linter.unusedSimpArgs false
namespace Go.Proofs.YtfdlmimgooeioaaDoor
open Go.Px
theorem goodRow_fn (gr : Nat) (rA : Option Addr) (rc : Nat) (rl : List UInt8) (rq : Nat) (w : World) (hrA : Rd w rA (rl.map byteV)) (hro : Off rA (rl.map byteV) [some gr]) (hrl : rl.length ≤ 2000) (hM : Mem w w [some gr] [[⟨.slice (bl gr) 1 1, 105, 2, 1, [.slice (rA) ((rl).length) (rc), I (((rq : Nat) : Int))]⟩]]) (hrq : rq ≤ 999999000) :
    Does Tryd.prog 85 [.pointer (ofs (bl gr) (0))] w (fun v w1 => ∃ (l1 : List PairT) (A1 : Option Addr) (c1 : Nat) (q1 : Nat), v = .slice (A1) ((l1).length) (c1) ∧ (l1.length ≤ 25) ∧ (q1 ≤ rq + 200) ∧ Mem w w1 [some gr] [[⟨.slice (bl gr) 1 1, 105, 2, 1, [.slice (rA) ((rl).length) (rc), I (((q1 : Nat) : Int))]⟩], [⟨.slice (A1) ((l1).length) (c1), 61, 2, ((l1).length), (l1).flatMap encP⟩]]) := by
  refine Does.enter1 Tryd.func85 rfl Tryd.results85 Tryd.ntmps85 rfl ?_
  refine C.seq ?_
  refine C.region ?_
  refine O.val (v := .slice (none) (0) (0)) rfl (Ru.assign rfl) rfl ?_
  refine O.nil ?_
  refine C.seq ?_
  refine C.region ?_
  refine O.mlit (sz := 2) (cs := []) hM rfl Tryd.underlying25 el61 rfl rfl rfl (by kernel_rfl) (by kernel_rfl) rfl rfl (fun w1_0 b1_0 hb1_0 (hM1_0 : Mem w w1_0 [some gr] [[⟨.slice (bl b1_0) (0) (0), 61, 2, 0, ([]).flatMap encP⟩], [⟨.slice (bl gr) 1 1, 105, 2, 1, [.slice (rA) ((rl).length) (rc), I (((rq : Nat) : Int))]⟩]]) => ?_)
  refine O.val (v := .slice (bl b1_0) (0) (0)) rfl (Ru.assign rfl) rfl ?_
  refine O.nil ?_
  refine C.seq ?_
  refine C.seq ?_
  refine C.region ?_
  refine O.val (v := .pointer (ofs (bl gr) (0))) rfl (Ru.move rfl) rfl ?_
  refine O.mlit (sz := 1) (cs := [I (6), I (9), I (13), I (4), I (20), I (24), I (1), I (0)]) hM1_0 rfl Tryd.underlying51 el3 rfl rfl rfl (by kernel_rfl) (by kernel_rfl) rfl rfl (fun w2_1 b2_1 hb2_1 (hM2_1 : Mem w w2_1 [some gr] [[⟨.slice (bl b2_1) (8) (8), 3, 1, 8, ([6, 9, 13, 4, 20, 24, 1, 0]).map I⟩], [⟨.slice (bl b1_0) (0) (0), 61, 2, 0, ([]).flatMap encP⟩], [⟨.slice (bl gr) 1 1, 105, 2, 1, [.slice (rA) ((rl).length) (rc), I (((rq : Nat) : Int))]⟩]]) => ?_)
  have hMf2_2 : Mem w w2_1 [some gr] [[⟨.slice (bl gr) 1 1, 105, 2, 1, [.slice (rA) ((rl).length) (rc), I (((rq : Nat) : Int))]⟩], [⟨.slice (bl b2_1) (8) (8), 3, 1, 8, ([6, 9, 13, 4, 20, 24, 1, 0]).map I⟩], [⟨.slice (bl b1_0) (0) (0), 61, 2, 0, ([]).flatMap encP⟩]] := hM2_1.pick [2, 0, 1] (by decide) rfl
  refine O.callg [.pointer (ofs (bl gr) (0)), .slice (bl b2_1) (([6, 9, 13, 4, 20, 24, 1, 0]).length) (8)] rfl en86 (by first | rfl | (rw [show ([6, 9, 13, 4, 20, 24, 1, 0]).length = 8 from (by first | rfl | (simp; done) | omega | (simp; omega))]; rfl)) rfl (one_fn gr rA rc rl rq (bl b2_1) 8 [6, 9, 13, 4, 20, 24, 1, 0] w2_1 (hrA.atR hMf2_2 hro) hro hrl (hMf2_2.rd 1 rfl) (Off.of_ng (hMf2_2.ng 1 0 (by decide) rfl rfl)) (Mem.focus (Ma := [[⟨.slice (bl gr) 1 1, 105, 2, 1, [.slice (rA) ((rl).length) (rc), I (((rq : Nat) : Int))]⟩]]) (rest := [[⟨.slice (bl b2_1) (8) (8), 3, 1, 8, ([6, 9, 13, 4, 20, 24, 1, 0]).map I⟩], [⟨.slice (bl b1_0) (0) (0), 61, 2, 0, ([]).flatMap encP⟩]]) hMf2_2 rfl) (by first | omega | assumption | (simp; omega) | simp | (intros; omega)) (by simp) (by simp)) ?_
  rintro _ w2_2 ⟨k2_2, rfl, hk2_2, hR2_2⟩
  have hM2_2 : Mem w w2_2 [some gr] [[⟨.slice (bl gr) 1 1, 105, 2, 1, [.slice (rA) ((rl).length) (rc), I (((rq + 1 : Nat) : Int))]⟩], [⟨.slice (bl b2_1) (8) (8), 3, 1, 8, ([6, 9, 13, 4, 20, 24, 1, 0]).map I⟩], [⟨.slice (bl b1_0) (0) (0), 61, 2, 0, ([]).flatMap encP⟩]] := Mem.call (Ma := [[⟨.slice (bl gr) 1 1, 105, 2, 1, [.slice (rA) ((rl).length) (rc), I (((rq : Nat) : Int))]⟩]]) hMf2_2 hR2_2 rfl
  have hk0 := (by decide : ∀ k ∈ ([6, 9, 13, 4, 20, 24, 1, 0] : List Int), 0 ≤ k ∧ k ≤ 24) _ hk2_2
  refine O.val (v := I (k2_2)) rfl (Ru.assign rfl) rfl ?_
  refine O.nil ?_
  refine C.block ?_
  have hq1 : ([] : List PairT) = ([] : List PairT) := (by first | rfl | simp | (simp; omega))
  have hMn1 : Mem w w2_2 [some gr] [[⟨.slice (bl gr) 1 1, 105, 2, 1, [.slice (rA) ((rl).length) (rc), I (((rq + 1 : Nat) : Int))]⟩], [⟨.slice (bl b2_1) (8) (8), 3, 1, 8, ([6, 9, 13, 4, 20, 24, 1, 0]).map I⟩], [⟨.slice (bl b1_0) ((([] : List PairT)).length) (0), 61, 2, ((([] : List PairT)).length), (([] : List PairT)).flatMap encP⟩]] := hM2_2.relen 2 (n' := (([] : List PairT)).length) (xs' := (([] : List PairT)).flatMap encP) rfl (by first | rfl | exact congrArg List.length hq1 | (have hqq := congrArg List.length hq1; first | omega | (simp at hqq ⊢; omega)) | (simp; done) | (simp; omega)) (congrArg (fun z_ => (z_).flatMap encP) hq1) rfl
  refine C.loop (ι := Int × (List PairT) × (Option Addr) × Nat × Nat) (fun x_ => ([(0, .pointer (ofs (bl gr) (0))), (3, .slice (x_.2.2.1) ((x_.2.1).length) (x_.2.2.2.1)), (4, I (x_.1))] : List (Nat × Value))) (fun x_ w_ => (0 ≤ x_.1 ∧ x_.1 ≤ 24) ∧ (x_.2.2.2.2 + 2 * x_.1 ≤ rq + 49) ∧ (x_.2.1.length ≤ 24) ∧ (asc (keysP x_.2.1) = true) ∧ (Mem w w_ [some gr] [[⟨.slice (bl gr) 1 1, 105, 2, 1, [.slice (rA) ((rl).length) (rc), I (((x_.2.2.2.2 : Nat) : Int))]⟩], [⟨.slice (bl b2_1) (8) (8), 3, 1, 8, ([6, 9, 13, 4, 20, 24, 1, 0]).map I⟩], [⟨.slice (x_.2.2.1) ((x_.2.1).length) (x_.2.2.2.1), 61, 2, ((x_.2.1).length), (x_.2.1).flatMap encP⟩]])) (fun x_ => x_.1.toNat) (k2_2, ([] : List PairT), bl b1_0, 0, (rq + 1)) (Has.cons rfl (Has.cons (sl_congr (by first | rfl | omega | (simp; done) | (simp; omega) | exact congrArg List.length hq1 | (simp [← hq1]; done) | (simp [← hq1]; omega))) (Has.cons rfl Has.nil))) ⟨(by (try dsimp only); first | omega | (simp; omega)), (by (try dsimp only); first | omega | (simp; omega)), (by (try dsimp only); first | omega | (simp; omega) | (simp; done)), (by (try dsimp only); rfl), (hMn1.pick [0, 1, 2] (by decide) rfl)⟩ (fun ⟨k, L, A2, c2, q⟩ σ w_l3 hI => ?_)
  try dsimp only at hI
  obtain ⟨hi0_l3, hi1_l3, hi2_l3, hi3_l3, hM_l3⟩ := hI
  have hcl1_l3 := (hM_l3.cap 1 rfl).1
  have hcl2_l3 := (hM_l3.cap 2 rfl).1
  obtain ⟨hk1, hk2⟩ := hi0_l3
  refine C.seq ?_
  refine C.seq ?_
  refine C.region ?_
  refine O.val (v := I (k)) rfl (Ru.move rfl) rfl ?_
  refine O.val (v := .bool (decide (k > 0))) rfl (Ru.gtr rfl rfl) rfl ?_
  refine O.nil ?_
  refine C.cond (p := k > 0) rfl (fun c11 => ?_) (fun c11 => ?_)
  · refine C.skip ?_
    refine C.seq ?_
    refine C.block ?_
    refine C.seq ?_
    refine C.region ?_
    refine O.val (v := .pointer (ofs (bl gr) (0))) rfl (Ru.move rfl) rfl ?_
    refine O.callg [.pointer (ofs (bl gr) (0)), I (100)] rfl en78 rfl rfl (pick_fn gr rA rc rl q 100 w_l3 (hrA.atR hM_l3 hro) hro hrl (Mem.focus (Ma := [[⟨.slice (bl gr) 1 1, 105, 2, 1, [.slice (rA) ((rl).length) (rc), I (((q : Nat) : Int))]⟩]]) (rest := [[⟨.slice (bl b2_1) (8) (8), 3, 1, 8, ([6, 9, 13, 4, 20, 24, 1, 0]).map I⟩], [⟨.slice (A2) ((L).length) (c2), 61, 2, ((L).length), (L).flatMap encP⟩]]) hM_l3 rfl) (by first | omega | assumption | (simp; omega) | simp | (intros; omega))) ?_
    rintro _ w5_1 ⟨k5_1, rfl, hk5_1, hR5_1⟩
    have hM5_1 : Mem w w5_1 [some gr] [[⟨.slice (bl gr) 1 1, 105, 2, 1, [.slice (rA) ((rl).length) (rc), I (((q + 1 : Nat) : Int))]⟩], [⟨.slice (bl b2_1) (8) (8), 3, 1, 8, ([6, 9, 13, 4, 20, 24, 1, 0]).map I⟩], [⟨.slice (A2) ((L).length) (c2), 61, 2, ((L).length), (L).flatMap encP⟩]] := Mem.call (Ma := [[⟨.slice (bl gr) 1 1, 105, 2, 1, [.slice (rA) ((rl).length) (rc), I (((q : Nat) : Int))]⟩]]) hM_l3 hR5_1 rfl
    refine O.val (v := .pointer (ofs (bl gr) (0))) rfl (Ru.move rfl) rfl ?_
    refine O.callg [.pointer (ofs (bl gr) (0)), I (200)] rfl en78 rfl rfl (pick_fn gr rA rc rl (q + 1) 200 w5_1 (hrA.atR hM5_1 hro) hro hrl (Mem.focus (Ma := [[⟨.slice (bl gr) 1 1, 105, 2, 1, [.slice (rA) ((rl).length) (rc), I (((q + 1 : Nat) : Int))]⟩]]) (rest := [[⟨.slice (bl b2_1) (8) (8), 3, 1, 8, ([6, 9, 13, 4, 20, 24, 1, 0]).map I⟩], [⟨.slice (A2) ((L).length) (c2), 61, 2, ((L).length), (L).flatMap encP⟩]]) hM5_1 rfl) (by first | omega | assumption | (simp; omega) | simp | (intros; omega))) ?_
    rintro _ w5_3 ⟨k5_3, rfl, hk5_3, hR5_3⟩
    have hM5_3 : Mem w w5_3 [some gr] [[⟨.slice (bl gr) 1 1, 105, 2, 1, [.slice (rA) ((rl).length) (rc), I ((((q + 1) + 1 : Nat) : Int))]⟩], [⟨.slice (bl b2_1) (8) (8), 3, 1, 8, ([6, 9, 13, 4, 20, 24, 1, 0]).map I⟩], [⟨.slice (A2) ((L).length) (c2), 61, 2, ((L).length), (L).flatMap encP⟩]] := Mem.call (Ma := [[⟨.slice (bl gr) 1 1, 105, 2, 1, [.slice (rA) ((rl).length) (rc), I (((q + 1 : Nat) : Int))]⟩]]) hM5_1 hR5_3 rfl
    refine O.val (v := I ((k5_3 - 100))) rfl (Ru.sub rfl rfl (by omega)) rfl ?_
    refine O.val (v := .agg #[I (k5_1), I ((k5_3 - 100))]) rfl (Ru.build of61 rfl rfl rfl) rfl ?_
    refine O.malloc (k := 2) hM5_3 rfl rfl el61 rfl (fun w5_6 b5_6 hb5_6 (hM5_6 : Mem w w5_6 [some gr] [[⟨.slice (bl b5_6) 1 1, 61, 2, 1, [I (0), I (0)]⟩], [⟨.slice (bl gr) 1 1, 105, 2, 1, [.slice (rA) ((rl).length) (rc), I ((((q + 1) + 1 : Nat) : Int))]⟩], [⟨.slice (bl b2_1) (8) (8), 3, 1, 8, ([6, 9, 13, 4, 20, 24, 1, 0]).map I⟩], [⟨.slice (A2) ((L).length) (c2), 61, 2, ((L).length), (L).flatMap encP⟩]]) => ?_)
    refine O.mstore (vs := [I (k5_1), I ((k5_3 - 100))]) (xs' := [I (k5_1), I ((k5_3 - 100))]) 0 0 hM5_6 rfl rfl rfl el61 rfl rfl rfl rfl rfl (by simp) (by simp) rfl rfl (fun w5_7 (hM5_7 : Mem w w5_7 [some gr] [[⟨.slice (bl b5_6) 1 1, 61, 2, 1, [I (k5_1), I ((k5_3 - 100))]⟩], [⟨.slice (bl gr) 1 1, 105, 2, 1, [.slice (rA) ((rl).length) (rc), I ((((q + 1) + 1 : Nat) : Int))]⟩], [⟨.slice (bl b2_1) (8) (8), 3, 1, 8, ([6, 9, 13, 4, 20, 24, 1, 0]).map I⟩], [⟨.slice (A2) ((L).length) (c2), 61, 2, ((L).length), (L).flatMap encP⟩]]) => ?_)
    refine O.nil ?_
    refine C.seq ?_
    refine C.region ?_
    refine O.val (v := .slice (A2) ((L).length) (c2)) rfl (Ru.move rfl) rfl ?_
    refine O.val rfl (Ru.loadN (vs := [I (k5_1), I ((k5_3 - 100))]) el61 rfl rfl rfl ((mem_blk (i := 0) (j := 0) hM5_7 rfl rfl).lds (k := 0) rfl)) rfl ?_
    refine O.callg [.slice (A2) ((L).length) (c2), .agg #[I (k5_1), I ((k5_3 - 100))]] rfl en108 rfl rfl (sput_fn A2 c2 L (⟨k5_1, (k5_3 - 100)⟩ : PairT) w5_7 (hM5_7.rd 3 rfl) (by omega) (by exact hi3_l3) (by omega)) ?_
    rintro _ w6_2 ⟨A16_2, c16_2, rfl, hR6_2⟩
    have hM6_2 : Mem w w6_2 [some gr] [[⟨.slice (A16_2) ((putP L (⟨k5_1, (k5_3 - 100)⟩ : PairT)).length) (c16_2), 61, 2, ((putP L (⟨k5_1, (k5_3 - 100)⟩ : PairT)).length), (putP L (⟨k5_1, (k5_3 - 100)⟩ : PairT)).flatMap encP⟩], [⟨.slice (bl b5_6) 1 1, 61, 2, 1, [I (k5_1), I ((k5_3 - 100))]⟩], [⟨.slice (bl gr) 1 1, 105, 2, 1, [.slice (rA) ((rl).length) (rc), I ((((q + 1) + 1 : Nat) : Int))]⟩], [⟨.slice (bl b2_1) (8) (8), 3, 1, 8, ([6, 9, 13, 4, 20, 24, 1, 0]).map I⟩], [⟨.slice (A2) ((L).length) (c2), 61, 2, ((L).length), (L).flatMap encP⟩]] := Mem.call (Ma := []) hM5_7 hR6_2 rfl
    have hcr6_2_0 := (hM6_2.cap 0 rfl).1
    refine O.val (v := I ((((putP L (⟨k5_1, (k5_3 - 100)⟩ : PairT)).length : Nat) : Int))) rfl (Ru.blenSlice Tryd.underlying25 rfl) rfl ?_
    refine O.val (v := .bool (decide ((((putP L (⟨k5_1, (k5_3 - 100)⟩ : PairT)).length : Nat) : Int) ≤ 24))) rfl (Ru.leq rfl rfl) rfl ?_
    refine O.nil ?_
    refine C.cond (p := (((putP L (⟨k5_1, (k5_3 - 100)⟩ : PairT)).length : Nat) : Int) ≤ 24) rfl (fun c24 => ?_) (fun c24 => ?_)
    · refine C.region ?_
      refine O.val (v := .slice (A2) ((L).length) (c2)) rfl (Ru.move rfl) rfl ?_
      refine O.val rfl (Ru.loadN (vs := [I (k5_1), I ((k5_3 - 100))]) el61 rfl rfl rfl ((mem_blk (i := 1) (j := 0) hM6_2 rfl rfl).lds (k := 0) rfl)) rfl ?_
      refine O.callg [.slice (A2) ((L).length) (c2), .agg #[I (k5_1), I ((k5_3 - 100))]] rfl en108 rfl rfl (sput_fn A2 c2 L (⟨k5_1, (k5_3 - 100)⟩ : PairT) w6_2 (hM6_2.rd 4 rfl) (by omega) (by exact hi3_l3) (by omega)) ?_
      rintro _ w7_2 ⟨A17_2, c17_2, rfl, hR7_2⟩
      have hM7_2 : Mem w w7_2 [some gr] [[⟨.slice (A17_2) ((putP L (⟨k5_1, (k5_3 - 100)⟩ : PairT)).length) (c17_2), 61, 2, ((putP L (⟨k5_1, (k5_3 - 100)⟩ : PairT)).length), (putP L (⟨k5_1, (k5_3 - 100)⟩ : PairT)).flatMap encP⟩], [⟨.slice (A16_2) ((putP L (⟨k5_1, (k5_3 - 100)⟩ : PairT)).length) (c16_2), 61, 2, ((putP L (⟨k5_1, (k5_3 - 100)⟩ : PairT)).length), (putP L (⟨k5_1, (k5_3 - 100)⟩ : PairT)).flatMap encP⟩], [⟨.slice (bl b5_6) 1 1, 61, 2, 1, [I (k5_1), I ((k5_3 - 100))]⟩], [⟨.slice (bl gr) 1 1, 105, 2, 1, [.slice (rA) ((rl).length) (rc), I ((((q + 1) + 1 : Nat) : Int))]⟩], [⟨.slice (bl b2_1) (8) (8), 3, 1, 8, ([6, 9, 13, 4, 20, 24, 1, 0]).map I⟩], [⟨.slice (A2) ((L).length) (c2), 61, 2, ((L).length), (L).flatMap encP⟩]] := Mem.call (Ma := []) hM6_2 hR7_2 rfl
      have hcr7_2_0 := (hM7_2.cap 0 rfl).1
      refine O.val (v := .slice (A17_2) ((putP L (⟨k5_1, (k5_3 - 100)⟩ : PairT)).length) (c17_2)) rfl (Ru.assign rfl) rfl ?_
      refine O.nil ?_
      refine C.region ?_
      refine O.val (v := I (k)) rfl (Ru.move rfl) rfl ?_
      refine O.val (v := I ((k - 1))) rfl (Ru.sub rfl rfl (by omega)) rfl ?_
      refine O.val (v := I ((k - 1))) rfl (Ru.assign rfl) rfl ?_
      refine O.nil ?_
      have hq2 : (putP L (⟨k5_1, (k5_3 - 100)⟩ : PairT) : List PairT) = (putP L (⟨k5_1, (k5_3 - 100)⟩ : PairT)) := (by first | rfl | simp | (simp; omega))
      have hMn2 : Mem w w7_2 [some gr] [[⟨.slice (A17_2) (((putP L (⟨k5_1, (k5_3 - 100)⟩ : PairT))).length) (c17_2), 61, 2, (((putP L (⟨k5_1, (k5_3 - 100)⟩ : PairT))).length), ((putP L (⟨k5_1, (k5_3 - 100)⟩ : PairT))).flatMap encP⟩], [⟨.slice (A16_2) ((putP L (⟨k5_1, (k5_3 - 100)⟩ : PairT)).length) (c16_2), 61, 2, ((putP L (⟨k5_1, (k5_3 - 100)⟩ : PairT)).length), (putP L (⟨k5_1, (k5_3 - 100)⟩ : PairT)).flatMap encP⟩], [⟨.slice (bl b5_6) 1 1, 61, 2, 1, [I (k5_1), I ((k5_3 - 100))]⟩], [⟨.slice (bl gr) 1 1, 105, 2, 1, [.slice (rA) ((rl).length) (rc), I ((((q + 1) + 1 : Nat) : Int))]⟩], [⟨.slice (bl b2_1) (8) (8), 3, 1, 8, ([6, 9, 13, 4, 20, 24, 1, 0]).map I⟩], [⟨.slice (A2) ((L).length) (c2), 61, 2, ((L).length), (L).flatMap encP⟩]] := hM7_2.relen 0 (n' := ((putP L (⟨k5_1, (k5_3 - 100)⟩ : PairT))).length) (xs' := ((putP L (⟨k5_1, (k5_3 - 100)⟩ : PairT))).flatMap encP) rfl (by first | rfl | exact congrArg List.length hq2 | (have hqq := congrArg List.length hq2; first | omega | (simp at hqq ⊢; omega)) | (simp; done) | (simp; omega)) (congrArg (fun z_ => (z_).flatMap encP) hq2) rfl
      simp only [blkQ]
      exact loopEnd (k - 1, putP L (⟨k5_1, (k5_3 - 100)⟩ : PairT), A17_2, c17_2, ((q + 1) + 1)) (by (try dsimp only); omega) (Has.cons rfl (Has.cons rfl (Has.cons (I_congr (by first | rfl | omega | (simp; omega) | simp)) Has.nil))) ⟨(by (try dsimp only); omega), (by (try dsimp only); omega), (by (try dsimp only); first | omega | (simp; omega) | (have h9 := put_len (l := L) (x := ⟨k5_2, k5_4⟩); omega)), (by (try dsimp only); first | exact hi3_l3 | exact put_keys_pair hi3_l3 _), (hMn2.pick [3, 4, 0] (by decide) rfl)⟩
    · refine C.skip ?_
      refine C.region ?_
      refine O.val (v := I (k)) rfl (Ru.move rfl) rfl ?_
      refine O.val (v := I ((k - 1))) rfl (Ru.sub rfl rfl (by omega)) rfl ?_
      refine O.val (v := I ((k - 1))) rfl (Ru.assign rfl) rfl ?_
      refine O.nil ?_
      simp only [blkQ]
      exact loopEnd (k - 1, L, A2, c2, ((q + 1) + 1)) (by (try dsimp only); omega) (Has.cons rfl (Has.cons rfl (Has.cons (I_congr (by first | rfl | omega | (simp; omega) | simp)) Has.nil))) ⟨(by (try dsimp only); omega), (by (try dsimp only); omega), (by (try dsimp only); first | omega | (simp; omega) | (have h9 := put_len (l := L) (x := ⟨k5_2, k5_4⟩); omega)), (by (try dsimp only); first | exact hi3_l3 | exact put_keys_pair hi3_l3 _), (hM6_2.pick [2, 3, 4] (by decide) rfl)⟩
  · refine C.exit ?_
    refine C.seq ?_
    refine C.region ?_
    refine O.val (v := .slice (A2) ((L).length) (c2)) rfl (Ru.move rfl) rfl ?_
    refine O.val (v := .slice (A2) ((L).length) (c2)) rfl (Ru.assign rfl) rfl ?_
    refine O.nil ?_
    refine C.ret ?_
    refine P1 (v := .slice (A2) ((L).length) (c2)) rfl ?_
    exact ⟨L, A2, c2, _, (by first | rfl | exact sl_congr (by first | omega | (simp; done) | (simp; omega)) | (simp; done)), (by omega), (by omega), (hM_l3.pick [0, 2] (by decide) rfl)⟩

theorem anyRow_fn (gr : Nat) (rA : Option Addr) (rc : Nat) (rl : List UInt8) (rq : Nat) (w : World) (hrA : Rd w rA (rl.map byteV)) (hro : Off rA (rl.map byteV) [some gr]) (hrl : rl.length ≤ 2000) (hM : Mem w w [some gr] [[⟨.slice (bl gr) 1 1, 105, 2, 1, [.slice (rA) ((rl).length) (rc), I (((rq : Nat) : Int))]⟩]]) (hrq : rq ≤ 999999000) :
    Does Tryd.prog 50 [.pointer (ofs (bl gr) (0))] w (fun v w1 => ∃ (l1 : List PairT) (A1 : Option Addr) (c1 : Nat) (q1 : Nat), v = .slice (A1) ((l1).length) (c1) ∧ (l1.length ≤ 26) ∧ (q1 ≤ rq + 220) ∧ Mem w w1 [some gr] [[⟨.slice (bl gr) 1 1, 105, 2, 1, [.slice (rA) ((rl).length) (rc), I (((q1 : Nat) : Int))]⟩], [⟨.slice (A1) ((l1).length) (c1), 61, 2, ((l1).length), (l1).flatMap encP⟩]]) := by
  refine Does.enter1 Tryd.func50 rfl Tryd.results50 Tryd.ntmps50 rfl ?_
  refine C.seq ?_
  refine C.region ?_
  refine O.val (v := .slice (none) (0) (0)) rfl (Ru.assign rfl) rfl ?_
  refine O.nil ?_
  refine C.seq ?_
  refine C.region ?_
  refine O.val (v := .pointer (ofs (bl gr) (0))) rfl (Ru.move rfl) rfl ?_
  refine O.callg [.pointer (ofs (bl gr) (0))] rfl en85 rfl rfl (goodRow_fn gr rA rc rl rq w (hrA.atR hM hro) hro hrl (Mem.focus (Ma := [[⟨.slice (bl gr) 1 1, 105, 2, 1, [.slice (rA) ((rl).length) (rc), I (((rq : Nat) : Int))]⟩]]) (rest := []) hM rfl) (by first | omega | assumption | (simp; omega) | simp | (intros; omega))) ?_
  rintro _ w1_1 ⟨l11_1, A11_1, c11_1, q11_1, rfl, hl1_1, hq1_1, hR1_1⟩
  have hM1_1 : Mem w w1_1 [some gr] [[⟨.slice (bl gr) 1 1, 105, 2, 1, [.slice (rA) ((rl).length) (rc), I (((q11_1 : Nat) : Int))]⟩], [⟨.slice (A11_1) ((l11_1).length) (c11_1), 61, 2, ((l11_1).length), (l11_1).flatMap encP⟩]] := Mem.call (Ma := [[⟨.slice (bl gr) 1 1, 105, 2, 1, [.slice (rA) ((rl).length) (rc), I (((rq : Nat) : Int))]⟩]]) hM hR1_1 rfl
  have hcr1_1_1 := (hM1_1.cap 1 rfl).1
  refine O.val (v := .slice (A11_1) ((l11_1).length) (c11_1)) rfl (Ru.assign rfl) rfl ?_
  refine O.nil ?_
  refine C.seq ?_
  refine C.seq ?_
  refine C.region ?_
  refine O.val (v := .pointer (ofs (bl gr) (0))) rfl (Ru.move rfl) rfl ?_
  refine O.callg [.pointer (ofs (bl gr) (0)), I (14)] rfl en78 rfl rfl (pick_fn gr rA rc rl q11_1 14 w1_1 (hrA.atR hM1_1 hro) hro hrl (Mem.focus (Ma := [[⟨.slice (bl gr) 1 1, 105, 2, 1, [.slice (rA) ((rl).length) (rc), I (((q11_1 : Nat) : Int))]⟩]]) (rest := [[⟨.slice (A11_1) ((l11_1).length) (c11_1), 61, 2, ((l11_1).length), (l11_1).flatMap encP⟩]]) hM1_1 rfl) (by first | omega | assumption | (simp; omega) | simp | (intros; omega))) ?_
  rintro _ w2_1 ⟨k2_1, rfl, hk2_1, hR2_1⟩
  have hM2_1 : Mem w w2_1 [some gr] [[⟨.slice (bl gr) 1 1, 105, 2, 1, [.slice (rA) ((rl).length) (rc), I (((q11_1 + 1 : Nat) : Int))]⟩], [⟨.slice (A11_1) ((l11_1).length) (c11_1), 61, 2, ((l11_1).length), (l11_1).flatMap encP⟩]] := Mem.call (Ma := [[⟨.slice (bl gr) 1 1, 105, 2, 1, [.slice (rA) ((rl).length) (rc), I (((q11_1 : Nat) : Int))]⟩]]) hM1_1 hR2_1 rfl
  refine O.val (v := .bool (decide (k2_1 = 0))) rfl (Ru.eql rfl rfl) rfl ?_
  refine O.nil ?_
  refine C.cond (p := k2_1 = 0) rfl (fun c8 => ?_) (fun c8 => ?_)
  · refine C.region ?_
    refine O.val (v := .slice (A11_1) ((l11_1).length) (c11_1)) rfl (Ru.move rfl) rfl ?_
    refine O.val (v := .pointer (ofs (bl gr) (0))) rfl (Ru.move rfl) rfl ?_
    refine O.mlit (sz := 1) (cs := [I (99), I (0), I (100)]) hM2_1 rfl Tryd.underlying51 el3 rfl rfl rfl (by kernel_rfl) (by kernel_rfl) rfl rfl (fun w3_2 b3_2 hb3_2 (hM3_2 : Mem w w3_2 [some gr] [[⟨.slice (bl b3_2) (3) (3), 3, 1, 3, ([99, 0, 100]).map I⟩], [⟨.slice (bl gr) 1 1, 105, 2, 1, [.slice (rA) ((rl).length) (rc), I (((q11_1 + 1 : Nat) : Int))]⟩], [⟨.slice (A11_1) ((l11_1).length) (c11_1), 61, 2, ((l11_1).length), (l11_1).flatMap encP⟩]]) => ?_)
    have hMf3_3 : Mem w w3_2 [some gr] [[⟨.slice (bl gr) 1 1, 105, 2, 1, [.slice (rA) ((rl).length) (rc), I (((q11_1 + 1 : Nat) : Int))]⟩], [⟨.slice (bl b3_2) (3) (3), 3, 1, 3, ([99, 0, 100]).map I⟩], [⟨.slice (A11_1) ((l11_1).length) (c11_1), 61, 2, ((l11_1).length), (l11_1).flatMap encP⟩]] := hM3_2.pick [1, 0, 2] (by decide) rfl
    refine O.callg [.pointer (ofs (bl gr) (0)), .slice (bl b3_2) (([99, 0, 100]).length) (3)] rfl en86 (by first | rfl | (rw [show ([99, 0, 100]).length = 3 from (by first | rfl | (simp; done) | omega | (simp; omega))]; rfl)) rfl (one_fn gr rA rc rl (q11_1 + 1) (bl b3_2) 3 [99, 0, 100] w3_2 (hrA.atR hMf3_3 hro) hro hrl (hMf3_3.rd 1 rfl) (Off.of_ng (hMf3_3.ng 1 0 (by decide) rfl rfl)) (Mem.focus (Ma := [[⟨.slice (bl gr) 1 1, 105, 2, 1, [.slice (rA) ((rl).length) (rc), I (((q11_1 + 1 : Nat) : Int))]⟩]]) (rest := [[⟨.slice (bl b3_2) (3) (3), 3, 1, 3, ([99, 0, 100]).map I⟩], [⟨.slice (A11_1) ((l11_1).length) (c11_1), 61, 2, ((l11_1).length), (l11_1).flatMap encP⟩]]) hMf3_3 rfl) (by first | omega | assumption | (simp; omega) | simp | (intros; omega)) (by simp) (by simp)) ?_
    rintro _ w3_3 ⟨k3_3, rfl, hk3_3, hR3_3⟩
    have hM3_3 : Mem w w3_3 [some gr] [[⟨.slice (bl gr) 1 1, 105, 2, 1, [.slice (rA) ((rl).length) (rc), I ((((q11_1 + 1) + 1 : Nat) : Int))]⟩], [⟨.slice (bl b3_2) (3) (3), 3, 1, 3, ([99, 0, 100]).map I⟩], [⟨.slice (A11_1) ((l11_1).length) (c11_1), 61, 2, ((l11_1).length), (l11_1).flatMap encP⟩]] := Mem.call (Ma := [[⟨.slice (bl gr) 1 1, 105, 2, 1, [.slice (rA) ((rl).length) (rc), I (((q11_1 + 1 : Nat) : Int))]⟩]]) hMf3_3 hR3_3 rfl
    refine O.val (v := .pointer (ofs (bl gr) (0))) rfl (Ru.move rfl) rfl ?_
    refine O.mlit (sz := 1) (cs := [I (0), I (1001)]) hM3_3 rfl Tryd.underlying51 el3 rfl rfl rfl (by kernel_rfl) (by kernel_rfl) rfl rfl (fun w3_5 b3_5 hb3_5 (hM3_5 : Mem w w3_5 [some gr] [[⟨.slice (bl b3_5) (2) (2), 3, 1, 2, ([0, 1001]).map I⟩], [⟨.slice (bl gr) 1 1, 105, 2, 1, [.slice (rA) ((rl).length) (rc), I ((((q11_1 + 1) + 1 : Nat) : Int))]⟩], [⟨.slice (bl b3_2) (3) (3), 3, 1, 3, ([99, 0, 100]).map I⟩], [⟨.slice (A11_1) ((l11_1).length) (c11_1), 61, 2, ((l11_1).length), (l11_1).flatMap encP⟩]]) => ?_)
    have hMf3_6 : Mem w w3_5 [some gr] [[⟨.slice (bl gr) 1 1, 105, 2, 1, [.slice (rA) ((rl).length) (rc), I ((((q11_1 + 1) + 1 : Nat) : Int))]⟩], [⟨.slice (bl b3_5) (2) (2), 3, 1, 2, ([0, 1001]).map I⟩], [⟨.slice (bl b3_2) (3) (3), 3, 1, 3, ([99, 0, 100]).map I⟩], [⟨.slice (A11_1) ((l11_1).length) (c11_1), 61, 2, ((l11_1).length), (l11_1).flatMap encP⟩]] := hM3_5.pick [1, 0, 2, 3] (by decide) rfl
    refine O.callg [.pointer (ofs (bl gr) (0)), .slice (bl b3_5) (([0, 1001]).length) (2)] rfl en86 (by first | rfl | (rw [show ([0, 1001]).length = 2 from (by first | rfl | (simp; done) | omega | (simp; omega))]; rfl)) rfl (one_fn gr rA rc rl ((q11_1 + 1) + 1) (bl b3_5) 2 [0, 1001] w3_5 (hrA.atR hMf3_6 hro) hro hrl (hMf3_6.rd 1 rfl) (Off.of_ng (hMf3_6.ng 1 0 (by decide) rfl rfl)) (Mem.focus (Ma := [[⟨.slice (bl gr) 1 1, 105, 2, 1, [.slice (rA) ((rl).length) (rc), I ((((q11_1 + 1) + 1 : Nat) : Int))]⟩]]) (rest := [[⟨.slice (bl b3_5) (2) (2), 3, 1, 2, ([0, 1001]).map I⟩], [⟨.slice (bl b3_2) (3) (3), 3, 1, 3, ([99, 0, 100]).map I⟩], [⟨.slice (A11_1) ((l11_1).length) (c11_1), 61, 2, ((l11_1).length), (l11_1).flatMap encP⟩]]) hMf3_6 rfl) (by first | omega | assumption | (simp; omega) | simp | (intros; omega)) (by simp) (by simp)) ?_
    rintro _ w3_6 ⟨k3_6, rfl, hk3_6, hR3_6⟩
    have hM3_6 : Mem w w3_6 [some gr] [[⟨.slice (bl gr) 1 1, 105, 2, 1, [.slice (rA) ((rl).length) (rc), I (((((q11_1 + 1) + 1) + 1 : Nat) : Int))]⟩], [⟨.slice (bl b3_5) (2) (2), 3, 1, 2, ([0, 1001]).map I⟩], [⟨.slice (bl b3_2) (3) (3), 3, 1, 3, ([99, 0, 100]).map I⟩], [⟨.slice (A11_1) ((l11_1).length) (c11_1), 61, 2, ((l11_1).length), (l11_1).flatMap encP⟩]] := Mem.call (Ma := [[⟨.slice (bl gr) 1 1, 105, 2, 1, [.slice (rA) ((rl).length) (rc), I ((((q11_1 + 1) + 1 : Nat) : Int))]⟩]]) hMf3_6 hR3_6 rfl
    refine O.val (v := .agg #[I (k3_3), I (k3_6)]) rfl (Ru.build of61 rfl rfl rfl) rfl ?_
    refine O.mlit (sz := 2) (cs := [I (k3_3), I (k3_6)]) hM3_6 rfl Tryd.underlying25 el61 rfl rfl rfl (by kernel_rfl) (by kernel_rfl) rfl rfl (fun w3_8 b3_8 hb3_8 (hM3_8 : Mem w w3_8 [some gr] [[⟨.slice (bl b3_8) (1) (1), 61, 2, 1, ([(⟨k3_3, k3_6⟩ : PairT)]).flatMap encP⟩], [⟨.slice (bl gr) 1 1, 105, 2, 1, [.slice (rA) ((rl).length) (rc), I (((((q11_1 + 1) + 1) + 1 : Nat) : Int))]⟩], [⟨.slice (bl b3_5) (2) (2), 3, 1, 2, ([0, 1001]).map I⟩], [⟨.slice (bl b3_2) (3) (3), 3, 1, 3, ([99, 0, 100]).map I⟩], [⟨.slice (A11_1) ((l11_1).length) (c11_1), 61, 2, ((l11_1).length), (l11_1).flatMap encP⟩]]) => ?_)
    refine O.mappend (sz := 2) (news := ([(⟨k3_3, k3_6⟩ : PairT)]).flatMap encP) (m1 := (l11_1 ++ [(⟨k3_3, k3_6⟩ : PairT)]).length) (xs1 := (l11_1 ++ [(⟨k3_3, k3_6⟩ : PairT)]).flatMap encP) (M' := fun A3_9 c3_9 => [[⟨.slice (bl b3_8) (1) (1), 61, 2, 1, ([(⟨k3_3, k3_6⟩ : PairT)]).flatMap encP⟩], [⟨.slice (bl gr) 1 1, 105, 2, 1, [.slice (rA) ((rl).length) (rc), I (((((q11_1 + 1) + 1) + 1 : Nat) : Int))]⟩], [⟨.slice (bl b3_5) (2) (2), 3, 1, 2, ([0, 1001]).map I⟩], [⟨.slice (bl b3_2) (3) (3), 3, 1, 3, ([99, 0, 100]).map I⟩], [⟨.slice (A3_9) ((l11_1 ++ [(⟨k3_3, k3_6⟩ : PairT)]).length) (c3_9), 61, 2, ((l11_1 ++ [(⟨k3_3, k3_6⟩ : PairT)]).length), (l11_1 ++ [(⟨k3_3, k3_6⟩ : PairT)]).flatMap encP⟩]]) 4 0 hM3_8 rfl rfl rfl Tryd.underlying25 el61 ⟨rfl, by decide⟩ rfl rfl rfl (hM3_8.rd 0 rfl) (by rw [flat_len encP_len]; first | done | (simp; done) | (simp; omega)) (all_flat_one (fun _ => rfl) _) (by first | omega | (simp; omega)) (by first | omega | (simp; omega)) (by first | (simp; done) | (simp; omega)) (by simp) (fun _ _ => rfl) (fun w3_9 A3_9 c3_9 hc3_9 hM3_9 => ?_)
    try dsimp only at hM3_9
    refine O.val (v := .slice (A3_9) ((l11_1 ++ [(⟨k3_3, k3_6⟩ : PairT)]).length) (c3_9)) rfl (Ru.assign rfl) rfl ?_
    refine O.nil ?_
    refine C.seq ?_
    refine C.region ?_
    refine O.val (v := .slice (A3_9) ((l11_1 ++ [(⟨k3_3, k3_6⟩ : PairT)]).length) (c3_9)) rfl (Ru.move rfl) rfl ?_
    refine O.val (v := .slice (A3_9) ((l11_1 ++ [(⟨k3_3, k3_6⟩ : PairT)]).length) (c3_9)) rfl (Ru.assign rfl) rfl ?_
    refine O.nil ?_
    refine C.ret ?_
    refine P1 (v := .slice (A3_9) ((l11_1 ++ [(⟨k3_3, k3_6⟩ : PairT)]).length) (c3_9)) rfl ?_
    have hq1 : (l11_1 ++ [(⟨k3_3, k3_6⟩ : PairT)] : List PairT) = (l11_1 ++ [(⟨k3_3, k3_6⟩ : PairT)]) := (by first | rfl | simp | (simp; omega))
    have hMn1 : Mem w w3_9 [some gr] [[⟨.slice (bl b3_8) (1) (1), 61, 2, 1, ([(⟨k3_3, k3_6⟩ : PairT)]).flatMap encP⟩], [⟨.slice (bl gr) 1 1, 105, 2, 1, [.slice (rA) ((rl).length) (rc), I (((((q11_1 + 1) + 1) + 1 : Nat) : Int))]⟩], [⟨.slice (bl b3_5) (2) (2), 3, 1, 2, ([0, 1001]).map I⟩], [⟨.slice (bl b3_2) (3) (3), 3, 1, 3, ([99, 0, 100]).map I⟩], [⟨.slice (A3_9) ((l11_1 ++ [(⟨k3_3, k3_6⟩ : PairT)]).length) (c3_9), 61, 2, ((l11_1 ++ [(⟨k3_3, k3_6⟩ : PairT)]).length), ((l11_1 ++ [(⟨k3_3, k3_6⟩ : PairT)])).flatMap encP⟩]] := hM3_9.relen 4 (n' := (l11_1 ++ [(⟨k3_3, k3_6⟩ : PairT)]).length) (xs' := ((l11_1 ++ [(⟨k3_3, k3_6⟩ : PairT)])).flatMap encP) rfl (by first | rfl | exact congrArg List.length hq1 | (have hqq := congrArg List.length hq1; first | omega | (simp at hqq ⊢; omega)) | (simp; done) | (simp; omega)) (congrArg (fun z_ => (z_).flatMap encP) hq1) rfl
    exact ⟨l11_1 ++ [(⟨k3_3, k3_6⟩ : PairT)], A3_9, c3_9, _, (by first | rfl | exact sl_congr (by first | omega | (simp; done) | (simp; omega)) | (simp; done)), (by first | omega | (simp; omega)), (by omega), (hMn1.pick [1, 4] (by decide) rfl)⟩
  · refine C.skip ?_
    refine C.seq ?_
    refine C.region ?_
    refine O.val (v := .slice (A11_1) ((l11_1).length) (c11_1)) rfl (Ru.move rfl) rfl ?_
    refine O.val (v := .slice (A11_1) ((l11_1).length) (c11_1)) rfl (Ru.assign rfl) rfl ?_
    refine O.nil ?_
    refine C.ret ?_
    refine P1 (v := .slice (A11_1) ((l11_1).length) (c11_1)) rfl ?_
    exact ⟨l11_1, A11_1, c11_1, _, (by first | rfl | exact sl_congr (by first | omega | (simp; done) | (simp; omega)) | (simp; done)), (by first | omega | (simp; omega)), (by omega), (hM2_1.pick [0, 1] (by decide) rfl)⟩

theorem smallRow_fn (gr : Nat) (rA : Option Addr) (rc : Nat) (rl : List UInt8) (rq : Nat) (w : World) (hrA : Rd w rA (rl.map byteV)) (hro : Off rA (rl.map byteV) [some gr]) (hrl : rl.length ≤ 2000) (hM : Mem w w [some gr] [[⟨.slice (bl gr) 1 1, 105, 2, 1, [.slice (rA) ((rl).length) (rc), I (((rq : Nat) : Int))]⟩]]) (hrq : rq ≤ 999998500) :
    Does Tryd.prog 77 [.pointer (ofs (bl gr) (0))] w (fun v w1 => ∃ (l1 : List PairT) (A1 : Option Addr) (c1 : Nat) (q1 : Nat), v = .slice (A1) ((l1).length) (c1) ∧ (l1.length ≤ 26) ∧ (q1 ≤ rq + 260) ∧ Mem w w1 [some gr] [[⟨.slice (bl gr) 1 1, 105, 2, 1, [.slice (rA) ((rl).length) (rc), I (((q1 : Nat) : Int))]⟩], [⟨.slice (A1) ((l1).length) (c1), 61, 2, ((l1).length), (l1).flatMap encP⟩]]) := by
  refine Does.enter1 Tryd.func77 rfl Tryd.results77 Tryd.ntmps77 rfl ?_
  refine C.seq ?_
  refine C.region ?_
  refine O.val (v := .slice (none) (0) (0)) rfl (Ru.assign rfl) rfl ?_
  refine O.nil ?_
  refine C.seq ?_
  refine C.region ?_
  refine O.mlit (sz := 2) (cs := []) hM rfl Tryd.underlying25 el61 rfl rfl rfl (by kernel_rfl) (by kernel_rfl) rfl rfl (fun w1_0 b1_0 hb1_0 (hM1_0 : Mem w w1_0 [some gr] [[⟨.slice (bl b1_0) (0) (0), 61, 2, 0, ([]).flatMap encP⟩], [⟨.slice (bl gr) 1 1, 105, 2, 1, [.slice (rA) ((rl).length) (rc), I (((rq : Nat) : Int))]⟩]]) => ?_)
  refine O.val (v := .slice (bl b1_0) (0) (0)) rfl (Ru.assign rfl) rfl ?_
  refine O.nil ?_
  refine C.seq ?_
  refine C.seq ?_
  refine C.region ?_
  refine O.val (v := .pointer (ofs (bl gr) (0))) rfl (Ru.move rfl) rfl ?_
  refine O.mlit (sz := 1) (cs := [I (3), I (6), I (1), I (0), I (10)]) hM1_0 rfl Tryd.underlying51 el3 rfl rfl rfl (by kernel_rfl) (by kernel_rfl) rfl rfl (fun w2_1 b2_1 hb2_1 (hM2_1 : Mem w w2_1 [some gr] [[⟨.slice (bl b2_1) (5) (5), 3, 1, 5, ([3, 6, 1, 0, 10]).map I⟩], [⟨.slice (bl b1_0) (0) (0), 61, 2, 0, ([]).flatMap encP⟩], [⟨.slice (bl gr) 1 1, 105, 2, 1, [.slice (rA) ((rl).length) (rc), I (((rq : Nat) : Int))]⟩]]) => ?_)
  have hMf2_2 : Mem w w2_1 [some gr] [[⟨.slice (bl gr) 1 1, 105, 2, 1, [.slice (rA) ((rl).length) (rc), I (((rq : Nat) : Int))]⟩], [⟨.slice (bl b2_1) (5) (5), 3, 1, 5, ([3, 6, 1, 0, 10]).map I⟩], [⟨.slice (bl b1_0) (0) (0), 61, 2, 0, ([]).flatMap encP⟩]] := hM2_1.pick [2, 0, 1] (by decide) rfl
  refine O.callg [.pointer (ofs (bl gr) (0)), .slice (bl b2_1) (([3, 6, 1, 0, 10]).length) (5)] rfl en86 (by first | rfl | (rw [show ([3, 6, 1, 0, 10]).length = 5 from (by first | rfl | (simp; done) | omega | (simp; omega))]; rfl)) rfl (one_fn gr rA rc rl rq (bl b2_1) 5 [3, 6, 1, 0, 10] w2_1 (hrA.atR hMf2_2 hro) hro hrl (hMf2_2.rd 1 rfl) (Off.of_ng (hMf2_2.ng 1 0 (by decide) rfl rfl)) (Mem.focus (Ma := [[⟨.slice (bl gr) 1 1, 105, 2, 1, [.slice (rA) ((rl).length) (rc), I (((rq : Nat) : Int))]⟩]]) (rest := [[⟨.slice (bl b2_1) (5) (5), 3, 1, 5, ([3, 6, 1, 0, 10]).map I⟩], [⟨.slice (bl b1_0) (0) (0), 61, 2, 0, ([]).flatMap encP⟩]]) hMf2_2 rfl) (by first | omega | assumption | (simp; omega) | simp | (intros; omega)) (by simp) (by simp)) ?_
  rintro _ w2_2 ⟨k2_2, rfl, hk2_2, hR2_2⟩
  have hM2_2 : Mem w w2_2 [some gr] [[⟨.slice (bl gr) 1 1, 105, 2, 1, [.slice (rA) ((rl).length) (rc), I (((rq + 1 : Nat) : Int))]⟩], [⟨.slice (bl b2_1) (5) (5), 3, 1, 5, ([3, 6, 1, 0, 10]).map I⟩], [⟨.slice (bl b1_0) (0) (0), 61, 2, 0, ([]).flatMap encP⟩]] := Mem.call (Ma := [[⟨.slice (bl gr) 1 1, 105, 2, 1, [.slice (rA) ((rl).length) (rc), I (((rq : Nat) : Int))]⟩]]) hMf2_2 hR2_2 rfl
  have hk0 := (by decide : ∀ k ∈ ([3, 6, 1, 0, 10] : List Int), 0 ≤ k ∧ k ≤ 10) _ hk2_2
  refine O.val (v := I (k2_2)) rfl (Ru.assign rfl) rfl ?_
  refine O.nil ?_
  refine C.block ?_
  have hq1 : ([] : List PairT) = ([] : List PairT) := (by first | rfl | simp | (simp; omega))
  have hMn1 : Mem w w2_2 [some gr] [[⟨.slice (bl gr) 1 1, 105, 2, 1, [.slice (rA) ((rl).length) (rc), I (((rq + 1 : Nat) : Int))]⟩], [⟨.slice (bl b2_1) (5) (5), 3, 1, 5, ([3, 6, 1, 0, 10]).map I⟩], [⟨.slice (bl b1_0) ((([] : List PairT)).length) (0), 61, 2, ((([] : List PairT)).length), (([] : List PairT)).flatMap encP⟩]] := hM2_2.relen 2 (n' := (([] : List PairT)).length) (xs' := (([] : List PairT)).flatMap encP) rfl (by first | rfl | exact congrArg List.length hq1 | (have hqq := congrArg List.length hq1; first | omega | (simp at hqq ⊢; omega)) | (simp; done) | (simp; omega)) (congrArg (fun z_ => (z_).flatMap encP) hq1) rfl
  refine C.loop (ι := Int × (List PairT) × (Option Addr) × Nat × Nat) (fun x_ => ([(0, .pointer (ofs (bl gr) (0))), (3, .slice (x_.2.2.1) ((x_.2.1).length) (x_.2.2.2.1)), (4, I (x_.1))] : List (Nat × Value))) (fun x_ w_ => (0 ≤ x_.1 ∧ x_.1 ≤ 10) ∧ (x_.2.2.2.2 + 2 * x_.1 ≤ rq + 21) ∧ (x_.2.1.length + x_.1 ≤ 10) ∧ (asc (keysP x_.2.1) = true) ∧ (Mem w w_ [some gr] [[⟨.slice (bl gr) 1 1, 105, 2, 1, [.slice (rA) ((rl).length) (rc), I (((x_.2.2.2.2 : Nat) : Int))]⟩], [⟨.slice (bl b2_1) (5) (5), 3, 1, 5, ([3, 6, 1, 0, 10]).map I⟩], [⟨.slice (x_.2.2.1) ((x_.2.1).length) (x_.2.2.2.1), 61, 2, ((x_.2.1).length), (x_.2.1).flatMap encP⟩]])) (fun x_ => x_.1.toNat) (k2_2, ([] : List PairT), bl b1_0, 0, (rq + 1)) (Has.cons rfl (Has.cons (sl_congr (by first | rfl | omega | (simp; done) | (simp; omega) | exact congrArg List.length hq1 | (simp [← hq1]; done) | (simp [← hq1]; omega))) (Has.cons rfl Has.nil))) ⟨(by (try dsimp only); first | omega | (simp; omega)), (by (try dsimp only); first | omega | (simp; omega)), (by (try dsimp only); first | omega | (simp; omega) | (simp; done)), (by (try dsimp only); rfl), (hMn1.pick [0, 1, 2] (by decide) rfl)⟩ (fun ⟨k, L, A2, c2, q⟩ σ w_l3 hI => ?_)
  try dsimp only at hI
  obtain ⟨hi0_l3, hi1_l3, hi2_l3, hi3_l3, hM_l3⟩ := hI
  have hcl1_l3 := (hM_l3.cap 1 rfl).1
  have hcl2_l3 := (hM_l3.cap 2 rfl).1
  obtain ⟨hk1, hk2⟩ := hi0_l3
  refine C.seq ?_
  refine C.seq ?_
  refine C.region ?_
  refine O.val (v := I (k)) rfl (Ru.move rfl) rfl ?_
  refine O.val (v := .bool (decide (k > 0))) rfl (Ru.gtr rfl rfl) rfl ?_
  refine O.nil ?_
  refine C.cond (p := k > 0) rfl (fun c10 => ?_) (fun c10 => ?_)
  · refine C.skip ?_
    refine C.seq ?_
    refine C.block ?_
    refine C.region ?_
    refine O.val (v := .slice (A2) ((L).length) (c2)) rfl (Ru.move rfl) rfl ?_
    refine O.val (v := .pointer (ofs (bl gr) (0))) rfl (Ru.move rfl) rfl ?_
    refine O.callg [.pointer (ofs (bl gr) (0)), I (12)] rfl en78 rfl rfl (pick_fn gr rA rc rl q 12 w_l3 (hrA.atR hM_l3 hro) hro hrl (Mem.focus (Ma := [[⟨.slice (bl gr) 1 1, 105, 2, 1, [.slice (rA) ((rl).length) (rc), I (((q : Nat) : Int))]⟩]]) (rest := [[⟨.slice (bl b2_1) (5) (5), 3, 1, 5, ([3, 6, 1, 0, 10]).map I⟩], [⟨.slice (A2) ((L).length) (c2), 61, 2, ((L).length), (L).flatMap encP⟩]]) hM_l3 rfl) (by first | omega | assumption | (simp; omega) | simp | (intros; omega))) ?_
    rintro _ w5_2 ⟨k5_2, rfl, hk5_2, hR5_2⟩
    have hM5_2 : Mem w w5_2 [some gr] [[⟨.slice (bl gr) 1 1, 105, 2, 1, [.slice (rA) ((rl).length) (rc), I (((q + 1 : Nat) : Int))]⟩], [⟨.slice (bl b2_1) (5) (5), 3, 1, 5, ([3, 6, 1, 0, 10]).map I⟩], [⟨.slice (A2) ((L).length) (c2), 61, 2, ((L).length), (L).flatMap encP⟩]] := Mem.call (Ma := [[⟨.slice (bl gr) 1 1, 105, 2, 1, [.slice (rA) ((rl).length) (rc), I (((q : Nat) : Int))]⟩]]) hM_l3 hR5_2 rfl
    refine O.val (v := .pointer (ofs (bl gr) (0))) rfl (Ru.move rfl) rfl ?_
    refine O.callg [.pointer (ofs (bl gr) (0)), I (100)] rfl en78 rfl rfl (pick_fn gr rA rc rl (q + 1) 100 w5_2 (hrA.atR hM5_2 hro) hro hrl (Mem.focus (Ma := [[⟨.slice (bl gr) 1 1, 105, 2, 1, [.slice (rA) ((rl).length) (rc), I (((q + 1 : Nat) : Int))]⟩]]) (rest := [[⟨.slice (bl b2_1) (5) (5), 3, 1, 5, ([3, 6, 1, 0, 10]).map I⟩], [⟨.slice (A2) ((L).length) (c2), 61, 2, ((L).length), (L).flatMap encP⟩]]) hM5_2 rfl) (by first | omega | assumption | (simp; omega) | simp | (intros; omega))) ?_
    rintro _ w5_4 ⟨k5_4, rfl, hk5_4, hR5_4⟩
    have hM5_4 : Mem w w5_4 [some gr] [[⟨.slice (bl gr) 1 1, 105, 2, 1, [.slice (rA) ((rl).length) (rc), I ((((q + 1) + 1 : Nat) : Int))]⟩], [⟨.slice (bl b2_1) (5) (5), 3, 1, 5, ([3, 6, 1, 0, 10]).map I⟩], [⟨.slice (A2) ((L).length) (c2), 61, 2, ((L).length), (L).flatMap encP⟩]] := Mem.call (Ma := [[⟨.slice (bl gr) 1 1, 105, 2, 1, [.slice (rA) ((rl).length) (rc), I (((q + 1 : Nat) : Int))]⟩]]) hM5_2 hR5_4 rfl
    refine O.val (v := .agg #[I (k5_2), I (k5_4)]) rfl (Ru.build of61 rfl rfl rfl) rfl ?_
    refine O.callg [.slice (A2) ((L).length) (c2), .agg #[I (k5_2), I (k5_4)]] rfl en108 rfl rfl (sput_fn A2 c2 L (⟨k5_2, k5_4⟩ : PairT) w5_4 (hM5_4.rd 2 rfl) (by omega) (by exact hi3_l3) (by omega)) ?_
    rintro _ w5_6 ⟨A15_6, c15_6, rfl, hR5_6⟩
    have hM5_6 : Mem w w5_6 [some gr] [[⟨.slice (A15_6) ((putP L (⟨k5_2, k5_4⟩ : PairT)).length) (c15_6), 61, 2, ((putP L (⟨k5_2, k5_4⟩ : PairT)).length), (putP L (⟨k5_2, k5_4⟩ : PairT)).flatMap encP⟩], [⟨.slice (bl gr) 1 1, 105, 2, 1, [.slice (rA) ((rl).length) (rc), I ((((q + 1) + 1 : Nat) : Int))]⟩], [⟨.slice (bl b2_1) (5) (5), 3, 1, 5, ([3, 6, 1, 0, 10]).map I⟩], [⟨.slice (A2) ((L).length) (c2), 61, 2, ((L).length), (L).flatMap encP⟩]] := Mem.call (Ma := []) hM5_4 hR5_6 rfl
    have hcr5_6_0 := (hM5_6.cap 0 rfl).1
    refine O.val (v := .slice (A15_6) ((putP L (⟨k5_2, k5_4⟩ : PairT)).length) (c15_6)) rfl (Ru.assign rfl) rfl ?_
    refine O.nil ?_
    refine C.region ?_
    refine O.val (v := I (k)) rfl (Ru.move rfl) rfl ?_
    refine O.val (v := I ((k - 1))) rfl (Ru.sub rfl rfl (by omega)) rfl ?_
    refine O.val (v := I ((k - 1))) rfl (Ru.assign rfl) rfl ?_
    refine O.nil ?_
    have hq2 : (putP L (⟨k5_2, k5_4⟩ : PairT) : List PairT) = (putP L (⟨k5_2, k5_4⟩ : PairT)) := (by first | rfl | simp | (simp; omega))
    have hMn2 : Mem w w5_6 [some gr] [[⟨.slice (A15_6) (((putP L (⟨k5_2, k5_4⟩ : PairT))).length) (c15_6), 61, 2, (((putP L (⟨k5_2, k5_4⟩ : PairT))).length), ((putP L (⟨k5_2, k5_4⟩ : PairT))).flatMap encP⟩], [⟨.slice (bl gr) 1 1, 105, 2, 1, [.slice (rA) ((rl).length) (rc), I ((((q + 1) + 1 : Nat) : Int))]⟩], [⟨.slice (bl b2_1) (5) (5), 3, 1, 5, ([3, 6, 1, 0, 10]).map I⟩], [⟨.slice (A2) ((L).length) (c2), 61, 2, ((L).length), (L).flatMap encP⟩]] := hM5_6.relen 0 (n' := ((putP L (⟨k5_2, k5_4⟩ : PairT))).length) (xs' := ((putP L (⟨k5_2, k5_4⟩ : PairT))).flatMap encP) rfl (by first | rfl | exact congrArg List.length hq2 | (have hqq := congrArg List.length hq2; first | omega | (simp at hqq ⊢; omega)) | (simp; done) | (simp; omega)) (congrArg (fun z_ => (z_).flatMap encP) hq2) rfl
    simp only [blkQ]
    exact loopEnd (k - 1, putP L (⟨k5_2, k5_4⟩ : PairT), A15_6, c15_6, ((q + 1) + 1)) (by (try dsimp only); omega) (Has.cons rfl (Has.cons rfl (Has.cons (I_congr (by first | rfl | omega | (simp; omega) | simp)) Has.nil))) ⟨(by (try dsimp only); omega), (by (try dsimp only); omega), (by (try dsimp only); first | omega | (simp; omega) | (have h9 := put_len (l := L) (x := ⟨k5_2, k5_4⟩); omega)), (by (try dsimp only); first | exact hi3_l3 | exact put_keys_pair hi3_l3 _), (hMn2.pick [1, 2, 0] (by decide) rfl)⟩
  · refine C.exit ?_
    refine C.seq ?_
    refine C.seq ?_
    refine C.region ?_
    refine O.val (v := .pointer (ofs (bl gr) (0))) rfl (Ru.move rfl) rfl ?_
    refine O.callg [.pointer (ofs (bl gr) (0)), I (20)] rfl en78 rfl rfl (pick_fn gr rA rc rl q 20 w_l3 (hrA.atR hM_l3 hro) hro hrl (Mem.focus (Ma := [[⟨.slice (bl gr) 1 1, 105, 2, 1, [.slice (rA) ((rl).length) (rc), I (((q : Nat) : Int))]⟩]]) (rest := [[⟨.slice (bl b2_1) (5) (5), 3, 1, 5, ([3, 6, 1, 0, 10]).map I⟩], [⟨.slice (A2) ((L).length) (c2), 61, 2, ((L).length), (L).flatMap encP⟩]]) hM_l3 rfl) (by first | omega | assumption | (simp; omega) | simp | (intros; omega))) ?_
    rintro _ w6_1 ⟨k6_1, rfl, hk6_1, hR6_1⟩
    have hM6_1 : Mem w w6_1 [some gr] [[⟨.slice (bl gr) 1 1, 105, 2, 1, [.slice (rA) ((rl).length) (rc), I (((q + 1 : Nat) : Int))]⟩], [⟨.slice (bl b2_1) (5) (5), 3, 1, 5, ([3, 6, 1, 0, 10]).map I⟩], [⟨.slice (A2) ((L).length) (c2), 61, 2, ((L).length), (L).flatMap encP⟩]] := Mem.call (Ma := [[⟨.slice (bl gr) 1 1, 105, 2, 1, [.slice (rA) ((rl).length) (rc), I (((q : Nat) : Int))]⟩]]) hM_l3 hR6_1 rfl
    refine O.val (v := .bool (decide (k6_1 = 0))) rfl (Ru.eql rfl rfl) rfl ?_
    refine O.nil ?_
    refine C.cond (p := k6_1 = 0) rfl (fun c22 => ?_) (fun c22 => ?_)
    · refine C.seq ?_
      refine C.region ?_
      refine O.val (v := .pointer (ofs (bl gr) (0))) rfl (Ru.move rfl) rfl ?_
      refine O.callg [.pointer (ofs (bl gr) (0))] rfl en50 rfl rfl (anyRow_fn gr rA rc rl (q + 1) w6_1 (hrA.atR hM6_1 hro) hro hrl (Mem.focus (Ma := [[⟨.slice (bl gr) 1 1, 105, 2, 1, [.slice (rA) ((rl).length) (rc), I (((q + 1 : Nat) : Int))]⟩]]) (rest := [[⟨.slice (bl b2_1) (5) (5), 3, 1, 5, ([3, 6, 1, 0, 10]).map I⟩], [⟨.slice (A2) ((L).length) (c2), 61, 2, ((L).length), (L).flatMap encP⟩]]) hM6_1 rfl) (by first | omega | assumption | (simp; omega) | simp | (intros; omega))) ?_
      rintro _ w7_1 ⟨l17_1, A17_1, c17_1, q17_1, rfl, hl7_1, hq7_1, hR7_1⟩
      have hM7_1 : Mem w w7_1 [some gr] [[⟨.slice (bl gr) 1 1, 105, 2, 1, [.slice (rA) ((rl).length) (rc), I (((q17_1 : Nat) : Int))]⟩], [⟨.slice (A17_1) ((l17_1).length) (c17_1), 61, 2, ((l17_1).length), (l17_1).flatMap encP⟩], [⟨.slice (bl b2_1) (5) (5), 3, 1, 5, ([3, 6, 1, 0, 10]).map I⟩], [⟨.slice (A2) ((L).length) (c2), 61, 2, ((L).length), (L).flatMap encP⟩]] := Mem.call (Ma := [[⟨.slice (bl gr) 1 1, 105, 2, 1, [.slice (rA) ((rl).length) (rc), I (((q + 1 : Nat) : Int))]⟩]]) hM6_1 hR7_1 rfl
      have hcr7_1_1 := (hM7_1.cap 1 rfl).1
      refine O.val (v := .slice (A17_1) ((l17_1).length) (c17_1)) rfl (Ru.assign rfl) rfl ?_
      refine O.nil ?_
      refine C.ret ?_
      refine P1 (v := .slice (A17_1) ((l17_1).length) (c17_1)) rfl ?_
      exact ⟨l17_1, A17_1, c17_1, _, (by first | rfl | exact sl_congr (by first | omega | (simp; done) | (simp; omega)) | (simp; done)), (by omega), (by omega), (hM7_1.pick [0, 1] (by decide) rfl)⟩
    · refine C.skip ?_
      refine C.seq ?_
      refine C.region ?_
      refine O.val (v := .slice (A2) ((L).length) (c2)) rfl (Ru.move rfl) rfl ?_
      refine O.val (v := .slice (A2) ((L).length) (c2)) rfl (Ru.assign rfl) rfl ?_
      refine O.nil ?_
      refine C.ret ?_
      refine P1 (v := .slice (A2) ((L).length) (c2)) rfl ?_
      exact ⟨L, A2, c2, _, (by first | rfl | exact sl_congr (by first | omega | (simp; done) | (simp; omega)) | (simp; done)), (by omega), (by omega), (hM6_1.pick [0, 2] (by decide) rfl)⟩
end Go.Proofs.YtfdlmimgooeioaaDoor
