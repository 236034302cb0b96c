/- Own layer: part of this seat (DH). Plain theorems; no conditions. -/
import Derived.Test.YteljpjapacajoaaDG
set_option linter.unusedVariables false
set_option linter.unusedSimpArgs false
namespace Go.Proofs.Yteljpjapacajoaa
open Go.Px
theorem spoil_fn (gr : Nat) (rA : Option Addr) (rc : Nat) (rl : List UInt8) (rq : Nat) (A : Option Addr) (c : Nat) (l : List Int) (top : Int) (w : World) (hrA : Rd w rA (rl.map byteV)) (hro : Off rA (rl.map byteV) [some gr]) (hrl : rl.length ≤ 2000) (hA : Rd w A ((l).map I)) (hoA : Off A ((l).map I) [some gr]) (hM : Mem w w [some gr] [[⟨.slice (bl gr) 1 1, 67, 2, 1, [.slice (rA) ((rl).length) (rc), I (((rq : Nat) : Int))]⟩]]) (hrq : rq ≤ 999999950) (hl0 : l.length ≤ 1000) :
    Does Try.prog 64 [.pointer (ofs (bl gr) (0)), .slice (A) ((l).length) (c), I (top)] w (fun v w1 => ∃ (l1 : List Int) (A1 : Option Addr) (c1 : Nat) (q1 : Nat) (H : FE), v = .slice (A1) ((l1).length) (c1) ∧ (l1.length ≤ l.length + 1) ∧ (q1 ≤ rq + 10) ∧ (∀ w2, H.own w2 → Rd w2 A1 (l1.map I)) ∧ (l1.length ≤ c1) ∧ Mem w w1 [some gr] [[⟨.slice (bl gr) 1 1, 67, 2, 1, [.slice (rA) ((rl).length) (rc), I (((q1 : Nat) : Int))]⟩], [H]]) := by
  refine Does.enter1 Try.func64 rfl Try.results64 Try.ntmps64 rfl ?_
  refine C.seq ?_
  refine C.region ?_
  refine O.val (v := .slice (none) (0) (0)) rfl (Ru.assign rfl) rfl ?_
  refine O.nil ?_
  refine C.seq ?_
  refine C.region ?_
  refine O.val (v := .slice (A) ((l).length) (c)) rfl (Ru.move rfl) rfl ?_
  refine O.callg [.slice (A) ((l).length) (c)] rfl en52 rfl rfl (scopyInts_fn A c l w (hA.atR hM hoA) (by omega)) ?_
  rintro _ w1_1 ⟨A11_1, c11_1, rfl, hR1_1⟩
  have hM1_1 : Mem w w1_1 [some gr] [[⟨.slice (A11_1) ((l).length) (c11_1), 3, 1, ((l).length), (l).map I⟩], [⟨.slice (bl gr) 1 1, 67, 2, 1, [.slice (rA) ((rl).length) (rc), I (((rq : Nat) : Int))]⟩]] := Mem.call (Ma := []) hM hR1_1 rfl
  have hcr1_1_0 := (hM1_1.cap 0 rfl).1
  refine O.val (v := .slice (A11_1) ((l).length) (c11_1)) rfl (Ru.assign rfl) rfl ?_
  refine O.nil ?_
  refine C.seq ?_
  refine C.seq ?_
  refine C.region ?_
  refine O.val (v := .pointer (ofs (bl gr) (0))) rfl (Ru.move rfl) rfl ?_
  have hMf2_1 : Mem w w1_1 [some gr] [[⟨.slice (bl gr) 1 1, 67, 2, 1, [.slice (rA) ((rl).length) (rc), I (((rq : Nat) : Int))]⟩], [⟨.slice (A11_1) ((l).length) (c11_1), 3, 1, ((l).length), (l).map I⟩]] := hM1_1.pick [1, 0] (by decide) rfl
  refine O.callg [.pointer (ofs (bl gr) (0)), I (20)] rfl en46 rfl rfl (pick_fn gr rA rc rl rq 20 w1_1 (hrA.atR hMf2_1 hro) hro hrl (Mem.focus (Ma := [[⟨.slice (bl gr) 1 1, 67, 2, 1, [.slice (rA) ((rl).length) (rc), I (((rq : Nat) : Int))]⟩]]) (rest := [[⟨.slice (A11_1) ((l).length) (c11_1), 3, 1, ((l).length), (l).map I⟩]]) hMf2_1 rfl) (by first | omega | assumption | (simp; omega) | simp | (intros; omega))) ?_
  rintro _ w2_1 ⟨k2_1, rfl, hk2_1, hR2_1⟩
  have hM2_1 : Mem w w2_1 [some gr] [[⟨.slice (bl gr) 1 1, 67, 2, 1, [.slice (rA) ((rl).length) (rc), I (((rq + 1 : Nat) : Int))]⟩], [⟨.slice (A11_1) ((l).length) (c11_1), 3, 1, ((l).length), (l).map I⟩]] := Mem.call (Ma := [[⟨.slice (bl gr) 1 1, 67, 2, 1, [.slice (rA) ((rl).length) (rc), I (((rq : Nat) : Int))]⟩]]) hMf2_1 hR2_1 rfl
  refine O.nil ?_
  refine C.block ?_
  refine C.seq ?_
  refine C.region ?_
  refine O.val (v := .bool (decide (k2_1 = 0))) rfl (Ru.eql rfl rfl) rfl ?_
  refine O.val (v := .bool (decide (k2_1 = 0))) rfl (Ru.assign rfl) rfl ?_
  refine O.nil ?_
  refine C.cond (p := k2_1 = 0) rfl (fun c12 => ?_) (fun c12 => ?_)
  · refine C.region ?_
    refine O.val (v := .slice (A11_1) ((l).length) (c11_1)) rfl (Ru.move rfl) rfl ?_
    refine O.val (v := I (top)) rfl (Ru.move rfl) rfl ?_
    refine O.mlit (sz := 1) (cs := [I (top)]) hM2_1 rfl Try.underlying26 el3 rfl rfl rfl (by kernel_rfl) (by kernel_rfl) rfl rfl (fun w4_2 b4_2 hb4_2 (hM4_2 : Mem w w4_2 [some gr] [[⟨.slice (bl b4_2) (1) (1), 3, 1, 1, ([top]).map I⟩], [⟨.slice (bl gr) 1 1, 67, 2, 1, [.slice (rA) ((rl).length) (rc), I (((rq + 1 : Nat) : Int))]⟩], [⟨.slice (A11_1) ((l).length) (c11_1), 3, 1, ((l).length), (l).map I⟩]]) => ?_)
    refine O.mappend (sz := 1) (news := ([top]).map I) (m1 := (l ++ [top]).length) (xs1 := (l ++ [top]).map I) (M' := fun A4_3 c4_3 => [[⟨.slice (bl b4_2) (1) (1), 3, 1, 1, ([top]).map I⟩], [⟨.slice (bl gr) 1 1, 67, 2, 1, [.slice (rA) ((rl).length) (rc), I (((rq + 1 : Nat) : Int))]⟩], [⟨.slice (A4_3) ((l ++ [top]).length) (c4_3), 3, 1, ((l ++ [top]).length), (l ++ [top]).map I⟩]]) 2 0 hM4_2 rfl rfl rfl Try.underlying26 el3 ⟨rfl, by decide⟩ rfl rfl rfl (hM4_2.rd 0 rfl) (by first | (simp; done) | (simp; omega)) (all_map_one (fun _ => rfl) _) (by first | omega | (simp; omega)) (by first | omega | (simp; omega)) (by first | (simp; done) | (simp; omega)) (by simp) (fun _ _ => rfl) (fun w4_3 A4_3 c4_3 hc4_3 hM4_3 => ?_)
    try dsimp only at hM4_3
    refine O.val (v := .slice (A4_3) ((l ++ [top]).length) (c4_3)) rfl (Ru.assign rfl) rfl ?_
    refine O.nil ?_
    refine C.seq ?_
    refine C.region ?_
    refine O.val (v := .slice (A4_3) ((l ++ [top]).length) (c4_3)) rfl (Ru.move rfl) rfl ?_
    refine O.val (v := .slice (A4_3) ((l ++ [top]).length) (c4_3)) rfl (Ru.assign rfl) rfl ?_
    refine O.nil ?_
    refine C.ret ?_
    refine P1 (v := .slice (A4_3) ((l ++ [top]).length) (c4_3)) rfl ?_
    have hcf := (hM4_3.cap 2 rfl).1
    exact ⟨l ++ [top], A4_3, c4_3, rq + 1, ⟨.slice (A4_3) ((l ++ [top]).length) (c4_3), 3, 1, ((l ++ [top]).length), (l ++ [top]).map I⟩, (by first | rfl | exact sl_congr (by first | omega | (simp; done) | (simp; omega))), (by first | omega | (simp; done) | (simp; omega)), (by omega), (fun _ h => own_rd h), (by first | omega | (simp; done) | (simp; omega) | (simp at hcf ⊢; omega)), (hM4_3.pick [1, 2] (by decide) rfl)⟩
  · refine C.seq ?_
    refine C.region ?_
    refine O.val (v := .bool (decide (k2_1 = 1))) rfl (Ru.eql rfl rfl) rfl ?_
    refine O.val (v := .bool (decide (k2_1 = 1))) rfl (Ru.assign rfl) rfl ?_
    refine O.nil ?_
    refine C.cond (p := k2_1 = 1) rfl (fun c18 => ?_) (fun c18 => ?_)
    · refine C.seq ?_
      refine C.region ?_
      refine O.val (v := .slice (A11_1) ((l).length) (c11_1)) rfl (Ru.move rfl) rfl ?_
      refine O.val (v := I ((((l).length : Nat) : Int))) rfl (Ru.blenSlice Try.underlying26 rfl) rfl ?_
      refine O.val (v := .bool (decide ((((l).length : Nat) : Int) > 0))) rfl (Ru.gtr rfl rfl) rfl ?_
      refine O.nil ?_
      refine C.cond (p := (((l).length : Nat) : Int) > 0) rfl (fun c22 => ?_) (fun c22 => ?_)
      · refine C.region ?_
        refine O.val (v := .slice (A11_1) ((l).length) (c11_1)) rfl (Ru.move rfl) rfl ?_
        have hcp7_1 := hM2_1.cap 1 rfl
        refine O.val (v := .slice (if c11_1 = 1 then A11_1 else ofs (A11_1) (1 * 1)) (((l).drop (1)).length) (c11_1 - 1)) rfl (Ru.congr (v := .slice (if c11_1 = 1 then A11_1 else ofs (A11_1) (1 * 1)) (((l).length) - 1) (c11_1 - 1)) (v' := .slice (if c11_1 = 1 then A11_1 else ofs (A11_1) (1 * 1)) (((l).drop (1)).length) (c11_1 - 1)) (Ru.lsliceFrom (l := 1) Try.underlying26 el3 rfl rfl (by omega) (by omega)) (sl_congr (by first | rfl | (simp; done) | omega | (simp; omega)))) rfl ?_
        refine O.val (v := .slice (if c11_1 = 1 then A11_1 else ofs (A11_1) (1 * 1)) (((l).drop (1)).length) (c11_1 - 1)) rfl (Ru.assign rfl) rfl ?_
        refine O.nil ?_
        refine C.seq ?_
        refine C.region ?_
        refine O.val (v := .slice (if c11_1 = 1 then A11_1 else ofs (A11_1) (1 * 1)) (((l).drop (1)).length) (c11_1 - 1)) rfl (Ru.move rfl) rfl ?_
        refine O.val (v := .slice (if c11_1 = 1 then A11_1 else ofs (A11_1) (1 * 1)) (((l).drop (1)).length) (c11_1 - 1)) rfl (Ru.assign rfl) rfl ?_
        refine O.nil ?_
        refine C.ret ?_
        refine P1 (v := .slice (if c11_1 = 1 then A11_1 else ofs (A11_1) (1 * 1)) (((l).drop (1)).length) (c11_1 - 1)) rfl ?_
        have hcf := (hM2_1.cap 1 rfl).1
        exact ⟨(l).drop (1), if c11_1 = 1 then A11_1 else ofs (A11_1) (1 * 1), c11_1 - 1, rq + 1, ⟨.slice (A11_1) ((l).length) (c11_1), 3, 1, ((l).length), (l).map I⟩, (by first | rfl | exact sl_congr (by first | omega | (simp; done) | (simp; omega))), (by first | omega | (simp; done) | (simp; omega)), (by omega), (fun _ h => rd_drop1 (own_rd h) (by omega) (by omega)), (by first | omega | (simp; done) | (simp; omega) | (simp at hcf ⊢; omega)), (hM2_1.pick [0, 1] (by decide) rfl)⟩
      · refine C.skip ?_
        refine C.seq ?_
        refine C.region ?_
        refine O.val (v := .slice (A11_1) ((l).length) (c11_1)) rfl (Ru.move rfl) rfl ?_
        refine O.val (v := .slice (A11_1) ((l).length) (c11_1)) rfl (Ru.assign rfl) rfl ?_
        refine O.nil ?_
        refine C.ret ?_
        refine P1 (v := .slice (A11_1) ((l).length) (c11_1)) rfl ?_
        have hcf := (hM2_1.cap 1 rfl).1
        exact ⟨l, A11_1, c11_1, rq + 1, ⟨.slice (A11_1) ((l).length) (c11_1), 3, 1, ((l).length), (l).map I⟩, (by first | rfl | exact sl_congr (by first | omega | (simp; done) | (simp; omega))), (by first | omega | (simp; done) | (simp; omega)), (by omega), (fun _ h => own_rd h), (by first | omega | (simp; done) | (simp; omega) | (simp at hcf ⊢; omega)), (hM2_1.pick [0, 1] (by decide) rfl)⟩
    · refine C.seq ?_
      refine C.region ?_
      refine O.val (v := .bool (decide (k2_1 = 2))) rfl (Ru.eql rfl rfl) rfl ?_
      refine O.val (v := .bool (decide (k2_1 = 2))) rfl (Ru.assign rfl) rfl ?_
      refine O.nil ?_
      refine C.cond (p := k2_1 = 2) rfl (fun c25 => ?_) (fun c25 => ?_)
      · refine C.seq ?_
        refine C.region ?_
        refine O.val (v := .slice (A11_1) ((l).length) (c11_1)) rfl (Ru.move rfl) rfl ?_
        refine O.val (v := I ((((l).length : Nat) : Int))) rfl (Ru.blenSlice Try.underlying26 rfl) rfl ?_
        refine O.val (v := .bool (decide ((((l).length : Nat) : Int) > 0))) rfl (Ru.gtr rfl rfl) rfl ?_
        refine O.nil ?_
        refine C.cond (p := (((l).length : Nat) : Int) > 0) rfl (fun c29 => ?_) (fun c29 => ?_)
        · refine C.region ?_
          refine O.val (v := .slice (A11_1) ((l).length) (c11_1)) rfl (Ru.move rfl) rfl ?_
          refine O.val (v := .pointer (ofs (bl gr) (0))) rfl (Ru.move rfl) rfl ?_
          refine O.val (v := .slice (A11_1) ((l).length) (c11_1)) rfl (Ru.move rfl) rfl ?_
          refine O.val (v := I ((((l).length : Nat) : Int))) rfl (Ru.blenSlice Try.underlying26 rfl) rfl ?_
          refine O.callg [.pointer (ofs (bl gr) (0)), I ((((l).length : Nat) : Int))] rfl en46 rfl rfl (pick_fn gr rA rc rl (rq + 1) (((l).length : Nat) : Int) w2_1 (hrA.atR hM2_1 hro) hro hrl (Mem.focus (Ma := [[⟨.slice (bl gr) 1 1, 67, 2, 1, [.slice (rA) ((rl).length) (rc), I (((rq + 1 : Nat) : Int))]⟩]]) (rest := [[⟨.slice (A11_1) ((l).length) (c11_1), 3, 1, ((l).length), (l).map I⟩]]) hM2_1 rfl) (by first | omega | assumption | (simp; omega) | simp | (intros; omega))) ?_
          rintro _ w10_4 ⟨k10_4, rfl, hk10_4, hR10_4⟩
          have hM10_4 : Mem w w10_4 [some gr] [[⟨.slice (bl gr) 1 1, 67, 2, 1, [.slice (rA) ((rl).length) (rc), I ((((rq + 1) + 1 : Nat) : Int))]⟩], [⟨.slice (A11_1) ((l).length) (c11_1), 3, 1, ((l).length), (l).map I⟩]] := Mem.call (Ma := [[⟨.slice (bl gr) 1 1, 67, 2, 1, [.slice (rA) ((rl).length) (rc), I (((rq + 1 : Nat) : Int))]⟩]]) hM2_1 hR10_4 rfl
          refine O.val (v := .pointer (ofs (bl gr) (0))) rfl (Ru.move rfl) rfl ?_
          refine O.val (v := I (top)) rfl (Ru.move rfl) rfl ?_
          refine O.mlit (sz := 1) (cs := [I ((-1)), I (top), I (0), I (1)]) hM10_4 rfl Try.underlying26 el3 rfl rfl rfl (by kernel_rfl) (by kernel_rfl) rfl rfl (fun w10_7 b10_7 hb10_7 (hM10_7 : Mem w w10_7 [some gr] [[⟨.slice (bl b10_7) (4) (4), 3, 1, 4, ([(-1), top, 0, 1]).map I⟩], [⟨.slice (bl gr) 1 1, 67, 2, 1, [.slice (rA) ((rl).length) (rc), I ((((rq + 1) + 1 : Nat) : Int))]⟩], [⟨.slice (A11_1) ((l).length) (c11_1), 3, 1, ((l).length), (l).map I⟩]]) => ?_)
          have hMf10_8 : Mem w w10_7 [some gr] [[⟨.slice (bl gr) 1 1, 67, 2, 1, [.slice (rA) ((rl).length) (rc), I ((((rq + 1) + 1 : Nat) : Int))]⟩], [⟨.slice (bl b10_7) (4) (4), 3, 1, 4, ([(-1), top, 0, 1]).map I⟩], [⟨.slice (A11_1) ((l).length) (c11_1), 3, 1, ((l).length), (l).map I⟩]] := hM10_7.pick [1, 0, 2] (by decide) rfl
          refine O.callg [.pointer (ofs (bl gr) (0)), .slice (bl b10_7) (([(-1), top, 0, 1]).length) (4)] rfl en45 (by first | rfl | (rw [show ([(-1), top, 0, 1]).length = 4 from (by first | rfl | (simp; done) | omega | (simp; omega))]; rfl)) rfl (one_fn gr rA rc rl ((rq + 1) + 1) (bl b10_7) 4 [(-1), top, 0, 1] w10_7 (hrA.atR hMf10_8 hro) hro hrl (hMf10_8.rd 1 rfl) (Off.of_ng (hMf10_8.ng 1 0 (by decide) rfl rfl)) (Mem.focus (Ma := [[⟨.slice (bl gr) 1 1, 67, 2, 1, [.slice (rA) ((rl).length) (rc), I ((((rq + 1) + 1 : Nat) : Int))]⟩]]) (rest := [[⟨.slice (bl b10_7) (4) (4), 3, 1, 4, ([(-1), top, 0, 1]).map I⟩], [⟨.slice (A11_1) ((l).length) (c11_1), 3, 1, ((l).length), (l).map I⟩]]) hMf10_8 rfl) (by first | omega | assumption | (simp; omega) | simp | (intros; omega)) (by simp) (by simp)) ?_
          rintro _ w10_8 ⟨k10_8, rfl, hk10_8, hR10_8⟩
          have hM10_8 : Mem w w10_8 [some gr] [[⟨.slice (bl gr) 1 1, 67, 2, 1, [.slice (rA) ((rl).length) (rc), I (((((rq + 1) + 1) + 1 : Nat) : Int))]⟩], [⟨.slice (bl b10_7) (4) (4), 3, 1, 4, ([(-1), top, 0, 1]).map I⟩], [⟨.slice (A11_1) ((l).length) (c11_1), 3, 1, ((l).length), (l).map I⟩]] := Mem.call (Ma := [[⟨.slice (bl gr) 1 1, 67, 2, 1, [.slice (rA) ((rl).length) (rc), I ((((rq + 1) + 1 : Nat) : Int))]⟩]]) hMf10_8 hR10_8 rfl
          have hx10_9 : k10_4.toNat < (l).length := (by omega)
          refine O.val (v := .pointer (ofs (A11_1) ((k10_4.toNat) * 1))) rfl (Ru.indexA (j := k10_4.toNat) Try.underlying26 el3 rfl rfl (smm (hM10_8.rd 2 rfl) hx10_9) (by omega) (by omega)) rfl ?_
          refine O.mstore (vs := [I (k10_8)]) (xs' := ((l).set (k10_4.toNat) k10_8).map I) 2 0 hM10_8 rfl rfl rfl el3 rfl rfl rfl rfl rfl (by simp; omega) (by simp) (spl_map (l := l) (a := k10_8) hx10_9) rfl (fun w10_10 (hM10_10 : Mem w w10_10 [some gr] [[⟨.slice (bl gr) 1 1, 67, 2, 1, [.slice (rA) ((rl).length) (rc), I (((((rq + 1) + 1) + 1 : Nat) : Int))]⟩], [⟨.slice (bl b10_7) (4) (4), 3, 1, 4, ([(-1), top, 0, 1]).map I⟩], [⟨.slice (A11_1) ((l).length) (c11_1), 3, 1, ((l).length), ((l).set (k10_4.toNat) k10_8).map I⟩]]) => ?_)
          refine O.nil ?_
          refine C.seq ?_
          refine C.region ?_
          refine O.val (v := .slice (A11_1) ((l).length) (c11_1)) rfl (Ru.move rfl) rfl ?_
          refine O.val (v := .slice (A11_1) ((l).length) (c11_1)) rfl (Ru.assign rfl) rfl ?_
          refine O.nil ?_
          refine C.ret ?_
          refine P1 (v := .slice (A11_1) ((l).length) (c11_1)) rfl ?_
          have hcf := (hM10_10.cap 2 rfl).1
          exact ⟨(l).set (k10_4.toNat) k10_8, A11_1, c11_1, ((rq + 1) + 1) + 1, ⟨.slice (A11_1) ((l).length) (c11_1), 3, 1, ((l).length), ((l).set (k10_4.toNat) k10_8).map I⟩, (by first | rfl | exact sl_congr (by first | omega | (simp; done) | (simp; omega))), (by first | omega | (simp; done) | (simp; omega)), (by omega), (fun _ h => own_rd h), (by first | omega | (simp; done) | (simp; omega) | (simp at hcf ⊢; omega)), (hM10_10.pick [0, 2] (by decide) rfl)⟩
        · refine C.skip ?_
          refine C.seq ?_
          refine C.region ?_
          refine O.val (v := .slice (A11_1) ((l).length) (c11_1)) rfl (Ru.move rfl) rfl ?_
          refine O.val (v := .slice (A11_1) ((l).length) (c11_1)) rfl (Ru.assign rfl) rfl ?_
          refine O.nil ?_
          refine C.ret ?_
          refine P1 (v := .slice (A11_1) ((l).length) (c11_1)) rfl ?_
          have hcf := (hM2_1.cap 1 rfl).1
          exact ⟨l, A11_1, c11_1, rq + 1, ⟨.slice (A11_1) ((l).length) (c11_1), 3, 1, ((l).length), (l).map I⟩, (by first | rfl | exact sl_congr (by first | omega | (simp; done) | (simp; omega))), (by first | omega | (simp; done) | (simp; omega)), (by omega), (fun _ h => own_rd h), (by first | omega | (simp; done) | (simp; omega) | (simp at hcf ⊢; omega)), (hM2_1.pick [0, 1] (by decide) rfl)⟩
      · refine C.skip ?_
        refine C.seq ?_
        refine C.region ?_
        refine O.val (v := .slice (A11_1) ((l).length) (c11_1)) rfl (Ru.move rfl) rfl ?_
        refine O.val (v := .slice (A11_1) ((l).length) (c11_1)) rfl (Ru.assign rfl) rfl ?_
        refine O.nil ?_
        refine C.ret ?_
        refine P1 (v := .slice (A11_1) ((l).length) (c11_1)) rfl ?_
        have hcf := (hM2_1.cap 1 rfl).1
        exact ⟨l, A11_1, c11_1, rq + 1, ⟨.slice (A11_1) ((l).length) (c11_1), 3, 1, ((l).length), (l).map I⟩, (by first | rfl | exact sl_congr (by first | omega | (simp; done) | (simp; omega))), (by first | omega | (simp; done) | (simp; omega)), (by omega), (fun _ h => own_rd h), (by first | omega | (simp; done) | (simp; omega) | (simp at hcf ⊢; omega)), (hM2_1.pick [0, 1] (by decide) rfl)⟩

set_option maxHeartbeats 4000000 in
theorem anyChain_fn (gr : Nat) (rA : Option Addr) (rc : Nat) (rl : List UInt8) (rq : Nat) (w : World) (hrA : Rd w rA (rl.map byteV)) (hro : Off rA (rl.map byteV) [some gr]) (hrl : rl.length ≤ 2000) (hM : Mem w w [some gr] [[⟨.slice (bl gr) 1 1, 67, 2, 1, [.slice (rA) ((rl).length) (rc), I (((rq : Nat) : Int))]⟩]]) (hrq : rq ≤ 999997000) :
    Does Try.prog 42 [.pointer (ofs (bl gr) (0))] w (fun v w1 => ∃ (l1 : List LnkL) (A1 : Option Addr) (c1 : Nat) (q1 : Nat) (G : List FE), v = .slice (A1) ((l1).length) (c1) ∧ (1 ≤ l1.length ∧ l1.length ≤ 17) ∧ (∀ x ∈ l1, x.t.keys.length ≤ 1000) ∧ (q1 ≤ rq + 300) ∧ (∀ w2, (∀ f ∈ G, f.own w2) → Nst w2 l1) ∧ (∀ x ∈ l1, x.t.keys.length ≤ x.cp) ∧ Mem w w1 [some gr] [[⟨.slice (bl gr) 1 1, 67, 2, 1, [.slice (rA) ((rl).length) (rc), I (((q1 : Nat) : Int))]⟩], [⟨.slice (A1) ((l1).length) (c1), 28, 3, ((l1).length), (l1).flatMap encL⟩], G]) := by
  refine Does.enter1 Try.func42 rfl Try.results42 Try.ntmps42 rfl ?_
  refine C.seq ?_
  refine C.region ?_
  refine O.val (v := .slice (none) (0) (0)) rfl (Ru.assign rfl) rfl ?_
  refine O.nil ?_
  refine C.seq ?_
  refine C.region ?_
  refine O.mlit (sz := 1) (cs := []) hM rfl Try.underlying26 el3 rfl rfl rfl (by kernel_rfl) (by kernel_rfl) rfl rfl (fun w1_0 b1_0 hb1_0 (hM1_0 : Mem w w1_0 [some gr] [[⟨.slice (bl b1_0) (0) (0), 3, 1, 0, ([]).map I⟩], [⟨.slice (bl gr) 1 1, 67, 2, 1, [.slice (rA) ((rl).length) (rc), I (((rq : Nat) : Int))]⟩]]) => ?_)
  refine O.val (v := .agg #[.slice (bl b1_0) (0) (0), I (100), I ((-1))]) rfl (Ru.build of28 rfl rfl rfl) rfl ?_
  refine O.mlit (sz := 3) (cs := [.slice (bl b1_0) (0) (0), I (100), I ((-1))]) hM1_0 rfl Try.underlying23 el28 rfl rfl rfl (by kernel_rfl) (by kernel_rfl) rfl rfl (fun w1_2 b1_2 hb1_2 (hM1_2 : Mem w w1_2 [some gr] [[⟨.slice (bl b1_2) (1) (1), 28, 3, 1, ([(⟨bl b1_0, 0, ⟨[], 100, (-1)⟩⟩ : LnkL)]).flatMap encL⟩], [⟨.slice (bl b1_0) (0) (0), 3, 1, 0, ([]).map I⟩], [⟨.slice (bl gr) 1 1, 67, 2, 1, [.slice (rA) ((rl).length) (rc), I (((rq : Nat) : Int))]⟩]]) => ?_)
  refine O.val (v := .slice (bl b1_2) (1) (1)) rfl (Ru.assign rfl) rfl ?_
  refine O.nil ?_
  have hMk1 : Mem w w1_2 [some gr] [(([] : List LnkL)).map (keyF 3), [⟨.slice (bl b1_2) (1) (1), 28, 3, 1, ([(⟨bl b1_0, 0, ⟨[], 100, (-1)⟩⟩ : LnkL)]).flatMap encL⟩], [⟨.slice (bl b1_0) (0) (0), 3, 1, 0, ([]).map I⟩], [⟨.slice (bl gr) 1 1, 67, 2, 1, [.slice (rA) ((rl).length) (rc), I (((rq : Nat) : Int))]⟩]] := Mem.knil hM1_2
  have hMk2 : Mem w w1_2 [some gr] [(([] : List LnkL) ++ [(⟨bl b1_0, 0, ⟨[], 100, (-1)⟩⟩ : LnkL)]).map (keyF 3), [⟨.slice (bl b1_2) (1) (1), 28, 3, 1, ([(⟨bl b1_0, 0, ⟨[], 100, (-1)⟩⟩ : LnkL)]).flatMap encL⟩], [⟨.slice (bl gr) 1 1, 67, 2, 1, [.slice (rA) ((rl).length) (rc), I (((rq : Nat) : Int))]⟩]] := Mem.kapp (l := ([] : List LnkL)) (x := (⟨bl b1_0, 0, ⟨[], 100, (-1)⟩⟩ : LnkL)) (M := [[⟨.slice (bl b1_2) (1) (1), 28, 3, 1, ([(⟨bl b1_0, 0, ⟨[], 100, (-1)⟩⟩ : LnkL)]).flatMap encL⟩], [⟨.slice (bl gr) 1 1, 67, 2, 1, [.slice (rA) ((rl).length) (rc), I (((rq : Nat) : Int))]⟩]]) (hMk1.pick [0, 2, 1, 3] (by decide) rfl)
  have hMn3 : Mem w w1_2 [some gr] [([(⟨bl b1_0, 0, ⟨[], 100, (-1)⟩⟩ : LnkL)]).map (keyF 3), [⟨.slice (bl b1_2) (1) (1), 28, 3, 1, ([(⟨bl b1_0, 0, ⟨[], 100, (-1)⟩⟩ : LnkL)]).flatMap encL⟩], [⟨.slice (bl gr) 1 1, 67, 2, 1, [.slice (rA) ((rl).length) (rc), I (((rq : Nat) : Int))]⟩]] := Mem.cast hMk2 (congrArg (fun z_ : List LnkL => [(z_).map (keyF 3), [⟨.slice (bl b1_2) (1) (1), 28, 3, 1, ([(⟨bl b1_0, 0, ⟨[], 100, (-1)⟩⟩ : LnkL)]).flatMap encL⟩], [⟨.slice (bl gr) 1 1, 67, 2, 1, [.slice (rA) ((rl).length) (rc), I (((rq : Nat) : Int))]⟩]]) (show (([] : List LnkL) ++ [(⟨bl b1_0, 0, ⟨[], 100, (-1)⟩⟩ : LnkL)] : List LnkL) = [(⟨bl b1_0, 0, ⟨[], 100, (-1)⟩⟩ : LnkL)] from rfl))
  refine C.seq ?_
  refine C.seq ?_
  refine C.region ?_
  refine O.val (v := .pointer (ofs (bl gr) (0))) rfl (Ru.move rfl) rfl ?_
  refine O.mlit (sz := 1) (cs := [I (8), I (14), I (4), I (24), I (0), I (40)]) hMn3 rfl Try.underlying26 el3 rfl rfl rfl (by kernel_rfl) (by kernel_rfl) rfl rfl (fun w2_1 b2_1 hb2_1 (hM2_1 : Mem w w2_1 [some gr] [[⟨.slice (bl b2_1) (6) (6), 3, 1, 6, ([8, 14, 4, 24, 0, 40]).map I⟩], ([(⟨bl b1_0, 0, ⟨[], 100, (-1)⟩⟩ : LnkL)]).map (keyF 3), [⟨.slice (bl b1_2) (1) (1), 28, 3, 1, ([(⟨bl b1_0, 0, ⟨[], 100, (-1)⟩⟩ : LnkL)]).flatMap encL⟩], [⟨.slice (bl gr) 1 1, 67, 2, 1, [.slice (rA) ((rl).length) (rc), I (((rq : Nat) : Int))]⟩]]) => ?_)
  have hMf2_2 : Mem w w2_1 [some gr] [[⟨.slice (bl gr) 1 1, 67, 2, 1, [.slice (rA) ((rl).length) (rc), I (((rq : Nat) : Int))]⟩], [⟨.slice (bl b2_1) (6) (6), 3, 1, 6, ([8, 14, 4, 24, 0, 40]).map I⟩], ([(⟨bl b1_0, 0, ⟨[], 100, (-1)⟩⟩ : LnkL)]).map (keyF 3), [⟨.slice (bl b1_2) (1) (1), 28, 3, 1, ([(⟨bl b1_0, 0, ⟨[], 100, (-1)⟩⟩ : LnkL)]).flatMap encL⟩]] := hM2_1.pick [3, 0, 1, 2] (by decide) rfl
  refine O.callg [.pointer (ofs (bl gr) (0)), .slice (bl b2_1) (([8, 14, 4, 24, 0, 40]).length) (6)] rfl en45 (by first | rfl | (rw [show ([8, 14, 4, 24, 0, 40]).length = 6 from (by first | rfl | (simp; done) | omega | (simp; omega))]; rfl)) rfl (one_fn gr rA rc rl rq (bl b2_1) 6 [8, 14, 4, 24, 0, 40] w2_1 (hrA.atR hMf2_2 hro) hro hrl (hMf2_2.rd 1 rfl) (Off.of_ng (hMf2_2.ng 1 0 (by decide) rfl rfl)) (Mem.focus (Ma := [[⟨.slice (bl gr) 1 1, 67, 2, 1, [.slice (rA) ((rl).length) (rc), I (((rq : Nat) : Int))]⟩]]) (rest := [[⟨.slice (bl b2_1) (6) (6), 3, 1, 6, ([8, 14, 4, 24, 0, 40]).map I⟩], ([(⟨bl b1_0, 0, ⟨[], 100, (-1)⟩⟩ : LnkL)]).map (keyF 3), [⟨.slice (bl b1_2) (1) (1), 28, 3, 1, ([(⟨bl b1_0, 0, ⟨[], 100, (-1)⟩⟩ : LnkL)]).flatMap encL⟩]]) hMf2_2 rfl) (by first | omega | assumption | (simp; omega) | simp | (intros; omega)) (by simp) (by simp)) ?_
  rintro _ w2_2 ⟨k2_2, rfl, hk2_2, hR2_2⟩
  have hM2_2 : Mem w w2_2 [some gr] [[⟨.slice (bl gr) 1 1, 67, 2, 1, [.slice (rA) ((rl).length) (rc), I (((rq + 1 : Nat) : Int))]⟩], [⟨.slice (bl b2_1) (6) (6), 3, 1, 6, ([8, 14, 4, 24, 0, 40]).map I⟩], ([(⟨bl b1_0, 0, ⟨[], 100, (-1)⟩⟩ : LnkL)]).map (keyF 3), [⟨.slice (bl b1_2) (1) (1), 28, 3, 1, ([(⟨bl b1_0, 0, ⟨[], 100, (-1)⟩⟩ : LnkL)]).flatMap encL⟩]] := Mem.call (Ma := [[⟨.slice (bl gr) 1 1, 67, 2, 1, [.slice (rA) ((rl).length) (rc), I (((rq : Nat) : Int))]⟩]]) hMf2_2 hR2_2 rfl
  have hk0 := (by decide : ∀ k ∈ ([8, 14, 4, 24, 0, 40] : List Int), 0 ≤ k ∧ k ≤ 40) _ hk2_2
  refine O.val (v := I (k2_2)) rfl (Ru.assign rfl) rfl ?_
  refine O.nil ?_
  refine C.block ?_
  have hq4 : ([(⟨bl b1_0, 0, ⟨[], 100, (-1)⟩⟩ : LnkL)] : List LnkL) = ([(⟨bl b1_0, 0, ⟨[], 100, (-1)⟩⟩ : LnkL)]) := (by first | rfl | simp | (simp; omega))
  have hMn4 : Mem w w2_2 [some gr] [[⟨.slice (bl gr) 1 1, 67, 2, 1, [.slice (rA) ((rl).length) (rc), I (((rq + 1 : Nat) : Int))]⟩], [⟨.slice (bl b2_1) (6) (6), 3, 1, 6, ([8, 14, 4, 24, 0, 40]).map I⟩], ([(⟨bl b1_0, 0, ⟨[], 100, (-1)⟩⟩ : LnkL)]).map (keyF 3), [⟨.slice (bl b1_2) ((([(⟨bl b1_0, 0, ⟨[], 100, (-1)⟩⟩ : LnkL)])).length) (1), 28, 3, ((([(⟨bl b1_0, 0, ⟨[], 100, (-1)⟩⟩ : LnkL)])).length), (([(⟨bl b1_0, 0, ⟨[], 100, (-1)⟩⟩ : LnkL)])).flatMap encL⟩]] := hM2_2.relen 3 (n' := (([(⟨bl b1_0, 0, ⟨[], 100, (-1)⟩⟩ : LnkL)])).length) (xs' := (([(⟨bl b1_0, 0, ⟨[], 100, (-1)⟩⟩ : LnkL)])).flatMap encL) rfl (by first | rfl | exact congrArg List.length hq4 | (have hqq := congrArg List.length hq4; first | omega | (simp at hqq ⊢; omega)) | (simp; done) | (simp; omega)) (congrArg (fun z_ => (z_).flatMap encL) hq4) rfl
  refine C.loop (ι := Int × (List LnkL) × (Option Addr) × Nat × Nat) (fun x_ => ([(0, .pointer (ofs (bl gr) (0))), (3, .slice (x_.2.2.1) ((x_.2.1).length) (x_.2.2.2.1)), (4, I (x_.1))] : List (Nat × Value))) (fun x_ w_ => (0 ≤ x_.1 ∧ x_.1 ≤ 40) ∧ (x_.2.2.2.2 + 3 * x_.1 ≤ rq + 121) ∧ (1 ≤ x_.2.1.length ∧ x_.2.1.length ≤ 17) ∧ (∀ x ∈ x_.2.1, x.t.keys.length ≤ 100) ∧ (Mem w w_ [some gr] [[⟨.slice (bl gr) 1 1, 67, 2, 1, [.slice (rA) ((rl).length) (rc), I (((x_.2.2.2.2 : Nat) : Int))]⟩], [⟨.slice (bl b2_1) (6) (6), 3, 1, 6, ([8, 14, 4, 24, 0, 40]).map I⟩], (x_.2.1).map (keyF 3), [⟨.slice (x_.2.2.1) ((x_.2.1).length) (x_.2.2.2.1), 28, 3, ((x_.2.1).length), (x_.2.1).flatMap encL⟩]])) (fun x_ => x_.1.toNat) (k2_2, ([(⟨bl b1_0, 0, ⟨[], 100, (-1)⟩⟩ : LnkL)]), bl b1_2, 1, (rq + 1)) (Has.cons rfl (Has.cons (sl_congr (by first | rfl | omega | (simp; done) | (simp; omega) | exact congrArg List.length hq5 | (simp [← hq5]; done) | (simp [← hq5]; omega))) (Has.cons rfl Has.nil))) ⟨(by (try dsimp only); omega), (by (try dsimp only); omega), (by (try dsimp only); simp), (by (try dsimp only); simp), (hMn4.pick [0, 1, 2, 3] (by decide) rfl)⟩ (fun ⟨k, L, A2, c2, q⟩ σ w_l3 hI => ?_)
  try dsimp only at hI
  obtain ⟨hi0_l3, hi1_l3, hi2_l3, hi3_l3, hM_l3⟩ := hI
  have hcl1_l3 := (hM_l3.cap 1 rfl).1
  have hcl3_l3 := (hM_l3.cap 3 rfl).1
  refine C.seq ?_
  refine C.seq ?_
  refine C.region ?_
  refine O.val (v := I (k)) rfl (Ru.move rfl) rfl ?_
  refine O.val (v := .bool (decide (k > 0))) rfl (Ru.gtr rfl rfl) rfl ?_
  refine O.nil ?_
  refine C.cond (p := k > 0) rfl (fun c17 => ?_) (fun c17 => ?_)
  · refine C.skip ?_
    refine C.seq ?_
    refine C.block ?_
    refine C.seq ?_
    refine C.region ?_
    refine O.val (v := .slice (A2) ((L).length) (c2)) rfl (Ru.move rfl) rfl ?_
    refine O.val (v := .pointer (ofs (bl gr) (0))) rfl (Ru.move rfl) rfl ?_
    refine O.callg [.pointer (ofs (bl gr) (0)), I (100)] rfl en46 rfl rfl (pick_fn gr rA rc rl q 100 w_l3 (hrA.atR hM_l3 hro) hro hrl (Mem.focus (Ma := [[⟨.slice (bl gr) 1 1, 67, 2, 1, [.slice (rA) ((rl).length) (rc), I (((q : Nat) : Int))]⟩]]) (rest := [[⟨.slice (bl b2_1) (6) (6), 3, 1, 6, ([8, 14, 4, 24, 0, 40]).map I⟩], (L).map (keyF 3), [⟨.slice (A2) ((L).length) (c2), 28, 3, ((L).length), (L).flatMap encL⟩]]) hM_l3 rfl) (by first | omega | assumption | (simp; omega) | simp | (intros; omega))) ?_
    rintro _ w5_2 ⟨k5_2, rfl, hk5_2, hR5_2⟩
    have hM5_2 : Mem w w5_2 [some gr] [[⟨.slice (bl gr) 1 1, 67, 2, 1, [.slice (rA) ((rl).length) (rc), I (((q + 1 : Nat) : Int))]⟩], [⟨.slice (bl b2_1) (6) (6), 3, 1, 6, ([8, 14, 4, 24, 0, 40]).map I⟩], (L).map (keyF 3), [⟨.slice (A2) ((L).length) (c2), 28, 3, ((L).length), (L).flatMap encL⟩]] := Mem.call (Ma := [[⟨.slice (bl gr) 1 1, 67, 2, 1, [.slice (rA) ((rl).length) (rc), I (((q : Nat) : Int))]⟩]]) hM_l3 hR5_2 rfl
    refine O.callg [.slice (A2) ((L).length) (c2), I (k5_2)] rfl en40 rfl rfl (sPutLink_fn A2 c2 L k5_2 w5_2 (hM5_2.rd 3 rfl) (Nst.mem hM5_2 2 rfl) (by omega)) ?_
    rintro _ w5_3 ⟨L15_3, A15_3, c15_3, rfl, hts5_3, hR5_3⟩
    have hM5_3 : Mem w w5_3 [some gr] [[⟨.slice (A15_3) ((L15_3).length) (c15_3), 28, 3, ((L15_3).length), (L15_3).flatMap encL⟩], (L15_3).map (keyF 3), [⟨.slice (bl gr) 1 1, 67, 2, 1, [.slice (rA) ((rl).length) (rc), I (((q + 1 : Nat) : Int))]⟩], [⟨.slice (bl b2_1) (6) (6), 3, 1, 6, ([8, 14, 4, 24, 0, 40]).map I⟩], (L).map (keyF 3), [⟨.slice (A2) ((L).length) (c2), 28, 3, ((L).length), (L).flatMap encL⟩]] := Mem.call (Ma := []) hM5_2 hR5_3 rfl
    have hcr5_3_0 := (hM5_3.cap 0 rfl).1
    refine O.val (v := .tuple #[.slice (A15_3) ((L15_3).length) (c15_3), .bool ((putF (tsL L) k5_2).isSome)]) rfl (Ru.move rfl) rfl ?_
    refine O.val (v := .slice (A15_3) ((L15_3).length) (c15_3)) rfl (Ru.extract rfl rfl) rfl ?_
    refine O.val (v := .bool ((putF (tsL L) k5_2).isSome)) rfl (Ru.extract rfl rfl) rfl ?_
    refine O.val (v := .slice (A15_3) ((L15_3).length) (c15_3)) rfl (Ru.assign rfl) rfl ?_
    refine O.val (v := .bool ((putF (tsL L) k5_2).isSome)) rfl (Ru.assign rfl) rfl ?_
    refine O.nil ?_
    refine C.seq ?_
    refine C.seq ?_
    refine C.region ?_
    refine O.val (v := .bool ((putF (tsL L) k5_2).isSome)) rfl (Ru.move rfl) rfl ?_
    refine O.nil ?_
    refine C.condb (t := (putF (tsL L) k5_2).isSome) rfl (fun c27 => ?_) (fun c27 => ?_)
    · have hl5 := putF_lens hts5_3 (by simpa using c27)
      refine C.region ?_
      refine O.val (v := .slice (A15_3) ((L15_3).length) (c15_3)) rfl (Ru.move rfl) rfl ?_
      refine O.val (v := .slice (A15_3) ((L15_3).length) (c15_3)) rfl (Ru.assign rfl) rfl ?_
      refine O.nil ?_
      refine C.seq ?_
      refine C.region ?_
      refine O.val (v := .pointer (ofs (bl gr) (0))) rfl (Ru.move rfl) rfl ?_
      have hMf8_1 : Mem w w5_3 [some gr] [[⟨.slice (bl gr) 1 1, 67, 2, 1, [.slice (rA) ((rl).length) (rc), I (((q + 1 : Nat) : Int))]⟩], [⟨.slice (A15_3) ((L15_3).length) (c15_3), 28, 3, ((L15_3).length), (L15_3).flatMap encL⟩], (L15_3).map (keyF 3), [⟨.slice (bl b2_1) (6) (6), 3, 1, 6, ([8, 14, 4, 24, 0, 40]).map I⟩], (L).map (keyF 3), [⟨.slice (A2) ((L).length) (c2), 28, 3, ((L).length), (L).flatMap encL⟩]] := hM5_3.pick [2, 0, 1, 3, 4, 5] (by decide) rfl
      refine O.callg [.pointer (ofs (bl gr) (0)), I (6)] rfl en46 rfl rfl (pick_fn gr rA rc rl (q + 1) 6 w5_3 (hrA.atR hMf8_1 hro) hro hrl (Mem.focus (Ma := [[⟨.slice (bl gr) 1 1, 67, 2, 1, [.slice (rA) ((rl).length) (rc), I (((q + 1 : Nat) : Int))]⟩]]) (rest := [[⟨.slice (A15_3) ((L15_3).length) (c15_3), 28, 3, ((L15_3).length), (L15_3).flatMap encL⟩], (L15_3).map (keyF 3), [⟨.slice (bl b2_1) (6) (6), 3, 1, 6, ([8, 14, 4, 24, 0, 40]).map I⟩], (L).map (keyF 3), [⟨.slice (A2) ((L).length) (c2), 28, 3, ((L).length), (L).flatMap encL⟩]]) hMf8_1 rfl) (by first | omega | assumption | (simp; omega) | simp | (intros; omega))) ?_
      rintro _ w8_1 ⟨k8_1, rfl, hk8_1, hR8_1⟩
      have hM8_1 : Mem w w8_1 [some gr] [[⟨.slice (bl gr) 1 1, 67, 2, 1, [.slice (rA) ((rl).length) (rc), I ((((q + 1) + 1 : Nat) : Int))]⟩], [⟨.slice (A15_3) ((L15_3).length) (c15_3), 28, 3, ((L15_3).length), (L15_3).flatMap encL⟩], (L15_3).map (keyF 3), [⟨.slice (bl b2_1) (6) (6), 3, 1, 6, ([8, 14, 4, 24, 0, 40]).map I⟩], (L).map (keyF 3), [⟨.slice (A2) ((L).length) (c2), 28, 3, ((L).length), (L).flatMap encL⟩]] := Mem.call (Ma := [[⟨.slice (bl gr) 1 1, 67, 2, 1, [.slice (rA) ((rl).length) (rc), I (((q + 1 : Nat) : Int))]⟩]]) hMf8_1 hR8_1 rfl
      refine O.val (v := .bool (decide (k8_1 = 0))) rfl (Ru.eql rfl rfl) rfl ?_
      refine O.nil ?_
      refine C.cond (p := k8_1 = 0) rfl (fun c31 => ?_) (fun c31 => ?_)
      · refine C.seq ?_
        refine C.region ?_
        refine O.val (v := .slice (A15_3) ((L15_3).length) (c15_3)) rfl (Ru.move rfl) rfl ?_
        refine O.val (v := .pointer (ofs (bl gr) (0))) rfl (Ru.move rfl) rfl ?_
        refine O.val (v := .slice (A15_3) ((L15_3).length) (c15_3)) rfl (Ru.move rfl) rfl ?_
        refine O.val (v := I ((((L15_3).length : Nat) : Int))) rfl (Ru.blenSlice Try.underlying23 rfl) rfl ?_
        refine O.callg [.pointer (ofs (bl gr) (0)), I ((((L15_3).length : Nat) : Int))] rfl en46 rfl rfl (pick_fn gr rA rc rl ((q + 1) + 1) (((L15_3).length : Nat) : Int) w8_1 (hrA.atR hM8_1 hro) hro hrl (Mem.focus (Ma := [[⟨.slice (bl gr) 1 1, 67, 2, 1, [.slice (rA) ((rl).length) (rc), I ((((q + 1) + 1 : Nat) : Int))]⟩]]) (rest := [[⟨.slice (A15_3) ((L15_3).length) (c15_3), 28, 3, ((L15_3).length), (L15_3).flatMap encL⟩], (L15_3).map (keyF 3), [⟨.slice (bl b2_1) (6) (6), 3, 1, 6, ([8, 14, 4, 24, 0, 40]).map I⟩], (L).map (keyF 3), [⟨.slice (A2) ((L).length) (c2), 28, 3, ((L).length), (L).flatMap encL⟩]]) hM8_1 rfl) (by first | omega | assumption | (simp; omega) | simp | (intros; omega))) ?_
        rintro _ w9_4 ⟨k9_4, rfl, hk9_4, hR9_4⟩
        have hM9_4 : Mem w w9_4 [some gr] [[⟨.slice (bl gr) 1 1, 67, 2, 1, [.slice (rA) ((rl).length) (rc), I (((((q + 1) + 1) + 1 : Nat) : Int))]⟩], [⟨.slice (A15_3) ((L15_3).length) (c15_3), 28, 3, ((L15_3).length), (L15_3).flatMap encL⟩], (L15_3).map (keyF 3), [⟨.slice (bl b2_1) (6) (6), 3, 1, 6, ([8, 14, 4, 24, 0, 40]).map I⟩], (L).map (keyF 3), [⟨.slice (A2) ((L).length) (c2), 28, 3, ((L).length), (L).flatMap encL⟩]] := Mem.call (Ma := [[⟨.slice (bl gr) 1 1, 67, 2, 1, [.slice (rA) ((rl).length) (rc), I ((((q + 1) + 1 : Nat) : Int))]⟩]]) hM8_1 hR9_4 rfl
        have hcp9 := Mem.ncap hM9_4 2 rfl
        refine O.callg [.slice (A15_3) ((L15_3).length) (c15_3), I (k9_4)] rfl en30 rfl rfl (sSplitLink_fn A15_3 c15_3 L15_3 k9_4 w9_4 (hM9_4.rd 1 rfl) (Nst.mem hM9_4 2 rfl) (by omega) (by exact hcp9)) ?_
        rintro _ w9_5 ⟨L19_5, A19_5, c19_5, rfl, hts9_5, hR9_5⟩
        have hM9_5 : Mem w w9_5 [some gr] [[⟨.slice (A19_5) ((L19_5).length) (c19_5), 28, 3, ((L19_5).length), (L19_5).flatMap encL⟩], (L19_5).map (keyF 3), [⟨.slice (bl gr) 1 1, 67, 2, 1, [.slice (rA) ((rl).length) (rc), I (((((q + 1) + 1) + 1 : Nat) : Int))]⟩], [⟨.slice (A15_3) ((L15_3).length) (c15_3), 28, 3, ((L15_3).length), (L15_3).flatMap encL⟩], (L15_3).map (keyF 3), [⟨.slice (bl b2_1) (6) (6), 3, 1, 6, ([8, 14, 4, 24, 0, 40]).map I⟩], (L).map (keyF 3), [⟨.slice (A2) ((L).length) (c2), 28, 3, ((L).length), (L).flatMap encL⟩]] := Mem.call (Ma := []) hM9_4 hR9_5 rfl
        have hcr9_5_0 := (hM9_5.cap 0 rfl).1
        refine O.val (v := .tuple #[.slice (A19_5) ((L19_5).length) (c19_5), .bool ((splitF (tsL L15_3) k9_4).isSome)]) rfl (Ru.move rfl) rfl ?_
        refine O.val (v := .slice (A19_5) ((L19_5).length) (c19_5)) rfl (Ru.extract rfl rfl) rfl ?_
        refine O.val (v := .bool ((splitF (tsL L15_3) k9_4).isSome)) rfl (Ru.extract rfl rfl) rfl ?_
        refine O.val (v := .slice (A19_5) ((L19_5).length) (c19_5)) rfl (Ru.assign rfl) rfl ?_
        refine O.val (v := .bool ((splitF (tsL L15_3) k9_4).isSome)) rfl (Ru.assign rfl) rfl ?_
        refine O.nil ?_
        refine C.seq ?_
        refine C.region ?_
        refine O.val (v := .bool ((splitF (tsL L15_3) k9_4).isSome)) rfl (Ru.move rfl) rfl ?_
        refine O.nil ?_
        refine C.condb (t := (splitF (tsL L15_3) k9_4).isSome) rfl (fun c41 => ?_) (fun c41 => ?_)
        · refine C.region ?_
          refine O.val (v := .slice (A19_5) ((L19_5).length) (c19_5)) rfl (Ru.move rfl) rfl ?_
          refine O.val (v := .slice (A19_5) ((L19_5).length) (c19_5)) rfl (Ru.assign rfl) rfl ?_
          refine O.nil ?_
          refine C.region ?_
          refine O.val (v := I (k)) rfl (Ru.move rfl) rfl ?_
          refine O.val (v := I ((k - 1))) rfl (Ru.sub rfl rfl (by omega)) rfl ?_
          refine O.val (v := I ((k - 1))) rfl (Ru.assign rfl) rfl ?_
          refine O.nil ?_
          exact loopEnd (k - 1, L19_5, A19_5, c19_5, (((q + 1) + 1) + 1)) (by (try dsimp only); omega) (Has.cons rfl (Has.cons rfl (Has.cons (I_congr (by first | rfl | omega | (simp; omega) | simp)) Has.nil))) ⟨(by (try dsimp only); omega), (by (try dsimp only); omega), (splF_lens hts9_5 (by simpa using c41)), (keys_le hts9_5 (splF_keys4)), (hM9_5.pick [2, 5, 1, 0] (by decide) rfl)⟩
        · refine C.skip ?_
          refine C.region ?_
          refine O.val (v := I (k)) rfl (Ru.move rfl) rfl ?_
          refine O.val (v := I ((k - 1))) rfl (Ru.sub rfl rfl (by omega)) rfl ?_
          refine O.val (v := I ((k - 1))) rfl (Ru.assign rfl) rfl ?_
          refine O.nil ?_
          exact loopEnd (k - 1, L15_3, A15_3, c15_3, (((q + 1) + 1) + 1)) (by (try dsimp only); omega) (Has.cons rfl (Has.cons rfl (Has.cons (I_congr (by first | rfl | omega | (simp; omega) | simp)) Has.nil))) ⟨(by (try dsimp only); omega), (by (try dsimp only); omega), (putF_lens hts5_3 (by simpa using c27)), (keys_le hts5_3 (putF_keys4)), (hM9_5.pick [2, 5, 4, 3] (by decide) rfl)⟩
      · refine C.skip ?_
        refine C.region ?_
        refine O.val (v := I (k)) rfl (Ru.move rfl) rfl ?_
        refine O.val (v := I ((k - 1))) rfl (Ru.sub rfl rfl (by omega)) rfl ?_
        refine O.val (v := I ((k - 1))) rfl (Ru.assign rfl) rfl ?_
        refine O.nil ?_
        exact loopEnd (k - 1, L15_3, A15_3, c15_3, ((q + 1) + 1)) (by (try dsimp only); omega) (Has.cons rfl (Has.cons rfl (Has.cons (I_congr (by first | rfl | omega | (simp; omega) | simp)) Has.nil))) ⟨(by (try dsimp only); omega), (by (try dsimp only); omega), (putF_lens hts5_3 (by simpa using c27)), (keys_le hts5_3 (putF_keys4)), (hM8_1.pick [0, 3, 2, 1] (by decide) rfl)⟩
    · refine C.skip ?_
      refine C.seq ?_
      refine C.region ?_
      refine O.val (v := .pointer (ofs (bl gr) (0))) rfl (Ru.move rfl) rfl ?_
      have hMf8_1 : Mem w w5_3 [some gr] [[⟨.slice (bl gr) 1 1, 67, 2, 1, [.slice (rA) ((rl).length) (rc), I (((q + 1 : Nat) : Int))]⟩], [⟨.slice (A15_3) ((L15_3).length) (c15_3), 28, 3, ((L15_3).length), (L15_3).flatMap encL⟩], (L15_3).map (keyF 3), [⟨.slice (bl b2_1) (6) (6), 3, 1, 6, ([8, 14, 4, 24, 0, 40]).map I⟩], (L).map (keyF 3), [⟨.slice (A2) ((L).length) (c2), 28, 3, ((L).length), (L).flatMap encL⟩]] := hM5_3.pick [2, 0, 1, 3, 4, 5] (by decide) rfl
      refine O.callg [.pointer (ofs (bl gr) (0)), I (6)] rfl en46 rfl rfl (pick_fn gr rA rc rl (q + 1) 6 w5_3 (hrA.atR hMf8_1 hro) hro hrl (Mem.focus (Ma := [[⟨.slice (bl gr) 1 1, 67, 2, 1, [.slice (rA) ((rl).length) (rc), I (((q + 1 : Nat) : Int))]⟩]]) (rest := [[⟨.slice (A15_3) ((L15_3).length) (c15_3), 28, 3, ((L15_3).length), (L15_3).flatMap encL⟩], (L15_3).map (keyF 3), [⟨.slice (bl b2_1) (6) (6), 3, 1, 6, ([8, 14, 4, 24, 0, 40]).map I⟩], (L).map (keyF 3), [⟨.slice (A2) ((L).length) (c2), 28, 3, ((L).length), (L).flatMap encL⟩]]) hMf8_1 rfl) (by first | omega | assumption | (simp; omega) | simp | (intros; omega))) ?_
      rintro _ w8_1 ⟨k8_1, rfl, hk8_1, hR8_1⟩
      have hM8_1 : Mem w w8_1 [some gr] [[⟨.slice (bl gr) 1 1, 67, 2, 1, [.slice (rA) ((rl).length) (rc), I ((((q + 1) + 1 : Nat) : Int))]⟩], [⟨.slice (A15_3) ((L15_3).length) (c15_3), 28, 3, ((L15_3).length), (L15_3).flatMap encL⟩], (L15_3).map (keyF 3), [⟨.slice (bl b2_1) (6) (6), 3, 1, 6, ([8, 14, 4, 24, 0, 40]).map I⟩], (L).map (keyF 3), [⟨.slice (A2) ((L).length) (c2), 28, 3, ((L).length), (L).flatMap encL⟩]] := Mem.call (Ma := [[⟨.slice (bl gr) 1 1, 67, 2, 1, [.slice (rA) ((rl).length) (rc), I (((q + 1 : Nat) : Int))]⟩]]) hMf8_1 hR8_1 rfl
      refine O.val (v := .bool (decide (k8_1 = 0))) rfl (Ru.eql rfl rfl) rfl ?_
      refine O.nil ?_
      refine C.cond (p := k8_1 = 0) rfl (fun c31 => ?_) (fun c31 => ?_)
      · refine C.seq ?_
        refine C.region ?_
        refine O.val (v := .slice (A2) ((L).length) (c2)) rfl (Ru.move rfl) rfl ?_
        refine O.val (v := .pointer (ofs (bl gr) (0))) rfl (Ru.move rfl) rfl ?_
        refine O.val (v := .slice (A2) ((L).length) (c2)) rfl (Ru.move rfl) rfl ?_
        refine O.val (v := I ((((L).length : Nat) : Int))) rfl (Ru.blenSlice Try.underlying23 rfl) rfl ?_
        refine O.callg [.pointer (ofs (bl gr) (0)), I ((((L).length : Nat) : Int))] rfl en46 rfl rfl (pick_fn gr rA rc rl ((q + 1) + 1) (((L).length : Nat) : Int) w8_1 (hrA.atR hM8_1 hro) hro hrl (Mem.focus (Ma := [[⟨.slice (bl gr) 1 1, 67, 2, 1, [.slice (rA) ((rl).length) (rc), I ((((q + 1) + 1 : Nat) : Int))]⟩]]) (rest := [[⟨.slice (A15_3) ((L15_3).length) (c15_3), 28, 3, ((L15_3).length), (L15_3).flatMap encL⟩], (L15_3).map (keyF 3), [⟨.slice (bl b2_1) (6) (6), 3, 1, 6, ([8, 14, 4, 24, 0, 40]).map I⟩], (L).map (keyF 3), [⟨.slice (A2) ((L).length) (c2), 28, 3, ((L).length), (L).flatMap encL⟩]]) hM8_1 rfl) (by first | omega | assumption | (simp; omega) | simp | (intros; omega))) ?_
        rintro _ w9_4 ⟨k9_4, rfl, hk9_4, hR9_4⟩
        have hM9_4 : Mem w w9_4 [some gr] [[⟨.slice (bl gr) 1 1, 67, 2, 1, [.slice (rA) ((rl).length) (rc), I (((((q + 1) + 1) + 1 : Nat) : Int))]⟩], [⟨.slice (A15_3) ((L15_3).length) (c15_3), 28, 3, ((L15_3).length), (L15_3).flatMap encL⟩], (L15_3).map (keyF 3), [⟨.slice (bl b2_1) (6) (6), 3, 1, 6, ([8, 14, 4, 24, 0, 40]).map I⟩], (L).map (keyF 3), [⟨.slice (A2) ((L).length) (c2), 28, 3, ((L).length), (L).flatMap encL⟩]] := Mem.call (Ma := [[⟨.slice (bl gr) 1 1, 67, 2, 1, [.slice (rA) ((rl).length) (rc), I ((((q + 1) + 1 : Nat) : Int))]⟩]]) hM8_1 hR9_4 rfl
        have hcp9 := Mem.ncap hM9_4 4 rfl
        refine O.callg [.slice (A2) ((L).length) (c2), I (k9_4)] rfl en30 rfl rfl (sSplitLink_fn A2 c2 L k9_4 w9_4 (hM9_4.rd 5 rfl) (Nst.mem hM9_4 4 rfl) (by omega) (by exact hcp9)) ?_
        rintro _ w9_5 ⟨L19_5, A19_5, c19_5, rfl, hts9_5, hR9_5⟩
        have hM9_5 : Mem w w9_5 [some gr] [[⟨.slice (A19_5) ((L19_5).length) (c19_5), 28, 3, ((L19_5).length), (L19_5).flatMap encL⟩], (L19_5).map (keyF 3), [⟨.slice (bl gr) 1 1, 67, 2, 1, [.slice (rA) ((rl).length) (rc), I (((((q + 1) + 1) + 1 : Nat) : Int))]⟩], [⟨.slice (A15_3) ((L15_3).length) (c15_3), 28, 3, ((L15_3).length), (L15_3).flatMap encL⟩], (L15_3).map (keyF 3), [⟨.slice (bl b2_1) (6) (6), 3, 1, 6, ([8, 14, 4, 24, 0, 40]).map I⟩], (L).map (keyF 3), [⟨.slice (A2) ((L).length) (c2), 28, 3, ((L).length), (L).flatMap encL⟩]] := Mem.call (Ma := []) hM9_4 hR9_5 rfl
        have hcr9_5_0 := (hM9_5.cap 0 rfl).1
        refine O.val (v := .tuple #[.slice (A19_5) ((L19_5).length) (c19_5), .bool ((splitF (tsL L) k9_4).isSome)]) rfl (Ru.move rfl) rfl ?_
        refine O.val (v := .slice (A19_5) ((L19_5).length) (c19_5)) rfl (Ru.extract rfl rfl) rfl ?_
        refine O.val (v := .bool ((splitF (tsL L) k9_4).isSome)) rfl (Ru.extract rfl rfl) rfl ?_
        refine O.val (v := .slice (A19_5) ((L19_5).length) (c19_5)) rfl (Ru.assign rfl) rfl ?_
        refine O.val (v := .bool ((splitF (tsL L) k9_4).isSome)) rfl (Ru.assign rfl) rfl ?_
        refine O.nil ?_
        refine C.seq ?_
        refine C.region ?_
        refine O.val (v := .bool ((splitF (tsL L) k9_4).isSome)) rfl (Ru.move rfl) rfl ?_
        refine O.nil ?_
        refine C.condb (t := (splitF (tsL L) k9_4).isSome) rfl (fun c41 => ?_) (fun c41 => ?_)
        · refine C.region ?_
          refine O.val (v := .slice (A19_5) ((L19_5).length) (c19_5)) rfl (Ru.move rfl) rfl ?_
          refine O.val (v := .slice (A19_5) ((L19_5).length) (c19_5)) rfl (Ru.assign rfl) rfl ?_
          refine O.nil ?_
          refine C.region ?_
          refine O.val (v := I (k)) rfl (Ru.move rfl) rfl ?_
          refine O.val (v := I ((k - 1))) rfl (Ru.sub rfl rfl (by omega)) rfl ?_
          refine O.val (v := I ((k - 1))) rfl (Ru.assign rfl) rfl ?_
          refine O.nil ?_
          exact loopEnd (k - 1, L19_5, A19_5, c19_5, (((q + 1) + 1) + 1)) (by (try dsimp only); omega) (Has.cons rfl (Has.cons rfl (Has.cons (I_congr (by first | rfl | omega | (simp; omega) | simp)) Has.nil))) ⟨(by (try dsimp only); omega), (by (try dsimp only); omega), (splF_lens hts9_5 (by simpa using c41)), (keys_le hts9_5 (splF_keys4)), (hM9_5.pick [2, 5, 1, 0] (by decide) rfl)⟩
        · refine C.skip ?_
          refine C.region ?_
          refine O.val (v := I (k)) rfl (Ru.move rfl) rfl ?_
          refine O.val (v := I ((k - 1))) rfl (Ru.sub rfl rfl (by omega)) rfl ?_
          refine O.val (v := I ((k - 1))) rfl (Ru.assign rfl) rfl ?_
          refine O.nil ?_
          exact loopEnd (k - 1, L, A2, c2, (((q + 1) + 1) + 1)) (by (try dsimp only); omega) (Has.cons rfl (Has.cons rfl (Has.cons (I_congr (by first | rfl | omega | (simp; omega) | simp)) Has.nil))) ⟨(by (try dsimp only); omega), (by (try dsimp only); omega), hi2_l3, hi3_l3, (hM9_5.pick [2, 5, 6, 7] (by decide) rfl)⟩
      · refine C.skip ?_
        refine C.region ?_
        refine O.val (v := I (k)) rfl (Ru.move rfl) rfl ?_
        refine O.val (v := I ((k - 1))) rfl (Ru.sub rfl rfl (by omega)) rfl ?_
        refine O.val (v := I ((k - 1))) rfl (Ru.assign rfl) rfl ?_
        refine O.nil ?_
        exact loopEnd (k - 1, L, A2, c2, ((q + 1) + 1)) (by (try dsimp only); omega) (Has.cons rfl (Has.cons rfl (Has.cons (I_congr (by first | rfl | omega | (simp; omega) | simp)) Has.nil))) ⟨(by (try dsimp only); omega), (by (try dsimp only); omega), hi2_l3, hi3_l3, (hM8_1.pick [0, 3, 4, 5] (by decide) rfl)⟩
  · refine C.exit ?_
    refine C.seq ?_
    refine C.region ?_
    refine O.val (v := .pointer (ofs (bl gr) (0))) rfl (Ru.move rfl) rfl ?_
    refine O.val (v := .slice (A2) ((L).length) (c2)) rfl (Ru.move rfl) rfl ?_
    refine O.val (v := I ((((L).length : Nat) : Int))) rfl (Ru.blenSlice Try.underlying23 rfl) rfl ?_
    refine O.callg [.pointer (ofs (bl gr) (0)), I ((((L).length : Nat) : Int))] rfl en46 rfl rfl (pick_fn gr rA rc rl q (((L).length : Nat) : Int) w_l3 (hrA.atR hM_l3 hro) hro hrl (Mem.focus (Ma := [[⟨.slice (bl gr) 1 1, 67, 2, 1, [.slice (rA) ((rl).length) (rc), I (((q : Nat) : Int))]⟩]]) (rest := [[⟨.slice (bl b2_1) (6) (6), 3, 1, 6, ([8, 14, 4, 24, 0, 40]).map I⟩], (L).map (keyF 3), [⟨.slice (A2) ((L).length) (c2), 28, 3, ((L).length), (L).flatMap encL⟩]]) hM_l3 rfl) (by first | omega | assumption | (simp; omega) | simp | (intros; omega))) ?_
    rintro _ w12_3 ⟨k12_3, rfl, hk12_3, hR12_3⟩
    have hM12_3 : Mem w w12_3 [some gr] [[⟨.slice (bl gr) 1 1, 67, 2, 1, [.slice (rA) ((rl).length) (rc), I (((q + 1 : Nat) : Int))]⟩], [⟨.slice (bl b2_1) (6) (6), 3, 1, 6, ([8, 14, 4, 24, 0, 40]).map I⟩], (L).map (keyF 3), [⟨.slice (A2) ((L).length) (c2), 28, 3, ((L).length), (L).flatMap encL⟩]] := Mem.call (Ma := [[⟨.slice (bl gr) 1 1, 67, 2, 1, [.slice (rA) ((rl).length) (rc), I (((q : Nat) : Int))]⟩]]) hM_l3 hR12_3 rfl
    refine O.val (v := I (k12_3)) rfl (Ru.assign rfl) rfl ?_
    refine O.nil ?_
    refine C.seq ?_
    refine C.seq ?_
    refine C.region ?_
    refine O.val (v := .pointer (ofs (bl gr) (0))) rfl (Ru.move rfl) rfl ?_
    refine O.callg [.pointer (ofs (bl gr) (0)), I (24)] rfl en46 rfl rfl (pick_fn gr rA rc rl (q + 1) 24 w12_3 (hrA.atR hM12_3 hro) hro hrl (Mem.focus (Ma := [[⟨.slice (bl gr) 1 1, 67, 2, 1, [.slice (rA) ((rl).length) (rc), I (((q + 1 : Nat) : Int))]⟩]]) (rest := [[⟨.slice (bl b2_1) (6) (6), 3, 1, 6, ([8, 14, 4, 24, 0, 40]).map I⟩], (L).map (keyF 3), [⟨.slice (A2) ((L).length) (c2), 28, 3, ((L).length), (L).flatMap encL⟩]]) hM12_3 rfl) (by first | omega | assumption | (simp; omega) | simp | (intros; omega))) ?_
    rintro _ w13_1 ⟨k13_1, rfl, hk13_1, hR13_1⟩
    have hM13_1 : Mem w w13_1 [some gr] [[⟨.slice (bl gr) 1 1, 67, 2, 1, [.slice (rA) ((rl).length) (rc), I ((((q + 1) + 1 : Nat) : Int))]⟩], [⟨.slice (bl b2_1) (6) (6), 3, 1, 6, ([8, 14, 4, 24, 0, 40]).map I⟩], (L).map (keyF 3), [⟨.slice (A2) ((L).length) (c2), 28, 3, ((L).length), (L).flatMap encL⟩]] := Mem.call (Ma := [[⟨.slice (bl gr) 1 1, 67, 2, 1, [.slice (rA) ((rl).length) (rc), I (((q + 1 : Nat) : Int))]⟩]]) hM12_3 hR13_1 rfl
    refine O.nil ?_
    refine C.block ?_
    refine C.seq ?_
    refine C.region ?_
    refine O.val (v := .bool (decide (k13_1 = 0))) rfl (Ru.eql rfl rfl) rfl ?_
    refine O.val (v := .bool (decide (k13_1 = 0))) rfl (Ru.assign rfl) rfl ?_
    refine O.nil ?_
    refine C.cond (p := k13_1 = 0) rfl (fun c49 => ?_) (fun c49 => ?_)
    · refine C.region ?_
      refine O.val (v := .slice (A2) ((L).length) (c2)) rfl (Ru.move rfl) rfl ?_
      refine O.val (v := I (k12_3)) rfl (Ru.move rfl) rfl ?_
      refine O.val (v := .pointer (ofs (bl gr) (0))) rfl (Ru.move rfl) rfl ?_
      refine O.mlit (sz := 1) (cs := [I ((-1)), I (50), I (101)]) hM13_1 rfl Try.underlying26 el3 rfl rfl rfl (by kernel_rfl) (by kernel_rfl) rfl rfl (fun w15_3 b15_3 hb15_3 (hM15_3 : Mem w w15_3 [some gr] [[⟨.slice (bl b15_3) (3) (3), 3, 1, 3, ([(-1), 50, 101]).map I⟩], [⟨.slice (bl gr) 1 1, 67, 2, 1, [.slice (rA) ((rl).length) (rc), I ((((q + 1) + 1 : Nat) : Int))]⟩], [⟨.slice (bl b2_1) (6) (6), 3, 1, 6, ([8, 14, 4, 24, 0, 40]).map I⟩], (L).map (keyF 3), [⟨.slice (A2) ((L).length) (c2), 28, 3, ((L).length), (L).flatMap encL⟩]]) => ?_)
      have hMf15_4 : Mem w w15_3 [some gr] [[⟨.slice (bl gr) 1 1, 67, 2, 1, [.slice (rA) ((rl).length) (rc), I ((((q + 1) + 1 : Nat) : Int))]⟩], [⟨.slice (bl b15_3) (3) (3), 3, 1, 3, ([(-1), 50, 101]).map I⟩], [⟨.slice (bl b2_1) (6) (6), 3, 1, 6, ([8, 14, 4, 24, 0, 40]).map I⟩], (L).map (keyF 3), [⟨.slice (A2) ((L).length) (c2), 28, 3, ((L).length), (L).flatMap encL⟩]] := hM15_3.pick [1, 0, 2, 3, 4] (by decide) rfl
      refine O.callg [.pointer (ofs (bl gr) (0)), .slice (bl b15_3) (([(-1), 50, 101]).length) (3)] rfl en45 (by first | rfl | (rw [show ([(-1), 50, 101]).length = 3 from (by first | rfl | (simp; done) | omega | (simp; omega))]; rfl)) rfl (one_fn gr rA rc rl ((q + 1) + 1) (bl b15_3) 3 [(-1), 50, 101] w15_3 (hrA.atR hMf15_4 hro) hro hrl (hMf15_4.rd 1 rfl) (Off.of_ng (hMf15_4.ng 1 0 (by decide) rfl rfl)) (Mem.focus (Ma := [[⟨.slice (bl gr) 1 1, 67, 2, 1, [.slice (rA) ((rl).length) (rc), I ((((q + 1) + 1 : Nat) : Int))]⟩]]) (rest := [[⟨.slice (bl b15_3) (3) (3), 3, 1, 3, ([(-1), 50, 101]).map I⟩], [⟨.slice (bl b2_1) (6) (6), 3, 1, 6, ([8, 14, 4, 24, 0, 40]).map I⟩], (L).map (keyF 3), [⟨.slice (A2) ((L).length) (c2), 28, 3, ((L).length), (L).flatMap encL⟩]]) hMf15_4 rfl) (by first | omega | assumption | (simp; omega) | simp | (intros; omega)) (by simp) (by simp)) ?_
      rintro _ w15_4 ⟨k15_4, rfl, hk15_4, hR15_4⟩
      have hM15_4 : Mem w w15_4 [some gr] [[⟨.slice (bl gr) 1 1, 67, 2, 1, [.slice (rA) ((rl).length) (rc), I (((((q + 1) + 1) + 1 : Nat) : Int))]⟩], [⟨.slice (bl b15_3) (3) (3), 3, 1, 3, ([(-1), 50, 101]).map I⟩], [⟨.slice (bl b2_1) (6) (6), 3, 1, 6, ([8, 14, 4, 24, 0, 40]).map I⟩], (L).map (keyF 3), [⟨.slice (A2) ((L).length) (c2), 28, 3, ((L).length), (L).flatMap encL⟩]] := Mem.call (Ma := [[⟨.slice (bl gr) 1 1, 67, 2, 1, [.slice (rA) ((rl).length) (rc), I ((((q + 1) + 1 : Nat) : Int))]⟩]]) hMf15_4 hR15_4 rfl
      have hx15_5 : k12_3.toNat < (L).length := (by omega)
      refine O.val (v := .pointer (ofs (A2) ((k12_3.toNat) * 3))) rfl (Ru.indexA (j := k12_3.toNat) Try.underlying23 el28 rfl rfl (smf encL_len (hM15_4.rd 4 rfl) hx15_5 rfl) (by omega) (by omega)) rfl ?_
      refine O.val (v := .pointer (ofs (A2) ((k12_3.toNat) * 3 + 1))) rfl (Ru.fieldA fl28_1 rfl (smf encL_len (hM15_4.rd 4 rfl) hx15_5 rfl)) rfl ?_
      refine O.mstore (vs := [I (k15_4)]) (xs' := ((L).set (k12_3.toNat) (⟨((L)[k12_3.toNat]'hx15_5).A, ((L)[k12_3.toNat]'hx15_5).cp, ⟨((L)[k12_3.toNat]'hx15_5).t.keys, k15_4, ((L)[k12_3.toNat]'hx15_5).t.right⟩⟩ : LnkL)).flatMap encL) 4 0 hM15_4 rfl rfl rfl el3 rfl rfl rfl rfl rfl (by rw [flat_len encL_len]; simp; omega) (by simp) (spl_part encL_len (l := L) (a := (⟨((L)[k12_3.toNat]'hx15_5).A, ((L)[k12_3.toNat]'hx15_5).cp, ⟨((L)[k12_3.toNat]'hx15_5).t.keys, k15_4, ((L)[k12_3.toNat]'hx15_5).t.right⟩⟩ : LnkL)) hx15_5 (by simp) rfl) rfl (fun w15_7 (hM15_7 : Mem w w15_7 [some gr] [[⟨.slice (bl gr) 1 1, 67, 2, 1, [.slice (rA) ((rl).length) (rc), I (((((q + 1) + 1) + 1 : Nat) : Int))]⟩], [⟨.slice (bl b15_3) (3) (3), 3, 1, 3, ([(-1), 50, 101]).map I⟩], [⟨.slice (bl b2_1) (6) (6), 3, 1, 6, ([8, 14, 4, 24, 0, 40]).map I⟩], (L).map (keyF 3), [⟨.slice (A2) ((L).length) (c2), 28, 3, ((L).length), ((L).set (k12_3.toNat) (⟨((L)[k12_3.toNat]'hx15_5).A, ((L)[k12_3.toNat]'hx15_5).cp, ⟨((L)[k12_3.toNat]'hx15_5).t.keys, k15_4, ((L)[k12_3.toNat]'hx15_5).t.right⟩⟩ : LnkL)).flatMap encL⟩]]) => ?_)
      refine O.nil ?_
      have hMk12 : Mem w w15_7 [some gr] [[⟨.slice (bl gr) 1 1, 67, 2, 1, [.slice (rA) ((rl).length) (rc), I (((((q + 1) + 1) + 1 : Nat) : Int))]⟩], [⟨.slice (bl b15_3) (3) (3), 3, 1, 3, ([(-1), 50, 101]).map I⟩], [⟨.slice (bl b2_1) (6) (6), 3, 1, 6, ([8, 14, 4, 24, 0, 40]).map I⟩], ((L).set (k12_3.toNat) (⟨((L)[k12_3.toNat]'hx15_5).A, ((L)[k12_3.toNat]'hx15_5).cp, ⟨((L)[k12_3.toNat]'hx15_5).t.keys, k15_4, ((L)[k12_3.toNat]'hx15_5).t.right⟩⟩ : LnkL)).map (keyF 3), [⟨.slice (A2) ((L).length) (c2), 28, 3, ((L).length), ((L).set (k12_3.toNat) (⟨((L)[k12_3.toNat]'hx15_5).A, ((L)[k12_3.toNat]'hx15_5).cp, ⟨((L)[k12_3.toNat]'hx15_5).t.keys, k15_4, ((L)[k12_3.toNat]'hx15_5).t.right⟩⟩ : LnkL)).flatMap encL⟩]] := Mem.cast hM15_7 (by rw [show (L).map (keyF 3) = ((L).set (k12_3.toNat) (⟨((L)[k12_3.toNat]'hx15_5).A, ((L)[k12_3.toNat]'hx15_5).cp, ⟨((L)[k12_3.toNat]'hx15_5).t.keys, k15_4, ((L)[k12_3.toNat]'hx15_5).t.right⟩⟩ : LnkL)).map (keyF 3) from keyF_same hx15_5 rfl])
      refine C.seq ?_
      refine C.region ?_
      refine O.val (v := .slice (A2) ((L).length) (c2)) rfl (Ru.move rfl) rfl ?_
      refine O.val (v := .slice (A2) ((L).length) (c2)) rfl (Ru.assign rfl) rfl ?_
      refine O.nil ?_
      refine C.ret ?_
      refine P1 (v := .slice (A2) ((L).length) (c2)) rfl ?_
      have hq13 : ((L).set (k12_3.toNat) (⟨((L)[k12_3.toNat]'hx15_5).A, ((L)[k12_3.toNat]'hx15_5).cp, ⟨((L)[k12_3.toNat]'hx15_5).t.keys, k15_4, ((L)[k12_3.toNat]'hx15_5).t.right⟩⟩ : LnkL) : List LnkL) = (L).set (k12_3.toNat) (⟨((L)[k12_3.toNat]'hx15_5).A, ((L)[k12_3.toNat]'hx15_5).cp, ⟨((L)[k12_3.toNat]'hx15_5).t.keys, k15_4, ((L)[k12_3.toNat]'hx15_5).t.right⟩⟩ : LnkL) := rfl
      have hMn13 : Mem w w15_7 [some gr] [[⟨.slice (bl gr) 1 1, 67, 2, 1, [.slice (rA) ((rl).length) (rc), I (((((q + 1) + 1) + 1 : Nat) : Int))]⟩], [⟨.slice (bl b15_3) (3) (3), 3, 1, 3, ([(-1), 50, 101]).map I⟩], [⟨.slice (bl b2_1) (6) (6), 3, 1, 6, ([8, 14, 4, 24, 0, 40]).map I⟩], ((L).set (k12_3.toNat) (⟨((L)[k12_3.toNat]'hx15_5).A, ((L)[k12_3.toNat]'hx15_5).cp, ⟨((L)[k12_3.toNat]'hx15_5).t.keys, k15_4, ((L)[k12_3.toNat]'hx15_5).t.right⟩⟩ : LnkL)).map (keyF 3), [⟨.slice (A2) (((L).set (k12_3.toNat) (⟨((L)[k12_3.toNat]'hx15_5).A, ((L)[k12_3.toNat]'hx15_5).cp, ⟨((L)[k12_3.toNat]'hx15_5).t.keys, k15_4, ((L)[k12_3.toNat]'hx15_5).t.right⟩⟩ : LnkL)).length) (c2), 28, 3, (((L).set (k12_3.toNat) (⟨((L)[k12_3.toNat]'hx15_5).A, ((L)[k12_3.toNat]'hx15_5).cp, ⟨((L)[k12_3.toNat]'hx15_5).t.keys, k15_4, ((L)[k12_3.toNat]'hx15_5).t.right⟩⟩ : LnkL)).length), ((L).set (k12_3.toNat) (⟨((L)[k12_3.toNat]'hx15_5).A, ((L)[k12_3.toNat]'hx15_5).cp, ⟨((L)[k12_3.toNat]'hx15_5).t.keys, k15_4, ((L)[k12_3.toNat]'hx15_5).t.right⟩⟩ : LnkL)).flatMap encL⟩]] := hMk12.relen 4 (n' := ((L).set (k12_3.toNat) (⟨((L)[k12_3.toNat]'hx15_5).A, ((L)[k12_3.toNat]'hx15_5).cp, ⟨((L)[k12_3.toNat]'hx15_5).t.keys, k15_4, ((L)[k12_3.toNat]'hx15_5).t.right⟩⟩ : LnkL)).length) (xs' := ((L).set (k12_3.toNat) (⟨((L)[k12_3.toNat]'hx15_5).A, ((L)[k12_3.toNat]'hx15_5).cp, ⟨((L)[k12_3.toNat]'hx15_5).t.keys, k15_4, ((L)[k12_3.toNat]'hx15_5).t.right⟩⟩ : LnkL)).flatMap encL) rfl (by first | rfl | exact congrArg List.length hq13 | (have hqq := congrArg List.length hq13; first | omega | (simp at hqq ⊢; omega)) | (simp; done) | (simp; omega)) (congrArg (fun z_ => (z_).flatMap encL) hq13) rfl
      exact ⟨(L).set (k12_3.toNat) (⟨((L)[k12_3.toNat]'hx15_5).A, ((L)[k12_3.toNat]'hx15_5).cp, ⟨((L)[k12_3.toNat]'hx15_5).t.keys, k15_4, ((L)[k12_3.toNat]'hx15_5).t.right⟩⟩ : LnkL), A2, c2, ((q + 1) + 1) + 1, ((L).set (k12_3.toNat) (⟨((L)[k12_3.toNat]'hx15_5).A, ((L)[k12_3.toNat]'hx15_5).cp, ⟨((L)[k12_3.toNat]'hx15_5).t.keys, k15_4, ((L)[k12_3.toNat]'hx15_5).t.right⟩⟩ : LnkL)).map (keyF 3), (by first | rfl | exact sl_congr (by simp)), (by first | omega | (simp; done) | (simp; omega)), (by intro x hx; first | (have := hi3_l3 x hx; omega) | (rcases List.mem_or_eq_of_mem_set hx with hx | rfl; (have := hi3_l3 x hx; omega); (have h9 := hi3_l3 _ (List.getElem_mem (l := L) (by assumption)); simp at h9 ⊢; omega))), (by omega), (fun w2 h => Nst.of_map h), (Mem.ncap hMn13 3 rfl), (hMn13.pick [0, 4, 3] (by decide) rfl)⟩
    · refine C.seq ?_
      refine C.region ?_
      refine O.val (v := .bool (decide (k13_1 = 1))) rfl (Ru.eql rfl rfl) rfl ?_
      refine O.val (v := .bool (decide (k13_1 = 1))) rfl (Ru.assign rfl) rfl ?_
      refine O.nil ?_
      refine C.cond (p := k13_1 = 1) rfl (fun c58 => ?_) (fun c58 => ?_)
      · refine C.region ?_
        refine O.val (v := .slice (A2) ((L).length) (c2)) rfl (Ru.move rfl) rfl ?_
        refine O.val (v := I (k12_3)) rfl (Ru.move rfl) rfl ?_
        refine O.val (v := .pointer (ofs (bl gr) (0))) rfl (Ru.move rfl) rfl ?_
        refine O.val (v := I (k12_3)) rfl (Ru.move rfl) rfl ?_
        refine O.mlit (sz := 1) (cs := [I ((-1)), I (k12_3), I (16)]) hM13_1 rfl Try.underlying26 el3 rfl rfl rfl (by kernel_rfl) (by kernel_rfl) rfl rfl (fun w17_4 b17_4 hb17_4 (hM17_4 : Mem w w17_4 [some gr] [[⟨.slice (bl b17_4) (3) (3), 3, 1, 3, ([(-1), k12_3, 16]).map I⟩], [⟨.slice (bl gr) 1 1, 67, 2, 1, [.slice (rA) ((rl).length) (rc), I ((((q + 1) + 1 : Nat) : Int))]⟩], [⟨.slice (bl b2_1) (6) (6), 3, 1, 6, ([8, 14, 4, 24, 0, 40]).map I⟩], (L).map (keyF 3), [⟨.slice (A2) ((L).length) (c2), 28, 3, ((L).length), (L).flatMap encL⟩]]) => ?_)
        have hMf17_5 : Mem w w17_4 [some gr] [[⟨.slice (bl gr) 1 1, 67, 2, 1, [.slice (rA) ((rl).length) (rc), I ((((q + 1) + 1 : Nat) : Int))]⟩], [⟨.slice (bl b17_4) (3) (3), 3, 1, 3, ([(-1), k12_3, 16]).map I⟩], [⟨.slice (bl b2_1) (6) (6), 3, 1, 6, ([8, 14, 4, 24, 0, 40]).map I⟩], (L).map (keyF 3), [⟨.slice (A2) ((L).length) (c2), 28, 3, ((L).length), (L).flatMap encL⟩]] := hM17_4.pick [1, 0, 2, 3, 4] (by decide) rfl
        refine O.callg [.pointer (ofs (bl gr) (0)), .slice (bl b17_4) (([(-1), k12_3, 16]).length) (3)] rfl en45 (by first | rfl | (rw [show ([(-1), k12_3, 16]).length = 3 from (by first | rfl | (simp; done) | omega | (simp; omega))]; rfl)) rfl (one_fn gr rA rc rl ((q + 1) + 1) (bl b17_4) 3 [(-1), k12_3, 16] w17_4 (hrA.atR hMf17_5 hro) hro hrl (hMf17_5.rd 1 rfl) (Off.of_ng (hMf17_5.ng 1 0 (by decide) rfl rfl)) (Mem.focus (Ma := [[⟨.slice (bl gr) 1 1, 67, 2, 1, [.slice (rA) ((rl).length) (rc), I ((((q + 1) + 1 : Nat) : Int))]⟩]]) (rest := [[⟨.slice (bl b17_4) (3) (3), 3, 1, 3, ([(-1), k12_3, 16]).map I⟩], [⟨.slice (bl b2_1) (6) (6), 3, 1, 6, ([8, 14, 4, 24, 0, 40]).map I⟩], (L).map (keyF 3), [⟨.slice (A2) ((L).length) (c2), 28, 3, ((L).length), (L).flatMap encL⟩]]) hMf17_5 rfl) (by first | omega | assumption | (simp; omega) | simp | (intros; omega)) (by simp) (by simp)) ?_
        rintro _ w17_5 ⟨k17_5, rfl, hk17_5, hR17_5⟩
        have hM17_5 : Mem w w17_5 [some gr] [[⟨.slice (bl gr) 1 1, 67, 2, 1, [.slice (rA) ((rl).length) (rc), I (((((q + 1) + 1) + 1 : Nat) : Int))]⟩], [⟨.slice (bl b17_4) (3) (3), 3, 1, 3, ([(-1), k12_3, 16]).map I⟩], [⟨.slice (bl b2_1) (6) (6), 3, 1, 6, ([8, 14, 4, 24, 0, 40]).map I⟩], (L).map (keyF 3), [⟨.slice (A2) ((L).length) (c2), 28, 3, ((L).length), (L).flatMap encL⟩]] := Mem.call (Ma := [[⟨.slice (bl gr) 1 1, 67, 2, 1, [.slice (rA) ((rl).length) (rc), I ((((q + 1) + 1 : Nat) : Int))]⟩]]) hMf17_5 hR17_5 rfl
        have hx17_6 : k12_3.toNat < (L).length := (by omega)
        refine O.val (v := .pointer (ofs (A2) ((k12_3.toNat) * 3))) rfl (Ru.indexA (j := k12_3.toNat) Try.underlying23 el28 rfl rfl (smf encL_len (hM17_5.rd 4 rfl) hx17_6 rfl) (by omega) (by omega)) rfl ?_
        refine O.val (v := .pointer (ofs (A2) ((k12_3.toNat) * 3 + 2))) rfl (Ru.fieldA fl28_2 rfl (smf encL_len (hM17_5.rd 4 rfl) hx17_6 rfl)) rfl ?_
        refine O.mstore (vs := [I (k17_5)]) (xs' := ((L).set (k12_3.toNat) (⟨((L)[k12_3.toNat]'hx17_6).A, ((L)[k12_3.toNat]'hx17_6).cp, ⟨((L)[k12_3.toNat]'hx17_6).t.keys, ((L)[k12_3.toNat]'hx17_6).t.high, k17_5⟩⟩ : LnkL)).flatMap encL) 4 0 hM17_5 rfl rfl rfl el3 rfl rfl rfl rfl rfl (by rw [flat_len encL_len]; simp; omega) (by simp) (spl_part encL_len (l := L) (a := (⟨((L)[k12_3.toNat]'hx17_6).A, ((L)[k12_3.toNat]'hx17_6).cp, ⟨((L)[k12_3.toNat]'hx17_6).t.keys, ((L)[k12_3.toNat]'hx17_6).t.high, k17_5⟩⟩ : LnkL)) hx17_6 (by simp) rfl) rfl (fun w17_8 (hM17_8 : Mem w w17_8 [some gr] [[⟨.slice (bl gr) 1 1, 67, 2, 1, [.slice (rA) ((rl).length) (rc), I (((((q + 1) + 1) + 1 : Nat) : Int))]⟩], [⟨.slice (bl b17_4) (3) (3), 3, 1, 3, ([(-1), k12_3, 16]).map I⟩], [⟨.slice (bl b2_1) (6) (6), 3, 1, 6, ([8, 14, 4, 24, 0, 40]).map I⟩], (L).map (keyF 3), [⟨.slice (A2) ((L).length) (c2), 28, 3, ((L).length), ((L).set (k12_3.toNat) (⟨((L)[k12_3.toNat]'hx17_6).A, ((L)[k12_3.toNat]'hx17_6).cp, ⟨((L)[k12_3.toNat]'hx17_6).t.keys, ((L)[k12_3.toNat]'hx17_6).t.high, k17_5⟩⟩ : LnkL)).flatMap encL⟩]]) => ?_)
        refine O.nil ?_
        have hMk14 : Mem w w17_8 [some gr] [[⟨.slice (bl gr) 1 1, 67, 2, 1, [.slice (rA) ((rl).length) (rc), I (((((q + 1) + 1) + 1 : Nat) : Int))]⟩], [⟨.slice (bl b17_4) (3) (3), 3, 1, 3, ([(-1), k12_3, 16]).map I⟩], [⟨.slice (bl b2_1) (6) (6), 3, 1, 6, ([8, 14, 4, 24, 0, 40]).map I⟩], ((L).set (k12_3.toNat) (⟨((L)[k12_3.toNat]'hx17_6).A, ((L)[k12_3.toNat]'hx17_6).cp, ⟨((L)[k12_3.toNat]'hx17_6).t.keys, ((L)[k12_3.toNat]'hx17_6).t.high, k17_5⟩⟩ : LnkL)).map (keyF 3), [⟨.slice (A2) ((L).length) (c2), 28, 3, ((L).length), ((L).set (k12_3.toNat) (⟨((L)[k12_3.toNat]'hx17_6).A, ((L)[k12_3.toNat]'hx17_6).cp, ⟨((L)[k12_3.toNat]'hx17_6).t.keys, ((L)[k12_3.toNat]'hx17_6).t.high, k17_5⟩⟩ : LnkL)).flatMap encL⟩]] := Mem.cast hM17_8 (by rw [show (L).map (keyF 3) = ((L).set (k12_3.toNat) (⟨((L)[k12_3.toNat]'hx17_6).A, ((L)[k12_3.toNat]'hx17_6).cp, ⟨((L)[k12_3.toNat]'hx17_6).t.keys, ((L)[k12_3.toNat]'hx17_6).t.high, k17_5⟩⟩ : LnkL)).map (keyF 3) from keyF_same hx17_6 rfl])
        refine C.seq ?_
        refine C.region ?_
        refine O.val (v := .slice (A2) ((L).length) (c2)) rfl (Ru.move rfl) rfl ?_
        refine O.val (v := .slice (A2) ((L).length) (c2)) rfl (Ru.assign rfl) rfl ?_
        refine O.nil ?_
        refine C.ret ?_
        refine P1 (v := .slice (A2) ((L).length) (c2)) rfl ?_
        have hq15 : ((L).set (k12_3.toNat) (⟨((L)[k12_3.toNat]'hx17_6).A, ((L)[k12_3.toNat]'hx17_6).cp, ⟨((L)[k12_3.toNat]'hx17_6).t.keys, ((L)[k12_3.toNat]'hx17_6).t.high, k17_5⟩⟩ : LnkL) : List LnkL) = (L).set (k12_3.toNat) (⟨((L)[k12_3.toNat]'hx17_6).A, ((L)[k12_3.toNat]'hx17_6).cp, ⟨((L)[k12_3.toNat]'hx17_6).t.keys, ((L)[k12_3.toNat]'hx17_6).t.high, k17_5⟩⟩ : LnkL) := rfl
        have hMn15 : Mem w w17_8 [some gr] [[⟨.slice (bl gr) 1 1, 67, 2, 1, [.slice (rA) ((rl).length) (rc), I (((((q + 1) + 1) + 1 : Nat) : Int))]⟩], [⟨.slice (bl b17_4) (3) (3), 3, 1, 3, ([(-1), k12_3, 16]).map I⟩], [⟨.slice (bl b2_1) (6) (6), 3, 1, 6, ([8, 14, 4, 24, 0, 40]).map I⟩], ((L).set (k12_3.toNat) (⟨((L)[k12_3.toNat]'hx17_6).A, ((L)[k12_3.toNat]'hx17_6).cp, ⟨((L)[k12_3.toNat]'hx17_6).t.keys, ((L)[k12_3.toNat]'hx17_6).t.high, k17_5⟩⟩ : LnkL)).map (keyF 3), [⟨.slice (A2) (((L).set (k12_3.toNat) (⟨((L)[k12_3.toNat]'hx17_6).A, ((L)[k12_3.toNat]'hx17_6).cp, ⟨((L)[k12_3.toNat]'hx17_6).t.keys, ((L)[k12_3.toNat]'hx17_6).t.high, k17_5⟩⟩ : LnkL)).length) (c2), 28, 3, (((L).set (k12_3.toNat) (⟨((L)[k12_3.toNat]'hx17_6).A, ((L)[k12_3.toNat]'hx17_6).cp, ⟨((L)[k12_3.toNat]'hx17_6).t.keys, ((L)[k12_3.toNat]'hx17_6).t.high, k17_5⟩⟩ : LnkL)).length), ((L).set (k12_3.toNat) (⟨((L)[k12_3.toNat]'hx17_6).A, ((L)[k12_3.toNat]'hx17_6).cp, ⟨((L)[k12_3.toNat]'hx17_6).t.keys, ((L)[k12_3.toNat]'hx17_6).t.high, k17_5⟩⟩ : LnkL)).flatMap encL⟩]] := hMk14.relen 4 (n' := ((L).set (k12_3.toNat) (⟨((L)[k12_3.toNat]'hx17_6).A, ((L)[k12_3.toNat]'hx17_6).cp, ⟨((L)[k12_3.toNat]'hx17_6).t.keys, ((L)[k12_3.toNat]'hx17_6).t.high, k17_5⟩⟩ : LnkL)).length) (xs' := ((L).set (k12_3.toNat) (⟨((L)[k12_3.toNat]'hx17_6).A, ((L)[k12_3.toNat]'hx17_6).cp, ⟨((L)[k12_3.toNat]'hx17_6).t.keys, ((L)[k12_3.toNat]'hx17_6).t.high, k17_5⟩⟩ : LnkL)).flatMap encL) rfl (by first | rfl | exact congrArg List.length hq15 | (have hqq := congrArg List.length hq15; first | omega | (simp at hqq ⊢; omega)) | (simp; done) | (simp; omega)) (congrArg (fun z_ => (z_).flatMap encL) hq15) rfl
        exact ⟨(L).set (k12_3.toNat) (⟨((L)[k12_3.toNat]'hx17_6).A, ((L)[k12_3.toNat]'hx17_6).cp, ⟨((L)[k12_3.toNat]'hx17_6).t.keys, ((L)[k12_3.toNat]'hx17_6).t.high, k17_5⟩⟩ : LnkL), A2, c2, ((q + 1) + 1) + 1, ((L).set (k12_3.toNat) (⟨((L)[k12_3.toNat]'hx17_6).A, ((L)[k12_3.toNat]'hx17_6).cp, ⟨((L)[k12_3.toNat]'hx17_6).t.keys, ((L)[k12_3.toNat]'hx17_6).t.high, k17_5⟩⟩ : LnkL)).map (keyF 3), (by first | rfl | exact sl_congr (by simp)), (by first | omega | (simp; done) | (simp; omega)), (by intro x hx; first | (have := hi3_l3 x hx; omega) | (rcases List.mem_or_eq_of_mem_set hx with hx | rfl; (have := hi3_l3 x hx; omega); (have h9 := hi3_l3 _ (List.getElem_mem (l := L) (by assumption)); simp at h9 ⊢; omega))), (by omega), (fun w2 h => Nst.of_map h), (Mem.ncap hMn15 3 rfl), (hMn15.pick [0, 4, 3] (by decide) rfl)⟩
      · refine C.seq ?_
        refine C.region ?_
        refine O.val (v := .bool (decide (k13_1 = 2))) rfl (Ru.eql rfl rfl) rfl ?_
        refine O.val (v := .bool (decide (k13_1 = 2))) rfl (Ru.assign rfl) rfl ?_
        refine O.nil ?_
        refine C.cond (p := k13_1 = 2) rfl (fun c68 => ?_) (fun c68 => ?_)
        · refine C.region ?_
          refine O.val (v := .slice (A2) ((L).length) (c2)) rfl (Ru.move rfl) rfl ?_
          refine O.val (v := I (k12_3)) rfl (Ru.move rfl) rfl ?_
          refine O.val (v := .pointer (ofs (bl gr) (0))) rfl (Ru.move rfl) rfl ?_
          refine O.val (v := .slice (A2) ((L).length) (c2)) rfl (Ru.move rfl) rfl ?_
          refine O.val (v := I (k12_3)) rfl (Ru.move rfl) rfl ?_
          have hx19_5 : k12_3.toNat < (L).length := (by omega)
          refine O.val (v := .pointer (ofs (A2) ((k12_3.toNat) * 3))) rfl (Ru.indexA (j := k12_3.toNat) Try.underlying23 el28 rfl rfl (smf encL_len (hM13_1.rd 3 rfl) hx19_5 rfl) (by omega) (by omega)) rfl ?_
          refine O.val (v := .pointer (ofs (A2) ((k12_3.toNat) * 3 + 0))) rfl (Ru.fieldA fl28_0 rfl (smf encL_len (hM13_1.rd 3 rfl) hx19_5 rfl)) rfl ?_
          refine O.val rfl (Ru.load1 el26 rfl (ldf encL_len (hM13_1.rd 3 rfl) hx19_5 rfl)) rfl ?_
          refine O.callg [.slice (((L)[k12_3.toNat]'hx19_5).A) ((((L)[k12_3.toNat]'hx19_5).t.keys).length) (((L)[k12_3.toNat]'hx19_5).cp)] rfl en52 (by first | rfl | (rw [show (((L)[k12_3.toNat]'hx19_5).t.keys).length = ((L)[k12_3.toNat]'hx19_5).t.keys.length from (by first | rfl | (simp; done) | omega | (simp; omega))]; rfl)) rfl (scopyInts_fn (((L)[k12_3.toNat]'hx19_5).A) (((L)[k12_3.toNat]'hx19_5).cp) (((L)[k12_3.toNat]'hx19_5).t.keys) w13_1 ((Nst.mem hM13_1 2 rfl).get hx19_5) (by have := hi3_l3 _ (List.getElem_mem hx19_5); omega)) ?_
          rintro _ w19_8 ⟨A119_8, c119_8, rfl, hR19_8⟩
          have hM19_8 : Mem w w19_8 [some gr] [[⟨.slice (A119_8) (((((L)[k12_3.toNat]'hx19_5).t.keys)).length) (c119_8), 3, 1, (((((L)[k12_3.toNat]'hx19_5).t.keys)).length), ((((L)[k12_3.toNat]'hx19_5).t.keys)).map I⟩], [⟨.slice (bl gr) 1 1, 67, 2, 1, [.slice (rA) ((rl).length) (rc), I ((((q + 1) + 1 : Nat) : Int))]⟩], [⟨.slice (bl b2_1) (6) (6), 3, 1, 6, ([8, 14, 4, 24, 0, 40]).map I⟩], (L).map (keyF 3), [⟨.slice (A2) ((L).length) (c2), 28, 3, ((L).length), (L).flatMap encL⟩]] := Mem.call (Ma := []) hM13_1 hR19_8 rfl
          have hcr19_8_0 := (hM19_8.cap 0 rfl).1
          refine O.mlit (sz := 1) (cs := [I (50)]) hM19_8 rfl Try.underlying26 el3 rfl rfl rfl (by kernel_rfl) (by kernel_rfl) rfl rfl (fun w19_9 b19_9 hb19_9 (hM19_9 : Mem w w19_9 [some gr] [[⟨.slice (bl b19_9) (1) (1), 3, 1, 1, ([(50 : Int)]).map I⟩], [⟨.slice (A119_8) (((((L)[k12_3.toNat]'hx19_5).t.keys)).length) (c119_8), 3, 1, (((((L)[k12_3.toNat]'hx19_5).t.keys)).length), ((((L)[k12_3.toNat]'hx19_5).t.keys)).map I⟩], [⟨.slice (bl gr) 1 1, 67, 2, 1, [.slice (rA) ((rl).length) (rc), I ((((q + 1) + 1 : Nat) : Int))]⟩], [⟨.slice (bl b2_1) (6) (6), 3, 1, 6, ([8, 14, 4, 24, 0, 40]).map I⟩], (L).map (keyF 3), [⟨.slice (A2) ((L).length) (c2), 28, 3, ((L).length), (L).flatMap encL⟩]]) => ?_)
          have hkl := hi3_l3 _ (List.getElem_mem hx19_5)
          refine O.mappend (sz := 1) (news := ([(50 : Int)]).map I) (m1 := ((((L)[k12_3.toNat]'hx19_5).t.keys) ++ [(50 : Int)]).length) (xs1 := ((((L)[k12_3.toNat]'hx19_5).t.keys) ++ [(50 : Int)]).map I) (M' := fun A19_10 c19_10 => [[⟨.slice (bl b19_9) (1) (1), 3, 1, 1, ([(50 : Int)]).map I⟩], [⟨.slice (A19_10) (((((L)[k12_3.toNat]'hx19_5).t.keys) ++ [(50 : Int)]).length) (c19_10), 3, 1, (((((L)[k12_3.toNat]'hx19_5).t.keys) ++ [(50 : Int)]).length), ((((L)[k12_3.toNat]'hx19_5).t.keys) ++ [(50 : Int)]).map I⟩], [⟨.slice (bl gr) 1 1, 67, 2, 1, [.slice (rA) ((rl).length) (rc), I ((((q + 1) + 1 : Nat) : Int))]⟩], [⟨.slice (bl b2_1) (6) (6), 3, 1, 6, ([8, 14, 4, 24, 0, 40]).map I⟩], (L).map (keyF 3), [⟨.slice (A2) ((L).length) (c2), 28, 3, ((L).length), (L).flatMap encL⟩]]) 1 0 hM19_9 rfl rfl rfl Try.underlying26 el3 ⟨rfl, by decide⟩ rfl rfl rfl (hM19_9.rd 0 rfl) (by first | (simp; done) | (simp; omega)) (all_map_one (fun _ => rfl) _) (by first | omega | (simp; omega)) (by first | omega | (simp; omega)) (by first | (simp; done) | (simp; omega)) (by simp) (fun _ _ => rfl) (fun w19_10 A19_10 c19_10 hc19_10 hM19_10 => ?_)
          try dsimp only at hM19_10
          have hMf19_11 : Mem w w19_10 [some gr] [[⟨.slice (bl gr) 1 1, 67, 2, 1, [.slice (rA) ((rl).length) (rc), I ((((q + 1) + 1 : Nat) : Int))]⟩], [⟨.slice (bl b19_9) (1) (1), 3, 1, 1, ([(50 : Int)]).map I⟩], [⟨.slice (A19_10) (((((L)[k12_3.toNat]'hx19_5).t.keys) ++ [(50 : Int)]).length) (c19_10), 3, 1, (((((L)[k12_3.toNat]'hx19_5).t.keys) ++ [(50 : Int)]).length), ((((L)[k12_3.toNat]'hx19_5).t.keys) ++ [(50 : Int)]).map I⟩], [⟨.slice (bl b2_1) (6) (6), 3, 1, 6, ([8, 14, 4, 24, 0, 40]).map I⟩], (L).map (keyF 3), [⟨.slice (A2) ((L).length) (c2), 28, 3, ((L).length), (L).flatMap encL⟩]] := hM19_10.pick [2, 0, 1, 3, 4, 5] (by decide) rfl
          refine O.callg [.pointer (ofs (bl gr) (0)), .slice (A19_10) (((((L)[k12_3.toNat]'hx19_5).t.keys) ++ [(50 : Int)]).length) (c19_10), I (100)] rfl en64 rfl rfl (spoil_fn gr rA rc rl ((q + 1) + 1) A19_10 c19_10 ((((L)[k12_3.toNat]'hx19_5).t.keys) ++ [(50 : Int)]) 100 w19_10 (hrA.atR hMf19_11 hro) hro hrl (hMf19_11.rd 2 rfl) (Off.of_ng (hMf19_11.ng 2 0 (by decide) rfl rfl)) (Mem.focus (Ma := [[⟨.slice (bl gr) 1 1, 67, 2, 1, [.slice (rA) ((rl).length) (rc), I ((((q + 1) + 1 : Nat) : Int))]⟩]]) (rest := [[⟨.slice (bl b19_9) (1) (1), 3, 1, 1, ([(50 : Int)]).map I⟩], [⟨.slice (A19_10) (((((L)[k12_3.toNat]'hx19_5).t.keys) ++ [(50 : Int)]).length) (c19_10), 3, 1, (((((L)[k12_3.toNat]'hx19_5).t.keys) ++ [(50 : Int)]).length), ((((L)[k12_3.toNat]'hx19_5).t.keys) ++ [(50 : Int)]).map I⟩], [⟨.slice (bl b2_1) (6) (6), 3, 1, 6, ([8, 14, 4, 24, 0, 40]).map I⟩], (L).map (keyF 3), [⟨.slice (A2) ((L).length) (c2), 28, 3, ((L).length), (L).flatMap encL⟩]]) hMf19_11 rfl) (by first | omega | assumption | (simp; omega) | simp | (intros; omega)) (by have := hi3_l3 _ (List.getElem_mem hx19_5); simp; omega)) ?_
          rintro _ w19_11 ⟨l119_11, A119_11, c119_11, q119_11, H19_11, rfl, hl19_11, hq19_11, hH19_11, hcq19_11, hR19_11⟩
          have hM19_11 : Mem w w19_11 [some gr] [[⟨.slice (bl gr) 1 1, 67, 2, 1, [.slice (rA) ((rl).length) (rc), I (((q119_11 : Nat) : Int))]⟩], [H19_11], [⟨.slice (bl b19_9) (1) (1), 3, 1, 1, ([(50 : Int)]).map I⟩], [⟨.slice (A19_10) (((((L)[k12_3.toNat]'hx19_5).t.keys) ++ [(50 : Int)]).length) (c19_10), 3, 1, (((((L)[k12_3.toNat]'hx19_5).t.keys) ++ [(50 : Int)]).length), ((((L)[k12_3.toNat]'hx19_5).t.keys) ++ [(50 : Int)]).map I⟩], [⟨.slice (bl b2_1) (6) (6), 3, 1, 6, ([8, 14, 4, 24, 0, 40]).map I⟩], (L).map (keyF 3), [⟨.slice (A2) ((L).length) (c2), 28, 3, ((L).length), (L).flatMap encL⟩]] := Mem.call (Ma := [[⟨.slice (bl gr) 1 1, 67, 2, 1, [.slice (rA) ((rl).length) (rc), I ((((q + 1) + 1 : Nat) : Int))]⟩]]) hMf19_11 hR19_11 rfl
          have hx19_12 : k12_3.toNat < (L).length := (by omega)
          refine O.val (v := .pointer (ofs (A2) ((k12_3.toNat) * 3))) rfl (Ru.indexA (j := k12_3.toNat) Try.underlying23 el28 rfl rfl (smf encL_len (hM19_11.rd 6 rfl) hx19_12 rfl) (by omega) (by omega)) rfl ?_
          refine O.val (v := .pointer (ofs (A2) ((k12_3.toNat) * 3 + 0))) rfl (Ru.fieldA fl28_0 rfl (smf encL_len (hM19_11.rd 6 rfl) hx19_12 rfl)) rfl ?_
          refine O.mstore (vs := [.slice (A119_11) ((l119_11).length) (c119_11)]) (xs' := ((L).set (k12_3.toNat) (⟨A119_11, c119_11, ⟨l119_11, ((L)[k12_3.toNat]'hx19_12).t.high, ((L)[k12_3.toNat]'hx19_12).t.right⟩⟩ : LnkL)).flatMap encL) 6 0 hM19_11 rfl rfl rfl el26 rfl rfl rfl rfl rfl (by rw [flat_len encL_len]; simp; omega) (by simp) (spl_part encL_len (l := L) (a := (⟨A119_11, c119_11, ⟨l119_11, ((L)[k12_3.toNat]'hx19_12).t.high, ((L)[k12_3.toNat]'hx19_12).t.right⟩⟩ : LnkL)) hx19_12 (by simp) rfl) rfl (fun w19_14 (hM19_14 : Mem w w19_14 [some gr] [[⟨.slice (bl gr) 1 1, 67, 2, 1, [.slice (rA) ((rl).length) (rc), I (((q119_11 : Nat) : Int))]⟩], [H19_11], [⟨.slice (bl b19_9) (1) (1), 3, 1, 1, ([(50 : Int)]).map I⟩], [⟨.slice (A19_10) (((((L)[k12_3.toNat]'hx19_5).t.keys) ++ [(50 : Int)]).length) (c19_10), 3, 1, (((((L)[k12_3.toNat]'hx19_5).t.keys) ++ [(50 : Int)]).length), ((((L)[k12_3.toNat]'hx19_5).t.keys) ++ [(50 : Int)]).map I⟩], [⟨.slice (bl b2_1) (6) (6), 3, 1, 6, ([8, 14, 4, 24, 0, 40]).map I⟩], (L).map (keyF 3), [⟨.slice (A2) ((L).length) (c2), 28, 3, ((L).length), ((L).set (k12_3.toNat) (⟨A119_11, c119_11, ⟨l119_11, ((L)[k12_3.toNat]'hx19_12).t.high, ((L)[k12_3.toNat]'hx19_12).t.right⟩⟩ : LnkL)).flatMap encL⟩]]) => ?_)
          refine O.nil ?_
          have hcp0 := Mem.ncap hM19_14 5 rfl
          have hMk16 : Mem w w19_14 [some gr] [((L).map (keyF 3)).set (k12_3.toNat) H19_11, [⟨.slice (bl gr) 1 1, 67, 2, 1, [.slice (rA) ((rl).length) (rc), I (((q119_11 : Nat) : Int))]⟩], [⟨.slice (bl b19_9) (1) (1), 3, 1, 1, ([(50 : Int)]).map I⟩], [⟨.slice (A19_10) (((((L)[k12_3.toNat]'hx19_5).t.keys) ++ [(50 : Int)]).length) (c19_10), 3, 1, (((((L)[k12_3.toNat]'hx19_5).t.keys) ++ [(50 : Int)]).length), ((((L)[k12_3.toNat]'hx19_5).t.keys) ++ [(50 : Int)]).map I⟩], [⟨.slice (bl b2_1) (6) (6), 3, 1, 6, ([8, 14, 4, 24, 0, 40]).map I⟩], [⟨.slice (A2) ((L).length) (c2), 28, 3, ((L).length), ((L).set (k12_3.toNat) (⟨A119_11, c119_11, ⟨l119_11, ((L)[k12_3.toNat]'hx19_12).t.high, ((L)[k12_3.toNat]'hx19_12).t.right⟩⟩ : LnkL)).flatMap encL⟩]] := Mem.gset (hM19_14.pick [5, 1, 0, 2, 3, 4, 6] (by decide) rfl) (k12_3.toNat)
          refine C.seq ?_
          refine C.region ?_
          refine O.val (v := .slice (A2) ((L).length) (c2)) rfl (Ru.move rfl) rfl ?_
          refine O.val (v := .slice (A2) ((L).length) (c2)) rfl (Ru.assign rfl) rfl ?_
          refine O.nil ?_
          refine C.ret ?_
          refine P1 (v := .slice (A2) ((L).length) (c2)) rfl ?_
          have hq17 : ((L).set (k12_3.toNat) (⟨A119_11, c119_11, ⟨l119_11, ((L)[k12_3.toNat]'hx19_12).t.high, ((L)[k12_3.toNat]'hx19_12).t.right⟩⟩ : LnkL) : List LnkL) = (L).set (k12_3.toNat) (⟨A119_11, c119_11, ⟨l119_11, ((L)[k12_3.toNat]'hx19_12).t.high, ((L)[k12_3.toNat]'hx19_12).t.right⟩⟩ : LnkL) := rfl
          have hMn17 : Mem w w19_14 [some gr] [((L).map (keyF 3)).set (k12_3.toNat) H19_11, [⟨.slice (bl gr) 1 1, 67, 2, 1, [.slice (rA) ((rl).length) (rc), I (((q119_11 : Nat) : Int))]⟩], [⟨.slice (bl b19_9) (1) (1), 3, 1, 1, ([(50 : Int)]).map I⟩], [⟨.slice (A19_10) (((((L)[k12_3.toNat]'hx19_5).t.keys) ++ [(50 : Int)]).length) (c19_10), 3, 1, (((((L)[k12_3.toNat]'hx19_5).t.keys) ++ [(50 : Int)]).length), ((((L)[k12_3.toNat]'hx19_5).t.keys) ++ [(50 : Int)]).map I⟩], [⟨.slice (bl b2_1) (6) (6), 3, 1, 6, ([8, 14, 4, 24, 0, 40]).map I⟩], [⟨.slice (A2) (((L).set (k12_3.toNat) (⟨A119_11, c119_11, ⟨l119_11, ((L)[k12_3.toNat]'hx19_12).t.high, ((L)[k12_3.toNat]'hx19_12).t.right⟩⟩ : LnkL)).length) (c2), 28, 3, (((L).set (k12_3.toNat) (⟨A119_11, c119_11, ⟨l119_11, ((L)[k12_3.toNat]'hx19_12).t.high, ((L)[k12_3.toNat]'hx19_12).t.right⟩⟩ : LnkL)).length), ((L).set (k12_3.toNat) (⟨A119_11, c119_11, ⟨l119_11, ((L)[k12_3.toNat]'hx19_12).t.high, ((L)[k12_3.toNat]'hx19_12).t.right⟩⟩ : LnkL)).flatMap encL⟩]] := hMk16.relen 5 (n' := ((L).set (k12_3.toNat) (⟨A119_11, c119_11, ⟨l119_11, ((L)[k12_3.toNat]'hx19_12).t.high, ((L)[k12_3.toNat]'hx19_12).t.right⟩⟩ : LnkL)).length) (xs' := ((L).set (k12_3.toNat) (⟨A119_11, c119_11, ⟨l119_11, ((L)[k12_3.toNat]'hx19_12).t.high, ((L)[k12_3.toNat]'hx19_12).t.right⟩⟩ : LnkL)).flatMap encL) rfl (by first | rfl | exact congrArg List.length hq17 | (have hqq := congrArg List.length hq17; first | omega | (simp at hqq ⊢; omega)) | (simp; done) | (simp; omega)) (congrArg (fun z_ => (z_).flatMap encL) hq17) rfl
          exact ⟨(L).set (k12_3.toNat) (⟨A119_11, c119_11, ⟨l119_11, ((L)[k12_3.toNat]'hx19_12).t.high, ((L)[k12_3.toNat]'hx19_12).t.right⟩⟩ : LnkL), A2, c2, q119_11, ((L).map (keyF 3)).set (k12_3.toNat) H19_11, (by first | rfl | exact sl_congr (by simp)), (by first | omega | (simp; done) | (simp; omega)), (by intro x hx; rcases List.mem_or_eq_of_mem_set hx with hx | hx; (have := hi3_l3 x hx; omega); (have h8 := hl19_11; have h9 := hi3_l3 _ (List.getElem_mem hx19_5); rw [hx]; simp only [List.length_append, List.length_cons, List.length_nil] at h8; show l119_11.length ≤ 1000; omega)), (by omega), (fun w2 h => Nst.of_set hx19_12 h (hH19_11 w2)), (by intro x hx; rcases List.mem_or_eq_of_mem_set hx with hx | hx; exact hcp0 x hx; rw [hx]; exact hcq19_11), (hMn17.pick [1, 5, 0] (by decide) rfl)⟩
        · refine C.skip ?_
          refine C.seq ?_
          refine C.region ?_
          refine O.val (v := .slice (A2) ((L).length) (c2)) rfl (Ru.move rfl) rfl ?_
          refine O.val (v := .slice (A2) ((L).length) (c2)) rfl (Ru.assign rfl) rfl ?_
          refine O.nil ?_
          refine C.ret ?_
          refine P1 (v := .slice (A2) ((L).length) (c2)) rfl ?_
          exact ⟨L, A2, c2, (q + 1) + 1, (L).map (keyF 3), (by first | rfl | exact sl_congr (by simp)), (by first | omega | (simp; done) | (simp; omega)), (by intro x hx; first | (have := hi3_l3 x hx; omega) | (rcases List.mem_or_eq_of_mem_set hx with hx | rfl; (have := hi3_l3 x hx; omega); (have h9 := hi3_l3 _ (List.getElem_mem (l := L) (by assumption)); simp at h9 ⊢; omega))), (by omega), (fun w2 h => Nst.of_map h), (Mem.ncap hM13_1 2 rfl), (hM13_1.pick [0, 3, 2] (by decide) rfl)⟩
end Go.Proofs.Yteljpjapacajoaa
