/- Own layer: part of this seat (EJ). Plain theorems; no conditions. -/
import Derived.Test.YtfdlmimgooeioaaDoorEI
import Derived.Test.YtfdlmimgooeioaaDoorT6
set_option linter.unusedVariables false
set_option linter.unusedSimpArgs false
namespace Go.Proofs.YtfdlmimgooeioaaDoor
open Go.Px
theorem mutate_fn (gr : Nat) (rA : Option Addr) (rc : Nat) (rl : List UInt8) (rq : Nat) (s : Str) (w : World) (hrA : Rd w rA (rl.map byteV)) (hro : Off rA (rl.map byteV) [some gr]) (hrl : rl.length ≤ 2000) (hM : Mem w w [some gr] [[⟨.slice (bl gr) 1 1, 105, 2, 1, [.slice (rA) ((rl).length) (rc), I (((rq : Nat) : Int))]⟩]]) (hrq : rq ≤ 999999900) (hs : s.length ≤ 10000) :
    Does Tryd.prog 79 [.pointer (ofs (bl gr) (0)), S (s)] w (fun v w1 => ∃ (s1 : Str) (q1 : Nat), v = S (s1) ∧ (s1.length ≤ s.length + 10) ∧ (q1 ≤ rq + 10) ∧ Mem w w1 [some gr] [[⟨.slice (bl gr) 1 1, 105, 2, 1, [.slice (rA) ((rl).length) (rc), I (((q1 : Nat) : Int))]⟩]]) := by
  refine Does.enter1 Tryd.func79 rfl Tryd.results79 Tryd.ntmps79 rfl ?_
  refine C.seq ?_
  refine C.region ?_
  refine O.val (v := S ([])) rfl (Ru.assign rfl) rfl ?_
  refine O.nil ?_
  refine C.seq ?_
  refine C.region ?_
  refine O.val (v := .pointer (ofs (bl gr) (0))) rfl (Ru.move rfl) rfl ?_
  refine O.val (v := S (s)) rfl (Ru.move rfl) rfl ?_
  refine O.val (v := I (((s).length : Int))) rfl (Ru.slen Tryd.underlying9 rfl) rfl ?_
  refine O.val (v := I (((((s).length + 1) : Nat) : Int))) rfl (Ru.congr (v := I ((((s).length : Int) + 1))) (v' := I (((((s).length + 1) : Nat) : Int))) (Ru.add rfl rfl (by omega)) (I_congr (by first | omega | simp))) rfl ?_
  refine O.callg [.pointer (ofs (bl gr) (0)), I (((((s).length + 1) : Nat) : Int))] rfl en78 rfl rfl (pick_fn gr rA rc rl rq ((((s).length + 1) : Nat) : Int) w (hrA.atR hM hro) hro hrl (Mem.focus (Ma := [[⟨.slice (bl gr) 1 1, 105, 2, 1, [.slice (rA) ((rl).length) (rc), I (((rq : Nat) : Int))]⟩]]) (rest := []) hM rfl) (by first | omega | assumption | (simp; omega) | simp | (intros; omega))) ?_
  rintro _ w1_4 ⟨k1_4, rfl, hk1_4, hR1_4⟩
  have hM1_4 : Mem w w1_4 [some gr] [[⟨.slice (bl gr) 1 1, 105, 2, 1, [.slice (rA) ((rl).length) (rc), I (((rq + 1 : Nat) : Int))]⟩]] := Mem.call (Ma := [[⟨.slice (bl gr) 1 1, 105, 2, 1, [.slice (rA) ((rl).length) (rc), I (((rq : Nat) : Int))]⟩]]) hM hR1_4 rfl
  refine O.val (v := I (k1_4)) rfl (Ru.assign rfl) rfl ?_
  refine O.nil ?_
  refine C.seq ?_
  refine C.seq ?_
  refine C.region ?_
  refine O.val (v := .pointer (ofs (bl gr) (0))) rfl (Ru.move rfl) rfl ?_
  refine O.callg [.pointer (ofs (bl gr) (0)), I (5)] rfl en78 rfl rfl (pick_fn gr rA rc rl (rq + 1) 5 w1_4 (hrA.atR hM1_4 hro) hro hrl (Mem.focus (Ma := [[⟨.slice (bl gr) 1 1, 105, 2, 1, [.slice (rA) ((rl).length) (rc), I (((rq + 1 : Nat) : Int))]⟩]]) (rest := []) hM1_4 rfl) (by first | omega | assumption | (simp; omega) | simp | (intros; omega))) ?_
  rintro _ w2_1 ⟨k2_1, rfl, hk2_1, hR2_1⟩
  have hM2_1 : Mem w w2_1 [some gr] [[⟨.slice (bl gr) 1 1, 105, 2, 1, [.slice (rA) ((rl).length) (rc), I ((((rq + 1) + 1 : Nat) : Int))]⟩]] := Mem.call (Ma := [[⟨.slice (bl gr) 1 1, 105, 2, 1, [.slice (rA) ((rl).length) (rc), I (((rq + 1 : Nat) : Int))]⟩]]) hM1_4 hR2_1 rfl
  refine O.nil ?_
  refine C.block ?_
  refine C.seq ?_
  refine C.region ?_
  refine O.val (v := .bool (decide (k2_1 = 0))) rfl (Ru.eql rfl rfl) rfl ?_
  refine O.val (v := .bool (decide (k2_1 = 0))) rfl (Ru.assign rfl) rfl ?_
  refine O.nil ?_
  refine C.cond (p := k2_1 = 0) rfl (fun c13 => ?_) (fun c13 => ?_)
  · refine C.seq ?_
    refine C.region ?_
    refine O.val (v := I (k1_4)) rfl (Ru.move rfl) rfl ?_
    refine O.val (v := S (s)) rfl (Ru.move rfl) rfl ?_
    refine O.val (v := I (((s).length : Int))) rfl (Ru.slen Tryd.underlying9 rfl) rfl ?_
    refine O.val (v := .bool (decide (k1_4 < ((s).length : Int)))) rfl (Ru.lss rfl rfl) rfl ?_
    refine O.nil ?_
    refine C.cond (p := k1_4 < ((s).length : Int)) rfl (fun c18 => ?_) (fun c18 => ?_)
    · refine C.seq ?_
      refine C.any (f := 13) (ls := [false, false, false, false, false, false, false, false, false, false, false, false, false]) (fun w2 => Mem w w2 [some gr] []) mixed rfl rfl (fun w2 hw2 => Mem0.ext (Mem.none hM2_1) hw2) (fun w5a hE5a => ?_)
      have hM5a : Mem w w5a [some gr] [[⟨.slice (bl gr) 1 1, 105, 2, 1, [.slice (rA) ((rl).length) (rc), I ((((rq + 1) + 1 : Nat) : Int))]⟩]] := Mem0.ext hM2_1 hE5a
      refine AO.val (v := S (s)) 0 (ls' := [true, false, false, false, false, false, false, false, false, false, false, false, false]) rfl (by kernel_rfl) rfl rfl (fun w2 hw2 => Ru.move rfl) rfl ?_
      refine AO.val (v := I (k1_4)) 1 (ls' := [true, true, false, false, false, false, false, false, false, false, false, false, false]) rfl (by kernel_rfl) rfl rfl (fun w2 hw2 => Ru.move rfl) rfl ?_
      refine AO.val (v := S ((s).take ((k1_4).toNat))) 2 (ls' := [true, true, true, false, false, false, false, false, false, false, false, false, false]) rfl (by kernel_rfl) rfl rfl (fun w2 hw2 => Ru.ssliceTo (h := (k1_4).toNat) Tryd.underlying9 rfl rfl (by omega) (by first | omega | (simp; omega))) rfl ?_
      refine AO.val (v := .pointer (ofs (bl gr) (0))) 3 (ls' := [true, true, true, true, false, false, false, false, false, false, false, false, false]) rfl (by kernel_rfl) rfl rfl (fun w2 hw2 => Ru.move rfl) rfl ?_
      refine AO.val (v := S (s)) 7 (ls' := [true, true, true, true, false, false, false, true, false, false, false, false, false]) rfl (by kernel_rfl) rfl rfl (fun w2 hw2 => Ru.move rfl) rfl ?_
      refine AO.val (v := I (k1_4)) 8 (ls' := [true, true, true, true, false, false, false, true, true, false, false, false, false]) rfl (by kernel_rfl) rfl rfl (fun w2 hw2 => Ru.move rfl) rfl ?_
      refine AO.val (v := I ((k1_4 + 1))) 9 (ls' := [true, true, true, true, false, false, false, true, true, true, false, false, false]) rfl (by kernel_rfl) rfl rfl (fun w2 hw2 => Ru.add rfl rfl (by omega)) rfl ?_
      refine AO.val (v := S ((s).drop (((k1_4 + 1)).toNat))) 10 (ls' := [true, true, true, true, false, false, false, true, true, true, true, false, false]) rfl (by kernel_rfl) rfl rfl (fun w2 hw2 => Ru.ssliceFrom (l := ((k1_4 + 1)).toNat) Tryd.underlying9 rfl rfl (by omega) (by first | omega | (simp; omega))) rfl ?_
      refine AO.one 4 (by kernel_rfl) ?_
      refine step1 (ls' := [true, true, true, true, true, false, false, true, true, true, true, false, false]) rfl rfl ?_
      refine O.mlit (sz := 1) (cs := [S ([48]), S ([49]), S ([32]), S ([45]), S ([44]), S ([58]), S ([97]), S ([57])]) hM5a rfl Tryd.underlying85 el9 rfl rfl rfl (by kernel_rfl) (by kernel_rfl) rfl rfl (fun w5_4 b5_4 hb5_4 (hM5_4 : Mem w w5_4 [some gr] [[⟨.slice (bl b5_4) (8) (8), 9, 1, 8, ([[48], [49], [32], [45], [44], [58], [97], [57]]).map S⟩], [⟨.slice (bl gr) 1 1, 105, 2, 1, [.slice (rA) ((rl).length) (rc), I ((((rq + 1) + 1 : Nat) : Int))]⟩]]) => ?_)
      refine O.stop (Mem.none hM5_4) ?_
      refine AO.one 5 (by kernel_rfl) ?_
      refine step1 (ls' := [true, true, true, true, true, true, false, true, true, true, true, false, false]) rfl rfl ?_
      have hMf5_5 : Mem w w5_4 [some gr] [[⟨.slice (bl gr) 1 1, 105, 2, 1, [.slice (rA) ((rl).length) (rc), I ((((rq + 1) + 1 : Nat) : Int))]⟩], [⟨.slice (bl b5_4) (8) (8), 9, 1, 8, ([[48], [49], [32], [45], [44], [58], [97], [57]]).map S⟩]] := hM5_4.pick [1, 0] (by decide) rfl
      refine O.callg [.pointer (ofs (bl gr) (0)), .slice (bl b5_4) (([[48], [49], [32], [45], [44], [58], [97], [57]]).length) (8)] rfl en109 (by first | rfl | (rw [show ([[48], [49], [32], [45], [44], [58], [97], [57]]).length = 8 from (by first | rfl | (simp; done) | omega | (simp; omega))]; rfl)) rfl (of_fn gr rA rc rl ((rq + 1) + 1) (bl b5_4) 8 ([[48], [49], [32], [45], [44], [58], [97], [57]]) w5_4 (hrA.atR hMf5_5 hro) hro hrl (hMf5_5.rd 1 rfl) (Off.of_ng (hMf5_5.ng 1 0 (by decide) rfl rfl)) (Mem.focus (Ma := [[⟨.slice (bl gr) 1 1, 105, 2, 1, [.slice (rA) ((rl).length) (rc), I ((((rq + 1) + 1 : Nat) : Int))]⟩]]) (rest := [[⟨.slice (bl b5_4) (8) (8), 9, 1, 8, ([[48], [49], [32], [45], [44], [58], [97], [57]]).map S⟩]]) hMf5_5 rfl) (by first | omega | assumption | (simp; omega) | simp | (intros; omega)) (by simp) (by simp)) ?_
      rintro _ w5_5 ⟨s5_5, rfl, hs5_5, hR5_5⟩
      have hM5_5 : Mem w w5_5 [some gr] [[⟨.slice (bl gr) 1 1, 105, 2, 1, [.slice (rA) ((rl).length) (rc), I (((((rq + 1) + 1) + 1 : Nat) : Int))]⟩], [⟨.slice (bl b5_4) (8) (8), 9, 1, 8, ([[48], [49], [32], [45], [44], [58], [97], [57]]).map S⟩]] := Mem.call (Ma := [[⟨.slice (bl gr) 1 1, 105, 2, 1, [.slice (rA) ((rl).length) (rc), I ((((rq + 1) + 1 : Nat) : Int))]⟩]]) hMf5_5 hR5_5 rfl
      have hsn : s5_5.length ≤ 4 := (by decide : ∀ s ∈ ([[48], [49], [32], [45], [44], [58], [97], [57]] : List Str), s.length ≤ 4) _ hs5_5
      refine O.stop (Mem.none hM5_5) ?_
      refine AO.val (v := S (((s).take ((k1_4).toNat) ++ s5_5))) 6 (ls' := [true, true, true, true, true, true, true, true, true, true, true, false, false]) rfl (by kernel_rfl) rfl rfl (fun w2 hw2 => Ru.sadd rfl rfl (by first | omega | (simp; omega))) rfl ?_
      refine AO.val (v := S ((((s).take ((k1_4).toNat) ++ s5_5) ++ (s).drop (((k1_4 + 1)).toNat)))) 11 (ls' := [true, true, true, true, true, true, true, true, true, true, true, true, false]) rfl (by kernel_rfl) rfl rfl (fun w2 hw2 => Ru.sadd rfl rfl (by first | omega | (simp; omega))) rfl ?_
      refine AO.val (v := S ((((s).take ((k1_4).toNat) ++ s5_5) ++ (s).drop (((k1_4 + 1)).toNat)))) 12 (ls' := [true, true, true, true, true, true, true, true, true, true, true, true, true]) rfl (by kernel_rfl) rfl rfl (fun w2 hw2 => Ru.assign rfl) rfl ?_
      refine AO.nil (by kernel_rfl) ?_
      refine C.ret ?_
      refine P1 (v := S ((((s).take ((k1_4).toNat) ++ s5_5) ++ (s).drop (((k1_4 + 1)).toNat)))) rfl ?_
      exact ⟨(((s).take ((k1_4).toNat) ++ s5_5) ++ (s).drop (((k1_4 + 1)).toNat)), _, (by first | rfl | exact sl_congr (by first | omega | (simp; done) | (simp; omega)) | (simp; done)), (by first | omega | (simp; omega)), (by omega), (hM5_5.pick [0] (by decide) rfl)⟩
    · refine C.skip ?_
      refine C.seq ?_
      refine C.region ?_
      refine O.val (v := S (s)) rfl (Ru.move rfl) rfl ?_
      refine O.val (v := S (s)) rfl (Ru.assign rfl) rfl ?_
      refine O.nil ?_
      refine C.ret ?_
      refine P1 (v := S (s)) rfl ?_
      exact ⟨s, _, (by first | rfl | exact sl_congr (by first | omega | (simp; done) | (simp; omega)) | (simp; done)), (by first | omega | (simp; omega)), (by omega), (hM2_1.pick [0] (by decide) rfl)⟩
  · refine C.seq ?_
    refine C.region ?_
    refine O.val (v := .bool (decide (k2_1 = 1))) rfl (Ru.eql rfl rfl) rfl ?_
    refine O.val (v := .bool (decide (k2_1 = 1))) rfl (Ru.assign rfl) rfl ?_
    refine O.nil ?_
    refine C.cond (p := k2_1 = 1) rfl (fun c31 => ?_) (fun c31 => ?_)
    · refine C.seq ?_
      refine C.region ?_
      refine O.val (v := S (s)) rfl (Ru.move rfl) rfl ?_
      refine O.val (v := I (k1_4)) rfl (Ru.move rfl) rfl ?_
      refine O.val (v := S ((s).take ((k1_4).toNat))) rfl (Ru.ssliceTo (h := (k1_4).toNat) Tryd.underlying9 rfl rfl (by omega) (by first | omega | (simp; omega))) rfl ?_
      refine O.val (v := S ((s).take ((k1_4).toNat))) rfl (Ru.assign rfl) rfl ?_
      refine O.nil ?_
      refine C.ret ?_
      refine P1 (v := S ((s).take ((k1_4).toNat))) rfl ?_
      exact ⟨(s).take ((k1_4).toNat), _, (by first | rfl | exact sl_congr (by first | omega | (simp; done) | (simp; omega)) | (simp; done)), (by first | omega | (simp; omega)), (by omega), (hM2_1.pick [0] (by decide) rfl)⟩
    · refine C.seq ?_
      refine C.region ?_
      refine O.val (v := .bool (decide (k2_1 = 2))) rfl (Ru.eql rfl rfl) rfl ?_
      refine O.val (v := .bool (decide (k2_1 = 2))) rfl (Ru.assign rfl) rfl ?_
      refine O.nil ?_
      refine C.cond (p := k2_1 = 2) rfl (fun c36 => ?_) (fun c36 => ?_)
      · refine C.seq ?_
        refine C.region ?_
        refine O.val (v := S (s)) rfl (Ru.move rfl) rfl ?_
        refine O.val (v := .pointer (ofs (bl gr) (0))) rfl (Ru.move rfl) rfl ?_
        refine O.mlit (sz := 1) (cs := [S ([48]), S ([32]), S ([53, 58, 49]), S ([44, 49]), S ([120]), S ([112, 117, 116, 32])]) hM2_1 rfl Tryd.underlying85 el9 rfl rfl rfl (by kernel_rfl) (by kernel_rfl) rfl rfl (fun w9_2 b9_2 hb9_2 (hM9_2 : Mem w w9_2 [some gr] [[⟨.slice (bl b9_2) (6) (6), 9, 1, 6, ([[48], [32], [53, 58, 49], [44, 49], [120], [112, 117, 116, 32]]).map S⟩], [⟨.slice (bl gr) 1 1, 105, 2, 1, [.slice (rA) ((rl).length) (rc), I ((((rq + 1) + 1 : Nat) : Int))]⟩]]) => ?_)
        have hMf9_3 : Mem w w9_2 [some gr] [[⟨.slice (bl gr) 1 1, 105, 2, 1, [.slice (rA) ((rl).length) (rc), I ((((rq + 1) + 1 : Nat) : Int))]⟩], [⟨.slice (bl b9_2) (6) (6), 9, 1, 6, ([[48], [32], [53, 58, 49], [44, 49], [120], [112, 117, 116, 32]]).map S⟩]] := hM9_2.pick [1, 0] (by decide) rfl
        refine O.callg [.pointer (ofs (bl gr) (0)), .slice (bl b9_2) (([[48], [32], [53, 58, 49], [44, 49], [120], [112, 117, 116, 32]]).length) (6)] rfl en109 (by first | rfl | (rw [show ([[48], [32], [53, 58, 49], [44, 49], [120], [112, 117, 116, 32]]).length = 6 from (by first | rfl | (simp; done) | omega | (simp; omega))]; rfl)) rfl (of_fn gr rA rc rl ((rq + 1) + 1) (bl b9_2) 6 ([[48], [32], [53, 58, 49], [44, 49], [120], [112, 117, 116, 32]]) w9_2 (hrA.atR hMf9_3 hro) hro hrl (hMf9_3.rd 1 rfl) (Off.of_ng (hMf9_3.ng 1 0 (by decide) rfl rfl)) (Mem.focus (Ma := [[⟨.slice (bl gr) 1 1, 105, 2, 1, [.slice (rA) ((rl).length) (rc), I ((((rq + 1) + 1 : Nat) : Int))]⟩]]) (rest := [[⟨.slice (bl b9_2) (6) (6), 9, 1, 6, ([[48], [32], [53, 58, 49], [44, 49], [120], [112, 117, 116, 32]]).map S⟩]]) hMf9_3 rfl) (by first | omega | assumption | (simp; omega) | simp | (intros; omega)) (by simp) (by simp)) ?_
        rintro _ w9_3 ⟨s9_3, rfl, hs9_3, hR9_3⟩
        have hM9_3 : Mem w w9_3 [some gr] [[⟨.slice (bl gr) 1 1, 105, 2, 1, [.slice (rA) ((rl).length) (rc), I (((((rq + 1) + 1) + 1 : Nat) : Int))]⟩], [⟨.slice (bl b9_2) (6) (6), 9, 1, 6, ([[48], [32], [53, 58, 49], [44, 49], [120], [112, 117, 116, 32]]).map S⟩]] := Mem.call (Ma := [[⟨.slice (bl gr) 1 1, 105, 2, 1, [.slice (rA) ((rl).length) (rc), I ((((rq + 1) + 1 : Nat) : Int))]⟩]]) hMf9_3 hR9_3 rfl
        have hsn : s9_3.length ≤ 4 := (by decide : ∀ s ∈ ([[48], [32], [53, 58, 49], [44, 49], [120], [112, 117, 116, 32]] : List Str), s.length ≤ 4) _ hs9_3
        refine O.val (v := S ((s ++ s9_3))) rfl (Ru.sadd rfl rfl (by first | omega | (simp; omega))) rfl ?_
        refine O.val (v := S ((s ++ s9_3))) rfl (Ru.assign rfl) rfl ?_
        refine O.nil ?_
        refine C.ret ?_
        refine P1 (v := S ((s ++ s9_3))) rfl ?_
        exact ⟨(s ++ s9_3), _, (by first | rfl | exact sl_congr (by first | omega | (simp; done) | (simp; omega)) | (simp; done)), (by first | omega | (simp; omega)), (by omega), (hM9_3.pick [0] (by decide) rfl)⟩
      · refine C.skip ?_
        refine C.seq ?_
        refine C.region ?_
        refine O.val (v := S (s)) rfl (Ru.move rfl) rfl ?_
        refine O.val (v := S (s)) rfl (Ru.assign rfl) rfl ?_
        refine O.nil ?_
        refine C.ret ?_
        refine P1 (v := S (s)) rfl ?_
        exact ⟨s, _, (by first | rfl | exact sl_congr (by first | omega | (simp; done) | (simp; omega)) | (simp; done)), (by first | omega | (simp; omega)), (by omega), (hM2_1.pick [0] (by decide) rfl)⟩

theorem DrawParseRow_fn (A : Option Addr) (c : Nat) (l : List UInt8) (w : World) (hA : Rd w A ((l).map byteV)) (hl : l.length ≤ 1048576) (hc : l.length ≤ c) :
    Does Tryd.prog 41 [.slice (A) ((l).length) (c)] w (fun v w1 => ∃ (s1 : Str), v = S (s1) ∧ (s1.length ≤ 2000) ∧ Mem w w1 [] []) := by
  have hM : Mem w w [] [] := Mem.refl
  refine Does.enter1 Tryd.func41 rfl Tryd.results41 Tryd.ntmps41 rfl ?_
  refine C.seq ?_
  refine C.region ?_
  refine O.val (v := S ([])) rfl (Ru.assign rfl) rfl ?_
  refine O.nil ?_
  refine C.seq ?_
  refine C.region ?_
  refine O.val (v := .slice (A) ((l).length) (c)) rfl (Ru.move rfl) rfl ?_
  refine O.callg [.slice (A) ((l).length) (c)] rfl en51 rfl rfl (newReader_fn A c l w (hA.at hM) (by first | omega | assumption | (simp; omega) | simp | (intros; omega)) (by first | omega | assumption | (simp; omega) | simp | (intros; omega))) ?_
  rintro _ w1_1 ⟨gr1_1, l11_1, rfl, hl11_1, hlen1_1, hR1_1⟩
  have hM1_1 : Mem w w1_1 [] [[⟨.slice (bl gr1_1) 1 1, 105, 2, 1, [.slice (A) ((l11_1).length) (c), I (((0 : Nat) : Int))]⟩]] := Mem.call (Ma := []) hM hR1_1 rfl
  have hrA : Rd w A (List.map byteV l11_1) := by rcases hl11_1 with h | h <;> rw [h]; exact hA; exact rd_take1 hA
  have hrl := hlen1_1
  refine O.val (v := .pointer (ofs (bl gr1_1) (0))) rfl (Ru.assign rfl) rfl ?_
  refine O.nil ?_
  refine C.seq ?_
  refine C.region ?_
  refine O.val (v := .pointer (ofs (bl gr1_1) (0))) rfl (Ru.move rfl) rfl ?_
  refine O.callg [.pointer (ofs (bl gr1_1) (0))] rfl en77 rfl rfl (smallRow_fn gr1_1 A c l11_1 0 w1_1 (hrA.at hM1_1) (Mem.ng_old hM1_1 hrA 0 rfl) hrl (Mem.focus (Ma := [[⟨.slice (bl gr1_1) 1 1, 105, 2, 1, [.slice (A) ((l11_1).length) (c), I (((0 : Nat) : Int))]⟩]]) (rest := []) hM1_1 rfl) (by first | omega | assumption | (simp; omega) | simp | (intros; omega))) ?_
  rintro _ w2_1 ⟨l12_1, A12_1, c12_1, q12_1, rfl, hl2_1, hq2_1, hR2_1⟩
  have hM2_1 : Mem w w2_1 [] [[⟨.slice (bl gr1_1) 1 1, 105, 2, 1, [.slice (A) ((l11_1).length) (c), I (((q12_1 : Nat) : Int))]⟩], [⟨.slice (A12_1) ((l12_1).length) (c12_1), 61, 2, ((l12_1).length), (l12_1).flatMap encP⟩]] := Mem.call (Ma := [[⟨.slice (bl gr1_1) 1 1, 105, 2, 1, [.slice (A) ((l11_1).length) (c), I (((0 : Nat) : Int))]⟩]]) hM1_1 hR2_1 rfl
  have hcr2_1_1 := (hM2_1.cap 1 rfl).1
  refine O.callg [.slice (A12_1) ((l12_1).length) (c12_1)] rfl en14 rfl rfl (sFormatRow_fn A12_1 c12_1 l12_1 w2_1 (hM2_1.rd 1 rfl) (by omega)) ?_
  rintro _ w2_2 ⟨rfl, hR2_2⟩
  have hM2_2 : Mem w w2_2 [] [[⟨.slice (bl gr1_1) 1 1, 105, 2, 1, [.slice (A) ((l11_1).length) (c), I (((q12_1 : Nat) : Int))]⟩], [⟨.slice (A12_1) ((l12_1).length) (c12_1), 61, 2, ((l12_1).length), (l12_1).flatMap encP⟩]] := Mem.call (Ma := []) hM2_1 hR2_2 rfl
  have hfm := fmtR_len l12_1
  refine O.val (v := S (fmtR l12_1)) rfl (Ru.assign rfl) rfl ?_
  refine O.nil ?_
  refine C.seq ?_
  refine C.seq ?_
  refine C.region ?_
  refine O.val (v := .pointer (ofs (bl gr1_1) (0))) rfl (Ru.move rfl) rfl ?_
  refine O.callg [.pointer (ofs (bl gr1_1) (0)), I (3)] rfl en78 rfl rfl (pick_fn gr1_1 A c l11_1 q12_1 3 w2_2 (hrA.at hM2_2) (Mem.ng_old hM2_2 hrA 0 rfl) hrl (Mem.focus (Ma := [[⟨.slice (bl gr1_1) 1 1, 105, 2, 1, [.slice (A) ((l11_1).length) (c), I (((q12_1 : Nat) : Int))]⟩]]) (rest := [[⟨.slice (A12_1) ((l12_1).length) (c12_1), 61, 2, ((l12_1).length), (l12_1).flatMap encP⟩]]) hM2_2 rfl) (by first | omega | assumption | (simp; omega) | simp | (intros; omega))) ?_
  rintro _ w3_1 ⟨k3_1, rfl, hk3_1, hR3_1⟩
  have hM3_1 : Mem w w3_1 [] [[⟨.slice (bl gr1_1) 1 1, 105, 2, 1, [.slice (A) ((l11_1).length) (c), I (((q12_1 + 1 : Nat) : Int))]⟩], [⟨.slice (A12_1) ((l12_1).length) (c12_1), 61, 2, ((l12_1).length), (l12_1).flatMap encP⟩]] := Mem.call (Ma := [[⟨.slice (bl gr1_1) 1 1, 105, 2, 1, [.slice (A) ((l11_1).length) (c), I (((q12_1 : Nat) : Int))]⟩]]) hM2_2 hR3_1 rfl
  refine O.val (v := .bool (decide (k3_1 = 0))) rfl (Ru.eql rfl rfl) rfl ?_
  refine O.nil ?_
  refine C.cond (p := k3_1 = 0) rfl (fun c12 => ?_) (fun c12 => ?_)
  · refine C.region ?_
    refine O.val (v := .pointer (ofs (bl gr1_1) (0))) rfl (Ru.move rfl) rfl ?_
    refine O.val (v := S (fmtR l12_1)) rfl (Ru.move rfl) rfl ?_
    refine O.callg [.pointer (ofs (bl gr1_1) (0)), S (fmtR l12_1)] rfl en79 rfl rfl (mutate_fn gr1_1 A c l11_1 (q12_1 + 1) (fmtR l12_1) w3_1 (hrA.at hM3_1) (Mem.ng_old hM3_1 hrA 0 rfl) hrl (Mem.focus (Ma := [[⟨.slice (bl gr1_1) 1 1, 105, 2, 1, [.slice (A) ((l11_1).length) (c), I (((q12_1 + 1 : Nat) : Int))]⟩]]) (rest := [[⟨.slice (A12_1) ((l12_1).length) (c12_1), 61, 2, ((l12_1).length), (l12_1).flatMap encP⟩]]) hM3_1 rfl) (by first | omega | assumption | (simp; omega) | simp | (intros; omega)) (by omega)) ?_
    rintro _ w4_2 ⟨s14_2, q14_2, rfl, hl4_2, hq4_2, hR4_2⟩
    have hM4_2 : Mem w w4_2 [] [[⟨.slice (bl gr1_1) 1 1, 105, 2, 1, [.slice (A) ((l11_1).length) (c), I (((q14_2 : Nat) : Int))]⟩], [⟨.slice (A12_1) ((l12_1).length) (c12_1), 61, 2, ((l12_1).length), (l12_1).flatMap encP⟩]] := Mem.call (Ma := [[⟨.slice (bl gr1_1) 1 1, 105, 2, 1, [.slice (A) ((l11_1).length) (c), I (((q12_1 + 1 : Nat) : Int))]⟩]]) hM3_1 hR4_2 rfl
    refine O.val (v := S (s14_2)) rfl (Ru.assign rfl) rfl ?_
    refine O.nil ?_
    refine C.seq ?_
    refine C.region ?_
    refine O.val (v := S (s14_2)) rfl (Ru.move rfl) rfl ?_
    refine O.val (v := S (s14_2)) rfl (Ru.assign rfl) rfl ?_
    refine O.nil ?_
    refine C.ret ?_
    refine P1 (v := S (s14_2)) rfl ?_
    exact ⟨s14_2, (by first | rfl | exact sl_congr (by first | omega | (simp; done) | (simp; omega)) | (simp; done)), (by first | omega | (simp; omega)), (Mem.none hM4_2)⟩
  · refine C.skip ?_
    refine C.seq ?_
    refine C.region ?_
    refine O.val (v := S (fmtR l12_1)) rfl (Ru.move rfl) rfl ?_
    refine O.val (v := S (fmtR l12_1)) rfl (Ru.assign rfl) rfl ?_
    refine O.nil ?_
    refine C.ret ?_
    refine P1 (v := S (fmtR l12_1)) rfl ?_
    exact ⟨fmtR l12_1, (by first | rfl | exact sl_congr (by first | omega | (simp; done) | (simp; omega)) | (simp; done)), (by first | omega | (simp; omega)), (Mem.none hM3_1)⟩
end Go.Proofs.YtfdlmimgooeioaaDoor
