/- Own layer: part of this seat (EF). Plain theorems; no conditions. -/
import Derived.Test.YtfdlmimgooeioaaDoorEE
set_option linter.unusedVariables false
set_option linter.unusedSimpArgs false
namespace Go.Proofs.YtfdlmimgooeioaaDoor
open Go.Px
theorem rowText_fn (A : Option Addr) (c : Nat) (l : List PairT) (w : World) (hA : Rd w A ((l).flatMap encP)) (hl : l.length ≤ 1048576) (hv : ∀ p ∈ l, small p) (h24 : l.length ≤ 24) :
    Does Tryd.prog 43 [.slice (A) ((l).length) (c)] w (fun v w1 => v = S (fmtL l) ∧ Mem w w1 [] []) := by
  have hM : Mem w w [] [] := Mem.refl
  refine Does.enter1 Tryd.func43 rfl Tryd.results43 Tryd.ntmps43 rfl ?_
  refine C.seq ?_
  refine C.region ?_
  refine O.val (v := S ([])) rfl (Ru.assign rfl) rfl ?_
  refine O.nil ?_
  refine C.seq ?_
  refine C.region ?_
  refine O.val (v := S ([])) rfl (Ru.assign rfl) rfl ?_
  refine O.nil ?_
  refine C.seq ?_
  refine C.seq ?_
  refine C.region ?_
  refine O.val (v := I (0)) rfl (Ru.assign rfl) rfl ?_
  refine O.nil ?_
  refine C.block ?_
  refine C.loop (ι := Nat) (fun k => ([(0, .slice (A) ((l).length) (c)), (3, S (fmtL (l.take k))), (4, I (((k : Nat) : Int)))] : List (Nat × Value))) (fun k w_ => (k ≤ l.length) ∧ (Mem w w_ [] [])) (fun k => l.length - k) (0) (Has.cons rfl (Has.cons (congrArg S (by simp [fmtL])) (Has.cons (I_congr (by first | rfl | omega | (simp; omega) | simp)) Has.nil))) ⟨(Nat.zero_le _), (hM.pick [] (by decide) rfl)⟩ (fun k σ w_l3 hI => ?_)
  try dsimp only at hI
  obtain ⟨hi0_l3, hM_l3⟩ := hI
  refine C.seq ?_
  refine C.seq ?_
  refine C.region ?_
  refine O.val (v := I (((k : Nat) : Int))) rfl (Ru.move rfl) rfl ?_
  refine O.val (v := .slice (A) ((l).length) (c)) rfl (Ru.move rfl) rfl ?_
  refine O.val (v := I ((((l).length : Nat) : Int))) rfl (Ru.blenSlice Tryd.underlying25 rfl) rfl ?_
  refine O.val (v := .bool (decide (((k : Nat) : Int) < (((l).length : Nat) : Int)))) rfl (Ru.lss rfl rfl) rfl ?_
  refine O.nil ?_
  refine C.cond (p := ((k : Nat) : Int) < (((l).length : Nat) : Int)) rfl (fun c8 => ?_) (fun c8 => ?_)
  · have hkl : k < l.length := by omega
    have hsm := hv _ (List.getElem_mem hkl)
    have hfl := fmtL_len (l := l) k hv hi0_l3
    have hl1 := itoa_len (n := l[k].key) (by have := hsm.1; omega) (by have := hsm.1; omega)
    have hl2 := itoa_len (n := l[k].val) (by have := hsm.2; omega) (by have := hsm.2; omega)
    have hs1 := hsm.1
    have hs2 := hsm.2
    refine C.skip ?_
    refine C.seq ?_
    refine C.block ?_
    refine C.seq ?_
    refine C.seq ?_
    refine C.region ?_
    refine O.val (v := I (((k : Nat) : Int))) rfl (Ru.move rfl) rfl ?_
    refine O.val (v := .bool (decide (((k : Nat) : Int) > 0))) rfl (Ru.gtr rfl rfl) rfl ?_
    refine O.nil ?_
    refine C.cond (p := ((k : Nat) : Int) > 0) rfl (fun c12 => ?_) (fun c12 => ?_)
    · have hk0 : k ≠ 0 := by omega
      refine C.region ?_
      refine O.val (v := S (fmtL (l.take k))) rfl (Ru.move rfl) rfl ?_
      refine O.val (v := S ((fmtL (l.take k) ++ [44]))) rfl (Ru.sadd rfl rfl (by first | omega | (simp; omega))) rfl ?_
      refine O.val (v := S ((fmtL (l.take k) ++ [44]))) rfl (Ru.assign rfl) rfl ?_
      refine O.nil ?_
      refine C.draws (fun w2 => Mem w w2 [] []) mixed (by kernel_rfl) (hM_l3.ext (kdrawn _)) ?_
      refine QO.val (v := S ((fmtL (l.take k) ++ [44]))) rfl (fun w2 hw2 => Ru.move rfl) rfl ?_
      refine QO.val (v := .slice (A) ((l).length) (c)) rfl (fun w2 hw2 => Ru.move rfl) rfl ?_
      refine QO.val (v := I (((k : Nat) : Int))) rfl (fun w2 hw2 => Ru.move rfl) rfl ?_
      have hx7_3 : k < (l).length := (by first | omega | (simp; omega))
      refine QO.val (v := .pointer (ofs (A) (k * 2))) rfl (fun w2 hw2 => Ru.indexA (j := k) Tryd.underlying25 el61 rfl rfl (smf encP_len (hA.at hw2) hx7_3 rfl) (by omega) (by first | omega | (simp; omega))) rfl ?_
      refine QO.val (v := .pointer (ofs (A) (k * 2 + 0))) rfl (fun w2 hw2 => Ru.fieldA fl61_0 rfl (smf encP_len (hA.at hw2) hx7_3 rfl)) rfl ?_
      refine QO.val rfl (fun w2 hw2 => Ru.load1 el3 rfl (ldf encP_len (hA.at hw2) hx7_3 rfl)) rfl ?_
      refine QO.callg (v := S (itoaS (((l)[k]'hx7_3).key))) [I (((l)[k]'hx7_3).key)] rfl en82 rfl rfl (fun w2 hw2 => (decimal_fn (((l)[k]'hx7_3).key) w2 (by omega)).mono fun _ _ h => ⟨h.1, Mem.call0 hw2 h.2⟩) ?_
      refine QO.val (v := S (((fmtL (l.take k) ++ [44]) ++ itoaS (((l)[k]'hx7_3).key)))) rfl (fun w2 hw2 => Ru.sadd rfl rfl (by first | omega | (simp; omega))) rfl ?_
      refine QO.val (v := S ((((fmtL (l.take k) ++ [44]) ++ itoaS (((l)[k]'hx7_3).key)) ++ [58]))) rfl (fun w2 hw2 => Ru.sadd rfl rfl (by first | omega | (simp; omega))) rfl ?_
      refine QO.val (v := .slice (A) ((l).length) (c)) rfl (fun w2 hw2 => Ru.move rfl) rfl ?_
      refine QO.val (v := I (((k : Nat) : Int))) rfl (fun w2 hw2 => Ru.move rfl) rfl ?_
      have hx7_11 : k < (l).length := (by first | omega | (simp; omega))
      refine QO.val (v := .pointer (ofs (A) (k * 2))) rfl (fun w2 hw2 => Ru.indexA (j := k) Tryd.underlying25 el61 rfl rfl (smf encP_len (hA.at hw2) hx7_11 rfl) (by omega) (by first | omega | (simp; omega))) rfl ?_
      refine QO.val (v := .pointer (ofs (A) (k * 2 + 1))) rfl (fun w2 hw2 => Ru.fieldA fl61_1 rfl (smf encP_len (hA.at hw2) hx7_11 rfl)) rfl ?_
      refine QO.val rfl (fun w2 hw2 => Ru.load1 el3 rfl (ldf encP_len (hA.at hw2) hx7_11 rfl)) rfl ?_
      refine QO.callg (v := S (itoaS (((l)[k]'hx7_11).val))) [I (((l)[k]'hx7_11).val)] rfl en82 rfl rfl (fun w2 hw2 => (decimal_fn (((l)[k]'hx7_11).val) w2 (by omega)).mono fun _ _ h => ⟨h.1, Mem.call0 hw2 h.2⟩) ?_
      refine QO.val (v := S (((((fmtL (l.take k) ++ [44]) ++ itoaS (((l)[k]'hx7_3).key)) ++ [58]) ++ itoaS (((l)[k]'hx7_11).val)))) rfl (fun w2 hw2 => Ru.sadd rfl rfl (by first | omega | (simp; omega))) rfl ?_
      refine QO.val (v := S (((((fmtL (l.take k) ++ [44]) ++ itoaS (((l)[k]'hx7_3).key)) ++ [58]) ++ itoaS (((l)[k]'hx7_11).val)))) rfl (fun w2 hw2 => Ru.assign rfl) rfl ?_
      refine QO.nil ?_
      intro w7d hM7d
      refine C.region ?_
      refine O.val (v := I (((k : Nat) : Int))) rfl (Ru.move rfl) rfl ?_
      refine O.val (v := I ((((k + 1) : Nat) : Int))) rfl (Ru.congr (v := I ((((k : Nat) : Int) + 1))) (v' := I ((((k + 1) : Nat) : Int))) (Ru.add rfl rfl (by omega)) (I_congr (by first | omega | simp))) rfl ?_
      refine O.val (v := I ((((k + 1) : Nat) : Int))) rfl (Ru.assign rfl) rfl ?_
      refine O.nil ?_
      exact loopEnd (k + 1) (by (try dsimp only); omega) (Has.cons rfl (Has.cons (congrArg S (by rw [fmtL_take hkl]; simp [fmtP, hk0])) (Has.cons (I_congr (by first | rfl | omega | (simp; omega) | simp)) Has.nil))) ⟨(by (try dsimp only); omega), (hM7d.pick [] (by decide) rfl)⟩
    · have hk0 : k = 0 := by omega
      refine C.skip ?_
      refine C.draws (fun w2 => Mem w w2 [] []) mixed (by kernel_rfl) (hM_l3.ext (kdrawn _)) ?_
      refine QO.val (v := S (fmtL (l.take k))) rfl (fun w2 hw2 => Ru.move rfl) rfl ?_
      refine QO.val (v := .slice (A) ((l).length) (c)) rfl (fun w2 hw2 => Ru.move rfl) rfl ?_
      refine QO.val (v := I (((k : Nat) : Int))) rfl (fun w2 hw2 => Ru.move rfl) rfl ?_
      have hx7_3 : k < (l).length := (by first | omega | (simp; omega))
      refine QO.val (v := .pointer (ofs (A) (k * 2))) rfl (fun w2 hw2 => Ru.indexA (j := k) Tryd.underlying25 el61 rfl rfl (smf encP_len (hA.at hw2) hx7_3 rfl) (by omega) (by first | omega | (simp; omega))) rfl ?_
      refine QO.val (v := .pointer (ofs (A) (k * 2 + 0))) rfl (fun w2 hw2 => Ru.fieldA fl61_0 rfl (smf encP_len (hA.at hw2) hx7_3 rfl)) rfl ?_
      refine QO.val rfl (fun w2 hw2 => Ru.load1 el3 rfl (ldf encP_len (hA.at hw2) hx7_3 rfl)) rfl ?_
      refine QO.callg (v := S (itoaS (((l)[k]'hx7_3).key))) [I (((l)[k]'hx7_3).key)] rfl en82 rfl rfl (fun w2 hw2 => (decimal_fn (((l)[k]'hx7_3).key) w2 (by omega)).mono fun _ _ h => ⟨h.1, Mem.call0 hw2 h.2⟩) ?_
      refine QO.val (v := S ((fmtL (l.take k) ++ itoaS (((l)[k]'hx7_3).key)))) rfl (fun w2 hw2 => Ru.sadd rfl rfl (by first | omega | (simp; omega))) rfl ?_
      refine QO.val (v := S (((fmtL (l.take k) ++ itoaS (((l)[k]'hx7_3).key)) ++ [58]))) rfl (fun w2 hw2 => Ru.sadd rfl rfl (by first | omega | (simp; omega))) rfl ?_
      refine QO.val (v := .slice (A) ((l).length) (c)) rfl (fun w2 hw2 => Ru.move rfl) rfl ?_
      refine QO.val (v := I (((k : Nat) : Int))) rfl (fun w2 hw2 => Ru.move rfl) rfl ?_
      have hx7_11 : k < (l).length := (by first | omega | (simp; omega))
      refine QO.val (v := .pointer (ofs (A) (k * 2))) rfl (fun w2 hw2 => Ru.indexA (j := k) Tryd.underlying25 el61 rfl rfl (smf encP_len (hA.at hw2) hx7_11 rfl) (by omega) (by first | omega | (simp; omega))) rfl ?_
      refine QO.val (v := .pointer (ofs (A) (k * 2 + 1))) rfl (fun w2 hw2 => Ru.fieldA fl61_1 rfl (smf encP_len (hA.at hw2) hx7_11 rfl)) rfl ?_
      refine QO.val rfl (fun w2 hw2 => Ru.load1 el3 rfl (ldf encP_len (hA.at hw2) hx7_11 rfl)) rfl ?_
      refine QO.callg (v := S (itoaS (((l)[k]'hx7_11).val))) [I (((l)[k]'hx7_11).val)] rfl en82 rfl rfl (fun w2 hw2 => (decimal_fn (((l)[k]'hx7_11).val) w2 (by omega)).mono fun _ _ h => ⟨h.1, Mem.call0 hw2 h.2⟩) ?_
      refine QO.val (v := S ((((fmtL (l.take k) ++ itoaS (((l)[k]'hx7_3).key)) ++ [58]) ++ itoaS (((l)[k]'hx7_11).val)))) rfl (fun w2 hw2 => Ru.sadd rfl rfl (by first | omega | (simp; omega))) rfl ?_
      refine QO.val (v := S ((((fmtL (l.take k) ++ itoaS (((l)[k]'hx7_3).key)) ++ [58]) ++ itoaS (((l)[k]'hx7_11).val)))) rfl (fun w2 hw2 => Ru.assign rfl) rfl ?_
      refine QO.nil ?_
      intro w7d hM7d
      refine C.region ?_
      refine O.val (v := I (((k : Nat) : Int))) rfl (Ru.move rfl) rfl ?_
      refine O.val (v := I ((((k + 1) : Nat) : Int))) rfl (Ru.congr (v := I ((((k : Nat) : Int) + 1))) (v' := I ((((k + 1) : Nat) : Int))) (Ru.add rfl rfl (by omega)) (I_congr (by first | omega | simp))) rfl ?_
      refine O.val (v := I ((((k + 1) : Nat) : Int))) rfl (Ru.assign rfl) rfl ?_
      refine O.nil ?_
      exact loopEnd (k + 1) (by (try dsimp only); omega) (Has.cons rfl (Has.cons (congrArg S (by rw [fmtL_take hkl]; simp [fmtP, hk0])) (Has.cons (I_congr (by first | rfl | omega | (simp; omega) | simp)) Has.nil))) ⟨(by (try dsimp only); omega), (hM7d.pick [] (by decide) rfl)⟩
  · refine C.exit ?_
    refine C.seq ?_
    refine C.region ?_
    refine O.val (v := S (fmtL (l.take k))) rfl (Ru.move rfl) rfl ?_
    refine O.val (v := S (fmtL (l.take k))) rfl (Ru.assign rfl) rfl ?_
    refine O.nil ?_
    refine C.ret ?_
    refine P1 (v := S (fmtL (l.take k))) rfl ?_
    exact ⟨(congrArg S (by rw [take_all (by omega)])), (Mem.none hM_l3)⟩

theorem sFormatRow_fn (A : Option Addr) (c : Nat) (l : List PairT) (w : World) (hA : Rd w A ((l).flatMap encP)) (hl : l.length ≤ 1048576) :
    Does Tryd.prog 14 [.slice (A) ((l).length) (c)] w (fun v w1 => v = S (fmtR l) ∧ Mem w w1 [] []) := by
  have hM : Mem w w [] [] := Mem.refl
  refine Does.enter1 Tryd.func14 rfl Tryd.results14 Tryd.ntmps14 rfl ?_
  refine C.seq ?_
  refine C.region ?_
  refine O.val (v := S ([])) rfl (Ru.assign rfl) rfl ?_
  refine O.nil ?_
  refine C.seq ?_
  refine C.seq ?_
  refine C.region ?_
  refine O.val (v := .slice (A) ((l).length) (c)) rfl (Ru.move rfl) rfl ?_
  refine O.callg [.slice (A) ((l).length) (c)] rfl en42 rfl rfl (validRow_fn A c l w (hA.at hM) (by first | omega | assumption | (simp; omega) | simp | (intros; omega))) ?_
  rintro _ w1_1 ⟨rfl, hR1_1⟩
  have hM1_1 : Mem w w1_1 [] [] := Mem.call (Ma := []) hM hR1_1 rfl
  refine O.val (v := .bool (!(validR l))) rfl (Ru.not rfl) rfl ?_
  refine O.nil ?_
  refine C.condn (b := (validR l)) rfl (fun c5 => ?_) (fun c5 => ?_)
  · refine C.seq ?_
    refine C.region ?_
    refine O.val (v := S ([])) rfl (Ru.assign rfl) rfl ?_
    refine O.nil ?_
    refine C.ret ?_
    refine P1 (v := S ([])) rfl ?_
    exact ⟨(by rw [fmtR_no (by simpa using c5)]), (Mem.none hM1_1)⟩
  · have hv : validR l = true := by simpa using c5
    refine C.skip ?_
    refine C.seq ?_
    refine C.region ?_
    refine O.val (v := .slice (A) ((l).length) (c)) rfl (Ru.move rfl) rfl ?_
    refine O.callg [.slice (A) ((l).length) (c)] rfl en43 rfl rfl (rowText_fn A c l w1_1 (hA.at hM1_1) (by first | omega | assumption | (simp; omega) | simp | (intros; omega)) (by exact valid_small hv) (by exact validR_len hv)) ?_
    rintro _ w3_1 ⟨rfl, hR3_1⟩
    have hM3_1 : Mem w w3_1 [] [] := Mem.call (Ma := []) hM1_1 hR3_1 rfl
    refine O.val (v := S (fmtL l)) rfl (Ru.assign rfl) rfl ?_
    refine O.nil ?_
    refine C.ret ?_
    refine P1 (v := S (fmtL l)) rfl ?_
    exact ⟨(by rw [fmtR_yes hv]), (Mem.none hM3_1)⟩
end Go.Proofs.YtfdlmimgooeioaaDoor
