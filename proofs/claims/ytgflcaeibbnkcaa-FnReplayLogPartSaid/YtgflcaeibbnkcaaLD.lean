/- Own layer: part of this seat (LD). Plain theorems; no conditions. -/
import Derived.Test.YtgflcaeibbnkcaaLC
set_option linter.unusedVariables false
set_option linter.unusedSimpArgs false
namespace Go.Proofs.Ytgflcaeibbnkcaa
open Go.Px
theorem isRecord_fn (r : RecT) (w : World) :
    Does Try.prog 47 [.agg #[I ((r).kind), I ((r).key), I ((r).val)]] w (fun v w1 => v = .bool (isRecB r) ∧ Mem w w1 [] []) := by
  have hM : Mem w w [] [] := Mem.refl
  refine Does.enter1 Try.func47 rfl Try.results47 Try.ntmps47 rfl ?_
  refine C.seq ?_
  refine C.region ?_
  refine O.mbox (k := 3) (vs := [I ((r).kind), I ((r).key), I ((r).val)]) hM rfl rfl rfl rfl rfl (fun w0_0 b0_0 hb0_0 (hM0_0 : Mem w w0_0 [] [[⟨.slice (bl b0_0) 1 1, 34, 3, 1, [I ((r).kind), I ((r).key), I ((r).val)]⟩]]) => ?_)
  refine O.val (v := .bool (false)) rfl (Ru.assign rfl) rfl ?_
  refine O.nil ?_
  refine C.seq ?_
  refine C.seq ?_
  refine C.region ?_
  refine O.val (v := .pointer (ofs (bl b0_0) (0))) rfl (Ru.fieldA fl34_0 rfl rfl) rfl ?_
  refine O.val rfl (Ru.load1 el3 rfl ((hM0_0.rd 0 rfl).ld rfl)) rfl ?_
  refine O.nil ?_
  refine C.block ?_
  refine C.seq ?_
  refine C.region ?_
  refine O.val (v := .bool (decide ((r).kind = 1))) rfl (Ru.eql rfl rfl) rfl ?_
  refine O.val (v := .bool (decide ((r).kind = 1))) rfl (Ru.assign rfl) rfl ?_
  refine O.nil ?_
  refine C.cond (p := (r).kind = 1) rfl (fun c5 => ?_) (fun c5 => ?_)
  · refine C.seq ?_
    refine C.region ?_
    refine O.val (v := .pointer (ofs (bl b0_0) (1))) rfl (Ru.fieldA fl34_1 rfl rfl) rfl ?_
    refine O.val rfl (Ru.load1 el3 rfl ((hM0_0.rd 0 rfl).ld rfl)) rfl ?_
    refine O.callg [I ((r).key)] rfl en69 rfl rfl (isKey_fn ((r).key) w0_0 ) ?_
    rintro _ w3_2 ⟨rfl, hR3_2⟩
    have hM3_2 : Mem w w3_2 [] [[⟨.slice (bl b0_0) 1 1, 34, 3, 1, [I ((r).kind), I ((r).key), I ((r).val)]⟩]] := Mem.call (Ma := []) hM0_0 hR3_2 rfl
    refine O.val (v := .bool (isKeyB ((r).key))) rfl (Ru.move rfl) rfl ?_
    refine O.part 10 (isKeyB ((r).key)) rfl (fun g10 => ?_) (fun g10 => ?_)
    · refine O.val (v := .pointer (ofs (bl b0_0) (2))) rfl (Ru.fieldA fl34_2 rfl rfl) rfl ?_
      refine O.val rfl (Ru.load1 el3 rfl ((hM3_2.rd 0 rfl).ld rfl)) rfl ?_
      refine O.callg [I ((r).val)] rfl en58 rfl rfl (isValue_fn ((r).val) w3_2 ) ?_
      rintro _ w3_6 ⟨rfl, hR3_6⟩
      have hM3_6 : Mem w w3_6 [] [[⟨.slice (bl b0_0) 1 1, 34, 3, 1, [I ((r).kind), I ((r).key), I ((r).val)]⟩]] := Mem.call (Ma := []) hM3_2 hR3_6 rfl
      refine O.val (v := .bool (isValB ((r).val))) rfl (Ru.pickT rfl rfl) rfl ?_
      refine O.val (v := .bool (isValB ((r).val))) rfl (Ru.assign rfl) rfl ?_
      refine O.nil ?_
      refine C.ret ?_
      refine P1 (v := .bool (isValB ((r).val))) rfl ?_
      exact ⟨(by simp_all [isRecB]), (Mem.none hM3_6)⟩
    · refine O.pass rfl rfl rfl rfl rfl ?_
      refine O.pass rfl rfl rfl rfl rfl ?_
      refine O.pass rfl rfl rfl rfl rfl ?_
      refine O.val (v := .bool (false)) rfl (Ru.pickF rfl rfl) rfl ?_
      refine O.val (v := .bool (false)) rfl (Ru.assign rfl) rfl ?_
      refine O.nil ?_
      refine C.ret ?_
      refine P1 (v := .bool (false)) rfl ?_
      exact ⟨(by simp_all [isRecB]), (Mem.none hM3_2)⟩
  · refine C.seq ?_
    refine C.region ?_
    refine O.val (v := .bool (decide ((r).kind = 2))) rfl (Ru.eql rfl rfl) rfl ?_
    refine O.val (v := .bool (decide ((r).kind = 2))) rfl (Ru.assign rfl) rfl ?_
    refine O.nil ?_
    refine C.cond (p := (r).kind = 2) rfl (fun c15 => ?_) (fun c15 => ?_)
    · refine C.seq ?_
      refine C.region ?_
      refine O.val (v := .pointer (ofs (bl b0_0) (1))) rfl (Ru.fieldA fl34_1 rfl rfl) rfl ?_
      refine O.val rfl (Ru.load1 el3 rfl ((hM0_0.rd 0 rfl).ld rfl)) rfl ?_
      refine O.callg [I ((r).key)] rfl en69 rfl rfl (isKey_fn ((r).key) w0_0 ) ?_
      rintro _ w5_2 ⟨rfl, hR5_2⟩
      have hM5_2 : Mem w w5_2 [] [[⟨.slice (bl b0_0) 1 1, 34, 3, 1, [I ((r).kind), I ((r).key), I ((r).val)]⟩]] := Mem.call (Ma := []) hM0_0 hR5_2 rfl
      refine O.val (v := .bool (isKeyB ((r).key))) rfl (Ru.move rfl) rfl ?_
      refine O.part 20 (isKeyB ((r).key)) rfl (fun g20 => ?_) (fun g20 => ?_)
      · refine O.val (v := .pointer (ofs (bl b0_0) (2))) rfl (Ru.fieldA fl34_2 rfl rfl) rfl ?_
        refine O.val rfl (Ru.load1 el3 rfl ((hM5_2.rd 0 rfl).ld rfl)) rfl ?_
        refine O.val (v := .bool (decide ((r).val = 0))) rfl (Ru.eql rfl rfl) rfl ?_
        refine O.val (v := .bool (decide ((r).val = 0))) rfl (Ru.pickT rfl rfl) rfl ?_
        refine O.val (v := .bool (decide ((r).val = 0))) rfl (Ru.assign rfl) rfl ?_
        refine O.nil ?_
        refine C.ret ?_
        refine P1 (v := .bool (decide ((r).val = 0))) rfl ?_
        exact ⟨(by simp_all [isRecB]), (Mem.none hM5_2)⟩
      · refine O.pass rfl rfl rfl rfl rfl ?_
        refine O.pass rfl rfl rfl rfl rfl ?_
        refine O.pass rfl rfl rfl rfl rfl ?_
        refine O.val (v := .bool (false)) rfl (Ru.pickF rfl rfl) rfl ?_
        refine O.val (v := .bool (false)) rfl (Ru.assign rfl) rfl ?_
        refine O.nil ?_
        refine C.ret ?_
        refine P1 (v := .bool (false)) rfl ?_
        exact ⟨(by simp_all [isRecB]), (Mem.none hM5_2)⟩
    · refine C.seq ?_
      refine C.region ?_
      refine O.val (v := .bool (decide ((r).kind = 3))) rfl (Ru.eql rfl rfl) rfl ?_
      refine O.val (v := .bool (decide ((r).kind = 3))) rfl (Ru.assign rfl) rfl ?_
      refine O.nil ?_
      refine C.cond (p := (r).kind = 3) rfl (fun c25 => ?_) (fun c25 => ?_)
      · refine C.seq ?_
        refine C.region ?_
        refine O.val (v := .pointer (ofs (bl b0_0) (1))) rfl (Ru.fieldA fl34_1 rfl rfl) rfl ?_
        refine O.val rfl (Ru.load1 el3 rfl ((hM0_0.rd 0 rfl).ld rfl)) rfl ?_
        refine O.val (v := .bool (decide ((r).key = 0))) rfl (Ru.eql rfl rfl) rfl ?_
        refine O.val (v := .bool (decide ((r).key = 0))) rfl (Ru.move rfl) rfl ?_
        refine O.partp 30 ((r).key = 0) rfl (fun g30 => ?_) (fun g30 => ?_)
        · refine O.val (v := .pointer (ofs (bl b0_0) (2))) rfl (Ru.fieldA fl34_2 rfl rfl) rfl ?_
          refine O.val rfl (Ru.load1 el3 rfl ((hM0_0.rd 0 rfl).ld rfl)) rfl ?_
          refine O.val (v := .bool (decide ((r).val = 0))) rfl (Ru.eql rfl rfl) rfl ?_
          refine O.val (v := .bool (decide ((r).val = 0))) rfl (Ru.pickT rfl rfl) rfl ?_
          refine O.val (v := .bool (decide ((r).val = 0))) rfl (Ru.assign rfl) rfl ?_
          refine O.nil ?_
          refine C.ret ?_
          refine P1 (v := .bool (decide ((r).val = 0))) rfl ?_
          exact ⟨(by simp_all [isRecB]), (Mem.none hM0_0)⟩
        · refine O.pass rfl rfl rfl rfl rfl ?_
          refine O.pass rfl rfl rfl rfl rfl ?_
          refine O.pass rfl rfl rfl rfl rfl ?_
          refine O.val (v := .bool (false)) rfl (Ru.pickF rfl rfl) rfl ?_
          refine O.val (v := .bool (false)) rfl (Ru.assign rfl) rfl ?_
          refine O.nil ?_
          refine C.ret ?_
          refine P1 (v := .bool (false)) rfl ?_
          exact ⟨(by simp_all [isRecB]), (Mem.none hM0_0)⟩
      · refine C.skip ?_
        refine C.seq ?_
        refine C.region ?_
        refine O.val (v := .bool (false)) rfl (Ru.assign rfl) rfl ?_
        refine O.nil ?_
        refine C.ret ?_
        refine P1 (v := .bool (false)) rfl ?_
        exact ⟨(by simp_all [isRecB]), (Mem.none hM0_0)⟩

theorem ValidLog_fn (A : Option Addr) (c : Nat) (l : List RecT) (w : World) (hA : Rd w A ((l).flatMap encG)) (hl : l.length ≤ 1048576) :
    Does Try.prog 19 [.slice (A) ((l).length) (c)] w (fun v w1 => v = .bool (validL l) ∧ Mem w w1 [] []) := by
  have hM : Mem w w [] [] := Mem.refl
  refine Does.enter1 Try.func19 rfl Try.results19 Try.ntmps19 rfl ?_
  refine C.seq ?_
  refine C.region ?_
  refine O.val (v := .bool (false)) rfl (Ru.assign rfl) rfl ?_
  refine O.nil ?_
  refine C.seq ?_
  refine C.seq ?_
  refine C.region ?_
  refine O.val (v := .slice (A) ((l).length) (c)) rfl (Ru.move rfl) rfl ?_
  refine O.val (v := I ((((l).length : Nat) : Int))) rfl (Ru.blenSlice Try.underlying23 rfl) rfl ?_
  refine O.val (v := .bool (decide ((((l).length : Nat) : Int) > 24))) rfl (Ru.gtr rfl rfl) rfl ?_
  refine O.nil ?_
  refine C.cond (p := (((l).length : Nat) : Int) > 24) rfl (fun c7 => ?_) (fun c7 => ?_)
  · refine C.seq ?_
    refine C.region ?_
    refine O.val (v := .bool (false)) rfl (Ru.assign rfl) rfl ?_
    refine O.nil ?_
    refine C.ret ?_
    refine P1 (v := .bool (false)) rfl ?_
    exact ⟨(by simp [validL]; omega), (Mem.none hM)⟩
  · refine C.skip ?_
    refine C.seq ?_
    refine C.seq ?_
    refine C.region ?_
    refine O.val (v := .slice (A) ((l).length) (c)) rfl (Ru.move rfl) rfl ?_
    refine O.val (v := I ((((l).length : Nat) : Int))) rfl (Ru.blenSlice Try.underlying23 rfl) rfl ?_
    refine O.val (v := I (0)) rfl (Ru.move rfl) rfl ?_
    refine O.nil ?_
    refine C.block ?_
    refine C.loop (ι := Nat) (fun k => ([(8, .slice (A) ((l).length) (c)), (9, I ((((l).length : Nat) : Int))), (10, I (((k : Nat) : Int)))] : List (Nat × Value))) (fun k w_ => (k ≤ l.length) ∧ ((l.take k).all isRecB = true) ∧ (Mem w w_ [] [])) (fun k => l.length - k) (0) (Has.cons rfl (Has.cons rfl (Has.cons (I_congr (by first | rfl | omega | (simp; omega) | simp)) Has.nil))) ⟨(Nat.zero_le _), (by (try dsimp only); simp), (hM.pick [] (by decide) rfl)⟩ (fun k σ w_l4 hI => ?_)
    try dsimp only at hI
    obtain ⟨hi0_l4, hi1_l4, hM_l4⟩ := hI
    refine C.seq ?_
    refine C.region ?_
    refine O.val (v := .bool (decide (((k : Nat) : Int) < (((l).length : Nat) : Int)))) rfl (Ru.lss rfl rfl) rfl ?_
    refine O.nil ?_
    refine C.seq ?_
    refine C.cond (p := ((k : Nat) : Int) < (((l).length : Nat) : Int)) rfl (fun c11 => ?_) (fun c11 => ?_)
    · refine C.skip ?_
      refine C.seq ?_
      refine C.block ?_
      refine C.seq ?_
      refine C.region ?_
      have hx5_0 : k < (l).length := (by first | omega | (simp; omega))
      refine O.val (v := .pointer (ofs (A) (k * 3))) rfl (Ru.indexA (j := k) Try.underlying23 el34 rfl rfl (smf encG_len (hA.at hM_l4) hx5_0 rfl) (by omega) (by first | omega | (simp; omega))) rfl ?_
      refine O.val rfl (Ru.loadN (vs := [I (((l)[k]'hx5_0).kind), I (((l)[k]'hx5_0).key), I (((l)[k]'hx5_0).val)]) el34 rfl rfl (smf encG_len (hA.at hM_l4) hx5_0 rfl) (ldn encG_len (hA.at hM_l4) hx5_0)) rfl ?_
      refine O.malloc (k := 3) hM_l4 rfl rfl el34 rfl (fun w5_2 b5_2 hb5_2 (hM5_2 : Mem w w5_2 [] [[⟨.slice (bl b5_2) 1 1, 34, 3, 1, [I (0), I (0), I (0)]⟩]]) => ?_)
      refine O.mstore (vs := [I (((l)[k]'hx5_0).kind), I (((l)[k]'hx5_0).key), I (((l)[k]'hx5_0).val)]) (xs' := [I (((l)[k]'hx5_0).kind), I (((l)[k]'hx5_0).key), I (((l)[k]'hx5_0).val)]) 0 0 hM5_2 rfl rfl rfl el34 rfl rfl rfl rfl rfl (by simp) (by simp) rfl rfl (fun w5_3 (hM5_3 : Mem w w5_3 [] [[⟨.slice (bl b5_2) 1 1, 34, 3, 1, [I (((l)[k]'hx5_0).kind), I (((l)[k]'hx5_0).key), I (((l)[k]'hx5_0).val)]⟩]]) => ?_)
      refine O.nil ?_
      refine C.seq ?_
      refine C.region ?_
      refine O.val rfl (Ru.loadN (vs := [I (((l)[k]'hx5_0).kind), I (((l)[k]'hx5_0).key), I (((l)[k]'hx5_0).val)]) el34 rfl rfl rfl ((mem_blk (i := 0) (j := 0) hM5_3 rfl rfl).lds (k := 0) rfl)) rfl ?_
      refine O.callg [.agg #[I (((l)[k]'hx5_0).kind), I (((l)[k]'hx5_0).key), I (((l)[k]'hx5_0).val)]] rfl en47 rfl rfl (isRecord_fn ((l)[k]'hx5_0) w5_3 ) ?_
      rintro _ w6_1 ⟨rfl, hR6_1⟩
      have hM6_1 : Mem w w6_1 [] [[⟨.slice (bl b5_2) 1 1, 34, 3, 1, [I (((l)[k]'hx5_0).kind), I (((l)[k]'hx5_0).key), I (((l)[k]'hx5_0).val)]⟩]] := Mem.call (Ma := []) hM5_3 hR6_1 rfl
      refine O.val (v := .bool (!(isRecB ((l)[k]'hx5_0)))) rfl (Ru.not rfl) rfl ?_
      refine O.nil ?_
      refine C.condn (b := (isRecB ((l)[k]'hx5_0))) rfl (fun c16 => ?_) (fun c16 => ?_)
      · refine C.seq ?_
        refine C.region ?_
        refine O.val (v := .bool (false)) rfl (Ru.assign rfl) rfl ?_
        refine O.nil ?_
        refine C.ret ?_
        refine P1 (v := .bool (false)) rfl ?_
        exact ⟨(by rw [validL_no hx5_0 c16]), (Mem.none hM6_1)⟩
      · refine C.skip ?_
        refine C.region ?_
        refine O.val (v := I ((((k + 1) : Nat) : Int))) rfl (Ru.congr (v := I ((((k : Nat) : Int) + 1))) (v' := I ((((k + 1) : Nat) : Int))) (Ru.add rfl rfl (by omega)) (I_congr (by first | omega | simp))) rfl ?_
        refine O.val (v := I ((((k + 1) : Nat) : Int))) rfl (Ru.move rfl) rfl ?_
        refine O.nil ?_
        exact loopEnd (k + 1) (by (try dsimp only); omega) (Has.cons rfl (Has.cons rfl (Has.cons (I_congr (by first | rfl | omega | (simp; omega) | simp)) Has.nil))) ⟨(by (try dsimp only); omega), (all_step hi1_l4 hx5_0 c16), (hM6_1.pick [] (by decide) rfl)⟩
    · refine C.exit ?_
      refine C.seq ?_
      refine C.region ?_
      refine O.val (v := .bool (true)) rfl (Ru.assign rfl) rfl ?_
      refine O.nil ?_
      refine C.ret ?_
      refine P1 (v := .bool (true)) rfl ?_
      exact ⟨(by rw [validL, all_end hi1_l4 (by omega), decide_eq_true (by omega)]; rfl), (Mem.none hM_l4)⟩

theorem svalidLog_fn (A : Option Addr) (c : Nat) (l : List RecT) (w : World) (hA : Rd w A ((l).flatMap encG)) (hl : l.length ≤ 1048576) :
    Does Try.prog 48 [.slice (A) ((l).length) (c)] w (fun v w1 => v = .bool (validL l) ∧ Mem w w1 [] []) := by
  have hM : Mem w w [] [] := Mem.refl
  refine Does.enter1 Try.func48 rfl Try.results48 Try.ntmps48 rfl ?_
  refine C.seq ?_
  refine C.region ?_
  refine O.val (v := .bool (false)) rfl (Ru.assign rfl) rfl ?_
  refine O.nil ?_
  refine C.seq ?_
  refine C.seq ?_
  refine C.region ?_
  refine O.val (v := I (0)) rfl (Ru.assign rfl) rfl ?_
  refine O.nil ?_
  refine C.block ?_
  refine C.loop (ι := Nat) (fun k => ([(0, .slice (A) ((l).length) (c)), (3, I (((k : Nat) : Int)))] : List (Nat × Value))) (fun k w_ => (k ≤ l.length) ∧ ((l.take k).all isRecB = true) ∧ (Mem w w_ [] [])) (fun k => l.length - k) (0) (Has.cons rfl (Has.cons (I_congr (by first | rfl | omega | (simp; omega) | simp)) Has.nil)) ⟨(Nat.zero_le _), (by (try dsimp only); simp), (hM.pick [] (by decide) rfl)⟩ (fun k σ w_l2 hI => ?_)
  try dsimp only at hI
  obtain ⟨hi0_l2, hi1_l2, hM_l2⟩ := hI
  refine C.seq ?_
  refine C.seq ?_
  refine C.region ?_
  refine O.val (v := I (((k : Nat) : Int))) rfl (Ru.move rfl) rfl ?_
  refine O.val (v := .slice (A) ((l).length) (c)) rfl (Ru.move rfl) rfl ?_
  refine O.val (v := I ((((l).length : Nat) : Int))) rfl (Ru.blenSlice Try.underlying23 rfl) rfl ?_
  refine O.val (v := .bool (decide (((k : Nat) : Int) < (((l).length : Nat) : Int)))) rfl (Ru.lss rfl rfl) rfl ?_
  refine O.nil ?_
  refine C.cond (p := ((k : Nat) : Int) < (((l).length : Nat) : Int)) rfl (fun c8 => ?_) (fun c8 => ?_)
  · refine C.skip ?_
    refine C.seq ?_
    refine C.block ?_
    refine C.seq ?_
    refine C.region ?_
    refine O.val (v := .slice (A) ((l).length) (c)) rfl (Ru.move rfl) rfl ?_
    refine O.val (v := I (((k : Nat) : Int))) rfl (Ru.move rfl) rfl ?_
    have hx4_2 : k < (l).length := (by first | omega | (simp; omega))
    refine O.val (v := .pointer (ofs (A) (k * 3))) rfl (Ru.indexA (j := k) Try.underlying23 el34 rfl rfl (smf encG_len (hA.at hM_l2) hx4_2 rfl) (by omega) (by first | omega | (simp; omega))) rfl ?_
    refine O.val rfl (Ru.loadN (vs := [I (((l)[k]'hx4_2).kind), I (((l)[k]'hx4_2).key), I (((l)[k]'hx4_2).val)]) el34 rfl rfl (smf encG_len (hA.at hM_l2) hx4_2 rfl) (ldn encG_len (hA.at hM_l2) hx4_2)) rfl ?_
    refine O.malloc (k := 3) hM_l2 rfl rfl el34 rfl (fun w4_4 b4_4 hb4_4 (hM4_4 : Mem w w4_4 [] [[⟨.slice (bl b4_4) 1 1, 34, 3, 1, [I (0), I (0), I (0)]⟩]]) => ?_)
    refine O.mstore (vs := [I (((l)[k]'hx4_2).kind), I (((l)[k]'hx4_2).key), I (((l)[k]'hx4_2).val)]) (xs' := [I (((l)[k]'hx4_2).kind), I (((l)[k]'hx4_2).key), I (((l)[k]'hx4_2).val)]) 0 0 hM4_4 rfl rfl rfl el34 rfl rfl rfl rfl rfl (by simp) (by simp) rfl rfl (fun w4_5 (hM4_5 : Mem w w4_5 [] [[⟨.slice (bl b4_4) 1 1, 34, 3, 1, [I (((l)[k]'hx4_2).kind), I (((l)[k]'hx4_2).key), I (((l)[k]'hx4_2).val)]⟩]]) => ?_)
    refine O.nil ?_
    refine C.seq ?_
    refine C.region ?_
    refine O.val (v := .pointer (ofs (bl b4_4) (0))) rfl (Ru.fieldA fl34_0 rfl rfl) rfl ?_
    refine O.val rfl (Ru.load1 el3 rfl ((hM4_5.rd 0 rfl).ld rfl)) rfl ?_
    refine O.callg [I (((l)[k]'hx4_2).kind), I (1), I (3)] rfl en70 rfl rfl (inRange_fn (((l)[k]'hx4_2).kind) 1 3 w4_5 ) ?_
    rintro _ w5_2 ⟨rfl, hR5_2⟩
    have hM5_2 : Mem w w5_2 [] [[⟨.slice (bl b4_4) 1 1, 34, 3, 1, [I (((l)[k]'hx4_2).kind), I (((l)[k]'hx4_2).key), I (((l)[k]'hx4_2).val)]⟩]] := Mem.call (Ma := []) hM4_5 hR5_2 rfl
    refine O.val (v := .bool (!(decide (1 ≤ (((l)[k]'hx4_2).kind)) && decide ((((l)[k]'hx4_2).kind) ≤ 3)))) rfl (Ru.not rfl) rfl ?_
    refine O.val (v := .bool (!(decide (1 ≤ (((l)[k]'hx4_2).kind)) && decide ((((l)[k]'hx4_2).kind) ≤ 3)))) rfl (Ru.move rfl) rfl ?_
    refine O.part 19 (!(decide (1 ≤ (((l)[k]'hx4_2).kind)) && decide ((((l)[k]'hx4_2).kind) ≤ 3))) rfl (fun g19 => ?_) (fun g19 => ?_)
    · refine O.pass rfl rfl rfl rfl rfl ?_
      refine O.pass rfl rfl rfl rfl rfl ?_
      refine O.pass rfl rfl rfl rfl rfl ?_
      refine O.pass rfl rfl rfl rfl rfl ?_
      refine O.val (v := .bool (true)) rfl (Ru.pickT rfl rfl) rfl ?_
      refine O.val (v := .bool (true)) rfl (Ru.move rfl) rfl ?_
      refine O.pass rfl rfl rfl rfl rfl ?_
      refine O.pass rfl rfl rfl rfl rfl ?_
      refine O.pass rfl rfl rfl rfl rfl ?_
      refine O.pass rfl rfl rfl rfl rfl ?_
      refine O.val (v := .bool (true)) rfl (Ru.pickT rfl rfl) rfl ?_
      refine O.val (v := .bool (true)) rfl (Ru.move rfl) rfl ?_
      refine O.pass rfl rfl rfl rfl rfl ?_
      refine O.pass rfl rfl rfl rfl rfl ?_
      refine O.pass rfl rfl rfl rfl rfl ?_
      refine O.pass rfl rfl rfl rfl rfl ?_
      refine O.passU rfl rfl rfl rfl ?_
      refine O.passU rfl rfl rfl rfl ?_
      refine O.passU rfl rfl rfl rfl ?_
      refine O.pass rfl rfl rfl rfl rfl ?_
      refine O.val (v := .bool (true)) rfl (Ru.pickT rfl rfl) rfl ?_
      refine O.val (v := .bool (true)) rfl (Ru.move rfl) rfl ?_
      refine O.pass rfl rfl rfl rfl rfl ?_
      refine O.pass rfl rfl rfl rfl rfl ?_
      refine O.pass rfl rfl rfl rfl rfl ?_
      refine O.pass rfl rfl rfl rfl rfl ?_
      refine O.passU rfl rfl rfl rfl ?_
      refine O.passU rfl rfl rfl rfl ?_
      refine O.passU rfl rfl rfl rfl ?_
      refine O.pass rfl rfl rfl rfl rfl ?_
      refine O.val (v := .bool (true)) rfl (Ru.pickT rfl rfl) rfl ?_
      refine O.nil ?_
      refine C.condT rfl ?_
      refine C.seq ?_
      refine C.region ?_
      refine O.val (v := .bool (false)) rfl (Ru.assign rfl) rfl ?_
      refine O.nil ?_
      refine C.ret ?_
      refine P1 (v := .bool (false)) rfl ?_
      exact ⟨(by rw [validL_no hx4_2 (by cases hh : isRecB l[k] with | false => rfl | true => exfalso; have h9 := isRec_iff.1 hh; simp at *; omega)]), (Mem.none hM5_2)⟩
    · refine O.val (v := .pointer (ofs (bl b4_4) (1))) rfl (Ru.fieldA fl34_1 rfl rfl) rfl ?_
      refine O.val rfl (Ru.load1 el3 rfl ((hM5_2.rd 0 rfl).ld rfl)) rfl ?_
      refine O.callg [I (((l)[k]'hx4_2).key), I (0), I (99)] rfl en70 rfl rfl (inRange_fn (((l)[k]'hx4_2).key) 0 99 w5_2 ) ?_
      rintro _ w5_7 ⟨rfl, hR5_7⟩
      have hM5_7 : Mem w w5_7 [] [[⟨.slice (bl b4_4) 1 1, 34, 3, 1, [I (((l)[k]'hx4_2).kind), I (((l)[k]'hx4_2).key), I (((l)[k]'hx4_2).val)]⟩]] := Mem.call (Ma := []) hM5_2 hR5_7 rfl
      refine O.val (v := .bool (!(decide (0 ≤ (((l)[k]'hx4_2).key)) && decide ((((l)[k]'hx4_2).key) ≤ 99)))) rfl (Ru.not rfl) rfl ?_
      refine O.val (v := .bool (!(decide (0 ≤ (((l)[k]'hx4_2).key)) && decide ((((l)[k]'hx4_2).key) ≤ 99)))) rfl (Ru.pickF rfl rfl) rfl ?_
      refine O.val (v := .bool (!(decide (0 ≤ (((l)[k]'hx4_2).key)) && decide ((((l)[k]'hx4_2).key) ≤ 99)))) rfl (Ru.move rfl) rfl ?_
      refine O.part 25 (!(decide (0 ≤ (((l)[k]'hx4_2).key)) && decide ((((l)[k]'hx4_2).key) ≤ 99))) rfl (fun g25 => ?_) (fun g25 => ?_)
      · refine O.pass rfl rfl rfl rfl rfl ?_
        refine O.pass rfl rfl rfl rfl rfl ?_
        refine O.pass rfl rfl rfl rfl rfl ?_
        refine O.pass rfl rfl rfl rfl rfl ?_
        refine O.val (v := .bool (true)) rfl (Ru.pickT rfl rfl) rfl ?_
        refine O.val (v := .bool (true)) rfl (Ru.move rfl) rfl ?_
        refine O.pass rfl rfl rfl rfl rfl ?_
        refine O.pass rfl rfl rfl rfl rfl ?_
        refine O.pass rfl rfl rfl rfl rfl ?_
        refine O.pass rfl rfl rfl rfl rfl ?_
        refine O.passU rfl rfl rfl rfl ?_
        refine O.passU rfl rfl rfl rfl ?_
        refine O.passU rfl rfl rfl rfl ?_
        refine O.pass rfl rfl rfl rfl rfl ?_
        refine O.val (v := .bool (true)) rfl (Ru.pickT rfl rfl) rfl ?_
        refine O.val (v := .bool (true)) rfl (Ru.move rfl) rfl ?_
        refine O.pass rfl rfl rfl rfl rfl ?_
        refine O.pass rfl rfl rfl rfl rfl ?_
        refine O.pass rfl rfl rfl rfl rfl ?_
        refine O.pass rfl rfl rfl rfl rfl ?_
        refine O.passU rfl rfl rfl rfl ?_
        refine O.passU rfl rfl rfl rfl ?_
        refine O.passU rfl rfl rfl rfl ?_
        refine O.pass rfl rfl rfl rfl rfl ?_
        refine O.val (v := .bool (true)) rfl (Ru.pickT rfl rfl) rfl ?_
        refine O.nil ?_
        refine C.condT rfl ?_
        refine C.seq ?_
        refine C.region ?_
        refine O.val (v := .bool (false)) rfl (Ru.assign rfl) rfl ?_
        refine O.nil ?_
        refine C.ret ?_
        refine P1 (v := .bool (false)) rfl ?_
        exact ⟨(by rw [validL_no hx4_2 (by cases hh : isRecB l[k] with | false => rfl | true => exfalso; have h9 := isRec_iff.1 hh; simp at *; omega)]), (Mem.none hM5_7)⟩
      · refine O.val (v := .pointer (ofs (bl b4_4) (2))) rfl (Ru.fieldA fl34_2 rfl rfl) rfl ?_
        refine O.val rfl (Ru.load1 el3 rfl ((hM5_7.rd 0 rfl).ld rfl)) rfl ?_
        refine O.callg [I (((l)[k]'hx4_2).val), I ((-1000)), I (1000)] rfl en70 rfl rfl (inRange_fn (((l)[k]'hx4_2).val) (-1000) 1000 w5_7 ) ?_
        rintro _ w5_13 ⟨rfl, hR5_13⟩
        have hM5_13 : Mem w w5_13 [] [[⟨.slice (bl b4_4) 1 1, 34, 3, 1, [I (((l)[k]'hx4_2).kind), I (((l)[k]'hx4_2).key), I (((l)[k]'hx4_2).val)]⟩]] := Mem.call (Ma := []) hM5_7 hR5_13 rfl
        refine O.val (v := .bool (!(decide ((-1000) ≤ (((l)[k]'hx4_2).val)) && decide ((((l)[k]'hx4_2).val) ≤ 1000)))) rfl (Ru.not rfl) rfl ?_
        refine O.val (v := .bool (!(decide ((-1000) ≤ (((l)[k]'hx4_2).val)) && decide ((((l)[k]'hx4_2).val) ≤ 1000)))) rfl (Ru.pickF rfl rfl) rfl ?_
        refine O.val (v := .bool (!(decide ((-1000) ≤ (((l)[k]'hx4_2).val)) && decide ((((l)[k]'hx4_2).val) ≤ 1000)))) rfl (Ru.move rfl) rfl ?_
        refine O.part 31 (!(decide ((-1000) ≤ (((l)[k]'hx4_2).val)) && decide ((((l)[k]'hx4_2).val) ≤ 1000))) rfl (fun g31 => ?_) (fun g31 => ?_)
        · refine O.pass rfl rfl rfl rfl rfl ?_
          refine O.pass rfl rfl rfl rfl rfl ?_
          refine O.pass rfl rfl rfl rfl rfl ?_
          refine O.pass rfl rfl rfl rfl rfl ?_
          refine O.passU rfl rfl rfl rfl ?_
          refine O.passU rfl rfl rfl rfl ?_
          refine O.passU rfl rfl rfl rfl ?_
          refine O.pass rfl rfl rfl rfl rfl ?_
          refine O.val (v := .bool (true)) rfl (Ru.pickT rfl rfl) rfl ?_
          refine O.val (v := .bool (true)) rfl (Ru.move rfl) rfl ?_
          refine O.pass rfl rfl rfl rfl rfl ?_
          refine O.pass rfl rfl rfl rfl rfl ?_
          refine O.pass rfl rfl rfl rfl rfl ?_
          refine O.pass rfl rfl rfl rfl rfl ?_
          refine O.passU rfl rfl rfl rfl ?_
          refine O.passU rfl rfl rfl rfl ?_
          refine O.passU rfl rfl rfl rfl ?_
          refine O.pass rfl rfl rfl rfl rfl ?_
          refine O.val (v := .bool (true)) rfl (Ru.pickT rfl rfl) rfl ?_
          refine O.nil ?_
          refine C.condT rfl ?_
          refine C.seq ?_
          refine C.region ?_
          refine O.val (v := .bool (false)) rfl (Ru.assign rfl) rfl ?_
          refine O.nil ?_
          refine C.ret ?_
          refine P1 (v := .bool (false)) rfl ?_
          exact ⟨(by rw [validL_no hx4_2 (by cases hh : isRecB l[k] with | false => rfl | true => exfalso; have h9 := isRec_iff.1 hh; simp at *; omega)]), (Mem.none hM5_13)⟩
        · refine O.val (v := .pointer (ofs (bl b4_4) (0))) rfl (Ru.fieldA fl34_0 rfl rfl) rfl ?_
          refine O.val rfl (Ru.load1 el3 rfl ((hM5_13.rd 0 rfl).ld rfl)) rfl ?_
          refine O.val (v := .bool (decide (((l)[k]'hx4_2).kind ≠ 1))) rfl (Ru.neq rfl rfl) rfl ?_
          refine O.val (v := .bool (decide (((l)[k]'hx4_2).kind ≠ 1))) rfl (Ru.move rfl) rfl ?_
          refine O.partp 35 (((l)[k]'hx4_2).kind ≠ 1) rfl (fun g35 => ?_) (fun g35 => ?_)
          · refine O.val (v := .pointer (ofs (bl b4_4) (2))) rfl (Ru.fieldA fl34_2 rfl rfl) rfl ?_
            refine O.val rfl (Ru.load1 el3 rfl ((hM5_13.rd 0 rfl).ld rfl)) rfl ?_
            refine O.val (v := .bool (decide (((l)[k]'hx4_2).val ≠ 0))) rfl (Ru.neq rfl rfl) rfl ?_
            refine O.val (v := .bool (decide (((l)[k]'hx4_2).val ≠ 0))) rfl (Ru.pickT rfl rfl) rfl ?_
            refine O.val (v := .bool (decide (((l)[k]'hx4_2).val ≠ 0))) rfl (Ru.pickF rfl rfl) rfl ?_
            refine O.val (v := .bool (decide (((l)[k]'hx4_2).val ≠ 0))) rfl (Ru.move rfl) rfl ?_
            refine O.partp 41 (((l)[k]'hx4_2).val ≠ 0) rfl (fun g41 => ?_) (fun g41 => ?_)
            · refine O.pass rfl rfl rfl rfl rfl ?_
              refine O.pass rfl rfl rfl rfl rfl ?_
              refine O.pass rfl rfl rfl rfl rfl ?_
              refine O.pass rfl rfl rfl rfl rfl ?_
              refine O.passU rfl rfl rfl rfl ?_
              refine O.passU rfl rfl rfl rfl ?_
              refine O.passU rfl rfl rfl rfl ?_
              refine O.pass rfl rfl rfl rfl rfl ?_
              refine O.val (v := .bool (true)) rfl (Ru.pickT rfl rfl) rfl ?_
              refine O.nil ?_
              refine C.condT rfl ?_
              refine C.seq ?_
              refine C.region ?_
              refine O.val (v := .bool (false)) rfl (Ru.assign rfl) rfl ?_
              refine O.nil ?_
              refine C.ret ?_
              refine P1 (v := .bool (false)) rfl ?_
              exact ⟨(by rw [validL_no hx4_2 (by cases hh : isRecB l[k] with | false => rfl | true => exfalso; have h9 := isRec_iff.1 hh; simp at *; omega)]), (Mem.none hM5_13)⟩
            · refine O.val (v := .pointer (ofs (bl b4_4) (0))) rfl (Ru.fieldA fl34_0 rfl rfl) rfl ?_
              refine O.val rfl (Ru.load1 el3 rfl ((hM5_13.rd 0 rfl).ld rfl)) rfl ?_
              refine O.val (v := .bool (decide (((l)[k]'hx4_2).kind = 3))) rfl (Ru.eql rfl rfl) rfl ?_
              refine O.val (v := .bool (decide (((l)[k]'hx4_2).kind = 3))) rfl (Ru.move rfl) rfl ?_
              refine O.partp 45 (((l)[k]'hx4_2).kind = 3) rfl (fun g45 => ?_) (fun g45 => ?_)
              · refine O.val (v := .pointer (ofs (bl b4_4) (1))) rfl (Ru.fieldA fl34_1 rfl rfl) rfl ?_
                refine O.val rfl (Ru.load1 el3 rfl ((hM5_13.rd 0 rfl).ld rfl)) rfl ?_
                refine O.val (v := .bool (decide (((l)[k]'hx4_2).key ≠ 0))) rfl (Ru.neq rfl rfl) rfl ?_
                refine O.val (v := .bool (decide (((l)[k]'hx4_2).key ≠ 0))) rfl (Ru.pickT rfl rfl) rfl ?_
                refine O.val (v := .bool (decide (((l)[k]'hx4_2).key ≠ 0))) rfl (Ru.pickF rfl rfl) rfl ?_
                refine O.nil ?_
                refine C.cond (p := ((l)[k]'hx4_2).key ≠ 0) rfl (fun c50 => ?_) (fun c50 => ?_)
                · refine C.seq ?_
                  refine C.region ?_
                  refine O.val (v := .bool (false)) rfl (Ru.assign rfl) rfl ?_
                  refine O.nil ?_
                  refine C.ret ?_
                  refine P1 (v := .bool (false)) rfl ?_
                  exact ⟨(by rw [validL_no hx4_2 (by cases hh : isRecB l[k] with | false => rfl | true => exfalso; have h9 := isRec_iff.1 hh; simp at *; omega)]), (Mem.none hM5_13)⟩
                · refine C.skip ?_
                  refine C.region ?_
                  refine O.val (v := I (((k : Nat) : Int))) rfl (Ru.move rfl) rfl ?_
                  refine O.val (v := I ((((k + 1) : Nat) : Int))) rfl (Ru.congr (v := I ((((k : Nat) : Int) + 1))) (v' := I ((((k + 1) : Nat) : Int))) (Ru.add rfl rfl (by omega)) (I_congr (by first | omega | simp))) rfl ?_
                  refine O.val (v := I ((((k + 1) : Nat) : Int))) rfl (Ru.assign rfl) rfl ?_
                  refine O.nil ?_
                  exact loopEnd (k + 1) (by (try dsimp only); omega) (Has.cons rfl (Has.cons (I_congr (by first | rfl | omega | (simp; omega) | simp)) Has.nil)) ⟨(by (try dsimp only); omega), (all_step hi1_l2 hx4_2 (isRec_iff.2 (by simp at *; omega))), (hM5_13.pick [] (by decide) rfl)⟩
              · refine O.pass rfl rfl rfl rfl rfl ?_
                refine O.pass rfl rfl rfl rfl rfl ?_
                refine O.pass rfl rfl rfl rfl rfl ?_
                refine O.val (v := .bool (false)) rfl (Ru.pickF rfl rfl) rfl ?_
                refine O.val (v := .bool (false)) rfl (Ru.pickF rfl rfl) rfl ?_
                refine O.nil ?_
                refine C.condF rfl ?_
                refine C.skip ?_
                refine C.region ?_
                refine O.val (v := I (((k : Nat) : Int))) rfl (Ru.move rfl) rfl ?_
                refine O.val (v := I ((((k + 1) : Nat) : Int))) rfl (Ru.congr (v := I ((((k : Nat) : Int) + 1))) (v' := I ((((k + 1) : Nat) : Int))) (Ru.add rfl rfl (by omega)) (I_congr (by first | omega | simp))) rfl ?_
                refine O.val (v := I ((((k + 1) : Nat) : Int))) rfl (Ru.assign rfl) rfl ?_
                refine O.nil ?_
                exact loopEnd (k + 1) (by (try dsimp only); omega) (Has.cons rfl (Has.cons (I_congr (by first | rfl | omega | (simp; omega) | simp)) Has.nil)) ⟨(by (try dsimp only); omega), (all_step hi1_l2 hx4_2 (isRec_iff.2 (by simp at *; omega))), (hM5_13.pick [] (by decide) rfl)⟩
          · refine O.pass rfl rfl rfl rfl rfl ?_
            refine O.pass rfl rfl rfl rfl rfl ?_
            refine O.pass rfl rfl rfl rfl rfl ?_
            refine O.val (v := .bool (false)) rfl (Ru.pickF rfl rfl) rfl ?_
            refine O.val (v := .bool (false)) rfl (Ru.pickF rfl rfl) rfl ?_
            refine O.val (v := .bool (false)) rfl (Ru.move rfl) rfl ?_
            refine O.val (v := .pointer (ofs (bl b4_4) (0))) rfl (Ru.fieldA fl34_0 rfl rfl) rfl ?_
            refine O.val rfl (Ru.load1 el3 rfl ((hM5_13.rd 0 rfl).ld rfl)) rfl ?_
            refine O.val (v := .bool (decide (((l)[k]'hx4_2).kind = 3))) rfl (Ru.eql rfl rfl) rfl ?_
            refine O.val (v := .bool (decide (((l)[k]'hx4_2).kind = 3))) rfl (Ru.move rfl) rfl ?_
            refine O.partp 45 (((l)[k]'hx4_2).kind = 3) rfl (fun g45 => ?_) (fun g45 => ?_)
            · refine O.val (v := .pointer (ofs (bl b4_4) (1))) rfl (Ru.fieldA fl34_1 rfl rfl) rfl ?_
              refine O.val rfl (Ru.load1 el3 rfl ((hM5_13.rd 0 rfl).ld rfl)) rfl ?_
              refine O.val (v := .bool (decide (((l)[k]'hx4_2).key ≠ 0))) rfl (Ru.neq rfl rfl) rfl ?_
              refine O.val (v := .bool (decide (((l)[k]'hx4_2).key ≠ 0))) rfl (Ru.pickT rfl rfl) rfl ?_
              refine O.val (v := .bool (decide (((l)[k]'hx4_2).key ≠ 0))) rfl (Ru.pickF rfl rfl) rfl ?_
              refine O.nil ?_
              refine C.cond (p := ((l)[k]'hx4_2).key ≠ 0) rfl (fun c50 => ?_) (fun c50 => ?_)
              · refine C.seq ?_
                refine C.region ?_
                refine O.val (v := .bool (false)) rfl (Ru.assign rfl) rfl ?_
                refine O.nil ?_
                refine C.ret ?_
                refine P1 (v := .bool (false)) rfl ?_
                exact ⟨(by rw [validL_no hx4_2 (by cases hh : isRecB l[k] with | false => rfl | true => exfalso; have h9 := isRec_iff.1 hh; simp at *; omega)]), (Mem.none hM5_13)⟩
              · refine C.skip ?_
                refine C.region ?_
                refine O.val (v := I (((k : Nat) : Int))) rfl (Ru.move rfl) rfl ?_
                refine O.val (v := I ((((k + 1) : Nat) : Int))) rfl (Ru.congr (v := I ((((k : Nat) : Int) + 1))) (v' := I ((((k + 1) : Nat) : Int))) (Ru.add rfl rfl (by omega)) (I_congr (by first | omega | simp))) rfl ?_
                refine O.val (v := I ((((k + 1) : Nat) : Int))) rfl (Ru.assign rfl) rfl ?_
                refine O.nil ?_
                exact loopEnd (k + 1) (by (try dsimp only); omega) (Has.cons rfl (Has.cons (I_congr (by first | rfl | omega | (simp; omega) | simp)) Has.nil)) ⟨(by (try dsimp only); omega), (all_step hi1_l2 hx4_2 (isRec_iff.2 (by simp at *; omega))), (hM5_13.pick [] (by decide) rfl)⟩
            · refine O.pass rfl rfl rfl rfl rfl ?_
              refine O.pass rfl rfl rfl rfl rfl ?_
              refine O.pass rfl rfl rfl rfl rfl ?_
              refine O.val (v := .bool (false)) rfl (Ru.pickF rfl rfl) rfl ?_
              refine O.val (v := .bool (false)) rfl (Ru.pickF rfl rfl) rfl ?_
              refine O.nil ?_
              refine C.condF rfl ?_
              refine C.skip ?_
              refine C.region ?_
              refine O.val (v := I (((k : Nat) : Int))) rfl (Ru.move rfl) rfl ?_
              refine O.val (v := I ((((k + 1) : Nat) : Int))) rfl (Ru.congr (v := I ((((k : Nat) : Int) + 1))) (v' := I ((((k + 1) : Nat) : Int))) (Ru.add rfl rfl (by omega)) (I_congr (by first | omega | simp))) rfl ?_
              refine O.val (v := I ((((k + 1) : Nat) : Int))) rfl (Ru.assign rfl) rfl ?_
              refine O.nil ?_
              exact loopEnd (k + 1) (by (try dsimp only); omega) (Has.cons rfl (Has.cons (I_congr (by first | rfl | omega | (simp; omega) | simp)) Has.nil)) ⟨(by (try dsimp only); omega), (all_step hi1_l2 hx4_2 (isRec_iff.2 (by simp at *; omega))), (hM5_13.pick [] (by decide) rfl)⟩
  · refine C.exit ?_
    refine C.seq ?_
    refine C.region ?_
    refine O.val (v := .slice (A) ((l).length) (c)) rfl (Ru.move rfl) rfl ?_
    refine O.val (v := I ((((l).length : Nat) : Int))) rfl (Ru.blenSlice Try.underlying23 rfl) rfl ?_
    refine O.val (v := .bool (decide ((((l).length : Nat) : Int) ≤ 24))) rfl (Ru.leq rfl rfl) rfl ?_
    refine O.val (v := .bool (decide ((((l).length : Nat) : Int) ≤ 24))) rfl (Ru.assign rfl) rfl ?_
    refine O.nil ?_
    refine C.ret ?_
    refine P1 (v := .bool (decide ((((l).length : Nat) : Int) ≤ 24))) rfl ?_
    exact ⟨(by first | (rw [validL, all_end hi1_l2 (by omega), Bool.and_true]; congr 1; exact decide_eq_decide.2 (by omega))), (Mem.none hM_l2)⟩

theorem markedPart_fn (A : Option Addr) (c : Nat) (l : List RecT) (w : World) (hA : Rd w A ((l).flatMap encG)) (hl : l.length ≤ 1048576) (hc : l.length ≤ c) :
    Does Try.prog 51 [.slice (A) ((l).length) (c)] w (fun v w1 => ∃ (A2 : Option Addr) (c2 : Nat), v = .slice (A2) ((markP l).length) (c2) ∧ (∀ w2, Rd w2 A (l.flatMap encG) → Rd w2 A2 ((markP l).flatMap encG)) ∧ ((markP l).length ≤ c2) ∧ Mem w w1 [] []) := by
  have hM : Mem w w [] [] := Mem.refl
  refine Does.enter1 Try.func51 rfl Try.results51 Try.ntmps51 rfl ?_
  refine C.seq ?_
  refine C.region ?_
  refine O.val (v := .slice (none) (0) (0)) rfl (Ru.assign rfl) rfl ?_
  refine O.nil ?_
  refine C.seq ?_
  refine C.seq ?_
  refine C.region ?_
  refine O.val (v := .slice (A) ((l).length) (c)) rfl (Ru.move rfl) rfl ?_
  refine O.val (v := I ((((l).length : Nat) : Int))) rfl (Ru.blenSlice Try.underlying23 rfl) rfl ?_
  refine O.val (v := I (((((l).length : Nat) : Int) - 1))) rfl (Ru.sub rfl rfl (by omega)) rfl ?_
  refine O.val (v := I (((((l).length : Nat) : Int) - 1))) rfl (Ru.assign rfl) rfl ?_
  refine O.nil ?_
  refine C.block ?_
  refine C.loop (ι := Nat) (fun n => ([(0, .slice (A) ((l).length) (c)), (3, I (((n : Int) - 1)))] : List (Nat × Value))) (fun n w_ => (n ≤ l.length) ∧ (∀ r ∈ l.drop n, r.kind ≠ 3) ∧ (Mem w w_ [] [])) (fun n => n) (l.length) (Has.cons rfl (Has.cons (I_congr (by first | rfl | omega | (simp; omega))) Has.nil)) ⟨(Nat.le_refl _), (by (try dsimp only); simp), (hM.pick [] (by decide) rfl)⟩ (fun n σ w_l2 hI => ?_)
  try dsimp only at hI
  obtain ⟨hi0_l2, hi1_l2, hM_l2⟩ := hI
  refine C.seq ?_
  refine C.seq ?_
  refine C.region ?_
  refine O.val (v := I (((n : Int) - 1))) rfl (Ru.move rfl) rfl ?_
  refine O.val (v := .bool (decide (((n : Int) - 1) ≥ 0))) rfl (Ru.geq rfl rfl) rfl ?_
  refine O.nil ?_
  refine C.cond (p := ((n : Int) - 1) ≥ 0) rfl (fun c8 => ?_) (fun c8 => ?_)
  · refine C.skip ?_
    refine C.seq ?_
    refine C.block ?_
    refine C.seq ?_
    refine C.region ?_
    refine O.val (v := .slice (A) ((l).length) (c)) rfl (Ru.move rfl) rfl ?_
    refine O.val (v := I (((n : Int) - 1))) rfl (Ru.move rfl) rfl ?_
    have hx4_2 : (n - 1) < (l).length := (by first | omega | (simp; omega))
    refine O.val (v := .pointer (ofs (A) ((n - 1) * 3))) rfl (Ru.indexA (j := (n - 1)) Try.underlying23 el34 rfl rfl (smf encG_len (hA.at hM_l2) hx4_2 rfl) (by omega) (by first | omega | (simp; omega))) rfl ?_
    refine O.val (v := .pointer (ofs (A) ((n - 1) * 3 + 0))) rfl (Ru.fieldA fl34_0 rfl (smf encG_len (hA.at hM_l2) hx4_2 rfl)) rfl ?_
    refine O.val rfl (Ru.load1 el3 rfl (ldf encG_len (hA.at hM_l2) hx4_2 rfl)) rfl ?_
    refine O.val (v := .bool (decide (((l)[(n - 1)]'hx4_2).kind = 3))) rfl (Ru.eql rfl rfl) rfl ?_
    refine O.nil ?_
    refine C.cond (p := ((l)[(n - 1)]'hx4_2).kind = 3) rfl (fun c16 => ?_) (fun c16 => ?_)
    · refine C.seq ?_
      refine C.region ?_
      refine O.val (v := .slice (A) ((l).length) (c)) rfl (Ru.move rfl) rfl ?_
      refine O.val (v := I (((n : Int) - 1))) rfl (Ru.move rfl) rfl ?_
      refine O.val (v := .slice (A) (((l).take (n - 1)).length) (c)) rfl (Ru.congr (v := .slice (A) (n - 1) (c)) (v' := .slice (A) (((l).take (n - 1)).length) (c)) (Ru.lsliceTo (h := n - 1) Try.underlying23 el34 rfl rfl (by omega) (by omega)) (sl_congr (by first | rfl | (simp; done) | omega | (simp; omega)))) rfl ?_
      refine O.val (v := .slice (A) (((l).take (n - 1)).length) (c)) rfl (Ru.assign rfl) rfl ?_
      refine O.nil ?_
      refine C.ret ?_
      refine P1 (v := .slice (A) (((l).take (n - 1)).length) (c)) rfl ?_
      have hm := lastMk_at hx4_2 c16 (by rw [show n - 1 + 1 = n by omega]; exact hi1_l2)
      have hmp := markP_at hm
      exact ⟨A, c, (sl_congr (by rw [hmp])), (fun w2 h2 => by rw [hmp]; exact rd_takeN encG_len h2), (by rw [hmp]; simp; omega), (Mem.none hM_l2)⟩
    · refine C.skip ?_
      refine C.region ?_
      refine O.val (v := I (((n : Int) - 1))) rfl (Ru.move rfl) rfl ?_
      refine O.val (v := I ((((n : Int) - 1) - 1))) rfl (Ru.sub rfl rfl (by omega)) rfl ?_
      refine O.val (v := I ((((n : Int) - 1) - 1))) rfl (Ru.assign rfl) rfl ?_
      refine O.nil ?_
      exact loopEnd (n - 1) (by (try dsimp only); omega) (Has.cons rfl (Has.cons (I_congr (by omega)) Has.nil)) ⟨(by (try dsimp only); omega), (by (try dsimp only); have hd := List.drop_eq_getElem_cons (l := l) (i := n - 1) hx4_2; rw [show n - 1 + 1 = n by omega] at hd; rw [hd]; intro r hr; rcases List.mem_cons.1 hr with rfl | hr; exact c16; exact hi1_l2 r hr), (hM_l2.pick [] (by decide) rfl)⟩
  · refine C.exit ?_
    refine C.seq ?_
    refine C.region ?_
    refine O.val (v := .slice (none) (0) (0)) rfl (Ru.assign rfl) rfl ?_
    refine O.nil ?_
    refine C.ret ?_
    refine P1 (v := .slice (none) (0) (0)) rfl ?_
    have hm : lastMk l = 0 := lastMk_none (by have h0 : n = 0 := (by omega); subst h0; simpa using hi1_l2)
    have hmp := markP_none hm
    exact ⟨none, 0, (by rw [hmp]; rfl), (fun w2 h2 => by rw [hmp]; exact Rd.nil), (by rw [hmp]; simp), (Mem.none hM_l2)⟩

theorem slastMark_fn (A : Option Addr) (c : Nat) (l : List RecT) (w : World) (hA : Rd w A ((l).flatMap encG)) (hl : l.length ≤ 1048576) :
    Does Try.prog 52 [.slice (A) ((l).length) (c)] w (fun v w1 => v = I ((lastMk l : Int)) ∧ Mem w w1 [] []) := by
  have hM : Mem w w [] [] := Mem.refl
  refine Does.enter1 Try.func52 rfl Try.results52 Try.ntmps52 rfl ?_
  refine C.seq ?_
  refine C.region ?_
  refine O.val (v := I (0)) rfl (Ru.assign rfl) rfl ?_
  refine O.nil ?_
  refine C.seq ?_
  refine C.region ?_
  refine O.val (v := I (0)) rfl (Ru.assign rfl) rfl ?_
  refine O.nil ?_
  refine C.seq ?_
  refine C.seq ?_
  refine C.region ?_
  refine O.val (v := I (0)) rfl (Ru.assign rfl) rfl ?_
  refine O.nil ?_
  refine C.block ?_
  refine C.loop (ι := Nat) (fun i => ([(0, .slice (A) ((l).length) (c)), (3, I (((lastMk (l.take i) : Nat) : Int))), (4, I (((i : Nat) : Int)))] : List (Nat × Value))) (fun i w_ => (i ≤ l.length) ∧ (Mem w w_ [] [])) (fun i => l.length - i) (0) (Has.cons rfl (Has.cons (I_congr (by simp [lastMk])) (Has.cons (I_congr (by first | rfl | omega | (simp; omega) | simp)) Has.nil))) ⟨(Nat.zero_le _), (hM.pick [] (by decide) rfl)⟩ (fun i σ w_l3 hI => ?_)
  try dsimp only at hI
  obtain ⟨hi0_l3, hM_l3⟩ := hI
  refine C.seq ?_
  refine C.seq ?_
  refine C.region ?_
  refine O.val (v := I (((i : Nat) : Int))) rfl (Ru.move rfl) rfl ?_
  refine O.val (v := .slice (A) ((l).length) (c)) rfl (Ru.move rfl) rfl ?_
  refine O.val (v := I ((((l).length : Nat) : Int))) rfl (Ru.blenSlice Try.underlying23 rfl) rfl ?_
  refine O.val (v := .bool (decide (((i : Nat) : Int) < (((l).length : Nat) : Int)))) rfl (Ru.lss rfl rfl) rfl ?_
  refine O.nil ?_
  refine C.cond (p := ((i : Nat) : Int) < (((l).length : Nat) : Int)) rfl (fun c8 => ?_) (fun c8 => ?_)
  · refine C.skip ?_
    refine C.seq ?_
    refine C.block ?_
    refine C.seq ?_
    refine C.region ?_
    refine O.val (v := .slice (A) ((l).length) (c)) rfl (Ru.move rfl) rfl ?_
    refine O.val (v := I (((i : Nat) : Int))) rfl (Ru.move rfl) rfl ?_
    have hx5_2 : i < (l).length := (by first | omega | (simp; omega))
    refine O.val (v := .pointer (ofs (A) (i * 3))) rfl (Ru.indexA (j := i) Try.underlying23 el34 rfl rfl (smf encG_len (hA.at hM_l3) hx5_2 rfl) (by omega) (by first | omega | (simp; omega))) rfl ?_
    refine O.val (v := .pointer (ofs (A) (i * 3 + 0))) rfl (Ru.fieldA fl34_0 rfl (smf encG_len (hA.at hM_l3) hx5_2 rfl)) rfl ?_
    refine O.val rfl (Ru.load1 el3 rfl (ldf encG_len (hA.at hM_l3) hx5_2 rfl)) rfl ?_
    refine O.val (v := .bool (decide (((l)[i]'hx5_2).kind = 3))) rfl (Ru.eql rfl rfl) rfl ?_
    refine O.nil ?_
    refine C.cond (p := ((l)[i]'hx5_2).kind = 3) rfl (fun c16 => ?_) (fun c16 => ?_)
    · refine C.region ?_
      refine O.val (v := I (((i : Nat) : Int))) rfl (Ru.move rfl) rfl ?_
      refine O.val (v := I ((((i + 1) : Nat) : Int))) rfl (Ru.congr (v := I ((((i : Nat) : Int) + 1))) (v' := I ((((i + 1) : Nat) : Int))) (Ru.add rfl rfl (by omega)) (I_congr (by first | omega | simp))) rfl ?_
      refine O.val (v := I ((((i + 1) : Nat) : Int))) rfl (Ru.assign rfl) rfl ?_
      refine O.nil ?_
      refine C.region ?_
      refine O.val (v := I (((i : Nat) : Int))) rfl (Ru.move rfl) rfl ?_
      refine O.val (v := I ((((i + 1) : Nat) : Int))) rfl (Ru.congr (v := I ((((i : Nat) : Int) + 1))) (v' := I ((((i + 1) : Nat) : Int))) (Ru.add rfl rfl (by omega)) (I_congr (by first | omega | simp))) rfl ?_
      refine O.val (v := I ((((i + 1) : Nat) : Int))) rfl (Ru.assign rfl) rfl ?_
      refine O.nil ?_
      exact loopEnd (i + 1) (by (try dsimp only); omega) (Has.cons rfl (Has.cons (I_congr (by rw [lastMk_take hx5_2]; first | rw [if_pos c16] | rw [if_neg c16])) (Has.cons (I_congr (by first | rfl | omega | (simp; omega) | simp)) Has.nil))) ⟨(by (try dsimp only); omega), (hM_l3.pick [] (by decide) rfl)⟩
    · refine C.skip ?_
      refine C.region ?_
      refine O.val (v := I (((i : Nat) : Int))) rfl (Ru.move rfl) rfl ?_
      refine O.val (v := I ((((i + 1) : Nat) : Int))) rfl (Ru.congr (v := I ((((i : Nat) : Int) + 1))) (v' := I ((((i + 1) : Nat) : Int))) (Ru.add rfl rfl (by omega)) (I_congr (by first | omega | simp))) rfl ?_
      refine O.val (v := I ((((i + 1) : Nat) : Int))) rfl (Ru.assign rfl) rfl ?_
      refine O.nil ?_
      exact loopEnd (i + 1) (by (try dsimp only); omega) (Has.cons rfl (Has.cons (I_congr (by rw [lastMk_take hx5_2]; first | rw [if_pos c16] | rw [if_neg c16])) (Has.cons (I_congr (by first | rfl | omega | (simp; omega) | simp)) Has.nil))) ⟨(by (try dsimp only); omega), (hM_l3.pick [] (by decide) rfl)⟩
  · refine C.exit ?_
    refine C.seq ?_
    refine C.region ?_
    refine O.val (v := I (((lastMk (l.take i) : Nat) : Int))) rfl (Ru.move rfl) rfl ?_
    refine O.val (v := I (((lastMk (l.take i) : Nat) : Int))) rfl (Ru.assign rfl) rfl ?_
    refine O.nil ?_
    refine C.ret ?_
    refine P1 (v := I (((lastMk (l.take i) : Nat) : Int))) rfl ?_
    exact ⟨(I_congr (by rw [take_all (by omega)])), (Mem.none hM_l3)⟩

theorem ShortLog_fn (A : Option Addr) (c : Nat) (l : List RecT) (w : World) (hA : Rd w A ((l).flatMap encG)) (hl : l.length ≤ 1048576) (hc : l.length ≤ c) :
    Does Try.prog 25 [.slice (A) ((l).length) (c)] w (fun v w1 => ∃ (A1 : Option Addr) (c1 : Nat), v = .slice (A1) ((shF l).length) (c1) ∧ Mem w w1 [] [[⟨.slice (A1) ((shF l).length) (c1), 34, 3, ((shF l).length), (shF l).flatMap encG⟩]]) := by
  have hM : Mem w w [] [] := Mem.refl
  refine Does.enter1 Try.func25 rfl Try.results25 Try.ntmps25 rfl ?_
  refine C.seq ?_
  refine C.region ?_
  refine O.val (v := .slice (none) (0) (0)) rfl (Ru.assign rfl) rfl ?_
  refine O.nil ?_
  refine C.seq ?_
  refine C.seq ?_
  refine C.region ?_
  refine O.val (v := .slice (A) ((l).length) (c)) rfl (Ru.move rfl) rfl ?_
  refine O.callg [.slice (A) ((l).length) (c)] rfl en19 rfl rfl (ValidLog_fn A c l w (hA.at hM) (by first | omega | assumption | (simp; omega) | simp | (intros; omega))) ?_
  rintro _ w1_1 ⟨rfl, hR1_1⟩
  have hM1_1 : Mem w w1_1 [] [] := Mem.call (Ma := []) hM hR1_1 rfl
  refine O.val (v := .bool (!(validL l))) rfl (Ru.not rfl) rfl ?_
  refine O.nil ?_
  refine C.condn (b := (validL l)) rfl (fun c12 => ?_) (fun c12 => ?_)
  · refine C.seq ?_
    refine C.region ?_
    refine O.val (v := .slice (none) (0) (0)) rfl (Ru.assign rfl) rfl ?_
    refine O.nil ?_
    refine C.ret ?_
    refine P1 (v := .slice (none) (0) (0)) rfl ?_
    have hn := shF_no (log := l) (by simpa using c12)
    have hMn1 : Mem w w1_1 [] [[⟨.slice (none) (0) (0), 34, 3, 0, ([]).flatMap encG⟩]] := Mem.addNil hM1_1
    have hq2 : ([] : List RecT) = shF l := hn.symm
    have hMn2 : Mem w w1_1 [] [[⟨.slice (none) ((shF l).length) (0), 34, 3, ((shF l).length), (shF l).flatMap encG⟩]] := hMn1.relen 0 (n' := (shF l).length) (xs' := (shF l).flatMap encG) rfl (by first | rfl | exact congrArg List.length hq2 | (have hqq := congrArg List.length hq2; first | omega | (simp at hqq ⊢; omega)) | (simp; done) | (simp; omega)) (congrArg (fun z_ => (z_).flatMap encG) hq2) rfl
    exact ⟨none, 0, (by rw [hn]; rfl), (hMn2.pick [0] (by decide) rfl)⟩
  · have hv : validL l = true := by simpa using c12
    have hml := markP_len l
    refine C.skip ?_
    refine C.seq ?_
    refine C.region ?_
    refine O.val (v := .slice (A) ((l).length) (c)) rfl (Ru.move rfl) rfl ?_
    refine O.callg [.slice (A) ((l).length) (c)] rfl en51 rfl rfl (markedPart_fn A c l w1_1 (hA.at hM1_1) (by first | omega | assumption | (simp; omega) | simp | (intros; omega)) (by first | omega | assumption | (simp; omega) | simp | (intros; omega))) ?_
    rintro _ w3_1 ⟨A23_1, c23_1, rfl, hr3_1, hcc3_1, hR3_1⟩
    have hM3_1 : Mem w w3_1 [] [] := Mem.call (Ma := []) hM1_1 hR3_1 rfl
    refine O.val (v := .slice (A23_1) ((markP l).length) (c23_1)) rfl (Ru.assign rfl) rfl ?_
    refine O.nil ?_
    refine C.seq ?_
    refine C.region ?_
    refine O.marr (m := 100) (sz := 1) (xs := (List.replicate 100 (0 : Int)).map I) hM3_1 rfl rfl el63 (by kernel_rfl) (by simp) (by decide) (fun w4_0 b4_0 hb4_0 (hM4_0 : Mem w w4_0 [] [[⟨.slice (bl b4_0) (100) (100), 63, 1, 100, (List.replicate 100 (0 : Int)).map I⟩]]) => ?_)
    have hMn3 : Mem w w4_0 [] [[⟨.slice (bl b4_0) (100) (100), 63, 1, 100, (lastTab ((markP l).take 0)).map I⟩]] := Mem.cast hM4_0 (by rw [show List.replicate 100 (0 : Int) = lastTab ((markP l).take 0) from (by rw [lastTab_nil]; simp)])
    refine O.nil ?_
    refine C.seq ?_
    refine C.seq ?_
    refine C.region ?_
    refine O.val (v := .slice (A23_1) ((markP l).length) (c23_1)) rfl (Ru.move rfl) rfl ?_
    refine O.val (v := I ((((markP l).length : Nat) : Int))) rfl (Ru.blenSlice Try.underlying23 rfl) rfl ?_
    refine O.val (v := I (0)) rfl (Ru.move rfl) rfl ?_
    refine O.nil ?_
    refine C.block ?_
    refine C.loop (ι := Nat) (fun i => ([(3, .slice (A23_1) ((markP l).length) (c23_1)), (4, .pointer (ofs (bl b4_0) (0))), (15, .slice (A23_1) ((markP l).length) (c23_1)), (16, I ((((markP l).length : Nat) : Int))), (17, I (((i : Nat) : Int)))] : List (Nat × Value))) (fun i w_ => (i ≤ (markP l).length) ∧ (Mem w w_ [] [[⟨.slice (bl b4_0) (100) (100), 63, 1, 100, (lastTab ((markP l).take i)).map I⟩]])) (fun i => (markP l).length - i) (0) (Has.cons rfl (Has.cons rfl (Has.cons rfl (Has.cons rfl (Has.cons (I_congr (by first | rfl | omega | (simp; omega) | simp)) Has.nil))))) ⟨(Nat.zero_le _), (hMn3.pick [0] (by decide) rfl)⟩ (fun i σ w_l6 hI => ?_)
    try dsimp only at hI
    obtain ⟨hi0_l6, hM_l6⟩ := hI
    refine C.seq ?_
    refine C.region ?_
    refine O.val (v := .bool (decide (((i : Nat) : Int) < (((markP l).length : Nat) : Int)))) rfl (Ru.lss rfl rfl) rfl ?_
    refine O.nil ?_
    refine C.seq ?_
    refine C.cond (p := ((i : Nat) : Int) < (((markP l).length : Nat) : Int)) rfl (fun c18 => ?_) (fun c18 => ?_)
    · refine C.skip ?_
      refine C.seq ?_
      refine C.block ?_
      refine C.seq ?_
      refine C.region ?_
      refine O.val (v := I (((i : Nat) : Int))) rfl (Ru.move rfl) rfl ?_
      have hx7_1 : i < (markP l).length := (by first | omega | (simp; omega))
      refine O.val (v := .pointer (ofs (A23_1) (i * 3))) rfl (Ru.indexA (j := i) Try.underlying23 el34 rfl rfl (smf encG_len (hr3_1 _ (hA.at hM_l6)) hx7_1 rfl) (by omega) (by first | omega | (simp; omega))) rfl ?_
      refine O.val rfl (Ru.loadN (vs := [I (((markP l)[i]'hx7_1).kind), I (((markP l)[i]'hx7_1).key), I (((markP l)[i]'hx7_1).val)]) el34 rfl rfl (smf encG_len (hr3_1 _ (hA.at hM_l6)) hx7_1 rfl) (ldn encG_len (hr3_1 _ (hA.at hM_l6)) hx7_1)) rfl ?_
      refine O.malloc (k := 3) hM_l6 rfl rfl el34 rfl (fun w7_3 b7_3 hb7_3 (hM7_3 : Mem w w7_3 [] [[⟨.slice (bl b7_3) 1 1, 34, 3, 1, [I (0), I (0), I (0)]⟩], [⟨.slice (bl b4_0) (100) (100), 63, 1, 100, (lastTab ((markP l).take i)).map I⟩]]) => ?_)
      refine O.val (v := I (((i : Nat) : Int))) rfl (Ru.assign rfl) rfl ?_
      refine O.mstore (vs := [I (((markP l)[i]'hx7_1).kind), I (((markP l)[i]'hx7_1).key), I (((markP l)[i]'hx7_1).val)]) (xs' := [I (((markP l)[i]'hx7_1).kind), I (((markP l)[i]'hx7_1).key), I (((markP l)[i]'hx7_1).val)]) 0 0 hM7_3 rfl rfl rfl el34 rfl rfl rfl rfl rfl (by simp) (by simp) rfl rfl (fun w7_5 (hM7_5 : Mem w w7_5 [] [[⟨.slice (bl b7_3) 1 1, 34, 3, 1, [I (((markP l)[i]'hx7_1).kind), I (((markP l)[i]'hx7_1).key), I (((markP l)[i]'hx7_1).val)]⟩], [⟨.slice (bl b4_0) (100) (100), 63, 1, 100, (lastTab ((markP l).take i)).map I⟩]]) => ?_)
      refine O.nil ?_
      refine C.seq ?_
      refine C.region ?_
      refine O.val (v := .pointer (ofs (bl b7_3) (0))) rfl (Ru.fieldA fl34_0 rfl rfl) rfl ?_
      refine O.val rfl (Ru.load1 el3 rfl ((hM7_5.rd 0 rfl).ld rfl)) rfl ?_
      refine O.val (v := .bool (decide (((markP l)[i]'hx7_1).kind ≠ 3))) rfl (Ru.neq rfl rfl) rfl ?_
      refine O.nil ?_
      refine C.cond (p := ((markP l)[i]'hx7_1).kind ≠ 3) rfl (fun c24 => ?_) (fun c24 => ?_)
      · have hrk := isRec_iff.1 (mark_take hv (k := (markP l).length) _ (by rw [List.take_length]; exact List.getElem_mem hx7_1))
        refine C.region ?_
        refine O.val (v := .pointer (ofs (bl b7_3) (1))) rfl (Ru.fieldA fl34_1 rfl rfl) rfl ?_
        refine O.val rfl (Ru.load1 el3 rfl ((hM7_5.rd 0 rfl).ld rfl)) rfl ?_
        refine O.val (v := I (((i : Nat) : Int))) rfl (Ru.move rfl) rfl ?_
        have hx9_3 : (((markP l)[i]'hx7_1).key).toNat < (lastTab ((markP l).take i)).length := (by rw [lastTab_len]; omega)
        refine O.val (v := .pointer (ofs (bl b4_0) (((((markP l)[i]'hx7_1).key).toNat) * 1))) rfl (Ru.indexArr (j := (((markP l)[i]'hx7_1).key).toNat) Try.underlying63 el3 rfl rfl rfl (by omega) (by simp [lastTab_len]; omega)) rfl ?_
        refine O.mstore (vs := [I (((i : Nat) : Int))]) (xs' := ((lastTab ((markP l).take i)).set ((((markP l)[i]'hx7_1).key).toNat) ((i : Nat) : Int)).map I) 1 0 hM7_5 rfl rfl rfl el3 rfl rfl rfl rfl rfl (by simp; omega) (by simp) (spl_map (l := lastTab ((markP l).take i)) (a := ((i : Nat) : Int)) hx9_3) rfl (fun w9_4 (hM9_4 : Mem w w9_4 [] [[⟨.slice (bl b7_3) 1 1, 34, 3, 1, [I (((markP l)[i]'hx7_1).kind), I (((markP l)[i]'hx7_1).key), I (((markP l)[i]'hx7_1).val)]⟩], [⟨.slice (bl b4_0) (100) (100), 63, 1, 100, ((lastTab ((markP l).take i)).set ((((markP l)[i]'hx7_1).key).toNat) ((i : Nat) : Int)).map I⟩]]) => ?_)
        refine O.nil ?_
        refine C.region ?_
        refine O.val (v := I ((((i + 1) : Nat) : Int))) rfl (Ru.congr (v := I ((((i : Nat) : Int) + 1))) (v' := I ((((i + 1) : Nat) : Int))) (Ru.add rfl rfl (by omega)) (I_congr (by first | omega | simp))) rfl ?_
        refine O.val (v := I ((((i + 1) : Nat) : Int))) rfl (Ru.move rfl) rfl ?_
        refine O.nil ?_
        have hMn4 : Mem w w9_4 [] [[⟨.slice (bl b7_3) 1 1, 34, 3, 1, [I (((markP l)[i]'hx7_1).kind), I (((markP l)[i]'hx7_1).key), I (((markP l)[i]'hx7_1).val)]⟩], [⟨.slice (bl b4_0) (100) (100), 63, 1, 100, (lastTab ((markP l).take (i + 1))).map I⟩]] := Mem.cast hM9_4 (by rw [show (lastTab ((markP l).take i)).set ((((markP l)[i]'hx7_1).key).toNat) ((i : Nat) : Int) = lastTab ((markP l).take (i + 1)) from (by first | exact lastTab_set hx7_1 c24 (by omega) | exact (lastTab_skip hx7_1 (by omega)).symm)])
        exact loopEnd (i + 1) (by (try dsimp only); omega) (Has.cons rfl (Has.cons rfl (Has.cons rfl (Has.cons rfl (Has.cons (I_congr (by first | rfl | omega | (simp; omega) | simp)) Has.nil))))) ⟨(by (try dsimp only); omega), (hMn4.pick [1] (by decide) rfl)⟩
      · refine C.skip ?_
        refine C.region ?_
        refine O.val (v := I ((((i + 1) : Nat) : Int))) rfl (Ru.congr (v := I ((((i : Nat) : Int) + 1))) (v' := I ((((i + 1) : Nat) : Int))) (Ru.add rfl rfl (by omega)) (I_congr (by first | omega | simp))) rfl ?_
        refine O.val (v := I ((((i + 1) : Nat) : Int))) rfl (Ru.move rfl) rfl ?_
        refine O.nil ?_
        have hMn5 : Mem w w7_5 [] [[⟨.slice (bl b7_3) 1 1, 34, 3, 1, [I (((markP l)[i]'hx7_1).kind), I (((markP l)[i]'hx7_1).key), I (((markP l)[i]'hx7_1).val)]⟩], [⟨.slice (bl b4_0) (100) (100), 63, 1, 100, (lastTab ((markP l).take (i + 1))).map I⟩]] := Mem.cast hM7_5 (by rw [show lastTab ((markP l).take i) = lastTab ((markP l).take (i + 1)) from (by first | exact lastTab_set hx7_1 c24 (by omega) | exact (lastTab_skip hx7_1 (by omega)).symm)])
        exact loopEnd (i + 1) (by (try dsimp only); omega) (Has.cons rfl (Has.cons rfl (Has.cons rfl (Has.cons rfl (Has.cons (I_congr (by first | rfl | omega | (simp; omega) | simp)) Has.nil))))) ⟨(by (try dsimp only); omega), (hMn5.pick [1] (by decide) rfl)⟩
    · refine C.exit ?_
      refine C.seq ?_
      refine C.region ?_
      refine O.val (v := .slice (none) (0) (0)) rfl (Ru.assign rfl) rfl ?_
      refine O.nil ?_
      refine C.seq ?_
      refine C.seq ?_
      refine C.region ?_
      refine O.val (v := .slice (A23_1) ((markP l).length) (c23_1)) rfl (Ru.move rfl) rfl ?_
      refine O.val (v := I ((((markP l).length : Nat) : Int))) rfl (Ru.blenSlice Try.underlying23 rfl) rfl ?_
      refine O.val (v := I (0)) rfl (Ru.move rfl) rfl ?_
      refine O.nil ?_
      refine C.block ?_
      have hMn6 : Mem w w_l6 [] [[⟨.slice (none) (0) (0), 34, 3, 0, ([]).flatMap encG⟩], [⟨.slice (bl b4_0) (100) (100), 63, 1, 100, (lastTab ((markP l).take i)).map I⟩]] := Mem.addNil hM_l6
      have hq7 : ([] : List RecT) = ([] : List RecT) := (by first | rfl | simp | (simp; omega))
      have hMn7 : Mem w w_l6 [] [[⟨.slice (none) ((([] : List RecT)).length) (0), 34, 3, ((([] : List RecT)).length), (([] : List RecT)).flatMap encG⟩], [⟨.slice (bl b4_0) (100) (100), 63, 1, 100, (lastTab ((markP l).take i)).map I⟩]] := hMn6.relen 0 (n' := (([] : List RecT)).length) (xs' := (([] : List RecT)).flatMap encG) rfl (by first | rfl | exact congrArg List.length hq7 | (have hqq := congrArg List.length hq7; first | omega | (simp at hqq ⊢; omega)) | (simp; done) | (simp; omega)) (congrArg (fun z_ => (z_).flatMap encG) hq7) rfl
      have hMn8 : Mem w w_l6 [] [[⟨.slice (none) ((([] : List RecT)).length) (0), 34, 3, ((([] : List RecT)).length), (([] : List RecT)).flatMap encG⟩], [⟨.slice (bl b4_0) (100) (100), 63, 1, 100, (lastTab (markP l)).map I⟩]] := Mem.cast hMn7 (by rw [show lastTab ((markP l).take i) = lastTab (markP l) from (by rw [take_all (by omega)])])
      refine C.loop (ι := Nat × (List RecT) × (Option Addr) × Nat) (fun x_ => ([(4, .pointer (ofs (bl b4_0) (0))), (7, .slice (x_.2.2.1) ((x_.2.1).length) (x_.2.2.2)), (30, .slice (A23_1) ((markP l).length) (c23_1)), (31, I ((((markP l).length : Nat) : Int))), (32, I (((x_.1 : Nat) : Int)))] : List (Nat × Value))) (fun x_ w_ => (x_.1 ≤ (markP l).length) ∧ (shL (markP l) = x_.2.1 ++ shL ((markP l).drop x_.1)) ∧ (x_.2.1.length ≤ x_.1) ∧ (Mem w w_ [] [[⟨.slice (x_.2.2.1) ((x_.2.1).length) (x_.2.2.2), 34, 3, ((x_.2.1).length), (x_.2.1).flatMap encG⟩], [⟨.slice (bl b4_0) (100) (100), 63, 1, 100, (lastTab (markP l)).map I⟩]])) (fun x_ => (markP l).length - x_.1) (0, ([] : List RecT), none, 0) (Has.cons rfl (Has.cons (sl_congr (by first | rfl | omega | (simp; done) | (simp; omega) | exact congrArg List.length hq8 | (simp [← hq8]; done) | (simp [← hq8]; omega))) (Has.cons rfl (Has.cons rfl (Has.cons (I_congr (by first | rfl | omega | (simp; omega) | simp)) Has.nil))))) ⟨(Nat.zero_le _), (by (try dsimp only); simp), (by (try dsimp only); simp), (hMn8.pick [0, 1] (by decide) rfl)⟩ (fun ⟨k, L, A2, c2⟩ σ w_l13 hI => ?_)
      try dsimp only at hI
      obtain ⟨hi0_l13, hi1_l13, hi2_l13, hM_l13⟩ := hI
      have hcl0_l13 := (hM_l13.cap 0 rfl).1
      refine C.seq ?_
      refine C.region ?_
      refine O.val (v := .bool (decide (((k : Nat) : Int) < (((markP l).length : Nat) : Int)))) rfl (Ru.lss rfl rfl) rfl ?_
      refine O.nil ?_
      refine C.seq ?_
      refine C.cond (p := ((k : Nat) : Int) < (((markP l).length : Nat) : Int)) rfl (fun c33 => ?_) (fun c33 => ?_)
      · refine C.skip ?_
        refine C.seq ?_
        refine C.block ?_
        refine C.seq ?_
        refine C.region ?_
        refine O.val (v := I (((k : Nat) : Int))) rfl (Ru.move rfl) rfl ?_
        have hx14_1 : k < (markP l).length := (by first | omega | (simp; omega))
        refine O.val (v := .pointer (ofs (A23_1) (k * 3))) rfl (Ru.indexA (j := k) Try.underlying23 el34 rfl rfl (smf encG_len (hr3_1 _ (hA.at hM_l13)) hx14_1 rfl) (by omega) (by first | omega | (simp; omega))) rfl ?_
        refine O.val rfl (Ru.loadN (vs := [I (((markP l)[k]'hx14_1).kind), I (((markP l)[k]'hx14_1).key), I (((markP l)[k]'hx14_1).val)]) el34 rfl rfl (smf encG_len (hr3_1 _ (hA.at hM_l13)) hx14_1 rfl) (ldn encG_len (hr3_1 _ (hA.at hM_l13)) hx14_1)) rfl ?_
        refine O.malloc (k := 3) hM_l13 rfl rfl el34 rfl (fun w14_3 b14_3 hb14_3 (hM14_3 : Mem w w14_3 [] [[⟨.slice (bl b14_3) 1 1, 34, 3, 1, [I (0), I (0), I (0)]⟩], [⟨.slice (A2) ((L).length) (c2), 34, 3, ((L).length), (L).flatMap encG⟩], [⟨.slice (bl b4_0) (100) (100), 63, 1, 100, (lastTab (markP l)).map I⟩]]) => ?_)
        refine O.val (v := I (((k : Nat) : Int))) rfl (Ru.assign rfl) rfl ?_
        refine O.mstore (vs := [I (((markP l)[k]'hx14_1).kind), I (((markP l)[k]'hx14_1).key), I (((markP l)[k]'hx14_1).val)]) (xs' := [I (((markP l)[k]'hx14_1).kind), I (((markP l)[k]'hx14_1).key), I (((markP l)[k]'hx14_1).val)]) 0 0 hM14_3 rfl rfl rfl el34 rfl rfl rfl rfl rfl (by simp) (by simp) rfl rfl (fun w14_5 (hM14_5 : Mem w w14_5 [] [[⟨.slice (bl b14_3) 1 1, 34, 3, 1, [I (((markP l)[k]'hx14_1).kind), I (((markP l)[k]'hx14_1).key), I (((markP l)[k]'hx14_1).val)]⟩], [⟨.slice (A2) ((L).length) (c2), 34, 3, ((L).length), (L).flatMap encG⟩], [⟨.slice (bl b4_0) (100) (100), 63, 1, 100, (lastTab (markP l)).map I⟩]]) => ?_)
        refine O.nil ?_
        refine C.seq ?_
        refine C.region ?_
        refine O.val (v := .pointer (ofs (bl b14_3) (0))) rfl (Ru.fieldA fl34_0 rfl rfl) rfl ?_
        refine O.val rfl (Ru.load1 el3 rfl ((hM14_5.rd 0 rfl).ld rfl)) rfl ?_
        refine O.val (v := .bool (decide (((markP l)[k]'hx14_1).kind ≠ 3))) rfl (Ru.neq rfl rfl) rfl ?_
        refine O.val (v := .bool (decide (((markP l)[k]'hx14_1).kind ≠ 3))) rfl (Ru.move rfl) rfl ?_
        refine O.partp 40 (((markP l)[k]'hx14_1).kind ≠ 3) rfl (fun g40 => ?_) (fun g40 => ?_)
        · have hrk := isRec_iff.1 (mark_take hv (k := (markP l).length) _ (by rw [List.take_length]; exact List.getElem_mem hx14_1))
          refine O.val (v := .pointer (ofs (bl b14_3) (1))) rfl (Ru.fieldA fl34_1 rfl rfl) rfl ?_
          refine O.val rfl (Ru.load1 el3 rfl ((hM14_5.rd 0 rfl).ld rfl)) rfl ?_
          have hx15_6 : (((markP l)[k]'hx14_1).key).toNat < (lastTab (markP l)).length := (by rw [lastTab_len]; omega)
          refine O.val (v := .pointer (ofs (bl b4_0) (((((markP l)[k]'hx14_1).key).toNat) * 1))) rfl (Ru.indexArr (j := (((markP l)[k]'hx14_1).key).toNat) Try.underlying63 el3 rfl rfl rfl (by omega) (by simp [lastTab_len]; omega)) rfl ?_
          refine O.val rfl (Ru.load1 el3 rfl (ldm (hM14_5.rd 2 rfl) hx15_6)) rfl ?_
          have hlt := lastTab_get (l := markP l) (k := ((markP l)[k].key).toNat) (by omega)
          rw [show (((markP l)[k].key.toNat : Nat) : Int) = (markP l)[k].key by omega] at hlt
          have hli := lastIx_iff hx14_1 g40
          refine O.val (v := I (((k : Nat) : Int))) rfl (Ru.move rfl) rfl ?_
          refine O.val (v := .bool (decide ((lastTab (markP l))[(((markP l)[k]'hx14_1).key).toNat]'hx15_6 = ((k : Nat) : Int)))) rfl (Ru.eql rfl rfl) rfl ?_
          refine O.val (v := .bool (decide ((lastTab (markP l))[(((markP l)[k]'hx14_1).key).toNat]'hx15_6 = ((k : Nat) : Int)))) rfl (Ru.pickT rfl rfl) rfl ?_
          refine O.nil ?_
          refine C.cond (p := (lastTab (markP l))[(((markP l)[k]'hx14_1).key).toNat]'hx15_6 = ((k : Nat) : Int)) rfl (fun c47 => ?_) (fun c47 => ?_)
          · have hall := hli.1 (by omega)
            refine C.region ?_
            refine O.val (v := .slice (A2) ((L).length) (c2)) rfl (Ru.move rfl) rfl ?_
            refine O.val rfl (Ru.loadN (vs := [I (((markP l)[k]'hx14_1).kind), I (((markP l)[k]'hx14_1).key), I (((markP l)[k]'hx14_1).val)]) el34 rfl rfl rfl ((mem_blk (i := 0) (j := 0) hM14_5 rfl rfl).lds (k := 0) rfl)) rfl ?_
            refine O.mlit (sz := 3) (cs := [I (((markP l)[k]'hx14_1).kind), I (((markP l)[k]'hx14_1).key), I (((markP l)[k]'hx14_1).val)]) hM14_5 rfl Try.underlying23 el34 rfl rfl rfl (by kernel_rfl) (by kernel_rfl) rfl rfl (fun w16_2 b16_2 hb16_2 (hM16_2 : Mem w w16_2 [] [[⟨.slice (bl b16_2) (1) (1), 34, 3, 1, ([(markP l)[k]'hx14_1]).flatMap encG⟩], [⟨.slice (bl b14_3) 1 1, 34, 3, 1, [I (((markP l)[k]'hx14_1).kind), I (((markP l)[k]'hx14_1).key), I (((markP l)[k]'hx14_1).val)]⟩], [⟨.slice (A2) ((L).length) (c2), 34, 3, ((L).length), (L).flatMap encG⟩], [⟨.slice (bl b4_0) (100) (100), 63, 1, 100, (lastTab (markP l)).map I⟩]]) => ?_)
            refine O.mappend (sz := 3) (news := ([(markP l)[k]'hx14_1]).flatMap encG) (m1 := (L ++ [(markP l)[k]'hx14_1]).length) (xs1 := (L ++ [(markP l)[k]'hx14_1]).flatMap encG) (M' := fun A16_3 c16_3 => [[⟨.slice (bl b16_2) (1) (1), 34, 3, 1, ([(markP l)[k]'hx14_1]).flatMap encG⟩], [⟨.slice (bl b14_3) 1 1, 34, 3, 1, [I (((markP l)[k]'hx14_1).kind), I (((markP l)[k]'hx14_1).key), I (((markP l)[k]'hx14_1).val)]⟩], [⟨.slice (A16_3) ((L ++ [(markP l)[k]'hx14_1]).length) (c16_3), 34, 3, ((L ++ [(markP l)[k]'hx14_1]).length), (L ++ [(markP l)[k]'hx14_1]).flatMap encG⟩], [⟨.slice (bl b4_0) (100) (100), 63, 1, 100, (lastTab (markP l)).map I⟩]]) 2 0 hM16_2 rfl rfl rfl Try.underlying23 el34 ⟨rfl, by decide⟩ rfl rfl rfl (hM16_2.rd 0 rfl) (by rw [flat_len encG_len]; first | done | (simp; done) | (simp; omega)) (all_flat_one (fun _ => rfl) _) (by first | omega | (simp; omega)) (by first | omega | (simp; omega)) (by first | (simp; done) | (simp; omega)) (by simp) (fun _ _ => rfl) (fun w16_3 A16_3 c16_3 hc16_3 hM16_3 => ?_)
            try dsimp only at hM16_3
            refine O.val (v := .slice (A16_3) ((L ++ [(markP l)[k]'hx14_1]).length) (c16_3)) rfl (Ru.assign rfl) rfl ?_
            refine O.nil ?_
            refine C.region ?_
            refine O.val (v := I ((((k + 1) : Nat) : Int))) rfl (Ru.congr (v := I ((((k : Nat) : Int) + 1))) (v' := I ((((k + 1) : Nat) : Int))) (Ru.add rfl rfl (by omega)) (I_congr (by first | omega | simp))) rfl ?_
            refine O.val (v := I ((((k + 1) : Nat) : Int))) rfl (Ru.move rfl) rfl ?_
            refine O.nil ?_
            have hq9 : (L ++ [(markP l)[k]'hx14_1] : List RecT) = (L ++ [(markP l)[k]'hx14_1]) := (by first | rfl | simp | (simp; omega))
            have hMn9 : Mem w w16_3 [] [[⟨.slice (bl b16_2) (1) (1), 34, 3, 1, ([(markP l)[k]'hx14_1]).flatMap encG⟩], [⟨.slice (bl b14_3) 1 1, 34, 3, 1, [I (((markP l)[k]'hx14_1).kind), I (((markP l)[k]'hx14_1).key), I (((markP l)[k]'hx14_1).val)]⟩], [⟨.slice (A16_3) (((L ++ [(markP l)[k]'hx14_1])).length) (c16_3), 34, 3, (((L ++ [(markP l)[k]'hx14_1])).length), ((L ++ [(markP l)[k]'hx14_1])).flatMap encG⟩], [⟨.slice (bl b4_0) (100) (100), 63, 1, 100, (lastTab (markP l)).map I⟩]] := hM16_3.relen 2 (n' := ((L ++ [(markP l)[k]'hx14_1])).length) (xs' := ((L ++ [(markP l)[k]'hx14_1])).flatMap encG) rfl (by first | rfl | exact congrArg List.length hq9 | (have hqq := congrArg List.length hq9; first | omega | (simp at hqq ⊢; omega)) | (simp; done) | (simp; omega)) (congrArg (fun z_ => (z_).flatMap encG) hq9) rfl
            exact loopEnd (k + 1, L ++ [(markP l)[k]'hx14_1], A16_3, c16_3) (by (try dsimp only); omega) (Has.cons rfl (Has.cons rfl (Has.cons rfl (Has.cons rfl (Has.cons (I_congr (by first | rfl | omega | (simp; omega) | simp)) Has.nil))))) ⟨(by (try dsimp only); omega), (by (try dsimp only); rw [hi1_l13, shL_take hx14_1 g40 hall]; simp), (by (try dsimp only); simp; omega), (hMn9.pick [2, 3] (by decide) rfl)⟩
          · have hnall : ¬ ((markP l)[k].kind ≠ 3 ∧ ((markP l).drop (k + 1)).all (fun s => decide (s.kind = 3) || decide (s.key ≠ (markP l)[k].key)) = true) := fun hh => by have := hli.2 hh.2; omega
            refine C.skip ?_
            refine C.region ?_
            refine O.val (v := I ((((k + 1) : Nat) : Int))) rfl (Ru.congr (v := I ((((k : Nat) : Int) + 1))) (v' := I ((((k + 1) : Nat) : Int))) (Ru.add rfl rfl (by omega)) (I_congr (by first | omega | simp))) rfl ?_
            refine O.val (v := I ((((k + 1) : Nat) : Int))) rfl (Ru.move rfl) rfl ?_
            refine O.nil ?_
            exact loopEnd (k + 1, L, A2, c2) (by (try dsimp only); omega) (Has.cons rfl (Has.cons rfl (Has.cons rfl (Has.cons rfl (Has.cons (I_congr (by first | rfl | omega | (simp; omega) | simp)) Has.nil))))) ⟨(by (try dsimp only); omega), (by (try dsimp only); rw [hi1_l13, shL_skip hx14_1 (by first | exact hnall | exact fun hh => g40 hh.1)]), (by (try dsimp only); omega), (hM14_5.pick [1, 2] (by decide) rfl)⟩
        · refine O.pass rfl rfl rfl rfl rfl ?_
          refine O.pass rfl rfl rfl rfl rfl ?_
          refine O.pass rfl rfl rfl rfl rfl ?_
          refine O.pass rfl rfl rfl rfl rfl ?_
          refine O.pass rfl rfl rfl rfl rfl ?_
          refine O.pass rfl rfl rfl rfl rfl ?_
          refine O.val (v := .bool (false)) rfl (Ru.pickF rfl rfl) rfl ?_
          refine O.nil ?_
          refine C.condF rfl ?_
          refine C.skip ?_
          refine C.region ?_
          refine O.val (v := I ((((k + 1) : Nat) : Int))) rfl (Ru.congr (v := I ((((k : Nat) : Int) + 1))) (v' := I ((((k + 1) : Nat) : Int))) (Ru.add rfl rfl (by omega)) (I_congr (by first | omega | simp))) rfl ?_
          refine O.val (v := I ((((k + 1) : Nat) : Int))) rfl (Ru.move rfl) rfl ?_
          refine O.nil ?_
          exact loopEnd (k + 1, L, A2, c2) (by (try dsimp only); omega) (Has.cons rfl (Has.cons rfl (Has.cons rfl (Has.cons rfl (Has.cons (I_congr (by first | rfl | omega | (simp; omega) | simp)) Has.nil))))) ⟨(by (try dsimp only); omega), (by (try dsimp only); rw [hi1_l13, shL_skip hx14_1 (by first | exact hnall | exact fun hh => g40 hh.1)]), (by (try dsimp only); omega), (hM14_5.pick [1, 2] (by decide) rfl)⟩
      · refine C.exit ?_
        refine C.seq ?_
        refine C.region ?_
        refine O.val (v := .slice (A2) ((L).length) (c2)) rfl (Ru.move rfl) rfl ?_
        refine O.val (v := .slice (A2) ((L).length) (c2)) rfl (Ru.assign rfl) rfl ?_
        refine O.nil ?_
        refine C.ret ?_
        refine P1 (v := .slice (A2) ((L).length) (c2)) rfl ?_
        have hn := shF_yes hv
        rw [hi1_l13, List.drop_of_length_le (by omega)] at hn
        simp only [shL, List.append_nil] at hn
        have hq10 : (L : List RecT) = shF l := hn.symm
        have hMn10 : Mem w w_l13 [] [[⟨.slice (A2) ((shF l).length) (c2), 34, 3, ((shF l).length), (shF l).flatMap encG⟩], [⟨.slice (bl b4_0) (100) (100), 63, 1, 100, (lastTab (markP l)).map I⟩]] := hM_l13.relen 0 (n' := (shF l).length) (xs' := (shF l).flatMap encG) rfl (by first | rfl | exact congrArg List.length hq10 | (have hqq := congrArg List.length hq10; first | omega | (simp at hqq ⊢; omega)) | (simp; done) | (simp; omega)) (congrArg (fun z_ => (z_).flatMap encG) hq10) rfl
        exact ⟨A2, c2, (by rw [hn]), (hMn10.pick [0] (by decide) rfl)⟩
end Go.Proofs.Ytgflcaeibbnkcaa
