/- Own layer: part of this seat (EC). Plain theorems; no conditions. -/
import Derived.Test.YtfdlmimgooeioaaDoorEB
set_option linter.unusedVariables false
set_option linter.unusedSimpArgs false
namespace Go.Proofs.YtfdlmimgooeioaaDoor
open Go.Px
theorem toPair_fn (r : PairT) (w : World) :
    Does Tryd.prog 44 [.agg #[I ((r).key), I ((r).val)]] w (fun v w1 => v = .agg #[I ((r).key), I ((r).val)] ∧ Mem w w1 [] []) := by
  have hM : Mem w w [] [] := Mem.refl
  refine Does.enterG (rs := [.cell 2 61]) Tryd.func44 rfl Tryd.results44 Tryd.ntmps44 rfl ?_
  refine C.seq ?_
  refine C.region ?_
  refine O.mbox (k := 2) (vs := [I ((r).key), I ((r).val)]) hM rfl rfl rfl rfl rfl (fun w0_0 b0_0 hb0_0 (hM0_0 : Mem w w0_0 [] [[⟨.slice (bl b0_0) 1 1, 63, 2, 1, [I ((r).key), I ((r).val)]⟩]]) => ?_)
  refine O.malloc (k := 2) hM0_0 rfl rfl el61 rfl (fun w0_1 b0_1 hb0_1 (hM0_1 : Mem w w0_1 [] [[⟨.slice (bl b0_1) 1 1, 61, 2, 1, [I (0), I (0)]⟩], [⟨.slice (bl b0_0) 1 1, 63, 2, 1, [I ((r).key), I ((r).val)]⟩]]) => ?_)
  refine O.nil ?_
  refine C.seq ?_
  refine C.region ?_
  refine O.malloc (k := 2) hM0_1 rfl rfl el61 rfl (fun w1_0 b1_0 hb1_0 (hM1_0 : Mem w w1_0 [] [[⟨.slice (bl b1_0) 1 1, 61, 2, 1, [I (0), I (0)]⟩], [⟨.slice (bl b0_1) 1 1, 61, 2, 1, [I (0), I (0)]⟩], [⟨.slice (bl b0_0) 1 1, 63, 2, 1, [I ((r).key), I ((r).val)]⟩]]) => ?_)
  refine O.nil ?_
  refine C.seq ?_
  refine C.region ?_
  refine O.val (v := .pointer (ofs (bl b0_0) (0))) rfl (Ru.fieldA fl63_0 rfl rfl) rfl ?_
  refine O.val rfl (Ru.load1 el3 rfl ((hM1_0.rd 2 rfl).ld rfl)) rfl ?_
  refine O.val (v := .pointer (ofs (bl b1_0) (0))) rfl (Ru.fieldA fl61_0 rfl rfl) rfl ?_
  refine O.mstore (vs := [I ((r).key)]) (xs' := [I ((r).key), I (0)]) 0 0 hM1_0 rfl rfl rfl el3 rfl rfl rfl rfl rfl (by simp) (by simp) rfl rfl (fun w2_3 (hM2_3 : Mem w w2_3 [] [[⟨.slice (bl b1_0) 1 1, 61, 2, 1, [I ((r).key), I (0)]⟩], [⟨.slice (bl b0_1) 1 1, 61, 2, 1, [I (0), I (0)]⟩], [⟨.slice (bl b0_0) 1 1, 63, 2, 1, [I ((r).key), I ((r).val)]⟩]]) => ?_)
  refine O.nil ?_
  refine C.seq ?_
  refine C.region ?_
  refine O.val (v := .pointer (ofs (bl b0_0) (1))) rfl (Ru.fieldA fl63_1 rfl rfl) rfl ?_
  refine O.val rfl (Ru.load1 el3 rfl ((hM2_3.rd 2 rfl).ld rfl)) rfl ?_
  refine O.val (v := .pointer (ofs (bl b1_0) (1))) rfl (Ru.fieldA fl61_1 rfl rfl) rfl ?_
  refine O.mstore (vs := [I ((r).val)]) (xs' := [I ((r).key), I ((r).val)]) 0 0 hM2_3 rfl rfl rfl el3 rfl rfl rfl rfl rfl (by simp) (by simp) rfl rfl (fun w3_3 (hM3_3 : Mem w w3_3 [] [[⟨.slice (bl b1_0) 1 1, 61, 2, 1, [I ((r).key), I ((r).val)]⟩], [⟨.slice (bl b0_1) 1 1, 61, 2, 1, [I (0), I (0)]⟩], [⟨.slice (bl b0_0) 1 1, 63, 2, 1, [I ((r).key), I ((r).val)]⟩]]) => ?_)
  refine O.nil ?_
  refine C.seq ?_
  refine C.region ?_
  refine O.val rfl (Ru.loadN (vs := [I ((r).key), I ((r).val)]) el61 rfl rfl rfl ((mem_blk (i := 0) (j := 0) hM3_3 rfl rfl).lds (k := 0) rfl)) rfl ?_
  refine O.mstore (vs := [I ((r).key), I ((r).val)]) (xs' := [I ((r).key), I ((r).val)]) 1 0 hM3_3 rfl rfl rfl el61 rfl rfl rfl rfl rfl (by simp) (by simp) rfl rfl (fun w4_1 (hM4_1 : Mem w w4_1 [] [[⟨.slice (bl b1_0) 1 1, 61, 2, 1, [I ((r).key), I ((r).val)]⟩], [⟨.slice (bl b0_1) 1 1, 61, 2, 1, [I ((r).key), I ((r).val)]⟩], [⟨.slice (bl b0_0) 1 1, 63, 2, 1, [I ((r).key), I ((r).val)]⟩]]) => ?_)
  refine O.nil ?_
  refine C.ret ?_
  refine PG (vs := [.agg #[I ((r).key), I ((r).val)]]) (ResV.cell (l := [I ((r).key), I ((r).val)]) rfl (mem_blk (i := 1) (j := 0) hM4_1 rfl rfl) el61 rfl ResV.nil) ?_
  exact ⟨(by first | rfl | exact sl_congr (by first | omega | (simp; done) | (simp; omega)) | (simp; done)), (Mem.none hM4_1)⟩

theorem toPairS_fn (A : Option Addr) (c : Nat) (l : List PairT) (w : World) (hA : Rd w A ((l).flatMap encP)) (hl : l.length ≤ 1048576) :
    Does Tryd.prog 15 [.slice (A) ((l).length) (c)] w (fun v w1 => ∃ (A1 : Option Addr) (c1 : Nat), v = .slice (A1) ((l).length) (c1) ∧ Mem w w1 [] [[⟨.slice (A1) ((l).length) (c1), 61, 2, ((l).length), (l).flatMap encP⟩]]) := by
  have hM : Mem w w [] [] := Mem.refl
  refine Does.enter1 Tryd.func15 rfl Tryd.results15 Tryd.ntmps15 rfl ?_
  refine C.seq ?_
  refine C.region ?_
  refine O.val (v := .slice (none) (0) (0)) rfl (Ru.assign rfl) rfl ?_
  refine O.nil ?_
  refine C.seq ?_
  refine C.region ?_
  refine O.val (v := .slice (A) ((l).length) (c)) rfl (Ru.move rfl) rfl ?_
  refine O.val (v := I ((((l).length : Nat) : Int))) rfl (Ru.blenSlice Tryd.underlying22 rfl) rfl ?_
  refine O.mmake (k := (l).length) (sz := 2) (xs := (List.replicate ((l).length) (⟨0, 0⟩ : PairT)).flatMap encP) hM rfl Tryd.underlying25 el61 rfl rfl rfl rfl (by omega) (by omega) (zer_flat rfl) (fun w1_2 b1_2 hb1_2 (hM1_2 : Mem w w1_2 [] [[⟨.slice (bl b1_2) ((l).length) ((l).length), 61, 2, ((l).length), (List.replicate ((l).length) (⟨0, 0⟩ : PairT)).flatMap encP⟩]]) => ?_)
  refine O.val (v := .slice (bl b1_2) ((l).length) ((l).length)) rfl (Ru.assign rfl) rfl ?_
  refine O.nil ?_
  refine C.seq ?_
  refine C.seq ?_
  refine C.region ?_
  refine O.val (v := I (0)) rfl (Ru.assign rfl) rfl ?_
  refine O.nil ?_
  refine C.block ?_
  have hq1 : (List.replicate ((l).length) (⟨0, 0⟩ : PairT) : List PairT) = l.take 0 ++ List.replicate (l.length - 0) (⟨0, 0⟩ : PairT) := fillI_zero
  have hMn1 : Mem w w1_2 [] [[⟨.slice (bl b1_2) (l.length) ((l).length), 61, 2, (l.length), (l.take 0 ++ List.replicate (l.length - 0) (⟨0, 0⟩ : PairT)).flatMap encP⟩]] := hM1_2.relen 0 (n' := l.length) (xs' := (l.take 0 ++ List.replicate (l.length - 0) (⟨0, 0⟩ : PairT)).flatMap encP) rfl (by first | rfl | exact congrArg List.length hq1 | (have hqq := congrArg List.length hq1; first | omega | (simp at hqq ⊢; omega)) | (simp; done) | (simp; omega)) (congrArg (fun z_ => (z_).flatMap encP) hq1) rfl
  refine C.loop (ι := Nat) (fun k => ([(0, .slice (A) ((l).length) (c)), (3, .slice (bl b1_2) (l.length) (l.length)), (4, I (((k : Nat) : Int)))] : List (Nat × Value))) (fun k w_ => (k ≤ l.length) ∧ (Mem w w_ [] [[⟨.slice (bl b1_2) (l.length) (l.length), 61, 2, (l.length), (l.take k ++ List.replicate (l.length - k) (⟨0, 0⟩ : PairT)).flatMap encP⟩]])) (fun k => l.length - k) (0) (Has.cons rfl (Has.cons (sl_congr (by first | rfl | omega | (simp; done) | (simp; omega) | exact congrArg List.length hq1 | (simp [← hq1]; done) | (simp [← hq1]; omega))) (Has.cons (I_congr (by first | rfl | omega | (simp; omega) | simp)) Has.nil))) ⟨(Nat.zero_le _), (hMn1.pick [0] (by decide) rfl)⟩ (fun k σ w_l3 hI => ?_)
  try dsimp only at hI
  obtain ⟨hi0_l3, hM_l3⟩ := hI
  have hcl0_l3 := (hM_l3.cap 0 rfl).1
  refine C.seq ?_
  refine C.seq ?_
  refine C.region ?_
  refine O.val (v := I (((k : Nat) : Int))) rfl (Ru.move rfl) rfl ?_
  refine O.val (v := .slice (A) ((l).length) (c)) rfl (Ru.move rfl) rfl ?_
  refine O.val (v := I ((((l).length : Nat) : Int))) rfl (Ru.blenSlice Tryd.underlying22 rfl) rfl ?_
  refine O.val (v := .bool (decide (((k : Nat) : Int) < (((l).length : Nat) : Int)))) rfl (Ru.lss rfl rfl) rfl ?_
  refine O.nil ?_
  refine C.cond (p := ((k : Nat) : Int) < (((l).length : Nat) : Int)) rfl (fun c11 => ?_) (fun c11 => ?_)
  · refine C.skip ?_
    refine C.seq ?_
    refine C.block ?_
    refine C.region ?_
    refine O.val (v := .slice (bl b1_2) (l.length) (l.length)) rfl (Ru.move rfl) rfl ?_
    refine O.val (v := I (((k : Nat) : Int))) rfl (Ru.move rfl) rfl ?_
    refine O.val (v := .slice (A) ((l).length) (c)) rfl (Ru.move rfl) rfl ?_
    refine O.val (v := I (((k : Nat) : Int))) rfl (Ru.move rfl) rfl ?_
    have hx5_4 : k < (l).length := (by first | omega | (simp; omega))
    refine O.val (v := .pointer (ofs (A) (k * 2))) rfl (Ru.indexA (j := k) Tryd.underlying22 el63 rfl rfl (smf encP_len (hA.at hM_l3) hx5_4 rfl) (by omega) (by first | omega | (simp; omega))) rfl ?_
    refine O.val rfl (Ru.loadN (vs := [I (((l)[k]'hx5_4).key), I (((l)[k]'hx5_4).val)]) el63 rfl rfl (smf encP_len (hA.at hM_l3) hx5_4 rfl) (ldn encP_len (hA.at hM_l3) hx5_4)) rfl ?_
    refine O.callg [.agg #[I (((l)[k]'hx5_4).key), I (((l)[k]'hx5_4).val)]] rfl en44 rfl rfl (toPair_fn ((l)[k]'hx5_4) w_l3 ) ?_
    rintro _ w5_6 ⟨rfl, hR5_6⟩
    have hM5_6 : Mem w w5_6 [] [[⟨.slice (bl b1_2) (l.length) (l.length), 61, 2, (l.length), (l.take k ++ List.replicate (l.length - k) (⟨0, 0⟩ : PairT)).flatMap encP⟩]] := Mem.call (Ma := []) hM_l3 hR5_6 rfl
    have hx5_7 : k < (l.take k ++ List.replicate (l.length - k) (⟨0, 0⟩ : PairT)).length := (by rw [fillI_len hi0_l3]; exact hx5_4)
    refine O.val (v := .pointer (ofs (bl b1_2) (k * 2))) rfl (Ru.indexA (j := k) Tryd.underlying25 el61 rfl rfl (smf encP_len (hM5_6.rd 0 rfl) hx5_7 rfl) (by omega) (by omega)) rfl ?_
    refine O.mstore (vs := [I ((((l)[k]'hx5_4)).key), I ((((l)[k]'hx5_4)).val)]) (xs' := ((l.take k ++ List.replicate (l.length - k) (⟨0, 0⟩ : PairT)).set (k) ((l)[k]'hx5_4)).flatMap encP) 0 0 hM5_6 rfl rfl rfl el61 rfl rfl rfl rfl rfl (by rw [flat_len encP_len]; simp; omega) (by simp) (spl_flat encP_len (l := l.take k ++ List.replicate (l.length - k) (⟨0, 0⟩ : PairT)) (a := ((l)[k]'hx5_4)) hx5_7) rfl (fun w5_8 (hM5_8 : Mem w w5_8 [] [[⟨.slice (bl b1_2) (l.length) (l.length), 61, 2, (l.length), ((l.take k ++ List.replicate (l.length - k) (⟨0, 0⟩ : PairT)).set (k) ((l)[k]'hx5_4)).flatMap encP⟩]]) => ?_)
    refine O.nil ?_
    refine C.region ?_
    refine O.val (v := I (((k : Nat) : Int))) rfl (Ru.move rfl) rfl ?_
    refine O.val (v := I ((((k + 1) : Nat) : Int))) rfl (Ru.congr (v := I ((((k : Nat) : Int) + 1))) (v' := I ((((k + 1) : Nat) : Int))) (Ru.add rfl rfl (by omega)) (I_congr (by first | omega | simp))) rfl ?_
    refine O.val (v := I ((((k + 1) : Nat) : Int))) rfl (Ru.assign rfl) rfl ?_
    refine O.nil ?_
    have hq2 : ((l.take k ++ List.replicate (l.length - k) (⟨0, 0⟩ : PairT)).set (k) ((l)[k]'hx5_4) : List PairT) = l.take (k + 1) ++ List.replicate (l.length - (k + 1)) (⟨0, 0⟩ : PairT) := (fillI_set hx5_4)
    have hMn2 : Mem w w5_8 [] [[⟨.slice (bl b1_2) (l.length) (l.length), 61, 2, (l.length), (l.take (k + 1) ++ List.replicate (l.length - (k + 1)) (⟨0, 0⟩ : PairT)).flatMap encP⟩]] := hM5_8.relen 0 (n' := l.length) (xs' := (l.take (k + 1) ++ List.replicate (l.length - (k + 1)) (⟨0, 0⟩ : PairT)).flatMap encP) rfl (by first | rfl | exact congrArg List.length hq2 | (have hqq := congrArg List.length hq2; first | omega | (simp at hqq ⊢; omega)) | (simp; done) | (simp; omega)) (congrArg (fun z_ => (z_).flatMap encP) hq2) rfl
    exact loopEnd (k + 1) (by (try dsimp only); omega) (Has.cons rfl (Has.cons rfl (Has.cons (I_congr (by first | rfl | omega | (simp; omega) | simp)) Has.nil))) ⟨(by (try dsimp only); omega), (hMn2.pick [0] (by decide) rfl)⟩
  · refine C.exit ?_
    refine C.seq ?_
    refine C.region ?_
    refine O.val (v := .slice (bl b1_2) (l.length) (l.length)) rfl (Ru.move rfl) rfl ?_
    refine O.val (v := .slice (bl b1_2) (l.length) (l.length)) rfl (Ru.assign rfl) rfl ?_
    refine O.nil ?_
    refine C.ret ?_
    refine P1 (v := .slice (bl b1_2) (l.length) (l.length)) rfl ?_
    have hq3 : (l.take k ++ List.replicate (l.length - k) (⟨0, 0⟩ : PairT) : List PairT) = l := (fillI_all (by omega))
    have hMn3 : Mem w w_l3 [] [[⟨.slice (bl b1_2) ((l).length) (l.length), 61, 2, ((l).length), (l).flatMap encP⟩]] := hM_l3.relen 0 (n' := (l).length) (xs' := (l).flatMap encP) rfl (by first | rfl | exact congrArg List.length hq3 | (have hqq := congrArg List.length hq3; first | omega | (simp at hqq ⊢; omega)) | (simp; done) | (simp; omega)) (congrArg (fun z_ => (z_).flatMap encP) hq3) rfl
    exact ⟨bl b1_2, l.length, (by first | rfl | exact sl_congr (by first | omega | (simp; done) | (simp; omega)) | (simp; done)), (hMn3.pick [0] (by decide) rfl)⟩

theorem eqPair_fn (a : PairT) (b : PairT) (w : World) :
    Does Tryd.prog 49 [.agg #[I ((a).key), I ((a).val)], .agg #[I ((b).key), I ((b).val)]] w (fun v w1 => v = .bool (decide (a = b)) ∧ Mem w w1 [] []) := by
  have hM : Mem w w [] [] := Mem.refl
  refine Does.enter1 Tryd.func49 rfl Tryd.results49 Tryd.ntmps49 rfl ?_
  refine C.seq ?_
  refine C.region ?_
  refine O.mbox (k := 2) (vs := [I ((a).key), I ((a).val)]) hM rfl rfl rfl rfl rfl (fun w0_0 b0_0 hb0_0 (hM0_0 : Mem w w0_0 [] [[⟨.slice (bl b0_0) 1 1, 61, 2, 1, [I ((a).key), I ((a).val)]⟩]]) => ?_)
  refine O.mbox (k := 2) (vs := [I ((b).key), I ((b).val)]) hM0_0 rfl rfl rfl rfl rfl (fun w0_1 b0_1 hb0_1 (hM0_1 : Mem w w0_1 [] [[⟨.slice (bl b0_1) 1 1, 61, 2, 1, [I ((b).key), I ((b).val)]⟩], [⟨.slice (bl b0_0) 1 1, 61, 2, 1, [I ((a).key), I ((a).val)]⟩]]) => ?_)
  refine O.val (v := .bool (false)) rfl (Ru.assign rfl) rfl ?_
  refine O.nil ?_
  refine C.seq ?_
  refine C.seq ?_
  refine C.region ?_
  refine O.val (v := .pointer (ofs (bl b0_0) (0))) rfl (Ru.fieldA fl61_0 rfl rfl) rfl ?_
  refine O.val rfl (Ru.load1 el3 rfl ((hM0_1.rd 1 rfl).ld rfl)) rfl ?_
  refine O.val (v := .pointer (ofs (bl b0_1) (0))) rfl (Ru.fieldA fl61_0 rfl rfl) rfl ?_
  refine O.val rfl (Ru.load1 el3 rfl ((hM0_1.rd 0 rfl).ld rfl)) rfl ?_
  refine O.val (v := .bool (decide ((a).key ≠ (b).key))) rfl (Ru.neq rfl rfl) rfl ?_
  refine O.nil ?_
  refine C.cond (p := (a).key ≠ (b).key) rfl (fun c9 => ?_) (fun c9 => ?_)
  · refine C.seq ?_
    refine C.region ?_
    refine O.val (v := .bool (false)) rfl (Ru.assign rfl) rfl ?_
    refine O.nil ?_
    refine C.ret ?_
    refine P1 (v := .bool (false)) rfl ?_
    exact ⟨(by rw [decide_eq_false (fun e => c9 (by rw [e]))]), (Mem.none hM0_1)⟩
  · refine C.skip ?_
    refine C.seq ?_
    refine C.seq ?_
    refine C.region ?_
    refine O.val (v := .pointer (ofs (bl b0_0) (1))) rfl (Ru.fieldA fl61_1 rfl rfl) rfl ?_
    refine O.val rfl (Ru.load1 el3 rfl ((hM0_1.rd 1 rfl).ld rfl)) rfl ?_
    refine O.val (v := .pointer (ofs (bl b0_1) (1))) rfl (Ru.fieldA fl61_1 rfl rfl) rfl ?_
    refine O.val rfl (Ru.load1 el3 rfl ((hM0_1.rd 0 rfl).ld rfl)) rfl ?_
    refine O.val (v := .bool (decide ((a).val ≠ (b).val))) rfl (Ru.neq rfl rfl) rfl ?_
    refine O.nil ?_
    refine C.cond (p := (a).val ≠ (b).val) rfl (fun c14 => ?_) (fun c14 => ?_)
    · refine C.seq ?_
      refine C.region ?_
      refine O.val (v := .bool (false)) rfl (Ru.assign rfl) rfl ?_
      refine O.nil ?_
      refine C.ret ?_
      refine P1 (v := .bool (false)) rfl ?_
      exact ⟨(by rw [decide_eq_false (fun e => c14 (by rw [e]))]), (Mem.none hM0_1)⟩
    · refine C.skip ?_
      refine C.seq ?_
      refine C.region ?_
      refine O.val (v := .bool (true)) rfl (Ru.assign rfl) rfl ?_
      refine O.nil ?_
      refine C.ret ?_
      refine P1 (v := .bool (true)) rfl ?_
      exact ⟨(by rw [decide_eq_true (by cases a; cases b; simp_all)]), (Mem.none hM0_1)⟩

theorem eqPairS_fn (A : Option Addr) (c : Nat) (a : List PairT) (B : Option Addr) (d : Nat) (b : List PairT) (w : World) (hA : Rd w A ((a).flatMap encP)) (hB : Rd w B ((b).flatMap encP)) (ha : a.length ≤ 1048576) :
    Does Tryd.prog 17 [.slice (A) ((a).length) (c), .slice (B) ((b).length) (d)] w (fun v w1 => v = .bool (decide (a = b)) ∧ Mem w w1 [] []) := by
  have hM : Mem w w [] [] := Mem.refl
  refine Does.enter1 Tryd.func17 rfl Tryd.results17 Tryd.ntmps17 rfl ?_
  refine C.seq ?_
  refine C.region ?_
  refine O.val (v := .bool (false)) rfl (Ru.assign rfl) rfl ?_
  refine O.nil ?_
  refine C.seq ?_
  refine C.seq ?_
  refine C.region ?_
  refine O.val (v := .slice (A) ((a).length) (c)) rfl (Ru.move rfl) rfl ?_
  refine O.val (v := I ((((a).length : Nat) : Int))) rfl (Ru.blenSlice Tryd.underlying25 rfl) rfl ?_
  refine O.val (v := .slice (B) ((b).length) (d)) rfl (Ru.move rfl) rfl ?_
  refine O.val (v := I ((((b).length : Nat) : Int))) rfl (Ru.blenSlice Tryd.underlying25 rfl) rfl ?_
  refine O.val (v := .bool (decide ((((a).length : Nat) : Int) ≠ (((b).length : Nat) : Int)))) rfl (Ru.neq rfl rfl) rfl ?_
  refine O.nil ?_
  refine C.cond (p := (((a).length : Nat) : Int) ≠ (((b).length : Nat) : Int)) rfl (fun c10 => ?_) (fun c10 => ?_)
  · refine C.seq ?_
    refine C.region ?_
    refine O.val (v := .bool (false)) rfl (Ru.assign rfl) rfl ?_
    refine O.nil ?_
    refine C.ret ?_
    refine P1 (v := .bool (false)) rfl ?_
    exact ⟨(by rw [ne_len (by omega)]), (Mem.none hM)⟩
  · refine C.skip ?_
    refine C.seq ?_
    refine C.seq ?_
    refine C.region ?_
    refine O.val (v := I (0)) rfl (Ru.assign rfl) rfl ?_
    refine O.nil ?_
    refine C.block ?_
    refine C.loop (ι := Nat) (fun k => ([(0, .slice (A) ((a).length) (c)), (1, .slice (B) ((b).length) (d)), (5, I (((k : Nat) : Int)))] : List (Nat × Value))) (fun k w_ => (k ≤ a.length) ∧ (a.take k = b.take k) ∧ (Mem w w_ [] [])) (fun k => a.length - k) (0) (Has.cons rfl (Has.cons rfl (Has.cons (I_congr (by first | rfl | omega | (simp; omega) | simp)) Has.nil))) ⟨(Nat.zero_le _), (by (try dsimp only); simp), (hM.pick [] (by decide) rfl)⟩ (fun k σ w_l4 hI => ?_)
    try dsimp only at hI
    obtain ⟨hi0_l4, hi1_l4, hM_l4⟩ := hI
    refine C.seq ?_
    refine C.seq ?_
    refine C.region ?_
    refine O.val (v := I (((k : Nat) : Int))) rfl (Ru.move rfl) rfl ?_
    refine O.val (v := .slice (A) ((a).length) (c)) rfl (Ru.move rfl) rfl ?_
    refine O.val (v := I ((((a).length : Nat) : Int))) rfl (Ru.blenSlice Tryd.underlying25 rfl) rfl ?_
    refine O.val (v := .bool (decide (((k : Nat) : Int) < (((a).length : Nat) : Int)))) rfl (Ru.lss rfl rfl) rfl ?_
    refine O.nil ?_
    refine C.cond (p := ((k : Nat) : Int) < (((a).length : Nat) : Int)) rfl (fun c14 => ?_) (fun c14 => ?_)
    · refine C.skip ?_
      refine C.seq ?_
      refine C.block ?_
      refine C.seq ?_
      refine C.draws (fun w2 => Mem w w2 [] []) mixed (by kernel_rfl) (hM_l4.ext (kdrawn _)) ?_
      refine QO.val (v := .slice (A) ((a).length) (c)) rfl (fun w2 hw2 => Ru.move rfl) rfl ?_
      refine QO.val (v := I (((k : Nat) : Int))) rfl (fun w2 hw2 => Ru.move rfl) rfl ?_
      have hx6_2 : k < (a).length := (by first | omega | (simp; omega))
      refine QO.val (v := .pointer (ofs (A) (k * 2))) rfl (fun w2 hw2 => Ru.indexA (j := k) Tryd.underlying25 el61 rfl rfl (smf encP_len (hA.at hw2) hx6_2 rfl) (by omega) (by first | omega | (simp; omega))) rfl ?_
      refine QO.val rfl (fun w2 hw2 => Ru.loadN (vs := [I (((a)[k]'hx6_2).key), I (((a)[k]'hx6_2).val)]) el61 rfl rfl (smf encP_len (hA.at hw2) hx6_2 rfl) (ldn encP_len (hA.at hw2) hx6_2)) rfl ?_
      refine QO.val (v := .slice (B) ((b).length) (d)) rfl (fun w2 hw2 => Ru.move rfl) rfl ?_
      refine QO.val (v := I (((k : Nat) : Int))) rfl (fun w2 hw2 => Ru.move rfl) rfl ?_
      have hx6_6 : k < (b).length := (by first | omega | (simp; omega))
      refine QO.val (v := .pointer (ofs (B) (k * 2))) rfl (fun w2 hw2 => Ru.indexA (j := k) Tryd.underlying25 el61 rfl rfl (smf encP_len (hB.at hw2) hx6_6 rfl) (by omega) (by first | omega | (simp; omega))) rfl ?_
      refine QO.val rfl (fun w2 hw2 => Ru.loadN (vs := [I (((b)[k]'hx6_6).key), I (((b)[k]'hx6_6).val)]) el61 rfl rfl (smf encP_len (hB.at hw2) hx6_6 rfl) (ldn encP_len (hB.at hw2) hx6_6)) rfl ?_
      refine QO.callg (v := .bool (decide (((a)[k]'hx6_2) = ((b)[k]'hx6_6)))) [.agg #[I (((a)[k]'hx6_2).key), I (((a)[k]'hx6_2).val)], .agg #[I (((b)[k]'hx6_6).key), I (((b)[k]'hx6_6).val)]] rfl en49 rfl rfl (fun w2 hw2 => (eqPair_fn ((a)[k]'hx6_2) ((b)[k]'hx6_6) w2 ).mono fun _ _ h => ⟨h.1, Mem.call0 hw2 h.2⟩) ?_
      refine QO.val (v := .bool (!(decide (((a)[k]'hx6_2) = ((b)[k]'hx6_6))))) rfl (fun w2 hw2 => Ru.not rfl) rfl ?_
      refine QO.nil ?_
      intro w6d hM6d
      refine C.condn (b := (decide (((a)[k]'hx6_2) = ((b)[k]'hx6_6)))) rfl (fun c26 => ?_) (fun c26 => ?_)
      · refine C.seq ?_
        refine C.region ?_
        refine O.val (v := .bool (false)) rfl (Ru.assign rfl) rfl ?_
        refine O.nil ?_
        refine C.ret ?_
        refine P1 (v := .bool (false)) rfl ?_
        exact ⟨(by rw [ne_at hx6_2 hx6_6 (by first | (simpa using c26) | (simpa using c25))]), (Mem.none hM6d)⟩
      · refine C.skip ?_
        refine C.region ?_
        refine O.val (v := I (((k : Nat) : Int))) rfl (Ru.move rfl) rfl ?_
        refine O.val (v := I ((((k + 1) : Nat) : Int))) rfl (Ru.congr (v := I ((((k : Nat) : Int) + 1))) (v' := I ((((k + 1) : Nat) : Int))) (Ru.add rfl rfl (by omega)) (I_congr (by first | omega | simp))) rfl ?_
        refine O.val (v := I ((((k + 1) : Nat) : Int))) rfl (Ru.assign rfl) rfl ?_
        refine O.nil ?_
        exact loopEnd (k + 1) (by (try dsimp only); omega) (Has.cons rfl (Has.cons rfl (Has.cons (I_congr (by first | rfl | omega | (simp; omega) | simp)) Has.nil))) ⟨(by (try dsimp only); omega), (eq_step hx6_2 hx6_6 hi1_l4 (by first | (simpa using c26) | (simpa using c25))), (hM6d.pick [] (by decide) rfl)⟩
    · refine C.exit ?_
      refine C.seq ?_
      refine C.region ?_
      refine O.val (v := .bool (true)) rfl (Ru.assign rfl) rfl ?_
      refine O.nil ?_
      refine C.ret ?_
      refine P1 (v := .bool (true)) rfl ?_
      exact ⟨(by rw [eq_all (by omega) (by omega) hi1_l4]), (Mem.none hM_l4)⟩

theorem equalPairs_fn (A : Option Addr) (c : Nat) (a : List PairT) (B : Option Addr) (d : Nat) (b : List PairT) (w : World) (hA : Rd w A ((a).flatMap encP)) (hB : Rd w B ((b).flatMap encP)) (ha : a.length ≤ 1048576) :
    Does Tryd.prog 35 [.slice (A) ((a).length) (c), .slice (B) ((b).length) (d)] w (fun v w1 => v = .bool (decide (a = b)) ∧ Mem w w1 [] []) := by
  have hM : Mem w w [] [] := Mem.refl
  refine Does.enter1 Tryd.func35 rfl Tryd.results35 Tryd.ntmps35 rfl ?_
  refine C.seq ?_
  refine C.region ?_
  refine O.val (v := .bool (false)) rfl (Ru.assign rfl) rfl ?_
  refine O.nil ?_
  refine C.seq ?_
  refine C.seq ?_
  refine C.region ?_
  refine O.val (v := .slice (A) ((a).length) (c)) rfl (Ru.move rfl) rfl ?_
  refine O.val (v := I ((((a).length : Nat) : Int))) rfl (Ru.blenSlice Tryd.underlying25 rfl) rfl ?_
  refine O.val (v := .slice (B) ((b).length) (d)) rfl (Ru.move rfl) rfl ?_
  refine O.val (v := I ((((b).length : Nat) : Int))) rfl (Ru.blenSlice Tryd.underlying25 rfl) rfl ?_
  refine O.val (v := .bool (decide ((((a).length : Nat) : Int) ≠ (((b).length : Nat) : Int)))) rfl (Ru.neq rfl rfl) rfl ?_
  refine O.nil ?_
  refine C.cond (p := (((a).length : Nat) : Int) ≠ (((b).length : Nat) : Int)) rfl (fun c10 => ?_) (fun c10 => ?_)
  · refine C.seq ?_
    refine C.region ?_
    refine O.val (v := .bool (false)) rfl (Ru.assign rfl) rfl ?_
    refine O.nil ?_
    refine C.ret ?_
    refine P1 (v := .bool (false)) rfl ?_
    exact ⟨(by rw [ne_len (by omega)]), (Mem.none hM)⟩
  · refine C.skip ?_
    refine C.seq ?_
    refine C.seq ?_
    refine C.region ?_
    refine O.val (v := I (0)) rfl (Ru.assign rfl) rfl ?_
    refine O.nil ?_
    refine C.block ?_
    refine C.loop (ι := Nat) (fun k => ([(0, .slice (A) ((a).length) (c)), (1, .slice (B) ((b).length) (d)), (5, I (((k : Nat) : Int)))] : List (Nat × Value))) (fun k w_ => (k ≤ a.length) ∧ (a.take k = b.take k) ∧ (Mem w w_ [] [])) (fun k => a.length - k) (0) (Has.cons rfl (Has.cons rfl (Has.cons (I_congr (by first | rfl | omega | (simp; omega) | simp)) Has.nil))) ⟨(Nat.zero_le _), (by (try dsimp only); simp), (hM.pick [] (by decide) rfl)⟩ (fun k σ w_l4 hI => ?_)
    try dsimp only at hI
    obtain ⟨hi0_l4, hi1_l4, hM_l4⟩ := hI
    refine C.seq ?_
    refine C.seq ?_
    refine C.region ?_
    refine O.val (v := I (((k : Nat) : Int))) rfl (Ru.move rfl) rfl ?_
    refine O.val (v := .slice (A) ((a).length) (c)) rfl (Ru.move rfl) rfl ?_
    refine O.val (v := I ((((a).length : Nat) : Int))) rfl (Ru.blenSlice Tryd.underlying25 rfl) rfl ?_
    refine O.val (v := .bool (decide (((k : Nat) : Int) < (((a).length : Nat) : Int)))) rfl (Ru.lss rfl rfl) rfl ?_
    refine O.nil ?_
    refine C.cond (p := ((k : Nat) : Int) < (((a).length : Nat) : Int)) rfl (fun c14 => ?_) (fun c14 => ?_)
    · refine C.skip ?_
      refine C.seq ?_
      refine C.block ?_
      refine C.seq ?_
      refine C.draws (fun w2 => Mem w w2 [] []) mixed (by kernel_rfl) (hM_l4.ext (kdrawn _)) ?_
      refine QO.val (v := .slice (A) ((a).length) (c)) rfl (fun w2 hw2 => Ru.move rfl) rfl ?_
      refine QO.val (v := I (((k : Nat) : Int))) rfl (fun w2 hw2 => Ru.move rfl) rfl ?_
      have hx6_2 : k < (a).length := (by first | omega | (simp; omega))
      refine QO.val (v := .pointer (ofs (A) (k * 2))) rfl (fun w2 hw2 => Ru.indexA (j := k) Tryd.underlying25 el61 rfl rfl (smf encP_len (hA.at hw2) hx6_2 rfl) (by omega) (by first | omega | (simp; omega))) rfl ?_
      refine QO.val rfl (fun w2 hw2 => Ru.loadN (vs := [I (((a)[k]'hx6_2).key), I (((a)[k]'hx6_2).val)]) el61 rfl rfl (smf encP_len (hA.at hw2) hx6_2 rfl) (ldn encP_len (hA.at hw2) hx6_2)) rfl ?_
      refine QO.val (v := .slice (B) ((b).length) (d)) rfl (fun w2 hw2 => Ru.move rfl) rfl ?_
      refine QO.val (v := I (((k : Nat) : Int))) rfl (fun w2 hw2 => Ru.move rfl) rfl ?_
      have hx6_6 : k < (b).length := (by first | omega | (simp; omega))
      refine QO.val (v := .pointer (ofs (B) (k * 2))) rfl (fun w2 hw2 => Ru.indexA (j := k) Tryd.underlying25 el61 rfl rfl (smf encP_len (hB.at hw2) hx6_6 rfl) (by omega) (by first | omega | (simp; omega))) rfl ?_
      refine QO.val rfl (fun w2 hw2 => Ru.loadN (vs := [I (((b)[k]'hx6_6).key), I (((b)[k]'hx6_6).val)]) el61 rfl rfl (smf encP_len (hB.at hw2) hx6_6 rfl) (ldn encP_len (hB.at hw2) hx6_6)) rfl ?_
      refine QO.val (v := .bool (decide (((a)[k]'hx6_2) ≠ ((b)[k]'hx6_6)))) rfl (fun w2 hw2 => Ru.congr (v := .bool (!([decide (((a)[k]'hx6_2).key = ((b)[k]'hx6_6).key), decide (((a)[k]'hx6_2).val = ((b)[k]'hx6_6).val)].all id))) (v' := .bool (decide (((a)[k]'hx6_2) ≠ ((b)[k]'hx6_6)))) (Ru.neqT (xs0 := [I (((a)[k]'hx6_2).key), I (((a)[k]'hx6_2).val)]) (bs := [I (((b)[k]'hx6_6).key), I (((b)[k]'hx6_6).val)]) (rs := [decide (((a)[k]'hx6_2).key = ((b)[k]'hx6_6).key), decide (((a)[k]'hx6_2).val = ((b)[k]'hx6_6).val)]) eq61 rfl rfl ⟨ceq_int Tryd.underlying3, ⟨ceq_int Tryd.underlying3, trivial⟩⟩) (congrArg Value.bool (Pair_ne ((a)[k]'hx6_2) ((b)[k]'hx6_6)))) rfl ?_
      refine QO.nil ?_
      intro w6d hM6d
      refine C.cond (p := ((a)[k]'hx6_2) ≠ ((b)[k]'hx6_6)) rfl (fun c25 => ?_) (fun c25 => ?_)
      · refine C.seq ?_
        refine C.region ?_
        refine O.val (v := .bool (false)) rfl (Ru.assign rfl) rfl ?_
        refine O.nil ?_
        refine C.ret ?_
        refine P1 (v := .bool (false)) rfl ?_
        exact ⟨(by rw [ne_at hx6_2 hx6_6 (by first | (simpa using c26) | (simpa using c25))]), (Mem.none hM6d)⟩
      · refine C.skip ?_
        refine C.region ?_
        refine O.val (v := I (((k : Nat) : Int))) rfl (Ru.move rfl) rfl ?_
        refine O.val (v := I ((((k + 1) : Nat) : Int))) rfl (Ru.congr (v := I ((((k : Nat) : Int) + 1))) (v' := I ((((k + 1) : Nat) : Int))) (Ru.add rfl rfl (by omega)) (I_congr (by first | omega | simp))) rfl ?_
        refine O.val (v := I ((((k + 1) : Nat) : Int))) rfl (Ru.assign rfl) rfl ?_
        refine O.nil ?_
        exact loopEnd (k + 1) (by (try dsimp only); omega) (Has.cons rfl (Has.cons rfl (Has.cons (I_congr (by first | rfl | omega | (simp; omega) | simp)) Has.nil))) ⟨(by (try dsimp only); omega), (eq_step hx6_2 hx6_6 hi1_l4 (by first | (simpa using c26) | (simpa using c25))), (hM6d.pick [] (by decide) rfl)⟩
    · refine C.exit ?_
      refine C.seq ?_
      refine C.region ?_
      refine O.val (v := .bool (true)) rfl (Ru.assign rfl) rfl ?_
      refine O.nil ?_
      refine C.ret ?_
      refine P1 (v := .bool (true)) rfl ?_
      exact ⟨(by rw [eq_all (by omega) (by omega) hi1_l4]), (Mem.none hM_l4)⟩

theorem szPairS_fn (A : Option Addr) (c : Nat) (l : List PairT) (left : Int) (w : World) (hA : Rd w A ((l).flatMap encP)) (hl : l.length ≤ 9223372036854775807) (h0 : 0 ≤ left ∧ left ≤ 1048576) :
    Does Tryd.prog 13 [.slice (A) ((l).length) (c), I (left)] w (fun v w1 => v = I ((if left < (l.length : Int) then (-1 : Int) else left - (l.length : Int))) ∧ Mem w w1 [] []) := by
  have hM : Mem w w [] [] := Mem.refl
  refine Does.enter1 Tryd.func13 rfl Tryd.results13 Tryd.ntmps13 rfl ?_
  refine C.seq ?_
  refine C.region ?_
  refine O.val (v := I (0)) rfl (Ru.assign rfl) rfl ?_
  refine O.nil ?_
  refine C.seq ?_
  refine C.region ?_
  refine O.val (v := I (left)) rfl (Ru.move rfl) rfl ?_
  refine O.val (v := .slice (A) ((l).length) (c)) rfl (Ru.move rfl) rfl ?_
  refine O.val (v := I ((((l).length : Nat) : Int))) rfl (Ru.blenSlice Tryd.underlying22 rfl) rfl ?_
  refine O.val (v := I ((left - (((l).length : Nat) : Int)))) rfl (Ru.sub rfl rfl (by omega)) rfl ?_
  refine O.val (v := I ((left - (((l).length : Nat) : Int)))) rfl (Ru.assign rfl) rfl ?_
  refine O.nil ?_
  refine C.seq ?_
  refine C.seq ?_
  refine C.region ?_
  refine O.val (v := I ((left - (((l).length : Nat) : Int)))) rfl (Ru.move rfl) rfl ?_
  refine O.val (v := .bool (decide ((left - (((l).length : Nat) : Int)) < 0))) rfl (Ru.lss rfl rfl) rfl ?_
  refine O.nil ?_
  refine C.cond (p := (left - (((l).length : Nat) : Int)) < 0) rfl (fun c10 => ?_) (fun c10 => ?_)
  · refine C.seq ?_
    refine C.region ?_
    refine O.val (v := I ((-1))) rfl (Ru.assign rfl) rfl ?_
    refine O.nil ?_
    refine C.ret ?_
    refine P1 (v := I ((-1))) rfl ?_
    exact ⟨(by rw [if_pos (by omega)]), (Mem.none hM)⟩
  · refine C.skip ?_
    refine C.seq ?_
    refine C.region ?_
    refine O.val (v := I ((left - (((l).length : Nat) : Int)))) rfl (Ru.move rfl) rfl ?_
    refine O.val (v := I ((left - (((l).length : Nat) : Int)))) rfl (Ru.assign rfl) rfl ?_
    refine O.nil ?_
    refine C.ret ?_
    refine P1 (v := I ((left - (((l).length : Nat) : Int)))) rfl ?_
    exact ⟨(by rw [if_neg (by omega)]), (Mem.none hM)⟩

theorem markPairS_fn (A : Option Addr) (c : Nat) (l : List PairT) (k : Nat) (w : World) (hM : Mem w w [(Value.slice (A) ((l).length) (c)).ownBlock] [[⟨.slice (A) ((l).length) (c), 61, 2, ((l).length), (l).flatMap encP⟩]]) (hl : l.length ≤ 1048576) (hk0 : k ≤ 1000000000) :
    Does Tryd.prog 28 [.slice (A) ((l).length) (c), I (((k : Nat) : Int))] w (fun v w1 => v = I (((k + 2 * l.length : Nat) : Int)) ∧ Mem w w1 [(Value.slice (A) ((l).length) (c)).ownBlock] [[⟨.slice (A) ((l).length) (c), 61, 2, ((l).length), (mkL (fun t => ⟨((k + 2 * t : Nat) : Int), ((k + 2 * t + 1 : Nat) : Int)⟩ : Nat → PairT) l.length).flatMap encP⟩]]) := by
  refine Does.enter1 Tryd.func28 rfl Tryd.results28 Tryd.ntmps28 rfl ?_
  refine C.seq ?_
  refine C.region ?_
  refine O.val (v := I (0)) rfl (Ru.assign rfl) rfl ?_
  refine O.nil ?_
  refine C.seq ?_
  refine C.seq ?_
  refine C.region ?_
  refine O.val (v := I (0)) rfl (Ru.assign rfl) rfl ?_
  refine O.nil ?_
  refine C.block ?_
  have hq1 : (l : List PairT) = mkL (fun t => ⟨((k + 2 * t : Nat) : Int), ((k + 2 * t + 1 : Nat) : Int)⟩ : Nat → PairT) 0 ++ l.drop 0 := mkL_zero
  have hMn1 : Mem w w [(Value.slice (A) ((l).length) (c)).ownBlock] [[⟨.slice (A) ((l).length) (c), 61, 2, ((l).length), (mkL (fun t => ⟨((k + 2 * t : Nat) : Int), ((k + 2 * t + 1 : Nat) : Int)⟩ : Nat → PairT) 0 ++ l.drop 0).flatMap encP⟩]] := hM.relen 0 (n' := (l).length) (xs' := (mkL (fun t => ⟨((k + 2 * t : Nat) : Int), ((k + 2 * t + 1 : Nat) : Int)⟩ : Nat → PairT) 0 ++ l.drop 0).flatMap encP) rfl (by first | rfl | exact congrArg List.length hq1 | (have hqq := congrArg List.length hq1; first | omega | (simp at hqq ⊢; omega)) | (simp; done) | (simp; omega)) (congrArg (fun z_ => (z_).flatMap encP) hq1) rfl
  refine C.loop (ι := Nat) (fun i => ([(0, .slice (A) ((l).length) (c)), (1, I (((k + 2 * i : Nat) : Int))), (5, I (((i : Nat) : Int)))] : List (Nat × Value))) (fun i w_ => (i ≤ l.length) ∧ (Mem w w_ [(Value.slice (A) ((l).length) (c)).ownBlock] [[⟨.slice (A) ((l).length) (c), 61, 2, ((l).length), (mkL (fun t => ⟨((k + 2 * t : Nat) : Int), ((k + 2 * t + 1 : Nat) : Int)⟩ : Nat → PairT) i ++ l.drop i).flatMap encP⟩]])) (fun i => l.length - i) (0) (Has.cons rfl (Has.cons (I_congr (by first | rfl | omega | (simp; omega) | simp)) (Has.cons (I_congr (by first | rfl | omega | (simp; omega) | simp)) Has.nil))) ⟨(Nat.zero_le _), (hMn1.pick [0] (by decide) rfl)⟩ (fun i σ w_l2 hI => ?_)
  try dsimp only at hI
  obtain ⟨hi0_l2, hM_l2⟩ := hI
  have hcl0_l2 := (hM_l2.cap 0 rfl).1
  refine C.seq ?_
  refine C.seq ?_
  refine C.region ?_
  refine O.val (v := I (((i : Nat) : Int))) rfl (Ru.move rfl) rfl ?_
  refine O.val (v := .slice (A) ((l).length) (c)) rfl (Ru.move rfl) rfl ?_
  refine O.val (v := I ((((l).length : Nat) : Int))) rfl (Ru.blenSlice Tryd.underlying25 rfl) rfl ?_
  refine O.val (v := .bool (decide (((i : Nat) : Int) < (((l).length : Nat) : Int)))) rfl (Ru.lss rfl rfl) rfl ?_
  refine O.nil ?_
  refine C.cond (p := ((i : Nat) : Int) < (((l).length : Nat) : Int)) rfl (fun c9 => ?_) (fun c9 => ?_)
  · refine C.skip ?_
    refine C.seq ?_
    refine C.block ?_
    refine C.seq ?_
    refine C.region ?_
    refine O.val (v := .slice (A) ((l).length) (c)) rfl (Ru.move rfl) rfl ?_
    refine O.val (v := I (((i : Nat) : Int))) rfl (Ru.move rfl) rfl ?_
    refine O.val (v := I (((k + 2 * i : Nat) : Int))) rfl (Ru.move rfl) rfl ?_
    have hx4_3 : i < (mkL (fun t => ⟨((k + 2 * t : Nat) : Int), ((k + 2 * t + 1 : Nat) : Int)⟩ : Nat → PairT) i ++ l.drop i).length := (by first | (rw [mkL_mid hi0_l2]; omega) | (simp only [List.length_set]; rw [mkL_mid hi0_l2]; omega))
    refine O.val (v := .pointer (ofs (A) (i * 2))) rfl (Ru.indexA (j := i) Tryd.underlying25 el61 rfl rfl (smf encP_len (hM_l2.rd 0 rfl) hx4_3 rfl) (by omega) (by omega)) rfl ?_
    refine O.val (v := .pointer (ofs (A) (i * 2 + 0))) rfl (Ru.fieldA fl61_0 rfl (smf encP_len (hM_l2.rd 0 rfl) hx4_3 rfl)) rfl ?_
    refine O.mstore (vs := [I (((k + 2 * i : Nat) : Int))]) (xs' := ((mkL (fun t => ⟨((k + 2 * t : Nat) : Int), ((k + 2 * t + 1 : Nat) : Int)⟩ : Nat → PairT) i ++ l.drop i).set (i) (⟨((k + 2 * i : Nat) : Int), ((mkL (fun t => ⟨((k + 2 * t : Nat) : Int), ((k + 2 * t + 1 : Nat) : Int)⟩ : Nat → PairT) i ++ l.drop i)[i]'hx4_3).val⟩ : PairT)).flatMap encP) 0 0 hM_l2 rfl rfl rfl el3 rfl rfl rfl rfl rfl (by rw [flat_len encP_len]; simp; omega) (by simp) (spl_part encP_len (l := mkL (fun t => ⟨((k + 2 * t : Nat) : Int), ((k + 2 * t + 1 : Nat) : Int)⟩ : Nat → PairT) i ++ l.drop i) (a := (⟨((k + 2 * i : Nat) : Int), ((mkL (fun t => ⟨((k + 2 * t : Nat) : Int), ((k + 2 * t + 1 : Nat) : Int)⟩ : Nat → PairT) i ++ l.drop i)[i]'hx4_3).val⟩ : PairT)) hx4_3 (by simp) rfl) rfl (fun w4_5 (hM4_5 : Mem w w4_5 [(Value.slice (A) ((l).length) (c)).ownBlock] [[⟨.slice (A) ((l).length) (c), 61, 2, ((l).length), ((mkL (fun t => ⟨((k + 2 * t : Nat) : Int), ((k + 2 * t + 1 : Nat) : Int)⟩ : Nat → PairT) i ++ l.drop i).set (i) (⟨((k + 2 * i : Nat) : Int), ((mkL (fun t => ⟨((k + 2 * t : Nat) : Int), ((k + 2 * t + 1 : Nat) : Int)⟩ : Nat → PairT) i ++ l.drop i)[i]'hx4_3).val⟩ : PairT)).flatMap encP⟩]]) => ?_)
    refine O.nil ?_
    refine C.seq ?_
    refine C.region ?_
    refine O.val (v := I (((k + 2 * i : Nat) : Int))) rfl (Ru.move rfl) rfl ?_
    refine O.val (v := I (((k + 2 * i + 1 : Nat) : Int))) rfl (Ru.congr (v := I ((((k + 2 * i : Nat) : Int) + 1))) (v' := I (((k + 2 * i + 1 : Nat) : Int))) (Ru.add rfl rfl (by omega)) (I_congr (by omega))) rfl ?_
    refine O.val (v := I (((k + 2 * i + 1 : Nat) : Int))) rfl (Ru.assign rfl) rfl ?_
    refine O.nil ?_
    refine C.seq ?_
    refine C.region ?_
    refine O.val (v := .slice (A) ((l).length) (c)) rfl (Ru.move rfl) rfl ?_
    refine O.val (v := I (((i : Nat) : Int))) rfl (Ru.move rfl) rfl ?_
    refine O.val (v := I (((k + 2 * i + 1 : Nat) : Int))) rfl (Ru.move rfl) rfl ?_
    have hx6_3 : i < ((mkL (fun t => ⟨((k + 2 * t : Nat) : Int), ((k + 2 * t + 1 : Nat) : Int)⟩ : Nat → PairT) i ++ l.drop i).set (i) (⟨((k + 2 * i : Nat) : Int), ((mkL (fun t => ⟨((k + 2 * t : Nat) : Int), ((k + 2 * t + 1 : Nat) : Int)⟩ : Nat → PairT) i ++ l.drop i)[i]'hx4_3).val⟩ : PairT)).length := (by first | (rw [mkL_mid hi0_l2]; omega) | (simp only [List.length_set]; rw [mkL_mid hi0_l2]; omega))
    refine O.val (v := .pointer (ofs (A) (i * 2))) rfl (Ru.indexA (j := i) Tryd.underlying25 el61 rfl rfl (smf encP_len (hM4_5.rd 0 rfl) hx6_3 rfl) (by omega) (by omega)) rfl ?_
    refine O.val (v := .pointer (ofs (A) (i * 2 + 1))) rfl (Ru.fieldA fl61_1 rfl (smf encP_len (hM4_5.rd 0 rfl) hx6_3 rfl)) rfl ?_
    refine O.mstore (vs := [I (((k + 2 * i + 1 : Nat) : Int))]) (xs' := (((mkL (fun t => ⟨((k + 2 * t : Nat) : Int), ((k + 2 * t + 1 : Nat) : Int)⟩ : Nat → PairT) i ++ l.drop i).set (i) (⟨((k + 2 * i : Nat) : Int), ((mkL (fun t => ⟨((k + 2 * t : Nat) : Int), ((k + 2 * t + 1 : Nat) : Int)⟩ : Nat → PairT) i ++ l.drop i)[i]'hx4_3).val⟩ : PairT)).set (i) (⟨(((mkL (fun t => ⟨((k + 2 * t : Nat) : Int), ((k + 2 * t + 1 : Nat) : Int)⟩ : Nat → PairT) i ++ l.drop i).set (i) (⟨((k + 2 * i : Nat) : Int), ((mkL (fun t => ⟨((k + 2 * t : Nat) : Int), ((k + 2 * t + 1 : Nat) : Int)⟩ : Nat → PairT) i ++ l.drop i)[i]'hx4_3).val⟩ : PairT))[i]'hx6_3).key, ((k + 2 * i + 1 : Nat) : Int)⟩ : PairT)).flatMap encP) 0 0 hM4_5 rfl rfl rfl el3 rfl rfl rfl rfl rfl (by rw [flat_len encP_len]; simp; omega) (by simp) (spl_part encP_len (l := (mkL (fun t => ⟨((k + 2 * t : Nat) : Int), ((k + 2 * t + 1 : Nat) : Int)⟩ : Nat → PairT) i ++ l.drop i).set (i) (⟨((k + 2 * i : Nat) : Int), ((mkL (fun t => ⟨((k + 2 * t : Nat) : Int), ((k + 2 * t + 1 : Nat) : Int)⟩ : Nat → PairT) i ++ l.drop i)[i]'hx4_3).val⟩ : PairT)) (a := (⟨(((mkL (fun t => ⟨((k + 2 * t : Nat) : Int), ((k + 2 * t + 1 : Nat) : Int)⟩ : Nat → PairT) i ++ l.drop i).set (i) (⟨((k + 2 * i : Nat) : Int), ((mkL (fun t => ⟨((k + 2 * t : Nat) : Int), ((k + 2 * t + 1 : Nat) : Int)⟩ : Nat → PairT) i ++ l.drop i)[i]'hx4_3).val⟩ : PairT))[i]'hx6_3).key, ((k + 2 * i + 1 : Nat) : Int)⟩ : PairT)) hx6_3 (by simp) rfl) rfl (fun w6_5 (hM6_5 : Mem w w6_5 [(Value.slice (A) ((l).length) (c)).ownBlock] [[⟨.slice (A) ((l).length) (c), 61, 2, ((l).length), (((mkL (fun t => ⟨((k + 2 * t : Nat) : Int), ((k + 2 * t + 1 : Nat) : Int)⟩ : Nat → PairT) i ++ l.drop i).set (i) (⟨((k + 2 * i : Nat) : Int), ((mkL (fun t => ⟨((k + 2 * t : Nat) : Int), ((k + 2 * t + 1 : Nat) : Int)⟩ : Nat → PairT) i ++ l.drop i)[i]'hx4_3).val⟩ : PairT)).set (i) (⟨(((mkL (fun t => ⟨((k + 2 * t : Nat) : Int), ((k + 2 * t + 1 : Nat) : Int)⟩ : Nat → PairT) i ++ l.drop i).set (i) (⟨((k + 2 * i : Nat) : Int), ((mkL (fun t => ⟨((k + 2 * t : Nat) : Int), ((k + 2 * t + 1 : Nat) : Int)⟩ : Nat → PairT) i ++ l.drop i)[i]'hx4_3).val⟩ : PairT))[i]'hx6_3).key, ((k + 2 * i + 1 : Nat) : Int)⟩ : PairT)).flatMap encP⟩]]) => ?_)
    refine O.nil ?_
    refine C.region ?_
    refine O.val (v := I (((k + 2 * i + 1 : Nat) : Int))) rfl (Ru.move rfl) rfl ?_
    refine O.val (v := I (((k + 2 * (i + 1) : Nat) : Int))) rfl (Ru.congr (v := I ((((k + 2 * i + 1 : Nat) : Int) + 1))) (v' := I (((k + 2 * (i + 1) : Nat) : Int))) (Ru.add rfl rfl (by omega)) (I_congr (by omega))) rfl ?_
    refine O.val (v := I (((k + 2 * (i + 1) : Nat) : Int))) rfl (Ru.assign rfl) rfl ?_
    refine O.nil ?_
    refine C.region ?_
    refine O.val (v := I (((i : Nat) : Int))) rfl (Ru.move rfl) rfl ?_
    refine O.val (v := I ((((i + 1) : Nat) : Int))) rfl (Ru.congr (v := I ((((i : Nat) : Int) + 1))) (v' := I ((((i + 1) : Nat) : Int))) (Ru.add rfl rfl (by omega)) (I_congr (by first | omega | simp))) rfl ?_
    refine O.val (v := I ((((i + 1) : Nat) : Int))) rfl (Ru.assign rfl) rfl ?_
    refine O.nil ?_
    have hq2 : (((mkL (fun t => ⟨((k + 2 * t : Nat) : Int), ((k + 2 * t + 1 : Nat) : Int)⟩ : Nat → PairT) i ++ l.drop i).set (i) (⟨((k + 2 * i : Nat) : Int), ((mkL (fun t => ⟨((k + 2 * t : Nat) : Int), ((k + 2 * t + 1 : Nat) : Int)⟩ : Nat → PairT) i ++ l.drop i)[i]'hx4_3).val⟩ : PairT)).set (i) (⟨(((mkL (fun t => ⟨((k + 2 * t : Nat) : Int), ((k + 2 * t + 1 : Nat) : Int)⟩ : Nat → PairT) i ++ l.drop i).set (i) (⟨((k + 2 * i : Nat) : Int), ((mkL (fun t => ⟨((k + 2 * t : Nat) : Int), ((k + 2 * t + 1 : Nat) : Int)⟩ : Nat → PairT) i ++ l.drop i)[i]'hx4_3).val⟩ : PairT))[i]'hx6_3).key, ((k + 2 * i + 1 : Nat) : Int)⟩ : PairT) : List PairT) = mkL (fun t => ⟨((k + 2 * t : Nat) : Int), ((k + 2 * t + 1 : Nat) : Int)⟩ : Nat → PairT) (i + 1) ++ l.drop (i + 1) := (by simp only [List.set_set, List.getElem_set_self]; exact mkL_set (by omega))
    have hMn2 : Mem w w6_5 [(Value.slice (A) ((l).length) (c)).ownBlock] [[⟨.slice (A) ((l).length) (c), 61, 2, ((l).length), (mkL (fun t => ⟨((k + 2 * t : Nat) : Int), ((k + 2 * t + 1 : Nat) : Int)⟩ : Nat → PairT) (i + 1) ++ l.drop (i + 1)).flatMap encP⟩]] := hM6_5.relen 0 (n' := (l).length) (xs' := (mkL (fun t => ⟨((k + 2 * t : Nat) : Int), ((k + 2 * t + 1 : Nat) : Int)⟩ : Nat → PairT) (i + 1) ++ l.drop (i + 1)).flatMap encP) rfl (by first | rfl | exact congrArg List.length hq2 | (have hqq := congrArg List.length hq2; first | omega | (simp at hqq ⊢; omega)) | (simp; done) | (simp; omega)) (congrArg (fun z_ => (z_).flatMap encP) hq2) rfl
    exact loopEnd (i + 1) (by (try dsimp only); omega) (Has.cons rfl (Has.cons (I_congr (by first | rfl | omega | (simp; omega) | simp)) (Has.cons (I_congr (by first | rfl | omega | (simp; omega) | simp)) Has.nil))) ⟨(by (try dsimp only); omega), (hMn2.pick [0] (by decide) rfl)⟩
  · refine C.exit ?_
    refine C.seq ?_
    refine C.region ?_
    refine O.val (v := I (((k + 2 * i : Nat) : Int))) rfl (Ru.move rfl) rfl ?_
    refine O.val (v := I (((k + 2 * i : Nat) : Int))) rfl (Ru.assign rfl) rfl ?_
    refine O.nil ?_
    refine C.ret ?_
    refine P1 (v := I (((k + 2 * i : Nat) : Int))) rfl ?_
    have hil : i = l.length := by omega
    have hq3 : (mkL (fun t => ⟨((k + 2 * t : Nat) : Int), ((k + 2 * t + 1 : Nat) : Int)⟩ : Nat → PairT) i ++ l.drop i : List PairT) = mkL (fun t => ⟨((k + 2 * t : Nat) : Int), ((k + 2 * t + 1 : Nat) : Int)⟩ : Nat → PairT) l.length := (mkL_all (by omega) hi0_l2)
    have hMn3 : Mem w w_l2 [(Value.slice (A) ((l).length) (c)).ownBlock] [[⟨.slice (A) ((l).length) (c), 61, 2, ((l).length), (mkL (fun t => ⟨((k + 2 * t : Nat) : Int), ((k + 2 * t + 1 : Nat) : Int)⟩ : Nat → PairT) l.length).flatMap encP⟩]] := hM_l2.relen 0 (n' := (l).length) (xs' := (mkL (fun t => ⟨((k + 2 * t : Nat) : Int), ((k + 2 * t + 1 : Nat) : Int)⟩ : Nat → PairT) l.length).flatMap encP) rfl (by first | rfl | exact congrArg List.length hq3 | (have hqq := congrArg List.length hq3; first | omega | (simp at hqq ⊢; omega)) | (simp; done) | (simp; omega)) (congrArg (fun z_ => (z_).flatMap encP) hq3) rfl
    exact ⟨(by rw [hil]), (hMn3.pick [0] (by decide) rfl)⟩

theorem heldPairS_fn (A : Option Addr) (n : Nat) (c : Nat) (k : Nat) (w : World) (hA : Rd w A ((mkL (fun t => ⟨((k + 2 * t : Nat) : Int), ((k + 2 * t + 1 : Nat) : Int)⟩ : Nat → PairT) n).flatMap encP)) (hn : n ≤ 1048576) (hk0 : k ≤ 1000000000) :
    Does Tryd.prog 29 [.slice (A) (n) (c), I (((k : Nat) : Int))] w (fun v w1 => v = I (((k + 2 * n : Nat) : Int)) ∧ Mem w w1 [] []) := by
  have hM : Mem w w [] [] := Mem.refl
  refine Does.enter1 Tryd.func29 rfl Tryd.results29 Tryd.ntmps29 rfl ?_
  refine C.seq ?_
  refine C.region ?_
  refine O.val (v := I (0)) rfl (Ru.assign rfl) rfl ?_
  refine O.nil ?_
  refine C.seq ?_
  refine C.seq ?_
  refine C.region ?_
  refine O.val (v := I (0)) rfl (Ru.assign rfl) rfl ?_
  refine O.nil ?_
  refine C.block ?_
  refine C.loop (ι := Nat) (fun i => ([(0, .slice (A) (n) (c)), (1, I (((k + 2 * i : Nat) : Int))), (5, I (((i : Nat) : Int)))] : List (Nat × Value))) (fun i w_ => (i ≤ n) ∧ (Mem w w_ [] [])) (fun i => n - i) (0) (Has.cons rfl (Has.cons (I_congr (by first | rfl | omega | (simp; omega) | simp)) (Has.cons (I_congr (by first | rfl | omega | (simp; omega) | simp)) Has.nil))) ⟨(Nat.zero_le _), (hM.pick [] (by decide) rfl)⟩ (fun i σ w_l2 hI => ?_)
  try dsimp only at hI
  obtain ⟨hi0_l2, hM_l2⟩ := hI
  refine C.seq ?_
  refine C.seq ?_
  refine C.region ?_
  refine O.val (v := I (((i : Nat) : Int))) rfl (Ru.move rfl) rfl ?_
  refine O.val (v := .slice (A) (n) (c)) rfl (Ru.move rfl) rfl ?_
  refine O.val (v := I (((n : Nat) : Int))) rfl (Ru.blenSlice Tryd.underlying25 rfl) rfl ?_
  refine O.val (v := .bool (decide (((i : Nat) : Int) < ((n : Nat) : Int)))) rfl (Ru.lss rfl rfl) rfl ?_
  refine O.nil ?_
  refine C.cond (p := ((i : Nat) : Int) < ((n : Nat) : Int)) rfl (fun c9 => ?_) (fun c9 => ?_)
  · refine C.skip ?_
    refine C.seq ?_
    refine C.block ?_
    refine C.seq ?_
    refine C.seq ?_
    refine C.region ?_
    refine O.val (v := .slice (A) (n) (c)) rfl (Ru.move rfl) rfl ?_
    refine O.val (v := I (((i : Nat) : Int))) rfl (Ru.move rfl) rfl ?_
    have hx4_2 : i < (mkL (fun t => ⟨((k + 2 * t : Nat) : Int), ((k + 2 * t + 1 : Nat) : Int)⟩ : Nat → PairT) n).length := (by rw [mkL_len]; omega)
    refine O.val (v := .pointer (ofs (A) (i * 2))) rfl (Ru.indexA (j := i) Tryd.underlying25 el61 rfl rfl (smf encP_len (hA.at hM_l2) hx4_2 rfl) (by omega) (by first | omega | (simp; omega))) rfl ?_
    refine O.val (v := .pointer (ofs (A) (i * 2 + 0))) rfl (Ru.fieldA fl61_0 rfl (smf encP_len (hA.at hM_l2) hx4_2 rfl)) rfl ?_
    refine O.val rfl (Ru.load1 el3 rfl (ldf encP_len (hA.at hM_l2) hx4_2 rfl)) rfl ?_
    refine O.val (v := I (((k + 2 * i : Nat) : Int))) rfl (Ru.move rfl) rfl ?_
    refine O.val (v := .bool (decide (((mkL (fun t => ⟨((k + 2 * t : Nat) : Int), ((k + 2 * t + 1 : Nat) : Int)⟩ : Nat → PairT) n)[i]'hx4_2).key ≠ ((k + 2 * i : Nat) : Int)))) rfl (Ru.neq rfl rfl) rfl ?_
    refine O.nil ?_
    refine C.cond (p := ((mkL (fun t => ⟨((k + 2 * t : Nat) : Int), ((k + 2 * t + 1 : Nat) : Int)⟩ : Nat → PairT) n)[i]'hx4_2).key ≠ ((k + 2 * i : Nat) : Int)) rfl (fun c18 => ?_) (fun c18 => ?_)
    · exact absurd (by rw [mkL_get]) c18
    · refine C.skip ?_
      refine C.seq ?_
      refine C.region ?_
      refine O.val (v := I (((k + 2 * i : Nat) : Int))) rfl (Ru.move rfl) rfl ?_
      refine O.val (v := I (((k + 2 * i + 1 : Nat) : Int))) rfl (Ru.congr (v := I ((((k + 2 * i : Nat) : Int) + 1))) (v' := I (((k + 2 * i + 1 : Nat) : Int))) (Ru.add rfl rfl (by omega)) (I_congr (by omega))) rfl ?_
      refine O.val (v := I (((k + 2 * i + 1 : Nat) : Int))) rfl (Ru.assign rfl) rfl ?_
      refine O.nil ?_
      refine C.seq ?_
      refine C.seq ?_
      refine C.region ?_
      refine O.val (v := .slice (A) (n) (c)) rfl (Ru.move rfl) rfl ?_
      refine O.val (v := I (((i : Nat) : Int))) rfl (Ru.move rfl) rfl ?_
      have hx7_2 : i < (mkL (fun t => ⟨((k + 2 * t : Nat) : Int), ((k + 2 * t + 1 : Nat) : Int)⟩ : Nat → PairT) n).length := (by rw [mkL_len]; omega)
      refine O.val (v := .pointer (ofs (A) (i * 2))) rfl (Ru.indexA (j := i) Tryd.underlying25 el61 rfl rfl (smf encP_len (hA.at hM_l2) hx7_2 rfl) (by omega) (by first | omega | (simp; omega))) rfl ?_
      refine O.val (v := .pointer (ofs (A) (i * 2 + 1))) rfl (Ru.fieldA fl61_1 rfl (smf encP_len (hA.at hM_l2) hx7_2 rfl)) rfl ?_
      refine O.val rfl (Ru.load1 el3 rfl (ldf encP_len (hA.at hM_l2) hx7_2 rfl)) rfl ?_
      refine O.val (v := I (((k + 2 * i + 1 : Nat) : Int))) rfl (Ru.move rfl) rfl ?_
      refine O.val (v := .bool (decide (((mkL (fun t => ⟨((k + 2 * t : Nat) : Int), ((k + 2 * t + 1 : Nat) : Int)⟩ : Nat → PairT) n)[i]'hx7_2).val ≠ ((k + 2 * i + 1 : Nat) : Int)))) rfl (Ru.neq rfl rfl) rfl ?_
      refine O.nil ?_
      refine C.cond (p := ((mkL (fun t => ⟨((k + 2 * t : Nat) : Int), ((k + 2 * t + 1 : Nat) : Int)⟩ : Nat → PairT) n)[i]'hx7_2).val ≠ ((k + 2 * i + 1 : Nat) : Int)) rfl (fun c27 => ?_) (fun c27 => ?_)
      · exact absurd (by rw [mkL_get]) c27
      · refine C.skip ?_
        refine C.region ?_
        refine O.val (v := I (((k + 2 * i + 1 : Nat) : Int))) rfl (Ru.move rfl) rfl ?_
        refine O.val (v := I (((k + 2 * (i + 1) : Nat) : Int))) rfl (Ru.congr (v := I ((((k + 2 * i + 1 : Nat) : Int) + 1))) (v' := I (((k + 2 * (i + 1) : Nat) : Int))) (Ru.add rfl rfl (by omega)) (I_congr (by omega))) rfl ?_
        refine O.val (v := I (((k + 2 * (i + 1) : Nat) : Int))) rfl (Ru.assign rfl) rfl ?_
        refine O.nil ?_
        refine C.region ?_
        refine O.val (v := I (((i : Nat) : Int))) rfl (Ru.move rfl) rfl ?_
        refine O.val (v := I ((((i + 1) : Nat) : Int))) rfl (Ru.congr (v := I ((((i : Nat) : Int) + 1))) (v' := I ((((i + 1) : Nat) : Int))) (Ru.add rfl rfl (by omega)) (I_congr (by first | omega | simp))) rfl ?_
        refine O.val (v := I ((((i + 1) : Nat) : Int))) rfl (Ru.assign rfl) rfl ?_
        refine O.nil ?_
        exact loopEnd (i + 1) (by (try dsimp only); omega) (Has.cons rfl (Has.cons (I_congr (by first | rfl | omega | (simp; omega) | simp)) (Has.cons (I_congr (by first | rfl | omega | (simp; omega) | simp)) Has.nil))) ⟨(by (try dsimp only); omega), (hM_l2.pick [] (by decide) rfl)⟩
  · refine C.exit ?_
    refine C.seq ?_
    refine C.region ?_
    refine O.val (v := I (((k + 2 * i : Nat) : Int))) rfl (Ru.move rfl) rfl ?_
    refine O.val (v := I (((k + 2 * i : Nat) : Int))) rfl (Ru.assign rfl) rfl ?_
    refine O.nil ?_
    refine C.ret ?_
    refine P1 (v := I (((k + 2 * i : Nat) : Int))) rfl ?_
    exact ⟨(by rw [show i = n by omega]), (Mem.none hM_l2)⟩
end Go.Proofs.YtfdlmimgooeioaaDoor
