/- Own layer: part of this seat (FE). Plain theorems; no conditions. -/
import Derived.Test.YtfdlmimgooeioaaDoorFD
set_option linter.unusedVariables false
set_option linter.unusedSimpArgs false
namespace Go.Proofs.YtfdlmimgooeioaaDoor
open Go.Px
theorem toIntS_fn (A : Option Addr) (c : Nat) (l : List Int) (w : World) (hA : Rd w A ((l).map I)) (hl : l.length ≤ 1048576) :
    Does Tryd.prog 114 [.slice (A) ((l).length) (c)] w (fun v w1 => ∃ (A1 : Option Addr) (c1 : Nat), v = .slice (A1) ((l).length) (c1) ∧ Mem w w1 [] [[⟨.slice (A1) ((l).length) (c1), 3, 1, ((l).length), (l).map I⟩]]) := by
  have hM : Mem w w [] [] := Mem.refl
  refine Does.enter1 Tryd.func114 rfl Tryd.results114 Tryd.ntmps114 rfl ?_
  refine C.seq ?_
  refine C.region ?_
  refine O.val (v := .slice (none) (0) (0)) rfl (Ru.assign rfl) rfl ?_
  refine O.nil ?_
  refine C.seq ?_
  refine C.region ?_
  refine O.val (v := .slice (A) ((l).length) (c)) rfl (Ru.move rfl) rfl ?_
  refine O.val (v := I ((((l).length : Nat) : Int))) rfl (Ru.blenSlice Tryd.underlying51 rfl) rfl ?_
  refine O.mmake (k := (l).length) (sz := 1) (xs := (List.replicate ((l).length) (0 : Int)).map I) hM rfl Tryd.underlying51 el3 rfl rfl rfl rfl (by omega) (by omega) (zer_map rfl) (fun w1_2 b1_2 hb1_2 (hM1_2 : Mem w w1_2 [] [[⟨.slice (bl b1_2) ((l).length) ((l).length), 3, 1, ((l).length), (List.replicate ((l).length) (0 : Int)).map I⟩]]) => ?_)
  refine O.val (v := .slice (bl b1_2) ((l).length) ((l).length)) rfl (Ru.assign rfl) rfl ?_
  refine O.nil ?_
  refine C.seq ?_
  refine C.seq ?_
  refine C.region ?_
  refine O.val (v := I (0)) rfl (Ru.assign rfl) rfl ?_
  refine O.nil ?_
  refine C.block ?_
  have hq1 : (List.replicate ((l).length) (0 : Int) : List Int) = l.take 0 ++ List.replicate (l.length - 0) (0 : Int) := fillI_zero
  have hMn1 : Mem w w1_2 [] [[⟨.slice (bl b1_2) (l.length) ((l).length), 3, 1, (l.length), (l.take 0 ++ List.replicate (l.length - 0) (0 : Int)).map I⟩]] := hM1_2.relen 0 (n' := l.length) (xs' := (l.take 0 ++ List.replicate (l.length - 0) (0 : Int)).map I) rfl (by first | rfl | exact congrArg List.length hq1 | (have hqq := congrArg List.length hq1; first | omega | (simp at hqq ⊢; omega)) | (simp; done) | (simp; omega)) (congrArg (fun z_ => (z_).map I) hq1) rfl
  refine C.loop (ι := Nat) (fun k => ([(0, .slice (A) ((l).length) (c)), (3, .slice (bl b1_2) (l.length) (l.length)), (4, I (((k : Nat) : Int)))] : List (Nat × Value))) (fun k w_ => (k ≤ l.length) ∧ (Mem w w_ [] [[⟨.slice (bl b1_2) (l.length) (l.length), 3, 1, (l.length), (l.take k ++ List.replicate (l.length - k) (0 : Int)).map I⟩]])) (fun k => l.length - k) (0) (Has.cons rfl (Has.cons (sl_congr (by first | rfl | omega | (simp; done) | (simp; omega) | exact congrArg List.length hq1 | (simp [← hq1]; done) | (simp [← hq1]; omega))) (Has.cons (I_congr (by first | rfl | omega | (simp; omega) | simp)) Has.nil))) ⟨(Nat.zero_le _), (hMn1.pick [0] (by decide) rfl)⟩ (fun k σ w_l3 hI => ?_)
  try dsimp only at hI
  obtain ⟨hi0_l3, hM_l3⟩ := hI
  have hcl0_l3 := (hM_l3.cap 0 rfl).1
  refine C.seq ?_
  refine C.seq ?_
  refine C.region ?_
  refine O.val (v := I (((k : Nat) : Int))) rfl (Ru.move rfl) rfl ?_
  refine O.val (v := .slice (A) ((l).length) (c)) rfl (Ru.move rfl) rfl ?_
  refine O.val (v := I ((((l).length : Nat) : Int))) rfl (Ru.blenSlice Tryd.underlying51 rfl) rfl ?_
  refine O.val (v := .bool (decide (((k : Nat) : Int) < (((l).length : Nat) : Int)))) rfl (Ru.lss rfl rfl) rfl ?_
  refine O.nil ?_
  refine C.cond (p := ((k : Nat) : Int) < (((l).length : Nat) : Int)) rfl (fun c11 => ?_) (fun c11 => ?_)
  · refine C.skip ?_
    refine C.seq ?_
    refine C.block ?_
    refine C.region ?_
    refine O.val (v := .slice (bl b1_2) (l.length) (l.length)) rfl (Ru.move rfl) rfl ?_
    refine O.val (v := I (((k : Nat) : Int))) rfl (Ru.move rfl) rfl ?_
    refine O.val (v := .slice (A) ((l).length) (c)) rfl (Ru.move rfl) rfl ?_
    refine O.val (v := I (((k : Nat) : Int))) rfl (Ru.move rfl) rfl ?_
    have hx5_4 : k < (l).length := (by first | omega | (simp; omega))
    refine O.val (v := .pointer (ofs (A) (k * 1))) rfl (Ru.indexA (j := k) Tryd.underlying51 el3 rfl rfl (smm (hA.at hM_l3) hx5_4) (by omega) (by first | omega | (simp; omega))) rfl ?_
    refine O.val rfl (Ru.load1 el3 rfl (ldm (hA.at hM_l3) hx5_4)) rfl ?_
    have hx5_6 : k < (l.take k ++ List.replicate (l.length - k) (0 : Int)).length := (by rw [fillI_len hi0_l3]; exact hx5_4)
    refine O.val (v := .pointer (ofs (bl b1_2) (k * 1))) rfl (Ru.indexA (j := k) Tryd.underlying51 el3 rfl rfl (smm (hM_l3.rd 0 rfl) hx5_6) (by omega) (by omega)) rfl ?_
    refine O.mstore (vs := [I ((l)[k]'hx5_4)]) (xs' := ((l.take k ++ List.replicate (l.length - k) (0 : Int)).set (k) ((l)[k]'hx5_4)).map I) 0 0 hM_l3 rfl rfl rfl el3 rfl rfl rfl rfl rfl (by simp; omega) (by simp) (spl_map (l := l.take k ++ List.replicate (l.length - k) (0 : Int)) (a := (l)[k]'hx5_4) hx5_6) rfl (fun w5_7 (hM5_7 : Mem w w5_7 [] [[⟨.slice (bl b1_2) (l.length) (l.length), 3, 1, (l.length), ((l.take k ++ List.replicate (l.length - k) (0 : Int)).set (k) ((l)[k]'hx5_4)).map I⟩]]) => ?_)
    refine O.nil ?_
    refine C.region ?_
    refine O.val (v := I (((k : Nat) : Int))) rfl (Ru.move rfl) rfl ?_
    refine O.val (v := I ((((k + 1) : Nat) : Int))) rfl (Ru.congr (v := I ((((k : Nat) : Int) + 1))) (v' := I ((((k + 1) : Nat) : Int))) (Ru.add rfl rfl (by omega)) (I_congr (by first | omega | simp))) rfl ?_
    refine O.val (v := I ((((k + 1) : Nat) : Int))) rfl (Ru.assign rfl) rfl ?_
    refine O.nil ?_
    have hq2 : ((l.take k ++ List.replicate (l.length - k) (0 : Int)).set (k) ((l)[k]'hx5_4) : List Int) = l.take (k + 1) ++ List.replicate (l.length - (k + 1)) (0 : Int) := (fillI_set hx5_4)
    have hMn2 : Mem w w5_7 [] [[⟨.slice (bl b1_2) (l.length) (l.length), 3, 1, (l.length), (l.take (k + 1) ++ List.replicate (l.length - (k + 1)) (0 : Int)).map I⟩]] := hM5_7.relen 0 (n' := l.length) (xs' := (l.take (k + 1) ++ List.replicate (l.length - (k + 1)) (0 : Int)).map I) rfl (by first | rfl | exact congrArg List.length hq2 | (have hqq := congrArg List.length hq2; first | omega | (simp at hqq ⊢; omega)) | (simp; done) | (simp; omega)) (congrArg (fun z_ => (z_).map I) hq2) rfl
    exact loopEnd (k + 1) (by (try dsimp only); omega) (Has.cons rfl (Has.cons rfl (Has.cons (I_congr (by first | rfl | omega | (simp; omega) | simp)) Has.nil))) ⟨(by (try dsimp only); omega), (hMn2.pick [0] (by decide) rfl)⟩
  · refine C.exit ?_
    refine C.seq ?_
    refine C.region ?_
    refine O.val (v := .slice (bl b1_2) (l.length) (l.length)) rfl (Ru.move rfl) rfl ?_
    refine O.val (v := .slice (bl b1_2) (l.length) (l.length)) rfl (Ru.assign rfl) rfl ?_
    refine O.nil ?_
    refine C.ret ?_
    refine P1 (v := .slice (bl b1_2) (l.length) (l.length)) rfl ?_
    have hq3 : (l.take k ++ List.replicate (l.length - k) (0 : Int) : List Int) = l := (fillI_all (by omega))
    have hMn3 : Mem w w_l3 [] [[⟨.slice (bl b1_2) ((l).length) (l.length), 3, 1, ((l).length), (l).map I⟩]] := hM_l3.relen 0 (n' := (l).length) (xs' := (l).map I) rfl (by first | rfl | exact congrArg List.length hq3 | (have hqq := congrArg List.length hq3; first | omega | (simp at hqq ⊢; omega)) | (simp; done) | (simp; omega)) (congrArg (fun z_ => (z_).map I) hq3) rfl
    exact ⟨bl b1_2, l.length, (by first | rfl | exact sl_congr (by first | omega | (simp; done) | (simp; omega)) | (simp; done)), (hMn3.pick [0] (by decide) rfl)⟩

theorem szIntS_fn (A : Option Addr) (c : Nat) (l : List Int) (left : Int) (w : World) (hA : Rd w A ((l).map I)) (hl : l.length ≤ 9223372036854775807) (h0 : 0 ≤ left ∧ left ≤ 1048576) :
    Does Tryd.prog 113 [.slice (A) ((l).length) (c), I (left)] w (fun v w1 => v = I (szR left l.length) ∧ Mem w w1 [] []) := by
  have hM : Mem w w [] [] := Mem.refl
  refine Does.enter1 Tryd.func113 rfl Tryd.results113 Tryd.ntmps113 rfl ?_
  refine C.seq ?_
  refine C.region ?_
  refine O.val (v := I (0)) rfl (Ru.assign rfl) rfl ?_
  refine O.nil ?_
  refine C.seq ?_
  refine C.region ?_
  refine O.val (v := I (left)) rfl (Ru.move rfl) rfl ?_
  refine O.val (v := .slice (A) ((l).length) (c)) rfl (Ru.move rfl) rfl ?_
  refine O.val (v := I ((((l).length : Nat) : Int))) rfl (Ru.blenSlice Tryd.underlying51 rfl) rfl ?_
  refine O.val (v := I ((left - (((l).length : Nat) : Int)))) rfl (Ru.sub rfl rfl (by omega)) rfl ?_
  refine O.val (v := I ((left - (((l).length : Nat) : Int)))) rfl (Ru.assign rfl) rfl ?_
  refine O.nil ?_
  refine C.seq ?_
  refine C.seq ?_
  refine C.region ?_
  refine O.val (v := I ((left - (((l).length : Nat) : Int)))) rfl (Ru.move rfl) rfl ?_
  refine O.val (v := .bool (decide ((left - (((l).length : Nat) : Int)) < 0))) rfl (Ru.lss rfl rfl) rfl ?_
  refine O.nil ?_
  refine C.cond (p := (left - (((l).length : Nat) : Int)) < 0) rfl (fun c10 => ?_) (fun c10 => ?_)
  · refine C.seq ?_
    refine C.region ?_
    refine O.val (v := I ((-1))) rfl (Ru.assign rfl) rfl ?_
    refine O.nil ?_
    refine C.ret ?_
    refine P1 (v := I ((-1))) rfl ?_
    exact ⟨(by rw [szR_no (by omega)]), (Mem.none hM)⟩
  · refine C.skip ?_
    refine C.seq ?_
    refine C.region ?_
    refine O.val (v := I ((left - (((l).length : Nat) : Int)))) rfl (Ru.move rfl) rfl ?_
    refine O.val (v := I ((left - (((l).length : Nat) : Int)))) rfl (Ru.assign rfl) rfl ?_
    refine O.nil ?_
    refine C.ret ?_
    refine P1 (v := I ((left - (((l).length : Nat) : Int)))) rfl ?_
    exact ⟨(by rw [szR_yes (by omega)]), (Mem.none hM)⟩

theorem szPage_fn (p : PgL) (left : Int) (w : World) (hNp : PgN w p) (hp : (p).k.l.length ≤ 9223372036854775807 ∧ (p).c.l.length ≤ 9223372036854775807 ∧ (p).v.l.length ≤ 9223372036854775807) (h0 : 0 ≤ left ∧ left ≤ 1048576) :
    Does Tryd.prog 87 [.agg #[.slice ((p).k.A) ((p).k.l.length) ((p).k.cp), .slice ((p).c.A) ((p).c.l.length) ((p).c.cp), .slice ((p).v.A) ((p).v.l.length) ((p).v.cp)], I (left)] w (fun v w1 => v = I (szR left (szG p)) ∧ Mem w w1 [] []) := by
  have hM : Mem w w [] [] := Mem.refl
  refine Does.enter1 Tryd.func87 rfl Tryd.results87 Tryd.ntmps87 rfl ?_
  refine C.seq ?_
  refine C.region ?_
  refine O.mbox (k := 3) (vs := [.slice ((p).k.A) ((p).k.l.length) ((p).k.cp), .slice ((p).c.A) ((p).c.l.length) ((p).c.cp), .slice ((p).v.A) ((p).v.l.length) ((p).v.cp)]) hM rfl rfl rfl rfl rfl (fun w0_0 b0_0 hb0_0 (hM0_0 : Mem w w0_0 [] [[⟨.slice (bl b0_0) 1 1, 107, 3, 1, [.slice ((p).k.A) ((p).k.l.length) ((p).k.cp), .slice ((p).c.A) ((p).c.l.length) ((p).c.cp), .slice ((p).v.A) ((p).v.l.length) ((p).v.cp)]⟩]]) => ?_)
  refine O.val (v := I (0)) rfl (Ru.assign rfl) rfl ?_
  refine O.nil ?_
  refine C.seq ?_
  refine C.region ?_
  refine O.val (v := .pointer (ofs (bl b0_0) (0))) rfl (Ru.fieldA fl107_0 rfl rfl) rfl ?_
  refine O.val rfl (Ru.load1 el51 rfl ((hM0_0.rd 0 rfl).ld rfl)) rfl ?_
  refine O.val (v := I (left)) rfl (Ru.move rfl) rfl ?_
  refine O.callg [.slice ((p).k.A) (((p).k.l).length) ((p).k.cp), I (left)] rfl en113 (by first | rfl | (rw [show ((p).k.l).length = (p).k.l.length from (by first | rfl | (simp; done) | omega | (simp; omega))]; rfl)) rfl (szIntS_fn ((p).k.A) ((p).k.cp) ((p).k.l) left w0_0 (hNp.at hM0_0).1 (by omega) (by omega)) ?_
  rintro _ w1_3 ⟨rfl, hR1_3⟩
  have hM1_3 : Mem w w1_3 [] [[⟨.slice (bl b0_0) 1 1, 107, 3, 1, [.slice ((p).k.A) ((p).k.l.length) ((p).k.cp), .slice ((p).c.A) ((p).c.l.length) ((p).c.cp), .slice ((p).v.A) ((p).v.l.length) ((p).v.cp)]⟩]] := Mem.call (Ma := []) hM0_0 hR1_3 rfl
  refine O.val (v := I (szR left ((p).k.l).length)) rfl (Ru.assign rfl) rfl ?_
  refine O.nil ?_
  refine C.seq ?_
  refine C.seq ?_
  refine C.region ?_
  refine O.val (v := I (szR left ((p).k.l).length)) rfl (Ru.move rfl) rfl ?_
  refine O.val (v := .bool (decide (szR left ((p).k.l).length < 0))) rfl (Ru.lss rfl rfl) rfl ?_
  refine O.nil ?_
  refine C.cond (p := szR left ((p).k.l).length < 0) rfl (fun c10 => ?_) (fun c10 => ?_)
  · have hn := szR_neg.1 c10
    refine C.seq ?_
    refine C.region ?_
    refine O.val (v := I ((-1))) rfl (Ru.assign rfl) rfl ?_
    refine O.nil ?_
    refine C.ret ?_
    refine P1 (v := I ((-1))) rfl ?_
    exact ⟨(by rw [szR_no (by unfold szG; omega)]), (Mem.none hM1_3)⟩
  · have hna := mt szR_neg.2 c10
    have hya := szR_yes (Int.not_lt.1 hna)
    refine C.skip ?_
    refine C.seq ?_
    refine C.region ?_
    refine O.val (v := .pointer (ofs (bl b0_0) (1))) rfl (Ru.fieldA fl107_1 rfl rfl) rfl ?_
    refine O.val rfl (Ru.load1 el51 rfl ((hM1_3.rd 0 rfl).ld rfl)) rfl ?_
    refine O.val (v := I (szR left ((p).k.l).length)) rfl (Ru.move rfl) rfl ?_
    refine O.callg [.slice ((p).c.A) (((p).c.l).length) ((p).c.cp), I (szR left ((p).k.l).length)] rfl en113 (by first | rfl | (rw [show ((p).c.l).length = (p).c.l.length from (by first | rfl | (simp; done) | omega | (simp; omega))]; rfl)) rfl (szIntS_fn ((p).c.A) ((p).c.cp) ((p).c.l) (szR left ((p).k.l).length) w1_3 (hNp.at hM1_3).2.1 (by omega) (by omega)) ?_
    rintro _ w4_3 ⟨rfl, hR4_3⟩
    have hM4_3 : Mem w w4_3 [] [[⟨.slice (bl b0_0) 1 1, 107, 3, 1, [.slice ((p).k.A) ((p).k.l.length) ((p).k.cp), .slice ((p).c.A) ((p).c.l.length) ((p).c.cp), .slice ((p).v.A) ((p).v.l.length) ((p).v.cp)]⟩]] := Mem.call (Ma := []) hM1_3 hR4_3 rfl
    refine O.val (v := I (szR (szR left ((p).k.l).length) ((p).c.l).length)) rfl (Ru.assign rfl) rfl ?_
    refine O.nil ?_
    refine C.seq ?_
    refine C.seq ?_
    refine C.region ?_
    refine O.val (v := I (szR (szR left ((p).k.l).length) ((p).c.l).length)) rfl (Ru.move rfl) rfl ?_
    refine O.val (v := .bool (decide (szR (szR left ((p).k.l).length) ((p).c.l).length < 0))) rfl (Ru.lss rfl rfl) rfl ?_
    refine O.nil ?_
    refine C.cond (p := szR (szR left ((p).k.l).length) ((p).c.l).length < 0) rfl (fun c16 => ?_) (fun c16 => ?_)
    · have hn := szR_neg.1 c16
      refine C.seq ?_
      refine C.region ?_
      refine O.val (v := I ((-1))) rfl (Ru.assign rfl) rfl ?_
      refine O.nil ?_
      refine C.ret ?_
      refine P1 (v := I ((-1))) rfl ?_
      exact ⟨(by rw [szR_no (by unfold szG; omega)]), (Mem.none hM4_3)⟩
    · have hnb := mt szR_neg.2 c16
      have hyb := szR_yes (Int.not_lt.1 hnb)
      refine C.skip ?_
      refine C.seq ?_
      refine C.region ?_
      refine O.val (v := .pointer (ofs (bl b0_0) (2))) rfl (Ru.fieldA fl107_2 rfl rfl) rfl ?_
      refine O.val rfl (Ru.load1 el51 rfl ((hM4_3.rd 0 rfl).ld rfl)) rfl ?_
      refine O.val (v := I (szR (szR left ((p).k.l).length) ((p).c.l).length)) rfl (Ru.move rfl) rfl ?_
      refine O.callg [.slice ((p).v.A) (((p).v.l).length) ((p).v.cp), I (szR (szR left ((p).k.l).length) ((p).c.l).length)] rfl en113 (by first | rfl | (rw [show ((p).v.l).length = (p).v.l.length from (by first | rfl | (simp; done) | omega | (simp; omega))]; rfl)) rfl (szIntS_fn ((p).v.A) ((p).v.cp) ((p).v.l) (szR (szR left ((p).k.l).length) ((p).c.l).length) w4_3 (hNp.at hM4_3).2.2 (by omega) (by omega)) ?_
      rintro _ w7_3 ⟨rfl, hR7_3⟩
      have hM7_3 : Mem w w7_3 [] [[⟨.slice (bl b0_0) 1 1, 107, 3, 1, [.slice ((p).k.A) ((p).k.l.length) ((p).k.cp), .slice ((p).c.A) ((p).c.l.length) ((p).c.cp), .slice ((p).v.A) ((p).v.l.length) ((p).v.cp)]⟩]] := Mem.call (Ma := []) hM4_3 hR7_3 rfl
      refine O.val (v := I (szR (szR (szR left ((p).k.l).length) ((p).c.l).length) ((p).v.l).length)) rfl (Ru.assign rfl) rfl ?_
      refine O.nil ?_
      refine C.seq ?_
      refine C.seq ?_
      refine C.region ?_
      refine O.val (v := I (szR (szR (szR left ((p).k.l).length) ((p).c.l).length) ((p).v.l).length)) rfl (Ru.move rfl) rfl ?_
      refine O.val (v := .bool (decide (szR (szR (szR left ((p).k.l).length) ((p).c.l).length) ((p).v.l).length < 0))) rfl (Ru.lss rfl rfl) rfl ?_
      refine O.nil ?_
      refine C.cond (p := szR (szR (szR left ((p).k.l).length) ((p).c.l).length) ((p).v.l).length < 0) rfl (fun c22 => ?_) (fun c22 => ?_)
      · have hn := szR_neg.1 c22
        refine C.seq ?_
        refine C.region ?_
        refine O.val (v := I ((-1))) rfl (Ru.assign rfl) rfl ?_
        refine O.nil ?_
        refine C.ret ?_
        refine P1 (v := I ((-1))) rfl ?_
        exact ⟨(by rw [szR_no (by unfold szG; omega)]), (Mem.none hM7_3)⟩
      · have hnd := mt szR_neg.2 c22
        have hyd := szR_yes (Int.not_lt.1 hnd)
        refine C.skip ?_
        refine C.seq ?_
        refine C.region ?_
        refine O.val (v := I (szR (szR (szR left ((p).k.l).length) ((p).c.l).length) ((p).v.l).length)) rfl (Ru.move rfl) rfl ?_
        refine O.val (v := I (szR (szR (szR left ((p).k.l).length) ((p).c.l).length) ((p).v.l).length)) rfl (Ru.assign rfl) rfl ?_
        refine O.nil ?_
        refine C.ret ?_
        refine P1 (v := I (szR (szR (szR left ((p).k.l).length) ((p).c.l).length) ((p).v.l).length)) rfl ?_
        exact ⟨(I_congr (by rw [hyd, hyb, hya]; unfold szG; rw [szR_yes (by omega)]; omega)), (Mem.none hM7_3)⟩

theorem szPageS_fn (A : Option Addr) (c : Nat) (l : List PgL) (left : Int) (w : World) (hA : Rd w A ((l).flatMap encPg)) (hNA : NsP w l) (hl : l.length ≤ 9223372036854775807) (hk : ∀ x ∈ l, (x).k.l.length ≤ 9223372036854775807 ∧ (x).c.l.length ≤ 9223372036854775807 ∧ (x).v.l.length ≤ 9223372036854775807) (h0 : 0 ≤ left ∧ left ≤ 1048576) :
    Does Tryd.prog 52 [.slice (A) ((l).length) (c), I (left)] w (fun v w1 => v = I (szR left (l.length + sumG l)) ∧ Mem w w1 [] []) := by
  have hM : Mem w w [] [] := Mem.refl
  refine Does.enter1 Tryd.func52 rfl Tryd.results52 Tryd.ntmps52 rfl ?_
  refine C.seq ?_
  refine C.region ?_
  refine O.val (v := I (0)) rfl (Ru.assign rfl) rfl ?_
  refine O.nil ?_
  refine C.seq ?_
  refine C.region ?_
  refine O.val (v := I (left)) rfl (Ru.move rfl) rfl ?_
  refine O.val (v := .slice (A) ((l).length) (c)) rfl (Ru.move rfl) rfl ?_
  refine O.val (v := I ((((l).length : Nat) : Int))) rfl (Ru.blenSlice Tryd.underlying32 rfl) rfl ?_
  refine O.val (v := I ((left - (((l).length : Nat) : Int)))) rfl (Ru.sub rfl rfl (by omega)) rfl ?_
  refine O.val (v := I ((left - (((l).length : Nat) : Int)))) rfl (Ru.assign rfl) rfl ?_
  refine O.nil ?_
  refine C.seq ?_
  refine C.seq ?_
  refine C.region ?_
  refine O.val (v := I ((left - (((l).length : Nat) : Int)))) rfl (Ru.move rfl) rfl ?_
  refine O.val (v := .bool (decide ((left - (((l).length : Nat) : Int)) < 0))) rfl (Ru.lss rfl rfl) rfl ?_
  refine O.nil ?_
  refine C.cond (p := (left - (((l).length : Nat) : Int)) < 0) rfl (fun c11 => ?_) (fun c11 => ?_)
  · refine C.seq ?_
    refine C.region ?_
    refine O.val (v := I ((-1))) rfl (Ru.assign rfl) rfl ?_
    refine O.nil ?_
    refine C.ret ?_
    refine P1 (v := I ((-1))) rfl ?_
    exact ⟨(by rw [szR_no (by omega)]), (Mem.none hM)⟩
  · refine C.skip ?_
    refine C.seq ?_
    refine C.seq ?_
    refine C.region ?_
    refine O.val (v := I (0)) rfl (Ru.assign rfl) rfl ?_
    refine O.nil ?_
    refine C.block ?_
    refine C.loop (ι := Nat) (fun k => ([(0, .slice (A) ((l).length) (c)), (1, I ((left - (l.length : Int) - (sumG (l.take k) : Int)))), (5, I (((k : Nat) : Int)))] : List (Nat × Value))) (fun k w_ => (k ≤ l.length) ∧ (((l.length + sumG (l.take k) : Nat) : Int) ≤ left) ∧ (Mem w w_ [] [])) (fun k => l.length - k) (0) (Has.cons rfl (Has.cons (I_congr (by simp [sumG])) (Has.cons (I_congr (by first | rfl | omega | (simp; omega) | simp)) Has.nil))) ⟨(Nat.zero_le _), (by (try dsimp only); simp [sumG]; omega), (hM.pick [] (by decide) rfl)⟩ (fun k σ w_l5 hI => ?_)
    try dsimp only at hI
    obtain ⟨hi0_l5, hi1_l5, hM_l5⟩ := hI
    refine C.seq ?_
    refine C.seq ?_
    refine C.region ?_
    refine O.val (v := I (((k : Nat) : Int))) rfl (Ru.move rfl) rfl ?_
    refine O.val (v := .slice (A) ((l).length) (c)) rfl (Ru.move rfl) rfl ?_
    refine O.val (v := I ((((l).length : Nat) : Int))) rfl (Ru.blenSlice Tryd.underlying32 rfl) rfl ?_
    refine O.val (v := .bool (decide (((k : Nat) : Int) < (((l).length : Nat) : Int)))) rfl (Ru.lss rfl rfl) rfl ?_
    refine O.nil ?_
    refine C.cond (p := ((k : Nat) : Int) < (((l).length : Nat) : Int)) rfl (fun c15 => ?_) (fun c15 => ?_)
    · refine C.skip ?_
      refine C.seq ?_
      refine C.block ?_
      refine C.seq ?_
      refine C.region ?_
      refine O.val (v := .slice (A) ((l).length) (c)) rfl (Ru.move rfl) rfl ?_
      refine O.val (v := I (((k : Nat) : Int))) rfl (Ru.move rfl) rfl ?_
      have hx7_2 : k < (l).length := (by first | omega | (simp; omega))
      refine O.val (v := .pointer (ofs (A) (k * 3))) rfl (Ru.indexA (j := k) Tryd.underlying32 el107 rfl rfl (smf encPg_len (hA.at hM_l5) hx7_2 rfl) (by omega) (by first | omega | (simp; omega))) rfl ?_
      refine O.val rfl (Ru.loadN (vs := [.slice (((l)[k]'hx7_2).k.A) (((l)[k]'hx7_2).k.l.length) (((l)[k]'hx7_2).k.cp), .slice (((l)[k]'hx7_2).c.A) (((l)[k]'hx7_2).c.l.length) (((l)[k]'hx7_2).c.cp), .slice (((l)[k]'hx7_2).v.A) (((l)[k]'hx7_2).v.l.length) (((l)[k]'hx7_2).v.cp)]) el107 rfl rfl (smf encPg_len (hA.at hM_l5) hx7_2 rfl) (ldn encPg_len (hA.at hM_l5) hx7_2)) rfl ?_
      refine O.val (v := I ((left - (l.length : Int) - (sumG (l.take k) : Int)))) rfl (Ru.move rfl) rfl ?_
      refine O.callg [.agg #[.slice (((l)[k]'hx7_2).k.A) (((l)[k]'hx7_2).k.l.length) (((l)[k]'hx7_2).k.cp), .slice (((l)[k]'hx7_2).c.A) (((l)[k]'hx7_2).c.l.length) (((l)[k]'hx7_2).c.cp), .slice (((l)[k]'hx7_2).v.A) (((l)[k]'hx7_2).v.l.length) (((l)[k]'hx7_2).v.cp)], I ((left - (l.length : Int) - (sumG (l.take k) : Int)))] rfl en87 rfl rfl (szPage_fn ((l)[k]'hx7_2) (left - (l.length : Int) - (sumG (l.take k) : Int)) w_l5 ((hNA.at hM_l5).get hx7_2) (by exact hk _ (List.getElem_mem hx7_2)) (by omega)) ?_
      rintro _ w7_5 ⟨rfl, hR7_5⟩
      have hM7_5 : Mem w w7_5 [] [] := Mem.call (Ma := []) hM_l5 hR7_5 rfl
      have hsn := sumG_snoc hx7_2
      have hst := sumG_take (l := l) (k + 1)
      refine O.val (v := I (szR (left - (l.length : Int) - (sumG (l.take k) : Int)) (szG ((l)[k]'hx7_2)))) rfl (Ru.assign rfl) rfl ?_
      refine O.nil ?_
      refine C.seq ?_
      refine C.region ?_
      refine O.val (v := I (szR (left - (l.length : Int) - (sumG (l.take k) : Int)) (szG ((l)[k]'hx7_2)))) rfl (Ru.move rfl) rfl ?_
      refine O.val (v := .bool (decide (szR (left - (l.length : Int) - (sumG (l.take k) : Int)) (szG ((l)[k]'hx7_2)) < 0))) rfl (Ru.lss rfl rfl) rfl ?_
      refine O.nil ?_
      refine C.cond (p := szR (left - (l.length : Int) - (sumG (l.take k) : Int)) (szG ((l)[k]'hx7_2)) < 0) rfl (fun c25 => ?_) (fun c25 => ?_)
      · have hng := szR_neg.1 c25
        refine C.seq ?_
        refine C.region ?_
        refine O.val (v := I ((-1))) rfl (Ru.assign rfl) rfl ?_
        refine O.nil ?_
        refine C.ret ?_
        refine P1 (v := I ((-1))) rfl ?_
        exact ⟨(by rw [szR_no (by omega)]), (Mem.none hM7_5)⟩
      · have hng := mt szR_neg.2 c25
        have hyes := szR_yes (Int.not_lt.1 hng)
        refine C.skip ?_
        refine C.region ?_
        refine O.val (v := I (((k : Nat) : Int))) rfl (Ru.move rfl) rfl ?_
        refine O.val (v := I ((((k + 1) : Nat) : Int))) rfl (Ru.congr (v := I ((((k : Nat) : Int) + 1))) (v' := I ((((k + 1) : Nat) : Int))) (Ru.add rfl rfl (by omega)) (I_congr (by first | omega | simp))) rfl ?_
        refine O.val (v := I ((((k + 1) : Nat) : Int))) rfl (Ru.assign rfl) rfl ?_
        refine O.nil ?_
        exact loopEnd (k + 1) (by (try dsimp only); omega) (Has.cons rfl (Has.cons (I_congr (by omega)) (Has.cons (I_congr (by first | rfl | omega | (simp; omega) | simp)) Has.nil))) ⟨(by (try dsimp only); omega), (by (try dsimp only); omega), (hM7_5.pick [] (by decide) rfl)⟩
    · refine C.exit ?_
      refine C.seq ?_
      refine C.region ?_
      refine O.val (v := I ((left - (l.length : Int) - (sumG (l.take k) : Int)))) rfl (Ru.move rfl) rfl ?_
      refine O.val (v := I ((left - (l.length : Int) - (sumG (l.take k) : Int)))) rfl (Ru.assign rfl) rfl ?_
      refine O.nil ?_
      refine C.ret ?_
      refine P1 (v := I ((left - (l.length : Int) - (sumG (l.take k) : Int)))) rfl ?_
      have hkl : l.length ≤ k := by omega
      rw [List.take_of_length_le hkl] at hi1_l5
      exact ⟨(I_congr (by rw [szR_yes (by omega), List.take_of_length_le hkl]; omega)), (Mem.none hM_l5)⟩

theorem szTree_fn (T : TreeL) (left : Int) (w : World) (hNT : TrN w T) (hl : (T).l.length ≤ 9223372036854775807) (hk : ∀ x ∈ (T).l, (x).k.l.length ≤ 9223372036854775807 ∧ (x).c.l.length ≤ 9223372036854775807 ∧ (x).v.l.length ≤ 9223372036854775807) (h0 : 0 ≤ left ∧ left ≤ 1048576) :
    Does Tryd.prog 19 [.agg #[I ((T).root), .slice ((T).A) ((T).l.length) ((T).cp)], I (left)] w (fun v w1 => v = I (szR left ((T).l.length + sumG (T).l)) ∧ Mem w w1 [] []) := by
  have hM : Mem w w [] [] := Mem.refl
  refine Does.enter1 Tryd.func19 rfl Tryd.results19 Tryd.ntmps19 rfl ?_
  refine C.seq ?_
  refine C.region ?_
  refine O.mbox (k := 2) (vs := [I ((T).root), .slice ((T).A) ((T).l.length) ((T).cp)]) hM rfl rfl rfl rfl rfl (fun w0_0 b0_0 hb0_0 (hM0_0 : Mem w w0_0 [] [[⟨.slice (bl b0_0) 1 1, 34, 2, 1, [I ((T).root), .slice ((T).A) ((T).l.length) ((T).cp)]⟩]]) => ?_)
  refine O.val (v := I (0)) rfl (Ru.assign rfl) rfl ?_
  refine O.nil ?_
  refine C.seq ?_
  refine C.region ?_
  refine O.val (v := .pointer (ofs (bl b0_0) (1))) rfl (Ru.fieldA fl34_1 rfl rfl) rfl ?_
  refine O.val rfl (Ru.load1 el32 rfl ((hM0_0.rd 0 rfl).ld rfl)) rfl ?_
  refine O.val (v := I (left)) rfl (Ru.move rfl) rfl ?_
  refine O.callg [.slice ((T).A) (((T).l).length) ((T).cp), I (left)] rfl en52 (by first | rfl | (rw [show ((T).l).length = (T).l.length from (by first | rfl | (simp; done) | omega | (simp; omega))]; rfl)) rfl (szPageS_fn ((T).A) ((T).cp) ((T).l) left w0_0 (hNT.at hM0_0).1 ((hNT.at hM0_0)).2 (by first | omega | assumption | (simp; omega) | simp | (intros; omega)) (by exact hk) (by first | omega | assumption | (simp; omega) | simp | (intros; omega))) ?_
  rintro _ w1_3 ⟨rfl, hR1_3⟩
  have hM1_3 : Mem w w1_3 [] [[⟨.slice (bl b0_0) 1 1, 34, 2, 1, [I ((T).root), .slice ((T).A) ((T).l.length) ((T).cp)]⟩]] := Mem.call (Ma := []) hM0_0 hR1_3 rfl
  refine O.val (v := I (szR left (((T).l).length + sumG ((T).l)))) rfl (Ru.assign rfl) rfl ?_
  refine O.nil ?_
  refine C.seq ?_
  refine C.seq ?_
  refine C.region ?_
  refine O.val (v := I (szR left (((T).l).length + sumG ((T).l)))) rfl (Ru.move rfl) rfl ?_
  refine O.val (v := .bool (decide (szR left (((T).l).length + sumG ((T).l)) < 0))) rfl (Ru.lss rfl rfl) rfl ?_
  refine O.nil ?_
  refine C.cond (p := szR left (((T).l).length + sumG ((T).l)) < 0) rfl (fun c10 => ?_) (fun c10 => ?_)
  · refine C.seq ?_
    refine C.region ?_
    refine O.val (v := I ((-1))) rfl (Ru.assign rfl) rfl ?_
    refine O.nil ?_
    refine C.ret ?_
    refine P1 (v := I ((-1))) rfl ?_
    exact ⟨(by rw [szR_no (szR_neg.1 c10)]), (Mem.none hM1_3)⟩
  · refine C.skip ?_
    refine C.seq ?_
    refine C.region ?_
    refine O.val (v := I (szR left (((T).l).length + sumG ((T).l)))) rfl (Ru.move rfl) rfl ?_
    refine O.val (v := I (szR left (((T).l).length + sumG ((T).l)))) rfl (Ru.assign rfl) rfl ?_
    refine O.nil ?_
    refine C.ret ?_
    refine P1 (v := I (szR left (((T).l).length + sumG ((T).l)))) rfl ?_
    exact ⟨rfl, (Mem.none hM1_3)⟩

theorem toPage_fn (p : PgL) (w : World) (hNp : PgN w p) (hp : (p).k.l.length ≤ 1048576 ∧ (p).c.l.length ≤ 1048576 ∧ (p).v.l.length ≤ 1048576) :
    Does Tryd.prog 92 [.agg #[.slice ((p).k.A) ((p).k.l.length) ((p).k.cp), .slice ((p).c.A) ((p).c.l.length) ((p).c.cp), .slice ((p).v.A) ((p).v.l.length) ((p).v.cp)]] w (fun v w1 => ∃ (A1 : Option Addr) (c1 : Nat) (A2 : Option Addr) (c2 : Nat) (A3 : Option Addr) (c3 : Nat), v = .agg #[.slice (A1) (((p).k.l).length) (c1), .slice (A2) (((p).c.l).length) (c2), .slice (A3) (((p).v.l).length) (c3)] ∧ Mem w w1 [] [[⟨.slice (A1) (((p).k.l).length) (c1), 3, 1, (((p).k.l).length), ((p).k.l).map I⟩], [⟨.slice (A2) (((p).c.l).length) (c2), 3, 1, (((p).c.l).length), ((p).c.l).map I⟩], [⟨.slice (A3) (((p).v.l).length) (c3), 3, 1, (((p).v.l).length), ((p).v.l).map I⟩]]) := by
  have hM : Mem w w [] [] := Mem.refl
  refine Does.enterG (rs := [.cell 2 58]) Tryd.func92 rfl Tryd.results92 Tryd.ntmps92 rfl ?_
  refine C.seq ?_
  refine C.region ?_
  refine O.mbox (k := 3) (vs := [.slice ((p).k.A) ((p).k.l.length) ((p).k.cp), .slice ((p).c.A) ((p).c.l.length) ((p).c.cp), .slice ((p).v.A) ((p).v.l.length) ((p).v.cp)]) hM rfl rfl rfl rfl rfl (fun w0_0 b0_0 hb0_0 (hM0_0 : Mem w w0_0 [] [[⟨.slice (bl b0_0) 1 1, 107, 3, 1, [.slice ((p).k.A) ((p).k.l.length) ((p).k.cp), .slice ((p).c.A) ((p).c.l.length) ((p).c.cp), .slice ((p).v.A) ((p).v.l.length) ((p).v.cp)]⟩]]) => ?_)
  refine O.malloc (k := 3) hM0_0 rfl rfl el58 rfl (fun w0_1 b0_1 hb0_1 (hM0_1 : Mem w w0_1 [] [[⟨.slice (bl b0_1) 1 1, 58, 3, 1, [.slice (none) (0) (0), .slice (none) (0) (0), .slice (none) (0) (0)]⟩], [⟨.slice (bl b0_0) 1 1, 107, 3, 1, [.slice ((p).k.A) ((p).k.l.length) ((p).k.cp), .slice ((p).c.A) ((p).c.l.length) ((p).c.cp), .slice ((p).v.A) ((p).v.l.length) ((p).v.cp)]⟩]]) => ?_)
  refine O.nil ?_
  refine C.seq ?_
  refine C.region ?_
  refine O.malloc (k := 3) hM0_1 rfl rfl el58 rfl (fun w1_0 b1_0 hb1_0 (hM1_0 : Mem w w1_0 [] [[⟨.slice (bl b1_0) 1 1, 58, 3, 1, [.slice (none) (0) (0), .slice (none) (0) (0), .slice (none) (0) (0)]⟩], [⟨.slice (bl b0_1) 1 1, 58, 3, 1, [.slice (none) (0) (0), .slice (none) (0) (0), .slice (none) (0) (0)]⟩], [⟨.slice (bl b0_0) 1 1, 107, 3, 1, [.slice ((p).k.A) ((p).k.l.length) ((p).k.cp), .slice ((p).c.A) ((p).c.l.length) ((p).c.cp), .slice ((p).v.A) ((p).v.l.length) ((p).v.cp)]⟩]]) => ?_)
  refine O.nil ?_
  refine C.seq ?_
  refine C.region ?_
  refine O.val (v := .pointer (ofs (bl b0_0) (0))) rfl (Ru.fieldA fl107_0 rfl rfl) rfl ?_
  refine O.val rfl (Ru.load1 el51 rfl ((hM1_0.rd 2 rfl).ld rfl)) rfl ?_
  refine O.callg [.slice ((p).k.A) (((p).k.l).length) ((p).k.cp)] rfl en114 (by first | rfl | (rw [show ((p).k.l).length = (p).k.l.length from (by first | rfl | (simp; done) | omega | (simp; omega))]; rfl)) rfl (toIntS_fn ((p).k.A) ((p).k.cp) ((p).k.l) w1_0 (hNp.at hM1_0).1 (by first | omega | assumption | (simp; omega) | simp | (intros; omega))) ?_
  rintro _ w2_2 ⟨A12_2, c12_2, rfl, hR2_2⟩
  have hM2_2 : Mem w w2_2 [] [[⟨.slice (A12_2) ((((p).k.l)).length) (c12_2), 3, 1, ((((p).k.l)).length), (((p).k.l)).map I⟩], [⟨.slice (bl b1_0) 1 1, 58, 3, 1, [.slice (none) (0) (0), .slice (none) (0) (0), .slice (none) (0) (0)]⟩], [⟨.slice (bl b0_1) 1 1, 58, 3, 1, [.slice (none) (0) (0), .slice (none) (0) (0), .slice (none) (0) (0)]⟩], [⟨.slice (bl b0_0) 1 1, 107, 3, 1, [.slice ((p).k.A) ((p).k.l.length) ((p).k.cp), .slice ((p).c.A) ((p).c.l.length) ((p).c.cp), .slice ((p).v.A) ((p).v.l.length) ((p).v.cp)]⟩]] := Mem.call (Ma := []) hM1_0 hR2_2 rfl
  have hcr2_2_0 := (hM2_2.cap 0 rfl).1
  refine O.val (v := .pointer (ofs (bl b1_0) (0))) rfl (Ru.fieldA fl58_0 rfl rfl) rfl ?_
  refine O.mstore (vs := [.slice (A12_2) ((((p).k.l)).length) (c12_2)]) (xs' := [.slice (A12_2) ((((p).k.l)).length) (c12_2), .slice (none) (0) (0), .slice (none) (0) (0)]) 1 0 hM2_2 rfl rfl rfl el51 rfl rfl rfl rfl rfl (by simp) (by simp) rfl rfl (fun w2_4 (hM2_4 : Mem w w2_4 [] [[⟨.slice (A12_2) ((((p).k.l)).length) (c12_2), 3, 1, ((((p).k.l)).length), (((p).k.l)).map I⟩], [⟨.slice (bl b1_0) 1 1, 58, 3, 1, [.slice (A12_2) ((((p).k.l)).length) (c12_2), .slice (none) (0) (0), .slice (none) (0) (0)]⟩], [⟨.slice (bl b0_1) 1 1, 58, 3, 1, [.slice (none) (0) (0), .slice (none) (0) (0), .slice (none) (0) (0)]⟩], [⟨.slice (bl b0_0) 1 1, 107, 3, 1, [.slice ((p).k.A) ((p).k.l.length) ((p).k.cp), .slice ((p).c.A) ((p).c.l.length) ((p).c.cp), .slice ((p).v.A) ((p).v.l.length) ((p).v.cp)]⟩]]) => ?_)
  refine O.nil ?_
  refine C.seq ?_
  refine C.region ?_
  refine O.val (v := .pointer (ofs (bl b0_0) (1))) rfl (Ru.fieldA fl107_1 rfl rfl) rfl ?_
  refine O.val rfl (Ru.load1 el51 rfl ((hM2_4.rd 3 rfl).ld rfl)) rfl ?_
  refine O.callg [.slice ((p).c.A) (((p).c.l).length) ((p).c.cp)] rfl en114 (by first | rfl | (rw [show ((p).c.l).length = (p).c.l.length from (by first | rfl | (simp; done) | omega | (simp; omega))]; rfl)) rfl (toIntS_fn ((p).c.A) ((p).c.cp) ((p).c.l) w2_4 (hNp.at hM2_4).2.1 (by first | omega | assumption | (simp; omega) | simp | (intros; omega))) ?_
  rintro _ w3_2 ⟨A13_2, c13_2, rfl, hR3_2⟩
  have hM3_2 : Mem w w3_2 [] [[⟨.slice (A13_2) ((((p).c.l)).length) (c13_2), 3, 1, ((((p).c.l)).length), (((p).c.l)).map I⟩], [⟨.slice (A12_2) ((((p).k.l)).length) (c12_2), 3, 1, ((((p).k.l)).length), (((p).k.l)).map I⟩], [⟨.slice (bl b1_0) 1 1, 58, 3, 1, [.slice (A12_2) ((((p).k.l)).length) (c12_2), .slice (none) (0) (0), .slice (none) (0) (0)]⟩], [⟨.slice (bl b0_1) 1 1, 58, 3, 1, [.slice (none) (0) (0), .slice (none) (0) (0), .slice (none) (0) (0)]⟩], [⟨.slice (bl b0_0) 1 1, 107, 3, 1, [.slice ((p).k.A) ((p).k.l.length) ((p).k.cp), .slice ((p).c.A) ((p).c.l.length) ((p).c.cp), .slice ((p).v.A) ((p).v.l.length) ((p).v.cp)]⟩]] := Mem.call (Ma := []) hM2_4 hR3_2 rfl
  have hcr3_2_0 := (hM3_2.cap 0 rfl).1
  refine O.val (v := .pointer (ofs (bl b1_0) (1))) rfl (Ru.fieldA fl58_1 rfl rfl) rfl ?_
  refine O.mstore (vs := [.slice (A13_2) ((((p).c.l)).length) (c13_2)]) (xs' := [.slice (A12_2) ((((p).k.l)).length) (c12_2), .slice (A13_2) ((((p).c.l)).length) (c13_2), .slice (none) (0) (0)]) 2 0 hM3_2 rfl rfl rfl el51 rfl rfl rfl rfl rfl (by simp) (by simp) rfl rfl (fun w3_4 (hM3_4 : Mem w w3_4 [] [[⟨.slice (A13_2) ((((p).c.l)).length) (c13_2), 3, 1, ((((p).c.l)).length), (((p).c.l)).map I⟩], [⟨.slice (A12_2) ((((p).k.l)).length) (c12_2), 3, 1, ((((p).k.l)).length), (((p).k.l)).map I⟩], [⟨.slice (bl b1_0) 1 1, 58, 3, 1, [.slice (A12_2) ((((p).k.l)).length) (c12_2), .slice (A13_2) ((((p).c.l)).length) (c13_2), .slice (none) (0) (0)]⟩], [⟨.slice (bl b0_1) 1 1, 58, 3, 1, [.slice (none) (0) (0), .slice (none) (0) (0), .slice (none) (0) (0)]⟩], [⟨.slice (bl b0_0) 1 1, 107, 3, 1, [.slice ((p).k.A) ((p).k.l.length) ((p).k.cp), .slice ((p).c.A) ((p).c.l.length) ((p).c.cp), .slice ((p).v.A) ((p).v.l.length) ((p).v.cp)]⟩]]) => ?_)
  refine O.nil ?_
  refine C.seq ?_
  refine C.region ?_
  refine O.val (v := .pointer (ofs (bl b0_0) (2))) rfl (Ru.fieldA fl107_2 rfl rfl) rfl ?_
  refine O.val rfl (Ru.load1 el51 rfl ((hM3_4.rd 4 rfl).ld rfl)) rfl ?_
  refine O.callg [.slice ((p).v.A) (((p).v.l).length) ((p).v.cp)] rfl en114 (by first | rfl | (rw [show ((p).v.l).length = (p).v.l.length from (by first | rfl | (simp; done) | omega | (simp; omega))]; rfl)) rfl (toIntS_fn ((p).v.A) ((p).v.cp) ((p).v.l) w3_4 (hNp.at hM3_4).2.2 (by first | omega | assumption | (simp; omega) | simp | (intros; omega))) ?_
  rintro _ w4_2 ⟨A14_2, c14_2, rfl, hR4_2⟩
  have hM4_2 : Mem w w4_2 [] [[⟨.slice (A14_2) ((((p).v.l)).length) (c14_2), 3, 1, ((((p).v.l)).length), (((p).v.l)).map I⟩], [⟨.slice (A13_2) ((((p).c.l)).length) (c13_2), 3, 1, ((((p).c.l)).length), (((p).c.l)).map I⟩], [⟨.slice (A12_2) ((((p).k.l)).length) (c12_2), 3, 1, ((((p).k.l)).length), (((p).k.l)).map I⟩], [⟨.slice (bl b1_0) 1 1, 58, 3, 1, [.slice (A12_2) ((((p).k.l)).length) (c12_2), .slice (A13_2) ((((p).c.l)).length) (c13_2), .slice (none) (0) (0)]⟩], [⟨.slice (bl b0_1) 1 1, 58, 3, 1, [.slice (none) (0) (0), .slice (none) (0) (0), .slice (none) (0) (0)]⟩], [⟨.slice (bl b0_0) 1 1, 107, 3, 1, [.slice ((p).k.A) ((p).k.l.length) ((p).k.cp), .slice ((p).c.A) ((p).c.l.length) ((p).c.cp), .slice ((p).v.A) ((p).v.l.length) ((p).v.cp)]⟩]] := Mem.call (Ma := []) hM3_4 hR4_2 rfl
  have hcr4_2_0 := (hM4_2.cap 0 rfl).1
  refine O.val (v := .pointer (ofs (bl b1_0) (2))) rfl (Ru.fieldA fl58_2 rfl rfl) rfl ?_
  refine O.mstore (vs := [.slice (A14_2) ((((p).v.l)).length) (c14_2)]) (xs' := [.slice (A12_2) ((((p).k.l)).length) (c12_2), .slice (A13_2) ((((p).c.l)).length) (c13_2), .slice (A14_2) ((((p).v.l)).length) (c14_2)]) 3 0 hM4_2 rfl rfl rfl el51 rfl rfl rfl rfl rfl (by simp) (by simp) rfl rfl (fun w4_4 (hM4_4 : Mem w w4_4 [] [[⟨.slice (A14_2) ((((p).v.l)).length) (c14_2), 3, 1, ((((p).v.l)).length), (((p).v.l)).map I⟩], [⟨.slice (A13_2) ((((p).c.l)).length) (c13_2), 3, 1, ((((p).c.l)).length), (((p).c.l)).map I⟩], [⟨.slice (A12_2) ((((p).k.l)).length) (c12_2), 3, 1, ((((p).k.l)).length), (((p).k.l)).map I⟩], [⟨.slice (bl b1_0) 1 1, 58, 3, 1, [.slice (A12_2) ((((p).k.l)).length) (c12_2), .slice (A13_2) ((((p).c.l)).length) (c13_2), .slice (A14_2) ((((p).v.l)).length) (c14_2)]⟩], [⟨.slice (bl b0_1) 1 1, 58, 3, 1, [.slice (none) (0) (0), .slice (none) (0) (0), .slice (none) (0) (0)]⟩], [⟨.slice (bl b0_0) 1 1, 107, 3, 1, [.slice ((p).k.A) ((p).k.l.length) ((p).k.cp), .slice ((p).c.A) ((p).c.l.length) ((p).c.cp), .slice ((p).v.A) ((p).v.l.length) ((p).v.cp)]⟩]]) => ?_)
  refine O.nil ?_
  refine C.seq ?_
  refine C.region ?_
  refine O.val rfl (Ru.loadN (vs := [.slice (A12_2) ((((p).k.l)).length) (c12_2), .slice (A13_2) ((((p).c.l)).length) (c13_2), .slice (A14_2) ((((p).v.l)).length) (c14_2)]) el58 rfl rfl rfl ((mem_blk (i := 3) (j := 0) hM4_4 rfl rfl).lds (k := 0) rfl)) rfl ?_
  refine O.mstore (vs := [.slice (A12_2) ((((p).k.l)).length) (c12_2), .slice (A13_2) ((((p).c.l)).length) (c13_2), .slice (A14_2) ((((p).v.l)).length) (c14_2)]) (xs' := [.slice (A12_2) ((((p).k.l)).length) (c12_2), .slice (A13_2) ((((p).c.l)).length) (c13_2), .slice (A14_2) ((((p).v.l)).length) (c14_2)]) 4 0 hM4_4 rfl rfl rfl el58 rfl rfl rfl rfl rfl (by simp) (by simp) rfl rfl (fun w5_1 (hM5_1 : Mem w w5_1 [] [[⟨.slice (A14_2) ((((p).v.l)).length) (c14_2), 3, 1, ((((p).v.l)).length), (((p).v.l)).map I⟩], [⟨.slice (A13_2) ((((p).c.l)).length) (c13_2), 3, 1, ((((p).c.l)).length), (((p).c.l)).map I⟩], [⟨.slice (A12_2) ((((p).k.l)).length) (c12_2), 3, 1, ((((p).k.l)).length), (((p).k.l)).map I⟩], [⟨.slice (bl b1_0) 1 1, 58, 3, 1, [.slice (A12_2) ((((p).k.l)).length) (c12_2), .slice (A13_2) ((((p).c.l)).length) (c13_2), .slice (A14_2) ((((p).v.l)).length) (c14_2)]⟩], [⟨.slice (bl b0_1) 1 1, 58, 3, 1, [.slice (A12_2) ((((p).k.l)).length) (c12_2), .slice (A13_2) ((((p).c.l)).length) (c13_2), .slice (A14_2) ((((p).v.l)).length) (c14_2)]⟩], [⟨.slice (bl b0_0) 1 1, 107, 3, 1, [.slice ((p).k.A) ((p).k.l.length) ((p).k.cp), .slice ((p).c.A) ((p).c.l.length) ((p).c.cp), .slice ((p).v.A) ((p).v.l.length) ((p).v.cp)]⟩]]) => ?_)
  refine O.nil ?_
  refine C.ret ?_
  refine PG (vs := [.agg #[.slice (A12_2) ((((p).k.l)).length) (c12_2), .slice (A13_2) ((((p).c.l)).length) (c13_2), .slice (A14_2) ((((p).v.l)).length) (c14_2)]]) (ResV.cell (l := [.slice (A12_2) ((((p).k.l)).length) (c12_2), .slice (A13_2) ((((p).c.l)).length) (c13_2), .slice (A14_2) ((((p).v.l)).length) (c14_2)]) rfl (mem_blk (i := 4) (j := 0) hM5_1 rfl rfl) el58 rfl ResV.nil) ?_
  have hq1 : (((p).k.l) : List Int) = (p).k.l := (by first | rfl | simp | (simp; omega))
  have hMn1 : Mem w w5_1 [] [[⟨.slice (A14_2) ((((p).v.l)).length) (c14_2), 3, 1, ((((p).v.l)).length), (((p).v.l)).map I⟩], [⟨.slice (A13_2) ((((p).c.l)).length) (c13_2), 3, 1, ((((p).c.l)).length), (((p).c.l)).map I⟩], [⟨.slice (A12_2) (((p).k.l).length) (c12_2), 3, 1, (((p).k.l).length), ((p).k.l).map I⟩], [⟨.slice (bl b1_0) 1 1, 58, 3, 1, [.slice (A12_2) ((((p).k.l)).length) (c12_2), .slice (A13_2) ((((p).c.l)).length) (c13_2), .slice (A14_2) ((((p).v.l)).length) (c14_2)]⟩], [⟨.slice (bl b0_1) 1 1, 58, 3, 1, [.slice (A12_2) ((((p).k.l)).length) (c12_2), .slice (A13_2) ((((p).c.l)).length) (c13_2), .slice (A14_2) ((((p).v.l)).length) (c14_2)]⟩], [⟨.slice (bl b0_0) 1 1, 107, 3, 1, [.slice ((p).k.A) ((p).k.l.length) ((p).k.cp), .slice ((p).c.A) ((p).c.l.length) ((p).c.cp), .slice ((p).v.A) ((p).v.l.length) ((p).v.cp)]⟩]] := hM5_1.relen 2 (n' := ((p).k.l).length) (xs' := ((p).k.l).map I) rfl (by first | rfl | exact congrArg List.length hq1 | (have hqq := congrArg List.length hq1; first | omega | (simp at hqq ⊢; omega)) | (simp; done) | (simp; omega)) (congrArg (fun z_ => (z_).map I) hq1) rfl
  have hq2 : (((p).c.l) : List Int) = (p).c.l := (by first | rfl | simp | (simp; omega))
  have hMn2 : Mem w w5_1 [] [[⟨.slice (A14_2) ((((p).v.l)).length) (c14_2), 3, 1, ((((p).v.l)).length), (((p).v.l)).map I⟩], [⟨.slice (A13_2) (((p).c.l).length) (c13_2), 3, 1, (((p).c.l).length), ((p).c.l).map I⟩], [⟨.slice (A12_2) (((p).k.l).length) (c12_2), 3, 1, (((p).k.l).length), ((p).k.l).map I⟩], [⟨.slice (bl b1_0) 1 1, 58, 3, 1, [.slice (A12_2) ((((p).k.l)).length) (c12_2), .slice (A13_2) ((((p).c.l)).length) (c13_2), .slice (A14_2) ((((p).v.l)).length) (c14_2)]⟩], [⟨.slice (bl b0_1) 1 1, 58, 3, 1, [.slice (A12_2) ((((p).k.l)).length) (c12_2), .slice (A13_2) ((((p).c.l)).length) (c13_2), .slice (A14_2) ((((p).v.l)).length) (c14_2)]⟩], [⟨.slice (bl b0_0) 1 1, 107, 3, 1, [.slice ((p).k.A) ((p).k.l.length) ((p).k.cp), .slice ((p).c.A) ((p).c.l.length) ((p).c.cp), .slice ((p).v.A) ((p).v.l.length) ((p).v.cp)]⟩]] := hMn1.relen 1 (n' := ((p).c.l).length) (xs' := ((p).c.l).map I) rfl (by first | rfl | exact congrArg List.length hq2 | (have hqq := congrArg List.length hq2; first | omega | (simp at hqq ⊢; omega)) | (simp; done) | (simp; omega)) (congrArg (fun z_ => (z_).map I) hq2) rfl
  have hq3 : (((p).v.l) : List Int) = (p).v.l := (by first | rfl | simp | (simp; omega))
  have hMn3 : Mem w w5_1 [] [[⟨.slice (A14_2) (((p).v.l).length) (c14_2), 3, 1, (((p).v.l).length), ((p).v.l).map I⟩], [⟨.slice (A13_2) (((p).c.l).length) (c13_2), 3, 1, (((p).c.l).length), ((p).c.l).map I⟩], [⟨.slice (A12_2) (((p).k.l).length) (c12_2), 3, 1, (((p).k.l).length), ((p).k.l).map I⟩], [⟨.slice (bl b1_0) 1 1, 58, 3, 1, [.slice (A12_2) ((((p).k.l)).length) (c12_2), .slice (A13_2) ((((p).c.l)).length) (c13_2), .slice (A14_2) ((((p).v.l)).length) (c14_2)]⟩], [⟨.slice (bl b0_1) 1 1, 58, 3, 1, [.slice (A12_2) ((((p).k.l)).length) (c12_2), .slice (A13_2) ((((p).c.l)).length) (c13_2), .slice (A14_2) ((((p).v.l)).length) (c14_2)]⟩], [⟨.slice (bl b0_0) 1 1, 107, 3, 1, [.slice ((p).k.A) ((p).k.l.length) ((p).k.cp), .slice ((p).c.A) ((p).c.l.length) ((p).c.cp), .slice ((p).v.A) ((p).v.l.length) ((p).v.cp)]⟩]] := hMn2.relen 0 (n' := ((p).v.l).length) (xs' := ((p).v.l).map I) rfl (by first | rfl | exact congrArg List.length hq3 | (have hqq := congrArg List.length hq3; first | omega | (simp at hqq ⊢; omega)) | (simp; done) | (simp; omega)) (congrArg (fun z_ => (z_).map I) hq3) rfl
  exact ⟨A12_2, c12_2, A13_2, c13_2, A14_2, c14_2, (by first | rfl | exact sl_congr (by first | omega | (simp; done) | (simp; omega)) | (simp; done)), (hMn3.pick [2, 1, 0] (by decide) rfl)⟩

theorem toPageS_fn (A : Option Addr) (c : Nat) (l : List PgL) (w : World) (hA : Rd w A ((l).flatMap encPg)) (hNA : NsP w l) (hl : l.length ≤ 1048576) (hk : ∀ x ∈ l, (x).k.l.length ≤ 1048576 ∧ (x).c.l.length ≤ 1048576 ∧ (x).v.l.length ≤ 1048576) :
    Does Tryd.prog 57 [.slice (A) ((l).length) (c)] w (fun v w1 => ∃ (L1 : List PgL) (A1 : Option Addr) (c1 : Nat), v = .slice (A1) ((L1).length) (c1) ∧ (tsG L1 = tsG l) ∧ Mem w w1 [] [[⟨.slice (A1) ((L1).length) (c1), 58, 3, ((L1).length), (L1).flatMap encPg⟩], (L1).flatMap (pgF 3)]) := by
  have hM : Mem w w [] [] := Mem.refl
  refine Does.enter1 Tryd.func57 rfl Tryd.results57 Tryd.ntmps57 rfl ?_
  refine C.seq ?_
  refine C.region ?_
  refine O.val (v := .slice (none) (0) (0)) rfl (Ru.assign rfl) rfl ?_
  refine O.nil ?_
  refine C.seq ?_
  refine C.region ?_
  refine O.val (v := .slice (A) ((l).length) (c)) rfl (Ru.move rfl) rfl ?_
  refine O.val (v := I ((((l).length : Nat) : Int))) rfl (Ru.blenSlice Tryd.underlying32 rfl) rfl ?_
  refine O.mmake (k := (l).length) (sz := 3) (xs := (List.replicate ((l).length) (⟨⟨none, 0, []⟩, ⟨none, 0, []⟩, ⟨none, 0, []⟩⟩ : PgL)).flatMap encPg) hM rfl Tryd.underlying37 el58 rfl rfl rfl rfl (by omega) (by omega) (zer_flat rfl) (fun w1_2 b1_2 hb1_2 (hM1_2 : Mem w w1_2 [] [[⟨.slice (bl b1_2) ((l).length) ((l).length), 58, 3, ((l).length), (List.replicate ((l).length) (⟨⟨none, 0, []⟩, ⟨none, 0, []⟩, ⟨none, 0, []⟩⟩ : PgL)).flatMap encPg⟩]]) => ?_)
  refine O.val (v := .slice (bl b1_2) ((l).length) ((l).length)) rfl (Ru.assign rfl) rfl ?_
  refine O.nil ?_
  have hMk1 : Mem w w1_2 [] [(([] : List PgL)).flatMap (pgF 3), [⟨.slice (bl b1_2) ((l).length) ((l).length), 58, 3, ((l).length), (List.replicate ((l).length) (⟨⟨none, 0, []⟩, ⟨none, 0, []⟩, ⟨none, 0, []⟩⟩ : PgL)).flatMap encPg⟩]] := Mem.gnil hM1_2
  refine C.seq ?_
  refine C.seq ?_
  refine C.region ?_
  refine O.val (v := I (0)) rfl (Ru.assign rfl) rfl ?_
  refine O.nil ?_
  refine C.block ?_
  have hq2 : (List.replicate ((l).length) (⟨⟨none, 0, []⟩, ⟨none, 0, []⟩, ⟨none, 0, []⟩⟩ : PgL) : List PgL) = ([] : List PgL) ++ List.replicate (l.length - 0) (⟨⟨none, 0, []⟩, ⟨none, 0, []⟩, ⟨none, 0, []⟩⟩ : PgL) := (by simp)
  have hMn2 : Mem w w1_2 [] [(([] : List PgL)).flatMap (pgF 3), [⟨.slice (bl b1_2) (l.length) ((l).length), 58, 3, (l.length), (([] : List PgL) ++ List.replicate (l.length - 0) (⟨⟨none, 0, []⟩, ⟨none, 0, []⟩, ⟨none, 0, []⟩⟩ : PgL)).flatMap encPg⟩]] := hMk1.relen 1 (n' := l.length) (xs' := (([] : List PgL) ++ List.replicate (l.length - 0) (⟨⟨none, 0, []⟩, ⟨none, 0, []⟩, ⟨none, 0, []⟩⟩ : PgL)).flatMap encPg) rfl (by first | rfl | exact congrArg List.length hq2 | (have hqq := congrArg List.length hq2; first | omega | (simp at hqq ⊢; omega)) | (simp; done) | (simp; omega)) (congrArg (fun z_ => (z_).flatMap encPg) hq2) rfl
  refine C.loop (ι := Nat × (List PgL)) (fun x_ => ([(0, .slice (A) ((l).length) (c)), (3, .slice (bl b1_2) (l.length) (l.length)), (4, I (((x_.1 : Nat) : Int)))] : List (Nat × Value))) (fun x_ w_ => (x_.1 ≤ l.length) ∧ (tsG x_.2 = (tsG l).take x_.1) ∧ (Mem w w_ [] [(x_.2).flatMap (pgF 3), [⟨.slice (bl b1_2) (l.length) (l.length), 58, 3, (l.length), (x_.2 ++ List.replicate (l.length - x_.1) (⟨⟨none, 0, []⟩, ⟨none, 0, []⟩, ⟨none, 0, []⟩⟩ : PgL)).flatMap encPg⟩]])) (fun x_ => l.length - x_.1) (0, ([] : List PgL)) (Has.cons rfl (Has.cons (sl_congr (by first | rfl | omega | (simp; done) | (simp; omega) | exact congrArg List.length hq3 | (simp [← hq3]; done) | (simp [← hq3]; omega))) (Has.cons (I_congr (by first | rfl | omega | (simp; omega) | simp)) Has.nil))) ⟨(Nat.zero_le _), (by (try dsimp only); simp), (hMn2.pick [0, 1] (by decide) rfl)⟩ (fun ⟨k, Ch⟩ σ w_l3 hI => ?_)
  try dsimp only at hI
  obtain ⟨hi0_l3, hi1_l3, hM_l3⟩ := hI
  have hcl1_l3 := (hM_l3.cap 1 rfl).1
  have hCl := tsg_len hi1_l3 hi0_l3
  refine C.seq ?_
  refine C.seq ?_
  refine C.region ?_
  refine O.val (v := I (((k : Nat) : Int))) rfl (Ru.move rfl) rfl ?_
  refine O.val (v := .slice (A) ((l).length) (c)) rfl (Ru.move rfl) rfl ?_
  refine O.val (v := I ((((l).length : Nat) : Int))) rfl (Ru.blenSlice Tryd.underlying32 rfl) rfl ?_
  refine O.val (v := .bool (decide (((k : Nat) : Int) < (((l).length : Nat) : Int)))) rfl (Ru.lss rfl rfl) rfl ?_
  refine O.nil ?_
  refine C.cond (p := ((k : Nat) : Int) < (((l).length : Nat) : Int)) rfl (fun c11 => ?_) (fun c11 => ?_)
  · refine C.skip ?_
    refine C.seq ?_
    refine C.block ?_
    refine C.region ?_
    refine O.val (v := .slice (bl b1_2) (l.length) (l.length)) rfl (Ru.move rfl) rfl ?_
    refine O.val (v := I (((k : Nat) : Int))) rfl (Ru.move rfl) rfl ?_
    refine O.val (v := .slice (A) ((l).length) (c)) rfl (Ru.move rfl) rfl ?_
    refine O.val (v := I (((k : Nat) : Int))) rfl (Ru.move rfl) rfl ?_
    have hx5_4 : k < (l).length := (by first | omega | (simp; omega))
    refine O.val (v := .pointer (ofs (A) (k * 3))) rfl (Ru.indexA (j := k) Tryd.underlying32 el107 rfl rfl (smf encPg_len (hA.at hM_l3) hx5_4 rfl) (by omega) (by first | omega | (simp; omega))) rfl ?_
    refine O.val rfl (Ru.loadN (vs := [.slice (((l)[k]'hx5_4).k.A) (((l)[k]'hx5_4).k.l.length) (((l)[k]'hx5_4).k.cp), .slice (((l)[k]'hx5_4).c.A) (((l)[k]'hx5_4).c.l.length) (((l)[k]'hx5_4).c.cp), .slice (((l)[k]'hx5_4).v.A) (((l)[k]'hx5_4).v.l.length) (((l)[k]'hx5_4).v.cp)]) el107 rfl rfl (smf encPg_len (hA.at hM_l3) hx5_4 rfl) (ldn encPg_len (hA.at hM_l3) hx5_4)) rfl ?_
    refine O.callg [.agg #[.slice (((l)[k]'hx5_4).k.A) (((l)[k]'hx5_4).k.l.length) (((l)[k]'hx5_4).k.cp), .slice (((l)[k]'hx5_4).c.A) (((l)[k]'hx5_4).c.l.length) (((l)[k]'hx5_4).c.cp), .slice (((l)[k]'hx5_4).v.A) (((l)[k]'hx5_4).v.l.length) (((l)[k]'hx5_4).v.cp)]] rfl en92 rfl rfl (toPage_fn ((l)[k]'hx5_4) w_l3 ((hNA.at hM_l3).get hx5_4) (by exact hk _ (List.getElem_mem hx5_4))) ?_
    rintro _ w5_6 ⟨A15_6, c15_6, A25_6, c25_6, A35_6, c35_6, rfl, hR5_6⟩
    have hM5_6 : Mem w w5_6 [] [[⟨.slice (A15_6) (((((l)[k]'hx5_4)).k.l).length) (c15_6), 3, 1, (((((l)[k]'hx5_4)).k.l).length), ((((l)[k]'hx5_4)).k.l).map I⟩], [⟨.slice (A25_6) (((((l)[k]'hx5_4)).c.l).length) (c25_6), 3, 1, (((((l)[k]'hx5_4)).c.l).length), ((((l)[k]'hx5_4)).c.l).map I⟩], [⟨.slice (A35_6) (((((l)[k]'hx5_4)).v.l).length) (c35_6), 3, 1, (((((l)[k]'hx5_4)).v.l).length), ((((l)[k]'hx5_4)).v.l).map I⟩], (Ch).flatMap (pgF 3), [⟨.slice (bl b1_2) (l.length) (l.length), 58, 3, (l.length), (Ch ++ List.replicate (l.length - k) (⟨⟨none, 0, []⟩, ⟨none, 0, []⟩, ⟨none, 0, []⟩⟩ : PgL)).flatMap encPg⟩]] := Mem.call (Ma := []) hM_l3 hR5_6 rfl
    have hcr5_6_0 := (hM5_6.cap 0 rfl).1
    have hcr5_6_1 := (hM5_6.cap 1 rfl).1
    have hcr5_6_2 := (hM5_6.cap 2 rfl).1
    have hx5_7 : k < (Ch ++ List.replicate (l.length - k) (⟨⟨none, 0, []⟩, ⟨none, 0, []⟩, ⟨none, 0, []⟩⟩ : PgL)).length := (by simp; omega)
    refine O.val (v := .pointer (ofs (bl b1_2) (k * 3))) rfl (Ru.indexA (j := k) Tryd.underlying37 el58 rfl rfl (smf encPg_len (hM5_6.rd 4 rfl) hx5_7 rfl) (by omega) (by first | omega | (simp; omega))) rfl ?_
    refine O.mstore (vs := [.slice (A15_6) (((((l)[k]'hx5_4)).k.l).length) (c15_6), .slice (A25_6) (((((l)[k]'hx5_4)).c.l).length) (c25_6), .slice (A35_6) (((((l)[k]'hx5_4)).v.l).length) (c35_6)]) (xs' := ((Ch ++ List.replicate (l.length - k) (⟨⟨none, 0, []⟩, ⟨none, 0, []⟩, ⟨none, 0, []⟩⟩ : PgL)).set (k) (⟨⟨A15_6, c15_6, (((l)[k]'hx5_4)).k.l⟩, ⟨A25_6, c25_6, (((l)[k]'hx5_4)).c.l⟩, ⟨A35_6, c35_6, (((l)[k]'hx5_4)).v.l⟩⟩ : PgL)).flatMap encPg) 4 0 hM5_6 rfl rfl rfl el58 rfl rfl rfl rfl rfl (by rw [flat_len encPg_len]; simp; omega) (by simp) (spl_flat encPg_len (l := Ch ++ List.replicate (l.length - k) (⟨⟨none, 0, []⟩, ⟨none, 0, []⟩, ⟨none, 0, []⟩⟩ : PgL)) (a := (⟨⟨A15_6, c15_6, (((l)[k]'hx5_4)).k.l⟩, ⟨A25_6, c25_6, (((l)[k]'hx5_4)).c.l⟩, ⟨A35_6, c35_6, (((l)[k]'hx5_4)).v.l⟩⟩ : PgL)) hx5_7) rfl (fun w5_8 (hM5_8 : Mem w w5_8 [] [[⟨.slice (A15_6) (((((l)[k]'hx5_4)).k.l).length) (c15_6), 3, 1, (((((l)[k]'hx5_4)).k.l).length), ((((l)[k]'hx5_4)).k.l).map I⟩], [⟨.slice (A25_6) (((((l)[k]'hx5_4)).c.l).length) (c25_6), 3, 1, (((((l)[k]'hx5_4)).c.l).length), ((((l)[k]'hx5_4)).c.l).map I⟩], [⟨.slice (A35_6) (((((l)[k]'hx5_4)).v.l).length) (c35_6), 3, 1, (((((l)[k]'hx5_4)).v.l).length), ((((l)[k]'hx5_4)).v.l).map I⟩], (Ch).flatMap (pgF 3), [⟨.slice (bl b1_2) (l.length) (l.length), 58, 3, (l.length), ((Ch ++ List.replicate (l.length - k) (⟨⟨none, 0, []⟩, ⟨none, 0, []⟩, ⟨none, 0, []⟩⟩ : PgL)).set (k) (⟨⟨A15_6, c15_6, (((l)[k]'hx5_4)).k.l⟩, ⟨A25_6, c25_6, (((l)[k]'hx5_4)).c.l⟩, ⟨A35_6, c35_6, (((l)[k]'hx5_4)).v.l⟩⟩ : PgL)).flatMap encPg⟩]]) => ?_)
    refine O.nil ?_
    have hMk4 : Mem w w5_8 [] [(Ch ++ [(⟨⟨A15_6, c15_6, (((l)[k]'hx5_4)).k.l⟩, ⟨A25_6, c25_6, (((l)[k]'hx5_4)).c.l⟩, ⟨A35_6, c35_6, (((l)[k]'hx5_4)).v.l⟩⟩ : PgL)]).flatMap (pgF 3), [⟨.slice (bl b1_2) (l.length) (l.length), 58, 3, (l.length), ((Ch ++ List.replicate (l.length - k) (⟨⟨none, 0, []⟩, ⟨none, 0, []⟩, ⟨none, 0, []⟩⟩ : PgL)).set (k) (⟨⟨A15_6, c15_6, (((l)[k]'hx5_4)).k.l⟩, ⟨A25_6, c25_6, (((l)[k]'hx5_4)).c.l⟩, ⟨A35_6, c35_6, (((l)[k]'hx5_4)).v.l⟩⟩ : PgL)).flatMap encPg⟩]] := Mem.gapp (l := Ch) (k := ⟨A15_6, c15_6, (((l)[k]'hx5_4)).k.l⟩) (c := ⟨A25_6, c25_6, (((l)[k]'hx5_4)).c.l⟩) (v := ⟨A35_6, c35_6, (((l)[k]'hx5_4)).v.l⟩) (M := [[⟨.slice (bl b1_2) (l.length) (l.length), 58, 3, (l.length), ((Ch ++ List.replicate (l.length - k) (⟨⟨none, 0, []⟩, ⟨none, 0, []⟩, ⟨none, 0, []⟩⟩ : PgL)).set (k) (⟨⟨A15_6, c15_6, (((l)[k]'hx5_4)).k.l⟩, ⟨A25_6, c25_6, (((l)[k]'hx5_4)).c.l⟩, ⟨A35_6, c35_6, (((l)[k]'hx5_4)).v.l⟩⟩ : PgL)).flatMap encPg⟩]]) (hM5_8.pick [3, 0, 1, 2, 4] (by decide) rfl)
    refine C.region ?_
    refine O.val (v := I (((k : Nat) : Int))) rfl (Ru.move rfl) rfl ?_
    refine O.val (v := I ((((k + 1) : Nat) : Int))) rfl (Ru.congr (v := I ((((k : Nat) : Int) + 1))) (v' := I ((((k + 1) : Nat) : Int))) (Ru.add rfl rfl (by omega)) (I_congr (by first | omega | simp))) rfl ?_
    refine O.val (v := I ((((k + 1) : Nat) : Int))) rfl (Ru.assign rfl) rfl ?_
    refine O.nil ?_
    have hq5 : ((Ch ++ List.replicate (l.length - k) (⟨⟨none, 0, []⟩, ⟨none, 0, []⟩, ⟨none, 0, []⟩⟩ : PgL)).set (k) (⟨⟨A15_6, c15_6, (((l)[k]'hx5_4)).k.l⟩, ⟨A25_6, c25_6, (((l)[k]'hx5_4)).c.l⟩, ⟨A35_6, c35_6, (((l)[k]'hx5_4)).v.l⟩⟩ : PgL) : List PgL) = (Ch ++ [(⟨⟨A15_6, c15_6, (((l)[k]'hx5_4)).k.l⟩, ⟨A25_6, c25_6, (((l)[k]'hx5_4)).c.l⟩, ⟨A35_6, c35_6, (((l)[k]'hx5_4)).v.l⟩⟩ : PgL)]) ++ List.replicate (l.length - (k + 1)) (⟨⟨none, 0, []⟩, ⟨none, 0, []⟩, ⟨none, 0, []⟩⟩ : PgL) := (fill_app hCl hx5_4)
    have hMn5 : Mem w w5_8 [] [(Ch ++ [(⟨⟨A15_6, c15_6, (((l)[k]'hx5_4)).k.l⟩, ⟨A25_6, c25_6, (((l)[k]'hx5_4)).c.l⟩, ⟨A35_6, c35_6, (((l)[k]'hx5_4)).v.l⟩⟩ : PgL)]).flatMap (pgF 3), [⟨.slice (bl b1_2) (l.length) (l.length), 58, 3, (l.length), ((Ch ++ [(⟨⟨A15_6, c15_6, (((l)[k]'hx5_4)).k.l⟩, ⟨A25_6, c25_6, (((l)[k]'hx5_4)).c.l⟩, ⟨A35_6, c35_6, (((l)[k]'hx5_4)).v.l⟩⟩ : PgL)]) ++ List.replicate (l.length - (k + 1)) (⟨⟨none, 0, []⟩, ⟨none, 0, []⟩, ⟨none, 0, []⟩⟩ : PgL)).flatMap encPg⟩]] := hMk4.relen 1 (n' := l.length) (xs' := ((Ch ++ [(⟨⟨A15_6, c15_6, (((l)[k]'hx5_4)).k.l⟩, ⟨A25_6, c25_6, (((l)[k]'hx5_4)).c.l⟩, ⟨A35_6, c35_6, (((l)[k]'hx5_4)).v.l⟩⟩ : PgL)]) ++ List.replicate (l.length - (k + 1)) (⟨⟨none, 0, []⟩, ⟨none, 0, []⟩, ⟨none, 0, []⟩⟩ : PgL)).flatMap encPg) rfl (by first | rfl | exact congrArg List.length hq5 | (have hqq := congrArg List.length hq5; first | omega | (simp at hqq ⊢; omega)) | (simp; done) | (simp; omega)) (congrArg (fun z_ => (z_).flatMap encPg) hq5) rfl
    exact loopEnd (k + 1, Ch ++ [(⟨⟨A15_6, c15_6, (((l)[k]'hx5_4)).k.l⟩, ⟨A25_6, c25_6, (((l)[k]'hx5_4)).c.l⟩, ⟨A35_6, c35_6, (((l)[k]'hx5_4)).v.l⟩⟩ : PgL)]) (by (try dsimp only); omega) (Has.cons rfl (Has.cons rfl (Has.cons (I_congr (by first | rfl | omega | (simp; omega) | simp)) Has.nil))) ⟨(by (try dsimp only); omega), (tsg_snoc hi1_l3 hx5_4 rfl), (hMn5.pick [0, 1] (by decide) rfl)⟩
  · refine C.exit ?_
    refine C.seq ?_
    refine C.region ?_
    refine O.val (v := .slice (bl b1_2) (l.length) (l.length)) rfl (Ru.move rfl) rfl ?_
    refine O.val (v := .slice (bl b1_2) (l.length) (l.length)) rfl (Ru.assign rfl) rfl ?_
    refine O.nil ?_
    refine C.ret ?_
    refine P1 (v := .slice (bl b1_2) (l.length) (l.length)) rfl ?_
    have hke : k = l.length := by omega
    rw [hke, List.take_of_length_le (by simp)] at hi1_l3
    have hq7 : (Ch ++ List.replicate (l.length - k) (⟨⟨none, 0, []⟩, ⟨none, 0, []⟩, ⟨none, 0, []⟩⟩ : PgL) : List PgL) = Ch := (by rw [hke]; simp)
    have hMn7 : Mem w w_l3 [] [(Ch).flatMap (pgF 3), [⟨.slice (bl b1_2) ((Ch).length) (l.length), 58, 3, ((Ch).length), (Ch).flatMap encPg⟩]] := hM_l3.relen 1 (n' := (Ch).length) (xs' := (Ch).flatMap encPg) rfl (by first | rfl | exact congrArg List.length hq7 | (have hqq := congrArg List.length hq7; first | omega | (simp at hqq ⊢; omega)) | (simp; done) | (simp; omega)) (congrArg (fun z_ => (z_).flatMap encPg) hq7) rfl
    exact ⟨Ch, bl b1_2, l.length, (sl_congr (by omega)), hi1_l3, (hMn7.pick [1, 0] (by decide) rfl)⟩

theorem toTree_fn (T : TreeL) (w : World) (hNT : TrN w T) (hs : SzT T) :
    Does Tryd.prog 21 [.agg #[I ((T).root), .slice ((T).A) ((T).l.length) ((T).cp)]] w (fun v w1 => ∃ (L1 : List PgL) (A1 : Option Addr) (c1 : Nat), v = .agg #[I ((T).root), .slice (A1) ((L1).length) (c1)] ∧ (tsG L1 = tsG (T).l) ∧ Mem w w1 [] [[⟨.slice (A1) ((L1).length) (c1), 58, 3, ((L1).length), (L1).flatMap encPg⟩], (L1).flatMap (pgF 3)]) := by
  have hM : Mem w w [] [] := Mem.refl
  refine Does.enterG (rs := [.cell 2 39]) Tryd.func21 rfl Tryd.results21 Tryd.ntmps21 rfl ?_
  refine C.seq ?_
  refine C.region ?_
  refine O.mbox (k := 2) (vs := [I ((T).root), .slice ((T).A) ((T).l.length) ((T).cp)]) hM rfl rfl rfl rfl rfl (fun w0_0 b0_0 hb0_0 (hM0_0 : Mem w w0_0 [] [[⟨.slice (bl b0_0) 1 1, 34, 2, 1, [I ((T).root), .slice ((T).A) ((T).l.length) ((T).cp)]⟩]]) => ?_)
  refine O.malloc (k := 2) hM0_0 rfl rfl el39 rfl (fun w0_1 b0_1 hb0_1 (hM0_1 : Mem w w0_1 [] [[⟨.slice (bl b0_1) 1 1, 39, 2, 1, [I (0), .slice (none) (0) (0)]⟩], [⟨.slice (bl b0_0) 1 1, 34, 2, 1, [I ((T).root), .slice ((T).A) ((T).l.length) ((T).cp)]⟩]]) => ?_)
  refine O.nil ?_
  refine C.seq ?_
  refine C.region ?_
  refine O.malloc (k := 2) hM0_1 rfl rfl el39 rfl (fun w1_0 b1_0 hb1_0 (hM1_0 : Mem w w1_0 [] [[⟨.slice (bl b1_0) 1 1, 39, 2, 1, [I (0), .slice (none) (0) (0)]⟩], [⟨.slice (bl b0_1) 1 1, 39, 2, 1, [I (0), .slice (none) (0) (0)]⟩], [⟨.slice (bl b0_0) 1 1, 34, 2, 1, [I ((T).root), .slice ((T).A) ((T).l.length) ((T).cp)]⟩]]) => ?_)
  refine O.nil ?_
  refine C.seq ?_
  refine C.region ?_
  refine O.val (v := .pointer (ofs (bl b0_0) (0))) rfl (Ru.fieldA fl34_0 rfl rfl) rfl ?_
  refine O.val rfl (Ru.load1 el3 rfl ((hM1_0.rd 2 rfl).ld rfl)) rfl ?_
  refine O.val (v := .pointer (ofs (bl b1_0) (0))) rfl (Ru.fieldA fl39_0 rfl rfl) rfl ?_
  refine O.mstore (vs := [I ((T).root)]) (xs' := [I ((T).root), .slice (none) (0) (0)]) 0 0 hM1_0 rfl rfl rfl el3 rfl rfl rfl rfl rfl (by simp) (by simp) rfl rfl (fun w2_3 (hM2_3 : Mem w w2_3 [] [[⟨.slice (bl b1_0) 1 1, 39, 2, 1, [I ((T).root), .slice (none) (0) (0)]⟩], [⟨.slice (bl b0_1) 1 1, 39, 2, 1, [I (0), .slice (none) (0) (0)]⟩], [⟨.slice (bl b0_0) 1 1, 34, 2, 1, [I ((T).root), .slice ((T).A) ((T).l.length) ((T).cp)]⟩]]) => ?_)
  refine O.nil ?_
  refine C.seq ?_
  refine C.region ?_
  refine O.val (v := .pointer (ofs (bl b0_0) (1))) rfl (Ru.fieldA fl34_1 rfl rfl) rfl ?_
  refine O.val rfl (Ru.load1 el32 rfl ((hM2_3.rd 2 rfl).ld rfl)) rfl ?_
  refine O.callg [.slice ((T).A) (((T).l).length) ((T).cp)] rfl en57 (by first | rfl | (rw [show ((T).l).length = (T).l.length from (by first | rfl | (simp; done) | omega | (simp; omega))]; rfl)) rfl (toPageS_fn ((T).A) ((T).cp) ((T).l) w2_3 (hNT.at hM2_3).1 ((hNT.at hM2_3)).2 (by exact hs.1) (by exact hs.2)) ?_
  rintro _ w3_2 ⟨L13_2, A13_2, c13_2, rfl, hts3_2, hR3_2⟩
  have hM3_2 : Mem w w3_2 [] [[⟨.slice (A13_2) ((L13_2).length) (c13_2), 58, 3, ((L13_2).length), (L13_2).flatMap encPg⟩], (L13_2).flatMap (pgF 3), [⟨.slice (bl b1_0) 1 1, 39, 2, 1, [I ((T).root), .slice (none) (0) (0)]⟩], [⟨.slice (bl b0_1) 1 1, 39, 2, 1, [I (0), .slice (none) (0) (0)]⟩], [⟨.slice (bl b0_0) 1 1, 34, 2, 1, [I ((T).root), .slice ((T).A) ((T).l.length) ((T).cp)]⟩]] := Mem.call (Ma := []) hM2_3 hR3_2 rfl
  have hcr3_2_0 := (hM3_2.cap 0 rfl).1
  refine O.val (v := .pointer (ofs (bl b1_0) (1))) rfl (Ru.fieldA fl39_1 rfl rfl) rfl ?_
  refine O.mstore (vs := [.slice (A13_2) ((L13_2).length) (c13_2)]) (xs' := [I ((T).root), .slice (A13_2) ((L13_2).length) (c13_2)]) 2 0 hM3_2 rfl rfl rfl el37 rfl rfl rfl rfl rfl (by simp) (by simp) rfl rfl (fun w3_4 (hM3_4 : Mem w w3_4 [] [[⟨.slice (A13_2) ((L13_2).length) (c13_2), 58, 3, ((L13_2).length), (L13_2).flatMap encPg⟩], (L13_2).flatMap (pgF 3), [⟨.slice (bl b1_0) 1 1, 39, 2, 1, [I ((T).root), .slice (A13_2) ((L13_2).length) (c13_2)]⟩], [⟨.slice (bl b0_1) 1 1, 39, 2, 1, [I (0), .slice (none) (0) (0)]⟩], [⟨.slice (bl b0_0) 1 1, 34, 2, 1, [I ((T).root), .slice ((T).A) ((T).l.length) ((T).cp)]⟩]]) => ?_)
  refine O.nil ?_
  refine C.seq ?_
  refine C.region ?_
  refine O.val rfl (Ru.loadN (vs := [I ((T).root), .slice (A13_2) ((L13_2).length) (c13_2)]) el39 rfl rfl rfl ((mem_blk (i := 2) (j := 0) hM3_4 rfl rfl).lds (k := 0) rfl)) rfl ?_
  refine O.mstore (vs := [I ((T).root), .slice (A13_2) ((L13_2).length) (c13_2)]) (xs' := [I ((T).root), .slice (A13_2) ((L13_2).length) (c13_2)]) 3 0 hM3_4 rfl rfl rfl el39 rfl rfl rfl rfl rfl (by simp) (by simp) rfl rfl (fun w4_1 (hM4_1 : Mem w w4_1 [] [[⟨.slice (A13_2) ((L13_2).length) (c13_2), 58, 3, ((L13_2).length), (L13_2).flatMap encPg⟩], (L13_2).flatMap (pgF 3), [⟨.slice (bl b1_0) 1 1, 39, 2, 1, [I ((T).root), .slice (A13_2) ((L13_2).length) (c13_2)]⟩], [⟨.slice (bl b0_1) 1 1, 39, 2, 1, [I ((T).root), .slice (A13_2) ((L13_2).length) (c13_2)]⟩], [⟨.slice (bl b0_0) 1 1, 34, 2, 1, [I ((T).root), .slice ((T).A) ((T).l.length) ((T).cp)]⟩]]) => ?_)
  refine O.nil ?_
  refine C.ret ?_
  refine PG (vs := [.agg #[I ((T).root), .slice (A13_2) ((L13_2).length) (c13_2)]]) (ResV.cell (l := [I ((T).root), .slice (A13_2) ((L13_2).length) (c13_2)]) rfl (mem_blk (i := 3) (j := 0) hM4_1 rfl rfl) el39 rfl ResV.nil) ?_
  exact ⟨L13_2, A13_2, c13_2, (by first | rfl | exact sl_congr (by first | omega | (simp; done) | (simp; omega)) | (simp; done)), hts3_2, (hM4_1.pick [0, 1] (by decide) rfl)⟩

theorem equalInts_fn (A : Option Addr) (c : Nat) (a : List Int) (B : Option Addr) (d : Nat) (b : List Int) (w : World) (hA : Rd w A ((a).map I)) (hB : Rd w B ((b).map I)) (ha : a.length ≤ 1048576) :
    Does Tryd.prog 107 [.slice (A) ((a).length) (c), .slice (B) ((b).length) (d)] w (fun v w1 => v = .bool (decide (a = b)) ∧ Mem w w1 [] []) := by
  have hM : Mem w w [] [] := Mem.refl
  refine Does.enter1 Tryd.func107 rfl Tryd.results107 Tryd.ntmps107 rfl ?_
  refine C.seq ?_
  refine C.region ?_
  refine O.val (v := .bool (false)) rfl (Ru.assign rfl) rfl ?_
  refine O.nil ?_
  refine C.seq ?_
  refine C.seq ?_
  refine C.region ?_
  refine O.val (v := .slice (A) ((a).length) (c)) rfl (Ru.move rfl) rfl ?_
  refine O.val (v := I ((((a).length : Nat) : Int))) rfl (Ru.blenSlice Tryd.underlying51 rfl) rfl ?_
  refine O.val (v := .slice (B) ((b).length) (d)) rfl (Ru.move rfl) rfl ?_
  refine O.val (v := I ((((b).length : Nat) : Int))) rfl (Ru.blenSlice Tryd.underlying51 rfl) rfl ?_
  refine O.val (v := .bool (decide ((((a).length : Nat) : Int) ≠ (((b).length : Nat) : Int)))) rfl (Ru.neq rfl rfl) rfl ?_
  refine O.nil ?_
  refine C.cond (p := (((a).length : Nat) : Int) ≠ (((b).length : Nat) : Int)) rfl (fun c10 => ?_) (fun c10 => ?_)
  · refine C.seq ?_
    refine C.region ?_
    refine O.val (v := .bool (false)) rfl (Ru.assign rfl) rfl ?_
    refine O.nil ?_
    refine C.ret ?_
    refine P1 (v := .bool (false)) rfl ?_
    exact ⟨(by rw [ne_len (by omega)]), (Mem.none hM)⟩
  · refine C.skip ?_
    refine C.seq ?_
    refine C.seq ?_
    refine C.region ?_
    refine O.val (v := I (0)) rfl (Ru.assign rfl) rfl ?_
    refine O.nil ?_
    refine C.block ?_
    refine C.loop (ι := Nat) (fun k => ([(0, .slice (A) ((a).length) (c)), (1, .slice (B) ((b).length) (d)), (5, I (((k : Nat) : Int)))] : List (Nat × Value))) (fun k w_ => (k ≤ a.length) ∧ (a.take k = b.take k) ∧ (Mem w w_ [] [])) (fun k => a.length - k) (0) (Has.cons rfl (Has.cons rfl (Has.cons (I_congr (by first | rfl | omega | (simp; omega) | simp)) Has.nil))) ⟨(Nat.zero_le _), (by (try dsimp only); simp), (hM.pick [] (by decide) rfl)⟩ (fun k σ w_l4 hI => ?_)
    try dsimp only at hI
    obtain ⟨hi0_l4, hi1_l4, hM_l4⟩ := hI
    refine C.seq ?_
    refine C.seq ?_
    refine C.region ?_
    refine O.val (v := I (((k : Nat) : Int))) rfl (Ru.move rfl) rfl ?_
    refine O.val (v := .slice (A) ((a).length) (c)) rfl (Ru.move rfl) rfl ?_
    refine O.val (v := I ((((a).length : Nat) : Int))) rfl (Ru.blenSlice Tryd.underlying51 rfl) rfl ?_
    refine O.val (v := .bool (decide (((k : Nat) : Int) < (((a).length : Nat) : Int)))) rfl (Ru.lss rfl rfl) rfl ?_
    refine O.nil ?_
    refine C.cond (p := ((k : Nat) : Int) < (((a).length : Nat) : Int)) rfl (fun c14 => ?_) (fun c14 => ?_)
    · refine C.skip ?_
      refine C.seq ?_
      refine C.block ?_
      refine C.seq ?_
      refine C.draws (fun w2 => Mem w w2 [] []) mixed (by kernel_rfl) (hM_l4.ext (kdrawn _)) ?_
      refine QO.val (v := .slice (A) ((a).length) (c)) rfl (fun w2 hw2 => Ru.move rfl) rfl ?_
      refine QO.val (v := I (((k : Nat) : Int))) rfl (fun w2 hw2 => Ru.move rfl) rfl ?_
      have hx6_2 : k < (a).length := (by first | omega | (simp; omega))
      refine QO.val (v := .pointer (ofs (A) (k * 1))) rfl (fun w2 hw2 => Ru.indexA (j := k) Tryd.underlying51 el3 rfl rfl (smm (hA.at hw2) hx6_2) (by omega) (by first | omega | (simp; omega))) rfl ?_
      refine QO.val rfl (fun w2 hw2 => Ru.load1 el3 rfl (ldm (hA.at hw2) hx6_2)) rfl ?_
      refine QO.val (v := .slice (B) ((b).length) (d)) rfl (fun w2 hw2 => Ru.move rfl) rfl ?_
      refine QO.val (v := I (((k : Nat) : Int))) rfl (fun w2 hw2 => Ru.move rfl) rfl ?_
      have hx6_6 : k < (b).length := (by first | omega | (simp; omega))
      refine QO.val (v := .pointer (ofs (B) (k * 1))) rfl (fun w2 hw2 => Ru.indexA (j := k) Tryd.underlying51 el3 rfl rfl (smm (hB.at hw2) hx6_6) (by omega) (by first | omega | (simp; omega))) rfl ?_
      refine QO.val rfl (fun w2 hw2 => Ru.load1 el3 rfl (ldm (hB.at hw2) hx6_6)) rfl ?_
      refine QO.val (v := .bool (decide ((a)[k]'hx6_2 ≠ (b)[k]'hx6_6))) rfl (fun w2 hw2 => Ru.neq rfl rfl) rfl ?_
      refine QO.nil ?_
      intro w6d hM6d
      refine C.cond (p := (a)[k]'hx6_2 ≠ (b)[k]'hx6_6) rfl (fun c25 => ?_) (fun c25 => ?_)
      · refine C.seq ?_
        refine C.region ?_
        refine O.val (v := .bool (false)) rfl (Ru.assign rfl) rfl ?_
        refine O.nil ?_
        refine C.ret ?_
        refine P1 (v := .bool (false)) rfl ?_
        exact ⟨(by rw [ne_at hx6_2 hx6_6 (by simpa using c25)]), (Mem.none hM6d)⟩
      · refine C.skip ?_
        refine C.region ?_
        refine O.val (v := I (((k : Nat) : Int))) rfl (Ru.move rfl) rfl ?_
        refine O.val (v := I ((((k + 1) : Nat) : Int))) rfl (Ru.congr (v := I ((((k : Nat) : Int) + 1))) (v' := I ((((k + 1) : Nat) : Int))) (Ru.add rfl rfl (by omega)) (I_congr (by first | omega | simp))) rfl ?_
        refine O.val (v := I ((((k + 1) : Nat) : Int))) rfl (Ru.assign rfl) rfl ?_
        refine O.nil ?_
        exact loopEnd (k + 1) (by (try dsimp only); omega) (Has.cons rfl (Has.cons rfl (Has.cons (I_congr (by first | rfl | omega | (simp; omega) | simp)) Has.nil))) ⟨(by (try dsimp only); omega), (eq_step hx6_2 hx6_6 hi1_l4 (by simpa using c25)), (hM6d.pick [] (by decide) rfl)⟩
    · refine C.exit ?_
      refine C.seq ?_
      refine C.region ?_
      refine O.val (v := .bool (true)) rfl (Ru.assign rfl) rfl ?_
      refine O.nil ?_
      refine C.ret ?_
      refine P1 (v := .bool (true)) rfl ?_
      exact ⟨(by rw [eq_all (by omega) (by omega) hi1_l4]), (Mem.none hM_l4)⟩

theorem eqIntS_fn (A : Option Addr) (c : Nat) (a : List Int) (B : Option Addr) (d : Nat) (b : List Int) (w : World) (hA : Rd w A ((a).map I)) (hB : Rd w B ((b).map I)) (ha : a.length ≤ 1048576) :
    Does Tryd.prog 115 [.slice (A) ((a).length) (c), .slice (B) ((b).length) (d)] w (fun v w1 => v = .bool (decide (a = b)) ∧ Mem w w1 [] []) := by
  have hM : Mem w w [] [] := Mem.refl
  refine Does.enter1 Tryd.func115 rfl Tryd.results115 Tryd.ntmps115 rfl ?_
  refine C.seq ?_
  refine C.region ?_
  refine O.val (v := .bool (false)) rfl (Ru.assign rfl) rfl ?_
  refine O.nil ?_
  refine C.seq ?_
  refine C.seq ?_
  refine C.region ?_
  refine O.val (v := .slice (A) ((a).length) (c)) rfl (Ru.move rfl) rfl ?_
  refine O.val (v := I ((((a).length : Nat) : Int))) rfl (Ru.blenSlice Tryd.underlying51 rfl) rfl ?_
  refine O.val (v := .slice (B) ((b).length) (d)) rfl (Ru.move rfl) rfl ?_
  refine O.val (v := I ((((b).length : Nat) : Int))) rfl (Ru.blenSlice Tryd.underlying51 rfl) rfl ?_
  refine O.val (v := .bool (decide ((((a).length : Nat) : Int) ≠ (((b).length : Nat) : Int)))) rfl (Ru.neq rfl rfl) rfl ?_
  refine O.nil ?_
  refine C.cond (p := (((a).length : Nat) : Int) ≠ (((b).length : Nat) : Int)) rfl (fun c10 => ?_) (fun c10 => ?_)
  · refine C.seq ?_
    refine C.region ?_
    refine O.val (v := .bool (false)) rfl (Ru.assign rfl) rfl ?_
    refine O.nil ?_
    refine C.ret ?_
    refine P1 (v := .bool (false)) rfl ?_
    exact ⟨(by rw [ne_len (by omega)]), (Mem.none hM)⟩
  · refine C.skip ?_
    refine C.seq ?_
    refine C.seq ?_
    refine C.region ?_
    refine O.val (v := I (0)) rfl (Ru.assign rfl) rfl ?_
    refine O.nil ?_
    refine C.block ?_
    refine C.loop (ι := Nat) (fun k => ([(0, .slice (A) ((a).length) (c)), (1, .slice (B) ((b).length) (d)), (5, I (((k : Nat) : Int)))] : List (Nat × Value))) (fun k w_ => (k ≤ a.length) ∧ (a.take k = b.take k) ∧ (Mem w w_ [] [])) (fun k => a.length - k) (0) (Has.cons rfl (Has.cons rfl (Has.cons (I_congr (by first | rfl | omega | (simp; omega) | simp)) Has.nil))) ⟨(Nat.zero_le _), (by (try dsimp only); simp), (hM.pick [] (by decide) rfl)⟩ (fun k σ w_l4 hI => ?_)
    try dsimp only at hI
    obtain ⟨hi0_l4, hi1_l4, hM_l4⟩ := hI
    refine C.seq ?_
    refine C.seq ?_
    refine C.region ?_
    refine O.val (v := I (((k : Nat) : Int))) rfl (Ru.move rfl) rfl ?_
    refine O.val (v := .slice (A) ((a).length) (c)) rfl (Ru.move rfl) rfl ?_
    refine O.val (v := I ((((a).length : Nat) : Int))) rfl (Ru.blenSlice Tryd.underlying51 rfl) rfl ?_
    refine O.val (v := .bool (decide (((k : Nat) : Int) < (((a).length : Nat) : Int)))) rfl (Ru.lss rfl rfl) rfl ?_
    refine O.nil ?_
    refine C.cond (p := ((k : Nat) : Int) < (((a).length : Nat) : Int)) rfl (fun c14 => ?_) (fun c14 => ?_)
    · refine C.skip ?_
      refine C.seq ?_
      refine C.block ?_
      refine C.seq ?_
      refine C.draws (fun w2 => Mem w w2 [] []) mixed (by kernel_rfl) (hM_l4.ext (kdrawn _)) ?_
      refine QO.val (v := .slice (A) ((a).length) (c)) rfl (fun w2 hw2 => Ru.move rfl) rfl ?_
      refine QO.val (v := I (((k : Nat) : Int))) rfl (fun w2 hw2 => Ru.move rfl) rfl ?_
      have hx6_2 : k < (a).length := (by first | omega | (simp; omega))
      refine QO.val (v := .pointer (ofs (A) (k * 1))) rfl (fun w2 hw2 => Ru.indexA (j := k) Tryd.underlying51 el3 rfl rfl (smm (hA.at hw2) hx6_2) (by omega) (by first | omega | (simp; omega))) rfl ?_
      refine QO.val rfl (fun w2 hw2 => Ru.load1 el3 rfl (ldm (hA.at hw2) hx6_2)) rfl ?_
      refine QO.val (v := .slice (B) ((b).length) (d)) rfl (fun w2 hw2 => Ru.move rfl) rfl ?_
      refine QO.val (v := I (((k : Nat) : Int))) rfl (fun w2 hw2 => Ru.move rfl) rfl ?_
      have hx6_6 : k < (b).length := (by first | omega | (simp; omega))
      refine QO.val (v := .pointer (ofs (B) (k * 1))) rfl (fun w2 hw2 => Ru.indexA (j := k) Tryd.underlying51 el3 rfl rfl (smm (hB.at hw2) hx6_6) (by omega) (by first | omega | (simp; omega))) rfl ?_
      refine QO.val rfl (fun w2 hw2 => Ru.load1 el3 rfl (ldm (hB.at hw2) hx6_6)) rfl ?_
      refine QO.val (v := .bool (decide ((a)[k]'hx6_2 ≠ (b)[k]'hx6_6))) rfl (fun w2 hw2 => Ru.neq rfl rfl) rfl ?_
      refine QO.nil ?_
      intro w6d hM6d
      refine C.cond (p := (a)[k]'hx6_2 ≠ (b)[k]'hx6_6) rfl (fun c25 => ?_) (fun c25 => ?_)
      · refine C.seq ?_
        refine C.region ?_
        refine O.val (v := .bool (false)) rfl (Ru.assign rfl) rfl ?_
        refine O.nil ?_
        refine C.ret ?_
        refine P1 (v := .bool (false)) rfl ?_
        exact ⟨(by rw [ne_at hx6_2 hx6_6 (by simpa using c25)]), (Mem.none hM6d)⟩
      · refine C.skip ?_
        refine C.region ?_
        refine O.val (v := I (((k : Nat) : Int))) rfl (Ru.move rfl) rfl ?_
        refine O.val (v := I ((((k + 1) : Nat) : Int))) rfl (Ru.congr (v := I ((((k : Nat) : Int) + 1))) (v' := I ((((k + 1) : Nat) : Int))) (Ru.add rfl rfl (by omega)) (I_congr (by first | omega | simp))) rfl ?_
        refine O.val (v := I ((((k + 1) : Nat) : Int))) rfl (Ru.assign rfl) rfl ?_
        refine O.nil ?_
        exact loopEnd (k + 1) (by (try dsimp only); omega) (Has.cons rfl (Has.cons rfl (Has.cons (I_congr (by first | rfl | omega | (simp; omega) | simp)) Has.nil))) ⟨(by (try dsimp only); omega), (eq_step hx6_2 hx6_6 hi1_l4 (by simpa using c25)), (hM6d.pick [] (by decide) rfl)⟩
    · refine C.exit ?_
      refine C.seq ?_
      refine C.region ?_
      refine O.val (v := .bool (true)) rfl (Ru.assign rfl) rfl ?_
      refine O.nil ?_
      refine C.ret ?_
      refine P1 (v := .bool (true)) rfl ?_
      exact ⟨(by rw [eq_all (by omega) (by omega) hi1_l4]), (Mem.none hM_l4)⟩

theorem eqPage_fn (a : PgL) (b : PgL) (w : World) (hNa : PgN w a) (hNb : PgN w b) (ha : (a).k.l.length ≤ 1048576 ∧ (a).c.l.length ≤ 1048576 ∧ (a).v.l.length ≤ 1048576) :
    Does Tryd.prog 93 [.agg #[.slice ((a).k.A) ((a).k.l.length) ((a).k.cp), .slice ((a).c.A) ((a).c.l.length) ((a).c.cp), .slice ((a).v.A) ((a).v.l.length) ((a).v.cp)], .agg #[.slice ((b).k.A) ((b).k.l.length) ((b).k.cp), .slice ((b).c.A) ((b).c.l.length) ((b).c.cp), .slice ((b).v.A) ((b).v.l.length) ((b).v.cp)]] w (fun v w1 => v = .bool (decide (a.t = b.t)) ∧ Mem w w1 [] []) := by
  have hM : Mem w w [] [] := Mem.refl
  refine Does.enter1 Tryd.func93 rfl Tryd.results93 Tryd.ntmps93 rfl ?_
  refine C.seq ?_
  refine C.region ?_
  refine O.mbox (k := 3) (vs := [.slice ((a).k.A) ((a).k.l.length) ((a).k.cp), .slice ((a).c.A) ((a).c.l.length) ((a).c.cp), .slice ((a).v.A) ((a).v.l.length) ((a).v.cp)]) hM rfl rfl rfl rfl rfl (fun w0_0 b0_0 hb0_0 (hM0_0 : Mem w w0_0 [] [[⟨.slice (bl b0_0) 1 1, 58, 3, 1, [.slice ((a).k.A) ((a).k.l.length) ((a).k.cp), .slice ((a).c.A) ((a).c.l.length) ((a).c.cp), .slice ((a).v.A) ((a).v.l.length) ((a).v.cp)]⟩]]) => ?_)
  refine O.mbox (k := 3) (vs := [.slice ((b).k.A) ((b).k.l.length) ((b).k.cp), .slice ((b).c.A) ((b).c.l.length) ((b).c.cp), .slice ((b).v.A) ((b).v.l.length) ((b).v.cp)]) hM0_0 rfl rfl rfl rfl rfl (fun w0_1 b0_1 hb0_1 (hM0_1 : Mem w w0_1 [] [[⟨.slice (bl b0_1) 1 1, 58, 3, 1, [.slice ((b).k.A) ((b).k.l.length) ((b).k.cp), .slice ((b).c.A) ((b).c.l.length) ((b).c.cp), .slice ((b).v.A) ((b).v.l.length) ((b).v.cp)]⟩], [⟨.slice (bl b0_0) 1 1, 58, 3, 1, [.slice ((a).k.A) ((a).k.l.length) ((a).k.cp), .slice ((a).c.A) ((a).c.l.length) ((a).c.cp), .slice ((a).v.A) ((a).v.l.length) ((a).v.cp)]⟩]]) => ?_)
  refine O.val (v := .bool (false)) rfl (Ru.assign rfl) rfl ?_
  refine O.nil ?_
  refine C.seq ?_
  refine C.seq ?_
  refine C.region ?_
  refine O.val (v := .pointer (ofs (bl b0_0) (0))) rfl (Ru.fieldA fl58_0 rfl rfl) rfl ?_
  refine O.val rfl (Ru.load1 el51 rfl ((hM0_1.rd 1 rfl).ld rfl)) rfl ?_
  refine O.val (v := .pointer (ofs (bl b0_1) (0))) rfl (Ru.fieldA fl58_0 rfl rfl) rfl ?_
  refine O.val rfl (Ru.load1 el51 rfl ((hM0_1.rd 0 rfl).ld rfl)) rfl ?_
  refine O.callg [.slice ((a).k.A) (((a).k.l).length) ((a).k.cp), .slice ((b).k.A) (((b).k.l).length) ((b).k.cp)] rfl en115 (by first | rfl | (rw [show ((b).k.l).length = (b).k.l.length from (by first | rfl | (simp; done) | omega | (simp; omega))]; rfl)) rfl (eqIntS_fn ((a).k.A) ((a).k.cp) ((a).k.l) ((b).k.A) ((b).k.cp) ((b).k.l) w0_1 (hNa.at hM0_1).1 (hNb.at hM0_1).1 (by first | omega | assumption | (simp; omega) | simp | (intros; omega))) ?_
  rintro _ w1_4 ⟨rfl, hR1_4⟩
  have hM1_4 : Mem w w1_4 [] [[⟨.slice (bl b0_1) 1 1, 58, 3, 1, [.slice ((b).k.A) ((b).k.l.length) ((b).k.cp), .slice ((b).c.A) ((b).c.l.length) ((b).c.cp), .slice ((b).v.A) ((b).v.l.length) ((b).v.cp)]⟩], [⟨.slice (bl b0_0) 1 1, 58, 3, 1, [.slice ((a).k.A) ((a).k.l.length) ((a).k.cp), .slice ((a).c.A) ((a).c.l.length) ((a).c.cp), .slice ((a).v.A) ((a).v.l.length) ((a).v.cp)]⟩]] := Mem.call (Ma := []) hM0_1 hR1_4 rfl
  refine O.val (v := .bool (!(decide (((a).k.l) = ((b).k.l))))) rfl (Ru.not rfl) rfl ?_
  refine O.nil ?_
  refine C.condn (b := (decide (((a).k.l) = ((b).k.l)))) rfl (fun c10 => ?_) (fun c10 => ?_)
  · refine C.seq ?_
    refine C.region ?_
    refine O.val (v := .bool (false)) rfl (Ru.assign rfl) rfl ?_
    refine O.nil ?_
    refine C.ret ?_
    refine P1 (v := .bool (false)) rfl ?_
    exact ⟨(by rw [decide_eq_false (fun e => absurd (show a.k.l = b.k.l from congrArg PgT.keys e) (by simpa using c10))]), (Mem.none hM1_4)⟩
  · refine C.skip ?_
    refine C.seq ?_
    refine C.seq ?_
    refine C.region ?_
    refine O.val (v := .pointer (ofs (bl b0_0) (1))) rfl (Ru.fieldA fl58_1 rfl rfl) rfl ?_
    refine O.val rfl (Ru.load1 el51 rfl ((hM1_4.rd 1 rfl).ld rfl)) rfl ?_
    refine O.val (v := .pointer (ofs (bl b0_1) (1))) rfl (Ru.fieldA fl58_1 rfl rfl) rfl ?_
    refine O.val rfl (Ru.load1 el51 rfl ((hM1_4.rd 0 rfl).ld rfl)) rfl ?_
    refine O.callg [.slice ((a).c.A) (((a).c.l).length) ((a).c.cp), .slice ((b).c.A) (((b).c.l).length) ((b).c.cp)] rfl en115 (by first | rfl | (rw [show ((b).c.l).length = (b).c.l.length from (by first | rfl | (simp; done) | omega | (simp; omega))]; rfl)) rfl (eqIntS_fn ((a).c.A) ((a).c.cp) ((a).c.l) ((b).c.A) ((b).c.cp) ((b).c.l) w1_4 (hNa.at hM1_4).2.1 (hNb.at hM1_4).2.1 (by first | omega | assumption | (simp; omega) | simp | (intros; omega))) ?_
    rintro _ w3_4 ⟨rfl, hR3_4⟩
    have hM3_4 : Mem w w3_4 [] [[⟨.slice (bl b0_1) 1 1, 58, 3, 1, [.slice ((b).k.A) ((b).k.l.length) ((b).k.cp), .slice ((b).c.A) ((b).c.l.length) ((b).c.cp), .slice ((b).v.A) ((b).v.l.length) ((b).v.cp)]⟩], [⟨.slice (bl b0_0) 1 1, 58, 3, 1, [.slice ((a).k.A) ((a).k.l.length) ((a).k.cp), .slice ((a).c.A) ((a).c.l.length) ((a).c.cp), .slice ((a).v.A) ((a).v.l.length) ((a).v.cp)]⟩]] := Mem.call (Ma := []) hM1_4 hR3_4 rfl
    refine O.val (v := .bool (!(decide (((a).c.l) = ((b).c.l))))) rfl (Ru.not rfl) rfl ?_
    refine O.nil ?_
    refine C.condn (b := (decide (((a).c.l) = ((b).c.l)))) rfl (fun c16 => ?_) (fun c16 => ?_)
    · refine C.seq ?_
      refine C.region ?_
      refine O.val (v := .bool (false)) rfl (Ru.assign rfl) rfl ?_
      refine O.nil ?_
      refine C.ret ?_
      refine P1 (v := .bool (false)) rfl ?_
      exact ⟨(by rw [decide_eq_false (fun e => absurd (show a.c.l = b.c.l from congrArg PgT.kids e) (by simpa using c16))]), (Mem.none hM3_4)⟩
    · refine C.skip ?_
      refine C.seq ?_
      refine C.seq ?_
      refine C.region ?_
      refine O.val (v := .pointer (ofs (bl b0_0) (2))) rfl (Ru.fieldA fl58_2 rfl rfl) rfl ?_
      refine O.val rfl (Ru.load1 el51 rfl ((hM3_4.rd 1 rfl).ld rfl)) rfl ?_
      refine O.val (v := .pointer (ofs (bl b0_1) (2))) rfl (Ru.fieldA fl58_2 rfl rfl) rfl ?_
      refine O.val rfl (Ru.load1 el51 rfl ((hM3_4.rd 0 rfl).ld rfl)) rfl ?_
      refine O.callg [.slice ((a).v.A) (((a).v.l).length) ((a).v.cp), .slice ((b).v.A) (((b).v.l).length) ((b).v.cp)] rfl en115 (by first | rfl | (rw [show ((b).v.l).length = (b).v.l.length from (by first | rfl | (simp; done) | omega | (simp; omega))]; rfl)) rfl (eqIntS_fn ((a).v.A) ((a).v.cp) ((a).v.l) ((b).v.A) ((b).v.cp) ((b).v.l) w3_4 (hNa.at hM3_4).2.2 (hNb.at hM3_4).2.2 (by first | omega | assumption | (simp; omega) | simp | (intros; omega))) ?_
      rintro _ w5_4 ⟨rfl, hR5_4⟩
      have hM5_4 : Mem w w5_4 [] [[⟨.slice (bl b0_1) 1 1, 58, 3, 1, [.slice ((b).k.A) ((b).k.l.length) ((b).k.cp), .slice ((b).c.A) ((b).c.l.length) ((b).c.cp), .slice ((b).v.A) ((b).v.l.length) ((b).v.cp)]⟩], [⟨.slice (bl b0_0) 1 1, 58, 3, 1, [.slice ((a).k.A) ((a).k.l.length) ((a).k.cp), .slice ((a).c.A) ((a).c.l.length) ((a).c.cp), .slice ((a).v.A) ((a).v.l.length) ((a).v.cp)]⟩]] := Mem.call (Ma := []) hM3_4 hR5_4 rfl
      refine O.val (v := .bool (!(decide (((a).v.l) = ((b).v.l))))) rfl (Ru.not rfl) rfl ?_
      refine O.nil ?_
      refine C.condn (b := (decide (((a).v.l) = ((b).v.l)))) rfl (fun c22 => ?_) (fun c22 => ?_)
      · refine C.seq ?_
        refine C.region ?_
        refine O.val (v := .bool (false)) rfl (Ru.assign rfl) rfl ?_
        refine O.nil ?_
        refine C.ret ?_
        refine P1 (v := .bool (false)) rfl ?_
        exact ⟨(by rw [decide_eq_false (fun e => absurd (show a.v.l = b.v.l from congrArg PgT.vals e) (by simpa using c22))]), (Mem.none hM5_4)⟩
      · refine C.skip ?_
        refine C.seq ?_
        refine C.region ?_
        refine O.val (v := .bool (true)) rfl (Ru.assign rfl) rfl ?_
        refine O.nil ?_
        refine C.ret ?_
        refine P1 (v := .bool (true)) rfl ?_
        exact ⟨(by rw [decide_eq_true (pg_eq (by simpa using c10) (by simpa using c16) (by simpa using c22))]), (Mem.none hM5_4)⟩

theorem eqPageS_fn (A : Option Addr) (c : Nat) (a : List PgL) (B : Option Addr) (d : Nat) (b : List PgL) (w : World) (hA : Rd w A ((a).flatMap encPg)) (hNA : NsP w a) (hB : Rd w B ((b).flatMap encPg)) (hNB : NsP w b) (ha : a.length ≤ 1048576) (hka : ∀ x ∈ a, (x).k.l.length ≤ 1048576 ∧ (x).c.l.length ≤ 1048576 ∧ (x).v.l.length ≤ 1048576) :
    Does Tryd.prog 60 [.slice (A) ((a).length) (c), .slice (B) ((b).length) (d)] w (fun v w1 => v = .bool (decide (tsG a = tsG b)) ∧ Mem w w1 [] []) := by
  have hM : Mem w w [] [] := Mem.refl
  refine Does.enter1 Tryd.func60 rfl Tryd.results60 Tryd.ntmps60 rfl ?_
  refine C.seq ?_
  refine C.region ?_
  refine O.val (v := .bool (false)) rfl (Ru.assign rfl) rfl ?_
  refine O.nil ?_
  refine C.seq ?_
  refine C.seq ?_
  refine C.region ?_
  refine O.val (v := .slice (A) ((a).length) (c)) rfl (Ru.move rfl) rfl ?_
  refine O.val (v := I ((((a).length : Nat) : Int))) rfl (Ru.blenSlice Tryd.underlying37 rfl) rfl ?_
  refine O.val (v := .slice (B) ((b).length) (d)) rfl (Ru.move rfl) rfl ?_
  refine O.val (v := I ((((b).length : Nat) : Int))) rfl (Ru.blenSlice Tryd.underlying37 rfl) rfl ?_
  refine O.val (v := .bool (decide ((((a).length : Nat) : Int) ≠ (((b).length : Nat) : Int)))) rfl (Ru.neq rfl rfl) rfl ?_
  refine O.nil ?_
  refine C.cond (p := (((a).length : Nat) : Int) ≠ (((b).length : Nat) : Int)) rfl (fun c10 => ?_) (fun c10 => ?_)
  · refine C.seq ?_
    refine C.region ?_
    refine O.val (v := .bool (false)) rfl (Ru.assign rfl) rfl ?_
    refine O.nil ?_
    refine C.ret ?_
    refine P1 (v := .bool (false)) rfl ?_
    exact ⟨(by rw [tsg_nl (by omega)]), (Mem.none hM)⟩
  · refine C.skip ?_
    refine C.seq ?_
    refine C.seq ?_
    refine C.region ?_
    refine O.val (v := I (0)) rfl (Ru.assign rfl) rfl ?_
    refine O.nil ?_
    refine C.block ?_
    refine C.loop (ι := Nat) (fun k => ([(0, .slice (A) ((a).length) (c)), (1, .slice (B) ((b).length) (d)), (5, I (((k : Nat) : Int)))] : List (Nat × Value))) (fun k w_ => (k ≤ a.length) ∧ ((tsG a).take k = (tsG b).take k) ∧ (Mem w w_ [] [])) (fun k => a.length - k) (0) (Has.cons rfl (Has.cons rfl (Has.cons (I_congr (by first | rfl | omega | (simp; omega) | simp)) Has.nil))) ⟨(Nat.zero_le _), (by (try dsimp only); simp), (hM.pick [] (by decide) rfl)⟩ (fun k σ w_l4 hI => ?_)
    try dsimp only at hI
    obtain ⟨hi0_l4, hi1_l4, hM_l4⟩ := hI
    refine C.seq ?_
    refine C.seq ?_
    refine C.region ?_
    refine O.val (v := I (((k : Nat) : Int))) rfl (Ru.move rfl) rfl ?_
    refine O.val (v := .slice (A) ((a).length) (c)) rfl (Ru.move rfl) rfl ?_
    refine O.val (v := I ((((a).length : Nat) : Int))) rfl (Ru.blenSlice Tryd.underlying37 rfl) rfl ?_
    refine O.val (v := .bool (decide (((k : Nat) : Int) < (((a).length : Nat) : Int)))) rfl (Ru.lss rfl rfl) rfl ?_
    refine O.nil ?_
    refine C.cond (p := ((k : Nat) : Int) < (((a).length : Nat) : Int)) rfl (fun c14 => ?_) (fun c14 => ?_)
    · refine C.skip ?_
      refine C.seq ?_
      refine C.block ?_
      refine C.seq ?_
      refine C.draws (fun w2 => Mem w w2 [] []) mixed (by kernel_rfl) (hM_l4.ext (kdrawn _)) ?_
      refine QO.val (v := .slice (A) ((a).length) (c)) rfl (fun w2 hw2 => Ru.move rfl) rfl ?_
      refine QO.val (v := I (((k : Nat) : Int))) rfl (fun w2 hw2 => Ru.move rfl) rfl ?_
      have hx6_2 : k < (a).length := (by first | omega | (simp; omega))
      refine QO.val (v := .pointer (ofs (A) (k * 3))) rfl (fun w2 hw2 => Ru.indexA (j := k) Tryd.underlying37 el58 rfl rfl (smf encPg_len (hA.at hw2) hx6_2 rfl) (by omega) (by first | omega | (simp; omega))) rfl ?_
      refine QO.val rfl (fun w2 hw2 => Ru.loadN (vs := [.slice (((a)[k]'hx6_2).k.A) (((a)[k]'hx6_2).k.l.length) (((a)[k]'hx6_2).k.cp), .slice (((a)[k]'hx6_2).c.A) (((a)[k]'hx6_2).c.l.length) (((a)[k]'hx6_2).c.cp), .slice (((a)[k]'hx6_2).v.A) (((a)[k]'hx6_2).v.l.length) (((a)[k]'hx6_2).v.cp)]) el58 rfl rfl (smf encPg_len (hA.at hw2) hx6_2 rfl) (ldn encPg_len (hA.at hw2) hx6_2)) rfl ?_
      refine QO.val (v := .slice (B) ((b).length) (d)) rfl (fun w2 hw2 => Ru.move rfl) rfl ?_
      refine QO.val (v := I (((k : Nat) : Int))) rfl (fun w2 hw2 => Ru.move rfl) rfl ?_
      have hx6_6 : k < (b).length := (by first | omega | (simp; omega))
      refine QO.val (v := .pointer (ofs (B) (k * 3))) rfl (fun w2 hw2 => Ru.indexA (j := k) Tryd.underlying37 el58 rfl rfl (smf encPg_len (hB.at hw2) hx6_6 rfl) (by omega) (by first | omega | (simp; omega))) rfl ?_
      refine QO.val rfl (fun w2 hw2 => Ru.loadN (vs := [.slice (((b)[k]'hx6_6).k.A) (((b)[k]'hx6_6).k.l.length) (((b)[k]'hx6_6).k.cp), .slice (((b)[k]'hx6_6).c.A) (((b)[k]'hx6_6).c.l.length) (((b)[k]'hx6_6).c.cp), .slice (((b)[k]'hx6_6).v.A) (((b)[k]'hx6_6).v.l.length) (((b)[k]'hx6_6).v.cp)]) el58 rfl rfl (smf encPg_len (hB.at hw2) hx6_6 rfl) (ldn encPg_len (hB.at hw2) hx6_6)) rfl ?_
      refine QO.callg (v := .bool (decide (((a)[k]'hx6_2).t = ((b)[k]'hx6_6).t))) [.agg #[.slice (((a)[k]'hx6_2).k.A) (((a)[k]'hx6_2).k.l.length) (((a)[k]'hx6_2).k.cp), .slice (((a)[k]'hx6_2).c.A) (((a)[k]'hx6_2).c.l.length) (((a)[k]'hx6_2).c.cp), .slice (((a)[k]'hx6_2).v.A) (((a)[k]'hx6_2).v.l.length) (((a)[k]'hx6_2).v.cp)], .agg #[.slice (((b)[k]'hx6_6).k.A) (((b)[k]'hx6_6).k.l.length) (((b)[k]'hx6_6).k.cp), .slice (((b)[k]'hx6_6).c.A) (((b)[k]'hx6_6).c.l.length) (((b)[k]'hx6_6).c.cp), .slice (((b)[k]'hx6_6).v.A) (((b)[k]'hx6_6).v.l.length) (((b)[k]'hx6_6).v.cp)]] rfl en93 rfl rfl (fun w2 hw2 => (eqPage_fn ((a)[k]'hx6_2) ((b)[k]'hx6_6) w2 ((hNA.at hw2).get hx6_2) ((hNB.at hw2).get hx6_6) (by exact hka _ (List.getElem_mem hx6_2))).mono fun _ _ h => ⟨h.1, Mem.call0 hw2 h.2⟩) ?_
      refine QO.val (v := .bool (!(decide (((a)[k]'hx6_2).t = ((b)[k]'hx6_6).t)))) rfl (fun w2 hw2 => Ru.not rfl) rfl ?_
      refine QO.nil ?_
      intro w6d hM6d
      refine C.condn (b := (decide (((a)[k]'hx6_2).t = ((b)[k]'hx6_6).t))) rfl (fun c26 => ?_) (fun c26 => ?_)
      · refine C.seq ?_
        refine C.region ?_
        refine O.val (v := .bool (false)) rfl (Ru.assign rfl) rfl ?_
        refine O.nil ?_
        refine C.ret ?_
        refine P1 (v := .bool (false)) rfl ?_
        exact ⟨(by rw [tsg_ne hx6_2 hx6_6 (by simp_all)]), (Mem.none hM6d)⟩
      · refine C.skip ?_
        refine C.region ?_
        refine O.val (v := I (((k : Nat) : Int))) rfl (Ru.move rfl) rfl ?_
        refine O.val (v := I ((((k + 1) : Nat) : Int))) rfl (Ru.congr (v := I ((((k : Nat) : Int) + 1))) (v' := I ((((k + 1) : Nat) : Int))) (Ru.add rfl rfl (by omega)) (I_congr (by first | omega | simp))) rfl ?_
        refine O.val (v := I ((((k + 1) : Nat) : Int))) rfl (Ru.assign rfl) rfl ?_
        refine O.nil ?_
        exact loopEnd (k + 1) (by (try dsimp only); omega) (Has.cons rfl (Has.cons rfl (Has.cons (I_congr (by first | rfl | omega | (simp; omega) | simp)) Has.nil))) ⟨(by (try dsimp only); omega), (tsg_step hx6_2 hx6_6 hi1_l4 (by simp_all)), (hM6d.pick [] (by decide) rfl)⟩
    · refine C.exit ?_
      refine C.seq ?_
      refine C.region ?_
      refine O.val (v := .bool (true)) rfl (Ru.assign rfl) rfl ?_
      refine O.nil ?_
      refine C.ret ?_
      refine P1 (v := .bool (true)) rfl ?_
      exact ⟨(by rw [tsg_all (by omega) (by omega) hi1_l4]), (Mem.none hM_l4)⟩

theorem eqTree_fn (X : TreeL) (Y : TreeL) (w : World) (hNX : TrN w X) (hNY : TrN w Y) (hs : SzT X) :
    Does Tryd.prog 23 [.agg #[I ((X).root), .slice ((X).A) ((X).l.length) ((X).cp)], .agg #[I ((Y).root), .slice ((Y).A) ((Y).l.length) ((Y).cp)]] w (fun v w1 => v = .bool (decide ((X).t = (Y).t)) ∧ Mem w w1 [] []) := by
  have hM : Mem w w [] [] := Mem.refl
  refine Does.enter1 Tryd.func23 rfl Tryd.results23 Tryd.ntmps23 rfl ?_
  refine C.seq ?_
  refine C.region ?_
  refine O.mbox (k := 2) (vs := [I ((X).root), .slice ((X).A) ((X).l.length) ((X).cp)]) hM rfl rfl rfl rfl rfl (fun w0_0 b0_0 hb0_0 (hM0_0 : Mem w w0_0 [] [[⟨.slice (bl b0_0) 1 1, 39, 2, 1, [I ((X).root), .slice ((X).A) ((X).l.length) ((X).cp)]⟩]]) => ?_)
  refine O.mbox (k := 2) (vs := [I ((Y).root), .slice ((Y).A) ((Y).l.length) ((Y).cp)]) hM0_0 rfl rfl rfl rfl rfl (fun w0_1 b0_1 hb0_1 (hM0_1 : Mem w w0_1 [] [[⟨.slice (bl b0_1) 1 1, 39, 2, 1, [I ((Y).root), .slice ((Y).A) ((Y).l.length) ((Y).cp)]⟩], [⟨.slice (bl b0_0) 1 1, 39, 2, 1, [I ((X).root), .slice ((X).A) ((X).l.length) ((X).cp)]⟩]]) => ?_)
  refine O.val (v := .bool (false)) rfl (Ru.assign rfl) rfl ?_
  refine O.nil ?_
  refine C.seq ?_
  refine C.seq ?_
  refine C.region ?_
  refine O.val (v := .pointer (ofs (bl b0_0) (0))) rfl (Ru.fieldA fl39_0 rfl rfl) rfl ?_
  refine O.val rfl (Ru.load1 el3 rfl ((hM0_1.rd 1 rfl).ld rfl)) rfl ?_
  refine O.val (v := .pointer (ofs (bl b0_1) (0))) rfl (Ru.fieldA fl39_0 rfl rfl) rfl ?_
  refine O.val rfl (Ru.load1 el3 rfl ((hM0_1.rd 0 rfl).ld rfl)) rfl ?_
  refine O.val (v := .bool (decide ((X).root ≠ (Y).root))) rfl (Ru.neq rfl rfl) rfl ?_
  refine O.nil ?_
  refine C.cond (p := (X).root ≠ (Y).root) rfl (fun c9 => ?_) (fun c9 => ?_)
  · refine C.seq ?_
    refine C.region ?_
    refine O.val (v := .bool (false)) rfl (Ru.assign rfl) rfl ?_
    refine O.nil ?_
    refine C.ret ?_
    refine P1 (v := .bool (false)) rfl ?_
    exact ⟨(by rw [decide_eq_false (fun e => absurd (show (X).root = (Y).root from congrArg TrT.root e) (by simpa using c9))]), (Mem.none hM0_1)⟩
  · refine C.skip ?_
    refine C.seq ?_
    refine C.seq ?_
    refine C.region ?_
    refine O.val (v := .pointer (ofs (bl b0_0) (1))) rfl (Ru.fieldA fl39_1 rfl rfl) rfl ?_
    refine O.val rfl (Ru.load1 el37 rfl ((hM0_1.rd 1 rfl).ld rfl)) rfl ?_
    refine O.val (v := .pointer (ofs (bl b0_1) (1))) rfl (Ru.fieldA fl39_1 rfl rfl) rfl ?_
    refine O.val rfl (Ru.load1 el37 rfl ((hM0_1.rd 0 rfl).ld rfl)) rfl ?_
    refine O.callg [.slice ((X).A) (((X).l).length) ((X).cp), .slice ((Y).A) (((Y).l).length) ((Y).cp)] rfl en60 (by first | rfl | (rw [show ((Y).l).length = (Y).l.length from (by first | rfl | (simp; done) | omega | (simp; omega))]; rfl)) rfl (eqPageS_fn ((X).A) ((X).cp) ((X).l) ((Y).A) ((Y).cp) ((Y).l) w0_1 (hNX.at hM0_1).1 ((hNX.at hM0_1)).2 (hNY.at hM0_1).1 ((hNY.at hM0_1)).2 (by exact hs.1) (by exact hs.2)) ?_
    rintro _ w3_4 ⟨rfl, hR3_4⟩
    have hM3_4 : Mem w w3_4 [] [[⟨.slice (bl b0_1) 1 1, 39, 2, 1, [I ((Y).root), .slice ((Y).A) ((Y).l.length) ((Y).cp)]⟩], [⟨.slice (bl b0_0) 1 1, 39, 2, 1, [I ((X).root), .slice ((X).A) ((X).l.length) ((X).cp)]⟩]] := Mem.call (Ma := []) hM0_1 hR3_4 rfl
    refine O.val (v := .bool (!(decide (tsG ((X).l) = tsG ((Y).l))))) rfl (Ru.not rfl) rfl ?_
    refine O.nil ?_
    refine C.condn (b := (decide (tsG ((X).l) = tsG ((Y).l)))) rfl (fun c15 => ?_) (fun c15 => ?_)
    · refine C.seq ?_
      refine C.region ?_
      refine O.val (v := .bool (false)) rfl (Ru.assign rfl) rfl ?_
      refine O.nil ?_
      refine C.ret ?_
      refine P1 (v := .bool (false)) rfl ?_
      exact ⟨(by rw [decide_eq_false (fun e => absurd (show tsG (X).l = tsG (Y).l from congrArg TrT.pages e) (by simpa using c15))]), (Mem.none hM3_4)⟩
    · refine C.skip ?_
      refine C.seq ?_
      refine C.region ?_
      refine O.val (v := .bool (true)) rfl (Ru.assign rfl) rfl ?_
      refine O.nil ?_
      refine C.ret ?_
      refine P1 (v := .bool (true)) rfl ?_
      exact ⟨(by rw [decide_eq_true (tree_eq (by simpa using c9) (by simpa using c15))]), (Mem.none hM3_4)⟩
end Go.Proofs.YtfdlmimgooeioaaDoor
