/- Own layer: part of this seat (DE). Plain theorems; no conditions. -/
import Derived.Test.YteljpjapacajoaaDD
set_option linter.unusedVariables false
set_option linter.unusedSimpArgs false
namespace Go.Proofs.Yteljpjapacajoaa
open Go.Px
theorem copyChain_fn (A : Option Addr) (c : Nat) (l : List LnkL) (w : World) (hA : Rd w A ((l).flatMap encL)) (hNA : Nst w l) (hl : l.length ≤ 1048576) (hk4 : ∀ x ∈ l, x.t.keys.length ≤ 1048576) :
    Does Try.prog 54 [.slice (A) ((l).length) (c)] w (fun v w1 => ∃ (L1 : List LnkL) (A1 : Option Addr) (c1 : Nat), v = .slice (A1) ((L1).length) (c1) ∧ (tsL L1 = tsL l) ∧ Mem w w1 [] [[⟨.slice (A1) ((L1).length) (c1), 28, 3, ((L1).length), (L1).flatMap encL⟩], (L1).map (keyF 3)]) := by
  have hM : Mem w w [] [] := Mem.refl
  refine Does.enter1 Try.func54 rfl Try.results54 Try.ntmps54 rfl ?_
  refine C.seq ?_
  refine C.region ?_
  refine O.val (v := .slice (none) (0) (0)) rfl (Ru.assign rfl) rfl ?_
  refine O.nil ?_
  refine C.seq ?_
  refine C.region ?_
  refine O.val (v := .slice (A) ((l).length) (c)) rfl (Ru.move rfl) rfl ?_
  refine O.val (v := I ((((l).length : Nat) : Int))) rfl (Ru.blenSlice Try.underlying23 rfl) rfl ?_
  refine O.mmake (k := (l).length) (sz := 3) (xs := (List.replicate ((l).length) (⟨none, 0, ⟨[], 0, 0⟩⟩ : LnkL)).flatMap encL) hM rfl Try.underlying23 el28 rfl rfl rfl rfl (by omega) (by omega) (zer_flat rfl) (fun w1_2 b1_2 hb1_2 (hM1_2 : Mem w w1_2 [] [[⟨.slice (bl b1_2) ((l).length) ((l).length), 28, 3, ((l).length), (List.replicate ((l).length) (⟨none, 0, ⟨[], 0, 0⟩⟩ : LnkL)).flatMap encL⟩]]) => ?_)
  refine O.val (v := .slice (bl b1_2) ((l).length) ((l).length)) rfl (Ru.assign rfl) rfl ?_
  refine O.nil ?_
  have hMk1 : Mem w w1_2 [] [(([] : List LnkL)).map (keyF 3), [⟨.slice (bl b1_2) ((l).length) ((l).length), 28, 3, ((l).length), (List.replicate ((l).length) (⟨none, 0, ⟨[], 0, 0⟩⟩ : LnkL)).flatMap encL⟩]] := Mem.knil hM1_2
  refine C.seq ?_
  refine C.seq ?_
  refine C.region ?_
  refine O.val (v := .slice (A) ((l).length) (c)) rfl (Ru.move rfl) rfl ?_
  refine O.val (v := I ((((l).length : Nat) : Int))) rfl (Ru.blenSlice Try.underlying23 rfl) rfl ?_
  refine O.val (v := I (0)) rfl (Ru.move rfl) rfl ?_
  refine O.nil ?_
  refine C.block ?_
  have hq2 : (List.replicate ((l).length) (⟨none, 0, ⟨[], 0, 0⟩⟩ : LnkL) : List LnkL) = ([] : List LnkL) ++ List.replicate (l.length - 0) (⟨none, 0, ⟨[], 0, 0⟩⟩ : LnkL) := (by simp)
  have hMn2 : Mem w w1_2 [] [(([] : List LnkL)).map (keyF 3), [⟨.slice (bl b1_2) (l.length) ((l).length), 28, 3, (l.length), (([] : List LnkL) ++ List.replicate (l.length - 0) (⟨none, 0, ⟨[], 0, 0⟩⟩ : LnkL)).flatMap encL⟩]] := hMk1.relen 1 (n' := l.length) (xs' := (([] : List LnkL) ++ List.replicate (l.length - 0) (⟨none, 0, ⟨[], 0, 0⟩⟩ : LnkL)).flatMap encL) rfl (by first | rfl | exact congrArg List.length hq2 | (have hqq := congrArg List.length hq2; first | omega | (simp at hqq ⊢; omega)) | (simp; done) | (simp; omega)) (congrArg (fun z_ => (z_).flatMap encL) hq2) rfl
  refine C.loop (ι := Nat × (List LnkL)) (fun x_ => ([(3, .slice (bl b1_2) (l.length) (l.length)), (9, .slice (A) ((l).length) (c)), (10, I ((((l).length : Nat) : Int))), (11, I (((x_.1 : Nat) : Int)))] : List (Nat × Value))) (fun x_ w_ => (x_.1 ≤ l.length) ∧ (tsL x_.2 = (tsL l).take x_.1) ∧ (Mem w w_ [] [(x_.2).map (keyF 3), [⟨.slice (bl b1_2) (l.length) (l.length), 28, 3, (l.length), (x_.2 ++ List.replicate (l.length - x_.1) (⟨none, 0, ⟨[], 0, 0⟩⟩ : LnkL)).flatMap encL⟩]])) (fun x_ => l.length - x_.1) (0, ([] : List LnkL)) (Has.cons (sl_congr (by first | rfl | omega | (simp; done) | (simp; omega) | exact congrArg List.length hq3 | (simp [← hq3]; done) | (simp [← hq3]; omega))) (Has.cons rfl (Has.cons rfl (Has.cons (I_congr (by first | rfl | omega | (simp; omega) | simp)) Has.nil)))) ⟨(Nat.zero_le _), (by (try dsimp only); simp), (hMn2.pick [0, 1] (by decide) rfl)⟩ (fun ⟨k, Ch⟩ σ w_l3 hI => ?_)
  try dsimp only at hI
  obtain ⟨hi0_l3, hi1_l3, hM_l3⟩ := hI
  have hcl1_l3 := (hM_l3.cap 1 rfl).1
  have hCl := ts_len hi1_l3 hi0_l3
  refine C.seq ?_
  refine C.region ?_
  refine O.val (v := .bool (decide (((k : Nat) : Int) < (((l).length : Nat) : Int)))) rfl (Ru.lss rfl rfl) rfl ?_
  refine O.nil ?_
  refine C.seq ?_
  refine C.cond (p := ((k : Nat) : Int) < (((l).length : Nat) : Int)) rfl (fun c12 => ?_) (fun c12 => ?_)
  · refine C.skip ?_
    refine C.seq ?_
    refine C.block ?_
    refine C.seq ?_
    refine C.region ?_
    refine O.val (v := I (((k : Nat) : Int))) rfl (Ru.move rfl) rfl ?_
    have hx4_1 : k < (l).length := (by first | omega | (simp; omega))
    refine O.val (v := .pointer (ofs (A) (k * 3))) rfl (Ru.indexA (j := k) Try.underlying23 el28 rfl rfl (smf encL_len (hA.at hM_l3) hx4_1 rfl) (by omega) (by first | omega | (simp; omega))) rfl ?_
    refine O.val rfl (Ru.loadN (vs := [.slice (((l)[k]'hx4_1).A) (((l)[k]'hx4_1).t.keys.length) (((l)[k]'hx4_1).cp), I (((l)[k]'hx4_1).t.high), I (((l)[k]'hx4_1).t.right)]) el28 rfl rfl (smf encL_len (hA.at hM_l3) hx4_1 rfl) (ldn encL_len (hA.at hM_l3) hx4_1)) rfl ?_
    refine O.malloc (k := 3) hM_l3 rfl rfl el28 rfl (fun w4_3 b4_3 hb4_3 (hM4_3 : Mem w w4_3 [] [[⟨.slice (bl b4_3) 1 1, 28, 3, 1, [.slice (none) (0) (0), I (0), I (0)]⟩], (Ch).map (keyF 3), [⟨.slice (bl b1_2) (l.length) (l.length), 28, 3, (l.length), (Ch ++ List.replicate (l.length - k) (⟨none, 0, ⟨[], 0, 0⟩⟩ : LnkL)).flatMap encL⟩]]) => ?_)
    refine O.val (v := I (((k : Nat) : Int))) rfl (Ru.assign rfl) rfl ?_
    refine O.mstore (vs := [.slice (((l)[k]'hx4_1).A) (((l)[k]'hx4_1).t.keys.length) (((l)[k]'hx4_1).cp), I (((l)[k]'hx4_1).t.high), I (((l)[k]'hx4_1).t.right)]) (xs' := [.slice (((l)[k]'hx4_1).A) (((l)[k]'hx4_1).t.keys.length) (((l)[k]'hx4_1).cp), I (((l)[k]'hx4_1).t.high), I (((l)[k]'hx4_1).t.right)]) 0 0 hM4_3 rfl rfl rfl el28 rfl rfl rfl rfl rfl (by simp) (by simp) rfl rfl (fun w4_5 (hM4_5 : Mem w w4_5 [] [[⟨.slice (bl b4_3) 1 1, 28, 3, 1, [.slice (((l)[k]'hx4_1).A) (((l)[k]'hx4_1).t.keys.length) (((l)[k]'hx4_1).cp), I (((l)[k]'hx4_1).t.high), I (((l)[k]'hx4_1).t.right)]⟩], (Ch).map (keyF 3), [⟨.slice (bl b1_2) (l.length) (l.length), 28, 3, (l.length), (Ch ++ List.replicate (l.length - k) (⟨none, 0, ⟨[], 0, 0⟩⟩ : LnkL)).flatMap encL⟩]]) => ?_)
    refine O.nil ?_
    refine C.any (f := 12) (ls := [false, false, false, false, false, false, false, false, false, false, false, false]) (fun w2 => Mem w w2 [] [[⟨.slice (bl b4_3) 1 1, 28, 3, 1, [.slice (((l)[k]'hx4_1).A) (((l)[k]'hx4_1).t.keys.length) (((l)[k]'hx4_1).cp), I (((l)[k]'hx4_1).t.high), I (((l)[k]'hx4_1).t.right)]⟩], (Ch).map (keyF 3)]) mixed rfl rfl (fun w2 hw2 => Mem0.ext (hM4_5.pick [0, 1] (by decide) rfl) hw2) (fun w5a hE5a => ?_)
    have hM5a : Mem w w5a [] [[⟨.slice (bl b4_3) 1 1, 28, 3, 1, [.slice (((l)[k]'hx4_1).A) (((l)[k]'hx4_1).t.keys.length) (((l)[k]'hx4_1).cp), I (((l)[k]'hx4_1).t.high), I (((l)[k]'hx4_1).t.right)]⟩], (Ch).map (keyF 3), [⟨.slice (bl b1_2) (l.length) (l.length), 28, 3, (l.length), (Ch ++ List.replicate (l.length - k) (⟨none, 0, ⟨[], 0, 0⟩⟩ : LnkL)).flatMap encL⟩]] := Mem0.ext hM4_5 hE5a
    refine AO.val (v := .slice (bl b1_2) (l.length) (l.length)) 0 (ls' := [true, false, false, false, false, false, false, false, false, false, false, false]) rfl (by kernel_rfl) rfl rfl (fun w2 hw2 => Ru.move rfl) rfl ?_
    refine AO.val (v := I (((k : Nat) : Int))) 1 (ls' := [true, true, false, false, false, false, false, false, false, false, false, false]) rfl (by kernel_rfl) rfl rfl (fun w2 hw2 => Ru.move rfl) rfl ?_
    refine AO.val (v := .pointer (ofs (bl b4_3) (0))) 2 (ls' := [true, true, true, false, false, false, false, false, false, false, false, false]) rfl (by kernel_rfl) rfl rfl (fun w2 hw2 => Ru.fieldA fl28_0 rfl rfl) rfl ?_
    refine AO.val (v := .slice (((l)[k]'hx4_1).A) (((l)[k]'hx4_1).t.keys.length) (((l)[k]'hx4_1).cp)) 3 (ls' := [true, true, true, true, false, false, false, false, false, false, false, false]) rfl (by kernel_rfl) rfl rfl (fun w2 hw2 => Ru.load1 el26 rfl ((hw2.rd 0 rfl).ld rfl)) rfl ?_
    refine AO.val (v := .pointer (ofs (bl b4_3) (1))) 5 (ls' := [true, true, true, true, false, true, false, false, false, false, false, false]) rfl (by kernel_rfl) rfl rfl (fun w2 hw2 => Ru.fieldA fl28_1 rfl rfl) rfl ?_
    refine AO.val (v := I (((l)[k]'hx4_1).t.high)) 6 (ls' := [true, true, true, true, false, true, true, false, false, false, false, false]) rfl (by kernel_rfl) rfl rfl (fun w2 hw2 => Ru.load1 el3 rfl ((hw2.rd 0 rfl).ld rfl)) rfl ?_
    refine AO.val (v := .pointer (ofs (bl b4_3) (2))) 7 (ls' := [true, true, true, true, false, true, true, true, false, false, false, false]) rfl (by kernel_rfl) rfl rfl (fun w2 hw2 => Ru.fieldA fl28_2 rfl rfl) rfl ?_
    refine AO.val (v := I (((l)[k]'hx4_1).t.right)) 8 (ls' := [true, true, true, true, false, true, true, true, true, false, false, false]) rfl (by kernel_rfl) rfl rfl (fun w2 hw2 => Ru.load1 el3 rfl ((hw2.rd 0 rfl).ld rfl)) rfl ?_
    refine AO.one 4 (by kernel_rfl) ?_
    refine step1 (ls' := [true, true, true, true, true, true, true, true, true, false, false, false]) rfl rfl ?_
    refine O.callg [.slice (((l)[k]'hx4_1).A) ((((l)[k]'hx4_1).t.keys).length) (((l)[k]'hx4_1).cp)] rfl en55 (by first | rfl | (rw [show (((l)[k]'hx4_1).t.keys).length = ((l)[k]'hx4_1).t.keys.length from (by first | rfl | (simp; done) | omega | (simp; omega))]; rfl)) rfl (CloneInt_fn (((l)[k]'hx4_1).A) (((l)[k]'hx4_1).cp) (((l)[k]'hx4_1).t.keys) w5a ((hNA.at hM5a).get hx4_1) (by exact hk4 _ (List.getElem_mem hx4_1))) ?_
    rintro _ w5_4 ⟨A15_4, c15_4, rfl, hR5_4⟩
    have hM5_4 : Mem w w5_4 [] [[⟨.slice (A15_4) (((((l)[k]'hx4_1).t.keys)).length) (c15_4), 3, 1, (((((l)[k]'hx4_1).t.keys)).length), ((((l)[k]'hx4_1).t.keys)).map I⟩], [⟨.slice (bl b4_3) 1 1, 28, 3, 1, [.slice (((l)[k]'hx4_1).A) (((l)[k]'hx4_1).t.keys.length) (((l)[k]'hx4_1).cp), I (((l)[k]'hx4_1).t.high), I (((l)[k]'hx4_1).t.right)]⟩], (Ch).map (keyF 3), [⟨.slice (bl b1_2) (l.length) (l.length), 28, 3, (l.length), (Ch ++ List.replicate (l.length - k) (⟨none, 0, ⟨[], 0, 0⟩⟩ : LnkL)).flatMap encL⟩]] := Mem.call (Ma := []) hM5a hR5_4 rfl
    have hcr5_4_0 := (hM5_4.cap 0 rfl).1
    refine O.stop (hM5_4.pick [1, 2] (by decide) rfl) ?_
    refine AO.val (v := .agg #[.slice (A15_4) (((((l)[k]'hx4_1).t.keys)).length) (c15_4), I (((l)[k]'hx4_1).t.high), I (((l)[k]'hx4_1).t.right)]) 9 (ls' := [true, true, true, true, true, true, true, true, true, true, false, false]) rfl (by kernel_rfl) rfl rfl (fun w2 hw2 => Ru.build of28 rfl rfl rfl) rfl ?_
    have hx5_10 : k < (Ch ++ List.replicate (l.length - k) (⟨none, 0, ⟨[], 0, 0⟩⟩ : LnkL)).length := (by simp; omega)
    refine AO.val (v := .pointer (ofs (bl b1_2) (k * 3))) 10 (ls' := [true, true, true, true, true, true, true, true, true, true, true, false]) rfl (by kernel_rfl) rfl rfl (fun w2 hw2 => Ru.indexA (j := k) Try.underlying23 el28 rfl rfl (smf encL_len (hM5_4.rd 3 rfl) hx5_10 rfl) (by omega) (by first | omega | (simp; omega))) rfl ?_
    refine AO.one 11 (by kernel_rfl) ?_
    refine step1 (ls' := [true, true, true, true, true, true, true, true, true, true, true, true]) rfl rfl ?_
    refine O.mstore (vs := [.slice (A15_4) (((((l)[k]'hx4_1).t.keys)).length) (c15_4), I (((l)[k]'hx4_1).t.high), I (((l)[k]'hx4_1).t.right)]) (xs' := ((Ch ++ List.replicate (l.length - k) (⟨none, 0, ⟨[], 0, 0⟩⟩ : LnkL)).set (k) (⟨A15_4, c15_4, ⟨(((l)[k]'hx4_1).t.keys), ((l)[k]'hx4_1).t.high, ((l)[k]'hx4_1).t.right⟩⟩ : LnkL)).flatMap encL) 3 0 hM5_4 rfl rfl rfl el28 rfl rfl rfl rfl rfl (by rw [flat_len encL_len]; simp; omega) (by simp) (spl_flat encL_len (l := Ch ++ List.replicate (l.length - k) (⟨none, 0, ⟨[], 0, 0⟩⟩ : LnkL)) (a := (⟨A15_4, c15_4, ⟨(((l)[k]'hx4_1).t.keys), ((l)[k]'hx4_1).t.high, ((l)[k]'hx4_1).t.right⟩⟩ : LnkL)) hx5_10) rfl (fun w5_11 (hM5_11 : Mem w w5_11 [] [[⟨.slice (A15_4) (((((l)[k]'hx4_1).t.keys)).length) (c15_4), 3, 1, (((((l)[k]'hx4_1).t.keys)).length), ((((l)[k]'hx4_1).t.keys)).map I⟩], [⟨.slice (bl b4_3) 1 1, 28, 3, 1, [.slice (((l)[k]'hx4_1).A) (((l)[k]'hx4_1).t.keys.length) (((l)[k]'hx4_1).cp), I (((l)[k]'hx4_1).t.high), I (((l)[k]'hx4_1).t.right)]⟩], (Ch).map (keyF 3), [⟨.slice (bl b1_2) (l.length) (l.length), 28, 3, (l.length), ((Ch ++ List.replicate (l.length - k) (⟨none, 0, ⟨[], 0, 0⟩⟩ : LnkL)).set (k) (⟨A15_4, c15_4, ⟨(((l)[k]'hx4_1).t.keys), ((l)[k]'hx4_1).t.high, ((l)[k]'hx4_1).t.right⟩⟩ : LnkL)).flatMap encL⟩]]) => ?_)
    refine O.stop (hM5_11.pick [1, 2] (by decide) rfl) ?_
    refine AO.nil (by kernel_rfl) ?_
    have hMk4 : Mem w w5_11 [] [(Ch ++ [(⟨A15_4, c15_4, ⟨(((l)[k]'hx4_1).t.keys), ((l)[k]'hx4_1).t.high, ((l)[k]'hx4_1).t.right⟩⟩ : LnkL)]).map (keyF 3), [⟨.slice (bl b4_3) 1 1, 28, 3, 1, [.slice (((l)[k]'hx4_1).A) (((l)[k]'hx4_1).t.keys.length) (((l)[k]'hx4_1).cp), I (((l)[k]'hx4_1).t.high), I (((l)[k]'hx4_1).t.right)]⟩], [⟨.slice (bl b1_2) (l.length) (l.length), 28, 3, (l.length), ((Ch ++ List.replicate (l.length - k) (⟨none, 0, ⟨[], 0, 0⟩⟩ : LnkL)).set (k) (⟨A15_4, c15_4, ⟨(((l)[k]'hx4_1).t.keys), ((l)[k]'hx4_1).t.high, ((l)[k]'hx4_1).t.right⟩⟩ : LnkL)).flatMap encL⟩]] := Mem.kapp (l := Ch) (x := (⟨A15_4, c15_4, ⟨(((l)[k]'hx4_1).t.keys), ((l)[k]'hx4_1).t.high, ((l)[k]'hx4_1).t.right⟩⟩ : LnkL)) (M := [[⟨.slice (bl b4_3) 1 1, 28, 3, 1, [.slice (((l)[k]'hx4_1).A) (((l)[k]'hx4_1).t.keys.length) (((l)[k]'hx4_1).cp), I (((l)[k]'hx4_1).t.high), I (((l)[k]'hx4_1).t.right)]⟩], [⟨.slice (bl b1_2) (l.length) (l.length), 28, 3, (l.length), ((Ch ++ List.replicate (l.length - k) (⟨none, 0, ⟨[], 0, 0⟩⟩ : LnkL)).set (k) (⟨A15_4, c15_4, ⟨(((l)[k]'hx4_1).t.keys), ((l)[k]'hx4_1).t.high, ((l)[k]'hx4_1).t.right⟩⟩ : LnkL)).flatMap encL⟩]]) (hM5_11.pick [2, 0, 1, 3] (by decide) rfl)
    refine C.region ?_
    refine O.val (v := I ((((k + 1) : Nat) : Int))) rfl (Ru.congr (v := I ((((k : Nat) : Int) + 1))) (v' := I ((((k + 1) : Nat) : Int))) (Ru.add rfl rfl (by omega)) (I_congr (by first | omega | simp))) rfl ?_
    refine O.val (v := I ((((k + 1) : Nat) : Int))) rfl (Ru.move rfl) rfl ?_
    refine O.nil ?_
    have hq5 : ((Ch ++ List.replicate (l.length - k) (⟨none, 0, ⟨[], 0, 0⟩⟩ : LnkL)).set (k) (⟨A15_4, c15_4, ⟨(((l)[k]'hx4_1).t.keys), ((l)[k]'hx4_1).t.high, ((l)[k]'hx4_1).t.right⟩⟩ : LnkL) : List LnkL) = (Ch ++ [(⟨A15_4, c15_4, ⟨(((l)[k]'hx4_1).t.keys), ((l)[k]'hx4_1).t.high, ((l)[k]'hx4_1).t.right⟩⟩ : LnkL)]) ++ List.replicate (l.length - (k + 1)) (⟨none, 0, ⟨[], 0, 0⟩⟩ : LnkL) := (fill_app hCl hx4_1)
    have hMn5 : Mem w w5_11 [] [(Ch ++ [(⟨A15_4, c15_4, ⟨(((l)[k]'hx4_1).t.keys), ((l)[k]'hx4_1).t.high, ((l)[k]'hx4_1).t.right⟩⟩ : LnkL)]).map (keyF 3), [⟨.slice (bl b4_3) 1 1, 28, 3, 1, [.slice (((l)[k]'hx4_1).A) (((l)[k]'hx4_1).t.keys.length) (((l)[k]'hx4_1).cp), I (((l)[k]'hx4_1).t.high), I (((l)[k]'hx4_1).t.right)]⟩], [⟨.slice (bl b1_2) (l.length) (l.length), 28, 3, (l.length), ((Ch ++ [(⟨A15_4, c15_4, ⟨(((l)[k]'hx4_1).t.keys), ((l)[k]'hx4_1).t.high, ((l)[k]'hx4_1).t.right⟩⟩ : LnkL)]) ++ List.replicate (l.length - (k + 1)) (⟨none, 0, ⟨[], 0, 0⟩⟩ : LnkL)).flatMap encL⟩]] := hMk4.relen 2 (n' := l.length) (xs' := ((Ch ++ [(⟨A15_4, c15_4, ⟨(((l)[k]'hx4_1).t.keys), ((l)[k]'hx4_1).t.high, ((l)[k]'hx4_1).t.right⟩⟩ : LnkL)]) ++ List.replicate (l.length - (k + 1)) (⟨none, 0, ⟨[], 0, 0⟩⟩ : LnkL)).flatMap encL) rfl (by first | rfl | exact congrArg List.length hq5 | (have hqq := congrArg List.length hq5; first | omega | (simp at hqq ⊢; omega)) | (simp; done) | (simp; omega)) (congrArg (fun z_ => (z_).flatMap encL) hq5) rfl
    simp only [blkQ]
    exact loopEnd (k + 1, Ch ++ [(⟨A15_4, c15_4, ⟨(((l)[k]'hx4_1).t.keys), ((l)[k]'hx4_1).t.high, ((l)[k]'hx4_1).t.right⟩⟩ : LnkL)]) (by (try dsimp only); omega) (Has.cons rfl (Has.cons rfl (Has.cons rfl (Has.cons (I_congr (by first | rfl | omega | (simp; omega) | simp)) Has.nil)))) ⟨(by (try dsimp only); omega), (ts_snoc hi1_l3 hx4_1 rfl), (hMn5.pick [0, 2] (by decide) rfl)⟩
  · refine C.exit ?_
    refine C.seq ?_
    refine C.region ?_
    refine O.val (v := .slice (bl b1_2) (l.length) (l.length)) rfl (Ru.move rfl) rfl ?_
    refine O.val (v := .slice (bl b1_2) (l.length) (l.length)) rfl (Ru.assign rfl) rfl ?_
    refine O.nil ?_
    refine C.ret ?_
    refine P1 (v := .slice (bl b1_2) (l.length) (l.length)) rfl ?_
    have hke : k = l.length := by omega
    rw [hke, List.take_of_length_le (by simp)] at hi1_l3
    have hq7 : (Ch ++ List.replicate (l.length - k) (⟨none, 0, ⟨[], 0, 0⟩⟩ : LnkL) : List LnkL) = Ch := (by rw [hke]; simp)
    have hMn7 : Mem w w_l3 [] [(Ch).map (keyF 3), [⟨.slice (bl b1_2) ((Ch).length) (l.length), 28, 3, ((Ch).length), (Ch).flatMap encL⟩]] := hM_l3.relen 1 (n' := (Ch).length) (xs' := (Ch).flatMap encL) rfl (by first | rfl | exact congrArg List.length hq7 | (have hqq := congrArg List.length hq7; first | omega | (simp at hqq ⊢; omega)) | (simp; done) | (simp; omega)) (congrArg (fun z_ => (z_).flatMap encL) hq7) rfl
    exact ⟨Ch, bl b1_2, l.length, (sl_congr (by omega)), hi1_l3, (hMn7.pick [1, 0] (by decide) rfl)⟩

theorem scopyChain_fn (A : Option Addr) (c : Nat) (l : List LnkL) (w : World) (hA : Rd w A ((l).flatMap encL)) (hNA : Nst w l) (hl : l.length ≤ 1048576) (hk4 : ∀ x ∈ l, x.t.keys.length ≤ 1048576) :
    Does Try.prog 51 [.slice (A) ((l).length) (c)] w (fun v w1 => ∃ (L1 : List LnkL) (A1 : Option Addr) (c1 : Nat), v = .slice (A1) ((L1).length) (c1) ∧ (tsL L1 = tsL l) ∧ Mem w w1 [] [[⟨.slice (A1) ((L1).length) (c1), 28, 3, ((L1).length), (L1).flatMap encL⟩], (L1).map (keyF 3)]) := by
  have hM : Mem w w [] [] := Mem.refl
  refine Does.enter1 Try.func51 rfl Try.results51 Try.ntmps51 rfl ?_
  refine C.seq ?_
  refine C.region ?_
  refine O.val (v := .slice (none) (0) (0)) rfl (Ru.assign rfl) rfl ?_
  refine O.nil ?_
  refine C.seq ?_
  refine C.region ?_
  refine O.mlit (sz := 3) (cs := []) hM rfl Try.underlying23 el28 rfl rfl rfl (by kernel_rfl) (by kernel_rfl) rfl rfl (fun w1_0 b1_0 hb1_0 (hM1_0 : Mem w w1_0 [] [[⟨.slice (bl b1_0) (0) (0), 28, 3, 0, ([]).flatMap encL⟩]]) => ?_)
  refine O.val (v := .slice (bl b1_0) (0) (0)) rfl (Ru.assign rfl) rfl ?_
  refine O.nil ?_
  have hMk1 : Mem w w1_0 [] [(([] : List LnkL)).map (keyF 3), [⟨.slice (bl b1_0) (0) (0), 28, 3, 0, ([]).flatMap encL⟩]] := Mem.knil hM1_0
  refine C.seq ?_
  refine C.seq ?_
  refine C.region ?_
  refine O.val (v := I (0)) rfl (Ru.assign rfl) rfl ?_
  refine O.nil ?_
  refine C.block ?_
  have hq2 : ([] : List LnkL) = ([] : List LnkL) := (by first | rfl | simp | (simp; omega))
  have hMn2 : Mem w w1_0 [] [(([] : List LnkL)).map (keyF 3), [⟨.slice (bl b1_0) ((([] : List LnkL)).length) (0), 28, 3, ((([] : List LnkL)).length), (([] : List LnkL)).flatMap encL⟩]] := hMk1.relen 1 (n' := (([] : List LnkL)).length) (xs' := (([] : List LnkL)).flatMap encL) rfl (by first | rfl | exact congrArg List.length hq2 | (have hqq := congrArg List.length hq2; first | omega | (simp at hqq ⊢; omega)) | (simp; done) | (simp; omega)) (congrArg (fun z_ => (z_).flatMap encL) hq2) rfl
  refine C.loop (ι := Nat × (List LnkL) × (Option Addr) × Nat) (fun x_ => ([(0, .slice (A) ((l).length) (c)), (3, .slice (x_.2.2.1) ((x_.2.1).length) (x_.2.2.2)), (4, I (((x_.1 : Nat) : Int)))] : List (Nat × Value))) (fun x_ w_ => (x_.1 ≤ l.length) ∧ (tsL x_.2.1 = (tsL l).take x_.1) ∧ (Mem w w_ [] [(x_.2.1).map (keyF 3), [⟨.slice (x_.2.2.1) ((x_.2.1).length) (x_.2.2.2), 28, 3, ((x_.2.1).length), (x_.2.1).flatMap encL⟩]])) (fun x_ => l.length - x_.1) (0, ([] : List LnkL), bl b1_0, 0) (Has.cons rfl (Has.cons (sl_congr (by first | rfl | omega | (simp; done) | (simp; omega) | exact congrArg List.length hq3 | (simp [← hq3]; done) | (simp [← hq3]; omega))) (Has.cons (I_congr (by first | rfl | omega | (simp; omega) | simp)) Has.nil))) ⟨(Nat.zero_le _), (by (try dsimp only); simp), (hMn2.pick [0, 1] (by decide) rfl)⟩ (fun ⟨k, Ch, A2, c2⟩ σ w_l3 hI => ?_)
  try dsimp only at hI
  obtain ⟨hi0_l3, hi1_l3, hM_l3⟩ := hI
  have hcl1_l3 := (hM_l3.cap 1 rfl).1
  have hCl := ts_len hi1_l3 hi0_l3
  refine C.seq ?_
  refine C.seq ?_
  refine C.region ?_
  refine O.val (v := I (((k : Nat) : Int))) rfl (Ru.move rfl) rfl ?_
  refine O.val (v := .slice (A) ((l).length) (c)) rfl (Ru.move rfl) rfl ?_
  refine O.val (v := I ((((l).length : Nat) : Int))) rfl (Ru.blenSlice Try.underlying23 rfl) rfl ?_
  refine O.val (v := .bool (decide (((k : Nat) : Int) < (((l).length : Nat) : Int)))) rfl (Ru.lss rfl rfl) rfl ?_
  refine O.nil ?_
  refine C.cond (p := ((k : Nat) : Int) < (((l).length : Nat) : Int)) rfl (fun c9 => ?_) (fun c9 => ?_)
  · refine C.skip ?_
    refine C.seq ?_
    refine C.block ?_
    refine C.any (f := 21) (ls := [false, false, false, false, false, false, false, false, false, false, false, false, false, false, false, false, false, false, false, false, false]) (fun w2 => Mem w w2 [] [(Ch).map (keyF 3)]) mixed rfl rfl (fun w2 hw2 => Mem0.ext (hM_l3.pick [0] (by decide) rfl) hw2) (fun w5a hE5a => ?_)
    have hM5a : Mem w w5a [] [(Ch).map (keyF 3), [⟨.slice (A2) ((Ch).length) (c2), 28, 3, ((Ch).length), (Ch).flatMap encL⟩]] := Mem0.ext hM_l3 hE5a
    refine AO.val (v := .slice (A2) ((Ch).length) (c2)) 0 (ls' := [true, false, false, false, false, false, false, false, false, false, false, false, false, false, false, false, false, false, false, false, false]) rfl (by kernel_rfl) rfl rfl (fun w2 hw2 => Ru.move rfl) rfl ?_
    refine AO.val (v := .slice (A) ((l).length) (c)) 1 (ls' := [true, true, false, false, false, false, false, false, false, false, false, false, false, false, false, false, false, false, false, false, false]) rfl (by kernel_rfl) rfl rfl (fun w2 hw2 => Ru.move rfl) rfl ?_
    refine AO.val (v := I (((k : Nat) : Int))) 2 (ls' := [true, true, true, false, false, false, false, false, false, false, false, false, false, false, false, false, false, false, false, false, false]) rfl (by kernel_rfl) rfl rfl (fun w2 hw2 => Ru.move rfl) rfl ?_
    have hx5_3 : k < (l).length := (by first | omega | (simp; omega))
    refine AO.val (v := .pointer (ofs (A) (k * 3))) 3 (ls' := [true, true, true, true, false, false, false, false, false, false, false, false, false, false, false, false, false, false, false, false, false]) rfl (by kernel_rfl) rfl rfl (fun w2 hw2 => Ru.indexA (j := k) Try.underlying23 el28 rfl rfl (smf encL_len (hA.at hM5a) hx5_3 rfl) (by omega) (by first | omega | (simp; omega))) rfl ?_
    refine AO.val (v := .pointer (ofs (A) (k * 3 + 0))) 4 (ls' := [true, true, true, true, true, false, false, false, false, false, false, false, false, false, false, false, false, false, false, false, false]) rfl (by kernel_rfl) rfl rfl (fun w2 hw2 => Ru.fieldA fl28_0 rfl (smf encL_len (hA.at hM5a) hx5_3 rfl)) rfl ?_
    refine AO.val (v := .slice (((l)[k]'hx5_3).A) (((l)[k]'hx5_3).t.keys.length) (((l)[k]'hx5_3).cp)) 5 (ls' := [true, true, true, true, true, true, false, false, false, false, false, false, false, false, false, false, false, false, false, false, false]) rfl (by kernel_rfl) rfl rfl (fun w2 hw2 => Ru.load1 el26 rfl (ldf encL_len (hA.at hw2) hx5_3 rfl)) rfl ?_
    refine AO.val (v := .slice (A) ((l).length) (c)) 7 (ls' := [true, true, true, true, true, true, false, true, false, false, false, false, false, false, false, false, false, false, false, false, false]) rfl (by kernel_rfl) rfl rfl (fun w2 hw2 => Ru.move rfl) rfl ?_
    refine AO.val (v := I (((k : Nat) : Int))) 8 (ls' := [true, true, true, true, true, true, false, true, true, false, false, false, false, false, false, false, false, false, false, false, false]) rfl (by kernel_rfl) rfl rfl (fun w2 hw2 => Ru.move rfl) rfl ?_
    have hx5_9 : k < (l).length := (by first | omega | (simp; omega))
    refine AO.val (v := .pointer (ofs (A) (k * 3))) 9 (ls' := [true, true, true, true, true, true, false, true, true, true, false, false, false, false, false, false, false, false, false, false, false]) rfl (by kernel_rfl) rfl rfl (fun w2 hw2 => Ru.indexA (j := k) Try.underlying23 el28 rfl rfl (smf encL_len (hA.at hM5a) hx5_9 rfl) (by omega) (by first | omega | (simp; omega))) rfl ?_
    refine AO.val (v := .pointer (ofs (A) (k * 3 + 1))) 10 (ls' := [true, true, true, true, true, true, false, true, true, true, true, false, false, false, false, false, false, false, false, false, false]) rfl (by kernel_rfl) rfl rfl (fun w2 hw2 => Ru.fieldA fl28_1 rfl (smf encL_len (hA.at hM5a) hx5_9 rfl)) rfl ?_
    refine AO.val (v := I (((l)[k]'hx5_9).t.high)) 11 (ls' := [true, true, true, true, true, true, false, true, true, true, true, true, false, false, false, false, false, false, false, false, false]) rfl (by kernel_rfl) rfl rfl (fun w2 hw2 => Ru.load1 el3 rfl (ldf encL_len (hA.at hw2) hx5_9 rfl)) rfl ?_
    refine AO.val (v := .slice (A) ((l).length) (c)) 12 (ls' := [true, true, true, true, true, true, false, true, true, true, true, true, true, false, false, false, false, false, false, false, false]) rfl (by kernel_rfl) rfl rfl (fun w2 hw2 => Ru.move rfl) rfl ?_
    refine AO.val (v := I (((k : Nat) : Int))) 13 (ls' := [true, true, true, true, true, true, false, true, true, true, true, true, true, true, false, false, false, false, false, false, false]) rfl (by kernel_rfl) rfl rfl (fun w2 hw2 => Ru.move rfl) rfl ?_
    have hx5_14 : k < (l).length := (by first | omega | (simp; omega))
    refine AO.val (v := .pointer (ofs (A) (k * 3))) 14 (ls' := [true, true, true, true, true, true, false, true, true, true, true, true, true, true, true, false, false, false, false, false, false]) rfl (by kernel_rfl) rfl rfl (fun w2 hw2 => Ru.indexA (j := k) Try.underlying23 el28 rfl rfl (smf encL_len (hA.at hM5a) hx5_14 rfl) (by omega) (by first | omega | (simp; omega))) rfl ?_
    refine AO.val (v := .pointer (ofs (A) (k * 3 + 2))) 15 (ls' := [true, true, true, true, true, true, false, true, true, true, true, true, true, true, true, true, false, false, false, false, false]) rfl (by kernel_rfl) rfl rfl (fun w2 hw2 => Ru.fieldA fl28_2 rfl (smf encL_len (hA.at hM5a) hx5_14 rfl)) rfl ?_
    refine AO.val (v := I (((l)[k]'hx5_14).t.right)) 16 (ls' := [true, true, true, true, true, true, false, true, true, true, true, true, true, true, true, true, true, false, false, false, false]) rfl (by kernel_rfl) rfl rfl (fun w2 hw2 => Ru.load1 el3 rfl (ldf encL_len (hA.at hw2) hx5_14 rfl)) rfl ?_
    refine AO.one 6 (by kernel_rfl) ?_
    refine step1 (ls' := [true, true, true, true, true, true, true, true, true, true, true, true, true, true, true, true, true, false, false, false, false]) rfl rfl ?_
    refine O.callg [.slice (((l)[k]'hx5_3).A) ((((l)[k]'hx5_3).t.keys).length) (((l)[k]'hx5_3).cp)] rfl en52 (by first | rfl | (rw [show (((l)[k]'hx5_3).t.keys).length = ((l)[k]'hx5_3).t.keys.length from (by first | rfl | (simp; done) | omega | (simp; omega))]; rfl)) rfl (scopyInts_fn (((l)[k]'hx5_3).A) (((l)[k]'hx5_3).cp) (((l)[k]'hx5_3).t.keys) w5a ((hNA.at hM5a).get hx5_3) (by exact hk4 _ (List.getElem_mem hx5_3))) ?_
    rintro _ w5_6 ⟨A15_6, c15_6, rfl, hR5_6⟩
    have hM5_6 : Mem w w5_6 [] [[⟨.slice (A15_6) (((((l)[k]'hx5_3).t.keys)).length) (c15_6), 3, 1, (((((l)[k]'hx5_3).t.keys)).length), ((((l)[k]'hx5_3).t.keys)).map I⟩], (Ch).map (keyF 3), [⟨.slice (A2) ((Ch).length) (c2), 28, 3, ((Ch).length), (Ch).flatMap encL⟩]] := Mem.call (Ma := []) hM5a hR5_6 rfl
    have hcr5_6_0 := (hM5_6.cap 0 rfl).1
    refine O.stop (hM5_6.pick [1] (by decide) rfl) ?_
    refine AO.val (v := .agg #[.slice (A15_6) (((((l)[k]'hx5_3).t.keys)).length) (c15_6), I (((l)[k]'hx5_9).t.high), I (((l)[k]'hx5_14).t.right)]) 17 (ls' := [true, true, true, true, true, true, true, true, true, true, true, true, true, true, true, true, true, true, false, false, false]) rfl (by kernel_rfl) rfl rfl (fun w2 hw2 => Ru.build of28 rfl rfl rfl) rfl ?_
    refine AO.one 18 (by kernel_rfl) ?_
    refine step1 (ls' := [true, true, true, true, true, true, true, true, true, true, true, true, true, true, true, true, true, true, true, false, false]) rfl rfl ?_
    refine O.mlit (sz := 3) (cs := [.slice (A15_6) (((((l)[k]'hx5_3).t.keys)).length) (c15_6), I (((l)[k]'hx5_9).t.high), I (((l)[k]'hx5_14).t.right)]) hM5_6 rfl Try.underlying23 el28 rfl rfl rfl (by kernel_rfl) (by kernel_rfl) rfl rfl (fun w5_18 b5_18 hb5_18 (hM5_18 : Mem w w5_18 [] [[⟨.slice (bl b5_18) (1) (1), 28, 3, 1, ([(⟨A15_6, c15_6, ⟨(((l)[k]'hx5_3).t.keys), ((l)[k]'hx5_9).t.high, ((l)[k]'hx5_14).t.right⟩⟩ : LnkL)]).flatMap encL⟩], [⟨.slice (A15_6) (((((l)[k]'hx5_3).t.keys)).length) (c15_6), 3, 1, (((((l)[k]'hx5_3).t.keys)).length), ((((l)[k]'hx5_3).t.keys)).map I⟩], (Ch).map (keyF 3), [⟨.slice (A2) ((Ch).length) (c2), 28, 3, ((Ch).length), (Ch).flatMap encL⟩]]) => ?_)
    refine O.stop (hM5_18.pick [2] (by decide) rfl) ?_
    refine AO.one 19 (by kernel_rfl) ?_
    refine step1 (ls' := [true, true, true, true, true, true, true, true, true, true, true, true, true, true, true, true, true, true, true, true, false]) rfl rfl ?_
    refine O.mappend (sz := 3) (news := ([(⟨A15_6, c15_6, ⟨(((l)[k]'hx5_3).t.keys), ((l)[k]'hx5_9).t.high, ((l)[k]'hx5_14).t.right⟩⟩ : LnkL)]).flatMap encL) (m1 := (Ch ++ [(⟨A15_6, c15_6, ⟨(((l)[k]'hx5_3).t.keys), ((l)[k]'hx5_9).t.high, ((l)[k]'hx5_14).t.right⟩⟩ : LnkL)]).length) (xs1 := (Ch ++ [(⟨A15_6, c15_6, ⟨(((l)[k]'hx5_3).t.keys), ((l)[k]'hx5_9).t.high, ((l)[k]'hx5_14).t.right⟩⟩ : LnkL)]).flatMap encL) (M' := fun A5_19 c5_19 => [[⟨.slice (bl b5_18) (1) (1), 28, 3, 1, ([(⟨A15_6, c15_6, ⟨(((l)[k]'hx5_3).t.keys), ((l)[k]'hx5_9).t.high, ((l)[k]'hx5_14).t.right⟩⟩ : LnkL)]).flatMap encL⟩], [⟨.slice (A15_6) (((((l)[k]'hx5_3).t.keys)).length) (c15_6), 3, 1, (((((l)[k]'hx5_3).t.keys)).length), ((((l)[k]'hx5_3).t.keys)).map I⟩], (Ch).map (keyF 3), [⟨.slice (A5_19) ((Ch ++ [(⟨A15_6, c15_6, ⟨(((l)[k]'hx5_3).t.keys), ((l)[k]'hx5_9).t.high, ((l)[k]'hx5_14).t.right⟩⟩ : LnkL)]).length) (c5_19), 28, 3, ((Ch ++ [(⟨A15_6, c15_6, ⟨(((l)[k]'hx5_3).t.keys), ((l)[k]'hx5_9).t.high, ((l)[k]'hx5_14).t.right⟩⟩ : LnkL)]).length), (Ch ++ [(⟨A15_6, c15_6, ⟨(((l)[k]'hx5_3).t.keys), ((l)[k]'hx5_9).t.high, ((l)[k]'hx5_14).t.right⟩⟩ : LnkL)]).flatMap encL⟩]]) 3 0 hM5_18 rfl rfl rfl Try.underlying23 el28 ⟨rfl, by decide⟩ rfl rfl rfl (hM5_18.rd 0 rfl) (by rw [flat_len encL_len]; first | done | (simp; done) | (simp; omega)) (all_flat_one (fun _ => rfl) _) (by first | omega | (simp; omega)) (by first | omega | (simp; omega)) (by first | (simp; done) | (simp; omega)) (by simp) (fun _ _ => rfl) (fun w5_19 A5_19 c5_19 hc5_19 hM5_19 => ?_)
    try dsimp only at hM5_19
    refine O.stop (hM5_19.pick [2] (by decide) rfl) ?_
    refine AO.val (v := .slice (A5_19) ((Ch ++ [(⟨A15_6, c15_6, ⟨(((l)[k]'hx5_3).t.keys), ((l)[k]'hx5_9).t.high, ((l)[k]'hx5_14).t.right⟩⟩ : LnkL)]).length) (c5_19)) 20 (ls' := [true, true, true, true, true, true, true, true, true, true, true, true, true, true, true, true, true, true, true, true, true]) rfl (by kernel_rfl) rfl rfl (fun w2 hw2 => Ru.assign rfl) rfl ?_
    refine AO.nil (by kernel_rfl) ?_
    have hMk4 : Mem w w5_19 [] [(Ch ++ [(⟨A15_6, c15_6, ⟨(((l)[k]'hx5_3).t.keys), ((l)[k]'hx5_9).t.high, ((l)[k]'hx5_14).t.right⟩⟩ : LnkL)]).map (keyF 3), [⟨.slice (bl b5_18) (1) (1), 28, 3, 1, ([(⟨A15_6, c15_6, ⟨(((l)[k]'hx5_3).t.keys), ((l)[k]'hx5_9).t.high, ((l)[k]'hx5_14).t.right⟩⟩ : LnkL)]).flatMap encL⟩], [⟨.slice (A5_19) ((Ch ++ [(⟨A15_6, c15_6, ⟨(((l)[k]'hx5_3).t.keys), ((l)[k]'hx5_9).t.high, ((l)[k]'hx5_14).t.right⟩⟩ : LnkL)]).length) (c5_19), 28, 3, ((Ch ++ [(⟨A15_6, c15_6, ⟨(((l)[k]'hx5_3).t.keys), ((l)[k]'hx5_9).t.high, ((l)[k]'hx5_14).t.right⟩⟩ : LnkL)]).length), (Ch ++ [(⟨A15_6, c15_6, ⟨(((l)[k]'hx5_3).t.keys), ((l)[k]'hx5_9).t.high, ((l)[k]'hx5_14).t.right⟩⟩ : LnkL)]).flatMap encL⟩]] := Mem.kapp (l := Ch) (x := (⟨A15_6, c15_6, ⟨(((l)[k]'hx5_3).t.keys), ((l)[k]'hx5_9).t.high, ((l)[k]'hx5_14).t.right⟩⟩ : LnkL)) (M := [[⟨.slice (bl b5_18) (1) (1), 28, 3, 1, ([(⟨A15_6, c15_6, ⟨(((l)[k]'hx5_3).t.keys), ((l)[k]'hx5_9).t.high, ((l)[k]'hx5_14).t.right⟩⟩ : LnkL)]).flatMap encL⟩], [⟨.slice (A5_19) ((Ch ++ [(⟨A15_6, c15_6, ⟨(((l)[k]'hx5_3).t.keys), ((l)[k]'hx5_9).t.high, ((l)[k]'hx5_14).t.right⟩⟩ : LnkL)]).length) (c5_19), 28, 3, ((Ch ++ [(⟨A15_6, c15_6, ⟨(((l)[k]'hx5_3).t.keys), ((l)[k]'hx5_9).t.high, ((l)[k]'hx5_14).t.right⟩⟩ : LnkL)]).length), (Ch ++ [(⟨A15_6, c15_6, ⟨(((l)[k]'hx5_3).t.keys), ((l)[k]'hx5_9).t.high, ((l)[k]'hx5_14).t.right⟩⟩ : LnkL)]).flatMap encL⟩]]) (hM5_19.pick [2, 1, 0, 3] (by decide) rfl)
    refine C.region ?_
    refine O.val (v := I (((k : Nat) : Int))) rfl (Ru.move rfl) rfl ?_
    refine O.val (v := I ((((k + 1) : Nat) : Int))) rfl (Ru.congr (v := I ((((k : Nat) : Int) + 1))) (v' := I ((((k + 1) : Nat) : Int))) (Ru.add rfl rfl (by omega)) (I_congr (by first | omega | simp))) rfl ?_
    refine O.val (v := I ((((k + 1) : Nat) : Int))) rfl (Ru.assign rfl) rfl ?_
    refine O.nil ?_
    have hq5 : (Ch ++ [(⟨A15_6, c15_6, ⟨(((l)[k]'hx5_3).t.keys), ((l)[k]'hx5_9).t.high, ((l)[k]'hx5_14).t.right⟩⟩ : LnkL)] : List LnkL) = (Ch ++ [(⟨A15_6, c15_6, ⟨(((l)[k]'hx5_3).t.keys), ((l)[k]'hx5_9).t.high, ((l)[k]'hx5_14).t.right⟩⟩ : LnkL)]) := (by first | rfl | simp | (simp; omega))
    have hMn5 : Mem w w5_19 [] [(Ch ++ [(⟨A15_6, c15_6, ⟨(((l)[k]'hx5_3).t.keys), ((l)[k]'hx5_9).t.high, ((l)[k]'hx5_14).t.right⟩⟩ : LnkL)]).map (keyF 3), [⟨.slice (bl b5_18) (1) (1), 28, 3, 1, ([(⟨A15_6, c15_6, ⟨(((l)[k]'hx5_3).t.keys), ((l)[k]'hx5_9).t.high, ((l)[k]'hx5_14).t.right⟩⟩ : LnkL)]).flatMap encL⟩], [⟨.slice (A5_19) (((Ch ++ [(⟨A15_6, c15_6, ⟨(((l)[k]'hx5_3).t.keys), ((l)[k]'hx5_9).t.high, ((l)[k]'hx5_14).t.right⟩⟩ : LnkL)])).length) (c5_19), 28, 3, (((Ch ++ [(⟨A15_6, c15_6, ⟨(((l)[k]'hx5_3).t.keys), ((l)[k]'hx5_9).t.high, ((l)[k]'hx5_14).t.right⟩⟩ : LnkL)])).length), ((Ch ++ [(⟨A15_6, c15_6, ⟨(((l)[k]'hx5_3).t.keys), ((l)[k]'hx5_9).t.high, ((l)[k]'hx5_14).t.right⟩⟩ : LnkL)])).flatMap encL⟩]] := hMk4.relen 2 (n' := ((Ch ++ [(⟨A15_6, c15_6, ⟨(((l)[k]'hx5_3).t.keys), ((l)[k]'hx5_9).t.high, ((l)[k]'hx5_14).t.right⟩⟩ : LnkL)])).length) (xs' := ((Ch ++ [(⟨A15_6, c15_6, ⟨(((l)[k]'hx5_3).t.keys), ((l)[k]'hx5_9).t.high, ((l)[k]'hx5_14).t.right⟩⟩ : LnkL)])).flatMap encL) rfl (by first | rfl | exact congrArg List.length hq5 | (have hqq := congrArg List.length hq5; first | omega | (simp at hqq ⊢; omega)) | (simp; done) | (simp; omega)) (congrArg (fun z_ => (z_).flatMap encL) hq5) rfl
    exact loopEnd (k + 1, Ch ++ [(⟨A15_6, c15_6, ⟨(((l)[k]'hx5_3).t.keys), ((l)[k]'hx5_9).t.high, ((l)[k]'hx5_14).t.right⟩⟩ : LnkL)], A5_19, c5_19) (by (try dsimp only); omega) (Has.cons rfl (Has.cons rfl (Has.cons (I_congr (by first | rfl | omega | (simp; omega) | simp)) Has.nil))) ⟨(by (try dsimp only); omega), (ts_snoc hi1_l3 hx5_3 rfl), (hMn5.pick [0, 2] (by decide) rfl)⟩
  · refine C.exit ?_
    refine C.seq ?_
    refine C.region ?_
    refine O.val (v := .slice (A2) ((Ch).length) (c2)) rfl (Ru.move rfl) rfl ?_
    refine O.val (v := .slice (A2) ((Ch).length) (c2)) rfl (Ru.assign rfl) rfl ?_
    refine O.nil ?_
    refine C.ret ?_
    refine P1 (v := .slice (A2) ((Ch).length) (c2)) rfl ?_
    have hke : k = l.length := by omega
    rw [hke, List.take_of_length_le (by simp)] at hi1_l3
    exact ⟨Ch, A2, c2, (by first | rfl | exact sl_congr (by first | omega | (simp; done) | (simp; omega)) | (simp; done)), hi1_l3, (hM_l3.pick [1, 0] (by decide) rfl)⟩

theorem InsertKey_fn (A : Option Addr) (c : Nat) (l : List Int) (key : Int) (w : World) (hA : Rd w A ((l).map I)) (hl : l.length ≤ 1048576) :
    Does Try.prog 41 [.slice (A) ((l).length) (c), I (key)] w (fun v w1 => ∃ (A1 : Option Addr) (c1 : Nat), v = .tuple #[.slice (A1) (((insF l key).getD []).length) (c1), .bool ((insF l key).isSome)] ∧ Mem w w1 [] [[⟨.slice (A1) (((insF l key).getD []).length) (c1), 3, 1, (((insF l key).getD []).length), ((insF l key).getD []).map I⟩]]) := by
  have hM : Mem w w [] [] := Mem.refl
  refine Does.enter2 Try.func41 rfl Try.results41 Try.ntmps41 rfl ?_
  refine C.seq ?_
  refine C.region ?_
  refine O.val (v := .slice (none) (0) (0)) rfl (Ru.assign rfl) rfl ?_
  refine O.val (v := .bool (false)) rfl (Ru.assign rfl) rfl ?_
  refine O.nil ?_
  refine C.seq ?_
  refine C.seq ?_
  refine C.region ?_
  refine O.val (v := .slice (A) ((l).length) (c)) rfl (Ru.move rfl) rfl ?_
  refine O.callg [.slice (A) ((l).length) (c)] rfl en27 rfl rfl (ValidKeys_fn A c l w (hA.at hM) (by first | omega | assumption | (simp; omega) | simp | (intros; omega))) ?_
  rintro _ w1_1 ⟨rfl, hR1_1⟩
  have hM1_1 : Mem w w1_1 [] [] := Mem.call (Ma := []) hM hR1_1 rfl
  refine O.val (v := .bool (!(validK l))) rfl (Ru.not rfl) rfl ?_
  refine O.val (v := .bool (!(validK l))) rfl (Ru.move rfl) rfl ?_
  refine O.part 10 (!(validK l)) rfl (fun g10 => ?_) (fun g10 => ?_)
  · refine O.pass rfl rfl rfl rfl rfl ?_
    refine O.pass rfl rfl rfl rfl rfl ?_
    refine O.pass rfl rfl rfl rfl rfl ?_
    refine O.val (v := .bool (true)) rfl (Ru.pickT rfl rfl) rfl ?_
    refine O.nil ?_
    refine C.condT rfl ?_
    refine C.seq ?_
    refine C.region ?_
    refine O.val (v := .slice (none) (0) (0)) rfl (Ru.assign rfl) rfl ?_
    refine O.val (v := .bool (false)) rfl (Ru.assign rfl) rfl ?_
    refine O.nil ?_
    refine C.ret ?_
    refine P2 (v := .slice (none) (0) (0)) (v' := .bool (false)) rfl rfl ?_
    have hn : insF l key = none := by apply ins_no; cases hx : validK l with | false => exact .inl rfl | true => cases hy : isKeyB key with | false => exact .inr (.inl rfl) | true => (right; right; first | (simp [hx] at g10; done) | (simp [hy] at c14; done) | (simp_all; done))
    have hMn1 : Mem w w1_1 [] [[⟨.slice (none) (0) (0), 3, 1, 0, ([]).map I⟩]] := Mem.addNil hM1_1
    have hq2 : ([] : List Int) = (insF l key).getD [] := (by rw [hn]; rfl)
    have hMn2 : Mem w w1_1 [] [[⟨.slice (none) (((insF l key).getD []).length) (0), 3, 1, (((insF l key).getD []).length), ((insF l key).getD []).map I⟩]] := hMn1.relen 0 (n' := ((insF l key).getD []).length) (xs' := ((insF l key).getD []).map I) rfl (by first | rfl | exact congrArg List.length hq2 | (have hqq := congrArg List.length hq2; first | omega | (simp at hqq ⊢; omega)) | (simp; done) | (simp; omega)) (congrArg (fun z_ => (z_).map I) hq2) rfl
    exact ⟨none, 0, (by rw [hn]; rfl), (hMn2.pick [0] (by decide) rfl)⟩
  · refine O.val (v := I (key)) rfl (Ru.move rfl) rfl ?_
    refine O.callg [I (key)] rfl en47 rfl rfl (isKey_fn key w1_1 ) ?_
    rintro _ w1_5 ⟨rfl, hR1_5⟩
    have hM1_5 : Mem w w1_5 [] [] := Mem.call (Ma := []) hM1_1 hR1_5 rfl
    refine O.val (v := .bool (!(isKeyB key))) rfl (Ru.not rfl) rfl ?_
    refine O.val (v := .bool (!(isKeyB key))) rfl (Ru.pickF rfl rfl) rfl ?_
    refine O.nil ?_
    refine C.condn (b := (isKeyB key)) rfl (fun c14 => ?_) (fun c14 => ?_)
    · refine C.seq ?_
      refine C.region ?_
      refine O.val (v := .slice (none) (0) (0)) rfl (Ru.assign rfl) rfl ?_
      refine O.val (v := .bool (false)) rfl (Ru.assign rfl) rfl ?_
      refine O.nil ?_
      refine C.ret ?_
      refine P2 (v := .slice (none) (0) (0)) (v' := .bool (false)) rfl rfl ?_
      have hn : insF l key = none := by apply ins_no; cases hx : validK l with | false => exact .inl rfl | true => cases hy : isKeyB key with | false => exact .inr (.inl rfl) | true => (right; right; first | (simp [hx] at g10; done) | (simp [hy] at c14; done) | (simp_all; done))
      have hMn3 : Mem w w1_5 [] [[⟨.slice (none) (0) (0), 3, 1, 0, ([]).map I⟩]] := Mem.addNil hM1_5
      have hq4 : ([] : List Int) = (insF l key).getD [] := (by rw [hn]; rfl)
      have hMn4 : Mem w w1_5 [] [[⟨.slice (none) (((insF l key).getD []).length) (0), 3, 1, (((insF l key).getD []).length), ((insF l key).getD []).map I⟩]] := hMn3.relen 0 (n' := ((insF l key).getD []).length) (xs' := ((insF l key).getD []).map I) rfl (by first | rfl | exact congrArg List.length hq4 | (have hqq := congrArg List.length hq4; first | omega | (simp at hqq ⊢; omega)) | (simp; done) | (simp; omega)) (congrArg (fun z_ => (z_).map I) hq4) rfl
      exact ⟨none, 0, (by rw [hn]; rfl), (hMn4.pick [0] (by decide) rfl)⟩
    · have hv : validK l = true := by simp_all
      have hky : isKeyB key = true := by simp_all
      have hbl := below_le l key
      have hl100 := validK_len hv
      have hasc := (validK_iff.1 hv).2
      refine C.skip ?_
      refine C.cut (ι := Unit) (fun _u => ([(0, .slice (A) ((l).length) (c)), (1, I (key)), (6, I (((below l key : Nat) : Int)))] : List (Nat × Value))) (fun _u w_ => (Mem w w_ [] [])) ?_ (fun _ σ w_r3 hI => ?_)
      · refine C.region ?_
        refine O.val (v := .slice (A) ((l).length) (c)) rfl (Ru.move rfl) rfl ?_
        refine O.val (v := I (key)) rfl (Ru.move rfl) rfl ?_
        refine O.callg [.slice (A) ((l).length) (c), I (key)] rfl en62 rfl rfl (KeysBelow_fn A c l key w1_5 (hA.at hM1_5) (by first | omega | assumption | (simp; omega) | simp | (intros; omega))) ?_
        rintro _ w3_2 ⟨rfl, hR3_2⟩
        have hM3_2 : Mem w w3_2 [] [] := Mem.call (Ma := []) hM1_5 hR3_2 rfl
        refine O.val (v := I ((if validK l then (below l key : Int) else -1))) rfl (Ru.assign rfl) rfl ?_
        refine O.nil ?_
        exact cutEnd () (Has.cons rfl (Has.cons rfl (Has.cons (I_congr (by rw [if_pos hv])) Has.nil))) (hM3_2.pick [] (by decide) rfl)
      · try dsimp only at hI
        have hM_r3 := hI
        refine C.seq ?_
        refine C.seq ?_
        have hif : (if validK l then (below l key : Int) else -1) = (below l key : Int) := if_pos hv
        refine C.region ?_
        refine O.val (v := I (((below l key : Nat) : Int))) rfl (Ru.move rfl) rfl ?_
        refine O.val (v := .slice (A) ((l).length) (c)) rfl (Ru.move rfl) rfl ?_
        refine O.val (v := I ((((l).length : Nat) : Int))) rfl (Ru.blenSlice Try.underlying26 rfl) rfl ?_
        refine O.val (v := .bool (decide (((below l key : Nat) : Int) < (((l).length : Nat) : Int)))) rfl (Ru.lss rfl rfl) rfl ?_
        refine O.val (v := .bool (decide (((below l key : Nat) : Int) < (((l).length : Nat) : Int)))) rfl (Ru.move rfl) rfl ?_
        refine O.partp 22 (((below l key : Nat) : Int) < (((l).length : Nat) : Int)) rfl (fun g22 => ?_) (fun g22 => ?_)
        · refine O.val (v := .slice (A) ((l).length) (c)) rfl (Ru.move rfl) rfl ?_
          refine O.val (v := I (((below l key : Nat) : Int))) rfl (Ru.move rfl) rfl ?_
          have hx4_7 : below l key < (l).length := (by first | omega | (simp; omega))
          refine O.val (v := .pointer (ofs (A) ((below l key) * 1))) rfl (Ru.indexA (j := below l key) Try.underlying26 el3 rfl rfl (smm (hA.at hM_r3) hx4_7) (by omega) (by first | omega | (simp; omega))) rfl ?_
          refine O.val rfl (Ru.load1 el3 rfl (ldm (hA.at hM_r3) hx4_7)) rfl ?_
          refine O.val (v := I (key)) rfl (Ru.move rfl) rfl ?_
          refine O.val (v := .bool (decide ((l)[below l key]'hx4_7 = key))) rfl (Ru.eql rfl rfl) rfl ?_
          refine O.val (v := .bool (decide ((l)[below l key]'hx4_7 = key))) rfl (Ru.pickT rfl rfl) rfl ?_
          refine O.nil ?_
          refine C.cond (p := (l)[below l key]'hx4_7 = key) rfl (fun c29 => ?_) (fun c29 => ?_)
          · refine C.seq ?_
            refine C.region ?_
            refine O.val (v := .slice (none) (0) (0)) rfl (Ru.assign rfl) rfl ?_
            refine O.val (v := .bool (false)) rfl (Ru.assign rfl) rfl ?_
            refine O.nil ?_
            refine C.ret ?_
            refine P2 (v := .slice (none) (0) (0)) (v' := .bool (false)) rfl rfl ?_
            have hn : insF l key = none := ins_no (.inr (.inr (by rw [← c29]; exact List.getElem_mem _)))
            have hMn5 : Mem w w_r3 [] [[⟨.slice (none) (0) (0), 3, 1, 0, ([]).map I⟩]] := Mem.addNil hM_r3
            have hq6 : ([] : List Int) = (insF l key).getD [] := (by rw [hn]; rfl)
            have hMn6 : Mem w w_r3 [] [[⟨.slice (none) (((insF l key).getD []).length) (0), 3, 1, (((insF l key).getD []).length), ((insF l key).getD []).map I⟩]] := hMn5.relen 0 (n' := ((insF l key).getD []).length) (xs' := ((insF l key).getD []).map I) rfl (by first | rfl | exact congrArg List.length hq6 | (have hqq := congrArg List.length hq6; first | omega | (simp at hqq ⊢; omega)) | (simp; done) | (simp; omega)) (congrArg (fun z_ => (z_).map I) hq6) rfl
            exact ⟨none, 0, (by rw [hn]; rfl), (hMn6.pick [0] (by decide) rfl)⟩
          · refine C.skip ?_
            refine C.seq ?_
            refine C.region ?_
            refine O.val (v := .slice (A) ((l).length) (c)) rfl (Ru.move rfl) rfl ?_
            refine O.callg [.slice (A) ((l).length) (c)] rfl en55 rfl rfl (CloneInt_fn A c l w_r3 (hA.at hM_r3) (by first | omega | assumption | (simp; omega) | simp | (intros; omega))) ?_
            rintro _ w6_1 ⟨A16_1, c16_1, rfl, hR6_1⟩
            have hM6_1 : Mem w w6_1 [] [[⟨.slice (A16_1) ((l).length) (c16_1), 3, 1, ((l).length), (l).map I⟩]] := Mem.call (Ma := []) hM_r3 hR6_1 rfl
            have hcr6_1_0 := (hM6_1.cap 0 rfl).1
            refine O.val (v := I (((below l key : Nat) : Int))) rfl (Ru.move rfl) rfl ?_
            refine O.val (v := I (key)) rfl (Ru.move rfl) rfl ?_
            refine O.mlit (sz := 1) (cs := [I (key)]) hM6_1 rfl Try.underlying26 el3 rfl rfl rfl (by kernel_rfl) (by kernel_rfl) rfl rfl (fun w6_4 b6_4 hb6_4 (hM6_4 : Mem w w6_4 [] [[⟨.slice (bl b6_4) (1) (1), 3, 1, 1, ([key]).map I⟩], [⟨.slice (A16_1) ((l).length) (c16_1), 3, 1, ((l).length), (l).map I⟩]]) => ?_)
            have hMf6_5 : Mem w w6_4 [] [[⟨.slice (A16_1) ((l).length) (c16_1), 3, 1, ((l).length), (l).map I⟩], [⟨.slice (bl b6_4) (1) (1), 3, 1, 1, ([key]).map I⟩]] := hM6_4.pick [1, 0] (by decide) rfl
            refine O.callg [.slice (A16_1) ((l).length) (c16_1), I (((below l key : Nat) : Int)), .slice (bl b6_4) (([key]).length) (1)] rfl en63 (by first | rfl | (rw [show ([key]).length = 1 from (by first | rfl | (simp; done) | omega | (simp; omega))]; rfl)) rfl (InsertInt_fn A16_1 c16_1 l (below l key) (bl b6_4) 1 [key] w6_4 (Mem.focus (Ma := [[⟨.slice (A16_1) ((l).length) (c16_1), 3, 1, ((l).length), (l).map I⟩], [⟨.slice (bl b6_4) (1) (1), 3, 1, 1, ([key]).map I⟩]]) (rest := []) hMf6_5 rfl) (by first | omega | assumption | (simp; omega) | simp | (intros; omega)) (by first | omega | assumption | (simp; omega) | simp | (intros; omega)) (by first | omega | assumption | (simp; omega) | simp | (intros; omega)) (by first | omega | assumption | (simp; omega) | simp | (intros; omega))) ?_
            rintro _ w6_5 ⟨A16_5, c16_5, rfl, hR6_5⟩
            have hM6_5 : Mem w w6_5 [] [[⟨.slice (A16_5) ((l.take (below l key) ++ ([key] ++ l.drop (below l key))).length) (c16_5), 3, 1, ((l.take (below l key) ++ ([key] ++ l.drop (below l key))).length), (l.take (below l key) ++ ([key] ++ l.drop (below l key))).map I⟩]] := Mem.call (Ma := [[⟨.slice (A16_1) ((l).length) (c16_1), 3, 1, ((l).length), (l).map I⟩], [⟨.slice (bl b6_4) (1) (1), 3, 1, 1, ([key]).map I⟩]]) hMf6_5 hR6_5 rfl
            have hcr6_5_0 := (hM6_5.cap 0 rfl).1
            refine O.val (v := .slice (A16_5) ((l.take (below l key) ++ ([key] ++ l.drop (below l key))).length) (c16_5)) rfl (Ru.assign rfl) rfl ?_
            refine O.val (v := .bool (true)) rfl (Ru.assign rfl) rfl ?_
            refine O.nil ?_
            refine C.ret ?_
            refine P2 (v := .slice (A16_5) ((l.take (below l key) ++ ([key] ++ l.drop (below l key))).length) (c16_5)) (v' := .bool (true)) rfl rfl ?_
            have hnin : key ∉ l := fun hm => by obtain ⟨hb, he⟩ := (below_mem hasc).1 hm; first | omega | exact absurd he (by simpa using c29)
            have hn := ins_yes hv hky hnin
            have hq7 : (l.take (below l key) ++ ([key] ++ l.drop (below l key)) : List Int) = (insF l key).getD [] := (by rw [hn]; simp [insK])
            have hMn7 : Mem w w6_5 [] [[⟨.slice (A16_5) (((insF l key).getD []).length) (c16_5), 3, 1, (((insF l key).getD []).length), ((insF l key).getD []).map I⟩]] := hM6_5.relen 0 (n' := ((insF l key).getD []).length) (xs' := ((insF l key).getD []).map I) rfl (by first | rfl | exact congrArg List.length hq7 | (have hqq := congrArg List.length hq7; first | omega | (simp at hqq ⊢; omega)) | (simp; done) | (simp; omega)) (congrArg (fun z_ => (z_).map I) hq7) rfl
            exact ⟨A16_5, c16_5, (by rw [hn]; simp only [Option.getD_some, Option.isSome_some, insK]; first | rfl | simp), (hMn7.pick [0] (by decide) rfl)⟩
        · refine O.pass rfl rfl rfl rfl rfl ?_
          refine O.pass rfl rfl rfl rfl rfl ?_
          refine O.pass rfl rfl rfl rfl rfl ?_
          refine O.pass rfl rfl rfl rfl rfl ?_
          refine O.pass rfl rfl rfl rfl rfl ?_
          refine O.pass rfl rfl rfl rfl rfl ?_
          refine O.val (v := .bool (false)) rfl (Ru.pickF rfl rfl) rfl ?_
          refine O.nil ?_
          refine C.condF rfl ?_
          refine C.skip ?_
          refine C.seq ?_
          refine C.region ?_
          refine O.val (v := .slice (A) ((l).length) (c)) rfl (Ru.move rfl) rfl ?_
          refine O.callg [.slice (A) ((l).length) (c)] rfl en55 rfl rfl (CloneInt_fn A c l w_r3 (hA.at hM_r3) (by first | omega | assumption | (simp; omega) | simp | (intros; omega))) ?_
          rintro _ w6_1 ⟨A16_1, c16_1, rfl, hR6_1⟩
          have hM6_1 : Mem w w6_1 [] [[⟨.slice (A16_1) ((l).length) (c16_1), 3, 1, ((l).length), (l).map I⟩]] := Mem.call (Ma := []) hM_r3 hR6_1 rfl
          have hcr6_1_0 := (hM6_1.cap 0 rfl).1
          refine O.val (v := I (((below l key : Nat) : Int))) rfl (Ru.move rfl) rfl ?_
          refine O.val (v := I (key)) rfl (Ru.move rfl) rfl ?_
          refine O.mlit (sz := 1) (cs := [I (key)]) hM6_1 rfl Try.underlying26 el3 rfl rfl rfl (by kernel_rfl) (by kernel_rfl) rfl rfl (fun w6_4 b6_4 hb6_4 (hM6_4 : Mem w w6_4 [] [[⟨.slice (bl b6_4) (1) (1), 3, 1, 1, ([key]).map I⟩], [⟨.slice (A16_1) ((l).length) (c16_1), 3, 1, ((l).length), (l).map I⟩]]) => ?_)
          have hMf6_5 : Mem w w6_4 [] [[⟨.slice (A16_1) ((l).length) (c16_1), 3, 1, ((l).length), (l).map I⟩], [⟨.slice (bl b6_4) (1) (1), 3, 1, 1, ([key]).map I⟩]] := hM6_4.pick [1, 0] (by decide) rfl
          refine O.callg [.slice (A16_1) ((l).length) (c16_1), I (((below l key : Nat) : Int)), .slice (bl b6_4) (([key]).length) (1)] rfl en63 (by first | rfl | (rw [show ([key]).length = 1 from (by first | rfl | (simp; done) | omega | (simp; omega))]; rfl)) rfl (InsertInt_fn A16_1 c16_1 l (below l key) (bl b6_4) 1 [key] w6_4 (Mem.focus (Ma := [[⟨.slice (A16_1) ((l).length) (c16_1), 3, 1, ((l).length), (l).map I⟩], [⟨.slice (bl b6_4) (1) (1), 3, 1, 1, ([key]).map I⟩]]) (rest := []) hMf6_5 rfl) (by first | omega | assumption | (simp; omega) | simp | (intros; omega)) (by first | omega | assumption | (simp; omega) | simp | (intros; omega)) (by first | omega | assumption | (simp; omega) | simp | (intros; omega)) (by first | omega | assumption | (simp; omega) | simp | (intros; omega))) ?_
          rintro _ w6_5 ⟨A16_5, c16_5, rfl, hR6_5⟩
          have hM6_5 : Mem w w6_5 [] [[⟨.slice (A16_5) ((l.take (below l key) ++ ([key] ++ l.drop (below l key))).length) (c16_5), 3, 1, ((l.take (below l key) ++ ([key] ++ l.drop (below l key))).length), (l.take (below l key) ++ ([key] ++ l.drop (below l key))).map I⟩]] := Mem.call (Ma := [[⟨.slice (A16_1) ((l).length) (c16_1), 3, 1, ((l).length), (l).map I⟩], [⟨.slice (bl b6_4) (1) (1), 3, 1, 1, ([key]).map I⟩]]) hMf6_5 hR6_5 rfl
          have hcr6_5_0 := (hM6_5.cap 0 rfl).1
          refine O.val (v := .slice (A16_5) ((l.take (below l key) ++ ([key] ++ l.drop (below l key))).length) (c16_5)) rfl (Ru.assign rfl) rfl ?_
          refine O.val (v := .bool (true)) rfl (Ru.assign rfl) rfl ?_
          refine O.nil ?_
          refine C.ret ?_
          refine P2 (v := .slice (A16_5) ((l.take (below l key) ++ ([key] ++ l.drop (below l key))).length) (c16_5)) (v' := .bool (true)) rfl rfl ?_
          have hnin : key ∉ l := fun hm => by obtain ⟨hb, he⟩ := (below_mem hasc).1 hm; first | omega | exact absurd he (by simpa using c29)
          have hn := ins_yes hv hky hnin
          have hq8 : (l.take (below l key) ++ ([key] ++ l.drop (below l key)) : List Int) = (insF l key).getD [] := (by rw [hn]; simp [insK])
          have hMn8 : Mem w w6_5 [] [[⟨.slice (A16_5) (((insF l key).getD []).length) (c16_5), 3, 1, (((insF l key).getD []).length), ((insF l key).getD []).map I⟩]] := hM6_5.relen 0 (n' := ((insF l key).getD []).length) (xs' := ((insF l key).getD []).map I) rfl (by first | rfl | exact congrArg List.length hq8 | (have hqq := congrArg List.length hq8; first | omega | (simp at hqq ⊢; omega)) | (simp; done) | (simp; omega)) (congrArg (fun z_ => (z_).map I) hq8) rfl
          exact ⟨A16_5, c16_5, (by rw [hn]; simp only [Option.getD_some, Option.isSome_some, insK]; first | rfl | simp), (hMn8.pick [0] (by decide) rfl)⟩

theorem sInsertKey_fn (A : Option Addr) (c : Nat) (l : List Int) (key : Int) (w : World) (hA : Rd w A ((l).map I)) (hl : l.length ≤ 1048576) (hc : l.length ≤ c) :
    Does Try.prog 61 [.slice (A) ((l).length) (c), I (key)] w (fun v w1 => ∃ (A1 : Option Addr) (c1 : Nat), v = .tuple #[.slice (A1) (((insF l key).getD []).length) (c1), .bool ((insF l key).isSome)] ∧ Mem w w1 [] [[⟨.slice (A1) (((insF l key).getD []).length) (c1), 3, 1, (((insF l key).getD []).length), ((insF l key).getD []).map I⟩]]) := by
  have hM : Mem w w [] [] := Mem.refl
  refine Does.enter2 Try.func61 rfl Try.results61 Try.ntmps61 rfl ?_
  refine C.seq ?_
  refine C.region ?_
  refine O.val (v := .slice (none) (0) (0)) rfl (Ru.assign rfl) rfl ?_
  refine O.val (v := .bool (false)) rfl (Ru.assign rfl) rfl ?_
  refine O.nil ?_
  refine C.seq ?_
  refine C.seq ?_
  refine C.region ?_
  refine O.val (v := .slice (A) ((l).length) (c)) rfl (Ru.move rfl) rfl ?_
  refine O.callg [.slice (A) ((l).length) (c)] rfl en65 rfl rfl (validKeys_fn A c l w (hA.at hM) (by first | omega | assumption | (simp; omega) | simp | (intros; omega))) ?_
  rintro _ w1_1 ⟨rfl, hR1_1⟩
  have hM1_1 : Mem w w1_1 [] [] := Mem.call (Ma := []) hM hR1_1 rfl
  refine O.val (v := .bool (!(validK l))) rfl (Ru.not rfl) rfl ?_
  refine O.val (v := .bool (!(validK l))) rfl (Ru.move rfl) rfl ?_
  refine O.part 11 (!(validK l)) rfl (fun g11 => ?_) (fun g11 => ?_)
  · refine O.pass rfl rfl rfl rfl rfl ?_
    refine O.pass rfl rfl rfl rfl rfl ?_
    refine O.pass rfl rfl rfl rfl rfl ?_
    refine O.val (v := .bool (true)) rfl (Ru.pickT rfl rfl) rfl ?_
    refine O.val (v := .bool (true)) rfl (Ru.move rfl) rfl ?_
    refine O.pass rfl rfl rfl rfl rfl ?_
    refine O.pass rfl rfl rfl rfl rfl ?_
    refine O.pass rfl rfl rfl rfl rfl ?_
    refine O.val (v := .bool (true)) rfl (Ru.pickT rfl rfl) rfl ?_
    refine O.nil ?_
    refine C.condT rfl ?_
    refine C.seq ?_
    refine C.region ?_
    refine O.val (v := .slice (none) (0) (0)) rfl (Ru.assign rfl) rfl ?_
    refine O.val (v := .bool (false)) rfl (Ru.assign rfl) rfl ?_
    refine O.nil ?_
    refine C.ret ?_
    refine P2 (v := .slice (none) (0) (0)) (v' := .bool (false)) rfl rfl ?_
    have hn : insF l key = none := by apply ins_no; cases hx : validK l with | false => exact .inl rfl | true => cases hy : isKeyB key with | false => exact .inr (.inl rfl) | true => (right; right; have h9 := isKey_iff.1 hy; simp_all)
    have hMn1 : Mem w w1_1 [] [[⟨.slice (none) (0) (0), 3, 1, 0, ([]).map I⟩]] := Mem.addNil hM1_1
    have hq2 : ([] : List Int) = (insF l key).getD [] := (by rw [hn]; rfl)
    have hMn2 : Mem w w1_1 [] [[⟨.slice (none) (((insF l key).getD []).length) (0), 3, 1, (((insF l key).getD []).length), ((insF l key).getD []).map I⟩]] := hMn1.relen 0 (n' := ((insF l key).getD []).length) (xs' := ((insF l key).getD []).map I) rfl (by first | rfl | exact congrArg List.length hq2 | (have hqq := congrArg List.length hq2; first | omega | (simp at hqq ⊢; omega)) | (simp; done) | (simp; omega)) (congrArg (fun z_ => (z_).map I) hq2) rfl
    exact ⟨none, 0, (by rw [hn]; rfl), (hMn2.pick [0] (by decide) rfl)⟩
  · refine O.val (v := I (key)) rfl (Ru.move rfl) rfl ?_
    refine O.callg [I (key), I (0), I (99)] rfl en48 rfl rfl (inRange_fn key 0 99 w1_1 ) ?_
    rintro _ w1_5 ⟨rfl, hR1_5⟩
    have hM1_5 : Mem w w1_5 [] [] := Mem.call (Ma := []) hM1_1 hR1_5 rfl
    refine O.val (v := .bool (!(decide (0 ≤ key) && decide (key ≤ 99)))) rfl (Ru.not rfl) rfl ?_
    refine O.val (v := .bool (!(decide (0 ≤ key) && decide (key ≤ 99)))) rfl (Ru.pickF rfl rfl) rfl ?_
    refine O.val (v := .bool (!(decide (0 ≤ key) && decide (key ≤ 99)))) rfl (Ru.move rfl) rfl ?_
    refine O.part 16 (!(decide (0 ≤ key) && decide (key ≤ 99))) rfl (fun g16 => ?_) (fun g16 => ?_)
    · refine O.pass rfl rfl rfl rfl rfl ?_
      refine O.pass rfl rfl rfl rfl rfl ?_
      refine O.pass rfl rfl rfl rfl rfl ?_
      refine O.val (v := .bool (true)) rfl (Ru.pickT rfl rfl) rfl ?_
      refine O.nil ?_
      refine C.condT rfl ?_
      refine C.seq ?_
      refine C.region ?_
      refine O.val (v := .slice (none) (0) (0)) rfl (Ru.assign rfl) rfl ?_
      refine O.val (v := .bool (false)) rfl (Ru.assign rfl) rfl ?_
      refine O.nil ?_
      refine C.ret ?_
      refine P2 (v := .slice (none) (0) (0)) (v' := .bool (false)) rfl rfl ?_
      have hn : insF l key = none := by apply ins_no; cases hx : validK l with | false => exact .inl rfl | true => cases hy : isKeyB key with | false => exact .inr (.inl rfl) | true => (right; right; have h9 := isKey_iff.1 hy; simp_all)
      have hMn3 : Mem w w1_5 [] [[⟨.slice (none) (0) (0), 3, 1, 0, ([]).map I⟩]] := Mem.addNil hM1_5
      have hq4 : ([] : List Int) = (insF l key).getD [] := (by rw [hn]; rfl)
      have hMn4 : Mem w w1_5 [] [[⟨.slice (none) (((insF l key).getD []).length) (0), 3, 1, (((insF l key).getD []).length), ((insF l key).getD []).map I⟩]] := hMn3.relen 0 (n' := ((insF l key).getD []).length) (xs' := ((insF l key).getD []).map I) rfl (by first | rfl | exact congrArg List.length hq4 | (have hqq := congrArg List.length hq4; first | omega | (simp at hqq ⊢; omega)) | (simp; done) | (simp; omega)) (congrArg (fun z_ => (z_).map I) hq4) rfl
      exact ⟨none, 0, (by rw [hn]; rfl), (hMn4.pick [0] (by decide) rfl)⟩
    · refine O.val (v := .slice (A) ((l).length) (c)) rfl (Ru.move rfl) rfl ?_
      refine O.val (v := I (key)) rfl (Ru.move rfl) rfl ?_
      refine O.callg [.slice (A) ((l).length) (c), I (key)] rfl en60 rfl rfl (isIn_fn A c l key w1_5 (hA.at hM1_5) (by first | omega | assumption | (simp; omega) | simp | (intros; omega))) ?_
      rintro _ w1_11 ⟨rfl, hR1_11⟩
      have hM1_11 : Mem w w1_11 [] [] := Mem.call (Ma := []) hM1_5 hR1_11 rfl
      refine O.val (v := .bool (decide (key ∈ l))) rfl (Ru.pickF rfl rfl) rfl ?_
      refine O.nil ?_
      refine C.condb (t := decide (key ∈ l)) rfl (fun c20 => ?_) (fun c20 => ?_)
      · refine C.seq ?_
        refine C.region ?_
        refine O.val (v := .slice (none) (0) (0)) rfl (Ru.assign rfl) rfl ?_
        refine O.val (v := .bool (false)) rfl (Ru.assign rfl) rfl ?_
        refine O.nil ?_
        refine C.ret ?_
        refine P2 (v := .slice (none) (0) (0)) (v' := .bool (false)) rfl rfl ?_
        have hn : insF l key = none := by apply ins_no; cases hx : validK l with | false => exact .inl rfl | true => cases hy : isKeyB key with | false => exact .inr (.inl rfl) | true => (right; right; have h9 := isKey_iff.1 hy; simp_all)
        have hMn5 : Mem w w1_11 [] [[⟨.slice (none) (0) (0), 3, 1, 0, ([]).map I⟩]] := Mem.addNil hM1_11
        have hq6 : ([] : List Int) = (insF l key).getD [] := (by rw [hn]; rfl)
        have hMn6 : Mem w w1_11 [] [[⟨.slice (none) (((insF l key).getD []).length) (0), 3, 1, (((insF l key).getD []).length), ((insF l key).getD []).map I⟩]] := hMn5.relen 0 (n' := ((insF l key).getD []).length) (xs' := ((insF l key).getD []).map I) rfl (by first | rfl | exact congrArg List.length hq6 | (have hqq := congrArg List.length hq6; first | omega | (simp at hqq ⊢; omega)) | (simp; done) | (simp; omega)) (congrArg (fun z_ => (z_).map I) hq6) rfl
        exact ⟨none, 0, (by rw [hn]; rfl), (hMn6.pick [0] (by decide) rfl)⟩
      · have hv : validK l = true := by simp_all
        have hky : isKeyB key = true := by simp_all [isKeyB]
        have hnin : key ∉ l := by simp_all
        have hn := ins_yes hv hky hnin
        have hbl := below_le l key
        have hl100 := validK_len hv
        refine C.skip ?_
        refine C.cut (ι := Unit) (fun _u => ([(0, .slice (A) ((l).length) (c)), (1, I (key)), (6, I (((below l key : Nat) : Int)))] : List (Nat × Value))) (fun _u w_ => (Mem w w_ [] [])) ?_ (fun _ σ w_r3 hI => ?_)
        · refine C.region ?_
          refine O.val (v := .slice (A) ((l).length) (c)) rfl (Ru.move rfl) rfl ?_
          refine O.val (v := I (key)) rfl (Ru.move rfl) rfl ?_
          refine O.callg [.slice (A) ((l).length) (c), I (key)] rfl en71 rfl rfl (sbelow_fn A c l key w1_11 (hA.at hM1_11) (by first | omega | assumption | (simp; omega) | simp | (intros; omega))) ?_
          rintro _ w3_2 ⟨rfl, hR3_2⟩
          have hM3_2 : Mem w w3_2 [] [] := Mem.call (Ma := []) hM1_11 hR3_2 rfl
          refine O.val (v := I ((below l key : Int))) rfl (Ru.assign rfl) rfl ?_
          refine O.nil ?_
          exact cutEnd () (Has.cons rfl (Has.cons rfl (Has.cons (I_congr (by first | rfl | omega | (simp; omega) | simp)) Has.nil))) (hM3_2.pick [] (by decide) rfl)
        · try dsimp only at hI
          have hM_r3 := hI
          refine C.seq ?_
          refine C.region ?_
          refine O.val (v := .slice (A) ((l).length) (c)) rfl (Ru.move rfl) rfl ?_
          refine O.val (v := I (((below l key : Nat) : Int))) rfl (Ru.move rfl) rfl ?_
          refine O.val (v := .slice (A) (((l).take (below l key)).length) (c)) rfl (Ru.congr (v := .slice (A) (below l key) (c)) (v' := .slice (A) (((l).take (below l key)).length) (c)) (Ru.lsliceTo (h := below l key) Try.underlying26 el3 rfl rfl (by omega) (by omega)) (sl_congr (by first | rfl | (simp; done) | omega | (simp; omega)))) rfl ?_
          refine O.callg [.slice (A) (((l).take (below l key)).length) (c)] rfl en52 rfl rfl (scopyInts_fn A c ((l).take (below l key)) w_r3 (rd_take1 (hA.at hM_r3)) (by first | omega | assumption | (simp; omega) | simp | (intros; omega))) ?_
          rintro _ w4_3 ⟨A14_3, c14_3, rfl, hR4_3⟩
          have hM4_3 : Mem w w4_3 [] [[⟨.slice (A14_3) ((((l).take (below l key))).length) (c14_3), 3, 1, ((((l).take (below l key))).length), (((l).take (below l key))).map I⟩]] := Mem.call (Ma := []) hM_r3 hR4_3 rfl
          have hcr4_3_0 := (hM4_3.cap 0 rfl).1
          refine O.val (v := I (key)) rfl (Ru.move rfl) rfl ?_
          refine O.mlit (sz := 1) (cs := [I (key)]) hM4_3 rfl Try.underlying26 el3 rfl rfl rfl (by kernel_rfl) (by kernel_rfl) rfl rfl (fun w4_5 b4_5 hb4_5 (hM4_5 : Mem w w4_5 [] [[⟨.slice (bl b4_5) (1) (1), 3, 1, 1, ([key]).map I⟩], [⟨.slice (A14_3) ((((l).take (below l key))).length) (c14_3), 3, 1, ((((l).take (below l key))).length), (((l).take (below l key))).map I⟩]]) => ?_)
          refine O.mappend (sz := 1) (news := ([key]).map I) (m1 := (((l).take (below l key)) ++ [key]).length) (xs1 := (((l).take (below l key)) ++ [key]).map I) (M' := fun A4_6 c4_6 => [[⟨.slice (bl b4_5) (1) (1), 3, 1, 1, ([key]).map I⟩], [⟨.slice (A4_6) ((((l).take (below l key)) ++ [key]).length) (c4_6), 3, 1, ((((l).take (below l key)) ++ [key]).length), (((l).take (below l key)) ++ [key]).map I⟩]]) 1 0 hM4_5 rfl rfl rfl Try.underlying26 el3 ⟨rfl, by decide⟩ rfl rfl rfl (hM4_5.rd 0 rfl) (by first | (simp; done) | (simp; omega)) (all_map_one (fun _ => rfl) _) (by first | omega | (simp; omega)) (by first | omega | (simp; omega)) (by first | (simp; done) | (simp; omega)) (by simp) (fun _ _ => rfl) (fun w4_6 A4_6 c4_6 hc4_6 hM4_6 => ?_)
          try dsimp only at hM4_6
          refine O.val (v := .slice (A4_6) ((((l).take (below l key)) ++ [key]).length) (c4_6)) rfl (Ru.assign rfl) rfl ?_
          refine O.nil ?_
          refine C.seq ?_
          refine C.region ?_
          refine O.val (v := .slice (A4_6) ((((l).take (below l key)) ++ [key]).length) (c4_6)) rfl (Ru.move rfl) rfl ?_
          refine O.val (v := .slice (A) ((l).length) (c)) rfl (Ru.move rfl) rfl ?_
          refine O.val (v := I (((below l key : Nat) : Int))) rfl (Ru.move rfl) rfl ?_
          refine O.val (v := .slice (if c = below l key then A else ofs (A) ((below l key) * 1)) (((l).drop (below l key)).length) (c - (below l key))) rfl (Ru.congr (v := .slice (if c = below l key then A else ofs (A) ((below l key) * 1)) (((l).length) - (below l key)) (c - (below l key))) (v' := .slice (if c = below l key then A else ofs (A) ((below l key) * 1)) (((l).drop (below l key)).length) (c - (below l key))) (Ru.lsliceFrom (l := below l key) Try.underlying26 el3 rfl rfl (by omega) (by omega)) (sl_congr (by first | rfl | (simp; done) | omega | (simp; omega)))) rfl ?_
          refine O.mappend (sz := 1) (news := ((l).drop (below l key)).map I) (m1 := (((l).take (below l key)) ++ [key] ++ (l).drop (below l key)).length) (xs1 := (((l).take (below l key)) ++ [key] ++ (l).drop (below l key)).map I) (M' := fun A5_4 c5_4 => [[⟨.slice (bl b4_5) (1) (1), 3, 1, 1, ([key]).map I⟩], [⟨.slice (A5_4) ((((l).take (below l key)) ++ [key] ++ (l).drop (below l key)).length) (c5_4), 3, 1, ((((l).take (below l key)) ++ [key] ++ (l).drop (below l key)).length), (((l).take (below l key)) ++ [key] ++ (l).drop (below l key)).map I⟩]]) 1 0 hM4_6 rfl rfl rfl Try.underlying26 el3 ⟨rfl, by decide⟩ rfl rfl rfl (rd_drop1 (hA.at hM4_6) (by first | omega | (simp; omega)) (by first | omega | (simp; omega))) (by first | (simp; done) | (simp; omega)) (all_map_one (fun _ => rfl) _) (by first | omega | (simp; omega)) (by first | omega | (simp; omega)) (by first | (simp; done) | (simp; omega)) (by simp) (fun _ _ => rfl) (fun w5_4 A5_4 c5_4 hc5_4 hM5_4 => ?_)
          try dsimp only at hM5_4
          refine O.val (v := .slice (A5_4) ((((l).take (below l key)) ++ [key] ++ (l).drop (below l key)).length) (c5_4)) rfl (Ru.assign rfl) rfl ?_
          refine O.val (v := .bool (true)) rfl (Ru.assign rfl) rfl ?_
          refine O.nil ?_
          refine C.ret ?_
          refine P2 (v := .slice (A5_4) ((((l).take (below l key)) ++ [key] ++ (l).drop (below l key)).length) (c5_4)) (v' := .bool (true)) rfl rfl ?_
          have hq7 : (((l).take (below l key)) ++ [key] ++ (l).drop (below l key) : List Int) = (insF l key).getD [] := (by rw [hn]; simp [insK])
          have hMn7 : Mem w w5_4 [] [[⟨.slice (bl b4_5) (1) (1), 3, 1, 1, ([key]).map I⟩], [⟨.slice (A5_4) (((insF l key).getD []).length) (c5_4), 3, 1, (((insF l key).getD []).length), ((insF l key).getD []).map I⟩]] := hM5_4.relen 1 (n' := ((insF l key).getD []).length) (xs' := ((insF l key).getD []).map I) rfl (by first | rfl | exact congrArg List.length hq7 | (have hqq := congrArg List.length hq7; first | omega | (simp at hqq ⊢; omega)) | (simp; done) | (simp; omega)) (congrArg (fun z_ => (z_).map I) hq7) rfl
          exact ⟨A5_4, c5_4, (by rw [hn]; simp only [Option.getD_some, Option.isSome_some, insK]; first | rfl | simp), (hMn7.pick [1] (by decide) rfl)⟩
end Go.Proofs.Yteljpjapacajoaa
