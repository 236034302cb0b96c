/- Own layer: part of this seat (LE). Plain theorems; no conditions. -/
import Derived.Test.YtgflcaeibbnkcaaLD
set_option linter.unusedVariables false
set_option linter.unusedSimpArgs false
namespace Go.Proofs.Ytgflcaeibbnkcaa
open Go.Px
theorem sShortLog_fn (A : Option Addr) (c : Nat) (l : List RecT) (w : World) (hA : Rd w A ((l).flatMap encG)) (hl : l.length ≤ 1048576) :
    Does Try.prog 27 [.slice (A) ((l).length) (c)] w (fun v w1 => ∃ (A1 : Option Addr) (c1 : Nat), v = .slice (A1) ((shF l).length) (c1) ∧ Mem w w1 [] [[⟨.slice (A1) ((shF l).length) (c1), 34, 3, ((shF l).length), (shF l).flatMap encG⟩]]) := by
  have hM : Mem w w [] [] := Mem.refl
  refine Does.enter1 Try.func27 rfl Try.results27 Try.ntmps27 rfl ?_
  refine C.seq ?_
  refine C.region ?_
  refine O.val (v := .slice (none) (0) (0)) rfl (Ru.assign rfl) rfl ?_
  refine O.nil ?_
  refine C.seq ?_
  refine C.region ?_
  refine O.mlit (sz := 3) (cs := []) hM rfl Try.underlying23 el34 rfl rfl rfl (by kernel_rfl) (by kernel_rfl) rfl rfl (fun w1_0 b1_0 hb1_0 (hM1_0 : Mem w w1_0 [] [[⟨.slice (bl b1_0) (0) (0), 34, 3, 0, ([]).flatMap encG⟩]]) => ?_)
  refine O.val (v := .slice (bl b1_0) (0) (0)) rfl (Ru.assign rfl) rfl ?_
  refine O.nil ?_
  refine C.seq ?_
  refine C.seq ?_
  refine C.region ?_
  refine O.val (v := .slice (A) ((l).length) (c)) rfl (Ru.move rfl) rfl ?_
  refine O.callg [.slice (A) ((l).length) (c)] rfl en48 rfl rfl (svalidLog_fn A c l w1_0 (hA.at hM1_0) (by first | omega | assumption | (simp; omega) | simp | (intros; omega))) ?_
  rintro _ w2_1 ⟨rfl, hR2_1⟩
  have hM2_1 : Mem w w2_1 [] [[⟨.slice (bl b1_0) (0) (0), 34, 3, 0, ([]).flatMap encG⟩]] := Mem.call (Ma := []) hM1_0 hR2_1 rfl
  refine O.val (v := .bool (!(validL l))) rfl (Ru.not rfl) rfl ?_
  refine O.nil ?_
  refine C.condn (b := (validL l)) rfl (fun c11 => ?_) (fun c11 => ?_)
  · refine C.seq ?_
    refine C.region ?_
    refine O.val (v := .slice (none) (0) (0)) rfl (Ru.assign rfl) rfl ?_
    refine O.nil ?_
    refine C.ret ?_
    refine P1 (v := .slice (none) (0) (0)) rfl ?_
    have hn := shF_no (log := l) (by simpa using c11)
    have hMn1 : Mem w w2_1 [] [[⟨.slice (none) (0) (0), 34, 3, 0, ([]).flatMap encG⟩], [⟨.slice (bl b1_0) (0) (0), 34, 3, 0, ([]).flatMap encG⟩]] := Mem.addNil hM2_1
    have hq2 : ([] : List RecT) = shF l := hn.symm
    have hMn2 : Mem w w2_1 [] [[⟨.slice (none) ((shF l).length) (0), 34, 3, ((shF l).length), (shF l).flatMap encG⟩], [⟨.slice (bl b1_0) (0) (0), 34, 3, 0, ([]).flatMap encG⟩]] := hMn1.relen 0 (n' := (shF l).length) (xs' := (shF l).flatMap encG) rfl (by first | rfl | exact congrArg List.length hq2 | (have hqq := congrArg List.length hq2; first | omega | (simp at hqq ⊢; omega)) | (simp; done) | (simp; omega)) (congrArg (fun z_ => (z_).flatMap encG) hq2) rfl
    exact ⟨none, 0, (by rw [hn]; rfl), (hMn2.pick [0] (by decide) rfl)⟩
  · have hv : validL l = true := by simpa using c11
    have hlm := lastMk_le l
    refine C.skip ?_
    refine C.seq ?_
    refine C.region ?_
    refine O.val (v := .slice (A) ((l).length) (c)) rfl (Ru.move rfl) rfl ?_
    refine O.callg [.slice (A) ((l).length) (c)] rfl en52 rfl rfl (slastMark_fn A c l w2_1 (hA.at hM2_1) (by first | omega | assumption | (simp; omega) | simp | (intros; omega))) ?_
    rintro _ w4_1 ⟨rfl, hR4_1⟩
    have hM4_1 : Mem w w4_1 [] [[⟨.slice (bl b1_0) (0) (0), 34, 3, 0, ([]).flatMap encG⟩]] := Mem.call (Ma := []) hM2_1 hR4_1 rfl
    refine O.val (v := I ((lastMk l : Int))) rfl (Ru.assign rfl) rfl ?_
    refine O.nil ?_
    refine C.seq ?_
    refine C.seq ?_
    refine C.region ?_
    refine O.val (v := I (0)) rfl (Ru.assign rfl) rfl ?_
    refine O.nil ?_
    refine C.block ?_
    have hq3 : ([] : List RecT) = ([] : List RecT) := (by first | rfl | simp | (simp; omega))
    have hMn3 : Mem w w4_1 [] [[⟨.slice (bl b1_0) ((([] : List RecT)).length) (0), 34, 3, ((([] : List RecT)).length), (([] : List RecT)).flatMap encG⟩]] := hM4_1.relen 0 (n' := (([] : List RecT)).length) (xs' := (([] : List RecT)).flatMap encG) rfl (by first | rfl | exact congrArg List.length hq3 | (have hqq := congrArg List.length hq3; first | omega | (simp at hqq ⊢; omega)) | (simp; done) | (simp; omega)) (congrArg (fun z_ => (z_).flatMap encG) hq3) rfl
    refine C.loop (ι := Nat × (List RecT) × (Option Addr) × Nat) (fun x_ => ([(0, .slice (A) ((l).length) (c)), (3, .slice (x_.2.2.1) ((x_.2.1).length) (x_.2.2.2)), (4, I ((lastMk l : Int))), (5, I (((x_.1 : Nat) : Int)))] : List (Nat × Value))) (fun x_ w_ => (x_.1 ≤ lastMk l) ∧ (shL (l.take (lastMk l)) = x_.2.1 ++ shL ((l.take (lastMk l)).drop x_.1)) ∧ (x_.2.1.length ≤ x_.1) ∧ (Mem w w_ [] [[⟨.slice (x_.2.2.1) ((x_.2.1).length) (x_.2.2.2), 34, 3, ((x_.2.1).length), (x_.2.1).flatMap encG⟩]])) (fun x_ => lastMk l - x_.1) (0, ([] : List RecT), bl b1_0, 0) (Has.cons rfl (Has.cons (sl_congr (by first | rfl | omega | (simp; done) | (simp; omega) | exact congrArg List.length hq3 | (simp [← hq3]; done) | (simp [← hq3]; omega))) (Has.cons rfl (Has.cons (I_congr (by first | rfl | omega | (simp; omega) | simp)) Has.nil)))) ⟨(Nat.zero_le _), (by (try dsimp only); simp), (by (try dsimp only); simp), (hMn3.pick [0] (by decide) rfl)⟩ (fun ⟨i, L, A2, c2⟩ σ w_l6 hI => ?_)
    try dsimp only at hI
    obtain ⟨hi0_l6, hi1_l6, hi2_l6, hM_l6⟩ := hI
    have hcl0_l6 := (hM_l6.cap 0 rfl).1
    refine C.seq ?_
    refine C.seq ?_
    refine C.region ?_
    refine O.val (v := I (((i : Nat) : Int))) rfl (Ru.move rfl) rfl ?_
    refine O.val (v := I ((lastMk l : Int))) rfl (Ru.move rfl) rfl ?_
    refine O.val (v := .bool (decide (((i : Nat) : Int) < (lastMk l : Int)))) rfl (Ru.lss rfl rfl) rfl ?_
    refine O.nil ?_
    refine C.cond (p := ((i : Nat) : Int) < (lastMk l : Int)) rfl (fun c16 => ?_) (fun c16 => ?_)
    · have hil : i < l.length := by omega
      refine C.skip ?_
      refine C.seq ?_
      refine C.block ?_
      refine C.seq ?_
      refine C.region ?_
      refine O.val (v := .slice (A) ((l).length) (c)) rfl (Ru.move rfl) rfl ?_
      refine O.val (v := I (((i : Nat) : Int))) rfl (Ru.move rfl) rfl ?_
      have hx8_2 : i < (l).length := (by first | omega | (simp; omega))
      refine O.val (v := .pointer (ofs (A) (i * 3))) rfl (Ru.indexA (j := i) Try.underlying23 el34 rfl rfl (smf encG_len (hA.at hM_l6) hx8_2 rfl) (by omega) (by first | omega | (simp; omega))) rfl ?_
      refine O.val (v := .pointer (ofs (A) (i * 3 + 0))) rfl (Ru.fieldA fl34_0 rfl (smf encG_len (hA.at hM_l6) hx8_2 rfl)) rfl ?_
      refine O.val rfl (Ru.load1 el3 rfl (ldf encG_len (hA.at hM_l6) hx8_2 rfl)) rfl ?_
      refine O.val (v := .bool (decide (((l)[i]'hx8_2).kind ≠ 3))) rfl (Ru.neq rfl rfl) rfl ?_
      refine O.val (v := .bool (decide (((l)[i]'hx8_2).kind ≠ 3))) rfl (Ru.assign rfl) rfl ?_
      refine O.nil ?_
      refine C.seq ?_
      refine C.seq ?_
      refine C.region ?_
      refine O.val (v := I (((i : Nat) : Int))) rfl (Ru.move rfl) rfl ?_
      refine O.val (v := I ((((i + 1) : Nat) : Int))) rfl (Ru.congr (v := I ((((i : Nat) : Int) + 1))) (v' := I ((((i + 1) : Nat) : Int))) (Ru.add rfl rfl (by omega)) (I_congr (by first | omega | simp))) rfl ?_
      refine O.val (v := I ((((i + 1) : Nat) : Int))) rfl (Ru.assign rfl) rfl ?_
      refine O.nil ?_
      refine C.block ?_
      refine C.loop (ι := Nat × Bool) (fun x_ => ([(0, .slice (A) ((l).length) (c)), (3, .slice (A2) ((L).length) (c2)), (4, I ((lastMk l : Int))), (5, I (((i : Nat) : Int))), (6, .bool (x_.2)), (7, I (((x_.1 : Nat) : Int)))] : List (Nat × Value))) (fun x_ w_ => (i + 1 ≤ x_.1 ∧ x_.1 ≤ lastMk l) ∧ (x_.2 = (decide (l[i].kind ≠ 3) && (((l.take (lastMk l)).drop (i + 1)).take (x_.1 - (i + 1))).all (fun s => decide (s.kind = 3) || decide (s.key ≠ l[i].key)))) ∧ (Mem w w_ [] [[⟨.slice (A2) ((L).length) (c2), 34, 3, ((L).length), (L).flatMap encG⟩]])) (fun x_ => lastMk l - x_.1) ((i + 1), (decide (l[i].kind ≠ 3))) (Has.cons rfl (Has.cons rfl (Has.cons rfl (Has.cons rfl (Has.cons rfl (Has.cons rfl Has.nil)))))) ⟨(by (try dsimp only); omega), (by (try dsimp only); simp), (hM_l6.pick [0] (by decide) rfl)⟩ (fun ⟨k, b⟩ σ w_l10 hI => ?_)
      try dsimp only at hI
      obtain ⟨hi0_l10, hi1_l10, hM_l10⟩ := hI
      have hcl0_l10 := (hM_l10.cap 0 rfl).1
      refine C.seq ?_
      refine C.seq ?_
      refine C.region ?_
      refine O.val (v := I (((k : Nat) : Int))) rfl (Ru.move rfl) rfl ?_
      refine O.val (v := I ((lastMk l : Int))) rfl (Ru.move rfl) rfl ?_
      refine O.val (v := .bool (decide (((k : Nat) : Int) < (lastMk l : Int)))) rfl (Ru.lss rfl rfl) rfl ?_
      refine O.nil ?_
      refine C.cond (p := ((k : Nat) : Int) < (lastMk l : Int)) rfl (fun c29 => ?_) (fun c29 => ?_)
      · have hkl : k < l.length := by omega
        have htg : (((l.take (lastMk l)).drop (i + 1))[k - (i + 1)]'(by simp; omega)) = l[k] := by rw [List.getElem_drop, List.getElem_take]; congr 1; omega
        have hta := all_take_and (p := (fun s => decide (s.kind = 3) || decide (s.key ≠ l[i].key))) (l := (l.take (lastMk l)).drop (i + 1)) (t := k - (i + 1)) (by simp; omega)
        rw [htg, show k - (i + 1) + 1 = k + 1 - (i + 1) by omega] at hta
        refine C.skip ?_
        refine C.seq ?_
        refine C.block ?_
        refine C.draws (fun w2 => Mem w w2 [] [[⟨.slice (A2) ((L).length) (c2), 34, 3, ((L).length), (L).flatMap encG⟩]]) mixed (by kernel_rfl) (hM_l10.ext (kdrawn _)) ?_
        refine QO.val (v := .bool (b)) rfl (fun w2 hw2 => Ru.move rfl) rfl ?_
        refine QO.val (v := .bool (b)) rfl (fun w2 hw2 => Ru.move rfl) rfl ?_
        refine QO.part 33 (b) rfl (fun g33 => ?_) (fun g33 => ?_)
        · refine QO.val (v := .slice (A) ((l).length) (c)) rfl (fun w2 hw2 => Ru.move rfl) rfl ?_
          refine QO.val (v := I (((k : Nat) : Int))) rfl (fun w2 hw2 => Ru.move rfl) rfl ?_
          have hx12_4 : k < (l).length := (by first | omega | (simp; omega))
          refine QO.val (v := .pointer (ofs (A) (k * 3))) rfl (fun w2 hw2 => Ru.indexA (j := k) Try.underlying23 el34 rfl rfl (smf encG_len (hA.at hw2) hx12_4 rfl) (by omega) (by first | omega | (simp; omega))) rfl ?_
          refine QO.val (v := .pointer (ofs (A) (k * 3 + 0))) rfl (fun w2 hw2 => Ru.fieldA fl34_0 rfl (smf encG_len (hA.at hw2) hx12_4 rfl)) rfl ?_
          refine QO.val rfl (fun w2 hw2 => Ru.load1 el3 rfl (ldf encG_len (hA.at hw2) hx12_4 rfl)) rfl ?_
          refine QO.val (v := .bool (decide (((l)[k]'hx12_4).kind = 3))) rfl (fun w2 hw2 => Ru.eql rfl rfl) rfl ?_
          refine QO.val (v := .bool (decide (((l)[k]'hx12_4).kind = 3))) rfl (fun w2 hw2 => Ru.move rfl) rfl ?_
          refine QO.partp 40 (((l)[k]'hx12_4).kind = 3) rfl (fun g40 => ?_) (fun g40 => ?_)
          · refine QO.pass rfl rfl rfl rfl rfl ?_
            refine QO.pass rfl rfl rfl rfl rfl ?_
            refine QO.pass rfl rfl rfl rfl rfl ?_
            refine QO.pass rfl rfl rfl rfl rfl ?_
            refine QO.pass rfl rfl rfl rfl rfl ?_
            refine QO.pass rfl rfl rfl rfl rfl ?_
            refine QO.pass rfl rfl rfl rfl rfl ?_
            refine QO.pass rfl rfl rfl rfl rfl ?_
            refine QO.pass rfl rfl rfl rfl rfl ?_
            refine QO.pass rfl rfl rfl rfl rfl ?_
            refine QO.pass rfl rfl rfl rfl rfl ?_
            refine QO.val (v := .bool (true)) rfl (fun w2 hw2 => Ru.pickT rfl rfl) rfl ?_
            refine QO.val (v := .bool (true)) rfl (fun w2 hw2 => Ru.pickT rfl rfl) rfl ?_
            refine QO.val (v := .bool (true)) rfl (fun w2 hw2 => Ru.assign rfl) rfl ?_
            refine QO.nil ?_
            intro w12d hM12d
            refine C.region ?_
            refine O.val (v := I (((k : Nat) : Int))) rfl (Ru.move rfl) rfl ?_
            refine O.val (v := I ((((k + 1) : Nat) : Int))) rfl (Ru.congr (v := I ((((k : Nat) : Int) + 1))) (v' := I ((((k + 1) : Nat) : Int))) (Ru.add rfl rfl (by omega)) (I_congr (by first | omega | simp))) rfl ?_
            refine O.val (v := I ((((k + 1) : Nat) : Int))) rfl (Ru.assign rfl) rfl ?_
            refine O.nil ?_
            exact loopEnd (k + 1, true) (by (try dsimp only); omega) (Has.cons rfl (Has.cons rfl (Has.cons rfl (Has.cons rfl (Has.cons rfl (Has.cons (I_congr (by first | rfl | omega | (simp; omega) | simp)) Has.nil)))))) ⟨(by (try dsimp only); omega), (by (try dsimp only); rw [hta, ← Bool.and_assoc, ← hi1_l10, g33]; first | rfl | (simp [g40]; done) | simp_all), (hM12d.pick [0] (by decide) rfl)⟩
          · refine QO.val (v := .slice (A) ((l).length) (c)) rfl (fun w2 hw2 => Ru.move rfl) rfl ?_
            refine QO.val (v := I (((k : Nat) : Int))) rfl (fun w2 hw2 => Ru.move rfl) rfl ?_
            have hx12_11 : k < (l).length := (by first | omega | (simp; omega))
            refine QO.val (v := .pointer (ofs (A) (k * 3))) rfl (fun w2 hw2 => Ru.indexA (j := k) Try.underlying23 el34 rfl rfl (smf encG_len (hA.at hw2) hx12_11 rfl) (by omega) (by first | omega | (simp; omega))) rfl ?_
            refine QO.val (v := .pointer (ofs (A) (k * 3 + 1))) rfl (fun w2 hw2 => Ru.fieldA fl34_1 rfl (smf encG_len (hA.at hw2) hx12_11 rfl)) rfl ?_
            refine QO.val rfl (fun w2 hw2 => Ru.load1 el3 rfl (ldf encG_len (hA.at hw2) hx12_11 rfl)) rfl ?_
            refine QO.val (v := .slice (A) ((l).length) (c)) rfl (fun w2 hw2 => Ru.move rfl) rfl ?_
            refine QO.val (v := I (((i : Nat) : Int))) rfl (fun w2 hw2 => Ru.move rfl) rfl ?_
            have hx12_16 : i < (l).length := (by first | omega | (simp; omega))
            refine QO.val (v := .pointer (ofs (A) (i * 3))) rfl (fun w2 hw2 => Ru.indexA (j := i) Try.underlying23 el34 rfl rfl (smf encG_len (hA.at hw2) hx12_16 rfl) (by omega) (by first | omega | (simp; omega))) rfl ?_
            refine QO.val (v := .pointer (ofs (A) (i * 3 + 1))) rfl (fun w2 hw2 => Ru.fieldA fl34_1 rfl (smf encG_len (hA.at hw2) hx12_16 rfl)) rfl ?_
            refine QO.val rfl (fun w2 hw2 => Ru.load1 el3 rfl (ldf encG_len (hA.at hw2) hx12_16 rfl)) rfl ?_
            refine QO.val (v := .bool (decide (((l)[k]'hx12_11).key ≠ ((l)[i]'hx12_16).key))) rfl (fun w2 hw2 => Ru.neq rfl rfl) rfl ?_
            refine QO.val (v := .bool (decide (((l)[k]'hx12_11).key ≠ ((l)[i]'hx12_16).key))) rfl (fun w2 hw2 => Ru.pickF rfl rfl) rfl ?_
            refine QO.val (v := .bool (decide (((l)[k]'hx12_11).key ≠ ((l)[i]'hx12_16).key))) rfl (fun w2 hw2 => Ru.pickT rfl rfl) rfl ?_
            refine QO.val (v := .bool (decide (((l)[k]'hx12_11).key ≠ ((l)[i]'hx12_16).key))) rfl (fun w2 hw2 => Ru.assign rfl) rfl ?_
            refine QO.nil ?_
            intro w12d hM12d
            refine C.region ?_
            refine O.val (v := I (((k : Nat) : Int))) rfl (Ru.move rfl) rfl ?_
            refine O.val (v := I ((((k + 1) : Nat) : Int))) rfl (Ru.congr (v := I ((((k : Nat) : Int) + 1))) (v' := I ((((k + 1) : Nat) : Int))) (Ru.add rfl rfl (by omega)) (I_congr (by first | omega | simp))) rfl ?_
            refine O.val (v := I ((((k + 1) : Nat) : Int))) rfl (Ru.assign rfl) rfl ?_
            refine O.nil ?_
            exact loopEnd (k + 1, (decide (((l)[k]'hx12_11).key ≠ ((l)[i]'hx12_16).key))) (by (try dsimp only); omega) (Has.cons rfl (Has.cons rfl (Has.cons rfl (Has.cons rfl (Has.cons rfl (Has.cons (I_congr (by first | rfl | omega | (simp; omega) | simp)) Has.nil)))))) ⟨(by (try dsimp only); omega), (by (try dsimp only); rw [hta, ← Bool.and_assoc, ← hi1_l10, g33]; first | rfl | (simp [g40]; done) | simp_all), (hM12d.pick [0] (by decide) rfl)⟩
        · refine QO.pass rfl rfl rfl rfl rfl ?_
          refine QO.pass rfl rfl rfl rfl rfl ?_
          refine QO.pass rfl rfl rfl rfl rfl ?_
          refine QO.pass rfl rfl rfl rfl rfl ?_
          refine QO.pass rfl rfl rfl rfl rfl ?_
          refine QO.pass rfl rfl rfl rfl rfl ?_
          refine QO.pass rfl rfl rfl rfl rfl ?_
          refine QO.passU rfl rfl rfl rfl ?_
          refine QO.passU rfl rfl rfl rfl ?_
          refine QO.passU rfl rfl rfl rfl ?_
          refine QO.passU rfl rfl rfl rfl ?_
          refine QO.passU rfl rfl rfl rfl ?_
          refine QO.passU rfl rfl rfl rfl ?_
          refine QO.passU rfl rfl rfl rfl ?_
          refine QO.passU rfl rfl rfl rfl ?_
          refine QO.passU rfl rfl rfl rfl ?_
          refine QO.passU rfl rfl rfl rfl ?_
          refine QO.passU rfl rfl rfl rfl ?_
          refine QO.pass rfl rfl rfl rfl rfl ?_
          refine QO.val (v := .bool (false)) rfl (fun w2 hw2 => Ru.pickF rfl rfl) rfl ?_
          refine QO.val (v := .bool (false)) rfl (fun w2 hw2 => Ru.assign rfl) rfl ?_
          refine QO.nil ?_
          intro w12d hM12d
          refine C.region ?_
          refine O.val (v := I (((k : Nat) : Int))) rfl (Ru.move rfl) rfl ?_
          refine O.val (v := I ((((k + 1) : Nat) : Int))) rfl (Ru.congr (v := I ((((k : Nat) : Int) + 1))) (v' := I ((((k + 1) : Nat) : Int))) (Ru.add rfl rfl (by omega)) (I_congr (by first | omega | simp))) rfl ?_
          refine O.val (v := I ((((k + 1) : Nat) : Int))) rfl (Ru.assign rfl) rfl ?_
          refine O.nil ?_
          exact loopEnd (k + 1, false) (by (try dsimp only); omega) (Has.cons rfl (Has.cons rfl (Has.cons rfl (Has.cons rfl (Has.cons rfl (Has.cons (I_congr (by first | rfl | omega | (simp; omega) | simp)) Has.nil)))))) ⟨(by (try dsimp only); omega), (by (try dsimp only); rw [hta, ← Bool.and_assoc, ← hi1_l10, g33]; first | rfl | (simp [g40]; done) | simp_all), (hM12d.pick [0] (by decide) rfl)⟩
      · have hdn : ((l.take (lastMk l)).drop (i + 1)).take (k - (i + 1)) = (l.take (lastMk l)).drop (i + 1) := take_all (by simp; omega)
        rw [hdn] at hi1_l10
        refine C.exit ?_
        refine C.seq ?_
        refine C.region ?_
        refine O.val (v := .bool (b)) rfl (Ru.move rfl) rfl ?_
        refine O.nil ?_
        refine C.condb (t := b) rfl (fun c54 => ?_) (fun c54 => ?_)
        · refine C.region ?_
          refine O.val (v := .slice (A2) ((L).length) (c2)) rfl (Ru.move rfl) rfl ?_
          refine O.val (v := .slice (A) ((l).length) (c)) rfl (Ru.move rfl) rfl ?_
          refine O.val (v := I (((i : Nat) : Int))) rfl (Ru.move rfl) rfl ?_
          have hx14_3 : i < (l).length := (by first | omega | (simp; omega))
          refine O.val (v := .pointer (ofs (A) (i * 3))) rfl (Ru.indexA (j := i) Try.underlying23 el34 rfl rfl (smf encG_len (hA.at hM_l10) hx14_3 rfl) (by omega) (by first | omega | (simp; omega))) rfl ?_
          refine O.val rfl (Ru.loadN (vs := [I (((l)[i]'hx14_3).kind), I (((l)[i]'hx14_3).key), I (((l)[i]'hx14_3).val)]) el34 rfl rfl (smf encG_len (hA.at hM_l10) hx14_3 rfl) (ldn encG_len (hA.at hM_l10) hx14_3)) rfl ?_
          refine O.mlit (sz := 3) (cs := [I (((l)[i]'hx14_3).kind), I (((l)[i]'hx14_3).key), I (((l)[i]'hx14_3).val)]) hM_l10 rfl Try.underlying23 el34 rfl rfl rfl (by kernel_rfl) (by kernel_rfl) rfl rfl (fun w14_5 b14_5 hb14_5 (hM14_5 : Mem w w14_5 [] [[⟨.slice (bl b14_5) (1) (1), 34, 3, 1, ([(l)[i]'hx14_3]).flatMap encG⟩], [⟨.slice (A2) ((L).length) (c2), 34, 3, ((L).length), (L).flatMap encG⟩]]) => ?_)
          refine O.mappend (sz := 3) (news := ([(l)[i]'hx14_3]).flatMap encG) (m1 := (L ++ [(l)[i]'hx14_3]).length) (xs1 := (L ++ [(l)[i]'hx14_3]).flatMap encG) (M' := fun A14_6 c14_6 => [[⟨.slice (bl b14_5) (1) (1), 34, 3, 1, ([(l)[i]'hx14_3]).flatMap encG⟩], [⟨.slice (A14_6) ((L ++ [(l)[i]'hx14_3]).length) (c14_6), 34, 3, ((L ++ [(l)[i]'hx14_3]).length), (L ++ [(l)[i]'hx14_3]).flatMap encG⟩]]) 1 0 hM14_5 rfl rfl rfl Try.underlying23 el34 ⟨rfl, by decide⟩ rfl rfl rfl (hM14_5.rd 0 rfl) (by rw [flat_len encG_len]; first | done | (simp; done) | (simp; omega)) (all_flat_one (fun _ => rfl) _) (by first | omega | (simp; omega)) (by first | omega | (simp; omega)) (by first | (simp; done) | (simp; omega)) (by simp) (fun _ _ => rfl) (fun w14_6 A14_6 c14_6 hc14_6 hM14_6 => ?_)
          try dsimp only at hM14_6
          refine O.val (v := .slice (A14_6) ((L ++ [(l)[i]'hx14_3]).length) (c14_6)) rfl (Ru.assign rfl) rfl ?_
          refine O.nil ?_
          refine C.region ?_
          refine O.val (v := I (((i : Nat) : Int))) rfl (Ru.move rfl) rfl ?_
          refine O.val (v := I ((((i + 1) : Nat) : Int))) rfl (Ru.congr (v := I ((((i : Nat) : Int) + 1))) (v' := I ((((i + 1) : Nat) : Int))) (Ru.add rfl rfl (by omega)) (I_congr (by first | omega | simp))) rfl ?_
          refine O.val (v := I ((((i + 1) : Nat) : Int))) rfl (Ru.assign rfl) rfl ?_
          refine O.nil ?_
          have hq4 : (L ++ [(l)[i]'hx14_3] : List RecT) = (L ++ [(l)[i]'hx14_3]) := (by first | rfl | simp | (simp; omega))
          have hMn4 : Mem w w14_6 [] [[⟨.slice (bl b14_5) (1) (1), 34, 3, 1, ([(l)[i]'hx14_3]).flatMap encG⟩], [⟨.slice (A14_6) (((L ++ [(l)[i]'hx14_3])).length) (c14_6), 34, 3, (((L ++ [(l)[i]'hx14_3])).length), ((L ++ [(l)[i]'hx14_3])).flatMap encG⟩]] := hM14_6.relen 1 (n' := ((L ++ [(l)[i]'hx14_3])).length) (xs' := ((L ++ [(l)[i]'hx14_3])).flatMap encG) rfl (by first | rfl | exact congrArg List.length hq4 | (have hqq := congrArg List.length hq4; first | omega | (simp at hqq ⊢; omega)) | (simp; done) | (simp; omega)) (congrArg (fun z_ => (z_).flatMap encG) hq4) rfl
          exact loopEnd (i + 1, L ++ [(l)[i]'hx14_3], A14_6, c14_6) (by (try dsimp only); omega) (Has.cons rfl (Has.cons rfl (Has.cons rfl (Has.cons (I_congr (by first | rfl | omega | (simp; omega) | simp)) Has.nil)))) ⟨(by (try dsimp only); omega), (by (try dsimp only); rw [hi1_l6, shL_takeN (by omega) hil hi1_l10 c54]; simp), (by (try dsimp only); simp; omega), (hMn4.pick [1] (by decide) rfl)⟩
        · refine C.skip ?_
          refine C.region ?_
          refine O.val (v := I (((i : Nat) : Int))) rfl (Ru.move rfl) rfl ?_
          refine O.val (v := I ((((i + 1) : Nat) : Int))) rfl (Ru.congr (v := I ((((i : Nat) : Int) + 1))) (v' := I ((((i + 1) : Nat) : Int))) (Ru.add rfl rfl (by omega)) (I_congr (by first | omega | simp))) rfl ?_
          refine O.val (v := I ((((i + 1) : Nat) : Int))) rfl (Ru.assign rfl) rfl ?_
          refine O.nil ?_
          exact loopEnd (i + 1, L, A2, c2) (by (try dsimp only); omega) (Has.cons rfl (Has.cons rfl (Has.cons rfl (Has.cons (I_congr (by first | rfl | omega | (simp; omega) | simp)) Has.nil)))) ⟨(by (try dsimp only); omega), (by (try dsimp only); rw [hi1_l6, shL_skipN (by omega) hil hi1_l10 c54]), (by (try dsimp only); omega), (hM_l10.pick [0] (by decide) rfl)⟩
    · refine C.exit ?_
      refine C.seq ?_
      refine C.region ?_
      refine O.val (v := .slice (A2) ((L).length) (c2)) rfl (Ru.move rfl) rfl ?_
      refine O.val (v := .slice (A2) ((L).length) (c2)) rfl (Ru.assign rfl) rfl ?_
      refine O.nil ?_
      refine C.ret ?_
      refine P1 (v := .slice (A2) ((L).length) (c2)) rfl ?_
      have hn := shF_yes hv
      rw [← sh_take, hi1_l6, List.drop_of_length_le (by simp; omega)] at hn
      simp only [shL, List.append_nil] at hn
      have hq5 : (L : List RecT) = shF l := hn.symm
      have hMn5 : Mem w w_l6 [] [[⟨.slice (A2) ((shF l).length) (c2), 34, 3, ((shF l).length), (shF l).flatMap encG⟩]] := hM_l6.relen 0 (n' := (shF l).length) (xs' := (shF l).flatMap encG) rfl (by first | rfl | exact congrArg List.length hq5 | (have hqq := congrArg List.length hq5; first | omega | (simp at hqq ⊢; omega)) | (simp; done) | (simp; omega)) (congrArg (fun z_ => (z_).flatMap encG) hq5) rfl
      exact ⟨A2, c2, (by rw [hn]), (hMn5.pick [0] (by decide) rfl)⟩
end Go.Proofs.Ytgflcaeibbnkcaa
