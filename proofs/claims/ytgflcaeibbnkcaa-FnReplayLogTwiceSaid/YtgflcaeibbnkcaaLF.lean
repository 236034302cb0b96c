/- Own layer: part of this seat (LF). Plain theorems; no conditions. -/
import Derived.Test.YtgflcaeibbnkcaaLE
set_option linter.unusedVariables false
set_option linter.unusedSimpArgs false
namespace Go.Proofs.Ytgflcaeibbnkcaa
open Go.Px
set_option maxHeartbeats 4000000 in
theorem LogBetween_fn (A : Option Addr) (c : Nat) (a : List PairT) (B : Option Addr) (d : Nat) (b : List PairT) (w : World) (hA : Rd w A ((a).flatMap encP)) (hB : Rd w B ((b).flatMap encP)) (ha : a.length ≤ 1048576) (hb : b.length ≤ 1048576) (hca : a.length ≤ c) (hcb : b.length ≤ d) :
    Does Try.prog 31 [.slice (A) ((a).length) (c), .slice (B) ((b).length) (d)] w (fun v w1 => ∃ (A1 : Option Addr) (c1 : Nat), v = .slice (A1) ((lbF a b).length) (c1) ∧ Mem w w1 [] [[⟨.slice (A1) ((lbF a b).length) (c1), 34, 3, ((lbF a b).length), (lbF a b).flatMap encG⟩]]) := by
  have hM : Mem w w [] [] := Mem.refl
  refine Does.enter1 Try.func31 rfl Try.results31 Try.ntmps31 rfl ?_
  refine C.seq ?_
  refine C.region ?_
  refine O.val (v := .slice (none) (0) (0)) rfl (Ru.assign rfl) rfl ?_
  refine O.nil ?_
  refine C.seq ?_
  refine C.seq ?_
  refine C.region ?_
  refine O.val (v := .slice (A) ((a).length) (c)) rfl (Ru.move rfl) rfl ?_
  refine O.callg [.slice (A) ((a).length) (c)] rfl en33 rfl rfl (ValidRow_fn A c a w (hA.at hM) (by first | omega | assumption | (simp; omega) | simp | (intros; omega))) ?_
  rintro _ w1_1 ⟨rfl, hR1_1⟩
  have hM1_1 : Mem w w1_1 [] [] := Mem.call (Ma := []) hM hR1_1 rfl
  refine O.val (v := .bool (!(validR a))) rfl (Ru.not rfl) rfl ?_
  refine O.val (v := .bool (!(validR a))) rfl (Ru.move rfl) rfl ?_
  refine O.part 9 (!(validR a)) rfl (fun g9 => ?_) (fun g9 => ?_)
  · refine O.pass rfl rfl rfl rfl rfl ?_
    refine O.pass rfl rfl rfl rfl rfl ?_
    refine O.pass rfl rfl rfl rfl rfl ?_
    refine O.val (v := .bool (true)) rfl (Ru.pickT rfl rfl) rfl ?_
    refine O.nil ?_
    refine C.condT rfl ?_
    refine C.seq ?_
    refine C.region ?_
    refine O.val (v := .slice (none) (0) (0)) rfl (Ru.assign rfl) rfl ?_
    refine O.nil ?_
    refine C.ret ?_
    refine P1 (v := .slice (none) (0) (0)) rfl ?_
    have hn := lbF_no (a := a) (b := b) (by cases hx : validR a <;> simp_all)
    have hMn1 : Mem w w1_1 [] [[⟨.slice (none) (0) (0), 34, 3, 0, ([]).flatMap encG⟩]] := Mem.addNil hM1_1
    have hq2 : ([] : List RecT) = lbF a b := hn.symm
    have hMn2 : Mem w w1_1 [] [[⟨.slice (none) ((lbF a b).length) (0), 34, 3, ((lbF a b).length), (lbF a b).flatMap encG⟩]] := hMn1.relen 0 (n' := (lbF a b).length) (xs' := (lbF a b).flatMap encG) rfl (by first | rfl | exact congrArg List.length hq2 | (have hqq := congrArg List.length hq2; first | omega | (simp at hqq ⊢; omega)) | (simp; done) | (simp; omega)) (congrArg (fun z_ => (z_).flatMap encG) hq2) rfl
    exact ⟨none, 0, (by rw [hn]; rfl), (hMn2.pick [0] (by decide) rfl)⟩
  · refine O.val (v := .slice (B) ((b).length) (d)) rfl (Ru.move rfl) rfl ?_
    refine O.callg [.slice (B) ((b).length) (d)] rfl en33 rfl rfl (ValidRow_fn B d b w1_1 (hB.at hM1_1) (by first | omega | assumption | (simp; omega) | simp | (intros; omega))) ?_
    rintro _ w1_5 ⟨rfl, hR1_5⟩
    have hM1_5 : Mem w w1_5 [] [] := Mem.call (Ma := []) hM1_1 hR1_5 rfl
    refine O.val (v := .bool (!(validR b))) rfl (Ru.not rfl) rfl ?_
    refine O.val (v := .bool (!(validR b))) rfl (Ru.pickF rfl rfl) rfl ?_
    refine O.nil ?_
    refine C.condn (b := (validR b)) rfl (fun c13 => ?_) (fun c13 => ?_)
    · refine C.seq ?_
      refine C.region ?_
      refine O.val (v := .slice (none) (0) (0)) rfl (Ru.assign rfl) rfl ?_
      refine O.nil ?_
      refine C.ret ?_
      refine P1 (v := .slice (none) (0) (0)) rfl ?_
      have hn := lbF_no (a := a) (b := b) (by cases hx : validR a <;> simp_all)
      have hMn3 : Mem w w1_5 [] [[⟨.slice (none) (0) (0), 34, 3, 0, ([]).flatMap encG⟩]] := Mem.addNil hM1_5
      have hq4 : ([] : List RecT) = lbF a b := hn.symm
      have hMn4 : Mem w w1_5 [] [[⟨.slice (none) ((lbF a b).length) (0), 34, 3, ((lbF a b).length), (lbF a b).flatMap encG⟩]] := hMn3.relen 0 (n' := (lbF a b).length) (xs' := (lbF a b).flatMap encG) rfl (by first | rfl | exact congrArg List.length hq4 | (have hqq := congrArg List.length hq4; first | omega | (simp at hqq ⊢; omega)) | (simp; done) | (simp; omega)) (congrArg (fun z_ => (z_).flatMap encG) hq4) rfl
      exact ⟨none, 0, (by rw [hn]; rfl), (hMn4.pick [0] (by decide) rfl)⟩
    · have hva : validR a = true := by simp_all
      have hvb : validR b = true := by simp_all
      have hla := validR_len hva
      have hlb := validR_len hvb
      refine C.skip ?_
      refine C.seq ?_
      refine C.region ?_
      refine O.val (v := .slice (none) (0) (0)) rfl (Ru.assign rfl) rfl ?_
      refine O.nil ?_
      refine C.seq ?_
      refine C.block ?_
      have hMn5 : Mem w w1_5 [] [[⟨.slice (none) (0) (0), 34, 3, 0, ([]).flatMap encG⟩]] := Mem.addNil hM1_5
      have hq6 : ([] : List RecT) = lbU a b 0 := (by rfl)
      have hMn6 : Mem w w1_5 [] [[⟨.slice (none) ((lbU a b 0).length) (0), 34, 3, ((lbU a b 0).length), (lbU a b 0).flatMap encG⟩]] := hMn5.relen 0 (n' := (lbU a b 0).length) (xs' := (lbU a b 0).flatMap encG) rfl (by first | rfl | exact congrArg List.length hq6 | (have hqq := congrArg List.length hq6; first | omega | (simp at hqq ⊢; omega)) | (simp; done) | (simp; omega)) (congrArg (fun z_ => (z_).flatMap encG) hq6) rfl
      refine C.loop (ι := Nat × Nat × Nat × (Option Addr) × Nat × (Option Addr) × Nat × (Option Addr) × Nat) (fun x_ => ([(0, .slice (x_.2.2.2.1) ((a.drop x_.2.1).length) (x_.2.2.2.2.1)), (1, .slice (x_.2.2.2.2.2.1) ((b.drop x_.2.2.1).length) (x_.2.2.2.2.2.2.1)), (5, .slice (x_.2.2.2.2.2.2.2.1) ((lbU a b x_.1).length) (x_.2.2.2.2.2.2.2.2))] : List (Nat × Value))) (fun x_ w_ => (Rd w x_.2.2.2.1 ((a.drop x_.2.1).flatMap encP)) ∧ (Rd w x_.2.2.2.2.2.1 ((b.drop x_.2.2.1).flatMap encP)) ∧ (x_.2.1 ≤ a.length ∧ x_.2.2.1 ≤ b.length ∧ (a.drop x_.2.1).length ≤ x_.2.2.2.2.1 ∧ (b.drop x_.2.2.1).length ≤ x_.2.2.2.2.2.2.1) ∧ (x_.2.1 = plc a (x_.1 : Nat)) ∧ (x_.2.2.1 = plc b (x_.1 : Nat)) ∧ (x_.1 ≤ 100) ∧ (Mem w w_ [] [[⟨.slice (x_.2.2.2.2.2.2.2.1) ((lbU a b x_.1).length) (x_.2.2.2.2.2.2.2.2), 34, 3, ((lbU a b x_.1).length), (lbU a b x_.1).flatMap encG⟩]])) (fun x_ => (a.length - x_.2.1) + (b.length - x_.2.2.1)) (0, 0, 0, A, c, B, d, none, 0) (Has.cons (sl_congr (by simp)) (Has.cons (sl_congr (by simp)) (Has.cons (sl_congr (by first | rfl | omega | (simp; done) | (simp; omega) | exact congrArg List.length hq6 | (simp [← hq6]; done) | (simp [← hq6]; omega))) Has.nil))) ⟨(by (try dsimp only); simpa using hA), (by (try dsimp only); simpa using hB), (by (try dsimp only); simp; omega), ((plc_zero hva).symm), ((plc_zero hvb).symm), (by (try dsimp only); omega), (hMn6.pick [0] (by decide) rfl)⟩ (fun ⟨lo, i, j, Aa, ca, Ab, cb, A2, c2⟩ σ w_l4 hI => ?_)
      try dsimp only at hI
      obtain ⟨hi0_l4, hi1_l4, hi2_l4, hi3_l4, hi4_l4, hi5_l4, hM_l4⟩ := hI
      have hcl0_l4 := (hM_l4.cap 0 rfl).1
      have hul := lbU_len a b lo
      refine C.seq ?_
      refine C.seq ?_
      refine C.region ?_
      refine O.val (v := .slice (Aa) ((a.drop i).length) (ca)) rfl (Ru.move rfl) rfl ?_
      refine O.val (v := I ((((a.drop i).length : Nat) : Int))) rfl (Ru.blenSlice Try.underlying36 rfl) rfl ?_
      refine O.val (v := .bool (decide ((((a.drop i).length : Nat) : Int) > 0))) rfl (Ru.gtr rfl rfl) rfl ?_
      refine O.val (v := .bool (decide ((((a.drop i).length : Nat) : Int) > 0))) rfl (Ru.move rfl) rfl ?_
      refine O.partp 17 ((((a.drop i).length : Nat) : Int) > 0) rfl (fun g17 => ?_) (fun g17 => ?_)
      · refine O.pass rfl rfl rfl rfl rfl ?_
        refine O.pass rfl rfl rfl rfl rfl ?_
        refine O.pass rfl rfl rfl rfl rfl ?_
        refine O.val (v := .bool (true)) rfl (Ru.pickT rfl rfl) rfl ?_
        refine O.nil ?_
        refine C.condT rfl ?_
        refine C.skip ?_
        refine C.block ?_
        refine C.block ?_
        refine C.seq ?_
        refine C.draws (fun w2 => Mem w w2 [] [[⟨.slice (A2) ((lbU a b lo).length) (c2), 34, 3, ((lbU a b lo).length), (lbU a b lo).flatMap encG⟩]]) mixed (by kernel_rfl) (hM_l4.ext (kdrawn _)) ?_
        refine QO.val (v := .slice (Ab) ((b.drop j).length) (cb)) rfl (fun w2 hw2 => Ru.move rfl) rfl ?_
        refine QO.val (v := I ((((b.drop j).length : Nat) : Int))) rfl (fun w2 hw2 => Ru.blenSlice Try.underlying36 rfl) rfl ?_
        refine QO.val (v := .bool (decide ((((b.drop j).length : Nat) : Int) = 0))) rfl (fun w2 hw2 => Ru.eql rfl rfl) rfl ?_
        refine QO.val (v := .bool (decide ((((b.drop j).length : Nat) : Int) = 0))) rfl (fun w2 hw2 => Ru.move rfl) rfl ?_
        refine QO.partp 51 ((((b.drop j).length : Nat) : Int) = 0) rfl (fun g51 => ?_) (fun g51 => ?_)
        · refine QO.pass rfl rfl rfl rfl rfl ?_
          refine QO.pass rfl rfl rfl rfl rfl ?_
          refine QO.pass rfl rfl rfl rfl rfl ?_
          refine QO.pass rfl rfl rfl rfl rfl ?_
          refine QO.passU rfl rfl rfl rfl ?_
          refine QO.passU rfl rfl rfl rfl ?_
          refine QO.passU rfl rfl rfl rfl ?_
          refine QO.passU rfl rfl rfl rfl ?_
          refine QO.passU rfl rfl rfl rfl ?_
          refine QO.passU rfl rfl rfl rfl ?_
          refine QO.passU rfl rfl rfl rfl ?_
          refine QO.passU rfl rfl rfl rfl ?_
          refine QO.passU rfl rfl rfl rfl ?_
          refine QO.pass rfl rfl rfl rfl rfl ?_
          refine QO.val (v := .bool (true)) rfl (fun w2 hw2 => Ru.pickT rfl rfl) rfl ?_
          refine QO.val (v := .bool (true)) rfl (fun w2 hw2 => Ru.assign rfl) rfl ?_
          refine QO.nil ?_
          intro w8d hM8d
          refine C.condT rfl ?_
          refine C.seq ?_
          have hA0 : 0 < (a.drop i).length := by omega
          have lbA := lb_A2 hva hvb hi3_l4 hi4_l4 hA0 (fun h9 => by first | exact c47 | (exfalso; omega))
          refine C.region ?_
          refine O.val (v := .slice (A2) ((lbU a b lo).length) (c2)) rfl (Ru.move rfl) rfl ?_
          refine O.val (v := .slice (Aa) ((a.drop i).length) (ca)) rfl (Ru.move rfl) rfl ?_
          have hx9_2 : 0 < ((a).drop (i)).length := (by first | omega | (simp; omega))
          refine O.val (v := .pointer (ofs (Aa) (0 * 2))) rfl (Ru.indexA (j := 0) Try.underlying36 el53 rfl rfl (smf encP_len (hi0_l4.at hM8d) hx9_2 rfl) (by omega) (by first | omega | (simp; omega))) rfl ?_
          refine O.val (v := .pointer (ofs (Aa) (0 * 2 + 0))) rfl (Ru.fieldA fl53_0 rfl (smf encP_len (hi0_l4.at hM8d) hx9_2 rfl)) rfl ?_
          refine O.val rfl (Ru.load1 el3 rfl (ldf encP_len (hi0_l4.at hM8d) hx9_2 rfl)) rfl ?_
          refine O.val (v := .agg #[I (2), I ((((a).drop (i))[0]'hx9_2).key), I (0)]) rfl (Ru.build of34 rfl rfl rfl) rfl ?_
          refine O.mlit (sz := 3) (cs := [I (2), I ((((a).drop (i))[0]'hx9_2).key), I (0)]) hM8d rfl Try.underlying23 el34 rfl rfl rfl (by kernel_rfl) (by kernel_rfl) rfl rfl (fun w9_6 b9_6 hb9_6 (hM9_6 : Mem w w9_6 [] [[⟨.slice (bl b9_6) (1) (1), 34, 3, 1, ([(⟨2, (((a).drop (i))[0]'hx9_2).key, 0⟩ : RecT)]).flatMap encG⟩], [⟨.slice (A2) ((lbU a b lo).length) (c2), 34, 3, ((lbU a b lo).length), (lbU a b lo).flatMap encG⟩]]) => ?_)
          refine O.mappend (sz := 3) (news := ([(⟨2, (((a).drop (i))[0]'hx9_2).key, 0⟩ : RecT)]).flatMap encG) (m1 := (lbU a b lo ++ [(⟨2, (((a).drop (i))[0]'hx9_2).key, 0⟩ : RecT)]).length) (xs1 := (lbU a b lo ++ [(⟨2, (((a).drop (i))[0]'hx9_2).key, 0⟩ : RecT)]).flatMap encG) (M' := fun A9_7 c9_7 => [[⟨.slice (bl b9_6) (1) (1), 34, 3, 1, ([(⟨2, (((a).drop (i))[0]'hx9_2).key, 0⟩ : RecT)]).flatMap encG⟩], [⟨.slice (A9_7) ((lbU a b lo ++ [(⟨2, (((a).drop (i))[0]'hx9_2).key, 0⟩ : RecT)]).length) (c9_7), 34, 3, ((lbU a b lo ++ [(⟨2, (((a).drop (i))[0]'hx9_2).key, 0⟩ : RecT)]).length), (lbU a b lo ++ [(⟨2, (((a).drop (i))[0]'hx9_2).key, 0⟩ : RecT)]).flatMap encG⟩]]) 1 0 hM9_6 rfl rfl rfl Try.underlying23 el34 ⟨rfl, by decide⟩ rfl rfl rfl (hM9_6.rd 0 rfl) (by rw [flat_len encG_len]; first | done | (simp; done) | (simp; omega)) (all_flat_one (fun _ => rfl) _) (by first | omega | (simp; omega)) (by first | omega | (simp; omega)) (by first | (simp; done) | (simp; omega)) (by simp) (fun _ _ => rfl) (fun w9_7 A9_7 c9_7 hc9_7 hM9_7 => ?_)
          try dsimp only at hM9_7
          refine O.val (v := .slice (A9_7) ((lbU a b lo ++ [(⟨2, (((a).drop (i))[0]'hx9_2).key, 0⟩ : RecT)]).length) (c9_7)) rfl (Ru.assign rfl) rfl ?_
          refine O.nil ?_
          refine C.region ?_
          refine O.val (v := .slice (Aa) ((a.drop i).length) (ca)) rfl (Ru.move rfl) rfl ?_
          refine O.val (v := .slice (if ca = 1 then Aa else ofs (Aa) (1 * 2)) ((((a).drop (i)).drop (1)).length) (ca - 1)) rfl (Ru.congr (v := .slice (if ca = 1 then Aa else ofs (Aa) (1 * 2)) (((a.drop i).length) - 1) (ca - 1)) (v' := .slice (if ca = 1 then Aa else ofs (Aa) (1 * 2)) ((((a).drop (i)).drop (1)).length) (ca - 1)) (Ru.lsliceFrom (l := 1) Try.underlying36 el53 rfl rfl (by omega) (by omega)) (sl_congr (by first | rfl | (simp; done) | omega | (simp; omega)))) rfl ?_
          refine O.val (v := .slice (if ca = 1 then Aa else ofs (Aa) (1 * 2)) ((((a).drop (i)).drop (1)).length) (ca - 1)) rfl (Ru.assign rfl) rfl ?_
          refine O.nil ?_
          have hq7 : (lbU a b lo ++ [(⟨2, (((a).drop (i))[0]'hx9_2).key, 0⟩ : RecT)] : List RecT) = lbU a b (((a.drop i)[0]'hA0).key.toNat + 1) := lbA.1.symm
          have hMn7 : Mem w w9_7 [] [[⟨.slice (bl b9_6) (1) (1), 34, 3, 1, ([(⟨2, (((a).drop (i))[0]'hx9_2).key, 0⟩ : RecT)]).flatMap encG⟩], [⟨.slice (A9_7) ((lbU a b (((a.drop i)[0]'hA0).key.toNat + 1)).length) (c9_7), 34, 3, ((lbU a b (((a.drop i)[0]'hA0).key.toNat + 1)).length), (lbU a b (((a.drop i)[0]'hA0).key.toNat + 1)).flatMap encG⟩]] := hM9_7.relen 1 (n' := (lbU a b (((a.drop i)[0]'hA0).key.toNat + 1)).length) (xs' := (lbU a b (((a.drop i)[0]'hA0).key.toNat + 1)).flatMap encG) rfl (by first | rfl | exact congrArg List.length hq7 | (have hqq := congrArg List.length hq7; first | omega | (simp at hqq ⊢; omega)) | (simp; done) | (simp; omega)) (congrArg (fun z_ => (z_).flatMap encG) hq7) rfl
          simp only [blkQ]
          exact loopEnd (((((a.drop i)[0]'hA0).key.toNat + 1), (i + 1), j, (if ca = 1 then Aa else ofs (Aa) (1 * 2)), (ca - 1), Ab, cb, A9_7, c9_7) : Nat × Nat × Nat × (Option Addr) × Nat × (Option Addr) × Nat × (Option Addr) × Nat) (by (try dsimp only); simp only [List.length_drop] at *; omega) (Has.cons (sl_congr (by simp; try omega)) (Has.cons (sl_congr (by simp; try omega)) (Has.cons (sl_congr (by first | rfl | exact congrArg List.length lbA.1.symm | exact congrArg List.length lbB.1.symm | (rw [lbC.1, if_pos c30]; done) | (rw [lbC.1, if_neg c30, List.append_nil]; done))) Has.nil))) ⟨(by (try dsimp only); have h9 := rd_dropN (k := 1) (c := ca) encP_len hi0_l4 (by omega) (by omega); rwa [List.drop_drop] at h9), hi1_l4, (by (try dsimp only); have h7 := hi2_l4; have h6 := hA0; have h5 := hA0; simp only [List.length_drop] at h7 h6 h5 ⊢; omega), (lbA.2.1), (lbA.2.2.1), (lbA.2.2.2), (hMn7.pick [1] (by decide) rfl)⟩
        · refine QO.val (v := .slice (Aa) ((a.drop i).length) (ca)) rfl (fun w2 hw2 => Ru.move rfl) rfl ?_
          refine QO.val (v := I ((((a.drop i).length : Nat) : Int))) rfl (fun w2 hw2 => Ru.blenSlice Try.underlying36 rfl) rfl ?_
          refine QO.val (v := .bool (decide ((((a.drop i).length : Nat) : Int) > 0))) rfl (fun w2 hw2 => Ru.gtr rfl rfl) rfl ?_
          refine QO.val (v := .bool (decide ((((a.drop i).length : Nat) : Int) > 0))) rfl (fun w2 hw2 => Ru.move rfl) rfl ?_
          refine QO.partp 55 ((((a.drop i).length : Nat) : Int) > 0) rfl (fun g55 => ?_) (fun g55 => ?_)
          · refine QO.val (v := .slice (Aa) ((a.drop i).length) (ca)) rfl (fun w2 hw2 => Ru.move rfl) rfl ?_
            have hx8_9 : 0 < ((a).drop (i)).length := (by first | omega | (simp; omega))
            refine QO.val (v := .pointer (ofs (Aa) (0 * 2))) rfl (fun w2 hw2 => Ru.indexA (j := 0) Try.underlying36 el53 rfl rfl (smf encP_len (hi0_l4.at hw2) hx8_9 rfl) (by omega) (by first | omega | (simp; omega))) rfl ?_
            refine QO.val (v := .pointer (ofs (Aa) (0 * 2 + 0))) rfl (fun w2 hw2 => Ru.fieldA fl53_0 rfl (smf encP_len (hi0_l4.at hw2) hx8_9 rfl)) rfl ?_
            refine QO.val rfl (fun w2 hw2 => Ru.load1 el3 rfl (ldf encP_len (hi0_l4.at hw2) hx8_9 rfl)) rfl ?_
            refine QO.val (v := .slice (Ab) ((b.drop j).length) (cb)) rfl (fun w2 hw2 => Ru.move rfl) rfl ?_
            have hx8_13 : 0 < ((b).drop (j)).length := (by first | omega | (simp; omega))
            refine QO.val (v := .pointer (ofs (Ab) (0 * 2))) rfl (fun w2 hw2 => Ru.indexA (j := 0) Try.underlying36 el53 rfl rfl (smf encP_len (hi1_l4.at hw2) hx8_13 rfl) (by omega) (by first | omega | (simp; omega))) rfl ?_
            refine QO.val (v := .pointer (ofs (Ab) (0 * 2 + 0))) rfl (fun w2 hw2 => Ru.fieldA fl53_0 rfl (smf encP_len (hi1_l4.at hw2) hx8_13 rfl)) rfl ?_
            refine QO.val rfl (fun w2 hw2 => Ru.load1 el3 rfl (ldf encP_len (hi1_l4.at hw2) hx8_13 rfl)) rfl ?_
            refine QO.val (v := .bool (decide ((((a).drop (i))[0]'hx8_9).key < (((b).drop (j))[0]'hx8_13).key))) rfl (fun w2 hw2 => Ru.lss rfl rfl) rfl ?_
            refine QO.val (v := .bool (decide ((((a).drop (i))[0]'hx8_9).key < (((b).drop (j))[0]'hx8_13).key))) rfl (fun w2 hw2 => Ru.pickT rfl rfl) rfl ?_
            refine QO.val (v := .bool (decide ((((a).drop (i))[0]'hx8_9).key < (((b).drop (j))[0]'hx8_13).key))) rfl (fun w2 hw2 => Ru.pickF rfl rfl) rfl ?_
            refine QO.val (v := .bool (decide ((((a).drop (i))[0]'hx8_9).key < (((b).drop (j))[0]'hx8_13).key))) rfl (fun w2 hw2 => Ru.assign rfl) rfl ?_
            refine QO.nil ?_
            intro w8d hM8d
            refine C.cond (p := (((a).drop (i))[0]'hx8_9).key < (((b).drop (j))[0]'hx8_13).key) rfl (fun c47 => ?_) (fun c47 => ?_)
            · refine C.seq ?_
              have hA0 : 0 < (a.drop i).length := by omega
              have lbA := lb_A2 hva hvb hi3_l4 hi4_l4 hA0 (fun h9 => by first | exact c47 | (exfalso; omega))
              refine C.region ?_
              refine O.val (v := .slice (A2) ((lbU a b lo).length) (c2)) rfl (Ru.move rfl) rfl ?_
              refine O.val (v := .slice (Aa) ((a.drop i).length) (ca)) rfl (Ru.move rfl) rfl ?_
              have hx9_2 : 0 < ((a).drop (i)).length := (by first | omega | (simp; omega))
              refine O.val (v := .pointer (ofs (Aa) (0 * 2))) rfl (Ru.indexA (j := 0) Try.underlying36 el53 rfl rfl (smf encP_len (hi0_l4.at hM8d) hx9_2 rfl) (by omega) (by first | omega | (simp; omega))) rfl ?_
              refine O.val (v := .pointer (ofs (Aa) (0 * 2 + 0))) rfl (Ru.fieldA fl53_0 rfl (smf encP_len (hi0_l4.at hM8d) hx9_2 rfl)) rfl ?_
              refine O.val rfl (Ru.load1 el3 rfl (ldf encP_len (hi0_l4.at hM8d) hx9_2 rfl)) rfl ?_
              refine O.val (v := .agg #[I (2), I ((((a).drop (i))[0]'hx9_2).key), I (0)]) rfl (Ru.build of34 rfl rfl rfl) rfl ?_
              refine O.mlit (sz := 3) (cs := [I (2), I ((((a).drop (i))[0]'hx9_2).key), I (0)]) hM8d rfl Try.underlying23 el34 rfl rfl rfl (by kernel_rfl) (by kernel_rfl) rfl rfl (fun w9_6 b9_6 hb9_6 (hM9_6 : Mem w w9_6 [] [[⟨.slice (bl b9_6) (1) (1), 34, 3, 1, ([(⟨2, (((a).drop (i))[0]'hx9_2).key, 0⟩ : RecT)]).flatMap encG⟩], [⟨.slice (A2) ((lbU a b lo).length) (c2), 34, 3, ((lbU a b lo).length), (lbU a b lo).flatMap encG⟩]]) => ?_)
              refine O.mappend (sz := 3) (news := ([(⟨2, (((a).drop (i))[0]'hx9_2).key, 0⟩ : RecT)]).flatMap encG) (m1 := (lbU a b lo ++ [(⟨2, (((a).drop (i))[0]'hx9_2).key, 0⟩ : RecT)]).length) (xs1 := (lbU a b lo ++ [(⟨2, (((a).drop (i))[0]'hx9_2).key, 0⟩ : RecT)]).flatMap encG) (M' := fun A9_7 c9_7 => [[⟨.slice (bl b9_6) (1) (1), 34, 3, 1, ([(⟨2, (((a).drop (i))[0]'hx9_2).key, 0⟩ : RecT)]).flatMap encG⟩], [⟨.slice (A9_7) ((lbU a b lo ++ [(⟨2, (((a).drop (i))[0]'hx9_2).key, 0⟩ : RecT)]).length) (c9_7), 34, 3, ((lbU a b lo ++ [(⟨2, (((a).drop (i))[0]'hx9_2).key, 0⟩ : RecT)]).length), (lbU a b lo ++ [(⟨2, (((a).drop (i))[0]'hx9_2).key, 0⟩ : RecT)]).flatMap encG⟩]]) 1 0 hM9_6 rfl rfl rfl Try.underlying23 el34 ⟨rfl, by decide⟩ rfl rfl rfl (hM9_6.rd 0 rfl) (by rw [flat_len encG_len]; first | done | (simp; done) | (simp; omega)) (all_flat_one (fun _ => rfl) _) (by first | omega | (simp; omega)) (by first | omega | (simp; omega)) (by first | (simp; done) | (simp; omega)) (by simp) (fun _ _ => rfl) (fun w9_7 A9_7 c9_7 hc9_7 hM9_7 => ?_)
              try dsimp only at hM9_7
              refine O.val (v := .slice (A9_7) ((lbU a b lo ++ [(⟨2, (((a).drop (i))[0]'hx9_2).key, 0⟩ : RecT)]).length) (c9_7)) rfl (Ru.assign rfl) rfl ?_
              refine O.nil ?_
              refine C.region ?_
              refine O.val (v := .slice (Aa) ((a.drop i).length) (ca)) rfl (Ru.move rfl) rfl ?_
              refine O.val (v := .slice (if ca = 1 then Aa else ofs (Aa) (1 * 2)) ((((a).drop (i)).drop (1)).length) (ca - 1)) rfl (Ru.congr (v := .slice (if ca = 1 then Aa else ofs (Aa) (1 * 2)) (((a.drop i).length) - 1) (ca - 1)) (v' := .slice (if ca = 1 then Aa else ofs (Aa) (1 * 2)) ((((a).drop (i)).drop (1)).length) (ca - 1)) (Ru.lsliceFrom (l := 1) Try.underlying36 el53 rfl rfl (by omega) (by omega)) (sl_congr (by first | rfl | (simp; done) | omega | (simp; omega)))) rfl ?_
              refine O.val (v := .slice (if ca = 1 then Aa else ofs (Aa) (1 * 2)) ((((a).drop (i)).drop (1)).length) (ca - 1)) rfl (Ru.assign rfl) rfl ?_
              refine O.nil ?_
              have hq8 : (lbU a b lo ++ [(⟨2, (((a).drop (i))[0]'hx9_2).key, 0⟩ : RecT)] : List RecT) = lbU a b (((a.drop i)[0]'hA0).key.toNat + 1) := lbA.1.symm
              have hMn8 : Mem w w9_7 [] [[⟨.slice (bl b9_6) (1) (1), 34, 3, 1, ([(⟨2, (((a).drop (i))[0]'hx9_2).key, 0⟩ : RecT)]).flatMap encG⟩], [⟨.slice (A9_7) ((lbU a b (((a.drop i)[0]'hA0).key.toNat + 1)).length) (c9_7), 34, 3, ((lbU a b (((a.drop i)[0]'hA0).key.toNat + 1)).length), (lbU a b (((a.drop i)[0]'hA0).key.toNat + 1)).flatMap encG⟩]] := hM9_7.relen 1 (n' := (lbU a b (((a.drop i)[0]'hA0).key.toNat + 1)).length) (xs' := (lbU a b (((a.drop i)[0]'hA0).key.toNat + 1)).flatMap encG) rfl (by first | rfl | exact congrArg List.length hq8 | (have hqq := congrArg List.length hq8; first | omega | (simp at hqq ⊢; omega)) | (simp; done) | (simp; omega)) (congrArg (fun z_ => (z_).flatMap encG) hq8) rfl
              simp only [blkQ]
              exact loopEnd (((((a.drop i)[0]'hA0).key.toNat + 1), (i + 1), j, (if ca = 1 then Aa else ofs (Aa) (1 * 2)), (ca - 1), Ab, cb, A9_7, c9_7) : Nat × Nat × Nat × (Option Addr) × Nat × (Option Addr) × Nat × (Option Addr) × Nat) (by (try dsimp only); simp only [List.length_drop] at *; omega) (Has.cons (sl_congr (by simp; try omega)) (Has.cons (sl_congr (by simp; try omega)) (Has.cons (sl_congr (by first | rfl | exact congrArg List.length lbA.1.symm | exact congrArg List.length lbB.1.symm | (rw [lbC.1, if_pos c30]; done) | (rw [lbC.1, if_neg c30, List.append_nil]; done))) Has.nil))) ⟨(by (try dsimp only); have h9 := rd_dropN (k := 1) (c := ca) encP_len hi0_l4 (by omega) (by omega); rwa [List.drop_drop] at h9), hi1_l4, (by (try dsimp only); have h7 := hi2_l4; have h6 := hA0; have h5 := hA0; simp only [List.length_drop] at h7 h6 h5 ⊢; omega), (lbA.2.1), (lbA.2.2.1), (lbA.2.2.2), (hMn8.pick [1] (by decide) rfl)⟩
            · refine C.seq ?_
              refine C.draws (fun w2 => Mem w w2 [] [[⟨.slice (A2) ((lbU a b lo).length) (c2), 34, 3, ((lbU a b lo).length), (lbU a b lo).flatMap encG⟩]]) mixed (by kernel_rfl) (hM8d.ext (kdrawn _)) ?_
              refine QO.val (v := .slice (Aa) ((a.drop i).length) (ca)) rfl (fun w2 hw2 => Ru.move rfl) rfl ?_
              refine QO.val (v := I ((((a.drop i).length : Nat) : Int))) rfl (fun w2 hw2 => Ru.blenSlice Try.underlying36 rfl) rfl ?_
              refine QO.val (v := .bool (decide ((((a.drop i).length : Nat) : Int) = 0))) rfl (fun w2 hw2 => Ru.eql rfl rfl) rfl ?_
              refine QO.val (v := .bool (decide ((((a.drop i).length : Nat) : Int) = 0))) rfl (fun w2 hw2 => Ru.move rfl) rfl ?_
              refine QO.partp 81 ((((a.drop i).length : Nat) : Int) = 0) rfl (fun g81 => ?_) (fun g81 => ?_)
              · refine QO.pass rfl rfl rfl rfl rfl ?_
                refine QO.pass rfl rfl rfl rfl rfl ?_
                refine QO.pass rfl rfl rfl rfl rfl ?_
                refine QO.pass rfl rfl rfl rfl rfl ?_
                refine QO.pass rfl rfl rfl rfl rfl ?_
                refine QO.pass rfl rfl rfl rfl rfl ?_
                refine QO.pass rfl rfl rfl rfl rfl ?_
                refine QO.pass rfl rfl rfl rfl rfl ?_
                refine QO.pass rfl rfl rfl rfl rfl ?_
                refine QO.val (v := .bool (true)) rfl (fun w2 hw2 => Ru.pickT rfl rfl) rfl ?_
                refine QO.val (v := .bool (true)) rfl (fun w2 hw2 => Ru.assign rfl) rfl ?_
                refine QO.nil ?_
                intro w11d hM11d
                refine C.condT rfl ?_
                refine C.seq ?_
                have hB0 : 0 < (b.drop j).length := by omega
                have lbB := lb_B2 hva hvb hi3_l4 hi4_l4 hB0 (fun h9 => by first | exact c77 | (exfalso; omega))
                refine C.any (f := 13) (ls := [false, false, false, false, false, false, false, false, false, false, false, false, false]) (fun w2 => Mem w w2 [] []) mixed rfl rfl (fun w2 hw2 => Mem0.ext (Mem.none hM11d) hw2) (fun w12a hE12a => ?_)
                have hM12a : Mem w w12a [] [[⟨.slice (A2) ((lbU a b lo).length) (c2), 34, 3, ((lbU a b lo).length), (lbU a b lo).flatMap encG⟩]] := Mem0.ext hM11d hE12a
                refine AO.val (v := .slice (A2) ((lbU a b lo).length) (c2)) 0 (ls' := [true, false, false, false, false, false, false, false, false, false, false, false, false]) rfl (by kernel_rfl) rfl rfl (fun w2 hw2 => Ru.move rfl) rfl ?_
                refine AO.val (v := .slice (Ab) ((b.drop j).length) (cb)) 1 (ls' := [true, true, false, false, false, false, false, false, false, false, false, false, false]) rfl (by kernel_rfl) rfl rfl (fun w2 hw2 => Ru.move rfl) rfl ?_
                have hx12_2 : 0 < ((b).drop (j)).length := (by first | omega | (simp; omega))
                refine AO.val (v := .pointer (ofs (Ab) (0 * 2))) 2 (ls' := [true, true, true, false, false, false, false, false, false, false, false, false, false]) rfl (by kernel_rfl) rfl rfl (fun w2 hw2 => Ru.indexA (j := 0) Try.underlying36 el53 rfl rfl (smf encP_len (hi1_l4.at hM12a) hx12_2 rfl) (by omega) (by first | omega | (simp; omega))) rfl ?_
                refine AO.val (v := .pointer (ofs (Ab) (0 * 2 + 0))) 3 (ls' := [true, true, true, true, false, false, false, false, false, false, false, false, false]) rfl (by kernel_rfl) rfl rfl (fun w2 hw2 => Ru.fieldA fl53_0 rfl (smf encP_len (hi1_l4.at hM12a) hx12_2 rfl)) rfl ?_
                refine AO.val (v := I ((((b).drop (j))[0]'hx12_2).key)) 4 (ls' := [true, true, true, true, true, false, false, false, false, false, false, false, false]) rfl (by kernel_rfl) rfl rfl (fun w2 hw2 => Ru.load1 el3 rfl (ldf encP_len (hi1_l4.at hw2) hx12_2 rfl)) rfl ?_
                refine AO.val (v := .slice (Ab) ((b.drop j).length) (cb)) 5 (ls' := [true, true, true, true, true, true, false, false, false, false, false, false, false]) rfl (by kernel_rfl) rfl rfl (fun w2 hw2 => Ru.move rfl) rfl ?_
                have hx12_6 : 0 < ((b).drop (j)).length := (by first | omega | (simp; omega))
                refine AO.val (v := .pointer (ofs (Ab) (0 * 2))) 6 (ls' := [true, true, true, true, true, true, true, false, false, false, false, false, false]) rfl (by kernel_rfl) rfl rfl (fun w2 hw2 => Ru.indexA (j := 0) Try.underlying36 el53 rfl rfl (smf encP_len (hi1_l4.at hM12a) hx12_6 rfl) (by omega) (by first | omega | (simp; omega))) rfl ?_
                refine AO.val (v := .pointer (ofs (Ab) (0 * 2 + 1))) 7 (ls' := [true, true, true, true, true, true, true, true, false, false, false, false, false]) rfl (by kernel_rfl) rfl rfl (fun w2 hw2 => Ru.fieldA fl53_1 rfl (smf encP_len (hi1_l4.at hM12a) hx12_6 rfl)) rfl ?_
                refine AO.val (v := I ((((b).drop (j))[0]'hx12_6).val)) 8 (ls' := [true, true, true, true, true, true, true, true, true, false, false, false, false]) rfl (by kernel_rfl) rfl rfl (fun w2 hw2 => Ru.load1 el3 rfl (ldf encP_len (hi1_l4.at hw2) hx12_6 rfl)) rfl ?_
                refine AO.val (v := .agg #[I (1), I ((((b).drop (j))[0]'hx12_2).key), I ((((b).drop (j))[0]'hx12_6).val)]) 9 (ls' := [true, true, true, true, true, true, true, true, true, true, false, false, false]) rfl (by kernel_rfl) rfl rfl (fun w2 hw2 => Ru.build of34 rfl rfl rfl) rfl ?_
                refine AO.one 10 (by kernel_rfl) ?_
                refine step1 (ls' := [true, true, true, true, true, true, true, true, true, true, true, false, false]) rfl rfl ?_
                refine O.mlit (sz := 3) (cs := [I (1), I ((((b).drop (j))[0]'hx12_2).key), I ((((b).drop (j))[0]'hx12_6).val)]) hM12a rfl Try.underlying23 el34 rfl rfl rfl (by kernel_rfl) (by kernel_rfl) rfl rfl (fun w12_10 b12_10 hb12_10 (hM12_10 : Mem w w12_10 [] [[⟨.slice (bl b12_10) (1) (1), 34, 3, 1, ([(⟨1, (((b).drop (j))[0]'hx12_2).key, (((b).drop (j))[0]'hx12_6).val⟩ : RecT)]).flatMap encG⟩], [⟨.slice (A2) ((lbU a b lo).length) (c2), 34, 3, ((lbU a b lo).length), (lbU a b lo).flatMap encG⟩]]) => ?_)
                refine O.stop (Mem.none hM12_10) ?_
                refine AO.one 11 (by kernel_rfl) ?_
                refine step1 (ls' := [true, true, true, true, true, true, true, true, true, true, true, true, false]) rfl rfl ?_
                refine O.mappend (sz := 3) (news := ([(⟨1, (((b).drop (j))[0]'hx12_2).key, (((b).drop (j))[0]'hx12_6).val⟩ : RecT)]).flatMap encG) (m1 := (lbU a b lo ++ [(⟨1, (((b).drop (j))[0]'hx12_2).key, (((b).drop (j))[0]'hx12_6).val⟩ : RecT)]).length) (xs1 := (lbU a b lo ++ [(⟨1, (((b).drop (j))[0]'hx12_2).key, (((b).drop (j))[0]'hx12_6).val⟩ : RecT)]).flatMap encG) (M' := fun A12_11 c12_11 => [[⟨.slice (bl b12_10) (1) (1), 34, 3, 1, ([(⟨1, (((b).drop (j))[0]'hx12_2).key, (((b).drop (j))[0]'hx12_6).val⟩ : RecT)]).flatMap encG⟩], [⟨.slice (A12_11) ((lbU a b lo ++ [(⟨1, (((b).drop (j))[0]'hx12_2).key, (((b).drop (j))[0]'hx12_6).val⟩ : RecT)]).length) (c12_11), 34, 3, ((lbU a b lo ++ [(⟨1, (((b).drop (j))[0]'hx12_2).key, (((b).drop (j))[0]'hx12_6).val⟩ : RecT)]).length), (lbU a b lo ++ [(⟨1, (((b).drop (j))[0]'hx12_2).key, (((b).drop (j))[0]'hx12_6).val⟩ : RecT)]).flatMap encG⟩]]) 1 0 hM12_10 rfl rfl rfl Try.underlying23 el34 ⟨rfl, by decide⟩ rfl rfl rfl (hM12_10.rd 0 rfl) (by rw [flat_len encG_len]; first | done | (simp; done) | (simp; omega)) (all_flat_one (fun _ => rfl) _) (by first | omega | (simp; omega)) (by first | omega | (simp; omega)) (by first | (simp; done) | (simp; omega)) (by simp) (fun _ _ => rfl) (fun w12_11 A12_11 c12_11 hc12_11 hM12_11 => ?_)
                try dsimp only at hM12_11
                refine O.stop (Mem.none hM12_11) ?_
                refine AO.val (v := .slice (A12_11) ((lbU a b lo ++ [(⟨1, (((b).drop (j))[0]'hx12_2).key, (((b).drop (j))[0]'hx12_6).val⟩ : RecT)]).length) (c12_11)) 12 (ls' := [true, true, true, true, true, true, true, true, true, true, true, true, true]) rfl (by kernel_rfl) rfl rfl (fun w2 hw2 => Ru.assign rfl) rfl ?_
                refine AO.nil (by kernel_rfl) ?_
                refine C.region ?_
                refine O.val (v := .slice (Ab) ((b.drop j).length) (cb)) rfl (Ru.move rfl) rfl ?_
                refine O.val (v := .slice (if cb = 1 then Ab else ofs (Ab) (1 * 2)) ((((b).drop (j)).drop (1)).length) (cb - 1)) rfl (Ru.congr (v := .slice (if cb = 1 then Ab else ofs (Ab) (1 * 2)) (((b.drop j).length) - 1) (cb - 1)) (v' := .slice (if cb = 1 then Ab else ofs (Ab) (1 * 2)) ((((b).drop (j)).drop (1)).length) (cb - 1)) (Ru.lsliceFrom (l := 1) Try.underlying36 el53 rfl rfl (by omega) (by omega)) (sl_congr (by first | rfl | (simp; done) | omega | (simp; omega)))) rfl ?_
                refine O.val (v := .slice (if cb = 1 then Ab else ofs (Ab) (1 * 2)) ((((b).drop (j)).drop (1)).length) (cb - 1)) rfl (Ru.assign rfl) rfl ?_
                refine O.nil ?_
                have hq9 : (lbU a b lo ++ [(⟨1, (((b).drop (j))[0]'hx12_2).key, (((b).drop (j))[0]'hx12_6).val⟩ : RecT)] : List RecT) = lbU a b (((b.drop j)[0]'hB0).key.toNat + 1) := lbB.1.symm
                have hMn9 : Mem w w12_11 [] [[⟨.slice (bl b12_10) (1) (1), 34, 3, 1, ([(⟨1, (((b).drop (j))[0]'hx12_2).key, (((b).drop (j))[0]'hx12_6).val⟩ : RecT)]).flatMap encG⟩], [⟨.slice (A12_11) ((lbU a b (((b.drop j)[0]'hB0).key.toNat + 1)).length) (c12_11), 34, 3, ((lbU a b (((b.drop j)[0]'hB0).key.toNat + 1)).length), (lbU a b (((b.drop j)[0]'hB0).key.toNat + 1)).flatMap encG⟩]] := hM12_11.relen 1 (n' := (lbU a b (((b.drop j)[0]'hB0).key.toNat + 1)).length) (xs' := (lbU a b (((b.drop j)[0]'hB0).key.toNat + 1)).flatMap encG) rfl (by first | rfl | exact congrArg List.length hq9 | (have hqq := congrArg List.length hq9; first | omega | (simp at hqq ⊢; omega)) | (simp; done) | (simp; omega)) (congrArg (fun z_ => (z_).flatMap encG) hq9) rfl
                simp only [blkQ]
                exact loopEnd (((((b.drop j)[0]'hB0).key.toNat + 1), i, (j + 1), Aa, ca, (if cb = 1 then Ab else ofs (Ab) (1 * 2)), (cb - 1), A12_11, c12_11) : Nat × Nat × Nat × (Option Addr) × Nat × (Option Addr) × Nat × (Option Addr) × Nat) (by (try dsimp only); simp only [List.length_drop] at *; omega) (Has.cons (sl_congr (by simp; try omega)) (Has.cons (sl_congr (by simp; try omega)) (Has.cons (sl_congr (by first | rfl | exact congrArg List.length lbA.1.symm | exact congrArg List.length lbB.1.symm | (rw [lbC.1, if_pos c30]; done) | (rw [lbC.1, if_neg c30, List.append_nil]; done))) Has.nil))) ⟨hi0_l4, (by (try dsimp only); have h9 := rd_dropN (k := 1) (c := cb) encP_len hi1_l4 (by omega) (by omega); rwa [List.drop_drop] at h9), (by (try dsimp only); have h7 := hi2_l4; have h6 := hB0; have h5 := hB0; simp only [List.length_drop] at h7 h6 h5 ⊢; omega), (lbB.2.1), (lbB.2.2.1), (lbB.2.2.2), (hMn9.pick [1] (by decide) rfl)⟩
              · refine QO.val (v := .slice (Ab) ((b.drop j).length) (cb)) rfl (fun w2 hw2 => Ru.move rfl) rfl ?_
                have hx11_5 : 0 < ((b).drop (j)).length := (by first | omega | (simp; omega))
                refine QO.val (v := .pointer (ofs (Ab) (0 * 2))) rfl (fun w2 hw2 => Ru.indexA (j := 0) Try.underlying36 el53 rfl rfl (smf encP_len (hi1_l4.at hw2) hx11_5 rfl) (by omega) (by first | omega | (simp; omega))) rfl ?_
                refine QO.val (v := .pointer (ofs (Ab) (0 * 2 + 0))) rfl (fun w2 hw2 => Ru.fieldA fl53_0 rfl (smf encP_len (hi1_l4.at hw2) hx11_5 rfl)) rfl ?_
                refine QO.val rfl (fun w2 hw2 => Ru.load1 el3 rfl (ldf encP_len (hi1_l4.at hw2) hx11_5 rfl)) rfl ?_
                refine QO.val (v := .slice (Aa) ((a.drop i).length) (ca)) rfl (fun w2 hw2 => Ru.move rfl) rfl ?_
                have hx11_9 : 0 < ((a).drop (i)).length := (by first | omega | (simp; omega))
                refine QO.val (v := .pointer (ofs (Aa) (0 * 2))) rfl (fun w2 hw2 => Ru.indexA (j := 0) Try.underlying36 el53 rfl rfl (smf encP_len (hi0_l4.at hw2) hx11_9 rfl) (by omega) (by first | omega | (simp; omega))) rfl ?_
                refine QO.val (v := .pointer (ofs (Aa) (0 * 2 + 0))) rfl (fun w2 hw2 => Ru.fieldA fl53_0 rfl (smf encP_len (hi0_l4.at hw2) hx11_9 rfl)) rfl ?_
                refine QO.val rfl (fun w2 hw2 => Ru.load1 el3 rfl (ldf encP_len (hi0_l4.at hw2) hx11_9 rfl)) rfl ?_
                refine QO.val (v := .bool (decide ((((b).drop (j))[0]'hx11_5).key < (((a).drop (i))[0]'hx11_9).key))) rfl (fun w2 hw2 => Ru.lss rfl rfl) rfl ?_
                refine QO.val (v := .bool (decide ((((b).drop (j))[0]'hx11_5).key < (((a).drop (i))[0]'hx11_9).key))) rfl (fun w2 hw2 => Ru.pickF rfl rfl) rfl ?_
                refine QO.val (v := .bool (decide ((((b).drop (j))[0]'hx11_5).key < (((a).drop (i))[0]'hx11_9).key))) rfl (fun w2 hw2 => Ru.assign rfl) rfl ?_
                refine QO.nil ?_
                intro w11d hM11d
                refine C.cond (p := (((b).drop (j))[0]'hx11_5).key < (((a).drop (i))[0]'hx11_9).key) rfl (fun c77 => ?_) (fun c77 => ?_)
                · refine C.seq ?_
                  have hB0 : 0 < (b.drop j).length := by omega
                  have lbB := lb_B2 hva hvb hi3_l4 hi4_l4 hB0 (fun h9 => by first | exact c77 | (exfalso; omega))
                  refine C.any (f := 13) (ls := [false, false, false, false, false, false, false, false, false, false, false, false, false]) (fun w2 => Mem w w2 [] []) mixed rfl rfl (fun w2 hw2 => Mem0.ext (Mem.none hM11d) hw2) (fun w12a hE12a => ?_)
                  have hM12a : Mem w w12a [] [[⟨.slice (A2) ((lbU a b lo).length) (c2), 34, 3, ((lbU a b lo).length), (lbU a b lo).flatMap encG⟩]] := Mem0.ext hM11d hE12a
                  refine AO.val (v := .slice (A2) ((lbU a b lo).length) (c2)) 0 (ls' := [true, false, false, false, false, false, false, false, false, false, false, false, false]) rfl (by kernel_rfl) rfl rfl (fun w2 hw2 => Ru.move rfl) rfl ?_
                  refine AO.val (v := .slice (Ab) ((b.drop j).length) (cb)) 1 (ls' := [true, true, false, false, false, false, false, false, false, false, false, false, false]) rfl (by kernel_rfl) rfl rfl (fun w2 hw2 => Ru.move rfl) rfl ?_
                  have hx12_2 : 0 < ((b).drop (j)).length := (by first | omega | (simp; omega))
                  refine AO.val (v := .pointer (ofs (Ab) (0 * 2))) 2 (ls' := [true, true, true, false, false, false, false, false, false, false, false, false, false]) rfl (by kernel_rfl) rfl rfl (fun w2 hw2 => Ru.indexA (j := 0) Try.underlying36 el53 rfl rfl (smf encP_len (hi1_l4.at hM12a) hx12_2 rfl) (by omega) (by first | omega | (simp; omega))) rfl ?_
                  refine AO.val (v := .pointer (ofs (Ab) (0 * 2 + 0))) 3 (ls' := [true, true, true, true, false, false, false, false, false, false, false, false, false]) rfl (by kernel_rfl) rfl rfl (fun w2 hw2 => Ru.fieldA fl53_0 rfl (smf encP_len (hi1_l4.at hM12a) hx12_2 rfl)) rfl ?_
                  refine AO.val (v := I ((((b).drop (j))[0]'hx12_2).key)) 4 (ls' := [true, true, true, true, true, false, false, false, false, false, false, false, false]) rfl (by kernel_rfl) rfl rfl (fun w2 hw2 => Ru.load1 el3 rfl (ldf encP_len (hi1_l4.at hw2) hx12_2 rfl)) rfl ?_
                  refine AO.val (v := .slice (Ab) ((b.drop j).length) (cb)) 5 (ls' := [true, true, true, true, true, true, false, false, false, false, false, false, false]) rfl (by kernel_rfl) rfl rfl (fun w2 hw2 => Ru.move rfl) rfl ?_
                  have hx12_6 : 0 < ((b).drop (j)).length := (by first | omega | (simp; omega))
                  refine AO.val (v := .pointer (ofs (Ab) (0 * 2))) 6 (ls' := [true, true, true, true, true, true, true, false, false, false, false, false, false]) rfl (by kernel_rfl) rfl rfl (fun w2 hw2 => Ru.indexA (j := 0) Try.underlying36 el53 rfl rfl (smf encP_len (hi1_l4.at hM12a) hx12_6 rfl) (by omega) (by first | omega | (simp; omega))) rfl ?_
                  refine AO.val (v := .pointer (ofs (Ab) (0 * 2 + 1))) 7 (ls' := [true, true, true, true, true, true, true, true, false, false, false, false, false]) rfl (by kernel_rfl) rfl rfl (fun w2 hw2 => Ru.fieldA fl53_1 rfl (smf encP_len (hi1_l4.at hM12a) hx12_6 rfl)) rfl ?_
                  refine AO.val (v := I ((((b).drop (j))[0]'hx12_6).val)) 8 (ls' := [true, true, true, true, true, true, true, true, true, false, false, false, false]) rfl (by kernel_rfl) rfl rfl (fun w2 hw2 => Ru.load1 el3 rfl (ldf encP_len (hi1_l4.at hw2) hx12_6 rfl)) rfl ?_
                  refine AO.val (v := .agg #[I (1), I ((((b).drop (j))[0]'hx12_2).key), I ((((b).drop (j))[0]'hx12_6).val)]) 9 (ls' := [true, true, true, true, true, true, true, true, true, true, false, false, false]) rfl (by kernel_rfl) rfl rfl (fun w2 hw2 => Ru.build of34 rfl rfl rfl) rfl ?_
                  refine AO.one 10 (by kernel_rfl) ?_
                  refine step1 (ls' := [true, true, true, true, true, true, true, true, true, true, true, false, false]) rfl rfl ?_
                  refine O.mlit (sz := 3) (cs := [I (1), I ((((b).drop (j))[0]'hx12_2).key), I ((((b).drop (j))[0]'hx12_6).val)]) hM12a rfl Try.underlying23 el34 rfl rfl rfl (by kernel_rfl) (by kernel_rfl) rfl rfl (fun w12_10 b12_10 hb12_10 (hM12_10 : Mem w w12_10 [] [[⟨.slice (bl b12_10) (1) (1), 34, 3, 1, ([(⟨1, (((b).drop (j))[0]'hx12_2).key, (((b).drop (j))[0]'hx12_6).val⟩ : RecT)]).flatMap encG⟩], [⟨.slice (A2) ((lbU a b lo).length) (c2), 34, 3, ((lbU a b lo).length), (lbU a b lo).flatMap encG⟩]]) => ?_)
                  refine O.stop (Mem.none hM12_10) ?_
                  refine AO.one 11 (by kernel_rfl) ?_
                  refine step1 (ls' := [true, true, true, true, true, true, true, true, true, true, true, true, false]) rfl rfl ?_
                  refine O.mappend (sz := 3) (news := ([(⟨1, (((b).drop (j))[0]'hx12_2).key, (((b).drop (j))[0]'hx12_6).val⟩ : RecT)]).flatMap encG) (m1 := (lbU a b lo ++ [(⟨1, (((b).drop (j))[0]'hx12_2).key, (((b).drop (j))[0]'hx12_6).val⟩ : RecT)]).length) (xs1 := (lbU a b lo ++ [(⟨1, (((b).drop (j))[0]'hx12_2).key, (((b).drop (j))[0]'hx12_6).val⟩ : RecT)]).flatMap encG) (M' := fun A12_11 c12_11 => [[⟨.slice (bl b12_10) (1) (1), 34, 3, 1, ([(⟨1, (((b).drop (j))[0]'hx12_2).key, (((b).drop (j))[0]'hx12_6).val⟩ : RecT)]).flatMap encG⟩], [⟨.slice (A12_11) ((lbU a b lo ++ [(⟨1, (((b).drop (j))[0]'hx12_2).key, (((b).drop (j))[0]'hx12_6).val⟩ : RecT)]).length) (c12_11), 34, 3, ((lbU a b lo ++ [(⟨1, (((b).drop (j))[0]'hx12_2).key, (((b).drop (j))[0]'hx12_6).val⟩ : RecT)]).length), (lbU a b lo ++ [(⟨1, (((b).drop (j))[0]'hx12_2).key, (((b).drop (j))[0]'hx12_6).val⟩ : RecT)]).flatMap encG⟩]]) 1 0 hM12_10 rfl rfl rfl Try.underlying23 el34 ⟨rfl, by decide⟩ rfl rfl rfl (hM12_10.rd 0 rfl) (by rw [flat_len encG_len]; first | done | (simp; done) | (simp; omega)) (all_flat_one (fun _ => rfl) _) (by first | omega | (simp; omega)) (by first | omega | (simp; omega)) (by first | (simp; done) | (simp; omega)) (by simp) (fun _ _ => rfl) (fun w12_11 A12_11 c12_11 hc12_11 hM12_11 => ?_)
                  try dsimp only at hM12_11
                  refine O.stop (Mem.none hM12_11) ?_
                  refine AO.val (v := .slice (A12_11) ((lbU a b lo ++ [(⟨1, (((b).drop (j))[0]'hx12_2).key, (((b).drop (j))[0]'hx12_6).val⟩ : RecT)]).length) (c12_11)) 12 (ls' := [true, true, true, true, true, true, true, true, true, true, true, true, true]) rfl (by kernel_rfl) rfl rfl (fun w2 hw2 => Ru.assign rfl) rfl ?_
                  refine AO.nil (by kernel_rfl) ?_
                  refine C.region ?_
                  refine O.val (v := .slice (Ab) ((b.drop j).length) (cb)) rfl (Ru.move rfl) rfl ?_
                  refine O.val (v := .slice (if cb = 1 then Ab else ofs (Ab) (1 * 2)) ((((b).drop (j)).drop (1)).length) (cb - 1)) rfl (Ru.congr (v := .slice (if cb = 1 then Ab else ofs (Ab) (1 * 2)) (((b.drop j).length) - 1) (cb - 1)) (v' := .slice (if cb = 1 then Ab else ofs (Ab) (1 * 2)) ((((b).drop (j)).drop (1)).length) (cb - 1)) (Ru.lsliceFrom (l := 1) Try.underlying36 el53 rfl rfl (by omega) (by omega)) (sl_congr (by first | rfl | (simp; done) | omega | (simp; omega)))) rfl ?_
                  refine O.val (v := .slice (if cb = 1 then Ab else ofs (Ab) (1 * 2)) ((((b).drop (j)).drop (1)).length) (cb - 1)) rfl (Ru.assign rfl) rfl ?_
                  refine O.nil ?_
                  have hq10 : (lbU a b lo ++ [(⟨1, (((b).drop (j))[0]'hx12_2).key, (((b).drop (j))[0]'hx12_6).val⟩ : RecT)] : List RecT) = lbU a b (((b.drop j)[0]'hB0).key.toNat + 1) := lbB.1.symm
                  have hMn10 : Mem w w12_11 [] [[⟨.slice (bl b12_10) (1) (1), 34, 3, 1, ([(⟨1, (((b).drop (j))[0]'hx12_2).key, (((b).drop (j))[0]'hx12_6).val⟩ : RecT)]).flatMap encG⟩], [⟨.slice (A12_11) ((lbU a b (((b.drop j)[0]'hB0).key.toNat + 1)).length) (c12_11), 34, 3, ((lbU a b (((b.drop j)[0]'hB0).key.toNat + 1)).length), (lbU a b (((b.drop j)[0]'hB0).key.toNat + 1)).flatMap encG⟩]] := hM12_11.relen 1 (n' := (lbU a b (((b.drop j)[0]'hB0).key.toNat + 1)).length) (xs' := (lbU a b (((b.drop j)[0]'hB0).key.toNat + 1)).flatMap encG) rfl (by first | rfl | exact congrArg List.length hq10 | (have hqq := congrArg List.length hq10; first | omega | (simp at hqq ⊢; omega)) | (simp; done) | (simp; omega)) (congrArg (fun z_ => (z_).flatMap encG) hq10) rfl
                  simp only [blkQ]
                  exact loopEnd (((((b.drop j)[0]'hB0).key.toNat + 1), i, (j + 1), Aa, ca, (if cb = 1 then Ab else ofs (Ab) (1 * 2)), (cb - 1), A12_11, c12_11) : Nat × Nat × Nat × (Option Addr) × Nat × (Option Addr) × Nat × (Option Addr) × Nat) (by (try dsimp only); simp only [List.length_drop] at *; omega) (Has.cons (sl_congr (by simp; try omega)) (Has.cons (sl_congr (by simp; try omega)) (Has.cons (sl_congr (by first | rfl | exact congrArg List.length lbA.1.symm | exact congrArg List.length lbB.1.symm | (rw [lbC.1, if_pos c30]; done) | (rw [lbC.1, if_neg c30, List.append_nil]; done))) Has.nil))) ⟨hi0_l4, (by (try dsimp only); have h9 := rd_dropN (k := 1) (c := cb) encP_len hi1_l4 (by omega) (by omega); rwa [List.drop_drop] at h9), (by (try dsimp only); have h7 := hi2_l4; have h6 := hB0; have h5 := hB0; simp only [List.length_drop] at h7 h6 h5 ⊢; omega), (lbB.2.1), (lbB.2.2.1), (lbB.2.2.2), (hMn10.pick [1] (by decide) rfl)⟩
                · refine C.seq ?_
                  refine C.seq ?_
                  have hA0 : 0 < (a.drop i).length := by omega
                  have hB0 : 0 < (b.drop j).length := by omega
                  have lbC := lb_C2 hva hvb hi3_l4 hi4_l4 hA0 hB0 (by omega)
                  refine C.draws (fun w2 => Mem w w2 [] [[⟨.slice (A2) ((lbU a b lo).length) (c2), 34, 3, ((lbU a b lo).length), (lbU a b lo).flatMap encG⟩]]) mixed (by kernel_rfl) (hM11d.ext (kdrawn _)) ?_
                  refine QO.val (v := .slice (Aa) ((a.drop i).length) (ca)) rfl (fun w2 hw2 => Ru.move rfl) rfl ?_
                  have hx5_1 : 0 < ((a).drop (i)).length := (by first | omega | (simp; omega))
                  refine QO.val (v := .pointer (ofs (Aa) (0 * 2))) rfl (fun w2 hw2 => Ru.indexA (j := 0) Try.underlying36 el53 rfl rfl (smf encP_len (hi0_l4.at hw2) hx5_1 rfl) (by omega) (by first | omega | (simp; omega))) rfl ?_
                  refine QO.val (v := .pointer (ofs (Aa) (0 * 2 + 1))) rfl (fun w2 hw2 => Ru.fieldA fl53_1 rfl (smf encP_len (hi0_l4.at hw2) hx5_1 rfl)) rfl ?_
                  refine QO.val rfl (fun w2 hw2 => Ru.load1 el3 rfl (ldf encP_len (hi0_l4.at hw2) hx5_1 rfl)) rfl ?_
                  refine QO.val (v := .slice (Ab) ((b.drop j).length) (cb)) rfl (fun w2 hw2 => Ru.move rfl) rfl ?_
                  have hx5_5 : 0 < ((b).drop (j)).length := (by first | omega | (simp; omega))
                  refine QO.val (v := .pointer (ofs (Ab) (0 * 2))) rfl (fun w2 hw2 => Ru.indexA (j := 0) Try.underlying36 el53 rfl rfl (smf encP_len (hi1_l4.at hw2) hx5_5 rfl) (by omega) (by first | omega | (simp; omega))) rfl ?_
                  refine QO.val (v := .pointer (ofs (Ab) (0 * 2 + 1))) rfl (fun w2 hw2 => Ru.fieldA fl53_1 rfl (smf encP_len (hi1_l4.at hw2) hx5_5 rfl)) rfl ?_
                  refine QO.val rfl (fun w2 hw2 => Ru.load1 el3 rfl (ldf encP_len (hi1_l4.at hw2) hx5_5 rfl)) rfl ?_
                  refine QO.val (v := .bool (decide ((((a).drop (i))[0]'hx5_1).val ≠ (((b).drop (j))[0]'hx5_5).val))) rfl (fun w2 hw2 => Ru.neq rfl rfl) rfl ?_
                  refine QO.nil ?_
                  intro w5d hM5d
                  refine C.cond (p := (((a).drop (i))[0]'hx5_1).val ≠ (((b).drop (j))[0]'hx5_5).val) rfl (fun c30 => ?_) (fun c30 => ?_)
                  · refine C.any (f := 13) (ls := [false, false, false, false, false, false, false, false, false, false, false, false, false]) (fun w2 => Mem w w2 [] []) mixed rfl rfl (fun w2 hw2 => Mem0.ext (Mem.none hM5d) hw2) (fun w6a hE6a => ?_)
                    have hM6a : Mem w w6a [] [[⟨.slice (A2) ((lbU a b lo).length) (c2), 34, 3, ((lbU a b lo).length), (lbU a b lo).flatMap encG⟩]] := Mem0.ext hM5d hE6a
                    refine AO.val (v := .slice (A2) ((lbU a b lo).length) (c2)) 0 (ls' := [true, false, false, false, false, false, false, false, false, false, false, false, false]) rfl (by kernel_rfl) rfl rfl (fun w2 hw2 => Ru.move rfl) rfl ?_
                    refine AO.val (v := .slice (Ab) ((b.drop j).length) (cb)) 1 (ls' := [true, true, false, false, false, false, false, false, false, false, false, false, false]) rfl (by kernel_rfl) rfl rfl (fun w2 hw2 => Ru.move rfl) rfl ?_
                    have hx6_2 : 0 < ((b).drop (j)).length := (by first | omega | (simp; omega))
                    refine AO.val (v := .pointer (ofs (Ab) (0 * 2))) 2 (ls' := [true, true, true, false, false, false, false, false, false, false, false, false, false]) rfl (by kernel_rfl) rfl rfl (fun w2 hw2 => Ru.indexA (j := 0) Try.underlying36 el53 rfl rfl (smf encP_len (hi1_l4.at hM6a) hx6_2 rfl) (by omega) (by first | omega | (simp; omega))) rfl ?_
                    refine AO.val (v := .pointer (ofs (Ab) (0 * 2 + 0))) 3 (ls' := [true, true, true, true, false, false, false, false, false, false, false, false, false]) rfl (by kernel_rfl) rfl rfl (fun w2 hw2 => Ru.fieldA fl53_0 rfl (smf encP_len (hi1_l4.at hM6a) hx6_2 rfl)) rfl ?_
                    refine AO.val (v := I ((((b).drop (j))[0]'hx6_2).key)) 4 (ls' := [true, true, true, true, true, false, false, false, false, false, false, false, false]) rfl (by kernel_rfl) rfl rfl (fun w2 hw2 => Ru.load1 el3 rfl (ldf encP_len (hi1_l4.at hw2) hx6_2 rfl)) rfl ?_
                    refine AO.val (v := .slice (Ab) ((b.drop j).length) (cb)) 5 (ls' := [true, true, true, true, true, true, false, false, false, false, false, false, false]) rfl (by kernel_rfl) rfl rfl (fun w2 hw2 => Ru.move rfl) rfl ?_
                    have hx6_6 : 0 < ((b).drop (j)).length := (by first | omega | (simp; omega))
                    refine AO.val (v := .pointer (ofs (Ab) (0 * 2))) 6 (ls' := [true, true, true, true, true, true, true, false, false, false, false, false, false]) rfl (by kernel_rfl) rfl rfl (fun w2 hw2 => Ru.indexA (j := 0) Try.underlying36 el53 rfl rfl (smf encP_len (hi1_l4.at hM6a) hx6_6 rfl) (by omega) (by first | omega | (simp; omega))) rfl ?_
                    refine AO.val (v := .pointer (ofs (Ab) (0 * 2 + 1))) 7 (ls' := [true, true, true, true, true, true, true, true, false, false, false, false, false]) rfl (by kernel_rfl) rfl rfl (fun w2 hw2 => Ru.fieldA fl53_1 rfl (smf encP_len (hi1_l4.at hM6a) hx6_6 rfl)) rfl ?_
                    refine AO.val (v := I ((((b).drop (j))[0]'hx6_6).val)) 8 (ls' := [true, true, true, true, true, true, true, true, true, false, false, false, false]) rfl (by kernel_rfl) rfl rfl (fun w2 hw2 => Ru.load1 el3 rfl (ldf encP_len (hi1_l4.at hw2) hx6_6 rfl)) rfl ?_
                    refine AO.val (v := .agg #[I (1), I ((((b).drop (j))[0]'hx6_2).key), I ((((b).drop (j))[0]'hx6_6).val)]) 9 (ls' := [true, true, true, true, true, true, true, true, true, true, false, false, false]) rfl (by kernel_rfl) rfl rfl (fun w2 hw2 => Ru.build of34 rfl rfl rfl) rfl ?_
                    refine AO.one 10 (by kernel_rfl) ?_
                    refine step1 (ls' := [true, true, true, true, true, true, true, true, true, true, true, false, false]) rfl rfl ?_
                    refine O.mlit (sz := 3) (cs := [I (1), I ((((b).drop (j))[0]'hx6_2).key), I ((((b).drop (j))[0]'hx6_6).val)]) hM6a rfl Try.underlying23 el34 rfl rfl rfl (by kernel_rfl) (by kernel_rfl) rfl rfl (fun w6_10 b6_10 hb6_10 (hM6_10 : Mem w w6_10 [] [[⟨.slice (bl b6_10) (1) (1), 34, 3, 1, ([(⟨1, (((b).drop (j))[0]'hx6_2).key, (((b).drop (j))[0]'hx6_6).val⟩ : RecT)]).flatMap encG⟩], [⟨.slice (A2) ((lbU a b lo).length) (c2), 34, 3, ((lbU a b lo).length), (lbU a b lo).flatMap encG⟩]]) => ?_)
                    refine O.stop (Mem.none hM6_10) ?_
                    refine AO.one 11 (by kernel_rfl) ?_
                    refine step1 (ls' := [true, true, true, true, true, true, true, true, true, true, true, true, false]) rfl rfl ?_
                    refine O.mappend (sz := 3) (news := ([(⟨1, (((b).drop (j))[0]'hx6_2).key, (((b).drop (j))[0]'hx6_6).val⟩ : RecT)]).flatMap encG) (m1 := (lbU a b lo ++ [(⟨1, (((b).drop (j))[0]'hx6_2).key, (((b).drop (j))[0]'hx6_6).val⟩ : RecT)]).length) (xs1 := (lbU a b lo ++ [(⟨1, (((b).drop (j))[0]'hx6_2).key, (((b).drop (j))[0]'hx6_6).val⟩ : RecT)]).flatMap encG) (M' := fun A6_11 c6_11 => [[⟨.slice (bl b6_10) (1) (1), 34, 3, 1, ([(⟨1, (((b).drop (j))[0]'hx6_2).key, (((b).drop (j))[0]'hx6_6).val⟩ : RecT)]).flatMap encG⟩], [⟨.slice (A6_11) ((lbU a b lo ++ [(⟨1, (((b).drop (j))[0]'hx6_2).key, (((b).drop (j))[0]'hx6_6).val⟩ : RecT)]).length) (c6_11), 34, 3, ((lbU a b lo ++ [(⟨1, (((b).drop (j))[0]'hx6_2).key, (((b).drop (j))[0]'hx6_6).val⟩ : RecT)]).length), (lbU a b lo ++ [(⟨1, (((b).drop (j))[0]'hx6_2).key, (((b).drop (j))[0]'hx6_6).val⟩ : RecT)]).flatMap encG⟩]]) 1 0 hM6_10 rfl rfl rfl Try.underlying23 el34 ⟨rfl, by decide⟩ rfl rfl rfl (hM6_10.rd 0 rfl) (by rw [flat_len encG_len]; first | done | (simp; done) | (simp; omega)) (all_flat_one (fun _ => rfl) _) (by first | omega | (simp; omega)) (by first | omega | (simp; omega)) (by first | (simp; done) | (simp; omega)) (by simp) (fun _ _ => rfl) (fun w6_11 A6_11 c6_11 hc6_11 hM6_11 => ?_)
                    try dsimp only at hM6_11
                    refine O.stop (Mem.none hM6_11) ?_
                    refine AO.val (v := .slice (A6_11) ((lbU a b lo ++ [(⟨1, (((b).drop (j))[0]'hx6_2).key, (((b).drop (j))[0]'hx6_6).val⟩ : RecT)]).length) (c6_11)) 12 (ls' := [true, true, true, true, true, true, true, true, true, true, true, true, true]) rfl (by kernel_rfl) rfl rfl (fun w2 hw2 => Ru.assign rfl) rfl ?_
                    refine AO.nil (by kernel_rfl) ?_
                    refine C.draws (fun w2 => Mem w w2 [] [[⟨.slice (bl b6_10) (1) (1), 34, 3, 1, ([(⟨1, (((b).drop (j))[0]'hx6_2).key, (((b).drop (j))[0]'hx6_6).val⟩ : RecT)]).flatMap encG⟩], [⟨.slice (A6_11) ((lbU a b lo ++ [(⟨1, (((b).drop (j))[0]'hx6_2).key, (((b).drop (j))[0]'hx6_6).val⟩ : RecT)]).length) (c6_11), 34, 3, ((lbU a b lo ++ [(⟨1, (((b).drop (j))[0]'hx6_2).key, (((b).drop (j))[0]'hx6_6).val⟩ : RecT)]).length), (lbU a b lo ++ [(⟨1, (((b).drop (j))[0]'hx6_2).key, (((b).drop (j))[0]'hx6_6).val⟩ : RecT)]).flatMap encG⟩]]) mixed (by kernel_rfl) (hM6_11.ext (kdrawn _)) ?_
                    refine QO.val (v := .slice (Aa) ((a.drop i).length) (ca)) rfl (fun w2 hw2 => Ru.move rfl) rfl ?_
                    refine QO.val (v := .slice (if ca = 1 then Aa else ofs (Aa) (1 * 2)) ((((a).drop (i)).drop (1)).length) (ca - 1)) rfl (fun w2 hw2 => Ru.congr (v := .slice (if ca = 1 then Aa else ofs (Aa) (1 * 2)) (((a.drop i).length) - 1) (ca - 1)) (v' := .slice (if ca = 1 then Aa else ofs (Aa) (1 * 2)) ((((a).drop (i)).drop (1)).length) (ca - 1)) (Ru.lsliceFrom (l := 1) Try.underlying36 el53 rfl rfl (by omega) (by omega)) (sl_congr (by first | rfl | (simp; done) | omega | (simp; omega)))) rfl ?_
                    refine QO.val (v := .slice (Ab) ((b.drop j).length) (cb)) rfl (fun w2 hw2 => Ru.move rfl) rfl ?_
                    refine QO.val (v := .slice (if cb = 1 then Ab else ofs (Ab) (1 * 2)) ((((b).drop (j)).drop (1)).length) (cb - 1)) rfl (fun w2 hw2 => Ru.congr (v := .slice (if cb = 1 then Ab else ofs (Ab) (1 * 2)) (((b.drop j).length) - 1) (cb - 1)) (v' := .slice (if cb = 1 then Ab else ofs (Ab) (1 * 2)) ((((b).drop (j)).drop (1)).length) (cb - 1)) (Ru.lsliceFrom (l := 1) Try.underlying36 el53 rfl rfl (by omega) (by omega)) (sl_congr (by first | rfl | (simp; done) | omega | (simp; omega)))) rfl ?_
                    refine QO.val (v := .slice (if ca = 1 then Aa else ofs (Aa) (1 * 2)) ((((a).drop (i)).drop (1)).length) (ca - 1)) rfl (fun w2 hw2 => Ru.assign rfl) rfl ?_
                    refine QO.val (v := .slice (if cb = 1 then Ab else ofs (Ab) (1 * 2)) ((((b).drop (j)).drop (1)).length) (cb - 1)) rfl (fun w2 hw2 => Ru.assign rfl) rfl ?_
                    refine QO.nil ?_
                    intro w7d hM7d
                    have hq11 : (lbU a b lo ++ [(⟨1, (((b).drop (j))[0]'hx6_2).key, (((b).drop (j))[0]'hx6_6).val⟩ : RecT)] : List RecT) = lbU a b (((b.drop j)[0]'hB0).key.toNat + 1) := (by rw [lbC.1, if_pos c30])
                    have hMn11 : Mem w w7d [] [[⟨.slice (bl b6_10) (1) (1), 34, 3, 1, ([(⟨1, (((b).drop (j))[0]'hx6_2).key, (((b).drop (j))[0]'hx6_6).val⟩ : RecT)]).flatMap encG⟩], [⟨.slice (A6_11) ((lbU a b (((b.drop j)[0]'hB0).key.toNat + 1)).length) (c6_11), 34, 3, ((lbU a b (((b.drop j)[0]'hB0).key.toNat + 1)).length), (lbU a b (((b.drop j)[0]'hB0).key.toNat + 1)).flatMap encG⟩]] := hM7d.relen 1 (n' := (lbU a b (((b.drop j)[0]'hB0).key.toNat + 1)).length) (xs' := (lbU a b (((b.drop j)[0]'hB0).key.toNat + 1)).flatMap encG) rfl (by first | rfl | exact congrArg List.length hq11 | (have hqq := congrArg List.length hq11; first | omega | (simp at hqq ⊢; omega)) | (simp; done) | (simp; omega)) (congrArg (fun z_ => (z_).flatMap encG) hq11) rfl
                    simp only [blkQ]
                    exact loopEnd (((((b.drop j)[0]'hB0).key.toNat + 1), (i + 1), (j + 1), (if ca = 1 then Aa else ofs (Aa) (1 * 2)), (ca - 1), (if cb = 1 then Ab else ofs (Ab) (1 * 2)), (cb - 1), A6_11, c6_11) : Nat × Nat × Nat × (Option Addr) × Nat × (Option Addr) × Nat × (Option Addr) × Nat) (by (try dsimp only); simp only [List.length_drop] at *; omega) (Has.cons (sl_congr (by simp; try omega)) (Has.cons (sl_congr (by simp; try omega)) (Has.cons (sl_congr (by first | rfl | exact congrArg List.length lbA.1.symm | exact congrArg List.length lbB.1.symm | (rw [lbC.1, if_pos c30]; done) | (rw [lbC.1, if_neg c30, List.append_nil]; done))) Has.nil))) ⟨(by (try dsimp only); have h9 := rd_dropN (k := 1) (c := ca) encP_len hi0_l4 (by omega) (by omega); rwa [List.drop_drop] at h9), (by (try dsimp only); have h9 := rd_dropN (k := 1) (c := cb) encP_len hi1_l4 (by omega) (by omega); rwa [List.drop_drop] at h9), (by (try dsimp only); have h7 := hi2_l4; have h6 := hA0; have h5 := hB0; simp only [List.length_drop] at h7 h6 h5 ⊢; omega), (lbC.2.1), (lbC.2.2.1), (lbC.2.2.2), (hMn11.pick [1] (by decide) rfl)⟩
                  · refine C.skip ?_
                    refine C.draws (fun w2 => Mem w w2 [] [[⟨.slice (A2) ((lbU a b lo).length) (c2), 34, 3, ((lbU a b lo).length), (lbU a b lo).flatMap encG⟩]]) mixed (by kernel_rfl) (hM5d.ext (kdrawn _)) ?_
                    refine QO.val (v := .slice (Aa) ((a.drop i).length) (ca)) rfl (fun w2 hw2 => Ru.move rfl) rfl ?_
                    refine QO.val (v := .slice (if ca = 1 then Aa else ofs (Aa) (1 * 2)) ((((a).drop (i)).drop (1)).length) (ca - 1)) rfl (fun w2 hw2 => Ru.congr (v := .slice (if ca = 1 then Aa else ofs (Aa) (1 * 2)) (((a.drop i).length) - 1) (ca - 1)) (v' := .slice (if ca = 1 then Aa else ofs (Aa) (1 * 2)) ((((a).drop (i)).drop (1)).length) (ca - 1)) (Ru.lsliceFrom (l := 1) Try.underlying36 el53 rfl rfl (by omega) (by omega)) (sl_congr (by first | rfl | (simp; done) | omega | (simp; omega)))) rfl ?_
                    refine QO.val (v := .slice (Ab) ((b.drop j).length) (cb)) rfl (fun w2 hw2 => Ru.move rfl) rfl ?_
                    refine QO.val (v := .slice (if cb = 1 then Ab else ofs (Ab) (1 * 2)) ((((b).drop (j)).drop (1)).length) (cb - 1)) rfl (fun w2 hw2 => Ru.congr (v := .slice (if cb = 1 then Ab else ofs (Ab) (1 * 2)) (((b.drop j).length) - 1) (cb - 1)) (v' := .slice (if cb = 1 then Ab else ofs (Ab) (1 * 2)) ((((b).drop (j)).drop (1)).length) (cb - 1)) (Ru.lsliceFrom (l := 1) Try.underlying36 el53 rfl rfl (by omega) (by omega)) (sl_congr (by first | rfl | (simp; done) | omega | (simp; omega)))) rfl ?_
                    refine QO.val (v := .slice (if ca = 1 then Aa else ofs (Aa) (1 * 2)) ((((a).drop (i)).drop (1)).length) (ca - 1)) rfl (fun w2 hw2 => Ru.assign rfl) rfl ?_
                    refine QO.val (v := .slice (if cb = 1 then Ab else ofs (Ab) (1 * 2)) ((((b).drop (j)).drop (1)).length) (cb - 1)) rfl (fun w2 hw2 => Ru.assign rfl) rfl ?_
                    refine QO.nil ?_
                    intro w7d hM7d
                    have hq12 : (lbU a b lo : List RecT) = lbU a b (((b.drop j)[0]'hB0).key.toNat + 1) := (by rw [lbC.1, if_neg c30, List.append_nil])
                    have hMn12 : Mem w w7d [] [[⟨.slice (A2) ((lbU a b (((b.drop j)[0]'hB0).key.toNat + 1)).length) (c2), 34, 3, ((lbU a b (((b.drop j)[0]'hB0).key.toNat + 1)).length), (lbU a b (((b.drop j)[0]'hB0).key.toNat + 1)).flatMap encG⟩]] := hM7d.relen 0 (n' := (lbU a b (((b.drop j)[0]'hB0).key.toNat + 1)).length) (xs' := (lbU a b (((b.drop j)[0]'hB0).key.toNat + 1)).flatMap encG) rfl (by first | rfl | exact congrArg List.length hq12 | (have hqq := congrArg List.length hq12; first | omega | (simp at hqq ⊢; omega)) | (simp; done) | (simp; omega)) (congrArg (fun z_ => (z_).flatMap encG) hq12) rfl
                    simp only [blkQ]
                    exact loopEnd (((((b.drop j)[0]'hB0).key.toNat + 1), (i + 1), (j + 1), (if ca = 1 then Aa else ofs (Aa) (1 * 2)), (ca - 1), (if cb = 1 then Ab else ofs (Ab) (1 * 2)), (cb - 1), A2, c2) : Nat × Nat × Nat × (Option Addr) × Nat × (Option Addr) × Nat × (Option Addr) × Nat) (by (try dsimp only); simp only [List.length_drop] at *; omega) (Has.cons (sl_congr (by simp; try omega)) (Has.cons (sl_congr (by simp; try omega)) (Has.cons (sl_congr (by first | rfl | exact congrArg List.length lbA.1.symm | exact congrArg List.length lbB.1.symm | (rw [lbC.1, if_pos c30]; done) | (rw [lbC.1, if_neg c30, List.append_nil]; done))) Has.nil))) ⟨(by (try dsimp only); have h9 := rd_dropN (k := 1) (c := ca) encP_len hi0_l4 (by omega) (by omega); rwa [List.drop_drop] at h9), (by (try dsimp only); have h9 := rd_dropN (k := 1) (c := cb) encP_len hi1_l4 (by omega) (by omega); rwa [List.drop_drop] at h9), (by (try dsimp only); have h7 := hi2_l4; have h6 := hA0; have h5 := hB0; simp only [List.length_drop] at h7 h6 h5 ⊢; omega), (lbC.2.1), (lbC.2.2.1), (lbC.2.2.2), (hMn12.pick [0] (by decide) rfl)⟩
          · refine QO.pass rfl rfl rfl rfl rfl ?_
            refine QO.pass rfl rfl rfl rfl rfl ?_
            refine QO.pass rfl rfl rfl rfl rfl ?_
            refine QO.pass rfl rfl rfl rfl rfl ?_
            refine QO.pass rfl rfl rfl rfl rfl ?_
            refine QO.pass rfl rfl rfl rfl rfl ?_
            refine QO.pass rfl rfl rfl rfl rfl ?_
            refine QO.pass rfl rfl rfl rfl rfl ?_
            refine QO.pass rfl rfl rfl rfl rfl ?_
            refine QO.val (v := .bool (false)) rfl (fun w2 hw2 => Ru.pickF rfl rfl) rfl ?_
            refine QO.val (v := .bool (false)) rfl (fun w2 hw2 => Ru.pickF rfl rfl) rfl ?_
            refine QO.val (v := .bool (false)) rfl (fun w2 hw2 => Ru.assign rfl) rfl ?_
            refine QO.nil ?_
            intro w8d hM8d
            refine C.condF rfl ?_
            refine C.seq ?_
            refine C.draws (fun w2 => Mem w w2 [] [[⟨.slice (A2) ((lbU a b lo).length) (c2), 34, 3, ((lbU a b lo).length), (lbU a b lo).flatMap encG⟩]]) mixed (by kernel_rfl) (hM8d.ext (kdrawn _)) ?_
            refine QO.val (v := .slice (Aa) ((a.drop i).length) (ca)) rfl (fun w2 hw2 => Ru.move rfl) rfl ?_
            refine QO.val (v := I ((((a.drop i).length : Nat) : Int))) rfl (fun w2 hw2 => Ru.blenSlice Try.underlying36 rfl) rfl ?_
            refine QO.val (v := .bool (decide ((((a.drop i).length : Nat) : Int) = 0))) rfl (fun w2 hw2 => Ru.eql rfl rfl) rfl ?_
            refine QO.val (v := .bool (decide ((((a.drop i).length : Nat) : Int) = 0))) rfl (fun w2 hw2 => Ru.move rfl) rfl ?_
            refine QO.partp 81 ((((a.drop i).length : Nat) : Int) = 0) rfl (fun g81 => ?_) (fun g81 => ?_)
            · refine QO.pass rfl rfl rfl rfl rfl ?_
              refine QO.pass rfl rfl rfl rfl rfl ?_
              refine QO.pass rfl rfl rfl rfl rfl ?_
              refine QO.pass rfl rfl rfl rfl rfl ?_
              refine QO.pass rfl rfl rfl rfl rfl ?_
              refine QO.pass rfl rfl rfl rfl rfl ?_
              refine QO.pass rfl rfl rfl rfl rfl ?_
              refine QO.pass rfl rfl rfl rfl rfl ?_
              refine QO.pass rfl rfl rfl rfl rfl ?_
              refine QO.val (v := .bool (true)) rfl (fun w2 hw2 => Ru.pickT rfl rfl) rfl ?_
              refine QO.val (v := .bool (true)) rfl (fun w2 hw2 => Ru.assign rfl) rfl ?_
              refine QO.nil ?_
              intro w11d hM11d
              refine C.condT rfl ?_
              refine C.seq ?_
              have hB0 : 0 < (b.drop j).length := by omega
              have lbB := lb_B2 hva hvb hi3_l4 hi4_l4 hB0 (fun h9 => by first | exact c77 | (exfalso; omega))
              refine C.any (f := 13) (ls := [false, false, false, false, false, false, false, false, false, false, false, false, false]) (fun w2 => Mem w w2 [] []) mixed rfl rfl (fun w2 hw2 => Mem0.ext (Mem.none hM11d) hw2) (fun w12a hE12a => ?_)
              have hM12a : Mem w w12a [] [[⟨.slice (A2) ((lbU a b lo).length) (c2), 34, 3, ((lbU a b lo).length), (lbU a b lo).flatMap encG⟩]] := Mem0.ext hM11d hE12a
              refine AO.val (v := .slice (A2) ((lbU a b lo).length) (c2)) 0 (ls' := [true, false, false, false, false, false, false, false, false, false, false, false, false]) rfl (by kernel_rfl) rfl rfl (fun w2 hw2 => Ru.move rfl) rfl ?_
              refine AO.val (v := .slice (Ab) ((b.drop j).length) (cb)) 1 (ls' := [true, true, false, false, false, false, false, false, false, false, false, false, false]) rfl (by kernel_rfl) rfl rfl (fun w2 hw2 => Ru.move rfl) rfl ?_
              have hx12_2 : 0 < ((b).drop (j)).length := (by first | omega | (simp; omega))
              refine AO.val (v := .pointer (ofs (Ab) (0 * 2))) 2 (ls' := [true, true, true, false, false, false, false, false, false, false, false, false, false]) rfl (by kernel_rfl) rfl rfl (fun w2 hw2 => Ru.indexA (j := 0) Try.underlying36 el53 rfl rfl (smf encP_len (hi1_l4.at hM12a) hx12_2 rfl) (by omega) (by first | omega | (simp; omega))) rfl ?_
              refine AO.val (v := .pointer (ofs (Ab) (0 * 2 + 0))) 3 (ls' := [true, true, true, true, false, false, false, false, false, false, false, false, false]) rfl (by kernel_rfl) rfl rfl (fun w2 hw2 => Ru.fieldA fl53_0 rfl (smf encP_len (hi1_l4.at hM12a) hx12_2 rfl)) rfl ?_
              refine AO.val (v := I ((((b).drop (j))[0]'hx12_2).key)) 4 (ls' := [true, true, true, true, true, false, false, false, false, false, false, false, false]) rfl (by kernel_rfl) rfl rfl (fun w2 hw2 => Ru.load1 el3 rfl (ldf encP_len (hi1_l4.at hw2) hx12_2 rfl)) rfl ?_
              refine AO.val (v := .slice (Ab) ((b.drop j).length) (cb)) 5 (ls' := [true, true, true, true, true, true, false, false, false, false, false, false, false]) rfl (by kernel_rfl) rfl rfl (fun w2 hw2 => Ru.move rfl) rfl ?_
              have hx12_6 : 0 < ((b).drop (j)).length := (by first | omega | (simp; omega))
              refine AO.val (v := .pointer (ofs (Ab) (0 * 2))) 6 (ls' := [true, true, true, true, true, true, true, false, false, false, false, false, false]) rfl (by kernel_rfl) rfl rfl (fun w2 hw2 => Ru.indexA (j := 0) Try.underlying36 el53 rfl rfl (smf encP_len (hi1_l4.at hM12a) hx12_6 rfl) (by omega) (by first | omega | (simp; omega))) rfl ?_
              refine AO.val (v := .pointer (ofs (Ab) (0 * 2 + 1))) 7 (ls' := [true, true, true, true, true, true, true, true, false, false, false, false, false]) rfl (by kernel_rfl) rfl rfl (fun w2 hw2 => Ru.fieldA fl53_1 rfl (smf encP_len (hi1_l4.at hM12a) hx12_6 rfl)) rfl ?_
              refine AO.val (v := I ((((b).drop (j))[0]'hx12_6).val)) 8 (ls' := [true, true, true, true, true, true, true, true, true, false, false, false, false]) rfl (by kernel_rfl) rfl rfl (fun w2 hw2 => Ru.load1 el3 rfl (ldf encP_len (hi1_l4.at hw2) hx12_6 rfl)) rfl ?_
              refine AO.val (v := .agg #[I (1), I ((((b).drop (j))[0]'hx12_2).key), I ((((b).drop (j))[0]'hx12_6).val)]) 9 (ls' := [true, true, true, true, true, true, true, true, true, true, false, false, false]) rfl (by kernel_rfl) rfl rfl (fun w2 hw2 => Ru.build of34 rfl rfl rfl) rfl ?_
              refine AO.one 10 (by kernel_rfl) ?_
              refine step1 (ls' := [true, true, true, true, true, true, true, true, true, true, true, false, false]) rfl rfl ?_
              refine O.mlit (sz := 3) (cs := [I (1), I ((((b).drop (j))[0]'hx12_2).key), I ((((b).drop (j))[0]'hx12_6).val)]) hM12a rfl Try.underlying23 el34 rfl rfl rfl (by kernel_rfl) (by kernel_rfl) rfl rfl (fun w12_10 b12_10 hb12_10 (hM12_10 : Mem w w12_10 [] [[⟨.slice (bl b12_10) (1) (1), 34, 3, 1, ([(⟨1, (((b).drop (j))[0]'hx12_2).key, (((b).drop (j))[0]'hx12_6).val⟩ : RecT)]).flatMap encG⟩], [⟨.slice (A2) ((lbU a b lo).length) (c2), 34, 3, ((lbU a b lo).length), (lbU a b lo).flatMap encG⟩]]) => ?_)
              refine O.stop (Mem.none hM12_10) ?_
              refine AO.one 11 (by kernel_rfl) ?_
              refine step1 (ls' := [true, true, true, true, true, true, true, true, true, true, true, true, false]) rfl rfl ?_
              refine O.mappend (sz := 3) (news := ([(⟨1, (((b).drop (j))[0]'hx12_2).key, (((b).drop (j))[0]'hx12_6).val⟩ : RecT)]).flatMap encG) (m1 := (lbU a b lo ++ [(⟨1, (((b).drop (j))[0]'hx12_2).key, (((b).drop (j))[0]'hx12_6).val⟩ : RecT)]).length) (xs1 := (lbU a b lo ++ [(⟨1, (((b).drop (j))[0]'hx12_2).key, (((b).drop (j))[0]'hx12_6).val⟩ : RecT)]).flatMap encG) (M' := fun A12_11 c12_11 => [[⟨.slice (bl b12_10) (1) (1), 34, 3, 1, ([(⟨1, (((b).drop (j))[0]'hx12_2).key, (((b).drop (j))[0]'hx12_6).val⟩ : RecT)]).flatMap encG⟩], [⟨.slice (A12_11) ((lbU a b lo ++ [(⟨1, (((b).drop (j))[0]'hx12_2).key, (((b).drop (j))[0]'hx12_6).val⟩ : RecT)]).length) (c12_11), 34, 3, ((lbU a b lo ++ [(⟨1, (((b).drop (j))[0]'hx12_2).key, (((b).drop (j))[0]'hx12_6).val⟩ : RecT)]).length), (lbU a b lo ++ [(⟨1, (((b).drop (j))[0]'hx12_2).key, (((b).drop (j))[0]'hx12_6).val⟩ : RecT)]).flatMap encG⟩]]) 1 0 hM12_10 rfl rfl rfl Try.underlying23 el34 ⟨rfl, by decide⟩ rfl rfl rfl (hM12_10.rd 0 rfl) (by rw [flat_len encG_len]; first | done | (simp; done) | (simp; omega)) (all_flat_one (fun _ => rfl) _) (by first | omega | (simp; omega)) (by first | omega | (simp; omega)) (by first | (simp; done) | (simp; omega)) (by simp) (fun _ _ => rfl) (fun w12_11 A12_11 c12_11 hc12_11 hM12_11 => ?_)
              try dsimp only at hM12_11
              refine O.stop (Mem.none hM12_11) ?_
              refine AO.val (v := .slice (A12_11) ((lbU a b lo ++ [(⟨1, (((b).drop (j))[0]'hx12_2).key, (((b).drop (j))[0]'hx12_6).val⟩ : RecT)]).length) (c12_11)) 12 (ls' := [true, true, true, true, true, true, true, true, true, true, true, true, true]) rfl (by kernel_rfl) rfl rfl (fun w2 hw2 => Ru.assign rfl) rfl ?_
              refine AO.nil (by kernel_rfl) ?_
              refine C.region ?_
              refine O.val (v := .slice (Ab) ((b.drop j).length) (cb)) rfl (Ru.move rfl) rfl ?_
              refine O.val (v := .slice (if cb = 1 then Ab else ofs (Ab) (1 * 2)) ((((b).drop (j)).drop (1)).length) (cb - 1)) rfl (Ru.congr (v := .slice (if cb = 1 then Ab else ofs (Ab) (1 * 2)) (((b.drop j).length) - 1) (cb - 1)) (v' := .slice (if cb = 1 then Ab else ofs (Ab) (1 * 2)) ((((b).drop (j)).drop (1)).length) (cb - 1)) (Ru.lsliceFrom (l := 1) Try.underlying36 el53 rfl rfl (by omega) (by omega)) (sl_congr (by first | rfl | (simp; done) | omega | (simp; omega)))) rfl ?_
              refine O.val (v := .slice (if cb = 1 then Ab else ofs (Ab) (1 * 2)) ((((b).drop (j)).drop (1)).length) (cb - 1)) rfl (Ru.assign rfl) rfl ?_
              refine O.nil ?_
              have hq13 : (lbU a b lo ++ [(⟨1, (((b).drop (j))[0]'hx12_2).key, (((b).drop (j))[0]'hx12_6).val⟩ : RecT)] : List RecT) = lbU a b (((b.drop j)[0]'hB0).key.toNat + 1) := lbB.1.symm
              have hMn13 : Mem w w12_11 [] [[⟨.slice (bl b12_10) (1) (1), 34, 3, 1, ([(⟨1, (((b).drop (j))[0]'hx12_2).key, (((b).drop (j))[0]'hx12_6).val⟩ : RecT)]).flatMap encG⟩], [⟨.slice (A12_11) ((lbU a b (((b.drop j)[0]'hB0).key.toNat + 1)).length) (c12_11), 34, 3, ((lbU a b (((b.drop j)[0]'hB0).key.toNat + 1)).length), (lbU a b (((b.drop j)[0]'hB0).key.toNat + 1)).flatMap encG⟩]] := hM12_11.relen 1 (n' := (lbU a b (((b.drop j)[0]'hB0).key.toNat + 1)).length) (xs' := (lbU a b (((b.drop j)[0]'hB0).key.toNat + 1)).flatMap encG) rfl (by first | rfl | exact congrArg List.length hq13 | (have hqq := congrArg List.length hq13; first | omega | (simp at hqq ⊢; omega)) | (simp; done) | (simp; omega)) (congrArg (fun z_ => (z_).flatMap encG) hq13) rfl
              simp only [blkQ]
              exact loopEnd (((((b.drop j)[0]'hB0).key.toNat + 1), i, (j + 1), Aa, ca, (if cb = 1 then Ab else ofs (Ab) (1 * 2)), (cb - 1), A12_11, c12_11) : Nat × Nat × Nat × (Option Addr) × Nat × (Option Addr) × Nat × (Option Addr) × Nat) (by (try dsimp only); simp only [List.length_drop] at *; omega) (Has.cons (sl_congr (by simp; try omega)) (Has.cons (sl_congr (by simp; try omega)) (Has.cons (sl_congr (by first | rfl | exact congrArg List.length lbA.1.symm | exact congrArg List.length lbB.1.symm | (rw [lbC.1, if_pos c30]; done) | (rw [lbC.1, if_neg c30, List.append_nil]; done))) Has.nil))) ⟨hi0_l4, (by (try dsimp only); have h9 := rd_dropN (k := 1) (c := cb) encP_len hi1_l4 (by omega) (by omega); rwa [List.drop_drop] at h9), (by (try dsimp only); have h7 := hi2_l4; have h6 := hB0; have h5 := hB0; simp only [List.length_drop] at h7 h6 h5 ⊢; omega), (lbB.2.1), (lbB.2.2.1), (lbB.2.2.2), (hMn13.pick [1] (by decide) rfl)⟩
            · refine QO.val (v := .slice (Ab) ((b.drop j).length) (cb)) rfl (fun w2 hw2 => Ru.move rfl) rfl ?_
              have hx11_5 : 0 < ((b).drop (j)).length := (by first | omega | (simp; omega))
              refine QO.val (v := .pointer (ofs (Ab) (0 * 2))) rfl (fun w2 hw2 => Ru.indexA (j := 0) Try.underlying36 el53 rfl rfl (smf encP_len (hi1_l4.at hw2) hx11_5 rfl) (by omega) (by first | omega | (simp; omega))) rfl ?_
              refine QO.val (v := .pointer (ofs (Ab) (0 * 2 + 0))) rfl (fun w2 hw2 => Ru.fieldA fl53_0 rfl (smf encP_len (hi1_l4.at hw2) hx11_5 rfl)) rfl ?_
              refine QO.val rfl (fun w2 hw2 => Ru.load1 el3 rfl (ldf encP_len (hi1_l4.at hw2) hx11_5 rfl)) rfl ?_
              refine QO.val (v := .slice (Aa) ((a.drop i).length) (ca)) rfl (fun w2 hw2 => Ru.move rfl) rfl ?_
              have hx11_9 : 0 < ((a).drop (i)).length := (by first | omega | (simp; omega))
              refine QO.val (v := .pointer (ofs (Aa) (0 * 2))) rfl (fun w2 hw2 => Ru.indexA (j := 0) Try.underlying36 el53 rfl rfl (smf encP_len (hi0_l4.at hw2) hx11_9 rfl) (by omega) (by first | omega | (simp; omega))) rfl ?_
              refine QO.val (v := .pointer (ofs (Aa) (0 * 2 + 0))) rfl (fun w2 hw2 => Ru.fieldA fl53_0 rfl (smf encP_len (hi0_l4.at hw2) hx11_9 rfl)) rfl ?_
              refine QO.val rfl (fun w2 hw2 => Ru.load1 el3 rfl (ldf encP_len (hi0_l4.at hw2) hx11_9 rfl)) rfl ?_
              refine QO.val (v := .bool (decide ((((b).drop (j))[0]'hx11_5).key < (((a).drop (i))[0]'hx11_9).key))) rfl (fun w2 hw2 => Ru.lss rfl rfl) rfl ?_
              refine QO.val (v := .bool (decide ((((b).drop (j))[0]'hx11_5).key < (((a).drop (i))[0]'hx11_9).key))) rfl (fun w2 hw2 => Ru.pickF rfl rfl) rfl ?_
              refine QO.val (v := .bool (decide ((((b).drop (j))[0]'hx11_5).key < (((a).drop (i))[0]'hx11_9).key))) rfl (fun w2 hw2 => Ru.assign rfl) rfl ?_
              refine QO.nil ?_
              intro w11d hM11d
              refine C.cond (p := (((b).drop (j))[0]'hx11_5).key < (((a).drop (i))[0]'hx11_9).key) rfl (fun c77 => ?_) (fun c77 => ?_)
              · refine C.seq ?_
                have hB0 : 0 < (b.drop j).length := by omega
                have lbB := lb_B2 hva hvb hi3_l4 hi4_l4 hB0 (fun h9 => by first | exact c77 | (exfalso; omega))
                refine C.any (f := 13) (ls := [false, false, false, false, false, false, false, false, false, false, false, false, false]) (fun w2 => Mem w w2 [] []) mixed rfl rfl (fun w2 hw2 => Mem0.ext (Mem.none hM11d) hw2) (fun w12a hE12a => ?_)
                have hM12a : Mem w w12a [] [[⟨.slice (A2) ((lbU a b lo).length) (c2), 34, 3, ((lbU a b lo).length), (lbU a b lo).flatMap encG⟩]] := Mem0.ext hM11d hE12a
                refine AO.val (v := .slice (A2) ((lbU a b lo).length) (c2)) 0 (ls' := [true, false, false, false, false, false, false, false, false, false, false, false, false]) rfl (by kernel_rfl) rfl rfl (fun w2 hw2 => Ru.move rfl) rfl ?_
                refine AO.val (v := .slice (Ab) ((b.drop j).length) (cb)) 1 (ls' := [true, true, false, false, false, false, false, false, false, false, false, false, false]) rfl (by kernel_rfl) rfl rfl (fun w2 hw2 => Ru.move rfl) rfl ?_
                have hx12_2 : 0 < ((b).drop (j)).length := (by first | omega | (simp; omega))
                refine AO.val (v := .pointer (ofs (Ab) (0 * 2))) 2 (ls' := [true, true, true, false, false, false, false, false, false, false, false, false, false]) rfl (by kernel_rfl) rfl rfl (fun w2 hw2 => Ru.indexA (j := 0) Try.underlying36 el53 rfl rfl (smf encP_len (hi1_l4.at hM12a) hx12_2 rfl) (by omega) (by first | omega | (simp; omega))) rfl ?_
                refine AO.val (v := .pointer (ofs (Ab) (0 * 2 + 0))) 3 (ls' := [true, true, true, true, false, false, false, false, false, false, false, false, false]) rfl (by kernel_rfl) rfl rfl (fun w2 hw2 => Ru.fieldA fl53_0 rfl (smf encP_len (hi1_l4.at hM12a) hx12_2 rfl)) rfl ?_
                refine AO.val (v := I ((((b).drop (j))[0]'hx12_2).key)) 4 (ls' := [true, true, true, true, true, false, false, false, false, false, false, false, false]) rfl (by kernel_rfl) rfl rfl (fun w2 hw2 => Ru.load1 el3 rfl (ldf encP_len (hi1_l4.at hw2) hx12_2 rfl)) rfl ?_
                refine AO.val (v := .slice (Ab) ((b.drop j).length) (cb)) 5 (ls' := [true, true, true, true, true, true, false, false, false, false, false, false, false]) rfl (by kernel_rfl) rfl rfl (fun w2 hw2 => Ru.move rfl) rfl ?_
                have hx12_6 : 0 < ((b).drop (j)).length := (by first | omega | (simp; omega))
                refine AO.val (v := .pointer (ofs (Ab) (0 * 2))) 6 (ls' := [true, true, true, true, true, true, true, false, false, false, false, false, false]) rfl (by kernel_rfl) rfl rfl (fun w2 hw2 => Ru.indexA (j := 0) Try.underlying36 el53 rfl rfl (smf encP_len (hi1_l4.at hM12a) hx12_6 rfl) (by omega) (by first | omega | (simp; omega))) rfl ?_
                refine AO.val (v := .pointer (ofs (Ab) (0 * 2 + 1))) 7 (ls' := [true, true, true, true, true, true, true, true, false, false, false, false, false]) rfl (by kernel_rfl) rfl rfl (fun w2 hw2 => Ru.fieldA fl53_1 rfl (smf encP_len (hi1_l4.at hM12a) hx12_6 rfl)) rfl ?_
                refine AO.val (v := I ((((b).drop (j))[0]'hx12_6).val)) 8 (ls' := [true, true, true, true, true, true, true, true, true, false, false, false, false]) rfl (by kernel_rfl) rfl rfl (fun w2 hw2 => Ru.load1 el3 rfl (ldf encP_len (hi1_l4.at hw2) hx12_6 rfl)) rfl ?_
                refine AO.val (v := .agg #[I (1), I ((((b).drop (j))[0]'hx12_2).key), I ((((b).drop (j))[0]'hx12_6).val)]) 9 (ls' := [true, true, true, true, true, true, true, true, true, true, false, false, false]) rfl (by kernel_rfl) rfl rfl (fun w2 hw2 => Ru.build of34 rfl rfl rfl) rfl ?_
                refine AO.one 10 (by kernel_rfl) ?_
                refine step1 (ls' := [true, true, true, true, true, true, true, true, true, true, true, false, false]) rfl rfl ?_
                refine O.mlit (sz := 3) (cs := [I (1), I ((((b).drop (j))[0]'hx12_2).key), I ((((b).drop (j))[0]'hx12_6).val)]) hM12a rfl Try.underlying23 el34 rfl rfl rfl (by kernel_rfl) (by kernel_rfl) rfl rfl (fun w12_10 b12_10 hb12_10 (hM12_10 : Mem w w12_10 [] [[⟨.slice (bl b12_10) (1) (1), 34, 3, 1, ([(⟨1, (((b).drop (j))[0]'hx12_2).key, (((b).drop (j))[0]'hx12_6).val⟩ : RecT)]).flatMap encG⟩], [⟨.slice (A2) ((lbU a b lo).length) (c2), 34, 3, ((lbU a b lo).length), (lbU a b lo).flatMap encG⟩]]) => ?_)
                refine O.stop (Mem.none hM12_10) ?_
                refine AO.one 11 (by kernel_rfl) ?_
                refine step1 (ls' := [true, true, true, true, true, true, true, true, true, true, true, true, false]) rfl rfl ?_
                refine O.mappend (sz := 3) (news := ([(⟨1, (((b).drop (j))[0]'hx12_2).key, (((b).drop (j))[0]'hx12_6).val⟩ : RecT)]).flatMap encG) (m1 := (lbU a b lo ++ [(⟨1, (((b).drop (j))[0]'hx12_2).key, (((b).drop (j))[0]'hx12_6).val⟩ : RecT)]).length) (xs1 := (lbU a b lo ++ [(⟨1, (((b).drop (j))[0]'hx12_2).key, (((b).drop (j))[0]'hx12_6).val⟩ : RecT)]).flatMap encG) (M' := fun A12_11 c12_11 => [[⟨.slice (bl b12_10) (1) (1), 34, 3, 1, ([(⟨1, (((b).drop (j))[0]'hx12_2).key, (((b).drop (j))[0]'hx12_6).val⟩ : RecT)]).flatMap encG⟩], [⟨.slice (A12_11) ((lbU a b lo ++ [(⟨1, (((b).drop (j))[0]'hx12_2).key, (((b).drop (j))[0]'hx12_6).val⟩ : RecT)]).length) (c12_11), 34, 3, ((lbU a b lo ++ [(⟨1, (((b).drop (j))[0]'hx12_2).key, (((b).drop (j))[0]'hx12_6).val⟩ : RecT)]).length), (lbU a b lo ++ [(⟨1, (((b).drop (j))[0]'hx12_2).key, (((b).drop (j))[0]'hx12_6).val⟩ : RecT)]).flatMap encG⟩]]) 1 0 hM12_10 rfl rfl rfl Try.underlying23 el34 ⟨rfl, by decide⟩ rfl rfl rfl (hM12_10.rd 0 rfl) (by rw [flat_len encG_len]; first | done | (simp; done) | (simp; omega)) (all_flat_one (fun _ => rfl) _) (by first | omega | (simp; omega)) (by first | omega | (simp; omega)) (by first | (simp; done) | (simp; omega)) (by simp) (fun _ _ => rfl) (fun w12_11 A12_11 c12_11 hc12_11 hM12_11 => ?_)
                try dsimp only at hM12_11
                refine O.stop (Mem.none hM12_11) ?_
                refine AO.val (v := .slice (A12_11) ((lbU a b lo ++ [(⟨1, (((b).drop (j))[0]'hx12_2).key, (((b).drop (j))[0]'hx12_6).val⟩ : RecT)]).length) (c12_11)) 12 (ls' := [true, true, true, true, true, true, true, true, true, true, true, true, true]) rfl (by kernel_rfl) rfl rfl (fun w2 hw2 => Ru.assign rfl) rfl ?_
                refine AO.nil (by kernel_rfl) ?_
                refine C.region ?_
                refine O.val (v := .slice (Ab) ((b.drop j).length) (cb)) rfl (Ru.move rfl) rfl ?_
                refine O.val (v := .slice (if cb = 1 then Ab else ofs (Ab) (1 * 2)) ((((b).drop (j)).drop (1)).length) (cb - 1)) rfl (Ru.congr (v := .slice (if cb = 1 then Ab else ofs (Ab) (1 * 2)) (((b.drop j).length) - 1) (cb - 1)) (v' := .slice (if cb = 1 then Ab else ofs (Ab) (1 * 2)) ((((b).drop (j)).drop (1)).length) (cb - 1)) (Ru.lsliceFrom (l := 1) Try.underlying36 el53 rfl rfl (by omega) (by omega)) (sl_congr (by first | rfl | (simp; done) | omega | (simp; omega)))) rfl ?_
                refine O.val (v := .slice (if cb = 1 then Ab else ofs (Ab) (1 * 2)) ((((b).drop (j)).drop (1)).length) (cb - 1)) rfl (Ru.assign rfl) rfl ?_
                refine O.nil ?_
                have hq14 : (lbU a b lo ++ [(⟨1, (((b).drop (j))[0]'hx12_2).key, (((b).drop (j))[0]'hx12_6).val⟩ : RecT)] : List RecT) = lbU a b (((b.drop j)[0]'hB0).key.toNat + 1) := lbB.1.symm
                have hMn14 : Mem w w12_11 [] [[⟨.slice (bl b12_10) (1) (1), 34, 3, 1, ([(⟨1, (((b).drop (j))[0]'hx12_2).key, (((b).drop (j))[0]'hx12_6).val⟩ : RecT)]).flatMap encG⟩], [⟨.slice (A12_11) ((lbU a b (((b.drop j)[0]'hB0).key.toNat + 1)).length) (c12_11), 34, 3, ((lbU a b (((b.drop j)[0]'hB0).key.toNat + 1)).length), (lbU a b (((b.drop j)[0]'hB0).key.toNat + 1)).flatMap encG⟩]] := hM12_11.relen 1 (n' := (lbU a b (((b.drop j)[0]'hB0).key.toNat + 1)).length) (xs' := (lbU a b (((b.drop j)[0]'hB0).key.toNat + 1)).flatMap encG) rfl (by first | rfl | exact congrArg List.length hq14 | (have hqq := congrArg List.length hq14; first | omega | (simp at hqq ⊢; omega)) | (simp; done) | (simp; omega)) (congrArg (fun z_ => (z_).flatMap encG) hq14) rfl
                simp only [blkQ]
                exact loopEnd (((((b.drop j)[0]'hB0).key.toNat + 1), i, (j + 1), Aa, ca, (if cb = 1 then Ab else ofs (Ab) (1 * 2)), (cb - 1), A12_11, c12_11) : Nat × Nat × Nat × (Option Addr) × Nat × (Option Addr) × Nat × (Option Addr) × Nat) (by (try dsimp only); simp only [List.length_drop] at *; omega) (Has.cons (sl_congr (by simp; try omega)) (Has.cons (sl_congr (by simp; try omega)) (Has.cons (sl_congr (by first | rfl | exact congrArg List.length lbA.1.symm | exact congrArg List.length lbB.1.symm | (rw [lbC.1, if_pos c30]; done) | (rw [lbC.1, if_neg c30, List.append_nil]; done))) Has.nil))) ⟨hi0_l4, (by (try dsimp only); have h9 := rd_dropN (k := 1) (c := cb) encP_len hi1_l4 (by omega) (by omega); rwa [List.drop_drop] at h9), (by (try dsimp only); have h7 := hi2_l4; have h6 := hB0; have h5 := hB0; simp only [List.length_drop] at h7 h6 h5 ⊢; omega), (lbB.2.1), (lbB.2.2.1), (lbB.2.2.2), (hMn14.pick [1] (by decide) rfl)⟩
              · refine C.seq ?_
                refine C.seq ?_
                have hA0 : 0 < (a.drop i).length := by omega
                have hB0 : 0 < (b.drop j).length := by omega
                have lbC := lb_C2 hva hvb hi3_l4 hi4_l4 hA0 hB0 (by omega)
                refine C.draws (fun w2 => Mem w w2 [] [[⟨.slice (A2) ((lbU a b lo).length) (c2), 34, 3, ((lbU a b lo).length), (lbU a b lo).flatMap encG⟩]]) mixed (by kernel_rfl) (hM11d.ext (kdrawn _)) ?_
                refine QO.val (v := .slice (Aa) ((a.drop i).length) (ca)) rfl (fun w2 hw2 => Ru.move rfl) rfl ?_
                have hx5_1 : 0 < ((a).drop (i)).length := (by first | omega | (simp; omega))
                refine QO.val (v := .pointer (ofs (Aa) (0 * 2))) rfl (fun w2 hw2 => Ru.indexA (j := 0) Try.underlying36 el53 rfl rfl (smf encP_len (hi0_l4.at hw2) hx5_1 rfl) (by omega) (by first | omega | (simp; omega))) rfl ?_
                refine QO.val (v := .pointer (ofs (Aa) (0 * 2 + 1))) rfl (fun w2 hw2 => Ru.fieldA fl53_1 rfl (smf encP_len (hi0_l4.at hw2) hx5_1 rfl)) rfl ?_
                refine QO.val rfl (fun w2 hw2 => Ru.load1 el3 rfl (ldf encP_len (hi0_l4.at hw2) hx5_1 rfl)) rfl ?_
                refine QO.val (v := .slice (Ab) ((b.drop j).length) (cb)) rfl (fun w2 hw2 => Ru.move rfl) rfl ?_
                have hx5_5 : 0 < ((b).drop (j)).length := (by first | omega | (simp; omega))
                refine QO.val (v := .pointer (ofs (Ab) (0 * 2))) rfl (fun w2 hw2 => Ru.indexA (j := 0) Try.underlying36 el53 rfl rfl (smf encP_len (hi1_l4.at hw2) hx5_5 rfl) (by omega) (by first | omega | (simp; omega))) rfl ?_
                refine QO.val (v := .pointer (ofs (Ab) (0 * 2 + 1))) rfl (fun w2 hw2 => Ru.fieldA fl53_1 rfl (smf encP_len (hi1_l4.at hw2) hx5_5 rfl)) rfl ?_
                refine QO.val rfl (fun w2 hw2 => Ru.load1 el3 rfl (ldf encP_len (hi1_l4.at hw2) hx5_5 rfl)) rfl ?_
                refine QO.val (v := .bool (decide ((((a).drop (i))[0]'hx5_1).val ≠ (((b).drop (j))[0]'hx5_5).val))) rfl (fun w2 hw2 => Ru.neq rfl rfl) rfl ?_
                refine QO.nil ?_
                intro w5d hM5d
                refine C.cond (p := (((a).drop (i))[0]'hx5_1).val ≠ (((b).drop (j))[0]'hx5_5).val) rfl (fun c30 => ?_) (fun c30 => ?_)
                · refine C.any (f := 13) (ls := [false, false, false, false, false, false, false, false, false, false, false, false, false]) (fun w2 => Mem w w2 [] []) mixed rfl rfl (fun w2 hw2 => Mem0.ext (Mem.none hM5d) hw2) (fun w6a hE6a => ?_)
                  have hM6a : Mem w w6a [] [[⟨.slice (A2) ((lbU a b lo).length) (c2), 34, 3, ((lbU a b lo).length), (lbU a b lo).flatMap encG⟩]] := Mem0.ext hM5d hE6a
                  refine AO.val (v := .slice (A2) ((lbU a b lo).length) (c2)) 0 (ls' := [true, false, false, false, false, false, false, false, false, false, false, false, false]) rfl (by kernel_rfl) rfl rfl (fun w2 hw2 => Ru.move rfl) rfl ?_
                  refine AO.val (v := .slice (Ab) ((b.drop j).length) (cb)) 1 (ls' := [true, true, false, false, false, false, false, false, false, false, false, false, false]) rfl (by kernel_rfl) rfl rfl (fun w2 hw2 => Ru.move rfl) rfl ?_
                  have hx6_2 : 0 < ((b).drop (j)).length := (by first | omega | (simp; omega))
                  refine AO.val (v := .pointer (ofs (Ab) (0 * 2))) 2 (ls' := [true, true, true, false, false, false, false, false, false, false, false, false, false]) rfl (by kernel_rfl) rfl rfl (fun w2 hw2 => Ru.indexA (j := 0) Try.underlying36 el53 rfl rfl (smf encP_len (hi1_l4.at hM6a) hx6_2 rfl) (by omega) (by first | omega | (simp; omega))) rfl ?_
                  refine AO.val (v := .pointer (ofs (Ab) (0 * 2 + 0))) 3 (ls' := [true, true, true, true, false, false, false, false, false, false, false, false, false]) rfl (by kernel_rfl) rfl rfl (fun w2 hw2 => Ru.fieldA fl53_0 rfl (smf encP_len (hi1_l4.at hM6a) hx6_2 rfl)) rfl ?_
                  refine AO.val (v := I ((((b).drop (j))[0]'hx6_2).key)) 4 (ls' := [true, true, true, true, true, false, false, false, false, false, false, false, false]) rfl (by kernel_rfl) rfl rfl (fun w2 hw2 => Ru.load1 el3 rfl (ldf encP_len (hi1_l4.at hw2) hx6_2 rfl)) rfl ?_
                  refine AO.val (v := .slice (Ab) ((b.drop j).length) (cb)) 5 (ls' := [true, true, true, true, true, true, false, false, false, false, false, false, false]) rfl (by kernel_rfl) rfl rfl (fun w2 hw2 => Ru.move rfl) rfl ?_
                  have hx6_6 : 0 < ((b).drop (j)).length := (by first | omega | (simp; omega))
                  refine AO.val (v := .pointer (ofs (Ab) (0 * 2))) 6 (ls' := [true, true, true, true, true, true, true, false, false, false, false, false, false]) rfl (by kernel_rfl) rfl rfl (fun w2 hw2 => Ru.indexA (j := 0) Try.underlying36 el53 rfl rfl (smf encP_len (hi1_l4.at hM6a) hx6_6 rfl) (by omega) (by first | omega | (simp; omega))) rfl ?_
                  refine AO.val (v := .pointer (ofs (Ab) (0 * 2 + 1))) 7 (ls' := [true, true, true, true, true, true, true, true, false, false, false, false, false]) rfl (by kernel_rfl) rfl rfl (fun w2 hw2 => Ru.fieldA fl53_1 rfl (smf encP_len (hi1_l4.at hM6a) hx6_6 rfl)) rfl ?_
                  refine AO.val (v := I ((((b).drop (j))[0]'hx6_6).val)) 8 (ls' := [true, true, true, true, true, true, true, true, true, false, false, false, false]) rfl (by kernel_rfl) rfl rfl (fun w2 hw2 => Ru.load1 el3 rfl (ldf encP_len (hi1_l4.at hw2) hx6_6 rfl)) rfl ?_
                  refine AO.val (v := .agg #[I (1), I ((((b).drop (j))[0]'hx6_2).key), I ((((b).drop (j))[0]'hx6_6).val)]) 9 (ls' := [true, true, true, true, true, true, true, true, true, true, false, false, false]) rfl (by kernel_rfl) rfl rfl (fun w2 hw2 => Ru.build of34 rfl rfl rfl) rfl ?_
                  refine AO.one 10 (by kernel_rfl) ?_
                  refine step1 (ls' := [true, true, true, true, true, true, true, true, true, true, true, false, false]) rfl rfl ?_
                  refine O.mlit (sz := 3) (cs := [I (1), I ((((b).drop (j))[0]'hx6_2).key), I ((((b).drop (j))[0]'hx6_6).val)]) hM6a rfl Try.underlying23 el34 rfl rfl rfl (by kernel_rfl) (by kernel_rfl) rfl rfl (fun w6_10 b6_10 hb6_10 (hM6_10 : Mem w w6_10 [] [[⟨.slice (bl b6_10) (1) (1), 34, 3, 1, ([(⟨1, (((b).drop (j))[0]'hx6_2).key, (((b).drop (j))[0]'hx6_6).val⟩ : RecT)]).flatMap encG⟩], [⟨.slice (A2) ((lbU a b lo).length) (c2), 34, 3, ((lbU a b lo).length), (lbU a b lo).flatMap encG⟩]]) => ?_)
                  refine O.stop (Mem.none hM6_10) ?_
                  refine AO.one 11 (by kernel_rfl) ?_
                  refine step1 (ls' := [true, true, true, true, true, true, true, true, true, true, true, true, false]) rfl rfl ?_
                  refine O.mappend (sz := 3) (news := ([(⟨1, (((b).drop (j))[0]'hx6_2).key, (((b).drop (j))[0]'hx6_6).val⟩ : RecT)]).flatMap encG) (m1 := (lbU a b lo ++ [(⟨1, (((b).drop (j))[0]'hx6_2).key, (((b).drop (j))[0]'hx6_6).val⟩ : RecT)]).length) (xs1 := (lbU a b lo ++ [(⟨1, (((b).drop (j))[0]'hx6_2).key, (((b).drop (j))[0]'hx6_6).val⟩ : RecT)]).flatMap encG) (M' := fun A6_11 c6_11 => [[⟨.slice (bl b6_10) (1) (1), 34, 3, 1, ([(⟨1, (((b).drop (j))[0]'hx6_2).key, (((b).drop (j))[0]'hx6_6).val⟩ : RecT)]).flatMap encG⟩], [⟨.slice (A6_11) ((lbU a b lo ++ [(⟨1, (((b).drop (j))[0]'hx6_2).key, (((b).drop (j))[0]'hx6_6).val⟩ : RecT)]).length) (c6_11), 34, 3, ((lbU a b lo ++ [(⟨1, (((b).drop (j))[0]'hx6_2).key, (((b).drop (j))[0]'hx6_6).val⟩ : RecT)]).length), (lbU a b lo ++ [(⟨1, (((b).drop (j))[0]'hx6_2).key, (((b).drop (j))[0]'hx6_6).val⟩ : RecT)]).flatMap encG⟩]]) 1 0 hM6_10 rfl rfl rfl Try.underlying23 el34 ⟨rfl, by decide⟩ rfl rfl rfl (hM6_10.rd 0 rfl) (by rw [flat_len encG_len]; first | done | (simp; done) | (simp; omega)) (all_flat_one (fun _ => rfl) _) (by first | omega | (simp; omega)) (by first | omega | (simp; omega)) (by first | (simp; done) | (simp; omega)) (by simp) (fun _ _ => rfl) (fun w6_11 A6_11 c6_11 hc6_11 hM6_11 => ?_)
                  try dsimp only at hM6_11
                  refine O.stop (Mem.none hM6_11) ?_
                  refine AO.val (v := .slice (A6_11) ((lbU a b lo ++ [(⟨1, (((b).drop (j))[0]'hx6_2).key, (((b).drop (j))[0]'hx6_6).val⟩ : RecT)]).length) (c6_11)) 12 (ls' := [true, true, true, true, true, true, true, true, true, true, true, true, true]) rfl (by kernel_rfl) rfl rfl (fun w2 hw2 => Ru.assign rfl) rfl ?_
                  refine AO.nil (by kernel_rfl) ?_
                  refine C.draws (fun w2 => Mem w w2 [] [[⟨.slice (bl b6_10) (1) (1), 34, 3, 1, ([(⟨1, (((b).drop (j))[0]'hx6_2).key, (((b).drop (j))[0]'hx6_6).val⟩ : RecT)]).flatMap encG⟩], [⟨.slice (A6_11) ((lbU a b lo ++ [(⟨1, (((b).drop (j))[0]'hx6_2).key, (((b).drop (j))[0]'hx6_6).val⟩ : RecT)]).length) (c6_11), 34, 3, ((lbU a b lo ++ [(⟨1, (((b).drop (j))[0]'hx6_2).key, (((b).drop (j))[0]'hx6_6).val⟩ : RecT)]).length), (lbU a b lo ++ [(⟨1, (((b).drop (j))[0]'hx6_2).key, (((b).drop (j))[0]'hx6_6).val⟩ : RecT)]).flatMap encG⟩]]) mixed (by kernel_rfl) (hM6_11.ext (kdrawn _)) ?_
                  refine QO.val (v := .slice (Aa) ((a.drop i).length) (ca)) rfl (fun w2 hw2 => Ru.move rfl) rfl ?_
                  refine QO.val (v := .slice (if ca = 1 then Aa else ofs (Aa) (1 * 2)) ((((a).drop (i)).drop (1)).length) (ca - 1)) rfl (fun w2 hw2 => Ru.congr (v := .slice (if ca = 1 then Aa else ofs (Aa) (1 * 2)) (((a.drop i).length) - 1) (ca - 1)) (v' := .slice (if ca = 1 then Aa else ofs (Aa) (1 * 2)) ((((a).drop (i)).drop (1)).length) (ca - 1)) (Ru.lsliceFrom (l := 1) Try.underlying36 el53 rfl rfl (by omega) (by omega)) (sl_congr (by first | rfl | (simp; done) | omega | (simp; omega)))) rfl ?_
                  refine QO.val (v := .slice (Ab) ((b.drop j).length) (cb)) rfl (fun w2 hw2 => Ru.move rfl) rfl ?_
                  refine QO.val (v := .slice (if cb = 1 then Ab else ofs (Ab) (1 * 2)) ((((b).drop (j)).drop (1)).length) (cb - 1)) rfl (fun w2 hw2 => Ru.congr (v := .slice (if cb = 1 then Ab else ofs (Ab) (1 * 2)) (((b.drop j).length) - 1) (cb - 1)) (v' := .slice (if cb = 1 then Ab else ofs (Ab) (1 * 2)) ((((b).drop (j)).drop (1)).length) (cb - 1)) (Ru.lsliceFrom (l := 1) Try.underlying36 el53 rfl rfl (by omega) (by omega)) (sl_congr (by first | rfl | (simp; done) | omega | (simp; omega)))) rfl ?_
                  refine QO.val (v := .slice (if ca = 1 then Aa else ofs (Aa) (1 * 2)) ((((a).drop (i)).drop (1)).length) (ca - 1)) rfl (fun w2 hw2 => Ru.assign rfl) rfl ?_
                  refine QO.val (v := .slice (if cb = 1 then Ab else ofs (Ab) (1 * 2)) ((((b).drop (j)).drop (1)).length) (cb - 1)) rfl (fun w2 hw2 => Ru.assign rfl) rfl ?_
                  refine QO.nil ?_
                  intro w7d hM7d
                  have hq15 : (lbU a b lo ++ [(⟨1, (((b).drop (j))[0]'hx6_2).key, (((b).drop (j))[0]'hx6_6).val⟩ : RecT)] : List RecT) = lbU a b (((b.drop j)[0]'hB0).key.toNat + 1) := (by rw [lbC.1, if_pos c30])
                  have hMn15 : Mem w w7d [] [[⟨.slice (bl b6_10) (1) (1), 34, 3, 1, ([(⟨1, (((b).drop (j))[0]'hx6_2).key, (((b).drop (j))[0]'hx6_6).val⟩ : RecT)]).flatMap encG⟩], [⟨.slice (A6_11) ((lbU a b (((b.drop j)[0]'hB0).key.toNat + 1)).length) (c6_11), 34, 3, ((lbU a b (((b.drop j)[0]'hB0).key.toNat + 1)).length), (lbU a b (((b.drop j)[0]'hB0).key.toNat + 1)).flatMap encG⟩]] := hM7d.relen 1 (n' := (lbU a b (((b.drop j)[0]'hB0).key.toNat + 1)).length) (xs' := (lbU a b (((b.drop j)[0]'hB0).key.toNat + 1)).flatMap encG) rfl (by first | rfl | exact congrArg List.length hq15 | (have hqq := congrArg List.length hq15; first | omega | (simp at hqq ⊢; omega)) | (simp; done) | (simp; omega)) (congrArg (fun z_ => (z_).flatMap encG) hq15) rfl
                  simp only [blkQ]
                  exact loopEnd (((((b.drop j)[0]'hB0).key.toNat + 1), (i + 1), (j + 1), (if ca = 1 then Aa else ofs (Aa) (1 * 2)), (ca - 1), (if cb = 1 then Ab else ofs (Ab) (1 * 2)), (cb - 1), A6_11, c6_11) : Nat × Nat × Nat × (Option Addr) × Nat × (Option Addr) × Nat × (Option Addr) × Nat) (by (try dsimp only); simp only [List.length_drop] at *; omega) (Has.cons (sl_congr (by simp; try omega)) (Has.cons (sl_congr (by simp; try omega)) (Has.cons (sl_congr (by first | rfl | exact congrArg List.length lbA.1.symm | exact congrArg List.length lbB.1.symm | (rw [lbC.1, if_pos c30]; done) | (rw [lbC.1, if_neg c30, List.append_nil]; done))) Has.nil))) ⟨(by (try dsimp only); have h9 := rd_dropN (k := 1) (c := ca) encP_len hi0_l4 (by omega) (by omega); rwa [List.drop_drop] at h9), (by (try dsimp only); have h9 := rd_dropN (k := 1) (c := cb) encP_len hi1_l4 (by omega) (by omega); rwa [List.drop_drop] at h9), (by (try dsimp only); have h7 := hi2_l4; have h6 := hA0; have h5 := hB0; simp only [List.length_drop] at h7 h6 h5 ⊢; omega), (lbC.2.1), (lbC.2.2.1), (lbC.2.2.2), (hMn15.pick [1] (by decide) rfl)⟩
                · refine C.skip ?_
                  refine C.draws (fun w2 => Mem w w2 [] [[⟨.slice (A2) ((lbU a b lo).length) (c2), 34, 3, ((lbU a b lo).length), (lbU a b lo).flatMap encG⟩]]) mixed (by kernel_rfl) (hM5d.ext (kdrawn _)) ?_
                  refine QO.val (v := .slice (Aa) ((a.drop i).length) (ca)) rfl (fun w2 hw2 => Ru.move rfl) rfl ?_
                  refine QO.val (v := .slice (if ca = 1 then Aa else ofs (Aa) (1 * 2)) ((((a).drop (i)).drop (1)).length) (ca - 1)) rfl (fun w2 hw2 => Ru.congr (v := .slice (if ca = 1 then Aa else ofs (Aa) (1 * 2)) (((a.drop i).length) - 1) (ca - 1)) (v' := .slice (if ca = 1 then Aa else ofs (Aa) (1 * 2)) ((((a).drop (i)).drop (1)).length) (ca - 1)) (Ru.lsliceFrom (l := 1) Try.underlying36 el53 rfl rfl (by omega) (by omega)) (sl_congr (by first | rfl | (simp; done) | omega | (simp; omega)))) rfl ?_
                  refine QO.val (v := .slice (Ab) ((b.drop j).length) (cb)) rfl (fun w2 hw2 => Ru.move rfl) rfl ?_
                  refine QO.val (v := .slice (if cb = 1 then Ab else ofs (Ab) (1 * 2)) ((((b).drop (j)).drop (1)).length) (cb - 1)) rfl (fun w2 hw2 => Ru.congr (v := .slice (if cb = 1 then Ab else ofs (Ab) (1 * 2)) (((b.drop j).length) - 1) (cb - 1)) (v' := .slice (if cb = 1 then Ab else ofs (Ab) (1 * 2)) ((((b).drop (j)).drop (1)).length) (cb - 1)) (Ru.lsliceFrom (l := 1) Try.underlying36 el53 rfl rfl (by omega) (by omega)) (sl_congr (by first | rfl | (simp; done) | omega | (simp; omega)))) rfl ?_
                  refine QO.val (v := .slice (if ca = 1 then Aa else ofs (Aa) (1 * 2)) ((((a).drop (i)).drop (1)).length) (ca - 1)) rfl (fun w2 hw2 => Ru.assign rfl) rfl ?_
                  refine QO.val (v := .slice (if cb = 1 then Ab else ofs (Ab) (1 * 2)) ((((b).drop (j)).drop (1)).length) (cb - 1)) rfl (fun w2 hw2 => Ru.assign rfl) rfl ?_
                  refine QO.nil ?_
                  intro w7d hM7d
                  have hq16 : (lbU a b lo : List RecT) = lbU a b (((b.drop j)[0]'hB0).key.toNat + 1) := (by rw [lbC.1, if_neg c30, List.append_nil])
                  have hMn16 : Mem w w7d [] [[⟨.slice (A2) ((lbU a b (((b.drop j)[0]'hB0).key.toNat + 1)).length) (c2), 34, 3, ((lbU a b (((b.drop j)[0]'hB0).key.toNat + 1)).length), (lbU a b (((b.drop j)[0]'hB0).key.toNat + 1)).flatMap encG⟩]] := hM7d.relen 0 (n' := (lbU a b (((b.drop j)[0]'hB0).key.toNat + 1)).length) (xs' := (lbU a b (((b.drop j)[0]'hB0).key.toNat + 1)).flatMap encG) rfl (by first | rfl | exact congrArg List.length hq16 | (have hqq := congrArg List.length hq16; first | omega | (simp at hqq ⊢; omega)) | (simp; done) | (simp; omega)) (congrArg (fun z_ => (z_).flatMap encG) hq16) rfl
                  simp only [blkQ]
                  exact loopEnd (((((b.drop j)[0]'hB0).key.toNat + 1), (i + 1), (j + 1), (if ca = 1 then Aa else ofs (Aa) (1 * 2)), (ca - 1), (if cb = 1 then Ab else ofs (Ab) (1 * 2)), (cb - 1), A2, c2) : Nat × Nat × Nat × (Option Addr) × Nat × (Option Addr) × Nat × (Option Addr) × Nat) (by (try dsimp only); simp only [List.length_drop] at *; omega) (Has.cons (sl_congr (by simp; try omega)) (Has.cons (sl_congr (by simp; try omega)) (Has.cons (sl_congr (by first | rfl | exact congrArg List.length lbA.1.symm | exact congrArg List.length lbB.1.symm | (rw [lbC.1, if_pos c30]; done) | (rw [lbC.1, if_neg c30, List.append_nil]; done))) Has.nil))) ⟨(by (try dsimp only); have h9 := rd_dropN (k := 1) (c := ca) encP_len hi0_l4 (by omega) (by omega); rwa [List.drop_drop] at h9), (by (try dsimp only); have h9 := rd_dropN (k := 1) (c := cb) encP_len hi1_l4 (by omega) (by omega); rwa [List.drop_drop] at h9), (by (try dsimp only); have h7 := hi2_l4; have h6 := hA0; have h5 := hB0; simp only [List.length_drop] at h7 h6 h5 ⊢; omega), (lbC.2.1), (lbC.2.2.1), (lbC.2.2.2), (hMn16.pick [0] (by decide) rfl)⟩
      · refine O.val (v := .slice (Ab) ((b.drop j).length) (cb)) rfl (Ru.move rfl) rfl ?_
        refine O.val (v := I ((((b.drop j).length : Nat) : Int))) rfl (Ru.blenSlice Try.underlying36 rfl) rfl ?_
        refine O.val (v := .bool (decide ((((b.drop j).length : Nat) : Int) > 0))) rfl (Ru.gtr rfl rfl) rfl ?_
        refine O.val (v := .bool (decide ((((b.drop j).length : Nat) : Int) > 0))) rfl (Ru.pickF rfl rfl) rfl ?_
        refine O.nil ?_
        refine C.cond (p := (((b.drop j).length : Nat) : Int) > 0) rfl (fun c21 => ?_) (fun c21 => ?_)
        · refine C.skip ?_
          refine C.block ?_
          refine C.block ?_
          refine C.seq ?_
          refine C.draws (fun w2 => Mem w w2 [] [[⟨.slice (A2) ((lbU a b lo).length) (c2), 34, 3, ((lbU a b lo).length), (lbU a b lo).flatMap encG⟩]]) mixed (by kernel_rfl) (hM_l4.ext (kdrawn _)) ?_
          refine QO.val (v := .slice (Ab) ((b.drop j).length) (cb)) rfl (fun w2 hw2 => Ru.move rfl) rfl ?_
          refine QO.val (v := I ((((b.drop j).length : Nat) : Int))) rfl (fun w2 hw2 => Ru.blenSlice Try.underlying36 rfl) rfl ?_
          refine QO.val (v := .bool (decide ((((b.drop j).length : Nat) : Int) = 0))) rfl (fun w2 hw2 => Ru.eql rfl rfl) rfl ?_
          refine QO.val (v := .bool (decide ((((b.drop j).length : Nat) : Int) = 0))) rfl (fun w2 hw2 => Ru.move rfl) rfl ?_
          refine QO.partp 51 ((((b.drop j).length : Nat) : Int) = 0) rfl (fun g51 => ?_) (fun g51 => ?_)
          · refine QO.pass rfl rfl rfl rfl rfl ?_
            refine QO.pass rfl rfl rfl rfl rfl ?_
            refine QO.pass rfl rfl rfl rfl rfl ?_
            refine QO.pass rfl rfl rfl rfl rfl ?_
            refine QO.passU rfl rfl rfl rfl ?_
            refine QO.passU rfl rfl rfl rfl ?_
            refine QO.passU rfl rfl rfl rfl ?_
            refine QO.passU rfl rfl rfl rfl ?_
            refine QO.passU rfl rfl rfl rfl ?_
            refine QO.passU rfl rfl rfl rfl ?_
            refine QO.passU rfl rfl rfl rfl ?_
            refine QO.passU rfl rfl rfl rfl ?_
            refine QO.passU rfl rfl rfl rfl ?_
            refine QO.pass rfl rfl rfl rfl rfl ?_
            refine QO.val (v := .bool (true)) rfl (fun w2 hw2 => Ru.pickT rfl rfl) rfl ?_
            refine QO.val (v := .bool (true)) rfl (fun w2 hw2 => Ru.assign rfl) rfl ?_
            refine QO.nil ?_
            intro w8d hM8d
            refine C.condT rfl ?_
            refine C.seq ?_
            have hA0 : 0 < (a.drop i).length := by omega
            have lbA := lb_A2 hva hvb hi3_l4 hi4_l4 hA0 (fun h9 => by first | exact c47 | (exfalso; omega))
            refine C.region ?_
            refine O.val (v := .slice (A2) ((lbU a b lo).length) (c2)) rfl (Ru.move rfl) rfl ?_
            refine O.val (v := .slice (Aa) ((a.drop i).length) (ca)) rfl (Ru.move rfl) rfl ?_
            have hx9_2 : 0 < ((a).drop (i)).length := (by first | omega | (simp; omega))
            refine O.val (v := .pointer (ofs (Aa) (0 * 2))) rfl (Ru.indexA (j := 0) Try.underlying36 el53 rfl rfl (smf encP_len (hi0_l4.at hM8d) hx9_2 rfl) (by omega) (by first | omega | (simp; omega))) rfl ?_
            refine O.val (v := .pointer (ofs (Aa) (0 * 2 + 0))) rfl (Ru.fieldA fl53_0 rfl (smf encP_len (hi0_l4.at hM8d) hx9_2 rfl)) rfl ?_
            refine O.val rfl (Ru.load1 el3 rfl (ldf encP_len (hi0_l4.at hM8d) hx9_2 rfl)) rfl ?_
            refine O.val (v := .agg #[I (2), I ((((a).drop (i))[0]'hx9_2).key), I (0)]) rfl (Ru.build of34 rfl rfl rfl) rfl ?_
            refine O.mlit (sz := 3) (cs := [I (2), I ((((a).drop (i))[0]'hx9_2).key), I (0)]) hM8d rfl Try.underlying23 el34 rfl rfl rfl (by kernel_rfl) (by kernel_rfl) rfl rfl (fun w9_6 b9_6 hb9_6 (hM9_6 : Mem w w9_6 [] [[⟨.slice (bl b9_6) (1) (1), 34, 3, 1, ([(⟨2, (((a).drop (i))[0]'hx9_2).key, 0⟩ : RecT)]).flatMap encG⟩], [⟨.slice (A2) ((lbU a b lo).length) (c2), 34, 3, ((lbU a b lo).length), (lbU a b lo).flatMap encG⟩]]) => ?_)
            refine O.mappend (sz := 3) (news := ([(⟨2, (((a).drop (i))[0]'hx9_2).key, 0⟩ : RecT)]).flatMap encG) (m1 := (lbU a b lo ++ [(⟨2, (((a).drop (i))[0]'hx9_2).key, 0⟩ : RecT)]).length) (xs1 := (lbU a b lo ++ [(⟨2, (((a).drop (i))[0]'hx9_2).key, 0⟩ : RecT)]).flatMap encG) (M' := fun A9_7 c9_7 => [[⟨.slice (bl b9_6) (1) (1), 34, 3, 1, ([(⟨2, (((a).drop (i))[0]'hx9_2).key, 0⟩ : RecT)]).flatMap encG⟩], [⟨.slice (A9_7) ((lbU a b lo ++ [(⟨2, (((a).drop (i))[0]'hx9_2).key, 0⟩ : RecT)]).length) (c9_7), 34, 3, ((lbU a b lo ++ [(⟨2, (((a).drop (i))[0]'hx9_2).key, 0⟩ : RecT)]).length), (lbU a b lo ++ [(⟨2, (((a).drop (i))[0]'hx9_2).key, 0⟩ : RecT)]).flatMap encG⟩]]) 1 0 hM9_6 rfl rfl rfl Try.underlying23 el34 ⟨rfl, by decide⟩ rfl rfl rfl (hM9_6.rd 0 rfl) (by rw [flat_len encG_len]; first | done | (simp; done) | (simp; omega)) (all_flat_one (fun _ => rfl) _) (by first | omega | (simp; omega)) (by first | omega | (simp; omega)) (by first | (simp; done) | (simp; omega)) (by simp) (fun _ _ => rfl) (fun w9_7 A9_7 c9_7 hc9_7 hM9_7 => ?_)
            try dsimp only at hM9_7
            refine O.val (v := .slice (A9_7) ((lbU a b lo ++ [(⟨2, (((a).drop (i))[0]'hx9_2).key, 0⟩ : RecT)]).length) (c9_7)) rfl (Ru.assign rfl) rfl ?_
            refine O.nil ?_
            refine C.region ?_
            refine O.val (v := .slice (Aa) ((a.drop i).length) (ca)) rfl (Ru.move rfl) rfl ?_
            refine O.val (v := .slice (if ca = 1 then Aa else ofs (Aa) (1 * 2)) ((((a).drop (i)).drop (1)).length) (ca - 1)) rfl (Ru.congr (v := .slice (if ca = 1 then Aa else ofs (Aa) (1 * 2)) (((a.drop i).length) - 1) (ca - 1)) (v' := .slice (if ca = 1 then Aa else ofs (Aa) (1 * 2)) ((((a).drop (i)).drop (1)).length) (ca - 1)) (Ru.lsliceFrom (l := 1) Try.underlying36 el53 rfl rfl (by omega) (by omega)) (sl_congr (by first | rfl | (simp; done) | omega | (simp; omega)))) rfl ?_
            refine O.val (v := .slice (if ca = 1 then Aa else ofs (Aa) (1 * 2)) ((((a).drop (i)).drop (1)).length) (ca - 1)) rfl (Ru.assign rfl) rfl ?_
            refine O.nil ?_
            have hq17 : (lbU a b lo ++ [(⟨2, (((a).drop (i))[0]'hx9_2).key, 0⟩ : RecT)] : List RecT) = lbU a b (((a.drop i)[0]'hA0).key.toNat + 1) := lbA.1.symm
            have hMn17 : Mem w w9_7 [] [[⟨.slice (bl b9_6) (1) (1), 34, 3, 1, ([(⟨2, (((a).drop (i))[0]'hx9_2).key, 0⟩ : RecT)]).flatMap encG⟩], [⟨.slice (A9_7) ((lbU a b (((a.drop i)[0]'hA0).key.toNat + 1)).length) (c9_7), 34, 3, ((lbU a b (((a.drop i)[0]'hA0).key.toNat + 1)).length), (lbU a b (((a.drop i)[0]'hA0).key.toNat + 1)).flatMap encG⟩]] := hM9_7.relen 1 (n' := (lbU a b (((a.drop i)[0]'hA0).key.toNat + 1)).length) (xs' := (lbU a b (((a.drop i)[0]'hA0).key.toNat + 1)).flatMap encG) rfl (by first | rfl | exact congrArg List.length hq17 | (have hqq := congrArg List.length hq17; first | omega | (simp at hqq ⊢; omega)) | (simp; done) | (simp; omega)) (congrArg (fun z_ => (z_).flatMap encG) hq17) rfl
            simp only [blkQ]
            exact loopEnd (((((a.drop i)[0]'hA0).key.toNat + 1), (i + 1), j, (if ca = 1 then Aa else ofs (Aa) (1 * 2)), (ca - 1), Ab, cb, A9_7, c9_7) : Nat × Nat × Nat × (Option Addr) × Nat × (Option Addr) × Nat × (Option Addr) × Nat) (by (try dsimp only); simp only [List.length_drop] at *; omega) (Has.cons (sl_congr (by simp; try omega)) (Has.cons (sl_congr (by simp; try omega)) (Has.cons (sl_congr (by first | rfl | exact congrArg List.length lbA.1.symm | exact congrArg List.length lbB.1.symm | (rw [lbC.1, if_pos c30]; done) | (rw [lbC.1, if_neg c30, List.append_nil]; done))) Has.nil))) ⟨(by (try dsimp only); have h9 := rd_dropN (k := 1) (c := ca) encP_len hi0_l4 (by omega) (by omega); rwa [List.drop_drop] at h9), hi1_l4, (by (try dsimp only); have h7 := hi2_l4; have h6 := hA0; have h5 := hA0; simp only [List.length_drop] at h7 h6 h5 ⊢; omega), (lbA.2.1), (lbA.2.2.1), (lbA.2.2.2), (hMn17.pick [1] (by decide) rfl)⟩
          · refine QO.val (v := .slice (Aa) ((a.drop i).length) (ca)) rfl (fun w2 hw2 => Ru.move rfl) rfl ?_
            refine QO.val (v := I ((((a.drop i).length : Nat) : Int))) rfl (fun w2 hw2 => Ru.blenSlice Try.underlying36 rfl) rfl ?_
            refine QO.val (v := .bool (decide ((((a.drop i).length : Nat) : Int) > 0))) rfl (fun w2 hw2 => Ru.gtr rfl rfl) rfl ?_
            refine QO.val (v := .bool (decide ((((a.drop i).length : Nat) : Int) > 0))) rfl (fun w2 hw2 => Ru.move rfl) rfl ?_
            refine QO.partp 55 ((((a.drop i).length : Nat) : Int) > 0) rfl (fun g55 => ?_) (fun g55 => ?_)
            · refine QO.val (v := .slice (Aa) ((a.drop i).length) (ca)) rfl (fun w2 hw2 => Ru.move rfl) rfl ?_
              have hx8_9 : 0 < ((a).drop (i)).length := (by first | omega | (simp; omega))
              refine QO.val (v := .pointer (ofs (Aa) (0 * 2))) rfl (fun w2 hw2 => Ru.indexA (j := 0) Try.underlying36 el53 rfl rfl (smf encP_len (hi0_l4.at hw2) hx8_9 rfl) (by omega) (by first | omega | (simp; omega))) rfl ?_
              refine QO.val (v := .pointer (ofs (Aa) (0 * 2 + 0))) rfl (fun w2 hw2 => Ru.fieldA fl53_0 rfl (smf encP_len (hi0_l4.at hw2) hx8_9 rfl)) rfl ?_
              refine QO.val rfl (fun w2 hw2 => Ru.load1 el3 rfl (ldf encP_len (hi0_l4.at hw2) hx8_9 rfl)) rfl ?_
              refine QO.val (v := .slice (Ab) ((b.drop j).length) (cb)) rfl (fun w2 hw2 => Ru.move rfl) rfl ?_
              have hx8_13 : 0 < ((b).drop (j)).length := (by first | omega | (simp; omega))
              refine QO.val (v := .pointer (ofs (Ab) (0 * 2))) rfl (fun w2 hw2 => Ru.indexA (j := 0) Try.underlying36 el53 rfl rfl (smf encP_len (hi1_l4.at hw2) hx8_13 rfl) (by omega) (by first | omega | (simp; omega))) rfl ?_
              refine QO.val (v := .pointer (ofs (Ab) (0 * 2 + 0))) rfl (fun w2 hw2 => Ru.fieldA fl53_0 rfl (smf encP_len (hi1_l4.at hw2) hx8_13 rfl)) rfl ?_
              refine QO.val rfl (fun w2 hw2 => Ru.load1 el3 rfl (ldf encP_len (hi1_l4.at hw2) hx8_13 rfl)) rfl ?_
              refine QO.val (v := .bool (decide ((((a).drop (i))[0]'hx8_9).key < (((b).drop (j))[0]'hx8_13).key))) rfl (fun w2 hw2 => Ru.lss rfl rfl) rfl ?_
              refine QO.val (v := .bool (decide ((((a).drop (i))[0]'hx8_9).key < (((b).drop (j))[0]'hx8_13).key))) rfl (fun w2 hw2 => Ru.pickT rfl rfl) rfl ?_
              refine QO.val (v := .bool (decide ((((a).drop (i))[0]'hx8_9).key < (((b).drop (j))[0]'hx8_13).key))) rfl (fun w2 hw2 => Ru.pickF rfl rfl) rfl ?_
              refine QO.val (v := .bool (decide ((((a).drop (i))[0]'hx8_9).key < (((b).drop (j))[0]'hx8_13).key))) rfl (fun w2 hw2 => Ru.assign rfl) rfl ?_
              refine QO.nil ?_
              intro w8d hM8d
              refine C.cond (p := (((a).drop (i))[0]'hx8_9).key < (((b).drop (j))[0]'hx8_13).key) rfl (fun c47 => ?_) (fun c47 => ?_)
              · refine C.seq ?_
                have hA0 : 0 < (a.drop i).length := by omega
                have lbA := lb_A2 hva hvb hi3_l4 hi4_l4 hA0 (fun h9 => by first | exact c47 | (exfalso; omega))
                refine C.region ?_
                refine O.val (v := .slice (A2) ((lbU a b lo).length) (c2)) rfl (Ru.move rfl) rfl ?_
                refine O.val (v := .slice (Aa) ((a.drop i).length) (ca)) rfl (Ru.move rfl) rfl ?_
                have hx9_2 : 0 < ((a).drop (i)).length := (by first | omega | (simp; omega))
                refine O.val (v := .pointer (ofs (Aa) (0 * 2))) rfl (Ru.indexA (j := 0) Try.underlying36 el53 rfl rfl (smf encP_len (hi0_l4.at hM8d) hx9_2 rfl) (by omega) (by first | omega | (simp; omega))) rfl ?_
                refine O.val (v := .pointer (ofs (Aa) (0 * 2 + 0))) rfl (Ru.fieldA fl53_0 rfl (smf encP_len (hi0_l4.at hM8d) hx9_2 rfl)) rfl ?_
                refine O.val rfl (Ru.load1 el3 rfl (ldf encP_len (hi0_l4.at hM8d) hx9_2 rfl)) rfl ?_
                refine O.val (v := .agg #[I (2), I ((((a).drop (i))[0]'hx9_2).key), I (0)]) rfl (Ru.build of34 rfl rfl rfl) rfl ?_
                refine O.mlit (sz := 3) (cs := [I (2), I ((((a).drop (i))[0]'hx9_2).key), I (0)]) hM8d rfl Try.underlying23 el34 rfl rfl rfl (by kernel_rfl) (by kernel_rfl) rfl rfl (fun w9_6 b9_6 hb9_6 (hM9_6 : Mem w w9_6 [] [[⟨.slice (bl b9_6) (1) (1), 34, 3, 1, ([(⟨2, (((a).drop (i))[0]'hx9_2).key, 0⟩ : RecT)]).flatMap encG⟩], [⟨.slice (A2) ((lbU a b lo).length) (c2), 34, 3, ((lbU a b lo).length), (lbU a b lo).flatMap encG⟩]]) => ?_)
                refine O.mappend (sz := 3) (news := ([(⟨2, (((a).drop (i))[0]'hx9_2).key, 0⟩ : RecT)]).flatMap encG) (m1 := (lbU a b lo ++ [(⟨2, (((a).drop (i))[0]'hx9_2).key, 0⟩ : RecT)]).length) (xs1 := (lbU a b lo ++ [(⟨2, (((a).drop (i))[0]'hx9_2).key, 0⟩ : RecT)]).flatMap encG) (M' := fun A9_7 c9_7 => [[⟨.slice (bl b9_6) (1) (1), 34, 3, 1, ([(⟨2, (((a).drop (i))[0]'hx9_2).key, 0⟩ : RecT)]).flatMap encG⟩], [⟨.slice (A9_7) ((lbU a b lo ++ [(⟨2, (((a).drop (i))[0]'hx9_2).key, 0⟩ : RecT)]).length) (c9_7), 34, 3, ((lbU a b lo ++ [(⟨2, (((a).drop (i))[0]'hx9_2).key, 0⟩ : RecT)]).length), (lbU a b lo ++ [(⟨2, (((a).drop (i))[0]'hx9_2).key, 0⟩ : RecT)]).flatMap encG⟩]]) 1 0 hM9_6 rfl rfl rfl Try.underlying23 el34 ⟨rfl, by decide⟩ rfl rfl rfl (hM9_6.rd 0 rfl) (by rw [flat_len encG_len]; first | done | (simp; done) | (simp; omega)) (all_flat_one (fun _ => rfl) _) (by first | omega | (simp; omega)) (by first | omega | (simp; omega)) (by first | (simp; done) | (simp; omega)) (by simp) (fun _ _ => rfl) (fun w9_7 A9_7 c9_7 hc9_7 hM9_7 => ?_)
                try dsimp only at hM9_7
                refine O.val (v := .slice (A9_7) ((lbU a b lo ++ [(⟨2, (((a).drop (i))[0]'hx9_2).key, 0⟩ : RecT)]).length) (c9_7)) rfl (Ru.assign rfl) rfl ?_
                refine O.nil ?_
                refine C.region ?_
                refine O.val (v := .slice (Aa) ((a.drop i).length) (ca)) rfl (Ru.move rfl) rfl ?_
                refine O.val (v := .slice (if ca = 1 then Aa else ofs (Aa) (1 * 2)) ((((a).drop (i)).drop (1)).length) (ca - 1)) rfl (Ru.congr (v := .slice (if ca = 1 then Aa else ofs (Aa) (1 * 2)) (((a.drop i).length) - 1) (ca - 1)) (v' := .slice (if ca = 1 then Aa else ofs (Aa) (1 * 2)) ((((a).drop (i)).drop (1)).length) (ca - 1)) (Ru.lsliceFrom (l := 1) Try.underlying36 el53 rfl rfl (by omega) (by omega)) (sl_congr (by first | rfl | (simp; done) | omega | (simp; omega)))) rfl ?_
                refine O.val (v := .slice (if ca = 1 then Aa else ofs (Aa) (1 * 2)) ((((a).drop (i)).drop (1)).length) (ca - 1)) rfl (Ru.assign rfl) rfl ?_
                refine O.nil ?_
                have hq18 : (lbU a b lo ++ [(⟨2, (((a).drop (i))[0]'hx9_2).key, 0⟩ : RecT)] : List RecT) = lbU a b (((a.drop i)[0]'hA0).key.toNat + 1) := lbA.1.symm
                have hMn18 : Mem w w9_7 [] [[⟨.slice (bl b9_6) (1) (1), 34, 3, 1, ([(⟨2, (((a).drop (i))[0]'hx9_2).key, 0⟩ : RecT)]).flatMap encG⟩], [⟨.slice (A9_7) ((lbU a b (((a.drop i)[0]'hA0).key.toNat + 1)).length) (c9_7), 34, 3, ((lbU a b (((a.drop i)[0]'hA0).key.toNat + 1)).length), (lbU a b (((a.drop i)[0]'hA0).key.toNat + 1)).flatMap encG⟩]] := hM9_7.relen 1 (n' := (lbU a b (((a.drop i)[0]'hA0).key.toNat + 1)).length) (xs' := (lbU a b (((a.drop i)[0]'hA0).key.toNat + 1)).flatMap encG) rfl (by first | rfl | exact congrArg List.length hq18 | (have hqq := congrArg List.length hq18; first | omega | (simp at hqq ⊢; omega)) | (simp; done) | (simp; omega)) (congrArg (fun z_ => (z_).flatMap encG) hq18) rfl
                simp only [blkQ]
                exact loopEnd (((((a.drop i)[0]'hA0).key.toNat + 1), (i + 1), j, (if ca = 1 then Aa else ofs (Aa) (1 * 2)), (ca - 1), Ab, cb, A9_7, c9_7) : Nat × Nat × Nat × (Option Addr) × Nat × (Option Addr) × Nat × (Option Addr) × Nat) (by (try dsimp only); simp only [List.length_drop] at *; omega) (Has.cons (sl_congr (by simp; try omega)) (Has.cons (sl_congr (by simp; try omega)) (Has.cons (sl_congr (by first | rfl | exact congrArg List.length lbA.1.symm | exact congrArg List.length lbB.1.symm | (rw [lbC.1, if_pos c30]; done) | (rw [lbC.1, if_neg c30, List.append_nil]; done))) Has.nil))) ⟨(by (try dsimp only); have h9 := rd_dropN (k := 1) (c := ca) encP_len hi0_l4 (by omega) (by omega); rwa [List.drop_drop] at h9), hi1_l4, (by (try dsimp only); have h7 := hi2_l4; have h6 := hA0; have h5 := hA0; simp only [List.length_drop] at h7 h6 h5 ⊢; omega), (lbA.2.1), (lbA.2.2.1), (lbA.2.2.2), (hMn18.pick [1] (by decide) rfl)⟩
              · refine C.seq ?_
                refine C.draws (fun w2 => Mem w w2 [] [[⟨.slice (A2) ((lbU a b lo).length) (c2), 34, 3, ((lbU a b lo).length), (lbU a b lo).flatMap encG⟩]]) mixed (by kernel_rfl) (hM8d.ext (kdrawn _)) ?_
                refine QO.val (v := .slice (Aa) ((a.drop i).length) (ca)) rfl (fun w2 hw2 => Ru.move rfl) rfl ?_
                refine QO.val (v := I ((((a.drop i).length : Nat) : Int))) rfl (fun w2 hw2 => Ru.blenSlice Try.underlying36 rfl) rfl ?_
                refine QO.val (v := .bool (decide ((((a.drop i).length : Nat) : Int) = 0))) rfl (fun w2 hw2 => Ru.eql rfl rfl) rfl ?_
                refine QO.val (v := .bool (decide ((((a.drop i).length : Nat) : Int) = 0))) rfl (fun w2 hw2 => Ru.move rfl) rfl ?_
                refine QO.partp 81 ((((a.drop i).length : Nat) : Int) = 0) rfl (fun g81 => ?_) (fun g81 => ?_)
                · refine QO.pass rfl rfl rfl rfl rfl ?_
                  refine QO.pass rfl rfl rfl rfl rfl ?_
                  refine QO.pass rfl rfl rfl rfl rfl ?_
                  refine QO.pass rfl rfl rfl rfl rfl ?_
                  refine QO.pass rfl rfl rfl rfl rfl ?_
                  refine QO.pass rfl rfl rfl rfl rfl ?_
                  refine QO.pass rfl rfl rfl rfl rfl ?_
                  refine QO.pass rfl rfl rfl rfl rfl ?_
                  refine QO.pass rfl rfl rfl rfl rfl ?_
                  refine QO.val (v := .bool (true)) rfl (fun w2 hw2 => Ru.pickT rfl rfl) rfl ?_
                  refine QO.val (v := .bool (true)) rfl (fun w2 hw2 => Ru.assign rfl) rfl ?_
                  refine QO.nil ?_
                  intro w11d hM11d
                  refine C.condT rfl ?_
                  refine C.seq ?_
                  have hB0 : 0 < (b.drop j).length := by omega
                  have lbB := lb_B2 hva hvb hi3_l4 hi4_l4 hB0 (fun h9 => by first | exact c77 | (exfalso; omega))
                  refine C.any (f := 13) (ls := [false, false, false, false, false, false, false, false, false, false, false, false, false]) (fun w2 => Mem w w2 [] []) mixed rfl rfl (fun w2 hw2 => Mem0.ext (Mem.none hM11d) hw2) (fun w12a hE12a => ?_)
                  have hM12a : Mem w w12a [] [[⟨.slice (A2) ((lbU a b lo).length) (c2), 34, 3, ((lbU a b lo).length), (lbU a b lo).flatMap encG⟩]] := Mem0.ext hM11d hE12a
                  refine AO.val (v := .slice (A2) ((lbU a b lo).length) (c2)) 0 (ls' := [true, false, false, false, false, false, false, false, false, false, false, false, false]) rfl (by kernel_rfl) rfl rfl (fun w2 hw2 => Ru.move rfl) rfl ?_
                  refine AO.val (v := .slice (Ab) ((b.drop j).length) (cb)) 1 (ls' := [true, true, false, false, false, false, false, false, false, false, false, false, false]) rfl (by kernel_rfl) rfl rfl (fun w2 hw2 => Ru.move rfl) rfl ?_
                  have hx12_2 : 0 < ((b).drop (j)).length := (by first | omega | (simp; omega))
                  refine AO.val (v := .pointer (ofs (Ab) (0 * 2))) 2 (ls' := [true, true, true, false, false, false, false, false, false, false, false, false, false]) rfl (by kernel_rfl) rfl rfl (fun w2 hw2 => Ru.indexA (j := 0) Try.underlying36 el53 rfl rfl (smf encP_len (hi1_l4.at hM12a) hx12_2 rfl) (by omega) (by first | omega | (simp; omega))) rfl ?_
                  refine AO.val (v := .pointer (ofs (Ab) (0 * 2 + 0))) 3 (ls' := [true, true, true, true, false, false, false, false, false, false, false, false, false]) rfl (by kernel_rfl) rfl rfl (fun w2 hw2 => Ru.fieldA fl53_0 rfl (smf encP_len (hi1_l4.at hM12a) hx12_2 rfl)) rfl ?_
                  refine AO.val (v := I ((((b).drop (j))[0]'hx12_2).key)) 4 (ls' := [true, true, true, true, true, false, false, false, false, false, false, false, false]) rfl (by kernel_rfl) rfl rfl (fun w2 hw2 => Ru.load1 el3 rfl (ldf encP_len (hi1_l4.at hw2) hx12_2 rfl)) rfl ?_
                  refine AO.val (v := .slice (Ab) ((b.drop j).length) (cb)) 5 (ls' := [true, true, true, true, true, true, false, false, false, false, false, false, false]) rfl (by kernel_rfl) rfl rfl (fun w2 hw2 => Ru.move rfl) rfl ?_
                  have hx12_6 : 0 < ((b).drop (j)).length := (by first | omega | (simp; omega))
                  refine AO.val (v := .pointer (ofs (Ab) (0 * 2))) 6 (ls' := [true, true, true, true, true, true, true, false, false, false, false, false, false]) rfl (by kernel_rfl) rfl rfl (fun w2 hw2 => Ru.indexA (j := 0) Try.underlying36 el53 rfl rfl (smf encP_len (hi1_l4.at hM12a) hx12_6 rfl) (by omega) (by first | omega | (simp; omega))) rfl ?_
                  refine AO.val (v := .pointer (ofs (Ab) (0 * 2 + 1))) 7 (ls' := [true, true, true, true, true, true, true, true, false, false, false, false, false]) rfl (by kernel_rfl) rfl rfl (fun w2 hw2 => Ru.fieldA fl53_1 rfl (smf encP_len (hi1_l4.at hM12a) hx12_6 rfl)) rfl ?_
                  refine AO.val (v := I ((((b).drop (j))[0]'hx12_6).val)) 8 (ls' := [true, true, true, true, true, true, true, true, true, false, false, false, false]) rfl (by kernel_rfl) rfl rfl (fun w2 hw2 => Ru.load1 el3 rfl (ldf encP_len (hi1_l4.at hw2) hx12_6 rfl)) rfl ?_
                  refine AO.val (v := .agg #[I (1), I ((((b).drop (j))[0]'hx12_2).key), I ((((b).drop (j))[0]'hx12_6).val)]) 9 (ls' := [true, true, true, true, true, true, true, true, true, true, false, false, false]) rfl (by kernel_rfl) rfl rfl (fun w2 hw2 => Ru.build of34 rfl rfl rfl) rfl ?_
                  refine AO.one 10 (by kernel_rfl) ?_
                  refine step1 (ls' := [true, true, true, true, true, true, true, true, true, true, true, false, false]) rfl rfl ?_
                  refine O.mlit (sz := 3) (cs := [I (1), I ((((b).drop (j))[0]'hx12_2).key), I ((((b).drop (j))[0]'hx12_6).val)]) hM12a rfl Try.underlying23 el34 rfl rfl rfl (by kernel_rfl) (by kernel_rfl) rfl rfl (fun w12_10 b12_10 hb12_10 (hM12_10 : Mem w w12_10 [] [[⟨.slice (bl b12_10) (1) (1), 34, 3, 1, ([(⟨1, (((b).drop (j))[0]'hx12_2).key, (((b).drop (j))[0]'hx12_6).val⟩ : RecT)]).flatMap encG⟩], [⟨.slice (A2) ((lbU a b lo).length) (c2), 34, 3, ((lbU a b lo).length), (lbU a b lo).flatMap encG⟩]]) => ?_)
                  refine O.stop (Mem.none hM12_10) ?_
                  refine AO.one 11 (by kernel_rfl) ?_
                  refine step1 (ls' := [true, true, true, true, true, true, true, true, true, true, true, true, false]) rfl rfl ?_
                  refine O.mappend (sz := 3) (news := ([(⟨1, (((b).drop (j))[0]'hx12_2).key, (((b).drop (j))[0]'hx12_6).val⟩ : RecT)]).flatMap encG) (m1 := (lbU a b lo ++ [(⟨1, (((b).drop (j))[0]'hx12_2).key, (((b).drop (j))[0]'hx12_6).val⟩ : RecT)]).length) (xs1 := (lbU a b lo ++ [(⟨1, (((b).drop (j))[0]'hx12_2).key, (((b).drop (j))[0]'hx12_6).val⟩ : RecT)]).flatMap encG) (M' := fun A12_11 c12_11 => [[⟨.slice (bl b12_10) (1) (1), 34, 3, 1, ([(⟨1, (((b).drop (j))[0]'hx12_2).key, (((b).drop (j))[0]'hx12_6).val⟩ : RecT)]).flatMap encG⟩], [⟨.slice (A12_11) ((lbU a b lo ++ [(⟨1, (((b).drop (j))[0]'hx12_2).key, (((b).drop (j))[0]'hx12_6).val⟩ : RecT)]).length) (c12_11), 34, 3, ((lbU a b lo ++ [(⟨1, (((b).drop (j))[0]'hx12_2).key, (((b).drop (j))[0]'hx12_6).val⟩ : RecT)]).length), (lbU a b lo ++ [(⟨1, (((b).drop (j))[0]'hx12_2).key, (((b).drop (j))[0]'hx12_6).val⟩ : RecT)]).flatMap encG⟩]]) 1 0 hM12_10 rfl rfl rfl Try.underlying23 el34 ⟨rfl, by decide⟩ rfl rfl rfl (hM12_10.rd 0 rfl) (by rw [flat_len encG_len]; first | done | (simp; done) | (simp; omega)) (all_flat_one (fun _ => rfl) _) (by first | omega | (simp; omega)) (by first | omega | (simp; omega)) (by first | (simp; done) | (simp; omega)) (by simp) (fun _ _ => rfl) (fun w12_11 A12_11 c12_11 hc12_11 hM12_11 => ?_)
                  try dsimp only at hM12_11
                  refine O.stop (Mem.none hM12_11) ?_
                  refine AO.val (v := .slice (A12_11) ((lbU a b lo ++ [(⟨1, (((b).drop (j))[0]'hx12_2).key, (((b).drop (j))[0]'hx12_6).val⟩ : RecT)]).length) (c12_11)) 12 (ls' := [true, true, true, true, true, true, true, true, true, true, true, true, true]) rfl (by kernel_rfl) rfl rfl (fun w2 hw2 => Ru.assign rfl) rfl ?_
                  refine AO.nil (by kernel_rfl) ?_
                  refine C.region ?_
                  refine O.val (v := .slice (Ab) ((b.drop j).length) (cb)) rfl (Ru.move rfl) rfl ?_
                  refine O.val (v := .slice (if cb = 1 then Ab else ofs (Ab) (1 * 2)) ((((b).drop (j)).drop (1)).length) (cb - 1)) rfl (Ru.congr (v := .slice (if cb = 1 then Ab else ofs (Ab) (1 * 2)) (((b.drop j).length) - 1) (cb - 1)) (v' := .slice (if cb = 1 then Ab else ofs (Ab) (1 * 2)) ((((b).drop (j)).drop (1)).length) (cb - 1)) (Ru.lsliceFrom (l := 1) Try.underlying36 el53 rfl rfl (by omega) (by omega)) (sl_congr (by first | rfl | (simp; done) | omega | (simp; omega)))) rfl ?_
                  refine O.val (v := .slice (if cb = 1 then Ab else ofs (Ab) (1 * 2)) ((((b).drop (j)).drop (1)).length) (cb - 1)) rfl (Ru.assign rfl) rfl ?_
                  refine O.nil ?_
                  have hq19 : (lbU a b lo ++ [(⟨1, (((b).drop (j))[0]'hx12_2).key, (((b).drop (j))[0]'hx12_6).val⟩ : RecT)] : List RecT) = lbU a b (((b.drop j)[0]'hB0).key.toNat + 1) := lbB.1.symm
                  have hMn19 : Mem w w12_11 [] [[⟨.slice (bl b12_10) (1) (1), 34, 3, 1, ([(⟨1, (((b).drop (j))[0]'hx12_2).key, (((b).drop (j))[0]'hx12_6).val⟩ : RecT)]).flatMap encG⟩], [⟨.slice (A12_11) ((lbU a b (((b.drop j)[0]'hB0).key.toNat + 1)).length) (c12_11), 34, 3, ((lbU a b (((b.drop j)[0]'hB0).key.toNat + 1)).length), (lbU a b (((b.drop j)[0]'hB0).key.toNat + 1)).flatMap encG⟩]] := hM12_11.relen 1 (n' := (lbU a b (((b.drop j)[0]'hB0).key.toNat + 1)).length) (xs' := (lbU a b (((b.drop j)[0]'hB0).key.toNat + 1)).flatMap encG) rfl (by first | rfl | exact congrArg List.length hq19 | (have hqq := congrArg List.length hq19; first | omega | (simp at hqq ⊢; omega)) | (simp; done) | (simp; omega)) (congrArg (fun z_ => (z_).flatMap encG) hq19) rfl
                  simp only [blkQ]
                  exact loopEnd (((((b.drop j)[0]'hB0).key.toNat + 1), i, (j + 1), Aa, ca, (if cb = 1 then Ab else ofs (Ab) (1 * 2)), (cb - 1), A12_11, c12_11) : Nat × Nat × Nat × (Option Addr) × Nat × (Option Addr) × Nat × (Option Addr) × Nat) (by (try dsimp only); simp only [List.length_drop] at *; omega) (Has.cons (sl_congr (by simp; try omega)) (Has.cons (sl_congr (by simp; try omega)) (Has.cons (sl_congr (by first | rfl | exact congrArg List.length lbA.1.symm | exact congrArg List.length lbB.1.symm | (rw [lbC.1, if_pos c30]; done) | (rw [lbC.1, if_neg c30, List.append_nil]; done))) Has.nil))) ⟨hi0_l4, (by (try dsimp only); have h9 := rd_dropN (k := 1) (c := cb) encP_len hi1_l4 (by omega) (by omega); rwa [List.drop_drop] at h9), (by (try dsimp only); have h7 := hi2_l4; have h6 := hB0; have h5 := hB0; simp only [List.length_drop] at h7 h6 h5 ⊢; omega), (lbB.2.1), (lbB.2.2.1), (lbB.2.2.2), (hMn19.pick [1] (by decide) rfl)⟩
                · refine QO.val (v := .slice (Ab) ((b.drop j).length) (cb)) rfl (fun w2 hw2 => Ru.move rfl) rfl ?_
                  have hx11_5 : 0 < ((b).drop (j)).length := (by first | omega | (simp; omega))
                  refine QO.val (v := .pointer (ofs (Ab) (0 * 2))) rfl (fun w2 hw2 => Ru.indexA (j := 0) Try.underlying36 el53 rfl rfl (smf encP_len (hi1_l4.at hw2) hx11_5 rfl) (by omega) (by first | omega | (simp; omega))) rfl ?_
                  refine QO.val (v := .pointer (ofs (Ab) (0 * 2 + 0))) rfl (fun w2 hw2 => Ru.fieldA fl53_0 rfl (smf encP_len (hi1_l4.at hw2) hx11_5 rfl)) rfl ?_
                  refine QO.val rfl (fun w2 hw2 => Ru.load1 el3 rfl (ldf encP_len (hi1_l4.at hw2) hx11_5 rfl)) rfl ?_
                  refine QO.val (v := .slice (Aa) ((a.drop i).length) (ca)) rfl (fun w2 hw2 => Ru.move rfl) rfl ?_
                  have hx11_9 : 0 < ((a).drop (i)).length := (by first | omega | (simp; omega))
                  refine QO.val (v := .pointer (ofs (Aa) (0 * 2))) rfl (fun w2 hw2 => Ru.indexA (j := 0) Try.underlying36 el53 rfl rfl (smf encP_len (hi0_l4.at hw2) hx11_9 rfl) (by omega) (by first | omega | (simp; omega))) rfl ?_
                  refine QO.val (v := .pointer (ofs (Aa) (0 * 2 + 0))) rfl (fun w2 hw2 => Ru.fieldA fl53_0 rfl (smf encP_len (hi0_l4.at hw2) hx11_9 rfl)) rfl ?_
                  refine QO.val rfl (fun w2 hw2 => Ru.load1 el3 rfl (ldf encP_len (hi0_l4.at hw2) hx11_9 rfl)) rfl ?_
                  refine QO.val (v := .bool (decide ((((b).drop (j))[0]'hx11_5).key < (((a).drop (i))[0]'hx11_9).key))) rfl (fun w2 hw2 => Ru.lss rfl rfl) rfl ?_
                  refine QO.val (v := .bool (decide ((((b).drop (j))[0]'hx11_5).key < (((a).drop (i))[0]'hx11_9).key))) rfl (fun w2 hw2 => Ru.pickF rfl rfl) rfl ?_
                  refine QO.val (v := .bool (decide ((((b).drop (j))[0]'hx11_5).key < (((a).drop (i))[0]'hx11_9).key))) rfl (fun w2 hw2 => Ru.assign rfl) rfl ?_
                  refine QO.nil ?_
                  intro w11d hM11d
                  refine C.cond (p := (((b).drop (j))[0]'hx11_5).key < (((a).drop (i))[0]'hx11_9).key) rfl (fun c77 => ?_) (fun c77 => ?_)
                  · refine C.seq ?_
                    have hB0 : 0 < (b.drop j).length := by omega
                    have lbB := lb_B2 hva hvb hi3_l4 hi4_l4 hB0 (fun h9 => by first | exact c77 | (exfalso; omega))
                    refine C.any (f := 13) (ls := [false, false, false, false, false, false, false, false, false, false, false, false, false]) (fun w2 => Mem w w2 [] []) mixed rfl rfl (fun w2 hw2 => Mem0.ext (Mem.none hM11d) hw2) (fun w12a hE12a => ?_)
                    have hM12a : Mem w w12a [] [[⟨.slice (A2) ((lbU a b lo).length) (c2), 34, 3, ((lbU a b lo).length), (lbU a b lo).flatMap encG⟩]] := Mem0.ext hM11d hE12a
                    refine AO.val (v := .slice (A2) ((lbU a b lo).length) (c2)) 0 (ls' := [true, false, false, false, false, false, false, false, false, false, false, false, false]) rfl (by kernel_rfl) rfl rfl (fun w2 hw2 => Ru.move rfl) rfl ?_
                    refine AO.val (v := .slice (Ab) ((b.drop j).length) (cb)) 1 (ls' := [true, true, false, false, false, false, false, false, false, false, false, false, false]) rfl (by kernel_rfl) rfl rfl (fun w2 hw2 => Ru.move rfl) rfl ?_
                    have hx12_2 : 0 < ((b).drop (j)).length := (by first | omega | (simp; omega))
                    refine AO.val (v := .pointer (ofs (Ab) (0 * 2))) 2 (ls' := [true, true, true, false, false, false, false, false, false, false, false, false, false]) rfl (by kernel_rfl) rfl rfl (fun w2 hw2 => Ru.indexA (j := 0) Try.underlying36 el53 rfl rfl (smf encP_len (hi1_l4.at hM12a) hx12_2 rfl) (by omega) (by first | omega | (simp; omega))) rfl ?_
                    refine AO.val (v := .pointer (ofs (Ab) (0 * 2 + 0))) 3 (ls' := [true, true, true, true, false, false, false, false, false, false, false, false, false]) rfl (by kernel_rfl) rfl rfl (fun w2 hw2 => Ru.fieldA fl53_0 rfl (smf encP_len (hi1_l4.at hM12a) hx12_2 rfl)) rfl ?_
                    refine AO.val (v := I ((((b).drop (j))[0]'hx12_2).key)) 4 (ls' := [true, true, true, true, true, false, false, false, false, false, false, false, false]) rfl (by kernel_rfl) rfl rfl (fun w2 hw2 => Ru.load1 el3 rfl (ldf encP_len (hi1_l4.at hw2) hx12_2 rfl)) rfl ?_
                    refine AO.val (v := .slice (Ab) ((b.drop j).length) (cb)) 5 (ls' := [true, true, true, true, true, true, false, false, false, false, false, false, false]) rfl (by kernel_rfl) rfl rfl (fun w2 hw2 => Ru.move rfl) rfl ?_
                    have hx12_6 : 0 < ((b).drop (j)).length := (by first | omega | (simp; omega))
                    refine AO.val (v := .pointer (ofs (Ab) (0 * 2))) 6 (ls' := [true, true, true, true, true, true, true, false, false, false, false, false, false]) rfl (by kernel_rfl) rfl rfl (fun w2 hw2 => Ru.indexA (j := 0) Try.underlying36 el53 rfl rfl (smf encP_len (hi1_l4.at hM12a) hx12_6 rfl) (by omega) (by first | omega | (simp; omega))) rfl ?_
                    refine AO.val (v := .pointer (ofs (Ab) (0 * 2 + 1))) 7 (ls' := [true, true, true, true, true, true, true, true, false, false, false, false, false]) rfl (by kernel_rfl) rfl rfl (fun w2 hw2 => Ru.fieldA fl53_1 rfl (smf encP_len (hi1_l4.at hM12a) hx12_6 rfl)) rfl ?_
                    refine AO.val (v := I ((((b).drop (j))[0]'hx12_6).val)) 8 (ls' := [true, true, true, true, true, true, true, true, true, false, false, false, false]) rfl (by kernel_rfl) rfl rfl (fun w2 hw2 => Ru.load1 el3 rfl (ldf encP_len (hi1_l4.at hw2) hx12_6 rfl)) rfl ?_
                    refine AO.val (v := .agg #[I (1), I ((((b).drop (j))[0]'hx12_2).key), I ((((b).drop (j))[0]'hx12_6).val)]) 9 (ls' := [true, true, true, true, true, true, true, true, true, true, false, false, false]) rfl (by kernel_rfl) rfl rfl (fun w2 hw2 => Ru.build of34 rfl rfl rfl) rfl ?_
                    refine AO.one 10 (by kernel_rfl) ?_
                    refine step1 (ls' := [true, true, true, true, true, true, true, true, true, true, true, false, false]) rfl rfl ?_
                    refine O.mlit (sz := 3) (cs := [I (1), I ((((b).drop (j))[0]'hx12_2).key), I ((((b).drop (j))[0]'hx12_6).val)]) hM12a rfl Try.underlying23 el34 rfl rfl rfl (by kernel_rfl) (by kernel_rfl) rfl rfl (fun w12_10 b12_10 hb12_10 (hM12_10 : Mem w w12_10 [] [[⟨.slice (bl b12_10) (1) (1), 34, 3, 1, ([(⟨1, (((b).drop (j))[0]'hx12_2).key, (((b).drop (j))[0]'hx12_6).val⟩ : RecT)]).flatMap encG⟩], [⟨.slice (A2) ((lbU a b lo).length) (c2), 34, 3, ((lbU a b lo).length), (lbU a b lo).flatMap encG⟩]]) => ?_)
                    refine O.stop (Mem.none hM12_10) ?_
                    refine AO.one 11 (by kernel_rfl) ?_
                    refine step1 (ls' := [true, true, true, true, true, true, true, true, true, true, true, true, false]) rfl rfl ?_
                    refine O.mappend (sz := 3) (news := ([(⟨1, (((b).drop (j))[0]'hx12_2).key, (((b).drop (j))[0]'hx12_6).val⟩ : RecT)]).flatMap encG) (m1 := (lbU a b lo ++ [(⟨1, (((b).drop (j))[0]'hx12_2).key, (((b).drop (j))[0]'hx12_6).val⟩ : RecT)]).length) (xs1 := (lbU a b lo ++ [(⟨1, (((b).drop (j))[0]'hx12_2).key, (((b).drop (j))[0]'hx12_6).val⟩ : RecT)]).flatMap encG) (M' := fun A12_11 c12_11 => [[⟨.slice (bl b12_10) (1) (1), 34, 3, 1, ([(⟨1, (((b).drop (j))[0]'hx12_2).key, (((b).drop (j))[0]'hx12_6).val⟩ : RecT)]).flatMap encG⟩], [⟨.slice (A12_11) ((lbU a b lo ++ [(⟨1, (((b).drop (j))[0]'hx12_2).key, (((b).drop (j))[0]'hx12_6).val⟩ : RecT)]).length) (c12_11), 34, 3, ((lbU a b lo ++ [(⟨1, (((b).drop (j))[0]'hx12_2).key, (((b).drop (j))[0]'hx12_6).val⟩ : RecT)]).length), (lbU a b lo ++ [(⟨1, (((b).drop (j))[0]'hx12_2).key, (((b).drop (j))[0]'hx12_6).val⟩ : RecT)]).flatMap encG⟩]]) 1 0 hM12_10 rfl rfl rfl Try.underlying23 el34 ⟨rfl, by decide⟩ rfl rfl rfl (hM12_10.rd 0 rfl) (by rw [flat_len encG_len]; first | done | (simp; done) | (simp; omega)) (all_flat_one (fun _ => rfl) _) (by first | omega | (simp; omega)) (by first | omega | (simp; omega)) (by first | (simp; done) | (simp; omega)) (by simp) (fun _ _ => rfl) (fun w12_11 A12_11 c12_11 hc12_11 hM12_11 => ?_)
                    try dsimp only at hM12_11
                    refine O.stop (Mem.none hM12_11) ?_
                    refine AO.val (v := .slice (A12_11) ((lbU a b lo ++ [(⟨1, (((b).drop (j))[0]'hx12_2).key, (((b).drop (j))[0]'hx12_6).val⟩ : RecT)]).length) (c12_11)) 12 (ls' := [true, true, true, true, true, true, true, true, true, true, true, true, true]) rfl (by kernel_rfl) rfl rfl (fun w2 hw2 => Ru.assign rfl) rfl ?_
                    refine AO.nil (by kernel_rfl) ?_
                    refine C.region ?_
                    refine O.val (v := .slice (Ab) ((b.drop j).length) (cb)) rfl (Ru.move rfl) rfl ?_
                    refine O.val (v := .slice (if cb = 1 then Ab else ofs (Ab) (1 * 2)) ((((b).drop (j)).drop (1)).length) (cb - 1)) rfl (Ru.congr (v := .slice (if cb = 1 then Ab else ofs (Ab) (1 * 2)) (((b.drop j).length) - 1) (cb - 1)) (v' := .slice (if cb = 1 then Ab else ofs (Ab) (1 * 2)) ((((b).drop (j)).drop (1)).length) (cb - 1)) (Ru.lsliceFrom (l := 1) Try.underlying36 el53 rfl rfl (by omega) (by omega)) (sl_congr (by first | rfl | (simp; done) | omega | (simp; omega)))) rfl ?_
                    refine O.val (v := .slice (if cb = 1 then Ab else ofs (Ab) (1 * 2)) ((((b).drop (j)).drop (1)).length) (cb - 1)) rfl (Ru.assign rfl) rfl ?_
                    refine O.nil ?_
                    have hq20 : (lbU a b lo ++ [(⟨1, (((b).drop (j))[0]'hx12_2).key, (((b).drop (j))[0]'hx12_6).val⟩ : RecT)] : List RecT) = lbU a b (((b.drop j)[0]'hB0).key.toNat + 1) := lbB.1.symm
                    have hMn20 : Mem w w12_11 [] [[⟨.slice (bl b12_10) (1) (1), 34, 3, 1, ([(⟨1, (((b).drop (j))[0]'hx12_2).key, (((b).drop (j))[0]'hx12_6).val⟩ : RecT)]).flatMap encG⟩], [⟨.slice (A12_11) ((lbU a b (((b.drop j)[0]'hB0).key.toNat + 1)).length) (c12_11), 34, 3, ((lbU a b (((b.drop j)[0]'hB0).key.toNat + 1)).length), (lbU a b (((b.drop j)[0]'hB0).key.toNat + 1)).flatMap encG⟩]] := hM12_11.relen 1 (n' := (lbU a b (((b.drop j)[0]'hB0).key.toNat + 1)).length) (xs' := (lbU a b (((b.drop j)[0]'hB0).key.toNat + 1)).flatMap encG) rfl (by first | rfl | exact congrArg List.length hq20 | (have hqq := congrArg List.length hq20; first | omega | (simp at hqq ⊢; omega)) | (simp; done) | (simp; omega)) (congrArg (fun z_ => (z_).flatMap encG) hq20) rfl
                    simp only [blkQ]
                    exact loopEnd (((((b.drop j)[0]'hB0).key.toNat + 1), i, (j + 1), Aa, ca, (if cb = 1 then Ab else ofs (Ab) (1 * 2)), (cb - 1), A12_11, c12_11) : Nat × Nat × Nat × (Option Addr) × Nat × (Option Addr) × Nat × (Option Addr) × Nat) (by (try dsimp only); simp only [List.length_drop] at *; omega) (Has.cons (sl_congr (by simp; try omega)) (Has.cons (sl_congr (by simp; try omega)) (Has.cons (sl_congr (by first | rfl | exact congrArg List.length lbA.1.symm | exact congrArg List.length lbB.1.symm | (rw [lbC.1, if_pos c30]; done) | (rw [lbC.1, if_neg c30, List.append_nil]; done))) Has.nil))) ⟨hi0_l4, (by (try dsimp only); have h9 := rd_dropN (k := 1) (c := cb) encP_len hi1_l4 (by omega) (by omega); rwa [List.drop_drop] at h9), (by (try dsimp only); have h7 := hi2_l4; have h6 := hB0; have h5 := hB0; simp only [List.length_drop] at h7 h6 h5 ⊢; omega), (lbB.2.1), (lbB.2.2.1), (lbB.2.2.2), (hMn20.pick [1] (by decide) rfl)⟩
                  · refine C.seq ?_
                    refine C.seq ?_
                    have hA0 : 0 < (a.drop i).length := by omega
                    have hB0 : 0 < (b.drop j).length := by omega
                    have lbC := lb_C2 hva hvb hi3_l4 hi4_l4 hA0 hB0 (by omega)
                    refine C.draws (fun w2 => Mem w w2 [] [[⟨.slice (A2) ((lbU a b lo).length) (c2), 34, 3, ((lbU a b lo).length), (lbU a b lo).flatMap encG⟩]]) mixed (by kernel_rfl) (hM11d.ext (kdrawn _)) ?_
                    refine QO.val (v := .slice (Aa) ((a.drop i).length) (ca)) rfl (fun w2 hw2 => Ru.move rfl) rfl ?_
                    have hx5_1 : 0 < ((a).drop (i)).length := (by first | omega | (simp; omega))
                    refine QO.val (v := .pointer (ofs (Aa) (0 * 2))) rfl (fun w2 hw2 => Ru.indexA (j := 0) Try.underlying36 el53 rfl rfl (smf encP_len (hi0_l4.at hw2) hx5_1 rfl) (by omega) (by first | omega | (simp; omega))) rfl ?_
                    refine QO.val (v := .pointer (ofs (Aa) (0 * 2 + 1))) rfl (fun w2 hw2 => Ru.fieldA fl53_1 rfl (smf encP_len (hi0_l4.at hw2) hx5_1 rfl)) rfl ?_
                    refine QO.val rfl (fun w2 hw2 => Ru.load1 el3 rfl (ldf encP_len (hi0_l4.at hw2) hx5_1 rfl)) rfl ?_
                    refine QO.val (v := .slice (Ab) ((b.drop j).length) (cb)) rfl (fun w2 hw2 => Ru.move rfl) rfl ?_
                    have hx5_5 : 0 < ((b).drop (j)).length := (by first | omega | (simp; omega))
                    refine QO.val (v := .pointer (ofs (Ab) (0 * 2))) rfl (fun w2 hw2 => Ru.indexA (j := 0) Try.underlying36 el53 rfl rfl (smf encP_len (hi1_l4.at hw2) hx5_5 rfl) (by omega) (by first | omega | (simp; omega))) rfl ?_
                    refine QO.val (v := .pointer (ofs (Ab) (0 * 2 + 1))) rfl (fun w2 hw2 => Ru.fieldA fl53_1 rfl (smf encP_len (hi1_l4.at hw2) hx5_5 rfl)) rfl ?_
                    refine QO.val rfl (fun w2 hw2 => Ru.load1 el3 rfl (ldf encP_len (hi1_l4.at hw2) hx5_5 rfl)) rfl ?_
                    refine QO.val (v := .bool (decide ((((a).drop (i))[0]'hx5_1).val ≠ (((b).drop (j))[0]'hx5_5).val))) rfl (fun w2 hw2 => Ru.neq rfl rfl) rfl ?_
                    refine QO.nil ?_
                    intro w5d hM5d
                    refine C.cond (p := (((a).drop (i))[0]'hx5_1).val ≠ (((b).drop (j))[0]'hx5_5).val) rfl (fun c30 => ?_) (fun c30 => ?_)
                    · refine C.any (f := 13) (ls := [false, false, false, false, false, false, false, false, false, false, false, false, false]) (fun w2 => Mem w w2 [] []) mixed rfl rfl (fun w2 hw2 => Mem0.ext (Mem.none hM5d) hw2) (fun w6a hE6a => ?_)
                      have hM6a : Mem w w6a [] [[⟨.slice (A2) ((lbU a b lo).length) (c2), 34, 3, ((lbU a b lo).length), (lbU a b lo).flatMap encG⟩]] := Mem0.ext hM5d hE6a
                      refine AO.val (v := .slice (A2) ((lbU a b lo).length) (c2)) 0 (ls' := [true, false, false, false, false, false, false, false, false, false, false, false, false]) rfl (by kernel_rfl) rfl rfl (fun w2 hw2 => Ru.move rfl) rfl ?_
                      refine AO.val (v := .slice (Ab) ((b.drop j).length) (cb)) 1 (ls' := [true, true, false, false, false, false, false, false, false, false, false, false, false]) rfl (by kernel_rfl) rfl rfl (fun w2 hw2 => Ru.move rfl) rfl ?_
                      have hx6_2 : 0 < ((b).drop (j)).length := (by first | omega | (simp; omega))
                      refine AO.val (v := .pointer (ofs (Ab) (0 * 2))) 2 (ls' := [true, true, true, false, false, false, false, false, false, false, false, false, false]) rfl (by kernel_rfl) rfl rfl (fun w2 hw2 => Ru.indexA (j := 0) Try.underlying36 el53 rfl rfl (smf encP_len (hi1_l4.at hM6a) hx6_2 rfl) (by omega) (by first | omega | (simp; omega))) rfl ?_
                      refine AO.val (v := .pointer (ofs (Ab) (0 * 2 + 0))) 3 (ls' := [true, true, true, true, false, false, false, false, false, false, false, false, false]) rfl (by kernel_rfl) rfl rfl (fun w2 hw2 => Ru.fieldA fl53_0 rfl (smf encP_len (hi1_l4.at hM6a) hx6_2 rfl)) rfl ?_
                      refine AO.val (v := I ((((b).drop (j))[0]'hx6_2).key)) 4 (ls' := [true, true, true, true, true, false, false, false, false, false, false, false, false]) rfl (by kernel_rfl) rfl rfl (fun w2 hw2 => Ru.load1 el3 rfl (ldf encP_len (hi1_l4.at hw2) hx6_2 rfl)) rfl ?_
                      refine AO.val (v := .slice (Ab) ((b.drop j).length) (cb)) 5 (ls' := [true, true, true, true, true, true, false, false, false, false, false, false, false]) rfl (by kernel_rfl) rfl rfl (fun w2 hw2 => Ru.move rfl) rfl ?_
                      have hx6_6 : 0 < ((b).drop (j)).length := (by first | omega | (simp; omega))
                      refine AO.val (v := .pointer (ofs (Ab) (0 * 2))) 6 (ls' := [true, true, true, true, true, true, true, false, false, false, false, false, false]) rfl (by kernel_rfl) rfl rfl (fun w2 hw2 => Ru.indexA (j := 0) Try.underlying36 el53 rfl rfl (smf encP_len (hi1_l4.at hM6a) hx6_6 rfl) (by omega) (by first | omega | (simp; omega))) rfl ?_
                      refine AO.val (v := .pointer (ofs (Ab) (0 * 2 + 1))) 7 (ls' := [true, true, true, true, true, true, true, true, false, false, false, false, false]) rfl (by kernel_rfl) rfl rfl (fun w2 hw2 => Ru.fieldA fl53_1 rfl (smf encP_len (hi1_l4.at hM6a) hx6_6 rfl)) rfl ?_
                      refine AO.val (v := I ((((b).drop (j))[0]'hx6_6).val)) 8 (ls' := [true, true, true, true, true, true, true, true, true, false, false, false, false]) rfl (by kernel_rfl) rfl rfl (fun w2 hw2 => Ru.load1 el3 rfl (ldf encP_len (hi1_l4.at hw2) hx6_6 rfl)) rfl ?_
                      refine AO.val (v := .agg #[I (1), I ((((b).drop (j))[0]'hx6_2).key), I ((((b).drop (j))[0]'hx6_6).val)]) 9 (ls' := [true, true, true, true, true, true, true, true, true, true, false, false, false]) rfl (by kernel_rfl) rfl rfl (fun w2 hw2 => Ru.build of34 rfl rfl rfl) rfl ?_
                      refine AO.one 10 (by kernel_rfl) ?_
                      refine step1 (ls' := [true, true, true, true, true, true, true, true, true, true, true, false, false]) rfl rfl ?_
                      refine O.mlit (sz := 3) (cs := [I (1), I ((((b).drop (j))[0]'hx6_2).key), I ((((b).drop (j))[0]'hx6_6).val)]) hM6a rfl Try.underlying23 el34 rfl rfl rfl (by kernel_rfl) (by kernel_rfl) rfl rfl (fun w6_10 b6_10 hb6_10 (hM6_10 : Mem w w6_10 [] [[⟨.slice (bl b6_10) (1) (1), 34, 3, 1, ([(⟨1, (((b).drop (j))[0]'hx6_2).key, (((b).drop (j))[0]'hx6_6).val⟩ : RecT)]).flatMap encG⟩], [⟨.slice (A2) ((lbU a b lo).length) (c2), 34, 3, ((lbU a b lo).length), (lbU a b lo).flatMap encG⟩]]) => ?_)
                      refine O.stop (Mem.none hM6_10) ?_
                      refine AO.one 11 (by kernel_rfl) ?_
                      refine step1 (ls' := [true, true, true, true, true, true, true, true, true, true, true, true, false]) rfl rfl ?_
                      refine O.mappend (sz := 3) (news := ([(⟨1, (((b).drop (j))[0]'hx6_2).key, (((b).drop (j))[0]'hx6_6).val⟩ : RecT)]).flatMap encG) (m1 := (lbU a b lo ++ [(⟨1, (((b).drop (j))[0]'hx6_2).key, (((b).drop (j))[0]'hx6_6).val⟩ : RecT)]).length) (xs1 := (lbU a b lo ++ [(⟨1, (((b).drop (j))[0]'hx6_2).key, (((b).drop (j))[0]'hx6_6).val⟩ : RecT)]).flatMap encG) (M' := fun A6_11 c6_11 => [[⟨.slice (bl b6_10) (1) (1), 34, 3, 1, ([(⟨1, (((b).drop (j))[0]'hx6_2).key, (((b).drop (j))[0]'hx6_6).val⟩ : RecT)]).flatMap encG⟩], [⟨.slice (A6_11) ((lbU a b lo ++ [(⟨1, (((b).drop (j))[0]'hx6_2).key, (((b).drop (j))[0]'hx6_6).val⟩ : RecT)]).length) (c6_11), 34, 3, ((lbU a b lo ++ [(⟨1, (((b).drop (j))[0]'hx6_2).key, (((b).drop (j))[0]'hx6_6).val⟩ : RecT)]).length), (lbU a b lo ++ [(⟨1, (((b).drop (j))[0]'hx6_2).key, (((b).drop (j))[0]'hx6_6).val⟩ : RecT)]).flatMap encG⟩]]) 1 0 hM6_10 rfl rfl rfl Try.underlying23 el34 ⟨rfl, by decide⟩ rfl rfl rfl (hM6_10.rd 0 rfl) (by rw [flat_len encG_len]; first | done | (simp; done) | (simp; omega)) (all_flat_one (fun _ => rfl) _) (by first | omega | (simp; omega)) (by first | omega | (simp; omega)) (by first | (simp; done) | (simp; omega)) (by simp) (fun _ _ => rfl) (fun w6_11 A6_11 c6_11 hc6_11 hM6_11 => ?_)
                      try dsimp only at hM6_11
                      refine O.stop (Mem.none hM6_11) ?_
                      refine AO.val (v := .slice (A6_11) ((lbU a b lo ++ [(⟨1, (((b).drop (j))[0]'hx6_2).key, (((b).drop (j))[0]'hx6_6).val⟩ : RecT)]).length) (c6_11)) 12 (ls' := [true, true, true, true, true, true, true, true, true, true, true, true, true]) rfl (by kernel_rfl) rfl rfl (fun w2 hw2 => Ru.assign rfl) rfl ?_
                      refine AO.nil (by kernel_rfl) ?_
                      refine C.draws (fun w2 => Mem w w2 [] [[⟨.slice (bl b6_10) (1) (1), 34, 3, 1, ([(⟨1, (((b).drop (j))[0]'hx6_2).key, (((b).drop (j))[0]'hx6_6).val⟩ : RecT)]).flatMap encG⟩], [⟨.slice (A6_11) ((lbU a b lo ++ [(⟨1, (((b).drop (j))[0]'hx6_2).key, (((b).drop (j))[0]'hx6_6).val⟩ : RecT)]).length) (c6_11), 34, 3, ((lbU a b lo ++ [(⟨1, (((b).drop (j))[0]'hx6_2).key, (((b).drop (j))[0]'hx6_6).val⟩ : RecT)]).length), (lbU a b lo ++ [(⟨1, (((b).drop (j))[0]'hx6_2).key, (((b).drop (j))[0]'hx6_6).val⟩ : RecT)]).flatMap encG⟩]]) mixed (by kernel_rfl) (hM6_11.ext (kdrawn _)) ?_
                      refine QO.val (v := .slice (Aa) ((a.drop i).length) (ca)) rfl (fun w2 hw2 => Ru.move rfl) rfl ?_
                      refine QO.val (v := .slice (if ca = 1 then Aa else ofs (Aa) (1 * 2)) ((((a).drop (i)).drop (1)).length) (ca - 1)) rfl (fun w2 hw2 => Ru.congr (v := .slice (if ca = 1 then Aa else ofs (Aa) (1 * 2)) (((a.drop i).length) - 1) (ca - 1)) (v' := .slice (if ca = 1 then Aa else ofs (Aa) (1 * 2)) ((((a).drop (i)).drop (1)).length) (ca - 1)) (Ru.lsliceFrom (l := 1) Try.underlying36 el53 rfl rfl (by omega) (by omega)) (sl_congr (by first | rfl | (simp; done) | omega | (simp; omega)))) rfl ?_
                      refine QO.val (v := .slice (Ab) ((b.drop j).length) (cb)) rfl (fun w2 hw2 => Ru.move rfl) rfl ?_
                      refine QO.val (v := .slice (if cb = 1 then Ab else ofs (Ab) (1 * 2)) ((((b).drop (j)).drop (1)).length) (cb - 1)) rfl (fun w2 hw2 => Ru.congr (v := .slice (if cb = 1 then Ab else ofs (Ab) (1 * 2)) (((b.drop j).length) - 1) (cb - 1)) (v' := .slice (if cb = 1 then Ab else ofs (Ab) (1 * 2)) ((((b).drop (j)).drop (1)).length) (cb - 1)) (Ru.lsliceFrom (l := 1) Try.underlying36 el53 rfl rfl (by omega) (by omega)) (sl_congr (by first | rfl | (simp; done) | omega | (simp; omega)))) rfl ?_
                      refine QO.val (v := .slice (if ca = 1 then Aa else ofs (Aa) (1 * 2)) ((((a).drop (i)).drop (1)).length) (ca - 1)) rfl (fun w2 hw2 => Ru.assign rfl) rfl ?_
                      refine QO.val (v := .slice (if cb = 1 then Ab else ofs (Ab) (1 * 2)) ((((b).drop (j)).drop (1)).length) (cb - 1)) rfl (fun w2 hw2 => Ru.assign rfl) rfl ?_
                      refine QO.nil ?_
                      intro w7d hM7d
                      have hq21 : (lbU a b lo ++ [(⟨1, (((b).drop (j))[0]'hx6_2).key, (((b).drop (j))[0]'hx6_6).val⟩ : RecT)] : List RecT) = lbU a b (((b.drop j)[0]'hB0).key.toNat + 1) := (by rw [lbC.1, if_pos c30])
                      have hMn21 : Mem w w7d [] [[⟨.slice (bl b6_10) (1) (1), 34, 3, 1, ([(⟨1, (((b).drop (j))[0]'hx6_2).key, (((b).drop (j))[0]'hx6_6).val⟩ : RecT)]).flatMap encG⟩], [⟨.slice (A6_11) ((lbU a b (((b.drop j)[0]'hB0).key.toNat + 1)).length) (c6_11), 34, 3, ((lbU a b (((b.drop j)[0]'hB0).key.toNat + 1)).length), (lbU a b (((b.drop j)[0]'hB0).key.toNat + 1)).flatMap encG⟩]] := hM7d.relen 1 (n' := (lbU a b (((b.drop j)[0]'hB0).key.toNat + 1)).length) (xs' := (lbU a b (((b.drop j)[0]'hB0).key.toNat + 1)).flatMap encG) rfl (by first | rfl | exact congrArg List.length hq21 | (have hqq := congrArg List.length hq21; first | omega | (simp at hqq ⊢; omega)) | (simp; done) | (simp; omega)) (congrArg (fun z_ => (z_).flatMap encG) hq21) rfl
                      simp only [blkQ]
                      exact loopEnd (((((b.drop j)[0]'hB0).key.toNat + 1), (i + 1), (j + 1), (if ca = 1 then Aa else ofs (Aa) (1 * 2)), (ca - 1), (if cb = 1 then Ab else ofs (Ab) (1 * 2)), (cb - 1), A6_11, c6_11) : Nat × Nat × Nat × (Option Addr) × Nat × (Option Addr) × Nat × (Option Addr) × Nat) (by (try dsimp only); simp only [List.length_drop] at *; omega) (Has.cons (sl_congr (by simp; try omega)) (Has.cons (sl_congr (by simp; try omega)) (Has.cons (sl_congr (by first | rfl | exact congrArg List.length lbA.1.symm | exact congrArg List.length lbB.1.symm | (rw [lbC.1, if_pos c30]; done) | (rw [lbC.1, if_neg c30, List.append_nil]; done))) Has.nil))) ⟨(by (try dsimp only); have h9 := rd_dropN (k := 1) (c := ca) encP_len hi0_l4 (by omega) (by omega); rwa [List.drop_drop] at h9), (by (try dsimp only); have h9 := rd_dropN (k := 1) (c := cb) encP_len hi1_l4 (by omega) (by omega); rwa [List.drop_drop] at h9), (by (try dsimp only); have h7 := hi2_l4; have h6 := hA0; have h5 := hB0; simp only [List.length_drop] at h7 h6 h5 ⊢; omega), (lbC.2.1), (lbC.2.2.1), (lbC.2.2.2), (hMn21.pick [1] (by decide) rfl)⟩
                    · refine C.skip ?_
                      refine C.draws (fun w2 => Mem w w2 [] [[⟨.slice (A2) ((lbU a b lo).length) (c2), 34, 3, ((lbU a b lo).length), (lbU a b lo).flatMap encG⟩]]) mixed (by kernel_rfl) (hM5d.ext (kdrawn _)) ?_
                      refine QO.val (v := .slice (Aa) ((a.drop i).length) (ca)) rfl (fun w2 hw2 => Ru.move rfl) rfl ?_
                      refine QO.val (v := .slice (if ca = 1 then Aa else ofs (Aa) (1 * 2)) ((((a).drop (i)).drop (1)).length) (ca - 1)) rfl (fun w2 hw2 => Ru.congr (v := .slice (if ca = 1 then Aa else ofs (Aa) (1 * 2)) (((a.drop i).length) - 1) (ca - 1)) (v' := .slice (if ca = 1 then Aa else ofs (Aa) (1 * 2)) ((((a).drop (i)).drop (1)).length) (ca - 1)) (Ru.lsliceFrom (l := 1) Try.underlying36 el53 rfl rfl (by omega) (by omega)) (sl_congr (by first | rfl | (simp; done) | omega | (simp; omega)))) rfl ?_
                      refine QO.val (v := .slice (Ab) ((b.drop j).length) (cb)) rfl (fun w2 hw2 => Ru.move rfl) rfl ?_
                      refine QO.val (v := .slice (if cb = 1 then Ab else ofs (Ab) (1 * 2)) ((((b).drop (j)).drop (1)).length) (cb - 1)) rfl (fun w2 hw2 => Ru.congr (v := .slice (if cb = 1 then Ab else ofs (Ab) (1 * 2)) (((b.drop j).length) - 1) (cb - 1)) (v' := .slice (if cb = 1 then Ab else ofs (Ab) (1 * 2)) ((((b).drop (j)).drop (1)).length) (cb - 1)) (Ru.lsliceFrom (l := 1) Try.underlying36 el53 rfl rfl (by omega) (by omega)) (sl_congr (by first | rfl | (simp; done) | omega | (simp; omega)))) rfl ?_
                      refine QO.val (v := .slice (if ca = 1 then Aa else ofs (Aa) (1 * 2)) ((((a).drop (i)).drop (1)).length) (ca - 1)) rfl (fun w2 hw2 => Ru.assign rfl) rfl ?_
                      refine QO.val (v := .slice (if cb = 1 then Ab else ofs (Ab) (1 * 2)) ((((b).drop (j)).drop (1)).length) (cb - 1)) rfl (fun w2 hw2 => Ru.assign rfl) rfl ?_
                      refine QO.nil ?_
                      intro w7d hM7d
                      have hq22 : (lbU a b lo : List RecT) = lbU a b (((b.drop j)[0]'hB0).key.toNat + 1) := (by rw [lbC.1, if_neg c30, List.append_nil])
                      have hMn22 : Mem w w7d [] [[⟨.slice (A2) ((lbU a b (((b.drop j)[0]'hB0).key.toNat + 1)).length) (c2), 34, 3, ((lbU a b (((b.drop j)[0]'hB0).key.toNat + 1)).length), (lbU a b (((b.drop j)[0]'hB0).key.toNat + 1)).flatMap encG⟩]] := hM7d.relen 0 (n' := (lbU a b (((b.drop j)[0]'hB0).key.toNat + 1)).length) (xs' := (lbU a b (((b.drop j)[0]'hB0).key.toNat + 1)).flatMap encG) rfl (by first | rfl | exact congrArg List.length hq22 | (have hqq := congrArg List.length hq22; first | omega | (simp at hqq ⊢; omega)) | (simp; done) | (simp; omega)) (congrArg (fun z_ => (z_).flatMap encG) hq22) rfl
                      simp only [blkQ]
                      exact loopEnd (((((b.drop j)[0]'hB0).key.toNat + 1), (i + 1), (j + 1), (if ca = 1 then Aa else ofs (Aa) (1 * 2)), (ca - 1), (if cb = 1 then Ab else ofs (Ab) (1 * 2)), (cb - 1), A2, c2) : Nat × Nat × Nat × (Option Addr) × Nat × (Option Addr) × Nat × (Option Addr) × Nat) (by (try dsimp only); simp only [List.length_drop] at *; omega) (Has.cons (sl_congr (by simp; try omega)) (Has.cons (sl_congr (by simp; try omega)) (Has.cons (sl_congr (by first | rfl | exact congrArg List.length lbA.1.symm | exact congrArg List.length lbB.1.symm | (rw [lbC.1, if_pos c30]; done) | (rw [lbC.1, if_neg c30, List.append_nil]; done))) Has.nil))) ⟨(by (try dsimp only); have h9 := rd_dropN (k := 1) (c := ca) encP_len hi0_l4 (by omega) (by omega); rwa [List.drop_drop] at h9), (by (try dsimp only); have h9 := rd_dropN (k := 1) (c := cb) encP_len hi1_l4 (by omega) (by omega); rwa [List.drop_drop] at h9), (by (try dsimp only); have h7 := hi2_l4; have h6 := hA0; have h5 := hB0; simp only [List.length_drop] at h7 h6 h5 ⊢; omega), (lbC.2.1), (lbC.2.2.1), (lbC.2.2.2), (hMn22.pick [0] (by decide) rfl)⟩
            · refine QO.pass rfl rfl rfl rfl rfl ?_
              refine QO.pass rfl rfl rfl rfl rfl ?_
              refine QO.pass rfl rfl rfl rfl rfl ?_
              refine QO.pass rfl rfl rfl rfl rfl ?_
              refine QO.pass rfl rfl rfl rfl rfl ?_
              refine QO.pass rfl rfl rfl rfl rfl ?_
              refine QO.pass rfl rfl rfl rfl rfl ?_
              refine QO.pass rfl rfl rfl rfl rfl ?_
              refine QO.pass rfl rfl rfl rfl rfl ?_
              refine QO.val (v := .bool (false)) rfl (fun w2 hw2 => Ru.pickF rfl rfl) rfl ?_
              refine QO.val (v := .bool (false)) rfl (fun w2 hw2 => Ru.pickF rfl rfl) rfl ?_
              refine QO.val (v := .bool (false)) rfl (fun w2 hw2 => Ru.assign rfl) rfl ?_
              refine QO.nil ?_
              intro w8d hM8d
              refine C.condF rfl ?_
              refine C.seq ?_
              refine C.draws (fun w2 => Mem w w2 [] [[⟨.slice (A2) ((lbU a b lo).length) (c2), 34, 3, ((lbU a b lo).length), (lbU a b lo).flatMap encG⟩]]) mixed (by kernel_rfl) (hM8d.ext (kdrawn _)) ?_
              refine QO.val (v := .slice (Aa) ((a.drop i).length) (ca)) rfl (fun w2 hw2 => Ru.move rfl) rfl ?_
              refine QO.val (v := I ((((a.drop i).length : Nat) : Int))) rfl (fun w2 hw2 => Ru.blenSlice Try.underlying36 rfl) rfl ?_
              refine QO.val (v := .bool (decide ((((a.drop i).length : Nat) : Int) = 0))) rfl (fun w2 hw2 => Ru.eql rfl rfl) rfl ?_
              refine QO.val (v := .bool (decide ((((a.drop i).length : Nat) : Int) = 0))) rfl (fun w2 hw2 => Ru.move rfl) rfl ?_
              refine QO.partp 81 ((((a.drop i).length : Nat) : Int) = 0) rfl (fun g81 => ?_) (fun g81 => ?_)
              · refine QO.pass rfl rfl rfl rfl rfl ?_
                refine QO.pass rfl rfl rfl rfl rfl ?_
                refine QO.pass rfl rfl rfl rfl rfl ?_
                refine QO.pass rfl rfl rfl rfl rfl ?_
                refine QO.pass rfl rfl rfl rfl rfl ?_
                refine QO.pass rfl rfl rfl rfl rfl ?_
                refine QO.pass rfl rfl rfl rfl rfl ?_
                refine QO.pass rfl rfl rfl rfl rfl ?_
                refine QO.pass rfl rfl rfl rfl rfl ?_
                refine QO.val (v := .bool (true)) rfl (fun w2 hw2 => Ru.pickT rfl rfl) rfl ?_
                refine QO.val (v := .bool (true)) rfl (fun w2 hw2 => Ru.assign rfl) rfl ?_
                refine QO.nil ?_
                intro w11d hM11d
                refine C.condT rfl ?_
                refine C.seq ?_
                have hB0 : 0 < (b.drop j).length := by omega
                have lbB := lb_B2 hva hvb hi3_l4 hi4_l4 hB0 (fun h9 => by first | exact c77 | (exfalso; omega))
                refine C.any (f := 13) (ls := [false, false, false, false, false, false, false, false, false, false, false, false, false]) (fun w2 => Mem w w2 [] []) mixed rfl rfl (fun w2 hw2 => Mem0.ext (Mem.none hM11d) hw2) (fun w12a hE12a => ?_)
                have hM12a : Mem w w12a [] [[⟨.slice (A2) ((lbU a b lo).length) (c2), 34, 3, ((lbU a b lo).length), (lbU a b lo).flatMap encG⟩]] := Mem0.ext hM11d hE12a
                refine AO.val (v := .slice (A2) ((lbU a b lo).length) (c2)) 0 (ls' := [true, false, false, false, false, false, false, false, false, false, false, false, false]) rfl (by kernel_rfl) rfl rfl (fun w2 hw2 => Ru.move rfl) rfl ?_
                refine AO.val (v := .slice (Ab) ((b.drop j).length) (cb)) 1 (ls' := [true, true, false, false, false, false, false, false, false, false, false, false, false]) rfl (by kernel_rfl) rfl rfl (fun w2 hw2 => Ru.move rfl) rfl ?_
                have hx12_2 : 0 < ((b).drop (j)).length := (by first | omega | (simp; omega))
                refine AO.val (v := .pointer (ofs (Ab) (0 * 2))) 2 (ls' := [true, true, true, false, false, false, false, false, false, false, false, false, false]) rfl (by kernel_rfl) rfl rfl (fun w2 hw2 => Ru.indexA (j := 0) Try.underlying36 el53 rfl rfl (smf encP_len (hi1_l4.at hM12a) hx12_2 rfl) (by omega) (by first | omega | (simp; omega))) rfl ?_
                refine AO.val (v := .pointer (ofs (Ab) (0 * 2 + 0))) 3 (ls' := [true, true, true, true, false, false, false, false, false, false, false, false, false]) rfl (by kernel_rfl) rfl rfl (fun w2 hw2 => Ru.fieldA fl53_0 rfl (smf encP_len (hi1_l4.at hM12a) hx12_2 rfl)) rfl ?_
                refine AO.val (v := I ((((b).drop (j))[0]'hx12_2).key)) 4 (ls' := [true, true, true, true, true, false, false, false, false, false, false, false, false]) rfl (by kernel_rfl) rfl rfl (fun w2 hw2 => Ru.load1 el3 rfl (ldf encP_len (hi1_l4.at hw2) hx12_2 rfl)) rfl ?_
                refine AO.val (v := .slice (Ab) ((b.drop j).length) (cb)) 5 (ls' := [true, true, true, true, true, true, false, false, false, false, false, false, false]) rfl (by kernel_rfl) rfl rfl (fun w2 hw2 => Ru.move rfl) rfl ?_
                have hx12_6 : 0 < ((b).drop (j)).length := (by first | omega | (simp; omega))
                refine AO.val (v := .pointer (ofs (Ab) (0 * 2))) 6 (ls' := [true, true, true, true, true, true, true, false, false, false, false, false, false]) rfl (by kernel_rfl) rfl rfl (fun w2 hw2 => Ru.indexA (j := 0) Try.underlying36 el53 rfl rfl (smf encP_len (hi1_l4.at hM12a) hx12_6 rfl) (by omega) (by first | omega | (simp; omega))) rfl ?_
                refine AO.val (v := .pointer (ofs (Ab) (0 * 2 + 1))) 7 (ls' := [true, true, true, true, true, true, true, true, false, false, false, false, false]) rfl (by kernel_rfl) rfl rfl (fun w2 hw2 => Ru.fieldA fl53_1 rfl (smf encP_len (hi1_l4.at hM12a) hx12_6 rfl)) rfl ?_
                refine AO.val (v := I ((((b).drop (j))[0]'hx12_6).val)) 8 (ls' := [true, true, true, true, true, true, true, true, true, false, false, false, false]) rfl (by kernel_rfl) rfl rfl (fun w2 hw2 => Ru.load1 el3 rfl (ldf encP_len (hi1_l4.at hw2) hx12_6 rfl)) rfl ?_
                refine AO.val (v := .agg #[I (1), I ((((b).drop (j))[0]'hx12_2).key), I ((((b).drop (j))[0]'hx12_6).val)]) 9 (ls' := [true, true, true, true, true, true, true, true, true, true, false, false, false]) rfl (by kernel_rfl) rfl rfl (fun w2 hw2 => Ru.build of34 rfl rfl rfl) rfl ?_
                refine AO.one 10 (by kernel_rfl) ?_
                refine step1 (ls' := [true, true, true, true, true, true, true, true, true, true, true, false, false]) rfl rfl ?_
                refine O.mlit (sz := 3) (cs := [I (1), I ((((b).drop (j))[0]'hx12_2).key), I ((((b).drop (j))[0]'hx12_6).val)]) hM12a rfl Try.underlying23 el34 rfl rfl rfl (by kernel_rfl) (by kernel_rfl) rfl rfl (fun w12_10 b12_10 hb12_10 (hM12_10 : Mem w w12_10 [] [[⟨.slice (bl b12_10) (1) (1), 34, 3, 1, ([(⟨1, (((b).drop (j))[0]'hx12_2).key, (((b).drop (j))[0]'hx12_6).val⟩ : RecT)]).flatMap encG⟩], [⟨.slice (A2) ((lbU a b lo).length) (c2), 34, 3, ((lbU a b lo).length), (lbU a b lo).flatMap encG⟩]]) => ?_)
                refine O.stop (Mem.none hM12_10) ?_
                refine AO.one 11 (by kernel_rfl) ?_
                refine step1 (ls' := [true, true, true, true, true, true, true, true, true, true, true, true, false]) rfl rfl ?_
                refine O.mappend (sz := 3) (news := ([(⟨1, (((b).drop (j))[0]'hx12_2).key, (((b).drop (j))[0]'hx12_6).val⟩ : RecT)]).flatMap encG) (m1 := (lbU a b lo ++ [(⟨1, (((b).drop (j))[0]'hx12_2).key, (((b).drop (j))[0]'hx12_6).val⟩ : RecT)]).length) (xs1 := (lbU a b lo ++ [(⟨1, (((b).drop (j))[0]'hx12_2).key, (((b).drop (j))[0]'hx12_6).val⟩ : RecT)]).flatMap encG) (M' := fun A12_11 c12_11 => [[⟨.slice (bl b12_10) (1) (1), 34, 3, 1, ([(⟨1, (((b).drop (j))[0]'hx12_2).key, (((b).drop (j))[0]'hx12_6).val⟩ : RecT)]).flatMap encG⟩], [⟨.slice (A12_11) ((lbU a b lo ++ [(⟨1, (((b).drop (j))[0]'hx12_2).key, (((b).drop (j))[0]'hx12_6).val⟩ : RecT)]).length) (c12_11), 34, 3, ((lbU a b lo ++ [(⟨1, (((b).drop (j))[0]'hx12_2).key, (((b).drop (j))[0]'hx12_6).val⟩ : RecT)]).length), (lbU a b lo ++ [(⟨1, (((b).drop (j))[0]'hx12_2).key, (((b).drop (j))[0]'hx12_6).val⟩ : RecT)]).flatMap encG⟩]]) 1 0 hM12_10 rfl rfl rfl Try.underlying23 el34 ⟨rfl, by decide⟩ rfl rfl rfl (hM12_10.rd 0 rfl) (by rw [flat_len encG_len]; first | done | (simp; done) | (simp; omega)) (all_flat_one (fun _ => rfl) _) (by first | omega | (simp; omega)) (by first | omega | (simp; omega)) (by first | (simp; done) | (simp; omega)) (by simp) (fun _ _ => rfl) (fun w12_11 A12_11 c12_11 hc12_11 hM12_11 => ?_)
                try dsimp only at hM12_11
                refine O.stop (Mem.none hM12_11) ?_
                refine AO.val (v := .slice (A12_11) ((lbU a b lo ++ [(⟨1, (((b).drop (j))[0]'hx12_2).key, (((b).drop (j))[0]'hx12_6).val⟩ : RecT)]).length) (c12_11)) 12 (ls' := [true, true, true, true, true, true, true, true, true, true, true, true, true]) rfl (by kernel_rfl) rfl rfl (fun w2 hw2 => Ru.assign rfl) rfl ?_
                refine AO.nil (by kernel_rfl) ?_
                refine C.region ?_
                refine O.val (v := .slice (Ab) ((b.drop j).length) (cb)) rfl (Ru.move rfl) rfl ?_
                refine O.val (v := .slice (if cb = 1 then Ab else ofs (Ab) (1 * 2)) ((((b).drop (j)).drop (1)).length) (cb - 1)) rfl (Ru.congr (v := .slice (if cb = 1 then Ab else ofs (Ab) (1 * 2)) (((b.drop j).length) - 1) (cb - 1)) (v' := .slice (if cb = 1 then Ab else ofs (Ab) (1 * 2)) ((((b).drop (j)).drop (1)).length) (cb - 1)) (Ru.lsliceFrom (l := 1) Try.underlying36 el53 rfl rfl (by omega) (by omega)) (sl_congr (by first | rfl | (simp; done) | omega | (simp; omega)))) rfl ?_
                refine O.val (v := .slice (if cb = 1 then Ab else ofs (Ab) (1 * 2)) ((((b).drop (j)).drop (1)).length) (cb - 1)) rfl (Ru.assign rfl) rfl ?_
                refine O.nil ?_
                have hq23 : (lbU a b lo ++ [(⟨1, (((b).drop (j))[0]'hx12_2).key, (((b).drop (j))[0]'hx12_6).val⟩ : RecT)] : List RecT) = lbU a b (((b.drop j)[0]'hB0).key.toNat + 1) := lbB.1.symm
                have hMn23 : Mem w w12_11 [] [[⟨.slice (bl b12_10) (1) (1), 34, 3, 1, ([(⟨1, (((b).drop (j))[0]'hx12_2).key, (((b).drop (j))[0]'hx12_6).val⟩ : RecT)]).flatMap encG⟩], [⟨.slice (A12_11) ((lbU a b (((b.drop j)[0]'hB0).key.toNat + 1)).length) (c12_11), 34, 3, ((lbU a b (((b.drop j)[0]'hB0).key.toNat + 1)).length), (lbU a b (((b.drop j)[0]'hB0).key.toNat + 1)).flatMap encG⟩]] := hM12_11.relen 1 (n' := (lbU a b (((b.drop j)[0]'hB0).key.toNat + 1)).length) (xs' := (lbU a b (((b.drop j)[0]'hB0).key.toNat + 1)).flatMap encG) rfl (by first | rfl | exact congrArg List.length hq23 | (have hqq := congrArg List.length hq23; first | omega | (simp at hqq ⊢; omega)) | (simp; done) | (simp; omega)) (congrArg (fun z_ => (z_).flatMap encG) hq23) rfl
                simp only [blkQ]
                exact loopEnd (((((b.drop j)[0]'hB0).key.toNat + 1), i, (j + 1), Aa, ca, (if cb = 1 then Ab else ofs (Ab) (1 * 2)), (cb - 1), A12_11, c12_11) : Nat × Nat × Nat × (Option Addr) × Nat × (Option Addr) × Nat × (Option Addr) × Nat) (by (try dsimp only); simp only [List.length_drop] at *; omega) (Has.cons (sl_congr (by simp; try omega)) (Has.cons (sl_congr (by simp; try omega)) (Has.cons (sl_congr (by first | rfl | exact congrArg List.length lbA.1.symm | exact congrArg List.length lbB.1.symm | (rw [lbC.1, if_pos c30]; done) | (rw [lbC.1, if_neg c30, List.append_nil]; done))) Has.nil))) ⟨hi0_l4, (by (try dsimp only); have h9 := rd_dropN (k := 1) (c := cb) encP_len hi1_l4 (by omega) (by omega); rwa [List.drop_drop] at h9), (by (try dsimp only); have h7 := hi2_l4; have h6 := hB0; have h5 := hB0; simp only [List.length_drop] at h7 h6 h5 ⊢; omega), (lbB.2.1), (lbB.2.2.1), (lbB.2.2.2), (hMn23.pick [1] (by decide) rfl)⟩
              · refine QO.val (v := .slice (Ab) ((b.drop j).length) (cb)) rfl (fun w2 hw2 => Ru.move rfl) rfl ?_
                have hx11_5 : 0 < ((b).drop (j)).length := (by first | omega | (simp; omega))
                refine QO.val (v := .pointer (ofs (Ab) (0 * 2))) rfl (fun w2 hw2 => Ru.indexA (j := 0) Try.underlying36 el53 rfl rfl (smf encP_len (hi1_l4.at hw2) hx11_5 rfl) (by omega) (by first | omega | (simp; omega))) rfl ?_
                refine QO.val (v := .pointer (ofs (Ab) (0 * 2 + 0))) rfl (fun w2 hw2 => Ru.fieldA fl53_0 rfl (smf encP_len (hi1_l4.at hw2) hx11_5 rfl)) rfl ?_
                refine QO.val rfl (fun w2 hw2 => Ru.load1 el3 rfl (ldf encP_len (hi1_l4.at hw2) hx11_5 rfl)) rfl ?_
                refine QO.val (v := .slice (Aa) ((a.drop i).length) (ca)) rfl (fun w2 hw2 => Ru.move rfl) rfl ?_
                have hx11_9 : 0 < ((a).drop (i)).length := (by first | omega | (simp; omega))
                refine QO.val (v := .pointer (ofs (Aa) (0 * 2))) rfl (fun w2 hw2 => Ru.indexA (j := 0) Try.underlying36 el53 rfl rfl (smf encP_len (hi0_l4.at hw2) hx11_9 rfl) (by omega) (by first | omega | (simp; omega))) rfl ?_
                refine QO.val (v := .pointer (ofs (Aa) (0 * 2 + 0))) rfl (fun w2 hw2 => Ru.fieldA fl53_0 rfl (smf encP_len (hi0_l4.at hw2) hx11_9 rfl)) rfl ?_
                refine QO.val rfl (fun w2 hw2 => Ru.load1 el3 rfl (ldf encP_len (hi0_l4.at hw2) hx11_9 rfl)) rfl ?_
                refine QO.val (v := .bool (decide ((((b).drop (j))[0]'hx11_5).key < (((a).drop (i))[0]'hx11_9).key))) rfl (fun w2 hw2 => Ru.lss rfl rfl) rfl ?_
                refine QO.val (v := .bool (decide ((((b).drop (j))[0]'hx11_5).key < (((a).drop (i))[0]'hx11_9).key))) rfl (fun w2 hw2 => Ru.pickF rfl rfl) rfl ?_
                refine QO.val (v := .bool (decide ((((b).drop (j))[0]'hx11_5).key < (((a).drop (i))[0]'hx11_9).key))) rfl (fun w2 hw2 => Ru.assign rfl) rfl ?_
                refine QO.nil ?_
                intro w11d hM11d
                refine C.cond (p := (((b).drop (j))[0]'hx11_5).key < (((a).drop (i))[0]'hx11_9).key) rfl (fun c77 => ?_) (fun c77 => ?_)
                · refine C.seq ?_
                  have hB0 : 0 < (b.drop j).length := by omega
                  have lbB := lb_B2 hva hvb hi3_l4 hi4_l4 hB0 (fun h9 => by first | exact c77 | (exfalso; omega))
                  refine C.any (f := 13) (ls := [false, false, false, false, false, false, false, false, false, false, false, false, false]) (fun w2 => Mem w w2 [] []) mixed rfl rfl (fun w2 hw2 => Mem0.ext (Mem.none hM11d) hw2) (fun w12a hE12a => ?_)
                  have hM12a : Mem w w12a [] [[⟨.slice (A2) ((lbU a b lo).length) (c2), 34, 3, ((lbU a b lo).length), (lbU a b lo).flatMap encG⟩]] := Mem0.ext hM11d hE12a
                  refine AO.val (v := .slice (A2) ((lbU a b lo).length) (c2)) 0 (ls' := [true, false, false, false, false, false, false, false, false, false, false, false, false]) rfl (by kernel_rfl) rfl rfl (fun w2 hw2 => Ru.move rfl) rfl ?_
                  refine AO.val (v := .slice (Ab) ((b.drop j).length) (cb)) 1 (ls' := [true, true, false, false, false, false, false, false, false, false, false, false, false]) rfl (by kernel_rfl) rfl rfl (fun w2 hw2 => Ru.move rfl) rfl ?_
                  have hx12_2 : 0 < ((b).drop (j)).length := (by first | omega | (simp; omega))
                  refine AO.val (v := .pointer (ofs (Ab) (0 * 2))) 2 (ls' := [true, true, true, false, false, false, false, false, false, false, false, false, false]) rfl (by kernel_rfl) rfl rfl (fun w2 hw2 => Ru.indexA (j := 0) Try.underlying36 el53 rfl rfl (smf encP_len (hi1_l4.at hM12a) hx12_2 rfl) (by omega) (by first | omega | (simp; omega))) rfl ?_
                  refine AO.val (v := .pointer (ofs (Ab) (0 * 2 + 0))) 3 (ls' := [true, true, true, true, false, false, false, false, false, false, false, false, false]) rfl (by kernel_rfl) rfl rfl (fun w2 hw2 => Ru.fieldA fl53_0 rfl (smf encP_len (hi1_l4.at hM12a) hx12_2 rfl)) rfl ?_
                  refine AO.val (v := I ((((b).drop (j))[0]'hx12_2).key)) 4 (ls' := [true, true, true, true, true, false, false, false, false, false, false, false, false]) rfl (by kernel_rfl) rfl rfl (fun w2 hw2 => Ru.load1 el3 rfl (ldf encP_len (hi1_l4.at hw2) hx12_2 rfl)) rfl ?_
                  refine AO.val (v := .slice (Ab) ((b.drop j).length) (cb)) 5 (ls' := [true, true, true, true, true, true, false, false, false, false, false, false, false]) rfl (by kernel_rfl) rfl rfl (fun w2 hw2 => Ru.move rfl) rfl ?_
                  have hx12_6 : 0 < ((b).drop (j)).length := (by first | omega | (simp; omega))
                  refine AO.val (v := .pointer (ofs (Ab) (0 * 2))) 6 (ls' := [true, true, true, true, true, true, true, false, false, false, false, false, false]) rfl (by kernel_rfl) rfl rfl (fun w2 hw2 => Ru.indexA (j := 0) Try.underlying36 el53 rfl rfl (smf encP_len (hi1_l4.at hM12a) hx12_6 rfl) (by omega) (by first | omega | (simp; omega))) rfl ?_
                  refine AO.val (v := .pointer (ofs (Ab) (0 * 2 + 1))) 7 (ls' := [true, true, true, true, true, true, true, true, false, false, false, false, false]) rfl (by kernel_rfl) rfl rfl (fun w2 hw2 => Ru.fieldA fl53_1 rfl (smf encP_len (hi1_l4.at hM12a) hx12_6 rfl)) rfl ?_
                  refine AO.val (v := I ((((b).drop (j))[0]'hx12_6).val)) 8 (ls' := [true, true, true, true, true, true, true, true, true, false, false, false, false]) rfl (by kernel_rfl) rfl rfl (fun w2 hw2 => Ru.load1 el3 rfl (ldf encP_len (hi1_l4.at hw2) hx12_6 rfl)) rfl ?_
                  refine AO.val (v := .agg #[I (1), I ((((b).drop (j))[0]'hx12_2).key), I ((((b).drop (j))[0]'hx12_6).val)]) 9 (ls' := [true, true, true, true, true, true, true, true, true, true, false, false, false]) rfl (by kernel_rfl) rfl rfl (fun w2 hw2 => Ru.build of34 rfl rfl rfl) rfl ?_
                  refine AO.one 10 (by kernel_rfl) ?_
                  refine step1 (ls' := [true, true, true, true, true, true, true, true, true, true, true, false, false]) rfl rfl ?_
                  refine O.mlit (sz := 3) (cs := [I (1), I ((((b).drop (j))[0]'hx12_2).key), I ((((b).drop (j))[0]'hx12_6).val)]) hM12a rfl Try.underlying23 el34 rfl rfl rfl (by kernel_rfl) (by kernel_rfl) rfl rfl (fun w12_10 b12_10 hb12_10 (hM12_10 : Mem w w12_10 [] [[⟨.slice (bl b12_10) (1) (1), 34, 3, 1, ([(⟨1, (((b).drop (j))[0]'hx12_2).key, (((b).drop (j))[0]'hx12_6).val⟩ : RecT)]).flatMap encG⟩], [⟨.slice (A2) ((lbU a b lo).length) (c2), 34, 3, ((lbU a b lo).length), (lbU a b lo).flatMap encG⟩]]) => ?_)
                  refine O.stop (Mem.none hM12_10) ?_
                  refine AO.one 11 (by kernel_rfl) ?_
                  refine step1 (ls' := [true, true, true, true, true, true, true, true, true, true, true, true, false]) rfl rfl ?_
                  refine O.mappend (sz := 3) (news := ([(⟨1, (((b).drop (j))[0]'hx12_2).key, (((b).drop (j))[0]'hx12_6).val⟩ : RecT)]).flatMap encG) (m1 := (lbU a b lo ++ [(⟨1, (((b).drop (j))[0]'hx12_2).key, (((b).drop (j))[0]'hx12_6).val⟩ : RecT)]).length) (xs1 := (lbU a b lo ++ [(⟨1, (((b).drop (j))[0]'hx12_2).key, (((b).drop (j))[0]'hx12_6).val⟩ : RecT)]).flatMap encG) (M' := fun A12_11 c12_11 => [[⟨.slice (bl b12_10) (1) (1), 34, 3, 1, ([(⟨1, (((b).drop (j))[0]'hx12_2).key, (((b).drop (j))[0]'hx12_6).val⟩ : RecT)]).flatMap encG⟩], [⟨.slice (A12_11) ((lbU a b lo ++ [(⟨1, (((b).drop (j))[0]'hx12_2).key, (((b).drop (j))[0]'hx12_6).val⟩ : RecT)]).length) (c12_11), 34, 3, ((lbU a b lo ++ [(⟨1, (((b).drop (j))[0]'hx12_2).key, (((b).drop (j))[0]'hx12_6).val⟩ : RecT)]).length), (lbU a b lo ++ [(⟨1, (((b).drop (j))[0]'hx12_2).key, (((b).drop (j))[0]'hx12_6).val⟩ : RecT)]).flatMap encG⟩]]) 1 0 hM12_10 rfl rfl rfl Try.underlying23 el34 ⟨rfl, by decide⟩ rfl rfl rfl (hM12_10.rd 0 rfl) (by rw [flat_len encG_len]; first | done | (simp; done) | (simp; omega)) (all_flat_one (fun _ => rfl) _) (by first | omega | (simp; omega)) (by first | omega | (simp; omega)) (by first | (simp; done) | (simp; omega)) (by simp) (fun _ _ => rfl) (fun w12_11 A12_11 c12_11 hc12_11 hM12_11 => ?_)
                  try dsimp only at hM12_11
                  refine O.stop (Mem.none hM12_11) ?_
                  refine AO.val (v := .slice (A12_11) ((lbU a b lo ++ [(⟨1, (((b).drop (j))[0]'hx12_2).key, (((b).drop (j))[0]'hx12_6).val⟩ : RecT)]).length) (c12_11)) 12 (ls' := [true, true, true, true, true, true, true, true, true, true, true, true, true]) rfl (by kernel_rfl) rfl rfl (fun w2 hw2 => Ru.assign rfl) rfl ?_
                  refine AO.nil (by kernel_rfl) ?_
                  refine C.region ?_
                  refine O.val (v := .slice (Ab) ((b.drop j).length) (cb)) rfl (Ru.move rfl) rfl ?_
                  refine O.val (v := .slice (if cb = 1 then Ab else ofs (Ab) (1 * 2)) ((((b).drop (j)).drop (1)).length) (cb - 1)) rfl (Ru.congr (v := .slice (if cb = 1 then Ab else ofs (Ab) (1 * 2)) (((b.drop j).length) - 1) (cb - 1)) (v' := .slice (if cb = 1 then Ab else ofs (Ab) (1 * 2)) ((((b).drop (j)).drop (1)).length) (cb - 1)) (Ru.lsliceFrom (l := 1) Try.underlying36 el53 rfl rfl (by omega) (by omega)) (sl_congr (by first | rfl | (simp; done) | omega | (simp; omega)))) rfl ?_
                  refine O.val (v := .slice (if cb = 1 then Ab else ofs (Ab) (1 * 2)) ((((b).drop (j)).drop (1)).length) (cb - 1)) rfl (Ru.assign rfl) rfl ?_
                  refine O.nil ?_
                  have hq24 : (lbU a b lo ++ [(⟨1, (((b).drop (j))[0]'hx12_2).key, (((b).drop (j))[0]'hx12_6).val⟩ : RecT)] : List RecT) = lbU a b (((b.drop j)[0]'hB0).key.toNat + 1) := lbB.1.symm
                  have hMn24 : Mem w w12_11 [] [[⟨.slice (bl b12_10) (1) (1), 34, 3, 1, ([(⟨1, (((b).drop (j))[0]'hx12_2).key, (((b).drop (j))[0]'hx12_6).val⟩ : RecT)]).flatMap encG⟩], [⟨.slice (A12_11) ((lbU a b (((b.drop j)[0]'hB0).key.toNat + 1)).length) (c12_11), 34, 3, ((lbU a b (((b.drop j)[0]'hB0).key.toNat + 1)).length), (lbU a b (((b.drop j)[0]'hB0).key.toNat + 1)).flatMap encG⟩]] := hM12_11.relen 1 (n' := (lbU a b (((b.drop j)[0]'hB0).key.toNat + 1)).length) (xs' := (lbU a b (((b.drop j)[0]'hB0).key.toNat + 1)).flatMap encG) rfl (by first | rfl | exact congrArg List.length hq24 | (have hqq := congrArg List.length hq24; first | omega | (simp at hqq ⊢; omega)) | (simp; done) | (simp; omega)) (congrArg (fun z_ => (z_).flatMap encG) hq24) rfl
                  simp only [blkQ]
                  exact loopEnd (((((b.drop j)[0]'hB0).key.toNat + 1), i, (j + 1), Aa, ca, (if cb = 1 then Ab else ofs (Ab) (1 * 2)), (cb - 1), A12_11, c12_11) : Nat × Nat × Nat × (Option Addr) × Nat × (Option Addr) × Nat × (Option Addr) × Nat) (by (try dsimp only); simp only [List.length_drop] at *; omega) (Has.cons (sl_congr (by simp; try omega)) (Has.cons (sl_congr (by simp; try omega)) (Has.cons (sl_congr (by first | rfl | exact congrArg List.length lbA.1.symm | exact congrArg List.length lbB.1.symm | (rw [lbC.1, if_pos c30]; done) | (rw [lbC.1, if_neg c30, List.append_nil]; done))) Has.nil))) ⟨hi0_l4, (by (try dsimp only); have h9 := rd_dropN (k := 1) (c := cb) encP_len hi1_l4 (by omega) (by omega); rwa [List.drop_drop] at h9), (by (try dsimp only); have h7 := hi2_l4; have h6 := hB0; have h5 := hB0; simp only [List.length_drop] at h7 h6 h5 ⊢; omega), (lbB.2.1), (lbB.2.2.1), (lbB.2.2.2), (hMn24.pick [1] (by decide) rfl)⟩
                · refine C.seq ?_
                  refine C.seq ?_
                  have hA0 : 0 < (a.drop i).length := by omega
                  have hB0 : 0 < (b.drop j).length := by omega
                  have lbC := lb_C2 hva hvb hi3_l4 hi4_l4 hA0 hB0 (by omega)
                  refine C.draws (fun w2 => Mem w w2 [] [[⟨.slice (A2) ((lbU a b lo).length) (c2), 34, 3, ((lbU a b lo).length), (lbU a b lo).flatMap encG⟩]]) mixed (by kernel_rfl) (hM11d.ext (kdrawn _)) ?_
                  refine QO.val (v := .slice (Aa) ((a.drop i).length) (ca)) rfl (fun w2 hw2 => Ru.move rfl) rfl ?_
                  have hx5_1 : 0 < ((a).drop (i)).length := (by first | omega | (simp; omega))
                  refine QO.val (v := .pointer (ofs (Aa) (0 * 2))) rfl (fun w2 hw2 => Ru.indexA (j := 0) Try.underlying36 el53 rfl rfl (smf encP_len (hi0_l4.at hw2) hx5_1 rfl) (by omega) (by first | omega | (simp; omega))) rfl ?_
                  refine QO.val (v := .pointer (ofs (Aa) (0 * 2 + 1))) rfl (fun w2 hw2 => Ru.fieldA fl53_1 rfl (smf encP_len (hi0_l4.at hw2) hx5_1 rfl)) rfl ?_
                  refine QO.val rfl (fun w2 hw2 => Ru.load1 el3 rfl (ldf encP_len (hi0_l4.at hw2) hx5_1 rfl)) rfl ?_
                  refine QO.val (v := .slice (Ab) ((b.drop j).length) (cb)) rfl (fun w2 hw2 => Ru.move rfl) rfl ?_
                  have hx5_5 : 0 < ((b).drop (j)).length := (by first | omega | (simp; omega))
                  refine QO.val (v := .pointer (ofs (Ab) (0 * 2))) rfl (fun w2 hw2 => Ru.indexA (j := 0) Try.underlying36 el53 rfl rfl (smf encP_len (hi1_l4.at hw2) hx5_5 rfl) (by omega) (by first | omega | (simp; omega))) rfl ?_
                  refine QO.val (v := .pointer (ofs (Ab) (0 * 2 + 1))) rfl (fun w2 hw2 => Ru.fieldA fl53_1 rfl (smf encP_len (hi1_l4.at hw2) hx5_5 rfl)) rfl ?_
                  refine QO.val rfl (fun w2 hw2 => Ru.load1 el3 rfl (ldf encP_len (hi1_l4.at hw2) hx5_5 rfl)) rfl ?_
                  refine QO.val (v := .bool (decide ((((a).drop (i))[0]'hx5_1).val ≠ (((b).drop (j))[0]'hx5_5).val))) rfl (fun w2 hw2 => Ru.neq rfl rfl) rfl ?_
                  refine QO.nil ?_
                  intro w5d hM5d
                  refine C.cond (p := (((a).drop (i))[0]'hx5_1).val ≠ (((b).drop (j))[0]'hx5_5).val) rfl (fun c30 => ?_) (fun c30 => ?_)
                  · refine C.any (f := 13) (ls := [false, false, false, false, false, false, false, false, false, false, false, false, false]) (fun w2 => Mem w w2 [] []) mixed rfl rfl (fun w2 hw2 => Mem0.ext (Mem.none hM5d) hw2) (fun w6a hE6a => ?_)
                    have hM6a : Mem w w6a [] [[⟨.slice (A2) ((lbU a b lo).length) (c2), 34, 3, ((lbU a b lo).length), (lbU a b lo).flatMap encG⟩]] := Mem0.ext hM5d hE6a
                    refine AO.val (v := .slice (A2) ((lbU a b lo).length) (c2)) 0 (ls' := [true, false, false, false, false, false, false, false, false, false, false, false, false]) rfl (by kernel_rfl) rfl rfl (fun w2 hw2 => Ru.move rfl) rfl ?_
                    refine AO.val (v := .slice (Ab) ((b.drop j).length) (cb)) 1 (ls' := [true, true, false, false, false, false, false, false, false, false, false, false, false]) rfl (by kernel_rfl) rfl rfl (fun w2 hw2 => Ru.move rfl) rfl ?_
                    have hx6_2 : 0 < ((b).drop (j)).length := (by first | omega | (simp; omega))
                    refine AO.val (v := .pointer (ofs (Ab) (0 * 2))) 2 (ls' := [true, true, true, false, false, false, false, false, false, false, false, false, false]) rfl (by kernel_rfl) rfl rfl (fun w2 hw2 => Ru.indexA (j := 0) Try.underlying36 el53 rfl rfl (smf encP_len (hi1_l4.at hM6a) hx6_2 rfl) (by omega) (by first | omega | (simp; omega))) rfl ?_
                    refine AO.val (v := .pointer (ofs (Ab) (0 * 2 + 0))) 3 (ls' := [true, true, true, true, false, false, false, false, false, false, false, false, false]) rfl (by kernel_rfl) rfl rfl (fun w2 hw2 => Ru.fieldA fl53_0 rfl (smf encP_len (hi1_l4.at hM6a) hx6_2 rfl)) rfl ?_
                    refine AO.val (v := I ((((b).drop (j))[0]'hx6_2).key)) 4 (ls' := [true, true, true, true, true, false, false, false, false, false, false, false, false]) rfl (by kernel_rfl) rfl rfl (fun w2 hw2 => Ru.load1 el3 rfl (ldf encP_len (hi1_l4.at hw2) hx6_2 rfl)) rfl ?_
                    refine AO.val (v := .slice (Ab) ((b.drop j).length) (cb)) 5 (ls' := [true, true, true, true, true, true, false, false, false, false, false, false, false]) rfl (by kernel_rfl) rfl rfl (fun w2 hw2 => Ru.move rfl) rfl ?_
                    have hx6_6 : 0 < ((b).drop (j)).length := (by first | omega | (simp; omega))
                    refine AO.val (v := .pointer (ofs (Ab) (0 * 2))) 6 (ls' := [true, true, true, true, true, true, true, false, false, false, false, false, false]) rfl (by kernel_rfl) rfl rfl (fun w2 hw2 => Ru.indexA (j := 0) Try.underlying36 el53 rfl rfl (smf encP_len (hi1_l4.at hM6a) hx6_6 rfl) (by omega) (by first | omega | (simp; omega))) rfl ?_
                    refine AO.val (v := .pointer (ofs (Ab) (0 * 2 + 1))) 7 (ls' := [true, true, true, true, true, true, true, true, false, false, false, false, false]) rfl (by kernel_rfl) rfl rfl (fun w2 hw2 => Ru.fieldA fl53_1 rfl (smf encP_len (hi1_l4.at hM6a) hx6_6 rfl)) rfl ?_
                    refine AO.val (v := I ((((b).drop (j))[0]'hx6_6).val)) 8 (ls' := [true, true, true, true, true, true, true, true, true, false, false, false, false]) rfl (by kernel_rfl) rfl rfl (fun w2 hw2 => Ru.load1 el3 rfl (ldf encP_len (hi1_l4.at hw2) hx6_6 rfl)) rfl ?_
                    refine AO.val (v := .agg #[I (1), I ((((b).drop (j))[0]'hx6_2).key), I ((((b).drop (j))[0]'hx6_6).val)]) 9 (ls' := [true, true, true, true, true, true, true, true, true, true, false, false, false]) rfl (by kernel_rfl) rfl rfl (fun w2 hw2 => Ru.build of34 rfl rfl rfl) rfl ?_
                    refine AO.one 10 (by kernel_rfl) ?_
                    refine step1 (ls' := [true, true, true, true, true, true, true, true, true, true, true, false, false]) rfl rfl ?_
                    refine O.mlit (sz := 3) (cs := [I (1), I ((((b).drop (j))[0]'hx6_2).key), I ((((b).drop (j))[0]'hx6_6).val)]) hM6a rfl Try.underlying23 el34 rfl rfl rfl (by kernel_rfl) (by kernel_rfl) rfl rfl (fun w6_10 b6_10 hb6_10 (hM6_10 : Mem w w6_10 [] [[⟨.slice (bl b6_10) (1) (1), 34, 3, 1, ([(⟨1, (((b).drop (j))[0]'hx6_2).key, (((b).drop (j))[0]'hx6_6).val⟩ : RecT)]).flatMap encG⟩], [⟨.slice (A2) ((lbU a b lo).length) (c2), 34, 3, ((lbU a b lo).length), (lbU a b lo).flatMap encG⟩]]) => ?_)
                    refine O.stop (Mem.none hM6_10) ?_
                    refine AO.one 11 (by kernel_rfl) ?_
                    refine step1 (ls' := [true, true, true, true, true, true, true, true, true, true, true, true, false]) rfl rfl ?_
                    refine O.mappend (sz := 3) (news := ([(⟨1, (((b).drop (j))[0]'hx6_2).key, (((b).drop (j))[0]'hx6_6).val⟩ : RecT)]).flatMap encG) (m1 := (lbU a b lo ++ [(⟨1, (((b).drop (j))[0]'hx6_2).key, (((b).drop (j))[0]'hx6_6).val⟩ : RecT)]).length) (xs1 := (lbU a b lo ++ [(⟨1, (((b).drop (j))[0]'hx6_2).key, (((b).drop (j))[0]'hx6_6).val⟩ : RecT)]).flatMap encG) (M' := fun A6_11 c6_11 => [[⟨.slice (bl b6_10) (1) (1), 34, 3, 1, ([(⟨1, (((b).drop (j))[0]'hx6_2).key, (((b).drop (j))[0]'hx6_6).val⟩ : RecT)]).flatMap encG⟩], [⟨.slice (A6_11) ((lbU a b lo ++ [(⟨1, (((b).drop (j))[0]'hx6_2).key, (((b).drop (j))[0]'hx6_6).val⟩ : RecT)]).length) (c6_11), 34, 3, ((lbU a b lo ++ [(⟨1, (((b).drop (j))[0]'hx6_2).key, (((b).drop (j))[0]'hx6_6).val⟩ : RecT)]).length), (lbU a b lo ++ [(⟨1, (((b).drop (j))[0]'hx6_2).key, (((b).drop (j))[0]'hx6_6).val⟩ : RecT)]).flatMap encG⟩]]) 1 0 hM6_10 rfl rfl rfl Try.underlying23 el34 ⟨rfl, by decide⟩ rfl rfl rfl (hM6_10.rd 0 rfl) (by rw [flat_len encG_len]; first | done | (simp; done) | (simp; omega)) (all_flat_one (fun _ => rfl) _) (by first | omega | (simp; omega)) (by first | omega | (simp; omega)) (by first | (simp; done) | (simp; omega)) (by simp) (fun _ _ => rfl) (fun w6_11 A6_11 c6_11 hc6_11 hM6_11 => ?_)
                    try dsimp only at hM6_11
                    refine O.stop (Mem.none hM6_11) ?_
                    refine AO.val (v := .slice (A6_11) ((lbU a b lo ++ [(⟨1, (((b).drop (j))[0]'hx6_2).key, (((b).drop (j))[0]'hx6_6).val⟩ : RecT)]).length) (c6_11)) 12 (ls' := [true, true, true, true, true, true, true, true, true, true, true, true, true]) rfl (by kernel_rfl) rfl rfl (fun w2 hw2 => Ru.assign rfl) rfl ?_
                    refine AO.nil (by kernel_rfl) ?_
                    refine C.draws (fun w2 => Mem w w2 [] [[⟨.slice (bl b6_10) (1) (1), 34, 3, 1, ([(⟨1, (((b).drop (j))[0]'hx6_2).key, (((b).drop (j))[0]'hx6_6).val⟩ : RecT)]).flatMap encG⟩], [⟨.slice (A6_11) ((lbU a b lo ++ [(⟨1, (((b).drop (j))[0]'hx6_2).key, (((b).drop (j))[0]'hx6_6).val⟩ : RecT)]).length) (c6_11), 34, 3, ((lbU a b lo ++ [(⟨1, (((b).drop (j))[0]'hx6_2).key, (((b).drop (j))[0]'hx6_6).val⟩ : RecT)]).length), (lbU a b lo ++ [(⟨1, (((b).drop (j))[0]'hx6_2).key, (((b).drop (j))[0]'hx6_6).val⟩ : RecT)]).flatMap encG⟩]]) mixed (by kernel_rfl) (hM6_11.ext (kdrawn _)) ?_
                    refine QO.val (v := .slice (Aa) ((a.drop i).length) (ca)) rfl (fun w2 hw2 => Ru.move rfl) rfl ?_
                    refine QO.val (v := .slice (if ca = 1 then Aa else ofs (Aa) (1 * 2)) ((((a).drop (i)).drop (1)).length) (ca - 1)) rfl (fun w2 hw2 => Ru.congr (v := .slice (if ca = 1 then Aa else ofs (Aa) (1 * 2)) (((a.drop i).length) - 1) (ca - 1)) (v' := .slice (if ca = 1 then Aa else ofs (Aa) (1 * 2)) ((((a).drop (i)).drop (1)).length) (ca - 1)) (Ru.lsliceFrom (l := 1) Try.underlying36 el53 rfl rfl (by omega) (by omega)) (sl_congr (by first | rfl | (simp; done) | omega | (simp; omega)))) rfl ?_
                    refine QO.val (v := .slice (Ab) ((b.drop j).length) (cb)) rfl (fun w2 hw2 => Ru.move rfl) rfl ?_
                    refine QO.val (v := .slice (if cb = 1 then Ab else ofs (Ab) (1 * 2)) ((((b).drop (j)).drop (1)).length) (cb - 1)) rfl (fun w2 hw2 => Ru.congr (v := .slice (if cb = 1 then Ab else ofs (Ab) (1 * 2)) (((b.drop j).length) - 1) (cb - 1)) (v' := .slice (if cb = 1 then Ab else ofs (Ab) (1 * 2)) ((((b).drop (j)).drop (1)).length) (cb - 1)) (Ru.lsliceFrom (l := 1) Try.underlying36 el53 rfl rfl (by omega) (by omega)) (sl_congr (by first | rfl | (simp; done) | omega | (simp; omega)))) rfl ?_
                    refine QO.val (v := .slice (if ca = 1 then Aa else ofs (Aa) (1 * 2)) ((((a).drop (i)).drop (1)).length) (ca - 1)) rfl (fun w2 hw2 => Ru.assign rfl) rfl ?_
                    refine QO.val (v := .slice (if cb = 1 then Ab else ofs (Ab) (1 * 2)) ((((b).drop (j)).drop (1)).length) (cb - 1)) rfl (fun w2 hw2 => Ru.assign rfl) rfl ?_
                    refine QO.nil ?_
                    intro w7d hM7d
                    have hq25 : (lbU a b lo ++ [(⟨1, (((b).drop (j))[0]'hx6_2).key, (((b).drop (j))[0]'hx6_6).val⟩ : RecT)] : List RecT) = lbU a b (((b.drop j)[0]'hB0).key.toNat + 1) := (by rw [lbC.1, if_pos c30])
                    have hMn25 : Mem w w7d [] [[⟨.slice (bl b6_10) (1) (1), 34, 3, 1, ([(⟨1, (((b).drop (j))[0]'hx6_2).key, (((b).drop (j))[0]'hx6_6).val⟩ : RecT)]).flatMap encG⟩], [⟨.slice (A6_11) ((lbU a b (((b.drop j)[0]'hB0).key.toNat + 1)).length) (c6_11), 34, 3, ((lbU a b (((b.drop j)[0]'hB0).key.toNat + 1)).length), (lbU a b (((b.drop j)[0]'hB0).key.toNat + 1)).flatMap encG⟩]] := hM7d.relen 1 (n' := (lbU a b (((b.drop j)[0]'hB0).key.toNat + 1)).length) (xs' := (lbU a b (((b.drop j)[0]'hB0).key.toNat + 1)).flatMap encG) rfl (by first | rfl | exact congrArg List.length hq25 | (have hqq := congrArg List.length hq25; first | omega | (simp at hqq ⊢; omega)) | (simp; done) | (simp; omega)) (congrArg (fun z_ => (z_).flatMap encG) hq25) rfl
                    simp only [blkQ]
                    exact loopEnd (((((b.drop j)[0]'hB0).key.toNat + 1), (i + 1), (j + 1), (if ca = 1 then Aa else ofs (Aa) (1 * 2)), (ca - 1), (if cb = 1 then Ab else ofs (Ab) (1 * 2)), (cb - 1), A6_11, c6_11) : Nat × Nat × Nat × (Option Addr) × Nat × (Option Addr) × Nat × (Option Addr) × Nat) (by (try dsimp only); simp only [List.length_drop] at *; omega) (Has.cons (sl_congr (by simp; try omega)) (Has.cons (sl_congr (by simp; try omega)) (Has.cons (sl_congr (by first | rfl | exact congrArg List.length lbA.1.symm | exact congrArg List.length lbB.1.symm | (rw [lbC.1, if_pos c30]; done) | (rw [lbC.1, if_neg c30, List.append_nil]; done))) Has.nil))) ⟨(by (try dsimp only); have h9 := rd_dropN (k := 1) (c := ca) encP_len hi0_l4 (by omega) (by omega); rwa [List.drop_drop] at h9), (by (try dsimp only); have h9 := rd_dropN (k := 1) (c := cb) encP_len hi1_l4 (by omega) (by omega); rwa [List.drop_drop] at h9), (by (try dsimp only); have h7 := hi2_l4; have h6 := hA0; have h5 := hB0; simp only [List.length_drop] at h7 h6 h5 ⊢; omega), (lbC.2.1), (lbC.2.2.1), (lbC.2.2.2), (hMn25.pick [1] (by decide) rfl)⟩
                  · refine C.skip ?_
                    refine C.draws (fun w2 => Mem w w2 [] [[⟨.slice (A2) ((lbU a b lo).length) (c2), 34, 3, ((lbU a b lo).length), (lbU a b lo).flatMap encG⟩]]) mixed (by kernel_rfl) (hM5d.ext (kdrawn _)) ?_
                    refine QO.val (v := .slice (Aa) ((a.drop i).length) (ca)) rfl (fun w2 hw2 => Ru.move rfl) rfl ?_
                    refine QO.val (v := .slice (if ca = 1 then Aa else ofs (Aa) (1 * 2)) ((((a).drop (i)).drop (1)).length) (ca - 1)) rfl (fun w2 hw2 => Ru.congr (v := .slice (if ca = 1 then Aa else ofs (Aa) (1 * 2)) (((a.drop i).length) - 1) (ca - 1)) (v' := .slice (if ca = 1 then Aa else ofs (Aa) (1 * 2)) ((((a).drop (i)).drop (1)).length) (ca - 1)) (Ru.lsliceFrom (l := 1) Try.underlying36 el53 rfl rfl (by omega) (by omega)) (sl_congr (by first | rfl | (simp; done) | omega | (simp; omega)))) rfl ?_
                    refine QO.val (v := .slice (Ab) ((b.drop j).length) (cb)) rfl (fun w2 hw2 => Ru.move rfl) rfl ?_
                    refine QO.val (v := .slice (if cb = 1 then Ab else ofs (Ab) (1 * 2)) ((((b).drop (j)).drop (1)).length) (cb - 1)) rfl (fun w2 hw2 => Ru.congr (v := .slice (if cb = 1 then Ab else ofs (Ab) (1 * 2)) (((b.drop j).length) - 1) (cb - 1)) (v' := .slice (if cb = 1 then Ab else ofs (Ab) (1 * 2)) ((((b).drop (j)).drop (1)).length) (cb - 1)) (Ru.lsliceFrom (l := 1) Try.underlying36 el53 rfl rfl (by omega) (by omega)) (sl_congr (by first | rfl | (simp; done) | omega | (simp; omega)))) rfl ?_
                    refine QO.val (v := .slice (if ca = 1 then Aa else ofs (Aa) (1 * 2)) ((((a).drop (i)).drop (1)).length) (ca - 1)) rfl (fun w2 hw2 => Ru.assign rfl) rfl ?_
                    refine QO.val (v := .slice (if cb = 1 then Ab else ofs (Ab) (1 * 2)) ((((b).drop (j)).drop (1)).length) (cb - 1)) rfl (fun w2 hw2 => Ru.assign rfl) rfl ?_
                    refine QO.nil ?_
                    intro w7d hM7d
                    have hq26 : (lbU a b lo : List RecT) = lbU a b (((b.drop j)[0]'hB0).key.toNat + 1) := (by rw [lbC.1, if_neg c30, List.append_nil])
                    have hMn26 : Mem w w7d [] [[⟨.slice (A2) ((lbU a b (((b.drop j)[0]'hB0).key.toNat + 1)).length) (c2), 34, 3, ((lbU a b (((b.drop j)[0]'hB0).key.toNat + 1)).length), (lbU a b (((b.drop j)[0]'hB0).key.toNat + 1)).flatMap encG⟩]] := hM7d.relen 0 (n' := (lbU a b (((b.drop j)[0]'hB0).key.toNat + 1)).length) (xs' := (lbU a b (((b.drop j)[0]'hB0).key.toNat + 1)).flatMap encG) rfl (by first | rfl | exact congrArg List.length hq26 | (have hqq := congrArg List.length hq26; first | omega | (simp at hqq ⊢; omega)) | (simp; done) | (simp; omega)) (congrArg (fun z_ => (z_).flatMap encG) hq26) rfl
                    simp only [blkQ]
                    exact loopEnd (((((b.drop j)[0]'hB0).key.toNat + 1), (i + 1), (j + 1), (if ca = 1 then Aa else ofs (Aa) (1 * 2)), (ca - 1), (if cb = 1 then Ab else ofs (Ab) (1 * 2)), (cb - 1), A2, c2) : Nat × Nat × Nat × (Option Addr) × Nat × (Option Addr) × Nat × (Option Addr) × Nat) (by (try dsimp only); simp only [List.length_drop] at *; omega) (Has.cons (sl_congr (by simp; try omega)) (Has.cons (sl_congr (by simp; try omega)) (Has.cons (sl_congr (by first | rfl | exact congrArg List.length lbA.1.symm | exact congrArg List.length lbB.1.symm | (rw [lbC.1, if_pos c30]; done) | (rw [lbC.1, if_neg c30, List.append_nil]; done))) Has.nil))) ⟨(by (try dsimp only); have h9 := rd_dropN (k := 1) (c := ca) encP_len hi0_l4 (by omega) (by omega); rwa [List.drop_drop] at h9), (by (try dsimp only); have h9 := rd_dropN (k := 1) (c := cb) encP_len hi1_l4 (by omega) (by omega); rwa [List.drop_drop] at h9), (by (try dsimp only); have h7 := hi2_l4; have h6 := hA0; have h5 := hB0; simp only [List.length_drop] at h7 h6 h5 ⊢; omega), (lbC.2.1), (lbC.2.2.1), (lbC.2.2.2), (hMn26.pick [0] (by decide) rfl)⟩
        · refine C.exit ?_
          refine C.seq ?_
          refine C.seq ?_
          refine C.region ?_
          refine O.val (v := .slice (A2) ((lbU a b lo).length) (c2)) rfl (Ru.move rfl) rfl ?_
          refine O.val (v := I ((((lbU a b lo).length : Nat) : Int))) rfl (Ru.blenSlice Try.underlying23 rfl) rfl ?_
          refine O.val (v := .bool (decide ((((lbU a b lo).length : Nat) : Int) > 24))) rfl (Ru.gtr rfl rfl) rfl ?_
          refine O.nil ?_
          refine C.cond (p := (((lbU a b lo).length : Nat) : Int) > 24) rfl (fun c108 => ?_) (fun c108 => ?_)
          · have hen := lb_end hva hvb (lo := lo) (by simp only [List.length_drop] at *; omega) (by simp only [List.length_drop] at *; omega) hi5_l4
            refine C.seq ?_
            refine C.region ?_
            refine O.val (v := .slice (none) (0) (0)) rfl (Ru.assign rfl) rfl ?_
            refine O.nil ?_
            refine C.ret ?_
            refine P1 (v := .slice (none) (0) (0)) rfl ?_
            have hn := lbF_big (a := a) (b := b) (by rw [hen]; omega)
            have hMn27 : Mem w w_l4 [] [[⟨.slice (none) (0) (0), 34, 3, 0, ([]).flatMap encG⟩], [⟨.slice (A2) ((lbU a b lo).length) (c2), 34, 3, ((lbU a b lo).length), (lbU a b lo).flatMap encG⟩]] := Mem.addNil hM_l4
            have hq28 : ([] : List RecT) = lbF a b := hn.symm
            have hMn28 : Mem w w_l4 [] [[⟨.slice (none) ((lbF a b).length) (0), 34, 3, ((lbF a b).length), (lbF a b).flatMap encG⟩], [⟨.slice (A2) ((lbU a b lo).length) (c2), 34, 3, ((lbU a b lo).length), (lbU a b lo).flatMap encG⟩]] := hMn27.relen 0 (n' := (lbF a b).length) (xs' := (lbF a b).flatMap encG) rfl (by first | rfl | exact congrArg List.length hq28 | (have hqq := congrArg List.length hq28; first | omega | (simp at hqq ⊢; omega)) | (simp; done) | (simp; omega)) (congrArg (fun z_ => (z_).flatMap encG) hq28) rfl
            exact ⟨none, 0, (by rw [hn]; rfl), (hMn28.pick [0] (by decide) rfl)⟩
          · have hen := lb_end hva hvb (lo := lo) (by simp only [List.length_drop] at *; omega) (by simp only [List.length_drop] at *; omega) hi5_l4
            refine C.skip ?_
            refine C.seq ?_
            refine C.region ?_
            refine O.val (v := .slice (A2) ((lbU a b lo).length) (c2)) rfl (Ru.move rfl) rfl ?_
            refine O.val (v := .slice (A2) ((lbU a b lo).length) (c2)) rfl (Ru.assign rfl) rfl ?_
            refine O.nil ?_
            refine C.ret ?_
            refine P1 (v := .slice (A2) ((lbU a b lo).length) (c2)) rfl ?_
            have hn := lbF_yes hva hvb (by rw [hen]; omega)
            rw [hen] at hn
            have hq29 : (lbU a b lo : List RecT) = lbF a b := hn.symm
            have hMn29 : Mem w w_l4 [] [[⟨.slice (A2) ((lbF a b).length) (c2), 34, 3, ((lbF a b).length), (lbF a b).flatMap encG⟩]] := hM_l4.relen 0 (n' := (lbF a b).length) (xs' := (lbF a b).flatMap encG) rfl (by first | rfl | exact congrArg List.length hq29 | (have hqq := congrArg List.length hq29; first | omega | (simp at hqq ⊢; omega)) | (simp; done) | (simp; omega)) (congrArg (fun z_ => (z_).flatMap encG) hq29) rfl
            exact ⟨A2, c2, (by rw [hn]), (hMn29.pick [0] (by decide) rfl)⟩

set_option maxHeartbeats 4000000 in
theorem sLogBetween_fn (A : Option Addr) (c : Nat) (a : List PairT) (B : Option Addr) (d : Nat) (b : List PairT) (w : World) (hA : Rd w A ((a).flatMap encP)) (hB : Rd w B ((b).flatMap encP)) (ha : a.length ≤ 1048576) (hb : b.length ≤ 1048576) :
    Does Try.prog 32 [.slice (A) ((a).length) (c), .slice (B) ((b).length) (d)] w (fun v w1 => ∃ (A1 : Option Addr) (c1 : Nat), v = .slice (A1) ((lbF a b).length) (c1) ∧ Mem w w1 [] [[⟨.slice (A1) ((lbF a b).length) (c1), 34, 3, ((lbF a b).length), (lbF a b).flatMap encG⟩]]) := by
  have hM : Mem w w [] [] := Mem.refl
  refine Does.enter1 Try.func32 rfl Try.results32 Try.ntmps32 rfl ?_
  refine C.seq ?_
  refine C.region ?_
  refine O.val (v := .slice (none) (0) (0)) rfl (Ru.assign rfl) rfl ?_
  refine O.nil ?_
  refine C.seq ?_
  refine C.region ?_
  refine O.mlit (sz := 3) (cs := []) hM rfl Try.underlying23 el34 rfl rfl rfl (by kernel_rfl) (by kernel_rfl) rfl rfl (fun w1_0 b1_0 hb1_0 (hM1_0 : Mem w w1_0 [] [[⟨.slice (bl b1_0) (0) (0), 34, 3, 0, ([]).flatMap encG⟩]]) => ?_)
  refine O.val (v := .slice (bl b1_0) (0) (0)) rfl (Ru.assign rfl) rfl ?_
  refine O.nil ?_
  refine C.seq ?_
  refine C.seq ?_
  refine C.region ?_
  refine O.val (v := .slice (A) ((a).length) (c)) rfl (Ru.move rfl) rfl ?_
  refine O.callg [.slice (A) ((a).length) (c)] rfl en56 rfl rfl (validRow_fn A c a w1_0 (hA.at hM1_0) (by first | omega | assumption | (simp; omega) | simp | (intros; omega))) ?_
  rintro _ w2_1 ⟨rfl, hR2_1⟩
  have hM2_1 : Mem w w2_1 [] [[⟨.slice (bl b1_0) (0) (0), 34, 3, 0, ([]).flatMap encG⟩]] := Mem.call (Ma := []) hM1_0 hR2_1 rfl
  refine O.val (v := .bool (!(validR a))) rfl (Ru.not rfl) rfl ?_
  refine O.val (v := .bool (!(validR a))) rfl (Ru.move rfl) rfl ?_
  refine O.part 15 (!(validR a)) rfl (fun g15 => ?_) (fun g15 => ?_)
  · refine O.pass rfl rfl rfl rfl rfl ?_
    refine O.pass rfl rfl rfl rfl rfl ?_
    refine O.pass rfl rfl rfl rfl rfl ?_
    refine O.val (v := .bool (true)) rfl (Ru.pickT rfl rfl) rfl ?_
    refine O.nil ?_
    refine C.condT rfl ?_
    refine C.seq ?_
    refine C.region ?_
    refine O.val (v := .slice (none) (0) (0)) rfl (Ru.assign rfl) rfl ?_
    refine O.nil ?_
    refine C.ret ?_
    refine P1 (v := .slice (none) (0) (0)) rfl ?_
    have hn := lbF_no (a := a) (b := b) (by cases hx : validR a <;> simp_all)
    have hMn1 : Mem w w2_1 [] [[⟨.slice (none) (0) (0), 34, 3, 0, ([]).flatMap encG⟩], [⟨.slice (bl b1_0) (0) (0), 34, 3, 0, ([]).flatMap encG⟩]] := Mem.addNil hM2_1
    have hq2 : ([] : List RecT) = lbF a b := hn.symm
    have hMn2 : Mem w w2_1 [] [[⟨.slice (none) ((lbF a b).length) (0), 34, 3, ((lbF a b).length), (lbF a b).flatMap encG⟩], [⟨.slice (bl b1_0) (0) (0), 34, 3, 0, ([]).flatMap encG⟩]] := hMn1.relen 0 (n' := (lbF a b).length) (xs' := (lbF a b).flatMap encG) rfl (by first | rfl | exact congrArg List.length hq2 | (have hqq := congrArg List.length hq2; first | omega | (simp at hqq ⊢; omega)) | (simp; done) | (simp; omega)) (congrArg (fun z_ => (z_).flatMap encG) hq2) rfl
    exact ⟨none, 0, (by rw [hn]; rfl), (hMn2.pick [0] (by decide) rfl)⟩
  · refine O.val (v := .slice (B) ((b).length) (d)) rfl (Ru.move rfl) rfl ?_
    refine O.callg [.slice (B) ((b).length) (d)] rfl en56 rfl rfl (validRow_fn B d b w2_1 (hB.at hM2_1) (by first | omega | assumption | (simp; omega) | simp | (intros; omega))) ?_
    rintro _ w2_5 ⟨rfl, hR2_5⟩
    have hM2_5 : Mem w w2_5 [] [[⟨.slice (bl b1_0) (0) (0), 34, 3, 0, ([]).flatMap encG⟩]] := Mem.call (Ma := []) hM2_1 hR2_5 rfl
    refine O.val (v := .bool (!(validR b))) rfl (Ru.not rfl) rfl ?_
    refine O.val (v := .bool (!(validR b))) rfl (Ru.pickF rfl rfl) rfl ?_
    refine O.nil ?_
    refine C.condn (b := (validR b)) rfl (fun c19 => ?_) (fun c19 => ?_)
    · refine C.seq ?_
      refine C.region ?_
      refine O.val (v := .slice (none) (0) (0)) rfl (Ru.assign rfl) rfl ?_
      refine O.nil ?_
      refine C.ret ?_
      refine P1 (v := .slice (none) (0) (0)) rfl ?_
      have hn := lbF_no (a := a) (b := b) (by cases hx : validR a <;> simp_all)
      have hMn3 : Mem w w2_5 [] [[⟨.slice (none) (0) (0), 34, 3, 0, ([]).flatMap encG⟩], [⟨.slice (bl b1_0) (0) (0), 34, 3, 0, ([]).flatMap encG⟩]] := Mem.addNil hM2_5
      have hq4 : ([] : List RecT) = lbF a b := hn.symm
      have hMn4 : Mem w w2_5 [] [[⟨.slice (none) ((lbF a b).length) (0), 34, 3, ((lbF a b).length), (lbF a b).flatMap encG⟩], [⟨.slice (bl b1_0) (0) (0), 34, 3, 0, ([]).flatMap encG⟩]] := hMn3.relen 0 (n' := (lbF a b).length) (xs' := (lbF a b).flatMap encG) rfl (by first | rfl | exact congrArg List.length hq4 | (have hqq := congrArg List.length hq4; first | omega | (simp at hqq ⊢; omega)) | (simp; done) | (simp; omega)) (congrArg (fun z_ => (z_).flatMap encG) hq4) rfl
      exact ⟨none, 0, (by rw [hn]; rfl), (hMn4.pick [0] (by decide) rfl)⟩
    · have hva : validR a = true := by simp_all
      have hvb : validR b = true := by simp_all
      refine C.skip ?_
      refine C.seq ?_
      refine C.seq ?_
      refine C.region ?_
      refine O.val (v := I (0)) rfl (Ru.assign rfl) rfl ?_
      refine O.nil ?_
      refine C.block ?_
      have hq5 : ([] : List RecT) = lbU a b 0 := (by rfl)
      have hMn5 : Mem w w2_5 [] [[⟨.slice (bl b1_0) ((lbU a b 0).length) (0), 34, 3, ((lbU a b 0).length), (lbU a b 0).flatMap encG⟩]] := hM2_5.relen 0 (n' := (lbU a b 0).length) (xs' := (lbU a b 0).flatMap encG) rfl (by first | rfl | exact congrArg List.length hq5 | (have hqq := congrArg List.length hq5; first | omega | (simp at hqq ⊢; omega)) | (simp; done) | (simp; omega)) (congrArg (fun z_ => (z_).flatMap encG) hq5) rfl
      refine C.loop (ι := Nat × (Option Addr) × Nat) (fun x_ => ([(0, .slice (A) ((a).length) (c)), (1, .slice (B) ((b).length) (d)), (5, .slice (x_.2.1) ((lbU a b x_.1).length) (x_.2.2)), (6, I (((x_.1 : Nat) : Int)))] : List (Nat × Value))) (fun x_ w_ => (x_.1 ≤ 100) ∧ (Mem w w_ [] [[⟨.slice (x_.2.1) ((lbU a b x_.1).length) (x_.2.2), 34, 3, ((lbU a b x_.1).length), (lbU a b x_.1).flatMap encG⟩]])) (fun x_ => 100 - x_.1) (0, bl b1_0, 0) (Has.cons rfl (Has.cons rfl (Has.cons (sl_congr (by first | rfl | omega | (simp; done) | (simp; omega) | exact congrArg List.length hq5 | (simp [← hq5]; done) | (simp [← hq5]; omega))) (Has.cons (I_congr (by first | rfl | omega | (simp; omega) | simp)) Has.nil)))) ⟨(Nat.zero_le _), (hMn5.pick [0] (by decide) rfl)⟩ (fun ⟨k, A2, c2⟩ σ w_l5 hI => ?_)
      try dsimp only at hI
      obtain ⟨hi0_l5, hM_l5⟩ := hI
      have hcl0_l5 := (hM_l5.cap 0 rfl).1
      have hul := lbU_len a b k
      refine C.seq ?_
      refine C.seq ?_
      refine C.region ?_
      refine O.val (v := I (((k : Nat) : Int))) rfl (Ru.move rfl) rfl ?_
      refine O.val (v := .bool (decide (((k : Nat) : Int) ≤ 99))) rfl (Ru.leq rfl rfl) rfl ?_
      refine O.nil ?_
      refine C.cond (p := ((k : Nat) : Int) ≤ 99) rfl (fun c21 => ?_) (fun c21 => ?_)
      · refine C.skip ?_
        refine C.seq ?_
        refine C.block ?_
        refine C.seq ?_
        refine C.region ?_
        refine O.val (v := .slice (A) ((a).length) (c)) rfl (Ru.move rfl) rfl ?_
        refine O.val (v := I (((k : Nat) : Int))) rfl (Ru.move rfl) rfl ?_
        refine O.callg [.slice (A) ((a).length) (c), I (((k : Nat) : Int))] rfl en57 rfl rfl (sValueIn_fn A c a ((k : Nat) : Int) w_l5 (hA.at hM_l5) (by first | omega | assumption | (simp; omega) | simp | (intros; omega))) ?_
        rintro _ w7_2 ⟨rfl, hR7_2⟩
        have hM7_2 : Mem w w7_2 [] [[⟨.slice (A2) ((lbU a b k).length) (c2), 34, 3, ((lbU a b k).length), (lbU a b k).flatMap encG⟩]] := Mem.call (Ma := []) hM_l5 hR7_2 rfl
        refine O.val (v := .tuple #[I ((if validR a then (lookP a ((k : Nat) : Int)).getD 0 else 0)), .bool (validR a && (lookP a ((k : Nat) : Int)).isSome)]) rfl (Ru.move rfl) rfl ?_
        refine O.val (v := I ((if validR a then (lookP a ((k : Nat) : Int)).getD 0 else 0))) rfl (Ru.extract rfl rfl) rfl ?_
        refine O.val (v := .bool (validR a && (lookP a ((k : Nat) : Int)).isSome)) rfl (Ru.extract rfl rfl) rfl ?_
        refine O.val (v := I ((if validR a then (lookP a ((k : Nat) : Int)).getD 0 else 0))) rfl (Ru.assign rfl) rfl ?_
        refine O.val (v := .bool (validR a && (lookP a ((k : Nat) : Int)).isSome)) rfl (Ru.assign rfl) rfl ?_
        refine O.nil ?_
        refine C.seq ?_
        refine C.region ?_
        refine O.val (v := .slice (B) ((b).length) (d)) rfl (Ru.move rfl) rfl ?_
        refine O.val (v := I (((k : Nat) : Int))) rfl (Ru.move rfl) rfl ?_
        refine O.callg [.slice (B) ((b).length) (d), I (((k : Nat) : Int))] rfl en57 rfl rfl (sValueIn_fn B d b ((k : Nat) : Int) w7_2 (hB.at hM7_2) (by first | omega | assumption | (simp; omega) | simp | (intros; omega))) ?_
        rintro _ w8_2 ⟨rfl, hR8_2⟩
        have hM8_2 : Mem w w8_2 [] [[⟨.slice (A2) ((lbU a b k).length) (c2), 34, 3, ((lbU a b k).length), (lbU a b k).flatMap encG⟩]] := Mem.call (Ma := []) hM7_2 hR8_2 rfl
        refine O.val (v := .tuple #[I ((if validR b then (lookP b ((k : Nat) : Int)).getD 0 else 0)), .bool (validR b && (lookP b ((k : Nat) : Int)).isSome)]) rfl (Ru.move rfl) rfl ?_
        refine O.val (v := I ((if validR b then (lookP b ((k : Nat) : Int)).getD 0 else 0))) rfl (Ru.extract rfl rfl) rfl ?_
        refine O.val (v := .bool (validR b && (lookP b ((k : Nat) : Int)).isSome)) rfl (Ru.extract rfl rfl) rfl ?_
        refine O.val (v := I ((if validR b then (lookP b ((k : Nat) : Int)).getD 0 else 0))) rfl (Ru.assign rfl) rfl ?_
        refine O.val (v := .bool (validR b && (lookP b ((k : Nat) : Int)).isSome)) rfl (Ru.assign rfl) rfl ?_
        refine O.nil ?_
        refine C.seq ?_
        refine C.seq ?_
        refine C.region ?_
        refine O.val (v := .bool (validR a && (lookP a ((k : Nat) : Int)).isSome)) rfl (Ru.move rfl) rfl ?_
        refine O.val (v := .bool (validR a && (lookP a ((k : Nat) : Int)).isSome)) rfl (Ru.move rfl) rfl ?_
        refine O.part 37 (validR a && (lookP a ((k : Nat) : Int)).isSome) rfl (fun g37 => ?_) (fun g37 => ?_)
        · refine O.val (v := .bool (validR b && (lookP b ((k : Nat) : Int)).isSome)) rfl (Ru.move rfl) rfl ?_
          refine O.val (v := .bool (!(validR b && (lookP b ((k : Nat) : Int)).isSome))) rfl (Ru.not rfl) rfl ?_
          refine O.val (v := .bool (!(validR b && (lookP b ((k : Nat) : Int)).isSome))) rfl (Ru.pickT rfl rfl) rfl ?_
          refine O.nil ?_
          refine C.condn (b := (validR b && (lookP b ((k : Nat) : Int)).isSome)) rfl (fun c40 => ?_) (fun c40 => ?_)
          · refine C.region ?_
            refine O.val (v := .slice (A2) ((lbU a b k).length) (c2)) rfl (Ru.move rfl) rfl ?_
            refine O.val (v := I (((k : Nat) : Int))) rfl (Ru.move rfl) rfl ?_
            refine O.val (v := .agg #[I (2), I (((k : Nat) : Int)), I (0)]) rfl (Ru.build of34 rfl rfl rfl) rfl ?_
            refine O.mlit (sz := 3) (cs := [I (2), I (((k : Nat) : Int)), I (0)]) hM8_2 rfl Try.underlying23 el34 rfl rfl rfl (by kernel_rfl) (by kernel_rfl) rfl rfl (fun w10_3 b10_3 hb10_3 (hM10_3 : Mem w w10_3 [] [[⟨.slice (bl b10_3) (1) (1), 34, 3, 1, ([(⟨2, ((k : Nat) : Int), 0⟩ : RecT)]).flatMap encG⟩], [⟨.slice (A2) ((lbU a b k).length) (c2), 34, 3, ((lbU a b k).length), (lbU a b k).flatMap encG⟩]]) => ?_)
            refine O.mappend (sz := 3) (news := ([(⟨2, ((k : Nat) : Int), 0⟩ : RecT)]).flatMap encG) (m1 := (lbU a b k ++ [(⟨2, ((k : Nat) : Int), 0⟩ : RecT)]).length) (xs1 := (lbU a b k ++ [(⟨2, ((k : Nat) : Int), 0⟩ : RecT)]).flatMap encG) (M' := fun A10_4 c10_4 => [[⟨.slice (bl b10_3) (1) (1), 34, 3, 1, ([(⟨2, ((k : Nat) : Int), 0⟩ : RecT)]).flatMap encG⟩], [⟨.slice (A10_4) ((lbU a b k ++ [(⟨2, ((k : Nat) : Int), 0⟩ : RecT)]).length) (c10_4), 34, 3, ((lbU a b k ++ [(⟨2, ((k : Nat) : Int), 0⟩ : RecT)]).length), (lbU a b k ++ [(⟨2, ((k : Nat) : Int), 0⟩ : RecT)]).flatMap encG⟩]]) 1 0 hM10_3 rfl rfl rfl Try.underlying23 el34 ⟨rfl, by decide⟩ rfl rfl rfl (hM10_3.rd 0 rfl) (by rw [flat_len encG_len]; first | done | (simp; done) | (simp; omega)) (all_flat_one (fun _ => rfl) _) (by first | omega | (simp; omega)) (by first | omega | (simp; omega)) (by first | (simp; done) | (simp; omega)) (by simp) (fun _ _ => rfl) (fun w10_4 A10_4 c10_4 hc10_4 hM10_4 => ?_)
            try dsimp only at hM10_4
            refine O.val (v := .slice (A10_4) ((lbU a b k ++ [(⟨2, ((k : Nat) : Int), 0⟩ : RecT)]).length) (c10_4)) rfl (Ru.assign rfl) rfl ?_
            refine O.nil ?_
            refine C.seq ?_
            refine C.region ?_
            refine O.val (v := .bool (validR b && (lookP b ((k : Nat) : Int)).isSome)) rfl (Ru.move rfl) rfl ?_
            refine O.val (v := .bool (validR b && (lookP b ((k : Nat) : Int)).isSome)) rfl (Ru.move rfl) rfl ?_
            refine O.part 47 (validR b && (lookP b ((k : Nat) : Int)).isSome) rfl (fun g47 => ?_) (fun g47 => ?_)
            · refine O.val (v := .bool (validR a && (lookP a ((k : Nat) : Int)).isSome)) rfl (Ru.move rfl) rfl ?_
              refine O.val (v := .bool (!(validR a && (lookP a ((k : Nat) : Int)).isSome))) rfl (Ru.not rfl) rfl ?_
              refine O.val (v := .bool (!(validR a && (lookP a ((k : Nat) : Int)).isSome))) rfl (Ru.move rfl) rfl ?_
              refine O.part 50 (!(validR a && (lookP a ((k : Nat) : Int)).isSome)) rfl (fun g50 => ?_) (fun g50 => ?_)
              · refine O.pass rfl rfl rfl rfl rfl ?_
                refine O.pass rfl rfl rfl rfl rfl ?_
                refine O.pass rfl rfl rfl rfl rfl ?_
                refine O.val (v := .bool (true)) rfl (Ru.pickT rfl rfl) rfl ?_
                refine O.val (v := .bool (true)) rfl (Ru.pickT rfl rfl) rfl ?_
                refine O.nil ?_
                refine C.condT rfl ?_
                refine C.region ?_
                refine O.val (v := .slice (A10_4) ((lbU a b k ++ [(⟨2, ((k : Nat) : Int), 0⟩ : RecT)]).length) (c10_4)) rfl (Ru.move rfl) rfl ?_
                refine O.val (v := I (((k : Nat) : Int))) rfl (Ru.move rfl) rfl ?_
                refine O.val (v := I ((if validR b then (lookP b ((k : Nat) : Int)).getD 0 else 0))) rfl (Ru.move rfl) rfl ?_
                refine O.val (v := .agg #[I (1), I (((k : Nat) : Int)), I ((if validR b then (lookP b ((k : Nat) : Int)).getD 0 else 0))]) rfl (Ru.build of34 rfl rfl rfl) rfl ?_
                refine O.mlit (sz := 3) (cs := [I (1), I (((k : Nat) : Int)), I ((if validR b then (lookP b ((k : Nat) : Int)).getD 0 else 0))]) hM10_4 rfl Try.underlying23 el34 rfl rfl rfl (by kernel_rfl) (by kernel_rfl) rfl rfl (fun w12_4 b12_4 hb12_4 (hM12_4 : Mem w w12_4 [] [[⟨.slice (bl b12_4) (1) (1), 34, 3, 1, ([(⟨1, ((k : Nat) : Int), (if validR b then (lookP b ((k : Nat) : Int)).getD 0 else 0)⟩ : RecT)]).flatMap encG⟩], [⟨.slice (bl b10_3) (1) (1), 34, 3, 1, ([(⟨2, ((k : Nat) : Int), 0⟩ : RecT)]).flatMap encG⟩], [⟨.slice (A10_4) ((lbU a b k ++ [(⟨2, ((k : Nat) : Int), 0⟩ : RecT)]).length) (c10_4), 34, 3, ((lbU a b k ++ [(⟨2, ((k : Nat) : Int), 0⟩ : RecT)]).length), (lbU a b k ++ [(⟨2, ((k : Nat) : Int), 0⟩ : RecT)]).flatMap encG⟩]]) => ?_)
                refine O.mappend (sz := 3) (news := ([(⟨1, ((k : Nat) : Int), (if validR b then (lookP b ((k : Nat) : Int)).getD 0 else 0)⟩ : RecT)]).flatMap encG) (m1 := (lbU a b k ++ [(⟨2, ((k : Nat) : Int), 0⟩ : RecT)] ++ [(⟨1, ((k : Nat) : Int), (if validR b then (lookP b ((k : Nat) : Int)).getD 0 else 0)⟩ : RecT)]).length) (xs1 := (lbU a b k ++ [(⟨2, ((k : Nat) : Int), 0⟩ : RecT)] ++ [(⟨1, ((k : Nat) : Int), (if validR b then (lookP b ((k : Nat) : Int)).getD 0 else 0)⟩ : RecT)]).flatMap encG) (M' := fun A12_5 c12_5 => [[⟨.slice (bl b12_4) (1) (1), 34, 3, 1, ([(⟨1, ((k : Nat) : Int), (if validR b then (lookP b ((k : Nat) : Int)).getD 0 else 0)⟩ : RecT)]).flatMap encG⟩], [⟨.slice (bl b10_3) (1) (1), 34, 3, 1, ([(⟨2, ((k : Nat) : Int), 0⟩ : RecT)]).flatMap encG⟩], [⟨.slice (A12_5) ((lbU a b k ++ [(⟨2, ((k : Nat) : Int), 0⟩ : RecT)] ++ [(⟨1, ((k : Nat) : Int), (if validR b then (lookP b ((k : Nat) : Int)).getD 0 else 0)⟩ : RecT)]).length) (c12_5), 34, 3, ((lbU a b k ++ [(⟨2, ((k : Nat) : Int), 0⟩ : RecT)] ++ [(⟨1, ((k : Nat) : Int), (if validR b then (lookP b ((k : Nat) : Int)).getD 0 else 0)⟩ : RecT)]).length), (lbU a b k ++ [(⟨2, ((k : Nat) : Int), 0⟩ : RecT)] ++ [(⟨1, ((k : Nat) : Int), (if validR b then (lookP b ((k : Nat) : Int)).getD 0 else 0)⟩ : RecT)]).flatMap encG⟩]]) 2 0 hM12_4 rfl rfl rfl Try.underlying23 el34 ⟨rfl, by decide⟩ rfl rfl rfl (hM12_4.rd 0 rfl) (by rw [flat_len encG_len]; first | done | (simp; done) | (simp; omega)) (all_flat_one (fun _ => rfl) _) (by first | omega | (simp; omega)) (by first | omega | (simp; omega)) (by first | (simp; done) | (simp; omega)) (by simp) (fun _ _ => rfl) (fun w12_5 A12_5 c12_5 hc12_5 hM12_5 => ?_)
                try dsimp only at hM12_5
                refine O.val (v := .slice (A12_5) ((lbU a b k ++ [(⟨2, ((k : Nat) : Int), 0⟩ : RecT)] ++ [(⟨1, ((k : Nat) : Int), (if validR b then (lookP b ((k : Nat) : Int)).getD 0 else 0)⟩ : RecT)]).length) (c12_5)) rfl (Ru.assign rfl) rfl ?_
                refine O.nil ?_
                refine C.region ?_
                refine O.val (v := I (((k : Nat) : Int))) rfl (Ru.move rfl) rfl ?_
                refine O.val (v := I ((((k + 1) : Nat) : Int))) rfl (Ru.congr (v := I ((((k : Nat) : Int) + 1))) (v' := I ((((k + 1) : Nat) : Int))) (Ru.add rfl rfl (by omega)) (I_congr (by first | omega | simp))) rfl ?_
                refine O.val (v := I ((((k + 1) : Nat) : Int))) rfl (Ru.assign rfl) rfl ?_
                refine O.nil ?_
                have hq6 : (lbU a b k ++ [(⟨2, ((k : Nat) : Int), 0⟩ : RecT)] ++ [(⟨1, ((k : Nat) : Int), (if validR b then (lookP b ((k : Nat) : Int)).getD 0 else 0)⟩ : RecT)] : List RecT) = lbU a b (k + 1) := (by rw [lbU_succ]; unfold lbK; cases h7 : lookP a (k : Nat) <;> cases h8 : lookP b (k : Nat) <;> simp_all)
                have hMn6 : Mem w w12_5 [] [[⟨.slice (bl b12_4) (1) (1), 34, 3, 1, ([(⟨1, ((k : Nat) : Int), (if validR b then (lookP b ((k : Nat) : Int)).getD 0 else 0)⟩ : RecT)]).flatMap encG⟩], [⟨.slice (bl b10_3) (1) (1), 34, 3, 1, ([(⟨2, ((k : Nat) : Int), 0⟩ : RecT)]).flatMap encG⟩], [⟨.slice (A12_5) ((lbU a b (k + 1)).length) (c12_5), 34, 3, ((lbU a b (k + 1)).length), (lbU a b (k + 1)).flatMap encG⟩]] := hM12_5.relen 2 (n' := (lbU a b (k + 1)).length) (xs' := (lbU a b (k + 1)).flatMap encG) rfl (by first | rfl | exact congrArg List.length hq6 | (have hqq := congrArg List.length hq6; first | omega | (simp at hqq ⊢; omega)) | (simp; done) | (simp; omega)) (congrArg (fun z_ => (z_).flatMap encG) hq6) rfl
                exact loopEnd ((k + 1), A12_5, c12_5) (by (try dsimp only); omega) (Has.cons rfl (Has.cons rfl (Has.cons (sl_congr (by first | rfl | omega | (simp; done) | (simp; omega) | exact congrArg List.length hq6 | (simp [← hq6]; done) | (simp [← hq6]; omega))) (Has.cons rfl Has.nil)))) ⟨(by (try dsimp only); omega), (hMn6.pick [2] (by decide) rfl)⟩
              · refine O.val (v := I ((if validR a then (lookP a ((k : Nat) : Int)).getD 0 else 0))) rfl (Ru.move rfl) rfl ?_
                refine O.val (v := I ((if validR b then (lookP b ((k : Nat) : Int)).getD 0 else 0))) rfl (Ru.move rfl) rfl ?_
                refine O.val (v := .bool (decide ((if validR a then (lookP a ((k : Nat) : Int)).getD 0 else 0) ≠ (if validR b then (lookP b ((k : Nat) : Int)).getD 0 else 0)))) rfl (Ru.neq rfl rfl) rfl ?_
                refine O.val (v := .bool (decide ((if validR a then (lookP a ((k : Nat) : Int)).getD 0 else 0) ≠ (if validR b then (lookP b ((k : Nat) : Int)).getD 0 else 0)))) rfl (Ru.pickF rfl rfl) rfl ?_
                refine O.val (v := .bool (decide ((if validR a then (lookP a ((k : Nat) : Int)).getD 0 else 0) ≠ (if validR b then (lookP b ((k : Nat) : Int)).getD 0 else 0)))) rfl (Ru.pickT rfl rfl) rfl ?_
                refine O.nil ?_
                refine C.cond (p := (if validR a then (lookP a ((k : Nat) : Int)).getD 0 else 0) ≠ (if validR b then (lookP b ((k : Nat) : Int)).getD 0 else 0)) rfl (fun c55 => ?_) (fun c55 => ?_)
                · refine C.region ?_
                  refine O.val (v := .slice (A10_4) ((lbU a b k ++ [(⟨2, ((k : Nat) : Int), 0⟩ : RecT)]).length) (c10_4)) rfl (Ru.move rfl) rfl ?_
                  refine O.val (v := I (((k : Nat) : Int))) rfl (Ru.move rfl) rfl ?_
                  refine O.val (v := I ((if validR b then (lookP b ((k : Nat) : Int)).getD 0 else 0))) rfl (Ru.move rfl) rfl ?_
                  refine O.val (v := .agg #[I (1), I (((k : Nat) : Int)), I ((if validR b then (lookP b ((k : Nat) : Int)).getD 0 else 0))]) rfl (Ru.build of34 rfl rfl rfl) rfl ?_
                  refine O.mlit (sz := 3) (cs := [I (1), I (((k : Nat) : Int)), I ((if validR b then (lookP b ((k : Nat) : Int)).getD 0 else 0))]) hM10_4 rfl Try.underlying23 el34 rfl rfl rfl (by kernel_rfl) (by kernel_rfl) rfl rfl (fun w12_4 b12_4 hb12_4 (hM12_4 : Mem w w12_4 [] [[⟨.slice (bl b12_4) (1) (1), 34, 3, 1, ([(⟨1, ((k : Nat) : Int), (if validR b then (lookP b ((k : Nat) : Int)).getD 0 else 0)⟩ : RecT)]).flatMap encG⟩], [⟨.slice (bl b10_3) (1) (1), 34, 3, 1, ([(⟨2, ((k : Nat) : Int), 0⟩ : RecT)]).flatMap encG⟩], [⟨.slice (A10_4) ((lbU a b k ++ [(⟨2, ((k : Nat) : Int), 0⟩ : RecT)]).length) (c10_4), 34, 3, ((lbU a b k ++ [(⟨2, ((k : Nat) : Int), 0⟩ : RecT)]).length), (lbU a b k ++ [(⟨2, ((k : Nat) : Int), 0⟩ : RecT)]).flatMap encG⟩]]) => ?_)
                  refine O.mappend (sz := 3) (news := ([(⟨1, ((k : Nat) : Int), (if validR b then (lookP b ((k : Nat) : Int)).getD 0 else 0)⟩ : RecT)]).flatMap encG) (m1 := (lbU a b k ++ [(⟨2, ((k : Nat) : Int), 0⟩ : RecT)] ++ [(⟨1, ((k : Nat) : Int), (if validR b then (lookP b ((k : Nat) : Int)).getD 0 else 0)⟩ : RecT)]).length) (xs1 := (lbU a b k ++ [(⟨2, ((k : Nat) : Int), 0⟩ : RecT)] ++ [(⟨1, ((k : Nat) : Int), (if validR b then (lookP b ((k : Nat) : Int)).getD 0 else 0)⟩ : RecT)]).flatMap encG) (M' := fun A12_5 c12_5 => [[⟨.slice (bl b12_4) (1) (1), 34, 3, 1, ([(⟨1, ((k : Nat) : Int), (if validR b then (lookP b ((k : Nat) : Int)).getD 0 else 0)⟩ : RecT)]).flatMap encG⟩], [⟨.slice (bl b10_3) (1) (1), 34, 3, 1, ([(⟨2, ((k : Nat) : Int), 0⟩ : RecT)]).flatMap encG⟩], [⟨.slice (A12_5) ((lbU a b k ++ [(⟨2, ((k : Nat) : Int), 0⟩ : RecT)] ++ [(⟨1, ((k : Nat) : Int), (if validR b then (lookP b ((k : Nat) : Int)).getD 0 else 0)⟩ : RecT)]).length) (c12_5), 34, 3, ((lbU a b k ++ [(⟨2, ((k : Nat) : Int), 0⟩ : RecT)] ++ [(⟨1, ((k : Nat) : Int), (if validR b then (lookP b ((k : Nat) : Int)).getD 0 else 0)⟩ : RecT)]).length), (lbU a b k ++ [(⟨2, ((k : Nat) : Int), 0⟩ : RecT)] ++ [(⟨1, ((k : Nat) : Int), (if validR b then (lookP b ((k : Nat) : Int)).getD 0 else 0)⟩ : RecT)]).flatMap encG⟩]]) 2 0 hM12_4 rfl rfl rfl Try.underlying23 el34 ⟨rfl, by decide⟩ rfl rfl rfl (hM12_4.rd 0 rfl) (by rw [flat_len encG_len]; first | done | (simp; done) | (simp; omega)) (all_flat_one (fun _ => rfl) _) (by first | omega | (simp; omega)) (by first | omega | (simp; omega)) (by first | (simp; done) | (simp; omega)) (by simp) (fun _ _ => rfl) (fun w12_5 A12_5 c12_5 hc12_5 hM12_5 => ?_)
                  try dsimp only at hM12_5
                  refine O.val (v := .slice (A12_5) ((lbU a b k ++ [(⟨2, ((k : Nat) : Int), 0⟩ : RecT)] ++ [(⟨1, ((k : Nat) : Int), (if validR b then (lookP b ((k : Nat) : Int)).getD 0 else 0)⟩ : RecT)]).length) (c12_5)) rfl (Ru.assign rfl) rfl ?_
                  refine O.nil ?_
                  refine C.region ?_
                  refine O.val (v := I (((k : Nat) : Int))) rfl (Ru.move rfl) rfl ?_
                  refine O.val (v := I ((((k + 1) : Nat) : Int))) rfl (Ru.congr (v := I ((((k : Nat) : Int) + 1))) (v' := I ((((k + 1) : Nat) : Int))) (Ru.add rfl rfl (by omega)) (I_congr (by first | omega | simp))) rfl ?_
                  refine O.val (v := I ((((k + 1) : Nat) : Int))) rfl (Ru.assign rfl) rfl ?_
                  refine O.nil ?_
                  have hq7 : (lbU a b k ++ [(⟨2, ((k : Nat) : Int), 0⟩ : RecT)] ++ [(⟨1, ((k : Nat) : Int), (if validR b then (lookP b ((k : Nat) : Int)).getD 0 else 0)⟩ : RecT)] : List RecT) = lbU a b (k + 1) := (by rw [lbU_succ]; unfold lbK; cases h7 : lookP a (k : Nat) <;> cases h8 : lookP b (k : Nat) <;> simp_all)
                  have hMn7 : Mem w w12_5 [] [[⟨.slice (bl b12_4) (1) (1), 34, 3, 1, ([(⟨1, ((k : Nat) : Int), (if validR b then (lookP b ((k : Nat) : Int)).getD 0 else 0)⟩ : RecT)]).flatMap encG⟩], [⟨.slice (bl b10_3) (1) (1), 34, 3, 1, ([(⟨2, ((k : Nat) : Int), 0⟩ : RecT)]).flatMap encG⟩], [⟨.slice (A12_5) ((lbU a b (k + 1)).length) (c12_5), 34, 3, ((lbU a b (k + 1)).length), (lbU a b (k + 1)).flatMap encG⟩]] := hM12_5.relen 2 (n' := (lbU a b (k + 1)).length) (xs' := (lbU a b (k + 1)).flatMap encG) rfl (by first | rfl | exact congrArg List.length hq7 | (have hqq := congrArg List.length hq7; first | omega | (simp at hqq ⊢; omega)) | (simp; done) | (simp; omega)) (congrArg (fun z_ => (z_).flatMap encG) hq7) rfl
                  exact loopEnd ((k + 1), A12_5, c12_5) (by (try dsimp only); omega) (Has.cons rfl (Has.cons rfl (Has.cons (sl_congr (by first | rfl | omega | (simp; done) | (simp; omega) | exact congrArg List.length hq7 | (simp [← hq7]; done) | (simp [← hq7]; omega))) (Has.cons rfl Has.nil)))) ⟨(by (try dsimp only); omega), (hMn7.pick [2] (by decide) rfl)⟩
                · refine C.skip ?_
                  refine C.region ?_
                  refine O.val (v := I (((k : Nat) : Int))) rfl (Ru.move rfl) rfl ?_
                  refine O.val (v := I ((((k + 1) : Nat) : Int))) rfl (Ru.congr (v := I ((((k : Nat) : Int) + 1))) (v' := I ((((k + 1) : Nat) : Int))) (Ru.add rfl rfl (by omega)) (I_congr (by first | omega | simp))) rfl ?_
                  refine O.val (v := I ((((k + 1) : Nat) : Int))) rfl (Ru.assign rfl) rfl ?_
                  refine O.nil ?_
                  have hq8 : (lbU a b k ++ [(⟨2, ((k : Nat) : Int), 0⟩ : RecT)] : List RecT) = lbU a b (k + 1) := (by rw [lbU_succ]; unfold lbK; cases h7 : lookP a (k : Nat) <;> cases h8 : lookP b (k : Nat) <;> simp_all)
                  have hMn8 : Mem w w10_4 [] [[⟨.slice (bl b10_3) (1) (1), 34, 3, 1, ([(⟨2, ((k : Nat) : Int), 0⟩ : RecT)]).flatMap encG⟩], [⟨.slice (A10_4) ((lbU a b (k + 1)).length) (c10_4), 34, 3, ((lbU a b (k + 1)).length), (lbU a b (k + 1)).flatMap encG⟩]] := hM10_4.relen 1 (n' := (lbU a b (k + 1)).length) (xs' := (lbU a b (k + 1)).flatMap encG) rfl (by first | rfl | exact congrArg List.length hq8 | (have hqq := congrArg List.length hq8; first | omega | (simp at hqq ⊢; omega)) | (simp; done) | (simp; omega)) (congrArg (fun z_ => (z_).flatMap encG) hq8) rfl
                  exact loopEnd ((k + 1), A10_4, c10_4) (by (try dsimp only); omega) (Has.cons rfl (Has.cons rfl (Has.cons (sl_congr (by first | rfl | omega | (simp; done) | (simp; omega) | exact congrArg List.length hq8 | (simp [← hq8]; done) | (simp [← hq8]; omega))) (Has.cons rfl Has.nil)))) ⟨(by (try dsimp only); omega), (hMn8.pick [1] (by decide) rfl)⟩
            · refine O.pass rfl rfl rfl rfl rfl ?_
              refine O.pass rfl rfl rfl rfl rfl ?_
              refine O.pass rfl rfl rfl rfl rfl ?_
              refine O.passU rfl rfl rfl rfl ?_
              refine O.passU rfl rfl rfl rfl ?_
              refine O.passU rfl rfl rfl rfl ?_
              refine O.pass rfl rfl rfl rfl rfl ?_
              refine O.val (v := .bool (false)) rfl (Ru.pickF rfl rfl) rfl ?_
              refine O.nil ?_
              refine C.condF rfl ?_
              refine C.skip ?_
              refine C.region ?_
              refine O.val (v := I (((k : Nat) : Int))) rfl (Ru.move rfl) rfl ?_
              refine O.val (v := I ((((k + 1) : Nat) : Int))) rfl (Ru.congr (v := I ((((k : Nat) : Int) + 1))) (v' := I ((((k + 1) : Nat) : Int))) (Ru.add rfl rfl (by omega)) (I_congr (by first | omega | simp))) rfl ?_
              refine O.val (v := I ((((k + 1) : Nat) : Int))) rfl (Ru.assign rfl) rfl ?_
              refine O.nil ?_
              have hq9 : (lbU a b k ++ [(⟨2, ((k : Nat) : Int), 0⟩ : RecT)] : List RecT) = lbU a b (k + 1) := (by rw [lbU_succ]; unfold lbK; cases h7 : lookP a (k : Nat) <;> cases h8 : lookP b (k : Nat) <;> simp_all)
              have hMn9 : Mem w w10_4 [] [[⟨.slice (bl b10_3) (1) (1), 34, 3, 1, ([(⟨2, ((k : Nat) : Int), 0⟩ : RecT)]).flatMap encG⟩], [⟨.slice (A10_4) ((lbU a b (k + 1)).length) (c10_4), 34, 3, ((lbU a b (k + 1)).length), (lbU a b (k + 1)).flatMap encG⟩]] := hM10_4.relen 1 (n' := (lbU a b (k + 1)).length) (xs' := (lbU a b (k + 1)).flatMap encG) rfl (by first | rfl | exact congrArg List.length hq9 | (have hqq := congrArg List.length hq9; first | omega | (simp at hqq ⊢; omega)) | (simp; done) | (simp; omega)) (congrArg (fun z_ => (z_).flatMap encG) hq9) rfl
              exact loopEnd ((k + 1), A10_4, c10_4) (by (try dsimp only); omega) (Has.cons rfl (Has.cons rfl (Has.cons (sl_congr (by first | rfl | omega | (simp; done) | (simp; omega) | exact congrArg List.length hq9 | (simp [← hq9]; done) | (simp [← hq9]; omega))) (Has.cons rfl Has.nil)))) ⟨(by (try dsimp only); omega), (hMn9.pick [1] (by decide) rfl)⟩
          · refine C.skip ?_
            refine C.seq ?_
            refine C.region ?_
            refine O.val (v := .bool (validR b && (lookP b ((k : Nat) : Int)).isSome)) rfl (Ru.move rfl) rfl ?_
            refine O.val (v := .bool (validR b && (lookP b ((k : Nat) : Int)).isSome)) rfl (Ru.move rfl) rfl ?_
            refine O.part 47 (validR b && (lookP b ((k : Nat) : Int)).isSome) rfl (fun g47 => ?_) (fun g47 => ?_)
            · refine O.val (v := .bool (validR a && (lookP a ((k : Nat) : Int)).isSome)) rfl (Ru.move rfl) rfl ?_
              refine O.val (v := .bool (!(validR a && (lookP a ((k : Nat) : Int)).isSome))) rfl (Ru.not rfl) rfl ?_
              refine O.val (v := .bool (!(validR a && (lookP a ((k : Nat) : Int)).isSome))) rfl (Ru.move rfl) rfl ?_
              refine O.part 50 (!(validR a && (lookP a ((k : Nat) : Int)).isSome)) rfl (fun g50 => ?_) (fun g50 => ?_)
              · refine O.pass rfl rfl rfl rfl rfl ?_
                refine O.pass rfl rfl rfl rfl rfl ?_
                refine O.pass rfl rfl rfl rfl rfl ?_
                refine O.val (v := .bool (true)) rfl (Ru.pickT rfl rfl) rfl ?_
                refine O.val (v := .bool (true)) rfl (Ru.pickT rfl rfl) rfl ?_
                refine O.nil ?_
                refine C.condT rfl ?_
                refine C.region ?_
                refine O.val (v := .slice (A2) ((lbU a b k).length) (c2)) rfl (Ru.move rfl) rfl ?_
                refine O.val (v := I (((k : Nat) : Int))) rfl (Ru.move rfl) rfl ?_
                refine O.val (v := I ((if validR b then (lookP b ((k : Nat) : Int)).getD 0 else 0))) rfl (Ru.move rfl) rfl ?_
                refine O.val (v := .agg #[I (1), I (((k : Nat) : Int)), I ((if validR b then (lookP b ((k : Nat) : Int)).getD 0 else 0))]) rfl (Ru.build of34 rfl rfl rfl) rfl ?_
                refine O.mlit (sz := 3) (cs := [I (1), I (((k : Nat) : Int)), I ((if validR b then (lookP b ((k : Nat) : Int)).getD 0 else 0))]) hM8_2 rfl Try.underlying23 el34 rfl rfl rfl (by kernel_rfl) (by kernel_rfl) rfl rfl (fun w12_4 b12_4 hb12_4 (hM12_4 : Mem w w12_4 [] [[⟨.slice (bl b12_4) (1) (1), 34, 3, 1, ([(⟨1, ((k : Nat) : Int), (if validR b then (lookP b ((k : Nat) : Int)).getD 0 else 0)⟩ : RecT)]).flatMap encG⟩], [⟨.slice (A2) ((lbU a b k).length) (c2), 34, 3, ((lbU a b k).length), (lbU a b k).flatMap encG⟩]]) => ?_)
                refine O.mappend (sz := 3) (news := ([(⟨1, ((k : Nat) : Int), (if validR b then (lookP b ((k : Nat) : Int)).getD 0 else 0)⟩ : RecT)]).flatMap encG) (m1 := (lbU a b k ++ [(⟨1, ((k : Nat) : Int), (if validR b then (lookP b ((k : Nat) : Int)).getD 0 else 0)⟩ : RecT)]).length) (xs1 := (lbU a b k ++ [(⟨1, ((k : Nat) : Int), (if validR b then (lookP b ((k : Nat) : Int)).getD 0 else 0)⟩ : RecT)]).flatMap encG) (M' := fun A12_5 c12_5 => [[⟨.slice (bl b12_4) (1) (1), 34, 3, 1, ([(⟨1, ((k : Nat) : Int), (if validR b then (lookP b ((k : Nat) : Int)).getD 0 else 0)⟩ : RecT)]).flatMap encG⟩], [⟨.slice (A12_5) ((lbU a b k ++ [(⟨1, ((k : Nat) : Int), (if validR b then (lookP b ((k : Nat) : Int)).getD 0 else 0)⟩ : RecT)]).length) (c12_5), 34, 3, ((lbU a b k ++ [(⟨1, ((k : Nat) : Int), (if validR b then (lookP b ((k : Nat) : Int)).getD 0 else 0)⟩ : RecT)]).length), (lbU a b k ++ [(⟨1, ((k : Nat) : Int), (if validR b then (lookP b ((k : Nat) : Int)).getD 0 else 0)⟩ : RecT)]).flatMap encG⟩]]) 1 0 hM12_4 rfl rfl rfl Try.underlying23 el34 ⟨rfl, by decide⟩ rfl rfl rfl (hM12_4.rd 0 rfl) (by rw [flat_len encG_len]; first | done | (simp; done) | (simp; omega)) (all_flat_one (fun _ => rfl) _) (by first | omega | (simp; omega)) (by first | omega | (simp; omega)) (by first | (simp; done) | (simp; omega)) (by simp) (fun _ _ => rfl) (fun w12_5 A12_5 c12_5 hc12_5 hM12_5 => ?_)
                try dsimp only at hM12_5
                refine O.val (v := .slice (A12_5) ((lbU a b k ++ [(⟨1, ((k : Nat) : Int), (if validR b then (lookP b ((k : Nat) : Int)).getD 0 else 0)⟩ : RecT)]).length) (c12_5)) rfl (Ru.assign rfl) rfl ?_
                refine O.nil ?_
                refine C.region ?_
                refine O.val (v := I (((k : Nat) : Int))) rfl (Ru.move rfl) rfl ?_
                refine O.val (v := I ((((k + 1) : Nat) : Int))) rfl (Ru.congr (v := I ((((k : Nat) : Int) + 1))) (v' := I ((((k + 1) : Nat) : Int))) (Ru.add rfl rfl (by omega)) (I_congr (by first | omega | simp))) rfl ?_
                refine O.val (v := I ((((k + 1) : Nat) : Int))) rfl (Ru.assign rfl) rfl ?_
                refine O.nil ?_
                have hq10 : (lbU a b k ++ [(⟨1, ((k : Nat) : Int), (if validR b then (lookP b ((k : Nat) : Int)).getD 0 else 0)⟩ : RecT)] : List RecT) = lbU a b (k + 1) := (by rw [lbU_succ]; unfold lbK; cases h7 : lookP a (k : Nat) <;> cases h8 : lookP b (k : Nat) <;> simp_all)
                have hMn10 : Mem w w12_5 [] [[⟨.slice (bl b12_4) (1) (1), 34, 3, 1, ([(⟨1, ((k : Nat) : Int), (if validR b then (lookP b ((k : Nat) : Int)).getD 0 else 0)⟩ : RecT)]).flatMap encG⟩], [⟨.slice (A12_5) ((lbU a b (k + 1)).length) (c12_5), 34, 3, ((lbU a b (k + 1)).length), (lbU a b (k + 1)).flatMap encG⟩]] := hM12_5.relen 1 (n' := (lbU a b (k + 1)).length) (xs' := (lbU a b (k + 1)).flatMap encG) rfl (by first | rfl | exact congrArg List.length hq10 | (have hqq := congrArg List.length hq10; first | omega | (simp at hqq ⊢; omega)) | (simp; done) | (simp; omega)) (congrArg (fun z_ => (z_).flatMap encG) hq10) rfl
                exact loopEnd ((k + 1), A12_5, c12_5) (by (try dsimp only); omega) (Has.cons rfl (Has.cons rfl (Has.cons (sl_congr (by first | rfl | omega | (simp; done) | (simp; omega) | exact congrArg List.length hq10 | (simp [← hq10]; done) | (simp [← hq10]; omega))) (Has.cons rfl Has.nil)))) ⟨(by (try dsimp only); omega), (hMn10.pick [1] (by decide) rfl)⟩
              · refine O.val (v := I ((if validR a then (lookP a ((k : Nat) : Int)).getD 0 else 0))) rfl (Ru.move rfl) rfl ?_
                refine O.val (v := I ((if validR b then (lookP b ((k : Nat) : Int)).getD 0 else 0))) rfl (Ru.move rfl) rfl ?_
                refine O.val (v := .bool (decide ((if validR a then (lookP a ((k : Nat) : Int)).getD 0 else 0) ≠ (if validR b then (lookP b ((k : Nat) : Int)).getD 0 else 0)))) rfl (Ru.neq rfl rfl) rfl ?_
                refine O.val (v := .bool (decide ((if validR a then (lookP a ((k : Nat) : Int)).getD 0 else 0) ≠ (if validR b then (lookP b ((k : Nat) : Int)).getD 0 else 0)))) rfl (Ru.pickF rfl rfl) rfl ?_
                refine O.val (v := .bool (decide ((if validR a then (lookP a ((k : Nat) : Int)).getD 0 else 0) ≠ (if validR b then (lookP b ((k : Nat) : Int)).getD 0 else 0)))) rfl (Ru.pickT rfl rfl) rfl ?_
                refine O.nil ?_
                refine C.cond (p := (if validR a then (lookP a ((k : Nat) : Int)).getD 0 else 0) ≠ (if validR b then (lookP b ((k : Nat) : Int)).getD 0 else 0)) rfl (fun c55 => ?_) (fun c55 => ?_)
                · refine C.region ?_
                  refine O.val (v := .slice (A2) ((lbU a b k).length) (c2)) rfl (Ru.move rfl) rfl ?_
                  refine O.val (v := I (((k : Nat) : Int))) rfl (Ru.move rfl) rfl ?_
                  refine O.val (v := I ((if validR b then (lookP b ((k : Nat) : Int)).getD 0 else 0))) rfl (Ru.move rfl) rfl ?_
                  refine O.val (v := .agg #[I (1), I (((k : Nat) : Int)), I ((if validR b then (lookP b ((k : Nat) : Int)).getD 0 else 0))]) rfl (Ru.build of34 rfl rfl rfl) rfl ?_
                  refine O.mlit (sz := 3) (cs := [I (1), I (((k : Nat) : Int)), I ((if validR b then (lookP b ((k : Nat) : Int)).getD 0 else 0))]) hM8_2 rfl Try.underlying23 el34 rfl rfl rfl (by kernel_rfl) (by kernel_rfl) rfl rfl (fun w12_4 b12_4 hb12_4 (hM12_4 : Mem w w12_4 [] [[⟨.slice (bl b12_4) (1) (1), 34, 3, 1, ([(⟨1, ((k : Nat) : Int), (if validR b then (lookP b ((k : Nat) : Int)).getD 0 else 0)⟩ : RecT)]).flatMap encG⟩], [⟨.slice (A2) ((lbU a b k).length) (c2), 34, 3, ((lbU a b k).length), (lbU a b k).flatMap encG⟩]]) => ?_)
                  refine O.mappend (sz := 3) (news := ([(⟨1, ((k : Nat) : Int), (if validR b then (lookP b ((k : Nat) : Int)).getD 0 else 0)⟩ : RecT)]).flatMap encG) (m1 := (lbU a b k ++ [(⟨1, ((k : Nat) : Int), (if validR b then (lookP b ((k : Nat) : Int)).getD 0 else 0)⟩ : RecT)]).length) (xs1 := (lbU a b k ++ [(⟨1, ((k : Nat) : Int), (if validR b then (lookP b ((k : Nat) : Int)).getD 0 else 0)⟩ : RecT)]).flatMap encG) (M' := fun A12_5 c12_5 => [[⟨.slice (bl b12_4) (1) (1), 34, 3, 1, ([(⟨1, ((k : Nat) : Int), (if validR b then (lookP b ((k : Nat) : Int)).getD 0 else 0)⟩ : RecT)]).flatMap encG⟩], [⟨.slice (A12_5) ((lbU a b k ++ [(⟨1, ((k : Nat) : Int), (if validR b then (lookP b ((k : Nat) : Int)).getD 0 else 0)⟩ : RecT)]).length) (c12_5), 34, 3, ((lbU a b k ++ [(⟨1, ((k : Nat) : Int), (if validR b then (lookP b ((k : Nat) : Int)).getD 0 else 0)⟩ : RecT)]).length), (lbU a b k ++ [(⟨1, ((k : Nat) : Int), (if validR b then (lookP b ((k : Nat) : Int)).getD 0 else 0)⟩ : RecT)]).flatMap encG⟩]]) 1 0 hM12_4 rfl rfl rfl Try.underlying23 el34 ⟨rfl, by decide⟩ rfl rfl rfl (hM12_4.rd 0 rfl) (by rw [flat_len encG_len]; first | done | (simp; done) | (simp; omega)) (all_flat_one (fun _ => rfl) _) (by first | omega | (simp; omega)) (by first | omega | (simp; omega)) (by first | (simp; done) | (simp; omega)) (by simp) (fun _ _ => rfl) (fun w12_5 A12_5 c12_5 hc12_5 hM12_5 => ?_)
                  try dsimp only at hM12_5
                  refine O.val (v := .slice (A12_5) ((lbU a b k ++ [(⟨1, ((k : Nat) : Int), (if validR b then (lookP b ((k : Nat) : Int)).getD 0 else 0)⟩ : RecT)]).length) (c12_5)) rfl (Ru.assign rfl) rfl ?_
                  refine O.nil ?_
                  refine C.region ?_
                  refine O.val (v := I (((k : Nat) : Int))) rfl (Ru.move rfl) rfl ?_
                  refine O.val (v := I ((((k + 1) : Nat) : Int))) rfl (Ru.congr (v := I ((((k : Nat) : Int) + 1))) (v' := I ((((k + 1) : Nat) : Int))) (Ru.add rfl rfl (by omega)) (I_congr (by first | omega | simp))) rfl ?_
                  refine O.val (v := I ((((k + 1) : Nat) : Int))) rfl (Ru.assign rfl) rfl ?_
                  refine O.nil ?_
                  have hq11 : (lbU a b k ++ [(⟨1, ((k : Nat) : Int), (if validR b then (lookP b ((k : Nat) : Int)).getD 0 else 0)⟩ : RecT)] : List RecT) = lbU a b (k + 1) := (by rw [lbU_succ]; unfold lbK; cases h7 : lookP a (k : Nat) <;> cases h8 : lookP b (k : Nat) <;> simp_all)
                  have hMn11 : Mem w w12_5 [] [[⟨.slice (bl b12_4) (1) (1), 34, 3, 1, ([(⟨1, ((k : Nat) : Int), (if validR b then (lookP b ((k : Nat) : Int)).getD 0 else 0)⟩ : RecT)]).flatMap encG⟩], [⟨.slice (A12_5) ((lbU a b (k + 1)).length) (c12_5), 34, 3, ((lbU a b (k + 1)).length), (lbU a b (k + 1)).flatMap encG⟩]] := hM12_5.relen 1 (n' := (lbU a b (k + 1)).length) (xs' := (lbU a b (k + 1)).flatMap encG) rfl (by first | rfl | exact congrArg List.length hq11 | (have hqq := congrArg List.length hq11; first | omega | (simp at hqq ⊢; omega)) | (simp; done) | (simp; omega)) (congrArg (fun z_ => (z_).flatMap encG) hq11) rfl
                  exact loopEnd ((k + 1), A12_5, c12_5) (by (try dsimp only); omega) (Has.cons rfl (Has.cons rfl (Has.cons (sl_congr (by first | rfl | omega | (simp; done) | (simp; omega) | exact congrArg List.length hq11 | (simp [← hq11]; done) | (simp [← hq11]; omega))) (Has.cons rfl Has.nil)))) ⟨(by (try dsimp only); omega), (hMn11.pick [1] (by decide) rfl)⟩
                · refine C.skip ?_
                  refine C.region ?_
                  refine O.val (v := I (((k : Nat) : Int))) rfl (Ru.move rfl) rfl ?_
                  refine O.val (v := I ((((k + 1) : Nat) : Int))) rfl (Ru.congr (v := I ((((k : Nat) : Int) + 1))) (v' := I ((((k + 1) : Nat) : Int))) (Ru.add rfl rfl (by omega)) (I_congr (by first | omega | simp))) rfl ?_
                  refine O.val (v := I ((((k + 1) : Nat) : Int))) rfl (Ru.assign rfl) rfl ?_
                  refine O.nil ?_
                  have hq12 : (lbU a b k : List RecT) = lbU a b (k + 1) := (by rw [lbU_succ]; unfold lbK; cases h7 : lookP a (k : Nat) <;> cases h8 : lookP b (k : Nat) <;> simp_all)
                  have hMn12 : Mem w w8_2 [] [[⟨.slice (A2) ((lbU a b (k + 1)).length) (c2), 34, 3, ((lbU a b (k + 1)).length), (lbU a b (k + 1)).flatMap encG⟩]] := hM8_2.relen 0 (n' := (lbU a b (k + 1)).length) (xs' := (lbU a b (k + 1)).flatMap encG) rfl (by first | rfl | exact congrArg List.length hq12 | (have hqq := congrArg List.length hq12; first | omega | (simp at hqq ⊢; omega)) | (simp; done) | (simp; omega)) (congrArg (fun z_ => (z_).flatMap encG) hq12) rfl
                  exact loopEnd ((k + 1), A2, c2) (by (try dsimp only); omega) (Has.cons rfl (Has.cons rfl (Has.cons (sl_congr (by first | rfl | omega | (simp; done) | (simp; omega) | exact congrArg List.length hq12 | (simp [← hq12]; done) | (simp [← hq12]; omega))) (Has.cons rfl Has.nil)))) ⟨(by (try dsimp only); omega), (hMn12.pick [0] (by decide) rfl)⟩
            · refine O.pass rfl rfl rfl rfl rfl ?_
              refine O.pass rfl rfl rfl rfl rfl ?_
              refine O.pass rfl rfl rfl rfl rfl ?_
              refine O.passU rfl rfl rfl rfl ?_
              refine O.passU rfl rfl rfl rfl ?_
              refine O.passU rfl rfl rfl rfl ?_
              refine O.pass rfl rfl rfl rfl rfl ?_
              refine O.val (v := .bool (false)) rfl (Ru.pickF rfl rfl) rfl ?_
              refine O.nil ?_
              refine C.condF rfl ?_
              refine C.skip ?_
              refine C.region ?_
              refine O.val (v := I (((k : Nat) : Int))) rfl (Ru.move rfl) rfl ?_
              refine O.val (v := I ((((k + 1) : Nat) : Int))) rfl (Ru.congr (v := I ((((k : Nat) : Int) + 1))) (v' := I ((((k + 1) : Nat) : Int))) (Ru.add rfl rfl (by omega)) (I_congr (by first | omega | simp))) rfl ?_
              refine O.val (v := I ((((k + 1) : Nat) : Int))) rfl (Ru.assign rfl) rfl ?_
              refine O.nil ?_
              have hq13 : (lbU a b k : List RecT) = lbU a b (k + 1) := (by rw [lbU_succ]; unfold lbK; cases h7 : lookP a (k : Nat) <;> cases h8 : lookP b (k : Nat) <;> simp_all)
              have hMn13 : Mem w w8_2 [] [[⟨.slice (A2) ((lbU a b (k + 1)).length) (c2), 34, 3, ((lbU a b (k + 1)).length), (lbU a b (k + 1)).flatMap encG⟩]] := hM8_2.relen 0 (n' := (lbU a b (k + 1)).length) (xs' := (lbU a b (k + 1)).flatMap encG) rfl (by first | rfl | exact congrArg List.length hq13 | (have hqq := congrArg List.length hq13; first | omega | (simp at hqq ⊢; omega)) | (simp; done) | (simp; omega)) (congrArg (fun z_ => (z_).flatMap encG) hq13) rfl
              exact loopEnd ((k + 1), A2, c2) (by (try dsimp only); omega) (Has.cons rfl (Has.cons rfl (Has.cons (sl_congr (by first | rfl | omega | (simp; done) | (simp; omega) | exact congrArg List.length hq13 | (simp [← hq13]; done) | (simp [← hq13]; omega))) (Has.cons rfl Has.nil)))) ⟨(by (try dsimp only); omega), (hMn13.pick [0] (by decide) rfl)⟩
        · refine O.pass rfl rfl rfl rfl rfl ?_
          refine O.pass rfl rfl rfl rfl rfl ?_
          refine O.val (v := .bool (false)) rfl (Ru.pickF rfl rfl) rfl ?_
          refine O.nil ?_
          refine C.condF rfl ?_
          refine C.skip ?_
          refine C.seq ?_
          refine C.region ?_
          refine O.val (v := .bool (validR b && (lookP b ((k : Nat) : Int)).isSome)) rfl (Ru.move rfl) rfl ?_
          refine O.val (v := .bool (validR b && (lookP b ((k : Nat) : Int)).isSome)) rfl (Ru.move rfl) rfl ?_
          refine O.part 47 (validR b && (lookP b ((k : Nat) : Int)).isSome) rfl (fun g47 => ?_) (fun g47 => ?_)
          · refine O.val (v := .bool (validR a && (lookP a ((k : Nat) : Int)).isSome)) rfl (Ru.move rfl) rfl ?_
            refine O.val (v := .bool (!(validR a && (lookP a ((k : Nat) : Int)).isSome))) rfl (Ru.not rfl) rfl ?_
            refine O.val (v := .bool (!(validR a && (lookP a ((k : Nat) : Int)).isSome))) rfl (Ru.move rfl) rfl ?_
            refine O.part 50 (!(validR a && (lookP a ((k : Nat) : Int)).isSome)) rfl (fun g50 => ?_) (fun g50 => ?_)
            · refine O.pass rfl rfl rfl rfl rfl ?_
              refine O.pass rfl rfl rfl rfl rfl ?_
              refine O.pass rfl rfl rfl rfl rfl ?_
              refine O.val (v := .bool (true)) rfl (Ru.pickT rfl rfl) rfl ?_
              refine O.val (v := .bool (true)) rfl (Ru.pickT rfl rfl) rfl ?_
              refine O.nil ?_
              refine C.condT rfl ?_
              refine C.region ?_
              refine O.val (v := .slice (A2) ((lbU a b k).length) (c2)) rfl (Ru.move rfl) rfl ?_
              refine O.val (v := I (((k : Nat) : Int))) rfl (Ru.move rfl) rfl ?_
              refine O.val (v := I ((if validR b then (lookP b ((k : Nat) : Int)).getD 0 else 0))) rfl (Ru.move rfl) rfl ?_
              refine O.val (v := .agg #[I (1), I (((k : Nat) : Int)), I ((if validR b then (lookP b ((k : Nat) : Int)).getD 0 else 0))]) rfl (Ru.build of34 rfl rfl rfl) rfl ?_
              refine O.mlit (sz := 3) (cs := [I (1), I (((k : Nat) : Int)), I ((if validR b then (lookP b ((k : Nat) : Int)).getD 0 else 0))]) hM8_2 rfl Try.underlying23 el34 rfl rfl rfl (by kernel_rfl) (by kernel_rfl) rfl rfl (fun w12_4 b12_4 hb12_4 (hM12_4 : Mem w w12_4 [] [[⟨.slice (bl b12_4) (1) (1), 34, 3, 1, ([(⟨1, ((k : Nat) : Int), (if validR b then (lookP b ((k : Nat) : Int)).getD 0 else 0)⟩ : RecT)]).flatMap encG⟩], [⟨.slice (A2) ((lbU a b k).length) (c2), 34, 3, ((lbU a b k).length), (lbU a b k).flatMap encG⟩]]) => ?_)
              refine O.mappend (sz := 3) (news := ([(⟨1, ((k : Nat) : Int), (if validR b then (lookP b ((k : Nat) : Int)).getD 0 else 0)⟩ : RecT)]).flatMap encG) (m1 := (lbU a b k ++ [(⟨1, ((k : Nat) : Int), (if validR b then (lookP b ((k : Nat) : Int)).getD 0 else 0)⟩ : RecT)]).length) (xs1 := (lbU a b k ++ [(⟨1, ((k : Nat) : Int), (if validR b then (lookP b ((k : Nat) : Int)).getD 0 else 0)⟩ : RecT)]).flatMap encG) (M' := fun A12_5 c12_5 => [[⟨.slice (bl b12_4) (1) (1), 34, 3, 1, ([(⟨1, ((k : Nat) : Int), (if validR b then (lookP b ((k : Nat) : Int)).getD 0 else 0)⟩ : RecT)]).flatMap encG⟩], [⟨.slice (A12_5) ((lbU a b k ++ [(⟨1, ((k : Nat) : Int), (if validR b then (lookP b ((k : Nat) : Int)).getD 0 else 0)⟩ : RecT)]).length) (c12_5), 34, 3, ((lbU a b k ++ [(⟨1, ((k : Nat) : Int), (if validR b then (lookP b ((k : Nat) : Int)).getD 0 else 0)⟩ : RecT)]).length), (lbU a b k ++ [(⟨1, ((k : Nat) : Int), (if validR b then (lookP b ((k : Nat) : Int)).getD 0 else 0)⟩ : RecT)]).flatMap encG⟩]]) 1 0 hM12_4 rfl rfl rfl Try.underlying23 el34 ⟨rfl, by decide⟩ rfl rfl rfl (hM12_4.rd 0 rfl) (by rw [flat_len encG_len]; first | done | (simp; done) | (simp; omega)) (all_flat_one (fun _ => rfl) _) (by first | omega | (simp; omega)) (by first | omega | (simp; omega)) (by first | (simp; done) | (simp; omega)) (by simp) (fun _ _ => rfl) (fun w12_5 A12_5 c12_5 hc12_5 hM12_5 => ?_)
              try dsimp only at hM12_5
              refine O.val (v := .slice (A12_5) ((lbU a b k ++ [(⟨1, ((k : Nat) : Int), (if validR b then (lookP b ((k : Nat) : Int)).getD 0 else 0)⟩ : RecT)]).length) (c12_5)) rfl (Ru.assign rfl) rfl ?_
              refine O.nil ?_
              refine C.region ?_
              refine O.val (v := I (((k : Nat) : Int))) rfl (Ru.move rfl) rfl ?_
              refine O.val (v := I ((((k + 1) : Nat) : Int))) rfl (Ru.congr (v := I ((((k : Nat) : Int) + 1))) (v' := I ((((k + 1) : Nat) : Int))) (Ru.add rfl rfl (by omega)) (I_congr (by first | omega | simp))) rfl ?_
              refine O.val (v := I ((((k + 1) : Nat) : Int))) rfl (Ru.assign rfl) rfl ?_
              refine O.nil ?_
              have hq14 : (lbU a b k ++ [(⟨1, ((k : Nat) : Int), (if validR b then (lookP b ((k : Nat) : Int)).getD 0 else 0)⟩ : RecT)] : List RecT) = lbU a b (k + 1) := (by rw [lbU_succ]; unfold lbK; cases h7 : lookP a (k : Nat) <;> cases h8 : lookP b (k : Nat) <;> simp_all)
              have hMn14 : Mem w w12_5 [] [[⟨.slice (bl b12_4) (1) (1), 34, 3, 1, ([(⟨1, ((k : Nat) : Int), (if validR b then (lookP b ((k : Nat) : Int)).getD 0 else 0)⟩ : RecT)]).flatMap encG⟩], [⟨.slice (A12_5) ((lbU a b (k + 1)).length) (c12_5), 34, 3, ((lbU a b (k + 1)).length), (lbU a b (k + 1)).flatMap encG⟩]] := hM12_5.relen 1 (n' := (lbU a b (k + 1)).length) (xs' := (lbU a b (k + 1)).flatMap encG) rfl (by first | rfl | exact congrArg List.length hq14 | (have hqq := congrArg List.length hq14; first | omega | (simp at hqq ⊢; omega)) | (simp; done) | (simp; omega)) (congrArg (fun z_ => (z_).flatMap encG) hq14) rfl
              exact loopEnd ((k + 1), A12_5, c12_5) (by (try dsimp only); omega) (Has.cons rfl (Has.cons rfl (Has.cons (sl_congr (by first | rfl | omega | (simp; done) | (simp; omega) | exact congrArg List.length hq14 | (simp [← hq14]; done) | (simp [← hq14]; omega))) (Has.cons rfl Has.nil)))) ⟨(by (try dsimp only); omega), (hMn14.pick [1] (by decide) rfl)⟩
            · refine O.val (v := I ((if validR a then (lookP a ((k : Nat) : Int)).getD 0 else 0))) rfl (Ru.move rfl) rfl ?_
              refine O.val (v := I ((if validR b then (lookP b ((k : Nat) : Int)).getD 0 else 0))) rfl (Ru.move rfl) rfl ?_
              refine O.val (v := .bool (decide ((if validR a then (lookP a ((k : Nat) : Int)).getD 0 else 0) ≠ (if validR b then (lookP b ((k : Nat) : Int)).getD 0 else 0)))) rfl (Ru.neq rfl rfl) rfl ?_
              refine O.val (v := .bool (decide ((if validR a then (lookP a ((k : Nat) : Int)).getD 0 else 0) ≠ (if validR b then (lookP b ((k : Nat) : Int)).getD 0 else 0)))) rfl (Ru.pickF rfl rfl) rfl ?_
              refine O.val (v := .bool (decide ((if validR a then (lookP a ((k : Nat) : Int)).getD 0 else 0) ≠ (if validR b then (lookP b ((k : Nat) : Int)).getD 0 else 0)))) rfl (Ru.pickT rfl rfl) rfl ?_
              refine O.nil ?_
              refine C.cond (p := (if validR a then (lookP a ((k : Nat) : Int)).getD 0 else 0) ≠ (if validR b then (lookP b ((k : Nat) : Int)).getD 0 else 0)) rfl (fun c55 => ?_) (fun c55 => ?_)
              · refine C.region ?_
                refine O.val (v := .slice (A2) ((lbU a b k).length) (c2)) rfl (Ru.move rfl) rfl ?_
                refine O.val (v := I (((k : Nat) : Int))) rfl (Ru.move rfl) rfl ?_
                refine O.val (v := I ((if validR b then (lookP b ((k : Nat) : Int)).getD 0 else 0))) rfl (Ru.move rfl) rfl ?_
                refine O.val (v := .agg #[I (1), I (((k : Nat) : Int)), I ((if validR b then (lookP b ((k : Nat) : Int)).getD 0 else 0))]) rfl (Ru.build of34 rfl rfl rfl) rfl ?_
                refine O.mlit (sz := 3) (cs := [I (1), I (((k : Nat) : Int)), I ((if validR b then (lookP b ((k : Nat) : Int)).getD 0 else 0))]) hM8_2 rfl Try.underlying23 el34 rfl rfl rfl (by kernel_rfl) (by kernel_rfl) rfl rfl (fun w12_4 b12_4 hb12_4 (hM12_4 : Mem w w12_4 [] [[⟨.slice (bl b12_4) (1) (1), 34, 3, 1, ([(⟨1, ((k : Nat) : Int), (if validR b then (lookP b ((k : Nat) : Int)).getD 0 else 0)⟩ : RecT)]).flatMap encG⟩], [⟨.slice (A2) ((lbU a b k).length) (c2), 34, 3, ((lbU a b k).length), (lbU a b k).flatMap encG⟩]]) => ?_)
                refine O.mappend (sz := 3) (news := ([(⟨1, ((k : Nat) : Int), (if validR b then (lookP b ((k : Nat) : Int)).getD 0 else 0)⟩ : RecT)]).flatMap encG) (m1 := (lbU a b k ++ [(⟨1, ((k : Nat) : Int), (if validR b then (lookP b ((k : Nat) : Int)).getD 0 else 0)⟩ : RecT)]).length) (xs1 := (lbU a b k ++ [(⟨1, ((k : Nat) : Int), (if validR b then (lookP b ((k : Nat) : Int)).getD 0 else 0)⟩ : RecT)]).flatMap encG) (M' := fun A12_5 c12_5 => [[⟨.slice (bl b12_4) (1) (1), 34, 3, 1, ([(⟨1, ((k : Nat) : Int), (if validR b then (lookP b ((k : Nat) : Int)).getD 0 else 0)⟩ : RecT)]).flatMap encG⟩], [⟨.slice (A12_5) ((lbU a b k ++ [(⟨1, ((k : Nat) : Int), (if validR b then (lookP b ((k : Nat) : Int)).getD 0 else 0)⟩ : RecT)]).length) (c12_5), 34, 3, ((lbU a b k ++ [(⟨1, ((k : Nat) : Int), (if validR b then (lookP b ((k : Nat) : Int)).getD 0 else 0)⟩ : RecT)]).length), (lbU a b k ++ [(⟨1, ((k : Nat) : Int), (if validR b then (lookP b ((k : Nat) : Int)).getD 0 else 0)⟩ : RecT)]).flatMap encG⟩]]) 1 0 hM12_4 rfl rfl rfl Try.underlying23 el34 ⟨rfl, by decide⟩ rfl rfl rfl (hM12_4.rd 0 rfl) (by rw [flat_len encG_len]; first | done | (simp; done) | (simp; omega)) (all_flat_one (fun _ => rfl) _) (by first | omega | (simp; omega)) (by first | omega | (simp; omega)) (by first | (simp; done) | (simp; omega)) (by simp) (fun _ _ => rfl) (fun w12_5 A12_5 c12_5 hc12_5 hM12_5 => ?_)
                try dsimp only at hM12_5
                refine O.val (v := .slice (A12_5) ((lbU a b k ++ [(⟨1, ((k : Nat) : Int), (if validR b then (lookP b ((k : Nat) : Int)).getD 0 else 0)⟩ : RecT)]).length) (c12_5)) rfl (Ru.assign rfl) rfl ?_
                refine O.nil ?_
                refine C.region ?_
                refine O.val (v := I (((k : Nat) : Int))) rfl (Ru.move rfl) rfl ?_
                refine O.val (v := I ((((k + 1) : Nat) : Int))) rfl (Ru.congr (v := I ((((k : Nat) : Int) + 1))) (v' := I ((((k + 1) : Nat) : Int))) (Ru.add rfl rfl (by omega)) (I_congr (by first | omega | simp))) rfl ?_
                refine O.val (v := I ((((k + 1) : Nat) : Int))) rfl (Ru.assign rfl) rfl ?_
                refine O.nil ?_
                have hq15 : (lbU a b k ++ [(⟨1, ((k : Nat) : Int), (if validR b then (lookP b ((k : Nat) : Int)).getD 0 else 0)⟩ : RecT)] : List RecT) = lbU a b (k + 1) := (by rw [lbU_succ]; unfold lbK; cases h7 : lookP a (k : Nat) <;> cases h8 : lookP b (k : Nat) <;> simp_all)
                have hMn15 : Mem w w12_5 [] [[⟨.slice (bl b12_4) (1) (1), 34, 3, 1, ([(⟨1, ((k : Nat) : Int), (if validR b then (lookP b ((k : Nat) : Int)).getD 0 else 0)⟩ : RecT)]).flatMap encG⟩], [⟨.slice (A12_5) ((lbU a b (k + 1)).length) (c12_5), 34, 3, ((lbU a b (k + 1)).length), (lbU a b (k + 1)).flatMap encG⟩]] := hM12_5.relen 1 (n' := (lbU a b (k + 1)).length) (xs' := (lbU a b (k + 1)).flatMap encG) rfl (by first | rfl | exact congrArg List.length hq15 | (have hqq := congrArg List.length hq15; first | omega | (simp at hqq ⊢; omega)) | (simp; done) | (simp; omega)) (congrArg (fun z_ => (z_).flatMap encG) hq15) rfl
                exact loopEnd ((k + 1), A12_5, c12_5) (by (try dsimp only); omega) (Has.cons rfl (Has.cons rfl (Has.cons (sl_congr (by first | rfl | omega | (simp; done) | (simp; omega) | exact congrArg List.length hq15 | (simp [← hq15]; done) | (simp [← hq15]; omega))) (Has.cons rfl Has.nil)))) ⟨(by (try dsimp only); omega), (hMn15.pick [1] (by decide) rfl)⟩
              · refine C.skip ?_
                refine C.region ?_
                refine O.val (v := I (((k : Nat) : Int))) rfl (Ru.move rfl) rfl ?_
                refine O.val (v := I ((((k + 1) : Nat) : Int))) rfl (Ru.congr (v := I ((((k : Nat) : Int) + 1))) (v' := I ((((k + 1) : Nat) : Int))) (Ru.add rfl rfl (by omega)) (I_congr (by first | omega | simp))) rfl ?_
                refine O.val (v := I ((((k + 1) : Nat) : Int))) rfl (Ru.assign rfl) rfl ?_
                refine O.nil ?_
                have hq16 : (lbU a b k : List RecT) = lbU a b (k + 1) := (by rw [lbU_succ]; unfold lbK; cases h7 : lookP a (k : Nat) <;> cases h8 : lookP b (k : Nat) <;> simp_all)
                have hMn16 : Mem w w8_2 [] [[⟨.slice (A2) ((lbU a b (k + 1)).length) (c2), 34, 3, ((lbU a b (k + 1)).length), (lbU a b (k + 1)).flatMap encG⟩]] := hM8_2.relen 0 (n' := (lbU a b (k + 1)).length) (xs' := (lbU a b (k + 1)).flatMap encG) rfl (by first | rfl | exact congrArg List.length hq16 | (have hqq := congrArg List.length hq16; first | omega | (simp at hqq ⊢; omega)) | (simp; done) | (simp; omega)) (congrArg (fun z_ => (z_).flatMap encG) hq16) rfl
                exact loopEnd ((k + 1), A2, c2) (by (try dsimp only); omega) (Has.cons rfl (Has.cons rfl (Has.cons (sl_congr (by first | rfl | omega | (simp; done) | (simp; omega) | exact congrArg List.length hq16 | (simp [← hq16]; done) | (simp [← hq16]; omega))) (Has.cons rfl Has.nil)))) ⟨(by (try dsimp only); omega), (hMn16.pick [0] (by decide) rfl)⟩
          · refine O.pass rfl rfl rfl rfl rfl ?_
            refine O.pass rfl rfl rfl rfl rfl ?_
            refine O.pass rfl rfl rfl rfl rfl ?_
            refine O.passU rfl rfl rfl rfl ?_
            refine O.passU rfl rfl rfl rfl ?_
            refine O.passU rfl rfl rfl rfl ?_
            refine O.pass rfl rfl rfl rfl rfl ?_
            refine O.val (v := .bool (false)) rfl (Ru.pickF rfl rfl) rfl ?_
            refine O.nil ?_
            refine C.condF rfl ?_
            refine C.skip ?_
            refine C.region ?_
            refine O.val (v := I (((k : Nat) : Int))) rfl (Ru.move rfl) rfl ?_
            refine O.val (v := I ((((k + 1) : Nat) : Int))) rfl (Ru.congr (v := I ((((k : Nat) : Int) + 1))) (v' := I ((((k + 1) : Nat) : Int))) (Ru.add rfl rfl (by omega)) (I_congr (by first | omega | simp))) rfl ?_
            refine O.val (v := I ((((k + 1) : Nat) : Int))) rfl (Ru.assign rfl) rfl ?_
            refine O.nil ?_
            have hq17 : (lbU a b k : List RecT) = lbU a b (k + 1) := (by rw [lbU_succ]; unfold lbK; cases h7 : lookP a (k : Nat) <;> cases h8 : lookP b (k : Nat) <;> simp_all)
            have hMn17 : Mem w w8_2 [] [[⟨.slice (A2) ((lbU a b (k + 1)).length) (c2), 34, 3, ((lbU a b (k + 1)).length), (lbU a b (k + 1)).flatMap encG⟩]] := hM8_2.relen 0 (n' := (lbU a b (k + 1)).length) (xs' := (lbU a b (k + 1)).flatMap encG) rfl (by first | rfl | exact congrArg List.length hq17 | (have hqq := congrArg List.length hq17; first | omega | (simp at hqq ⊢; omega)) | (simp; done) | (simp; omega)) (congrArg (fun z_ => (z_).flatMap encG) hq17) rfl
            exact loopEnd ((k + 1), A2, c2) (by (try dsimp only); omega) (Has.cons rfl (Has.cons rfl (Has.cons (sl_congr (by first | rfl | omega | (simp; done) | (simp; omega) | exact congrArg List.length hq17 | (simp [← hq17]; done) | (simp [← hq17]; omega))) (Has.cons rfl Has.nil)))) ⟨(by (try dsimp only); omega), (hMn17.pick [0] (by decide) rfl)⟩
      · refine C.exit ?_
        refine C.seq ?_
        refine C.seq ?_
        refine C.region ?_
        refine O.val (v := .slice (A2) ((lbU a b k).length) (c2)) rfl (Ru.move rfl) rfl ?_
        refine O.val (v := I ((((lbU a b k).length : Nat) : Int))) rfl (Ru.blenSlice Try.underlying23 rfl) rfl ?_
        refine O.val (v := .bool (decide ((((lbU a b k).length : Nat) : Int) > 24))) rfl (Ru.gtr rfl rfl) rfl ?_
        refine O.nil ?_
        refine C.cond (p := (((lbU a b k).length : Nat) : Int) > 24) rfl (fun c64 => ?_) (fun c64 => ?_)
        · refine C.seq ?_
          refine C.region ?_
          refine O.val (v := .slice (none) (0) (0)) rfl (Ru.assign rfl) rfl ?_
          refine O.nil ?_
          refine C.ret ?_
          refine P1 (v := .slice (none) (0) (0)) rfl ?_
          have hk1 : k = 100 := by omega
          have hn := lbF_big (a := a) (b := b) (by rw [← hk1]; omega)
          have hMn18 : Mem w w_l5 [] [[⟨.slice (none) (0) (0), 34, 3, 0, ([]).flatMap encG⟩], [⟨.slice (A2) ((lbU a b k).length) (c2), 34, 3, ((lbU a b k).length), (lbU a b k).flatMap encG⟩]] := Mem.addNil hM_l5
          have hq19 : ([] : List RecT) = lbF a b := hn.symm
          have hMn19 : Mem w w_l5 [] [[⟨.slice (none) ((lbF a b).length) (0), 34, 3, ((lbF a b).length), (lbF a b).flatMap encG⟩], [⟨.slice (A2) ((lbU a b k).length) (c2), 34, 3, ((lbU a b k).length), (lbU a b k).flatMap encG⟩]] := hMn18.relen 0 (n' := (lbF a b).length) (xs' := (lbF a b).flatMap encG) rfl (by first | rfl | exact congrArg List.length hq19 | (have hqq := congrArg List.length hq19; first | omega | (simp at hqq ⊢; omega)) | (simp; done) | (simp; omega)) (congrArg (fun z_ => (z_).flatMap encG) hq19) rfl
          exact ⟨none, 0, (by rw [hn]; rfl), (hMn19.pick [0] (by decide) rfl)⟩
        · refine C.skip ?_
          refine C.seq ?_
          refine C.region ?_
          refine O.val (v := .slice (A2) ((lbU a b k).length) (c2)) rfl (Ru.move rfl) rfl ?_
          refine O.val (v := .slice (A2) ((lbU a b k).length) (c2)) rfl (Ru.assign rfl) rfl ?_
          refine O.nil ?_
          refine C.ret ?_
          refine P1 (v := .slice (A2) ((lbU a b k).length) (c2)) rfl ?_
          have hk1 : k = 100 := by omega
          have hn := lbF_yes hva hvb (by rw [← hk1]; omega)
          rw [← hk1] at hn
          have hq20 : (lbU a b k : List RecT) = lbF a b := hn.symm
          have hMn20 : Mem w w_l5 [] [[⟨.slice (A2) ((lbF a b).length) (c2), 34, 3, ((lbF a b).length), (lbF a b).flatMap encG⟩]] := hM_l5.relen 0 (n' := (lbF a b).length) (xs' := (lbF a b).flatMap encG) rfl (by first | rfl | exact congrArg List.length hq20 | (have hqq := congrArg List.length hq20; first | omega | (simp at hqq ⊢; omega)) | (simp; done) | (simp; omega)) (congrArg (fun z_ => (z_).flatMap encG) hq20) rfl
          exact ⟨A2, c2, (by rw [hn]), (hMn20.pick [0] (by decide) rfl)⟩
end Go.Proofs.Ytgflcaeibbnkcaa
