/- Own layer: part of this seat (DG). Plain theorems; no conditions. -/
import Derived.Test.YteljpjapacajoaaDF
set_option linter.unusedVariables false
set_option linter.unusedSimpArgs false
namespace Go.Proofs.Yteljpjapacajoaa
open Go.Px
theorem IndexInt_fn (A : Option Addr) (c : Nat) (l : List Int) (n : Int) (w : World) (hA : Rd w A ((l).map I)) (hl : l.length ≤ 1048576) :
    Does Try.prog 70 [.slice (A) ((l).length) (c), I (n)] w (fun v w1 => ∃ (k : Int), v = I (k) ∧ ((0 ≤ k) ↔ n ∈ l) ∧ Mem w w1 [] []) := by
  have hM : Mem w w [] [] := Mem.refl
  refine Does.enter1 Try.func70 rfl Try.results70 Try.ntmps70 rfl ?_
  refine C.seq ?_
  refine C.region ?_
  refine O.val (v := I (0)) rfl (Ru.assign rfl) rfl ?_
  refine O.nil ?_
  refine C.seq ?_
  refine C.seq ?_
  refine C.region ?_
  refine O.val (v := .slice (A) ((l).length) (c)) rfl (Ru.move rfl) rfl ?_
  refine O.val (v := I ((((l).length : Nat) : Int))) rfl (Ru.blenSlice Try.underlying26 rfl) rfl ?_
  refine O.val (v := I (0)) rfl (Ru.move rfl) rfl ?_
  refine O.nil ?_
  refine C.block ?_
  refine C.loop (ι := Nat) (fun t => ([(0, .slice (A) ((l).length) (c)), (1, I (n)), (7, I ((((l).length : Nat) : Int))), (8, I (((t : Nat) : Int)))] : List (Nat × Value))) (fun t w_ => (t ≤ l.length) ∧ (∀ x ∈ l.take t, x ≠ n) ∧ (Mem w w_ [] [])) (fun t => l.length - t) (0) (Has.cons rfl (Has.cons rfl (Has.cons rfl (Has.cons (I_congr (by first | rfl | omega | (simp; omega) | simp)) Has.nil)))) ⟨(Nat.zero_le _), (by (try dsimp only); simp), (hM.pick [] (by decide) rfl)⟩ (fun t σ w_l2 hI => ?_)
  try dsimp only at hI
  obtain ⟨hi0_l2, hi1_l2, hM_l2⟩ := hI
  refine C.seq ?_
  refine C.region ?_
  refine O.val (v := .bool (decide (((t : Nat) : Int) < (((l).length : Nat) : Int)))) rfl (Ru.lss rfl rfl) rfl ?_
  refine O.nil ?_
  refine C.seq ?_
  refine C.cond (p := ((t : Nat) : Int) < (((l).length : Nat) : Int)) rfl (fun c9 => ?_) (fun c9 => ?_)
  · refine C.skip ?_
    refine C.seq ?_
    refine C.block ?_
    refine C.seq ?_
    refine C.region ?_
    refine O.val (v := I (((t : Nat) : Int))) rfl (Ru.move rfl) rfl ?_
    refine O.val (v := I (((t : Nat) : Int))) rfl (Ru.assign rfl) rfl ?_
    refine O.nil ?_
    refine C.seq ?_
    refine C.region ?_
    refine O.val (v := I (n)) rfl (Ru.move rfl) rfl ?_
    refine O.val (v := .slice (A) ((l).length) (c)) rfl (Ru.move rfl) rfl ?_
    refine O.val (v := I (((t : Nat) : Int))) rfl (Ru.move rfl) rfl ?_
    have hx4_3 : t < (l).length := (by first | omega | (simp; omega))
    refine O.val (v := .pointer (ofs (A) (t * 1))) rfl (Ru.indexA (j := t) Try.underlying26 el3 rfl rfl (smm (hA.at hM_l2) hx4_3) (by omega) (by first | omega | (simp; omega))) rfl ?_
    refine O.val rfl (Ru.load1 el3 rfl (ldm (hA.at hM_l2) hx4_3)) rfl ?_
    refine O.val (v := .bool (decide (n = (l)[t]'hx4_3))) rfl (Ru.eql rfl rfl) rfl ?_
    refine O.nil ?_
    refine C.cond (p := n = (l)[t]'hx4_3) rfl (fun c16 => ?_) (fun c16 => ?_)
    · refine C.seq ?_
      refine C.region ?_
      refine O.val (v := I (((t : Nat) : Int))) rfl (Ru.move rfl) rfl ?_
      refine O.val (v := I (((t : Nat) : Int))) rfl (Ru.assign rfl) rfl ?_
      refine O.nil ?_
      refine C.ret ?_
      refine P1 (v := I (((t : Nat) : Int))) rfl ?_
      exact ⟨(t : Int), (by first | rfl | exact sl_congr (by first | omega | (simp; done) | (simp; omega)) | (simp; done)), ⟨fun _ => by rw [c16]; exact List.getElem_mem hx4_3, fun _ => by omega⟩, (Mem.none hM_l2)⟩
    · refine C.skip ?_
      refine C.region ?_
      refine O.val (v := I ((((t + 1) : Nat) : Int))) rfl (Ru.congr (v := I ((((t : Nat) : Int) + 1))) (v' := I ((((t + 1) : Nat) : Int))) (Ru.add rfl rfl (by omega)) (I_congr (by first | omega | simp))) rfl ?_
      refine O.val (v := I ((((t + 1) : Nat) : Int))) rfl (Ru.move rfl) rfl ?_
      refine O.nil ?_
      exact loopEnd (t + 1) (by (try dsimp only); omega) (Has.cons rfl (Has.cons rfl (Has.cons rfl (Has.cons (I_congr (by first | rfl | omega | (simp; omega) | simp)) Has.nil)))) ⟨(by (try dsimp only); omega), (mem_step hi1_l2 hx4_3 (by omega)), (hM_l2.pick [] (by decide) rfl)⟩
  · refine C.exit ?_
    refine C.seq ?_
    refine C.region ?_
    refine O.val (v := I ((-1))) rfl (Ru.assign rfl) rfl ?_
    refine O.nil ?_
    refine C.ret ?_
    refine P1 (v := I ((-1))) rfl ?_
    exact ⟨(-1), (by first | rfl | exact sl_congr (by first | omega | (simp; done) | (simp; omega)) | (simp; done)), ⟨fun h9 => absurd h9 (by omega), fun h9 => absurd h9 (of_decide_eq_false (mem_end hi1_l2 (by omega)))⟩, (Mem.none hM_l2)⟩

theorem ContainsInt_fn (A : Option Addr) (c : Nat) (l : List Int) (n : Int) (w : World) (hA : Rd w A ((l).map I)) (hl : l.length ≤ 1048576) :
    Does Try.prog 59 [.slice (A) ((l).length) (c), I (n)] w (fun v w1 => v = .bool (decide (n ∈ l)) ∧ Mem w w1 [] []) := by
  have hM : Mem w w [] [] := Mem.refl
  refine Does.enter1 Try.func59 rfl Try.results59 Try.ntmps59 rfl ?_
  refine C.seq ?_
  refine C.region ?_
  refine O.val (v := .bool (false)) rfl (Ru.assign rfl) rfl ?_
  refine O.nil ?_
  refine C.seq ?_
  refine C.region ?_
  refine O.val (v := .slice (A) ((l).length) (c)) rfl (Ru.move rfl) rfl ?_
  refine O.val (v := I (n)) rfl (Ru.move rfl) rfl ?_
  refine O.callg [.slice (A) ((l).length) (c), I (n)] rfl en70 rfl rfl (IndexInt_fn A c l n w (hA.at hM) (by first | omega | assumption | (simp; omega) | simp | (intros; omega))) ?_
  rintro _ w1_2 ⟨k1_2, rfl, hk1_2, hR1_2⟩
  have hM1_2 : Mem w w1_2 [] [] := Mem.call (Ma := []) hM hR1_2 rfl
  refine O.val (v := .bool (decide (k1_2 ≥ 0))) rfl (Ru.geq rfl rfl) rfl ?_
  refine O.val (v := .bool (decide (k1_2 ≥ 0))) rfl (Ru.assign rfl) rfl ?_
  refine O.nil ?_
  refine C.ret ?_
  refine P1 (v := .bool (decide (k1_2 ≥ 0))) rfl ?_
  exact ⟨(congrArg Value.bool (decide_eq_decide.2 hk1_2)), (Mem.none hM1_2)⟩

set_option maxHeartbeats 4000000 in
theorem PutLink_fn (A : Option Addr) (c : Nat) (l : List LnkL) (key : Int) (w : World) (hA : Rd w A ((l).flatMap encL)) (hNA : Nst w l) (hl : l.length ≤ 1048576) :
    Does Try.prog 39 [.slice (A) ((l).length) (c), I (key)] w (fun v w1 => ∃ (L1 : List LnkL) (A1 : Option Addr) (c1 : Nat), v = .tuple #[.slice (A1) ((L1).length) (c1), .bool ((putF (tsL l) key).isSome)] ∧ (tsL L1 = (putF (tsL l) key).getD []) ∧ Mem w w1 [] [[⟨.slice (A1) ((L1).length) (c1), 28, 3, ((L1).length), (L1).flatMap encL⟩], (L1).map (keyF 3)]) := by
  have hM : Mem w w [] [] := Mem.refl
  refine Does.enter2 Try.func39 rfl Try.results39 Try.ntmps39 rfl ?_
  refine C.seq ?_
  refine C.region ?_
  refine O.val (v := .slice (none) (0) (0)) rfl (Ru.assign rfl) rfl ?_
  refine O.val (v := .bool (false)) rfl (Ru.assign rfl) rfl ?_
  refine O.nil ?_
  refine C.seq ?_
  refine C.seq ?_
  refine C.region ?_
  refine O.val (v := .slice (A) ((l).length) (c)) rfl (Ru.move rfl) rfl ?_
  refine O.callg [.slice (A) ((l).length) (c)] rfl en18 rfl rfl (ValidChain_fn A c l w (hA.at hM) (hNA.at hM) (by first | omega | assumption | (simp; omega) | simp | (intros; omega))) ?_
  rintro _ w1_1 ⟨rfl, hR1_1⟩
  have hM1_1 : Mem w w1_1 [] [] := Mem.call (Ma := []) hM hR1_1 rfl
  refine O.val (v := .bool (!(validC (tsL l)))) rfl (Ru.not rfl) rfl ?_
  refine O.val (v := .bool (!(validC (tsL l)))) rfl (Ru.move rfl) rfl ?_
  refine O.part 15 (!(validC (tsL l))) rfl (fun g15 => ?_) (fun g15 => ?_)
  · refine O.pass rfl rfl rfl rfl rfl ?_
    refine O.pass rfl rfl rfl rfl rfl ?_
    refine O.pass rfl rfl rfl rfl rfl ?_
    refine O.val (v := .bool (true)) rfl (Ru.pickT rfl rfl) rfl ?_
    refine O.nil ?_
    refine C.condT rfl ?_
    refine C.seq ?_
    refine C.region ?_
    refine O.val (v := .slice (none) (0) (0)) rfl (Ru.assign rfl) rfl ?_
    refine O.val (v := .bool (false)) rfl (Ru.assign rfl) rfl ?_
    refine O.nil ?_
    refine C.ret ?_
    refine P2 (v := .slice (none) (0) (0)) (v' := .bool (false)) rfl rfl ?_
    have hn : putF (tsL l) key = none := by apply putF_bad; cases hx : validC (tsL l) with | false => exact .inl rfl | true => right; cases hy : isKeyB key with | false => rfl | true => (exfalso; have h9 := isKey_iff.1 hy; simp_all)
    have hMn1 : Mem w w1_1 [] [[⟨.slice (none) (0) (0), 28, 3, 0, ([]).flatMap encL⟩]] := Mem.addNil hM1_1
    have hq2 : ([] : List LnkL) = ([] : List LnkL) := (by first | rfl | simp | (simp; omega))
    have hMn2 : Mem w w1_1 [] [[⟨.slice (none) ((([] : List LnkL)).length) (0), 28, 3, ((([] : List LnkL)).length), (([] : List LnkL)).flatMap encL⟩]] := hMn1.relen 0 (n' := (([] : List LnkL)).length) (xs' := (([] : List LnkL)).flatMap encL) rfl (by first | rfl | exact congrArg List.length hq2 | (have hqq := congrArg List.length hq2; first | omega | (simp at hqq ⊢; omega)) | (simp; done) | (simp; omega)) (congrArg (fun z_ => (z_).flatMap encL) hq2) rfl
    have hMn3 : Mem w w1_1 [] [(([] : List LnkL)).map (keyF 3), [⟨.slice (none) ((([] : List LnkL)).length) (0), 28, 3, ((([] : List LnkL)).length), (([] : List LnkL)).flatMap encL⟩]] := Mem.knil hMn2
    exact ⟨([] : List LnkL), none, 0, (by rw [hn]; rfl), (by rw [hn]; rfl), (hMn3.pick [1, 0] (by decide) rfl)⟩
  · refine O.val (v := I (key)) rfl (Ru.move rfl) rfl ?_
    refine O.callg [I (key)] rfl en47 rfl rfl (isKey_fn key w1_1 ) ?_
    rintro _ w1_5 ⟨rfl, hR1_5⟩
    have hM1_5 : Mem w w1_5 [] [] := Mem.call (Ma := []) hM1_1 hR1_5 rfl
    refine O.val (v := .bool (!(isKeyB key))) rfl (Ru.not rfl) rfl ?_
    refine O.val (v := .bool (!(isKeyB key))) rfl (Ru.pickF rfl rfl) rfl ?_
    refine O.nil ?_
    refine C.condn (b := (isKeyB key)) rfl (fun c19 => ?_) (fun c19 => ?_)
    · refine C.seq ?_
      refine C.region ?_
      refine O.val (v := .slice (none) (0) (0)) rfl (Ru.assign rfl) rfl ?_
      refine O.val (v := .bool (false)) rfl (Ru.assign rfl) rfl ?_
      refine O.nil ?_
      refine C.ret ?_
      refine P2 (v := .slice (none) (0) (0)) (v' := .bool (false)) rfl rfl ?_
      have hn : putF (tsL l) key = none := by apply putF_bad; cases hx : validC (tsL l) with | false => exact .inl rfl | true => right; cases hy : isKeyB key with | false => rfl | true => (exfalso; have h9 := isKey_iff.1 hy; simp_all)
      have hMn5 : Mem w w1_5 [] [[⟨.slice (none) (0) (0), 28, 3, 0, ([]).flatMap encL⟩]] := Mem.addNil hM1_5
      have hq6 : ([] : List LnkL) = ([] : List LnkL) := (by first | rfl | simp | (simp; omega))
      have hMn6 : Mem w w1_5 [] [[⟨.slice (none) ((([] : List LnkL)).length) (0), 28, 3, ((([] : List LnkL)).length), (([] : List LnkL)).flatMap encL⟩]] := hMn5.relen 0 (n' := (([] : List LnkL)).length) (xs' := (([] : List LnkL)).flatMap encL) rfl (by first | rfl | exact congrArg List.length hq6 | (have hqq := congrArg List.length hq6; first | omega | (simp at hqq ⊢; omega)) | (simp; done) | (simp; omega)) (congrArg (fun z_ => (z_).flatMap encL) hq6) rfl
      have hMn7 : Mem w w1_5 [] [(([] : List LnkL)).map (keyF 3), [⟨.slice (none) ((([] : List LnkL)).length) (0), 28, 3, ((([] : List LnkL)).length), (([] : List LnkL)).flatMap encL⟩]] := Mem.knil hMn6
      exact ⟨([] : List LnkL), none, 0, (by rw [hn]; rfl), (by rw [hn]; rfl), (hMn7.pick [1, 0] (by decide) rfl)⟩
    · have hv : validC (tsL l) = true := by simp_all
      have hky : isKeyB key = true := by simp_all
      refine C.skip ?_
      refine C.seq ?_
      refine C.region ?_
      refine O.val (v := .slice (A) ((l).length) (c)) rfl (Ru.move rfl) rfl ?_
      refine O.callg [.slice (A) ((l).length) (c)] rfl en54 rfl rfl (copyChain_fn A c l w1_5 (hA.at hM1_5) (hNA.at hM1_5) (by first | omega | assumption | (simp; omega) | simp | (intros; omega)) (by exact valid_1m hv)) ?_
      rintro _ w3_1 ⟨L13_1, A13_1, c13_1, rfl, hts3_1, hR3_1⟩
      have hM3_1 : Mem w w3_1 [] [[⟨.slice (A13_1) ((L13_1).length) (c13_1), 28, 3, ((L13_1).length), (L13_1).flatMap encL⟩], (L13_1).map (keyF 3)] := Mem.call (Ma := []) hM1_5 hR3_1 rfl
      have hcr3_1_0 := (hM3_1.cap 0 rfl).1
      have hLl := ts_eq_len hts3_1
      have hvc : validC (tsL L13_1) = true := by rw [hts3_1]; exact hv
      have hf1 := put_at hvc hky
      have hgl : (L13_1[(findC (tsL L13_1) 0 key).toNat]'hf1.2).t = gL (tsL l) (findC (tsL l) 0 key).toNat := by rw [← gL_ts hf1.2, hts3_1]
      have hk5 := valid_all hvc _ (List.getElem_mem hf1.2)
      refine O.val (v := .slice (A13_1) ((L13_1).length) (c13_1)) rfl (Ru.assign rfl) rfl ?_
      refine O.nil ?_
      refine C.seq ?_
      refine C.region ?_
      refine O.val (v := .slice (A13_1) ((L13_1).length) (c13_1)) rfl (Ru.move rfl) rfl ?_
      refine O.val (v := I (key)) rfl (Ru.move rfl) rfl ?_
      refine O.callg [.slice (A13_1) ((L13_1).length) (c13_1), I (0), I (key)] rfl en21 rfl rfl (FindLink_fn A13_1 c13_1 L13_1 0 key w3_1 (hM3_1.rd 0 rfl) (Nst.mem hM3_1 1 rfl) (by first | omega | assumption | (simp; omega) | simp | (intros; omega))) ?_
      rintro _ w4_2 ⟨rfl, hR4_2⟩
      have hM4_2 : Mem w w4_2 [] [[⟨.slice (A13_1) ((L13_1).length) (c13_1), 28, 3, ((L13_1).length), (L13_1).flatMap encL⟩], (L13_1).map (keyF 3)] := Mem.call (Ma := []) hM3_1 hR4_2 rfl
      refine O.val (v := I (findC (tsL L13_1) 0 key)) rfl (Ru.assign rfl) rfl ?_
      refine O.nil ?_
      refine C.seq ?_
      refine C.seq ?_
      refine C.region ?_
      refine O.val (v := .slice (A13_1) ((L13_1).length) (c13_1)) rfl (Ru.move rfl) rfl ?_
      refine O.val (v := I (findC (tsL L13_1) 0 key)) rfl (Ru.move rfl) rfl ?_
      have hx5_2 : (findC (tsL L13_1) 0 key).toNat < (L13_1).length := (by first | exact hf1.2 | exact hfl)
      refine O.val (v := .pointer (ofs (A13_1) (((findC (tsL L13_1) 0 key).toNat) * 3))) rfl (Ru.indexA (j := (findC (tsL L13_1) 0 key).toNat) Try.underlying23 el28 rfl rfl (smf encL_len (hM4_2.rd 0 rfl) hx5_2 rfl) (by omega) (by first | omega | (simp; omega))) rfl ?_
      refine O.val (v := .pointer (ofs (A13_1) (((findC (tsL L13_1) 0 key).toNat) * 3 + 0))) rfl (Ru.fieldA fl28_0 rfl (smf encL_len (hM4_2.rd 0 rfl) hx5_2 rfl)) rfl ?_
      refine O.val rfl (Ru.load1 el26 rfl (ldf encL_len (hM4_2.rd 0 rfl) hx5_2 rfl)) rfl ?_
      refine O.val (v := I (key)) rfl (Ru.move rfl) rfl ?_
      refine O.callg [.slice (((L13_1)[(findC (tsL L13_1) 0 key).toNat]'hx5_2).A) ((((L13_1)[(findC (tsL L13_1) 0 key).toNat]'hx5_2).t.keys).length) (((L13_1)[(findC (tsL L13_1) 0 key).toNat]'hx5_2).cp), I (key)] rfl en59 (by first | rfl | (rw [show (((L13_1)[(findC (tsL L13_1) 0 key).toNat]'hx5_2).t.keys).length = ((L13_1)[(findC (tsL L13_1) 0 key).toNat]'hx5_2).t.keys.length from (by first | rfl | (simp; done) | omega | (simp; omega))]; rfl)) rfl (ContainsInt_fn (((L13_1)[(findC (tsL L13_1) 0 key).toNat]'hx5_2).A) (((L13_1)[(findC (tsL L13_1) 0 key).toNat]'hx5_2).cp) (((L13_1)[(findC (tsL L13_1) 0 key).toNat]'hx5_2).t.keys) key w4_2 ((Nst.mem hM4_2 1 rfl).get hx5_2) (by omega)) ?_
      rintro _ w5_6 ⟨rfl, hR5_6⟩
      have hM5_6 : Mem w w5_6 [] [[⟨.slice (A13_1) ((L13_1).length) (c13_1), 28, 3, ((L13_1).length), (L13_1).flatMap encL⟩], (L13_1).map (keyF 3)] := Mem.call (Ma := []) hM4_2 hR5_6 rfl
      refine O.nil ?_
      refine C.condb (t := decide (key ∈ (((L13_1)[(findC (tsL L13_1) 0 key).toNat]'hx5_2).t.keys))) rfl (fun c31 => ?_) (fun c31 => ?_)
      · have hin : key ∈ (L13_1[(findC (tsL L13_1) 0 key).toNat]'hf1.2).t.keys := by simpa using c31
        refine C.seq ?_
        refine C.region ?_
        refine O.val (v := .slice (A13_1) ((L13_1).length) (c13_1)) rfl (Ru.move rfl) rfl ?_
        refine O.val (v := .slice (A13_1) ((L13_1).length) (c13_1)) rfl (Ru.assign rfl) rfl ?_
        refine O.val (v := .bool (true)) rfl (Ru.assign rfl) rfl ?_
        refine O.nil ?_
        refine C.ret ?_
        refine P2 (v := .slice (A13_1) ((L13_1).length) (c13_1)) (v' := .bool (true)) rfl rfl ?_
        have hn := putF_same hv hky (by rw [← hgl]; exact hin)
        exact ⟨L13_1, A13_1, c13_1, (by rw [hn]; rfl), (by rw [hn]; exact hts3_1), (hM5_6.pick [0, 1] (by decide) rfl)⟩
      · have hni : key ∉ (L13_1[(findC (tsL L13_1) 0 key).toNat]'hf1.2).t.keys := by simpa using c31
        refine C.skip ?_
        refine C.seq ?_
        refine C.seq ?_
        refine C.region ?_
        refine O.val (v := .slice (A13_1) ((L13_1).length) (c13_1)) rfl (Ru.move rfl) rfl ?_
        refine O.val (v := I (findC (tsL L13_1) 0 key)) rfl (Ru.move rfl) rfl ?_
        have hx7_2 : (findC (tsL L13_1) 0 key).toNat < (L13_1).length := (by first | exact hf1.2 | exact hfl)
        refine O.val (v := .pointer (ofs (A13_1) (((findC (tsL L13_1) 0 key).toNat) * 3))) rfl (Ru.indexA (j := (findC (tsL L13_1) 0 key).toNat) Try.underlying23 el28 rfl rfl (smf encL_len (hM5_6.rd 0 rfl) hx7_2 rfl) (by omega) (by first | omega | (simp; omega))) rfl ?_
        refine O.val (v := .pointer (ofs (A13_1) (((findC (tsL L13_1) 0 key).toNat) * 3 + 0))) rfl (Ru.fieldA fl28_0 rfl (smf encL_len (hM5_6.rd 0 rfl) hx7_2 rfl)) rfl ?_
        refine O.val rfl (Ru.load1 el26 rfl (ldf encL_len (hM5_6.rd 0 rfl) hx7_2 rfl)) rfl ?_
        refine O.val (v := I (((((L13_1)[(findC (tsL L13_1) 0 key).toNat]'hx7_2).t.keys.length : Nat) : Int))) rfl (Ru.blenSlice Try.underlying26 rfl) rfl ?_
        refine O.val (v := .bool (decide (((((L13_1)[(findC (tsL L13_1) 0 key).toNat]'hx7_2).t.keys.length : Nat) : Int) = 4))) rfl (Ru.eql rfl rfl) rfl ?_
        refine O.nil ?_
        refine C.cond (p := ((((L13_1)[(findC (tsL L13_1) 0 key).toNat]'hx7_2).t.keys.length : Nat) : Int) = 4) rfl (fun c39 => ?_) (fun c39 => ?_)
        · refine C.seq ?_
          refine C.region ?_
          refine O.val (v := .slice (A13_1) ((L13_1).length) (c13_1)) rfl (Ru.move rfl) rfl ?_
          refine O.val (v := I (findC (tsL L13_1) 0 key)) rfl (Ru.move rfl) rfl ?_
          have hcp8 := Mem.ncap hM5_6 1 rfl
          refine O.callg [.slice (A13_1) ((L13_1).length) (c13_1), I (findC (tsL L13_1) 0 key)] rfl en32 rfl rfl (SplitLink_fn A13_1 c13_1 L13_1 (findC (tsL L13_1) 0 key) w5_6 (hM5_6.rd 0 rfl) (Nst.mem hM5_6 1 rfl) (by omega) (by exact hcp8)) ?_
          rintro _ w8_2 ⟨L18_2, A18_2, c18_2, rfl, hts8_2, hR8_2⟩
          have hM8_2 : Mem w w8_2 [] [[⟨.slice (A18_2) ((L18_2).length) (c18_2), 28, 3, ((L18_2).length), (L18_2).flatMap encL⟩], (L18_2).map (keyF 3), [⟨.slice (A13_1) ((L13_1).length) (c13_1), 28, 3, ((L13_1).length), (L13_1).flatMap encL⟩], (L13_1).map (keyF 3)] := Mem.call (Ma := []) hM5_6 hR8_2 rfl
          have hcr8_2_0 := (hM8_2.cap 0 rfl).1
          refine O.val (v := .tuple #[.slice (A18_2) ((L18_2).length) (c18_2), .bool ((splitF (tsL L13_1) (findC (tsL L13_1) 0 key)).isSome)]) rfl (Ru.move rfl) rfl ?_
          refine O.val (v := .slice (A18_2) ((L18_2).length) (c18_2)) rfl (Ru.extract rfl rfl) rfl ?_
          refine O.val (v := .bool ((splitF (tsL L13_1) (findC (tsL L13_1) 0 key)).isSome)) rfl (Ru.extract rfl rfl) rfl ?_
          refine O.val (v := .slice (A18_2) ((L18_2).length) (c18_2)) rfl (Ru.assign rfl) rfl ?_
          refine O.val (v := .bool ((splitF (tsL L13_1) (findC (tsL L13_1) 0 key)).isSome)) rfl (Ru.assign rfl) rfl ?_
          refine O.nil ?_
          refine C.seq ?_
          refine C.seq ?_
          have h44 : (gL (tsL l) (findC (tsL l) 0 key).toNat).keys.length = 4 := by rw [← hgl]; omega
          have hni2 : key ∉ (gL (tsL l) (findC (tsL l) 0 key).toNat).keys := by rw [← hgl]; exact hni
          refine C.region ?_
          refine O.val (v := .bool ((splitF (tsL L13_1) (findC (tsL L13_1) 0 key)).isSome)) rfl (Ru.move rfl) rfl ?_
          refine O.val (v := .bool (!((splitF (tsL L13_1) (findC (tsL L13_1) 0 key)).isSome))) rfl (Ru.not rfl) rfl ?_
          refine O.nil ?_
          refine C.condn (b := ((splitF (tsL L13_1) (findC (tsL L13_1) 0 key)).isSome)) rfl (fun c47 => ?_) (fun c47 => ?_)
          · have hn : putF (tsL l) key = none := put_nosplit hts3_1 hv hky hni2 h44 (by simpa using c47)
            refine C.seq ?_
            refine C.region ?_
            refine O.val (v := .slice (none) (0) (0)) rfl (Ru.assign rfl) rfl ?_
            refine O.val (v := .bool (false)) rfl (Ru.assign rfl) rfl ?_
            refine O.nil ?_
            refine C.ret ?_
            refine P2 (v := .slice (none) (0) (0)) (v' := .bool (false)) rfl rfl ?_
            have hMn10 : Mem w w8_2 [] [[⟨.slice (none) (0) (0), 28, 3, 0, ([]).flatMap encL⟩], [⟨.slice (A18_2) ((L18_2).length) (c18_2), 28, 3, ((L18_2).length), (L18_2).flatMap encL⟩], (L18_2).map (keyF 3), [⟨.slice (A13_1) ((L13_1).length) (c13_1), 28, 3, ((L13_1).length), (L13_1).flatMap encL⟩], (L13_1).map (keyF 3)] := Mem.addNil hM8_2
            have hq11 : ([] : List LnkL) = ([] : List LnkL) := (by first | rfl | simp | (simp; omega))
            have hMn11 : Mem w w8_2 [] [[⟨.slice (none) ((([] : List LnkL)).length) (0), 28, 3, ((([] : List LnkL)).length), (([] : List LnkL)).flatMap encL⟩], [⟨.slice (A18_2) ((L18_2).length) (c18_2), 28, 3, ((L18_2).length), (L18_2).flatMap encL⟩], (L18_2).map (keyF 3), [⟨.slice (A13_1) ((L13_1).length) (c13_1), 28, 3, ((L13_1).length), (L13_1).flatMap encL⟩], (L13_1).map (keyF 3)] := hMn10.relen 0 (n' := (([] : List LnkL)).length) (xs' := (([] : List LnkL)).flatMap encL) rfl (by first | rfl | exact congrArg List.length hq11 | (have hqq := congrArg List.length hq11; first | omega | (simp at hqq ⊢; omega)) | (simp; done) | (simp; omega)) (congrArg (fun z_ => (z_).flatMap encL) hq11) rfl
            have hMn12 : Mem w w8_2 [] [(([] : List LnkL)).map (keyF 3), [⟨.slice (none) ((([] : List LnkL)).length) (0), 28, 3, ((([] : List LnkL)).length), (([] : List LnkL)).flatMap encL⟩], [⟨.slice (A18_2) ((L18_2).length) (c18_2), 28, 3, ((L18_2).length), (L18_2).flatMap encL⟩], (L18_2).map (keyF 3), [⟨.slice (A13_1) ((L13_1).length) (c13_1), 28, 3, ((L13_1).length), (L13_1).flatMap encL⟩], (L13_1).map (keyF 3)] := Mem.knil hMn11
            exact ⟨([] : List LnkL), none, 0, (by rw [hn]; rfl), (by rw [hn]; rfl), (hMn12.pick [1, 0] (by decide) rfl)⟩
          · have hps := put_split hts3_1 hv hky hni2 h44 hts8_2 (by simpa using c47)
            have hL8 := (put_at hps.1 hky)
            refine C.skip ?_
            refine C.seq ?_
            refine C.region ?_
            refine O.val (v := .slice (A18_2) ((L18_2).length) (c18_2)) rfl (Ru.move rfl) rfl ?_
            refine O.val (v := .slice (A18_2) ((L18_2).length) (c18_2)) rfl (Ru.assign rfl) rfl ?_
            refine O.nil ?_
            refine C.region ?_
            refine O.val (v := .slice (A18_2) ((L18_2).length) (c18_2)) rfl (Ru.move rfl) rfl ?_
            refine O.val (v := I (key)) rfl (Ru.move rfl) rfl ?_
            refine O.callg [.slice (A18_2) ((L18_2).length) (c18_2), I (0), I (key)] rfl en21 rfl rfl (FindLink_fn A18_2 c18_2 L18_2 0 key w8_2 (hM8_2.rd 0 rfl) (Nst.mem hM8_2 1 rfl) (by have := splF_len (l := tsL L13_1) (at_ := findC (tsL L13_1) 0 key); have h8 := congrArg List.length hts8_2; simp at h8 this; omega)) ?_
            rintro _ w12_2 ⟨rfl, hR12_2⟩
            have hM12_2 : Mem w w12_2 [] [[⟨.slice (A18_2) ((L18_2).length) (c18_2), 28, 3, ((L18_2).length), (L18_2).flatMap encL⟩], (L18_2).map (keyF 3), [⟨.slice (A13_1) ((L13_1).length) (c13_1), 28, 3, ((L13_1).length), (L13_1).flatMap encL⟩], (L13_1).map (keyF 3)] := Mem.call (Ma := []) hM8_2 hR12_2 rfl
            refine O.val (v := I (findC (tsL L18_2) 0 key)) rfl (Ru.assign rfl) rfl ?_
            refine O.nil ?_
            refine C.seq ?_
            have hvL := hps.1
            have hfl := (put_at hps.1 hky).2
            have hfl2 := (put_at hps.1 hky).1
            have hnk := hps.2.1 hfl
            have hpf := hps.2.2.1
            have hk13 := valid_all hvL _ (List.getElem_mem hfl)
            have hins := ins_yes hk13.2 hky hnk
            refine C.region ?_
            refine O.val (v := .slice (A18_2) ((L18_2).length) (c18_2)) rfl (Ru.move rfl) rfl ?_
            refine O.val (v := I (findC (tsL L18_2) 0 key)) rfl (Ru.move rfl) rfl ?_
            have hx13_2 : (findC (tsL L18_2) 0 key).toNat < (L18_2).length := hfl
            refine O.val (v := .pointer (ofs (A18_2) (((findC (tsL L18_2) 0 key).toNat) * 3))) rfl (Ru.indexA (j := (findC (tsL L18_2) 0 key).toNat) Try.underlying23 el28 rfl rfl (smf encL_len (hM12_2.rd 0 rfl) hx13_2 rfl) (by omega) (by first | omega | (simp; omega))) rfl ?_
            refine O.val (v := .pointer (ofs (A18_2) (((findC (tsL L18_2) 0 key).toNat) * 3 + 0))) rfl (Ru.fieldA fl28_0 rfl (smf encL_len (hM12_2.rd 0 rfl) hx13_2 rfl)) rfl ?_
            refine O.val rfl (Ru.load1 el26 rfl (ldf encL_len (hM12_2.rd 0 rfl) hx13_2 rfl)) rfl ?_
            refine O.val (v := I (key)) rfl (Ru.move rfl) rfl ?_
            refine O.callg [.slice (((L18_2)[(findC (tsL L18_2) 0 key).toNat]'hx13_2).A) ((((L18_2)[(findC (tsL L18_2) 0 key).toNat]'hx13_2).t.keys).length) (((L18_2)[(findC (tsL L18_2) 0 key).toNat]'hx13_2).cp), I (key)] rfl en41 (by first | rfl | (rw [show (((L18_2)[(findC (tsL L18_2) 0 key).toNat]'hx13_2).t.keys).length = ((L18_2)[(findC (tsL L18_2) 0 key).toNat]'hx13_2).t.keys.length from (by first | rfl | (simp; done) | omega | (simp; omega))]; rfl)) rfl (InsertKey_fn (((L18_2)[(findC (tsL L18_2) 0 key).toNat]'hx13_2).A) (((L18_2)[(findC (tsL L18_2) 0 key).toNat]'hx13_2).cp) (((L18_2)[(findC (tsL L18_2) 0 key).toNat]'hx13_2).t.keys) key w12_2 ((Nst.mem hM12_2 1 rfl).get hx13_2) (by omega)) ?_
            rintro _ w13_6 ⟨A113_6, c113_6, rfl, hR13_6⟩
            have hM13_6 : Mem w w13_6 [] [[⟨.slice (A113_6) (((insF (((L18_2)[(findC (tsL L18_2) 0 key).toNat]'hx13_2).t.keys) key).getD []).length) (c113_6), 3, 1, (((insF (((L18_2)[(findC (tsL L18_2) 0 key).toNat]'hx13_2).t.keys) key).getD []).length), ((insF (((L18_2)[(findC (tsL L18_2) 0 key).toNat]'hx13_2).t.keys) key).getD []).map I⟩], [⟨.slice (A18_2) ((L18_2).length) (c18_2), 28, 3, ((L18_2).length), (L18_2).flatMap encL⟩], (L18_2).map (keyF 3), [⟨.slice (A13_1) ((L13_1).length) (c13_1), 28, 3, ((L13_1).length), (L13_1).flatMap encL⟩], (L13_1).map (keyF 3)] := Mem.call (Ma := []) hM12_2 hR13_6 rfl
            have hcr13_6_0 := (hM13_6.cap 0 rfl).1
            refine O.val (v := .tuple #[.slice (A113_6) (((insF (((L18_2)[(findC (tsL L18_2) 0 key).toNat]'hx13_2).t.keys) key).getD []).length) (c113_6), .bool ((insF (((L18_2)[(findC (tsL L18_2) 0 key).toNat]'hx13_2).t.keys) key).isSome)]) rfl (Ru.move rfl) rfl ?_
            refine O.val (v := .slice (A113_6) (((insF (((L18_2)[(findC (tsL L18_2) 0 key).toNat]'hx13_2).t.keys) key).getD []).length) (c113_6)) rfl (Ru.extract rfl rfl) rfl ?_
            refine O.val (v := .bool ((insF (((L18_2)[(findC (tsL L18_2) 0 key).toNat]'hx13_2).t.keys) key).isSome)) rfl (Ru.extract rfl rfl) rfl ?_
            refine O.val (v := .slice (A113_6) (((insF (((L18_2)[(findC (tsL L18_2) 0 key).toNat]'hx13_2).t.keys) key).getD []).length) (c113_6)) rfl (Ru.assign rfl) rfl ?_
            refine O.val (v := .bool ((insF (((L18_2)[(findC (tsL L18_2) 0 key).toNat]'hx13_2).t.keys) key).isSome)) rfl (Ru.assign rfl) rfl ?_
            refine O.nil ?_
            refine C.seq ?_
            refine C.seq ?_
            refine C.region ?_
            refine O.val (v := .bool ((insF (((L18_2)[(findC (tsL L18_2) 0 key).toNat]'hx13_2).t.keys) key).isSome)) rfl (Ru.move rfl) rfl ?_
            refine O.val (v := .bool (!((insF (((L18_2)[(findC (tsL L18_2) 0 key).toNat]'hx13_2).t.keys) key).isSome))) rfl (Ru.not rfl) rfl ?_
            refine O.nil ?_
            refine C.condn (b := ((insF (((L18_2)[(findC (tsL L18_2) 0 key).toNat]'hx13_2).t.keys) key).isSome)) rfl (fun c63 => ?_) (fun c63 => ?_)
            · exfalso; rw [hins] at c63; simp at c63
            · refine C.skip ?_
              refine C.seq ?_
              refine C.region ?_
              refine O.val (v := .slice (A18_2) ((L18_2).length) (c18_2)) rfl (Ru.move rfl) rfl ?_
              refine O.val (v := I (findC (tsL L18_2) 0 key)) rfl (Ru.move rfl) rfl ?_
              refine O.val (v := .slice (A113_6) (((insF (((L18_2)[(findC (tsL L18_2) 0 key).toNat]'hx13_2).t.keys) key).getD []).length) (c113_6)) rfl (Ru.move rfl) rfl ?_
              have hx16_3 : (findC (tsL L18_2) 0 key).toNat < (L18_2).length := hfl
              refine O.val (v := .pointer (ofs (A18_2) (((findC (tsL L18_2) 0 key).toNat) * 3))) rfl (Ru.indexA (j := (findC (tsL L18_2) 0 key).toNat) Try.underlying23 el28 rfl rfl (smf encL_len (hM13_6.rd 1 rfl) hx16_3 rfl) (by omega) (by first | omega | (simp; omega))) rfl ?_
              refine O.val (v := .pointer (ofs (A18_2) (((findC (tsL L18_2) 0 key).toNat) * 3 + 0))) rfl (Ru.fieldA fl28_0 rfl (smf encL_len (hM13_6.rd 1 rfl) hx16_3 rfl)) rfl ?_
              refine O.mstore (vs := [.slice (A113_6) (((insF (((L18_2)[(findC (tsL L18_2) 0 key).toNat]'hx13_2).t.keys) key).getD []).length) (c113_6)]) (xs' := ((L18_2).set ((findC (tsL L18_2) 0 key).toNat) (⟨A113_6, c113_6, ⟨(insF (((L18_2)[(findC (tsL L18_2) 0 key).toNat]'hx13_2).t.keys) key).getD [], ((L18_2)[(findC (tsL L18_2) 0 key).toNat]'hx16_3).t.high, ((L18_2)[(findC (tsL L18_2) 0 key).toNat]'hx16_3).t.right⟩⟩ : LnkL)).flatMap encL) 1 0 hM13_6 rfl rfl rfl el26 rfl rfl rfl rfl rfl (by rw [flat_len encL_len]; simp; omega) (by simp) (spl_part encL_len (l := L18_2) (a := (⟨A113_6, c113_6, ⟨(insF (((L18_2)[(findC (tsL L18_2) 0 key).toNat]'hx13_2).t.keys) key).getD [], ((L18_2)[(findC (tsL L18_2) 0 key).toNat]'hx16_3).t.high, ((L18_2)[(findC (tsL L18_2) 0 key).toNat]'hx16_3).t.right⟩⟩ : LnkL)) hx16_3 (by simp) rfl) rfl (fun w16_5 (hM16_5 : Mem w w16_5 [] [[⟨.slice (A113_6) (((insF (((L18_2)[(findC (tsL L18_2) 0 key).toNat]'hx13_2).t.keys) key).getD []).length) (c113_6), 3, 1, (((insF (((L18_2)[(findC (tsL L18_2) 0 key).toNat]'hx13_2).t.keys) key).getD []).length), ((insF (((L18_2)[(findC (tsL L18_2) 0 key).toNat]'hx13_2).t.keys) key).getD []).map I⟩], [⟨.slice (A18_2) ((L18_2).length) (c18_2), 28, 3, ((L18_2).length), ((L18_2).set ((findC (tsL L18_2) 0 key).toNat) (⟨A113_6, c113_6, ⟨(insF (((L18_2)[(findC (tsL L18_2) 0 key).toNat]'hx13_2).t.keys) key).getD [], ((L18_2)[(findC (tsL L18_2) 0 key).toNat]'hx16_3).t.high, ((L18_2)[(findC (tsL L18_2) 0 key).toNat]'hx16_3).t.right⟩⟩ : LnkL)).flatMap encL⟩], (L18_2).map (keyF 3), [⟨.slice (A13_1) ((L13_1).length) (c13_1), 28, 3, ((L13_1).length), (L13_1).flatMap encL⟩], (L13_1).map (keyF 3)]) => ?_)
              refine O.nil ?_
              have hMk14 : Mem w w16_5 [] [((L18_2).set ((findC (tsL L18_2) 0 key).toNat) (⟨A113_6, c113_6, ⟨(insF (((L18_2)[(findC (tsL L18_2) 0 key).toNat]'hx13_2).t.keys) key).getD [], ((L18_2)[(findC (tsL L18_2) 0 key).toNat]'hx16_3).t.high, ((L18_2)[(findC (tsL L18_2) 0 key).toNat]'hx16_3).t.right⟩⟩ : LnkL)).map (keyF 3), [⟨.slice (A18_2) ((L18_2).length) (c18_2), 28, 3, ((L18_2).length), ((L18_2).set ((findC (tsL L18_2) 0 key).toNat) (⟨A113_6, c113_6, ⟨(insF (((L18_2)[(findC (tsL L18_2) 0 key).toNat]'hx13_2).t.keys) key).getD [], ((L18_2)[(findC (tsL L18_2) 0 key).toNat]'hx16_3).t.high, ((L18_2)[(findC (tsL L18_2) 0 key).toNat]'hx16_3).t.right⟩⟩ : LnkL)).flatMap encL⟩], [⟨.slice (A13_1) ((L13_1).length) (c13_1), 28, 3, ((L13_1).length), (L13_1).flatMap encL⟩], (L13_1).map (keyF 3)] := Mem.kset (l := L18_2) (x := (⟨A113_6, c113_6, ⟨(insF (((L18_2)[(findC (tsL L18_2) 0 key).toNat]'hx13_2).t.keys) key).getD [], ((L18_2)[(findC (tsL L18_2) 0 key).toNat]'hx16_3).t.high, ((L18_2)[(findC (tsL L18_2) 0 key).toNat]'hx16_3).t.right⟩⟩ : LnkL)) (M := [[⟨.slice (A18_2) ((L18_2).length) (c18_2), 28, 3, ((L18_2).length), ((L18_2).set ((findC (tsL L18_2) 0 key).toNat) (⟨A113_6, c113_6, ⟨(insF (((L18_2)[(findC (tsL L18_2) 0 key).toNat]'hx13_2).t.keys) key).getD [], ((L18_2)[(findC (tsL L18_2) 0 key).toNat]'hx16_3).t.high, ((L18_2)[(findC (tsL L18_2) 0 key).toNat]'hx16_3).t.right⟩⟩ : LnkL)).flatMap encL⟩], [⟨.slice (A13_1) ((L13_1).length) (c13_1), 28, 3, ((L13_1).length), (L13_1).flatMap encL⟩], (L13_1).map (keyF 3)]) (hM16_5.pick [2, 0, 1, 3, 4] (by decide) rfl) ((findC (tsL L18_2) 0 key).toNat)
              refine C.seq ?_
              refine C.region ?_
              refine O.val (v := .slice (A18_2) ((L18_2).length) (c18_2)) rfl (Ru.move rfl) rfl ?_
              refine O.val (v := .slice (A18_2) ((L18_2).length) (c18_2)) rfl (Ru.assign rfl) rfl ?_
              refine O.val (v := .bool (true)) rfl (Ru.assign rfl) rfl ?_
              refine O.nil ?_
              refine C.ret ?_
              refine P2 (v := .slice (A18_2) ((L18_2).length) (c18_2)) (v' := .bool (true)) rfl rfl ?_
              have hq15 : ((L18_2).set ((findC (tsL L18_2) 0 key).toNat) (⟨A113_6, c113_6, ⟨(insF (((L18_2)[(findC (tsL L18_2) 0 key).toNat]'hx13_2).t.keys) key).getD [], ((L18_2)[(findC (tsL L18_2) 0 key).toNat]'hx16_3).t.high, ((L18_2)[(findC (tsL L18_2) 0 key).toNat]'hx16_3).t.right⟩⟩ : LnkL) : List LnkL) = ((L18_2).set ((findC (tsL L18_2) 0 key).toNat) (⟨A113_6, c113_6, ⟨(insF (((L18_2)[(findC (tsL L18_2) 0 key).toNat]'hx13_2).t.keys) key).getD [], ((L18_2)[(findC (tsL L18_2) 0 key).toNat]'hx16_3).t.high, ((L18_2)[(findC (tsL L18_2) 0 key).toNat]'hx16_3).t.right⟩⟩ : LnkL)) := (by first | rfl | simp | (simp; omega))
              have hMn15 : Mem w w16_5 [] [((L18_2).set ((findC (tsL L18_2) 0 key).toNat) (⟨A113_6, c113_6, ⟨(insF (((L18_2)[(findC (tsL L18_2) 0 key).toNat]'hx13_2).t.keys) key).getD [], ((L18_2)[(findC (tsL L18_2) 0 key).toNat]'hx16_3).t.high, ((L18_2)[(findC (tsL L18_2) 0 key).toNat]'hx16_3).t.right⟩⟩ : LnkL)).map (keyF 3), [⟨.slice (A18_2) (((L18_2).set ((findC (tsL L18_2) 0 key).toNat) (⟨A113_6, c113_6, ⟨(insF (((L18_2)[(findC (tsL L18_2) 0 key).toNat]'hx13_2).t.keys) key).getD [], ((L18_2)[(findC (tsL L18_2) 0 key).toNat]'hx16_3).t.high, ((L18_2)[(findC (tsL L18_2) 0 key).toNat]'hx16_3).t.right⟩⟩ : LnkL)).length) (c18_2), 28, 3, (((L18_2).set ((findC (tsL L18_2) 0 key).toNat) (⟨A113_6, c113_6, ⟨(insF (((L18_2)[(findC (tsL L18_2) 0 key).toNat]'hx13_2).t.keys) key).getD [], ((L18_2)[(findC (tsL L18_2) 0 key).toNat]'hx16_3).t.high, ((L18_2)[(findC (tsL L18_2) 0 key).toNat]'hx16_3).t.right⟩⟩ : LnkL)).length), (((L18_2).set ((findC (tsL L18_2) 0 key).toNat) (⟨A113_6, c113_6, ⟨(insF (((L18_2)[(findC (tsL L18_2) 0 key).toNat]'hx13_2).t.keys) key).getD [], ((L18_2)[(findC (tsL L18_2) 0 key).toNat]'hx16_3).t.high, ((L18_2)[(findC (tsL L18_2) 0 key).toNat]'hx16_3).t.right⟩⟩ : LnkL))).flatMap encL⟩], [⟨.slice (A13_1) ((L13_1).length) (c13_1), 28, 3, ((L13_1).length), (L13_1).flatMap encL⟩], (L13_1).map (keyF 3)] := hMk14.relen 1 (n' := ((L18_2).set ((findC (tsL L18_2) 0 key).toNat) (⟨A113_6, c113_6, ⟨(insF (((L18_2)[(findC (tsL L18_2) 0 key).toNat]'hx13_2).t.keys) key).getD [], ((L18_2)[(findC (tsL L18_2) 0 key).toNat]'hx16_3).t.high, ((L18_2)[(findC (tsL L18_2) 0 key).toNat]'hx16_3).t.right⟩⟩ : LnkL)).length) (xs' := (((L18_2).set ((findC (tsL L18_2) 0 key).toNat) (⟨A113_6, c113_6, ⟨(insF (((L18_2)[(findC (tsL L18_2) 0 key).toNat]'hx13_2).t.keys) key).getD [], ((L18_2)[(findC (tsL L18_2) 0 key).toNat]'hx16_3).t.high, ((L18_2)[(findC (tsL L18_2) 0 key).toNat]'hx16_3).t.right⟩⟩ : LnkL))).flatMap encL) rfl (by first | rfl | exact congrArg List.length hq15 | (have hqq := congrArg List.length hq15; first | omega | (simp at hqq ⊢; omega)) | (simp; done) | (simp; omega)) (congrArg (fun z_ => (z_).flatMap encL) hq15) rfl
              exact ⟨(L18_2).set ((findC (tsL L18_2) 0 key).toNat) (⟨A113_6, c113_6, ⟨(insF (((L18_2)[(findC (tsL L18_2) 0 key).toNat]'hx13_2).t.keys) key).getD [], ((L18_2)[(findC (tsL L18_2) 0 key).toNat]'hx16_3).t.high, ((L18_2)[(findC (tsL L18_2) 0 key).toNat]'hx16_3).t.right⟩⟩ : LnkL), A18_2, c18_2, (by rw [hpf]; first | rfl | simp), (by rw [hpf, Option.getD_some]; exact put_ts hfl (by rw [hins]; rfl)), (hMn15.pick [1, 0] (by decide) rfl)⟩
        · refine C.skip ?_
          refine C.seq ?_
          have hvL : validC (tsL L13_1) = true := by rw [hts3_1]; exact hv
          have hfl := hf1.2
          have hnk := hni
          have hpf : putF (tsL l) key = some (putAt (tsL L13_1) (findC (tsL L13_1) 0 key).toNat key) := by rw [hts3_1]; exact putF_here hv hky (by rw [← hgl]; exact hni) (by rw [← hgl]; first | omega | (intro h9; simp at *; omega))
          have hk13 := valid_all hvL _ (List.getElem_mem hfl)
          have hins := ins_yes hk13.2 hky hnk
          refine C.region ?_
          refine O.val (v := .slice (A13_1) ((L13_1).length) (c13_1)) rfl (Ru.move rfl) rfl ?_
          refine O.val (v := I (findC (tsL L13_1) 0 key)) rfl (Ru.move rfl) rfl ?_
          have hx13_2 : (findC (tsL L13_1) 0 key).toNat < (L13_1).length := hfl
          refine O.val (v := .pointer (ofs (A13_1) (((findC (tsL L13_1) 0 key).toNat) * 3))) rfl (Ru.indexA (j := (findC (tsL L13_1) 0 key).toNat) Try.underlying23 el28 rfl rfl (smf encL_len (hM5_6.rd 0 rfl) hx13_2 rfl) (by omega) (by first | omega | (simp; omega))) rfl ?_
          refine O.val (v := .pointer (ofs (A13_1) (((findC (tsL L13_1) 0 key).toNat) * 3 + 0))) rfl (Ru.fieldA fl28_0 rfl (smf encL_len (hM5_6.rd 0 rfl) hx13_2 rfl)) rfl ?_
          refine O.val rfl (Ru.load1 el26 rfl (ldf encL_len (hM5_6.rd 0 rfl) hx13_2 rfl)) rfl ?_
          refine O.val (v := I (key)) rfl (Ru.move rfl) rfl ?_
          refine O.callg [.slice (((L13_1)[(findC (tsL L13_1) 0 key).toNat]'hx13_2).A) ((((L13_1)[(findC (tsL L13_1) 0 key).toNat]'hx13_2).t.keys).length) (((L13_1)[(findC (tsL L13_1) 0 key).toNat]'hx13_2).cp), I (key)] rfl en41 (by first | rfl | (rw [show (((L13_1)[(findC (tsL L13_1) 0 key).toNat]'hx13_2).t.keys).length = ((L13_1)[(findC (tsL L13_1) 0 key).toNat]'hx13_2).t.keys.length from (by first | rfl | (simp; done) | omega | (simp; omega))]; rfl)) rfl (InsertKey_fn (((L13_1)[(findC (tsL L13_1) 0 key).toNat]'hx13_2).A) (((L13_1)[(findC (tsL L13_1) 0 key).toNat]'hx13_2).cp) (((L13_1)[(findC (tsL L13_1) 0 key).toNat]'hx13_2).t.keys) key w5_6 ((Nst.mem hM5_6 1 rfl).get hx13_2) (by omega)) ?_
          rintro _ w13_6 ⟨A113_6, c113_6, rfl, hR13_6⟩
          have hM13_6 : Mem w w13_6 [] [[⟨.slice (A113_6) (((insF (((L13_1)[(findC (tsL L13_1) 0 key).toNat]'hx13_2).t.keys) key).getD []).length) (c113_6), 3, 1, (((insF (((L13_1)[(findC (tsL L13_1) 0 key).toNat]'hx13_2).t.keys) key).getD []).length), ((insF (((L13_1)[(findC (tsL L13_1) 0 key).toNat]'hx13_2).t.keys) key).getD []).map I⟩], [⟨.slice (A13_1) ((L13_1).length) (c13_1), 28, 3, ((L13_1).length), (L13_1).flatMap encL⟩], (L13_1).map (keyF 3)] := Mem.call (Ma := []) hM5_6 hR13_6 rfl
          have hcr13_6_0 := (hM13_6.cap 0 rfl).1
          refine O.val (v := .tuple #[.slice (A113_6) (((insF (((L13_1)[(findC (tsL L13_1) 0 key).toNat]'hx13_2).t.keys) key).getD []).length) (c113_6), .bool ((insF (((L13_1)[(findC (tsL L13_1) 0 key).toNat]'hx13_2).t.keys) key).isSome)]) rfl (Ru.move rfl) rfl ?_
          refine O.val (v := .slice (A113_6) (((insF (((L13_1)[(findC (tsL L13_1) 0 key).toNat]'hx13_2).t.keys) key).getD []).length) (c113_6)) rfl (Ru.extract rfl rfl) rfl ?_
          refine O.val (v := .bool ((insF (((L13_1)[(findC (tsL L13_1) 0 key).toNat]'hx13_2).t.keys) key).isSome)) rfl (Ru.extract rfl rfl) rfl ?_
          refine O.val (v := .slice (A113_6) (((insF (((L13_1)[(findC (tsL L13_1) 0 key).toNat]'hx13_2).t.keys) key).getD []).length) (c113_6)) rfl (Ru.assign rfl) rfl ?_
          refine O.val (v := .bool ((insF (((L13_1)[(findC (tsL L13_1) 0 key).toNat]'hx13_2).t.keys) key).isSome)) rfl (Ru.assign rfl) rfl ?_
          refine O.nil ?_
          refine C.seq ?_
          refine C.seq ?_
          refine C.region ?_
          refine O.val (v := .bool ((insF (((L13_1)[(findC (tsL L13_1) 0 key).toNat]'hx13_2).t.keys) key).isSome)) rfl (Ru.move rfl) rfl ?_
          refine O.val (v := .bool (!((insF (((L13_1)[(findC (tsL L13_1) 0 key).toNat]'hx13_2).t.keys) key).isSome))) rfl (Ru.not rfl) rfl ?_
          refine O.nil ?_
          refine C.condn (b := ((insF (((L13_1)[(findC (tsL L13_1) 0 key).toNat]'hx13_2).t.keys) key).isSome)) rfl (fun c63 => ?_) (fun c63 => ?_)
          · exfalso; rw [hins] at c63; simp at c63
          · refine C.skip ?_
            refine C.seq ?_
            refine C.region ?_
            refine O.val (v := .slice (A13_1) ((L13_1).length) (c13_1)) rfl (Ru.move rfl) rfl ?_
            refine O.val (v := I (findC (tsL L13_1) 0 key)) rfl (Ru.move rfl) rfl ?_
            refine O.val (v := .slice (A113_6) (((insF (((L13_1)[(findC (tsL L13_1) 0 key).toNat]'hx13_2).t.keys) key).getD []).length) (c113_6)) rfl (Ru.move rfl) rfl ?_
            have hx16_3 : (findC (tsL L13_1) 0 key).toNat < (L13_1).length := hfl
            refine O.val (v := .pointer (ofs (A13_1) (((findC (tsL L13_1) 0 key).toNat) * 3))) rfl (Ru.indexA (j := (findC (tsL L13_1) 0 key).toNat) Try.underlying23 el28 rfl rfl (smf encL_len (hM13_6.rd 1 rfl) hx16_3 rfl) (by omega) (by first | omega | (simp; omega))) rfl ?_
            refine O.val (v := .pointer (ofs (A13_1) (((findC (tsL L13_1) 0 key).toNat) * 3 + 0))) rfl (Ru.fieldA fl28_0 rfl (smf encL_len (hM13_6.rd 1 rfl) hx16_3 rfl)) rfl ?_
            refine O.mstore (vs := [.slice (A113_6) (((insF (((L13_1)[(findC (tsL L13_1) 0 key).toNat]'hx13_2).t.keys) key).getD []).length) (c113_6)]) (xs' := ((L13_1).set ((findC (tsL L13_1) 0 key).toNat) (⟨A113_6, c113_6, ⟨(insF (((L13_1)[(findC (tsL L13_1) 0 key).toNat]'hx13_2).t.keys) key).getD [], ((L13_1)[(findC (tsL L13_1) 0 key).toNat]'hx16_3).t.high, ((L13_1)[(findC (tsL L13_1) 0 key).toNat]'hx16_3).t.right⟩⟩ : LnkL)).flatMap encL) 1 0 hM13_6 rfl rfl rfl el26 rfl rfl rfl rfl rfl (by rw [flat_len encL_len]; simp; omega) (by simp) (spl_part encL_len (l := L13_1) (a := (⟨A113_6, c113_6, ⟨(insF (((L13_1)[(findC (tsL L13_1) 0 key).toNat]'hx13_2).t.keys) key).getD [], ((L13_1)[(findC (tsL L13_1) 0 key).toNat]'hx16_3).t.high, ((L13_1)[(findC (tsL L13_1) 0 key).toNat]'hx16_3).t.right⟩⟩ : LnkL)) hx16_3 (by simp) rfl) rfl (fun w16_5 (hM16_5 : Mem w w16_5 [] [[⟨.slice (A113_6) (((insF (((L13_1)[(findC (tsL L13_1) 0 key).toNat]'hx13_2).t.keys) key).getD []).length) (c113_6), 3, 1, (((insF (((L13_1)[(findC (tsL L13_1) 0 key).toNat]'hx13_2).t.keys) key).getD []).length), ((insF (((L13_1)[(findC (tsL L13_1) 0 key).toNat]'hx13_2).t.keys) key).getD []).map I⟩], [⟨.slice (A13_1) ((L13_1).length) (c13_1), 28, 3, ((L13_1).length), ((L13_1).set ((findC (tsL L13_1) 0 key).toNat) (⟨A113_6, c113_6, ⟨(insF (((L13_1)[(findC (tsL L13_1) 0 key).toNat]'hx13_2).t.keys) key).getD [], ((L13_1)[(findC (tsL L13_1) 0 key).toNat]'hx16_3).t.high, ((L13_1)[(findC (tsL L13_1) 0 key).toNat]'hx16_3).t.right⟩⟩ : LnkL)).flatMap encL⟩], (L13_1).map (keyF 3)]) => ?_)
            refine O.nil ?_
            have hMk17 : Mem w w16_5 [] [((L13_1).set ((findC (tsL L13_1) 0 key).toNat) (⟨A113_6, c113_6, ⟨(insF (((L13_1)[(findC (tsL L13_1) 0 key).toNat]'hx13_2).t.keys) key).getD [], ((L13_1)[(findC (tsL L13_1) 0 key).toNat]'hx16_3).t.high, ((L13_1)[(findC (tsL L13_1) 0 key).toNat]'hx16_3).t.right⟩⟩ : LnkL)).map (keyF 3), [⟨.slice (A13_1) ((L13_1).length) (c13_1), 28, 3, ((L13_1).length), ((L13_1).set ((findC (tsL L13_1) 0 key).toNat) (⟨A113_6, c113_6, ⟨(insF (((L13_1)[(findC (tsL L13_1) 0 key).toNat]'hx13_2).t.keys) key).getD [], ((L13_1)[(findC (tsL L13_1) 0 key).toNat]'hx16_3).t.high, ((L13_1)[(findC (tsL L13_1) 0 key).toNat]'hx16_3).t.right⟩⟩ : LnkL)).flatMap encL⟩]] := Mem.kset (l := L13_1) (x := (⟨A113_6, c113_6, ⟨(insF (((L13_1)[(findC (tsL L13_1) 0 key).toNat]'hx13_2).t.keys) key).getD [], ((L13_1)[(findC (tsL L13_1) 0 key).toNat]'hx16_3).t.high, ((L13_1)[(findC (tsL L13_1) 0 key).toNat]'hx16_3).t.right⟩⟩ : LnkL)) (M := [[⟨.slice (A13_1) ((L13_1).length) (c13_1), 28, 3, ((L13_1).length), ((L13_1).set ((findC (tsL L13_1) 0 key).toNat) (⟨A113_6, c113_6, ⟨(insF (((L13_1)[(findC (tsL L13_1) 0 key).toNat]'hx13_2).t.keys) key).getD [], ((L13_1)[(findC (tsL L13_1) 0 key).toNat]'hx16_3).t.high, ((L13_1)[(findC (tsL L13_1) 0 key).toNat]'hx16_3).t.right⟩⟩ : LnkL)).flatMap encL⟩]]) (hM16_5.pick [2, 0, 1] (by decide) rfl) ((findC (tsL L13_1) 0 key).toNat)
            refine C.seq ?_
            refine C.region ?_
            refine O.val (v := .slice (A13_1) ((L13_1).length) (c13_1)) rfl (Ru.move rfl) rfl ?_
            refine O.val (v := .slice (A13_1) ((L13_1).length) (c13_1)) rfl (Ru.assign rfl) rfl ?_
            refine O.val (v := .bool (true)) rfl (Ru.assign rfl) rfl ?_
            refine O.nil ?_
            refine C.ret ?_
            refine P2 (v := .slice (A13_1) ((L13_1).length) (c13_1)) (v' := .bool (true)) rfl rfl ?_
            have hq18 : ((L13_1).set ((findC (tsL L13_1) 0 key).toNat) (⟨A113_6, c113_6, ⟨(insF (((L13_1)[(findC (tsL L13_1) 0 key).toNat]'hx13_2).t.keys) key).getD [], ((L13_1)[(findC (tsL L13_1) 0 key).toNat]'hx16_3).t.high, ((L13_1)[(findC (tsL L13_1) 0 key).toNat]'hx16_3).t.right⟩⟩ : LnkL) : List LnkL) = ((L13_1).set ((findC (tsL L13_1) 0 key).toNat) (⟨A113_6, c113_6, ⟨(insF (((L13_1)[(findC (tsL L13_1) 0 key).toNat]'hx13_2).t.keys) key).getD [], ((L13_1)[(findC (tsL L13_1) 0 key).toNat]'hx16_3).t.high, ((L13_1)[(findC (tsL L13_1) 0 key).toNat]'hx16_3).t.right⟩⟩ : LnkL)) := (by first | rfl | simp | (simp; omega))
            have hMn18 : Mem w w16_5 [] [((L13_1).set ((findC (tsL L13_1) 0 key).toNat) (⟨A113_6, c113_6, ⟨(insF (((L13_1)[(findC (tsL L13_1) 0 key).toNat]'hx13_2).t.keys) key).getD [], ((L13_1)[(findC (tsL L13_1) 0 key).toNat]'hx16_3).t.high, ((L13_1)[(findC (tsL L13_1) 0 key).toNat]'hx16_3).t.right⟩⟩ : LnkL)).map (keyF 3), [⟨.slice (A13_1) (((L13_1).set ((findC (tsL L13_1) 0 key).toNat) (⟨A113_6, c113_6, ⟨(insF (((L13_1)[(findC (tsL L13_1) 0 key).toNat]'hx13_2).t.keys) key).getD [], ((L13_1)[(findC (tsL L13_1) 0 key).toNat]'hx16_3).t.high, ((L13_1)[(findC (tsL L13_1) 0 key).toNat]'hx16_3).t.right⟩⟩ : LnkL)).length) (c13_1), 28, 3, (((L13_1).set ((findC (tsL L13_1) 0 key).toNat) (⟨A113_6, c113_6, ⟨(insF (((L13_1)[(findC (tsL L13_1) 0 key).toNat]'hx13_2).t.keys) key).getD [], ((L13_1)[(findC (tsL L13_1) 0 key).toNat]'hx16_3).t.high, ((L13_1)[(findC (tsL L13_1) 0 key).toNat]'hx16_3).t.right⟩⟩ : LnkL)).length), (((L13_1).set ((findC (tsL L13_1) 0 key).toNat) (⟨A113_6, c113_6, ⟨(insF (((L13_1)[(findC (tsL L13_1) 0 key).toNat]'hx13_2).t.keys) key).getD [], ((L13_1)[(findC (tsL L13_1) 0 key).toNat]'hx16_3).t.high, ((L13_1)[(findC (tsL L13_1) 0 key).toNat]'hx16_3).t.right⟩⟩ : LnkL))).flatMap encL⟩]] := hMk17.relen 1 (n' := ((L13_1).set ((findC (tsL L13_1) 0 key).toNat) (⟨A113_6, c113_6, ⟨(insF (((L13_1)[(findC (tsL L13_1) 0 key).toNat]'hx13_2).t.keys) key).getD [], ((L13_1)[(findC (tsL L13_1) 0 key).toNat]'hx16_3).t.high, ((L13_1)[(findC (tsL L13_1) 0 key).toNat]'hx16_3).t.right⟩⟩ : LnkL)).length) (xs' := (((L13_1).set ((findC (tsL L13_1) 0 key).toNat) (⟨A113_6, c113_6, ⟨(insF (((L13_1)[(findC (tsL L13_1) 0 key).toNat]'hx13_2).t.keys) key).getD [], ((L13_1)[(findC (tsL L13_1) 0 key).toNat]'hx16_3).t.high, ((L13_1)[(findC (tsL L13_1) 0 key).toNat]'hx16_3).t.right⟩⟩ : LnkL))).flatMap encL) rfl (by first | rfl | exact congrArg List.length hq18 | (have hqq := congrArg List.length hq18; first | omega | (simp at hqq ⊢; omega)) | (simp; done) | (simp; omega)) (congrArg (fun z_ => (z_).flatMap encL) hq18) rfl
            exact ⟨(L13_1).set ((findC (tsL L13_1) 0 key).toNat) (⟨A113_6, c113_6, ⟨(insF (((L13_1)[(findC (tsL L13_1) 0 key).toNat]'hx13_2).t.keys) key).getD [], ((L13_1)[(findC (tsL L13_1) 0 key).toNat]'hx16_3).t.high, ((L13_1)[(findC (tsL L13_1) 0 key).toNat]'hx16_3).t.right⟩⟩ : LnkL), A13_1, c13_1, (by rw [hpf]; first | rfl | simp), (by rw [hpf, Option.getD_some]; exact put_ts hfl (by rw [hins]; rfl)), (hMn18.pick [1, 0] (by decide) rfl)⟩

set_option maxHeartbeats 4000000 in
theorem sPutLink_fn (A : Option Addr) (c : Nat) (l : List LnkL) (key : Int) (w : World) (hA : Rd w A ((l).flatMap encL)) (hNA : Nst w l) (hl : l.length ≤ 1048576) :
    Does Try.prog 40 [.slice (A) ((l).length) (c), I (key)] w (fun v w1 => ∃ (L1 : List LnkL) (A1 : Option Addr) (c1 : Nat), v = .tuple #[.slice (A1) ((L1).length) (c1), .bool ((putF (tsL l) key).isSome)] ∧ (tsL L1 = (putF (tsL l) key).getD []) ∧ Mem w w1 [] [[⟨.slice (A1) ((L1).length) (c1), 28, 3, ((L1).length), (L1).flatMap encL⟩], (L1).map (keyF 3)]) := by
  have hM : Mem w w [] [] := Mem.refl
  refine Does.enter2 Try.func40 rfl Try.results40 Try.ntmps40 rfl ?_
  refine C.seq ?_
  refine C.region ?_
  refine O.val (v := .slice (none) (0) (0)) rfl (Ru.assign rfl) rfl ?_
  refine O.val (v := .bool (false)) rfl (Ru.assign rfl) rfl ?_
  refine O.nil ?_
  refine C.seq ?_
  refine C.seq ?_
  refine C.region ?_
  refine O.val (v := .slice (A) ((l).length) (c)) rfl (Ru.move rfl) rfl ?_
  refine O.callg [.slice (A) ((l).length) (c)] rfl en44 rfl rfl (svalidChain_fn A c l w (hA.at hM) (hNA.at hM) (by first | omega | assumption | (simp; omega) | simp | (intros; omega))) ?_
  rintro _ w1_1 ⟨rfl, hR1_1⟩
  have hM1_1 : Mem w w1_1 [] [] := Mem.call (Ma := []) hM hR1_1 rfl
  refine O.val (v := .bool (!(validC (tsL l)))) rfl (Ru.not rfl) rfl ?_
  refine O.val (v := .bool (!(validC (tsL l)))) rfl (Ru.move rfl) rfl ?_
  refine O.part 15 (!(validC (tsL l))) rfl (fun g15 => ?_) (fun g15 => ?_)
  · refine O.pass rfl rfl rfl rfl rfl ?_
    refine O.pass rfl rfl rfl rfl rfl ?_
    refine O.pass rfl rfl rfl rfl rfl ?_
    refine O.val (v := .bool (true)) rfl (Ru.pickT rfl rfl) rfl ?_
    refine O.nil ?_
    refine C.condT rfl ?_
    refine C.seq ?_
    refine C.region ?_
    refine O.val (v := .slice (none) (0) (0)) rfl (Ru.assign rfl) rfl ?_
    refine O.val (v := .bool (false)) rfl (Ru.assign rfl) rfl ?_
    refine O.nil ?_
    refine C.ret ?_
    refine P2 (v := .slice (none) (0) (0)) (v' := .bool (false)) rfl rfl ?_
    have hn : putF (tsL l) key = none := by apply putF_bad; cases hx : validC (tsL l) with | false => exact .inl rfl | true => right; cases hy : isKeyB key with | false => rfl | true => (exfalso; have h9 := isKey_iff.1 hy; simp_all)
    have hMn1 : Mem w w1_1 [] [[⟨.slice (none) (0) (0), 28, 3, 0, ([]).flatMap encL⟩]] := Mem.addNil hM1_1
    have hq2 : ([] : List LnkL) = ([] : List LnkL) := (by first | rfl | simp | (simp; omega))
    have hMn2 : Mem w w1_1 [] [[⟨.slice (none) ((([] : List LnkL)).length) (0), 28, 3, ((([] : List LnkL)).length), (([] : List LnkL)).flatMap encL⟩]] := hMn1.relen 0 (n' := (([] : List LnkL)).length) (xs' := (([] : List LnkL)).flatMap encL) rfl (by first | rfl | exact congrArg List.length hq2 | (have hqq := congrArg List.length hq2; first | omega | (simp at hqq ⊢; omega)) | (simp; done) | (simp; omega)) (congrArg (fun z_ => (z_).flatMap encL) hq2) rfl
    have hMn3 : Mem w w1_1 [] [(([] : List LnkL)).map (keyF 3), [⟨.slice (none) ((([] : List LnkL)).length) (0), 28, 3, ((([] : List LnkL)).length), (([] : List LnkL)).flatMap encL⟩]] := Mem.knil hMn2
    exact ⟨([] : List LnkL), none, 0, (by rw [hn]; rfl), (by rw [hn]; rfl), (hMn3.pick [1, 0] (by decide) rfl)⟩
  · refine O.val (v := I (key)) rfl (Ru.move rfl) rfl ?_
    refine O.callg [I (key), I (0), I (99)] rfl en48 rfl rfl (inRange_fn key 0 99 w1_1 ) ?_
    rintro _ w1_5 ⟨rfl, hR1_5⟩
    have hM1_5 : Mem w w1_5 [] [] := Mem.call (Ma := []) hM1_1 hR1_5 rfl
    refine O.val (v := .bool (!(decide (0 ≤ key) && decide (key ≤ 99)))) rfl (Ru.not rfl) rfl ?_
    refine O.val (v := .bool (!(decide (0 ≤ key) && decide (key ≤ 99)))) rfl (Ru.pickF rfl rfl) rfl ?_
    refine O.nil ?_
    refine C.condn (b := (decide (0 ≤ key) && decide (key ≤ 99))) rfl (fun c19 => ?_) (fun c19 => ?_)
    · refine C.seq ?_
      refine C.region ?_
      refine O.val (v := .slice (none) (0) (0)) rfl (Ru.assign rfl) rfl ?_
      refine O.val (v := .bool (false)) rfl (Ru.assign rfl) rfl ?_
      refine O.nil ?_
      refine C.ret ?_
      refine P2 (v := .slice (none) (0) (0)) (v' := .bool (false)) rfl rfl ?_
      have hn : putF (tsL l) key = none := by apply putF_bad; cases hx : validC (tsL l) with | false => exact .inl rfl | true => right; cases hy : isKeyB key with | false => rfl | true => (exfalso; have h9 := isKey_iff.1 hy; simp_all)
      have hMn5 : Mem w w1_5 [] [[⟨.slice (none) (0) (0), 28, 3, 0, ([]).flatMap encL⟩]] := Mem.addNil hM1_5
      have hq6 : ([] : List LnkL) = ([] : List LnkL) := (by first | rfl | simp | (simp; omega))
      have hMn6 : Mem w w1_5 [] [[⟨.slice (none) ((([] : List LnkL)).length) (0), 28, 3, ((([] : List LnkL)).length), (([] : List LnkL)).flatMap encL⟩]] := hMn5.relen 0 (n' := (([] : List LnkL)).length) (xs' := (([] : List LnkL)).flatMap encL) rfl (by first | rfl | exact congrArg List.length hq6 | (have hqq := congrArg List.length hq6; first | omega | (simp at hqq ⊢; omega)) | (simp; done) | (simp; omega)) (congrArg (fun z_ => (z_).flatMap encL) hq6) rfl
      have hMn7 : Mem w w1_5 [] [(([] : List LnkL)).map (keyF 3), [⟨.slice (none) ((([] : List LnkL)).length) (0), 28, 3, ((([] : List LnkL)).length), (([] : List LnkL)).flatMap encL⟩]] := Mem.knil hMn6
      exact ⟨([] : List LnkL), none, 0, (by rw [hn]; rfl), (by rw [hn]; rfl), (hMn7.pick [1, 0] (by decide) rfl)⟩
    · have hv : validC (tsL l) = true := by simp_all
      have hky : isKeyB key = true := by simp_all [isKeyB]
      refine C.skip ?_
      refine C.seq ?_
      refine C.region ?_
      refine O.val (v := .slice (A) ((l).length) (c)) rfl (Ru.move rfl) rfl ?_
      refine O.callg [.slice (A) ((l).length) (c)] rfl en51 rfl rfl (scopyChain_fn A c l w1_5 (hA.at hM1_5) (hNA.at hM1_5) (by first | omega | assumption | (simp; omega) | simp | (intros; omega)) (by exact valid_1m hv)) ?_
      rintro _ w3_1 ⟨L13_1, A13_1, c13_1, rfl, hts3_1, hR3_1⟩
      have hM3_1 : Mem w w3_1 [] [[⟨.slice (A13_1) ((L13_1).length) (c13_1), 28, 3, ((L13_1).length), (L13_1).flatMap encL⟩], (L13_1).map (keyF 3)] := Mem.call (Ma := []) hM1_5 hR3_1 rfl
      have hcr3_1_0 := (hM3_1.cap 0 rfl).1
      have hLl := ts_eq_len hts3_1
      have hvc : validC (tsL L13_1) = true := by rw [hts3_1]; exact hv
      have hf1 := put_at hvc hky
      have hgl : (L13_1[(findC (tsL L13_1) 0 key).toNat]'hf1.2).t = gL (tsL l) (findC (tsL l) 0 key).toNat := by rw [← gL_ts hf1.2, hts3_1]
      have hk5 := valid_all hvc _ (List.getElem_mem hf1.2)
      refine O.val (v := .slice (A13_1) ((L13_1).length) (c13_1)) rfl (Ru.assign rfl) rfl ?_
      refine O.nil ?_
      refine C.seq ?_
      refine C.region ?_
      refine O.val (v := .slice (A13_1) ((L13_1).length) (c13_1)) rfl (Ru.move rfl) rfl ?_
      refine O.val (v := I (key)) rfl (Ru.move rfl) rfl ?_
      refine O.callg [.slice (A13_1) ((L13_1).length) (c13_1), I (0), I (key)] rfl en49 rfl rfl (moveRight_fn A13_1 c13_1 L13_1 0 key w3_1 (hM3_1.rd 0 rfl) (Nst.mem hM3_1 1 rfl) (by omega) (by exact good0 hvc hky)) ?_
      rintro _ w4_2 ⟨rfl, hR4_2⟩
      have hM4_2 : Mem w w4_2 [] [[⟨.slice (A13_1) ((L13_1).length) (c13_1), 28, 3, ((L13_1).length), (L13_1).flatMap encL⟩], (L13_1).map (keyF 3)] := Mem.call (Ma := []) hM3_1 hR4_2 rfl
      refine O.val (v := I (findC (tsL L13_1) 0 key)) rfl (Ru.assign rfl) rfl ?_
      refine O.nil ?_
      refine C.seq ?_
      refine C.seq ?_
      refine C.region ?_
      refine O.val (v := .slice (A13_1) ((L13_1).length) (c13_1)) rfl (Ru.move rfl) rfl ?_
      refine O.val (v := I (findC (tsL L13_1) 0 key)) rfl (Ru.move rfl) rfl ?_
      have hx5_2 : (findC (tsL L13_1) 0 key).toNat < (L13_1).length := (by first | exact hf1.2 | exact hfl)
      refine O.val (v := .pointer (ofs (A13_1) (((findC (tsL L13_1) 0 key).toNat) * 3))) rfl (Ru.indexA (j := (findC (tsL L13_1) 0 key).toNat) Try.underlying23 el28 rfl rfl (smf encL_len (hM4_2.rd 0 rfl) hx5_2 rfl) (by omega) (by first | omega | (simp; omega))) rfl ?_
      refine O.val (v := .pointer (ofs (A13_1) (((findC (tsL L13_1) 0 key).toNat) * 3 + 0))) rfl (Ru.fieldA fl28_0 rfl (smf encL_len (hM4_2.rd 0 rfl) hx5_2 rfl)) rfl ?_
      refine O.val rfl (Ru.load1 el26 rfl (ldf encL_len (hM4_2.rd 0 rfl) hx5_2 rfl)) rfl ?_
      refine O.val (v := I (key)) rfl (Ru.move rfl) rfl ?_
      refine O.callg [.slice (((L13_1)[(findC (tsL L13_1) 0 key).toNat]'hx5_2).A) ((((L13_1)[(findC (tsL L13_1) 0 key).toNat]'hx5_2).t.keys).length) (((L13_1)[(findC (tsL L13_1) 0 key).toNat]'hx5_2).cp), I (key)] rfl en60 (by first | rfl | (rw [show (((L13_1)[(findC (tsL L13_1) 0 key).toNat]'hx5_2).t.keys).length = ((L13_1)[(findC (tsL L13_1) 0 key).toNat]'hx5_2).t.keys.length from (by first | rfl | (simp; done) | omega | (simp; omega))]; rfl)) rfl (isIn_fn (((L13_1)[(findC (tsL L13_1) 0 key).toNat]'hx5_2).A) (((L13_1)[(findC (tsL L13_1) 0 key).toNat]'hx5_2).cp) (((L13_1)[(findC (tsL L13_1) 0 key).toNat]'hx5_2).t.keys) key w4_2 ((Nst.mem hM4_2 1 rfl).get hx5_2) (by omega)) ?_
      rintro _ w5_6 ⟨rfl, hR5_6⟩
      have hM5_6 : Mem w w5_6 [] [[⟨.slice (A13_1) ((L13_1).length) (c13_1), 28, 3, ((L13_1).length), (L13_1).flatMap encL⟩], (L13_1).map (keyF 3)] := Mem.call (Ma := []) hM4_2 hR5_6 rfl
      refine O.nil ?_
      refine C.condb (t := decide (key ∈ (((L13_1)[(findC (tsL L13_1) 0 key).toNat]'hx5_2).t.keys))) rfl (fun c31 => ?_) (fun c31 => ?_)
      · have hin : key ∈ (L13_1[(findC (tsL L13_1) 0 key).toNat]'hf1.2).t.keys := by simpa using c31
        refine C.seq ?_
        refine C.region ?_
        refine O.val (v := .slice (A13_1) ((L13_1).length) (c13_1)) rfl (Ru.move rfl) rfl ?_
        refine O.val (v := .slice (A13_1) ((L13_1).length) (c13_1)) rfl (Ru.assign rfl) rfl ?_
        refine O.val (v := .bool (true)) rfl (Ru.assign rfl) rfl ?_
        refine O.nil ?_
        refine C.ret ?_
        refine P2 (v := .slice (A13_1) ((L13_1).length) (c13_1)) (v' := .bool (true)) rfl rfl ?_
        have hn := putF_same hv hky (by rw [← hgl]; exact hin)
        exact ⟨L13_1, A13_1, c13_1, (by rw [hn]; rfl), (by rw [hn]; exact hts3_1), (hM5_6.pick [0, 1] (by decide) rfl)⟩
      · have hni : key ∉ (L13_1[(findC (tsL L13_1) 0 key).toNat]'hf1.2).t.keys := by simpa using c31
        refine C.skip ?_
        refine C.seq ?_
        refine C.seq ?_
        refine C.region ?_
        refine O.val (v := .slice (A13_1) ((L13_1).length) (c13_1)) rfl (Ru.move rfl) rfl ?_
        refine O.val (v := I (findC (tsL L13_1) 0 key)) rfl (Ru.move rfl) rfl ?_
        have hx7_2 : (findC (tsL L13_1) 0 key).toNat < (L13_1).length := (by first | exact hf1.2 | exact hfl)
        refine O.val (v := .pointer (ofs (A13_1) (((findC (tsL L13_1) 0 key).toNat) * 3))) rfl (Ru.indexA (j := (findC (tsL L13_1) 0 key).toNat) Try.underlying23 el28 rfl rfl (smf encL_len (hM5_6.rd 0 rfl) hx7_2 rfl) (by omega) (by first | omega | (simp; omega))) rfl ?_
        refine O.val (v := .pointer (ofs (A13_1) (((findC (tsL L13_1) 0 key).toNat) * 3 + 0))) rfl (Ru.fieldA fl28_0 rfl (smf encL_len (hM5_6.rd 0 rfl) hx7_2 rfl)) rfl ?_
        refine O.val rfl (Ru.load1 el26 rfl (ldf encL_len (hM5_6.rd 0 rfl) hx7_2 rfl)) rfl ?_
        refine O.val (v := I (((((L13_1)[(findC (tsL L13_1) 0 key).toNat]'hx7_2).t.keys.length : Nat) : Int))) rfl (Ru.blenSlice Try.underlying26 rfl) rfl ?_
        refine O.val (v := .bool (decide (((((L13_1)[(findC (tsL L13_1) 0 key).toNat]'hx7_2).t.keys.length : Nat) : Int) = 4))) rfl (Ru.eql rfl rfl) rfl ?_
        refine O.nil ?_
        refine C.cond (p := ((((L13_1)[(findC (tsL L13_1) 0 key).toNat]'hx7_2).t.keys.length : Nat) : Int) = 4) rfl (fun c39 => ?_) (fun c39 => ?_)
        · refine C.seq ?_
          refine C.region ?_
          refine O.val (v := .slice (A13_1) ((L13_1).length) (c13_1)) rfl (Ru.move rfl) rfl ?_
          refine O.val (v := I (findC (tsL L13_1) 0 key)) rfl (Ru.move rfl) rfl ?_
          have hcp8 := Mem.ncap hM5_6 1 rfl
          refine O.callg [.slice (A13_1) ((L13_1).length) (c13_1), I (findC (tsL L13_1) 0 key)] rfl en30 rfl rfl (sSplitLink_fn A13_1 c13_1 L13_1 (findC (tsL L13_1) 0 key) w5_6 (hM5_6.rd 0 rfl) (Nst.mem hM5_6 1 rfl) (by omega) (by exact hcp8)) ?_
          rintro _ w8_2 ⟨L18_2, A18_2, c18_2, rfl, hts8_2, hR8_2⟩
          have hM8_2 : Mem w w8_2 [] [[⟨.slice (A18_2) ((L18_2).length) (c18_2), 28, 3, ((L18_2).length), (L18_2).flatMap encL⟩], (L18_2).map (keyF 3), [⟨.slice (A13_1) ((L13_1).length) (c13_1), 28, 3, ((L13_1).length), (L13_1).flatMap encL⟩], (L13_1).map (keyF 3)] := Mem.call (Ma := []) hM5_6 hR8_2 rfl
          have hcr8_2_0 := (hM8_2.cap 0 rfl).1
          refine O.val (v := .tuple #[.slice (A18_2) ((L18_2).length) (c18_2), .bool ((splitF (tsL L13_1) (findC (tsL L13_1) 0 key)).isSome)]) rfl (Ru.move rfl) rfl ?_
          refine O.val (v := .slice (A18_2) ((L18_2).length) (c18_2)) rfl (Ru.extract rfl rfl) rfl ?_
          refine O.val (v := .bool ((splitF (tsL L13_1) (findC (tsL L13_1) 0 key)).isSome)) rfl (Ru.extract rfl rfl) rfl ?_
          refine O.val (v := .slice (A18_2) ((L18_2).length) (c18_2)) rfl (Ru.assign rfl) rfl ?_
          refine O.val (v := .bool ((splitF (tsL L13_1) (findC (tsL L13_1) 0 key)).isSome)) rfl (Ru.assign rfl) rfl ?_
          refine O.nil ?_
          refine C.seq ?_
          refine C.seq ?_
          have h44 : (gL (tsL l) (findC (tsL l) 0 key).toNat).keys.length = 4 := by rw [← hgl]; omega
          have hni2 : key ∉ (gL (tsL l) (findC (tsL l) 0 key).toNat).keys := by rw [← hgl]; exact hni
          refine C.region ?_
          refine O.val (v := .bool ((splitF (tsL L13_1) (findC (tsL L13_1) 0 key)).isSome)) rfl (Ru.move rfl) rfl ?_
          refine O.val (v := .bool (!((splitF (tsL L13_1) (findC (tsL L13_1) 0 key)).isSome))) rfl (Ru.not rfl) rfl ?_
          refine O.nil ?_
          refine C.condn (b := ((splitF (tsL L13_1) (findC (tsL L13_1) 0 key)).isSome)) rfl (fun c47 => ?_) (fun c47 => ?_)
          · have hn : putF (tsL l) key = none := put_nosplit hts3_1 hv hky hni2 h44 (by simpa using c47)
            refine C.seq ?_
            refine C.region ?_
            refine O.val (v := .slice (none) (0) (0)) rfl (Ru.assign rfl) rfl ?_
            refine O.val (v := .bool (false)) rfl (Ru.assign rfl) rfl ?_
            refine O.nil ?_
            refine C.ret ?_
            refine P2 (v := .slice (none) (0) (0)) (v' := .bool (false)) rfl rfl ?_
            have hMn10 : Mem w w8_2 [] [[⟨.slice (none) (0) (0), 28, 3, 0, ([]).flatMap encL⟩], [⟨.slice (A18_2) ((L18_2).length) (c18_2), 28, 3, ((L18_2).length), (L18_2).flatMap encL⟩], (L18_2).map (keyF 3), [⟨.slice (A13_1) ((L13_1).length) (c13_1), 28, 3, ((L13_1).length), (L13_1).flatMap encL⟩], (L13_1).map (keyF 3)] := Mem.addNil hM8_2
            have hq11 : ([] : List LnkL) = ([] : List LnkL) := (by first | rfl | simp | (simp; omega))
            have hMn11 : Mem w w8_2 [] [[⟨.slice (none) ((([] : List LnkL)).length) (0), 28, 3, ((([] : List LnkL)).length), (([] : List LnkL)).flatMap encL⟩], [⟨.slice (A18_2) ((L18_2).length) (c18_2), 28, 3, ((L18_2).length), (L18_2).flatMap encL⟩], (L18_2).map (keyF 3), [⟨.slice (A13_1) ((L13_1).length) (c13_1), 28, 3, ((L13_1).length), (L13_1).flatMap encL⟩], (L13_1).map (keyF 3)] := hMn10.relen 0 (n' := (([] : List LnkL)).length) (xs' := (([] : List LnkL)).flatMap encL) rfl (by first | rfl | exact congrArg List.length hq11 | (have hqq := congrArg List.length hq11; first | omega | (simp at hqq ⊢; omega)) | (simp; done) | (simp; omega)) (congrArg (fun z_ => (z_).flatMap encL) hq11) rfl
            have hMn12 : Mem w w8_2 [] [(([] : List LnkL)).map (keyF 3), [⟨.slice (none) ((([] : List LnkL)).length) (0), 28, 3, ((([] : List LnkL)).length), (([] : List LnkL)).flatMap encL⟩], [⟨.slice (A18_2) ((L18_2).length) (c18_2), 28, 3, ((L18_2).length), (L18_2).flatMap encL⟩], (L18_2).map (keyF 3), [⟨.slice (A13_1) ((L13_1).length) (c13_1), 28, 3, ((L13_1).length), (L13_1).flatMap encL⟩], (L13_1).map (keyF 3)] := Mem.knil hMn11
            exact ⟨([] : List LnkL), none, 0, (by rw [hn]; rfl), (by rw [hn]; rfl), (hMn12.pick [1, 0] (by decide) rfl)⟩
          · have hps := put_split hts3_1 hv hky hni2 h44 hts8_2 (by simpa using c47)
            have hL8 := (put_at hps.1 hky)
            refine C.skip ?_
            refine C.seq ?_
            refine C.region ?_
            refine O.val (v := .slice (A18_2) ((L18_2).length) (c18_2)) rfl (Ru.move rfl) rfl ?_
            refine O.val (v := .slice (A18_2) ((L18_2).length) (c18_2)) rfl (Ru.assign rfl) rfl ?_
            refine O.nil ?_
            refine C.region ?_
            refine O.val (v := .slice (A18_2) ((L18_2).length) (c18_2)) rfl (Ru.move rfl) rfl ?_
            refine O.val (v := I (findC (tsL L13_1) 0 key)) rfl (Ru.move rfl) rfl ?_
            refine O.val (v := I (key)) rfl (Ru.move rfl) rfl ?_
            refine O.callg [.slice (A18_2) ((L18_2).length) (c18_2), I (findC (tsL L13_1) 0 key), I (key)] rfl en49 rfl rfl (moveRight_fn A18_2 c18_2 L18_2 (findC (tsL L13_1) 0 key) key w8_2 (hM8_2.rd 0 rfl) (Nst.mem hM8_2 1 rfl) (by have := splF_len (l := tsL L13_1) (at_ := findC (tsL L13_1) 0 key); have h8 := congrArg List.length hts8_2; simp at h8 this; omega) (by exact hps.2.2.2.2)) ?_
            rintro _ w12_3 ⟨rfl, hR12_3⟩
            have hM12_3 : Mem w w12_3 [] [[⟨.slice (A18_2) ((L18_2).length) (c18_2), 28, 3, ((L18_2).length), (L18_2).flatMap encL⟩], (L18_2).map (keyF 3), [⟨.slice (A13_1) ((L13_1).length) (c13_1), 28, 3, ((L13_1).length), (L13_1).flatMap encL⟩], (L13_1).map (keyF 3)] := Mem.call (Ma := []) hM8_2 hR12_3 rfl
            rw [hps.2.2.2.1]
            refine O.val (v := I (findC (tsL L18_2) 0 key)) rfl (Ru.assign rfl) rfl ?_
            refine O.nil ?_
            refine C.seq ?_
            have hvL := hps.1
            have hfl := (put_at hps.1 hky).2
            have hfl2 := (put_at hps.1 hky).1
            have hnk := hps.2.1 hfl
            have hpf := hps.2.2.1
            have hk13 := valid_all hvL _ (List.getElem_mem hfl)
            have hins := ins_yes hk13.2 hky hnk
            have hcp13 := Mem.ncap hM12_3 1 rfl _ (List.getElem_mem hfl)
            refine C.region ?_
            refine O.val (v := .slice (A18_2) ((L18_2).length) (c18_2)) rfl (Ru.move rfl) rfl ?_
            refine O.val (v := I (findC (tsL L18_2) 0 key)) rfl (Ru.move rfl) rfl ?_
            have hx13_2 : (findC (tsL L18_2) 0 key).toNat < (L18_2).length := hfl
            refine O.val (v := .pointer (ofs (A18_2) (((findC (tsL L18_2) 0 key).toNat) * 3))) rfl (Ru.indexA (j := (findC (tsL L18_2) 0 key).toNat) Try.underlying23 el28 rfl rfl (smf encL_len (hM12_3.rd 0 rfl) hx13_2 rfl) (by omega) (by first | omega | (simp; omega))) rfl ?_
            refine O.val (v := .pointer (ofs (A18_2) (((findC (tsL L18_2) 0 key).toNat) * 3 + 0))) rfl (Ru.fieldA fl28_0 rfl (smf encL_len (hM12_3.rd 0 rfl) hx13_2 rfl)) rfl ?_
            refine O.val rfl (Ru.load1 el26 rfl (ldf encL_len (hM12_3.rd 0 rfl) hx13_2 rfl)) rfl ?_
            refine O.val (v := I (key)) rfl (Ru.move rfl) rfl ?_
            refine O.callg [.slice (((L18_2)[(findC (tsL L18_2) 0 key).toNat]'hx13_2).A) ((((L18_2)[(findC (tsL L18_2) 0 key).toNat]'hx13_2).t.keys).length) (((L18_2)[(findC (tsL L18_2) 0 key).toNat]'hx13_2).cp), I (key)] rfl en61 (by first | rfl | (rw [show (((L18_2)[(findC (tsL L18_2) 0 key).toNat]'hx13_2).t.keys).length = ((L18_2)[(findC (tsL L18_2) 0 key).toNat]'hx13_2).t.keys.length from (by first | rfl | (simp; done) | omega | (simp; omega))]; rfl)) rfl (sInsertKey_fn (((L18_2)[(findC (tsL L18_2) 0 key).toNat]'hx13_2).A) (((L18_2)[(findC (tsL L18_2) 0 key).toNat]'hx13_2).cp) (((L18_2)[(findC (tsL L18_2) 0 key).toNat]'hx13_2).t.keys) key w12_3 ((Nst.mem hM12_3 1 rfl).get hx13_2) (by omega) (by exact hcp13)) ?_
            rintro _ w13_6 ⟨A113_6, c113_6, rfl, hR13_6⟩
            have hM13_6 : Mem w w13_6 [] [[⟨.slice (A113_6) (((insF (((L18_2)[(findC (tsL L18_2) 0 key).toNat]'hx13_2).t.keys) key).getD []).length) (c113_6), 3, 1, (((insF (((L18_2)[(findC (tsL L18_2) 0 key).toNat]'hx13_2).t.keys) key).getD []).length), ((insF (((L18_2)[(findC (tsL L18_2) 0 key).toNat]'hx13_2).t.keys) key).getD []).map I⟩], [⟨.slice (A18_2) ((L18_2).length) (c18_2), 28, 3, ((L18_2).length), (L18_2).flatMap encL⟩], (L18_2).map (keyF 3), [⟨.slice (A13_1) ((L13_1).length) (c13_1), 28, 3, ((L13_1).length), (L13_1).flatMap encL⟩], (L13_1).map (keyF 3)] := Mem.call (Ma := []) hM12_3 hR13_6 rfl
            have hcr13_6_0 := (hM13_6.cap 0 rfl).1
            refine O.val (v := .tuple #[.slice (A113_6) (((insF (((L18_2)[(findC (tsL L18_2) 0 key).toNat]'hx13_2).t.keys) key).getD []).length) (c113_6), .bool ((insF (((L18_2)[(findC (tsL L18_2) 0 key).toNat]'hx13_2).t.keys) key).isSome)]) rfl (Ru.move rfl) rfl ?_
            refine O.val (v := .slice (A113_6) (((insF (((L18_2)[(findC (tsL L18_2) 0 key).toNat]'hx13_2).t.keys) key).getD []).length) (c113_6)) rfl (Ru.extract rfl rfl) rfl ?_
            refine O.val (v := .bool ((insF (((L18_2)[(findC (tsL L18_2) 0 key).toNat]'hx13_2).t.keys) key).isSome)) rfl (Ru.extract rfl rfl) rfl ?_
            refine O.val (v := .slice (A113_6) (((insF (((L18_2)[(findC (tsL L18_2) 0 key).toNat]'hx13_2).t.keys) key).getD []).length) (c113_6)) rfl (Ru.assign rfl) rfl ?_
            refine O.val (v := .bool ((insF (((L18_2)[(findC (tsL L18_2) 0 key).toNat]'hx13_2).t.keys) key).isSome)) rfl (Ru.assign rfl) rfl ?_
            refine O.nil ?_
            refine C.seq ?_
            refine C.region ?_
            refine O.val (v := .slice (A18_2) ((L18_2).length) (c18_2)) rfl (Ru.move rfl) rfl ?_
            refine O.val (v := I (findC (tsL L18_2) 0 key)) rfl (Ru.move rfl) rfl ?_
            refine O.val (v := .slice (A113_6) (((insF (((L18_2)[(findC (tsL L18_2) 0 key).toNat]'hx13_2).t.keys) key).getD []).length) (c113_6)) rfl (Ru.move rfl) rfl ?_
            have hx14_3 : (findC (tsL L18_2) 0 key).toNat < (L18_2).length := hfl
            refine O.val (v := .pointer (ofs (A18_2) (((findC (tsL L18_2) 0 key).toNat) * 3))) rfl (Ru.indexA (j := (findC (tsL L18_2) 0 key).toNat) Try.underlying23 el28 rfl rfl (smf encL_len (hM13_6.rd 1 rfl) hx14_3 rfl) (by omega) (by first | omega | (simp; omega))) rfl ?_
            refine O.val (v := .pointer (ofs (A18_2) (((findC (tsL L18_2) 0 key).toNat) * 3 + 0))) rfl (Ru.fieldA fl28_0 rfl (smf encL_len (hM13_6.rd 1 rfl) hx14_3 rfl)) rfl ?_
            refine O.mstore (vs := [.slice (A113_6) (((insF (((L18_2)[(findC (tsL L18_2) 0 key).toNat]'hx13_2).t.keys) key).getD []).length) (c113_6)]) (xs' := ((L18_2).set ((findC (tsL L18_2) 0 key).toNat) (⟨A113_6, c113_6, ⟨(insF (((L18_2)[(findC (tsL L18_2) 0 key).toNat]'hx13_2).t.keys) key).getD [], ((L18_2)[(findC (tsL L18_2) 0 key).toNat]'hx14_3).t.high, ((L18_2)[(findC (tsL L18_2) 0 key).toNat]'hx14_3).t.right⟩⟩ : LnkL)).flatMap encL) 1 0 hM13_6 rfl rfl rfl el26 rfl rfl rfl rfl rfl (by rw [flat_len encL_len]; simp; omega) (by simp) (spl_part encL_len (l := L18_2) (a := (⟨A113_6, c113_6, ⟨(insF (((L18_2)[(findC (tsL L18_2) 0 key).toNat]'hx13_2).t.keys) key).getD [], ((L18_2)[(findC (tsL L18_2) 0 key).toNat]'hx14_3).t.high, ((L18_2)[(findC (tsL L18_2) 0 key).toNat]'hx14_3).t.right⟩⟩ : LnkL)) hx14_3 (by simp) rfl) rfl (fun w14_5 (hM14_5 : Mem w w14_5 [] [[⟨.slice (A113_6) (((insF (((L18_2)[(findC (tsL L18_2) 0 key).toNat]'hx13_2).t.keys) key).getD []).length) (c113_6), 3, 1, (((insF (((L18_2)[(findC (tsL L18_2) 0 key).toNat]'hx13_2).t.keys) key).getD []).length), ((insF (((L18_2)[(findC (tsL L18_2) 0 key).toNat]'hx13_2).t.keys) key).getD []).map I⟩], [⟨.slice (A18_2) ((L18_2).length) (c18_2), 28, 3, ((L18_2).length), ((L18_2).set ((findC (tsL L18_2) 0 key).toNat) (⟨A113_6, c113_6, ⟨(insF (((L18_2)[(findC (tsL L18_2) 0 key).toNat]'hx13_2).t.keys) key).getD [], ((L18_2)[(findC (tsL L18_2) 0 key).toNat]'hx14_3).t.high, ((L18_2)[(findC (tsL L18_2) 0 key).toNat]'hx14_3).t.right⟩⟩ : LnkL)).flatMap encL⟩], (L18_2).map (keyF 3), [⟨.slice (A13_1) ((L13_1).length) (c13_1), 28, 3, ((L13_1).length), (L13_1).flatMap encL⟩], (L13_1).map (keyF 3)]) => ?_)
            refine O.nil ?_
            have hMk14 : Mem w w14_5 [] [((L18_2).set ((findC (tsL L18_2) 0 key).toNat) (⟨A113_6, c113_6, ⟨(insF (((L18_2)[(findC (tsL L18_2) 0 key).toNat]'hx13_2).t.keys) key).getD [], ((L18_2)[(findC (tsL L18_2) 0 key).toNat]'hx14_3).t.high, ((L18_2)[(findC (tsL L18_2) 0 key).toNat]'hx14_3).t.right⟩⟩ : LnkL)).map (keyF 3), [⟨.slice (A18_2) ((L18_2).length) (c18_2), 28, 3, ((L18_2).length), ((L18_2).set ((findC (tsL L18_2) 0 key).toNat) (⟨A113_6, c113_6, ⟨(insF (((L18_2)[(findC (tsL L18_2) 0 key).toNat]'hx13_2).t.keys) key).getD [], ((L18_2)[(findC (tsL L18_2) 0 key).toNat]'hx14_3).t.high, ((L18_2)[(findC (tsL L18_2) 0 key).toNat]'hx14_3).t.right⟩⟩ : LnkL)).flatMap encL⟩], [⟨.slice (A13_1) ((L13_1).length) (c13_1), 28, 3, ((L13_1).length), (L13_1).flatMap encL⟩], (L13_1).map (keyF 3)] := Mem.kset (l := L18_2) (x := (⟨A113_6, c113_6, ⟨(insF (((L18_2)[(findC (tsL L18_2) 0 key).toNat]'hx13_2).t.keys) key).getD [], ((L18_2)[(findC (tsL L18_2) 0 key).toNat]'hx14_3).t.high, ((L18_2)[(findC (tsL L18_2) 0 key).toNat]'hx14_3).t.right⟩⟩ : LnkL)) (M := [[⟨.slice (A18_2) ((L18_2).length) (c18_2), 28, 3, ((L18_2).length), ((L18_2).set ((findC (tsL L18_2) 0 key).toNat) (⟨A113_6, c113_6, ⟨(insF (((L18_2)[(findC (tsL L18_2) 0 key).toNat]'hx13_2).t.keys) key).getD [], ((L18_2)[(findC (tsL L18_2) 0 key).toNat]'hx14_3).t.high, ((L18_2)[(findC (tsL L18_2) 0 key).toNat]'hx14_3).t.right⟩⟩ : LnkL)).flatMap encL⟩], [⟨.slice (A13_1) ((L13_1).length) (c13_1), 28, 3, ((L13_1).length), (L13_1).flatMap encL⟩], (L13_1).map (keyF 3)]) (hM14_5.pick [2, 0, 1, 3, 4] (by decide) rfl) ((findC (tsL L18_2) 0 key).toNat)
            refine C.seq ?_
            refine C.region ?_
            refine O.val (v := .slice (A18_2) ((L18_2).length) (c18_2)) rfl (Ru.move rfl) rfl ?_
            refine O.val (v := .slice (A18_2) ((L18_2).length) (c18_2)) rfl (Ru.assign rfl) rfl ?_
            refine O.val (v := .bool (true)) rfl (Ru.assign rfl) rfl ?_
            refine O.nil ?_
            refine C.ret ?_
            refine P2 (v := .slice (A18_2) ((L18_2).length) (c18_2)) (v' := .bool (true)) rfl rfl ?_
            have hq15 : ((L18_2).set ((findC (tsL L18_2) 0 key).toNat) (⟨A113_6, c113_6, ⟨(insF (((L18_2)[(findC (tsL L18_2) 0 key).toNat]'hx13_2).t.keys) key).getD [], ((L18_2)[(findC (tsL L18_2) 0 key).toNat]'hx14_3).t.high, ((L18_2)[(findC (tsL L18_2) 0 key).toNat]'hx14_3).t.right⟩⟩ : LnkL) : List LnkL) = ((L18_2).set ((findC (tsL L18_2) 0 key).toNat) (⟨A113_6, c113_6, ⟨(insF (((L18_2)[(findC (tsL L18_2) 0 key).toNat]'hx13_2).t.keys) key).getD [], ((L18_2)[(findC (tsL L18_2) 0 key).toNat]'hx14_3).t.high, ((L18_2)[(findC (tsL L18_2) 0 key).toNat]'hx14_3).t.right⟩⟩ : LnkL)) := (by first | rfl | simp | (simp; omega))
            have hMn15 : Mem w w14_5 [] [((L18_2).set ((findC (tsL L18_2) 0 key).toNat) (⟨A113_6, c113_6, ⟨(insF (((L18_2)[(findC (tsL L18_2) 0 key).toNat]'hx13_2).t.keys) key).getD [], ((L18_2)[(findC (tsL L18_2) 0 key).toNat]'hx14_3).t.high, ((L18_2)[(findC (tsL L18_2) 0 key).toNat]'hx14_3).t.right⟩⟩ : LnkL)).map (keyF 3), [⟨.slice (A18_2) (((L18_2).set ((findC (tsL L18_2) 0 key).toNat) (⟨A113_6, c113_6, ⟨(insF (((L18_2)[(findC (tsL L18_2) 0 key).toNat]'hx13_2).t.keys) key).getD [], ((L18_2)[(findC (tsL L18_2) 0 key).toNat]'hx14_3).t.high, ((L18_2)[(findC (tsL L18_2) 0 key).toNat]'hx14_3).t.right⟩⟩ : LnkL)).length) (c18_2), 28, 3, (((L18_2).set ((findC (tsL L18_2) 0 key).toNat) (⟨A113_6, c113_6, ⟨(insF (((L18_2)[(findC (tsL L18_2) 0 key).toNat]'hx13_2).t.keys) key).getD [], ((L18_2)[(findC (tsL L18_2) 0 key).toNat]'hx14_3).t.high, ((L18_2)[(findC (tsL L18_2) 0 key).toNat]'hx14_3).t.right⟩⟩ : LnkL)).length), (((L18_2).set ((findC (tsL L18_2) 0 key).toNat) (⟨A113_6, c113_6, ⟨(insF (((L18_2)[(findC (tsL L18_2) 0 key).toNat]'hx13_2).t.keys) key).getD [], ((L18_2)[(findC (tsL L18_2) 0 key).toNat]'hx14_3).t.high, ((L18_2)[(findC (tsL L18_2) 0 key).toNat]'hx14_3).t.right⟩⟩ : LnkL))).flatMap encL⟩], [⟨.slice (A13_1) ((L13_1).length) (c13_1), 28, 3, ((L13_1).length), (L13_1).flatMap encL⟩], (L13_1).map (keyF 3)] := hMk14.relen 1 (n' := ((L18_2).set ((findC (tsL L18_2) 0 key).toNat) (⟨A113_6, c113_6, ⟨(insF (((L18_2)[(findC (tsL L18_2) 0 key).toNat]'hx13_2).t.keys) key).getD [], ((L18_2)[(findC (tsL L18_2) 0 key).toNat]'hx14_3).t.high, ((L18_2)[(findC (tsL L18_2) 0 key).toNat]'hx14_3).t.right⟩⟩ : LnkL)).length) (xs' := (((L18_2).set ((findC (tsL L18_2) 0 key).toNat) (⟨A113_6, c113_6, ⟨(insF (((L18_2)[(findC (tsL L18_2) 0 key).toNat]'hx13_2).t.keys) key).getD [], ((L18_2)[(findC (tsL L18_2) 0 key).toNat]'hx14_3).t.high, ((L18_2)[(findC (tsL L18_2) 0 key).toNat]'hx14_3).t.right⟩⟩ : LnkL))).flatMap encL) rfl (by first | rfl | exact congrArg List.length hq15 | (have hqq := congrArg List.length hq15; first | omega | (simp at hqq ⊢; omega)) | (simp; done) | (simp; omega)) (congrArg (fun z_ => (z_).flatMap encL) hq15) rfl
            exact ⟨(L18_2).set ((findC (tsL L18_2) 0 key).toNat) (⟨A113_6, c113_6, ⟨(insF (((L18_2)[(findC (tsL L18_2) 0 key).toNat]'hx13_2).t.keys) key).getD [], ((L18_2)[(findC (tsL L18_2) 0 key).toNat]'hx14_3).t.high, ((L18_2)[(findC (tsL L18_2) 0 key).toNat]'hx14_3).t.right⟩⟩ : LnkL), A18_2, c18_2, (by rw [hpf]; first | rfl | simp), (by rw [hpf, Option.getD_some]; exact put_ts hfl (by rw [hins]; rfl)), (hMn15.pick [1, 0] (by decide) rfl)⟩
        · refine C.skip ?_
          refine C.seq ?_
          have hvL : validC (tsL L13_1) = true := by rw [hts3_1]; exact hv
          have hfl := hf1.2
          have hnk := hni
          have hpf : putF (tsL l) key = some (putAt (tsL L13_1) (findC (tsL L13_1) 0 key).toNat key) := by rw [hts3_1]; exact putF_here hv hky (by rw [← hgl]; exact hni) (by rw [← hgl]; first | omega | (intro h9; simp at *; omega))
          have hk13 := valid_all hvL _ (List.getElem_mem hfl)
          have hins := ins_yes hk13.2 hky hnk
          have hcp13 := Mem.ncap hM5_6 1 rfl _ (List.getElem_mem hfl)
          refine C.region ?_
          refine O.val (v := .slice (A13_1) ((L13_1).length) (c13_1)) rfl (Ru.move rfl) rfl ?_
          refine O.val (v := I (findC (tsL L13_1) 0 key)) rfl (Ru.move rfl) rfl ?_
          have hx13_2 : (findC (tsL L13_1) 0 key).toNat < (L13_1).length := hfl
          refine O.val (v := .pointer (ofs (A13_1) (((findC (tsL L13_1) 0 key).toNat) * 3))) rfl (Ru.indexA (j := (findC (tsL L13_1) 0 key).toNat) Try.underlying23 el28 rfl rfl (smf encL_len (hM5_6.rd 0 rfl) hx13_2 rfl) (by omega) (by first | omega | (simp; omega))) rfl ?_
          refine O.val (v := .pointer (ofs (A13_1) (((findC (tsL L13_1) 0 key).toNat) * 3 + 0))) rfl (Ru.fieldA fl28_0 rfl (smf encL_len (hM5_6.rd 0 rfl) hx13_2 rfl)) rfl ?_
          refine O.val rfl (Ru.load1 el26 rfl (ldf encL_len (hM5_6.rd 0 rfl) hx13_2 rfl)) rfl ?_
          refine O.val (v := I (key)) rfl (Ru.move rfl) rfl ?_
          refine O.callg [.slice (((L13_1)[(findC (tsL L13_1) 0 key).toNat]'hx13_2).A) ((((L13_1)[(findC (tsL L13_1) 0 key).toNat]'hx13_2).t.keys).length) (((L13_1)[(findC (tsL L13_1) 0 key).toNat]'hx13_2).cp), I (key)] rfl en61 (by first | rfl | (rw [show (((L13_1)[(findC (tsL L13_1) 0 key).toNat]'hx13_2).t.keys).length = ((L13_1)[(findC (tsL L13_1) 0 key).toNat]'hx13_2).t.keys.length from (by first | rfl | (simp; done) | omega | (simp; omega))]; rfl)) rfl (sInsertKey_fn (((L13_1)[(findC (tsL L13_1) 0 key).toNat]'hx13_2).A) (((L13_1)[(findC (tsL L13_1) 0 key).toNat]'hx13_2).cp) (((L13_1)[(findC (tsL L13_1) 0 key).toNat]'hx13_2).t.keys) key w5_6 ((Nst.mem hM5_6 1 rfl).get hx13_2) (by omega) (by exact hcp13)) ?_
          rintro _ w13_6 ⟨A113_6, c113_6, rfl, hR13_6⟩
          have hM13_6 : Mem w w13_6 [] [[⟨.slice (A113_6) (((insF (((L13_1)[(findC (tsL L13_1) 0 key).toNat]'hx13_2).t.keys) key).getD []).length) (c113_6), 3, 1, (((insF (((L13_1)[(findC (tsL L13_1) 0 key).toNat]'hx13_2).t.keys) key).getD []).length), ((insF (((L13_1)[(findC (tsL L13_1) 0 key).toNat]'hx13_2).t.keys) key).getD []).map I⟩], [⟨.slice (A13_1) ((L13_1).length) (c13_1), 28, 3, ((L13_1).length), (L13_1).flatMap encL⟩], (L13_1).map (keyF 3)] := Mem.call (Ma := []) hM5_6 hR13_6 rfl
          have hcr13_6_0 := (hM13_6.cap 0 rfl).1
          refine O.val (v := .tuple #[.slice (A113_6) (((insF (((L13_1)[(findC (tsL L13_1) 0 key).toNat]'hx13_2).t.keys) key).getD []).length) (c113_6), .bool ((insF (((L13_1)[(findC (tsL L13_1) 0 key).toNat]'hx13_2).t.keys) key).isSome)]) rfl (Ru.move rfl) rfl ?_
          refine O.val (v := .slice (A113_6) (((insF (((L13_1)[(findC (tsL L13_1) 0 key).toNat]'hx13_2).t.keys) key).getD []).length) (c113_6)) rfl (Ru.extract rfl rfl) rfl ?_
          refine O.val (v := .bool ((insF (((L13_1)[(findC (tsL L13_1) 0 key).toNat]'hx13_2).t.keys) key).isSome)) rfl (Ru.extract rfl rfl) rfl ?_
          refine O.val (v := .slice (A113_6) (((insF (((L13_1)[(findC (tsL L13_1) 0 key).toNat]'hx13_2).t.keys) key).getD []).length) (c113_6)) rfl (Ru.assign rfl) rfl ?_
          refine O.val (v := .bool ((insF (((L13_1)[(findC (tsL L13_1) 0 key).toNat]'hx13_2).t.keys) key).isSome)) rfl (Ru.assign rfl) rfl ?_
          refine O.nil ?_
          refine C.seq ?_
          refine C.region ?_
          refine O.val (v := .slice (A13_1) ((L13_1).length) (c13_1)) rfl (Ru.move rfl) rfl ?_
          refine O.val (v := I (findC (tsL L13_1) 0 key)) rfl (Ru.move rfl) rfl ?_
          refine O.val (v := .slice (A113_6) (((insF (((L13_1)[(findC (tsL L13_1) 0 key).toNat]'hx13_2).t.keys) key).getD []).length) (c113_6)) rfl (Ru.move rfl) rfl ?_
          have hx14_3 : (findC (tsL L13_1) 0 key).toNat < (L13_1).length := hfl
          refine O.val (v := .pointer (ofs (A13_1) (((findC (tsL L13_1) 0 key).toNat) * 3))) rfl (Ru.indexA (j := (findC (tsL L13_1) 0 key).toNat) Try.underlying23 el28 rfl rfl (smf encL_len (hM13_6.rd 1 rfl) hx14_3 rfl) (by omega) (by first | omega | (simp; omega))) rfl ?_
          refine O.val (v := .pointer (ofs (A13_1) (((findC (tsL L13_1) 0 key).toNat) * 3 + 0))) rfl (Ru.fieldA fl28_0 rfl (smf encL_len (hM13_6.rd 1 rfl) hx14_3 rfl)) rfl ?_
          refine O.mstore (vs := [.slice (A113_6) (((insF (((L13_1)[(findC (tsL L13_1) 0 key).toNat]'hx13_2).t.keys) key).getD []).length) (c113_6)]) (xs' := ((L13_1).set ((findC (tsL L13_1) 0 key).toNat) (⟨A113_6, c113_6, ⟨(insF (((L13_1)[(findC (tsL L13_1) 0 key).toNat]'hx13_2).t.keys) key).getD [], ((L13_1)[(findC (tsL L13_1) 0 key).toNat]'hx14_3).t.high, ((L13_1)[(findC (tsL L13_1) 0 key).toNat]'hx14_3).t.right⟩⟩ : LnkL)).flatMap encL) 1 0 hM13_6 rfl rfl rfl el26 rfl rfl rfl rfl rfl (by rw [flat_len encL_len]; simp; omega) (by simp) (spl_part encL_len (l := L13_1) (a := (⟨A113_6, c113_6, ⟨(insF (((L13_1)[(findC (tsL L13_1) 0 key).toNat]'hx13_2).t.keys) key).getD [], ((L13_1)[(findC (tsL L13_1) 0 key).toNat]'hx14_3).t.high, ((L13_1)[(findC (tsL L13_1) 0 key).toNat]'hx14_3).t.right⟩⟩ : LnkL)) hx14_3 (by simp) rfl) rfl (fun w14_5 (hM14_5 : Mem w w14_5 [] [[⟨.slice (A113_6) (((insF (((L13_1)[(findC (tsL L13_1) 0 key).toNat]'hx13_2).t.keys) key).getD []).length) (c113_6), 3, 1, (((insF (((L13_1)[(findC (tsL L13_1) 0 key).toNat]'hx13_2).t.keys) key).getD []).length), ((insF (((L13_1)[(findC (tsL L13_1) 0 key).toNat]'hx13_2).t.keys) key).getD []).map I⟩], [⟨.slice (A13_1) ((L13_1).length) (c13_1), 28, 3, ((L13_1).length), ((L13_1).set ((findC (tsL L13_1) 0 key).toNat) (⟨A113_6, c113_6, ⟨(insF (((L13_1)[(findC (tsL L13_1) 0 key).toNat]'hx13_2).t.keys) key).getD [], ((L13_1)[(findC (tsL L13_1) 0 key).toNat]'hx14_3).t.high, ((L13_1)[(findC (tsL L13_1) 0 key).toNat]'hx14_3).t.right⟩⟩ : LnkL)).flatMap encL⟩], (L13_1).map (keyF 3)]) => ?_)
          refine O.nil ?_
          have hMk17 : Mem w w14_5 [] [((L13_1).set ((findC (tsL L13_1) 0 key).toNat) (⟨A113_6, c113_6, ⟨(insF (((L13_1)[(findC (tsL L13_1) 0 key).toNat]'hx13_2).t.keys) key).getD [], ((L13_1)[(findC (tsL L13_1) 0 key).toNat]'hx14_3).t.high, ((L13_1)[(findC (tsL L13_1) 0 key).toNat]'hx14_3).t.right⟩⟩ : LnkL)).map (keyF 3), [⟨.slice (A13_1) ((L13_1).length) (c13_1), 28, 3, ((L13_1).length), ((L13_1).set ((findC (tsL L13_1) 0 key).toNat) (⟨A113_6, c113_6, ⟨(insF (((L13_1)[(findC (tsL L13_1) 0 key).toNat]'hx13_2).t.keys) key).getD [], ((L13_1)[(findC (tsL L13_1) 0 key).toNat]'hx14_3).t.high, ((L13_1)[(findC (tsL L13_1) 0 key).toNat]'hx14_3).t.right⟩⟩ : LnkL)).flatMap encL⟩]] := Mem.kset (l := L13_1) (x := (⟨A113_6, c113_6, ⟨(insF (((L13_1)[(findC (tsL L13_1) 0 key).toNat]'hx13_2).t.keys) key).getD [], ((L13_1)[(findC (tsL L13_1) 0 key).toNat]'hx14_3).t.high, ((L13_1)[(findC (tsL L13_1) 0 key).toNat]'hx14_3).t.right⟩⟩ : LnkL)) (M := [[⟨.slice (A13_1) ((L13_1).length) (c13_1), 28, 3, ((L13_1).length), ((L13_1).set ((findC (tsL L13_1) 0 key).toNat) (⟨A113_6, c113_6, ⟨(insF (((L13_1)[(findC (tsL L13_1) 0 key).toNat]'hx13_2).t.keys) key).getD [], ((L13_1)[(findC (tsL L13_1) 0 key).toNat]'hx14_3).t.high, ((L13_1)[(findC (tsL L13_1) 0 key).toNat]'hx14_3).t.right⟩⟩ : LnkL)).flatMap encL⟩]]) (hM14_5.pick [2, 0, 1] (by decide) rfl) ((findC (tsL L13_1) 0 key).toNat)
          refine C.seq ?_
          refine C.region ?_
          refine O.val (v := .slice (A13_1) ((L13_1).length) (c13_1)) rfl (Ru.move rfl) rfl ?_
          refine O.val (v := .slice (A13_1) ((L13_1).length) (c13_1)) rfl (Ru.assign rfl) rfl ?_
          refine O.val (v := .bool (true)) rfl (Ru.assign rfl) rfl ?_
          refine O.nil ?_
          refine C.ret ?_
          refine P2 (v := .slice (A13_1) ((L13_1).length) (c13_1)) (v' := .bool (true)) rfl rfl ?_
          have hq18 : ((L13_1).set ((findC (tsL L13_1) 0 key).toNat) (⟨A113_6, c113_6, ⟨(insF (((L13_1)[(findC (tsL L13_1) 0 key).toNat]'hx13_2).t.keys) key).getD [], ((L13_1)[(findC (tsL L13_1) 0 key).toNat]'hx14_3).t.high, ((L13_1)[(findC (tsL L13_1) 0 key).toNat]'hx14_3).t.right⟩⟩ : LnkL) : List LnkL) = ((L13_1).set ((findC (tsL L13_1) 0 key).toNat) (⟨A113_6, c113_6, ⟨(insF (((L13_1)[(findC (tsL L13_1) 0 key).toNat]'hx13_2).t.keys) key).getD [], ((L13_1)[(findC (tsL L13_1) 0 key).toNat]'hx14_3).t.high, ((L13_1)[(findC (tsL L13_1) 0 key).toNat]'hx14_3).t.right⟩⟩ : LnkL)) := (by first | rfl | simp | (simp; omega))
          have hMn18 : Mem w w14_5 [] [((L13_1).set ((findC (tsL L13_1) 0 key).toNat) (⟨A113_6, c113_6, ⟨(insF (((L13_1)[(findC (tsL L13_1) 0 key).toNat]'hx13_2).t.keys) key).getD [], ((L13_1)[(findC (tsL L13_1) 0 key).toNat]'hx14_3).t.high, ((L13_1)[(findC (tsL L13_1) 0 key).toNat]'hx14_3).t.right⟩⟩ : LnkL)).map (keyF 3), [⟨.slice (A13_1) (((L13_1).set ((findC (tsL L13_1) 0 key).toNat) (⟨A113_6, c113_6, ⟨(insF (((L13_1)[(findC (tsL L13_1) 0 key).toNat]'hx13_2).t.keys) key).getD [], ((L13_1)[(findC (tsL L13_1) 0 key).toNat]'hx14_3).t.high, ((L13_1)[(findC (tsL L13_1) 0 key).toNat]'hx14_3).t.right⟩⟩ : LnkL)).length) (c13_1), 28, 3, (((L13_1).set ((findC (tsL L13_1) 0 key).toNat) (⟨A113_6, c113_6, ⟨(insF (((L13_1)[(findC (tsL L13_1) 0 key).toNat]'hx13_2).t.keys) key).getD [], ((L13_1)[(findC (tsL L13_1) 0 key).toNat]'hx14_3).t.high, ((L13_1)[(findC (tsL L13_1) 0 key).toNat]'hx14_3).t.right⟩⟩ : LnkL)).length), (((L13_1).set ((findC (tsL L13_1) 0 key).toNat) (⟨A113_6, c113_6, ⟨(insF (((L13_1)[(findC (tsL L13_1) 0 key).toNat]'hx13_2).t.keys) key).getD [], ((L13_1)[(findC (tsL L13_1) 0 key).toNat]'hx14_3).t.high, ((L13_1)[(findC (tsL L13_1) 0 key).toNat]'hx14_3).t.right⟩⟩ : LnkL))).flatMap encL⟩]] := hMk17.relen 1 (n' := ((L13_1).set ((findC (tsL L13_1) 0 key).toNat) (⟨A113_6, c113_6, ⟨(insF (((L13_1)[(findC (tsL L13_1) 0 key).toNat]'hx13_2).t.keys) key).getD [], ((L13_1)[(findC (tsL L13_1) 0 key).toNat]'hx14_3).t.high, ((L13_1)[(findC (tsL L13_1) 0 key).toNat]'hx14_3).t.right⟩⟩ : LnkL)).length) (xs' := (((L13_1).set ((findC (tsL L13_1) 0 key).toNat) (⟨A113_6, c113_6, ⟨(insF (((L13_1)[(findC (tsL L13_1) 0 key).toNat]'hx13_2).t.keys) key).getD [], ((L13_1)[(findC (tsL L13_1) 0 key).toNat]'hx14_3).t.high, ((L13_1)[(findC (tsL L13_1) 0 key).toNat]'hx14_3).t.right⟩⟩ : LnkL))).flatMap encL) rfl (by first | rfl | exact congrArg List.length hq18 | (have hqq := congrArg List.length hq18; first | omega | (simp at hqq ⊢; omega)) | (simp; done) | (simp; omega)) (congrArg (fun z_ => (z_).flatMap encL) hq18) rfl
          exact ⟨(L13_1).set ((findC (tsL L13_1) 0 key).toNat) (⟨A113_6, c113_6, ⟨(insF (((L13_1)[(findC (tsL L13_1) 0 key).toNat]'hx13_2).t.keys) key).getD [], ((L13_1)[(findC (tsL L13_1) 0 key).toNat]'hx14_3).t.high, ((L13_1)[(findC (tsL L13_1) 0 key).toNat]'hx14_3).t.right⟩⟩ : LnkL), A13_1, c13_1, (by rw [hpf]; first | rfl | simp), (by rw [hpf, Option.getD_some]; exact put_ts hfl (by rw [hins]; rfl)), (hMn18.pick [1, 0] (by decide) rfl)⟩
end Go.Proofs.Yteljpjapacajoaa
