/- Own layer: part of this seat (F0). Plain theorems; no conditions. -/
import Derived.Test.YtekfncmhinbghaaK0
set_option linter.unusedVariables false
set_option linter.unusedSimpArgs false
namespace Go.Proofs.Ytekfncmhinbghaa
open Go.Px
theorem inRange_fn (a b c : Int) (w : World) :
    Does Try.prog 62 [I (a), I (b), I (c)] w (fun v w1 => v = .bool (decide (b ≤ a) && decide (a ≤ c)) ∧ w.grownBy w1 none) := by
  refine Does.enter1 Try.func62 rfl Try.results62 Try.ntmps62 rfl ?_
  refine C.seq ?_
  refine C.region ?_
  refine O.val (v := .bool (false)) rfl (Ru.assign rfl) rfl ?_
  refine O.nil ?_
  refine C.seq ?_
  refine C.region ?_
  refine O.val (v := I (b)) rfl (Ru.move rfl) rfl ?_
  refine O.val (v := I (a)) rfl (Ru.move rfl) rfl ?_
  refine O.val (v := .bool (decide (b ≤ a))) rfl (Ru.leq rfl rfl) rfl ?_
  refine O.val (v := .bool (decide (b ≤ a))) rfl (Ru.move rfl) rfl ?_
  refine O.partp 10 (b ≤ a) rfl (fun g10 => ?_) (fun g10 => ?_)
  · refine O.val (v := I (a)) rfl (Ru.move rfl) rfl ?_
    refine O.val (v := I (c)) rfl (Ru.move rfl) rfl ?_
    refine O.val (v := .bool (decide (a ≤ c))) rfl (Ru.leq rfl rfl) rfl ?_
    refine O.val (v := .bool (decide (a ≤ c))) rfl (Ru.pickT rfl rfl) rfl ?_
    refine O.val (v := .bool (decide (a ≤ c))) rfl (Ru.assign rfl) rfl ?_
    refine O.nil ?_
    refine C.ret ?_
    refine P1 (v := .bool (decide (a ≤ c))) rfl ?_
    exact ⟨by simp [g10], (krefl w none)⟩
  · refine O.pass rfl rfl rfl rfl rfl ?_
    refine O.pass rfl rfl rfl rfl rfl ?_
    refine O.pass rfl rfl rfl rfl rfl ?_
    refine O.val (v := .bool (false)) rfl (Ru.pickF rfl rfl) rfl ?_
    refine O.val (v := .bool (false)) rfl (Ru.assign rfl) rfl ?_
    refine O.nil ?_
    refine C.ret ?_
    refine P1 (v := .bool (false)) rfl ?_
    exact ⟨by simp [g10], (krefl w none)⟩

theorem isWord_fn (s : Str) (hs : s.length ≤ 9223372036854775807) (w : World) :
    Does Try.prog 49 [S (s)] w (fun v w1 => v = .bool (isWordB s) ∧ w.grownBy w1 none) := by
  refine Does.enter1 Try.func49 rfl Try.results49 Try.ntmps49 rfl ?_
  refine C.seq ?_
  refine C.region ?_
  refine O.val (v := .bool (false)) rfl (Ru.assign rfl) rfl ?_
  refine O.nil ?_
  refine C.seq ?_
  refine C.seq ?_
  refine C.region ?_
  refine O.val (v := S (s)) rfl (Ru.move rfl) rfl ?_
  refine O.val (v := I (((s).length : Int))) rfl (Ru.slen Try.underlying9 rfl) rfl ?_
  refine O.val (v := .bool (decide (((s).length : Int) < 1))) rfl (Ru.lss rfl rfl) rfl ?_
  refine O.val (v := .bool (decide (((s).length : Int) < 1))) rfl (Ru.move rfl) rfl ?_
  refine O.partp 7 (((s).length : Int) < 1) rfl (fun g7 => ?_) (fun g7 => ?_)
  · refine O.pass rfl rfl rfl rfl rfl ?_
    refine O.pass rfl rfl rfl rfl rfl ?_
    refine O.pass rfl rfl rfl rfl rfl ?_
    refine O.val (v := .bool (true)) rfl (Ru.pickT rfl rfl) rfl ?_
    refine O.nil ?_
    refine C.condT rfl ?_
    refine C.seq ?_
    refine C.region ?_
    refine O.val (v := .bool (false)) rfl (Ru.assign rfl) rfl ?_
    refine O.nil ?_
    refine C.ret ?_
    refine P1 (v := .bool (false)) rfl ?_
    exact ⟨by simp [isWordB]; omega, (krefl w none)⟩
  · refine O.val (v := S (s)) rfl (Ru.move rfl) rfl ?_
    refine O.val (v := I (((s).length : Int))) rfl (Ru.slen Try.underlying9 rfl) rfl ?_
    refine O.val (v := .bool (decide (((s).length : Int) > 8))) rfl (Ru.gtr rfl rfl) rfl ?_
    refine O.val (v := .bool (decide (((s).length : Int) > 8))) rfl (Ru.pickF rfl rfl) rfl ?_
    refine O.nil ?_
    refine C.cond (p := ((s).length : Int) > 8) rfl (fun c11 => ?_) (fun c11 => ?_)
    · refine C.seq ?_
      refine C.region ?_
      refine O.val (v := .bool (false)) rfl (Ru.assign rfl) rfl ?_
      refine O.nil ?_
      refine C.ret ?_
      refine P1 (v := .bool (false)) rfl ?_
      exact ⟨by simp [isWordB]; omega, (krefl w none)⟩
    · refine C.skip ?_
      refine C.seq ?_
      refine C.seq ?_
      refine C.region ?_
      refine O.val (v := S (s)) rfl (Ru.move rfl) rfl ?_
      refine O.val (v := I (((s).length : Int))) rfl (Ru.slen Try.underlying9 rfl) rfl ?_
      refine O.val (v := I (0)) rfl (Ru.move rfl) rfl ?_
      refine O.nil ?_
      refine C.block ?_
      refine C.loop (ι := Nat) (fun k => ([(0, S (s)), (13, I (((s).length : Int))), (14, I ((k : Int)))] : List (Nat × Value))) (fun k w_ => k ≤ s.length ∧ (s.take k).all lowB = true ∧ w.grownBy w_ none) (fun k => s.length - k) (0) (Has.cons rfl (Has.cons rfl (Has.cons rfl Has.nil))) ⟨Nat.zero_le _, by simp, krefl _ _⟩ (fun k σ w_l4 hI => ?_)
      obtain ⟨hk, ha, hK⟩ := hI
      refine C.seq ?_
      refine C.region ?_
      refine O.val (v := .bool (decide ((k : Int) < ((s).length : Int)))) rfl (Ru.lss rfl rfl) rfl ?_
      refine O.nil ?_
      refine C.seq ?_
      refine C.cond (p := (k : Int) < ((s).length : Int)) rfl (fun c15 => ?_) (fun c15 => ?_)
      · have hk1 : k < s.length := by omega
        refine C.skip ?_
        refine C.seq ?_
        refine C.block ?_
        refine C.seq ?_
        refine C.region ?_
        refine O.val (v := I ((k : Int))) rfl (Ru.move rfl) rfl ?_
        refine O.val (v := I ((k : Int))) rfl (Ru.assign rfl) rfl ?_
        refine O.nil ?_
        refine C.seq ?_
        refine C.region ?_
        refine O.val (v := S (s)) rfl (Ru.move rfl) rfl ?_
        refine O.val (v := I ((k : Int))) rfl (Ru.move rfl) rfl ?_
        refine O.val (v := .int .u8 ((((s)[k]'hk1).toNat : Int))) rfl (Ru.sindex (k) hk1 Try.underlying9 rfl rfl (by omega) (by omega)) rfl ?_
        refine O.val (v := .bool (decide ((((s)[k]'hk1).toNat : Int) < 97))) rfl (Ru.lss rfl rfl) rfl ?_
        refine O.val (v := .bool (decide ((((s)[k]'hk1).toNat : Int) < 97))) rfl (Ru.move rfl) rfl ?_
        refine O.partp 21 ((((s)[k]'hk1).toNat : Int) < 97) rfl (fun g21 => ?_) (fun g21 => ?_)
        · refine O.pass rfl rfl rfl rfl rfl ?_
          refine O.pass rfl rfl rfl rfl rfl ?_
          refine O.pass rfl rfl rfl rfl rfl ?_
          refine O.pass rfl rfl rfl rfl rfl ?_
          refine O.val (v := .bool (true)) rfl (Ru.pickT rfl rfl) rfl ?_
          refine O.nil ?_
          refine C.condT rfl ?_
          refine C.seq ?_
          refine C.region ?_
          refine O.val (v := .bool (false)) rfl (Ru.assign rfl) rfl ?_
          refine O.nil ?_
          refine C.ret ?_
          refine P1 (v := .bool (false)) rfl ?_
          exact ⟨by rw [isWordB, all_not hk1 (by simp [lowB]; omega)]; simp, hK⟩
        · refine O.val (v := S (s)) rfl (Ru.move rfl) rfl ?_
          refine O.val (v := I ((k : Int))) rfl (Ru.move rfl) rfl ?_
          refine O.val (v := .int .u8 ((((s)[k]'hk1).toNat : Int))) rfl (Ru.sindex (k) hk1 Try.underlying9 rfl rfl (by omega) (by omega)) rfl ?_
          refine O.val (v := .bool (decide ((((s)[k]'hk1).toNat : Int) > 122))) rfl (Ru.gtr rfl rfl) rfl ?_
          refine O.val (v := .bool (decide ((((s)[k]'hk1).toNat : Int) > 122))) rfl (Ru.pickF rfl rfl) rfl ?_
          refine O.nil ?_
          refine C.cond (p := (((s)[k]'hk1).toNat : Int) > 122) rfl (fun c26 => ?_) (fun c26 => ?_)
          · refine C.seq ?_
            refine C.region ?_
            refine O.val (v := .bool (false)) rfl (Ru.assign rfl) rfl ?_
            refine O.nil ?_
            refine C.ret ?_
            refine P1 (v := .bool (false)) rfl ?_
            exact ⟨by rw [isWordB, all_not hk1 (by simp [lowB]; omega)]; simp, hK⟩
          · refine C.skip ?_
            refine C.region ?_
            refine O.val (v := I (((k : Int) + 1))) rfl (Ru.add rfl rfl (by omega)) rfl ?_
            refine O.val (v := I (((k : Int) + 1))) rfl (Ru.move rfl) rfl ?_
            refine O.nil ?_
            refine loopEnd (k + 1) (by omega) (Has.cons rfl (Has.cons rfl (Has.cons rfl Has.nil))) ⟨by omega, all_take_succ ha hk1 (by simp [lowB]; omega), hK⟩
      · refine C.exit ?_
        refine C.seq ?_
        refine C.region ?_
        refine O.val (v := .bool (true)) rfl (Ru.assign rfl) rfl ?_
        refine O.nil ?_
        refine C.ret ?_
        refine P1 (v := .bool (true)) rfl ?_
        exact ⟨by rw [isWordB, show s.all lowB = true from by rwa [List.take_of_length_le (by omega)] at ha]; simp; omega, hK⟩

theorem validWord_fn (s : Str) (hs : s.length ≤ 9223372036854775807) (w : World) :
    Does Try.prog 47 [S (s)] w (fun v w1 => v = .bool (isWordB s) ∧ w.grownBy w1 none) := by
  refine Does.enter1 Try.func47 rfl Try.results47 Try.ntmps47 rfl ?_
  refine C.seq ?_
  refine C.region ?_
  refine O.val (v := .bool (false)) rfl (Ru.assign rfl) rfl ?_
  refine O.nil ?_
  refine C.seq ?_
  refine C.seq ?_
  refine C.region ?_
  refine O.val (v := I (0)) rfl (Ru.assign rfl) rfl ?_
  refine O.nil ?_
  refine C.block ?_
  refine C.loop (ι := Nat) (fun k => ([(0, S (s)), (3, I ((k : Int)))] : List (Nat × Value))) (fun k w_ => k ≤ s.length ∧ (s.take k).all lowB = true ∧ w.grownBy w_ none) (fun k => s.length - k) (0) (Has.cons rfl (Has.cons rfl Has.nil)) ⟨Nat.zero_le _, by simp, krefl _ _⟩ (fun k σ w_l2 hI => ?_)
  obtain ⟨hk, ha, hK⟩ := hI
  refine C.seq ?_
  refine C.seq ?_
  refine C.region ?_
  refine O.val (v := I ((k : Int))) rfl (Ru.move rfl) rfl ?_
  refine O.val (v := S (s)) rfl (Ru.move rfl) rfl ?_
  refine O.val (v := I (((s).length : Int))) rfl (Ru.slen Try.underlying9 rfl) rfl ?_
  refine O.val (v := .bool (decide ((k : Int) < ((s).length : Int)))) rfl (Ru.lss rfl rfl) rfl ?_
  refine O.nil ?_
  refine C.cond (p := (k : Int) < ((s).length : Int)) rfl (fun c7 => ?_) (fun c7 => ?_)
  · have hk1 : k < s.length := by omega
    have hu := u8_le s[k]
    refine C.skip ?_
    refine C.seq ?_
    refine C.block ?_
    refine C.seq ?_
    refine C.region ?_
    refine O.val (v := S (s)) rfl (Ru.move rfl) rfl ?_
    refine O.val (v := I ((k : Int))) rfl (Ru.move rfl) rfl ?_
    refine O.val (v := .int .u8 ((((s)[k]'hk1).toNat : Int))) rfl (Ru.sindex (k) hk1 Try.underlying9 rfl rfl (by omega) (by omega)) rfl ?_
    refine O.val (v := I ((((s)[k]'hk1).toNat : Int))) rfl (Ru.conv (c := (((s)[k]'hk1).toNat : Int)) Try.underlying5 Try.underlying3 rfl (wrap_u8 _ (by omega))) rfl ?_
    refine O.callg [I ((((s)[k]'hk1).toNat : Int)), I (97), I (122)] rfl en62 rfl rfl (inRange_fn ((((s)[k]'hk1).toNat : Int)) (97) (122) w_l2) ?_
    rintro _ w4_4 ⟨rfl, hE4_4⟩
    have hK4_4 := kext hK hE4_4
    refine O.val (v := .bool (!(decide (97 ≤ (((s)[k]'hk1).toNat : Int)) && decide ((((s)[k]'hk1).toNat : Int) ≤ 122)))) rfl (Ru.not rfl) rfl ?_
    refine O.nil ?_
    refine C.condn (b := (decide (97 ≤ (((s)[k]'hk1).toNat : Int)) && decide ((((s)[k]'hk1).toNat : Int) ≤ 122))) rfl (fun c15 => ?_) (fun c15 => ?_)
    · refine C.seq ?_
      refine C.region ?_
      refine O.val (v := .bool (false)) rfl (Ru.assign rfl) rfl ?_
      refine O.nil ?_
      refine C.ret ?_
      refine P1 (v := .bool (false)) rfl ?_
      exact ⟨by rw [isWordB, all_not hk1 (by simp [lowB] at c15 ⊢; omega)]; simp, hK4_4⟩
    · refine C.skip ?_
      refine C.region ?_
      refine O.val (v := I ((k : Int))) rfl (Ru.move rfl) rfl ?_
      refine O.val (v := I (((k : Int) + 1))) rfl (Ru.add rfl rfl (by omega)) rfl ?_
      refine O.val (v := I (((k : Int) + 1))) rfl (Ru.assign rfl) rfl ?_
      refine O.nil ?_
      refine loopEnd (k + 1) (by omega) (Has.cons rfl (Has.cons rfl Has.nil)) ⟨by omega, all_take_succ ha hk1 (by simp [lowB] at c15 ⊢; omega), hK4_4⟩
  · refine C.exit ?_
    refine C.seq ?_
    refine C.region ?_
    refine O.val (v := S (s)) rfl (Ru.move rfl) rfl ?_
    refine O.val (v := I (((s).length : Int))) rfl (Ru.slen Try.underlying9 rfl) rfl ?_
    refine O.callg [I (((s).length : Int)), I (1), I (8)] rfl en62 rfl rfl (inRange_fn (((s).length : Int)) (1) (8) w_l2) ?_
    rintro _ w6_2 ⟨rfl, hE6_2⟩
    have hK6_2 := kext hK hE6_2
    refine O.val (v := .bool (decide (1 ≤ ((s).length : Int)) && decide (((s).length : Int) ≤ 8))) rfl (Ru.assign rfl) rfl ?_
    refine O.nil ?_
    refine C.ret ?_
    refine P1 (v := .bool (decide (1 ≤ ((s).length : Int)) && decide (((s).length : Int) ≤ 8))) rfl ?_
    exact ⟨by rw [isWordB, show s.all lowB = true from by rwa [List.take_of_length_le (by omega)] at ha, show decide ((1 : Int) ≤ (s.length : Int)) = decide (1 ≤ s.length) from decide_eq_decide.2 (by omega), show decide ((s.length : Int) ≤ 8) = decide (s.length ≤ 8) from decide_eq_decide.2 (by omega)]; simp, hK6_2⟩

theorem sameLetters_fn (a b : Str) (ha : a.length ≤ 9223372036854775807) (w : World) :
    Does Try.prog 51 [S (a), S (b)] w (fun v w1 => v = I (comm a b) ∧ w.grownBy w1 none) := by
  refine Does.enter1 Try.func51 rfl Try.results51 Try.ntmps51 rfl ?_
  refine C.seq ?_
  refine C.region ?_
  refine O.val (v := I (0)) rfl (Ru.assign rfl) rfl ?_
  refine O.nil ?_
  refine C.seq ?_
  refine C.region ?_
  refine O.val (v := I (0)) rfl (Ru.assign rfl) rfl ?_
  refine O.nil ?_
  refine C.seq ?_
  refine C.block ?_
  refine C.loop (ι := Nat) (fun k => ([(0, S (a)), (1, S (b)), (5, I ((k : Int)))] : List (Nat × Value))) (fun k w_ => k ≤ comm a b ∧ w.grownBy w_ none) (fun k => a.length - k) (0) (Has.cons rfl (Has.cons rfl (Has.cons rfl Has.nil))) ⟨Nat.zero_le _, krefl _ _⟩ (fun k σ w_l2 hI => ?_)
  obtain ⟨hk, hK⟩ := hI
  refine C.seq ?_
  refine C.seq ?_
  refine C.draws (fun w2 => w_l2.grownBy w2 none) mixed (by kernel_rfl) (kdrawn _) ?_
  refine QO.val (v := I ((k : Int))) rfl (fun w2 hw2 => Ru.move rfl) rfl ?_
  refine QO.val (v := S (a)) rfl (fun w2 hw2 => Ru.move rfl) rfl ?_
  refine QO.val (v := I (((a).length : Int))) rfl (fun w2 hw2 => Ru.slen Try.underlying9 rfl) rfl ?_
  refine QO.val (v := .bool (decide ((k : Int) < ((a).length : Int)))) rfl (fun w2 hw2 => Ru.lss rfl rfl) rfl ?_
  refine QO.val (v := .bool (decide ((k : Int) < ((a).length : Int)))) rfl (fun w2 hw2 => Ru.move rfl) rfl ?_
  refine QO.partp 10 ((k : Int) < ((a).length : Int)) rfl (fun g10 => ?_) (fun g10 => ?_)
  · have hk1 : k < a.length := by omega
    refine QO.val (v := I ((k : Int))) rfl (fun w2 hw2 => Ru.move rfl) rfl ?_
    refine QO.val (v := S (b)) rfl (fun w2 hw2 => Ru.move rfl) rfl ?_
    refine QO.val (v := I (((b).length : Int))) rfl (fun w2 hw2 => Ru.slen Try.underlying9 rfl) rfl ?_
    refine QO.val (v := .bool (decide ((k : Int) < ((b).length : Int)))) rfl (fun w2 hw2 => Ru.lss rfl rfl) rfl ?_
    refine QO.val (v := .bool (decide ((k : Int) < ((b).length : Int)))) rfl (fun w2 hw2 => Ru.pickT rfl rfl) rfl ?_
    refine QO.val (v := .bool (decide ((k : Int) < ((b).length : Int)))) rfl (fun w2 hw2 => Ru.move rfl) rfl ?_
    refine QO.partp 16 ((k : Int) < ((b).length : Int)) rfl (fun g16 => ?_) (fun g16 => ?_)
    · have hk2 : k < b.length := by omega
      refine QO.val (v := S (a)) rfl (fun w2 hw2 => Ru.move rfl) rfl ?_
      refine QO.val (v := I ((k : Int))) rfl (fun w2 hw2 => Ru.move rfl) rfl ?_
      refine QO.val (v := .int .u8 ((((a)[k]'hk1).toNat : Int))) rfl (fun w2 hw2 => Ru.sindex (k) hk1 Try.underlying9 rfl rfl (by omega) (by omega)) rfl ?_
      refine QO.val (v := S (b)) rfl (fun w2 hw2 => Ru.move rfl) rfl ?_
      refine QO.val (v := I ((k : Int))) rfl (fun w2 hw2 => Ru.move rfl) rfl ?_
      refine QO.val (v := .int .u8 ((((b)[k]'hk2).toNat : Int))) rfl (fun w2 hw2 => Ru.sindex (k) hk2 Try.underlying9 rfl rfl (by omega) (by omega)) rfl ?_
      refine QO.val (v := .bool (decide ((((a)[k]'hk1).toNat : Int) = (((b)[k]'hk2).toNat : Int)))) rfl (fun w2 hw2 => Ru.eql rfl rfl) rfl ?_
      refine QO.val (v := .bool (decide ((((a)[k]'hk1).toNat : Int) = (((b)[k]'hk2).toNat : Int)))) rfl (fun w2 hw2 => Ru.pickT rfl rfl) rfl ?_
      refine QO.nil ?_
      intro w2d hE2d
      have hK2d := kext hK hE2d
      refine C.cond (p := (((a)[k]'hk1).toNat : Int) = (((b)[k]'hk2).toNat : Int)) rfl (fun c24 => ?_) (fun c24 => ?_)
      · refine C.skip ?_
        refine C.block ?_
        refine C.region ?_
        refine O.val (v := I ((k : Int))) rfl (Ru.move rfl) rfl ?_
        refine O.val (v := I (((k : Int) + 1))) rfl (Ru.add rfl rfl (by omega)) rfl ?_
        refine O.val (v := I (((k : Int) + 1))) rfl (Ru.assign rfl) rfl ?_
        refine O.nil ?_
        refine loopEnd (k + 1) (by omega) (Has.cons rfl (Has.cons rfl (Has.cons rfl Has.nil))) ⟨comm_step hk hk1 hk2 (by apply UInt8.toNat.inj; omega), hK2d⟩
      · refine C.exit ?_
        refine C.seq ?_
        refine C.region ?_
        refine O.val (v := I ((k : Int))) rfl (Ru.move rfl) rfl ?_
        refine O.val (v := I ((k : Int))) rfl (Ru.assign rfl) rfl ?_
        refine O.nil ?_
        refine C.ret ?_
        refine P1 (v := I ((k : Int))) rfl ?_
        exact ⟨by rw [comm_stop hk (by first | exact .inl (by omega) | exact .inr (.inl (by omega)) | exact .inr (.inr ⟨hk1, hk2, fun e => c24 (by rw [e])⟩))], hK2d⟩
    · refine QO.pass rfl rfl rfl rfl rfl ?_
      refine QO.pass rfl rfl rfl rfl rfl ?_
      refine QO.pass rfl rfl rfl rfl rfl ?_
      refine QO.pass rfl rfl rfl rfl rfl ?_
      refine QO.pass rfl rfl rfl rfl rfl ?_
      refine QO.pass rfl rfl rfl rfl rfl ?_
      refine QO.pass rfl rfl rfl rfl rfl ?_
      refine QO.val (v := .bool (false)) rfl (fun w2 hw2 => Ru.pickF rfl rfl) rfl ?_
      refine QO.nil ?_
      intro w2d hE2d
      have hK2d := kext hK hE2d
      refine C.condF rfl ?_
      refine C.exit ?_
      refine C.seq ?_
      refine C.region ?_
      refine O.val (v := I ((k : Int))) rfl (Ru.move rfl) rfl ?_
      refine O.val (v := I ((k : Int))) rfl (Ru.assign rfl) rfl ?_
      refine O.nil ?_
      refine C.ret ?_
      refine P1 (v := I ((k : Int))) rfl ?_
      exact ⟨by rw [comm_stop hk (by first | exact .inl (by omega) | exact .inr (.inl (by omega)) | exact .inr (.inr ⟨hk1, hk2, fun e => c24 (by rw [e])⟩))], hK2d⟩
  · refine QO.pass rfl rfl rfl rfl rfl ?_
    refine QO.pass rfl rfl rfl rfl rfl ?_
    refine QO.pass rfl rfl rfl rfl rfl ?_
    refine QO.pass rfl rfl rfl rfl rfl ?_
    refine QO.val (v := .bool (false)) rfl (fun w2 hw2 => Ru.pickF rfl rfl) rfl ?_
    refine QO.val (v := .bool (false)) rfl (fun w2 hw2 => Ru.move rfl) rfl ?_
    refine QO.pass rfl rfl rfl rfl rfl ?_
    refine QO.pass rfl rfl rfl rfl rfl ?_
    refine QO.pass rfl rfl rfl rfl rfl ?_
    refine QO.pass rfl rfl rfl rfl rfl ?_
    refine QO.pass rfl rfl rfl rfl rfl ?_
    refine QO.pass rfl rfl rfl rfl rfl ?_
    refine QO.pass rfl rfl rfl rfl rfl ?_
    refine QO.val (v := .bool (false)) rfl (fun w2 hw2 => Ru.pickF rfl rfl) rfl ?_
    refine QO.nil ?_
    intro w2d hE2d
    have hK2d := kext hK hE2d
    refine C.condF rfl ?_
    refine C.exit ?_
    refine C.seq ?_
    refine C.region ?_
    refine O.val (v := I ((k : Int))) rfl (Ru.move rfl) rfl ?_
    refine O.val (v := I ((k : Int))) rfl (Ru.assign rfl) rfl ?_
    refine O.nil ?_
    refine C.ret ?_
    refine P1 (v := I ((k : Int))) rfl ?_
    exact ⟨by rw [comm_stop hk (by first | exact .inl (by omega) | exact .inr (.inl (by omega)) | exact .inr (.inr ⟨hk1, hk2, fun e => c24 (by rw [e])⟩))], hK2d⟩

theorem common_fn (a b : Str) (ha : a.length ≤ 9223372036854775807) (w : World) :
    Does Try.prog 48 [S (a), S (b)] w (fun v w1 => v = I (comm a b) ∧ w.grownBy w1 none) := by
  refine Does.enter1 Try.func48 rfl Try.results48 Try.ntmps48 rfl ?_
  refine C.seq ?_
  refine C.region ?_
  refine O.val (v := I (0)) rfl (Ru.assign rfl) rfl ?_
  refine O.nil ?_
  refine C.seq ?_
  refine C.region ?_
  refine O.val (v := I (0)) rfl (Ru.assign rfl) rfl ?_
  refine O.nil ?_
  refine C.seq ?_
  refine C.block ?_
  refine C.loop (ι := Nat) (fun k => ([(0, S (a)), (1, S (b)), (5, I ((k : Int)))] : List (Nat × Value))) (fun k w_ => k ≤ comm a b ∧ w.grownBy w_ none) (fun k => a.length - k) (0) (Has.cons rfl (Has.cons rfl (Has.cons rfl Has.nil))) ⟨Nat.zero_le _, krefl _ _⟩ (fun k σ w_l2 hI => ?_)
  obtain ⟨hk, hK⟩ := hI
  refine C.seq ?_
  refine C.seq ?_
  refine C.draws (fun w2 => w_l2.grownBy w2 none) mixed (by kernel_rfl) (kdrawn _) ?_
  refine QO.val (v := I ((k : Int))) rfl (fun w2 hw2 => Ru.move rfl) rfl ?_
  refine QO.val (v := S (a)) rfl (fun w2 hw2 => Ru.move rfl) rfl ?_
  refine QO.val (v := I (((a).length : Int))) rfl (fun w2 hw2 => Ru.slen Try.underlying9 rfl) rfl ?_
  refine QO.val (v := .bool (decide ((k : Int) < ((a).length : Int)))) rfl (fun w2 hw2 => Ru.lss rfl rfl) rfl ?_
  refine QO.val (v := .bool (decide ((k : Int) < ((a).length : Int)))) rfl (fun w2 hw2 => Ru.move rfl) rfl ?_
  refine QO.partp 10 ((k : Int) < ((a).length : Int)) rfl (fun g10 => ?_) (fun g10 => ?_)
  · have hk1 : k < a.length := by omega
    refine QO.val (v := I ((k : Int))) rfl (fun w2 hw2 => Ru.move rfl) rfl ?_
    refine QO.val (v := S (b)) rfl (fun w2 hw2 => Ru.move rfl) rfl ?_
    refine QO.val (v := I (((b).length : Int))) rfl (fun w2 hw2 => Ru.slen Try.underlying9 rfl) rfl ?_
    refine QO.val (v := .bool (decide ((k : Int) < ((b).length : Int)))) rfl (fun w2 hw2 => Ru.lss rfl rfl) rfl ?_
    refine QO.val (v := .bool (decide ((k : Int) < ((b).length : Int)))) rfl (fun w2 hw2 => Ru.pickT rfl rfl) rfl ?_
    refine QO.val (v := .bool (decide ((k : Int) < ((b).length : Int)))) rfl (fun w2 hw2 => Ru.move rfl) rfl ?_
    refine QO.partp 16 ((k : Int) < ((b).length : Int)) rfl (fun g16 => ?_) (fun g16 => ?_)
    · have hk2 : k < b.length := by omega
      refine QO.val (v := S (a)) rfl (fun w2 hw2 => Ru.move rfl) rfl ?_
      refine QO.val (v := I ((k : Int))) rfl (fun w2 hw2 => Ru.move rfl) rfl ?_
      refine QO.val (v := .int .u8 ((((a)[k]'hk1).toNat : Int))) rfl (fun w2 hw2 => Ru.sindex (k) hk1 Try.underlying9 rfl rfl (by omega) (by omega)) rfl ?_
      refine QO.val (v := S (b)) rfl (fun w2 hw2 => Ru.move rfl) rfl ?_
      refine QO.val (v := I ((k : Int))) rfl (fun w2 hw2 => Ru.move rfl) rfl ?_
      refine QO.val (v := .int .u8 ((((b)[k]'hk2).toNat : Int))) rfl (fun w2 hw2 => Ru.sindex (k) hk2 Try.underlying9 rfl rfl (by omega) (by omega)) rfl ?_
      refine QO.val (v := .bool (decide ((((a)[k]'hk1).toNat : Int) = (((b)[k]'hk2).toNat : Int)))) rfl (fun w2 hw2 => Ru.eql rfl rfl) rfl ?_
      refine QO.val (v := .bool (decide ((((a)[k]'hk1).toNat : Int) = (((b)[k]'hk2).toNat : Int)))) rfl (fun w2 hw2 => Ru.pickT rfl rfl) rfl ?_
      refine QO.nil ?_
      intro w2d hE2d
      have hK2d := kext hK hE2d
      refine C.cond (p := (((a)[k]'hk1).toNat : Int) = (((b)[k]'hk2).toNat : Int)) rfl (fun c24 => ?_) (fun c24 => ?_)
      · refine C.skip ?_
        refine C.block ?_
        refine C.region ?_
        refine O.val (v := I ((k : Int))) rfl (Ru.move rfl) rfl ?_
        refine O.val (v := I (((k : Int) + 1))) rfl (Ru.add rfl rfl (by omega)) rfl ?_
        refine O.val (v := I (((k : Int) + 1))) rfl (Ru.assign rfl) rfl ?_
        refine O.nil ?_
        refine loopEnd (k + 1) (by omega) (Has.cons rfl (Has.cons rfl (Has.cons rfl Has.nil))) ⟨comm_step hk hk1 hk2 (by apply UInt8.toNat.inj; omega), hK2d⟩
      · refine C.exit ?_
        refine C.seq ?_
        refine C.region ?_
        refine O.val (v := I ((k : Int))) rfl (Ru.move rfl) rfl ?_
        refine O.val (v := I ((k : Int))) rfl (Ru.assign rfl) rfl ?_
        refine O.nil ?_
        refine C.ret ?_
        refine P1 (v := I ((k : Int))) rfl ?_
        exact ⟨by rw [comm_stop hk (by first | exact .inl (by omega) | exact .inr (.inl (by omega)) | exact .inr (.inr ⟨hk1, hk2, fun e => c24 (by rw [e])⟩))], hK2d⟩
    · refine QO.pass rfl rfl rfl rfl rfl ?_
      refine QO.pass rfl rfl rfl rfl rfl ?_
      refine QO.pass rfl rfl rfl rfl rfl ?_
      refine QO.pass rfl rfl rfl rfl rfl ?_
      refine QO.pass rfl rfl rfl rfl rfl ?_
      refine QO.pass rfl rfl rfl rfl rfl ?_
      refine QO.pass rfl rfl rfl rfl rfl ?_
      refine QO.val (v := .bool (false)) rfl (fun w2 hw2 => Ru.pickF rfl rfl) rfl ?_
      refine QO.nil ?_
      intro w2d hE2d
      have hK2d := kext hK hE2d
      refine C.condF rfl ?_
      refine C.exit ?_
      refine C.seq ?_
      refine C.region ?_
      refine O.val (v := I ((k : Int))) rfl (Ru.move rfl) rfl ?_
      refine O.val (v := I ((k : Int))) rfl (Ru.assign rfl) rfl ?_
      refine O.nil ?_
      refine C.ret ?_
      refine P1 (v := I ((k : Int))) rfl ?_
      exact ⟨by rw [comm_stop hk (by first | exact .inl (by omega) | exact .inr (.inl (by omega)) | exact .inr (.inr ⟨hk1, hk2, fun e => c24 (by rw [e])⟩))], hK2d⟩
  · refine QO.pass rfl rfl rfl rfl rfl ?_
    refine QO.pass rfl rfl rfl rfl rfl ?_
    refine QO.pass rfl rfl rfl rfl rfl ?_
    refine QO.pass rfl rfl rfl rfl rfl ?_
    refine QO.val (v := .bool (false)) rfl (fun w2 hw2 => Ru.pickF rfl rfl) rfl ?_
    refine QO.val (v := .bool (false)) rfl (fun w2 hw2 => Ru.move rfl) rfl ?_
    refine QO.pass rfl rfl rfl rfl rfl ?_
    refine QO.pass rfl rfl rfl rfl rfl ?_
    refine QO.pass rfl rfl rfl rfl rfl ?_
    refine QO.pass rfl rfl rfl rfl rfl ?_
    refine QO.pass rfl rfl rfl rfl rfl ?_
    refine QO.pass rfl rfl rfl rfl rfl ?_
    refine QO.pass rfl rfl rfl rfl rfl ?_
    refine QO.val (v := .bool (false)) rfl (fun w2 hw2 => Ru.pickF rfl rfl) rfl ?_
    refine QO.nil ?_
    intro w2d hE2d
    have hK2d := kext hK hE2d
    refine C.condF rfl ?_
    refine C.exit ?_
    refine C.seq ?_
    refine C.region ?_
    refine O.val (v := I ((k : Int))) rfl (Ru.move rfl) rfl ?_
    refine O.val (v := I ((k : Int))) rfl (Ru.assign rfl) rfl ?_
    refine O.nil ?_
    refine C.ret ?_
    refine P1 (v := I ((k : Int))) rfl ?_
    exact ⟨by rw [comm_stop hk (by first | exact .inl (by omega) | exact .inr (.inl (by omega)) | exact .inr (.inr ⟨hk1, hk2, fun e => c24 (by rw [e])⟩))], hK2d⟩

theorem ValidWords_fn (A : Option Addr) (c : Nat) (l : List Str) (w : World) (hA : Rd w A (l.map S)) (hl : l.length ≤ 1099511627776) (hs : ∀ s ∈ l, s.length ≤ 9223372036854775807) :
    Does Try.prog 25 [.slice (A) (l.length) (c)] w (fun v w1 => v = .bool (validW l) ∧ w.grownBy w1 none) := by
  refine Does.enter1 Try.func25 rfl Try.results25 Try.ntmps25 rfl ?_
  refine C.seq ?_
  refine C.region ?_
  refine O.val (v := .bool (false)) rfl (Ru.assign rfl) rfl ?_
  refine O.nil ?_
  refine C.seq ?_
  refine C.seq ?_
  refine C.region ?_
  refine O.val (v := .slice (A) (l.length) (c)) rfl (Ru.move rfl) rfl ?_
  refine O.val (v := I (((l.length : Nat) : Int))) rfl (Ru.blenSlice Try.underlying24 rfl) rfl ?_
  refine O.val (v := .bool (decide (((l.length : Nat) : Int) > 8))) rfl (Ru.gtr rfl rfl) rfl ?_
  refine O.nil ?_
  refine C.cond (p := ((l.length : Nat) : Int) > 8) rfl (fun c7 => ?_) (fun c7 => ?_)
  · refine C.seq ?_
    refine C.region ?_
    refine O.val (v := .bool (false)) rfl (Ru.assign rfl) rfl ?_
    refine O.nil ?_
    refine C.ret ?_
    refine P1 (v := .bool (false)) rfl ?_
    exact ⟨by simp [validW]; omega, (krefl w none)⟩
  · refine C.skip ?_
    refine C.seq ?_
    refine C.seq ?_
    refine C.region ?_
    refine O.val (v := .slice (A) (l.length) (c)) rfl (Ru.move rfl) rfl ?_
    refine O.val (v := I (((l.length : Nat) : Int))) rfl (Ru.blenSlice Try.underlying24 rfl) rfl ?_
    refine O.val (v := I (0)) rfl (Ru.move rfl) rfl ?_
    refine O.nil ?_
    refine C.block ?_
    refine C.loop (ι := Nat) (fun k => ([(0, .slice (A) (l.length) (c)), (8, .slice (A) (l.length) (c)), (9, I (((l.length : Nat) : Int))), (10, I ((k : Int)))] : List (Nat × Value))) (fun k w_ => k ≤ l.length ∧ (l.take k).all isWordB = true ∧ pairs (l.take k) = true ∧ w.grownBy w_ none) (fun k => l.length - k) (0) (Has.cons rfl (Has.cons rfl (Has.cons rfl (Has.cons rfl Has.nil)))) ⟨Nat.zero_le _, by simp, by simp [pairs], krefl _ _⟩ (fun k σ w_l4 hI => ?_)
    obtain ⟨hk, ha, hp, hK⟩ := hI
    refine C.seq ?_
    refine C.region ?_
    refine O.val (v := .bool (decide ((k : Int) < ((l.length : Nat) : Int)))) rfl (Ru.lss rfl rfl) rfl ?_
    refine O.nil ?_
    refine C.seq ?_
    refine C.cond (p := (k : Int) < ((l.length : Nat) : Int)) rfl (fun c11 => ?_) (fun c11 => ?_)
    · have hk1 : k < l.length := by omega
      refine C.skip ?_
      refine C.seq ?_
      refine C.block ?_
      refine C.seq ?_
      refine C.region ?_
      refine O.val (v := I ((k : Int))) rfl (Ru.move rfl) rfl ?_
      refine O.val (v := .pointer (ofs (A) (k * 1))) rfl (Ru.indexA (j := k) Try.underlying24 el9 rfl rfl (smm (hA.ext hK) hk1) (by omega) (by omega)) rfl ?_
      refine O.val rfl (Ru.load1 el9 rfl (ldm (hA.ext hK) hk1)) rfl ?_
      refine O.val (v := I ((k : Int))) rfl (Ru.assign rfl) rfl ?_
      refine O.val (v := S ((l)[k]'hk1)) rfl (Ru.assign rfl) rfl ?_
      refine O.nil ?_
      refine C.seq ?_
      refine C.seq ?_
      refine C.region ?_
      refine O.val (v := S ((l)[k]'hk1)) rfl (Ru.move rfl) rfl ?_
      refine O.callg [S ((l)[k]'hk1)] rfl en49 rfl rfl (isWord_fn ((l)[k]'hk1) (hs _ (List.getElem_mem hk1)) w_l4) ?_
      rintro _ w6_1 ⟨rfl, hE6_1⟩
      have hK6_1 := kext hK hE6_1
      refine O.val (v := .bool (!(isWordB ((l)[k]'hk1)))) rfl (Ru.not rfl) rfl ?_
      refine O.nil ?_
      refine C.condn (b := (isWordB ((l)[k]'hk1))) rfl (fun c17 => ?_) (fun c17 => ?_)
      · refine C.seq ?_
        refine C.region ?_
        refine O.val (v := .bool (false)) rfl (Ru.assign rfl) rfl ?_
        refine O.nil ?_
        refine C.ret ?_
        refine P1 (v := .bool (false)) rfl ?_
        exact ⟨by rw [validW, all_not hk1 c17]; simp, hK6_1⟩
      · refine C.skip ?_
        refine C.seq ?_
        refine C.region ?_
        refine O.val (v := I ((k : Int))) rfl (Ru.move rfl) rfl ?_
        refine O.val (v := .bool (decide ((k : Int) > 0))) rfl (Ru.gtr rfl rfl) rfl ?_
        refine O.val (v := .bool (decide ((k : Int) > 0))) rfl (Ru.move rfl) rfl ?_
        refine O.partp 20 ((k : Int) > 0) rfl (fun g20 => ?_) (fun g20 => ?_)
        · have hk2 : k - 1 < l.length := by omega
          refine O.val (v := .slice (A) (l.length) (c)) rfl (Ru.move rfl) rfl ?_
          refine O.val (v := I ((k : Int))) rfl (Ru.move rfl) rfl ?_
          refine O.val (v := I (((k : Int) - 1))) rfl (Ru.sub rfl rfl (by omega)) rfl ?_
          refine O.val (v := .pointer (ofs (A) ((k - 1) * 1))) rfl (Ru.indexA (j := k - 1) Try.underlying24 el9 rfl rfl (smm (hA.ext hK6_1) hk2) (by omega) (by omega)) rfl ?_
          refine O.val rfl (Ru.load1 el9 rfl (ldm (hA.ext hK6_1) hk2)) rfl ?_
          refine O.val (v := S ((l)[k]'hk1)) rfl (Ru.move rfl) rfl ?_
          refine O.val (v := .bool (!(blt ((l)[k - 1]'hk2) ((l)[k]'hk1)))) rfl (Ru.sgeq rfl rfl) rfl ?_
          refine O.val (v := .bool (!(blt ((l)[k - 1]'hk2) ((l)[k]'hk1)))) rfl (Ru.pickT rfl rfl) rfl ?_
          refine O.nil ?_
          refine C.condn (b := (blt ((l)[k - 1]'hk2) ((l)[k]'hk1))) rfl (fun c28 => ?_) (fun c28 => ?_)
          · refine C.seq ?_
            refine C.region ?_
            refine O.val (v := .bool (false)) rfl (Ru.assign rfl) rfl ?_
            refine O.nil ?_
            refine C.ret ?_
            refine P1 (v := .bool (false)) rfl ?_
            exact ⟨by rw [validW, pairs_not (by omega) hk1 c28]; simp, hK6_1⟩
          · refine C.skip ?_
            refine C.region ?_
            refine O.val (v := I (((k : Int) + 1))) rfl (Ru.add rfl rfl (by omega)) rfl ?_
            refine O.val (v := I (((k : Int) + 1))) rfl (Ru.move rfl) rfl ?_
            refine O.nil ?_
            refine loopEnd (k + 1) (by omega) (Has.cons rfl (Has.cons rfl (Has.cons rfl (Has.cons rfl Has.nil)))) ⟨by omega, all_take_succ ha hk1 c17, pairs_take hp hk1 (by first | exact fun _ => c28 | exact fun h0 => absurd h0 (by omega)), hK6_1⟩
        · refine O.pass rfl rfl rfl rfl rfl ?_
          refine O.pass rfl rfl rfl rfl rfl ?_
          refine O.pass rfl rfl rfl rfl rfl ?_
          refine O.pass rfl rfl rfl rfl rfl ?_
          refine O.pass rfl rfl rfl rfl rfl ?_
          refine O.pass rfl rfl rfl rfl rfl ?_
          refine O.pass rfl rfl rfl rfl rfl ?_
          refine O.val (v := .bool (false)) rfl (Ru.pickF rfl rfl) rfl ?_
          refine O.nil ?_
          refine C.condF rfl ?_
          refine C.skip ?_
          refine C.region ?_
          refine O.val (v := I (((k : Int) + 1))) rfl (Ru.add rfl rfl (by omega)) rfl ?_
          refine O.val (v := I (((k : Int) + 1))) rfl (Ru.move rfl) rfl ?_
          refine O.nil ?_
          refine loopEnd (k + 1) (by omega) (Has.cons rfl (Has.cons rfl (Has.cons rfl (Has.cons rfl Has.nil)))) ⟨by omega, all_take_succ ha hk1 c17, pairs_take hp hk1 (by first | exact fun _ => c28 | exact fun h0 => absurd h0 (by omega)), hK6_1⟩
    · refine C.exit ?_
      refine C.seq ?_
      refine C.region ?_
      refine O.val (v := .bool (true)) rfl (Ru.assign rfl) rfl ?_
      refine O.nil ?_
      refine C.ret ?_
      refine P1 (v := .bool (true)) rfl ?_
      exact ⟨by rw [List.take_of_length_le (by omega)] at ha hp; rw [validW, ha, hp]; simp; omega, hK⟩

theorem validWords_fn (A : Option Addr) (c : Nat) (l : List Str) (w : World) (hA : Rd w A (l.map S)) (hl : l.length ≤ 1099511627776) (hs : ∀ s ∈ l, s.length ≤ 9223372036854775807) :
    Does Try.prog 52 [.slice (A) (l.length) (c)] w (fun v w1 => v = .bool (validW l) ∧ w.grownBy w1 none) := by
  refine Does.enter1 Try.func52 rfl Try.results52 Try.ntmps52 rfl ?_
  refine C.seq ?_
  refine C.region ?_
  refine O.val (v := .bool (false)) rfl (Ru.assign rfl) rfl ?_
  refine O.nil ?_
  refine C.seq ?_
  refine C.seq ?_
  refine C.region ?_
  refine O.val (v := I (0)) rfl (Ru.assign rfl) rfl ?_
  refine O.nil ?_
  refine C.block ?_
  refine C.loop (ι := Nat) (fun k => ([(0, .slice (A) (l.length) (c)), (3, I ((k : Int)))] : List (Nat × Value))) (fun k w_ => k ≤ l.length ∧ (l.take k).all isWordB = true ∧ pairs (l.take k) = true ∧ w.grownBy w_ none) (fun k => l.length - k) (0) (Has.cons rfl (Has.cons rfl Has.nil)) ⟨Nat.zero_le _, by simp, by simp [pairs], krefl _ _⟩ (fun k σ w_l2 hI => ?_)
  obtain ⟨hk, ha, hp, hK⟩ := hI
  refine C.seq ?_
  refine C.seq ?_
  refine C.region ?_
  refine O.val (v := I ((k : Int))) rfl (Ru.move rfl) rfl ?_
  refine O.val (v := .slice (A) (l.length) (c)) rfl (Ru.move rfl) rfl ?_
  refine O.val (v := I (((l.length : Nat) : Int))) rfl (Ru.blenSlice Try.underlying24 rfl) rfl ?_
  refine O.val (v := .bool (decide ((k : Int) < ((l.length : Nat) : Int)))) rfl (Ru.lss rfl rfl) rfl ?_
  refine O.nil ?_
  refine C.cond (p := (k : Int) < ((l.length : Nat) : Int)) rfl (fun c7 => ?_) (fun c7 => ?_)
  · have hk1 : k < l.length := by omega
    refine C.skip ?_
    refine C.seq ?_
    refine C.block ?_
    refine C.seq ?_
    refine C.draws (fun w2 => w_l2.grownBy w2 none) mixed (by kernel_rfl) (kdrawn _) ?_
    refine QO.val (v := .slice (A) (l.length) (c)) rfl (fun w2 hw2 => Ru.move rfl) rfl ?_
    refine QO.val (v := I ((k : Int))) rfl (fun w2 hw2 => Ru.move rfl) rfl ?_
    refine QO.val (v := .pointer (ofs (A) (k * 1))) rfl (fun w2 hw2 => Ru.indexA (j := k) Try.underlying24 el9 rfl rfl (smm (hA.ext (kext hK hw2)) hk1) (by omega) (by omega)) rfl ?_
    refine QO.val rfl (fun w2 hw2 => Ru.load1 el9 rfl (ldm (hA.ext (kext hK hw2)) hk1)) rfl ?_
    refine QO.callg [S ((l)[k]'hk1)] rfl en47 rfl rfl (fun w2 hw2 => (validWord_fn ((l)[k]'hk1) (hs _ (List.getElem_mem hk1)) w2).mono (fun _ _ h => ⟨h.1, kext hw2 h.2⟩)) ?_
    refine QO.val (v := .bool (!(isWordB ((l)[k]'hk1)))) rfl (fun w2 hw2 => Ru.not rfl) rfl ?_
    refine QO.val (v := .bool (!(isWordB ((l)[k]'hk1)))) rfl (fun w2 hw2 => Ru.move rfl) rfl ?_
    refine QO.part 16 (!(isWordB ((l)[k]'hk1))) rfl (fun g16 => ?_) (fun g16 => ?_)
    · refine QO.pass rfl rfl rfl rfl rfl ?_
      refine QO.pass rfl rfl rfl rfl rfl ?_
      refine QO.pass rfl rfl rfl rfl rfl ?_
      refine QO.passU rfl rfl rfl rfl ?_
      refine QO.passU rfl rfl rfl rfl ?_
      refine QO.passU rfl rfl rfl rfl ?_
      refine QO.passU rfl rfl rfl rfl ?_
      refine QO.passU rfl rfl rfl rfl ?_
      refine QO.passU rfl rfl rfl rfl ?_
      refine QO.passU rfl rfl rfl rfl ?_
      refine QO.passU rfl rfl rfl rfl ?_
      refine QO.passU rfl rfl rfl rfl ?_
      refine QO.passU rfl rfl rfl rfl ?_
      refine QO.pass rfl rfl rfl rfl rfl ?_
      refine QO.val (v := .bool (true)) rfl (fun w2 hw2 => Ru.pickT rfl rfl) rfl ?_
      refine QO.nil ?_
      intro w4d hE4d
      have hK4d := kext hK hE4d
      refine C.condT rfl ?_
      refine C.seq ?_
      refine C.region ?_
      refine O.val (v := .bool (false)) rfl (Ru.assign rfl) rfl ?_
      refine O.nil ?_
      refine C.ret ?_
      refine P1 (v := .bool (false)) rfl ?_
      exact ⟨by first | rw [validW, all_not hk1 (by simpa using g16)]; simp | rw [validW, pairs_not (by omega) hk1 c31]; simp, hK4d⟩
    · refine QO.val (v := I ((k : Int))) rfl (fun w2 hw2 => Ru.move rfl) rfl ?_
      refine QO.val (v := .bool (decide ((k : Int) > 0))) rfl (fun w2 hw2 => Ru.gtr rfl rfl) rfl ?_
      refine QO.val (v := .bool (decide ((k : Int) > 0))) rfl (fun w2 hw2 => Ru.move rfl) rfl ?_
      refine QO.partp 19 ((k : Int) > 0) rfl (fun g19 => ?_) (fun g19 => ?_)
      · have hk2 : k - 1 < l.length := by omega
        refine QO.val (v := .slice (A) (l.length) (c)) rfl (fun w2 hw2 => Ru.move rfl) rfl ?_
        refine QO.val (v := I ((k : Int))) rfl (fun w2 hw2 => Ru.move rfl) rfl ?_
        refine QO.val (v := .pointer (ofs (A) (k * 1))) rfl (fun w2 hw2 => Ru.indexA (j := k) Try.underlying24 el9 rfl rfl (smm (hA.ext (kext hK hw2)) hk1) (by omega) (by omega)) rfl ?_
        refine QO.val rfl (fun w2 hw2 => Ru.load1 el9 rfl (ldm (hA.ext (kext hK hw2)) hk1)) rfl ?_
        refine QO.val (v := .slice (A) (l.length) (c)) rfl (fun w2 hw2 => Ru.move rfl) rfl ?_
        refine QO.val (v := I ((k : Int))) rfl (fun w2 hw2 => Ru.move rfl) rfl ?_
        refine QO.val (v := I (((k : Int) - 1))) rfl (fun w2 hw2 => Ru.sub rfl rfl (by omega)) rfl ?_
        refine QO.val (v := .pointer (ofs (A) ((k - 1) * 1))) rfl (fun w2 hw2 => Ru.indexA (j := k - 1) Try.underlying24 el9 rfl rfl (smm (hA.ext (kext hK hw2)) hk2) (by omega) (by omega)) rfl ?_
        refine QO.val rfl (fun w2 hw2 => Ru.load1 el9 rfl (ldm (hA.ext (kext hK hw2)) hk2)) rfl ?_
        refine QO.val rfl (fun w2 hw2 => (Ru.sleq rfl rfl : Ru _ _ _ _ (.bool (blt (l[k]'hk1) (l[k - 1]'hk2) || decide (l[k]'hk1 = l[k - 1]'hk2)))).congr (by rw [blt_flip (l[k - 1]'hk2) (l[k]'hk1)])) rfl ?_
        refine QO.val (v := .bool (!(blt (l[k - 1]'hk2) (l[k]'hk1)))) rfl (fun w2 hw2 => Ru.pickT rfl rfl) rfl ?_
        refine QO.val (v := .bool (!(blt (l[k - 1]'hk2) (l[k]'hk1)))) rfl (fun w2 hw2 => Ru.pickF rfl rfl) rfl ?_
        refine QO.nil ?_
        intro w4d hE4d
        have hK4d := kext hK hE4d
        refine C.condn (b := (blt (l[k - 1]'hk2) (l[k]'hk1))) rfl (fun c31 => ?_) (fun c31 => ?_)
        · refine C.seq ?_
          refine C.region ?_
          refine O.val (v := .bool (false)) rfl (Ru.assign rfl) rfl ?_
          refine O.nil ?_
          refine C.ret ?_
          refine P1 (v := .bool (false)) rfl ?_
          exact ⟨by first | rw [validW, all_not hk1 (by simpa using g16)]; simp | rw [validW, pairs_not (by omega) hk1 c31]; simp, hK4d⟩
        · refine C.skip ?_
          refine C.region ?_
          refine O.val (v := I ((k : Int))) rfl (Ru.move rfl) rfl ?_
          refine O.val (v := I (((k : Int) + 1))) rfl (Ru.add rfl rfl (by omega)) rfl ?_
          refine O.val (v := I (((k : Int) + 1))) rfl (Ru.assign rfl) rfl ?_
          refine O.nil ?_
          refine loopEnd (k + 1) (by omega) (Has.cons rfl (Has.cons rfl Has.nil)) ⟨by omega, all_take_succ ha hk1 (by simpa using g16), pairs_take hp hk1 (by first | exact fun _ => c31 | exact fun h0 => absurd h0 (by omega)), hK4d⟩
      · refine QO.pass rfl rfl rfl rfl rfl ?_
        refine QO.pass rfl rfl rfl rfl rfl ?_
        refine QO.pass rfl rfl rfl rfl rfl ?_
        refine QO.pass rfl rfl rfl rfl rfl ?_
        refine QO.pass rfl rfl rfl rfl rfl ?_
        refine QO.pass rfl rfl rfl rfl rfl ?_
        refine QO.pass rfl rfl rfl rfl rfl ?_
        refine QO.pass rfl rfl rfl rfl rfl ?_
        refine QO.pass rfl rfl rfl rfl rfl ?_
        refine QO.pass rfl rfl rfl rfl rfl ?_
        refine QO.val (v := .bool (false)) rfl (fun w2 hw2 => Ru.pickF rfl rfl) rfl ?_
        refine QO.val (v := .bool (false)) rfl (fun w2 hw2 => Ru.pickF rfl rfl) rfl ?_
        refine QO.nil ?_
        intro w4d hE4d
        have hK4d := kext hK hE4d
        refine C.condF rfl ?_
        refine C.skip ?_
        refine C.region ?_
        refine O.val (v := I ((k : Int))) rfl (Ru.move rfl) rfl ?_
        refine O.val (v := I (((k : Int) + 1))) rfl (Ru.add rfl rfl (by omega)) rfl ?_
        refine O.val (v := I (((k : Int) + 1))) rfl (Ru.assign rfl) rfl ?_
        refine O.nil ?_
        refine loopEnd (k + 1) (by omega) (Has.cons rfl (Has.cons rfl Has.nil)) ⟨by omega, all_take_succ ha hk1 (by simpa using g16), pairs_take hp hk1 (by first | exact fun _ => c31 | exact fun h0 => absurd h0 (by omega)), hK4d⟩
  · refine C.exit ?_
    refine C.seq ?_
    refine C.region ?_
    refine O.val (v := .slice (A) (l.length) (c)) rfl (Ru.move rfl) rfl ?_
    refine O.val (v := I (((l.length : Nat) : Int))) rfl (Ru.blenSlice Try.underlying24 rfl) rfl ?_
    refine O.val (v := .bool (decide (((l.length : Nat) : Int) ≤ 8))) rfl (Ru.leq rfl rfl) rfl ?_
    refine O.val (v := .bool (decide (((l.length : Nat) : Int) ≤ 8))) rfl (Ru.assign rfl) rfl ?_
    refine O.nil ?_
    refine C.ret ?_
    refine P1 (v := .bool (decide (((l.length : Nat) : Int) ≤ 8))) rfl ?_
    exact ⟨by rw [List.take_of_length_le (by omega)] at ha hp; rw [validW, ha, hp]; simp; omega, hK⟩

theorem SValidWords_fn (A : Option Addr) (c : Nat) (l : List Str) (w : World) (hA : Rd w A (l.map S)) (hl : l.length ≤ 1099511627776) (hs : ∀ s ∈ l, s.length ≤ 9223372036854775807) :
    Does Try.prog 23 [.slice (A) (l.length) (c)] w (fun v w1 => v = .bool (validW l) ∧ w.grownBy w1 none) := by
  refine Does.enter1 Try.func23 rfl Try.results23 Try.ntmps23 rfl ?_
  refine C.seq ?_
  refine C.region ?_
  refine O.val (v := .bool (false)) rfl (Ru.assign rfl) rfl ?_
  refine O.nil ?_
  refine C.seq ?_
  refine C.region ?_
  refine O.val (v := .slice (A) (l.length) (c)) rfl (Ru.move rfl) rfl ?_
  refine O.callg [.slice (A) (l.length) (c)] rfl en52 rfl rfl (validWords_fn (A) (c) (l) w (hA.ext (krefl w none)) (hl) (hs)) ?_
  rintro _ w1_1 ⟨rfl, hE1_1⟩
  have hK1_1 := kext (krefl w none) hE1_1
  refine O.val (v := .bool (validW (l))) rfl (Ru.assign rfl) rfl ?_
  refine O.nil ?_
  refine C.ret ?_
  refine P1 (v := .bool (validW (l))) rfl ?_
  exact ⟨rfl, hK1_1⟩

theorem szStringS_fn (A : Option Addr) (c : Nat) (l : List Str) (w : World) (hA : Rd w A (l.map S)) (hl : l.length ≤ 9223372036854775807) (hs : ∀ s ∈ l, s.length ≤ 9223372036854775807) (left : Int) (h0 : 0 ≤ left) (h1 : left ≤ 1048576) :
    Does Try.prog 22 [.slice (A) (l.length) (c), I (left)] w (fun v w1 => v = I (szF left (l.length + sumL l)) ∧ w.grownBy w1 none) := by
  refine Does.enter1 Try.func22 rfl Try.results22 Try.ntmps22 rfl ?_
  refine C.seq ?_
  refine C.region ?_
  refine O.val (v := I (0)) rfl (Ru.assign rfl) rfl ?_
  refine O.nil ?_
  refine C.seq ?_
  refine C.region ?_
  refine O.val (v := I (left)) rfl (Ru.move rfl) rfl ?_
  refine O.val (v := .slice (A) (l.length) (c)) rfl (Ru.move rfl) rfl ?_
  refine O.val (v := I (((l.length : Nat) : Int))) rfl (Ru.blenSlice Try.underlying24 rfl) rfl ?_
  refine O.val (v := I ((left - ((l.length : Nat) : Int)))) rfl (Ru.sub rfl rfl (by omega)) rfl ?_
  refine O.val (v := I ((left - ((l.length : Nat) : Int)))) rfl (Ru.assign rfl) rfl ?_
  refine O.nil ?_
  refine C.seq ?_
  refine C.seq ?_
  refine C.region ?_
  refine O.val (v := I ((left - ((l.length : Nat) : Int)))) rfl (Ru.move rfl) rfl ?_
  refine O.val (v := .bool (decide ((left - ((l.length : Nat) : Int)) < 0))) rfl (Ru.lss rfl rfl) rfl ?_
  refine O.nil ?_
  refine C.cond (p := (left - ((l.length : Nat) : Int)) < 0) rfl (fun c11 => ?_) (fun c11 => ?_)
  · refine C.seq ?_
    refine C.region ?_
    refine O.val (v := I ((-1))) rfl (Ru.assign rfl) rfl ?_
    refine O.nil ?_
    refine C.ret ?_
    refine P1 (v := I ((-1))) rfl ?_
    exact ⟨by rw [szF, if_pos (by omega)], (krefl w none)⟩
  · refine C.skip ?_
    refine C.seq ?_
    refine C.seq ?_
    refine C.region ?_
    refine O.val (v := I (0)) rfl (Ru.assign rfl) rfl ?_
    refine O.nil ?_
    refine C.block ?_
    refine C.loop (ι := Nat) (fun k => ([(0, .slice (A) (l.length) (c)), (1, I (left - (l.length : Int) - (sumL (l.take k) : Int))), (5, I ((k : Int)))] : List (Nat × Value))) (fun k w_ => k ≤ l.length ∧ (l.length + sumL (l.take k) : Int) ≤ left ∧ w.grownBy w_ none) (fun k => l.length - k) (0) (Has.cons rfl (Has.cons (I_congr (by simp [sumL])) (Has.cons rfl Has.nil))) ⟨Nat.zero_le _, by simp [sumL]; omega, krefl _ _⟩ (fun k σ w_l5 hI => ?_)
    obtain ⟨hk, hb, hK⟩ := hI
    refine C.seq ?_
    refine C.seq ?_
    refine C.region ?_
    refine O.val (v := I ((k : Int))) rfl (Ru.move rfl) rfl ?_
    refine O.val (v := .slice (A) (l.length) (c)) rfl (Ru.move rfl) rfl ?_
    refine O.val (v := I (((l.length : Nat) : Int))) rfl (Ru.blenSlice Try.underlying24 rfl) rfl ?_
    refine O.val (v := .bool (decide ((k : Int) < ((l.length : Nat) : Int)))) rfl (Ru.lss rfl rfl) rfl ?_
    refine O.nil ?_
    refine C.cond (p := (k : Int) < ((l.length : Nat) : Int)) rfl (fun c15 => ?_) (fun c15 => ?_)
    · have hk1 : k < l.length := by omega
      have hsk := hs _ (List.getElem_mem hk1)
      have hst := sumL_take hk1
      refine C.skip ?_
      refine C.seq ?_
      refine C.block ?_
      refine C.seq ?_
      refine C.region ?_
      refine O.val (v := I (left - (l.length : Int) - (sumL (l.take k) : Int))) rfl (Ru.move rfl) rfl ?_
      refine O.val (v := .slice (A) (l.length) (c)) rfl (Ru.move rfl) rfl ?_
      refine O.val (v := I ((k : Int))) rfl (Ru.move rfl) rfl ?_
      refine O.val (v := .pointer (ofs (A) (k * 1))) rfl (Ru.indexA (j := k) Try.underlying24 el9 rfl rfl (smm (hA.ext hK) hk1) (by omega) (by omega)) rfl ?_
      refine O.val rfl (Ru.load1 el9 rfl (ldm (hA.ext hK) hk1)) rfl ?_
      refine O.val (v := I ((((l)[k]'hk1).length : Int))) rfl (Ru.slen Try.underlying9 rfl) rfl ?_
      refine O.val (v := I ((left - (l.length : Int) - (sumL (l.take k) : Int) - (((l)[k]'hk1).length : Int)))) rfl (Ru.sub rfl rfl (by omega)) rfl ?_
      refine O.val (v := I ((left - (l.length : Int) - (sumL (l.take k) : Int) - (((l)[k]'hk1).length : Int)))) rfl (Ru.assign rfl) rfl ?_
      refine O.nil ?_
      refine C.seq ?_
      refine C.region ?_
      refine O.val (v := I ((left - (l.length : Int) - (sumL (l.take k) : Int) - (((l)[k]'hk1).length : Int)))) rfl (Ru.move rfl) rfl ?_
      refine O.val (v := .bool (decide ((left - (l.length : Int) - (sumL (l.take k) : Int) - (((l)[k]'hk1).length : Int)) < 0))) rfl (Ru.lss rfl rfl) rfl ?_
      refine O.nil ?_
      refine C.cond (p := (left - (l.length : Int) - (sumL (l.take k) : Int) - (((l)[k]'hk1).length : Int)) < 0) rfl (fun c26 => ?_) (fun c26 => ?_)
      · refine C.seq ?_
        refine C.region ?_
        refine O.val (v := I ((-1))) rfl (Ru.assign rfl) rfl ?_
        refine O.nil ?_
        refine C.ret ?_
        refine P1 (v := I ((-1))) rfl ?_
        exact ⟨by have := sumL_take_le l (k + 1); rw [szF, if_pos (by omega)], hK⟩
      · refine C.skip ?_
        refine C.region ?_
        refine O.val (v := I ((k : Int))) rfl (Ru.move rfl) rfl ?_
        refine O.val (v := I (((k : Int) + 1))) rfl (Ru.add rfl rfl (by omega)) rfl ?_
        refine O.val (v := I (((k : Int) + 1))) rfl (Ru.assign rfl) rfl ?_
        refine O.nil ?_
        refine loopEnd (k + 1) (by omega) (Has.cons rfl (Has.cons (I_congr (by omega)) (Has.cons rfl Has.nil))) ⟨by omega, by omega, hK⟩
    · refine C.exit ?_
      refine C.seq ?_
      refine C.region ?_
      refine O.val (v := I (left - (l.length : Int) - (sumL (l.take k) : Int))) rfl (Ru.move rfl) rfl ?_
      refine O.val (v := I (left - (l.length : Int) - (sumL (l.take k) : Int))) rfl (Ru.assign rfl) rfl ?_
      refine O.nil ?_
      refine C.ret ?_
      refine P1 (v := I (left - (l.length : Int) - (sumL (l.take k) : Int))) rfl ?_
      exact ⟨by rw [List.take_of_length_le (by omega)] at hb ⊢; rw [szF, if_neg (by omega)]; congr 1; omega, hK⟩

theorem toStringS_fn (A : Option Addr) (c : Nat) (l : List Str) (w : World) (hA : Rd w A (l.map S)) (hl : l.length ≤ 1048576) :
    Does Try.prog 24 [.slice (A) (l.length) (c)] w (fun v w1 => own w1 w.heap.size 9 1 v l.length (l.map S) ∧ w.grownBy w1 none) := by
  refine Does.enter1 Try.func24 rfl Try.results24 Try.ntmps24 rfl ?_
  refine C.seq ?_
  refine C.region ?_
  refine O.val (v := .slice (none) (0) (0)) rfl (Ru.assign rfl) rfl ?_
  refine O.nil ?_
  refine C.seq ?_
  refine C.region ?_
  refine O.val (v := .slice (A) (l.length) (c)) rfl (Ru.move rfl) rfl ?_
  refine O.val (v := I (((l.length : Nat) : Int))) rfl (Ru.blenSlice Try.underlying24 rfl) rfl ?_
  refine O.make (k := l.length) rfl Try.underlying24 el9 rfl rfl rfl (by omega) (by omega) (fun w1_2 b1_2 hb1_2 hE1_2 hB1_2 => ?_)
  have hs1_2 := (krefl w none).size
  have hK1_2 := kext (krefl w none) hE1_2
  have hlt1_2 := hB1_2.lt
  refine O.val (v := .slice (bl b1_2) (l.length) (l.length)) rfl (Ru.assign rfl) rfl ?_
  refine O.nil ?_
  refine C.seq ?_
  refine C.seq ?_
  refine C.region ?_
  refine O.val (v := I (0)) rfl (Ru.assign rfl) rfl ?_
  refine O.nil ?_
  refine C.block ?_
  refine C.loop (ι := Nat) (fun k => ([(0, .slice (A) (l.length) (c)), (3, .slice (bl b1_2) (l.length) (l.length)), (4, I ((k : Int)))] : List (Nat × Value))) (fun k w_ => k ≤ l.length ∧ Blk w_ b1_2 9 (mf S (S []) l k) ∧ w.grownBy w_ none) (fun k => l.length - k) (0) (Has.cons rfl (Has.cons rfl (Has.cons rfl Has.nil))) ⟨Nat.zero_le _, hB1_2.cast mf_zero, hK1_2⟩ (fun k σ w_l3 hI => ?_)
  obtain ⟨hk, hB, hK⟩ := hI
  refine C.seq ?_
  refine C.seq ?_
  refine C.region ?_
  refine O.val (v := I ((k : Int))) rfl (Ru.move rfl) rfl ?_
  refine O.val (v := .slice (A) (l.length) (c)) rfl (Ru.move rfl) rfl ?_
  refine O.val (v := I (((l.length : Nat) : Int))) rfl (Ru.blenSlice Try.underlying24 rfl) rfl ?_
  refine O.val (v := .bool (decide ((k : Int) < ((l.length : Nat) : Int)))) rfl (Ru.lss rfl rfl) rfl ?_
  refine O.nil ?_
  refine C.cond (p := (k : Int) < ((l.length : Nat) : Int)) rfl (fun c11 => ?_) (fun c11 => ?_)
  · have hk1 : k < l.length := by omega
    have hml := mf_len (f := S) (z := S []) hk
    refine C.skip ?_
    refine C.seq ?_
    refine C.block ?_
    refine C.region ?_
    refine O.val (v := .slice (bl b1_2) (l.length) (l.length)) rfl (Ru.move rfl) rfl ?_
    refine O.val (v := I ((k : Int))) rfl (Ru.move rfl) rfl ?_
    refine O.val (v := .slice (A) (l.length) (c)) rfl (Ru.move rfl) rfl ?_
    refine O.val (v := I ((k : Int))) rfl (Ru.move rfl) rfl ?_
    refine O.val (v := .pointer (ofs (A) (k * 1))) rfl (Ru.indexA (j := k) Try.underlying24 el9 rfl rfl (smm (hA.ext hK) hk1) (by omega) (by omega)) rfl ?_
    refine O.val rfl (Ru.load1 el9 rfl (ldm (hA.ext hK) hk1)) rfl ?_
    refine O.val (v := .pointer (ofs (bl b1_2) (k * 1))) rfl (Ru.indexA (j := k) Try.underlying24 el9 rfl rfl rfl (by omega) (by omega)) rfl ?_
    refine O.store (vs := [S ((l)[k]'hk1)]) rfl el9 rfl rfl rfl rfl rfl hB (by simp; omega) (fun w5_7 hE5_7 hs5_7 hn5_7 => ?_)
    have hK5_7 := kown hK hE5_7 (by omega)
    replace hB := hn5_7.cast (mf_step hk1)
    refine O.nil ?_
    refine C.region ?_
    refine O.val (v := I ((k : Int))) rfl (Ru.move rfl) rfl ?_
    refine O.val (v := I (((k : Int) + 1))) rfl (Ru.add rfl rfl (by omega)) rfl ?_
    refine O.val (v := I (((k : Int) + 1))) rfl (Ru.assign rfl) rfl ?_
    refine O.nil ?_
    refine loopEnd (k + 1) (by omega) (Has.cons rfl (Has.cons rfl (Has.cons rfl Has.nil))) ⟨by omega, hB, hK5_7⟩
  · refine C.exit ?_
    refine C.seq ?_
    refine C.region ?_
    refine O.val (v := .slice (bl b1_2) (l.length) (l.length)) rfl (Ru.move rfl) rfl ?_
    refine O.val (v := .slice (bl b1_2) (l.length) (l.length)) rfl (Ru.assign rfl) rfl ?_
    refine O.nil ?_
    refine C.ret ?_
    refine P1 (v := .slice (bl b1_2) (l.length) (l.length)) rfl ?_
    exact ⟨own_cast (own_new hB (by omega) (by rw [mf_len hk]; simp) (by simp only [maxLen]; omega)) rfl (mf_all (by omega)), hK⟩

theorem eqStringS_fn (A : Option Addr) (c : Nat) (a : List Str) (B : Option Addr) (d : Nat) (b : List Str) (w : World) (hA : Rd w A (a.map S)) (hB : Rd w B (b.map S)) (ha : a.length ≤ 1099511627776) :
    Does Try.prog 26 [.slice (A) (a.length) (c), .slice (B) (b.length) (d)] w (fun v w1 => v = .bool (decide (a = b)) ∧ w.grownBy w1 none) := by
  refine Does.enter1 Try.func26 rfl Try.results26 Try.ntmps26 rfl ?_
  refine C.seq ?_
  refine C.region ?_
  refine O.val (v := .bool (false)) rfl (Ru.assign rfl) rfl ?_
  refine O.nil ?_
  refine C.seq ?_
  refine C.seq ?_
  refine C.region ?_
  refine O.val (v := .slice (A) (a.length) (c)) rfl (Ru.move rfl) rfl ?_
  refine O.val (v := I (((a.length : Nat) : Int))) rfl (Ru.blenSlice Try.underlying24 rfl) rfl ?_
  refine O.val (v := .slice (B) (b.length) (d)) rfl (Ru.move rfl) rfl ?_
  refine O.val (v := I (((b.length : Nat) : Int))) rfl (Ru.blenSlice Try.underlying24 rfl) rfl ?_
  refine O.val (v := .bool (decide (((a.length : Nat) : Int) ≠ ((b.length : Nat) : Int)))) rfl (Ru.neq rfl rfl) rfl ?_
  refine O.nil ?_
  refine C.cond (p := ((a.length : Nat) : Int) ≠ ((b.length : Nat) : Int)) rfl (fun c10 => ?_) (fun c10 => ?_)
  · refine C.seq ?_
    refine C.region ?_
    refine O.val (v := .bool (false)) rfl (Ru.assign rfl) rfl ?_
    refine O.nil ?_
    refine C.ret ?_
    refine P1 (v := .bool (false)) rfl ?_
    exact ⟨by rw [ne_len (by omega)], (krefl w none)⟩
  · refine C.skip ?_
    refine C.seq ?_
    refine C.seq ?_
    refine C.region ?_
    refine O.val (v := I (0)) rfl (Ru.assign rfl) rfl ?_
    refine O.nil ?_
    refine C.block ?_
    refine C.loop (ι := Nat) (fun k => ([(0, .slice (A) (a.length) (c)), (1, .slice (B) (b.length) (d)), (5, I ((k : Int)))] : List (Nat × Value))) (fun k w_ => k ≤ a.length ∧ a.take k = b.take k ∧ w.grownBy w_ none) (fun k => a.length - k) (0) (Has.cons rfl (Has.cons rfl (Has.cons rfl Has.nil))) ⟨Nat.zero_le _, by simp, krefl _ _⟩ (fun k σ w_l4 hI => ?_)
    obtain ⟨hk, he, hK⟩ := hI
    refine C.seq ?_
    refine C.seq ?_
    refine C.region ?_
    refine O.val (v := I ((k : Int))) rfl (Ru.move rfl) rfl ?_
    refine O.val (v := .slice (A) (a.length) (c)) rfl (Ru.move rfl) rfl ?_
    refine O.val (v := I (((a.length : Nat) : Int))) rfl (Ru.blenSlice Try.underlying24 rfl) rfl ?_
    refine O.val (v := .bool (decide ((k : Int) < ((a.length : Nat) : Int)))) rfl (Ru.lss rfl rfl) rfl ?_
    refine O.nil ?_
    refine C.cond (p := (k : Int) < ((a.length : Nat) : Int)) rfl (fun c14 => ?_) (fun c14 => ?_)
    · have hk1 : k < a.length := by omega
      have hk2 : k < b.length := by omega
      refine C.skip ?_
      refine C.seq ?_
      refine C.block ?_
      refine C.seq ?_
      refine C.draws (fun w2 => w_l4.grownBy w2 none) mixed (by kernel_rfl) (kdrawn _) ?_
      refine QO.val (v := .slice (A) (a.length) (c)) rfl (fun w2 hw2 => Ru.move rfl) rfl ?_
      refine QO.val (v := I ((k : Int))) rfl (fun w2 hw2 => Ru.move rfl) rfl ?_
      refine QO.val (v := .pointer (ofs (A) (k * 1))) rfl (fun w2 hw2 => Ru.indexA (j := k) Try.underlying24 el9 rfl rfl (smm (hA.ext (kext hK hw2)) hk1) (by omega) (by omega)) rfl ?_
      refine QO.val rfl (fun w2 hw2 => Ru.load1 el9 rfl (ldm (hA.ext (kext hK hw2)) hk1)) rfl ?_
      refine QO.val (v := .slice (B) (b.length) (d)) rfl (fun w2 hw2 => Ru.move rfl) rfl ?_
      refine QO.val (v := I ((k : Int))) rfl (fun w2 hw2 => Ru.move rfl) rfl ?_
      refine QO.val (v := .pointer (ofs (B) (k * 1))) rfl (fun w2 hw2 => Ru.indexA (j := k) Try.underlying24 el9 rfl rfl (smm (hB.ext (kext hK hw2)) hk2) (by omega) (by omega)) rfl ?_
      refine QO.val rfl (fun w2 hw2 => Ru.load1 el9 rfl (ldm (hB.ext (kext hK hw2)) hk2)) rfl ?_
      refine QO.val (v := .bool (decide ((a)[k]'hk1 ≠ (b)[k]'hk2))) rfl (fun w2 hw2 => Ru.sneq rfl rfl) rfl ?_
      refine QO.nil ?_
      intro w6d hE6d
      have hK6d := kext hK hE6d
      refine C.cond (p := (a)[k]'hk1 ≠ (b)[k]'hk2) rfl (fun c25 => ?_) (fun c25 => ?_)
      · refine C.seq ?_
        refine C.region ?_
        refine O.val (v := .bool (false)) rfl (Ru.assign rfl) rfl ?_
        refine O.nil ?_
        refine C.ret ?_
        refine P1 (v := .bool (false)) rfl ?_
        exact ⟨by rw [ne_at hk1 hk2 c25], hK6d⟩
      · refine C.skip ?_
        refine C.region ?_
        refine O.val (v := I ((k : Int))) rfl (Ru.move rfl) rfl ?_
        refine O.val (v := I (((k : Int) + 1))) rfl (Ru.add rfl rfl (by omega)) rfl ?_
        refine O.val (v := I (((k : Int) + 1))) rfl (Ru.assign rfl) rfl ?_
        refine O.nil ?_
        refine loopEnd (k + 1) (by omega) (Has.cons rfl (Has.cons rfl (Has.cons rfl Has.nil))) ⟨by omega, eq_step hk1 hk2 he (by simpa using c25), hK6d⟩
    · refine C.exit ?_
      refine C.seq ?_
      refine C.region ?_
      refine O.val (v := .bool (true)) rfl (Ru.assign rfl) rfl ?_
      refine O.nil ?_
      refine C.ret ?_
      refine P1 (v := .bool (true)) rfl ?_
      exact ⟨by rw [eq_all (by omega) (by omega) he], hK⟩

theorem equalWords_fn (A : Option Addr) (c : Nat) (a : List Str) (B : Option Addr) (d : Nat) (b : List Str) (w : World) (hA : Rd w A (a.map S)) (hB : Rd w B (b.map S)) (ha : a.length ≤ 1099511627776) :
    Does Try.prog 41 [.slice (A) (a.length) (c), .slice (B) (b.length) (d)] w (fun v w1 => v = .bool (decide (a = b)) ∧ w.grownBy w1 none) := by
  refine Does.enter1 Try.func41 rfl Try.results41 Try.ntmps41 rfl ?_
  refine C.seq ?_
  refine C.region ?_
  refine O.val (v := .bool (false)) rfl (Ru.assign rfl) rfl ?_
  refine O.nil ?_
  refine C.seq ?_
  refine C.seq ?_
  refine C.region ?_
  refine O.val (v := .slice (A) (a.length) (c)) rfl (Ru.move rfl) rfl ?_
  refine O.val (v := I (((a.length : Nat) : Int))) rfl (Ru.blenSlice Try.underlying24 rfl) rfl ?_
  refine O.val (v := .slice (B) (b.length) (d)) rfl (Ru.move rfl) rfl ?_
  refine O.val (v := I (((b.length : Nat) : Int))) rfl (Ru.blenSlice Try.underlying24 rfl) rfl ?_
  refine O.val (v := .bool (decide (((a.length : Nat) : Int) ≠ ((b.length : Nat) : Int)))) rfl (Ru.neq rfl rfl) rfl ?_
  refine O.nil ?_
  refine C.cond (p := ((a.length : Nat) : Int) ≠ ((b.length : Nat) : Int)) rfl (fun c10 => ?_) (fun c10 => ?_)
  · refine C.seq ?_
    refine C.region ?_
    refine O.val (v := .bool (false)) rfl (Ru.assign rfl) rfl ?_
    refine O.nil ?_
    refine C.ret ?_
    refine P1 (v := .bool (false)) rfl ?_
    exact ⟨by rw [ne_len (by omega)], (krefl w none)⟩
  · refine C.skip ?_
    refine C.seq ?_
    refine C.seq ?_
    refine C.region ?_
    refine O.val (v := I (0)) rfl (Ru.assign rfl) rfl ?_
    refine O.nil ?_
    refine C.block ?_
    refine C.loop (ι := Nat) (fun k => ([(0, .slice (A) (a.length) (c)), (1, .slice (B) (b.length) (d)), (5, I ((k : Int)))] : List (Nat × Value))) (fun k w_ => k ≤ a.length ∧ a.take k = b.take k ∧ w.grownBy w_ none) (fun k => a.length - k) (0) (Has.cons rfl (Has.cons rfl (Has.cons rfl Has.nil))) ⟨Nat.zero_le _, by simp, krefl _ _⟩ (fun k σ w_l4 hI => ?_)
    obtain ⟨hk, he, hK⟩ := hI
    refine C.seq ?_
    refine C.seq ?_
    refine C.region ?_
    refine O.val (v := I ((k : Int))) rfl (Ru.move rfl) rfl ?_
    refine O.val (v := .slice (A) (a.length) (c)) rfl (Ru.move rfl) rfl ?_
    refine O.val (v := I (((a.length : Nat) : Int))) rfl (Ru.blenSlice Try.underlying24 rfl) rfl ?_
    refine O.val (v := .bool (decide ((k : Int) < ((a.length : Nat) : Int)))) rfl (Ru.lss rfl rfl) rfl ?_
    refine O.nil ?_
    refine C.cond (p := (k : Int) < ((a.length : Nat) : Int)) rfl (fun c14 => ?_) (fun c14 => ?_)
    · have hk1 : k < a.length := by omega
      have hk2 : k < b.length := by omega
      refine C.skip ?_
      refine C.seq ?_
      refine C.block ?_
      refine C.seq ?_
      refine C.draws (fun w2 => w_l4.grownBy w2 none) mixed (by kernel_rfl) (kdrawn _) ?_
      refine QO.val (v := .slice (A) (a.length) (c)) rfl (fun w2 hw2 => Ru.move rfl) rfl ?_
      refine QO.val (v := I ((k : Int))) rfl (fun w2 hw2 => Ru.move rfl) rfl ?_
      refine QO.val (v := .pointer (ofs (A) (k * 1))) rfl (fun w2 hw2 => Ru.indexA (j := k) Try.underlying24 el9 rfl rfl (smm (hA.ext (kext hK hw2)) hk1) (by omega) (by omega)) rfl ?_
      refine QO.val rfl (fun w2 hw2 => Ru.load1 el9 rfl (ldm (hA.ext (kext hK hw2)) hk1)) rfl ?_
      refine QO.val (v := .slice (B) (b.length) (d)) rfl (fun w2 hw2 => Ru.move rfl) rfl ?_
      refine QO.val (v := I ((k : Int))) rfl (fun w2 hw2 => Ru.move rfl) rfl ?_
      refine QO.val (v := .pointer (ofs (B) (k * 1))) rfl (fun w2 hw2 => Ru.indexA (j := k) Try.underlying24 el9 rfl rfl (smm (hB.ext (kext hK hw2)) hk2) (by omega) (by omega)) rfl ?_
      refine QO.val rfl (fun w2 hw2 => Ru.load1 el9 rfl (ldm (hB.ext (kext hK hw2)) hk2)) rfl ?_
      refine QO.val (v := .bool (decide ((a)[k]'hk1 ≠ (b)[k]'hk2))) rfl (fun w2 hw2 => Ru.sneq rfl rfl) rfl ?_
      refine QO.nil ?_
      intro w6d hE6d
      have hK6d := kext hK hE6d
      refine C.cond (p := (a)[k]'hk1 ≠ (b)[k]'hk2) rfl (fun c25 => ?_) (fun c25 => ?_)
      · refine C.seq ?_
        refine C.region ?_
        refine O.val (v := .bool (false)) rfl (Ru.assign rfl) rfl ?_
        refine O.nil ?_
        refine C.ret ?_
        refine P1 (v := .bool (false)) rfl ?_
        exact ⟨by rw [ne_at hk1 hk2 c25], hK6d⟩
      · refine C.skip ?_
        refine C.region ?_
        refine O.val (v := I ((k : Int))) rfl (Ru.move rfl) rfl ?_
        refine O.val (v := I (((k : Int) + 1))) rfl (Ru.add rfl rfl (by omega)) rfl ?_
        refine O.val (v := I (((k : Int) + 1))) rfl (Ru.assign rfl) rfl ?_
        refine O.nil ?_
        refine loopEnd (k + 1) (by omega) (Has.cons rfl (Has.cons rfl (Has.cons rfl Has.nil))) ⟨by omega, eq_step hk1 hk2 he (by simpa using c25), hK6d⟩
    · refine C.exit ?_
      refine C.seq ?_
      refine C.region ?_
      refine O.val (v := .bool (true)) rfl (Ru.assign rfl) rfl ?_
      refine O.nil ?_
      refine C.ret ?_
      refine P1 (v := .bool (true)) rfl ?_
      exact ⟨by rw [eq_all (by omega) (by omega) he], hK⟩

theorem sClone_fn (s : Str) (hs : s.length ≤ 1099511627776) (w : World) :
    Does Try.prog 65 [S (s)] w (fun v w1 => v = S s ∧ w.grownBy w1 none) := by
  refine Does.enter1 Try.func65 rfl Try.results65 Try.ntmps65 rfl ?_
  refine C.seq ?_
  refine C.region ?_
  refine O.val (v := S ([])) rfl (Ru.assign rfl) rfl ?_
  refine O.nil ?_
  refine C.seq ?_
  refine C.seq ?_
  refine C.region ?_
  refine O.val (v := S (s)) rfl (Ru.move rfl) rfl ?_
  refine O.val (v := I (((s).length : Int))) rfl (Ru.slen Try.underlying9 rfl) rfl ?_
  refine O.val (v := .bool (decide (((s).length : Int) = 0))) rfl (Ru.eql rfl rfl) rfl ?_
  refine O.nil ?_
  refine C.cond (p := ((s).length : Int) = 0) rfl (fun c6 => ?_) (fun c6 => ?_)
  · refine C.seq ?_
    refine C.region ?_
    refine O.val (v := S ([])) rfl (Ru.assign rfl) rfl ?_
    refine O.nil ?_
    refine C.ret ?_
    refine P1 (v := S ([])) rfl ?_
    exact ⟨by have : s = [] := List.eq_nil_of_length_eq_zero (by omega); rw [this], (krefl w none)⟩
  · have hs0 : s ≠ [] := fun e => c6 (by simp [e])
    refine C.skip ?_
    refine C.seq ?_
    refine C.region ?_
    refine O.val (v := S (s)) rfl (Ru.move rfl) rfl ?_
    refine O.val (v := I (((s).length : Int))) rfl (Ru.slen Try.underlying9 rfl) rfl ?_
    refine O.make (k := (s).length) rfl Try.underlying29 el5 rfl rfl rfl (by omega) (by omega) (fun w3_2 b3_2 hb3_2 hE3_2 hB3_2 => ?_)
    have hs3_2 := (krefl w none).size
    have hK3_2 := kext (krefl w none) hE3_2
    have hlt3_2 := hB3_2.lt
    refine O.val (v := .slice (bl b3_2) ((s).length) ((s).length)) rfl (Ru.assign rfl) rfl ?_
    refine O.nil ?_
    refine C.seq ?_
    refine C.region ?_
    refine O.val (v := .slice (bl b3_2) ((s).length) ((s).length)) rfl (Ru.move rfl) rfl ?_
    refine O.val (v := S (s)) rfl (Ru.move rfl) rfl ?_
    refine O.copyS (l := s) rfl Try.underlying29 el5 rfl rfl rfl hB3_2 (by rw [zer_length]; simp) (fun w4_2 hE4_2 hs4_2 hC4_2 => ?_)
    have hK4_2 := kown hK3_2 hE4_2 (by omega)
    refine O.nil ?_
    refine C.seq ?_
    refine C.region ?_
    refine O.val (v := .slice (bl b3_2) ((s).length) ((s).length)) rfl (Ru.move rfl) rfl ?_
    refine O.val (v := .pointer (ofs (bl b3_2) (0 * 1))) rfl (Ru.indexA (j := 0) Try.underlying29 el5 rfl rfl rfl (by omega) (by omega)) rfl ?_
    refine O.val (v := .slice (bl b3_2) ((s).length) ((s).length)) rfl (Ru.move rfl) rfl ?_
    refine O.val (v := I ((((s).length : Nat) : Int))) rfl (Ru.blenSlice Try.underlying29 rfl) rfl ?_
    refine O.bytesS (l := s) rfl Try.underlying67 el5 rfl rfl rfl hC4_2 hs0 (by omega) (fun w5_4 hE5_4 => ?_)
    have hK5_4 := kown hK4_2 hE5_4 (by omega)
    refine O.val (v := S (s)) rfl (Ru.assign rfl) rfl ?_
    refine O.nil ?_
    refine C.ret ?_
    refine P1 (v := S (s)) rfl ?_
    exact ⟨rfl, hK5_4⟩

theorem Clone_fn (s : Str) (hs : s.length ≤ 1099511627776) (w : World) :
    Does Try.prog 50 [S (s)] w (fun v w1 => v = S s ∧ w.grownBy w1 none) := by
  refine Does.enter1 Try.func50 rfl Try.results50 Try.ntmps50 rfl ?_
  refine C.seq ?_
  refine C.region ?_
  refine O.val (v := S ([])) rfl (Ru.assign rfl) rfl ?_
  refine O.nil ?_
  refine C.seq ?_
  refine C.region ?_
  refine O.val (v := S (s)) rfl (Ru.move rfl) rfl ?_
  refine O.callg [S (s)] rfl en65 rfl rfl (sClone_fn (s) (hs) w) ?_
  rintro _ w1_1 ⟨rfl, hE1_1⟩
  have hK1_1 := kext (krefl w none) hE1_1
  refine O.val (v := S (s)) rfl (Ru.assign rfl) rfl ?_
  refine O.nil ?_
  refine C.ret ?_
  refine P1 (v := S (s)) rfl ?_
  exact ⟨rfl, hK1_1⟩

theorem sSeparator_fn (a b : Str) (ha : a.length ≤ 9223372036854775807) (hb : b.length ≤ 1099511627776) (w : World) :
    Does Try.prog 20 [S (a), S (b)] w (fun v w1 => v = S (sepF a b) ∧ w.grownBy w1 none) := by
  refine Does.enter1 Try.func20 rfl Try.results20 Try.ntmps20 rfl ?_
  refine C.seq ?_
  refine C.region ?_
  refine O.val (v := S ([])) rfl (Ru.assign rfl) rfl ?_
  refine O.nil ?_
  refine C.seq ?_
  refine C.seq ?_
  refine C.region ?_
  refine O.val (v := S (a)) rfl (Ru.move rfl) rfl ?_
  refine O.callg [S (a)] rfl en47 rfl rfl (validWord_fn (a) ((by omega)) w) ?_
  rintro _ w1_1 ⟨rfl, hE1_1⟩
  have hK1_1 := kext (krefl w none) hE1_1
  refine O.val (v := .bool (!(isWordB (a)))) rfl (Ru.not rfl) rfl ?_
  refine O.val (v := .bool (!(isWordB (a)))) rfl (Ru.move rfl) rfl ?_
  refine O.part 8 (!(isWordB (a))) rfl (fun g8 => ?_) (fun g8 => ?_)
  · refine O.pass rfl rfl rfl rfl rfl ?_
    refine O.pass rfl rfl rfl rfl rfl ?_
    refine O.pass rfl rfl rfl rfl rfl ?_
    refine O.val (v := .bool (true)) rfl (Ru.pickT rfl rfl) rfl ?_
    refine O.val (v := .bool (true)) rfl (Ru.move rfl) rfl ?_
    refine O.pass rfl rfl rfl rfl rfl ?_
    refine O.pass rfl rfl rfl rfl rfl ?_
    refine O.pass rfl rfl rfl rfl rfl ?_
    refine O.val (v := .bool (true)) rfl (Ru.pickT rfl rfl) rfl ?_
    refine O.nil ?_
    refine C.condT rfl ?_
    refine C.seq ?_
    refine C.region ?_
    refine O.val (v := S ([])) rfl (Ru.assign rfl) rfl ?_
    refine O.nil ?_
    refine C.ret ?_
    refine P1 (v := S ([])) rfl ?_
    exact ⟨by first | rw [sepF_a g8] | rw [sepF_b g13] | rw [sepF_c c17], hK1_1⟩
  · refine O.val (v := S (b)) rfl (Ru.move rfl) rfl ?_
    refine O.callg [S (b)] rfl en47 rfl rfl (validWord_fn (b) ((by omega)) w1_1) ?_
    rintro _ w1_5 ⟨rfl, hE1_5⟩
    have hK1_5 := kext hK1_1 hE1_5
    refine O.val (v := .bool (!(isWordB (b)))) rfl (Ru.not rfl) rfl ?_
    refine O.val (v := .bool (!(isWordB (b)))) rfl (Ru.pickF rfl rfl) rfl ?_
    refine O.val (v := .bool (!(isWordB (b)))) rfl (Ru.move rfl) rfl ?_
    refine O.part 13 (!(isWordB (b))) rfl (fun g13 => ?_) (fun g13 => ?_)
    · refine O.pass rfl rfl rfl rfl rfl ?_
      refine O.pass rfl rfl rfl rfl rfl ?_
      refine O.pass rfl rfl rfl rfl rfl ?_
      refine O.val (v := .bool (true)) rfl (Ru.pickT rfl rfl) rfl ?_
      refine O.nil ?_
      refine C.condT rfl ?_
      refine C.seq ?_
      refine C.region ?_
      refine O.val (v := S ([])) rfl (Ru.assign rfl) rfl ?_
      refine O.nil ?_
      refine C.ret ?_
      refine P1 (v := S ([])) rfl ?_
      exact ⟨by first | rw [sepF_a g8] | rw [sepF_b g13] | rw [sepF_c c17], hK1_5⟩
    · refine O.val (v := S (a)) rfl (Ru.move rfl) rfl ?_
      refine O.val (v := S (b)) rfl (Ru.move rfl) rfl ?_
      refine O.val (v := .bool (!(blt (a) (b)))) rfl (Ru.sgeq rfl rfl) rfl ?_
      refine O.val (v := .bool (!(blt (a) (b)))) rfl (Ru.pickF rfl rfl) rfl ?_
      refine O.nil ?_
      refine C.condn (b := (blt (a) (b))) rfl (fun c17 => ?_) (fun c17 => ?_)
      · refine C.seq ?_
        refine C.region ?_
        refine O.val (v := S ([])) rfl (Ru.assign rfl) rfl ?_
        refine O.nil ?_
        refine C.ret ?_
        refine P1 (v := S ([])) rfl ?_
        exact ⟨by first | rw [sepF_a g8] | rw [sepF_b g13] | rw [sepF_c c17], hK1_5⟩
      · have hsl := comm_lt c17
        refine C.skip ?_
        refine C.seq ?_
        refine C.region ?_
        refine O.val (v := S (b)) rfl (Ru.move rfl) rfl ?_
        refine O.val (v := S (a)) rfl (Ru.move rfl) rfl ?_
        refine O.val (v := S (b)) rfl (Ru.move rfl) rfl ?_
        refine O.callg [S (a), S (b)] rfl en48 rfl rfl (common_fn (a) (b) (ha) w1_5) ?_
        rintro _ w3_3 ⟨rfl, hE3_3⟩
        have hK3_3 := kext hK1_5 hE3_3
        refine O.val (v := I (((comm (a) (b) : Int) + 1))) rfl (Ru.add rfl rfl (by have := comm_le a b; omega)) rfl ?_
        refine O.val (v := S ((b).take (comm a b + 1))) rfl (Ru.ssliceTo (h := comm a b + 1) Try.underlying9 rfl rfl (by omega) (by have := comm_le a b; omega)) rfl ?_
        refine O.val (v := S ((b).take (comm a b + 1))) rfl (Ru.assign rfl) rfl ?_
        refine O.nil ?_
        refine C.ret ?_
        refine P1 (v := S ((b).take (comm a b + 1))) rfl ?_
        exact ⟨by rw [sepF_y g8 g13 c17], hK3_3⟩

theorem Separator_fn (a b : Str) (ha : a.length ≤ 9223372036854775807) (hb : b.length ≤ 1099511627776) (w : World) :
    Does Try.prog 21 [S (a), S (b)] w (fun v w1 => v = S (sepF a b) ∧ w.grownBy w1 none) := by
  refine Does.enter1 Try.func21 rfl Try.results21 Try.ntmps21 rfl ?_
  refine C.seq ?_
  refine C.region ?_
  refine O.val (v := S ([])) rfl (Ru.assign rfl) rfl ?_
  refine O.nil ?_
  refine C.seq ?_
  refine C.seq ?_
  refine C.region ?_
  refine O.val (v := S (a)) rfl (Ru.move rfl) rfl ?_
  refine O.callg [S (a)] rfl en49 rfl rfl (isWord_fn (a) ((by omega)) w) ?_
  rintro _ w1_1 ⟨rfl, hE1_1⟩
  have hK1_1 := kext (krefl w none) hE1_1
  refine O.val (v := .bool (!(isWordB (a)))) rfl (Ru.not rfl) rfl ?_
  refine O.val (v := .bool (!(isWordB (a)))) rfl (Ru.move rfl) rfl ?_
  refine O.part 8 (!(isWordB (a))) rfl (fun g8 => ?_) (fun g8 => ?_)
  · refine O.pass rfl rfl rfl rfl rfl ?_
    refine O.pass rfl rfl rfl rfl rfl ?_
    refine O.pass rfl rfl rfl rfl rfl ?_
    refine O.val (v := .bool (true)) rfl (Ru.pickT rfl rfl) rfl ?_
    refine O.val (v := .bool (true)) rfl (Ru.move rfl) rfl ?_
    refine O.pass rfl rfl rfl rfl rfl ?_
    refine O.pass rfl rfl rfl rfl rfl ?_
    refine O.pass rfl rfl rfl rfl rfl ?_
    refine O.val (v := .bool (true)) rfl (Ru.pickT rfl rfl) rfl ?_
    refine O.nil ?_
    refine C.condT rfl ?_
    refine C.seq ?_
    refine C.region ?_
    refine O.val (v := S ([])) rfl (Ru.assign rfl) rfl ?_
    refine O.nil ?_
    refine C.ret ?_
    refine P1 (v := S ([])) rfl ?_
    exact ⟨by first | rw [sepF_a g8] | rw [sepF_b g13] | rw [sepF_c c17], hK1_1⟩
  · refine O.val (v := S (b)) rfl (Ru.move rfl) rfl ?_
    refine O.callg [S (b)] rfl en49 rfl rfl (isWord_fn (b) ((by omega)) w1_1) ?_
    rintro _ w1_5 ⟨rfl, hE1_5⟩
    have hK1_5 := kext hK1_1 hE1_5
    refine O.val (v := .bool (!(isWordB (b)))) rfl (Ru.not rfl) rfl ?_
    refine O.val (v := .bool (!(isWordB (b)))) rfl (Ru.pickF rfl rfl) rfl ?_
    refine O.val (v := .bool (!(isWordB (b)))) rfl (Ru.move rfl) rfl ?_
    refine O.part 13 (!(isWordB (b))) rfl (fun g13 => ?_) (fun g13 => ?_)
    · refine O.pass rfl rfl rfl rfl rfl ?_
      refine O.pass rfl rfl rfl rfl rfl ?_
      refine O.pass rfl rfl rfl rfl rfl ?_
      refine O.val (v := .bool (true)) rfl (Ru.pickT rfl rfl) rfl ?_
      refine O.nil ?_
      refine C.condT rfl ?_
      refine C.seq ?_
      refine C.region ?_
      refine O.val (v := S ([])) rfl (Ru.assign rfl) rfl ?_
      refine O.nil ?_
      refine C.ret ?_
      refine P1 (v := S ([])) rfl ?_
      exact ⟨by first | rw [sepF_a g8] | rw [sepF_b g13] | rw [sepF_c c17], hK1_5⟩
    · refine O.val (v := S (a)) rfl (Ru.move rfl) rfl ?_
      refine O.val (v := S (b)) rfl (Ru.move rfl) rfl ?_
      refine O.val (v := .bool (!(blt (a) (b)))) rfl (Ru.sgeq rfl rfl) rfl ?_
      refine O.val (v := .bool (!(blt (a) (b)))) rfl (Ru.pickF rfl rfl) rfl ?_
      refine O.nil ?_
      refine C.condn (b := (blt (a) (b))) rfl (fun c17 => ?_) (fun c17 => ?_)
      · refine C.seq ?_
        refine C.region ?_
        refine O.val (v := S ([])) rfl (Ru.assign rfl) rfl ?_
        refine O.nil ?_
        refine C.ret ?_
        refine P1 (v := S ([])) rfl ?_
        exact ⟨by first | rw [sepF_a g8] | rw [sepF_b g13] | rw [sepF_c c17], hK1_5⟩
      · have hsl := comm_lt c17
        refine C.skip ?_
        refine C.seq ?_
        refine C.region ?_
        refine O.val (v := S (b)) rfl (Ru.move rfl) rfl ?_
        refine O.val (v := S (a)) rfl (Ru.move rfl) rfl ?_
        refine O.val (v := S (b)) rfl (Ru.move rfl) rfl ?_
        refine O.callg [S (a), S (b)] rfl en51 rfl rfl (sameLetters_fn (a) (b) (ha) w1_5) ?_
        rintro _ w3_3 ⟨rfl, hE3_3⟩
        have hK3_3 := kext hK1_5 hE3_3
        refine O.val (v := I (((comm (a) (b) : Int) + 1))) rfl (Ru.add rfl rfl (by have := comm_le a b; omega)) rfl ?_
        refine O.val (v := S ((b).take (comm a b + 1))) rfl (Ru.ssliceTo (h := comm a b + 1) Try.underlying9 rfl rfl (by omega) (by have := comm_le a b; omega)) rfl ?_
        refine O.callg [S ((b).take (comm a b + 1))] rfl en50 rfl rfl (Clone_fn ((b).take (comm a b + 1)) ((by simp; omega)) w3_3) ?_
        rintro _ w3_6 ⟨rfl, hE3_6⟩
        have hK3_6 := kext hK3_3 hE3_6
        refine O.val (v := S ((b).take (comm a b + 1))) rfl (Ru.assign rfl) rfl ?_
        refine O.nil ?_
        refine C.ret ?_
        refine P1 (v := S ((b).take (comm a b + 1))) rfl ?_
        exact ⟨by rw [sepF_y g8 g13 c17], hK3_6⟩
end Go.Proofs.Ytekfncmhinbghaa
