/- The statement Rows.FnValidLogSaid: the Go function laws.FnValidLog returns true for every input, and each argument reads afterwards as it read before. No conditions. -/
import Derived.Test.YtgflcaeibbnkcaaRows
import Derived.Test.YtgflcaeibbnkcaaPxO
import Derived.Test.YtgflcaeibbnkcaaLI
import Derived.Test.YtgflcaeibbnkcaaH0
import Derived.WalkKit
import Derived.ProofKit
import Derived.OpenShut
import Derived.ShutString
import Derived.ChangeOld
import Derived.SliceStrings
import Derived.Deep.Slices
import Derived.Deep.Fields
import Derived.ChangeSame
import Derived.Below
set_option linter.unusedVariables false
set_option linter.unusedSimpArgs false
namespace Go.Proofs.Ytgflcaeibbnkcaa
open Go.Px
set_option linter.unusedVariables false
theorem FnValidLog_fn (A : Option Addr) (c : Nat) (l : List UInt8) (w : World) (hA : Rd w A ((l).map byteV)) (hl : l.length ≤ 9223372036854775807) (hc : l.length ≤ c) :
    Does Try.prog 3 [.slice (A) ((l).length) (c)] w (fun v w1 => v = .bool (true) ∧ Mem w w1 [] []) := by
  have hM : Mem w w [] [] := Mem.refl
  refine Does.enter1 Try.func3 rfl Try.results3 Try.ntmps3 rfl ?_
  refine C.seq ?_
  refine C.region ?_
  refine O.val (v := .bool (false)) rfl (Ru.assign rfl) rfl ?_
  refine O.nil ?_
  refine C.seq ?_
  refine C.seq ?_
  refine C.region ?_
  refine O.val (v := .slice (A) ((l).length) (c)) rfl (Ru.move rfl) rfl ?_
  refine O.val (v := I ((((l).length : Nat) : Int))) rfl (Ru.blenSlice Try.underlying22 rfl) rfl ?_
  refine O.val (v := .bool (decide ((((l).length : Nat) : Int) > 1048576))) rfl (Ru.gtr rfl rfl) rfl ?_
  refine O.nil ?_
  refine C.cond (p := (((l).length : Nat) : Int) > 1048576) rfl (fun c8 => ?_) (fun c8 => ?_)
  · refine C.seq ?_
    refine C.region ?_
    refine O.val (v := .bool (true)) rfl (Ru.assign rfl) rfl ?_
    refine O.nil ?_
    refine C.ret ?_
    refine P1 (v := .bool (true)) rfl ?_
    exact ⟨rfl, (Mem.none hM)⟩
  · refine C.skip ?_
    refine C.seq ?_
    refine C.region ?_
    refine O.val (v := .slice (A) ((l).length) (c)) rfl (Ru.move rfl) rfl ?_
    refine O.callg [.slice (A) ((l).length) (c)] rfl en18 rfl rfl (DrawValidLog_fn A c l w (hA.at hM) (by first | omega | assumption | (simp; omega) | simp | (intros; omega)) (by first | omega | assumption | (simp; omega) | simp | (intros; omega))) ?_
    rintro _ w3_1 ⟨l13_1, A13_1, c13_1, rfl, hl3_1, hR3_1⟩
    have hM3_1 : Mem w w3_1 [] [[⟨.slice (A13_1) ((l13_1).length) (c13_1), 34, 3, ((l13_1).length), (l13_1).flatMap encG⟩]] := Mem.call (Ma := []) hM hR3_1 rfl
    have hcr3_1_0 := (hM3_1.cap 0 rfl).1
    refine O.val (v := .slice (A13_1) ((l13_1).length) (c13_1)) rfl (Ru.assign rfl) rfl ?_
    refine O.nil ?_
    refine C.seq ?_
    refine C.region ?_
    refine O.val (v := .slice (A13_1) ((l13_1).length) (c13_1)) rfl (Ru.move rfl) rfl ?_
    refine O.callg [.slice (A13_1) ((l13_1).length) (c13_1)] rfl en19 rfl rfl (ValidLog_fn A13_1 c13_1 l13_1 w3_1 (hM3_1.rd 0 rfl) (by first | omega | assumption | (simp; omega) | simp | (intros; omega))) ?_
    rintro _ w4_1 ⟨rfl, hR4_1⟩
    have hM4_1 : Mem w w4_1 [] [[⟨.slice (A13_1) ((l13_1).length) (c13_1), 34, 3, ((l13_1).length), (l13_1).flatMap encG⟩]] := Mem.call (Ma := []) hM3_1 hR4_1 rfl
    refine O.val (v := .bool (validL l13_1)) rfl (Ru.assign rfl) rfl ?_
    refine O.nil ?_
    refine C.seq ?_
    refine C.seq ?_
    refine C.region ?_
    refine O.val (v := .bool (validL l13_1)) rfl (Ru.move rfl) rfl ?_
    refine O.val (v := .slice (A13_1) ((l13_1).length) (c13_1)) rfl (Ru.move rfl) rfl ?_
    refine O.callg [.slice (A13_1) ((l13_1).length) (c13_1)] rfl en20 rfl rfl (sValidLog_fn A13_1 c13_1 l13_1 w4_1 (hM4_1.rd 0 rfl) (by first | omega | assumption | (simp; omega) | simp | (intros; omega))) ?_
    rintro _ w5_2 ⟨rfl, hR5_2⟩
    have hM5_2 : Mem w w5_2 [] [[⟨.slice (A13_1) ((l13_1).length) (c13_1), 34, 3, ((l13_1).length), (l13_1).flatMap encG⟩]] := Mem.call (Ma := []) hM4_1 hR5_2 rfl
    refine O.val (v := .bool (false)) rfl (Ru.congr (v := .bool (decide (validL l13_1 ≠ validL l13_1))) (v' := .bool (false)) (Ru.bneq Try.underlying4 rfl rfl) (congrArg Value.bool (by simp))) rfl ?_
    refine O.val (v := .bool (false)) rfl (Ru.move rfl) rfl ?_
    refine O.val (v := .bool (validL l13_1)) rfl (Ru.move rfl) rfl ?_
    refine O.val (v := .bool (!(validL l13_1))) rfl (Ru.not rfl) rfl ?_
    refine O.val (v := .bool (!(validL l13_1))) rfl (Ru.pickF rfl rfl) rfl ?_
    refine O.val (v := .bool (!(validL l13_1))) rfl (Ru.move rfl) rfl ?_
    refine O.part 21 (!(validL l13_1)) rfl (fun g21 => ?_) (fun g21 => ?_)
    · refine O.pass rfl rfl rfl rfl rfl ?_
      refine O.pass rfl rfl rfl rfl rfl ?_
      refine O.pass rfl rfl rfl rfl rfl ?_
      refine O.val (v := .bool (true)) rfl (Ru.pickT rfl rfl) rfl ?_
      refine O.nil ?_
      refine C.condT rfl ?_
      refine C.seq ?_
      refine C.region ?_
      refine O.val (v := .bool (validL l13_1)) rfl (Ru.move rfl) rfl ?_
      refine O.val (v := .slice (A13_1) ((l13_1).length) (c13_1)) rfl (Ru.move rfl) rfl ?_
      refine O.callg [.slice (A13_1) ((l13_1).length) (c13_1)] rfl en20 rfl rfl (sValidLog_fn A13_1 c13_1 l13_1 w5_2 (hM5_2.rd 0 rfl) (by first | omega | assumption | (simp; omega) | simp | (intros; omega))) ?_
      rintro _ w6_2 ⟨rfl, hR6_2⟩
      have hM6_2 : Mem w w6_2 [] [[⟨.slice (A13_1) ((l13_1).length) (c13_1), 34, 3, ((l13_1).length), (l13_1).flatMap encG⟩]] := Mem.call (Ma := []) hM5_2 hR6_2 rfl
      refine O.val (v := .bool (true)) rfl (Ru.congr (v := .bool (decide (validL l13_1 = validL l13_1))) (v' := .bool (true)) (Ru.beql Try.underlying4 rfl rfl) (congrArg Value.bool (by simp))) rfl ?_
      refine O.val (v := .bool (true)) rfl (Ru.assign rfl) rfl ?_
      refine O.nil ?_
      refine C.ret ?_
      refine P1 (v := .bool (true)) rfl ?_
      exact ⟨rfl, (Mem.none hM6_2)⟩
    · refine O.val (v := .slice (A13_1) ((l13_1).length) (c13_1)) rfl (Ru.move rfl) rfl ?_
      refine O.val (v := I ((((l13_1).length : Nat) : Int))) rfl (Ru.blenSlice Try.underlying23 rfl) rfl ?_
      refine O.val (v := .bool (decide ((((l13_1).length : Nat) : Int) = 0))) rfl (Ru.eql rfl rfl) rfl ?_
      refine O.val (v := .bool (decide ((((l13_1).length : Nat) : Int) = 0))) rfl (Ru.pickF rfl rfl) rfl ?_
      refine O.nil ?_
      refine C.cond (p := (((l13_1).length : Nat) : Int) = 0) rfl (fun c25 => ?_) (fun c25 => ?_)
      · refine C.seq ?_
        refine C.region ?_
        refine O.val (v := .bool (validL l13_1)) rfl (Ru.move rfl) rfl ?_
        refine O.val (v := .slice (A13_1) ((l13_1).length) (c13_1)) rfl (Ru.move rfl) rfl ?_
        refine O.callg [.slice (A13_1) ((l13_1).length) (c13_1)] rfl en20 rfl rfl (sValidLog_fn A13_1 c13_1 l13_1 w5_2 (hM5_2.rd 0 rfl) (by first | omega | assumption | (simp; omega) | simp | (intros; omega))) ?_
        rintro _ w6_2 ⟨rfl, hR6_2⟩
        have hM6_2 : Mem w w6_2 [] [[⟨.slice (A13_1) ((l13_1).length) (c13_1), 34, 3, ((l13_1).length), (l13_1).flatMap encG⟩]] := Mem.call (Ma := []) hM5_2 hR6_2 rfl
        refine O.val (v := .bool (true)) rfl (Ru.congr (v := .bool (decide (validL l13_1 = validL l13_1))) (v' := .bool (true)) (Ru.beql Try.underlying4 rfl rfl) (congrArg Value.bool (by simp))) rfl ?_
        refine O.val (v := .bool (true)) rfl (Ru.assign rfl) rfl ?_
        refine O.nil ?_
        refine C.ret ?_
        refine P1 (v := .bool (true)) rfl ?_
        exact ⟨rfl, (Mem.none hM6_2)⟩
      · have hv : validL l13_1 = true := by simp_all
        have hv24 := (validL_iff.1 hv).1
        refine C.skip ?_
        refine C.seq ?_
        refine C.region ?_
        refine O.val (v := .slice (A) ((l).length) (c)) rfl (Ru.move rfl) rfl ?_
        refine O.val (v := I ((((l).length : Nat) : Int))) rfl (Ru.blenSlice Try.underlying22 rfl) rfl ?_
        refine O.val (v := .slice (A13_1) ((l13_1).length) (c13_1)) rfl (Ru.move rfl) rfl ?_
        refine O.val (v := I ((((l13_1).length : Nat) : Int))) rfl (Ru.blenSlice Try.underlying23 rfl) rfl ?_
        refine O.val (v := I (((((l).length % (l13_1).length) : Nat) : Int))) rfl (Ru.congr (v := I (((((l).length : Nat) : Int) % (((l13_1).length : Nat) : Int)))) (v' := I (((((l).length % (l13_1).length) : Nat) : Int))) (Ru.rem rfl rfl (by omega)) (I_congr (by first | omega | simp))) rfl ?_
        refine O.val (v := I (((((l).length % (l13_1).length) : Nat) : Int))) rfl (Ru.assign rfl) rfl ?_
        have hkk := Nat.mod_lt l.length (show 0 < l13_1.length by omega)
        refine O.nil ?_
        refine C.seq ?_
        refine C.any (f := 15) (ls := [false, false, false, false, false, false, false, false, false, false, false, false, false, false, false]) (fun w2 => Mem w w2 [] [[⟨.slice (A13_1) ((l13_1).length) (c13_1), 34, 3, ((l13_1).length), (l13_1).flatMap encG⟩]]) mixed rfl rfl (fun w2 hw2 => Mem0.ext (hM5_2.pick [0] (by decide) rfl) hw2) (fun w8a hE8a => ?_)
        have hM8a : Mem w w8a [] [[⟨.slice (A13_1) ((l13_1).length) (c13_1), 34, 3, ((l13_1).length), (l13_1).flatMap encG⟩]] := Mem0.ext hM5_2 hE8a
        refine AO.val (v := .slice (A13_1) ((l13_1).length) (c13_1)) 1 (ls' := [false, true, false, false, false, false, false, false, false, false, false, false, false, false, false]) rfl (by kernel_rfl) rfl rfl (fun w2 hw2 => Ru.move rfl) rfl ?_
        refine AO.val (v := I (((((l).length % (l13_1).length) : Nat) : Int))) 2 (ls' := [false, true, true, false, false, false, false, false, false, false, false, false, false, false, false]) rfl (by kernel_rfl) rfl rfl (fun w2 hw2 => Ru.move rfl) rfl ?_
        have hcp8_3 := hM8a.cap 0 rfl
        refine AO.val (v := .slice (A13_1) (((l13_1).take (((l).length % (l13_1).length))).length) (c13_1)) 3 (ls' := [false, true, true, true, false, false, false, false, false, false, false, false, false, false, false]) rfl (by kernel_rfl) rfl rfl (fun w2 hw2 => Ru.congr (v := .slice (A13_1) (((l).length % (l13_1).length)) (c13_1)) (v' := .slice (A13_1) (((l13_1).take (((l).length % (l13_1).length))).length) (c13_1)) (Ru.lsliceTo (h := ((l).length % (l13_1).length)) Try.underlying23 el34 rfl rfl (by omega) (by omega)) (sl_congr (by first | rfl | (simp; done) | omega | (simp; omega)))) rfl ?_
        refine AO.val (v := .slice (A13_1) ((l13_1).length) (c13_1)) 5 (ls' := [false, true, true, true, false, true, false, false, false, false, false, false, false, false, false]) rfl (by kernel_rfl) rfl rfl (fun w2 hw2 => Ru.move rfl) rfl ?_
        refine AO.val (v := I (((((l).length % (l13_1).length) : Nat) : Int))) 6 (ls' := [false, true, true, true, false, true, true, false, false, false, false, false, false, false, false]) rfl (by kernel_rfl) rfl rfl (fun w2 hw2 => Ru.move rfl) rfl ?_
        refine AO.val (v := I ((((((l).length % (l13_1).length) + 1) : Nat) : Int))) 7 (ls' := [false, true, true, true, false, true, true, true, false, false, false, false, false, false, false]) rfl (by kernel_rfl) rfl rfl (fun w2 hw2 => Ru.congr (v := I ((((((l).length % (l13_1).length) : Nat) : Int) + 1))) (v' := I ((((((l).length % (l13_1).length) + 1) : Nat) : Int))) (Ru.add rfl rfl (by omega)) (I_congr (by first | omega | simp))) rfl ?_
        have hcp8_8 := hM8a.cap 0 rfl
        refine AO.val (v := .slice (if c13_1 = (((l).length % (l13_1).length) + 1) then A13_1 else ofs (A13_1) ((((l).length % (l13_1).length) + 1) * 3)) (((l13_1).drop ((((l).length % (l13_1).length) + 1))).length) (c13_1 - (((l).length % (l13_1).length) + 1))) 8 (ls' := [false, true, true, true, false, true, true, true, true, false, false, false, false, false, false]) rfl (by kernel_rfl) rfl rfl (fun w2 hw2 => Ru.congr (v := .slice (if c13_1 = (((l).length % (l13_1).length) + 1) then A13_1 else ofs (A13_1) ((((l).length % (l13_1).length) + 1) * 3)) (((l13_1).length) - (((l).length % (l13_1).length) + 1)) (c13_1 - (((l).length % (l13_1).length) + 1))) (v' := .slice (if c13_1 = (((l).length % (l13_1).length) + 1) then A13_1 else ofs (A13_1) ((((l).length % (l13_1).length) + 1) * 3)) (((l13_1).drop ((((l).length % (l13_1).length) + 1))).length) (c13_1 - (((l).length % (l13_1).length) + 1))) (Ru.lsliceFrom (l := (((l).length % (l13_1).length) + 1)) Try.underlying23 el34 rfl rfl (by omega) (by omega)) (sl_congr (by first | rfl | (simp; done) | omega | (simp; omega)))) rfl ?_
        refine AO.one 0 (by kernel_rfl) ?_
        refine step1 (ls' := [true, true, true, true, false, true, true, true, true, false, false, false, false, false, false]) rfl rfl ?_
        refine O.mlit (sz := 3) (cs := []) hM8a rfl Try.underlying23 el34 rfl rfl rfl (by kernel_rfl) (by kernel_rfl) rfl rfl (fun w8_0 b8_0 hb8_0 (hM8_0 : Mem w w8_0 [] [[⟨.slice (bl b8_0) (0) (0), 34, 3, 0, ([]).flatMap encG⟩], [⟨.slice (A13_1) ((l13_1).length) (c13_1), 34, 3, ((l13_1).length), (l13_1).flatMap encG⟩]]) => ?_)
        refine O.stop (hM8_0.pick [1] (by decide) rfl) ?_
        refine AO.one 4 (by kernel_rfl) ?_
        refine step1 (ls' := [true, true, true, true, true, true, true, true, true, false, false, false, false, false, false]) rfl rfl ?_
        refine O.mappend (sz := 3) (news := ((l13_1).take (((l).length % (l13_1).length))).flatMap encG) (m1 := ((l13_1).take (((l).length % (l13_1).length))).length) (xs1 := ((l13_1).take (((l).length % (l13_1).length))).flatMap encG) (M' := fun A8_4 c8_4 => [[⟨.slice (A8_4) (((l13_1).take (((l).length % (l13_1).length))).length) (c8_4), 34, 3, (((l13_1).take (((l).length % (l13_1).length))).length), ((l13_1).take (((l).length % (l13_1).length))).flatMap encG⟩], [⟨.slice (A13_1) ((l13_1).length) (c13_1), 34, 3, ((l13_1).length), (l13_1).flatMap encG⟩]]) 0 0 hM8_0 rfl rfl rfl Try.underlying23 el34 ⟨rfl, by decide⟩ rfl rfl rfl (rd_takeN encG_len (hM8_0.rd 1 rfl)) (by rw [flat_len encG_len]; first | done | (simp; done) | (simp; omega)) (all_flat_one (fun _ => rfl) _) (by first | omega | (simp; omega)) (by first | omega | (simp; omega)) (by first | (simp; done) | (simp; omega)) (by simp) (fun _ _ => rfl) (fun w8_4 A8_4 c8_4 hc8_4 hM8_4 => ?_)
        try dsimp only at hM8_4
        refine O.stop (hM8_4.pick [1] (by decide) rfl) ?_
        refine AO.one 9 (by kernel_rfl) ?_
        refine step1 (ls' := [true, true, true, true, true, true, true, true, true, true, false, false, false, false, false]) rfl rfl ?_
        refine O.mappend (sz := 3) (news := ((l13_1).drop ((((l).length % (l13_1).length) + 1))).flatMap encG) (m1 := ((l13_1).take (((l).length % (l13_1).length)) ++ (l13_1).drop ((((l).length % (l13_1).length) + 1))).length) (xs1 := ((l13_1).take (((l).length % (l13_1).length)) ++ (l13_1).drop ((((l).length % (l13_1).length) + 1))).flatMap encG) (M' := fun A8_9 c8_9 => [[⟨.slice (A8_9) (((l13_1).take (((l).length % (l13_1).length)) ++ (l13_1).drop ((((l).length % (l13_1).length) + 1))).length) (c8_9), 34, 3, (((l13_1).take (((l).length % (l13_1).length)) ++ (l13_1).drop ((((l).length % (l13_1).length) + 1))).length), ((l13_1).take (((l).length % (l13_1).length)) ++ (l13_1).drop ((((l).length % (l13_1).length) + 1))).flatMap encG⟩], [⟨.slice (A13_1) ((l13_1).length) (c13_1), 34, 3, ((l13_1).length), (l13_1).flatMap encG⟩]]) 0 0 hM8_4 rfl rfl rfl Try.underlying23 el34 ⟨rfl, by decide⟩ rfl rfl rfl (rd_dropN encG_len (hM8_4.rd 1 rfl) (by first | omega | (simp; omega)) (by first | omega | (simp; omega))) (by rw [flat_len encG_len]; first | done | (simp; done) | (simp; omega)) (all_flat_one (fun _ => rfl) _) (by first | omega | (simp; omega)) (by first | omega | (simp; omega)) (by first | (simp; done) | (simp; omega)) (by simp) (fun _ _ => rfl) (fun w8_9 A8_9 c8_9 hc8_9 hM8_9 => ?_)
        try dsimp only at hM8_9
        refine O.stop (hM8_9.pick [1] (by decide) rfl) ?_
        refine AO.one 10 (by kernel_rfl) ?_
        refine step1 (ls' := [true, true, true, true, true, true, true, true, true, true, true, false, false, false, false]) rfl rfl ?_
        refine O.callg [.slice (A8_9) (((l13_1).take (((l).length % (l13_1).length)) ++ (l13_1).drop ((((l).length % (l13_1).length) + 1))).length) (c8_9)] rfl en19 rfl rfl (ValidLog_fn A8_9 c8_9 ((l13_1).take (((l).length % (l13_1).length)) ++ (l13_1).drop ((((l).length % (l13_1).length) + 1))) w8_9 (hM8_9.rd 0 rfl) (by simp; omega)) ?_
        rintro _ w8_10 ⟨rfl, hR8_10⟩
        have hM8_10 : Mem w w8_10 [] [[⟨.slice (A8_9) (((l13_1).take (((l).length % (l13_1).length)) ++ (l13_1).drop ((((l).length % (l13_1).length) + 1))).length) (c8_9), 34, 3, (((l13_1).take (((l).length % (l13_1).length)) ++ (l13_1).drop ((((l).length % (l13_1).length) + 1))).length), ((l13_1).take (((l).length % (l13_1).length)) ++ (l13_1).drop ((((l).length % (l13_1).length) + 1))).flatMap encG⟩], [⟨.slice (A13_1) ((l13_1).length) (c13_1), 34, 3, ((l13_1).length), (l13_1).flatMap encG⟩]] := Mem.call (Ma := []) hM8_9 hR8_10 rfl
        refine O.stop (hM8_10.pick [1] (by decide) rfl) ?_
        refine AO.val (v := .bool (validL ((l13_1).take (((l).length % (l13_1).length)) ++ (l13_1).drop ((((l).length % (l13_1).length) + 1))))) 11 (ls' := [true, true, true, true, true, true, true, true, true, true, true, true, false, false, false]) rfl (by kernel_rfl) rfl rfl (fun w2 hw2 => Ru.move rfl) rfl ?_
        refine AO.part 46 (validL ((l13_1).take (((l).length % (l13_1).length)) ++ (l13_1).drop ((((l).length % (l13_1).length) + 1)))) rfl (fun g46 => ?_) (fun g46 => ?_)
        · refine AO.one 12 (by kernel_rfl) ?_
          refine step1 (ls' := [true, true, true, true, true, true, true, true, true, true, true, true, true, false, false]) rfl rfl ?_
          refine O.callg [.slice (none) (0) (0)] rfl en19 rfl rfl (ValidLog_fn none 0 [] w8_10 Rd.nil (by simp)) ?_
          rintro _ w8_12 ⟨rfl, hR8_12⟩
          have hM8_12 : Mem w w8_12 [] [[⟨.slice (A8_9) (((l13_1).take (((l).length % (l13_1).length)) ++ (l13_1).drop ((((l).length % (l13_1).length) + 1))).length) (c8_9), 34, 3, (((l13_1).take (((l).length % (l13_1).length)) ++ (l13_1).drop ((((l).length % (l13_1).length) + 1))).length), ((l13_1).take (((l).length % (l13_1).length)) ++ (l13_1).drop ((((l).length % (l13_1).length) + 1))).flatMap encG⟩], [⟨.slice (A13_1) ((l13_1).length) (c13_1), 34, 3, ((l13_1).length), (l13_1).flatMap encG⟩]] := Mem.call (Ma := []) hM8_10 hR8_12 rfl
          refine O.stop (hM8_12.pick [1] (by decide) rfl) ?_
          refine AO.val (v := .bool (validL [])) 13 (ls' := [true, true, true, true, true, true, true, true, true, true, true, true, true, true, false]) rfl (by kernel_rfl) rfl rfl (fun w2 hw2 => Ru.pickT rfl rfl) rfl ?_
          refine AO.val (v := .bool (validL [])) 14 (ls' := [true, true, true, true, true, true, true, true, true, true, true, true, true, true, true]) rfl (by kernel_rfl) rfl rfl (fun w2 hw2 => Ru.assign rfl) rfl ?_
          refine AO.nil (by kernel_rfl) ?_
          refine C.ret ?_
          refine P1 (v := .bool (validL [])) rfl ?_
          exact ⟨(by first | rfl | (rw [validL_cut hv] at *; simp_all)), (Mem.none hM8_12)⟩
        · refine AO.pass 12 (ls' := [true, true, true, true, true, true, true, true, true, true, true, true, true, false, false]) rfl (by kernel_rfl) rfl rfl rfl rfl rfl rfl ?_
          refine AO.val (v := .bool (false)) 13 (ls' := [true, true, true, true, true, true, true, true, true, true, true, true, true, true, false]) rfl (by kernel_rfl) rfl rfl (fun w2 hw2 => Ru.pickF rfl rfl) rfl ?_
          refine AO.val (v := .bool (false)) 14 (ls' := [true, true, true, true, true, true, true, true, true, true, true, true, true, true, true]) rfl (by kernel_rfl) rfl rfl (fun w2 hw2 => Ru.assign rfl) rfl ?_
          refine AO.nil (by kernel_rfl) ?_
          refine C.ret ?_
          refine P1 (v := .bool (false)) rfl ?_
          exact ⟨(by first | rfl | (rw [validL_cut hv] at *; simp_all)), (Mem.none hM8_10)⟩
end Go.Proofs.Ytgflcaeibbnkcaa
namespace Go.Proofs.Ytgflcaeibbnkcaa.fnValidLog
open Go.ChangeShapes Go.WideShapes Go.ChangeAt Go.RowKit Go.Px
open Go.ChangeMaps (open_string shut_string)
set_option linter.unusedVariables false

theorem own : ownKnob Try.prog.godebug = none := by kernel_rfl
theorem laidOut : laidOutB Try.prog = true := by kernel_rfl

set_option maxRecDepth 100000 in
theorem lifted (os : Os) (started : os.Started) (H : Type) (enc : TypeId × Value → H) :
    ReturnsInHanded {} Try.checked os 3 .any (Rows.fnValidLogSpec.pre6 enc Try.prog Try.f3 Rows.fnValidLogRow.domain false) (Rows.fnValidLogSpec.post enc Try.prog Try.f3 false true false false) := by
  refine returnsInHanded_of_change (C := Try.checked) own started (by kernel_rfl) Try.func3
    (ChangeSpec.witness6 (enc := enc) (C := Try.checked) false ⟨#[], #[.slice none 0 0], []⟩ 8 (by kernel_rfl) (by kernel_rfl) (by kernel_rfl) (by kernel_rfl)) ?_
  intro W base args ds gs before hval0 hW hcnd _
  have hval : ∀ (j : Nat) t v, Try.f3.params[j]? = some t → args[j]? = some v → Value.okWide Try.prog W .any base t v := hval0
  have hW' := hW
  obtain ⟨p, q, hA0, hV, rfl, hfz, hnd⟩ := hW
  have hA : DataW.TrodAll enc Try.prog W 0 (fun _ => true) true Try.f3.params.toList args.toList ds p := hA0
  rw [Try.params3] at hA hval
  obtain ⟨v0, vs0, d0, ds0, p0, q0, hargs, rfl, rfl, h0, r0⟩ := trodAll_cons hA
  obtain ⟨rfl, rfl, rfl⟩ := trodAll_nil r0
  obtain rfl : args = #[v0] := by cases args; simp_all
  obtain ⟨rfl, rfl⟩ := trodVars_none hV
  have k0 := h0
  have lt0 : ∀ x ∈ p0, x.block < W.heap.size := by obtain ⟨m, hm⟩ := k0; exact DataW.trod_lt m _ _ _ hm
  obtain ⟨a0, len0, cap0, rfl⟩ := okWide_slice Try.underlying22 (hval 0 22 v0 rfl rfl)
  have kk0 := k0
  obtain ⟨fuel0, hf0⟩ := kk0
  obtain ⟨z0, rfl, hz0, hc0, hw0, hRd0⟩ := slice_in (α := UInt8) (f := fun a : UInt8 => [byteV a]) (c := 1) Try.underlying22 (by kernel_rfl) (fun _ => rfl) (byte_el Try.underlying5) hf0
  rw [flat_one] at hRd0
  clear hA0 hval0
  refine (FnValidLog_fn a0 cap0 z0 W hRd0 hz0 hc0).out.mono fun e W' ⟨v, he, hv, hg⟩ => ?_
  subst he hv
  have bel : Below W.heap.size W W' := ⟨hg.os, hg.tape, hg.output, hg.size, fun k hk => hg.block k hk (by simp)⟩
  exact ⟨_, rfl, _, _, _, [], _, [], hW', trodAll_mk1 (shut_bool Try.underlying4 _), (trodAll_cons_mk (Below.trod laidOut (by kernel_rfl) (of_decide_eq_true (by kernel_rfl)) k0 bel lt0) trodAll_mk0), rfl, bel.frame _, fun h => by cases h⟩

theorem named_ : Try.prog.funcNamed Rows.fnValidLogRow.func = some 3 := by kernel_rfl
theorem closed : joinedFacts Try.prog 3 Try.f3 Rows.fnValidLogSpec Rows.fnValidLogRow = true := by
  unfold joinedFacts
  rw [enter_, lifts_, made_]
  kernel_rfl
theorem inst_ : Try.f3.isInstance Try.prog Rows.fnValidLogRow.origin Rows.fnValidLogRow.targs := of_decide_eq_true (by kernel_rfl)
theorem wrap_ : Try.f3.isWrapper Try.prog Rows.fnValidLogRow.wrapper Rows.fnValidLogRow.mainSum := by
  unfold Func.isWrapper
  rw [if_neg (by decide +kernel)]
  exact ⟨rfl, rfl⟩
theorem over : Rows.fnValidLogRow.holds Try.pinned (OpenSpec.ofChange Rows.fnValidLogSpec) :=
  OpenClaim.holds_of_wide 3 Try.f3 rfl rfl rfl rfl rfl rfl rfl ⟨rfl, rfl, rfl, rfl, rfl⟩ rfl rfl rfl rfl rfl named_ Try.func3 closed inst_ wrap_
    (fun os started H enc _ => lifted os started H enc)
theorem proved : Rows.FnValidLogSaid := over
end Go.Proofs.Ytgflcaeibbnkcaa.fnValidLog
