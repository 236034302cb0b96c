/- The statement Rows.FnPutLinkSaid: the Go function laws.FnPutLink returns true for every input, and each argument reads afterwards as it read before. No conditions. -/
import Derived.Test.YteljpjapacajoaaRows
import Derived.Test.YteljpjapacajoaaPxO
import Derived.Test.YteljpjapacajoaaDZ
import Derived.Test.YteljpjapacajoaaH0
import Derived.WalkKit
import Derived.ProofKit
import Derived.OpenShut
import Derived.ShutString
import Derived.ChangeOld
import Derived.SliceStrings
import Derived.Deep.Slices
import Derived.Deep.Fields
import Derived.ChangeSame
import Derived.Below
set_option linter.unusedVariables false
set_option linter.unusedSimpArgs false
namespace Go.Proofs.Yteljpjapacajoaa
open Go.Px
set_option linter.unusedVariables false
theorem FnPutLink_fn (A : Option Addr) (c : Nat) (l : List UInt8) (w : World) (hA : Rd w A ((l).map byteV)) (hl : l.length ≤ 9223372036854775807) (hc : l.length ≤ c) :
    Does Try.prog 15 [.slice (A) ((l).length) (c)] w (fun v w1 => v = .bool (true) ∧ Mem w w1 [] []) := by
  have hM : Mem w w [] [] := Mem.refl
  refine Does.enter1 Try.func15 rfl Try.results15 Try.ntmps15 rfl ?_
  refine C.seq ?_
  refine C.region ?_
  refine O.val (v := .bool (false)) rfl (Ru.assign rfl) rfl ?_
  refine O.nil ?_
  refine C.seq ?_
  refine C.seq ?_
  refine C.region ?_
  refine O.val (v := .slice (A) ((l).length) (c)) rfl (Ru.move rfl) rfl ?_
  refine O.val (v := I ((((l).length : Nat) : Int))) rfl (Ru.blenSlice Try.underlying22 rfl) rfl ?_
  refine O.val (v := .bool (decide ((((l).length : Nat) : Int) > 1048576))) rfl (Ru.gtr rfl rfl) rfl ?_
  refine O.nil ?_
  refine C.cond (p := (((l).length : Nat) : Int) > 1048576) rfl (fun c15 => ?_) (fun c15 => ?_)
  · refine C.seq ?_
    refine C.region ?_
    refine O.val (v := .bool (true)) rfl (Ru.assign rfl) rfl ?_
    refine O.nil ?_
    refine C.ret ?_
    refine P1 (v := .bool (true)) rfl ?_
    exact ⟨rfl, (Mem.none hM)⟩
  · refine C.skip ?_
    refine C.seq ?_
    refine C.region ?_
    refine O.val (v := .slice (A) ((l).length) (c)) rfl (Ru.move rfl) rfl ?_
    refine O.callg [.slice (A) ((l).length) (c)] rfl en38 rfl rfl (DrawPutLink_fn A c l w (hA.at hM) (by first | omega | assumption | (simp; omega) | simp | (intros; omega)) (by first | omega | assumption | (simp; omega) | simp | (intros; omega))) ?_
    rintro _ w3_1 ⟨l13_1, A13_1, c13_1, G3_1, k13_1, rfl, hl3_1, hk3_1, hG3_1, hcp3_1, hR3_1⟩
    have hM3_1 : Mem w w3_1 [] [[⟨.slice (A13_1) ((l13_1).length) (c13_1), 28, 3, ((l13_1).length), (l13_1).flatMap encL⟩], G3_1] := Mem.call (Ma := []) hM hR3_1 rfl
    have hcr3_1_0 := (hM3_1.cap 0 rfl).1
    refine O.val (v := .tuple #[.slice (A13_1) ((l13_1).length) (c13_1), I (k13_1)]) rfl (Ru.move rfl) rfl ?_
    refine O.val (v := .slice (A13_1) ((l13_1).length) (c13_1)) rfl (Ru.extract rfl rfl) rfl ?_
    refine O.val (v := I (k13_1)) rfl (Ru.extract rfl rfl) rfl ?_
    refine O.val (v := .slice (A13_1) ((l13_1).length) (c13_1)) rfl (Ru.assign rfl) rfl ?_
    refine O.val (v := I (k13_1)) rfl (Ru.assign rfl) rfl ?_
    refine O.nil ?_
    refine C.seq ?_
    refine C.region ?_
    refine O.val (v := .slice (A13_1) ((l13_1).length) (c13_1)) rfl (Ru.move rfl) rfl ?_
    refine O.val (v := I (k13_1)) rfl (Ru.move rfl) rfl ?_
    refine O.callg [.slice (A13_1) ((l13_1).length) (c13_1), I (k13_1)] rfl en39 rfl rfl (PutLink_fn A13_1 c13_1 l13_1 k13_1 w3_1 (hM3_1.rd 0 rfl) (hG3_1 _ (Mem.gown hM3_1 1 rfl)) (by omega)) ?_
    rintro _ w4_2 ⟨L14_2, A14_2, c14_2, rfl, hts4_2, hR4_2⟩
    have hM4_2 : Mem w w4_2 [] [[⟨.slice (A14_2) ((L14_2).length) (c14_2), 28, 3, ((L14_2).length), (L14_2).flatMap encL⟩], (L14_2).map (keyF 3), [⟨.slice (A13_1) ((l13_1).length) (c13_1), 28, 3, ((l13_1).length), (l13_1).flatMap encL⟩], G3_1] := Mem.call (Ma := []) hM3_1 hR4_2 rfl
    have hcr4_2_0 := (hM4_2.cap 0 rfl).1
    have hL4 : L14_2.length ≤ 17 := by have h8 := congrArg List.length hts4_2; have h9 := putF_len (l := tsL l13_1) (key := k13_1); simp only [List.length_map] at h8; omega
    have hK4 : ∀ x ∈ L14_2, x.t.keys.length ≤ 100 := keys_le hts4_2 putF_keys4
    refine O.val (v := .tuple #[.slice (A14_2) ((L14_2).length) (c14_2), .bool ((putF (tsL l13_1) k13_1).isSome)]) rfl (Ru.move rfl) rfl ?_
    refine O.val (v := .slice (A14_2) ((L14_2).length) (c14_2)) rfl (Ru.extract rfl rfl) rfl ?_
    refine O.val (v := .bool ((putF (tsL l13_1) k13_1).isSome)) rfl (Ru.extract rfl rfl) rfl ?_
    refine O.val (v := .slice (A14_2) ((L14_2).length) (c14_2)) rfl (Ru.assign rfl) rfl ?_
    refine O.val (v := .bool ((putF (tsL l13_1) k13_1).isSome)) rfl (Ru.assign rfl) rfl ?_
    refine O.nil ?_
    refine C.seq ?_
    refine C.region ?_
    refine O.val (v := .slice (A13_1) ((l13_1).length) (c13_1)) rfl (Ru.move rfl) rfl ?_
    refine O.val (v := I (k13_1)) rfl (Ru.move rfl) rfl ?_
    refine O.callg [.slice (A13_1) ((l13_1).length) (c13_1), I (k13_1)] rfl en40 rfl rfl (sPutLink_fn A13_1 c13_1 l13_1 k13_1 w4_2 (hM4_2.rd 2 rfl) (hG3_1 _ (Mem.gown hM4_2 3 rfl)) (by omega)) ?_
    rintro _ w5_2 ⟨L15_2, A15_2, c15_2, rfl, hts5_2, hR5_2⟩
    have hM5_2 : Mem w w5_2 [] [[⟨.slice (A15_2) ((L15_2).length) (c15_2), 28, 3, ((L15_2).length), (L15_2).flatMap encL⟩], (L15_2).map (keyF 3), [⟨.slice (A14_2) ((L14_2).length) (c14_2), 28, 3, ((L14_2).length), (L14_2).flatMap encL⟩], (L14_2).map (keyF 3), [⟨.slice (A13_1) ((l13_1).length) (c13_1), 28, 3, ((l13_1).length), (l13_1).flatMap encL⟩], G3_1] := Mem.call (Ma := []) hM4_2 hR5_2 rfl
    have hcr5_2_0 := (hM5_2.cap 0 rfl).1
    refine O.val (v := .tuple #[.slice (A15_2) ((L15_2).length) (c15_2), .bool ((putF (tsL l13_1) k13_1).isSome)]) rfl (Ru.move rfl) rfl ?_
    refine O.val (v := .slice (A15_2) ((L15_2).length) (c15_2)) rfl (Ru.extract rfl rfl) rfl ?_
    refine O.val (v := .bool ((putF (tsL l13_1) k13_1).isSome)) rfl (Ru.extract rfl rfl) rfl ?_
    refine O.val (v := .slice (A15_2) ((L15_2).length) (c15_2)) rfl (Ru.assign rfl) rfl ?_
    refine O.val (v := .bool ((putF (tsL l13_1) k13_1).isSome)) rfl (Ru.assign rfl) rfl ?_
    refine O.nil ?_
    refine C.seq ?_
    refine C.seq ?_
    refine C.region ?_
    refine O.val (v := .slice (A14_2) ((L14_2).length) (c14_2)) rfl (Ru.move rfl) rfl ?_
    refine O.val (v := .slice (A15_2) ((L15_2).length) (c15_2)) rfl (Ru.move rfl) rfl ?_
    refine O.callg [.slice (A14_2) ((L14_2).length) (c14_2), .slice (A15_2) ((L15_2).length) (c15_2)] rfl en37 rfl rfl (equalChains_fn A14_2 c14_2 L14_2 A15_2 c15_2 L15_2 w5_2 (hM5_2.rd 2 rfl) (Nst.mem hM5_2 3 rfl) (hM5_2.rd 0 rfl) (Nst.mem hM5_2 1 rfl) (by omega) (by intro x hx; have := hK4 x hx; omega)) ?_
    rintro _ w6_2 ⟨hv6_2, hR6_2⟩
    obtain rfl : _ = .bool (true) := hv6_2.trans (congrArg Value.bool (decide_eq_true (by rw [hts4_2, hts5_2])))
    have hM6_2 : Mem w w6_2 [] [[⟨.slice (A15_2) ((L15_2).length) (c15_2), 28, 3, ((L15_2).length), (L15_2).flatMap encL⟩], (L15_2).map (keyF 3), [⟨.slice (A14_2) ((L14_2).length) (c14_2), 28, 3, ((L14_2).length), (L14_2).flatMap encL⟩], (L14_2).map (keyF 3), [⟨.slice (A13_1) ((l13_1).length) (c13_1), 28, 3, ((l13_1).length), (l13_1).flatMap encL⟩], G3_1] := Mem.call (Ma := []) hM5_2 hR6_2 rfl
    refine O.val (v := .bool (false)) rfl (Ru.not (b := true) rfl) rfl ?_
    refine O.val (v := .bool (false)) rfl (Ru.move rfl) rfl ?_
    refine O.val (v := .bool ((putF (tsL l13_1) k13_1).isSome)) rfl (Ru.move rfl) rfl ?_
    refine O.val (v := .bool ((putF (tsL l13_1) k13_1).isSome)) rfl (Ru.move rfl) rfl ?_
    refine O.val (v := .bool (false)) rfl (Ru.congr (v := .bool (decide ((putF (tsL l13_1) k13_1).isSome ≠ (putF (tsL l13_1) k13_1).isSome))) (v' := .bool (false)) (Ru.bneq Try.underlying4 rfl rfl) ((congrArg Value.bool (decide_eq_false (by simp))))) rfl ?_
    refine O.val (v := .bool (false)) rfl (Ru.pickF rfl rfl) rfl ?_
    refine O.val (v := .bool (false)) rfl (Ru.move rfl) rfl ?_
    refine O.val (v := .bool ((putF (tsL l13_1) k13_1).isSome)) rfl (Ru.move rfl) rfl ?_
    refine O.val (v := .bool (!((putF (tsL l13_1) k13_1).isSome))) rfl (Ru.not rfl) rfl ?_
    refine O.val (v := .bool (!((putF (tsL l13_1) k13_1).isSome))) rfl (Ru.pickF rfl rfl) rfl ?_
    refine O.nil ?_
    refine C.condn (b := ((putF (tsL l13_1) k13_1).isSome)) rfl (fun c45 => ?_) (fun c45 => ?_)
    · refine C.seq ?_
      refine C.region ?_
      refine O.val (v := .slice (A14_2) ((L14_2).length) (c14_2)) rfl (Ru.move rfl) rfl ?_
      refine O.val (v := .slice (A15_2) ((L15_2).length) (c15_2)) rfl (Ru.move rfl) rfl ?_
      refine O.callg [.slice (A14_2) ((L14_2).length) (c14_2), .slice (A15_2) ((L15_2).length) (c15_2)] rfl en37 rfl rfl (equalChains_fn A14_2 c14_2 L14_2 A15_2 c15_2 L15_2 w6_2 (hM6_2.rd 2 rfl) (Nst.mem hM6_2 3 rfl) (hM6_2.rd 0 rfl) (Nst.mem hM6_2 1 rfl) (by omega) (by intro x hx; have := hK4 x hx; omega)) ?_
      rintro _ w7_2 ⟨hv7_2, hR7_2⟩
      obtain rfl : _ = .bool (true) := hv7_2.trans (congrArg Value.bool (decide_eq_true (by rw [hts4_2, hts5_2])))
      have hM7_2 : Mem w w7_2 [] [[⟨.slice (A15_2) ((L15_2).length) (c15_2), 28, 3, ((L15_2).length), (L15_2).flatMap encL⟩], (L15_2).map (keyF 3), [⟨.slice (A14_2) ((L14_2).length) (c14_2), 28, 3, ((L14_2).length), (L14_2).flatMap encL⟩], (L14_2).map (keyF 3), [⟨.slice (A13_1) ((l13_1).length) (c13_1), 28, 3, ((l13_1).length), (l13_1).flatMap encL⟩], G3_1] := Mem.call (Ma := []) hM6_2 hR7_2 rfl
      refine O.val (v := .bool (true)) rfl (Ru.move rfl) rfl ?_
      refine O.val (v := .bool ((putF (tsL l13_1) k13_1).isSome)) rfl (Ru.move rfl) rfl ?_
      refine O.val (v := .bool ((putF (tsL l13_1) k13_1).isSome)) rfl (Ru.move rfl) rfl ?_
      refine O.val (v := .bool (true)) rfl (Ru.congr (v := .bool (decide ((putF (tsL l13_1) k13_1).isSome = (putF (tsL l13_1) k13_1).isSome))) (v' := .bool (true)) (Ru.beql Try.underlying4 rfl rfl) ((congrArg Value.bool (decide_eq_true rfl)))) rfl ?_
      refine O.val (v := .bool (true)) rfl (Ru.pickT rfl rfl) rfl ?_
      refine O.val (v := .bool (true)) rfl (Ru.assign rfl) rfl ?_
      refine O.nil ?_
      refine C.ret ?_
      refine P1 (v := .bool (true)) rfl ?_
      exact ⟨rfl, (Mem.none hM7_2)⟩
    · obtain ⟨l9, hp9⟩ := put_get (l := tsL l13_1) (key := k13_1) (by simp_all)
      have hL5 : tsL L14_2 = l9 := by rw [hts4_2, hp9, Option.getD_some]
      rw [← hL5] at hp9
      obtain ⟨hky, hv, hvo, hin1, hni1, hfk, hln⟩ := put_ok hp9
      have hp2 := put_twice hp9
      have hr := find_range (good0 hvo hky)
      simp only [List.length_map] at hr hln
      refine C.skip ?_
      refine C.seq ?_
      refine C.region ?_
      refine O.val (v := .slice (A13_1) ((l13_1).length) (c13_1)) rfl (Ru.move rfl) rfl ?_
      refine O.callg [.slice (A13_1) ((l13_1).length) (c13_1)] rfl en24 rfl rfl (ChainKeys_fn A13_1 c13_1 l13_1 w6_2 (hM6_2.rd 4 rfl) (hG3_1 _ (Mem.gown hM6_2 5 rfl)) (by omega)) ?_
      rintro _ w8_1 ⟨A18_1, c18_1, rfl, hR8_1⟩
      have hM8_1 : Mem w w8_1 [] [[⟨.slice (A18_1) ((keysC (tsL l13_1)).length) (c18_1), 3, 1, ((keysC (tsL l13_1)).length), (keysC (tsL l13_1)).map I⟩], [⟨.slice (A15_2) ((L15_2).length) (c15_2), 28, 3, ((L15_2).length), (L15_2).flatMap encL⟩], (L15_2).map (keyF 3), [⟨.slice (A14_2) ((L14_2).length) (c14_2), 28, 3, ((L14_2).length), (L14_2).flatMap encL⟩], (L14_2).map (keyF 3), [⟨.slice (A13_1) ((l13_1).length) (c13_1), 28, 3, ((l13_1).length), (l13_1).flatMap encL⟩], G3_1] := Mem.call (Ma := []) hM6_2 hR8_1 rfl
      have hcr8_1_0 := (hM8_1.cap 0 rfl).1
      refine O.val (v := .slice (A18_1) ((keysC (tsL l13_1)).length) (c18_1)) rfl (Ru.assign rfl) rfl ?_
      refine O.nil ?_
      refine C.seq ?_
      refine C.region ?_
      refine O.val (v := .slice (A14_2) ((L14_2).length) (c14_2)) rfl (Ru.move rfl) rfl ?_
      refine O.callg [.slice (A14_2) ((L14_2).length) (c14_2)] rfl en24 rfl rfl (ChainKeys_fn A14_2 c14_2 L14_2 w8_1 (hM8_1.rd 3 rfl) (Nst.mem hM8_1 4 rfl) (by omega)) ?_
      rintro _ w9_1 ⟨A19_1, c19_1, rfl, hR9_1⟩
      have hM9_1 : Mem w w9_1 [] [[⟨.slice (A19_1) ((keysC (tsL L14_2)).length) (c19_1), 3, 1, ((keysC (tsL L14_2)).length), (keysC (tsL L14_2)).map I⟩], [⟨.slice (A18_1) ((keysC (tsL l13_1)).length) (c18_1), 3, 1, ((keysC (tsL l13_1)).length), (keysC (tsL l13_1)).map I⟩], [⟨.slice (A15_2) ((L15_2).length) (c15_2), 28, 3, ((L15_2).length), (L15_2).flatMap encL⟩], (L15_2).map (keyF 3), [⟨.slice (A14_2) ((L14_2).length) (c14_2), 28, 3, ((L14_2).length), (L14_2).flatMap encL⟩], (L14_2).map (keyF 3), [⟨.slice (A13_1) ((l13_1).length) (c13_1), 28, 3, ((l13_1).length), (l13_1).flatMap encL⟩], G3_1] := Mem.call (Ma := []) hM8_1 hR9_1 rfl
      have hcr9_1_0 := (hM9_1.cap 0 rfl).1
      refine O.val (v := .slice (A19_1) ((keysC (tsL L14_2)).length) (c19_1)) rfl (Ru.assign rfl) rfl ?_
      refine O.nil ?_
      refine C.seq ?_
      refine C.region ?_
      refine O.val (v := .slice (A18_1) ((keysC (tsL l13_1)).length) (c18_1)) rfl (Ru.move rfl) rfl ?_
      refine O.val (v := I (k13_1)) rfl (Ru.move rfl) rfl ?_
      refine O.callg [.slice (A18_1) ((keysC (tsL l13_1)).length) (c18_1), I (k13_1)] rfl en41 rfl rfl (InsertKey_fn A18_1 c18_1 (keysC (tsL l13_1)) k13_1 w9_1 (hM9_1.rd 1 rfl) (by exact Nat.le_trans (validK_len (keys_valid (l := tsL l13_1))) (by omega))) ?_
      rintro _ w10_2 ⟨A110_2, c110_2, rfl, hR10_2⟩
      have hM10_2 : Mem w w10_2 [] [[⟨.slice (A110_2) (((insF (keysC (tsL l13_1)) k13_1).getD []).length) (c110_2), 3, 1, (((insF (keysC (tsL l13_1)) k13_1).getD []).length), ((insF (keysC (tsL l13_1)) k13_1).getD []).map I⟩], [⟨.slice (A19_1) ((keysC (tsL L14_2)).length) (c19_1), 3, 1, ((keysC (tsL L14_2)).length), (keysC (tsL L14_2)).map I⟩], [⟨.slice (A18_1) ((keysC (tsL l13_1)).length) (c18_1), 3, 1, ((keysC (tsL l13_1)).length), (keysC (tsL l13_1)).map I⟩], [⟨.slice (A15_2) ((L15_2).length) (c15_2), 28, 3, ((L15_2).length), (L15_2).flatMap encL⟩], (L15_2).map (keyF 3), [⟨.slice (A14_2) ((L14_2).length) (c14_2), 28, 3, ((L14_2).length), (L14_2).flatMap encL⟩], (L14_2).map (keyF 3), [⟨.slice (A13_1) ((l13_1).length) (c13_1), 28, 3, ((l13_1).length), (l13_1).flatMap encL⟩], G3_1] := Mem.call (Ma := []) hM9_1 hR10_2 rfl
      have hcr10_2_0 := (hM10_2.cap 0 rfl).1
      refine O.val (v := .tuple #[.slice (A110_2) (((insF (keysC (tsL l13_1)) k13_1).getD []).length) (c110_2), .bool ((insF (keysC (tsL l13_1)) k13_1).isSome)]) rfl (Ru.move rfl) rfl ?_
      refine O.val (v := .slice (A110_2) (((insF (keysC (tsL l13_1)) k13_1).getD []).length) (c110_2)) rfl (Ru.extract rfl rfl) rfl ?_
      refine O.val (v := .bool ((insF (keysC (tsL l13_1)) k13_1).isSome)) rfl (Ru.extract rfl rfl) rfl ?_
      refine O.val (v := .slice (A110_2) (((insF (keysC (tsL l13_1)) k13_1).getD []).length) (c110_2)) rfl (Ru.assign rfl) rfl ?_
      refine O.val (v := .bool ((insF (keysC (tsL l13_1)) k13_1).isSome)) rfl (Ru.assign rfl) rfl ?_
      refine O.nil ?_
      refine C.seq ?_
      refine C.seq ?_
      refine C.region ?_
      refine O.val (v := .bool ((insF (keysC (tsL l13_1)) k13_1).isSome)) rfl (Ru.move rfl) rfl ?_
      refine O.val (v := .bool (!((insF (keysC (tsL l13_1)) k13_1).isSome))) rfl (Ru.not rfl) rfl ?_
      refine O.nil ?_
      refine C.condn (b := ((insF (keysC (tsL l13_1)) k13_1).isSome)) rfl (fun c65 => ?_) (fun c65 => ?_)
      · have hin : k13_1 ∈ keysC (tsL l13_1) := by apply Classical.byContradiction; intro hn; rw [ins_yes keys_valid hky hn] at c65; simp at c65
        have he := hin1 hin
        refine C.seq ?_
        refine C.region ?_
        refine O.val (v := .slice (A18_1) ((keysC (tsL l13_1)).length) (c18_1)) rfl (Ru.move rfl) rfl ?_
        refine O.val (v := I (k13_1)) rfl (Ru.move rfl) rfl ?_
        refine O.callg [.slice (A18_1) ((keysC (tsL l13_1)).length) (c18_1), I (k13_1)] rfl en28 rfl rfl (lisIn_fn A18_1 c18_1 (keysC (tsL l13_1)) k13_1 w10_2 (hM10_2.rd 2 rfl) (by exact Nat.le_trans (validK_len (keys_valid (l := tsL l13_1))) (by omega))) ?_
        rintro _ w12_2 ⟨hv12_2, hR12_2⟩
        obtain rfl : _ = .bool (true) := hv12_2.trans (congrArg Value.bool (decide_eq_true hin))
        have hM12_2 : Mem w w12_2 [] [[⟨.slice (A110_2) (((insF (keysC (tsL l13_1)) k13_1).getD []).length) (c110_2), 3, 1, (((insF (keysC (tsL l13_1)) k13_1).getD []).length), ((insF (keysC (tsL l13_1)) k13_1).getD []).map I⟩], [⟨.slice (A19_1) ((keysC (tsL L14_2)).length) (c19_1), 3, 1, ((keysC (tsL L14_2)).length), (keysC (tsL L14_2)).map I⟩], [⟨.slice (A18_1) ((keysC (tsL l13_1)).length) (c18_1), 3, 1, ((keysC (tsL l13_1)).length), (keysC (tsL l13_1)).map I⟩], [⟨.slice (A15_2) ((L15_2).length) (c15_2), 28, 3, ((L15_2).length), (L15_2).flatMap encL⟩], (L15_2).map (keyF 3), [⟨.slice (A14_2) ((L14_2).length) (c14_2), 28, 3, ((L14_2).length), (L14_2).flatMap encL⟩], (L14_2).map (keyF 3), [⟨.slice (A13_1) ((l13_1).length) (c13_1), 28, 3, ((l13_1).length), (l13_1).flatMap encL⟩], G3_1] := Mem.call (Ma := []) hM10_2 hR12_2 rfl
        refine O.val (v := .bool (true)) rfl (Ru.move rfl) rfl ?_
        refine O.val (v := .slice (A19_1) ((keysC (tsL L14_2)).length) (c19_1)) rfl (Ru.move rfl) rfl ?_
        refine O.val (v := .slice (A18_1) ((keysC (tsL l13_1)).length) (c18_1)) rfl (Ru.move rfl) rfl ?_
        refine O.callg [.slice (A19_1) ((keysC (tsL L14_2)).length) (c19_1), .slice (A18_1) ((keysC (tsL l13_1)).length) (c18_1)] rfl en25 rfl rfl (equalInts_fn A19_1 c19_1 (keysC (tsL L14_2)) A18_1 c18_1 (keysC (tsL l13_1)) w12_2 (hM12_2.rd 1 rfl) (hM12_2.rd 2 rfl) (by exact Nat.le_trans (validK_len (keys_valid (l := tsL L14_2))) (by omega))) ?_
        rintro _ w12_6 ⟨hv12_6, hR12_6⟩
        obtain rfl : _ = .bool (true) := hv12_6.trans (congrArg Value.bool (decide_eq_true (by rw [he])))
        have hM12_6 : Mem w w12_6 [] [[⟨.slice (A110_2) (((insF (keysC (tsL l13_1)) k13_1).getD []).length) (c110_2), 3, 1, (((insF (keysC (tsL l13_1)) k13_1).getD []).length), ((insF (keysC (tsL l13_1)) k13_1).getD []).map I⟩], [⟨.slice (A19_1) ((keysC (tsL L14_2)).length) (c19_1), 3, 1, ((keysC (tsL L14_2)).length), (keysC (tsL L14_2)).map I⟩], [⟨.slice (A18_1) ((keysC (tsL l13_1)).length) (c18_1), 3, 1, ((keysC (tsL l13_1)).length), (keysC (tsL l13_1)).map I⟩], [⟨.slice (A15_2) ((L15_2).length) (c15_2), 28, 3, ((L15_2).length), (L15_2).flatMap encL⟩], (L15_2).map (keyF 3), [⟨.slice (A14_2) ((L14_2).length) (c14_2), 28, 3, ((L14_2).length), (L14_2).flatMap encL⟩], (L14_2).map (keyF 3), [⟨.slice (A13_1) ((l13_1).length) (c13_1), 28, 3, ((l13_1).length), (l13_1).flatMap encL⟩], G3_1] := Mem.call (Ma := []) hM12_2 hR12_6 rfl
        refine O.val (v := .bool (true)) rfl (Ru.pickT rfl rfl) rfl ?_
        refine O.val (v := .bool (true)) rfl (Ru.move rfl) rfl ?_
        refine O.val (v := .slice (A14_2) ((L14_2).length) (c14_2)) rfl (Ru.move rfl) rfl ?_
        refine O.val (v := .slice (A13_1) ((l13_1).length) (c13_1)) rfl (Ru.move rfl) rfl ?_
        refine O.callg [.slice (A14_2) ((L14_2).length) (c14_2), .slice (A13_1) ((l13_1).length) (c13_1)] rfl en37 rfl rfl (equalChains_fn A14_2 c14_2 L14_2 A13_1 c13_1 l13_1 w12_6 (hM12_6.rd 5 rfl) (Nst.mem hM12_6 6 rfl) (hM12_6.rd 7 rfl) (hG3_1 _ (Mem.gown hM12_6 8 rfl)) (by omega) (by intro x hx; have := hK4 x hx; omega)) ?_
        rintro _ w12_11 ⟨hv12_11, hR12_11⟩
        obtain rfl : _ = .bool (true) := hv12_11.trans (congrArg Value.bool (decide_eq_true he))
        have hM12_11 : Mem w w12_11 [] [[⟨.slice (A110_2) (((insF (keysC (tsL l13_1)) k13_1).getD []).length) (c110_2), 3, 1, (((insF (keysC (tsL l13_1)) k13_1).getD []).length), ((insF (keysC (tsL l13_1)) k13_1).getD []).map I⟩], [⟨.slice (A19_1) ((keysC (tsL L14_2)).length) (c19_1), 3, 1, ((keysC (tsL L14_2)).length), (keysC (tsL L14_2)).map I⟩], [⟨.slice (A18_1) ((keysC (tsL l13_1)).length) (c18_1), 3, 1, ((keysC (tsL l13_1)).length), (keysC (tsL l13_1)).map I⟩], [⟨.slice (A15_2) ((L15_2).length) (c15_2), 28, 3, ((L15_2).length), (L15_2).flatMap encL⟩], (L15_2).map (keyF 3), [⟨.slice (A14_2) ((L14_2).length) (c14_2), 28, 3, ((L14_2).length), (L14_2).flatMap encL⟩], (L14_2).map (keyF 3), [⟨.slice (A13_1) ((l13_1).length) (c13_1), 28, 3, ((l13_1).length), (l13_1).flatMap encL⟩], G3_1] := Mem.call (Ma := []) hM12_6 hR12_11 rfl
        refine O.val (v := .bool (true)) rfl (Ru.pickT rfl rfl) rfl ?_
        refine O.val (v := .bool (true)) rfl (Ru.assign rfl) rfl ?_
        refine O.nil ?_
        refine C.ret ?_
        refine P1 (v := .bool (true)) rfl ?_
        exact ⟨rfl, (Mem.none hM12_11)⟩
      · have hni : k13_1 ∉ keysC (tsL l13_1) := by intro hn; rw [ins_no (.inr (.inr hn))] at c65; simp at c65
        have hins := ins_yes (keys_valid (l := tsL l13_1)) hky hni
        have hke := hni1 hni
        refine C.skip ?_
        refine C.seq ?_
        refine C.region ?_
        refine O.val (v := .slice (A19_1) ((keysC (tsL L14_2)).length) (c19_1)) rfl (Ru.move rfl) rfl ?_
        refine O.val (v := .slice (A110_2) (((insF (keysC (tsL l13_1)) k13_1).getD []).length) (c110_2)) rfl (Ru.move rfl) rfl ?_
        refine O.callg [.slice (A19_1) ((keysC (tsL L14_2)).length) (c19_1), .slice (A110_2) (((insF (keysC (tsL l13_1)) k13_1).getD []).length) (c110_2)] rfl en25 rfl rfl (equalInts_fn A19_1 c19_1 (keysC (tsL L14_2)) A110_2 c110_2 ((insF (keysC (tsL l13_1)) k13_1).getD []) w10_2 (hM10_2.rd 1 rfl) (hM10_2.rd 0 rfl) (by exact Nat.le_trans (validK_len (keys_valid (l := tsL L14_2))) (by omega))) ?_
        rintro _ w13_2 ⟨hv13_2, hR13_2⟩
        obtain rfl : _ = .bool (true) := hv13_2.trans (congrArg Value.bool (decide_eq_true (by rw [hins, Option.getD_some]; exact hke)))
        have hM13_2 : Mem w w13_2 [] [[⟨.slice (A110_2) (((insF (keysC (tsL l13_1)) k13_1).getD []).length) (c110_2), 3, 1, (((insF (keysC (tsL l13_1)) k13_1).getD []).length), ((insF (keysC (tsL l13_1)) k13_1).getD []).map I⟩], [⟨.slice (A19_1) ((keysC (tsL L14_2)).length) (c19_1), 3, 1, ((keysC (tsL L14_2)).length), (keysC (tsL L14_2)).map I⟩], [⟨.slice (A18_1) ((keysC (tsL l13_1)).length) (c18_1), 3, 1, ((keysC (tsL l13_1)).length), (keysC (tsL l13_1)).map I⟩], [⟨.slice (A15_2) ((L15_2).length) (c15_2), 28, 3, ((L15_2).length), (L15_2).flatMap encL⟩], (L15_2).map (keyF 3), [⟨.slice (A14_2) ((L14_2).length) (c14_2), 28, 3, ((L14_2).length), (L14_2).flatMap encL⟩], (L14_2).map (keyF 3), [⟨.slice (A13_1) ((l13_1).length) (c13_1), 28, 3, ((l13_1).length), (l13_1).flatMap encL⟩], G3_1] := Mem.call (Ma := []) hM10_2 hR13_2 rfl
        refine O.val (v := .bool (true)) rfl (Ru.move rfl) rfl ?_
        refine O.val (v := .slice (A14_2) ((L14_2).length) (c14_2)) rfl (Ru.move rfl) rfl ?_
        refine O.callg [.slice (A14_2) ((L14_2).length) (c14_2)] rfl en18 rfl rfl (ValidChain_fn A14_2 c14_2 L14_2 w13_2 (hM13_2.rd 5 rfl) (Nst.mem hM13_2 6 rfl) (by omega)) ?_
        rintro _ w13_5 ⟨hv13_5, hR13_5⟩
        obtain rfl : _ = .bool (true) := hv13_5.trans (congrArg Value.bool hvo)
        have hM13_5 : Mem w w13_5 [] [[⟨.slice (A110_2) (((insF (keysC (tsL l13_1)) k13_1).getD []).length) (c110_2), 3, 1, (((insF (keysC (tsL l13_1)) k13_1).getD []).length), ((insF (keysC (tsL l13_1)) k13_1).getD []).map I⟩], [⟨.slice (A19_1) ((keysC (tsL L14_2)).length) (c19_1), 3, 1, ((keysC (tsL L14_2)).length), (keysC (tsL L14_2)).map I⟩], [⟨.slice (A18_1) ((keysC (tsL l13_1)).length) (c18_1), 3, 1, ((keysC (tsL l13_1)).length), (keysC (tsL l13_1)).map I⟩], [⟨.slice (A15_2) ((L15_2).length) (c15_2), 28, 3, ((L15_2).length), (L15_2).flatMap encL⟩], (L15_2).map (keyF 3), [⟨.slice (A14_2) ((L14_2).length) (c14_2), 28, 3, ((L14_2).length), (L14_2).flatMap encL⟩], (L14_2).map (keyF 3), [⟨.slice (A13_1) ((l13_1).length) (c13_1), 28, 3, ((l13_1).length), (l13_1).flatMap encL⟩], G3_1] := Mem.call (Ma := []) hM13_2 hR13_5 rfl
        refine O.val (v := .bool (true)) rfl (Ru.pickT rfl rfl) rfl ?_
        refine O.val (v := .bool (true)) rfl (Ru.move rfl) rfl ?_
        refine O.val (v := .slice (A14_2) ((L14_2).length) (c14_2)) rfl (Ru.move rfl) rfl ?_
        refine O.val (v := I ((((L14_2).length : Nat) : Int))) rfl (Ru.blenSlice Try.underlying23 rfl) rfl ?_
        refine O.val (v := .slice (A13_1) ((l13_1).length) (c13_1)) rfl (Ru.move rfl) rfl ?_
        refine O.val (v := I ((((l13_1).length : Nat) : Int))) rfl (Ru.blenSlice Try.underlying23 rfl) rfl ?_
        refine O.val (v := I (((((l13_1).length + 1) : Nat) : Int))) rfl (Ru.congr (v := I (((((l13_1).length : Nat) : Int) + 1))) (v' := I (((((l13_1).length + 1) : Nat) : Int))) (Ru.add rfl rfl (by omega)) (I_congr (by first | omega | simp))) rfl ?_
        refine O.val (v := .bool (true)) rfl (Ru.congr (v := .bool (decide ((((L14_2).length : Nat) : Int) ≤ ((((l13_1).length + 1) : Nat) : Int)))) (v' := .bool (true)) (Ru.leq rfl rfl) ((congrArg Value.bool (decide_eq_true (by omega))))) rfl ?_
        refine O.val (v := .bool (true)) rfl (Ru.pickT rfl rfl) rfl ?_
        refine O.val (v := .bool (true)) rfl (Ru.assign rfl) rfl ?_
        refine O.nil ?_
        refine C.ret ?_
        refine P1 (v := .bool (true)) rfl ?_
        exact ⟨rfl, (Mem.none hM13_5)⟩
end Go.Proofs.Yteljpjapacajoaa
namespace Go.Proofs.Yteljpjapacajoaa.fnPutLink
open Go.ChangeShapes Go.WideShapes Go.ChangeAt Go.RowKit Go.Px
open Go.ChangeMaps (open_string shut_string)
set_option linter.unusedVariables false

theorem own : ownKnob Try.prog.godebug = none := by kernel_rfl
theorem laidOut : laidOutB Try.prog = true := by kernel_rfl

set_option maxRecDepth 100000 in
theorem lifted (os : Os) (started : os.Started) (H : Type) (enc : TypeId × Value → H) :
    ReturnsInHanded {} Try.checked os 15 .any (Rows.fnPutLinkSpec.pre6 enc Try.prog Try.f15 Rows.fnPutLinkRow.domain false) (Rows.fnPutLinkSpec.post enc Try.prog Try.f15 false true false false) := by
  refine returnsInHanded_of_change (C := Try.checked) own started (by kernel_rfl) Try.func15
    (ChangeSpec.witness6 (enc := enc) (C := Try.checked) false ⟨#[], #[.slice none 0 0], []⟩ 8 (by kernel_rfl) (by kernel_rfl) (by kernel_rfl) (by kernel_rfl)) ?_
  intro W base args ds gs before hval0 hW hcnd _
  have hval : ∀ (j : Nat) t v, Try.f15.params[j]? = some t → args[j]? = some v → Value.okWide Try.prog W .any base t v := hval0
  have hW' := hW
  obtain ⟨p, q, hA0, hV, rfl, hfz, hnd⟩ := hW
  have hA : DataW.TrodAll enc Try.prog W 0 (fun _ => true) true Try.f15.params.toList args.toList ds p := hA0
  rw [Try.params15] at hA hval
  obtain ⟨v0, vs0, d0, ds0, p0, q0, hargs, rfl, rfl, h0, r0⟩ := trodAll_cons hA
  obtain ⟨rfl, rfl, rfl⟩ := trodAll_nil r0
  obtain rfl : args = #[v0] := by cases args; simp_all
  obtain ⟨rfl, rfl⟩ := trodVars_none hV
  have k0 := h0
  have lt0 : ∀ x ∈ p0, x.block < W.heap.size := by obtain ⟨m, hm⟩ := k0; exact DataW.trod_lt m _ _ _ hm
  obtain ⟨a0, len0, cap0, rfl⟩ := okWide_slice Try.underlying22 (hval 0 22 v0 rfl rfl)
  have kk0 := k0
  obtain ⟨fuel0, hf0⟩ := kk0
  obtain ⟨z0, rfl, hz0, hc0, hw0, hRd0⟩ := slice_in (α := UInt8) (f := fun a : UInt8 => [byteV a]) (c := 1) Try.underlying22 (by kernel_rfl) (fun _ => rfl) (byte_el Try.underlying5) hf0
  rw [flat_one] at hRd0
  clear hA0 hval0
  refine (FnPutLink_fn a0 cap0 z0 W hRd0 hz0 hc0).out.mono fun e W' ⟨v, he, hv, hg⟩ => ?_
  subst he hv
  have bel : Below W.heap.size W W' := ⟨hg.os, hg.tape, hg.output, hg.size, fun k hk => hg.block k hk (by simp)⟩
  exact ⟨_, rfl, _, _, _, [], _, [], hW', trodAll_mk1 (shut_bool Try.underlying4 _), (trodAll_cons_mk (Below.trod laidOut (by kernel_rfl) (of_decide_eq_true (by kernel_rfl)) k0 bel lt0) trodAll_mk0), rfl, bel.frame _, fun h => by cases h⟩

theorem named_ : Try.prog.funcNamed Rows.fnPutLinkRow.func = some 15 := by kernel_rfl
theorem closed : joinedFacts Try.prog 15 Try.f15 Rows.fnPutLinkSpec Rows.fnPutLinkRow = true := by
  unfold joinedFacts
  rw [enter_, lifts_, made_]
  kernel_rfl
theorem inst_ : Try.f15.isInstance Try.prog Rows.fnPutLinkRow.origin Rows.fnPutLinkRow.targs := of_decide_eq_true (by kernel_rfl)
theorem wrap_ : Try.f15.isWrapper Try.prog Rows.fnPutLinkRow.wrapper Rows.fnPutLinkRow.mainSum := by
  unfold Func.isWrapper
  rw [if_neg (by decide +kernel)]
  exact ⟨rfl, rfl⟩
theorem over : Rows.fnPutLinkRow.holds Try.pinned (OpenSpec.ofChange Rows.fnPutLinkSpec) :=
  OpenClaim.holds_of_wide 15 Try.f15 rfl rfl rfl rfl rfl rfl rfl ⟨rfl, rfl, rfl, rfl, rfl⟩ rfl rfl rfl rfl rfl named_ Try.func15 closed inst_ wrap_
    (fun os started H enc _ => lifted os started H enc)
theorem proved : Rows.FnPutLinkSaid := over
end Go.Proofs.Yteljpjapacajoaa.fnPutLink
