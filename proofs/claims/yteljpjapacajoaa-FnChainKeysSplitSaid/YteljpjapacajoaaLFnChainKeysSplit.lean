/- The statement Rows.FnChainKeysSplitSaid: the Go function laws.FnChainKeysSplit returns true for every input, and each argument reads afterwards as it read before. No conditions. -/
import Derived.Test.YteljpjapacajoaaRows
import Derived.Test.YteljpjapacajoaaPxO
import Derived.Test.YteljpjapacajoaaDZ
import Derived.Test.YteljpjapacajoaaH0
import Derived.WalkKit
import Derived.ProofKit
import Derived.OpenShut
import Derived.ShutString
import Derived.ChangeOld
import Derived.SliceStrings
import Derived.Deep.Slices
import Derived.Deep.Fields
import Derived.ChangeSame
import Derived.Below
set_option linter.unusedVariables false
set_option linter.unusedSimpArgs false
namespace Go.Proofs.Yteljpjapacajoaa
open Go.Px
set_option linter.unusedVariables false
theorem FnChainKeysSplit_fn (A : Option Addr) (c : Nat) (l : List UInt8) (w : World) (hA : Rd w A ((l).map byteV)) (hl : l.length ≤ 9223372036854775807) (hc : l.length ≤ c) :
    Does Try.prog 7 [.slice (A) ((l).length) (c)] w (fun v w1 => v = .bool (true) ∧ Mem w w1 [] []) := by
  have hM : Mem w w [] [] := Mem.refl
  refine Does.enter1 Try.func7 rfl Try.results7 Try.ntmps7 rfl ?_
  refine C.seq ?_
  refine C.region ?_
  refine O.val (v := .bool (false)) rfl (Ru.assign rfl) rfl ?_
  refine O.nil ?_
  refine C.seq ?_
  refine C.seq ?_
  refine C.region ?_
  refine O.val (v := .slice (A) ((l).length) (c)) rfl (Ru.move rfl) rfl ?_
  refine O.val (v := I ((((l).length : Nat) : Int))) rfl (Ru.blenSlice Try.underlying22 rfl) rfl ?_
  refine O.val (v := .bool (decide ((((l).length : Nat) : Int) > 1048576))) rfl (Ru.gtr rfl rfl) rfl ?_
  refine O.nil ?_
  refine C.cond (p := (((l).length : Nat) : Int) > 1048576) rfl (fun c8 => ?_) (fun c8 => ?_)
  · refine C.seq ?_
    refine C.region ?_
    refine O.val (v := .bool (true)) rfl (Ru.assign rfl) rfl ?_
    refine O.nil ?_
    refine C.ret ?_
    refine P1 (v := .bool (true)) rfl ?_
    exact ⟨rfl, (Mem.none hM)⟩
  · refine C.skip ?_
    refine C.seq ?_
    refine C.region ?_
    refine O.val (v := .slice (A) ((l).length) (c)) rfl (Ru.move rfl) rfl ?_
    refine O.callg [.slice (A) ((l).length) (c)] rfl en23 rfl rfl (DrawChainKeys_fn A c l w (hA.at hM) (by first | omega | assumption | (simp; omega) | simp | (intros; omega)) (by first | omega | assumption | (simp; omega) | simp | (intros; omega))) ?_
    rintro _ w3_1 ⟨l13_1, A13_1, c13_1, G3_1, rfl, hl3_1, hk3_1, hG3_1, hcp3_1, hR3_1⟩
    have hM3_1 : Mem w w3_1 [] [[⟨.slice (A13_1) ((l13_1).length) (c13_1), 28, 3, ((l13_1).length), (l13_1).flatMap encL⟩], G3_1] := Mem.call (Ma := []) hM hR3_1 rfl
    have hcr3_1_0 := (hM3_1.cap 0 rfl).1
    refine O.val (v := .slice (A13_1) ((l13_1).length) (c13_1)) rfl (Ru.assign rfl) rfl ?_
    refine O.nil ?_
    refine C.seq ?_
    refine C.region ?_
    refine O.val (v := .slice (A13_1) ((l13_1).length) (c13_1)) rfl (Ru.move rfl) rfl ?_
    refine O.callg [.slice (A13_1) ((l13_1).length) (c13_1)] rfl en24 rfl rfl (ChainKeys_fn A13_1 c13_1 l13_1 w3_1 (hM3_1.rd 0 rfl) (hG3_1 _ (Mem.gown hM3_1 1 rfl)) (by first | omega | assumption | (simp; omega) | simp | (intros; omega))) ?_
    rintro _ w4_1 ⟨A14_1, c14_1, rfl, hR4_1⟩
    have hM4_1 : Mem w w4_1 [] [[⟨.slice (A14_1) ((keysC (tsL l13_1)).length) (c14_1), 3, 1, ((keysC (tsL l13_1)).length), (keysC (tsL l13_1)).map I⟩], [⟨.slice (A13_1) ((l13_1).length) (c13_1), 28, 3, ((l13_1).length), (l13_1).flatMap encL⟩], G3_1] := Mem.call (Ma := []) hM3_1 hR4_1 rfl
    have hcr4_1_0 := (hM4_1.cap 0 rfl).1
    have hkl := validK_len (keys_valid (l := tsL l13_1))
    refine O.val (v := .slice (A14_1) ((keysC (tsL l13_1)).length) (c14_1)) rfl (Ru.assign rfl) rfl ?_
    refine O.nil ?_
    refine C.seq ?_
    refine C.seq ?_
    refine C.region ?_
    refine O.val (v := .slice (A14_1) ((keysC (tsL l13_1)).length) (c14_1)) rfl (Ru.move rfl) rfl ?_
    refine O.val (v := .slice (A13_1) ((l13_1).length) (c13_1)) rfl (Ru.move rfl) rfl ?_
    refine O.callg [.slice (A13_1) ((l13_1).length) (c13_1)] rfl en26 rfl rfl (sChainKeys_fn A13_1 c13_1 l13_1 w4_1 (hM4_1.rd 1 rfl) (hG3_1 _ (Mem.gown hM4_1 2 rfl)) (by first | omega | assumption | (simp; omega) | simp | (intros; omega))) ?_
    rintro _ w5_2 ⟨A15_2, c15_2, rfl, hR5_2⟩
    have hM5_2 : Mem w w5_2 [] [[⟨.slice (A15_2) ((keysC (tsL l13_1)).length) (c15_2), 3, 1, ((keysC (tsL l13_1)).length), (keysC (tsL l13_1)).map I⟩], [⟨.slice (A14_1) ((keysC (tsL l13_1)).length) (c14_1), 3, 1, ((keysC (tsL l13_1)).length), (keysC (tsL l13_1)).map I⟩], [⟨.slice (A13_1) ((l13_1).length) (c13_1), 28, 3, ((l13_1).length), (l13_1).flatMap encL⟩], G3_1] := Mem.call (Ma := []) hM4_1 hR5_2 rfl
    have hcr5_2_0 := (hM5_2.cap 0 rfl).1
    refine O.callg [.slice (A14_1) ((keysC (tsL l13_1)).length) (c14_1), .slice (A15_2) ((keysC (tsL l13_1)).length) (c15_2)] rfl en25 rfl rfl (equalInts_fn A14_1 c14_1 (keysC (tsL l13_1)) A15_2 c15_2 (keysC (tsL l13_1)) w5_2 (hM5_2.rd 1 rfl) (hM5_2.rd 0 rfl) (by omega)) ?_
    rintro _ w5_3 ⟨hv5_3, hR5_3⟩
    obtain rfl : _ = Value.bool true := hv5_3.trans (by simp)
    have hM5_3 : Mem w w5_3 [] [[⟨.slice (A15_2) ((keysC (tsL l13_1)).length) (c15_2), 3, 1, ((keysC (tsL l13_1)).length), (keysC (tsL l13_1)).map I⟩], [⟨.slice (A14_1) ((keysC (tsL l13_1)).length) (c14_1), 3, 1, ((keysC (tsL l13_1)).length), (keysC (tsL l13_1)).map I⟩], [⟨.slice (A13_1) ((l13_1).length) (c13_1), 28, 3, ((l13_1).length), (l13_1).flatMap encL⟩], G3_1] := Mem.call (Ma := []) hM5_2 hR5_3 rfl
    refine O.val (v := .bool (false)) rfl (Ru.not (b := true) rfl) rfl ?_
    refine O.val (v := .bool (false)) rfl (Ru.move rfl) rfl ?_
    refine O.val (v := .slice (A13_1) ((l13_1).length) (c13_1)) rfl (Ru.move rfl) rfl ?_
    refine O.callg [.slice (A13_1) ((l13_1).length) (c13_1)] rfl en18 rfl rfl (ValidChain_fn A13_1 c13_1 l13_1 w5_3 (hM5_3.rd 2 rfl) (hG3_1 _ (Mem.gown hM5_3 3 rfl)) (by first | omega | assumption | (simp; omega) | simp | (intros; omega))) ?_
    rintro _ w5_7 ⟨rfl, hR5_7⟩
    have hM5_7 : Mem w w5_7 [] [[⟨.slice (A15_2) ((keysC (tsL l13_1)).length) (c15_2), 3, 1, ((keysC (tsL l13_1)).length), (keysC (tsL l13_1)).map I⟩], [⟨.slice (A14_1) ((keysC (tsL l13_1)).length) (c14_1), 3, 1, ((keysC (tsL l13_1)).length), (keysC (tsL l13_1)).map I⟩], [⟨.slice (A13_1) ((l13_1).length) (c13_1), 28, 3, ((l13_1).length), (l13_1).flatMap encL⟩], G3_1] := Mem.call (Ma := []) hM5_3 hR5_7 rfl
    refine O.val (v := .bool (!(validC (tsL l13_1)))) rfl (Ru.not rfl) rfl ?_
    refine O.val (v := .bool (!(validC (tsL l13_1)))) rfl (Ru.pickF rfl rfl) rfl ?_
    refine O.nil ?_
    refine C.condn (b := (validC (tsL l13_1))) rfl (fun c22 => ?_) (fun c22 => ?_)
    · refine C.seq ?_
      refine C.region ?_
      refine O.val (v := .slice (A14_1) ((keysC (tsL l13_1)).length) (c14_1)) rfl (Ru.move rfl) rfl ?_
      refine O.val (v := .slice (A13_1) ((l13_1).length) (c13_1)) rfl (Ru.move rfl) rfl ?_
      refine O.callg [.slice (A13_1) ((l13_1).length) (c13_1)] rfl en26 rfl rfl (sChainKeys_fn A13_1 c13_1 l13_1 w5_7 (hM5_7.rd 2 rfl) (hG3_1 _ (Mem.gown hM5_7 3 rfl)) (by first | omega | assumption | (simp; omega) | simp | (intros; omega))) ?_
      rintro _ w6_2 ⟨A16_2, c16_2, rfl, hR6_2⟩
      have hM6_2 : Mem w w6_2 [] [[⟨.slice (A16_2) ((keysC (tsL l13_1)).length) (c16_2), 3, 1, ((keysC (tsL l13_1)).length), (keysC (tsL l13_1)).map I⟩], [⟨.slice (A15_2) ((keysC (tsL l13_1)).length) (c15_2), 3, 1, ((keysC (tsL l13_1)).length), (keysC (tsL l13_1)).map I⟩], [⟨.slice (A14_1) ((keysC (tsL l13_1)).length) (c14_1), 3, 1, ((keysC (tsL l13_1)).length), (keysC (tsL l13_1)).map I⟩], [⟨.slice (A13_1) ((l13_1).length) (c13_1), 28, 3, ((l13_1).length), (l13_1).flatMap encL⟩], G3_1] := Mem.call (Ma := []) hM5_7 hR6_2 rfl
      have hcr6_2_0 := (hM6_2.cap 0 rfl).1
      refine O.callg [.slice (A14_1) ((keysC (tsL l13_1)).length) (c14_1), .slice (A16_2) ((keysC (tsL l13_1)).length) (c16_2)] rfl en25 rfl rfl (equalInts_fn A14_1 c14_1 (keysC (tsL l13_1)) A16_2 c16_2 (keysC (tsL l13_1)) w6_2 (hM6_2.rd 2 rfl) (hM6_2.rd 0 rfl) (by omega)) ?_
      rintro _ w6_3 ⟨hv6_3, hR6_3⟩
      obtain rfl : _ = Value.bool true := hv6_3.trans (by simp)
      have hM6_3 : Mem w w6_3 [] [[⟨.slice (A16_2) ((keysC (tsL l13_1)).length) (c16_2), 3, 1, ((keysC (tsL l13_1)).length), (keysC (tsL l13_1)).map I⟩], [⟨.slice (A15_2) ((keysC (tsL l13_1)).length) (c15_2), 3, 1, ((keysC (tsL l13_1)).length), (keysC (tsL l13_1)).map I⟩], [⟨.slice (A14_1) ((keysC (tsL l13_1)).length) (c14_1), 3, 1, ((keysC (tsL l13_1)).length), (keysC (tsL l13_1)).map I⟩], [⟨.slice (A13_1) ((l13_1).length) (c13_1), 28, 3, ((l13_1).length), (l13_1).flatMap encL⟩], G3_1] := Mem.call (Ma := []) hM6_2 hR6_3 rfl
      refine O.val (v := .bool (true)) rfl (Ru.assign rfl) rfl ?_
      refine O.nil ?_
      refine C.ret ?_
      refine P1 (v := .bool (true)) rfl ?_
      exact ⟨(by first | rfl | simp), (Mem.none hM6_3)⟩
    · have hv : validC (tsL l13_1) = true := by simp_all
      have h4 := valid_all hv _ (List.getElem_mem (show 0 < l13_1.length by omega))
      have hk1 := keys_one h4.1 h4.2
      obtain ⟨rr, hrr⟩ := keys_head hv
      rw [gL_ts (show 0 < l13_1.length by omega)] at hrr
      have hone : ∀ (A : Option Addr) (cp : Nat), keysC (tsL [(⟨A, cp, ⟨(l13_1[0]).t.keys, 100, (-1)⟩⟩ : LnkL)]) = (l13_1[0]).t.keys := fun _ _ => hk1
      have hle : ∀ (A : Option Addr) (cp : Nat), (keysC (tsL [(⟨A, cp, ⟨(l13_1[0]).t.keys, 100, (-1)⟩⟩ : LnkL)])).length ≤ (keysC (tsL l13_1)).length := fun _ _ => by rw [hone, hrr]; simp
      refine C.skip ?_
      refine C.seq ?_
      refine C.region ?_
      refine O.val (v := .slice (A13_1) ((l13_1).length) (c13_1)) rfl (Ru.move rfl) rfl ?_
      have hx7_1 : 0 < (l13_1).length := (by first | omega | (simp; omega))
      refine O.val (v := .pointer (ofs (A13_1) (0 * 3))) rfl (Ru.indexA (j := 0) Try.underlying23 el28 rfl rfl (smf encL_len (hM5_7.rd 2 rfl) hx7_1 rfl) (by omega) (by first | omega | (simp; omega))) rfl ?_
      refine O.val (v := .pointer (ofs (A13_1) (0 * 3 + 0))) rfl (Ru.fieldA fl28_0 rfl (smf encL_len (hM5_7.rd 2 rfl) hx7_1 rfl)) rfl ?_
      refine O.val rfl (Ru.load1 el26 rfl (ldf encL_len (hM5_7.rd 2 rfl) hx7_1 rfl)) rfl ?_
      refine O.val (v := .agg #[.slice (((l13_1)[0]'hx7_1).A) (((l13_1)[0]'hx7_1).t.keys.length) (((l13_1)[0]'hx7_1).cp), I (100), I ((-1))]) rfl (Ru.build of28 rfl rfl rfl) rfl ?_
      refine O.mlit (sz := 3) (cs := [.slice (((l13_1)[0]'hx7_1).A) (((l13_1)[0]'hx7_1).t.keys.length) (((l13_1)[0]'hx7_1).cp), I (100), I ((-1))]) hM5_7 rfl Try.underlying23 el28 rfl rfl rfl (by kernel_rfl) (by kernel_rfl) rfl rfl (fun w7_5 b7_5 hb7_5 (hM7_5 : Mem w w7_5 [] [[⟨.slice (bl b7_5) (1) (1), 28, 3, 1, ([(⟨((l13_1)[0]'hx7_1).A, ((l13_1)[0]'hx7_1).cp, ⟨((l13_1)[0]'hx7_1).t.keys, 100, (-1)⟩⟩ : LnkL)]).flatMap encL⟩], [⟨.slice (A15_2) ((keysC (tsL l13_1)).length) (c15_2), 3, 1, ((keysC (tsL l13_1)).length), (keysC (tsL l13_1)).map I⟩], [⟨.slice (A14_1) ((keysC (tsL l13_1)).length) (c14_1), 3, 1, ((keysC (tsL l13_1)).length), (keysC (tsL l13_1)).map I⟩], [⟨.slice (A13_1) ((l13_1).length) (c13_1), 28, 3, ((l13_1).length), (l13_1).flatMap encL⟩], G3_1]) => ?_)
      refine O.callg [.slice (bl b7_5) (([(⟨((l13_1)[0]'hx7_1).A, ((l13_1)[0]'hx7_1).cp, ⟨((l13_1)[0]'hx7_1).t.keys, 100, (-1)⟩⟩ : LnkL)]).length) (1)] rfl en24 (by first | rfl | (rw [show ([(⟨((l13_1)[0]'hx7_1).A, ((l13_1)[0]'hx7_1).cp, ⟨((l13_1)[0]'hx7_1).t.keys, 100, (-1)⟩⟩ : LnkL)]).length = 1 from (by first | rfl | (simp; done) | omega | (simp; omega))]; rfl)) rfl (ChainKeys_fn (bl b7_5) 1 ([(⟨((l13_1)[0]'hx7_1).A, ((l13_1)[0]'hx7_1).cp, ⟨((l13_1)[0]'hx7_1).t.keys, 100, (-1)⟩⟩ : LnkL)]) w7_5 (hM7_5.rd 0 rfl) (Nst.cons ((hG3_1 _ (Mem.gown hM7_5 4 rfl)).get hx7_1) Nst.nil) (by simp)) ?_
      rintro _ w7_6 ⟨A17_6, c17_6, rfl, hR7_6⟩
      have hM7_6 : Mem w w7_6 [] [[⟨.slice (A17_6) ((keysC (tsL ([(⟨((l13_1)[0]'hx7_1).A, ((l13_1)[0]'hx7_1).cp, ⟨((l13_1)[0]'hx7_1).t.keys, 100, (-1)⟩⟩ : LnkL)]))).length) (c17_6), 3, 1, ((keysC (tsL ([(⟨((l13_1)[0]'hx7_1).A, ((l13_1)[0]'hx7_1).cp, ⟨((l13_1)[0]'hx7_1).t.keys, 100, (-1)⟩⟩ : LnkL)]))).length), (keysC (tsL ([(⟨((l13_1)[0]'hx7_1).A, ((l13_1)[0]'hx7_1).cp, ⟨((l13_1)[0]'hx7_1).t.keys, 100, (-1)⟩⟩ : LnkL)]))).map I⟩], [⟨.slice (bl b7_5) (1) (1), 28, 3, 1, ([(⟨((l13_1)[0]'hx7_1).A, ((l13_1)[0]'hx7_1).cp, ⟨((l13_1)[0]'hx7_1).t.keys, 100, (-1)⟩⟩ : LnkL)]).flatMap encL⟩], [⟨.slice (A15_2) ((keysC (tsL l13_1)).length) (c15_2), 3, 1, ((keysC (tsL l13_1)).length), (keysC (tsL l13_1)).map I⟩], [⟨.slice (A14_1) ((keysC (tsL l13_1)).length) (c14_1), 3, 1, ((keysC (tsL l13_1)).length), (keysC (tsL l13_1)).map I⟩], [⟨.slice (A13_1) ((l13_1).length) (c13_1), 28, 3, ((l13_1).length), (l13_1).flatMap encL⟩], G3_1] := Mem.call (Ma := []) hM7_5 hR7_6 rfl
      have hcr7_6_0 := (hM7_6.cap 0 rfl).1
      refine O.val (v := .slice (A17_6) ((keysC (tsL ([(⟨((l13_1)[0]'hx7_1).A, ((l13_1)[0]'hx7_1).cp, ⟨((l13_1)[0]'hx7_1).t.keys, 100, (-1)⟩⟩ : LnkL)]))).length) (c17_6)) rfl (Ru.assign rfl) rfl ?_
      refine O.nil ?_
      refine C.seq ?_
      refine C.region ?_
      refine O.val (v := .slice (A17_6) ((keysC (tsL ([(⟨((l13_1)[0]'hx7_1).A, ((l13_1)[0]'hx7_1).cp, ⟨((l13_1)[0]'hx7_1).t.keys, 100, (-1)⟩⟩ : LnkL)]))).length) (c17_6)) rfl (Ru.move rfl) rfl ?_
      refine O.val (v := .slice (A13_1) ((l13_1).length) (c13_1)) rfl (Ru.move rfl) rfl ?_
      have hx8_2 : 0 < (l13_1).length := (by first | omega | (simp; omega))
      refine O.val (v := .pointer (ofs (A13_1) (0 * 3))) rfl (Ru.indexA (j := 0) Try.underlying23 el28 rfl rfl (smf encL_len (hM7_6.rd 4 rfl) hx8_2 rfl) (by omega) (by first | omega | (simp; omega))) rfl ?_
      refine O.val (v := .pointer (ofs (A13_1) (0 * 3 + 0))) rfl (Ru.fieldA fl28_0 rfl (smf encL_len (hM7_6.rd 4 rfl) hx8_2 rfl)) rfl ?_
      refine O.val rfl (Ru.load1 el26 rfl (ldf encL_len (hM7_6.rd 4 rfl) hx8_2 rfl)) rfl ?_
      refine O.callg [.slice (A17_6) ((keysC (tsL ([(⟨((l13_1)[0]'hx7_1).A, ((l13_1)[0]'hx7_1).cp, ⟨((l13_1)[0]'hx7_1).t.keys, 100, (-1)⟩⟩ : LnkL)]))).length) (c17_6), .slice (((l13_1)[0]'hx8_2).A) ((((l13_1)[0]'hx8_2).t.keys).length) (((l13_1)[0]'hx8_2).cp)] rfl en25 (by first | rfl | (rw [show (((l13_1)[0]'hx8_2).t.keys).length = ((l13_1)[0]'hx8_2).t.keys.length from (by first | rfl | (simp; done) | omega | (simp; omega))]; rfl)) rfl (equalInts_fn A17_6 c17_6 (keysC (tsL ([(⟨((l13_1)[0]'hx7_1).A, ((l13_1)[0]'hx7_1).cp, ⟨((l13_1)[0]'hx7_1).t.keys, 100, (-1)⟩⟩ : LnkL)]))) (((l13_1)[0]'hx8_2).A) (((l13_1)[0]'hx8_2).cp) (((l13_1)[0]'hx8_2).t.keys) w7_6 (hM7_6.rd 0 rfl) ((hG3_1 _ (Mem.gown hM7_6 5 rfl)).get hx8_2) (by exact Nat.le_trans (validK_len keys_valid) (by omega))) ?_
      rintro _ w8_5 ⟨hv8_5, hR8_5⟩
      obtain rfl : _ = .bool (true) := hv8_5.trans (congrArg Value.bool (decide_eq_true (hone _ _)))
      have hM8_5 : Mem w w8_5 [] [[⟨.slice (A17_6) ((keysC (tsL ([(⟨((l13_1)[0]'hx7_1).A, ((l13_1)[0]'hx7_1).cp, ⟨((l13_1)[0]'hx7_1).t.keys, 100, (-1)⟩⟩ : LnkL)]))).length) (c17_6), 3, 1, ((keysC (tsL ([(⟨((l13_1)[0]'hx7_1).A, ((l13_1)[0]'hx7_1).cp, ⟨((l13_1)[0]'hx7_1).t.keys, 100, (-1)⟩⟩ : LnkL)]))).length), (keysC (tsL ([(⟨((l13_1)[0]'hx7_1).A, ((l13_1)[0]'hx7_1).cp, ⟨((l13_1)[0]'hx7_1).t.keys, 100, (-1)⟩⟩ : LnkL)]))).map I⟩], [⟨.slice (bl b7_5) (1) (1), 28, 3, 1, ([(⟨((l13_1)[0]'hx7_1).A, ((l13_1)[0]'hx7_1).cp, ⟨((l13_1)[0]'hx7_1).t.keys, 100, (-1)⟩⟩ : LnkL)]).flatMap encL⟩], [⟨.slice (A15_2) ((keysC (tsL l13_1)).length) (c15_2), 3, 1, ((keysC (tsL l13_1)).length), (keysC (tsL l13_1)).map I⟩], [⟨.slice (A14_1) ((keysC (tsL l13_1)).length) (c14_1), 3, 1, ((keysC (tsL l13_1)).length), (keysC (tsL l13_1)).map I⟩], [⟨.slice (A13_1) ((l13_1).length) (c13_1), 28, 3, ((l13_1).length), (l13_1).flatMap encL⟩], G3_1] := Mem.call (Ma := []) hM7_6 hR8_5 rfl
      refine O.val (v := .bool (true)) rfl (Ru.move rfl) rfl ?_
      refine O.val (v := .slice (A14_1) ((keysC (tsL l13_1)).length) (c14_1)) rfl (Ru.move rfl) rfl ?_
      refine O.val (v := I ((((keysC (tsL l13_1)).length : Nat) : Int))) rfl (Ru.blenSlice Try.underlying26 rfl) rfl ?_
      refine O.val (v := .slice (A17_6) ((keysC (tsL ([(⟨((l13_1)[0]'hx7_1).A, ((l13_1)[0]'hx7_1).cp, ⟨((l13_1)[0]'hx7_1).t.keys, 100, (-1)⟩⟩ : LnkL)]))).length) (c17_6)) rfl (Ru.move rfl) rfl ?_
      refine O.val (v := I ((((keysC (tsL ([(⟨((l13_1)[0]'hx7_1).A, ((l13_1)[0]'hx7_1).cp, ⟨((l13_1)[0]'hx7_1).t.keys, 100, (-1)⟩⟩ : LnkL)]))).length : Nat) : Int))) rfl (Ru.blenSlice Try.underlying26 rfl) rfl ?_
      refine O.val (v := .bool (true)) rfl (Ru.congr (v := .bool (decide ((((keysC (tsL l13_1)).length : Nat) : Int) ≥ (((keysC (tsL ([(⟨((l13_1)[0]'hx7_1).A, ((l13_1)[0]'hx7_1).cp, ⟨((l13_1)[0]'hx7_1).t.keys, 100, (-1)⟩⟩ : LnkL)]))).length : Nat) : Int)))) (v' := .bool (true)) (Ru.geq rfl rfl) ((congrArg Value.bool (decide_eq_true (by have h9 := hle (l13_1[0]).A (l13_1[0]).cp; omega))))) rfl ?_
      refine O.val (v := .bool (true)) rfl (Ru.pickT rfl rfl) rfl ?_
      refine O.val (v := .bool (true)) rfl (Ru.move rfl) rfl ?_
      refine O.val (v := .slice (A14_1) ((keysC (tsL l13_1)).length) (c14_1)) rfl (Ru.move rfl) rfl ?_
      refine O.val (v := .slice (A17_6) ((keysC (tsL ([(⟨((l13_1)[0]'hx7_1).A, ((l13_1)[0]'hx7_1).cp, ⟨((l13_1)[0]'hx7_1).t.keys, 100, (-1)⟩⟩ : LnkL)]))).length) (c17_6)) rfl (Ru.move rfl) rfl ?_
      refine O.val (v := I ((((keysC (tsL ([(⟨((l13_1)[0]'hx7_1).A, ((l13_1)[0]'hx7_1).cp, ⟨((l13_1)[0]'hx7_1).t.keys, 100, (-1)⟩⟩ : LnkL)]))).length : Nat) : Int))) rfl (Ru.blenSlice Try.underlying26 rfl) rfl ?_
      have h9 := hle (l13_1[0]).A (l13_1[0]).cp
      have ht9 : ((keysC (tsL l13_1)).take (keysC (tsL [(⟨(l13_1[0]).A, (l13_1[0]).cp, ⟨(l13_1[0]).t.keys, 100, (-1)⟩⟩ : LnkL)])).length).length = (keysC (tsL [(⟨(l13_1[0]).A, (l13_1[0]).cp, ⟨(l13_1[0]).t.keys, 100, (-1)⟩⟩ : LnkL)])).length := by rw [List.length_take]; omega
      have hcp8_17 := hM8_5.cap 3 rfl
      refine O.val (v := .slice (A14_1) (((keysC (tsL l13_1)).take ((keysC (tsL ([(⟨((l13_1)[0]'hx7_1).A, ((l13_1)[0]'hx7_1).cp, ⟨((l13_1)[0]'hx7_1).t.keys, 100, (-1)⟩⟩ : LnkL)]))).length)).length) (c14_1)) rfl (Ru.congr (v := .slice (A14_1) ((keysC (tsL ([(⟨((l13_1)[0]'hx7_1).A, ((l13_1)[0]'hx7_1).cp, ⟨((l13_1)[0]'hx7_1).t.keys, 100, (-1)⟩⟩ : LnkL)]))).length) (c14_1)) (v' := .slice (A14_1) (((keysC (tsL l13_1)).take ((keysC (tsL ([(⟨((l13_1)[0]'hx7_1).A, ((l13_1)[0]'hx7_1).cp, ⟨((l13_1)[0]'hx7_1).t.keys, 100, (-1)⟩⟩ : LnkL)]))).length)).length) (c14_1)) (Ru.lsliceTo (h := (keysC (tsL ([(⟨((l13_1)[0]'hx7_1).A, ((l13_1)[0]'hx7_1).cp, ⟨((l13_1)[0]'hx7_1).t.keys, 100, (-1)⟩⟩ : LnkL)]))).length) Try.underlying26 el3 rfl rfl (by omega) (by first | omega | (simp; omega))) (sl_congr (by first | rfl | (simp; done) | omega | (simp; omega)))) rfl ?_
      refine O.val (v := .slice (A17_6) ((keysC (tsL ([(⟨((l13_1)[0]'hx7_1).A, ((l13_1)[0]'hx7_1).cp, ⟨((l13_1)[0]'hx7_1).t.keys, 100, (-1)⟩⟩ : LnkL)]))).length) (c17_6)) rfl (Ru.move rfl) rfl ?_
      refine O.callg [.slice (A14_1) (((keysC (tsL l13_1)).take ((keysC (tsL ([(⟨((l13_1)[0]'hx7_1).A, ((l13_1)[0]'hx7_1).cp, ⟨((l13_1)[0]'hx7_1).t.keys, 100, (-1)⟩⟩ : LnkL)]))).length)).length) (c14_1), .slice (A17_6) ((keysC (tsL ([(⟨((l13_1)[0]'hx7_1).A, ((l13_1)[0]'hx7_1).cp, ⟨((l13_1)[0]'hx7_1).t.keys, 100, (-1)⟩⟩ : LnkL)]))).length) (c17_6)] rfl en25 rfl rfl (equalInts_fn A14_1 c14_1 ((keysC (tsL l13_1)).take ((keysC (tsL ([(⟨((l13_1)[0]'hx7_1).A, ((l13_1)[0]'hx7_1).cp, ⟨((l13_1)[0]'hx7_1).t.keys, 100, (-1)⟩⟩ : LnkL)]))).length)) A17_6 c17_6 (keysC (tsL ([(⟨((l13_1)[0]'hx7_1).A, ((l13_1)[0]'hx7_1).cp, ⟨((l13_1)[0]'hx7_1).t.keys, 100, (-1)⟩⟩ : LnkL)]))) w8_5 (rd_take1 (hM8_5.rd 3 rfl)) (hM8_5.rd 0 rfl) (by rw [List.length_take]; have := validK_len (keys_valid (l := tsL l13_1)); omega)) ?_
      rintro _ w8_19 ⟨hv8_19, hR8_19⟩
      obtain rfl : _ = .bool (true) := hv8_19.trans (congrArg Value.bool (decide_eq_true (by rw [hone, hrr]; simp)))
      have hM8_19 : Mem w w8_19 [] [[⟨.slice (A17_6) ((keysC (tsL ([(⟨((l13_1)[0]'hx7_1).A, ((l13_1)[0]'hx7_1).cp, ⟨((l13_1)[0]'hx7_1).t.keys, 100, (-1)⟩⟩ : LnkL)]))).length) (c17_6), 3, 1, ((keysC (tsL ([(⟨((l13_1)[0]'hx7_1).A, ((l13_1)[0]'hx7_1).cp, ⟨((l13_1)[0]'hx7_1).t.keys, 100, (-1)⟩⟩ : LnkL)]))).length), (keysC (tsL ([(⟨((l13_1)[0]'hx7_1).A, ((l13_1)[0]'hx7_1).cp, ⟨((l13_1)[0]'hx7_1).t.keys, 100, (-1)⟩⟩ : LnkL)]))).map I⟩], [⟨.slice (bl b7_5) (1) (1), 28, 3, 1, ([(⟨((l13_1)[0]'hx7_1).A, ((l13_1)[0]'hx7_1).cp, ⟨((l13_1)[0]'hx7_1).t.keys, 100, (-1)⟩⟩ : LnkL)]).flatMap encL⟩], [⟨.slice (A15_2) ((keysC (tsL l13_1)).length) (c15_2), 3, 1, ((keysC (tsL l13_1)).length), (keysC (tsL l13_1)).map I⟩], [⟨.slice (A14_1) ((keysC (tsL l13_1)).length) (c14_1), 3, 1, ((keysC (tsL l13_1)).length), (keysC (tsL l13_1)).map I⟩], [⟨.slice (A13_1) ((l13_1).length) (c13_1), 28, 3, ((l13_1).length), (l13_1).flatMap encL⟩], G3_1] := Mem.call (Ma := []) hM8_5 hR8_19 rfl
      refine O.val (v := .bool (true)) rfl (Ru.pickT rfl rfl) rfl ?_
      refine O.val (v := .bool (true)) rfl (Ru.assign rfl) rfl ?_
      refine O.nil ?_
      refine C.ret ?_
      refine P1 (v := .bool (true)) rfl ?_
      exact ⟨rfl, (Mem.none hM8_19)⟩
end Go.Proofs.Yteljpjapacajoaa
namespace Go.Proofs.Yteljpjapacajoaa.fnChainKeysSplit
open Go.ChangeShapes Go.WideShapes Go.ChangeAt Go.RowKit Go.Px
open Go.ChangeMaps (open_string shut_string)
set_option linter.unusedVariables false

theorem own : ownKnob Try.prog.godebug = none := by kernel_rfl
theorem laidOut : laidOutB Try.prog = true := by kernel_rfl

set_option maxRecDepth 100000 in
theorem lifted (os : Os) (started : os.Started) (H : Type) (enc : TypeId × Value → H) :
    ReturnsInHanded {} Try.checked os 7 .any (Rows.fnChainKeysSplitSpec.pre6 enc Try.prog Try.f7 Rows.fnChainKeysSplitRow.domain false) (Rows.fnChainKeysSplitSpec.post enc Try.prog Try.f7 false true false false) := by
  refine returnsInHanded_of_change (C := Try.checked) own started (by kernel_rfl) Try.func7
    (ChangeSpec.witness6 (enc := enc) (C := Try.checked) false ⟨#[], #[.slice none 0 0], []⟩ 8 (by kernel_rfl) (by kernel_rfl) (by kernel_rfl) (by kernel_rfl)) ?_
  intro W base args ds gs before hval0 hW hcnd _
  have hval : ∀ (j : Nat) t v, Try.f7.params[j]? = some t → args[j]? = some v → Value.okWide Try.prog W .any base t v := hval0
  have hW' := hW
  obtain ⟨p, q, hA0, hV, rfl, hfz, hnd⟩ := hW
  have hA : DataW.TrodAll enc Try.prog W 0 (fun _ => true) true Try.f7.params.toList args.toList ds p := hA0
  rw [Try.params7] at hA hval
  obtain ⟨v0, vs0, d0, ds0, p0, q0, hargs, rfl, rfl, h0, r0⟩ := trodAll_cons hA
  obtain ⟨rfl, rfl, rfl⟩ := trodAll_nil r0
  obtain rfl : args = #[v0] := by cases args; simp_all
  obtain ⟨rfl, rfl⟩ := trodVars_none hV
  have k0 := h0
  have lt0 : ∀ x ∈ p0, x.block < W.heap.size := by obtain ⟨m, hm⟩ := k0; exact DataW.trod_lt m _ _ _ hm
  obtain ⟨a0, len0, cap0, rfl⟩ := okWide_slice Try.underlying22 (hval 0 22 v0 rfl rfl)
  have kk0 := k0
  obtain ⟨fuel0, hf0⟩ := kk0
  obtain ⟨z0, rfl, hz0, hc0, hw0, hRd0⟩ := slice_in (α := UInt8) (f := fun a : UInt8 => [byteV a]) (c := 1) Try.underlying22 (by kernel_rfl) (fun _ => rfl) (byte_el Try.underlying5) hf0
  rw [flat_one] at hRd0
  clear hA0 hval0
  refine (FnChainKeysSplit_fn a0 cap0 z0 W hRd0 hz0 hc0).out.mono fun e W' ⟨v, he, hv, hg⟩ => ?_
  subst he hv
  have bel : Below W.heap.size W W' := ⟨hg.os, hg.tape, hg.output, hg.size, fun k hk => hg.block k hk (by simp)⟩
  exact ⟨_, rfl, _, _, _, [], _, [], hW', trodAll_mk1 (shut_bool Try.underlying4 _), (trodAll_cons_mk (Below.trod laidOut (by kernel_rfl) (of_decide_eq_true (by kernel_rfl)) k0 bel lt0) trodAll_mk0), rfl, bel.frame _, fun h => by cases h⟩

theorem named_ : Try.prog.funcNamed Rows.fnChainKeysSplitRow.func = some 7 := by kernel_rfl
theorem closed : joinedFacts Try.prog 7 Try.f7 Rows.fnChainKeysSplitSpec Rows.fnChainKeysSplitRow = true := by
  unfold joinedFacts
  rw [enter_, lifts_, made_]
  kernel_rfl
theorem inst_ : Try.f7.isInstance Try.prog Rows.fnChainKeysSplitRow.origin Rows.fnChainKeysSplitRow.targs := of_decide_eq_true (by kernel_rfl)
theorem wrap_ : Try.f7.isWrapper Try.prog Rows.fnChainKeysSplitRow.wrapper Rows.fnChainKeysSplitRow.mainSum := by
  unfold Func.isWrapper
  rw [if_neg (by decide +kernel)]
  exact ⟨rfl, rfl⟩
theorem over : Rows.fnChainKeysSplitRow.holds Try.pinned (OpenSpec.ofChange Rows.fnChainKeysSplitSpec) :=
  OpenClaim.holds_of_wide 7 Try.f7 rfl rfl rfl rfl rfl rfl rfl ⟨rfl, rfl, rfl, rfl, rfl⟩ rfl rfl rfl rfl rfl named_ Try.func7 closed inst_ wrap_
    (fun os started H enc _ => lifted os started H enc)
theorem proved : Rows.FnChainKeysSplitSaid := over
end Go.Proofs.Yteljpjapacajoaa.fnChainKeysSplit
