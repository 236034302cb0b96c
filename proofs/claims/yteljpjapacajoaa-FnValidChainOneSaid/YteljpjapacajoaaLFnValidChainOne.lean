/- The statement Rows.FnValidChainOneSaid: the Go function laws.FnValidChainOne returns true for every input, and each argument reads afterwards as it read before. No conditions. -/
import Derived.Test.YteljpjapacajoaaRows
import Derived.Test.YteljpjapacajoaaPxO
import Derived.Test.YteljpjapacajoaaDZ
import Derived.Test.YteljpjapacajoaaH0
import Derived.WalkKit
import Derived.ProofKit
import Derived.OpenShut
import Derived.ShutString
import Derived.ChangeOld
import Derived.SliceStrings
import Derived.Deep.Slices
import Derived.Deep.Fields
import Derived.ChangeSame
import Derived.Below
set_option linter.unusedVariables false
set_option linter.unusedSimpArgs false
namespace Go.Proofs.Yteljpjapacajoaa
open Go.Px
set_option linter.unusedVariables false
theorem FnValidChainOne_fn (A : Option Addr) (c : Nat) (l : List UInt8) (w : World) (hA : Rd w A ((l).map byteV)) (hl : l.length ≤ 9223372036854775807) (hc : l.length ≤ c) :
    Does Try.prog 3 [.slice (A) ((l).length) (c)] w (fun v w1 => v = .bool (true) ∧ Mem w w1 [] []) := by
  have hM : Mem w w [] [] := Mem.refl
  refine Does.enter1 Try.func3 rfl Try.results3 Try.ntmps3 rfl ?_
  refine C.seq ?_
  refine C.region ?_
  refine O.val (v := .bool (false)) rfl (Ru.assign rfl) rfl ?_
  refine O.nil ?_
  refine C.seq ?_
  refine C.seq ?_
  refine C.region ?_
  refine O.val (v := .slice (A) ((l).length) (c)) rfl (Ru.move rfl) rfl ?_
  refine O.val (v := I ((((l).length : Nat) : Int))) rfl (Ru.blenSlice Try.underlying22 rfl) rfl ?_
  refine O.val (v := .bool (decide ((((l).length : Nat) : Int) > 1048576))) rfl (Ru.gtr rfl rfl) rfl ?_
  refine O.nil ?_
  refine C.cond (p := (((l).length : Nat) : Int) > 1048576) rfl (fun c7 => ?_) (fun c7 => ?_)
  · refine C.seq ?_
    refine C.region ?_
    refine O.val (v := .bool (true)) rfl (Ru.assign rfl) rfl ?_
    refine O.nil ?_
    refine C.ret ?_
    refine P1 (v := .bool (true)) rfl ?_
    exact ⟨rfl, (Mem.none hM)⟩
  · refine C.skip ?_
    refine C.seq ?_
    refine C.region ?_
    refine O.val (v := .slice (A) ((l).length) (c)) rfl (Ru.move rfl) rfl ?_
    refine O.callg [.slice (A) ((l).length) (c)] rfl en17 rfl rfl (DrawValidChain_fn A c l w (hA.at hM) (by first | omega | assumption | (simp; omega) | simp | (intros; omega)) (by first | omega | assumption | (simp; omega) | simp | (intros; omega))) ?_
    rintro _ w3_1 ⟨l13_1, A13_1, c13_1, G3_1, rfl, hl3_1, hk3_1, hG3_1, hcp3_1, hR3_1⟩
    have hM3_1 : Mem w w3_1 [] [[⟨.slice (A13_1) ((l13_1).length) (c13_1), 28, 3, ((l13_1).length), (l13_1).flatMap encL⟩], G3_1] := Mem.call (Ma := []) hM hR3_1 rfl
    have hcr3_1_0 := (hM3_1.cap 0 rfl).1
    refine O.val (v := .slice (A13_1) ((l13_1).length) (c13_1)) rfl (Ru.assign rfl) rfl ?_
    refine O.nil ?_
    refine C.seq ?_
    refine C.region ?_
    refine O.val (v := .slice (A13_1) ((l13_1).length) (c13_1)) rfl (Ru.move rfl) rfl ?_
    refine O.callg [.slice (A13_1) ((l13_1).length) (c13_1)] rfl en18 rfl rfl (ValidChain_fn A13_1 c13_1 l13_1 w3_1 (hM3_1.rd 0 rfl) (hG3_1 _ (Mem.gown hM3_1 1 rfl)) (by first | omega | assumption | (simp; omega) | simp | (intros; omega))) ?_
    rintro _ w4_1 ⟨rfl, hR4_1⟩
    have hM4_1 : Mem w w4_1 [] [[⟨.slice (A13_1) ((l13_1).length) (c13_1), 28, 3, ((l13_1).length), (l13_1).flatMap encL⟩], G3_1] := Mem.call (Ma := []) hM3_1 hR4_1 rfl
    refine O.val (v := .bool (validC (tsL l13_1))) rfl (Ru.assign rfl) rfl ?_
    refine O.nil ?_
    refine C.seq ?_
    refine C.seq ?_
    refine C.region ?_
    refine O.val (v := .bool (validC (tsL l13_1))) rfl (Ru.move rfl) rfl ?_
    refine O.val (v := .slice (A13_1) ((l13_1).length) (c13_1)) rfl (Ru.move rfl) rfl ?_
    refine O.callg [.slice (A13_1) ((l13_1).length) (c13_1)] rfl en19 rfl rfl (sValidChain_fn A13_1 c13_1 l13_1 w4_1 (hM4_1.rd 0 rfl) (hG3_1 _ (Mem.gown hM4_1 1 rfl)) (by first | omega | assumption | (simp; omega) | simp | (intros; omega))) ?_
    rintro _ w5_2 ⟨rfl, hR5_2⟩
    have hM5_2 : Mem w w5_2 [] [[⟨.slice (A13_1) ((l13_1).length) (c13_1), 28, 3, ((l13_1).length), (l13_1).flatMap encL⟩], G3_1] := Mem.call (Ma := []) hM4_1 hR5_2 rfl
    refine O.val (v := .bool (false)) rfl (Ru.congr (v := .bool (decide (validC (tsL l13_1) ≠ validC (tsL l13_1)))) (v' := .bool (false)) (Ru.bneq Try.underlying4 rfl rfl) (congrArg Value.bool (by simp))) rfl ?_
    refine O.val (v := .bool (false)) rfl (Ru.move rfl) rfl ?_
    refine O.val (v := .bool (validC (tsL l13_1))) rfl (Ru.move rfl) rfl ?_
    refine O.val (v := .bool (!(validC (tsL l13_1)))) rfl (Ru.not rfl) rfl ?_
    refine O.val (v := .bool (!(validC (tsL l13_1)))) rfl (Ru.pickF rfl rfl) rfl ?_
    refine O.nil ?_
    refine C.condn (b := (validC (tsL l13_1))) rfl (fun c19 => ?_) (fun c19 => ?_)
    · refine C.seq ?_
      refine C.region ?_
      refine O.val (v := .bool (validC (tsL l13_1))) rfl (Ru.move rfl) rfl ?_
      refine O.val (v := .slice (A13_1) ((l13_1).length) (c13_1)) rfl (Ru.move rfl) rfl ?_
      refine O.callg [.slice (A13_1) ((l13_1).length) (c13_1)] rfl en19 rfl rfl (sValidChain_fn A13_1 c13_1 l13_1 w5_2 (hM5_2.rd 0 rfl) (hG3_1 _ (Mem.gown hM5_2 1 rfl)) (by first | omega | assumption | (simp; omega) | simp | (intros; omega))) ?_
      rintro _ w6_2 ⟨rfl, hR6_2⟩
      have hM6_2 : Mem w w6_2 [] [[⟨.slice (A13_1) ((l13_1).length) (c13_1), 28, 3, ((l13_1).length), (l13_1).flatMap encL⟩], G3_1] := Mem.call (Ma := []) hM5_2 hR6_2 rfl
      refine O.val (v := .bool (true)) rfl (Ru.congr (v := .bool (decide (validC (tsL l13_1) = validC (tsL l13_1)))) (v' := .bool (true)) (Ru.beql Try.underlying4 rfl rfl) (congrArg Value.bool (by simp))) rfl ?_
      refine O.val (v := .bool (true)) rfl (Ru.assign rfl) rfl ?_
      refine O.nil ?_
      refine C.ret ?_
      refine P1 (v := .bool (true)) rfl ?_
      exact ⟨rfl, (Mem.none hM6_2)⟩
    · have hv : validC (tsL l13_1) = true := by simp_all
      have h4 := valid_all hv _ (List.getElem_mem (show 0 < l13_1.length by omega))
      refine C.skip ?_
      refine C.seq ?_
      refine C.region ?_
      refine O.val (v := .slice (A13_1) ((l13_1).length) (c13_1)) rfl (Ru.move rfl) rfl ?_
      have hx7_1 : 0 < (l13_1).length := (by first | omega | (simp; omega))
      refine O.val (v := .pointer (ofs (A13_1) (0 * 3))) rfl (Ru.indexA (j := 0) Try.underlying23 el28 rfl rfl (smf encL_len (hM5_2.rd 0 rfl) hx7_1 rfl) (by omega) (by first | omega | (simp; omega))) rfl ?_
      refine O.val (v := .pointer (ofs (A13_1) (0 * 3 + 0))) rfl (Ru.fieldA fl28_0 rfl (smf encL_len (hM5_2.rd 0 rfl) hx7_1 rfl)) rfl ?_
      refine O.val rfl (Ru.load1 el26 rfl (ldf encL_len (hM5_2.rd 0 rfl) hx7_1 rfl)) rfl ?_
      refine O.val (v := .agg #[.slice (((l13_1)[0]'hx7_1).A) (((l13_1)[0]'hx7_1).t.keys.length) (((l13_1)[0]'hx7_1).cp), I (100), I ((-1))]) rfl (Ru.build of28 rfl rfl rfl) rfl ?_
      refine O.mlit (sz := 3) (cs := [.slice (((l13_1)[0]'hx7_1).A) (((l13_1)[0]'hx7_1).t.keys.length) (((l13_1)[0]'hx7_1).cp), I (100), I ((-1))]) hM5_2 rfl Try.underlying23 el28 rfl rfl rfl (by kernel_rfl) (by kernel_rfl) rfl rfl (fun w7_5 b7_5 hb7_5 (hM7_5 : Mem w w7_5 [] [[⟨.slice (bl b7_5) (1) (1), 28, 3, 1, ([(⟨((l13_1)[0]'hx7_1).A, ((l13_1)[0]'hx7_1).cp, ⟨((l13_1)[0]'hx7_1).t.keys, 100, (-1)⟩⟩ : LnkL)]).flatMap encL⟩], [⟨.slice (A13_1) ((l13_1).length) (c13_1), 28, 3, ((l13_1).length), (l13_1).flatMap encL⟩], G3_1]) => ?_)
      refine O.callg [.slice (bl b7_5) (([(⟨((l13_1)[0]'hx7_1).A, ((l13_1)[0]'hx7_1).cp, ⟨((l13_1)[0]'hx7_1).t.keys, 100, (-1)⟩⟩ : LnkL)]).length) (1)] rfl en18 (by first | rfl | (rw [show ([(⟨((l13_1)[0]'hx7_1).A, ((l13_1)[0]'hx7_1).cp, ⟨((l13_1)[0]'hx7_1).t.keys, 100, (-1)⟩⟩ : LnkL)]).length = 1 from (by first | rfl | (simp; done) | omega | (simp; omega))]; rfl)) rfl (ValidChain_fn (bl b7_5) 1 ([(⟨((l13_1)[0]'hx7_1).A, ((l13_1)[0]'hx7_1).cp, ⟨((l13_1)[0]'hx7_1).t.keys, 100, (-1)⟩⟩ : LnkL)]) w7_5 (hM7_5.rd 0 rfl) (Nst.cons ((hG3_1 _ (Mem.gown hM7_5 2 rfl)).get hx7_1) Nst.nil) (by simp)) ?_
      rintro _ w7_6 ⟨rfl, hR7_6⟩
      have hM7_6 : Mem w w7_6 [] [[⟨.slice (bl b7_5) (1) (1), 28, 3, 1, ([(⟨((l13_1)[0]'hx7_1).A, ((l13_1)[0]'hx7_1).cp, ⟨((l13_1)[0]'hx7_1).t.keys, 100, (-1)⟩⟩ : LnkL)]).flatMap encL⟩], [⟨.slice (A13_1) ((l13_1).length) (c13_1), 28, 3, ((l13_1).length), (l13_1).flatMap encL⟩], G3_1] := Mem.call (Ma := []) hM7_5 hR7_6 rfl
      refine O.val (v := .bool (validC (tsL ([(⟨((l13_1)[0]'hx7_1).A, ((l13_1)[0]'hx7_1).cp, ⟨((l13_1)[0]'hx7_1).t.keys, 100, (-1)⟩⟩ : LnkL)])))) rfl (Ru.move rfl) rfl ?_
      refine O.part 31 (validC (tsL ([(⟨((l13_1)[0]'hx7_1).A, ((l13_1)[0]'hx7_1).cp, ⟨((l13_1)[0]'hx7_1).t.keys, 100, (-1)⟩⟩ : LnkL)]))) rfl (fun g31 => ?_) (fun g31 => ?_)
      · refine O.val (v := .slice (A13_1) ((l13_1).length) (c13_1)) rfl (Ru.move rfl) rfl ?_
        have hx7_9 : 0 < (l13_1).length := (by first | omega | (simp; omega))
        refine O.val (v := .pointer (ofs (A13_1) (0 * 3))) rfl (Ru.indexA (j := 0) Try.underlying23 el28 rfl rfl (smf encL_len (hM7_6.rd 1 rfl) hx7_9 rfl) (by omega) (by first | omega | (simp; omega))) rfl ?_
        refine O.val (v := .pointer (ofs (A13_1) (0 * 3 + 0))) rfl (Ru.fieldA fl28_0 rfl (smf encL_len (hM7_6.rd 1 rfl) hx7_9 rfl)) rfl ?_
        refine O.val rfl (Ru.load1 el26 rfl (ldf encL_len (hM7_6.rd 1 rfl) hx7_9 rfl)) rfl ?_
        refine O.val (v := .agg #[.slice (((l13_1)[0]'hx7_9).A) (((l13_1)[0]'hx7_9).t.keys.length) (((l13_1)[0]'hx7_9).cp), I (100), I (0)]) rfl (Ru.build of28 rfl rfl rfl) rfl ?_
        refine O.mlit (sz := 3) (cs := [.slice (((l13_1)[0]'hx7_9).A) (((l13_1)[0]'hx7_9).t.keys.length) (((l13_1)[0]'hx7_9).cp), I (100), I (0)]) hM7_6 rfl Try.underlying23 el28 rfl rfl rfl (by kernel_rfl) (by kernel_rfl) rfl rfl (fun w7_13 b7_13 hb7_13 (hM7_13 : Mem w w7_13 [] [[⟨.slice (bl b7_13) (1) (1), 28, 3, 1, ([(⟨((l13_1)[0]'hx7_9).A, ((l13_1)[0]'hx7_9).cp, ⟨((l13_1)[0]'hx7_9).t.keys, 100, 0⟩⟩ : LnkL)]).flatMap encL⟩], [⟨.slice (bl b7_5) (1) (1), 28, 3, 1, ([(⟨((l13_1)[0]'hx7_1).A, ((l13_1)[0]'hx7_1).cp, ⟨((l13_1)[0]'hx7_1).t.keys, 100, (-1)⟩⟩ : LnkL)]).flatMap encL⟩], [⟨.slice (A13_1) ((l13_1).length) (c13_1), 28, 3, ((l13_1).length), (l13_1).flatMap encL⟩], G3_1]) => ?_)
        refine O.callg [.slice (bl b7_13) (([(⟨((l13_1)[0]'hx7_9).A, ((l13_1)[0]'hx7_9).cp, ⟨((l13_1)[0]'hx7_9).t.keys, 100, 0⟩⟩ : LnkL)]).length) (1)] rfl en18 (by first | rfl | (rw [show ([(⟨((l13_1)[0]'hx7_9).A, ((l13_1)[0]'hx7_9).cp, ⟨((l13_1)[0]'hx7_9).t.keys, 100, 0⟩⟩ : LnkL)]).length = 1 from (by first | rfl | (simp; done) | omega | (simp; omega))]; rfl)) rfl (ValidChain_fn (bl b7_13) 1 ([(⟨((l13_1)[0]'hx7_9).A, ((l13_1)[0]'hx7_9).cp, ⟨((l13_1)[0]'hx7_9).t.keys, 100, 0⟩⟩ : LnkL)]) w7_13 (hM7_13.rd 0 rfl) (Nst.cons ((hG3_1 _ (Mem.gown hM7_13 3 rfl)).get hx7_9) Nst.nil) (by simp)) ?_
        rintro _ w7_14 ⟨rfl, hR7_14⟩
        have hM7_14 : Mem w w7_14 [] [[⟨.slice (bl b7_13) (1) (1), 28, 3, 1, ([(⟨((l13_1)[0]'hx7_9).A, ((l13_1)[0]'hx7_9).cp, ⟨((l13_1)[0]'hx7_9).t.keys, 100, 0⟩⟩ : LnkL)]).flatMap encL⟩], [⟨.slice (bl b7_5) (1) (1), 28, 3, 1, ([(⟨((l13_1)[0]'hx7_1).A, ((l13_1)[0]'hx7_1).cp, ⟨((l13_1)[0]'hx7_1).t.keys, 100, (-1)⟩⟩ : LnkL)]).flatMap encL⟩], [⟨.slice (A13_1) ((l13_1).length) (c13_1), 28, 3, ((l13_1).length), (l13_1).flatMap encL⟩], G3_1] := Mem.call (Ma := []) hM7_13 hR7_14 rfl
        refine O.val (v := .bool (!(validC (tsL ([(⟨((l13_1)[0]'hx7_9).A, ((l13_1)[0]'hx7_9).cp, ⟨((l13_1)[0]'hx7_9).t.keys, 100, 0⟩⟩ : LnkL)]))))) rfl (Ru.not rfl) rfl ?_
        refine O.val (v := .bool (!(validC (tsL ([(⟨((l13_1)[0]'hx7_9).A, ((l13_1)[0]'hx7_9).cp, ⟨((l13_1)[0]'hx7_9).t.keys, 100, 0⟩⟩ : LnkL)]))))) rfl (Ru.pickT rfl rfl) rfl ?_
        refine O.val (v := .bool (!(validC (tsL ([(⟨((l13_1)[0]'hx7_9).A, ((l13_1)[0]'hx7_9).cp, ⟨((l13_1)[0]'hx7_9).t.keys, 100, 0⟩⟩ : LnkL)]))))) rfl (Ru.assign rfl) rfl ?_
        refine O.nil ?_
        refine C.ret ?_
        refine P1 (v := .bool (!(validC (tsL ([(⟨((l13_1)[0]'hx7_9).A, ((l13_1)[0]'hx7_9).cp, ⟨((l13_1)[0]'hx7_9).t.keys, 100, 0⟩⟩ : LnkL)]))))) rfl ?_
        exact ⟨(by first | rfl | (simp only [tsL, List.map_cons, List.map_nil] at *; rw [valid_one h4.1 h4.2] at *; simp_all)), (Mem.none hM7_14)⟩
      · refine O.pass rfl rfl rfl rfl rfl ?_
        refine O.pass rfl rfl rfl rfl rfl ?_
        refine O.pass rfl rfl rfl rfl rfl ?_
        refine O.pass rfl rfl rfl rfl rfl ?_
        refine O.pass rfl rfl rfl rfl rfl ?_
        refine O.pass rfl rfl rfl rfl rfl ?_
        refine O.pass rfl rfl rfl rfl rfl ?_
        refine O.pass rfl rfl rfl rfl rfl ?_
        refine O.val (v := .bool (false)) rfl (Ru.pickF rfl rfl) rfl ?_
        refine O.val (v := .bool (false)) rfl (Ru.assign rfl) rfl ?_
        refine O.nil ?_
        refine C.ret ?_
        refine P1 (v := .bool (false)) rfl ?_
        exact ⟨(by first | rfl | (simp only [tsL, List.map_cons, List.map_nil] at *; rw [valid_one h4.1 h4.2] at *; simp_all)), (Mem.none hM7_6)⟩
end Go.Proofs.Yteljpjapacajoaa
namespace Go.Proofs.Yteljpjapacajoaa.fnValidChainOne
open Go.ChangeShapes Go.WideShapes Go.ChangeAt Go.RowKit Go.Px
open Go.ChangeMaps (open_string shut_string)
set_option linter.unusedVariables false

theorem own : ownKnob Try.prog.godebug = none := by kernel_rfl
theorem laidOut : laidOutB Try.prog = true := by kernel_rfl

set_option maxRecDepth 100000 in
theorem lifted (os : Os) (started : os.Started) (H : Type) (enc : TypeId × Value → H) :
    ReturnsInHanded {} Try.checked os 3 .any (Rows.fnValidChainOneSpec.pre6 enc Try.prog Try.f3 Rows.fnValidChainOneRow.domain false) (Rows.fnValidChainOneSpec.post enc Try.prog Try.f3 false true false false) := by
  refine returnsInHanded_of_change (C := Try.checked) own started (by kernel_rfl) Try.func3
    (ChangeSpec.witness6 (enc := enc) (C := Try.checked) false ⟨#[], #[.slice none 0 0], []⟩ 8 (by kernel_rfl) (by kernel_rfl) (by kernel_rfl) (by kernel_rfl)) ?_
  intro W base args ds gs before hval0 hW hcnd _
  have hval : ∀ (j : Nat) t v, Try.f3.params[j]? = some t → args[j]? = some v → Value.okWide Try.prog W .any base t v := hval0
  have hW' := hW
  obtain ⟨p, q, hA0, hV, rfl, hfz, hnd⟩ := hW
  have hA : DataW.TrodAll enc Try.prog W 0 (fun _ => true) true Try.f3.params.toList args.toList ds p := hA0
  rw [Try.params3] at hA hval
  obtain ⟨v0, vs0, d0, ds0, p0, q0, hargs, rfl, rfl, h0, r0⟩ := trodAll_cons hA
  obtain ⟨rfl, rfl, rfl⟩ := trodAll_nil r0
  obtain rfl : args = #[v0] := by cases args; simp_all
  obtain ⟨rfl, rfl⟩ := trodVars_none hV
  have k0 := h0
  have lt0 : ∀ x ∈ p0, x.block < W.heap.size := by obtain ⟨m, hm⟩ := k0; exact DataW.trod_lt m _ _ _ hm
  obtain ⟨a0, len0, cap0, rfl⟩ := okWide_slice Try.underlying22 (hval 0 22 v0 rfl rfl)
  have kk0 := k0
  obtain ⟨fuel0, hf0⟩ := kk0
  obtain ⟨z0, rfl, hz0, hc0, hw0, hRd0⟩ := slice_in (α := UInt8) (f := fun a : UInt8 => [byteV a]) (c := 1) Try.underlying22 (by kernel_rfl) (fun _ => rfl) (byte_el Try.underlying5) hf0
  rw [flat_one] at hRd0
  clear hA0 hval0
  refine (FnValidChainOne_fn a0 cap0 z0 W hRd0 hz0 hc0).out.mono fun e W' ⟨v, he, hv, hg⟩ => ?_
  subst he hv
  have bel : Below W.heap.size W W' := ⟨hg.os, hg.tape, hg.output, hg.size, fun k hk => hg.block k hk (by simp)⟩
  exact ⟨_, rfl, _, _, _, [], _, [], hW', trodAll_mk1 (shut_bool Try.underlying4 _), (trodAll_cons_mk (Below.trod laidOut (by kernel_rfl) (of_decide_eq_true (by kernel_rfl)) k0 bel lt0) trodAll_mk0), rfl, bel.frame _, fun h => by cases h⟩

theorem named_ : Try.prog.funcNamed Rows.fnValidChainOneRow.func = some 3 := by kernel_rfl
theorem closed : joinedFacts Try.prog 3 Try.f3 Rows.fnValidChainOneSpec Rows.fnValidChainOneRow = true := by
  unfold joinedFacts
  rw [enter_, lifts_, made_]
  kernel_rfl
theorem inst_ : Try.f3.isInstance Try.prog Rows.fnValidChainOneRow.origin Rows.fnValidChainOneRow.targs := of_decide_eq_true (by kernel_rfl)
theorem wrap_ : Try.f3.isWrapper Try.prog Rows.fnValidChainOneRow.wrapper Rows.fnValidChainOneRow.mainSum := by
  unfold Func.isWrapper
  rw [if_neg (by decide +kernel)]
  exact ⟨rfl, rfl⟩
theorem over : Rows.fnValidChainOneRow.holds Try.pinned (OpenSpec.ofChange Rows.fnValidChainOneSpec) :=
  OpenClaim.holds_of_wide 3 Try.f3 rfl rfl rfl rfl rfl rfl rfl ⟨rfl, rfl, rfl, rfl, rfl⟩ rfl rfl rfl rfl rfl named_ Try.func3 closed inst_ wrap_
    (fun os started H enc _ => lifted os started H enc)
theorem proved : Rows.FnValidChainOneSaid := over
end Go.Proofs.Yteljpjapacajoaa.fnValidChainOne
