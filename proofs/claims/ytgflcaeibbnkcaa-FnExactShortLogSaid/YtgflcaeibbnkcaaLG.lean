/- Own layer: part of this seat (LG). Plain theorems; no conditions. -/
import Derived.Test.YtgflcaeibbnkcaaLE
import Derived.Test.YtgflcaeibbnkcaaG1
set_option linter.unusedVariables false
set_option linter.unusedSimpArgs false
namespace Go.Proofs.Ytgflcaeibbnkcaa
open Go.Px
theorem ReplayLog_fn (A : Option Addr) (c : Nat) (l : List PairT) (B : Option Addr) (d : Nat) (g : List RecT) (w : World) (hA : Rd w A ((l).flatMap encP)) (hB : Rd w B ((g).flatMap encG)) (hl : l.length ≤ 1048576) (hg : g.length ≤ 1048576) (hgc : g.length ≤ d) :
    Does Try.prog 39 [.slice (A) ((l).length) (c), .slice (B) ((g).length) (d)] w (fun v w1 => ∃ (A1 : Option Addr) (c1 : Nat), v = .tuple #[.slice (A1) (((repF l g).getD []).length) (c1), .bool ((repF l g).isSome)] ∧ Mem w w1 [] [[⟨.slice (A1) (((repF l g).getD []).length) (c1), 53, 2, (((repF l g).getD []).length), ((repF l g).getD []).flatMap encP⟩]]) := by
  have hM : Mem w w [] [] := Mem.refl
  refine Does.enter2 Try.func39 rfl Try.results39 Try.ntmps39 rfl ?_
  refine C.seq ?_
  refine C.region ?_
  refine O.val (v := .slice (none) (0) (0)) rfl (Ru.assign rfl) rfl ?_
  refine O.val (v := .bool (false)) rfl (Ru.assign rfl) rfl ?_
  refine O.nil ?_
  refine C.seq ?_
  refine C.seq ?_
  refine C.region ?_
  refine O.val (v := .slice (A) ((l).length) (c)) rfl (Ru.move rfl) rfl ?_
  refine O.callg [.slice (A) ((l).length) (c)] rfl en33 rfl rfl (ValidRow_fn A c l w (hA.at hM) (by first | omega | assumption | (simp; omega) | simp | (intros; omega))) ?_
  rintro _ w1_1 ⟨rfl, hR1_1⟩
  have hM1_1 : Mem w w1_1 [] [] := Mem.call (Ma := []) hM hR1_1 rfl
  refine O.val (v := .bool (!(validR l))) rfl (Ru.not rfl) rfl ?_
  refine O.val (v := .bool (!(validR l))) rfl (Ru.move rfl) rfl ?_
  refine O.part 12 (!(validR l)) rfl (fun g12 => ?_) (fun g12 => ?_)
  · refine O.pass rfl rfl rfl rfl rfl ?_
    refine O.pass rfl rfl rfl rfl rfl ?_
    refine O.pass rfl rfl rfl rfl rfl ?_
    refine O.val (v := .bool (true)) rfl (Ru.pickT rfl rfl) rfl ?_
    refine O.nil ?_
    refine C.condT rfl ?_
    refine C.seq ?_
    refine C.region ?_
    refine O.val (v := .slice (none) (0) (0)) rfl (Ru.assign rfl) rfl ?_
    refine O.val (v := .bool (false)) rfl (Ru.assign rfl) rfl ?_
    refine O.nil ?_
    refine C.ret ?_
    refine P2 (v := .slice (none) (0) (0)) (v' := .bool (false)) rfl rfl ?_
    have hn : repF l g = none := rep_no (by cases hx : validR l <;> simp_all)
    have hMn1 : Mem w w1_1 [] [[⟨.slice (none) (0) (0), 53, 2, 0, ([]).flatMap encP⟩]] := Mem.addNil hM1_1
    have hq2 : ([] : List PairT) = (repF l g).getD [] := (by rw [hn]; rfl)
    have hMn2 : Mem w w1_1 [] [[⟨.slice (none) (((repF l g).getD []).length) (0), 53, 2, (((repF l g).getD []).length), ((repF l g).getD []).flatMap encP⟩]] := hMn1.relen 0 (n' := ((repF l g).getD []).length) (xs' := ((repF l g).getD []).flatMap encP) rfl (by first | rfl | exact congrArg List.length hq2 | (have hqq := congrArg List.length hq2; first | omega | (simp at hqq ⊢; omega)) | (simp; done) | (simp; omega)) (congrArg (fun z_ => (z_).flatMap encP) hq2) rfl
    exact ⟨none, 0, (by rw [hn]; rfl), (hMn2.pick [0] (by decide) rfl)⟩
  · refine O.val (v := .slice (B) ((g).length) (d)) rfl (Ru.move rfl) rfl ?_
    refine O.callg [.slice (B) ((g).length) (d)] rfl en19 rfl rfl (ValidLog_fn B d g w1_1 (hB.at hM1_1) (by first | omega | assumption | (simp; omega) | simp | (intros; omega))) ?_
    rintro _ w1_5 ⟨rfl, hR1_5⟩
    have hM1_5 : Mem w w1_5 [] [] := Mem.call (Ma := []) hM1_1 hR1_5 rfl
    refine O.val (v := .bool (!(validL g))) rfl (Ru.not rfl) rfl ?_
    refine O.val (v := .bool (!(validL g))) rfl (Ru.pickF rfl rfl) rfl ?_
    refine O.nil ?_
    refine C.condn (b := (validL g)) rfl (fun c16 => ?_) (fun c16 => ?_)
    · refine C.seq ?_
      refine C.region ?_
      refine O.val (v := .slice (none) (0) (0)) rfl (Ru.assign rfl) rfl ?_
      refine O.val (v := .bool (false)) rfl (Ru.assign rfl) rfl ?_
      refine O.nil ?_
      refine C.ret ?_
      refine P2 (v := .slice (none) (0) (0)) (v' := .bool (false)) rfl rfl ?_
      have hn : repF l g = none := rep_no (by cases hx : validR l <;> simp_all)
      have hMn3 : Mem w w1_5 [] [[⟨.slice (none) (0) (0), 53, 2, 0, ([]).flatMap encP⟩]] := Mem.addNil hM1_5
      have hq4 : ([] : List PairT) = (repF l g).getD [] := (by rw [hn]; rfl)
      have hMn4 : Mem w w1_5 [] [[⟨.slice (none) (((repF l g).getD []).length) (0), 53, 2, (((repF l g).getD []).length), ((repF l g).getD []).flatMap encP⟩]] := hMn3.relen 0 (n' := ((repF l g).getD []).length) (xs' := ((repF l g).getD []).flatMap encP) rfl (by first | rfl | exact congrArg List.length hq4 | (have hqq := congrArg List.length hq4; first | omega | (simp at hqq ⊢; omega)) | (simp; done) | (simp; omega)) (congrArg (fun z_ => (z_).flatMap encP) hq4) rfl
      exact ⟨none, 0, (by rw [hn]; rfl), (hMn4.pick [0] (by decide) rfl)⟩
    · have hvl : validR l = true := by simp_all
      have hvg : validL g = true := by simp_all
      have hll := validR_len hvl
      have hml := markP_len g
      have hgl := (validL_iff.1 hvg).1
      refine C.skip ?_
      refine C.seq ?_
      refine C.region ?_
      refine O.val (v := .slice (A) ((l).length) (c)) rfl (Ru.move rfl) rfl ?_
      refine O.callg [.slice (A) ((l).length) (c)] rfl en63 rfl rfl (ClonePair_fn A c l w1_5 (hA.at hM1_5) (by first | omega | assumption | (simp; omega) | simp | (intros; omega))) ?_
      rintro _ w3_1 ⟨A13_1, c13_1, rfl, hR3_1⟩
      have hM3_1 : Mem w w3_1 [] [[⟨.slice (A13_1) ((l).length) (c13_1), 53, 2, ((l).length), (l).flatMap encP⟩]] := Mem.call (Ma := []) hM1_5 hR3_1 rfl
      have hcr3_1_0 := (hM3_1.cap 0 rfl).1
      refine O.val (v := .slice (A13_1) ((l).length) (c13_1)) rfl (Ru.assign rfl) rfl ?_
      refine O.nil ?_
      refine C.seq ?_
      refine C.seq ?_
      refine C.region ?_
      refine O.val (v := .slice (B) ((g).length) (d)) rfl (Ru.move rfl) rfl ?_
      refine O.callg [.slice (B) ((g).length) (d)] rfl en51 rfl rfl (markedPart_fn B d g w3_1 (hB.at hM3_1) (by first | omega | assumption | (simp; omega) | simp | (intros; omega)) (by first | omega | assumption | (simp; omega) | simp | (intros; omega))) ?_
      rintro _ w4_1 ⟨A24_1, c24_1, rfl, hr4_1, hcc4_1, hR4_1⟩
      have hM4_1 : Mem w w4_1 [] [[⟨.slice (A13_1) ((l).length) (c13_1), 53, 2, ((l).length), (l).flatMap encP⟩]] := Mem.call (Ma := []) hM3_1 hR4_1 rfl
      refine O.val (v := I ((((markP g).length : Nat) : Int))) rfl (Ru.blenSlice Try.underlying23 rfl) rfl ?_
      refine O.val (v := I (0)) rfl (Ru.move rfl) rfl ?_
      refine O.nil ?_
      refine C.block ?_
      have hq5 : (l : List PairT) = runR l ((markP g).take 0) := (by simp [runR])
      have hMn5 : Mem w w4_1 [] [[⟨.slice (A13_1) ((runR l ((markP g).take 0)).length) (c13_1), 53, 2, ((runR l ((markP g).take 0)).length), (runR l ((markP g).take 0)).flatMap encP⟩]] := hM4_1.relen 0 (n' := (runR l ((markP g).take 0)).length) (xs' := (runR l ((markP g).take 0)).flatMap encP) rfl (by first | rfl | exact congrArg List.length hq5 | (have hqq := congrArg List.length hq5; first | omega | (simp at hqq ⊢; omega)) | (simp; done) | (simp; omega)) (congrArg (fun z_ => (z_).flatMap encP) hq5) rfl
      refine C.loop (ι := Nat × (Option Addr) × Nat) (fun x_ => ([(6, .slice (x_.2.1) ((runR l ((markP g).take x_.1)).length) (x_.2.2)), (20, .slice (A24_1) ((markP g).length) (c24_1)), (21, I ((((markP g).length : Nat) : Int))), (22, I (((x_.1 : Nat) : Int)))] : List (Nat × Value))) (fun x_ w_ => (x_.1 ≤ (markP g).length) ∧ (Mem w w_ [] [[⟨.slice (x_.2.1) ((runR l ((markP g).take x_.1)).length) (x_.2.2), 53, 2, ((runR l ((markP g).take x_.1)).length), (runR l ((markP g).take x_.1)).flatMap encP⟩]])) (fun x_ => (markP g).length - x_.1) (0, A13_1, c13_1) (Has.cons (sl_congr (by first | rfl | omega | (simp; done) | (simp; omega) | exact congrArg List.length hq5 | (simp [← hq5]; done) | (simp [← hq5]; omega))) (Has.cons rfl (Has.cons rfl (Has.cons (I_congr (by first | rfl | omega | (simp; omega) | simp)) Has.nil)))) ⟨(Nat.zero_le _), (hMn5.pick [0] (by decide) rfl)⟩ (fun ⟨i, A3, c3⟩ σ w_l5 hI => ?_)
      try dsimp only at hI
      obtain ⟨hi0_l5, hM_l5⟩ := hI
      have hcl0_l5 := (hM_l5.cap 0 rfl).1
      have hrl := run_len ((markP g).take i) l
      rw [List.length_take] at hrl
      have hrv := run_validK hvl (rs := (markP g).take i) (mark_take hvg)
      refine C.seq ?_
      refine C.region ?_
      refine O.val (v := .bool (decide (((i : Nat) : Int) < (((markP g).length : Nat) : Int)))) rfl (Ru.lss rfl rfl) rfl ?_
      refine O.nil ?_
      refine C.seq ?_
      refine C.cond (p := ((i : Nat) : Int) < (((markP g).length : Nat) : Int)) rfl (fun c23 => ?_) (fun c23 => ?_)
      · refine C.skip ?_
        refine C.seq ?_
        refine C.block ?_
        refine C.seq ?_
        refine C.region ?_
        have hx6_0 : i < (markP g).length := (by first | omega | (simp; omega))
        refine O.val (v := .pointer (ofs (A24_1) (i * 3))) rfl (Ru.indexA (j := i) Try.underlying23 el34 rfl rfl (smf encG_len (hr4_1 _ (hB.at hM_l5)) hx6_0 rfl) (by omega) (by first | omega | (simp; omega))) rfl ?_
        refine O.val rfl (Ru.loadN (vs := [I (((markP g)[i]'hx6_0).kind), I (((markP g)[i]'hx6_0).key), I (((markP g)[i]'hx6_0).val)]) el34 rfl rfl (smf encG_len (hr4_1 _ (hB.at hM_l5)) hx6_0 rfl) (ldn encG_len (hr4_1 _ (hB.at hM_l5)) hx6_0)) rfl ?_
        refine O.malloc (k := 3) hM_l5 rfl rfl el34 rfl (fun w6_2 b6_2 hb6_2 (hM6_2 : Mem w w6_2 [] [[⟨.slice (bl b6_2) 1 1, 34, 3, 1, [I (0), I (0), I (0)]⟩], [⟨.slice (A3) ((runR l ((markP g).take i)).length) (c3), 53, 2, ((runR l ((markP g).take i)).length), (runR l ((markP g).take i)).flatMap encP⟩]]) => ?_)
        refine O.mstore (vs := [I (((markP g)[i]'hx6_0).kind), I (((markP g)[i]'hx6_0).key), I (((markP g)[i]'hx6_0).val)]) (xs' := [I (((markP g)[i]'hx6_0).kind), I (((markP g)[i]'hx6_0).key), I (((markP g)[i]'hx6_0).val)]) 0 0 hM6_2 rfl rfl rfl el34 rfl rfl rfl rfl rfl (by simp) (by simp) rfl rfl (fun w6_3 (hM6_3 : Mem w w6_3 [] [[⟨.slice (bl b6_2) 1 1, 34, 3, 1, [I (((markP g)[i]'hx6_0).kind), I (((markP g)[i]'hx6_0).key), I (((markP g)[i]'hx6_0).val)]⟩], [⟨.slice (A3) ((runR l ((markP g).take i)).length) (c3), 53, 2, ((runR l ((markP g).take i)).length), (runR l ((markP g).take i)).flatMap encP⟩]]) => ?_)
        refine O.nil ?_
        refine C.seq ?_
        refine C.region ?_
        refine O.val (v := .pointer (ofs (bl b6_2) (0))) rfl (Ru.fieldA fl34_0 rfl rfl) rfl ?_
        refine O.val rfl (Ru.load1 el3 rfl ((hM6_3.rd 0 rfl).ld rfl)) rfl ?_
        refine O.nil ?_
        refine C.block ?_
        refine C.seq ?_
        refine C.region ?_
        refine O.val (v := .bool (decide (((markP g)[i]'hx6_0).kind = 1))) rfl (Ru.eql rfl rfl) rfl ?_
        refine O.val (v := .bool (decide (((markP g)[i]'hx6_0).kind = 1))) rfl (Ru.assign rfl) rfl ?_
        refine O.nil ?_
        refine C.cond (p := ((markP g)[i]'hx6_0).kind = 1) rfl (fun c28 => ?_) (fun c28 => ?_)
        · refine C.region ?_
          refine O.val (v := .slice (A3) ((runR l ((markP g).take i)).length) (c3)) rfl (Ru.move rfl) rfl ?_
          refine O.val (v := .pointer (ofs (bl b6_2) (1))) rfl (Ru.fieldA fl34_1 rfl rfl) rfl ?_
          refine O.val rfl (Ru.load1 el3 rfl ((hM6_3.rd 0 rfl).ld rfl)) rfl ?_
          refine O.val (v := .pointer (ofs (bl b6_2) (2))) rfl (Ru.fieldA fl34_2 rfl rfl) rfl ?_
          refine O.val rfl (Ru.load1 el3 rfl ((hM6_3.rd 0 rfl).ld rfl)) rfl ?_
          refine O.val (v := .agg #[I (((markP g)[i]'hx6_0).key), I (((markP g)[i]'hx6_0).val)]) rfl (Ru.build of53 rfl rfl rfl) rfl ?_
          refine O.callg [.slice (A3) ((runR l ((markP g).take i)).length) (c3), .agg #[I (((markP g)[i]'hx6_0).key), I (((markP g)[i]'hx6_0).val)]] rfl en64 rfl rfl (putInRow_fn A3 c3 (runR l ((markP g).take i)) (⟨((markP g)[i]'hx6_0).key, ((markP g)[i]'hx6_0).val⟩ : PairT) w6_3 (hM6_3.rd 1 rfl) (by omega) (by exact hrv)) ?_
          rintro _ w9_6 ⟨A19_6, c19_6, rfl, hR9_6⟩
          have hM9_6 : Mem w w9_6 [] [[⟨.slice (A19_6) ((putP (runR l ((markP g).take i)) (⟨((markP g)[i]'hx6_0).key, ((markP g)[i]'hx6_0).val⟩ : PairT)).length) (c19_6), 53, 2, ((putP (runR l ((markP g).take i)) (⟨((markP g)[i]'hx6_0).key, ((markP g)[i]'hx6_0).val⟩ : PairT)).length), (putP (runR l ((markP g).take i)) (⟨((markP g)[i]'hx6_0).key, ((markP g)[i]'hx6_0).val⟩ : PairT)).flatMap encP⟩], [⟨.slice (bl b6_2) 1 1, 34, 3, 1, [I (((markP g)[i]'hx6_0).kind), I (((markP g)[i]'hx6_0).key), I (((markP g)[i]'hx6_0).val)]⟩], [⟨.slice (A3) ((runR l ((markP g).take i)).length) (c3), 53, 2, ((runR l ((markP g).take i)).length), (runR l ((markP g).take i)).flatMap encP⟩]] := Mem.call (Ma := []) hM6_3 hR9_6 rfl
          have hcr9_6_0 := (hM9_6.cap 0 rfl).1
          refine O.val (v := .slice (A19_6) ((putP (runR l ((markP g).take i)) (⟨((markP g)[i]'hx6_0).key, ((markP g)[i]'hx6_0).val⟩ : PairT)).length) (c19_6)) rfl (Ru.assign rfl) rfl ?_
          refine O.nil ?_
          refine C.region ?_
          refine O.val (v := I ((((i + 1) : Nat) : Int))) rfl (Ru.congr (v := I ((((i : Nat) : Int) + 1))) (v' := I ((((i + 1) : Nat) : Int))) (Ru.add rfl rfl (by omega)) (I_congr (by first | omega | simp))) rfl ?_
          refine O.val (v := I ((((i + 1) : Nat) : Int))) rfl (Ru.move rfl) rfl ?_
          refine O.nil ?_
          have hq6 : (putP (runR l ((markP g).take i)) (⟨((markP g)[i]'hx6_0).key, ((markP g)[i]'hx6_0).val⟩ : PairT) : List PairT) = runR l ((markP g).take (i + 1)) := (by rw [runR_take hx6_0, apply1 c28])
          have hMn6 : Mem w w9_6 [] [[⟨.slice (A19_6) ((runR l ((markP g).take (i + 1))).length) (c19_6), 53, 2, ((runR l ((markP g).take (i + 1))).length), (runR l ((markP g).take (i + 1))).flatMap encP⟩], [⟨.slice (bl b6_2) 1 1, 34, 3, 1, [I (((markP g)[i]'hx6_0).kind), I (((markP g)[i]'hx6_0).key), I (((markP g)[i]'hx6_0).val)]⟩], [⟨.slice (A3) ((runR l ((markP g).take i)).length) (c3), 53, 2, ((runR l ((markP g).take i)).length), (runR l ((markP g).take i)).flatMap encP⟩]] := hM9_6.relen 0 (n' := (runR l ((markP g).take (i + 1))).length) (xs' := (runR l ((markP g).take (i + 1))).flatMap encP) rfl (by first | rfl | exact congrArg List.length hq6 | (have hqq := congrArg List.length hq6; first | omega | (simp at hqq ⊢; omega)) | (simp; done) | (simp; omega)) (congrArg (fun z_ => (z_).flatMap encP) hq6) rfl
          simp only [blkQ]
          exact loopEnd (i + 1, A19_6, c19_6) (by (try dsimp only); omega) (Has.cons (sl_congr (by first | rfl | omega | (simp; done) | (simp; omega) | exact congrArg List.length hq6 | (simp [← hq6]; done) | (simp [← hq6]; omega))) (Has.cons rfl (Has.cons rfl (Has.cons (I_congr (by first | rfl | omega | (simp; omega) | simp)) Has.nil)))) ⟨(by (try dsimp only); omega), (hMn6.pick [0] (by decide) rfl)⟩
        · refine C.seq ?_
          refine C.region ?_
          refine O.val (v := .bool (decide (((markP g)[i]'hx6_0).kind = 2))) rfl (Ru.eql rfl rfl) rfl ?_
          refine O.val (v := .bool (decide (((markP g)[i]'hx6_0).kind = 2))) rfl (Ru.assign rfl) rfl ?_
          refine O.nil ?_
          refine C.cond (p := ((markP g)[i]'hx6_0).kind = 2) rfl (fun c37 => ?_) (fun c37 => ?_)
          · refine C.region ?_
            refine O.val (v := .slice (A3) ((runR l ((markP g).take i)).length) (c3)) rfl (Ru.move rfl) rfl ?_
            refine O.val (v := .pointer (ofs (bl b6_2) (1))) rfl (Ru.fieldA fl34_1 rfl rfl) rfl ?_
            refine O.val rfl (Ru.load1 el3 rfl ((hM6_3.rd 0 rfl).ld rfl)) rfl ?_
            refine O.callg [.slice (A3) ((runR l ((markP g).take i)).length) (c3), I (((markP g)[i]'hx6_0).key)] rfl en65 rfl rfl (dropFromRow_fn A3 c3 (runR l ((markP g).take i)) (((markP g)[i]'hx6_0).key) w6_3 (hM6_3.rd 1 rfl) (by omega) (by exact hrv)) ?_
            rintro _ w11_3 ⟨A111_3, c111_3, rfl, hR11_3⟩
            have hM11_3 : Mem w w11_3 [] [[⟨.slice (A111_3) ((dropP (runR l ((markP g).take i)) (((markP g)[i]'hx6_0).key)).length) (c111_3), 53, 2, ((dropP (runR l ((markP g).take i)) (((markP g)[i]'hx6_0).key)).length), (dropP (runR l ((markP g).take i)) (((markP g)[i]'hx6_0).key)).flatMap encP⟩], [⟨.slice (bl b6_2) 1 1, 34, 3, 1, [I (((markP g)[i]'hx6_0).kind), I (((markP g)[i]'hx6_0).key), I (((markP g)[i]'hx6_0).val)]⟩], [⟨.slice (A3) ((runR l ((markP g).take i)).length) (c3), 53, 2, ((runR l ((markP g).take i)).length), (runR l ((markP g).take i)).flatMap encP⟩]] := Mem.call (Ma := []) hM6_3 hR11_3 rfl
            have hcr11_3_0 := (hM11_3.cap 0 rfl).1
            refine O.val (v := .tuple #[.slice (A111_3) ((dropP (runR l ((markP g).take i)) (((markP g)[i]'hx6_0).key)).length) (c111_3), .bool (isInB (runR l ((markP g).take i)) (((markP g)[i]'hx6_0).key))]) rfl (Ru.move rfl) rfl ?_
            refine O.val (v := .slice (A111_3) ((dropP (runR l ((markP g).take i)) (((markP g)[i]'hx6_0).key)).length) (c111_3)) rfl (Ru.extract rfl rfl) rfl ?_
            refine O.val (v := .bool (isInB (runR l ((markP g).take i)) (((markP g)[i]'hx6_0).key))) rfl (Ru.extract rfl rfl) rfl ?_
            refine O.val (v := .slice (A111_3) ((dropP (runR l ((markP g).take i)) (((markP g)[i]'hx6_0).key)).length) (c111_3)) rfl (Ru.assign rfl) rfl ?_
            refine O.nil ?_
            refine C.region ?_
            refine O.val (v := I ((((i + 1) : Nat) : Int))) rfl (Ru.congr (v := I ((((i : Nat) : Int) + 1))) (v' := I ((((i + 1) : Nat) : Int))) (Ru.add rfl rfl (by omega)) (I_congr (by first | omega | simp))) rfl ?_
            refine O.val (v := I ((((i + 1) : Nat) : Int))) rfl (Ru.move rfl) rfl ?_
            refine O.nil ?_
            have hq7 : (dropP (runR l ((markP g).take i)) (((markP g)[i]'hx6_0).key) : List PairT) = runR l ((markP g).take (i + 1)) := (by rw [runR_take hx6_0, apply2 c37])
            have hMn7 : Mem w w11_3 [] [[⟨.slice (A111_3) ((runR l ((markP g).take (i + 1))).length) (c111_3), 53, 2, ((runR l ((markP g).take (i + 1))).length), (runR l ((markP g).take (i + 1))).flatMap encP⟩], [⟨.slice (bl b6_2) 1 1, 34, 3, 1, [I (((markP g)[i]'hx6_0).kind), I (((markP g)[i]'hx6_0).key), I (((markP g)[i]'hx6_0).val)]⟩], [⟨.slice (A3) ((runR l ((markP g).take i)).length) (c3), 53, 2, ((runR l ((markP g).take i)).length), (runR l ((markP g).take i)).flatMap encP⟩]] := hM11_3.relen 0 (n' := (runR l ((markP g).take (i + 1))).length) (xs' := (runR l ((markP g).take (i + 1))).flatMap encP) rfl (by first | rfl | exact congrArg List.length hq7 | (have hqq := congrArg List.length hq7; first | omega | (simp at hqq ⊢; omega)) | (simp; done) | (simp; omega)) (congrArg (fun z_ => (z_).flatMap encP) hq7) rfl
            simp only [blkQ]
            exact loopEnd (i + 1, A111_3, c111_3) (by (try dsimp only); omega) (Has.cons (sl_congr (by first | rfl | omega | (simp; done) | (simp; omega) | exact congrArg List.length hq7 | (simp [← hq7]; done) | (simp [← hq7]; omega))) (Has.cons rfl (Has.cons rfl (Has.cons (I_congr (by first | rfl | omega | (simp; omega) | simp)) Has.nil)))) ⟨(by (try dsimp only); omega), (hMn7.pick [0] (by decide) rfl)⟩
          · refine C.skip ?_
            refine C.region ?_
            refine O.val (v := I ((((i + 1) : Nat) : Int))) rfl (Ru.congr (v := I ((((i : Nat) : Int) + 1))) (v' := I ((((i + 1) : Nat) : Int))) (Ru.add rfl rfl (by omega)) (I_congr (by first | omega | simp))) rfl ?_
            refine O.val (v := I ((((i + 1) : Nat) : Int))) rfl (Ru.move rfl) rfl ?_
            refine O.nil ?_
            have hq8 : (runR l ((markP g).take i) : List PairT) = runR l ((markP g).take (i + 1)) := (by rw [runR_take hx6_0, apply0 c28 c37])
            have hMn8 : Mem w w6_3 [] [[⟨.slice (bl b6_2) 1 1, 34, 3, 1, [I (((markP g)[i]'hx6_0).kind), I (((markP g)[i]'hx6_0).key), I (((markP g)[i]'hx6_0).val)]⟩], [⟨.slice (A3) ((runR l ((markP g).take (i + 1))).length) (c3), 53, 2, ((runR l ((markP g).take (i + 1))).length), (runR l ((markP g).take (i + 1))).flatMap encP⟩]] := hM6_3.relen 1 (n' := (runR l ((markP g).take (i + 1))).length) (xs' := (runR l ((markP g).take (i + 1))).flatMap encP) rfl (by first | rfl | exact congrArg List.length hq8 | (have hqq := congrArg List.length hq8; first | omega | (simp at hqq ⊢; omega)) | (simp; done) | (simp; omega)) (congrArg (fun z_ => (z_).flatMap encP) hq8) rfl
            simp only [blkQ]
            exact loopEnd (i + 1, A3, c3) (by (try dsimp only); omega) (Has.cons (sl_congr (by first | rfl | omega | (simp; done) | (simp; omega) | exact congrArg List.length hq8 | (simp [← hq8]; done) | (simp [← hq8]; omega))) (Has.cons rfl (Has.cons rfl (Has.cons (I_congr (by first | rfl | omega | (simp; omega) | simp)) Has.nil)))) ⟨(by (try dsimp only); omega), (hMn8.pick [1] (by decide) rfl)⟩
      · refine C.exit ?_
        refine C.seq ?_
        refine C.seq ?_
        refine C.region ?_
        refine O.val (v := .slice (A3) ((runR l ((markP g).take i)).length) (c3)) rfl (Ru.move rfl) rfl ?_
        refine O.val (v := I ((((runR l ((markP g).take i)).length : Nat) : Int))) rfl (Ru.blenSlice Try.underlying36 rfl) rfl ?_
        refine O.val (v := .bool (decide ((((runR l ((markP g).take i)).length : Nat) : Int) > 24))) rfl (Ru.gtr rfl rfl) rfl ?_
        refine O.nil ?_
        refine C.cond (p := (((runR l ((markP g).take i)).length : Nat) : Int) > 24) rfl (fun c49 => ?_) (fun c49 => ?_)
        · have hiq : (markP g).take i = markP g := take_all (by omega)
          refine C.seq ?_
          refine C.region ?_
          refine O.val (v := .slice (none) (0) (0)) rfl (Ru.assign rfl) rfl ?_
          refine O.val (v := .bool (false)) rfl (Ru.assign rfl) rfl ?_
          refine O.nil ?_
          refine C.ret ?_
          refine P2 (v := .slice (none) (0) (0)) (v' := .bool (false)) rfl rfl ?_
          have hn : repF l g = none := rep_big (by rw [hiq] at c49; omega)
          have hMn9 : Mem w w_l5 [] [[⟨.slice (none) (0) (0), 53, 2, 0, ([]).flatMap encP⟩], [⟨.slice (A3) ((runR l ((markP g).take i)).length) (c3), 53, 2, ((runR l ((markP g).take i)).length), (runR l ((markP g).take i)).flatMap encP⟩]] := Mem.addNil hM_l5
          have hq10 : ([] : List PairT) = (repF l g).getD [] := (by rw [hn]; rfl)
          have hMn10 : Mem w w_l5 [] [[⟨.slice (none) (((repF l g).getD []).length) (0), 53, 2, (((repF l g).getD []).length), ((repF l g).getD []).flatMap encP⟩], [⟨.slice (A3) ((runR l ((markP g).take i)).length) (c3), 53, 2, ((runR l ((markP g).take i)).length), (runR l ((markP g).take i)).flatMap encP⟩]] := hMn9.relen 0 (n' := ((repF l g).getD []).length) (xs' := ((repF l g).getD []).flatMap encP) rfl (by first | rfl | exact congrArg List.length hq10 | (have hqq := congrArg List.length hq10; first | omega | (simp at hqq ⊢; omega)) | (simp; done) | (simp; omega)) (congrArg (fun z_ => (z_).flatMap encP) hq10) rfl
          exact ⟨none, 0, (by rw [hn]; rfl), (hMn10.pick [0] (by decide) rfl)⟩
        · have hiq : (markP g).take i = markP g := take_all (by omega)
          refine C.skip ?_
          refine C.seq ?_
          refine C.region ?_
          refine O.val (v := .slice (A3) ((runR l ((markP g).take i)).length) (c3)) rfl (Ru.move rfl) rfl ?_
          refine O.val (v := .slice (A3) ((runR l ((markP g).take i)).length) (c3)) rfl (Ru.assign rfl) rfl ?_
          refine O.val (v := .bool (true)) rfl (Ru.assign rfl) rfl ?_
          refine O.nil ?_
          refine C.ret ?_
          refine P2 (v := .slice (A3) ((runR l ((markP g).take i)).length) (c3)) (v' := .bool (true)) rfl rfl ?_
          have hn := rep_yes hvl hvg (by rw [hiq] at c49; omega)
          have hq11 : (runR l ((markP g).take i) : List PairT) = (repF l g).getD [] := (by rw [hn, hiq]; rfl)
          have hMn11 : Mem w w_l5 [] [[⟨.slice (A3) (((repF l g).getD []).length) (c3), 53, 2, (((repF l g).getD []).length), ((repF l g).getD []).flatMap encP⟩]] := hM_l5.relen 0 (n' := ((repF l g).getD []).length) (xs' := ((repF l g).getD []).flatMap encP) rfl (by first | rfl | exact congrArg List.length hq11 | (have hqq := congrArg List.length hq11; first | omega | (simp at hqq ⊢; omega)) | (simp; done) | (simp; omega)) (congrArg (fun z_ => (z_).flatMap encP) hq11) rfl
          exact ⟨A3, c3, (by rw [hn, hiq]; rfl), (hMn11.pick [0] (by decide) rfl)⟩

theorem sreplay_fn (A : Option Addr) (c : Nat) (l : List PairT) (B : Option Addr) (d : Nat) (g : List RecT) (w : World) (hB : Rd w B ((g).flatMap encG)) (hoB : Off B ((g).flatMap encG) [(Value.slice (A) ((l).length) (c)).ownBlock]) (hM : Mem w w [(Value.slice (A) ((l).length) (c)).ownBlock] [[⟨.slice (A) ((l).length) (c), 53, 2, ((l).length), (l).flatMap encP⟩]]) (hl : l.length ≤ 1000) (hg : g.length ≤ 1000) (ha : asc (keysP l) = true) :
    Does Try.prog 66 [.slice (A) ((l).length) (c), .slice (B) ((g).length) (d)] w (fun v w1 => ∃ (A1 : Option Addr) (c1 : Nat), v = .slice (A1) ((runR l g).length) (c1) ∧ Mem w w1 [(Value.slice (A) ((l).length) (c)).ownBlock] [[⟨.slice (A1) ((runR l g).length) (c1), 53, 2, ((runR l g).length), (runR l g).flatMap encP⟩]]) := by
  refine Does.enter1 Try.func66 rfl Try.results66 Try.ntmps66 rfl ?_
  refine C.seq ?_
  refine C.region ?_
  refine O.val (v := .slice (none) (0) (0)) rfl (Ru.assign rfl) rfl ?_
  refine O.nil ?_
  refine C.seq ?_
  refine C.seq ?_
  refine C.region ?_
  refine O.val (v := I (0)) rfl (Ru.assign rfl) rfl ?_
  refine O.nil ?_
  refine C.block ?_
  have hq1 : (l : List PairT) = runR l (g.take 0) := (by simp [runR])
  have hMn1 : Mem w w [(Value.slice (A) ((l).length) (c)).ownBlock] [[⟨.slice (A) ((runR l (g.take 0)).length) (c), 53, 2, ((runR l (g.take 0)).length), (runR l (g.take 0)).flatMap encP⟩]] := hM.relen 0 (n' := (runR l (g.take 0)).length) (xs' := (runR l (g.take 0)).flatMap encP) rfl (by first | rfl | exact congrArg List.length hq1 | (have hqq := congrArg List.length hq1; first | omega | (simp at hqq ⊢; omega)) | (simp; done) | (simp; omega)) (congrArg (fun z_ => (z_).flatMap encP) hq1) rfl
  refine C.loop (ι := Nat × (Option Addr) × Nat) (fun x_ => ([(0, .slice (x_.2.1) ((runR l (g.take x_.1)).length) (x_.2.2)), (1, .slice (B) ((g).length) (d)), (5, I (((x_.1 : Nat) : Int)))] : List (Nat × Value))) (fun x_ w_ => (x_.1 ≤ g.length) ∧ (Mem w w_ [(Value.slice (A) ((l).length) (c)).ownBlock] [[⟨.slice (x_.2.1) ((runR l (g.take x_.1)).length) (x_.2.2), 53, 2, ((runR l (g.take x_.1)).length), (runR l (g.take x_.1)).flatMap encP⟩]])) (fun x_ => g.length - x_.1) (0, A, c) (Has.cons (sl_congr (by first | rfl | omega | (simp; done) | (simp; omega) | exact congrArg List.length hq1 | (simp [← hq1]; done) | (simp [← hq1]; omega))) (Has.cons rfl (Has.cons (I_congr (by first | rfl | omega | (simp; omega) | simp)) Has.nil))) ⟨(Nat.zero_le _), (hMn1.pick [0] (by decide) rfl)⟩ (fun ⟨i, A2, c2⟩ σ w_l2 hI => ?_)
  try dsimp only at hI
  obtain ⟨hi0_l2, hM_l2⟩ := hI
  have hcl0_l2 := (hM_l2.cap 0 rfl).1
  have hrl := run_len (g.take i) l
  rw [List.length_take] at hrl
  have hra := run_asc (g.take i) ha
  refine C.seq ?_
  refine C.seq ?_
  refine C.region ?_
  refine O.val (v := I (((i : Nat) : Int))) rfl (Ru.move rfl) rfl ?_
  refine O.val (v := .slice (B) ((g).length) (d)) rfl (Ru.move rfl) rfl ?_
  refine O.val (v := I ((((g).length : Nat) : Int))) rfl (Ru.blenSlice Try.underlying23 rfl) rfl ?_
  refine O.val (v := .bool (decide (((i : Nat) : Int) < (((g).length : Nat) : Int)))) rfl (Ru.lss rfl rfl) rfl ?_
  refine O.nil ?_
  refine C.cond (p := ((i : Nat) : Int) < (((g).length : Nat) : Int)) rfl (fun c10 => ?_) (fun c10 => ?_)
  · have hig : i < g.length := by omega
    refine C.skip ?_
    refine C.seq ?_
    refine C.block ?_
    refine C.cut (ι := (List PairT) × (Option Addr) × Nat) (fun x_ => ([(0, .slice (x_.2.1) ((x_.1).length) (x_.2.2)), (1, .slice (B) ((g).length) (d)), (5, I (((i : Nat) : Int)))] : List (Nat × Value))) (fun x_ w_ => (x_.1 = if (g[i]'hig).kind = 1 then putP (runR l (g.take i)) ⟨(g[i]'hig).key, (g[i]'hig).val⟩ else runR l (g.take i)) ∧ (x_.1.length ≤ l.length + i + 1) ∧ (asc (keysP x_.1) = true) ∧ (Mem w w_ [(Value.slice (A) ((l).length) (c)).ownBlock] [[⟨.slice (x_.2.1) ((x_.1).length) (x_.2.2), 53, 2, ((x_.1).length), (x_.1).flatMap encP⟩]])) ?_ (fun ⟨L, A3, c3⟩ σ w_c18 hI => ?_)
    · refine C.seq ?_
      refine C.region ?_
      refine O.val (v := .slice (B) ((g).length) (d)) rfl (Ru.move rfl) rfl ?_
      refine O.val (v := I (((i : Nat) : Int))) rfl (Ru.move rfl) rfl ?_
      have hx4_2 : i < (g).length := (by first | omega | (simp; omega))
      refine O.val (v := .pointer (ofs (B) (i * 3))) rfl (Ru.indexA (j := i) Try.underlying23 el34 rfl rfl (smf encG_len (hB.atR hM_l2 hoB) hx4_2 rfl) (by omega) (by first | omega | (simp; omega))) rfl ?_
      refine O.val (v := .pointer (ofs (B) (i * 3 + 0))) rfl (Ru.fieldA fl34_0 rfl (smf encG_len (hB.atR hM_l2 hoB) hx4_2 rfl)) rfl ?_
      refine O.val rfl (Ru.load1 el3 rfl (ldf encG_len (hB.atR hM_l2 hoB) hx4_2 rfl)) rfl ?_
      refine O.val (v := .bool (decide (((g)[i]'hx4_2).kind = 1))) rfl (Ru.eql rfl rfl) rfl ?_
      refine O.nil ?_
      refine C.cond (p := ((g)[i]'hx4_2).kind = 1) rfl (fun c18 => ?_) (fun c18 => ?_)
      · refine C.any (f := 14) (ls := [false, false, false, false, false, false, false, false, false, false, false, false, false, false]) (fun w2 => Mem w w2 [(Value.slice (A) ((l).length) (c)).ownBlock] [[⟨.slice (A2) ((runR l (g.take i)).length) (c2), 53, 2, ((runR l (g.take i)).length), (runR l (g.take i)).flatMap encP⟩]]) mixed rfl rfl (fun w2 hw2 => Mem0.ext (hM_l2.pick [0] (by decide) rfl) hw2) (fun w5a hE5a => ?_)
        have hM5a : Mem w w5a [(Value.slice (A) ((l).length) (c)).ownBlock] [[⟨.slice (A2) ((runR l (g.take i)).length) (c2), 53, 2, ((runR l (g.take i)).length), (runR l (g.take i)).flatMap encP⟩]] := Mem0.ext hM_l2 hE5a
        refine AO.val (v := .slice (A2) ((runR l (g.take i)).length) (c2)) 0 (ls' := [true, false, false, false, false, false, false, false, false, false, false, false, false, false]) rfl (by kernel_rfl) rfl rfl (fun w2 hw2 => Ru.move rfl) rfl ?_
        refine AO.val (v := .slice (B) ((g).length) (d)) 1 (ls' := [true, true, false, false, false, false, false, false, false, false, false, false, false, false]) rfl (by kernel_rfl) rfl rfl (fun w2 hw2 => Ru.move rfl) rfl ?_
        refine AO.val (v := I (((i : Nat) : Int))) 2 (ls' := [true, true, true, false, false, false, false, false, false, false, false, false, false, false]) rfl (by kernel_rfl) rfl rfl (fun w2 hw2 => Ru.move rfl) rfl ?_
        have hx5_3 : i < (g).length := (by first | omega | (simp; omega))
        refine AO.val (v := .pointer (ofs (B) (i * 3))) 3 (ls' := [true, true, true, true, false, false, false, false, false, false, false, false, false, false]) rfl (by kernel_rfl) rfl rfl (fun w2 hw2 => Ru.indexA (j := i) Try.underlying23 el34 rfl rfl (smf encG_len (hB.atR hM5a hoB) hx5_3 rfl) (by omega) (by first | omega | (simp; omega))) rfl ?_
        refine AO.val (v := .pointer (ofs (B) (i * 3 + 1))) 4 (ls' := [true, true, true, true, true, false, false, false, false, false, false, false, false, false]) rfl (by kernel_rfl) rfl rfl (fun w2 hw2 => Ru.fieldA fl34_1 rfl (smf encG_len (hB.atR hM5a hoB) hx5_3 rfl)) rfl ?_
        refine AO.val (v := I (((g)[i]'hx5_3).key)) 5 (ls' := [true, true, true, true, true, true, false, false, false, false, false, false, false, false]) rfl (by kernel_rfl) rfl rfl (fun w2 hw2 => Ru.load1 el3 rfl (ldf encG_len (hB.atR hw2 hoB) hx5_3 rfl)) rfl ?_
        refine AO.val (v := .slice (B) ((g).length) (d)) 6 (ls' := [true, true, true, true, true, true, true, false, false, false, false, false, false, false]) rfl (by kernel_rfl) rfl rfl (fun w2 hw2 => Ru.move rfl) rfl ?_
        refine AO.val (v := I (((i : Nat) : Int))) 7 (ls' := [true, true, true, true, true, true, true, true, false, false, false, false, false, false]) rfl (by kernel_rfl) rfl rfl (fun w2 hw2 => Ru.move rfl) rfl ?_
        have hx5_8 : i < (g).length := (by first | omega | (simp; omega))
        refine AO.val (v := .pointer (ofs (B) (i * 3))) 8 (ls' := [true, true, true, true, true, true, true, true, true, false, false, false, false, false]) rfl (by kernel_rfl) rfl rfl (fun w2 hw2 => Ru.indexA (j := i) Try.underlying23 el34 rfl rfl (smf encG_len (hB.atR hM5a hoB) hx5_8 rfl) (by omega) (by first | omega | (simp; omega))) rfl ?_
        refine AO.val (v := .pointer (ofs (B) (i * 3 + 2))) 9 (ls' := [true, true, true, true, true, true, true, true, true, true, false, false, false, false]) rfl (by kernel_rfl) rfl rfl (fun w2 hw2 => Ru.fieldA fl34_2 rfl (smf encG_len (hB.atR hM5a hoB) hx5_8 rfl)) rfl ?_
        refine AO.val (v := I (((g)[i]'hx5_8).val)) 10 (ls' := [true, true, true, true, true, true, true, true, true, true, true, false, false, false]) rfl (by kernel_rfl) rfl rfl (fun w2 hw2 => Ru.load1 el3 rfl (ldf encG_len (hB.atR hw2 hoB) hx5_8 rfl)) rfl ?_
        refine AO.val (v := .agg #[I (((g)[i]'hx5_3).key), I (((g)[i]'hx5_8).val)]) 11 (ls' := [true, true, true, true, true, true, true, true, true, true, true, true, false, false]) rfl (by kernel_rfl) rfl rfl (fun w2 hw2 => Ru.build of53 rfl rfl rfl) rfl ?_
        refine AO.one 12 (by kernel_rfl) ?_
        refine step1 (ls' := [true, true, true, true, true, true, true, true, true, true, true, true, true, false]) rfl rfl ?_
        refine O.callg [.slice (A2) ((runR l (g.take i)).length) (c2), .agg #[I (((g)[i]'hx5_3).key), I (((g)[i]'hx5_8).val)]] rfl en72 rfl rfl (sput_fn A2 c2 (runR l (g.take i)) (⟨((g)[i]'hx5_3).key, ((g)[i]'hx5_8).val⟩ : PairT) w5a (hM5a.rd 0 rfl) (by omega) (by exact hra) (by omega)) ?_
        rintro _ w5_12 ⟨A15_12, c15_12, rfl, hR5_12⟩
        have hM5_12 : Mem w w5_12 [(Value.slice (A) ((l).length) (c)).ownBlock] [[⟨.slice (A15_12) ((putP (runR l (g.take i)) (⟨((g)[i]'hx5_3).key, ((g)[i]'hx5_8).val⟩ : PairT)).length) (c15_12), 53, 2, ((putP (runR l (g.take i)) (⟨((g)[i]'hx5_3).key, ((g)[i]'hx5_8).val⟩ : PairT)).length), (putP (runR l (g.take i)) (⟨((g)[i]'hx5_3).key, ((g)[i]'hx5_8).val⟩ : PairT)).flatMap encP⟩], [⟨.slice (A2) ((runR l (g.take i)).length) (c2), 53, 2, ((runR l (g.take i)).length), (runR l (g.take i)).flatMap encP⟩]] := Mem.call (Ma := []) hM5a hR5_12 rfl
        have hcr5_12_0 := (hM5_12.cap 0 rfl).1
        refine O.stop (hM5_12.pick [1] (by decide) rfl) ?_
        refine AO.val (v := .slice (A15_12) ((putP (runR l (g.take i)) (⟨((g)[i]'hx5_3).key, ((g)[i]'hx5_8).val⟩ : PairT)).length) (c15_12)) 13 (ls' := [true, true, true, true, true, true, true, true, true, true, true, true, true, true]) rfl (by kernel_rfl) rfl rfl (fun w2 hw2 => Ru.assign rfl) rfl ?_
        refine AO.nil (by kernel_rfl) ?_
        have hq2 : (putP (runR l (g.take i)) (⟨((g)[i]'hx5_3).key, ((g)[i]'hx5_8).val⟩ : PairT) : List PairT) = (putP (runR l (g.take i)) (⟨((g)[i]'hx5_3).key, ((g)[i]'hx5_8).val⟩ : PairT)) := (by first | rfl | simp | (simp; omega))
        have hMn2 : Mem w w5_12 [(Value.slice (A) ((l).length) (c)).ownBlock] [[⟨.slice (A15_12) (((putP (runR l (g.take i)) (⟨((g)[i]'hx5_3).key, ((g)[i]'hx5_8).val⟩ : PairT))).length) (c15_12), 53, 2, (((putP (runR l (g.take i)) (⟨((g)[i]'hx5_3).key, ((g)[i]'hx5_8).val⟩ : PairT))).length), ((putP (runR l (g.take i)) (⟨((g)[i]'hx5_3).key, ((g)[i]'hx5_8).val⟩ : PairT))).flatMap encP⟩], [⟨.slice (A2) ((runR l (g.take i)).length) (c2), 53, 2, ((runR l (g.take i)).length), (runR l (g.take i)).flatMap encP⟩]] := hM5_12.relen 0 (n' := ((putP (runR l (g.take i)) (⟨((g)[i]'hx5_3).key, ((g)[i]'hx5_8).val⟩ : PairT))).length) (xs' := ((putP (runR l (g.take i)) (⟨((g)[i]'hx5_3).key, ((g)[i]'hx5_8).val⟩ : PairT))).flatMap encP) rfl (by first | rfl | exact congrArg List.length hq2 | (have hqq := congrArg List.length hq2; first | omega | (simp at hqq ⊢; omega)) | (simp; done) | (simp; omega)) (congrArg (fun z_ => (z_).flatMap encP) hq2) rfl
        exact cutEnd (putP (runR l (g.take i)) (⟨((g)[i]'hx5_3).key, ((g)[i]'hx5_8).val⟩ : PairT), A15_12, c15_12) (Has.cons rfl (Has.cons rfl (Has.cons rfl Has.nil))) ⟨(by (try dsimp only); rw [if_pos c18]), (by (try dsimp only); have := put_len (l := runR l (g.take i)) (x := ⟨(g[i]'hig).key, (g[i]'hig).val⟩); omega), (put_keys_pair hra _), (hMn2.pick [0] (by decide) rfl)⟩
      · refine C.skip ?_
        have hq3 : (runR l (g.take i) : List PairT) = (runR l (g.take i)) := (by first | rfl | simp | (simp; omega))
        have hMn3 : Mem w w_l2 [(Value.slice (A) ((l).length) (c)).ownBlock] [[⟨.slice (A2) (((runR l (g.take i))).length) (c2), 53, 2, (((runR l (g.take i))).length), ((runR l (g.take i))).flatMap encP⟩]] := hM_l2.relen 0 (n' := ((runR l (g.take i))).length) (xs' := ((runR l (g.take i))).flatMap encP) rfl (by first | rfl | exact congrArg List.length hq3 | (have hqq := congrArg List.length hq3; first | omega | (simp at hqq ⊢; omega)) | (simp; done) | (simp; omega)) (congrArg (fun z_ => (z_).flatMap encP) hq3) rfl
        exact cutEnd (runR l (g.take i), A2, c2) (Has.cons rfl (Has.cons rfl (Has.cons rfl Has.nil))) ⟨(by (try dsimp only); rw [if_neg c18]), (by (try dsimp only); omega), hra, (hMn3.pick [0] (by decide) rfl)⟩
    · try dsimp only at hI
      obtain ⟨hi0_c18, hi1_c18, hi2_c18, hM_c18⟩ := hI
      have hcl0_c18 := (hM_c18.cap 0 rfl).1
      refine C.seq ?_
      refine C.any (f := 16) (ls := [false, false, false, false, false, false, false, false, false, false, false, false, false, false, false, false]) (fun w2 => Mem w w2 [(Value.slice (A) ((l).length) (c)).ownBlock] [[⟨.slice (A3) ((L).length) (c3), 53, 2, ((L).length), (L).flatMap encP⟩]]) mixed rfl rfl (fun w2 hw2 => Mem0.ext (hM_c18.pick [0] (by decide) rfl) hw2) (fun w6a hE6a => ?_)
      have hM6a : Mem w w6a [(Value.slice (A) ((l).length) (c)).ownBlock] [[⟨.slice (A3) ((L).length) (c3), 53, 2, ((L).length), (L).flatMap encP⟩]] := Mem0.ext hM_c18 hE6a
      refine AO.val (v := .slice (B) ((g).length) (d)) 0 (ls' := [true, false, false, false, false, false, false, false, false, false, false, false, false, false, false, false]) rfl (by kernel_rfl) rfl rfl (fun w2 hw2 => Ru.move rfl) rfl ?_
      refine AO.val (v := I (((i : Nat) : Int))) 1 (ls' := [true, true, false, false, false, false, false, false, false, false, false, false, false, false, false, false]) rfl (by kernel_rfl) rfl rfl (fun w2 hw2 => Ru.move rfl) rfl ?_
      have hx6_2 : i < (g).length := (by first | omega | (simp; omega))
      refine AO.val (v := .pointer (ofs (B) (i * 3))) 2 (ls' := [true, true, true, false, false, false, false, false, false, false, false, false, false, false, false, false]) rfl (by kernel_rfl) rfl rfl (fun w2 hw2 => Ru.indexA (j := i) Try.underlying23 el34 rfl rfl (smf encG_len (hB.atR hM6a hoB) hx6_2 rfl) (by omega) (by first | omega | (simp; omega))) rfl ?_
      refine AO.val (v := .pointer (ofs (B) (i * 3 + 0))) 3 (ls' := [true, true, true, true, false, false, false, false, false, false, false, false, false, false, false, false]) rfl (by kernel_rfl) rfl rfl (fun w2 hw2 => Ru.fieldA fl34_0 rfl (smf encG_len (hB.atR hM6a hoB) hx6_2 rfl)) rfl ?_
      refine AO.val (v := I (((g)[i]'hx6_2).kind)) 4 (ls' := [true, true, true, true, true, false, false, false, false, false, false, false, false, false, false, false]) rfl (by kernel_rfl) rfl rfl (fun w2 hw2 => Ru.load1 el3 rfl (ldf encG_len (hB.atR hw2 hoB) hx6_2 rfl)) rfl ?_
      refine AO.val (v := .bool (decide (((g)[i]'hx6_2).kind = 2))) 5 (ls' := [true, true, true, true, true, true, false, false, false, false, false, false, false, false, false, false]) rfl (by kernel_rfl) rfl rfl (fun w2 hw2 => Ru.eql rfl rfl) rfl ?_
      refine AO.val (v := .bool (decide (((g)[i]'hx6_2).kind = 2))) 6 (ls' := [true, true, true, true, true, true, true, false, false, false, false, false, false, false, false, false]) rfl (by kernel_rfl) rfl rfl (fun w2 hw2 => Ru.move rfl) rfl ?_
      refine AO.partp 38 (((g)[i]'hx6_2).kind = 2) rfl (fun g38 => ?_) (fun g38 => ?_)
      · refine AO.val (v := .slice (A3) ((L).length) (c3)) 7 (ls' := [true, true, true, true, true, true, true, true, false, false, false, false, false, false, false, false]) rfl (by kernel_rfl) rfl rfl (fun w2 hw2 => Ru.move rfl) rfl ?_
        refine AO.val (v := .slice (B) ((g).length) (d)) 9 (ls' := [true, true, true, true, true, true, true, true, false, true, false, false, false, false, false, false]) rfl (by kernel_rfl) rfl rfl (fun w2 hw2 => Ru.move rfl) rfl ?_
        refine AO.val (v := I (((i : Nat) : Int))) 10 (ls' := [true, true, true, true, true, true, true, true, false, true, true, false, false, false, false, false]) rfl (by kernel_rfl) rfl rfl (fun w2 hw2 => Ru.move rfl) rfl ?_
        have hx6_11 : i < (g).length := (by first | omega | (simp; omega))
        refine AO.val (v := .pointer (ofs (B) (i * 3))) 11 (ls' := [true, true, true, true, true, true, true, true, false, true, true, true, false, false, false, false]) rfl (by kernel_rfl) rfl rfl (fun w2 hw2 => Ru.indexA (j := i) Try.underlying23 el34 rfl rfl (smf encG_len (hB.atR hM6a hoB) hx6_11 rfl) (by omega) (by first | omega | (simp; omega))) rfl ?_
        refine AO.val (v := .pointer (ofs (B) (i * 3 + 1))) 12 (ls' := [true, true, true, true, true, true, true, true, false, true, true, true, true, false, false, false]) rfl (by kernel_rfl) rfl rfl (fun w2 hw2 => Ru.fieldA fl34_1 rfl (smf encG_len (hB.atR hM6a hoB) hx6_11 rfl)) rfl ?_
        refine AO.val (v := I (((g)[i]'hx6_11).key)) 13 (ls' := [true, true, true, true, true, true, true, true, false, true, true, true, true, true, false, false]) rfl (by kernel_rfl) rfl rfl (fun w2 hw2 => Ru.load1 el3 rfl (ldf encG_len (hB.atR hw2 hoB) hx6_11 rfl)) rfl ?_
        refine AO.one 8 (by kernel_rfl) ?_
        refine step1 (ls' := [true, true, true, true, true, true, true, true, true, true, true, true, true, true, false, false]) rfl rfl ?_
        refine O.callg [.slice (A3) ((L).length) (c3)] rfl en74 rfl rfl (skeysOf_fn A3 c3 L w6a (hM6a.rd 0 rfl) (by omega)) ?_
        rintro _ w6_8 ⟨A16_8, c16_8, rfl, hR6_8⟩
        have hM6_8 : Mem w w6_8 [(Value.slice (A) ((l).length) (c)).ownBlock] [[⟨.slice (A16_8) ((keysP L).length) (c16_8), 3, 1, ((keysP L).length), (keysP L).map I⟩], [⟨.slice (A3) ((L).length) (c3), 53, 2, ((L).length), (L).flatMap encP⟩]] := Mem.call (Ma := []) hM6a hR6_8 rfl
        have hcr6_8_0 := (hM6_8.cap 0 rfl).1
        refine O.stop (hM6_8.pick [1] (by decide) rfl) ?_
        refine AO.one 14 (by kernel_rfl) ?_
        refine step1 (ls' := [true, true, true, true, true, true, true, true, true, true, true, true, true, true, true, false]) rfl rfl ?_
        refine O.callg [.slice (A16_8) ((keysP L).length) (c16_8), I (((g)[i]'hx6_11).key)] rfl en75 rfl rfl (isIn_fn A16_8 c16_8 (keysP L) (((g)[i]'hx6_11).key) w6_8 (hM6_8.rd 0 rfl) (by simp; omega)) ?_
        rintro _ w6_14 ⟨rfl, hR6_14⟩
        have hM6_14 : Mem w w6_14 [(Value.slice (A) ((l).length) (c)).ownBlock] [[⟨.slice (A16_8) ((keysP L).length) (c16_8), 3, 1, ((keysP L).length), (keysP L).map I⟩], [⟨.slice (A3) ((L).length) (c3), 53, 2, ((L).length), (L).flatMap encP⟩]] := Mem.call (Ma := []) hM6_8 hR6_14 rfl
        refine O.stop (hM6_14.pick [1] (by decide) rfl) ?_
        refine AO.val (v := .bool (decide ((((g)[i]'hx6_11).key) ∈ (keysP L)))) 15 (ls' := [true, true, true, true, true, true, true, true, true, true, true, true, true, true, true, true]) rfl (by kernel_rfl) rfl rfl (fun w2 hw2 => Ru.pickT rfl rfl) rfl ?_
        refine AO.nil (by kernel_rfl) ?_
        refine C.condb (t := decide ((((g)[i]'hx6_11).key) ∈ (keysP L))) rfl (fun c47 => ?_) (fun c47 => ?_)
        · have hin : (g[i]'hig).key ∈ keysP L := by simpa using c47
          have hpi := plc_in hi2_c18 hin
          refine C.cut (ι := Unit) (fun _u => ([(0, .slice (A3) ((L).length) (c3)), (1, .slice (B) ((g).length) (d)), (5, I (((i : Nat) : Int))), (6, I (((plc L (g[i]'hig).key : Nat) : Int)))] : List (Nat × Value))) (fun _u w_ => (Mem w w_ [(Value.slice (A) ((l).length) (c)).ownBlock] [[⟨.slice (A16_8) ((keysP L).length) (c16_8), 3, 1, ((keysP L).length), (keysP L).map I⟩], [⟨.slice (A3) ((L).length) (c3), 53, 2, ((L).length), (L).flatMap encP⟩]])) ?_ (fun _ σ w_r7 hI => ?_)
          · refine C.any (f := 9) (ls := [false, false, false, false, false, false, false, false, false]) (fun w2 => Mem w w2 [(Value.slice (A) ((l).length) (c)).ownBlock] [[⟨.slice (A16_8) ((keysP L).length) (c16_8), 3, 1, ((keysP L).length), (keysP L).map I⟩], [⟨.slice (A3) ((L).length) (c3), 53, 2, ((L).length), (L).flatMap encP⟩]]) mixed rfl rfl (fun w2 hw2 => Mem0.ext (hM6_14.pick [0, 1] (by decide) rfl) hw2) (fun w7a hE7a => ?_)
            have hM7a : Mem w w7a [(Value.slice (A) ((l).length) (c)).ownBlock] [[⟨.slice (A16_8) ((keysP L).length) (c16_8), 3, 1, ((keysP L).length), (keysP L).map I⟩], [⟨.slice (A3) ((L).length) (c3), 53, 2, ((L).length), (L).flatMap encP⟩]] := Mem0.ext hM6_14 hE7a
            refine AO.val (v := .slice (A3) ((L).length) (c3)) 0 (ls' := [true, false, false, false, false, false, false, false, false]) rfl (by kernel_rfl) rfl rfl (fun w2 hw2 => Ru.move rfl) rfl ?_
            refine AO.val (v := .slice (B) ((g).length) (d)) 2 (ls' := [true, false, true, false, false, false, false, false, false]) rfl (by kernel_rfl) rfl rfl (fun w2 hw2 => Ru.move rfl) rfl ?_
            refine AO.val (v := I (((i : Nat) : Int))) 3 (ls' := [true, false, true, true, false, false, false, false, false]) rfl (by kernel_rfl) rfl rfl (fun w2 hw2 => Ru.move rfl) rfl ?_
            have hx7_4 : i < (g).length := (by first | omega | (simp; omega))
            refine AO.val (v := .pointer (ofs (B) (i * 3))) 4 (ls' := [true, false, true, true, true, false, false, false, false]) rfl (by kernel_rfl) rfl rfl (fun w2 hw2 => Ru.indexA (j := i) Try.underlying23 el34 rfl rfl (smf encG_len (hB.atR hM7a hoB) hx7_4 rfl) (by omega) (by first | omega | (simp; omega))) rfl ?_
            refine AO.val (v := .pointer (ofs (B) (i * 3 + 1))) 5 (ls' := [true, false, true, true, true, true, false, false, false]) rfl (by kernel_rfl) rfl rfl (fun w2 hw2 => Ru.fieldA fl34_1 rfl (smf encG_len (hB.atR hM7a hoB) hx7_4 rfl)) rfl ?_
            refine AO.val (v := I (((g)[i]'hx7_4).key)) 6 (ls' := [true, false, true, true, true, true, true, false, false]) rfl (by kernel_rfl) rfl rfl (fun w2 hw2 => Ru.load1 el3 rfl (ldf encG_len (hB.atR hw2 hoB) hx7_4 rfl)) rfl ?_
            refine AO.one 1 (by kernel_rfl) ?_
            refine step1 (ls' := [true, true, true, true, true, true, true, false, false]) rfl rfl ?_
            refine O.callg [.slice (A3) ((L).length) (c3)] rfl en74 rfl rfl (skeysOf_fn A3 c3 L w7a (hM7a.rd 1 rfl) (by omega)) ?_
            rintro _ w7_1 ⟨A17_1, c17_1, rfl, hR7_1⟩
            have hM7_1 : Mem w w7_1 [(Value.slice (A) ((l).length) (c)).ownBlock] [[⟨.slice (A17_1) ((keysP L).length) (c17_1), 3, 1, ((keysP L).length), (keysP L).map I⟩], [⟨.slice (A16_8) ((keysP L).length) (c16_8), 3, 1, ((keysP L).length), (keysP L).map I⟩], [⟨.slice (A3) ((L).length) (c3), 53, 2, ((L).length), (L).flatMap encP⟩]] := Mem.call (Ma := []) hM7a hR7_1 rfl
            have hcr7_1_0 := (hM7_1.cap 0 rfl).1
            refine O.stop (hM7_1.pick [1, 2] (by decide) rfl) ?_
            refine AO.one 7 (by kernel_rfl) ?_
            refine step1 (ls' := [true, true, true, true, true, true, true, true, false]) rfl rfl ?_
            refine O.callg [.slice (A17_1) ((keysP L).length) (c17_1), I (((g)[i]'hx7_4).key)] rfl en76 rfl rfl (sbelow_fn A17_1 c17_1 (keysP L) (((g)[i]'hx7_4).key) w7_1 (hM7_1.rd 0 rfl) (by simp; omega)) ?_
            rintro _ w7_7 ⟨rfl, hR7_7⟩
            have hM7_7 : Mem w w7_7 [(Value.slice (A) ((l).length) (c)).ownBlock] [[⟨.slice (A17_1) ((keysP L).length) (c17_1), 3, 1, ((keysP L).length), (keysP L).map I⟩], [⟨.slice (A16_8) ((keysP L).length) (c16_8), 3, 1, ((keysP L).length), (keysP L).map I⟩], [⟨.slice (A3) ((L).length) (c3), 53, 2, ((L).length), (L).flatMap encP⟩]] := Mem.call (Ma := []) hM7_1 hR7_7 rfl
            refine O.stop (hM7_7.pick [1, 2] (by decide) rfl) ?_
            refine AO.val (v := I ((below (keysP L) (((g)[i]'hx7_4).key) : Int))) 8 (ls' := [true, true, true, true, true, true, true, true, true]) rfl (by kernel_rfl) rfl rfl (fun w2 hw2 => Ru.assign rfl) rfl ?_
            refine AO.nil (by kernel_rfl) ?_
            exact cutEnd () (Has.cons rfl (Has.cons rfl (Has.cons rfl (Has.cons (I_congr (by first | rfl | omega | (simp; omega) | simp)) Has.nil)))) (hM7_7.pick [1, 2] (by decide) rfl)
          · try dsimp only at hI
            have hM_r7 := hI
            have hcl0_r7 := (hM_r7.cap 0 rfl).1
            have hcl1_r7 := (hM_r7.cap 1 rfl).1
            have hpl := plc_le L (g[i]'hig).key
            refine C.any (f := 10) (ls := [false, false, false, false, false, false, false, false, false, false]) (fun w2 => Mem w w2 [(Value.slice (A) ((l).length) (c)).ownBlock] [[⟨.slice (A16_8) ((keysP L).length) (c16_8), 3, 1, ((keysP L).length), (keysP L).map I⟩], [⟨.slice (A3) ((L).length) (c3), 53, 2, ((L).length), (L).flatMap encP⟩]]) mixed rfl rfl (fun w2 hw2 => Mem0.ext (hM_r7.pick [0, 1] (by decide) rfl) hw2) (fun w8a hE8a => ?_)
            have hM8a : Mem w w8a [(Value.slice (A) ((l).length) (c)).ownBlock] [[⟨.slice (A16_8) ((keysP L).length) (c16_8), 3, 1, ((keysP L).length), (keysP L).map I⟩], [⟨.slice (A3) ((L).length) (c3), 53, 2, ((L).length), (L).flatMap encP⟩]] := Mem0.ext hM_r7 hE8a
            refine AO.val (v := .slice (A3) ((L).length) (c3)) 0 (ls' := [true, false, false, false, false, false, false, false, false, false]) rfl (by kernel_rfl) rfl rfl (fun w2 hw2 => Ru.move rfl) rfl ?_
            refine AO.val (v := I (((plc L (g[i]'hig).key : Nat) : Int))) 1 (ls' := [true, true, false, false, false, false, false, false, false, false]) rfl (by kernel_rfl) rfl rfl (fun w2 hw2 => Ru.move rfl) rfl ?_
            have hcp8_2 := hM8a.cap 1 rfl
            refine AO.val (v := .slice (A3) (((L).take (plc L (g[i]'hig).key)).length) (c3)) 2 (ls' := [true, true, true, false, false, false, false, false, false, false]) rfl (by kernel_rfl) rfl rfl (fun w2 hw2 => Ru.congr (v := .slice (A3) (plc L (g[i]'hig).key) (c3)) (v' := .slice (A3) (((L).take (plc L (g[i]'hig).key)).length) (c3)) (Ru.lsliceTo (h := plc L (g[i]'hig).key) Try.underlying36 el53 rfl rfl (by omega) (by omega)) (sl_congr (by first | rfl | (simp; done) | omega | (simp; omega)))) rfl ?_
            refine AO.val (v := .slice (A3) ((L).length) (c3)) 4 (ls' := [true, true, true, false, true, false, false, false, false, false]) rfl (by kernel_rfl) rfl rfl (fun w2 hw2 => Ru.move rfl) rfl ?_
            refine AO.val (v := I (((plc L (g[i]'hig).key : Nat) : Int))) 5 (ls' := [true, true, true, false, true, true, false, false, false, false]) rfl (by kernel_rfl) rfl rfl (fun w2 hw2 => Ru.move rfl) rfl ?_
            refine AO.val (v := I ((((plc L (g[i]'hig).key + 1) : Nat) : Int))) 6 (ls' := [true, true, true, false, true, true, true, false, false, false]) rfl (by kernel_rfl) rfl rfl (fun w2 hw2 => Ru.congr (v := I ((((plc L (g[i]'hig).key : Nat) : Int) + 1))) (v' := I ((((plc L (g[i]'hig).key + 1) : Nat) : Int))) (Ru.add rfl rfl (by omega)) (I_congr (by first | omega | simp))) rfl ?_
            have hcp8_7 := hM8a.cap 1 rfl
            refine AO.val (v := .slice (if c3 = (plc L (g[i]'hig).key + 1) then A3 else ofs (A3) ((plc L (g[i]'hig).key + 1) * 2)) (((L).drop ((plc L (g[i]'hig).key + 1))).length) (c3 - (plc L (g[i]'hig).key + 1))) 7 (ls' := [true, true, true, false, true, true, true, true, false, false]) rfl (by kernel_rfl) rfl rfl (fun w2 hw2 => Ru.congr (v := .slice (if c3 = (plc L (g[i]'hig).key + 1) then A3 else ofs (A3) ((plc L (g[i]'hig).key + 1) * 2)) (((L).length) - (plc L (g[i]'hig).key + 1)) (c3 - (plc L (g[i]'hig).key + 1))) (v' := .slice (if c3 = (plc L (g[i]'hig).key + 1) then A3 else ofs (A3) ((plc L (g[i]'hig).key + 1) * 2)) (((L).drop ((plc L (g[i]'hig).key + 1))).length) (c3 - (plc L (g[i]'hig).key + 1))) (Ru.lsliceFrom (l := (plc L (g[i]'hig).key + 1)) Try.underlying36 el53 rfl rfl (by omega) (by omega)) (sl_congr (by first | rfl | (simp; done) | omega | (simp; omega)))) rfl ?_
            refine AO.one 3 (by kernel_rfl) ?_
            refine step1 (ls' := [true, true, true, true, true, true, true, true, false, false]) rfl rfl ?_
            refine O.callg [.slice (A3) (((L).take (plc L (g[i]'hig).key)).length) (c3)] rfl en67 rfl rfl (scopyRow_fn A3 c3 ((L).take (plc L (g[i]'hig).key)) w8a (rd_takeN encP_len (hM8a.rd 1 rfl)) (by simp; omega)) ?_
            rintro _ w8_3 ⟨A18_3, c18_3, rfl, hR8_3⟩
            have hM8_3 : Mem w w8_3 [(Value.slice (A) ((l).length) (c)).ownBlock] [[⟨.slice (A18_3) ((((L).take (plc L (g[i]'hig).key))).length) (c18_3), 53, 2, ((((L).take (plc L (g[i]'hig).key))).length), (((L).take (plc L (g[i]'hig).key))).flatMap encP⟩], [⟨.slice (A16_8) ((keysP L).length) (c16_8), 3, 1, ((keysP L).length), (keysP L).map I⟩], [⟨.slice (A3) ((L).length) (c3), 53, 2, ((L).length), (L).flatMap encP⟩]] := Mem.call (Ma := []) hM8a hR8_3 rfl
            have hcr8_3_0 := (hM8_3.cap 0 rfl).1
            refine O.stop (hM8_3.pick [1, 2] (by decide) rfl) ?_
            refine AO.one 8 (by kernel_rfl) ?_
            refine step1 (ls' := [true, true, true, true, true, true, true, true, true, false]) rfl rfl ?_
            refine O.mappend (sz := 2) (news := ((L).drop ((plc L (g[i]'hig).key + 1))).flatMap encP) (m1 := (((L).take (plc L (g[i]'hig).key)) ++ (L).drop ((plc L (g[i]'hig).key + 1))).length) (xs1 := (((L).take (plc L (g[i]'hig).key)) ++ (L).drop ((plc L (g[i]'hig).key + 1))).flatMap encP) (M' := fun A8_8 c8_8 => [[⟨.slice (A8_8) ((((L).take (plc L (g[i]'hig).key)) ++ (L).drop ((plc L (g[i]'hig).key + 1))).length) (c8_8), 53, 2, ((((L).take (plc L (g[i]'hig).key)) ++ (L).drop ((plc L (g[i]'hig).key + 1))).length), (((L).take (plc L (g[i]'hig).key)) ++ (L).drop ((plc L (g[i]'hig).key + 1))).flatMap encP⟩], [⟨.slice (A16_8) ((keysP L).length) (c16_8), 3, 1, ((keysP L).length), (keysP L).map I⟩], [⟨.slice (A3) ((L).length) (c3), 53, 2, ((L).length), (L).flatMap encP⟩]]) 0 0 hM8_3 rfl rfl rfl Try.underlying36 el53 ⟨rfl, by decide⟩ rfl rfl rfl (rd_dropN encP_len (hM8_3.rd 2 rfl) (by first | omega | (simp; omega)) (by first | omega | (simp; omega))) (by rw [flat_len encP_len]; first | done | (simp; done) | (simp; omega)) (all_flat_one (fun _ => rfl) _) (by first | omega | (simp; omega)) (by first | omega | (simp; omega)) (by first | (simp; done) | (simp; omega)) (by simp) (fun _ _ => rfl) (fun w8_8 A8_8 c8_8 hc8_8 hM8_8 => ?_)
            try dsimp only at hM8_8
            refine O.stop (hM8_8.pick [1, 2] (by decide) rfl) ?_
            refine AO.val (v := .slice (A8_8) ((((L).take (plc L (g[i]'hig).key)) ++ (L).drop ((plc L (g[i]'hig).key + 1))).length) (c8_8)) 9 (ls' := [true, true, true, true, true, true, true, true, true, true]) rfl (by kernel_rfl) rfl rfl (fun w2 hw2 => Ru.assign rfl) rfl ?_
            refine AO.nil (by kernel_rfl) ?_
            refine C.region ?_
            refine O.val (v := I (((i : Nat) : Int))) rfl (Ru.move rfl) rfl ?_
            refine O.val (v := I ((((i + 1) : Nat) : Int))) rfl (Ru.congr (v := I ((((i : Nat) : Int) + 1))) (v' := I ((((i + 1) : Nat) : Int))) (Ru.add rfl rfl (by omega)) (I_congr (by first | omega | simp))) rfl ?_
            refine O.val (v := I ((((i + 1) : Nat) : Int))) rfl (Ru.assign rfl) rfl ?_
            refine O.nil ?_
            have hq4 : (((L).take (plc L (g[i]'hig).key)) ++ (L).drop ((plc L (g[i]'hig).key + 1)) : List PairT) = runR l (g.take (i + 1)) := (by rw [runR_take hig]; exact rep_s3 hi0_c18 (by simpa using g38) hin)
            have hMn4 : Mem w w8_8 [(Value.slice (A) ((l).length) (c)).ownBlock] [[⟨.slice (A8_8) ((runR l (g.take (i + 1))).length) (c8_8), 53, 2, ((runR l (g.take (i + 1))).length), (runR l (g.take (i + 1))).flatMap encP⟩], [⟨.slice (A16_8) ((keysP L).length) (c16_8), 3, 1, ((keysP L).length), (keysP L).map I⟩], [⟨.slice (A3) ((L).length) (c3), 53, 2, ((L).length), (L).flatMap encP⟩]] := hM8_8.relen 0 (n' := (runR l (g.take (i + 1))).length) (xs' := (runR l (g.take (i + 1))).flatMap encP) rfl (by first | rfl | exact congrArg List.length hq4 | (have hqq := congrArg List.length hq4; first | omega | (simp at hqq ⊢; omega)) | (simp; done) | (simp; omega)) (congrArg (fun z_ => (z_).flatMap encP) hq4) rfl
            simp only [blkQ]
            exact loopEnd (i + 1, A8_8, c8_8) (by (try dsimp only); omega) (Has.cons (sl_congr (by first | rfl | omega | (simp; done) | (simp; omega) | exact congrArg List.length hq4 | (simp [← hq4]; done) | (simp [← hq4]; omega))) (Has.cons rfl (Has.cons (I_congr (by first | rfl | omega | (simp; omega) | simp)) Has.nil))) ⟨(by (try dsimp only); omega), (hMn4.pick [0] (by decide) rfl)⟩
        · refine C.skip ?_
          refine C.region ?_
          refine O.val (v := I (((i : Nat) : Int))) rfl (Ru.move rfl) rfl ?_
          refine O.val (v := I ((((i + 1) : Nat) : Int))) rfl (Ru.congr (v := I ((((i : Nat) : Int) + 1))) (v' := I ((((i + 1) : Nat) : Int))) (Ru.add rfl rfl (by omega)) (I_congr (by first | omega | simp))) rfl ?_
          refine O.val (v := I ((((i + 1) : Nat) : Int))) rfl (Ru.assign rfl) rfl ?_
          refine O.nil ?_
          have hq5 : (L : List PairT) = runR l (g.take (i + 1)) := (by rw [runR_take hig]; first | exact rep_s1 hi0_c18 (by simpa using g38) | exact rep_s2 hi0_c18 (by simpa using g38) (by simpa using c47))
          have hMn5 : Mem w w6_14 [(Value.slice (A) ((l).length) (c)).ownBlock] [[⟨.slice (A16_8) ((keysP L).length) (c16_8), 3, 1, ((keysP L).length), (keysP L).map I⟩], [⟨.slice (A3) ((runR l (g.take (i + 1))).length) (c3), 53, 2, ((runR l (g.take (i + 1))).length), (runR l (g.take (i + 1))).flatMap encP⟩]] := hM6_14.relen 1 (n' := (runR l (g.take (i + 1))).length) (xs' := (runR l (g.take (i + 1))).flatMap encP) rfl (by first | rfl | exact congrArg List.length hq5 | (have hqq := congrArg List.length hq5; first | omega | (simp at hqq ⊢; omega)) | (simp; done) | (simp; omega)) (congrArg (fun z_ => (z_).flatMap encP) hq5) rfl
          simp only [blkQ]
          exact loopEnd (i + 1, A3, c3) (by (try dsimp only); omega) (Has.cons (sl_congr (by first | rfl | omega | (simp; done) | (simp; omega) | exact congrArg List.length hq5 | (simp [← hq5]; done) | (simp [← hq5]; omega))) (Has.cons rfl (Has.cons (I_congr (by first | rfl | omega | (simp; omega) | simp)) Has.nil))) ⟨(by (try dsimp only); omega), (hMn5.pick [1] (by decide) rfl)⟩
      · refine AO.pass 7 (ls' := [true, true, true, true, true, true, true, true, false, false, false, false, false, false, false, false]) rfl (by kernel_rfl) rfl rfl rfl rfl rfl rfl ?_
        refine AO.pass 8 (ls' := [true, true, true, true, true, true, true, true, true, false, false, false, false, false, false, false]) rfl (by kernel_rfl) rfl rfl rfl rfl rfl rfl ?_
        refine AO.pass 9 (ls' := [true, true, true, true, true, true, true, true, true, true, false, false, false, false, false, false]) rfl (by kernel_rfl) rfl rfl rfl rfl rfl rfl ?_
        refine AO.pass 10 (ls' := [true, true, true, true, true, true, true, true, true, true, true, false, false, false, false, false]) rfl (by kernel_rfl) rfl rfl rfl rfl rfl rfl ?_
        refine AO.pass 11 (ls' := [true, true, true, true, true, true, true, true, true, true, true, true, false, false, false, false]) rfl (by kernel_rfl) rfl rfl rfl rfl rfl rfl ?_
        refine AO.pass 12 (ls' := [true, true, true, true, true, true, true, true, true, true, true, true, true, false, false, false]) rfl (by kernel_rfl) rfl rfl rfl rfl rfl rfl ?_
        refine AO.pass 13 (ls' := [true, true, true, true, true, true, true, true, true, true, true, true, true, true, false, false]) rfl (by kernel_rfl) rfl rfl rfl rfl rfl rfl ?_
        refine AO.pass 14 (ls' := [true, true, true, true, true, true, true, true, true, true, true, true, true, true, true, false]) rfl (by kernel_rfl) rfl rfl rfl rfl rfl rfl ?_
        refine AO.val (v := .bool (false)) 15 (ls' := [true, true, true, true, true, true, true, true, true, true, true, true, true, true, true, true]) rfl (by kernel_rfl) rfl rfl (fun w2 hw2 => Ru.pickF rfl rfl) rfl ?_
        refine AO.nil (by kernel_rfl) ?_
        refine C.condF rfl ?_
        refine C.skip ?_
        refine C.region ?_
        refine O.val (v := I (((i : Nat) : Int))) rfl (Ru.move rfl) rfl ?_
        refine O.val (v := I ((((i + 1) : Nat) : Int))) rfl (Ru.congr (v := I ((((i : Nat) : Int) + 1))) (v' := I ((((i + 1) : Nat) : Int))) (Ru.add rfl rfl (by omega)) (I_congr (by first | omega | simp))) rfl ?_
        refine O.val (v := I ((((i + 1) : Nat) : Int))) rfl (Ru.assign rfl) rfl ?_
        refine O.nil ?_
        have hq6 : (L : List PairT) = runR l (g.take (i + 1)) := (by rw [runR_take hig]; first | exact rep_s1 hi0_c18 (by simpa using g38) | exact rep_s2 hi0_c18 (by simpa using g38) (by simpa using c47))
        have hMn6 : Mem w w6a [(Value.slice (A) ((l).length) (c)).ownBlock] [[⟨.slice (A3) ((runR l (g.take (i + 1))).length) (c3), 53, 2, ((runR l (g.take (i + 1))).length), (runR l (g.take (i + 1))).flatMap encP⟩]] := hM6a.relen 0 (n' := (runR l (g.take (i + 1))).length) (xs' := (runR l (g.take (i + 1))).flatMap encP) rfl (by first | rfl | exact congrArg List.length hq6 | (have hqq := congrArg List.length hq6; first | omega | (simp at hqq ⊢; omega)) | (simp; done) | (simp; omega)) (congrArg (fun z_ => (z_).flatMap encP) hq6) rfl
        simp only [blkQ]
        exact loopEnd (i + 1, A3, c3) (by (try dsimp only); omega) (Has.cons (sl_congr (by first | rfl | omega | (simp; done) | (simp; omega) | exact congrArg List.length hq6 | (simp [← hq6]; done) | (simp [← hq6]; omega))) (Has.cons rfl (Has.cons (I_congr (by first | rfl | omega | (simp; omega) | simp)) Has.nil))) ⟨(by (try dsimp only); omega), (hMn6.pick [0] (by decide) rfl)⟩
  · refine C.exit ?_
    refine C.seq ?_
    refine C.region ?_
    refine O.val (v := .slice (A2) ((runR l (g.take i)).length) (c2)) rfl (Ru.move rfl) rfl ?_
    refine O.val (v := .slice (A2) ((runR l (g.take i)).length) (c2)) rfl (Ru.assign rfl) rfl ?_
    refine O.nil ?_
    refine C.ret ?_
    refine P1 (v := .slice (A2) ((runR l (g.take i)).length) (c2)) rfl ?_
    have hiq : g.take i = g := take_all (by omega)
    have hq7 : (runR l (g.take i) : List PairT) = runR l g := (by rw [hiq])
    have hMn7 : Mem w w_l2 [(Value.slice (A) ((l).length) (c)).ownBlock] [[⟨.slice (A2) ((runR l g).length) (c2), 53, 2, ((runR l g).length), (runR l g).flatMap encP⟩]] := hM_l2.relen 0 (n' := (runR l g).length) (xs' := (runR l g).flatMap encP) rfl (by first | rfl | exact congrArg List.length hq7 | (have hqq := congrArg List.length hq7; first | omega | (simp at hqq ⊢; omega)) | (simp; done) | (simp; omega)) (congrArg (fun z_ => (z_).flatMap encP) hq7) rfl
    exact ⟨A2, c2, (by rw [hiq]), (hMn7.pick [0] (by decide) rfl)⟩

theorem sReplayLog_fn (A : Option Addr) (c : Nat) (l : List PairT) (B : Option Addr) (d : Nat) (g : List RecT) (w : World) (hA : Rd w A ((l).flatMap encP)) (hB : Rd w B ((g).flatMap encG)) (hl : l.length ≤ 1048576) (hg : g.length ≤ 1048576) (hgc : g.length ≤ d) :
    Does Try.prog 40 [.slice (A) ((l).length) (c), .slice (B) ((g).length) (d)] w (fun v w1 => ∃ (A1 : Option Addr) (c1 : Nat), v = .tuple #[.slice (A1) (((repF l g).getD []).length) (c1), .bool ((repF l g).isSome)] ∧ Mem w w1 [] [[⟨.slice (A1) (((repF l g).getD []).length) (c1), 53, 2, (((repF l g).getD []).length), ((repF l g).getD []).flatMap encP⟩]]) := by
  have hM : Mem w w [] [] := Mem.refl
  refine Does.enter2 Try.func40 rfl Try.results40 Try.ntmps40 rfl ?_
  refine C.seq ?_
  refine C.region ?_
  refine O.val (v := .slice (none) (0) (0)) rfl (Ru.assign rfl) rfl ?_
  refine O.val (v := .bool (false)) rfl (Ru.assign rfl) rfl ?_
  refine O.nil ?_
  refine C.seq ?_
  refine C.seq ?_
  refine C.region ?_
  refine O.val (v := .slice (A) ((l).length) (c)) rfl (Ru.move rfl) rfl ?_
  refine O.callg [.slice (A) ((l).length) (c)] rfl en56 rfl rfl (validRow_fn A c l w (hA.at hM) (by first | omega | assumption | (simp; omega) | simp | (intros; omega))) ?_
  rintro _ w1_1 ⟨rfl, hR1_1⟩
  have hM1_1 : Mem w w1_1 [] [] := Mem.call (Ma := []) hM hR1_1 rfl
  refine O.val (v := .bool (!(validR l))) rfl (Ru.not rfl) rfl ?_
  refine O.val (v := .bool (!(validR l))) rfl (Ru.move rfl) rfl ?_
  refine O.part 10 (!(validR l)) rfl (fun g10 => ?_) (fun g10 => ?_)
  · refine O.pass rfl rfl rfl rfl rfl ?_
    refine O.pass rfl rfl rfl rfl rfl ?_
    refine O.pass rfl rfl rfl rfl rfl ?_
    refine O.val (v := .bool (true)) rfl (Ru.pickT rfl rfl) rfl ?_
    refine O.nil ?_
    refine C.condT rfl ?_
    refine C.seq ?_
    refine C.region ?_
    refine O.val (v := .slice (none) (0) (0)) rfl (Ru.assign rfl) rfl ?_
    refine O.val (v := .bool (false)) rfl (Ru.assign rfl) rfl ?_
    refine O.nil ?_
    refine C.ret ?_
    refine P2 (v := .slice (none) (0) (0)) (v' := .bool (false)) rfl rfl ?_
    have hn : repF l g = none := rep_no (by cases hx : validR l <;> simp_all)
    have hMn1 : Mem w w1_1 [] [[⟨.slice (none) (0) (0), 53, 2, 0, ([]).flatMap encP⟩]] := Mem.addNil hM1_1
    have hq2 : ([] : List PairT) = (repF l g).getD [] := (by rw [hn]; rfl)
    have hMn2 : Mem w w1_1 [] [[⟨.slice (none) (((repF l g).getD []).length) (0), 53, 2, (((repF l g).getD []).length), ((repF l g).getD []).flatMap encP⟩]] := hMn1.relen 0 (n' := ((repF l g).getD []).length) (xs' := ((repF l g).getD []).flatMap encP) rfl (by first | rfl | exact congrArg List.length hq2 | (have hqq := congrArg List.length hq2; first | omega | (simp at hqq ⊢; omega)) | (simp; done) | (simp; omega)) (congrArg (fun z_ => (z_).flatMap encP) hq2) rfl
    exact ⟨none, 0, (by rw [hn]; rfl), (hMn2.pick [0] (by decide) rfl)⟩
  · refine O.val (v := .slice (B) ((g).length) (d)) rfl (Ru.move rfl) rfl ?_
    refine O.callg [.slice (B) ((g).length) (d)] rfl en48 rfl rfl (svalidLog_fn B d g w1_1 (hB.at hM1_1) (by first | omega | assumption | (simp; omega) | simp | (intros; omega))) ?_
    rintro _ w1_5 ⟨rfl, hR1_5⟩
    have hM1_5 : Mem w w1_5 [] [] := Mem.call (Ma := []) hM1_1 hR1_5 rfl
    refine O.val (v := .bool (!(validL g))) rfl (Ru.not rfl) rfl ?_
    refine O.val (v := .bool (!(validL g))) rfl (Ru.pickF rfl rfl) rfl ?_
    refine O.nil ?_
    refine C.condn (b := (validL g)) rfl (fun c14 => ?_) (fun c14 => ?_)
    · refine C.seq ?_
      refine C.region ?_
      refine O.val (v := .slice (none) (0) (0)) rfl (Ru.assign rfl) rfl ?_
      refine O.val (v := .bool (false)) rfl (Ru.assign rfl) rfl ?_
      refine O.nil ?_
      refine C.ret ?_
      refine P2 (v := .slice (none) (0) (0)) (v' := .bool (false)) rfl rfl ?_
      have hn : repF l g = none := rep_no (by cases hx : validR l <;> simp_all)
      have hMn3 : Mem w w1_5 [] [[⟨.slice (none) (0) (0), 53, 2, 0, ([]).flatMap encP⟩]] := Mem.addNil hM1_5
      have hq4 : ([] : List PairT) = (repF l g).getD [] := (by rw [hn]; rfl)
      have hMn4 : Mem w w1_5 [] [[⟨.slice (none) (((repF l g).getD []).length) (0), 53, 2, (((repF l g).getD []).length), ((repF l g).getD []).flatMap encP⟩]] := hMn3.relen 0 (n' := ((repF l g).getD []).length) (xs' := ((repF l g).getD []).flatMap encP) rfl (by first | rfl | exact congrArg List.length hq4 | (have hqq := congrArg List.length hq4; first | omega | (simp at hqq ⊢; omega)) | (simp; done) | (simp; omega)) (congrArg (fun z_ => (z_).flatMap encP) hq4) rfl
      exact ⟨none, 0, (by rw [hn]; rfl), (hMn4.pick [0] (by decide) rfl)⟩
    · have hvl : validR l = true := by simp_all
      have hvg : validL g = true := by simp_all
      have hll := validR_len hvl
      have hml := lastMk_le g
      have hgl := (validL_iff.1 hvg).1
      have hrm := run_marked l g
      have hrv := run_valid (l := l) hvl (rs := markP g) (fun r hr => (validL_iff.1 hvg).2 r (markP_mem hr))
      refine C.skip ?_
      refine C.seq ?_
      refine C.region ?_
      refine O.val (v := .slice (A) ((l).length) (c)) rfl (Ru.move rfl) rfl ?_
      refine O.callg [.slice (A) ((l).length) (c)] rfl en67 rfl rfl (scopyRow_fn A c l w1_5 (hA.at hM1_5) (by first | omega | assumption | (simp; omega) | simp | (intros; omega))) ?_
      rintro _ w3_1 ⟨A13_1, c13_1, rfl, hR3_1⟩
      have hM3_1 : Mem w w3_1 [] [[⟨.slice (A13_1) ((l).length) (c13_1), 53, 2, ((l).length), (l).flatMap encP⟩]] := Mem.call (Ma := []) hM1_5 hR3_1 rfl
      have hcr3_1_0 := (hM3_1.cap 0 rfl).1
      refine O.val (v := .slice (B) ((g).length) (d)) rfl (Ru.move rfl) rfl ?_
      refine O.val (v := .slice (B) ((g).length) (d)) rfl (Ru.move rfl) rfl ?_
      refine O.callg [.slice (B) ((g).length) (d)] rfl en52 rfl rfl (slastMark_fn B d g w3_1 (hB.at hM3_1) (by first | omega | assumption | (simp; omega) | simp | (intros; omega))) ?_
      rintro _ w3_4 ⟨rfl, hR3_4⟩
      have hM3_4 : Mem w w3_4 [] [[⟨.slice (A13_1) ((l).length) (c13_1), 53, 2, ((l).length), (l).flatMap encP⟩]] := Mem.call (Ma := []) hM3_1 hR3_4 rfl
      refine O.val (v := .slice (B) (((g).take (lastMk g)).length) (d)) rfl (Ru.congr (v := .slice (B) (lastMk g) (d)) (v' := .slice (B) (((g).take (lastMk g)).length) (d)) (Ru.lsliceTo (h := lastMk g) Try.underlying23 el34 rfl rfl (by omega) (by omega)) (sl_congr (by first | rfl | (simp; done) | omega | (simp; omega)))) rfl ?_
      refine O.callg [.slice (A13_1) ((l).length) (c13_1), .slice (B) (((g).take (lastMk g)).length) (d)] rfl en66 rfl rfl (sreplay_fn A13_1 c13_1 l B d ((g).take (lastMk g)) w3_4 (rd_takeN encG_len (hB.at hM3_4)) (Mem.off_old hM3_4 (rd_takeN (k := lastMk g) encG_len hB) 0 rfl) (Mem.focus (Ma := [[⟨.slice (A13_1) ((l).length) (c13_1), 53, 2, ((l).length), (l).flatMap encP⟩]]) (rest := []) hM3_4 rfl) (by omega) (by simp; omega) (by exact validR_asc hvl)) ?_
      rintro _ w3_6 ⟨A13_6, c13_6, rfl, hR3_6⟩
      have hM3_6 : Mem w w3_6 [] [[⟨.slice (A13_6) ((runR l ((g).take (lastMk g))).length) (c13_6), 53, 2, ((runR l ((g).take (lastMk g))).length), (runR l ((g).take (lastMk g))).flatMap encP⟩]] := Mem.call (Ma := [[⟨.slice (A13_1) ((l).length) (c13_1), 53, 2, ((l).length), (l).flatMap encP⟩]]) hM3_4 hR3_6 rfl
      have hcr3_6_0 := (hM3_6.cap 0 rfl).1
      refine O.val (v := .slice (A13_6) ((runR l ((g).take (lastMk g))).length) (c13_6)) rfl (Ru.assign rfl) rfl ?_
      refine O.nil ?_
      refine C.seq ?_
      refine C.seq ?_
      refine C.region ?_
      refine O.val (v := .slice (A13_6) ((runR l ((g).take (lastMk g))).length) (c13_6)) rfl (Ru.move rfl) rfl ?_
      refine O.callg [.slice (A13_6) ((runR l ((g).take (lastMk g))).length) (c13_6)] rfl en56 rfl rfl (validRow_fn A13_6 c13_6 (runR l ((g).take (lastMk g))) w3_6 (hM3_6.rd 0 rfl) (by have := run_len (g.take (lastMk g)) l; rw [List.length_take] at this; omega)) ?_
      rintro _ w4_1 ⟨rfl, hR4_1⟩
      have hM4_1 : Mem w w4_1 [] [[⟨.slice (A13_6) ((runR l ((g).take (lastMk g))).length) (c13_6), 53, 2, ((runR l ((g).take (lastMk g))).length), (runR l ((g).take (lastMk g))).flatMap encP⟩]] := Mem.call (Ma := []) hM3_6 hR4_1 rfl
      refine O.val (v := .bool (!(validR (runR l ((g).take (lastMk g)))))) rfl (Ru.not rfl) rfl ?_
      refine O.nil ?_
      refine C.condn (b := (validR (runR l ((g).take (lastMk g))))) rfl (fun c24 => ?_) (fun c24 => ?_)
      · refine C.seq ?_
        refine C.region ?_
        refine O.val (v := .slice (none) (0) (0)) rfl (Ru.assign rfl) rfl ?_
        refine O.val (v := .bool (false)) rfl (Ru.assign rfl) rfl ?_
        refine O.nil ?_
        refine C.ret ?_
        refine P2 (v := .slice (none) (0) (0)) (v' := .bool (false)) rfl rfl ?_
        have hn : repF l g = none := rep_big (by rw [hrm, hrv] at c24; simpa using c24)
        have hMn5 : Mem w w4_1 [] [[⟨.slice (none) (0) (0), 53, 2, 0, ([]).flatMap encP⟩], [⟨.slice (A13_6) ((runR l ((g).take (lastMk g))).length) (c13_6), 53, 2, ((runR l ((g).take (lastMk g))).length), (runR l ((g).take (lastMk g))).flatMap encP⟩]] := Mem.addNil hM4_1
        have hq6 : ([] : List PairT) = (repF l g).getD [] := (by rw [hn]; rfl)
        have hMn6 : Mem w w4_1 [] [[⟨.slice (none) (((repF l g).getD []).length) (0), 53, 2, (((repF l g).getD []).length), ((repF l g).getD []).flatMap encP⟩], [⟨.slice (A13_6) ((runR l ((g).take (lastMk g))).length) (c13_6), 53, 2, ((runR l ((g).take (lastMk g))).length), (runR l ((g).take (lastMk g))).flatMap encP⟩]] := hMn5.relen 0 (n' := ((repF l g).getD []).length) (xs' := ((repF l g).getD []).flatMap encP) rfl (by first | rfl | exact congrArg List.length hq6 | (have hqq := congrArg List.length hq6; first | omega | (simp at hqq ⊢; omega)) | (simp; done) | (simp; omega)) (congrArg (fun z_ => (z_).flatMap encP) hq6) rfl
        exact ⟨none, 0, (by rw [hn]; rfl), (hMn6.pick [0] (by decide) rfl)⟩
      · refine C.skip ?_
        refine C.seq ?_
        refine C.region ?_
        refine O.val (v := .slice (A13_6) ((runR l ((g).take (lastMk g))).length) (c13_6)) rfl (Ru.move rfl) rfl ?_
        refine O.val (v := .slice (A13_6) ((runR l ((g).take (lastMk g))).length) (c13_6)) rfl (Ru.assign rfl) rfl ?_
        refine O.val (v := .bool (true)) rfl (Ru.assign rfl) rfl ?_
        refine O.nil ?_
        refine C.ret ?_
        refine P2 (v := .slice (A13_6) ((runR l ((g).take (lastMk g))).length) (c13_6)) (v' := .bool (true)) rfl rfl ?_
        have hn := rep_yes hvl hvg (by rw [hrm, hrv] at c24; simpa using c24)
        have hq7 : (runR l ((g).take (lastMk g)) : List PairT) = (repF l g).getD [] := (by rw [hn, hrm]; rfl)
        have hMn7 : Mem w w4_1 [] [[⟨.slice (A13_6) (((repF l g).getD []).length) (c13_6), 53, 2, (((repF l g).getD []).length), ((repF l g).getD []).flatMap encP⟩]] := hM4_1.relen 0 (n' := ((repF l g).getD []).length) (xs' := ((repF l g).getD []).flatMap encP) rfl (by first | rfl | exact congrArg List.length hq7 | (have hqq := congrArg List.length hq7; first | omega | (simp at hqq ⊢; omega)) | (simp; done) | (simp; omega)) (congrArg (fun z_ => (z_).flatMap encP) hq7) rfl
        exact ⟨A13_6, c13_6, (by rw [hn, hrm]; rfl), (hMn7.pick [0] (by decide) rfl)⟩

theorem lwith_fn (A : Option Addr) (c : Nat) (l : List PairT) (x : PairT) (w : World) (hA : Rd w A ((l).flatMap encP)) (hl : l.length ≤ 1000) (ha : asc (keysP l) = true) :
    Does Try.prog 42 [.slice (A) ((l).length) (c), .agg #[I ((x).key), I ((x).val)]] w (fun v w1 => ∃ (A1 : Option Addr) (c1 : Nat), v = .slice (A1) ((putP l x).length) (c1) ∧ Mem w w1 [] [[⟨.slice (A1) ((putP l x).length) (c1), 53, 2, ((putP l x).length), (putP l x).flatMap encP⟩]]) := by
  have hM : Mem w w [] [] := Mem.refl
  refine Does.enter1 Try.func42 rfl Try.results42 Try.ntmps42 rfl ?_
  refine C.seq ?_
  refine C.region ?_
  refine O.mbox (k := 2) (vs := [I ((x).key), I ((x).val)]) hM rfl rfl rfl rfl rfl (fun w0_0 b0_0 hb0_0 (hM0_0 : Mem w w0_0 [] [[⟨.slice (bl b0_0) 1 1, 53, 2, 1, [I ((x).key), I ((x).val)]⟩]]) => ?_)
  refine O.val (v := .slice (none) (0) (0)) rfl (Ru.assign rfl) rfl ?_
  refine O.nil ?_
  refine C.seq ?_
  refine C.region ?_
  refine O.mlit (sz := 2) (cs := []) hM0_0 rfl Try.underlying36 el53 rfl rfl rfl (by kernel_rfl) (by kernel_rfl) rfl rfl (fun w1_0 b1_0 hb1_0 (hM1_0 : Mem w w1_0 [] [[⟨.slice (bl b1_0) (0) (0), 53, 2, 0, ([]).flatMap encP⟩], [⟨.slice (bl b0_0) 1 1, 53, 2, 1, [I ((x).key), I ((x).val)]⟩]]) => ?_)
  refine O.val (v := .slice (bl b1_0) (0) (0)) rfl (Ru.assign rfl) rfl ?_
  refine O.nil ?_
  refine C.seq ?_
  refine C.region ?_
  refine O.val (v := .bool (false)) rfl (Ru.assign rfl) rfl ?_
  refine O.nil ?_
  refine C.seq ?_
  refine C.seq ?_
  refine C.region ?_
  refine O.val (v := I (0)) rfl (Ru.assign rfl) rfl ?_
  refine O.nil ?_
  refine C.block ?_
  have hq1 : ([] : List PairT) = ([] : List PairT) := (by first | rfl | simp | (simp; omega))
  have hMn1 : Mem w w1_0 [] [[⟨.slice (bl b1_0) ((([] : List PairT)).length) (0), 53, 2, ((([] : List PairT)).length), (([] : List PairT)).flatMap encP⟩], [⟨.slice (bl b0_0) 1 1, 53, 2, 1, [I ((x).key), I ((x).val)]⟩]] := hM1_0.relen 0 (n' := (([] : List PairT)).length) (xs' := (([] : List PairT)).flatMap encP) rfl (by first | rfl | exact congrArg List.length hq1 | (have hqq := congrArg List.length hq1; first | omega | (simp at hqq ⊢; omega)) | (simp; done) | (simp; omega)) (congrArg (fun z_ => (z_).flatMap encP) hq1) rfl
  refine C.loop (ι := Nat × (List PairT) × Bool × (Option Addr) × Nat) (fun x_ => ([(0, .slice (A) ((l).length) (c)), (3, .pointer (ofs (bl b0_0) (0))), (5, .slice (x_.2.2.2.1) ((x_.2.1).length) (x_.2.2.2.2)), (6, .bool (x_.2.2.1)), (7, I (((x_.1 : Nat) : Int)))] : List (Nat × Value))) (fun x_ w_ => (x_.1 ≤ l.length) ∧ (x_.2.1 = (withS (l.take x_.1) x).1 ∧ x_.2.2.1 = (withS (l.take x_.1) x).2) ∧ (Mem w w_ [] [[⟨.slice (x_.2.2.2.1) ((x_.2.1).length) (x_.2.2.2.2), 53, 2, ((x_.2.1).length), (x_.2.1).flatMap encP⟩], [⟨.slice (bl b0_0) 1 1, 53, 2, 1, [I ((x).key), I ((x).val)]⟩]])) (fun x_ => l.length - x_.1) (0, ([] : List PairT), false, bl b1_0, 0) (Has.cons rfl (Has.cons rfl (Has.cons (sl_congr (by first | rfl | omega | (simp; done) | (simp; omega) | exact congrArg List.length hq1 | (simp [← hq1]; done) | (simp [← hq1]; omega))) (Has.cons rfl (Has.cons (I_congr (by first | rfl | omega | (simp; omega) | simp)) Has.nil))))) ⟨(Nat.zero_le _), (by (try dsimp only); simp [withS]), (hMn1.pick [0, 1] (by decide) rfl)⟩ (fun ⟨k, o, b, A2, c2⟩ σ w_l4 hI => ?_)
  try dsimp only at hI
  obtain ⟨hi0_l4, hi1_l4, hM_l4⟩ := hI
  have hcl0_l4 := (hM_l4.cap 0 rfl).1
  have hol := withS_len (l := l) (x := x) k hi0_l4
  rw [← hi1_l4.1] at hol
  refine C.seq ?_
  refine C.seq ?_
  refine C.region ?_
  refine O.val (v := I (((k : Nat) : Int))) rfl (Ru.move rfl) rfl ?_
  refine O.val (v := .slice (A) ((l).length) (c)) rfl (Ru.move rfl) rfl ?_
  refine O.val (v := I ((((l).length : Nat) : Int))) rfl (Ru.blenSlice Try.underlying36 rfl) rfl ?_
  refine O.val (v := .bool (decide (((k : Nat) : Int) < (((l).length : Nat) : Int)))) rfl (Ru.lss rfl rfl) rfl ?_
  refine O.nil ?_
  refine C.cond (p := ((k : Nat) : Int) < (((l).length : Nat) : Int)) rfl (fun c12 => ?_) (fun c12 => ?_)
  · have hkl : k < l.length := by omega
    refine C.skip ?_
    refine C.seq ?_
    refine C.block ?_
    refine C.seq ?_
    refine C.seq ?_
    refine C.draws (fun w2 => Mem w w2 [] [[⟨.slice (A2) ((o).length) (c2), 53, 2, ((o).length), (o).flatMap encP⟩], [⟨.slice (bl b0_0) 1 1, 53, 2, 1, [I ((x).key), I ((x).val)]⟩]]) mixed (by kernel_rfl) (hM_l4.ext (kdrawn _)) ?_
    refine QO.val (v := .bool (b)) rfl (fun w2 hw2 => Ru.move rfl) rfl ?_
    refine QO.val (v := .bool (!b)) rfl (fun w2 hw2 => Ru.not rfl) rfl ?_
    refine QO.val (v := .bool (!b)) rfl (fun w2 hw2 => Ru.move rfl) rfl ?_
    refine QO.part 17 (!b) rfl (fun g17 => ?_) (fun g17 => ?_)
    · refine QO.val (v := .slice (A) ((l).length) (c)) rfl (fun w2 hw2 => Ru.move rfl) rfl ?_
      refine QO.val (v := I (((k : Nat) : Int))) rfl (fun w2 hw2 => Ru.move rfl) rfl ?_
      have hx6_5 : k < (l).length := (by first | omega | (simp; omega))
      refine QO.val (v := .pointer (ofs (A) (k * 2))) rfl (fun w2 hw2 => Ru.indexA (j := k) Try.underlying36 el53 rfl rfl (smf encP_len (hA.at hw2) hx6_5 rfl) (by omega) (by first | omega | (simp; omega))) rfl ?_
      refine QO.val (v := .pointer (ofs (A) (k * 2 + 0))) rfl (fun w2 hw2 => Ru.fieldA fl53_0 rfl (smf encP_len (hA.at hw2) hx6_5 rfl)) rfl ?_
      refine QO.val rfl (fun w2 hw2 => Ru.load1 el3 rfl (ldf encP_len (hA.at hw2) hx6_5 rfl)) rfl ?_
      refine QO.val (v := .pointer (ofs (bl b0_0) (0))) rfl (fun w2 hw2 => Ru.fieldA fl53_0 rfl rfl) rfl ?_
      refine QO.val rfl (fun w2 hw2 => Ru.load1 el3 rfl ((hw2.rd 1 rfl).ld rfl)) rfl ?_
      refine QO.val (v := .bool (decide (((l)[k]'hx6_5).key ≥ (x).key))) rfl (fun w2 hw2 => Ru.geq rfl rfl) rfl ?_
      refine QO.val (v := .bool (decide (((l)[k]'hx6_5).key ≥ (x).key))) rfl (fun w2 hw2 => Ru.pickT rfl rfl) rfl ?_
      refine QO.nil ?_
      intro w6d hM6d
      refine C.cond (p := ((l)[k]'hx6_5).key ≥ (x).key) rfl (fun c26 => ?_) (fun c26 => ?_)
      · refine C.seq ?_
        refine C.region ?_
        refine O.val (v := .slice (A2) ((o).length) (c2)) rfl (Ru.move rfl) rfl ?_
        refine O.val rfl (Ru.loadN (vs := [I ((x).key), I ((x).val)]) el53 rfl rfl rfl ((mem_blk (i := 1) (j := 0) hM6d rfl rfl).lds (k := 0) rfl)) rfl ?_
        refine O.mlit (sz := 2) (cs := [I ((x).key), I ((x).val)]) hM6d rfl Try.underlying36 el53 rfl rfl rfl (by kernel_rfl) (by kernel_rfl) rfl rfl (fun w7_2 b7_2 hb7_2 (hM7_2 : Mem w w7_2 [] [[⟨.slice (bl b7_2) (1) (1), 53, 2, 1, ([x]).flatMap encP⟩], [⟨.slice (A2) ((o).length) (c2), 53, 2, ((o).length), (o).flatMap encP⟩], [⟨.slice (bl b0_0) 1 1, 53, 2, 1, [I ((x).key), I ((x).val)]⟩]]) => ?_)
        refine O.mappend (sz := 2) (news := ([x]).flatMap encP) (m1 := (o ++ [x]).length) (xs1 := (o ++ [x]).flatMap encP) (M' := fun A7_3 c7_3 => [[⟨.slice (bl b7_2) (1) (1), 53, 2, 1, ([x]).flatMap encP⟩], [⟨.slice (A7_3) ((o ++ [x]).length) (c7_3), 53, 2, ((o ++ [x]).length), (o ++ [x]).flatMap encP⟩], [⟨.slice (bl b0_0) 1 1, 53, 2, 1, [I ((x).key), I ((x).val)]⟩]]) 1 0 hM7_2 rfl rfl rfl Try.underlying36 el53 ⟨rfl, by decide⟩ rfl rfl rfl (hM7_2.rd 0 rfl) (by rw [flat_len encP_len]; first | done | (simp; done) | (simp; omega)) (all_flat_one (fun _ => rfl) _) (by first | omega | (simp; omega)) (by first | omega | (simp; omega)) (by first | (simp; done) | (simp; omega)) (by simp) (fun _ _ => rfl) (fun w7_3 A7_3 c7_3 hc7_3 hM7_3 => ?_)
        try dsimp only at hM7_3
        refine O.val (v := .slice (A7_3) ((o ++ [x]).length) (c7_3)) rfl (Ru.assign rfl) rfl ?_
        refine O.nil ?_
        refine C.region ?_
        refine O.val (v := .bool (true)) rfl (Ru.assign rfl) rfl ?_
        refine O.nil ?_
        refine C.seq ?_
        refine C.draws (fun w2 => Mem w w2 [] [[⟨.slice (bl b7_2) (1) (1), 53, 2, 1, ([x]).flatMap encP⟩], [⟨.slice (A7_3) ((o ++ [x]).length) (c7_3), 53, 2, ((o ++ [x]).length), (o ++ [x]).flatMap encP⟩], [⟨.slice (bl b0_0) 1 1, 53, 2, 1, [I ((x).key), I ((x).val)]⟩]]) mixed (by kernel_rfl) (hM7_3.ext (kdrawn _)) ?_
        refine QO.val (v := .slice (A) ((l).length) (c)) rfl (fun w2 hw2 => Ru.move rfl) rfl ?_
        refine QO.val (v := I (((k : Nat) : Int))) rfl (fun w2 hw2 => Ru.move rfl) rfl ?_
        have hx9_2 : k < (l).length := (by first | omega | (simp; omega))
        refine QO.val (v := .pointer (ofs (A) (k * 2))) rfl (fun w2 hw2 => Ru.indexA (j := k) Try.underlying36 el53 rfl rfl (smf encP_len (hA.at hw2) hx9_2 rfl) (by omega) (by first | omega | (simp; omega))) rfl ?_
        refine QO.val (v := .pointer (ofs (A) (k * 2 + 0))) rfl (fun w2 hw2 => Ru.fieldA fl53_0 rfl (smf encP_len (hA.at hw2) hx9_2 rfl)) rfl ?_
        refine QO.val rfl (fun w2 hw2 => Ru.load1 el3 rfl (ldf encP_len (hA.at hw2) hx9_2 rfl)) rfl ?_
        refine QO.val (v := .pointer (ofs (bl b0_0) (0))) rfl (fun w2 hw2 => Ru.fieldA fl53_0 rfl rfl) rfl ?_
        refine QO.val rfl (fun w2 hw2 => Ru.load1 el3 rfl ((hw2.rd 2 rfl).ld rfl)) rfl ?_
        refine QO.val (v := .bool (decide (((l)[k]'hx9_2).key ≠ (x).key))) rfl (fun w2 hw2 => Ru.neq rfl rfl) rfl ?_
        refine QO.nil ?_
        intro w9d hM9d
        refine C.cond (p := ((l)[k]'hx9_2).key ≠ (x).key) rfl (fun c38 => ?_) (fun c38 => ?_)
        · refine C.region ?_
          refine O.val (v := .slice (A7_3) ((o ++ [x]).length) (c7_3)) rfl (Ru.move rfl) rfl ?_
          refine O.val (v := .slice (A) ((l).length) (c)) rfl (Ru.move rfl) rfl ?_
          refine O.val (v := I (((k : Nat) : Int))) rfl (Ru.move rfl) rfl ?_
          have hx10_3 : k < (l).length := (by first | omega | (simp; omega))
          refine O.val (v := .pointer (ofs (A) (k * 2))) rfl (Ru.indexA (j := k) Try.underlying36 el53 rfl rfl (smf encP_len (hA.at hM9d) hx10_3 rfl) (by omega) (by first | omega | (simp; omega))) rfl ?_
          refine O.val rfl (Ru.loadN (vs := [I (((l)[k]'hx10_3).key), I (((l)[k]'hx10_3).val)]) el53 rfl rfl (smf encP_len (hA.at hM9d) hx10_3 rfl) (ldn encP_len (hA.at hM9d) hx10_3)) rfl ?_
          refine O.mlit (sz := 2) (cs := [I (((l)[k]'hx10_3).key), I (((l)[k]'hx10_3).val)]) hM9d rfl Try.underlying36 el53 rfl rfl rfl (by kernel_rfl) (by kernel_rfl) rfl rfl (fun w10_5 b10_5 hb10_5 (hM10_5 : Mem w w10_5 [] [[⟨.slice (bl b10_5) (1) (1), 53, 2, 1, ([(l)[k]'hx10_3]).flatMap encP⟩], [⟨.slice (bl b7_2) (1) (1), 53, 2, 1, ([x]).flatMap encP⟩], [⟨.slice (A7_3) ((o ++ [x]).length) (c7_3), 53, 2, ((o ++ [x]).length), (o ++ [x]).flatMap encP⟩], [⟨.slice (bl b0_0) 1 1, 53, 2, 1, [I ((x).key), I ((x).val)]⟩]]) => ?_)
          refine O.mappend (sz := 2) (news := ([(l)[k]'hx10_3]).flatMap encP) (m1 := (o ++ [x] ++ [(l)[k]'hx10_3]).length) (xs1 := (o ++ [x] ++ [(l)[k]'hx10_3]).flatMap encP) (M' := fun A10_6 c10_6 => [[⟨.slice (bl b10_5) (1) (1), 53, 2, 1, ([(l)[k]'hx10_3]).flatMap encP⟩], [⟨.slice (bl b7_2) (1) (1), 53, 2, 1, ([x]).flatMap encP⟩], [⟨.slice (A10_6) ((o ++ [x] ++ [(l)[k]'hx10_3]).length) (c10_6), 53, 2, ((o ++ [x] ++ [(l)[k]'hx10_3]).length), (o ++ [x] ++ [(l)[k]'hx10_3]).flatMap encP⟩], [⟨.slice (bl b0_0) 1 1, 53, 2, 1, [I ((x).key), I ((x).val)]⟩]]) 2 0 hM10_5 rfl rfl rfl Try.underlying36 el53 ⟨rfl, by decide⟩ rfl rfl rfl (hM10_5.rd 0 rfl) (by rw [flat_len encP_len]; first | done | (simp; done) | (simp; omega)) (all_flat_one (fun _ => rfl) _) (by first | omega | (simp; omega)) (by first | omega | (simp; omega)) (by first | (simp; done) | (simp; omega)) (by simp) (fun _ _ => rfl) (fun w10_6 A10_6 c10_6 hc10_6 hM10_6 => ?_)
          try dsimp only at hM10_6
          refine O.val (v := .slice (A10_6) ((o ++ [x] ++ [(l)[k]'hx10_3]).length) (c10_6)) rfl (Ru.assign rfl) rfl ?_
          refine O.nil ?_
          refine C.region ?_
          refine O.val (v := I (((k : Nat) : Int))) rfl (Ru.move rfl) rfl ?_
          refine O.val (v := I ((((k + 1) : Nat) : Int))) rfl (Ru.congr (v := I ((((k : Nat) : Int) + 1))) (v' := I ((((k + 1) : Nat) : Int))) (Ru.add rfl rfl (by omega)) (I_congr (by first | omega | simp))) rfl ?_
          refine O.val (v := I ((((k + 1) : Nat) : Int))) rfl (Ru.assign rfl) rfl ?_
          refine O.nil ?_
          have hq2 : (o ++ [x] ++ [(l)[k]'hx10_3] : List PairT) = (o ++ [x] ++ [(l)[k]'hx10_3]) := (by first | rfl | simp | (simp; omega))
          have hMn2 : Mem w w10_6 [] [[⟨.slice (bl b10_5) (1) (1), 53, 2, 1, ([(l)[k]'hx10_3]).flatMap encP⟩], [⟨.slice (bl b7_2) (1) (1), 53, 2, 1, ([x]).flatMap encP⟩], [⟨.slice (A10_6) (((o ++ [x] ++ [(l)[k]'hx10_3])).length) (c10_6), 53, 2, (((o ++ [x] ++ [(l)[k]'hx10_3])).length), ((o ++ [x] ++ [(l)[k]'hx10_3])).flatMap encP⟩], [⟨.slice (bl b0_0) 1 1, 53, 2, 1, [I ((x).key), I ((x).val)]⟩]] := hM10_6.relen 2 (n' := ((o ++ [x] ++ [(l)[k]'hx10_3])).length) (xs' := ((o ++ [x] ++ [(l)[k]'hx10_3])).flatMap encP) rfl (by first | rfl | exact congrArg List.length hq2 | (have hqq := congrArg List.length hq2; first | omega | (simp at hqq ⊢; omega)) | (simp; done) | (simp; omega)) (congrArg (fun z_ => (z_).flatMap encP) hq2) rfl
          simp only [blkQ]
          exact loopEnd (k + 1, o ++ [x] ++ [(l)[k]'hx10_3], true, A10_6, c10_6) (by (try dsimp only); omega) (Has.cons rfl (Has.cons rfl (Has.cons rfl (Has.cons rfl (Has.cons (I_congr (by first | rfl | omega | (simp; omega) | simp)) Has.nil))))) ⟨(by (try dsimp only); omega), (by (try dsimp only); rw [withS_take hkl, stepW_1 hi1_l4.1 hi1_l4.2]; first | (simp [g17, c26, c38]; done) | (simp [g17, c38]; done) | simp_all), (hMn2.pick [2, 3] (by decide) rfl)⟩
        · refine C.skip ?_
          refine C.region ?_
          refine O.val (v := I (((k : Nat) : Int))) rfl (Ru.move rfl) rfl ?_
          refine O.val (v := I ((((k + 1) : Nat) : Int))) rfl (Ru.congr (v := I ((((k : Nat) : Int) + 1))) (v' := I ((((k + 1) : Nat) : Int))) (Ru.add rfl rfl (by omega)) (I_congr (by first | omega | simp))) rfl ?_
          refine O.val (v := I ((((k + 1) : Nat) : Int))) rfl (Ru.assign rfl) rfl ?_
          refine O.nil ?_
          have hq3 : (o ++ [x] : List PairT) = (o ++ [x]) := (by first | rfl | simp | (simp; omega))
          have hMn3 : Mem w w9d [] [[⟨.slice (bl b7_2) (1) (1), 53, 2, 1, ([x]).flatMap encP⟩], [⟨.slice (A7_3) (((o ++ [x])).length) (c7_3), 53, 2, (((o ++ [x])).length), ((o ++ [x])).flatMap encP⟩], [⟨.slice (bl b0_0) 1 1, 53, 2, 1, [I ((x).key), I ((x).val)]⟩]] := hM9d.relen 1 (n' := ((o ++ [x])).length) (xs' := ((o ++ [x])).flatMap encP) rfl (by first | rfl | exact congrArg List.length hq3 | (have hqq := congrArg List.length hq3; first | omega | (simp at hqq ⊢; omega)) | (simp; done) | (simp; omega)) (congrArg (fun z_ => (z_).flatMap encP) hq3) rfl
          simp only [blkQ]
          exact loopEnd (k + 1, o ++ [x], true, A7_3, c7_3) (by (try dsimp only); omega) (Has.cons rfl (Has.cons rfl (Has.cons rfl (Has.cons rfl (Has.cons (I_congr (by first | rfl | omega | (simp; omega) | simp)) Has.nil))))) ⟨(by (try dsimp only); omega), (by (try dsimp only); rw [withS_take hkl, stepW_1 hi1_l4.1 hi1_l4.2]; first | (simp [g17, c26, c38]; done) | (simp [g17, c38]; done) | simp_all), (hMn3.pick [1, 2] (by decide) rfl)⟩
      · refine C.skip ?_
        refine C.seq ?_
        refine C.draws (fun w2 => Mem w w2 [] [[⟨.slice (A2) ((o).length) (c2), 53, 2, ((o).length), (o).flatMap encP⟩], [⟨.slice (bl b0_0) 1 1, 53, 2, 1, [I ((x).key), I ((x).val)]⟩]]) mixed (by kernel_rfl) (hM6d.ext (kdrawn _)) ?_
        refine QO.val (v := .slice (A) ((l).length) (c)) rfl (fun w2 hw2 => Ru.move rfl) rfl ?_
        refine QO.val (v := I (((k : Nat) : Int))) rfl (fun w2 hw2 => Ru.move rfl) rfl ?_
        have hx9_2 : k < (l).length := (by first | omega | (simp; omega))
        refine QO.val (v := .pointer (ofs (A) (k * 2))) rfl (fun w2 hw2 => Ru.indexA (j := k) Try.underlying36 el53 rfl rfl (smf encP_len (hA.at hw2) hx9_2 rfl) (by omega) (by first | omega | (simp; omega))) rfl ?_
        refine QO.val (v := .pointer (ofs (A) (k * 2 + 0))) rfl (fun w2 hw2 => Ru.fieldA fl53_0 rfl (smf encP_len (hA.at hw2) hx9_2 rfl)) rfl ?_
        refine QO.val rfl (fun w2 hw2 => Ru.load1 el3 rfl (ldf encP_len (hA.at hw2) hx9_2 rfl)) rfl ?_
        refine QO.val (v := .pointer (ofs (bl b0_0) (0))) rfl (fun w2 hw2 => Ru.fieldA fl53_0 rfl rfl) rfl ?_
        refine QO.val rfl (fun w2 hw2 => Ru.load1 el3 rfl ((hw2.rd 1 rfl).ld rfl)) rfl ?_
        refine QO.val (v := .bool (decide (((l)[k]'hx9_2).key ≠ (x).key))) rfl (fun w2 hw2 => Ru.neq rfl rfl) rfl ?_
        refine QO.nil ?_
        intro w9d hM9d
        refine C.cond (p := ((l)[k]'hx9_2).key ≠ (x).key) rfl (fun c38 => ?_) (fun c38 => ?_)
        · refine C.region ?_
          refine O.val (v := .slice (A2) ((o).length) (c2)) rfl (Ru.move rfl) rfl ?_
          refine O.val (v := .slice (A) ((l).length) (c)) rfl (Ru.move rfl) rfl ?_
          refine O.val (v := I (((k : Nat) : Int))) rfl (Ru.move rfl) rfl ?_
          have hx10_3 : k < (l).length := (by first | omega | (simp; omega))
          refine O.val (v := .pointer (ofs (A) (k * 2))) rfl (Ru.indexA (j := k) Try.underlying36 el53 rfl rfl (smf encP_len (hA.at hM9d) hx10_3 rfl) (by omega) (by first | omega | (simp; omega))) rfl ?_
          refine O.val rfl (Ru.loadN (vs := [I (((l)[k]'hx10_3).key), I (((l)[k]'hx10_3).val)]) el53 rfl rfl (smf encP_len (hA.at hM9d) hx10_3 rfl) (ldn encP_len (hA.at hM9d) hx10_3)) rfl ?_
          refine O.mlit (sz := 2) (cs := [I (((l)[k]'hx10_3).key), I (((l)[k]'hx10_3).val)]) hM9d rfl Try.underlying36 el53 rfl rfl rfl (by kernel_rfl) (by kernel_rfl) rfl rfl (fun w10_5 b10_5 hb10_5 (hM10_5 : Mem w w10_5 [] [[⟨.slice (bl b10_5) (1) (1), 53, 2, 1, ([(l)[k]'hx10_3]).flatMap encP⟩], [⟨.slice (A2) ((o).length) (c2), 53, 2, ((o).length), (o).flatMap encP⟩], [⟨.slice (bl b0_0) 1 1, 53, 2, 1, [I ((x).key), I ((x).val)]⟩]]) => ?_)
          refine O.mappend (sz := 2) (news := ([(l)[k]'hx10_3]).flatMap encP) (m1 := (o ++ [(l)[k]'hx10_3]).length) (xs1 := (o ++ [(l)[k]'hx10_3]).flatMap encP) (M' := fun A10_6 c10_6 => [[⟨.slice (bl b10_5) (1) (1), 53, 2, 1, ([(l)[k]'hx10_3]).flatMap encP⟩], [⟨.slice (A10_6) ((o ++ [(l)[k]'hx10_3]).length) (c10_6), 53, 2, ((o ++ [(l)[k]'hx10_3]).length), (o ++ [(l)[k]'hx10_3]).flatMap encP⟩], [⟨.slice (bl b0_0) 1 1, 53, 2, 1, [I ((x).key), I ((x).val)]⟩]]) 1 0 hM10_5 rfl rfl rfl Try.underlying36 el53 ⟨rfl, by decide⟩ rfl rfl rfl (hM10_5.rd 0 rfl) (by rw [flat_len encP_len]; first | done | (simp; done) | (simp; omega)) (all_flat_one (fun _ => rfl) _) (by first | omega | (simp; omega)) (by first | omega | (simp; omega)) (by first | (simp; done) | (simp; omega)) (by simp) (fun _ _ => rfl) (fun w10_6 A10_6 c10_6 hc10_6 hM10_6 => ?_)
          try dsimp only at hM10_6
          refine O.val (v := .slice (A10_6) ((o ++ [(l)[k]'hx10_3]).length) (c10_6)) rfl (Ru.assign rfl) rfl ?_
          refine O.nil ?_
          refine C.region ?_
          refine O.val (v := I (((k : Nat) : Int))) rfl (Ru.move rfl) rfl ?_
          refine O.val (v := I ((((k + 1) : Nat) : Int))) rfl (Ru.congr (v := I ((((k : Nat) : Int) + 1))) (v' := I ((((k + 1) : Nat) : Int))) (Ru.add rfl rfl (by omega)) (I_congr (by first | omega | simp))) rfl ?_
          refine O.val (v := I ((((k + 1) : Nat) : Int))) rfl (Ru.assign rfl) rfl ?_
          refine O.nil ?_
          have hq4 : (o ++ [(l)[k]'hx10_3] : List PairT) = (o ++ [(l)[k]'hx10_3]) := (by first | rfl | simp | (simp; omega))
          have hMn4 : Mem w w10_6 [] [[⟨.slice (bl b10_5) (1) (1), 53, 2, 1, ([(l)[k]'hx10_3]).flatMap encP⟩], [⟨.slice (A10_6) (((o ++ [(l)[k]'hx10_3])).length) (c10_6), 53, 2, (((o ++ [(l)[k]'hx10_3])).length), ((o ++ [(l)[k]'hx10_3])).flatMap encP⟩], [⟨.slice (bl b0_0) 1 1, 53, 2, 1, [I ((x).key), I ((x).val)]⟩]] := hM10_6.relen 1 (n' := ((o ++ [(l)[k]'hx10_3])).length) (xs' := ((o ++ [(l)[k]'hx10_3])).flatMap encP) rfl (by first | rfl | exact congrArg List.length hq4 | (have hqq := congrArg List.length hq4; first | omega | (simp at hqq ⊢; omega)) | (simp; done) | (simp; omega)) (congrArg (fun z_ => (z_).flatMap encP) hq4) rfl
          simp only [blkQ]
          exact loopEnd (k + 1, o ++ [(l)[k]'hx10_3], b, A10_6, c10_6) (by (try dsimp only); omega) (Has.cons rfl (Has.cons rfl (Has.cons rfl (Has.cons rfl (Has.cons (I_congr (by first | rfl | omega | (simp; omega) | simp)) Has.nil))))) ⟨(by (try dsimp only); omega), (by (try dsimp only); rw [withS_take hkl, stepW_1 hi1_l4.1 hi1_l4.2]; first | (simp [g17, c26, c38]; done) | (simp [g17, c38]; done) | simp_all), (hMn4.pick [1, 2] (by decide) rfl)⟩
        · refine C.skip ?_
          refine C.region ?_
          refine O.val (v := I (((k : Nat) : Int))) rfl (Ru.move rfl) rfl ?_
          refine O.val (v := I ((((k + 1) : Nat) : Int))) rfl (Ru.congr (v := I ((((k : Nat) : Int) + 1))) (v' := I ((((k + 1) : Nat) : Int))) (Ru.add rfl rfl (by omega)) (I_congr (by first | omega | simp))) rfl ?_
          refine O.val (v := I ((((k + 1) : Nat) : Int))) rfl (Ru.assign rfl) rfl ?_
          refine O.nil ?_
          simp only [blkQ]
          exact loopEnd (k + 1, o, b, A2, c2) (by (try dsimp only); omega) (Has.cons rfl (Has.cons rfl (Has.cons rfl (Has.cons rfl (Has.cons (I_congr (by first | rfl | omega | (simp; omega) | simp)) Has.nil))))) ⟨(by (try dsimp only); omega), (by (try dsimp only); rw [withS_take hkl, stepW_1 hi1_l4.1 hi1_l4.2]; first | (simp [g17, c26, c38]; done) | (simp [g17, c38]; done) | simp_all), (hM9d.pick [0, 1] (by decide) rfl)⟩
    · refine QO.pass rfl rfl rfl rfl rfl ?_
      refine QO.pass rfl rfl rfl rfl rfl ?_
      refine QO.pass rfl rfl rfl rfl rfl ?_
      refine QO.pass rfl rfl rfl rfl rfl ?_
      refine QO.pass rfl rfl rfl rfl rfl ?_
      refine QO.pass rfl rfl rfl rfl rfl ?_
      refine QO.pass rfl rfl rfl rfl rfl ?_
      refine QO.pass rfl rfl rfl rfl rfl ?_
      refine QO.val (v := .bool (false)) rfl (fun w2 hw2 => Ru.pickF rfl rfl) rfl ?_
      refine QO.nil ?_
      intro w6d hM6d
      refine C.condF rfl ?_
      refine C.skip ?_
      refine C.seq ?_
      refine C.draws (fun w2 => Mem w w2 [] [[⟨.slice (A2) ((o).length) (c2), 53, 2, ((o).length), (o).flatMap encP⟩], [⟨.slice (bl b0_0) 1 1, 53, 2, 1, [I ((x).key), I ((x).val)]⟩]]) mixed (by kernel_rfl) (hM6d.ext (kdrawn _)) ?_
      refine QO.val (v := .slice (A) ((l).length) (c)) rfl (fun w2 hw2 => Ru.move rfl) rfl ?_
      refine QO.val (v := I (((k : Nat) : Int))) rfl (fun w2 hw2 => Ru.move rfl) rfl ?_
      have hx9_2 : k < (l).length := (by first | omega | (simp; omega))
      refine QO.val (v := .pointer (ofs (A) (k * 2))) rfl (fun w2 hw2 => Ru.indexA (j := k) Try.underlying36 el53 rfl rfl (smf encP_len (hA.at hw2) hx9_2 rfl) (by omega) (by first | omega | (simp; omega))) rfl ?_
      refine QO.val (v := .pointer (ofs (A) (k * 2 + 0))) rfl (fun w2 hw2 => Ru.fieldA fl53_0 rfl (smf encP_len (hA.at hw2) hx9_2 rfl)) rfl ?_
      refine QO.val rfl (fun w2 hw2 => Ru.load1 el3 rfl (ldf encP_len (hA.at hw2) hx9_2 rfl)) rfl ?_
      refine QO.val (v := .pointer (ofs (bl b0_0) (0))) rfl (fun w2 hw2 => Ru.fieldA fl53_0 rfl rfl) rfl ?_
      refine QO.val rfl (fun w2 hw2 => Ru.load1 el3 rfl ((hw2.rd 1 rfl).ld rfl)) rfl ?_
      refine QO.val (v := .bool (decide (((l)[k]'hx9_2).key ≠ (x).key))) rfl (fun w2 hw2 => Ru.neq rfl rfl) rfl ?_
      refine QO.nil ?_
      intro w9d hM9d
      refine C.cond (p := ((l)[k]'hx9_2).key ≠ (x).key) rfl (fun c38 => ?_) (fun c38 => ?_)
      · refine C.region ?_
        refine O.val (v := .slice (A2) ((o).length) (c2)) rfl (Ru.move rfl) rfl ?_
        refine O.val (v := .slice (A) ((l).length) (c)) rfl (Ru.move rfl) rfl ?_
        refine O.val (v := I (((k : Nat) : Int))) rfl (Ru.move rfl) rfl ?_
        have hx10_3 : k < (l).length := (by first | omega | (simp; omega))
        refine O.val (v := .pointer (ofs (A) (k * 2))) rfl (Ru.indexA (j := k) Try.underlying36 el53 rfl rfl (smf encP_len (hA.at hM9d) hx10_3 rfl) (by omega) (by first | omega | (simp; omega))) rfl ?_
        refine O.val rfl (Ru.loadN (vs := [I (((l)[k]'hx10_3).key), I (((l)[k]'hx10_3).val)]) el53 rfl rfl (smf encP_len (hA.at hM9d) hx10_3 rfl) (ldn encP_len (hA.at hM9d) hx10_3)) rfl ?_
        refine O.mlit (sz := 2) (cs := [I (((l)[k]'hx10_3).key), I (((l)[k]'hx10_3).val)]) hM9d rfl Try.underlying36 el53 rfl rfl rfl (by kernel_rfl) (by kernel_rfl) rfl rfl (fun w10_5 b10_5 hb10_5 (hM10_5 : Mem w w10_5 [] [[⟨.slice (bl b10_5) (1) (1), 53, 2, 1, ([(l)[k]'hx10_3]).flatMap encP⟩], [⟨.slice (A2) ((o).length) (c2), 53, 2, ((o).length), (o).flatMap encP⟩], [⟨.slice (bl b0_0) 1 1, 53, 2, 1, [I ((x).key), I ((x).val)]⟩]]) => ?_)
        refine O.mappend (sz := 2) (news := ([(l)[k]'hx10_3]).flatMap encP) (m1 := (o ++ [(l)[k]'hx10_3]).length) (xs1 := (o ++ [(l)[k]'hx10_3]).flatMap encP) (M' := fun A10_6 c10_6 => [[⟨.slice (bl b10_5) (1) (1), 53, 2, 1, ([(l)[k]'hx10_3]).flatMap encP⟩], [⟨.slice (A10_6) ((o ++ [(l)[k]'hx10_3]).length) (c10_6), 53, 2, ((o ++ [(l)[k]'hx10_3]).length), (o ++ [(l)[k]'hx10_3]).flatMap encP⟩], [⟨.slice (bl b0_0) 1 1, 53, 2, 1, [I ((x).key), I ((x).val)]⟩]]) 1 0 hM10_5 rfl rfl rfl Try.underlying36 el53 ⟨rfl, by decide⟩ rfl rfl rfl (hM10_5.rd 0 rfl) (by rw [flat_len encP_len]; first | done | (simp; done) | (simp; omega)) (all_flat_one (fun _ => rfl) _) (by first | omega | (simp; omega)) (by first | omega | (simp; omega)) (by first | (simp; done) | (simp; omega)) (by simp) (fun _ _ => rfl) (fun w10_6 A10_6 c10_6 hc10_6 hM10_6 => ?_)
        try dsimp only at hM10_6
        refine O.val (v := .slice (A10_6) ((o ++ [(l)[k]'hx10_3]).length) (c10_6)) rfl (Ru.assign rfl) rfl ?_
        refine O.nil ?_
        refine C.region ?_
        refine O.val (v := I (((k : Nat) : Int))) rfl (Ru.move rfl) rfl ?_
        refine O.val (v := I ((((k + 1) : Nat) : Int))) rfl (Ru.congr (v := I ((((k : Nat) : Int) + 1))) (v' := I ((((k + 1) : Nat) : Int))) (Ru.add rfl rfl (by omega)) (I_congr (by first | omega | simp))) rfl ?_
        refine O.val (v := I ((((k + 1) : Nat) : Int))) rfl (Ru.assign rfl) rfl ?_
        refine O.nil ?_
        have hq5 : (o ++ [(l)[k]'hx10_3] : List PairT) = (o ++ [(l)[k]'hx10_3]) := (by first | rfl | simp | (simp; omega))
        have hMn5 : Mem w w10_6 [] [[⟨.slice (bl b10_5) (1) (1), 53, 2, 1, ([(l)[k]'hx10_3]).flatMap encP⟩], [⟨.slice (A10_6) (((o ++ [(l)[k]'hx10_3])).length) (c10_6), 53, 2, (((o ++ [(l)[k]'hx10_3])).length), ((o ++ [(l)[k]'hx10_3])).flatMap encP⟩], [⟨.slice (bl b0_0) 1 1, 53, 2, 1, [I ((x).key), I ((x).val)]⟩]] := hM10_6.relen 1 (n' := ((o ++ [(l)[k]'hx10_3])).length) (xs' := ((o ++ [(l)[k]'hx10_3])).flatMap encP) rfl (by first | rfl | exact congrArg List.length hq5 | (have hqq := congrArg List.length hq5; first | omega | (simp at hqq ⊢; omega)) | (simp; done) | (simp; omega)) (congrArg (fun z_ => (z_).flatMap encP) hq5) rfl
        simp only [blkQ]
        exact loopEnd (k + 1, o ++ [(l)[k]'hx10_3], b, A10_6, c10_6) (by (try dsimp only); omega) (Has.cons rfl (Has.cons rfl (Has.cons rfl (Has.cons rfl (Has.cons (I_congr (by first | rfl | omega | (simp; omega) | simp)) Has.nil))))) ⟨(by (try dsimp only); omega), (by (try dsimp only); rw [withS_take hkl, stepW_1 hi1_l4.1 hi1_l4.2]; first | (simp [g17, c26, c38]; done) | (simp [g17, c38]; done) | simp_all), (hMn5.pick [1, 2] (by decide) rfl)⟩
      · refine C.skip ?_
        refine C.region ?_
        refine O.val (v := I (((k : Nat) : Int))) rfl (Ru.move rfl) rfl ?_
        refine O.val (v := I ((((k + 1) : Nat) : Int))) rfl (Ru.congr (v := I ((((k : Nat) : Int) + 1))) (v' := I ((((k + 1) : Nat) : Int))) (Ru.add rfl rfl (by omega)) (I_congr (by first | omega | simp))) rfl ?_
        refine O.val (v := I ((((k + 1) : Nat) : Int))) rfl (Ru.assign rfl) rfl ?_
        refine O.nil ?_
        simp only [blkQ]
        exact loopEnd (k + 1, o, b, A2, c2) (by (try dsimp only); omega) (Has.cons rfl (Has.cons rfl (Has.cons rfl (Has.cons rfl (Has.cons (I_congr (by first | rfl | omega | (simp; omega) | simp)) Has.nil))))) ⟨(by (try dsimp only); omega), (by (try dsimp only); rw [withS_take hkl, stepW_1 hi1_l4.1 hi1_l4.2]; first | (simp [g17, c26, c38]; done) | (simp [g17, c38]; done) | simp_all), (hM9d.pick [0, 1] (by decide) rfl)⟩
  · have hkq : l.take k = l := take_all (by omega)
    rw [hkq] at hi1_l4
    refine C.exit ?_
    refine C.seq ?_
    refine C.seq ?_
    refine C.region ?_
    refine O.val (v := .bool (b)) rfl (Ru.move rfl) rfl ?_
    refine O.val (v := .bool (!b)) rfl (Ru.not rfl) rfl ?_
    refine O.nil ?_
    refine C.condn (b := b) rfl (fun c47 => ?_) (fun c47 => ?_)
    · refine C.region ?_
      refine O.val (v := .slice (A2) ((o).length) (c2)) rfl (Ru.move rfl) rfl ?_
      refine O.val rfl (Ru.loadN (vs := [I ((x).key), I ((x).val)]) el53 rfl rfl rfl ((mem_blk (i := 1) (j := 0) hM_l4 rfl rfl).lds (k := 0) rfl)) rfl ?_
      refine O.mlit (sz := 2) (cs := [I ((x).key), I ((x).val)]) hM_l4 rfl Try.underlying36 el53 rfl rfl rfl (by kernel_rfl) (by kernel_rfl) rfl rfl (fun w12_2 b12_2 hb12_2 (hM12_2 : Mem w w12_2 [] [[⟨.slice (bl b12_2) (1) (1), 53, 2, 1, ([x]).flatMap encP⟩], [⟨.slice (A2) ((o).length) (c2), 53, 2, ((o).length), (o).flatMap encP⟩], [⟨.slice (bl b0_0) 1 1, 53, 2, 1, [I ((x).key), I ((x).val)]⟩]]) => ?_)
      refine O.mappend (sz := 2) (news := ([x]).flatMap encP) (m1 := (o ++ [x]).length) (xs1 := (o ++ [x]).flatMap encP) (M' := fun A12_3 c12_3 => [[⟨.slice (bl b12_2) (1) (1), 53, 2, 1, ([x]).flatMap encP⟩], [⟨.slice (A12_3) ((o ++ [x]).length) (c12_3), 53, 2, ((o ++ [x]).length), (o ++ [x]).flatMap encP⟩], [⟨.slice (bl b0_0) 1 1, 53, 2, 1, [I ((x).key), I ((x).val)]⟩]]) 1 0 hM12_2 rfl rfl rfl Try.underlying36 el53 ⟨rfl, by decide⟩ rfl rfl rfl (hM12_2.rd 0 rfl) (by rw [flat_len encP_len]; first | done | (simp; done) | (simp; omega)) (all_flat_one (fun _ => rfl) _) (by first | omega | (simp; omega)) (by first | omega | (simp; omega)) (by first | (simp; done) | (simp; omega)) (by simp) (fun _ _ => rfl) (fun w12_3 A12_3 c12_3 hc12_3 hM12_3 => ?_)
      try dsimp only at hM12_3
      refine O.val (v := .slice (A12_3) ((o ++ [x]).length) (c12_3)) rfl (Ru.assign rfl) rfl ?_
      refine O.nil ?_
      refine C.seq ?_
      refine C.region ?_
      refine O.val (v := .slice (A12_3) ((o ++ [x]).length) (c12_3)) rfl (Ru.move rfl) rfl ?_
      refine O.val (v := .slice (A12_3) ((o ++ [x]).length) (c12_3)) rfl (Ru.assign rfl) rfl ?_
      refine O.nil ?_
      refine C.ret ?_
      refine P1 (v := .slice (A12_3) ((o ++ [x]).length) (c12_3)) rfl ?_
      have hq6 : (o ++ [x] : List PairT) = putP l x := (by first | (rw [hi1_l4.1]; exact with_fst ha (by rw [← hi1_l4.2]; simpa using c47)) | (rw [hi1_l4.1]; exact with_snd ha (by rw [← hi1_l4.2]; simpa using c47)))
      have hMn6 : Mem w w12_3 [] [[⟨.slice (bl b12_2) (1) (1), 53, 2, 1, ([x]).flatMap encP⟩], [⟨.slice (A12_3) ((putP l x).length) (c12_3), 53, 2, ((putP l x).length), (putP l x).flatMap encP⟩], [⟨.slice (bl b0_0) 1 1, 53, 2, 1, [I ((x).key), I ((x).val)]⟩]] := hM12_3.relen 1 (n' := (putP l x).length) (xs' := (putP l x).flatMap encP) rfl (by first | rfl | exact congrArg List.length hq6 | (have hqq := congrArg List.length hq6; first | omega | (simp at hqq ⊢; omega)) | (simp; done) | (simp; omega)) (congrArg (fun z_ => (z_).flatMap encP) hq6) rfl
      exact ⟨A12_3, c12_3, (sl_congr (congrArg List.length (by first | (rw [hi1_l4.1]; exact with_fst ha (by rw [← hi1_l4.2]; simpa using c47)) | (rw [hi1_l4.1]; exact with_snd ha (by rw [← hi1_l4.2]; simpa using c47))))), (hMn6.pick [1] (by decide) rfl)⟩
    · refine C.skip ?_
      refine C.seq ?_
      refine C.region ?_
      refine O.val (v := .slice (A2) ((o).length) (c2)) rfl (Ru.move rfl) rfl ?_
      refine O.val (v := .slice (A2) ((o).length) (c2)) rfl (Ru.assign rfl) rfl ?_
      refine O.nil ?_
      refine C.ret ?_
      refine P1 (v := .slice (A2) ((o).length) (c2)) rfl ?_
      have hq7 : (o : List PairT) = putP l x := (by first | (rw [hi1_l4.1]; exact with_fst ha (by rw [← hi1_l4.2]; simpa using c47)) | (rw [hi1_l4.1]; exact with_snd ha (by rw [← hi1_l4.2]; simpa using c47)))
      have hMn7 : Mem w w_l4 [] [[⟨.slice (A2) ((putP l x).length) (c2), 53, 2, ((putP l x).length), (putP l x).flatMap encP⟩], [⟨.slice (bl b0_0) 1 1, 53, 2, 1, [I ((x).key), I ((x).val)]⟩]] := hM_l4.relen 0 (n' := (putP l x).length) (xs' := (putP l x).flatMap encP) rfl (by first | rfl | exact congrArg List.length hq7 | (have hqq := congrArg List.length hq7; first | omega | (simp at hqq ⊢; omega)) | (simp; done) | (simp; omega)) (congrArg (fun z_ => (z_).flatMap encP) hq7) rfl
      exact ⟨A2, c2, (sl_congr (congrArg List.length (by first | (rw [hi1_l4.1]; exact with_fst ha (by rw [← hi1_l4.2]; simpa using c47)) | (rw [hi1_l4.1]; exact with_snd ha (by rw [← hi1_l4.2]; simpa using c47))))), (hMn7.pick [0] (by decide) rfl)⟩

theorem lwithout_fn (A : Option Addr) (c : Nat) (l : List PairT) (k0 : Int) (w : World) (hA : Rd w A ((l).flatMap encP)) (hl : l.length ≤ 1000) (ha : asc (keysP l) = true) :
    Does Try.prog 43 [.slice (A) ((l).length) (c), I (k0)] w (fun v w1 => ∃ (A1 : Option Addr) (c1 : Nat), v = .slice (A1) ((dropP l k0).length) (c1) ∧ Mem w w1 [] [[⟨.slice (A1) ((dropP l k0).length) (c1), 53, 2, ((dropP l k0).length), (dropP l k0).flatMap encP⟩]]) := by
  have hM : Mem w w [] [] := Mem.refl
  refine Does.enter1 Try.func43 rfl Try.results43 Try.ntmps43 rfl ?_
  refine C.seq ?_
  refine C.region ?_
  refine O.val (v := .slice (none) (0) (0)) rfl (Ru.assign rfl) rfl ?_
  refine O.nil ?_
  refine C.seq ?_
  refine C.region ?_
  refine O.mlit (sz := 2) (cs := []) hM rfl Try.underlying36 el53 rfl rfl rfl (by kernel_rfl) (by kernel_rfl) rfl rfl (fun w1_0 b1_0 hb1_0 (hM1_0 : Mem w w1_0 [] [[⟨.slice (bl b1_0) (0) (0), 53, 2, 0, ([]).flatMap encP⟩]]) => ?_)
  refine O.val (v := .slice (bl b1_0) (0) (0)) rfl (Ru.assign rfl) rfl ?_
  refine O.nil ?_
  refine C.seq ?_
  refine C.seq ?_
  refine C.region ?_
  refine O.val (v := I (0)) rfl (Ru.assign rfl) rfl ?_
  refine O.nil ?_
  refine C.block ?_
  have hq1 : ([] : List PairT) = (l.take 0).filter (fun p : PairT => decide (p.key ≠ k0)) := (by simp)
  have hMn1 : Mem w w1_0 [] [[⟨.slice (bl b1_0) (((l.take 0).filter (fun p : PairT => decide (p.key ≠ k0))).length) (0), 53, 2, (((l.take 0).filter (fun p : PairT => decide (p.key ≠ k0))).length), ((l.take 0).filter (fun p : PairT => decide (p.key ≠ k0))).flatMap encP⟩]] := hM1_0.relen 0 (n' := ((l.take 0).filter (fun p : PairT => decide (p.key ≠ k0))).length) (xs' := ((l.take 0).filter (fun p : PairT => decide (p.key ≠ k0))).flatMap encP) rfl (by first | rfl | exact congrArg List.length hq1 | (have hqq := congrArg List.length hq1; first | omega | (simp at hqq ⊢; omega)) | (simp; done) | (simp; omega)) (congrArg (fun z_ => (z_).flatMap encP) hq1) rfl
  refine C.loop (ι := Nat × (Option Addr) × Nat) (fun x_ => ([(0, .slice (A) ((l).length) (c)), (1, I (k0)), (5, .slice (x_.2.1) (((l.take x_.1).filter (fun p : PairT => decide (p.key ≠ k0))).length) (x_.2.2)), (6, I (((x_.1 : Nat) : Int)))] : List (Nat × Value))) (fun x_ w_ => (x_.1 ≤ l.length) ∧ (Mem w w_ [] [[⟨.slice (x_.2.1) (((l.take x_.1).filter (fun p : PairT => decide (p.key ≠ k0))).length) (x_.2.2), 53, 2, (((l.take x_.1).filter (fun p : PairT => decide (p.key ≠ k0))).length), ((l.take x_.1).filter (fun p : PairT => decide (p.key ≠ k0))).flatMap encP⟩]])) (fun x_ => l.length - x_.1) (0, bl b1_0, 0) (Has.cons rfl (Has.cons rfl (Has.cons (sl_congr (by first | rfl | omega | (simp; done) | (simp; omega) | exact congrArg List.length hq1 | (simp [← hq1]; done) | (simp [← hq1]; omega))) (Has.cons (I_congr (by first | rfl | omega | (simp; omega) | simp)) Has.nil)))) ⟨(Nat.zero_le _), (hMn1.pick [0] (by decide) rfl)⟩ (fun ⟨k, A2, c2⟩ σ w_l3 hI => ?_)
  try dsimp only at hI
  obtain ⟨hi0_l3, hM_l3⟩ := hI
  have hcl0_l3 := (hM_l3.cap 0 rfl).1
  have hfl := List.length_filter_le (fun p : PairT => decide (p.key ≠ k0)) (l.take k)
  rw [List.length_take] at hfl
  refine C.seq ?_
  refine C.seq ?_
  refine C.region ?_
  refine O.val (v := I (((k : Nat) : Int))) rfl (Ru.move rfl) rfl ?_
  refine O.val (v := .slice (A) ((l).length) (c)) rfl (Ru.move rfl) rfl ?_
  refine O.val (v := I ((((l).length : Nat) : Int))) rfl (Ru.blenSlice Try.underlying36 rfl) rfl ?_
  refine O.val (v := .bool (decide (((k : Nat) : Int) < (((l).length : Nat) : Int)))) rfl (Ru.lss rfl rfl) rfl ?_
  refine O.nil ?_
  refine C.cond (p := ((k : Nat) : Int) < (((l).length : Nat) : Int)) rfl (fun c11 => ?_) (fun c11 => ?_)
  · refine C.skip ?_
    refine C.seq ?_
    refine C.block ?_
    refine C.seq ?_
    refine C.region ?_
    refine O.val (v := .slice (A) ((l).length) (c)) rfl (Ru.move rfl) rfl ?_
    refine O.val (v := I (((k : Nat) : Int))) rfl (Ru.move rfl) rfl ?_
    have hx5_2 : k < (l).length := (by first | omega | (simp; omega))
    refine O.val (v := .pointer (ofs (A) (k * 2))) rfl (Ru.indexA (j := k) Try.underlying36 el53 rfl rfl (smf encP_len (hA.at hM_l3) hx5_2 rfl) (by omega) (by first | omega | (simp; omega))) rfl ?_
    refine O.val (v := .pointer (ofs (A) (k * 2 + 0))) rfl (Ru.fieldA fl53_0 rfl (smf encP_len (hA.at hM_l3) hx5_2 rfl)) rfl ?_
    refine O.val rfl (Ru.load1 el3 rfl (ldf encP_len (hA.at hM_l3) hx5_2 rfl)) rfl ?_
    refine O.val (v := I (k0)) rfl (Ru.move rfl) rfl ?_
    refine O.val (v := .bool (decide (((l)[k]'hx5_2).key ≠ k0))) rfl (Ru.neq rfl rfl) rfl ?_
    refine O.nil ?_
    refine C.cond (p := ((l)[k]'hx5_2).key ≠ k0) rfl (fun c20 => ?_) (fun c20 => ?_)
    · refine C.region ?_
      refine O.val (v := .slice (A2) (((l.take k).filter (fun p : PairT => decide (p.key ≠ k0))).length) (c2)) rfl (Ru.move rfl) rfl ?_
      refine O.val (v := .slice (A) ((l).length) (c)) rfl (Ru.move rfl) rfl ?_
      refine O.val (v := I (((k : Nat) : Int))) rfl (Ru.move rfl) rfl ?_
      have hx6_3 : k < (l).length := (by first | omega | (simp; omega))
      refine O.val (v := .pointer (ofs (A) (k * 2))) rfl (Ru.indexA (j := k) Try.underlying36 el53 rfl rfl (smf encP_len (hA.at hM_l3) hx6_3 rfl) (by omega) (by first | omega | (simp; omega))) rfl ?_
      refine O.val rfl (Ru.loadN (vs := [I (((l)[k]'hx6_3).key), I (((l)[k]'hx6_3).val)]) el53 rfl rfl (smf encP_len (hA.at hM_l3) hx6_3 rfl) (ldn encP_len (hA.at hM_l3) hx6_3)) rfl ?_
      refine O.mlit (sz := 2) (cs := [I (((l)[k]'hx6_3).key), I (((l)[k]'hx6_3).val)]) hM_l3 rfl Try.underlying36 el53 rfl rfl rfl (by kernel_rfl) (by kernel_rfl) rfl rfl (fun w6_5 b6_5 hb6_5 (hM6_5 : Mem w w6_5 [] [[⟨.slice (bl b6_5) (1) (1), 53, 2, 1, ([(l)[k]'hx6_3]).flatMap encP⟩], [⟨.slice (A2) (((l.take k).filter (fun p : PairT => decide (p.key ≠ k0))).length) (c2), 53, 2, (((l.take k).filter (fun p : PairT => decide (p.key ≠ k0))).length), ((l.take k).filter (fun p : PairT => decide (p.key ≠ k0))).flatMap encP⟩]]) => ?_)
      refine O.mappend (sz := 2) (news := ([(l)[k]'hx6_3]).flatMap encP) (m1 := ((l.take k).filter (fun p : PairT => decide (p.key ≠ k0)) ++ [(l)[k]'hx6_3]).length) (xs1 := ((l.take k).filter (fun p : PairT => decide (p.key ≠ k0)) ++ [(l)[k]'hx6_3]).flatMap encP) (M' := fun A6_6 c6_6 => [[⟨.slice (bl b6_5) (1) (1), 53, 2, 1, ([(l)[k]'hx6_3]).flatMap encP⟩], [⟨.slice (A6_6) (((l.take k).filter (fun p : PairT => decide (p.key ≠ k0)) ++ [(l)[k]'hx6_3]).length) (c6_6), 53, 2, (((l.take k).filter (fun p : PairT => decide (p.key ≠ k0)) ++ [(l)[k]'hx6_3]).length), ((l.take k).filter (fun p : PairT => decide (p.key ≠ k0)) ++ [(l)[k]'hx6_3]).flatMap encP⟩]]) 1 0 hM6_5 rfl rfl rfl Try.underlying36 el53 ⟨rfl, by decide⟩ rfl rfl rfl (hM6_5.rd 0 rfl) (by rw [flat_len encP_len]; first | done | (simp; done) | (simp; omega)) (all_flat_one (fun _ => rfl) _) (by first | omega | (simp; omega)) (by first | omega | (simp; omega)) (by first | (simp; done) | (simp; omega)) (by simp) (fun _ _ => rfl) (fun w6_6 A6_6 c6_6 hc6_6 hM6_6 => ?_)
      try dsimp only at hM6_6
      refine O.val (v := .slice (A6_6) (((l.take k).filter (fun p : PairT => decide (p.key ≠ k0)) ++ [(l)[k]'hx6_3]).length) (c6_6)) rfl (Ru.assign rfl) rfl ?_
      refine O.nil ?_
      refine C.region ?_
      refine O.val (v := I (((k : Nat) : Int))) rfl (Ru.move rfl) rfl ?_
      refine O.val (v := I ((((k + 1) : Nat) : Int))) rfl (Ru.congr (v := I ((((k : Nat) : Int) + 1))) (v' := I ((((k + 1) : Nat) : Int))) (Ru.add rfl rfl (by omega)) (I_congr (by first | omega | simp))) rfl ?_
      refine O.val (v := I ((((k + 1) : Nat) : Int))) rfl (Ru.assign rfl) rfl ?_
      refine O.nil ?_
      have hq2 : ((l.take k).filter (fun p : PairT => decide (p.key ≠ k0)) ++ [(l)[k]'hx6_3] : List PairT) = (l.take (k + 1)).filter (fun p : PairT => decide (p.key ≠ k0)) := (by rw [filter_snoc hx5_2, if_pos (by simpa using c20)])
      have hMn2 : Mem w w6_6 [] [[⟨.slice (bl b6_5) (1) (1), 53, 2, 1, ([(l)[k]'hx6_3]).flatMap encP⟩], [⟨.slice (A6_6) (((l.take (k + 1)).filter (fun p : PairT => decide (p.key ≠ k0))).length) (c6_6), 53, 2, (((l.take (k + 1)).filter (fun p : PairT => decide (p.key ≠ k0))).length), ((l.take (k + 1)).filter (fun p : PairT => decide (p.key ≠ k0))).flatMap encP⟩]] := hM6_6.relen 1 (n' := ((l.take (k + 1)).filter (fun p : PairT => decide (p.key ≠ k0))).length) (xs' := ((l.take (k + 1)).filter (fun p : PairT => decide (p.key ≠ k0))).flatMap encP) rfl (by first | rfl | exact congrArg List.length hq2 | (have hqq := congrArg List.length hq2; first | omega | (simp at hqq ⊢; omega)) | (simp; done) | (simp; omega)) (congrArg (fun z_ => (z_).flatMap encP) hq2) rfl
      simp only [blkQ]
      exact loopEnd (k + 1, A6_6, c6_6) (by (try dsimp only); omega) (Has.cons rfl (Has.cons rfl (Has.cons (sl_congr (by first | rfl | omega | (simp; done) | (simp; omega) | exact congrArg List.length hq2 | (simp [← hq2]; done) | (simp [← hq2]; omega))) (Has.cons (I_congr (by first | rfl | omega | (simp; omega) | simp)) Has.nil)))) ⟨(by (try dsimp only); omega), (hMn2.pick [1] (by decide) rfl)⟩
    · refine C.skip ?_
      refine C.region ?_
      refine O.val (v := I (((k : Nat) : Int))) rfl (Ru.move rfl) rfl ?_
      refine O.val (v := I ((((k + 1) : Nat) : Int))) rfl (Ru.congr (v := I ((((k : Nat) : Int) + 1))) (v' := I ((((k + 1) : Nat) : Int))) (Ru.add rfl rfl (by omega)) (I_congr (by first | omega | simp))) rfl ?_
      refine O.val (v := I ((((k + 1) : Nat) : Int))) rfl (Ru.assign rfl) rfl ?_
      refine O.nil ?_
      have hq3 : ((l.take k).filter (fun p : PairT => decide (p.key ≠ k0)) : List PairT) = (l.take (k + 1)).filter (fun p : PairT => decide (p.key ≠ k0)) := (by rw [filter_snoc hx5_2, if_neg (by simpa using c20), List.append_nil])
      have hMn3 : Mem w w_l3 [] [[⟨.slice (A2) (((l.take (k + 1)).filter (fun p : PairT => decide (p.key ≠ k0))).length) (c2), 53, 2, (((l.take (k + 1)).filter (fun p : PairT => decide (p.key ≠ k0))).length), ((l.take (k + 1)).filter (fun p : PairT => decide (p.key ≠ k0))).flatMap encP⟩]] := hM_l3.relen 0 (n' := ((l.take (k + 1)).filter (fun p : PairT => decide (p.key ≠ k0))).length) (xs' := ((l.take (k + 1)).filter (fun p : PairT => decide (p.key ≠ k0))).flatMap encP) rfl (by first | rfl | exact congrArg List.length hq3 | (have hqq := congrArg List.length hq3; first | omega | (simp at hqq ⊢; omega)) | (simp; done) | (simp; omega)) (congrArg (fun z_ => (z_).flatMap encP) hq3) rfl
      simp only [blkQ]
      exact loopEnd (k + 1, A2, c2) (by (try dsimp only); omega) (Has.cons rfl (Has.cons rfl (Has.cons (sl_congr (by first | rfl | omega | (simp; done) | (simp; omega) | exact congrArg List.length hq3 | (simp [← hq3]; done) | (simp [← hq3]; omega))) (Has.cons (I_congr (by first | rfl | omega | (simp; omega) | simp)) Has.nil)))) ⟨(by (try dsimp only); omega), (hMn3.pick [0] (by decide) rfl)⟩
  · refine C.exit ?_
    refine C.seq ?_
    refine C.region ?_
    refine O.val (v := .slice (A2) (((l.take k).filter (fun p : PairT => decide (p.key ≠ k0))).length) (c2)) rfl (Ru.move rfl) rfl ?_
    refine O.val (v := .slice (A2) (((l.take k).filter (fun p : PairT => decide (p.key ≠ k0))).length) (c2)) rfl (Ru.assign rfl) rfl ?_
    refine O.nil ?_
    refine C.ret ?_
    refine P1 (v := .slice (A2) (((l.take k).filter (fun p : PairT => decide (p.key ≠ k0))).length) (c2)) rfl ?_
    have hq4 : ((l.take k).filter (fun p : PairT => decide (p.key ≠ k0)) : List PairT) = dropP l k0 := (by rw [take_all (by omega)]; exact without_drop ha)
    have hMn4 : Mem w w_l3 [] [[⟨.slice (A2) ((dropP l k0).length) (c2), 53, 2, ((dropP l k0).length), (dropP l k0).flatMap encP⟩]] := hM_l3.relen 0 (n' := (dropP l k0).length) (xs' := (dropP l k0).flatMap encP) rfl (by first | rfl | exact congrArg List.length hq4 | (have hqq := congrArg List.length hq4; first | omega | (simp at hqq ⊢; omega)) | (simp; done) | (simp; omega)) (congrArg (fun z_ => (z_).flatMap encP) hq4) rfl
    exact ⟨A2, c2, (sl_congr (congrArg List.length (by rw [take_all (by omega)]; exact without_drop ha))), (hMn4.pick [0] (by decide) rfl)⟩
end Go.Proofs.Ytgflcaeibbnkcaa
