/- Own layer: part of this seat (EI). Plain theorems; no conditions. -/
import Derived.Test.YtfdlmimgooeioaaDoorEH
import Derived.Test.YtfdlmimgooeioaaDoorT5
set_option linter.unusedVariables false
set_option linter.unusedSimpArgs false
namespace Go.Proofs.YtfdlmimgooeioaaDoor
open Go.Px
theorem readNumA_fn (s : Str) (n : Int) (w : World) (hlw : LW w) (hat : Lib.atoi s = some n) :
    Does Tryd.prog 98 [S (s)] w (fun v w1 => v = .tuple #[I ((numS s).getD 0), .bool ((numS s).isSome)] ∧ Mem w w1 [] []) := by
  have hM : Mem w w [] [] := Mem.refl
  refine Does.enter2 Tryd.func98 rfl Tryd.results98 Tryd.ntmps98 rfl ?_
  refine C.seq ?_
  refine C.region ?_
  refine O.val (v := I (0)) rfl (Ru.assign rfl) rfl ?_
  refine O.val (v := .bool (false)) rfl (Ru.assign rfl) rfl ?_
  refine O.nil ?_
  refine C.seq ?_
  refine C.seq ?_
  refine C.region ?_
  refine O.val (v := S (s)) rfl (Ru.move rfl) rfl ?_
  refine O.val (v := I (((s).length : Int))) rfl (Ru.slen Tryd.underlying9 rfl) rfl ?_
  refine O.val (v := .bool (decide (((s).length : Int) > 5))) rfl (Ru.gtr rfl rfl) rfl ?_
  refine O.nil ?_
  refine C.cond (p := ((s).length : Int) > 5) rfl (fun c8 => ?_) (fun c8 => ?_)
  · refine C.seq ?_
    refine C.region ?_
    refine O.val (v := I (0)) rfl (Ru.assign rfl) rfl ?_
    refine O.val (v := .bool (false)) rfl (Ru.assign rfl) rfl ?_
    refine O.nil ?_
    refine C.ret ?_
    refine P2 (v := I (0)) (v' := .bool (false)) rfl rfl ?_
    exact ⟨(by rw [numS_long (by omega)]; rfl), (Mem.none hM)⟩
  · refine C.skip ?_
    refine C.seq ?_
    refine C.region ?_
    refine O.val (v := S (s)) rfl (Ru.move rfl) rfl ?_
    refine O.callg [S (s)] rfl en120 rfl rfl (AtoiA_fn s n w (by omega) (by exact hat)) ?_
    rintro _ w3_1 ⟨rfl, hR3_1⟩
    have hM3_1 : Mem w w3_1 [] [] := Mem.call (Ma := []) hM hR3_1 rfl
    have hnb := Lib.atoi_bound hat (by omega)
    refine O.val (v := .tuple #[I (n), (.nilIface)]) rfl (Ru.move rfl) rfl ?_
    refine O.val (v := I (n)) rfl (Ru.extract rfl rfl) rfl ?_
    refine O.val rfl (Ru.extract rfl rfl) rfl ?_
    refine O.val (v := I (n)) rfl (Ru.assign rfl) rfl ?_
    refine O.val rfl (Ru.assign rfl) rfl ?_
    refine O.nil ?_
    refine C.seq ?_
    refine C.seq ?_
    refine C.region ?_
    refine O.val rfl (Ru.move rfl) rfl ?_
    refine O.val (v := .bool (false)) rfl (Ru.infN ⟨_, Tryd.underlying68⟩ rfl) rfl ?_
    refine O.val (v := .bool (false)) rfl (Ru.move rfl) rfl ?_
    refine O.val (v := I (n)) rfl (Ru.move rfl) rfl ?_
    refine O.callg [I (n)] rfl en47 rfl rfl (Itoa_fn n w3_1 (tab_at hlw.tab hM3_1) (by constructor <;> omega)) ?_
    rintro _ w4_4 ⟨rfl, hR4_4⟩
    have hM4_4 : Mem w w4_4 [] [] := Mem.call (Ma := []) hM3_1 hR4_4 rfl
    refine O.val (v := S (s)) rfl (Ru.move rfl) rfl ?_
    refine O.val (v := .bool (decide (itoaS n ≠ s))) rfl (Ru.sneq rfl rfl) rfl ?_
    refine O.val (v := .bool (decide (itoaS n ≠ s))) rfl (Ru.pickF rfl rfl) rfl ?_
    refine O.nil ?_
    refine C.cond (p := itoaS n ≠ s) rfl (fun c21 => ?_) (fun c21 => ?_)
    · refine C.seq ?_
      refine C.region ?_
      refine O.val (v := I (0)) rfl (Ru.assign rfl) rfl ?_
      refine O.val (v := .bool (false)) rfl (Ru.assign rfl) rfl ?_
      refine O.nil ?_
      refine C.ret ?_
      refine P2 (v := I (0)) (v' := .bool (false)) rfl rfl ?_
      exact ⟨(by rw [numS_atoi_ne hat (by simp_all)]; rfl), (Mem.none hM4_4)⟩
    · refine C.skip ?_
      refine C.seq ?_
      refine C.region ?_
      refine O.val (v := I (n)) rfl (Ru.move rfl) rfl ?_
      refine O.val (v := I (n)) rfl (Ru.assign rfl) rfl ?_
      refine O.val (v := .bool (true)) rfl (Ru.assign rfl) rfl ?_
      refine O.nil ?_
      refine C.ret ?_
      refine P2 (v := I (n)) (v' := .bool (true)) rfl rfl ?_
      exact ⟨(by rw [numS_yes (n := n) (by omega) (by simp_all)]; rfl), (Mem.none hM4_4)⟩

theorem readNumB_fn (s : Str) (w : World) (hlw : LW w) (hat : Lib.atoi s = none) :
    Does Tryd.prog 98 [S (s)] w (fun v w1 => v = .tuple #[I ((numS s).getD 0), .bool ((numS s).isSome)] ∧ Mem w w1 [] []) := by
  have hM : Mem w w [] [] := Mem.refl
  refine Does.enter2 Tryd.func98 rfl Tryd.results98 Tryd.ntmps98 rfl ?_
  refine C.seq ?_
  refine C.region ?_
  refine O.val (v := I (0)) rfl (Ru.assign rfl) rfl ?_
  refine O.val (v := .bool (false)) rfl (Ru.assign rfl) rfl ?_
  refine O.nil ?_
  refine C.seq ?_
  refine C.seq ?_
  refine C.region ?_
  refine O.val (v := S (s)) rfl (Ru.move rfl) rfl ?_
  refine O.val (v := I (((s).length : Int))) rfl (Ru.slen Tryd.underlying9 rfl) rfl ?_
  refine O.val (v := .bool (decide (((s).length : Int) > 5))) rfl (Ru.gtr rfl rfl) rfl ?_
  refine O.nil ?_
  refine C.cond (p := ((s).length : Int) > 5) rfl (fun c8 => ?_) (fun c8 => ?_)
  · refine C.seq ?_
    refine C.region ?_
    refine O.val (v := I (0)) rfl (Ru.assign rfl) rfl ?_
    refine O.val (v := .bool (false)) rfl (Ru.assign rfl) rfl ?_
    refine O.nil ?_
    refine C.ret ?_
    refine P2 (v := I (0)) (v' := .bool (false)) rfl rfl ?_
    exact ⟨(by rw [numS_atoi_none hat]; rfl), (Mem.none hM)⟩
  · refine C.skip ?_
    refine C.seq ?_
    refine C.region ?_
    refine O.val (v := S (s)) rfl (Ru.move rfl) rfl ?_
    refine O.callg [S (s)] rfl en120 rfl rfl (AtoiB_fn s w (by omega) (by exact hat) (hlw.at hM)) ?_
    rintro _ w3_1 ⟨tE3_1, pE3_1, rfl, hR3_1⟩
    have hM3_1 : Mem w w3_1 [] [] := Mem.call (Ma := []) hM hR3_1 rfl
    refine O.val (v := .tuple #[I (0), (.iface tE3_1 pE3_1)]) rfl (Ru.move rfl) rfl ?_
    refine O.val (v := I (0)) rfl (Ru.extract rfl rfl) rfl ?_
    refine O.val rfl (Ru.extract rfl rfl) rfl ?_
    refine O.val (v := I (0)) rfl (Ru.assign rfl) rfl ?_
    refine O.val rfl (Ru.assign rfl) rfl ?_
    refine O.nil ?_
    refine C.seq ?_
    refine C.seq ?_
    refine C.region ?_
    refine O.val rfl (Ru.move rfl) rfl ?_
    refine O.val (v := .bool (true)) rfl (Ru.infS ⟨_, Tryd.underlying68⟩ rfl) rfl ?_
    refine O.val (v := .bool (true)) rfl (Ru.move rfl) rfl ?_
    refine O.pass rfl rfl rfl rfl rfl ?_
    refine O.pass rfl rfl rfl rfl rfl ?_
    refine O.pass rfl rfl rfl rfl rfl ?_
    refine O.pass rfl rfl rfl rfl rfl ?_
    refine O.val (v := .bool (true)) rfl (Ru.pickT rfl rfl) rfl ?_
    refine O.nil ?_
    refine C.condT rfl ?_
    refine C.seq ?_
    refine C.region ?_
    refine O.val (v := I (0)) rfl (Ru.assign rfl) rfl ?_
    refine O.val (v := .bool (false)) rfl (Ru.assign rfl) rfl ?_
    refine O.nil ?_
    refine C.ret ?_
    refine P2 (v := I (0)) (v' := .bool (false)) rfl rfl ?_
    exact ⟨(by rw [numS_atoi_none hat]; rfl), (Mem.none hM3_1)⟩

theorem readNumber_fn (s : Str) (w : World) (hlw : LW w) :
    Does Tryd.prog 98 [S (s)] w (fun v w1 => v = .tuple #[I ((numS s).getD 0), .bool ((numS s).isSome)] ∧ Mem w w1 [] []) := by
  cases h : Lib.atoi s with
  | none => exact readNumB_fn s w hlw h
  | some n => exact readNumA_fn s n w hlw h

theorem readPair_fn (s : Str) (w : World) (hlw : LW w) (hs : s.length ≤ 4000000000) :
    Does Tryd.prog 65 [S (s)] w (fun v w1 => v = .tuple #[.agg #[I (((pairS s).getD ⟨0, 0⟩).key), I (((pairS s).getD ⟨0, 0⟩).val)], .bool ((pairS s).isSome)] ∧ Mem w w1 [] []) := by
  have hM : Mem w w [] [] := Mem.refl
  refine Does.enterG (rs := [.cell 2 61, .tmp 3]) Tryd.func65 rfl Tryd.results65 Tryd.ntmps65 rfl ?_
  refine C.seq ?_
  refine C.region ?_
  refine O.malloc (k := 2) hM rfl rfl el61 rfl (fun w0_0 b0_0 hb0_0 (hM0_0 : Mem w w0_0 [] [[⟨.slice (bl b0_0) 1 1, 61, 2, 1, [I (0), I (0)]⟩]]) => ?_)
  refine O.val (v := .bool (false)) rfl (Ru.assign rfl) rfl ?_
  refine O.nil ?_
  refine C.seq ?_
  refine C.region ?_
  refine O.val (v := S (s)) rfl (Ru.move rfl) rfl ?_
  refine O.callg [S (s), S ([58])] rfl en97 rfl rfl (Cut_fn s w0_0 (hlw.at hM0_0) (by first | omega | assumption | (simp; omega) | simp | (intros; omega))) ?_
  rintro _ w1_1 ⟨rfl, hR1_1⟩
  have hM1_1 : Mem w w1_1 [] [[⟨.slice (bl b0_0) 1 1, 61, 2, 1, [I (0), I (0)]⟩]] := Mem.call (Ma := []) hM0_0 hR1_1 rfl
  refine O.val (v := .tuple #[S ((Lib.cut s [58]).1), S ((Lib.cut s [58]).2.1), .bool ((Lib.cut s [58]).2.2)]) rfl (Ru.move rfl) rfl ?_
  refine O.val (v := S ((Lib.cut s [58]).1)) rfl (Ru.extract rfl rfl) rfl ?_
  refine O.val (v := S ((Lib.cut s [58]).2.1)) rfl (Ru.extract rfl rfl) rfl ?_
  refine O.val (v := .bool ((Lib.cut s [58]).2.2)) rfl (Ru.extract rfl rfl) rfl ?_
  refine O.val (v := S ((Lib.cut s [58]).1)) rfl (Ru.assign rfl) rfl ?_
  refine O.val (v := S ((Lib.cut s [58]).2.1)) rfl (Ru.assign rfl) rfl ?_
  refine O.val (v := .bool ((Lib.cut s [58]).2.2)) rfl (Ru.assign rfl) rfl ?_
  refine O.nil ?_
  refine C.seq ?_
  refine C.seq ?_
  refine C.region ?_
  refine O.val (v := .bool ((Lib.cut s [58]).2.2)) rfl (Ru.move rfl) rfl ?_
  refine O.val (v := .bool (!((Lib.cut s [58]).2.2))) rfl (Ru.not rfl) rfl ?_
  refine O.nil ?_
  refine C.condn (b := ((Lib.cut s [58]).2.2)) rfl (fun c17 => ?_) (fun c17 => ?_)
  · have hf : (Lib.cut s [58]).2.2 = false := by simpa using c17
    have hpn := pair_nf hf
    refine C.seq ?_
    refine C.region ?_
    refine O.val (v := .agg #[I (0), I (0)]) rfl (Ru.build of61 rfl rfl rfl) rfl ?_
    refine O.mstore (vs := [I (0), I (0)]) (xs' := [I (0), I (0)]) 0 0 hM1_1 rfl rfl rfl el61 rfl rfl rfl rfl rfl (by simp) (by simp) rfl rfl (fun w3_1 (hM3_1 : Mem w w3_1 [] [[⟨.slice (bl b0_0) 1 1, 61, 2, 1, [I (0), I (0)]⟩]]) => ?_)
    refine O.val (v := .bool (false)) rfl (Ru.assign rfl) rfl ?_
    refine O.nil ?_
    refine C.ret ?_
    refine PG (vs := [.agg #[I (0), I (0)], .bool (false)]) (ResV.cell (l := [I (0), I (0)]) rfl (mem_blk (i := 0) (j := 0) hM3_1 rfl rfl) el61 rfl (ResV.tmp rfl ResV.nil)) ?_
    exact ⟨(by rw [hpn]; rfl), (Mem.none hM3_1)⟩
  · have hf : (Lib.cut s [58]).2.2 = true := by simpa using c17
    refine C.skip ?_
    refine C.seq ?_
    refine C.region ?_
    refine O.val (v := S ((Lib.cut s [58]).1)) rfl (Ru.move rfl) rfl ?_
    refine O.callg [S ((Lib.cut s [58]).1)] rfl en98 rfl rfl (readNumber_fn ((Lib.cut s [58]).1) w1_1 (hlw.at hM1_1)) ?_
    rintro _ w4_1 ⟨rfl, hR4_1⟩
    have hM4_1 : Mem w w4_1 [] [[⟨.slice (bl b0_0) 1 1, 61, 2, 1, [I (0), I (0)]⟩]] := Mem.call (Ma := []) hM1_1 hR4_1 rfl
    refine O.val (v := .tuple #[I ((numS ((Lib.cut s [58]).1)).getD 0), .bool ((numS ((Lib.cut s [58]).1)).isSome)]) rfl (Ru.move rfl) rfl ?_
    refine O.val (v := I ((numS ((Lib.cut s [58]).1)).getD 0)) rfl (Ru.extract rfl rfl) rfl ?_
    refine O.val (v := .bool ((numS ((Lib.cut s [58]).1)).isSome)) rfl (Ru.extract rfl rfl) rfl ?_
    refine O.val (v := I ((numS ((Lib.cut s [58]).1)).getD 0)) rfl (Ru.assign rfl) rfl ?_
    refine O.val (v := .bool ((numS ((Lib.cut s [58]).1)).isSome)) rfl (Ru.assign rfl) rfl ?_
    refine O.nil ?_
    refine C.seq ?_
    refine C.seq ?_
    refine C.region ?_
    refine O.val (v := .bool ((numS ((Lib.cut s [58]).1)).isSome)) rfl (Ru.move rfl) rfl ?_
    refine O.val (v := .bool (!((numS ((Lib.cut s [58]).1)).isSome))) rfl (Ru.not rfl) rfl ?_
    refine O.nil ?_
    refine C.condn (b := ((numS ((Lib.cut s [58]).1)).isSome)) rfl (fun c25 => ?_) (fun c25 => ?_)
    · have hpn := pair_no1 hf (by simpa using c25)
      refine C.seq ?_
      refine C.region ?_
      refine O.val (v := .agg #[I (0), I (0)]) rfl (Ru.build of61 rfl rfl rfl) rfl ?_
      refine O.mstore (vs := [I (0), I (0)]) (xs' := [I (0), I (0)]) 0 0 hM4_1 rfl rfl rfl el61 rfl rfl rfl rfl rfl (by simp) (by simp) rfl rfl (fun w6_1 (hM6_1 : Mem w w6_1 [] [[⟨.slice (bl b0_0) 1 1, 61, 2, 1, [I (0), I (0)]⟩]]) => ?_)
      refine O.val (v := .bool (false)) rfl (Ru.assign rfl) rfl ?_
      refine O.nil ?_
      refine C.ret ?_
      refine PG (vs := [.agg #[I (0), I (0)], .bool (false)]) (ResV.cell (l := [I (0), I (0)]) rfl (mem_blk (i := 0) (j := 0) hM6_1 rfl rfl) el61 rfl (ResV.tmp rfl ResV.nil)) ?_
      exact ⟨(by rw [hpn]; rfl), (Mem.none hM6_1)⟩
    · refine C.skip ?_
      refine C.seq ?_
      refine C.region ?_
      refine O.val (v := S ((Lib.cut s [58]).2.1)) rfl (Ru.move rfl) rfl ?_
      refine O.callg [S ((Lib.cut s [58]).2.1)] rfl en98 rfl rfl (readNumber_fn ((Lib.cut s [58]).2.1) w4_1 (hlw.at hM4_1)) ?_
      rintro _ w7_1 ⟨rfl, hR7_1⟩
      have hM7_1 : Mem w w7_1 [] [[⟨.slice (bl b0_0) 1 1, 61, 2, 1, [I (0), I (0)]⟩]] := Mem.call (Ma := []) hM4_1 hR7_1 rfl
      refine O.val (v := .tuple #[I ((numS ((Lib.cut s [58]).2.1)).getD 0), .bool ((numS ((Lib.cut s [58]).2.1)).isSome)]) rfl (Ru.move rfl) rfl ?_
      refine O.val (v := I ((numS ((Lib.cut s [58]).2.1)).getD 0)) rfl (Ru.extract rfl rfl) rfl ?_
      refine O.val (v := .bool ((numS ((Lib.cut s [58]).2.1)).isSome)) rfl (Ru.extract rfl rfl) rfl ?_
      refine O.val (v := I ((numS ((Lib.cut s [58]).2.1)).getD 0)) rfl (Ru.assign rfl) rfl ?_
      refine O.val (v := .bool ((numS ((Lib.cut s [58]).2.1)).isSome)) rfl (Ru.assign rfl) rfl ?_
      refine O.nil ?_
      refine C.seq ?_
      refine C.seq ?_
      refine C.region ?_
      refine O.val (v := .bool ((numS ((Lib.cut s [58]).2.1)).isSome)) rfl (Ru.move rfl) rfl ?_
      refine O.val (v := .bool (!((numS ((Lib.cut s [58]).2.1)).isSome))) rfl (Ru.not rfl) rfl ?_
      refine O.nil ?_
      refine C.condn (b := ((numS ((Lib.cut s [58]).2.1)).isSome)) rfl (fun c33 => ?_) (fun c33 => ?_)
      · have hpn := pair_no2 hf (by simpa using c33)
        refine C.seq ?_
        refine C.region ?_
        refine O.val (v := .agg #[I (0), I (0)]) rfl (Ru.build of61 rfl rfl rfl) rfl ?_
        refine O.mstore (vs := [I (0), I (0)]) (xs' := [I (0), I (0)]) 0 0 hM7_1 rfl rfl rfl el61 rfl rfl rfl rfl rfl (by simp) (by simp) rfl rfl (fun w9_1 (hM9_1 : Mem w w9_1 [] [[⟨.slice (bl b0_0) 1 1, 61, 2, 1, [I (0), I (0)]⟩]]) => ?_)
        refine O.val (v := .bool (false)) rfl (Ru.assign rfl) rfl ?_
        refine O.nil ?_
        refine C.ret ?_
        refine PG (vs := [.agg #[I (0), I (0)], .bool (false)]) (ResV.cell (l := [I (0), I (0)]) rfl (mem_blk (i := 0) (j := 0) hM9_1 rfl rfl) el61 rfl (ResV.tmp rfl ResV.nil)) ?_
        exact ⟨(by rw [hpn]; rfl), (Mem.none hM9_1)⟩
      · have hpo := pair_ok hf (by simpa using c25) (by simpa using c33)
        refine C.skip ?_
        refine C.seq ?_
        refine C.region ?_
        refine O.val (v := I ((numS ((Lib.cut s [58]).1)).getD 0)) rfl (Ru.move rfl) rfl ?_
        refine O.val (v := I ((numS ((Lib.cut s [58]).2.1)).getD 0)) rfl (Ru.move rfl) rfl ?_
        refine O.val (v := .agg #[I ((numS ((Lib.cut s [58]).1)).getD 0), I ((numS ((Lib.cut s [58]).2.1)).getD 0)]) rfl (Ru.build of61 rfl rfl rfl) rfl ?_
        refine O.mstore (vs := [I ((numS ((Lib.cut s [58]).1)).getD 0), I ((numS ((Lib.cut s [58]).2.1)).getD 0)]) (xs' := [I ((numS ((Lib.cut s [58]).1)).getD 0), I ((numS ((Lib.cut s [58]).2.1)).getD 0)]) 0 0 hM7_1 rfl rfl rfl el61 rfl rfl rfl rfl rfl (by simp) (by simp) rfl rfl (fun w10_3 (hM10_3 : Mem w w10_3 [] [[⟨.slice (bl b0_0) 1 1, 61, 2, 1, [I ((numS ((Lib.cut s [58]).1)).getD 0), I ((numS ((Lib.cut s [58]).2.1)).getD 0)]⟩]]) => ?_)
        refine O.val (v := .bool (true)) rfl (Ru.assign rfl) rfl ?_
        refine O.nil ?_
        refine C.ret ?_
        refine PG (vs := [.agg #[I ((numS ((Lib.cut s [58]).1)).getD 0), I ((numS ((Lib.cut s [58]).2.1)).getD 0)], .bool (true)]) (ResV.cell (l := [I ((numS ((Lib.cut s [58]).1)).getD 0), I ((numS ((Lib.cut s [58]).2.1)).getD 0)]) rfl (mem_blk (i := 0) (j := 0) hM10_3 rfl rfl) el61 rfl (ResV.tmp rfl ResV.nil)) ?_
        exact ⟨(by rw [hpo]; rfl), (Mem.none hM10_3)⟩

set_option maxHeartbeats 2000000 in
theorem ParseRow_fn (s : Str) (w : World) (hlw : LW w) (hs : s.length ≤ 1048576) :
    Does Tryd.prog 27 [S (s)] w (fun v w1 => ∃ (A1 : Option Addr) (c1 : Nat), v = .tuple #[.slice (A1) (((rowS s).getD []).length) (c1), .bool ((rowS s).isSome)] ∧ Mem w w1 [] [[⟨.slice (A1) (((rowS s).getD []).length) (c1), 61, 2, (((rowS s).getD []).length), ((rowS s).getD []).flatMap encP⟩]]) := by
  have hM : Mem w w [] [] := Mem.refl
  refine Does.enter2 Tryd.func27 rfl Tryd.results27 Tryd.ntmps27 rfl ?_
  refine C.seq ?_
  refine C.region ?_
  refine O.val (v := .slice (none) (0) (0)) rfl (Ru.assign rfl) rfl ?_
  refine O.val (v := .bool (false)) rfl (Ru.assign rfl) rfl ?_
  refine O.nil ?_
  refine C.seq ?_
  refine C.seq ?_
  refine C.region ?_
  refine O.val (v := S (s)) rfl (Ru.move rfl) rfl ?_
  refine O.val (v := .bool (decide (s = []))) rfl (Ru.seql rfl rfl) rfl ?_
  refine O.nil ?_
  refine C.cond (p := s = []) rfl (fun c10 => ?_) (fun c10 => ?_)
  · have hs1 : s = [] := by simpa using c10
    refine C.seq ?_
    refine C.region ?_
    refine O.val (v := .slice (none) (0) (0)) rfl (Ru.assign rfl) rfl ?_
    refine O.val (v := .bool (true)) rfl (Ru.assign rfl) rfl ?_
    refine O.nil ?_
    refine C.ret ?_
    refine P2 (v := .slice (none) (0) (0)) (v' := .bool (true)) rfl rfl ?_
    have hMn1 : Mem w w [] [[⟨.slice (none) (0) (0), 61, 2, 0, ([]).flatMap encP⟩]] := Mem.addNil hM
    have hq2 : ([] : List PairT) = (rowS s).getD [] := (by rw [hs1]; rfl)
    have hMn2 : Mem w w [] [[⟨.slice (none) (((rowS s).getD []).length) (0), 61, 2, (((rowS s).getD []).length), ((rowS s).getD []).flatMap encP⟩]] := hMn1.relen 0 (n' := ((rowS s).getD []).length) (xs' := ((rowS s).getD []).flatMap encP) rfl (by first | rfl | exact congrArg List.length hq2 | (have hqq := congrArg List.length hq2; first | omega | (simp at hqq ⊢; omega)) | (simp; done) | (simp; omega)) (congrArg (fun z_ => (z_).flatMap encP) hq2) rfl
    exact ⟨none, 0, (by rw [hs1]; rfl), (hMn2.pick [0] (by decide) rfl)⟩
  · have hs0 : s ≠ [] := by simpa using c10
    have hsl := splS_len (c := 44) (s := s)
    refine C.skip ?_
    refine C.seq ?_
    refine C.region ?_
    refine O.val (v := .slice (none) (0) (0)) rfl (Ru.assign rfl) rfl ?_
    refine O.nil ?_
    refine C.seq ?_
    refine C.seq ?_
    refine C.region ?_
    refine O.val (v := S (s)) rfl (Ru.move rfl) rfl ?_
    refine O.callg [S (s), S ([44])] rfl en64 rfl rfl (Split_fn s w (hlw.at hM) (by omega)) ?_
    rintro _ w4_1 ⟨A14_1, c14_1, rfl, hR4_1⟩
    have hM4_1 : Mem w w4_1 [] [[⟨.slice (A14_1) ((splS 44 s).length) (c14_1), 9, 1, ((splS 44 s).length), (splS 44 s).map S⟩]] := Mem.call (Ma := []) hM hR4_1 rfl
    have hcr4_1_0 := (hM4_1.cap 0 rfl).1
    have hpiece := splS_piece (n := 1048576) (c := 44) (s := s) hs
    refine O.val (v := I ((((splS 44 s).length : Nat) : Int))) rfl (Ru.blenSlice Tryd.underlying85 rfl) rfl ?_
    refine O.val (v := I (0)) rfl (Ru.move rfl) rfl ?_
    refine O.nil ?_
    refine C.block ?_
    have hMn3 : Mem w w4_1 [] [[⟨.slice (none) (0) (0), 61, 2, 0, ([]).flatMap encP⟩], [⟨.slice (A14_1) ((splS 44 s).length) (c14_1), 9, 1, ((splS 44 s).length), (splS 44 s).map S⟩]] := Mem.addNil hM4_1
    have hq4 : ([] : List PairT) = ([] : List PairT) := (by first | rfl | simp | (simp; omega))
    have hMn4 : Mem w w4_1 [] [[⟨.slice (none) ((([] : List PairT)).length) (0), 61, 2, ((([] : List PairT)).length), (([] : List PairT)).flatMap encP⟩], [⟨.slice (A14_1) ((splS 44 s).length) (c14_1), 9, 1, ((splS 44 s).length), (splS 44 s).map S⟩]] := hMn3.relen 0 (n' := (([] : List PairT)).length) (xs' := (([] : List PairT)).flatMap encP) rfl (by first | rfl | exact congrArg List.length hq4 | (have hqq := congrArg List.length hq4; first | omega | (simp at hqq ⊢; omega)) | (simp; done) | (simp; omega)) (congrArg (fun z_ => (z_).flatMap encP) hq4) rfl
    refine C.loop (ι := Nat × (List PairT) × (Option Addr) × Nat) (fun x_ => ([(4, .slice (x_.2.2.1) ((x_.2.1).length) (x_.2.2.2)), (12, .slice (A14_1) ((splS 44 s).length) (c14_1)), (13, I ((((splS 44 s).length : Nat) : Int))), (14, I (((x_.1 : Nat) : Int)))] : List (Nat × Value))) (fun x_ w_ => (x_.1 ≤ (splS 44 s).length) ∧ (partsS ((splS 44 s).take x_.1) = some x_.2.1) ∧ (x_.2.1.length ≤ x_.1) ∧ (Mem w w_ [] [[⟨.slice (x_.2.2.1) ((x_.2.1).length) (x_.2.2.2), 61, 2, ((x_.2.1).length), (x_.2.1).flatMap encP⟩], [⟨.slice (A14_1) ((splS 44 s).length) (c14_1), 9, 1, ((splS 44 s).length), (splS 44 s).map S⟩]])) (fun x_ => (splS 44 s).length - x_.1) (0, ([] : List PairT), none, 0) (Has.cons (sl_congr (by first | rfl | omega | (simp; done) | (simp; omega) | exact congrArg List.length hq4 | (simp [← hq4]; done) | (simp [← hq4]; omega))) (Has.cons rfl (Has.cons rfl (Has.cons (I_congr (by first | rfl | omega | (simp; omega) | simp)) Has.nil)))) ⟨(Nat.zero_le _), rfl, (by (try dsimp only); simp), (hMn4.pick [0, 1] (by decide) rfl)⟩ (fun ⟨k, L, A2, c2⟩ σ w_l5 hI => ?_)
    try dsimp only at hI
    obtain ⟨hi0_l5, hi1_l5, hi2_l5, hM_l5⟩ := hI
    have hcl0_l5 := (hM_l5.cap 0 rfl).1
    have hcl1_l5 := (hM_l5.cap 1 rfl).1
    refine C.seq ?_
    refine C.region ?_
    refine O.val (v := .bool (decide (((k : Nat) : Int) < (((splS 44 s).length : Nat) : Int)))) rfl (Ru.lss rfl rfl) rfl ?_
    refine O.nil ?_
    refine C.seq ?_
    refine C.cond (p := ((k : Nat) : Int) < (((splS 44 s).length : Nat) : Int)) rfl (fun c15 => ?_) (fun c15 => ?_)
    · refine C.skip ?_
      refine C.seq ?_
      refine C.block ?_
      refine C.seq ?_
      refine C.region ?_
      have hx6_0 : k < (splS 44 s).length := (by first | omega | (simp; omega))
      refine O.val (v := .pointer (ofs (A14_1) (k * 1))) rfl (Ru.indexA (j := k) Tryd.underlying85 el9 rfl rfl (smm (hM_l5.rd 1 rfl) hx6_0) (by omega) (by first | omega | (simp; omega))) rfl ?_
      refine O.val rfl (Ru.load1 el9 rfl (ldm (hM_l5.rd 1 rfl) hx6_0)) rfl ?_
      refine O.val (v := S ((splS 44 s)[k]'hx6_0)) rfl (Ru.assign rfl) rfl ?_
      refine O.nil ?_
      refine C.seq ?_
      refine C.region ?_
      refine O.val (v := S ((splS 44 s)[k]'hx6_0)) rfl (Ru.move rfl) rfl ?_
      have hpl : ((splS 44 s)[k]'hx6_0).length ≤ 4000000000 := by have := hpiece _ (List.getElem_mem hx6_0); omega
      refine O.callg [S ((splS 44 s)[k]'hx6_0)] rfl en65 rfl rfl (readPair_fn ((splS 44 s)[k]'hx6_0) w_l5 (hlw.at hM_l5) (by exact hpl)) ?_
      rintro _ w7_1 ⟨rfl, hR7_1⟩
      have hM7_1 : Mem w w7_1 [] [[⟨.slice (A2) ((L).length) (c2), 61, 2, ((L).length), (L).flatMap encP⟩], [⟨.slice (A14_1) ((splS 44 s).length) (c14_1), 9, 1, ((splS 44 s).length), (splS 44 s).map S⟩]] := Mem.call (Ma := []) hM_l5 hR7_1 rfl
      refine O.val (v := .tuple #[.agg #[I (((pairS ((splS 44 s)[k]'hx6_0)).getD ⟨0, 0⟩).key), I (((pairS ((splS 44 s)[k]'hx6_0)).getD ⟨0, 0⟩).val)], .bool ((pairS ((splS 44 s)[k]'hx6_0)).isSome)]) rfl (Ru.move rfl) rfl ?_
      refine O.val (v := .agg #[I (((pairS ((splS 44 s)[k]'hx6_0)).getD ⟨0, 0⟩).key), I (((pairS ((splS 44 s)[k]'hx6_0)).getD ⟨0, 0⟩).val)]) rfl (Ru.extract rfl rfl) rfl ?_
      refine O.val (v := .bool ((pairS ((splS 44 s)[k]'hx6_0)).isSome)) rfl (Ru.extract rfl rfl) rfl ?_
      refine O.malloc (k := 2) hM7_1 rfl rfl el61 rfl (fun w7_5 b7_5 hb7_5 (hM7_5 : Mem w w7_5 [] [[⟨.slice (bl b7_5) 1 1, 61, 2, 1, [I (0), I (0)]⟩], [⟨.slice (A2) ((L).length) (c2), 61, 2, ((L).length), (L).flatMap encP⟩], [⟨.slice (A14_1) ((splS 44 s).length) (c14_1), 9, 1, ((splS 44 s).length), (splS 44 s).map S⟩]]) => ?_)
      refine O.mstore (vs := [I (((pairS ((splS 44 s)[k]'hx6_0)).getD ⟨0, 0⟩).key), I (((pairS ((splS 44 s)[k]'hx6_0)).getD ⟨0, 0⟩).val)]) (xs' := [I (((pairS ((splS 44 s)[k]'hx6_0)).getD ⟨0, 0⟩).key), I (((pairS ((splS 44 s)[k]'hx6_0)).getD ⟨0, 0⟩).val)]) 0 0 hM7_5 rfl rfl rfl el61 rfl rfl rfl rfl rfl (by simp) (by simp) rfl rfl (fun w7_6 (hM7_6 : Mem w w7_6 [] [[⟨.slice (bl b7_5) 1 1, 61, 2, 1, [I (((pairS ((splS 44 s)[k]'hx6_0)).getD ⟨0, 0⟩).key), I (((pairS ((splS 44 s)[k]'hx6_0)).getD ⟨0, 0⟩).val)]⟩], [⟨.slice (A2) ((L).length) (c2), 61, 2, ((L).length), (L).flatMap encP⟩], [⟨.slice (A14_1) ((splS 44 s).length) (c14_1), 9, 1, ((splS 44 s).length), (splS 44 s).map S⟩]]) => ?_)
      refine O.val (v := .bool ((pairS ((splS 44 s)[k]'hx6_0)).isSome)) rfl (Ru.assign rfl) rfl ?_
      refine O.nil ?_
      refine C.seq ?_
      refine C.seq ?_
      refine C.region ?_
      refine O.val (v := .bool ((pairS ((splS 44 s)[k]'hx6_0)).isSome)) rfl (Ru.move rfl) rfl ?_
      refine O.val (v := .bool (!((pairS ((splS 44 s)[k]'hx6_0)).isSome))) rfl (Ru.not rfl) rfl ?_
      refine O.nil ?_
      refine C.condn (b := ((pairS ((splS 44 s)[k]'hx6_0)).isSome)) rfl (fun c24 => ?_) (fun c24 => ?_)
      · have hpb : pairS ((splS 44 s)[k]'hx6_0) = none := opt_none (by simpa using c24)
        refine C.seq ?_
        refine C.region ?_
        refine O.val (v := .slice (none) (0) (0)) rfl (Ru.assign rfl) rfl ?_
        refine O.val (v := .bool (false)) rfl (Ru.assign rfl) rfl ?_
        refine O.nil ?_
        refine C.ret ?_
        refine P2 (v := .slice (none) (0) (0)) (v' := .bool (false)) rfl rfl ?_
        have hn : rowS s = none := row_bad hs0 (parts_bad hx6_0 hpb)
        have hMn5 : Mem w w7_6 [] [[⟨.slice (none) (0) (0), 61, 2, 0, ([]).flatMap encP⟩], [⟨.slice (bl b7_5) 1 1, 61, 2, 1, [I (((pairS ((splS 44 s)[k]'hx6_0)).getD ⟨0, 0⟩).key), I (((pairS ((splS 44 s)[k]'hx6_0)).getD ⟨0, 0⟩).val)]⟩], [⟨.slice (A2) ((L).length) (c2), 61, 2, ((L).length), (L).flatMap encP⟩], [⟨.slice (A14_1) ((splS 44 s).length) (c14_1), 9, 1, ((splS 44 s).length), (splS 44 s).map S⟩]] := Mem.addNil hM7_6
        have hq6 : ([] : List PairT) = (rowS s).getD [] := (by rw [hn]; rfl)
        have hMn6 : Mem w w7_6 [] [[⟨.slice (none) (((rowS s).getD []).length) (0), 61, 2, (((rowS s).getD []).length), ((rowS s).getD []).flatMap encP⟩], [⟨.slice (bl b7_5) 1 1, 61, 2, 1, [I (((pairS ((splS 44 s)[k]'hx6_0)).getD ⟨0, 0⟩).key), I (((pairS ((splS 44 s)[k]'hx6_0)).getD ⟨0, 0⟩).val)]⟩], [⟨.slice (A2) ((L).length) (c2), 61, 2, ((L).length), (L).flatMap encP⟩], [⟨.slice (A14_1) ((splS 44 s).length) (c14_1), 9, 1, ((splS 44 s).length), (splS 44 s).map S⟩]] := hMn5.relen 0 (n' := ((rowS s).getD []).length) (xs' := ((rowS s).getD []).flatMap encP) rfl (by first | rfl | exact congrArg List.length hq6 | (have hqq := congrArg List.length hq6; first | omega | (simp at hqq ⊢; omega)) | (simp; done) | (simp; omega)) (congrArg (fun z_ => (z_).flatMap encP) hq6) rfl
        exact ⟨none, 0, (by rw [hn]; rfl), (hMn6.pick [0] (by decide) rfl)⟩
      · have hpg := opt_some (d := ⟨0, 0⟩) (show (pairS ((splS 44 s)[k]'hx6_0)).isSome = true by simpa using c24)
        refine C.skip ?_
        refine C.region ?_
        refine O.val (v := .slice (A2) ((L).length) (c2)) rfl (Ru.move rfl) rfl ?_
        refine O.val rfl (Ru.loadN (vs := [I (((pairS ((splS 44 s)[k]'hx6_0)).getD ⟨0, 0⟩).key), I (((pairS ((splS 44 s)[k]'hx6_0)).getD ⟨0, 0⟩).val)]) el61 rfl rfl rfl ((mem_blk (i := 0) (j := 0) hM7_6 rfl rfl).lds (k := 0) rfl)) rfl ?_
        refine O.mlit (sz := 2) (cs := [I (((pairS ((splS 44 s)[k]'hx6_0)).getD ⟨0, 0⟩).key), I (((pairS ((splS 44 s)[k]'hx6_0)).getD ⟨0, 0⟩).val)]) hM7_6 rfl Tryd.underlying25 el61 rfl rfl rfl (by kernel_rfl) (by kernel_rfl) rfl rfl (fun w10_2 b10_2 hb10_2 (hM10_2 : Mem w w10_2 [] [[⟨.slice (bl b10_2) (1) (1), 61, 2, 1, ([(pairS ((splS 44 s)[k]'hx6_0)).getD ⟨0, 0⟩]).flatMap encP⟩], [⟨.slice (bl b7_5) 1 1, 61, 2, 1, [I (((pairS ((splS 44 s)[k]'hx6_0)).getD ⟨0, 0⟩).key), I (((pairS ((splS 44 s)[k]'hx6_0)).getD ⟨0, 0⟩).val)]⟩], [⟨.slice (A2) ((L).length) (c2), 61, 2, ((L).length), (L).flatMap encP⟩], [⟨.slice (A14_1) ((splS 44 s).length) (c14_1), 9, 1, ((splS 44 s).length), (splS 44 s).map S⟩]]) => ?_)
        refine O.mappend (sz := 2) (news := ([(pairS ((splS 44 s)[k]'hx6_0)).getD ⟨0, 0⟩]).flatMap encP) (m1 := (L ++ [(pairS ((splS 44 s)[k]'hx6_0)).getD ⟨0, 0⟩]).length) (xs1 := (L ++ [(pairS ((splS 44 s)[k]'hx6_0)).getD ⟨0, 0⟩]).flatMap encP) (M' := fun A10_3 c10_3 => [[⟨.slice (bl b10_2) (1) (1), 61, 2, 1, ([(pairS ((splS 44 s)[k]'hx6_0)).getD ⟨0, 0⟩]).flatMap encP⟩], [⟨.slice (bl b7_5) 1 1, 61, 2, 1, [I (((pairS ((splS 44 s)[k]'hx6_0)).getD ⟨0, 0⟩).key), I (((pairS ((splS 44 s)[k]'hx6_0)).getD ⟨0, 0⟩).val)]⟩], [⟨.slice (A10_3) ((L ++ [(pairS ((splS 44 s)[k]'hx6_0)).getD ⟨0, 0⟩]).length) (c10_3), 61, 2, ((L ++ [(pairS ((splS 44 s)[k]'hx6_0)).getD ⟨0, 0⟩]).length), (L ++ [(pairS ((splS 44 s)[k]'hx6_0)).getD ⟨0, 0⟩]).flatMap encP⟩], [⟨.slice (A14_1) ((splS 44 s).length) (c14_1), 9, 1, ((splS 44 s).length), (splS 44 s).map S⟩]]) 2 0 hM10_2 rfl rfl rfl Tryd.underlying25 el61 ⟨rfl, by decide⟩ rfl rfl rfl (hM10_2.rd 0 rfl) (by rw [flat_len encP_len]; first | done | (simp; done) | (simp; omega)) (all_flat_one (fun _ => rfl) _) (by first | omega | (simp; omega)) (by first | omega | (simp; omega)) (by first | (simp; done) | (simp; omega)) (by simp) (fun _ _ => rfl) (fun w10_3 A10_3 c10_3 hc10_3 hM10_3 => ?_)
        try dsimp only at hM10_3
        refine O.val (v := .slice (A10_3) ((L ++ [(pairS ((splS 44 s)[k]'hx6_0)).getD ⟨0, 0⟩]).length) (c10_3)) rfl (Ru.assign rfl) rfl ?_
        refine O.nil ?_
        refine C.region ?_
        refine O.val (v := I ((((k + 1) : Nat) : Int))) rfl (Ru.congr (v := I ((((k : Nat) : Int) + 1))) (v' := I ((((k + 1) : Nat) : Int))) (Ru.add rfl rfl (by omega)) (I_congr (by first | omega | simp))) rfl ?_
        refine O.val (v := I ((((k + 1) : Nat) : Int))) rfl (Ru.move rfl) rfl ?_
        refine O.nil ?_
        have hq7 : (L ++ [(pairS ((splS 44 s)[k]'hx6_0)).getD ⟨0, 0⟩] : List PairT) = (L ++ [(pairS ((splS 44 s)[k]'hx6_0)).getD ⟨0, 0⟩]) := (by first | rfl | simp | (simp; omega))
        have hMn7 : Mem w w10_3 [] [[⟨.slice (bl b10_2) (1) (1), 61, 2, 1, ([(pairS ((splS 44 s)[k]'hx6_0)).getD ⟨0, 0⟩]).flatMap encP⟩], [⟨.slice (bl b7_5) 1 1, 61, 2, 1, [I (((pairS ((splS 44 s)[k]'hx6_0)).getD ⟨0, 0⟩).key), I (((pairS ((splS 44 s)[k]'hx6_0)).getD ⟨0, 0⟩).val)]⟩], [⟨.slice (A10_3) (((L ++ [(pairS ((splS 44 s)[k]'hx6_0)).getD ⟨0, 0⟩])).length) (c10_3), 61, 2, (((L ++ [(pairS ((splS 44 s)[k]'hx6_0)).getD ⟨0, 0⟩])).length), ((L ++ [(pairS ((splS 44 s)[k]'hx6_0)).getD ⟨0, 0⟩])).flatMap encP⟩], [⟨.slice (A14_1) ((splS 44 s).length) (c14_1), 9, 1, ((splS 44 s).length), (splS 44 s).map S⟩]] := hM10_3.relen 2 (n' := ((L ++ [(pairS ((splS 44 s)[k]'hx6_0)).getD ⟨0, 0⟩])).length) (xs' := ((L ++ [(pairS ((splS 44 s)[k]'hx6_0)).getD ⟨0, 0⟩])).flatMap encP) rfl (by first | rfl | exact congrArg List.length hq7 | (have hqq := congrArg List.length hq7; first | omega | (simp at hqq ⊢; omega)) | (simp; done) | (simp; omega)) (congrArg (fun z_ => (z_).flatMap encP) hq7) rfl
        exact loopEnd (k + 1, L ++ [(pairS ((splS 44 s)[k]'hx6_0)).getD ⟨0, 0⟩], A10_3, c10_3) (by (try dsimp only); omega) (Has.cons rfl (Has.cons rfl (Has.cons rfl (Has.cons (I_congr (by first | rfl | omega | (simp; omega) | simp)) Has.nil)))) ⟨(by (try dsimp only); omega), (parts_take hi1_l5 hx6_0 hpg), (by (try dsimp only); simp; omega), (hMn7.pick [2, 3] (by decide) rfl)⟩
    · refine C.exit ?_
      refine C.seq ?_
      refine C.seq ?_
      refine C.region ?_
      refine O.val (v := .slice (A2) ((L).length) (c2)) rfl (Ru.move rfl) rfl ?_
      have hpa : partsS (splS 44 s) = some L := by rw [← hi1_l5, List.take_of_length_le (by omega)]
      have hpl := parts_len hpa
      refine O.callg [.slice (A2) ((L).length) (c2)] rfl en34 rfl rfl (ValidRow_fn A2 c2 L w_l5 (hM_l5.rd 0 rfl) (by omega)) ?_
      rintro _ w12_1 ⟨rfl, hR12_1⟩
      have hM12_1 : Mem w w12_1 [] [[⟨.slice (A2) ((L).length) (c2), 61, 2, ((L).length), (L).flatMap encP⟩], [⟨.slice (A14_1) ((splS 44 s).length) (c14_1), 9, 1, ((splS 44 s).length), (splS 44 s).map S⟩]] := Mem.call (Ma := []) hM_l5 hR12_1 rfl
      refine O.val (v := .bool (!(validR L))) rfl (Ru.not rfl) rfl ?_
      refine O.nil ?_
      refine C.condn (b := (validR L)) rfl (fun c32 => ?_) (fun c32 => ?_)
      · refine C.seq ?_
        refine C.region ?_
        refine O.val (v := .slice (none) (0) (0)) rfl (Ru.assign rfl) rfl ?_
        refine O.val (v := .bool (false)) rfl (Ru.assign rfl) rfl ?_
        refine O.nil ?_
        refine C.ret ?_
        refine P2 (v := .slice (none) (0) (0)) (v' := .bool (false)) rfl rfl ?_
        have hn : rowS s = none := row_inv hs0 hpa (by simpa using c32)
        have hMn8 : Mem w w12_1 [] [[⟨.slice (none) (0) (0), 61, 2, 0, ([]).flatMap encP⟩], [⟨.slice (A2) ((L).length) (c2), 61, 2, ((L).length), (L).flatMap encP⟩], [⟨.slice (A14_1) ((splS 44 s).length) (c14_1), 9, 1, ((splS 44 s).length), (splS 44 s).map S⟩]] := Mem.addNil hM12_1
        have hq9 : ([] : List PairT) = (rowS s).getD [] := (by rw [hn]; rfl)
        have hMn9 : Mem w w12_1 [] [[⟨.slice (none) (((rowS s).getD []).length) (0), 61, 2, (((rowS s).getD []).length), ((rowS s).getD []).flatMap encP⟩], [⟨.slice (A2) ((L).length) (c2), 61, 2, ((L).length), (L).flatMap encP⟩], [⟨.slice (A14_1) ((splS 44 s).length) (c14_1), 9, 1, ((splS 44 s).length), (splS 44 s).map S⟩]] := hMn8.relen 0 (n' := ((rowS s).getD []).length) (xs' := ((rowS s).getD []).flatMap encP) rfl (by first | rfl | exact congrArg List.length hq9 | (have hqq := congrArg List.length hq9; first | omega | (simp at hqq ⊢; omega)) | (simp; done) | (simp; omega)) (congrArg (fun z_ => (z_).flatMap encP) hq9) rfl
        exact ⟨none, 0, (by rw [hn]; rfl), (hMn9.pick [0] (by decide) rfl)⟩
      · refine C.skip ?_
        refine C.seq ?_
        refine C.region ?_
        refine O.val (v := .slice (A2) ((L).length) (c2)) rfl (Ru.move rfl) rfl ?_
        refine O.val (v := .slice (A2) ((L).length) (c2)) rfl (Ru.assign rfl) rfl ?_
        refine O.val (v := .bool (true)) rfl (Ru.assign rfl) rfl ?_
        refine O.nil ?_
        refine C.ret ?_
        refine P2 (v := .slice (A2) ((L).length) (c2)) (v' := .bool (true)) rfl rfl ?_
        have hn := row_ok hs0 hpa (by simp_all)
        have hq10 : (L : List PairT) = (rowS s).getD [] := (by rw [hn]; rfl)
        have hMn10 : Mem w w12_1 [] [[⟨.slice (A2) (((rowS s).getD []).length) (c2), 61, 2, (((rowS s).getD []).length), ((rowS s).getD []).flatMap encP⟩], [⟨.slice (A14_1) ((splS 44 s).length) (c14_1), 9, 1, ((splS 44 s).length), (splS 44 s).map S⟩]] := hM12_1.relen 0 (n' := ((rowS s).getD []).length) (xs' := ((rowS s).getD []).flatMap encP) rfl (by first | rfl | exact congrArg List.length hq10 | (have hqq := congrArg List.length hq10; first | omega | (simp at hqq ⊢; omega)) | (simp; done) | (simp; omega)) (congrArg (fun z_ => (z_).flatMap encP) hq10) rfl
        exact ⟨A2, c2, (by rw [hn]; rfl), (hMn10.pick [0] (by decide) rfl)⟩

theorem splitAt_fn (s : Str) (ch : UInt8) (w : World) (hs : s.length ≤ 1048576) :
    Does Tryd.prog 94 [S (s), .int .u8 (((ch).toNat : Int))] w (fun v w1 => ∃ (A1 : Option Addr) (c1 : Nat), v = .slice (A1) ((splS ch s).length) (c1) ∧ Mem w w1 [] [[⟨.slice (A1) ((splS ch s).length) (c1), 9, 1, ((splS ch s).length), (splS ch s).map S⟩]]) := by
  have hM : Mem w w [] [] := Mem.refl
  refine Does.enter1 Tryd.func94 rfl Tryd.results94 Tryd.ntmps94 rfl ?_
  refine C.seq ?_
  refine C.region ?_
  refine O.val (v := .slice (none) (0) (0)) rfl (Ru.assign rfl) rfl ?_
  refine O.nil ?_
  refine C.seq ?_
  refine C.region ?_
  refine O.mlit (sz := 1) (cs := []) hM rfl Tryd.underlying85 el9 rfl rfl rfl (by kernel_rfl) (by kernel_rfl) rfl rfl (fun w1_0 b1_0 hb1_0 (hM1_0 : Mem w w1_0 [] [[⟨.slice (bl b1_0) (0) (0), 9, 1, 0, ([]).map S⟩]]) => ?_)
  refine O.val (v := .slice (bl b1_0) (0) (0)) rfl (Ru.assign rfl) rfl ?_
  refine O.nil ?_
  refine C.seq ?_
  refine C.region ?_
  refine O.val (v := I (0)) rfl (Ru.assign rfl) rfl ?_
  refine O.nil ?_
  refine C.seq ?_
  refine C.seq ?_
  refine C.region ?_
  refine O.val (v := I (0)) rfl (Ru.assign rfl) rfl ?_
  refine O.nil ?_
  refine C.block ?_
  have hq1 : ([] : List Str) = ([] : List Str) := (by first | rfl | simp | (simp; omega))
  have hMn1 : Mem w w1_0 [] [[⟨.slice (bl b1_0) ((([] : List Str)).length) (0), 9, 1, ((([] : List Str)).length), (([] : List Str)).map S⟩]] := hM1_0.relen 0 (n' := (([] : List Str)).length) (xs' := (([] : List Str)).map S) rfl (by first | rfl | exact congrArg List.length hq1 | (have hqq := congrArg List.length hq1; first | omega | (simp at hqq ⊢; omega)) | (simp; done) | (simp; omega)) (congrArg (fun z_ => (z_).map S) hq1) rfl
  refine C.loop (ι := Nat × Nat × (List Str) × (Option Addr) × Nat) (fun x_ => ([(0, S (s)), (1, .int .u8 (((ch).toNat : Int))), (5, .slice (x_.2.2.2.1) ((x_.2.2.1).length) (x_.2.2.2.2)), (6, I (((x_.2.1 : Nat) : Int))), (7, I (((x_.1 : Nat) : Int)))] : List (Nat × Value))) (fun x_ w_ => (x_.2.1 ≤ x_.1 ∧ x_.1 ≤ s.length) ∧ (x_.2.2.1 ++ splS ch (s.drop x_.2.1) = splS ch s) ∧ (ch ∉ (s.drop x_.2.1).take (x_.1 - x_.2.1)) ∧ (x_.2.2.1.length ≤ x_.1) ∧ (Mem w w_ [] [[⟨.slice (x_.2.2.2.1) ((x_.2.2.1).length) (x_.2.2.2.2), 9, 1, ((x_.2.2.1).length), (x_.2.2.1).map S⟩]])) (fun x_ => s.length - x_.1) (0, 0, ([] : List Str), bl b1_0, 0) (Has.cons rfl (Has.cons rfl (Has.cons (sl_congr (by first | rfl | omega | (simp; done) | (simp; omega) | exact congrArg List.length hq1 | (simp [← hq1]; done) | (simp [← hq1]; omega))) (Has.cons (I_congr (by first | rfl | omega | (simp; omega) | simp)) (Has.cons (I_congr (by first | rfl | omega | (simp; omega) | simp)) Has.nil))))) ⟨(by (try dsimp only); omega), (by (try dsimp only); simp), (by (try dsimp only); simp), (by (try dsimp only); simp), (hMn1.pick [0] (by decide) rfl)⟩ (fun ⟨i, f, L, A2, c2⟩ σ w_l4 hI => ?_)
  try dsimp only at hI
  obtain ⟨hi0_l4, hi1_l4, hi2_l4, hi3_l4, hM_l4⟩ := hI
  have hcl0_l4 := (hM_l4.cap 0 rfl).1
  refine C.seq ?_
  refine C.seq ?_
  refine C.region ?_
  refine O.val (v := I (((i : Nat) : Int))) rfl (Ru.move rfl) rfl ?_
  refine O.val (v := S (s)) rfl (Ru.move rfl) rfl ?_
  refine O.val (v := I (((s).length : Int))) rfl (Ru.slen Tryd.underlying9 rfl) rfl ?_
  refine O.val (v := .bool (decide (((i : Nat) : Int) < ((s).length : Int)))) rfl (Ru.lss rfl rfl) rfl ?_
  refine O.nil ?_
  refine C.cond (p := ((i : Nat) : Int) < ((s).length : Int)) rfl (fun c12 => ?_) (fun c12 => ?_)
  · refine C.skip ?_
    refine C.seq ?_
    refine C.block ?_
    refine C.seq ?_
    refine C.region ?_
    refine O.val (v := S (s)) rfl (Ru.move rfl) rfl ?_
    refine O.val (v := I (((i : Nat) : Int))) rfl (Ru.move rfl) rfl ?_
    have hx6_2 : i < (s).length := (by first | omega | (simp; omega))
    refine O.val (v := .int .u8 ((((s)[i]'hx6_2).toNat : Int))) rfl (Ru.sindex (i) hx6_2 Tryd.underlying9 rfl rfl (by omega) (by omega)) rfl ?_
    refine O.val (v := .int .u8 (((ch).toNat : Int))) rfl (Ru.move rfl) rfl ?_
    refine O.val (v := .bool (decide ((((s)[i]'hx6_2).toNat : Int) = ((ch).toNat : Int)))) rfl (Ru.eql rfl rfl) rfl ?_
    refine O.nil ?_
    refine C.cond (p := (((s)[i]'hx6_2).toNat : Int) = ((ch).toNat : Int)) rfl (fun c19 => ?_) (fun c19 => ?_)
    · have hec : s[i]'hx6_2 = ch := (u8_is rfl).2 c19
      refine C.seq ?_
      refine C.region ?_
      refine O.val (v := .slice (A2) ((L).length) (c2)) rfl (Ru.move rfl) rfl ?_
      refine O.val (v := S (s)) rfl (Ru.move rfl) rfl ?_
      refine O.val (v := I (((f : Nat) : Int))) rfl (Ru.move rfl) rfl ?_
      refine O.val (v := I (((i : Nat) : Int))) rfl (Ru.move rfl) rfl ?_
      refine O.val (v := S (((s).drop (f)).take (i - f))) rfl (Ru.sslice (l := f) (h := i) Tryd.underlying9 rfl rfl rfl (by omega) (by omega) (by omega)) rfl ?_
      refine O.mlit (sz := 1) (cs := [S (((s).drop (f)).take (i - f))]) hM_l4 rfl Tryd.underlying85 el9 rfl rfl rfl (by kernel_rfl) (by kernel_rfl) rfl rfl (fun w7_5 b7_5 hb7_5 (hM7_5 : Mem w w7_5 [] [[⟨.slice (bl b7_5) (1) (1), 9, 1, 1, ([((s).drop (f)).take (i - f)]).map S⟩], [⟨.slice (A2) ((L).length) (c2), 9, 1, ((L).length), (L).map S⟩]]) => ?_)
      refine O.mappend (sz := 1) (news := ([((s).drop (f)).take (i - f)]).map S) (m1 := (L ++ [((s).drop (f)).take (i - f)]).length) (xs1 := (L ++ [((s).drop (f)).take (i - f)]).map S) (M' := fun A7_6 c7_6 => [[⟨.slice (bl b7_5) (1) (1), 9, 1, 1, ([((s).drop (f)).take (i - f)]).map S⟩], [⟨.slice (A7_6) ((L ++ [((s).drop (f)).take (i - f)]).length) (c7_6), 9, 1, ((L ++ [((s).drop (f)).take (i - f)]).length), (L ++ [((s).drop (f)).take (i - f)]).map S⟩]]) 1 0 hM7_5 rfl rfl rfl Tryd.underlying85 el9 ⟨rfl, by decide⟩ rfl rfl rfl (hM7_5.rd 0 rfl) (by first | (simp; done) | (simp; omega)) (all_map_one (fun _ => rfl) _) (by first | omega | (simp; omega)) (by first | omega | (simp; omega)) (by first | (simp; done) | (simp; omega)) (by simp) (fun _ _ => rfl) (fun w7_6 A7_6 c7_6 hc7_6 hM7_6 => ?_)
      try dsimp only at hM7_6
      refine O.val (v := .slice (A7_6) ((L ++ [((s).drop (f)).take (i - f)]).length) (c7_6)) rfl (Ru.assign rfl) rfl ?_
      refine O.nil ?_
      refine C.region ?_
      refine O.val (v := I (((i : Nat) : Int))) rfl (Ru.move rfl) rfl ?_
      refine O.val (v := I ((((i + 1) : Nat) : Int))) rfl (Ru.congr (v := I ((((i : Nat) : Int) + 1))) (v' := I ((((i + 1) : Nat) : Int))) (Ru.add rfl rfl (by omega)) (I_congr (by first | omega | simp))) rfl ?_
      refine O.val (v := I ((((i + 1) : Nat) : Int))) rfl (Ru.assign rfl) rfl ?_
      refine O.nil ?_
      refine C.region ?_
      refine O.val (v := I (((i : Nat) : Int))) rfl (Ru.move rfl) rfl ?_
      refine O.val (v := I ((((i + 1) : Nat) : Int))) rfl (Ru.congr (v := I ((((i : Nat) : Int) + 1))) (v' := I ((((i + 1) : Nat) : Int))) (Ru.add rfl rfl (by omega)) (I_congr (by first | omega | simp))) rfl ?_
      refine O.val (v := I ((((i + 1) : Nat) : Int))) rfl (Ru.assign rfl) rfl ?_
      refine O.nil ?_
      have hq2 : (L ++ [((s).drop (f)).take (i - f)] : List Str) = (L ++ [((s).drop (f)).take (i - f)]) := (by first | rfl | simp | (simp; omega))
      have hMn2 : Mem w w7_6 [] [[⟨.slice (bl b7_5) (1) (1), 9, 1, 1, ([((s).drop (f)).take (i - f)]).map S⟩], [⟨.slice (A7_6) (((L ++ [((s).drop (f)).take (i - f)])).length) (c7_6), 9, 1, (((L ++ [((s).drop (f)).take (i - f)])).length), ((L ++ [((s).drop (f)).take (i - f)])).map S⟩]] := hM7_6.relen 1 (n' := ((L ++ [((s).drop (f)).take (i - f)])).length) (xs' := ((L ++ [((s).drop (f)).take (i - f)])).map S) rfl (by first | rfl | exact congrArg List.length hq2 | (have hqq := congrArg List.length hq2; first | omega | (simp at hqq ⊢; omega)) | (simp; done) | (simp; omega)) (congrArg (fun z_ => (z_).map S) hq2) rfl
      exact loopEnd (i + 1, i + 1, L ++ [((s).drop (f)).take (i - f)], A7_6, c7_6) (by (try dsimp only); omega) (Has.cons rfl (Has.cons rfl (Has.cons rfl (Has.cons (I_congr (by first | rfl | omega | (simp; omega) | simp)) (Has.cons (I_congr (by first | rfl | omega | (simp; omega) | simp)) Has.nil))))) ⟨(by (try dsimp only); omega), (spl_step hi1_l4 hi2_l4 hi0_l4.1 hx6_2 hec), (by (try dsimp only); simp), (by (try dsimp only); simp; omega), (hMn2.pick [1] (by decide) rfl)⟩
    · have hec : s[i]'hx6_2 ≠ ch := fun e => c19 ((u8_is rfl).1 e)
      refine C.skip ?_
      refine C.region ?_
      refine O.val (v := I (((i : Nat) : Int))) rfl (Ru.move rfl) rfl ?_
      refine O.val (v := I ((((i + 1) : Nat) : Int))) rfl (Ru.congr (v := I ((((i : Nat) : Int) + 1))) (v' := I ((((i + 1) : Nat) : Int))) (Ru.add rfl rfl (by omega)) (I_congr (by first | omega | simp))) rfl ?_
      refine O.val (v := I ((((i + 1) : Nat) : Int))) rfl (Ru.assign rfl) rfl ?_
      refine O.nil ?_
      exact loopEnd (i + 1, f, L, A2, c2) (by (try dsimp only); omega) (Has.cons rfl (Has.cons rfl (Has.cons rfl (Has.cons rfl (Has.cons (I_congr (by first | rfl | omega | (simp; omega) | simp)) Has.nil))))) ⟨(by (try dsimp only); omega), hi1_l4, (notin_step hi2_l4 hi0_l4.1 hx6_2 hec), (by (try dsimp only); omega), (hM_l4.pick [0] (by decide) rfl)⟩
  · refine C.exit ?_
    refine C.seq ?_
    refine C.region ?_
    refine O.val (v := .slice (A2) ((L).length) (c2)) rfl (Ru.move rfl) rfl ?_
    refine O.val (v := S (s)) rfl (Ru.move rfl) rfl ?_
    refine O.val (v := I (((f : Nat) : Int))) rfl (Ru.move rfl) rfl ?_
    refine O.val (v := S ((s).drop (f))) rfl (Ru.ssliceFrom (l := f) Tryd.underlying9 rfl rfl (by omega) (by omega)) rfl ?_
    refine O.mlit (sz := 1) (cs := [S ((s).drop (f))]) hM_l4 rfl Tryd.underlying85 el9 rfl rfl rfl (by kernel_rfl) (by kernel_rfl) rfl rfl (fun w9_4 b9_4 hb9_4 (hM9_4 : Mem w w9_4 [] [[⟨.slice (bl b9_4) (1) (1), 9, 1, 1, ([(s).drop (f)]).map S⟩], [⟨.slice (A2) ((L).length) (c2), 9, 1, ((L).length), (L).map S⟩]]) => ?_)
    refine O.mappend (sz := 1) (news := ([(s).drop (f)]).map S) (m1 := (L ++ [(s).drop (f)]).length) (xs1 := (L ++ [(s).drop (f)]).map S) (M' := fun A9_5 c9_5 => [[⟨.slice (bl b9_4) (1) (1), 9, 1, 1, ([(s).drop (f)]).map S⟩], [⟨.slice (A9_5) ((L ++ [(s).drop (f)]).length) (c9_5), 9, 1, ((L ++ [(s).drop (f)]).length), (L ++ [(s).drop (f)]).map S⟩]]) 1 0 hM9_4 rfl rfl rfl Tryd.underlying85 el9 ⟨rfl, by decide⟩ rfl rfl rfl (hM9_4.rd 0 rfl) (by first | (simp; done) | (simp; omega)) (all_map_one (fun _ => rfl) _) (by first | omega | (simp; omega)) (by first | omega | (simp; omega)) (by first | (simp; done) | (simp; omega)) (by simp) (fun _ _ => rfl) (fun w9_5 A9_5 c9_5 hc9_5 hM9_5 => ?_)
    try dsimp only at hM9_5
    refine O.val (v := .slice (A9_5) ((L ++ [(s).drop (f)]).length) (c9_5)) rfl (Ru.assign rfl) rfl ?_
    refine O.nil ?_
    refine C.ret ?_
    refine P1 (v := .slice (A9_5) ((L ++ [(s).drop (f)]).length) (c9_5)) rfl ?_
    have hend := spl_end hi1_l4 hi2_l4 (by omega)
    have hq3 : (L ++ [(s).drop (f)] : List Str) = splS ch s := hend
    have hMn3 : Mem w w9_5 [] [[⟨.slice (bl b9_4) (1) (1), 9, 1, 1, ([(s).drop (f)]).map S⟩], [⟨.slice (A9_5) ((splS ch s).length) (c9_5), 9, 1, ((splS ch s).length), (splS ch s).map S⟩]] := hM9_5.relen 1 (n' := (splS ch s).length) (xs' := (splS ch s).map S) rfl (by first | rfl | exact congrArg List.length hq3 | (have hqq := congrArg List.length hq3; first | omega | (simp at hqq ⊢; omega)) | (simp; done) | (simp; omega)) (congrArg (fun z_ => (z_).map S) hq3) rfl
    exact ⟨A9_5, c9_5, (by rw [hend]), (hMn3.pick [1] (by decide) rfl)⟩

theorem parseInt_fn (s : Str) (w : World) :
    Does Tryd.prog 95 [S (s)] w (fun v w1 => v = .tuple #[I ((numS s).getD 0), .bool ((numS s).isSome)] ∧ Mem w w1 [] []) := by
  have hM : Mem w w [] [] := Mem.refl
  refine Does.enter2 Tryd.func95 rfl Tryd.results95 Tryd.ntmps95 rfl ?_
  refine C.seq ?_
  refine C.region ?_
  refine O.val (v := I (0)) rfl (Ru.assign rfl) rfl ?_
  refine O.val (v := .bool (false)) rfl (Ru.assign rfl) rfl ?_
  refine O.nil ?_
  refine C.seq ?_
  refine C.region ?_
  refine O.val (v := I (0)) rfl (Ru.assign rfl) rfl ?_
  refine O.nil ?_
  refine C.seq ?_
  refine C.seq ?_
  refine C.region ?_
  refine O.val (v := S (s)) rfl (Ru.move rfl) rfl ?_
  refine O.val (v := I (((s).length : Int))) rfl (Ru.slen Tryd.underlying9 rfl) rfl ?_
  refine O.val (v := .bool (decide (((s).length : Int) = 0))) rfl (Ru.eql rfl rfl) rfl ?_
  refine O.val (v := .bool (decide (((s).length : Int) = 0))) rfl (Ru.move rfl) rfl ?_
  refine O.partp 9 (((s).length : Int) = 0) rfl (fun g9 => ?_) (fun g9 => ?_)
  · refine O.pass rfl rfl rfl rfl rfl ?_
    refine O.pass rfl rfl rfl rfl rfl ?_
    refine O.pass rfl rfl rfl rfl rfl ?_
    refine O.val (v := .bool (true)) rfl (Ru.pickT rfl rfl) rfl ?_
    refine O.val (v := .bool (true)) rfl (Ru.move rfl) rfl ?_
    refine O.pass rfl rfl rfl rfl rfl ?_
    refine O.pass rfl rfl rfl rfl rfl ?_
    refine O.val (v := .bool (true)) rfl (Ru.pickT rfl rfl) rfl ?_
    refine O.nil ?_
    refine C.condT rfl ?_
    refine C.seq ?_
    refine C.region ?_
    refine O.val (v := I (0)) rfl (Ru.assign rfl) rfl ?_
    refine O.val (v := .bool (false)) rfl (Ru.assign rfl) rfl ?_
    refine O.nil ?_
    refine C.ret ?_
    refine P2 (v := I (0)) (v' := .bool (false)) rfl rfl ?_
    exact ⟨(by rw [num_e (by first | (left; exact List.eq_nil_of_length_eq_zero (by omega)) | (right; left; omega) | (right; right; simp_all))]; rfl), (Mem.none hM)⟩
  · refine O.val (v := S (s)) rfl (Ru.move rfl) rfl ?_
    refine O.val (v := I (((s).length : Int))) rfl (Ru.slen Tryd.underlying9 rfl) rfl ?_
    refine O.val (v := .bool (decide (((s).length : Int) > 5))) rfl (Ru.gtr rfl rfl) rfl ?_
    refine O.val (v := .bool (decide (((s).length : Int) > 5))) rfl (Ru.pickF rfl rfl) rfl ?_
    refine O.val (v := .bool (decide (((s).length : Int) > 5))) rfl (Ru.move rfl) rfl ?_
    refine O.partp 14 (((s).length : Int) > 5) rfl (fun g14 => ?_) (fun g14 => ?_)
    · refine O.pass rfl rfl rfl rfl rfl ?_
      refine O.pass rfl rfl rfl rfl rfl ?_
      refine O.val (v := .bool (true)) rfl (Ru.pickT rfl rfl) rfl ?_
      refine O.nil ?_
      refine C.condT rfl ?_
      refine C.seq ?_
      refine C.region ?_
      refine O.val (v := I (0)) rfl (Ru.assign rfl) rfl ?_
      refine O.val (v := .bool (false)) rfl (Ru.assign rfl) rfl ?_
      refine O.nil ?_
      refine C.ret ?_
      refine P2 (v := I (0)) (v' := .bool (false)) rfl rfl ?_
      exact ⟨(by rw [num_e (by first | (left; exact List.eq_nil_of_length_eq_zero (by omega)) | (right; left; omega) | (right; right; simp_all))]; rfl), (Mem.none hM)⟩
    · refine O.val (v := S (s)) rfl (Ru.move rfl) rfl ?_
      refine O.val (v := .bool (decide (s = [45]))) rfl (Ru.seql rfl rfl) rfl ?_
      refine O.val (v := .bool (decide (s = [45]))) rfl (Ru.pickF rfl rfl) rfl ?_
      refine O.nil ?_
      refine C.cond (p := s = [45]) rfl (fun c17 => ?_) (fun c17 => ?_)
      · refine C.seq ?_
        refine C.region ?_
        refine O.val (v := I (0)) rfl (Ru.assign rfl) rfl ?_
        refine O.val (v := .bool (false)) rfl (Ru.assign rfl) rfl ?_
        refine O.nil ?_
        refine C.ret ?_
        refine P2 (v := I (0)) (v' := .bool (false)) rfl rfl ?_
        exact ⟨(by rw [num_e (by first | (left; exact List.eq_nil_of_length_eq_zero (by omega)) | (right; left; omega) | (right; right; simp_all))]; rfl), (Mem.none hM)⟩
      · have hl5 : s.length ≤ 5 ∧ 0 < s.length ∧ s ≠ [45] := by refine ⟨by omega, by omega, by simp_all⟩
        have hdv := dval_small hl5.1
        refine C.skip ?_
        refine C.seq ?_
        refine C.seq ?_
        refine C.region ?_
        refine O.val (v := I (0)) rfl (Ru.assign rfl) rfl ?_
        refine O.nil ?_
        refine C.block ?_
        refine C.loop (ι := Nat) (fun i => ([(0, S (s)), (4, I (((dval (s.take i) : Nat) : Int))), (5, I (((i : Nat) : Int)))] : List (Nat × Value))) (fun i w_ => (i ≤ s.length) ∧ (Mem w w_ [] [])) (fun i => s.length - i) (0) (Has.cons rfl (Has.cons (I_congr (by simp [dval])) (Has.cons (I_congr (by first | rfl | omega | (simp; omega) | simp)) Has.nil))) ⟨(Nat.zero_le _), (hM.pick [] (by decide) rfl)⟩ (fun i σ w_l5 hI => ?_)
        try dsimp only at hI
        obtain ⟨hi0_l5, hM_l5⟩ := hI
        refine C.seq ?_
        refine C.seq ?_
        refine C.region ?_
        refine O.val (v := I (((i : Nat) : Int))) rfl (Ru.move rfl) rfl ?_
        refine O.val (v := S (s)) rfl (Ru.move rfl) rfl ?_
        refine O.val (v := I (((s).length : Int))) rfl (Ru.slen Tryd.underlying9 rfl) rfl ?_
        refine O.val (v := .bool (decide (((i : Nat) : Int) < ((s).length : Int)))) rfl (Ru.lss rfl rfl) rfl ?_
        refine O.nil ?_
        refine C.cond (p := ((i : Nat) : Int) < ((s).length : Int)) rfl (fun c21 => ?_) (fun c21 => ?_)
        · refine C.skip ?_
          refine C.seq ?_
          refine C.block ?_
          refine C.seq ?_
          refine C.region ?_
          refine O.val (v := S (s)) rfl (Ru.move rfl) rfl ?_
          refine O.val (v := I (((i : Nat) : Int))) rfl (Ru.move rfl) rfl ?_
          have hx7_2 : i < (s).length := (by first | omega | (simp; omega))
          refine O.val (v := .int .u8 ((((s)[i]'hx7_2).toNat : Int))) rfl (Ru.sindex (i) hx7_2 Tryd.underlying9 rfl rfl (by omega) (by omega)) rfl ?_
          have hub := u8_le (s[i]'hx7_2)
          have hds := dval_snocT hx7_2
          have hdi := dval_small (s := s.take i) (by simp; omega)
          have hdj := dval_small (s := s.take (i + 1)) (by simp; omega)
          refine O.val (v := I ((((s)[i]'hx7_2).toNat : Int))) rfl (Ru.conv (c := (((s)[i]'hx7_2).toNat : Int)) Tryd.underlying5 Tryd.underlying3 rfl (wrap_u8 _ (by omega))) rfl ?_
          refine O.callg [I ((((s)[i]'hx7_2).toNat : Int)), I (48), I (57)] rfl en54 rfl rfl (inRange_fn (((s)[i]'hx7_2).toNat : Int) 48 57 w_l5 ) ?_
          rintro _ w7_4 ⟨rfl, hR7_4⟩
          have hM7_4 : Mem w w7_4 [] [] := Mem.call (Ma := []) hM_l5 hR7_4 rfl
          refine O.nil ?_
          refine C.condb (t := decide (48 ≤ (((s)[i]'hx7_2).toNat : Int)) && decide ((((s)[i]'hx7_2).toNat : Int) ≤ 57)) rfl (fun c28 => ?_) (fun c28 => ?_)
          · have hdg : 48 ≤ (s[i]'hx7_2).toNat ∧ (s[i]'hx7_2).toNat ≤ 57 := by simp at c28; omega
            unfold dig at hds
            rw [if_pos hdg] at hds
            refine C.region ?_
            refine O.val (v := I (((dval (s.take i) : Nat) : Int))) rfl (Ru.move rfl) rfl ?_
            refine O.val (v := I ((((10 * dval (s.take i)) : Nat) : Int))) rfl (Ru.congr (v := I ((10 * ((dval (s.take i) : Nat) : Int)))) (v' := I ((((10 * dval (s.take i)) : Nat) : Int))) (Ru.mul rfl rfl (by omega)) (I_congr (by first | omega | simp))) rfl ?_
            refine O.val (v := S (s)) rfl (Ru.move rfl) rfl ?_
            refine O.val (v := I (((i : Nat) : Int))) rfl (Ru.move rfl) rfl ?_
            have hx8_4 : i < (s).length := (by first | omega | (simp; omega))
            refine O.val (v := .int .u8 ((((s)[i]'hx8_4).toNat : Int))) rfl (Ru.sindex (i) hx8_4 Tryd.underlying9 rfl rfl (by omega) (by omega)) rfl ?_
            refine O.val (v := I ((((s)[i]'hx8_4).toNat : Int))) rfl (Ru.conv (c := (((s)[i]'hx8_4).toNat : Int)) Tryd.underlying5 Tryd.underlying3 rfl (wrap_u8 _ (by omega))) rfl ?_
            refine O.val (v := I (((((10 * dval (s.take i)) + ((s)[i]'hx8_4).toNat) : Nat) : Int))) rfl (Ru.congr (v := I (((((10 * dval (s.take i)) : Nat) : Int) + (((s)[i]'hx8_4).toNat : Int)))) (v' := I (((((10 * dval (s.take i)) + ((s)[i]'hx8_4).toNat) : Nat) : Int))) (Ru.add rfl rfl (by omega)) (I_congr (by first | omega | simp))) rfl ?_
            refine O.val (v := I ((((((10 * dval (s.take i)) + ((s)[i]'hx8_4).toNat) : Nat) : Int) - 48))) rfl (Ru.sub rfl rfl (by omega)) rfl ?_
            refine O.val (v := I ((((((10 * dval (s.take i)) + ((s)[i]'hx8_4).toNat) : Nat) : Int) - 48))) rfl (Ru.assign rfl) rfl ?_
            refine O.nil ?_
            refine C.region ?_
            refine O.val (v := I (((i : Nat) : Int))) rfl (Ru.move rfl) rfl ?_
            refine O.val (v := I ((((i + 1) : Nat) : Int))) rfl (Ru.congr (v := I ((((i : Nat) : Int) + 1))) (v' := I ((((i + 1) : Nat) : Int))) (Ru.add rfl rfl (by omega)) (I_congr (by first | omega | simp))) rfl ?_
            refine O.val (v := I ((((i + 1) : Nat) : Int))) rfl (Ru.assign rfl) rfl ?_
            refine O.nil ?_
            exact loopEnd (i + 1) (by (try dsimp only); omega) (Has.cons rfl (Has.cons (I_congr (by omega)) (Has.cons (I_congr (by first | rfl | omega | (simp; omega) | simp)) Has.nil))) ⟨(by (try dsimp only); omega), (hM7_4.pick [] (by decide) rfl)⟩
          · have hdg : ¬ (48 ≤ (s[i]'hx7_2).toNat ∧ (s[i]'hx7_2).toNat ≤ 57) := by simp at c28; omega
            unfold dig at hds
            rw [if_neg hdg] at hds
            refine C.seq ?_
            refine C.region ?_
            refine O.val (v := I (((i : Nat) : Int))) rfl (Ru.move rfl) rfl ?_
            refine O.val (v := .bool (decide (((i : Nat) : Int) > 0))) rfl (Ru.gtr rfl rfl) rfl ?_
            refine O.val (v := .bool (decide (((i : Nat) : Int) > 0))) rfl (Ru.move rfl) rfl ?_
            refine O.partp 39 (((i : Nat) : Int) > 0) rfl (fun g39 => ?_) (fun g39 => ?_)
            · refine O.pass rfl rfl rfl rfl rfl ?_
              refine O.pass rfl rfl rfl rfl rfl ?_
              refine O.pass rfl rfl rfl rfl rfl ?_
              refine O.pass rfl rfl rfl rfl rfl ?_
              refine O.val (v := .bool (true)) rfl (Ru.pickT rfl rfl) rfl ?_
              refine O.nil ?_
              refine C.condT rfl ?_
              refine C.seq ?_
              refine C.region ?_
              refine O.val (v := I (0)) rfl (Ru.assign rfl) rfl ?_
              refine O.val (v := .bool (false)) rfl (Ru.assign rfl) rfl ?_
              refine O.nil ?_
              refine C.ret ?_
              refine P2 (v := I (0)) (v' := .bool (false)) rfl rfl ?_
              exact ⟨(by rw [num_bad hx7_2 (by first | (left; omega) | (right; exact fun e => c44 ((u8_is (c := 45) rfl).1 e))) hdg]; rfl), (Mem.none hM7_4)⟩
            · refine O.val (v := S (s)) rfl (Ru.move rfl) rfl ?_
              refine O.val (v := I (((i : Nat) : Int))) rfl (Ru.move rfl) rfl ?_
              have hx9_5 : i < (s).length := (by first | omega | (simp; omega))
              refine O.val (v := .int .u8 ((((s)[i]'hx9_5).toNat : Int))) rfl (Ru.sindex (i) hx9_5 Tryd.underlying9 rfl rfl (by omega) (by omega)) rfl ?_
              refine O.val (v := .bool (decide ((((s)[i]'hx9_5).toNat : Int) ≠ 45))) rfl (Ru.neq rfl rfl) rfl ?_
              refine O.val (v := .bool (decide ((((s)[i]'hx9_5).toNat : Int) ≠ 45))) rfl (Ru.pickF rfl rfl) rfl ?_
              refine O.nil ?_
              refine C.cond (p := (((s)[i]'hx9_5).toNat : Int) ≠ 45) rfl (fun c44 => ?_) (fun c44 => ?_)
              · refine C.seq ?_
                refine C.region ?_
                refine O.val (v := I (0)) rfl (Ru.assign rfl) rfl ?_
                refine O.val (v := .bool (false)) rfl (Ru.assign rfl) rfl ?_
                refine O.nil ?_
                refine C.ret ?_
                refine P2 (v := I (0)) (v' := .bool (false)) rfl rfl ?_
                exact ⟨(by rw [num_bad hx7_2 (by first | (left; omega) | (right; exact fun e => c44 ((u8_is (c := 45) rfl).1 e))) hdg]; rfl), (Mem.none hM7_4)⟩
              · refine C.skip ?_
                refine C.region ?_
                refine O.val (v := I (((i : Nat) : Int))) rfl (Ru.move rfl) rfl ?_
                refine O.val (v := I ((((i + 1) : Nat) : Int))) rfl (Ru.congr (v := I ((((i : Nat) : Int) + 1))) (v' := I ((((i + 1) : Nat) : Int))) (Ru.add rfl rfl (by omega)) (I_congr (by first | omega | simp))) rfl ?_
                refine O.val (v := I ((((i + 1) : Nat) : Int))) rfl (Ru.assign rfl) rfl ?_
                refine O.nil ?_
                exact loopEnd (i + 1) (by (try dsimp only); omega) (Has.cons rfl (Has.cons (I_congr (by omega)) (Has.cons (I_congr (by first | rfl | omega | (simp; omega) | simp)) Has.nil))) ⟨(by (try dsimp only); omega), (hM7_4.pick [] (by decide) rfl)⟩
        · refine C.exit ?_
          refine C.seq ?_
          refine C.seq ?_
          have hdz : dval (s.take i) = dval s := by rw [List.take_of_length_le (by omega)]
          refine C.region ?_
          refine O.val (v := S (s)) rfl (Ru.move rfl) rfl ?_
          have hx11_1 : 0 < (s).length := (by first | omega | (simp; omega))
          refine O.val (v := .int .u8 ((((s)[0]'hx11_1).toNat : Int))) rfl (Ru.sindex (0) hx11_1 Tryd.underlying9 rfl rfl (by omega) (by omega)) rfl ?_
          refine O.val (v := .bool (decide ((((s)[0]'hx11_1).toNat : Int) = 45))) rfl (Ru.eql rfl rfl) rfl ?_
          refine O.nil ?_
          refine C.cond (p := (((s)[0]'hx11_1).toNat : Int) = 45) rfl (fun c47 => ?_) (fun c47 => ?_)
          · have hpv := pv_neg (by omega) ((u8_is (c := 45) rfl).2 c47)
            refine C.region ?_
            refine O.val (v := I (((dval (s.take i) : Nat) : Int))) rfl (Ru.move rfl) rfl ?_
            refine O.val (v := I (-(((dval (s.take i) : Nat) : Int)))) rfl (Ru.neg rfl (by omega)) rfl ?_
            refine O.val (v := I (-(((dval (s.take i) : Nat) : Int)))) rfl (Ru.assign rfl) rfl ?_
            refine O.nil ?_
            refine C.seq ?_
            refine C.seq ?_
            refine C.region ?_
            refine O.val (v := I (-(((dval (s.take i) : Nat) : Int)))) rfl (Ru.move rfl) rfl ?_
            refine O.callg [I (-(((dval (s.take i) : Nat) : Int)))] rfl en82 rfl rfl (decimal_fn (-(((dval (s.take i) : Nat) : Int))) w_l5 (by first | omega | (constructor <;> omega))) ?_
            rintro _ w13_1 ⟨rfl, hR13_1⟩
            have hM13_1 : Mem w w13_1 [] [] := Mem.call (Ma := []) hM_l5 hR13_1 rfl
            refine O.val (v := S (s)) rfl (Ru.move rfl) rfl ?_
            refine O.val (v := .bool (decide (itoaS (-(((dval (s.take i) : Nat) : Int))) ≠ s))) rfl (Ru.sneq rfl rfl) rfl ?_
            refine O.nil ?_
            refine C.cond (p := itoaS (-(((dval (s.take i) : Nat) : Int))) ≠ s) rfl (fun c53 => ?_) (fun c53 => ?_)
            · refine C.seq ?_
              refine C.region ?_
              refine O.val (v := I (0)) rfl (Ru.assign rfl) rfl ?_
              refine O.val (v := .bool (false)) rfl (Ru.assign rfl) rfl ?_
              refine O.nil ?_
              refine C.ret ?_
              refine P2 (v := I (0)) (v' := .bool (false)) rfl rfl ?_
              exact ⟨(by rw [num_fno (n := pv s) rfl (by simp_all)]; rfl), (Mem.none hM13_1)⟩
            · refine C.skip ?_
              refine C.seq ?_
              refine C.region ?_
              refine O.val (v := I (-(((dval (s.take i) : Nat) : Int)))) rfl (Ru.move rfl) rfl ?_
              refine O.val (v := I (-(((dval (s.take i) : Nat) : Int)))) rfl (Ru.assign rfl) rfl ?_
              refine O.val (v := .bool (true)) rfl (Ru.assign rfl) rfl ?_
              refine O.nil ?_
              refine C.ret ?_
              refine P2 (v := I (-(((dval (s.take i) : Nat) : Int)))) (v' := .bool (true)) rfl rfl ?_
              exact ⟨(by rw [num_fin (n := pv s) rfl hl5.1 (by simp_all)]; simp_all), (Mem.none hM13_1)⟩
          · have hpv := pv_pos (s := s) (by omega) (fun e => c47 ((u8_is (c := 45) rfl).1 e))
            refine C.skip ?_
            refine C.seq ?_
            refine C.seq ?_
            refine C.region ?_
            refine O.val (v := I (((dval (s.take i) : Nat) : Int))) rfl (Ru.move rfl) rfl ?_
            refine O.callg [I (((dval (s.take i) : Nat) : Int))] rfl en82 rfl rfl (decimal_fn ((dval (s.take i) : Nat) : Int) w_l5 (by first | omega | (constructor <;> omega))) ?_
            rintro _ w13_1 ⟨rfl, hR13_1⟩
            have hM13_1 : Mem w w13_1 [] [] := Mem.call (Ma := []) hM_l5 hR13_1 rfl
            refine O.val (v := S (s)) rfl (Ru.move rfl) rfl ?_
            refine O.val (v := .bool (decide (itoaS ((dval (s.take i) : Nat) : Int) ≠ s))) rfl (Ru.sneq rfl rfl) rfl ?_
            refine O.nil ?_
            refine C.cond (p := itoaS ((dval (s.take i) : Nat) : Int) ≠ s) rfl (fun c53 => ?_) (fun c53 => ?_)
            · refine C.seq ?_
              refine C.region ?_
              refine O.val (v := I (0)) rfl (Ru.assign rfl) rfl ?_
              refine O.val (v := .bool (false)) rfl (Ru.assign rfl) rfl ?_
              refine O.nil ?_
              refine C.ret ?_
              refine P2 (v := I (0)) (v' := .bool (false)) rfl rfl ?_
              exact ⟨(by rw [num_fno (n := pv s) rfl (by simp_all)]; rfl), (Mem.none hM13_1)⟩
            · refine C.skip ?_
              refine C.seq ?_
              refine C.region ?_
              refine O.val (v := I (((dval (s.take i) : Nat) : Int))) rfl (Ru.move rfl) rfl ?_
              refine O.val (v := I (((dval (s.take i) : Nat) : Int))) rfl (Ru.assign rfl) rfl ?_
              refine O.val (v := .bool (true)) rfl (Ru.assign rfl) rfl ?_
              refine O.nil ?_
              refine C.ret ?_
              refine P2 (v := I (((dval (s.take i) : Nat) : Int))) (v' := .bool (true)) rfl rfl ?_
              exact ⟨(by rw [num_fin (n := pv s) rfl hl5.1 (by simp_all)]; simp_all), (Mem.none hM13_1)⟩

set_option maxHeartbeats 2000000 in
theorem parseRow_fn (s : Str) (w : World) (hs : s.length ≤ 1048576) :
    Does Tryd.prog 63 [S (s)] w (fun v w1 => ∃ (A1 : Option Addr) (c1 : Nat), v = .tuple #[.slice (A1) (((rowS s).getD []).length) (c1), .bool ((rowS s).isSome)] ∧ Mem w w1 [] [[⟨.slice (A1) (((rowS s).getD []).length) (c1), 61, 2, (((rowS s).getD []).length), ((rowS s).getD []).flatMap encP⟩]]) := by
  have hM : Mem w w [] [] := Mem.refl
  refine Does.enter2 Tryd.func63 rfl Tryd.results63 Tryd.ntmps63 rfl ?_
  refine C.seq ?_
  refine C.region ?_
  refine O.val (v := .slice (none) (0) (0)) rfl (Ru.assign rfl) rfl ?_
  refine O.val (v := .bool (false)) rfl (Ru.assign rfl) rfl ?_
  refine O.nil ?_
  refine C.seq ?_
  refine C.region ?_
  refine O.mlit (sz := 2) (cs := []) hM rfl Tryd.underlying25 el61 rfl rfl rfl (by kernel_rfl) (by kernel_rfl) rfl rfl (fun w1_0 b1_0 hb1_0 (hM1_0 : Mem w w1_0 [] [[⟨.slice (bl b1_0) (0) (0), 61, 2, 0, ([]).flatMap encP⟩]]) => ?_)
  refine O.val (v := .slice (bl b1_0) (0) (0)) rfl (Ru.assign rfl) rfl ?_
  refine O.nil ?_
  refine C.seq ?_
  refine C.seq ?_
  refine C.region ?_
  refine O.val (v := S (s)) rfl (Ru.move rfl) rfl ?_
  refine O.val (v := .bool (decide (s = []))) rfl (Ru.seql rfl rfl) rfl ?_
  refine O.nil ?_
  refine C.cond (p := s = []) rfl (fun c14 => ?_) (fun c14 => ?_)
  · have hs1 : s = [] := by simpa using c14
    refine C.seq ?_
    refine C.region ?_
    refine O.val (v := .slice (bl b1_0) (0) (0)) rfl (Ru.move rfl) rfl ?_
    refine O.val (v := .slice (bl b1_0) (0) (0)) rfl (Ru.assign rfl) rfl ?_
    refine O.val (v := .bool (true)) rfl (Ru.assign rfl) rfl ?_
    refine O.nil ?_
    refine C.ret ?_
    refine P2 (v := .slice (bl b1_0) (0) (0)) (v' := .bool (true)) rfl rfl ?_
    have hq1 : ([] : List PairT) = (rowS s).getD [] := (by rw [hs1]; rfl)
    have hMn1 : Mem w w1_0 [] [[⟨.slice (bl b1_0) (((rowS s).getD []).length) (0), 61, 2, (((rowS s).getD []).length), ((rowS s).getD []).flatMap encP⟩]] := hM1_0.relen 0 (n' := ((rowS s).getD []).length) (xs' := ((rowS s).getD []).flatMap encP) rfl (by first | rfl | exact congrArg List.length hq1 | (have hqq := congrArg List.length hq1; first | omega | (simp at hqq ⊢; omega)) | (simp; done) | (simp; omega)) (congrArg (fun z_ => (z_).flatMap encP) hq1) rfl
    exact ⟨bl b1_0, 0, (by rw [hs1]; rfl), (hMn1.pick [0] (by decide) rfl)⟩
  · have hs0 : s ≠ [] := by simpa using c14
    have hsl := splS_len (c := 44) (s := s)
    refine C.skip ?_
    refine C.seq ?_
    refine C.region ?_
    refine O.val (v := S (s)) rfl (Ru.move rfl) rfl ?_
    refine O.callg [S (s), .int .u8 (44)] rfl en94 rfl rfl (splitAt_fn s (44 : UInt8) w1_0 (by omega)) ?_
    rintro _ w4_1 ⟨A14_1, c14_1, rfl, hR4_1⟩
    have hM4_1 : Mem w w4_1 [] [[⟨.slice (A14_1) ((splS (44 : UInt8) s).length) (c14_1), 9, 1, ((splS (44 : UInt8) s).length), (splS (44 : UInt8) s).map S⟩], [⟨.slice (bl b1_0) (0) (0), 61, 2, 0, ([]).flatMap encP⟩]] := Mem.call (Ma := []) hM1_0 hR4_1 rfl
    have hcr4_1_0 := (hM4_1.cap 0 rfl).1
    have hpiece := splS_piece (n := 1048576) (c := 44) (s := s) hs
    refine O.val (v := .slice (A14_1) ((splS (44 : UInt8) s).length) (c14_1)) rfl (Ru.assign rfl) rfl ?_
    refine O.nil ?_
    refine C.seq ?_
    refine C.seq ?_
    refine C.region ?_
    refine O.val (v := I (0)) rfl (Ru.assign rfl) rfl ?_
    refine O.nil ?_
    refine C.block ?_
    have hq2 : ([] : List PairT) = ([] : List PairT) := (by first | rfl | simp | (simp; omega))
    have hMn2 : Mem w w4_1 [] [[⟨.slice (A14_1) ((splS (44 : UInt8) s).length) (c14_1), 9, 1, ((splS (44 : UInt8) s).length), (splS (44 : UInt8) s).map S⟩], [⟨.slice (bl b1_0) ((([] : List PairT)).length) (0), 61, 2, ((([] : List PairT)).length), (([] : List PairT)).flatMap encP⟩]] := hM4_1.relen 1 (n' := (([] : List PairT)).length) (xs' := (([] : List PairT)).flatMap encP) rfl (by first | rfl | exact congrArg List.length hq2 | (have hqq := congrArg List.length hq2; first | omega | (simp at hqq ⊢; omega)) | (simp; done) | (simp; omega)) (congrArg (fun z_ => (z_).flatMap encP) hq2) rfl
    refine C.loop (ι := Nat × (List PairT) × (Option Addr) × Nat) (fun x_ => ([(4, .slice (x_.2.2.1) ((x_.2.1).length) (x_.2.2.2)), (5, .slice (A14_1) ((splS (44 : UInt8) s).length) (c14_1)), (6, I (((x_.1 : Nat) : Int)))] : List (Nat × Value))) (fun x_ w_ => (x_.1 ≤ (splS 44 s).length) ∧ (partsS ((splS 44 s).take x_.1) = some x_.2.1) ∧ (x_.2.1.length ≤ x_.1) ∧ (Mem w w_ [] [[⟨.slice (A14_1) ((splS (44 : UInt8) s).length) (c14_1), 9, 1, ((splS (44 : UInt8) s).length), (splS (44 : UInt8) s).map S⟩], [⟨.slice (x_.2.2.1) ((x_.2.1).length) (x_.2.2.2), 61, 2, ((x_.2.1).length), (x_.2.1).flatMap encP⟩]])) (fun x_ => (splS 44 s).length - x_.1) (0, ([] : List PairT), bl b1_0, 0) (Has.cons (sl_congr (by first | rfl | omega | (simp; done) | (simp; omega) | exact congrArg List.length hq2 | (simp [← hq2]; done) | (simp [← hq2]; omega))) (Has.cons rfl (Has.cons (I_congr (by first | rfl | omega | (simp; omega) | simp)) Has.nil))) ⟨(Nat.zero_le _), rfl, (by (try dsimp only); simp), (hMn2.pick [0, 1] (by decide) rfl)⟩ (fun ⟨k, L, A2, c2⟩ σ w_l6 hI => ?_)
    try dsimp only at hI
    obtain ⟨hi0_l6, hi1_l6, hi2_l6, hM_l6⟩ := hI
    have hcl0_l6 := (hM_l6.cap 0 rfl).1
    have hcl1_l6 := (hM_l6.cap 1 rfl).1
    refine C.seq ?_
    refine C.seq ?_
    refine C.region ?_
    refine O.val (v := I (((k : Nat) : Int))) rfl (Ru.move rfl) rfl ?_
    refine O.val (v := .slice (A14_1) ((splS (44 : UInt8) s).length) (c14_1)) rfl (Ru.move rfl) rfl ?_
    refine O.val (v := I ((((splS (44 : UInt8) s).length : Nat) : Int))) rfl (Ru.blenSlice Tryd.underlying85 rfl) rfl ?_
    refine O.val (v := .bool (decide (((k : Nat) : Int) < (((splS (44 : UInt8) s).length : Nat) : Int)))) rfl (Ru.lss rfl rfl) rfl ?_
    refine O.nil ?_
    refine C.cond (p := ((k : Nat) : Int) < (((splS (44 : UInt8) s).length : Nat) : Int)) rfl (fun c21 => ?_) (fun c21 => ?_)
    · refine C.skip ?_
      refine C.seq ?_
      refine C.block ?_
      refine C.seq ?_
      refine C.region ?_
      refine O.val (v := .slice (A14_1) ((splS (44 : UInt8) s).length) (c14_1)) rfl (Ru.move rfl) rfl ?_
      refine O.val (v := I (((k : Nat) : Int))) rfl (Ru.move rfl) rfl ?_
      have hx8_2 : k < (splS (44 : UInt8) s).length := (by first | omega | (simp; omega))
      refine O.val (v := .pointer (ofs (A14_1) (k * 1))) rfl (Ru.indexA (j := k) Tryd.underlying85 el9 rfl rfl (smm (hM_l6.rd 0 rfl) hx8_2) (by omega) (by first | omega | (simp; omega))) rfl ?_
      refine O.val rfl (Ru.load1 el9 rfl (ldm (hM_l6.rd 0 rfl) hx8_2)) rfl ?_
      have hpl := hpiece _ (List.getElem_mem hx8_2)
      refine O.callg [S ((splS (44 : UInt8) s)[k]'hx8_2), .int .u8 (58)] rfl en94 rfl rfl (splitAt_fn ((splS (44 : UInt8) s)[k]'hx8_2) (58 : UInt8) w_l6 (by omega)) ?_
      rintro _ w8_4 ⟨A18_4, c18_4, rfl, hR8_4⟩
      have hM8_4 : Mem w w8_4 [] [[⟨.slice (A18_4) ((splS (58 : UInt8) ((splS (44 : UInt8) s)[k]'hx8_2)).length) (c18_4), 9, 1, ((splS (58 : UInt8) ((splS (44 : UInt8) s)[k]'hx8_2)).length), (splS (58 : UInt8) ((splS (44 : UInt8) s)[k]'hx8_2)).map S⟩], [⟨.slice (A14_1) ((splS (44 : UInt8) s).length) (c14_1), 9, 1, ((splS (44 : UInt8) s).length), (splS (44 : UInt8) s).map S⟩], [⟨.slice (A2) ((L).length) (c2), 61, 2, ((L).length), (L).flatMap encP⟩]] := Mem.call (Ma := []) hM_l6 hR8_4 rfl
      have hcr8_4_0 := (hM8_4.cap 0 rfl).1
      refine O.val (v := .slice (A18_4) ((splS (58 : UInt8) ((splS (44 : UInt8) s)[k]'hx8_2)).length) (c18_4)) rfl (Ru.assign rfl) rfl ?_
      refine O.nil ?_
      refine C.seq ?_
      refine C.seq ?_
      refine C.region ?_
      refine O.val (v := .slice (A18_4) ((splS (58 : UInt8) ((splS (44 : UInt8) s)[k]'hx8_2)).length) (c18_4)) rfl (Ru.move rfl) rfl ?_
      refine O.val (v := I ((((splS (58 : UInt8) ((splS (44 : UInt8) s)[k]'hx8_2)).length : Nat) : Int))) rfl (Ru.blenSlice Tryd.underlying85 rfl) rfl ?_
      refine O.val (v := .bool (decide ((((splS (58 : UInt8) ((splS (44 : UInt8) s)[k]'hx8_2)).length : Nat) : Int) ≠ 2))) rfl (Ru.neq rfl rfl) rfl ?_
      refine O.nil ?_
      refine C.cond (p := (((splS (58 : UInt8) ((splS (44 : UInt8) s)[k]'hx8_2)).length : Nat) : Int) ≠ 2) rfl (fun c31 => ?_) (fun c31 => ?_)
      · have hpb : pairS ((splS 44 s)[k]'hx8_2) = none := pair_n2 (by omega)
        refine C.seq ?_
        refine C.region ?_
        refine O.val (v := .slice (none) (0) (0)) rfl (Ru.assign rfl) rfl ?_
        refine O.val (v := .bool (false)) rfl (Ru.assign rfl) rfl ?_
        refine O.nil ?_
        refine C.ret ?_
        refine P2 (v := .slice (none) (0) (0)) (v' := .bool (false)) rfl rfl ?_
        have hn : rowS s = none := row_bad hs0 (parts_bad hx8_2 hpb)
        have hMn3 : Mem w w8_4 [] [[⟨.slice (none) (0) (0), 61, 2, 0, ([]).flatMap encP⟩], [⟨.slice (A18_4) ((splS (58 : UInt8) ((splS (44 : UInt8) s)[k]'hx8_2)).length) (c18_4), 9, 1, ((splS (58 : UInt8) ((splS (44 : UInt8) s)[k]'hx8_2)).length), (splS (58 : UInt8) ((splS (44 : UInt8) s)[k]'hx8_2)).map S⟩], [⟨.slice (A14_1) ((splS (44 : UInt8) s).length) (c14_1), 9, 1, ((splS (44 : UInt8) s).length), (splS (44 : UInt8) s).map S⟩], [⟨.slice (A2) ((L).length) (c2), 61, 2, ((L).length), (L).flatMap encP⟩]] := Mem.addNil hM8_4
        have hq4 : ([] : List PairT) = (rowS s).getD [] := (by rw [hn]; rfl)
        have hMn4 : Mem w w8_4 [] [[⟨.slice (none) (((rowS s).getD []).length) (0), 61, 2, (((rowS s).getD []).length), ((rowS s).getD []).flatMap encP⟩], [⟨.slice (A18_4) ((splS (58 : UInt8) ((splS (44 : UInt8) s)[k]'hx8_2)).length) (c18_4), 9, 1, ((splS (58 : UInt8) ((splS (44 : UInt8) s)[k]'hx8_2)).length), (splS (58 : UInt8) ((splS (44 : UInt8) s)[k]'hx8_2)).map S⟩], [⟨.slice (A14_1) ((splS (44 : UInt8) s).length) (c14_1), 9, 1, ((splS (44 : UInt8) s).length), (splS (44 : UInt8) s).map S⟩], [⟨.slice (A2) ((L).length) (c2), 61, 2, ((L).length), (L).flatMap encP⟩]] := hMn3.relen 0 (n' := ((rowS s).getD []).length) (xs' := ((rowS s).getD []).flatMap encP) rfl (by first | rfl | exact congrArg List.length hq4 | (have hqq := congrArg List.length hq4; first | omega | (simp at hqq ⊢; omega)) | (simp; done) | (simp; omega)) (congrArg (fun z_ => (z_).flatMap encP) hq4) rfl
        exact ⟨none, 0, (by rw [hn]; rfl), (hMn4.pick [0] (by decide) rfl)⟩
      · have h22 : (splS 58 ((splS 44 s)[k]'hx8_2)).length = 2 := by omega
        refine C.skip ?_
        refine C.seq ?_
        refine C.region ?_
        refine O.val (v := .slice (A18_4) ((splS (58 : UInt8) ((splS (44 : UInt8) s)[k]'hx8_2)).length) (c18_4)) rfl (Ru.move rfl) rfl ?_
        have hx11_1 : 0 < (splS (58 : UInt8) ((splS (44 : UInt8) s)[k]'hx8_2)).length := (by first | omega | (simp; omega))
        refine O.val (v := .pointer (ofs (A18_4) (0 * 1))) rfl (Ru.indexA (j := 0) Tryd.underlying85 el9 rfl rfl (smm (hM8_4.rd 0 rfl) hx11_1) (by omega) (by first | omega | (simp; omega))) rfl ?_
        refine O.val rfl (Ru.load1 el9 rfl (ldm (hM8_4.rd 0 rfl) hx11_1)) rfl ?_
        refine O.callg [S ((splS (58 : UInt8) ((splS (44 : UInt8) s)[k]'hx8_2))[0]'hx11_1)] rfl en95 rfl rfl (parseInt_fn ((splS (58 : UInt8) ((splS (44 : UInt8) s)[k]'hx8_2))[0]'hx11_1) w8_4 ) ?_
        rintro _ w11_3 ⟨rfl, hR11_3⟩
        have hM11_3 : Mem w w11_3 [] [[⟨.slice (A18_4) ((splS (58 : UInt8) ((splS (44 : UInt8) s)[k]'hx8_2)).length) (c18_4), 9, 1, ((splS (58 : UInt8) ((splS (44 : UInt8) s)[k]'hx8_2)).length), (splS (58 : UInt8) ((splS (44 : UInt8) s)[k]'hx8_2)).map S⟩], [⟨.slice (A14_1) ((splS (44 : UInt8) s).length) (c14_1), 9, 1, ((splS (44 : UInt8) s).length), (splS (44 : UInt8) s).map S⟩], [⟨.slice (A2) ((L).length) (c2), 61, 2, ((L).length), (L).flatMap encP⟩]] := Mem.call (Ma := []) hM8_4 hR11_3 rfl
        refine O.val (v := .tuple #[I ((numS ((splS (58 : UInt8) ((splS (44 : UInt8) s)[k]'hx8_2))[0]'hx11_1)).getD 0), .bool ((numS ((splS (58 : UInt8) ((splS (44 : UInt8) s)[k]'hx8_2))[0]'hx11_1)).isSome)]) rfl (Ru.move rfl) rfl ?_
        refine O.val (v := I ((numS ((splS (58 : UInt8) ((splS (44 : UInt8) s)[k]'hx8_2))[0]'hx11_1)).getD 0)) rfl (Ru.extract rfl rfl) rfl ?_
        refine O.val (v := .bool ((numS ((splS (58 : UInt8) ((splS (44 : UInt8) s)[k]'hx8_2))[0]'hx11_1)).isSome)) rfl (Ru.extract rfl rfl) rfl ?_
        refine O.val (v := I ((numS ((splS (58 : UInt8) ((splS (44 : UInt8) s)[k]'hx8_2))[0]'hx11_1)).getD 0)) rfl (Ru.assign rfl) rfl ?_
        refine O.val (v := .bool ((numS ((splS (58 : UInt8) ((splS (44 : UInt8) s)[k]'hx8_2))[0]'hx11_1)).isSome)) rfl (Ru.assign rfl) rfl ?_
        refine O.nil ?_
        refine C.seq ?_
        refine C.region ?_
        refine O.val (v := .slice (A18_4) ((splS (58 : UInt8) ((splS (44 : UInt8) s)[k]'hx8_2)).length) (c18_4)) rfl (Ru.move rfl) rfl ?_
        have hx12_1 : 1 < (splS (58 : UInt8) ((splS (44 : UInt8) s)[k]'hx8_2)).length := (by first | omega | (simp; omega))
        refine O.val (v := .pointer (ofs (A18_4) (1 * 1))) rfl (Ru.indexA (j := 1) Tryd.underlying85 el9 rfl rfl (smm (hM11_3.rd 0 rfl) hx12_1) (by omega) (by first | omega | (simp; omega))) rfl ?_
        refine O.val rfl (Ru.load1 el9 rfl (ldm (hM11_3.rd 0 rfl) hx12_1)) rfl ?_
        refine O.callg [S ((splS (58 : UInt8) ((splS (44 : UInt8) s)[k]'hx8_2))[1]'hx12_1)] rfl en95 rfl rfl (parseInt_fn ((splS (58 : UInt8) ((splS (44 : UInt8) s)[k]'hx8_2))[1]'hx12_1) w11_3 ) ?_
        rintro _ w12_3 ⟨rfl, hR12_3⟩
        have hM12_3 : Mem w w12_3 [] [[⟨.slice (A18_4) ((splS (58 : UInt8) ((splS (44 : UInt8) s)[k]'hx8_2)).length) (c18_4), 9, 1, ((splS (58 : UInt8) ((splS (44 : UInt8) s)[k]'hx8_2)).length), (splS (58 : UInt8) ((splS (44 : UInt8) s)[k]'hx8_2)).map S⟩], [⟨.slice (A14_1) ((splS (44 : UInt8) s).length) (c14_1), 9, 1, ((splS (44 : UInt8) s).length), (splS (44 : UInt8) s).map S⟩], [⟨.slice (A2) ((L).length) (c2), 61, 2, ((L).length), (L).flatMap encP⟩]] := Mem.call (Ma := []) hM11_3 hR12_3 rfl
        refine O.val (v := .tuple #[I ((numS ((splS (58 : UInt8) ((splS (44 : UInt8) s)[k]'hx8_2))[1]'hx12_1)).getD 0), .bool ((numS ((splS (58 : UInt8) ((splS (44 : UInt8) s)[k]'hx8_2))[1]'hx12_1)).isSome)]) rfl (Ru.move rfl) rfl ?_
        refine O.val (v := I ((numS ((splS (58 : UInt8) ((splS (44 : UInt8) s)[k]'hx8_2))[1]'hx12_1)).getD 0)) rfl (Ru.extract rfl rfl) rfl ?_
        refine O.val (v := .bool ((numS ((splS (58 : UInt8) ((splS (44 : UInt8) s)[k]'hx8_2))[1]'hx12_1)).isSome)) rfl (Ru.extract rfl rfl) rfl ?_
        refine O.val (v := I ((numS ((splS (58 : UInt8) ((splS (44 : UInt8) s)[k]'hx8_2))[1]'hx12_1)).getD 0)) rfl (Ru.assign rfl) rfl ?_
        refine O.val (v := .bool ((numS ((splS (58 : UInt8) ((splS (44 : UInt8) s)[k]'hx8_2))[1]'hx12_1)).isSome)) rfl (Ru.assign rfl) rfl ?_
        refine O.nil ?_
        refine C.seq ?_
        refine C.seq ?_
        refine C.region ?_
        refine O.val (v := .bool ((numS ((splS (58 : UInt8) ((splS (44 : UInt8) s)[k]'hx8_2))[0]'hx11_1)).isSome)) rfl (Ru.move rfl) rfl ?_
        refine O.val (v := .bool (!((numS ((splS (58 : UInt8) ((splS (44 : UInt8) s)[k]'hx8_2))[0]'hx11_1)).isSome))) rfl (Ru.not rfl) rfl ?_
        refine O.val (v := .bool (!((numS ((splS (58 : UInt8) ((splS (44 : UInt8) s)[k]'hx8_2))[0]'hx11_1)).isSome))) rfl (Ru.move rfl) rfl ?_
        refine O.part 48 (!((numS ((splS (58 : UInt8) ((splS (44 : UInt8) s)[k]'hx8_2))[0]'hx11_1)).isSome)) rfl (fun g48 => ?_) (fun g48 => ?_)
        · refine O.pass rfl rfl rfl rfl rfl ?_
          refine O.pass rfl rfl rfl rfl rfl ?_
          refine O.val (v := .bool (true)) rfl (Ru.pickT rfl rfl) rfl ?_
          refine O.nil ?_
          refine C.condT rfl ?_
          refine C.seq ?_
          refine C.region ?_
          refine O.val (v := .slice (none) (0) (0)) rfl (Ru.assign rfl) rfl ?_
          refine O.val (v := .bool (false)) rfl (Ru.assign rfl) rfl ?_
          refine O.nil ?_
          refine C.ret ?_
          refine P2 (v := .slice (none) (0) (0)) (v' := .bool (false)) rfl rfl ?_
          have hn : rowS s = none := row_bad hs0 (parts_bad hx8_2 (pair_2no h22 (by simp_all)))
          have hMn5 : Mem w w12_3 [] [[⟨.slice (none) (0) (0), 61, 2, 0, ([]).flatMap encP⟩], [⟨.slice (A18_4) ((splS (58 : UInt8) ((splS (44 : UInt8) s)[k]'hx8_2)).length) (c18_4), 9, 1, ((splS (58 : UInt8) ((splS (44 : UInt8) s)[k]'hx8_2)).length), (splS (58 : UInt8) ((splS (44 : UInt8) s)[k]'hx8_2)).map S⟩], [⟨.slice (A14_1) ((splS (44 : UInt8) s).length) (c14_1), 9, 1, ((splS (44 : UInt8) s).length), (splS (44 : UInt8) s).map S⟩], [⟨.slice (A2) ((L).length) (c2), 61, 2, ((L).length), (L).flatMap encP⟩]] := Mem.addNil hM12_3
          have hq6 : ([] : List PairT) = (rowS s).getD [] := (by rw [hn]; rfl)
          have hMn6 : Mem w w12_3 [] [[⟨.slice (none) (((rowS s).getD []).length) (0), 61, 2, (((rowS s).getD []).length), ((rowS s).getD []).flatMap encP⟩], [⟨.slice (A18_4) ((splS (58 : UInt8) ((splS (44 : UInt8) s)[k]'hx8_2)).length) (c18_4), 9, 1, ((splS (58 : UInt8) ((splS (44 : UInt8) s)[k]'hx8_2)).length), (splS (58 : UInt8) ((splS (44 : UInt8) s)[k]'hx8_2)).map S⟩], [⟨.slice (A14_1) ((splS (44 : UInt8) s).length) (c14_1), 9, 1, ((splS (44 : UInt8) s).length), (splS (44 : UInt8) s).map S⟩], [⟨.slice (A2) ((L).length) (c2), 61, 2, ((L).length), (L).flatMap encP⟩]] := hMn5.relen 0 (n' := ((rowS s).getD []).length) (xs' := ((rowS s).getD []).flatMap encP) rfl (by first | rfl | exact congrArg List.length hq6 | (have hqq := congrArg List.length hq6; first | omega | (simp at hqq ⊢; omega)) | (simp; done) | (simp; omega)) (congrArg (fun z_ => (z_).flatMap encP) hq6) rfl
          exact ⟨none, 0, (by rw [hn]; rfl), (hMn6.pick [0] (by decide) rfl)⟩
        · refine O.val (v := .bool ((numS ((splS (58 : UInt8) ((splS (44 : UInt8) s)[k]'hx8_2))[1]'hx12_1)).isSome)) rfl (Ru.move rfl) rfl ?_
          refine O.val (v := .bool (!((numS ((splS (58 : UInt8) ((splS (44 : UInt8) s)[k]'hx8_2))[1]'hx12_1)).isSome))) rfl (Ru.not rfl) rfl ?_
          refine O.val (v := .bool (!((numS ((splS (58 : UInt8) ((splS (44 : UInt8) s)[k]'hx8_2))[1]'hx12_1)).isSome))) rfl (Ru.pickF rfl rfl) rfl ?_
          refine O.nil ?_
          refine C.condn (b := ((numS ((splS (58 : UInt8) ((splS (44 : UInt8) s)[k]'hx8_2))[1]'hx12_1)).isSome)) rfl (fun c51 => ?_) (fun c51 => ?_)
          · have hpb : pairS ((splS 44 s)[k]'hx8_2) = none := pair_2no h22 (by simp_all)
            refine C.seq ?_
            refine C.region ?_
            refine O.val (v := .slice (none) (0) (0)) rfl (Ru.assign rfl) rfl ?_
            refine O.val (v := .bool (false)) rfl (Ru.assign rfl) rfl ?_
            refine O.nil ?_
            refine C.ret ?_
            refine P2 (v := .slice (none) (0) (0)) (v' := .bool (false)) rfl rfl ?_
            have hn : rowS s = none := row_bad hs0 (parts_bad hx8_2 (pair_2no h22 (by simp_all)))
            have hMn7 : Mem w w12_3 [] [[⟨.slice (none) (0) (0), 61, 2, 0, ([]).flatMap encP⟩], [⟨.slice (A18_4) ((splS (58 : UInt8) ((splS (44 : UInt8) s)[k]'hx8_2)).length) (c18_4), 9, 1, ((splS (58 : UInt8) ((splS (44 : UInt8) s)[k]'hx8_2)).length), (splS (58 : UInt8) ((splS (44 : UInt8) s)[k]'hx8_2)).map S⟩], [⟨.slice (A14_1) ((splS (44 : UInt8) s).length) (c14_1), 9, 1, ((splS (44 : UInt8) s).length), (splS (44 : UInt8) s).map S⟩], [⟨.slice (A2) ((L).length) (c2), 61, 2, ((L).length), (L).flatMap encP⟩]] := Mem.addNil hM12_3
            have hq8 : ([] : List PairT) = (rowS s).getD [] := (by rw [hn]; rfl)
            have hMn8 : Mem w w12_3 [] [[⟨.slice (none) (((rowS s).getD []).length) (0), 61, 2, (((rowS s).getD []).length), ((rowS s).getD []).flatMap encP⟩], [⟨.slice (A18_4) ((splS (58 : UInt8) ((splS (44 : UInt8) s)[k]'hx8_2)).length) (c18_4), 9, 1, ((splS (58 : UInt8) ((splS (44 : UInt8) s)[k]'hx8_2)).length), (splS (58 : UInt8) ((splS (44 : UInt8) s)[k]'hx8_2)).map S⟩], [⟨.slice (A14_1) ((splS (44 : UInt8) s).length) (c14_1), 9, 1, ((splS (44 : UInt8) s).length), (splS (44 : UInt8) s).map S⟩], [⟨.slice (A2) ((L).length) (c2), 61, 2, ((L).length), (L).flatMap encP⟩]] := hMn7.relen 0 (n' := ((rowS s).getD []).length) (xs' := ((rowS s).getD []).flatMap encP) rfl (by first | rfl | exact congrArg List.length hq8 | (have hqq := congrArg List.length hq8; first | omega | (simp at hqq ⊢; omega)) | (simp; done) | (simp; omega)) (congrArg (fun z_ => (z_).flatMap encP) hq8) rfl
            exact ⟨none, 0, (by rw [hn]; rfl), (hMn8.pick [0] (by decide) rfl)⟩
          · have hpg := pair_2ok h22 (by simp_all) (by simp_all)
            refine C.skip ?_
            refine C.region ?_
            refine O.val (v := .slice (A2) ((L).length) (c2)) rfl (Ru.move rfl) rfl ?_
            refine O.val (v := I ((numS ((splS (58 : UInt8) ((splS (44 : UInt8) s)[k]'hx8_2))[0]'hx11_1)).getD 0)) rfl (Ru.move rfl) rfl ?_
            refine O.val (v := I ((numS ((splS (58 : UInt8) ((splS (44 : UInt8) s)[k]'hx8_2))[1]'hx12_1)).getD 0)) rfl (Ru.move rfl) rfl ?_
            refine O.val (v := .agg #[I ((numS ((splS (58 : UInt8) ((splS (44 : UInt8) s)[k]'hx8_2))[0]'hx11_1)).getD 0), I ((numS ((splS (58 : UInt8) ((splS (44 : UInt8) s)[k]'hx8_2))[1]'hx12_1)).getD 0)]) rfl (Ru.build of61 rfl rfl rfl) rfl ?_
            refine O.mlit (sz := 2) (cs := [I ((numS ((splS (58 : UInt8) ((splS (44 : UInt8) s)[k]'hx8_2))[0]'hx11_1)).getD 0), I ((numS ((splS (58 : UInt8) ((splS (44 : UInt8) s)[k]'hx8_2))[1]'hx12_1)).getD 0)]) hM12_3 rfl Tryd.underlying25 el61 rfl rfl rfl (by kernel_rfl) (by kernel_rfl) rfl rfl (fun w15_4 b15_4 hb15_4 (hM15_4 : Mem w w15_4 [] [[⟨.slice (bl b15_4) (1) (1), 61, 2, 1, ([(⟨(numS ((splS (58 : UInt8) ((splS (44 : UInt8) s)[k]'hx8_2))[0]'hx11_1)).getD 0, (numS ((splS (58 : UInt8) ((splS (44 : UInt8) s)[k]'hx8_2))[1]'hx12_1)).getD 0⟩ : PairT)]).flatMap encP⟩], [⟨.slice (A18_4) ((splS (58 : UInt8) ((splS (44 : UInt8) s)[k]'hx8_2)).length) (c18_4), 9, 1, ((splS (58 : UInt8) ((splS (44 : UInt8) s)[k]'hx8_2)).length), (splS (58 : UInt8) ((splS (44 : UInt8) s)[k]'hx8_2)).map S⟩], [⟨.slice (A14_1) ((splS (44 : UInt8) s).length) (c14_1), 9, 1, ((splS (44 : UInt8) s).length), (splS (44 : UInt8) s).map S⟩], [⟨.slice (A2) ((L).length) (c2), 61, 2, ((L).length), (L).flatMap encP⟩]]) => ?_)
            refine O.mappend (sz := 2) (news := ([(⟨(numS ((splS (58 : UInt8) ((splS (44 : UInt8) s)[k]'hx8_2))[0]'hx11_1)).getD 0, (numS ((splS (58 : UInt8) ((splS (44 : UInt8) s)[k]'hx8_2))[1]'hx12_1)).getD 0⟩ : PairT)]).flatMap encP) (m1 := (L ++ [(⟨(numS ((splS (58 : UInt8) ((splS (44 : UInt8) s)[k]'hx8_2))[0]'hx11_1)).getD 0, (numS ((splS (58 : UInt8) ((splS (44 : UInt8) s)[k]'hx8_2))[1]'hx12_1)).getD 0⟩ : PairT)]).length) (xs1 := (L ++ [(⟨(numS ((splS (58 : UInt8) ((splS (44 : UInt8) s)[k]'hx8_2))[0]'hx11_1)).getD 0, (numS ((splS (58 : UInt8) ((splS (44 : UInt8) s)[k]'hx8_2))[1]'hx12_1)).getD 0⟩ : PairT)]).flatMap encP) (M' := fun A15_5 c15_5 => [[⟨.slice (bl b15_4) (1) (1), 61, 2, 1, ([(⟨(numS ((splS (58 : UInt8) ((splS (44 : UInt8) s)[k]'hx8_2))[0]'hx11_1)).getD 0, (numS ((splS (58 : UInt8) ((splS (44 : UInt8) s)[k]'hx8_2))[1]'hx12_1)).getD 0⟩ : PairT)]).flatMap encP⟩], [⟨.slice (A18_4) ((splS (58 : UInt8) ((splS (44 : UInt8) s)[k]'hx8_2)).length) (c18_4), 9, 1, ((splS (58 : UInt8) ((splS (44 : UInt8) s)[k]'hx8_2)).length), (splS (58 : UInt8) ((splS (44 : UInt8) s)[k]'hx8_2)).map S⟩], [⟨.slice (A14_1) ((splS (44 : UInt8) s).length) (c14_1), 9, 1, ((splS (44 : UInt8) s).length), (splS (44 : UInt8) s).map S⟩], [⟨.slice (A15_5) ((L ++ [(⟨(numS ((splS (58 : UInt8) ((splS (44 : UInt8) s)[k]'hx8_2))[0]'hx11_1)).getD 0, (numS ((splS (58 : UInt8) ((splS (44 : UInt8) s)[k]'hx8_2))[1]'hx12_1)).getD 0⟩ : PairT)]).length) (c15_5), 61, 2, ((L ++ [(⟨(numS ((splS (58 : UInt8) ((splS (44 : UInt8) s)[k]'hx8_2))[0]'hx11_1)).getD 0, (numS ((splS (58 : UInt8) ((splS (44 : UInt8) s)[k]'hx8_2))[1]'hx12_1)).getD 0⟩ : PairT)]).length), (L ++ [(⟨(numS ((splS (58 : UInt8) ((splS (44 : UInt8) s)[k]'hx8_2))[0]'hx11_1)).getD 0, (numS ((splS (58 : UInt8) ((splS (44 : UInt8) s)[k]'hx8_2))[1]'hx12_1)).getD 0⟩ : PairT)]).flatMap encP⟩]]) 3 0 hM15_4 rfl rfl rfl Tryd.underlying25 el61 ⟨rfl, by decide⟩ rfl rfl rfl (hM15_4.rd 0 rfl) (by rw [flat_len encP_len]; first | done | (simp; done) | (simp; omega)) (all_flat_one (fun _ => rfl) _) (by first | omega | (simp; omega)) (by first | omega | (simp; omega)) (by first | (simp; done) | (simp; omega)) (by simp) (fun _ _ => rfl) (fun w15_5 A15_5 c15_5 hc15_5 hM15_5 => ?_)
            try dsimp only at hM15_5
            refine O.val (v := .slice (A15_5) ((L ++ [(⟨(numS ((splS (58 : UInt8) ((splS (44 : UInt8) s)[k]'hx8_2))[0]'hx11_1)).getD 0, (numS ((splS (58 : UInt8) ((splS (44 : UInt8) s)[k]'hx8_2))[1]'hx12_1)).getD 0⟩ : PairT)]).length) (c15_5)) rfl (Ru.assign rfl) rfl ?_
            refine O.nil ?_
            refine C.region ?_
            refine O.val (v := I (((k : Nat) : Int))) rfl (Ru.move rfl) rfl ?_
            refine O.val (v := I ((((k + 1) : Nat) : Int))) rfl (Ru.congr (v := I ((((k : Nat) : Int) + 1))) (v' := I ((((k + 1) : Nat) : Int))) (Ru.add rfl rfl (by omega)) (I_congr (by first | omega | simp))) rfl ?_
            refine O.val (v := I ((((k + 1) : Nat) : Int))) rfl (Ru.assign rfl) rfl ?_
            refine O.nil ?_
            have hq9 : (L ++ [(⟨(numS ((splS (58 : UInt8) ((splS (44 : UInt8) s)[k]'hx8_2))[0]'hx11_1)).getD 0, (numS ((splS (58 : UInt8) ((splS (44 : UInt8) s)[k]'hx8_2))[1]'hx12_1)).getD 0⟩ : PairT)] : List PairT) = (L ++ [(⟨(numS ((splS (58 : UInt8) ((splS (44 : UInt8) s)[k]'hx8_2))[0]'hx11_1)).getD 0, (numS ((splS (58 : UInt8) ((splS (44 : UInt8) s)[k]'hx8_2))[1]'hx12_1)).getD 0⟩ : PairT)]) := (by first | rfl | simp | (simp; omega))
            have hMn9 : Mem w w15_5 [] [[⟨.slice (bl b15_4) (1) (1), 61, 2, 1, ([(⟨(numS ((splS (58 : UInt8) ((splS (44 : UInt8) s)[k]'hx8_2))[0]'hx11_1)).getD 0, (numS ((splS (58 : UInt8) ((splS (44 : UInt8) s)[k]'hx8_2))[1]'hx12_1)).getD 0⟩ : PairT)]).flatMap encP⟩], [⟨.slice (A18_4) ((splS (58 : UInt8) ((splS (44 : UInt8) s)[k]'hx8_2)).length) (c18_4), 9, 1, ((splS (58 : UInt8) ((splS (44 : UInt8) s)[k]'hx8_2)).length), (splS (58 : UInt8) ((splS (44 : UInt8) s)[k]'hx8_2)).map S⟩], [⟨.slice (A14_1) ((splS (44 : UInt8) s).length) (c14_1), 9, 1, ((splS (44 : UInt8) s).length), (splS (44 : UInt8) s).map S⟩], [⟨.slice (A15_5) (((L ++ [(⟨(numS ((splS (58 : UInt8) ((splS (44 : UInt8) s)[k]'hx8_2))[0]'hx11_1)).getD 0, (numS ((splS (58 : UInt8) ((splS (44 : UInt8) s)[k]'hx8_2))[1]'hx12_1)).getD 0⟩ : PairT)])).length) (c15_5), 61, 2, (((L ++ [(⟨(numS ((splS (58 : UInt8) ((splS (44 : UInt8) s)[k]'hx8_2))[0]'hx11_1)).getD 0, (numS ((splS (58 : UInt8) ((splS (44 : UInt8) s)[k]'hx8_2))[1]'hx12_1)).getD 0⟩ : PairT)])).length), ((L ++ [(⟨(numS ((splS (58 : UInt8) ((splS (44 : UInt8) s)[k]'hx8_2))[0]'hx11_1)).getD 0, (numS ((splS (58 : UInt8) ((splS (44 : UInt8) s)[k]'hx8_2))[1]'hx12_1)).getD 0⟩ : PairT)])).flatMap encP⟩]] := hM15_5.relen 3 (n' := ((L ++ [(⟨(numS ((splS (58 : UInt8) ((splS (44 : UInt8) s)[k]'hx8_2))[0]'hx11_1)).getD 0, (numS ((splS (58 : UInt8) ((splS (44 : UInt8) s)[k]'hx8_2))[1]'hx12_1)).getD 0⟩ : PairT)])).length) (xs' := ((L ++ [(⟨(numS ((splS (58 : UInt8) ((splS (44 : UInt8) s)[k]'hx8_2))[0]'hx11_1)).getD 0, (numS ((splS (58 : UInt8) ((splS (44 : UInt8) s)[k]'hx8_2))[1]'hx12_1)).getD 0⟩ : PairT)])).flatMap encP) rfl (by first | rfl | exact congrArg List.length hq9 | (have hqq := congrArg List.length hq9; first | omega | (simp at hqq ⊢; omega)) | (simp; done) | (simp; omega)) (congrArg (fun z_ => (z_).flatMap encP) hq9) rfl
            exact loopEnd (k + 1, L ++ [(⟨(numS ((splS (58 : UInt8) ((splS (44 : UInt8) s)[k]'hx8_2))[0]'hx11_1)).getD 0, (numS ((splS (58 : UInt8) ((splS (44 : UInt8) s)[k]'hx8_2))[1]'hx12_1)).getD 0⟩ : PairT)], A15_5, c15_5) (by (try dsimp only); omega) (Has.cons rfl (Has.cons rfl (Has.cons (I_congr (by first | rfl | omega | (simp; omega) | simp)) Has.nil))) ⟨(by (try dsimp only); omega), (parts_take hi1_l6 hx8_2 hpg), (by (try dsimp only); simp; omega), (hMn9.pick [2, 3] (by decide) rfl)⟩
    · refine C.exit ?_
      refine C.seq ?_
      refine C.seq ?_
      refine C.region ?_
      refine O.val (v := .slice (A2) ((L).length) (c2)) rfl (Ru.move rfl) rfl ?_
      have hpa : partsS (splS 44 s) = some L := by rw [← hi1_l6, List.take_of_length_le (by omega)]
      have hpl := parts_len hpa
      refine O.callg [.slice (A2) ((L).length) (c2)] rfl en42 rfl rfl (validRow_fn A2 c2 L w_l6 (hM_l6.rd 1 rfl) (by omega)) ?_
      rintro _ w16_1 ⟨rfl, hR16_1⟩
      have hM16_1 : Mem w w16_1 [] [[⟨.slice (A14_1) ((splS (44 : UInt8) s).length) (c14_1), 9, 1, ((splS (44 : UInt8) s).length), (splS (44 : UInt8) s).map S⟩], [⟨.slice (A2) ((L).length) (c2), 61, 2, ((L).length), (L).flatMap encP⟩]] := Mem.call (Ma := []) hM_l6 hR16_1 rfl
      refine O.val (v := .bool (!(validR L))) rfl (Ru.not rfl) rfl ?_
      refine O.nil ?_
      refine C.condn (b := (validR L)) rfl (fun c60 => ?_) (fun c60 => ?_)
      · refine C.seq ?_
        refine C.region ?_
        refine O.val (v := .slice (none) (0) (0)) rfl (Ru.assign rfl) rfl ?_
        refine O.val (v := .bool (false)) rfl (Ru.assign rfl) rfl ?_
        refine O.nil ?_
        refine C.ret ?_
        refine P2 (v := .slice (none) (0) (0)) (v' := .bool (false)) rfl rfl ?_
        have hn : rowS s = none := row_inv hs0 hpa (by simpa using c60)
        have hMn10 : Mem w w16_1 [] [[⟨.slice (none) (0) (0), 61, 2, 0, ([]).flatMap encP⟩], [⟨.slice (A14_1) ((splS (44 : UInt8) s).length) (c14_1), 9, 1, ((splS (44 : UInt8) s).length), (splS (44 : UInt8) s).map S⟩], [⟨.slice (A2) ((L).length) (c2), 61, 2, ((L).length), (L).flatMap encP⟩]] := Mem.addNil hM16_1
        have hq11 : ([] : List PairT) = (rowS s).getD [] := (by rw [hn]; rfl)
        have hMn11 : Mem w w16_1 [] [[⟨.slice (none) (((rowS s).getD []).length) (0), 61, 2, (((rowS s).getD []).length), ((rowS s).getD []).flatMap encP⟩], [⟨.slice (A14_1) ((splS (44 : UInt8) s).length) (c14_1), 9, 1, ((splS (44 : UInt8) s).length), (splS (44 : UInt8) s).map S⟩], [⟨.slice (A2) ((L).length) (c2), 61, 2, ((L).length), (L).flatMap encP⟩]] := hMn10.relen 0 (n' := ((rowS s).getD []).length) (xs' := ((rowS s).getD []).flatMap encP) rfl (by first | rfl | exact congrArg List.length hq11 | (have hqq := congrArg List.length hq11; first | omega | (simp at hqq ⊢; omega)) | (simp; done) | (simp; omega)) (congrArg (fun z_ => (z_).flatMap encP) hq11) rfl
        exact ⟨none, 0, (by rw [hn]; rfl), (hMn11.pick [0] (by decide) rfl)⟩
      · refine C.skip ?_
        refine C.seq ?_
        refine C.region ?_
        refine O.val (v := .slice (A2) ((L).length) (c2)) rfl (Ru.move rfl) rfl ?_
        refine O.val (v := .slice (A2) ((L).length) (c2)) rfl (Ru.assign rfl) rfl ?_
        refine O.val (v := .bool (true)) rfl (Ru.assign rfl) rfl ?_
        refine O.nil ?_
        refine C.ret ?_
        refine P2 (v := .slice (A2) ((L).length) (c2)) (v' := .bool (true)) rfl rfl ?_
        have hn := row_ok hs0 hpa (by simp_all)
        have hq12 : (L : List PairT) = (rowS s).getD [] := (by rw [hn]; rfl)
        have hMn12 : Mem w w16_1 [] [[⟨.slice (A14_1) ((splS (44 : UInt8) s).length) (c14_1), 9, 1, ((splS (44 : UInt8) s).length), (splS (44 : UInt8) s).map S⟩], [⟨.slice (A2) (((rowS s).getD []).length) (c2), 61, 2, (((rowS s).getD []).length), ((rowS s).getD []).flatMap encP⟩]] := hM16_1.relen 1 (n' := ((rowS s).getD []).length) (xs' := ((rowS s).getD []).flatMap encP) rfl (by first | rfl | exact congrArg List.length hq12 | (have hqq := congrArg List.length hq12; first | omega | (simp at hqq ⊢; omega)) | (simp; done) | (simp; omega)) (congrArg (fun z_ => (z_).flatMap encP) hq12) rfl
        exact ⟨A2, c2, (by rw [hn]; rfl), (hMn12.pick [1] (by decide) rfl)⟩

theorem sParseRow_fn (s : Str) (w : World) (hs : s.length ≤ 1048576) :
    Does Tryd.prog 26 [S (s)] w (fun v w1 => ∃ (A1 : Option Addr) (c1 : Nat), v = .tuple #[.slice (A1) (((rowS s).getD []).length) (c1), .bool ((rowS s).isSome)] ∧ Mem w w1 [] [[⟨.slice (A1) (((rowS s).getD []).length) (c1), 61, 2, (((rowS s).getD []).length), ((rowS s).getD []).flatMap encP⟩]]) := by
  have hM : Mem w w [] [] := Mem.refl
  refine Does.enter2 Tryd.func26 rfl Tryd.results26 Tryd.ntmps26 rfl ?_
  refine C.seq ?_
  refine C.region ?_
  refine O.val (v := .slice (none) (0) (0)) rfl (Ru.assign rfl) rfl ?_
  refine O.val (v := .bool (false)) rfl (Ru.assign rfl) rfl ?_
  refine O.nil ?_
  refine C.seq ?_
  refine C.region ?_
  refine O.val (v := S (s)) rfl (Ru.move rfl) rfl ?_
  refine O.callg [S (s)] rfl en63 rfl rfl (parseRow_fn s w (by first | omega | assumption | (simp; omega) | simp | (intros; omega))) ?_
  rintro _ w1_1 ⟨A11_1, c11_1, rfl, hR1_1⟩
  have hM1_1 : Mem w w1_1 [] [[⟨.slice (A11_1) (((rowS s).getD []).length) (c11_1), 61, 2, (((rowS s).getD []).length), ((rowS s).getD []).flatMap encP⟩]] := Mem.call (Ma := []) hM hR1_1 rfl
  have hcr1_1_0 := (hM1_1.cap 0 rfl).1
  refine O.val (v := .slice (A11_1) (((rowS s).getD []).length) (c11_1)) rfl (Ru.extract rfl rfl) rfl ?_
  refine O.val (v := .bool ((rowS s).isSome)) rfl (Ru.extract rfl rfl) rfl ?_
  refine O.val (v := .slice (A11_1) (((rowS s).getD []).length) (c11_1)) rfl (Ru.assign rfl) rfl ?_
  refine O.val (v := .bool ((rowS s).isSome)) rfl (Ru.assign rfl) rfl ?_
  refine O.nil ?_
  refine C.ret ?_
  refine P2 (v := .slice (A11_1) (((rowS s).getD []).length) (c11_1)) (v' := .bool ((rowS s).isSome)) rfl rfl ?_
  exact ⟨A11_1, c11_1, (by first | rfl | exact sl_congr (by first | omega | (simp; done) | (simp; omega)) | (simp; done)), (hM1_1.pick [0] (by decide) rfl)⟩
end Go.Proofs.YtfdlmimgooeioaaDoor
