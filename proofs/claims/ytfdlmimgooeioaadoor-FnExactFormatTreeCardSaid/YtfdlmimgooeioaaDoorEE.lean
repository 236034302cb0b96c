/- Own layer: part of this seat (EE). Plain theorems; no conditions. -/
import Derived.Test.YtfdlmimgooeioaaDoorED
set_option linter.unusedVariables false
set_option linter.unusedSimpArgs false
namespace Go.Proofs.YtfdlmimgooeioaaDoor
open Go.Px
theorem dec0_fn (n : Int) (w : World) (hn : 0 ≤ n ∧ n < 10) :
    Does Tryd.prog 82 [I (n)] w (fun v w1 => v = S (itoaS n) ∧ Mem w w1 [] []) := by
  have hM : Mem w w [] [] := Mem.refl
  refine Does.enter1 Tryd.func82 rfl Tryd.results82 Tryd.ntmps82 rfl ?_
  refine C.seq ?_
  refine C.region ?_
  refine O.val (v := S ([])) rfl (Ru.assign rfl) rfl ?_
  refine O.nil ?_
  refine C.seq ?_
  refine C.seq ?_
  refine C.region ?_
  refine O.val (v := I (n)) rfl (Ru.move rfl) rfl ?_
  refine O.val (v := .bool (decide (n < 0))) rfl (Ru.lss rfl rfl) rfl ?_
  refine O.val (v := .bool (decide (n < 0))) rfl (Ru.move rfl) rfl ?_
  refine O.partp 5 (n < 0) rfl (fun g5 => ?_) (fun g5 => ?_)
  · exfalso; omega
  · refine O.pass rfl rfl rfl rfl rfl ?_
    refine O.pass rfl rfl rfl rfl rfl ?_
    refine O.pass rfl rfl rfl rfl rfl ?_
    refine O.pass rfl rfl rfl rfl rfl ?_
    refine O.val (v := .bool (false)) rfl (Ru.pickF rfl rfl) rfl ?_
    refine O.nil ?_
    refine C.condF rfl ?_
    refine C.skip ?_
    refine C.seq ?_
    refine C.seq ?_
    refine C.region ?_
    refine O.val (v := I (n)) rfl (Ru.move rfl) rfl ?_
    refine O.val (v := .bool (decide (n < 0))) rfl (Ru.lss rfl rfl) rfl ?_
    refine O.nil ?_
    refine C.cond (p := n < 0) rfl (fun c12 => ?_) (fun c12 => ?_)
    · exfalso; omega
    · refine C.skip ?_
      refine C.seq ?_
      refine C.seq ?_
      refine C.region ?_
      refine O.val (v := I (n)) rfl (Ru.move rfl) rfl ?_
      refine O.val (v := .bool (decide (n < 10))) rfl (Ru.lss rfl rfl) rfl ?_
      refine O.nil ?_
      refine C.cond (p := n < 10) rfl (fun c18 => ?_) (fun c18 => ?_)
      · refine C.seq ?_
        refine C.region ?_
        refine O.val (v := I (n)) rfl (Ru.move rfl) rfl ?_
        refine O.val (v := I ((48 + n))) rfl (Ru.add rfl rfl (by omega)) rfl ?_
        refine O.val (v := .int .u8 ((((UInt8.ofNat (48 + n.toNat))).toNat : Int))) rfl (Ru.conv (c := (((UInt8.ofNat (48 + n.toNat))).toNat : Int)) Tryd.underlying3 Tryd.underlying5 rfl (by exact (IntKind.wrap_u8_of _ (by omega)).trans (by rw [UInt8.toNat_ofNat']; omega))) rfl ?_
        refine O.mlit (sz := 1) (cs := [.int .u8 ((((UInt8.ofNat (48 + n.toNat))).toNat : Int))]) hM rfl Tryd.underlying29 el5 rfl rfl rfl (by kernel_rfl) (by kernel_rfl) rfl rfl (fun w6_3 b6_3 hb6_3 (hM6_3 : Mem w w6_3 [] [[⟨.slice (bl b6_3) (1) (1), 5, 1, 1, ([(UInt8.ofNat (48 + n.toNat))]).map byteV⟩]]) => ?_)
        refine O.val (v := S ([(UInt8.ofNat (48 + n.toNat))])) rfl (Ru.b2s (l := [(UInt8.ofNat (48 + n.toNat))]) Tryd.underlying29 Tryd.underlying5 Tryd.underlying9 rfl (hM6_3.rd 0 rfl)) rfl ?_
        refine O.val (v := S ([(UInt8.ofNat (48 + n.toNat))])) rfl (Ru.assign rfl) rfl ?_
        refine O.nil ?_
        refine C.ret ?_
        refine P1 (v := S ([(UInt8.ofNat (48 + n.toNat))])) rfl ?_
        exact ⟨(by rw [itoa_dig (by omega) (by omega)]), (Mem.none hM6_3)⟩
      · exfalso; omega

theorem dec1_fn (n : Int) (w : World) (hn : 0 ≤ n ∧ n < 100) :
    Does Tryd.prog 82 [I (n)] w (fun v w1 => v = S (itoaS n) ∧ Mem w w1 [] []) := by
  have hM : Mem w w [] [] := Mem.refl
  refine Does.enter1 Tryd.func82 rfl Tryd.results82 Tryd.ntmps82 rfl ?_
  refine C.seq ?_
  refine C.region ?_
  refine O.val (v := S ([])) rfl (Ru.assign rfl) rfl ?_
  refine O.nil ?_
  refine C.seq ?_
  refine C.seq ?_
  refine C.region ?_
  refine O.val (v := I (n)) rfl (Ru.move rfl) rfl ?_
  refine O.val (v := .bool (decide (n < 0))) rfl (Ru.lss rfl rfl) rfl ?_
  refine O.val (v := .bool (decide (n < 0))) rfl (Ru.move rfl) rfl ?_
  refine O.partp 5 (n < 0) rfl (fun g5 => ?_) (fun g5 => ?_)
  · exfalso; omega
  · refine O.pass rfl rfl rfl rfl rfl ?_
    refine O.pass rfl rfl rfl rfl rfl ?_
    refine O.pass rfl rfl rfl rfl rfl ?_
    refine O.pass rfl rfl rfl rfl rfl ?_
    refine O.val (v := .bool (false)) rfl (Ru.pickF rfl rfl) rfl ?_
    refine O.nil ?_
    refine C.condF rfl ?_
    refine C.skip ?_
    refine C.seq ?_
    refine C.seq ?_
    refine C.region ?_
    refine O.val (v := I (n)) rfl (Ru.move rfl) rfl ?_
    refine O.val (v := .bool (decide (n < 0))) rfl (Ru.lss rfl rfl) rfl ?_
    refine O.nil ?_
    refine C.cond (p := n < 0) rfl (fun c12 => ?_) (fun c12 => ?_)
    · exfalso; omega
    · refine C.skip ?_
      refine C.seq ?_
      refine C.seq ?_
      refine C.region ?_
      refine O.val (v := I (n)) rfl (Ru.move rfl) rfl ?_
      refine O.val (v := .bool (decide (n < 10))) rfl (Ru.lss rfl rfl) rfl ?_
      refine O.nil ?_
      refine C.cond (p := n < 10) rfl (fun c18 => ?_) (fun c18 => ?_)
      · refine C.seq ?_
        refine C.region ?_
        refine O.val (v := I (n)) rfl (Ru.move rfl) rfl ?_
        refine O.val (v := I ((48 + n))) rfl (Ru.add rfl rfl (by omega)) rfl ?_
        refine O.val (v := .int .u8 ((((UInt8.ofNat (48 + n.toNat))).toNat : Int))) rfl (Ru.conv (c := (((UInt8.ofNat (48 + n.toNat))).toNat : Int)) Tryd.underlying3 Tryd.underlying5 rfl (by exact (IntKind.wrap_u8_of _ (by omega)).trans (by rw [UInt8.toNat_ofNat']; omega))) rfl ?_
        refine O.mlit (sz := 1) (cs := [.int .u8 ((((UInt8.ofNat (48 + n.toNat))).toNat : Int))]) hM rfl Tryd.underlying29 el5 rfl rfl rfl (by kernel_rfl) (by kernel_rfl) rfl rfl (fun w6_3 b6_3 hb6_3 (hM6_3 : Mem w w6_3 [] [[⟨.slice (bl b6_3) (1) (1), 5, 1, 1, ([(UInt8.ofNat (48 + n.toNat))]).map byteV⟩]]) => ?_)
        refine O.val (v := S ([(UInt8.ofNat (48 + n.toNat))])) rfl (Ru.b2s (l := [(UInt8.ofNat (48 + n.toNat))]) Tryd.underlying29 Tryd.underlying5 Tryd.underlying9 rfl (hM6_3.rd 0 rfl)) rfl ?_
        refine O.val (v := S ([(UInt8.ofNat (48 + n.toNat))])) rfl (Ru.assign rfl) rfl ?_
        refine O.nil ?_
        refine C.ret ?_
        refine P1 (v := S ([(UInt8.ofNat (48 + n.toNat))])) rfl ?_
        exact ⟨(by rw [itoa_dig (by omega) (by omega)]), (Mem.none hM6_3)⟩
      · refine C.skip ?_
        refine C.seq ?_
        refine C.any (f := 11) (ls := [false, false, false, false, false, false, false, false, false, false, false]) (fun w2 => Mem w w2 [] []) mixed rfl rfl (fun w2 hw2 => Mem0.ext (Mem.none hM) hw2) (fun w7a hE7a => ?_)
        have hM7a : Mem w w7a [] [] := Mem0.ext hM hE7a
        refine AO.val (v := I (n)) 0 (ls' := [true, false, false, false, false, false, false, false, false, false, false]) rfl (by kernel_rfl) rfl rfl (fun w2 hw2 => Ru.move rfl) rfl ?_
        refine AO.val (v := I ((n / 10))) 1 (ls' := [true, true, false, false, false, false, false, false, false, false, false]) rfl (by kernel_rfl) rfl rfl (fun w2 hw2 => Ru.quo rfl rfl (by omega)) rfl ?_
        refine AO.val (v := I (n)) 3 (ls' := [true, true, false, true, false, false, false, false, false, false, false]) rfl (by kernel_rfl) rfl rfl (fun w2 hw2 => Ru.move rfl) rfl ?_
        refine AO.val (v := I ((n % 10))) 4 (ls' := [true, true, false, true, true, false, false, false, false, false, false]) rfl (by kernel_rfl) rfl rfl (fun w2 hw2 => Ru.rem rfl rfl (by omega)) rfl ?_
        refine AO.val (v := I ((48 + (n % 10)))) 5 (ls' := [true, true, false, true, true, true, false, false, false, false, false]) rfl (by kernel_rfl) rfl rfl (fun w2 hw2 => Ru.add rfl rfl (by omega)) rfl ?_
        refine AO.val (v := .int .u8 ((((UInt8.ofNat (48 + n.toNat % 10))).toNat : Int))) 6 (ls' := [true, true, false, true, true, true, true, false, false, false, false]) rfl (by kernel_rfl) rfl rfl (fun w2 hw2 => Ru.conv (c := (((UInt8.ofNat (48 + n.toNat % 10))).toNat : Int)) Tryd.underlying3 Tryd.underlying5 rfl (by exact (IntKind.wrap_u8_of _ (by omega)).trans (by rw [UInt8.toNat_ofNat']; omega))) rfl ?_
        refine AO.two 2 7 (by kernel_rfl) ?_ ?_
        · refine step1 (ls' := [true, true, true, true, true, true, true, false, false, false, false]) rfl rfl ?_
          refine O.callg [I ((n / 10))] rfl en82 rfl rfl (dec0_fn (n / 10) w7a (by omega)) ?_
          rintro _ w7_2 ⟨rfl, hR7_2⟩
          have hM7_2 : Mem w w7_2 [] [] := Mem.call (Ma := []) hM7a hR7_2 rfl
          refine O.stop (Mem.none hM7_2) ?_
          refine AO.one 7 (by kernel_rfl) ?_
          refine step1 (ls' := [true, true, true, true, true, true, true, true, false, false, false]) rfl rfl ?_
          refine O.mlit (sz := 1) (cs := [.int .u8 ((((UInt8.ofNat (48 + n.toNat % 10))).toNat : Int))]) hM7_2 rfl Tryd.underlying29 el5 rfl rfl rfl (by kernel_rfl) (by kernel_rfl) rfl rfl (fun w7_7 b7_7 hb7_7 (hM7_7 : Mem w w7_7 [] [[⟨.slice (bl b7_7) (1) (1), 5, 1, 1, ([(UInt8.ofNat (48 + n.toNat % 10))]).map byteV⟩]]) => ?_)
          refine O.stop (Mem.none hM7_7) ?_
          refine AO.one 8 (by kernel_rfl) ?_
          refine step1 (ls' := [true, true, true, true, true, true, true, true, true, false, false]) rfl rfl ?_
          refine O.val (v := S ([(UInt8.ofNat (48 + n.toNat % 10))])) rfl (Ru.b2s (l := [(UInt8.ofNat (48 + n.toNat % 10))]) Tryd.underlying29 Tryd.underlying5 Tryd.underlying9 rfl (hM7_7.rd 0 rfl)) rfl ?_
          refine O.stop (Mem.none hM7_7) ?_
          refine AO.val (v := S ((itoaS (n / 10) ++ [(UInt8.ofNat (48 + n.toNat % 10))]))) 9 (ls' := [true, true, true, true, true, true, true, true, true, true, false]) rfl (by kernel_rfl) rfl rfl (fun w2 hw2 => Ru.sadd rfl rfl (by have := itoa_len (n := n / 10) (by omega) (by omega); simp; omega)) rfl ?_
          refine AO.val (v := S ((itoaS (n / 10) ++ [(UInt8.ofNat (48 + n.toNat % 10))]))) 10 (ls' := [true, true, true, true, true, true, true, true, true, true, true]) rfl (by kernel_rfl) rfl rfl (fun w2 hw2 => Ru.assign rfl) rfl ?_
          refine AO.nil (by kernel_rfl) ?_
          refine C.ret ?_
          refine P1 (v := S ((itoaS (n / 10) ++ [(UInt8.ofNat (48 + n.toNat % 10))]))) rfl ?_
          exact ⟨(by rw [itoa_ten (n := n) (by omega)]), (Mem.none hM7_7)⟩
        · refine step1 (ls' := [true, true, false, true, true, true, true, true, false, false, false]) rfl rfl ?_
          refine O.mlit (sz := 1) (cs := [.int .u8 ((((UInt8.ofNat (48 + n.toNat % 10))).toNat : Int))]) hM7a rfl Tryd.underlying29 el5 rfl rfl rfl (by kernel_rfl) (by kernel_rfl) rfl rfl (fun w7_7 b7_7 hb7_7 (hM7_7 : Mem w w7_7 [] [[⟨.slice (bl b7_7) (1) (1), 5, 1, 1, ([(UInt8.ofNat (48 + n.toNat % 10))]).map byteV⟩]]) => ?_)
          refine O.stop (Mem.none hM7_7) ?_
          refine AO.two 2 8 (by kernel_rfl) ?_ ?_
          · refine step1 (ls' := [true, true, true, true, true, true, true, true, false, false, false]) rfl rfl ?_
            refine O.callg [I ((n / 10))] rfl en82 rfl rfl (dec0_fn (n / 10) w7_7 (by omega)) ?_
            rintro _ w7_2 ⟨rfl, hR7_2⟩
            have hM7_2 : Mem w w7_2 [] [[⟨.slice (bl b7_7) (1) (1), 5, 1, 1, ([(UInt8.ofNat (48 + n.toNat % 10))]).map byteV⟩]] := Mem.call (Ma := []) hM7_7 hR7_2 rfl
            refine O.stop (Mem.none hM7_2) ?_
            refine AO.one 8 (by kernel_rfl) ?_
            refine step1 (ls' := [true, true, true, true, true, true, true, true, true, false, false]) rfl rfl ?_
            refine O.val (v := S ([(UInt8.ofNat (48 + n.toNat % 10))])) rfl (Ru.b2s (l := [(UInt8.ofNat (48 + n.toNat % 10))]) Tryd.underlying29 Tryd.underlying5 Tryd.underlying9 rfl (hM7_2.rd 0 rfl)) rfl ?_
            refine O.stop (Mem.none hM7_2) ?_
            refine AO.val (v := S ((itoaS (n / 10) ++ [(UInt8.ofNat (48 + n.toNat % 10))]))) 9 (ls' := [true, true, true, true, true, true, true, true, true, true, false]) rfl (by kernel_rfl) rfl rfl (fun w2 hw2 => Ru.sadd rfl rfl (by have := itoa_len (n := n / 10) (by omega) (by omega); simp; omega)) rfl ?_
            refine AO.val (v := S ((itoaS (n / 10) ++ [(UInt8.ofNat (48 + n.toNat % 10))]))) 10 (ls' := [true, true, true, true, true, true, true, true, true, true, true]) rfl (by kernel_rfl) rfl rfl (fun w2 hw2 => Ru.assign rfl) rfl ?_
            refine AO.nil (by kernel_rfl) ?_
            refine C.ret ?_
            refine P1 (v := S ((itoaS (n / 10) ++ [(UInt8.ofNat (48 + n.toNat % 10))]))) rfl ?_
            exact ⟨(by rw [itoa_ten (n := n) (by omega)]), (Mem.none hM7_2)⟩
          · refine step1 (ls' := [true, true, false, true, true, true, true, true, true, false, false]) rfl rfl ?_
            refine O.val (v := S ([(UInt8.ofNat (48 + n.toNat % 10))])) rfl (Ru.b2s (l := [(UInt8.ofNat (48 + n.toNat % 10))]) Tryd.underlying29 Tryd.underlying5 Tryd.underlying9 rfl (hM7_7.rd 0 rfl)) rfl ?_
            refine O.stop (Mem.none hM7_7) ?_
            refine AO.one 2 (by kernel_rfl) ?_
            refine step1 (ls' := [true, true, true, true, true, true, true, true, true, false, false]) rfl rfl ?_
            refine O.callg [I ((n / 10))] rfl en82 rfl rfl (dec0_fn (n / 10) w7_7 (by omega)) ?_
            rintro _ w7_2 ⟨rfl, hR7_2⟩
            have hM7_2 : Mem w w7_2 [] [[⟨.slice (bl b7_7) (1) (1), 5, 1, 1, ([(UInt8.ofNat (48 + n.toNat % 10))]).map byteV⟩]] := Mem.call (Ma := []) hM7_7 hR7_2 rfl
            refine O.stop (Mem.none hM7_2) ?_
            refine AO.val (v := S ((itoaS (n / 10) ++ [(UInt8.ofNat (48 + n.toNat % 10))]))) 9 (ls' := [true, true, true, true, true, true, true, true, true, true, false]) rfl (by kernel_rfl) rfl rfl (fun w2 hw2 => Ru.sadd rfl rfl (by have := itoa_len (n := n / 10) (by omega) (by omega); simp; omega)) rfl ?_
            refine AO.val (v := S ((itoaS (n / 10) ++ [(UInt8.ofNat (48 + n.toNat % 10))]))) 10 (ls' := [true, true, true, true, true, true, true, true, true, true, true]) rfl (by kernel_rfl) rfl rfl (fun w2 hw2 => Ru.assign rfl) rfl ?_
            refine AO.nil (by kernel_rfl) ?_
            refine C.ret ?_
            refine P1 (v := S ((itoaS (n / 10) ++ [(UInt8.ofNat (48 + n.toNat % 10))]))) rfl ?_
            exact ⟨(by rw [itoa_ten (n := n) (by omega)]), (Mem.none hM7_2)⟩

theorem dec2_fn (n : Int) (w : World) (hn : 0 ≤ n ∧ n < 1000) :
    Does Tryd.prog 82 [I (n)] w (fun v w1 => v = S (itoaS n) ∧ Mem w w1 [] []) := by
  have hM : Mem w w [] [] := Mem.refl
  refine Does.enter1 Tryd.func82 rfl Tryd.results82 Tryd.ntmps82 rfl ?_
  refine C.seq ?_
  refine C.region ?_
  refine O.val (v := S ([])) rfl (Ru.assign rfl) rfl ?_
  refine O.nil ?_
  refine C.seq ?_
  refine C.seq ?_
  refine C.region ?_
  refine O.val (v := I (n)) rfl (Ru.move rfl) rfl ?_
  refine O.val (v := .bool (decide (n < 0))) rfl (Ru.lss rfl rfl) rfl ?_
  refine O.val (v := .bool (decide (n < 0))) rfl (Ru.move rfl) rfl ?_
  refine O.partp 5 (n < 0) rfl (fun g5 => ?_) (fun g5 => ?_)
  · exfalso; omega
  · refine O.pass rfl rfl rfl rfl rfl ?_
    refine O.pass rfl rfl rfl rfl rfl ?_
    refine O.pass rfl rfl rfl rfl rfl ?_
    refine O.pass rfl rfl rfl rfl rfl ?_
    refine O.val (v := .bool (false)) rfl (Ru.pickF rfl rfl) rfl ?_
    refine O.nil ?_
    refine C.condF rfl ?_
    refine C.skip ?_
    refine C.seq ?_
    refine C.seq ?_
    refine C.region ?_
    refine O.val (v := I (n)) rfl (Ru.move rfl) rfl ?_
    refine O.val (v := .bool (decide (n < 0))) rfl (Ru.lss rfl rfl) rfl ?_
    refine O.nil ?_
    refine C.cond (p := n < 0) rfl (fun c12 => ?_) (fun c12 => ?_)
    · exfalso; omega
    · refine C.skip ?_
      refine C.seq ?_
      refine C.seq ?_
      refine C.region ?_
      refine O.val (v := I (n)) rfl (Ru.move rfl) rfl ?_
      refine O.val (v := .bool (decide (n < 10))) rfl (Ru.lss rfl rfl) rfl ?_
      refine O.nil ?_
      refine C.cond (p := n < 10) rfl (fun c18 => ?_) (fun c18 => ?_)
      · refine C.seq ?_
        refine C.region ?_
        refine O.val (v := I (n)) rfl (Ru.move rfl) rfl ?_
        refine O.val (v := I ((48 + n))) rfl (Ru.add rfl rfl (by omega)) rfl ?_
        refine O.val (v := .int .u8 ((((UInt8.ofNat (48 + n.toNat))).toNat : Int))) rfl (Ru.conv (c := (((UInt8.ofNat (48 + n.toNat))).toNat : Int)) Tryd.underlying3 Tryd.underlying5 rfl (by exact (IntKind.wrap_u8_of _ (by omega)).trans (by rw [UInt8.toNat_ofNat']; omega))) rfl ?_
        refine O.mlit (sz := 1) (cs := [.int .u8 ((((UInt8.ofNat (48 + n.toNat))).toNat : Int))]) hM rfl Tryd.underlying29 el5 rfl rfl rfl (by kernel_rfl) (by kernel_rfl) rfl rfl (fun w6_3 b6_3 hb6_3 (hM6_3 : Mem w w6_3 [] [[⟨.slice (bl b6_3) (1) (1), 5, 1, 1, ([(UInt8.ofNat (48 + n.toNat))]).map byteV⟩]]) => ?_)
        refine O.val (v := S ([(UInt8.ofNat (48 + n.toNat))])) rfl (Ru.b2s (l := [(UInt8.ofNat (48 + n.toNat))]) Tryd.underlying29 Tryd.underlying5 Tryd.underlying9 rfl (hM6_3.rd 0 rfl)) rfl ?_
        refine O.val (v := S ([(UInt8.ofNat (48 + n.toNat))])) rfl (Ru.assign rfl) rfl ?_
        refine O.nil ?_
        refine C.ret ?_
        refine P1 (v := S ([(UInt8.ofNat (48 + n.toNat))])) rfl ?_
        exact ⟨(by rw [itoa_dig (by omega) (by omega)]), (Mem.none hM6_3)⟩
      · refine C.skip ?_
        refine C.seq ?_
        refine C.any (f := 11) (ls := [false, false, false, false, false, false, false, false, false, false, false]) (fun w2 => Mem w w2 [] []) mixed rfl rfl (fun w2 hw2 => Mem0.ext (Mem.none hM) hw2) (fun w7a hE7a => ?_)
        have hM7a : Mem w w7a [] [] := Mem0.ext hM hE7a
        refine AO.val (v := I (n)) 0 (ls' := [true, false, false, false, false, false, false, false, false, false, false]) rfl (by kernel_rfl) rfl rfl (fun w2 hw2 => Ru.move rfl) rfl ?_
        refine AO.val (v := I ((n / 10))) 1 (ls' := [true, true, false, false, false, false, false, false, false, false, false]) rfl (by kernel_rfl) rfl rfl (fun w2 hw2 => Ru.quo rfl rfl (by omega)) rfl ?_
        refine AO.val (v := I (n)) 3 (ls' := [true, true, false, true, false, false, false, false, false, false, false]) rfl (by kernel_rfl) rfl rfl (fun w2 hw2 => Ru.move rfl) rfl ?_
        refine AO.val (v := I ((n % 10))) 4 (ls' := [true, true, false, true, true, false, false, false, false, false, false]) rfl (by kernel_rfl) rfl rfl (fun w2 hw2 => Ru.rem rfl rfl (by omega)) rfl ?_
        refine AO.val (v := I ((48 + (n % 10)))) 5 (ls' := [true, true, false, true, true, true, false, false, false, false, false]) rfl (by kernel_rfl) rfl rfl (fun w2 hw2 => Ru.add rfl rfl (by omega)) rfl ?_
        refine AO.val (v := .int .u8 ((((UInt8.ofNat (48 + n.toNat % 10))).toNat : Int))) 6 (ls' := [true, true, false, true, true, true, true, false, false, false, false]) rfl (by kernel_rfl) rfl rfl (fun w2 hw2 => Ru.conv (c := (((UInt8.ofNat (48 + n.toNat % 10))).toNat : Int)) Tryd.underlying3 Tryd.underlying5 rfl (by exact (IntKind.wrap_u8_of _ (by omega)).trans (by rw [UInt8.toNat_ofNat']; omega))) rfl ?_
        refine AO.two 2 7 (by kernel_rfl) ?_ ?_
        · refine step1 (ls' := [true, true, true, true, true, true, true, false, false, false, false]) rfl rfl ?_
          refine O.callg [I ((n / 10))] rfl en82 rfl rfl (dec1_fn (n / 10) w7a (by omega)) ?_
          rintro _ w7_2 ⟨rfl, hR7_2⟩
          have hM7_2 : Mem w w7_2 [] [] := Mem.call (Ma := []) hM7a hR7_2 rfl
          refine O.stop (Mem.none hM7_2) ?_
          refine AO.one 7 (by kernel_rfl) ?_
          refine step1 (ls' := [true, true, true, true, true, true, true, true, false, false, false]) rfl rfl ?_
          refine O.mlit (sz := 1) (cs := [.int .u8 ((((UInt8.ofNat (48 + n.toNat % 10))).toNat : Int))]) hM7_2 rfl Tryd.underlying29 el5 rfl rfl rfl (by kernel_rfl) (by kernel_rfl) rfl rfl (fun w7_7 b7_7 hb7_7 (hM7_7 : Mem w w7_7 [] [[⟨.slice (bl b7_7) (1) (1), 5, 1, 1, ([(UInt8.ofNat (48 + n.toNat % 10))]).map byteV⟩]]) => ?_)
          refine O.stop (Mem.none hM7_7) ?_
          refine AO.one 8 (by kernel_rfl) ?_
          refine step1 (ls' := [true, true, true, true, true, true, true, true, true, false, false]) rfl rfl ?_
          refine O.val (v := S ([(UInt8.ofNat (48 + n.toNat % 10))])) rfl (Ru.b2s (l := [(UInt8.ofNat (48 + n.toNat % 10))]) Tryd.underlying29 Tryd.underlying5 Tryd.underlying9 rfl (hM7_7.rd 0 rfl)) rfl ?_
          refine O.stop (Mem.none hM7_7) ?_
          refine AO.val (v := S ((itoaS (n / 10) ++ [(UInt8.ofNat (48 + n.toNat % 10))]))) 9 (ls' := [true, true, true, true, true, true, true, true, true, true, false]) rfl (by kernel_rfl) rfl rfl (fun w2 hw2 => Ru.sadd rfl rfl (by have := itoa_len (n := n / 10) (by omega) (by omega); simp; omega)) rfl ?_
          refine AO.val (v := S ((itoaS (n / 10) ++ [(UInt8.ofNat (48 + n.toNat % 10))]))) 10 (ls' := [true, true, true, true, true, true, true, true, true, true, true]) rfl (by kernel_rfl) rfl rfl (fun w2 hw2 => Ru.assign rfl) rfl ?_
          refine AO.nil (by kernel_rfl) ?_
          refine C.ret ?_
          refine P1 (v := S ((itoaS (n / 10) ++ [(UInt8.ofNat (48 + n.toNat % 10))]))) rfl ?_
          exact ⟨(by rw [itoa_ten (n := n) (by omega)]), (Mem.none hM7_7)⟩
        · refine step1 (ls' := [true, true, false, true, true, true, true, true, false, false, false]) rfl rfl ?_
          refine O.mlit (sz := 1) (cs := [.int .u8 ((((UInt8.ofNat (48 + n.toNat % 10))).toNat : Int))]) hM7a rfl Tryd.underlying29 el5 rfl rfl rfl (by kernel_rfl) (by kernel_rfl) rfl rfl (fun w7_7 b7_7 hb7_7 (hM7_7 : Mem w w7_7 [] [[⟨.slice (bl b7_7) (1) (1), 5, 1, 1, ([(UInt8.ofNat (48 + n.toNat % 10))]).map byteV⟩]]) => ?_)
          refine O.stop (Mem.none hM7_7) ?_
          refine AO.two 2 8 (by kernel_rfl) ?_ ?_
          · refine step1 (ls' := [true, true, true, true, true, true, true, true, false, false, false]) rfl rfl ?_
            refine O.callg [I ((n / 10))] rfl en82 rfl rfl (dec1_fn (n / 10) w7_7 (by omega)) ?_
            rintro _ w7_2 ⟨rfl, hR7_2⟩
            have hM7_2 : Mem w w7_2 [] [[⟨.slice (bl b7_7) (1) (1), 5, 1, 1, ([(UInt8.ofNat (48 + n.toNat % 10))]).map byteV⟩]] := Mem.call (Ma := []) hM7_7 hR7_2 rfl
            refine O.stop (Mem.none hM7_2) ?_
            refine AO.one 8 (by kernel_rfl) ?_
            refine step1 (ls' := [true, true, true, true, true, true, true, true, true, false, false]) rfl rfl ?_
            refine O.val (v := S ([(UInt8.ofNat (48 + n.toNat % 10))])) rfl (Ru.b2s (l := [(UInt8.ofNat (48 + n.toNat % 10))]) Tryd.underlying29 Tryd.underlying5 Tryd.underlying9 rfl (hM7_2.rd 0 rfl)) rfl ?_
            refine O.stop (Mem.none hM7_2) ?_
            refine AO.val (v := S ((itoaS (n / 10) ++ [(UInt8.ofNat (48 + n.toNat % 10))]))) 9 (ls' := [true, true, true, true, true, true, true, true, true, true, false]) rfl (by kernel_rfl) rfl rfl (fun w2 hw2 => Ru.sadd rfl rfl (by have := itoa_len (n := n / 10) (by omega) (by omega); simp; omega)) rfl ?_
            refine AO.val (v := S ((itoaS (n / 10) ++ [(UInt8.ofNat (48 + n.toNat % 10))]))) 10 (ls' := [true, true, true, true, true, true, true, true, true, true, true]) rfl (by kernel_rfl) rfl rfl (fun w2 hw2 => Ru.assign rfl) rfl ?_
            refine AO.nil (by kernel_rfl) ?_
            refine C.ret ?_
            refine P1 (v := S ((itoaS (n / 10) ++ [(UInt8.ofNat (48 + n.toNat % 10))]))) rfl ?_
            exact ⟨(by rw [itoa_ten (n := n) (by omega)]), (Mem.none hM7_2)⟩
          · refine step1 (ls' := [true, true, false, true, true, true, true, true, true, false, false]) rfl rfl ?_
            refine O.val (v := S ([(UInt8.ofNat (48 + n.toNat % 10))])) rfl (Ru.b2s (l := [(UInt8.ofNat (48 + n.toNat % 10))]) Tryd.underlying29 Tryd.underlying5 Tryd.underlying9 rfl (hM7_7.rd 0 rfl)) rfl ?_
            refine O.stop (Mem.none hM7_7) ?_
            refine AO.one 2 (by kernel_rfl) ?_
            refine step1 (ls' := [true, true, true, true, true, true, true, true, true, false, false]) rfl rfl ?_
            refine O.callg [I ((n / 10))] rfl en82 rfl rfl (dec1_fn (n / 10) w7_7 (by omega)) ?_
            rintro _ w7_2 ⟨rfl, hR7_2⟩
            have hM7_2 : Mem w w7_2 [] [[⟨.slice (bl b7_7) (1) (1), 5, 1, 1, ([(UInt8.ofNat (48 + n.toNat % 10))]).map byteV⟩]] := Mem.call (Ma := []) hM7_7 hR7_2 rfl
            refine O.stop (Mem.none hM7_2) ?_
            refine AO.val (v := S ((itoaS (n / 10) ++ [(UInt8.ofNat (48 + n.toNat % 10))]))) 9 (ls' := [true, true, true, true, true, true, true, true, true, true, false]) rfl (by kernel_rfl) rfl rfl (fun w2 hw2 => Ru.sadd rfl rfl (by have := itoa_len (n := n / 10) (by omega) (by omega); simp; omega)) rfl ?_
            refine AO.val (v := S ((itoaS (n / 10) ++ [(UInt8.ofNat (48 + n.toNat % 10))]))) 10 (ls' := [true, true, true, true, true, true, true, true, true, true, true]) rfl (by kernel_rfl) rfl rfl (fun w2 hw2 => Ru.assign rfl) rfl ?_
            refine AO.nil (by kernel_rfl) ?_
            refine C.ret ?_
            refine P1 (v := S ((itoaS (n / 10) ++ [(UInt8.ofNat (48 + n.toNat % 10))]))) rfl ?_
            exact ⟨(by rw [itoa_ten (n := n) (by omega)]), (Mem.none hM7_2)⟩

theorem dec3_fn (n : Int) (w : World) (hn : 0 ≤ n ∧ n < 10000) :
    Does Tryd.prog 82 [I (n)] w (fun v w1 => v = S (itoaS n) ∧ Mem w w1 [] []) := by
  have hM : Mem w w [] [] := Mem.refl
  refine Does.enter1 Tryd.func82 rfl Tryd.results82 Tryd.ntmps82 rfl ?_
  refine C.seq ?_
  refine C.region ?_
  refine O.val (v := S ([])) rfl (Ru.assign rfl) rfl ?_
  refine O.nil ?_
  refine C.seq ?_
  refine C.seq ?_
  refine C.region ?_
  refine O.val (v := I (n)) rfl (Ru.move rfl) rfl ?_
  refine O.val (v := .bool (decide (n < 0))) rfl (Ru.lss rfl rfl) rfl ?_
  refine O.val (v := .bool (decide (n < 0))) rfl (Ru.move rfl) rfl ?_
  refine O.partp 5 (n < 0) rfl (fun g5 => ?_) (fun g5 => ?_)
  · exfalso; omega
  · refine O.pass rfl rfl rfl rfl rfl ?_
    refine O.pass rfl rfl rfl rfl rfl ?_
    refine O.pass rfl rfl rfl rfl rfl ?_
    refine O.pass rfl rfl rfl rfl rfl ?_
    refine O.val (v := .bool (false)) rfl (Ru.pickF rfl rfl) rfl ?_
    refine O.nil ?_
    refine C.condF rfl ?_
    refine C.skip ?_
    refine C.seq ?_
    refine C.seq ?_
    refine C.region ?_
    refine O.val (v := I (n)) rfl (Ru.move rfl) rfl ?_
    refine O.val (v := .bool (decide (n < 0))) rfl (Ru.lss rfl rfl) rfl ?_
    refine O.nil ?_
    refine C.cond (p := n < 0) rfl (fun c12 => ?_) (fun c12 => ?_)
    · exfalso; omega
    · refine C.skip ?_
      refine C.seq ?_
      refine C.seq ?_
      refine C.region ?_
      refine O.val (v := I (n)) rfl (Ru.move rfl) rfl ?_
      refine O.val (v := .bool (decide (n < 10))) rfl (Ru.lss rfl rfl) rfl ?_
      refine O.nil ?_
      refine C.cond (p := n < 10) rfl (fun c18 => ?_) (fun c18 => ?_)
      · refine C.seq ?_
        refine C.region ?_
        refine O.val (v := I (n)) rfl (Ru.move rfl) rfl ?_
        refine O.val (v := I ((48 + n))) rfl (Ru.add rfl rfl (by omega)) rfl ?_
        refine O.val (v := .int .u8 ((((UInt8.ofNat (48 + n.toNat))).toNat : Int))) rfl (Ru.conv (c := (((UInt8.ofNat (48 + n.toNat))).toNat : Int)) Tryd.underlying3 Tryd.underlying5 rfl (by exact (IntKind.wrap_u8_of _ (by omega)).trans (by rw [UInt8.toNat_ofNat']; omega))) rfl ?_
        refine O.mlit (sz := 1) (cs := [.int .u8 ((((UInt8.ofNat (48 + n.toNat))).toNat : Int))]) hM rfl Tryd.underlying29 el5 rfl rfl rfl (by kernel_rfl) (by kernel_rfl) rfl rfl (fun w6_3 b6_3 hb6_3 (hM6_3 : Mem w w6_3 [] [[⟨.slice (bl b6_3) (1) (1), 5, 1, 1, ([(UInt8.ofNat (48 + n.toNat))]).map byteV⟩]]) => ?_)
        refine O.val (v := S ([(UInt8.ofNat (48 + n.toNat))])) rfl (Ru.b2s (l := [(UInt8.ofNat (48 + n.toNat))]) Tryd.underlying29 Tryd.underlying5 Tryd.underlying9 rfl (hM6_3.rd 0 rfl)) rfl ?_
        refine O.val (v := S ([(UInt8.ofNat (48 + n.toNat))])) rfl (Ru.assign rfl) rfl ?_
        refine O.nil ?_
        refine C.ret ?_
        refine P1 (v := S ([(UInt8.ofNat (48 + n.toNat))])) rfl ?_
        exact ⟨(by rw [itoa_dig (by omega) (by omega)]), (Mem.none hM6_3)⟩
      · refine C.skip ?_
        refine C.seq ?_
        refine C.any (f := 11) (ls := [false, false, false, false, false, false, false, false, false, false, false]) (fun w2 => Mem w w2 [] []) mixed rfl rfl (fun w2 hw2 => Mem0.ext (Mem.none hM) hw2) (fun w7a hE7a => ?_)
        have hM7a : Mem w w7a [] [] := Mem0.ext hM hE7a
        refine AO.val (v := I (n)) 0 (ls' := [true, false, false, false, false, false, false, false, false, false, false]) rfl (by kernel_rfl) rfl rfl (fun w2 hw2 => Ru.move rfl) rfl ?_
        refine AO.val (v := I ((n / 10))) 1 (ls' := [true, true, false, false, false, false, false, false, false, false, false]) rfl (by kernel_rfl) rfl rfl (fun w2 hw2 => Ru.quo rfl rfl (by omega)) rfl ?_
        refine AO.val (v := I (n)) 3 (ls' := [true, true, false, true, false, false, false, false, false, false, false]) rfl (by kernel_rfl) rfl rfl (fun w2 hw2 => Ru.move rfl) rfl ?_
        refine AO.val (v := I ((n % 10))) 4 (ls' := [true, true, false, true, true, false, false, false, false, false, false]) rfl (by kernel_rfl) rfl rfl (fun w2 hw2 => Ru.rem rfl rfl (by omega)) rfl ?_
        refine AO.val (v := I ((48 + (n % 10)))) 5 (ls' := [true, true, false, true, true, true, false, false, false, false, false]) rfl (by kernel_rfl) rfl rfl (fun w2 hw2 => Ru.add rfl rfl (by omega)) rfl ?_
        refine AO.val (v := .int .u8 ((((UInt8.ofNat (48 + n.toNat % 10))).toNat : Int))) 6 (ls' := [true, true, false, true, true, true, true, false, false, false, false]) rfl (by kernel_rfl) rfl rfl (fun w2 hw2 => Ru.conv (c := (((UInt8.ofNat (48 + n.toNat % 10))).toNat : Int)) Tryd.underlying3 Tryd.underlying5 rfl (by exact (IntKind.wrap_u8_of _ (by omega)).trans (by rw [UInt8.toNat_ofNat']; omega))) rfl ?_
        refine AO.two 2 7 (by kernel_rfl) ?_ ?_
        · refine step1 (ls' := [true, true, true, true, true, true, true, false, false, false, false]) rfl rfl ?_
          refine O.callg [I ((n / 10))] rfl en82 rfl rfl (dec2_fn (n / 10) w7a (by omega)) ?_
          rintro _ w7_2 ⟨rfl, hR7_2⟩
          have hM7_2 : Mem w w7_2 [] [] := Mem.call (Ma := []) hM7a hR7_2 rfl
          refine O.stop (Mem.none hM7_2) ?_
          refine AO.one 7 (by kernel_rfl) ?_
          refine step1 (ls' := [true, true, true, true, true, true, true, true, false, false, false]) rfl rfl ?_
          refine O.mlit (sz := 1) (cs := [.int .u8 ((((UInt8.ofNat (48 + n.toNat % 10))).toNat : Int))]) hM7_2 rfl Tryd.underlying29 el5 rfl rfl rfl (by kernel_rfl) (by kernel_rfl) rfl rfl (fun w7_7 b7_7 hb7_7 (hM7_7 : Mem w w7_7 [] [[⟨.slice (bl b7_7) (1) (1), 5, 1, 1, ([(UInt8.ofNat (48 + n.toNat % 10))]).map byteV⟩]]) => ?_)
          refine O.stop (Mem.none hM7_7) ?_
          refine AO.one 8 (by kernel_rfl) ?_
          refine step1 (ls' := [true, true, true, true, true, true, true, true, true, false, false]) rfl rfl ?_
          refine O.val (v := S ([(UInt8.ofNat (48 + n.toNat % 10))])) rfl (Ru.b2s (l := [(UInt8.ofNat (48 + n.toNat % 10))]) Tryd.underlying29 Tryd.underlying5 Tryd.underlying9 rfl (hM7_7.rd 0 rfl)) rfl ?_
          refine O.stop (Mem.none hM7_7) ?_
          refine AO.val (v := S ((itoaS (n / 10) ++ [(UInt8.ofNat (48 + n.toNat % 10))]))) 9 (ls' := [true, true, true, true, true, true, true, true, true, true, false]) rfl (by kernel_rfl) rfl rfl (fun w2 hw2 => Ru.sadd rfl rfl (by have := itoa_len (n := n / 10) (by omega) (by omega); simp; omega)) rfl ?_
          refine AO.val (v := S ((itoaS (n / 10) ++ [(UInt8.ofNat (48 + n.toNat % 10))]))) 10 (ls' := [true, true, true, true, true, true, true, true, true, true, true]) rfl (by kernel_rfl) rfl rfl (fun w2 hw2 => Ru.assign rfl) rfl ?_
          refine AO.nil (by kernel_rfl) ?_
          refine C.ret ?_
          refine P1 (v := S ((itoaS (n / 10) ++ [(UInt8.ofNat (48 + n.toNat % 10))]))) rfl ?_
          exact ⟨(by rw [itoa_ten (n := n) (by omega)]), (Mem.none hM7_7)⟩
        · refine step1 (ls' := [true, true, false, true, true, true, true, true, false, false, false]) rfl rfl ?_
          refine O.mlit (sz := 1) (cs := [.int .u8 ((((UInt8.ofNat (48 + n.toNat % 10))).toNat : Int))]) hM7a rfl Tryd.underlying29 el5 rfl rfl rfl (by kernel_rfl) (by kernel_rfl) rfl rfl (fun w7_7 b7_7 hb7_7 (hM7_7 : Mem w w7_7 [] [[⟨.slice (bl b7_7) (1) (1), 5, 1, 1, ([(UInt8.ofNat (48 + n.toNat % 10))]).map byteV⟩]]) => ?_)
          refine O.stop (Mem.none hM7_7) ?_
          refine AO.two 2 8 (by kernel_rfl) ?_ ?_
          · refine step1 (ls' := [true, true, true, true, true, true, true, true, false, false, false]) rfl rfl ?_
            refine O.callg [I ((n / 10))] rfl en82 rfl rfl (dec2_fn (n / 10) w7_7 (by omega)) ?_
            rintro _ w7_2 ⟨rfl, hR7_2⟩
            have hM7_2 : Mem w w7_2 [] [[⟨.slice (bl b7_7) (1) (1), 5, 1, 1, ([(UInt8.ofNat (48 + n.toNat % 10))]).map byteV⟩]] := Mem.call (Ma := []) hM7_7 hR7_2 rfl
            refine O.stop (Mem.none hM7_2) ?_
            refine AO.one 8 (by kernel_rfl) ?_
            refine step1 (ls' := [true, true, true, true, true, true, true, true, true, false, false]) rfl rfl ?_
            refine O.val (v := S ([(UInt8.ofNat (48 + n.toNat % 10))])) rfl (Ru.b2s (l := [(UInt8.ofNat (48 + n.toNat % 10))]) Tryd.underlying29 Tryd.underlying5 Tryd.underlying9 rfl (hM7_2.rd 0 rfl)) rfl ?_
            refine O.stop (Mem.none hM7_2) ?_
            refine AO.val (v := S ((itoaS (n / 10) ++ [(UInt8.ofNat (48 + n.toNat % 10))]))) 9 (ls' := [true, true, true, true, true, true, true, true, true, true, false]) rfl (by kernel_rfl) rfl rfl (fun w2 hw2 => Ru.sadd rfl rfl (by have := itoa_len (n := n / 10) (by omega) (by omega); simp; omega)) rfl ?_
            refine AO.val (v := S ((itoaS (n / 10) ++ [(UInt8.ofNat (48 + n.toNat % 10))]))) 10 (ls' := [true, true, true, true, true, true, true, true, true, true, true]) rfl (by kernel_rfl) rfl rfl (fun w2 hw2 => Ru.assign rfl) rfl ?_
            refine AO.nil (by kernel_rfl) ?_
            refine C.ret ?_
            refine P1 (v := S ((itoaS (n / 10) ++ [(UInt8.ofNat (48 + n.toNat % 10))]))) rfl ?_
            exact ⟨(by rw [itoa_ten (n := n) (by omega)]), (Mem.none hM7_2)⟩
          · refine step1 (ls' := [true, true, false, true, true, true, true, true, true, false, false]) rfl rfl ?_
            refine O.val (v := S ([(UInt8.ofNat (48 + n.toNat % 10))])) rfl (Ru.b2s (l := [(UInt8.ofNat (48 + n.toNat % 10))]) Tryd.underlying29 Tryd.underlying5 Tryd.underlying9 rfl (hM7_7.rd 0 rfl)) rfl ?_
            refine O.stop (Mem.none hM7_7) ?_
            refine AO.one 2 (by kernel_rfl) ?_
            refine step1 (ls' := [true, true, true, true, true, true, true, true, true, false, false]) rfl rfl ?_
            refine O.callg [I ((n / 10))] rfl en82 rfl rfl (dec2_fn (n / 10) w7_7 (by omega)) ?_
            rintro _ w7_2 ⟨rfl, hR7_2⟩
            have hM7_2 : Mem w w7_2 [] [[⟨.slice (bl b7_7) (1) (1), 5, 1, 1, ([(UInt8.ofNat (48 + n.toNat % 10))]).map byteV⟩]] := Mem.call (Ma := []) hM7_7 hR7_2 rfl
            refine O.stop (Mem.none hM7_2) ?_
            refine AO.val (v := S ((itoaS (n / 10) ++ [(UInt8.ofNat (48 + n.toNat % 10))]))) 9 (ls' := [true, true, true, true, true, true, true, true, true, true, false]) rfl (by kernel_rfl) rfl rfl (fun w2 hw2 => Ru.sadd rfl rfl (by have := itoa_len (n := n / 10) (by omega) (by omega); simp; omega)) rfl ?_
            refine AO.val (v := S ((itoaS (n / 10) ++ [(UInt8.ofNat (48 + n.toNat % 10))]))) 10 (ls' := [true, true, true, true, true, true, true, true, true, true, true]) rfl (by kernel_rfl) rfl rfl (fun w2 hw2 => Ru.assign rfl) rfl ?_
            refine AO.nil (by kernel_rfl) ?_
            refine C.ret ?_
            refine P1 (v := S ((itoaS (n / 10) ++ [(UInt8.ofNat (48 + n.toNat % 10))]))) rfl ?_
            exact ⟨(by rw [itoa_ten (n := n) (by omega)]), (Mem.none hM7_2)⟩

theorem dec4_fn (n : Int) (w : World) (hn : 0 ≤ n ∧ n < 100000) :
    Does Tryd.prog 82 [I (n)] w (fun v w1 => v = S (itoaS n) ∧ Mem w w1 [] []) := by
  have hM : Mem w w [] [] := Mem.refl
  refine Does.enter1 Tryd.func82 rfl Tryd.results82 Tryd.ntmps82 rfl ?_
  refine C.seq ?_
  refine C.region ?_
  refine O.val (v := S ([])) rfl (Ru.assign rfl) rfl ?_
  refine O.nil ?_
  refine C.seq ?_
  refine C.seq ?_
  refine C.region ?_
  refine O.val (v := I (n)) rfl (Ru.move rfl) rfl ?_
  refine O.val (v := .bool (decide (n < 0))) rfl (Ru.lss rfl rfl) rfl ?_
  refine O.val (v := .bool (decide (n < 0))) rfl (Ru.move rfl) rfl ?_
  refine O.partp 5 (n < 0) rfl (fun g5 => ?_) (fun g5 => ?_)
  · exfalso; omega
  · refine O.pass rfl rfl rfl rfl rfl ?_
    refine O.pass rfl rfl rfl rfl rfl ?_
    refine O.pass rfl rfl rfl rfl rfl ?_
    refine O.pass rfl rfl rfl rfl rfl ?_
    refine O.val (v := .bool (false)) rfl (Ru.pickF rfl rfl) rfl ?_
    refine O.nil ?_
    refine C.condF rfl ?_
    refine C.skip ?_
    refine C.seq ?_
    refine C.seq ?_
    refine C.region ?_
    refine O.val (v := I (n)) rfl (Ru.move rfl) rfl ?_
    refine O.val (v := .bool (decide (n < 0))) rfl (Ru.lss rfl rfl) rfl ?_
    refine O.nil ?_
    refine C.cond (p := n < 0) rfl (fun c12 => ?_) (fun c12 => ?_)
    · exfalso; omega
    · refine C.skip ?_
      refine C.seq ?_
      refine C.seq ?_
      refine C.region ?_
      refine O.val (v := I (n)) rfl (Ru.move rfl) rfl ?_
      refine O.val (v := .bool (decide (n < 10))) rfl (Ru.lss rfl rfl) rfl ?_
      refine O.nil ?_
      refine C.cond (p := n < 10) rfl (fun c18 => ?_) (fun c18 => ?_)
      · refine C.seq ?_
        refine C.region ?_
        refine O.val (v := I (n)) rfl (Ru.move rfl) rfl ?_
        refine O.val (v := I ((48 + n))) rfl (Ru.add rfl rfl (by omega)) rfl ?_
        refine O.val (v := .int .u8 ((((UInt8.ofNat (48 + n.toNat))).toNat : Int))) rfl (Ru.conv (c := (((UInt8.ofNat (48 + n.toNat))).toNat : Int)) Tryd.underlying3 Tryd.underlying5 rfl (by exact (IntKind.wrap_u8_of _ (by omega)).trans (by rw [UInt8.toNat_ofNat']; omega))) rfl ?_
        refine O.mlit (sz := 1) (cs := [.int .u8 ((((UInt8.ofNat (48 + n.toNat))).toNat : Int))]) hM rfl Tryd.underlying29 el5 rfl rfl rfl (by kernel_rfl) (by kernel_rfl) rfl rfl (fun w6_3 b6_3 hb6_3 (hM6_3 : Mem w w6_3 [] [[⟨.slice (bl b6_3) (1) (1), 5, 1, 1, ([(UInt8.ofNat (48 + n.toNat))]).map byteV⟩]]) => ?_)
        refine O.val (v := S ([(UInt8.ofNat (48 + n.toNat))])) rfl (Ru.b2s (l := [(UInt8.ofNat (48 + n.toNat))]) Tryd.underlying29 Tryd.underlying5 Tryd.underlying9 rfl (hM6_3.rd 0 rfl)) rfl ?_
        refine O.val (v := S ([(UInt8.ofNat (48 + n.toNat))])) rfl (Ru.assign rfl) rfl ?_
        refine O.nil ?_
        refine C.ret ?_
        refine P1 (v := S ([(UInt8.ofNat (48 + n.toNat))])) rfl ?_
        exact ⟨(by rw [itoa_dig (by omega) (by omega)]), (Mem.none hM6_3)⟩
      · refine C.skip ?_
        refine C.seq ?_
        refine C.any (f := 11) (ls := [false, false, false, false, false, false, false, false, false, false, false]) (fun w2 => Mem w w2 [] []) mixed rfl rfl (fun w2 hw2 => Mem0.ext (Mem.none hM) hw2) (fun w7a hE7a => ?_)
        have hM7a : Mem w w7a [] [] := Mem0.ext hM hE7a
        refine AO.val (v := I (n)) 0 (ls' := [true, false, false, false, false, false, false, false, false, false, false]) rfl (by kernel_rfl) rfl rfl (fun w2 hw2 => Ru.move rfl) rfl ?_
        refine AO.val (v := I ((n / 10))) 1 (ls' := [true, true, false, false, false, false, false, false, false, false, false]) rfl (by kernel_rfl) rfl rfl (fun w2 hw2 => Ru.quo rfl rfl (by omega)) rfl ?_
        refine AO.val (v := I (n)) 3 (ls' := [true, true, false, true, false, false, false, false, false, false, false]) rfl (by kernel_rfl) rfl rfl (fun w2 hw2 => Ru.move rfl) rfl ?_
        refine AO.val (v := I ((n % 10))) 4 (ls' := [true, true, false, true, true, false, false, false, false, false, false]) rfl (by kernel_rfl) rfl rfl (fun w2 hw2 => Ru.rem rfl rfl (by omega)) rfl ?_
        refine AO.val (v := I ((48 + (n % 10)))) 5 (ls' := [true, true, false, true, true, true, false, false, false, false, false]) rfl (by kernel_rfl) rfl rfl (fun w2 hw2 => Ru.add rfl rfl (by omega)) rfl ?_
        refine AO.val (v := .int .u8 ((((UInt8.ofNat (48 + n.toNat % 10))).toNat : Int))) 6 (ls' := [true, true, false, true, true, true, true, false, false, false, false]) rfl (by kernel_rfl) rfl rfl (fun w2 hw2 => Ru.conv (c := (((UInt8.ofNat (48 + n.toNat % 10))).toNat : Int)) Tryd.underlying3 Tryd.underlying5 rfl (by exact (IntKind.wrap_u8_of _ (by omega)).trans (by rw [UInt8.toNat_ofNat']; omega))) rfl ?_
        refine AO.two 2 7 (by kernel_rfl) ?_ ?_
        · refine step1 (ls' := [true, true, true, true, true, true, true, false, false, false, false]) rfl rfl ?_
          refine O.callg [I ((n / 10))] rfl en82 rfl rfl (dec3_fn (n / 10) w7a (by omega)) ?_
          rintro _ w7_2 ⟨rfl, hR7_2⟩
          have hM7_2 : Mem w w7_2 [] [] := Mem.call (Ma := []) hM7a hR7_2 rfl
          refine O.stop (Mem.none hM7_2) ?_
          refine AO.one 7 (by kernel_rfl) ?_
          refine step1 (ls' := [true, true, true, true, true, true, true, true, false, false, false]) rfl rfl ?_
          refine O.mlit (sz := 1) (cs := [.int .u8 ((((UInt8.ofNat (48 + n.toNat % 10))).toNat : Int))]) hM7_2 rfl Tryd.underlying29 el5 rfl rfl rfl (by kernel_rfl) (by kernel_rfl) rfl rfl (fun w7_7 b7_7 hb7_7 (hM7_7 : Mem w w7_7 [] [[⟨.slice (bl b7_7) (1) (1), 5, 1, 1, ([(UInt8.ofNat (48 + n.toNat % 10))]).map byteV⟩]]) => ?_)
          refine O.stop (Mem.none hM7_7) ?_
          refine AO.one 8 (by kernel_rfl) ?_
          refine step1 (ls' := [true, true, true, true, true, true, true, true, true, false, false]) rfl rfl ?_
          refine O.val (v := S ([(UInt8.ofNat (48 + n.toNat % 10))])) rfl (Ru.b2s (l := [(UInt8.ofNat (48 + n.toNat % 10))]) Tryd.underlying29 Tryd.underlying5 Tryd.underlying9 rfl (hM7_7.rd 0 rfl)) rfl ?_
          refine O.stop (Mem.none hM7_7) ?_
          refine AO.val (v := S ((itoaS (n / 10) ++ [(UInt8.ofNat (48 + n.toNat % 10))]))) 9 (ls' := [true, true, true, true, true, true, true, true, true, true, false]) rfl (by kernel_rfl) rfl rfl (fun w2 hw2 => Ru.sadd rfl rfl (by have := itoa_len (n := n / 10) (by omega) (by omega); simp; omega)) rfl ?_
          refine AO.val (v := S ((itoaS (n / 10) ++ [(UInt8.ofNat (48 + n.toNat % 10))]))) 10 (ls' := [true, true, true, true, true, true, true, true, true, true, true]) rfl (by kernel_rfl) rfl rfl (fun w2 hw2 => Ru.assign rfl) rfl ?_
          refine AO.nil (by kernel_rfl) ?_
          refine C.ret ?_
          refine P1 (v := S ((itoaS (n / 10) ++ [(UInt8.ofNat (48 + n.toNat % 10))]))) rfl ?_
          exact ⟨(by rw [itoa_ten (n := n) (by omega)]), (Mem.none hM7_7)⟩
        · refine step1 (ls' := [true, true, false, true, true, true, true, true, false, false, false]) rfl rfl ?_
          refine O.mlit (sz := 1) (cs := [.int .u8 ((((UInt8.ofNat (48 + n.toNat % 10))).toNat : Int))]) hM7a rfl Tryd.underlying29 el5 rfl rfl rfl (by kernel_rfl) (by kernel_rfl) rfl rfl (fun w7_7 b7_7 hb7_7 (hM7_7 : Mem w w7_7 [] [[⟨.slice (bl b7_7) (1) (1), 5, 1, 1, ([(UInt8.ofNat (48 + n.toNat % 10))]).map byteV⟩]]) => ?_)
          refine O.stop (Mem.none hM7_7) ?_
          refine AO.two 2 8 (by kernel_rfl) ?_ ?_
          · refine step1 (ls' := [true, true, true, true, true, true, true, true, false, false, false]) rfl rfl ?_
            refine O.callg [I ((n / 10))] rfl en82 rfl rfl (dec3_fn (n / 10) w7_7 (by omega)) ?_
            rintro _ w7_2 ⟨rfl, hR7_2⟩
            have hM7_2 : Mem w w7_2 [] [[⟨.slice (bl b7_7) (1) (1), 5, 1, 1, ([(UInt8.ofNat (48 + n.toNat % 10))]).map byteV⟩]] := Mem.call (Ma := []) hM7_7 hR7_2 rfl
            refine O.stop (Mem.none hM7_2) ?_
            refine AO.one 8 (by kernel_rfl) ?_
            refine step1 (ls' := [true, true, true, true, true, true, true, true, true, false, false]) rfl rfl ?_
            refine O.val (v := S ([(UInt8.ofNat (48 + n.toNat % 10))])) rfl (Ru.b2s (l := [(UInt8.ofNat (48 + n.toNat % 10))]) Tryd.underlying29 Tryd.underlying5 Tryd.underlying9 rfl (hM7_2.rd 0 rfl)) rfl ?_
            refine O.stop (Mem.none hM7_2) ?_
            refine AO.val (v := S ((itoaS (n / 10) ++ [(UInt8.ofNat (48 + n.toNat % 10))]))) 9 (ls' := [true, true, true, true, true, true, true, true, true, true, false]) rfl (by kernel_rfl) rfl rfl (fun w2 hw2 => Ru.sadd rfl rfl (by have := itoa_len (n := n / 10) (by omega) (by omega); simp; omega)) rfl ?_
            refine AO.val (v := S ((itoaS (n / 10) ++ [(UInt8.ofNat (48 + n.toNat % 10))]))) 10 (ls' := [true, true, true, true, true, true, true, true, true, true, true]) rfl (by kernel_rfl) rfl rfl (fun w2 hw2 => Ru.assign rfl) rfl ?_
            refine AO.nil (by kernel_rfl) ?_
            refine C.ret ?_
            refine P1 (v := S ((itoaS (n / 10) ++ [(UInt8.ofNat (48 + n.toNat % 10))]))) rfl ?_
            exact ⟨(by rw [itoa_ten (n := n) (by omega)]), (Mem.none hM7_2)⟩
          · refine step1 (ls' := [true, true, false, true, true, true, true, true, true, false, false]) rfl rfl ?_
            refine O.val (v := S ([(UInt8.ofNat (48 + n.toNat % 10))])) rfl (Ru.b2s (l := [(UInt8.ofNat (48 + n.toNat % 10))]) Tryd.underlying29 Tryd.underlying5 Tryd.underlying9 rfl (hM7_7.rd 0 rfl)) rfl ?_
            refine O.stop (Mem.none hM7_7) ?_
            refine AO.one 2 (by kernel_rfl) ?_
            refine step1 (ls' := [true, true, true, true, true, true, true, true, true, false, false]) rfl rfl ?_
            refine O.callg [I ((n / 10))] rfl en82 rfl rfl (dec3_fn (n / 10) w7_7 (by omega)) ?_
            rintro _ w7_2 ⟨rfl, hR7_2⟩
            have hM7_2 : Mem w w7_2 [] [[⟨.slice (bl b7_7) (1) (1), 5, 1, 1, ([(UInt8.ofNat (48 + n.toNat % 10))]).map byteV⟩]] := Mem.call (Ma := []) hM7_7 hR7_2 rfl
            refine O.stop (Mem.none hM7_2) ?_
            refine AO.val (v := S ((itoaS (n / 10) ++ [(UInt8.ofNat (48 + n.toNat % 10))]))) 9 (ls' := [true, true, true, true, true, true, true, true, true, true, false]) rfl (by kernel_rfl) rfl rfl (fun w2 hw2 => Ru.sadd rfl rfl (by have := itoa_len (n := n / 10) (by omega) (by omega); simp; omega)) rfl ?_
            refine AO.val (v := S ((itoaS (n / 10) ++ [(UInt8.ofNat (48 + n.toNat % 10))]))) 10 (ls' := [true, true, true, true, true, true, true, true, true, true, true]) rfl (by kernel_rfl) rfl rfl (fun w2 hw2 => Ru.assign rfl) rfl ?_
            refine AO.nil (by kernel_rfl) ?_
            refine C.ret ?_
            refine P1 (v := S ((itoaS (n / 10) ++ [(UInt8.ofNat (48 + n.toNat % 10))]))) rfl ?_
            exact ⟨(by rw [itoa_ten (n := n) (by omega)]), (Mem.none hM7_2)⟩

theorem decimal_fn (n : Int) (w : World) (hn : -99999 ≤ n ∧ n ≤ 99999) :
    Does Tryd.prog 82 [I (n)] w (fun v w1 => v = S (itoaS n) ∧ Mem w w1 [] []) := by
  have hM : Mem w w [] [] := Mem.refl
  refine Does.enter1 Tryd.func82 rfl Tryd.results82 Tryd.ntmps82 rfl ?_
  refine C.seq ?_
  refine C.region ?_
  refine O.val (v := S ([])) rfl (Ru.assign rfl) rfl ?_
  refine O.nil ?_
  refine C.seq ?_
  refine C.seq ?_
  refine C.region ?_
  refine O.val (v := I (n)) rfl (Ru.move rfl) rfl ?_
  refine O.val (v := .bool (decide (n < 0))) rfl (Ru.lss rfl rfl) rfl ?_
  refine O.val (v := .bool (decide (n < 0))) rfl (Ru.move rfl) rfl ?_
  refine O.partp 5 (n < 0) rfl (fun g5 => ?_) (fun g5 => ?_)
  · refine O.val (v := I (n)) rfl (Ru.move rfl) rfl ?_
    refine O.val (v := I (n)) rfl (Ru.move rfl) rfl ?_
    refine O.val (v := I (-(n))) rfl (Ru.neg rfl (by omega)) rfl ?_
    refine O.val (v := .bool (false)) rfl (Ru.congr (v := .bool (decide (n = -(n)))) (v' := .bool (false)) (Ru.eql rfl rfl) ((congrArg Value.bool (decide_eq_false (by omega))))) rfl ?_
    refine O.val (v := .bool (false)) rfl (Ru.pickT rfl rfl) rfl ?_
    refine O.nil ?_
    refine C.condF rfl ?_
    refine C.skip ?_
    refine C.seq ?_
    refine C.seq ?_
    refine C.region ?_
    refine O.val (v := I (n)) rfl (Ru.move rfl) rfl ?_
    refine O.val (v := .bool (decide (n < 0))) rfl (Ru.lss rfl rfl) rfl ?_
    refine O.nil ?_
    refine C.cond (p := n < 0) rfl (fun c12 => ?_) (fun c12 => ?_)
    · refine C.seq ?_
      refine C.region ?_
      refine O.val (v := I (n)) rfl (Ru.move rfl) rfl ?_
      refine O.val (v := I (-(n))) rfl (Ru.neg rfl (by omega)) rfl ?_
      refine O.callg [I (-(n))] rfl en82 rfl rfl (dec4_fn (-(n)) w (by omega)) ?_
      rintro _ w4_2 ⟨rfl, hR4_2⟩
      have hM4_2 : Mem w w4_2 [] [] := Mem.call (Ma := []) hM hR4_2 rfl
      refine O.val (v := S (([45] ++ itoaS (-(n))))) rfl (Ru.sadd rfl rfl (by have := itoa_len (n := -n) (by omega) (by omega); simp; omega)) rfl ?_
      refine O.val (v := S (([45] ++ itoaS (-(n))))) rfl (Ru.assign rfl) rfl ?_
      refine O.nil ?_
      refine C.ret ?_
      refine P1 (v := S (([45] ++ itoaS (-(n))))) rfl ?_
      exact ⟨(by rw [itoa_min (n := n) (by omega)]; rfl), (Mem.none hM4_2)⟩
    · refine C.skip ?_
      refine C.seq ?_
      refine C.seq ?_
      refine C.region ?_
      refine O.val (v := I (n)) rfl (Ru.move rfl) rfl ?_
      refine O.val (v := .bool (decide (n < 10))) rfl (Ru.lss rfl rfl) rfl ?_
      refine O.nil ?_
      refine C.cond (p := n < 10) rfl (fun c18 => ?_) (fun c18 => ?_)
      · refine C.seq ?_
        refine C.region ?_
        refine O.val (v := I (n)) rfl (Ru.move rfl) rfl ?_
        refine O.val (v := I ((48 + n))) rfl (Ru.add rfl rfl (by omega)) rfl ?_
        refine O.val (v := .int .u8 ((((UInt8.ofNat (48 + n.toNat))).toNat : Int))) rfl (Ru.conv (c := (((UInt8.ofNat (48 + n.toNat))).toNat : Int)) Tryd.underlying3 Tryd.underlying5 rfl (by exact (IntKind.wrap_u8_of _ (by omega)).trans (by rw [UInt8.toNat_ofNat']; omega))) rfl ?_
        refine O.mlit (sz := 1) (cs := [.int .u8 ((((UInt8.ofNat (48 + n.toNat))).toNat : Int))]) hM rfl Tryd.underlying29 el5 rfl rfl rfl (by kernel_rfl) (by kernel_rfl) rfl rfl (fun w6_3 b6_3 hb6_3 (hM6_3 : Mem w w6_3 [] [[⟨.slice (bl b6_3) (1) (1), 5, 1, 1, ([(UInt8.ofNat (48 + n.toNat))]).map byteV⟩]]) => ?_)
        refine O.val (v := S ([(UInt8.ofNat (48 + n.toNat))])) rfl (Ru.b2s (l := [(UInt8.ofNat (48 + n.toNat))]) Tryd.underlying29 Tryd.underlying5 Tryd.underlying9 rfl (hM6_3.rd 0 rfl)) rfl ?_
        refine O.val (v := S ([(UInt8.ofNat (48 + n.toNat))])) rfl (Ru.assign rfl) rfl ?_
        refine O.nil ?_
        refine C.ret ?_
        refine P1 (v := S ([(UInt8.ofNat (48 + n.toNat))])) rfl ?_
        exact ⟨(by rw [itoa_dig (by omega) (by omega)]), (Mem.none hM6_3)⟩
      · refine C.skip ?_
        refine C.seq ?_
        refine C.any (f := 11) (ls := [false, false, false, false, false, false, false, false, false, false, false]) (fun w2 => Mem w w2 [] []) mixed rfl rfl (fun w2 hw2 => Mem0.ext (Mem.none hM) hw2) (fun w7a hE7a => ?_)
        have hM7a : Mem w w7a [] [] := Mem0.ext hM hE7a
        refine AO.val (v := I (n)) 0 (ls' := [true, false, false, false, false, false, false, false, false, false, false]) rfl (by kernel_rfl) rfl rfl (fun w2 hw2 => Ru.move rfl) rfl ?_
        refine AO.val (v := I ((n / 10))) 1 (ls' := [true, true, false, false, false, false, false, false, false, false, false]) rfl (by kernel_rfl) rfl rfl (fun w2 hw2 => Ru.quo rfl rfl (by omega)) rfl ?_
        refine AO.val (v := I (n)) 3 (ls' := [true, true, false, true, false, false, false, false, false, false, false]) rfl (by kernel_rfl) rfl rfl (fun w2 hw2 => Ru.move rfl) rfl ?_
        refine AO.val (v := I ((n % 10))) 4 (ls' := [true, true, false, true, true, false, false, false, false, false, false]) rfl (by kernel_rfl) rfl rfl (fun w2 hw2 => Ru.rem rfl rfl (by omega)) rfl ?_
        refine AO.val (v := I ((48 + (n % 10)))) 5 (ls' := [true, true, false, true, true, true, false, false, false, false, false]) rfl (by kernel_rfl) rfl rfl (fun w2 hw2 => Ru.add rfl rfl (by omega)) rfl ?_
        refine AO.val (v := .int .u8 ((((UInt8.ofNat (48 + n.toNat % 10))).toNat : Int))) 6 (ls' := [true, true, false, true, true, true, true, false, false, false, false]) rfl (by kernel_rfl) rfl rfl (fun w2 hw2 => Ru.conv (c := (((UInt8.ofNat (48 + n.toNat % 10))).toNat : Int)) Tryd.underlying3 Tryd.underlying5 rfl (by exact (IntKind.wrap_u8_of _ (by omega)).trans (by rw [UInt8.toNat_ofNat']; omega))) rfl ?_
        refine AO.two 2 7 (by kernel_rfl) ?_ ?_
        · refine step1 (ls' := [true, true, true, true, true, true, true, false, false, false, false]) rfl rfl ?_
          refine O.callg [I ((n / 10))] rfl en82 rfl rfl (dec4_fn (n / 10) w7a (by omega)) ?_
          rintro _ w7_2 ⟨rfl, hR7_2⟩
          have hM7_2 : Mem w w7_2 [] [] := Mem.call (Ma := []) hM7a hR7_2 rfl
          refine O.stop (Mem.none hM7_2) ?_
          refine AO.one 7 (by kernel_rfl) ?_
          refine step1 (ls' := [true, true, true, true, true, true, true, true, false, false, false]) rfl rfl ?_
          refine O.mlit (sz := 1) (cs := [.int .u8 ((((UInt8.ofNat (48 + n.toNat % 10))).toNat : Int))]) hM7_2 rfl Tryd.underlying29 el5 rfl rfl rfl (by kernel_rfl) (by kernel_rfl) rfl rfl (fun w7_7 b7_7 hb7_7 (hM7_7 : Mem w w7_7 [] [[⟨.slice (bl b7_7) (1) (1), 5, 1, 1, ([(UInt8.ofNat (48 + n.toNat % 10))]).map byteV⟩]]) => ?_)
          refine O.stop (Mem.none hM7_7) ?_
          refine AO.one 8 (by kernel_rfl) ?_
          refine step1 (ls' := [true, true, true, true, true, true, true, true, true, false, false]) rfl rfl ?_
          refine O.val (v := S ([(UInt8.ofNat (48 + n.toNat % 10))])) rfl (Ru.b2s (l := [(UInt8.ofNat (48 + n.toNat % 10))]) Tryd.underlying29 Tryd.underlying5 Tryd.underlying9 rfl (hM7_7.rd 0 rfl)) rfl ?_
          refine O.stop (Mem.none hM7_7) ?_
          refine AO.val (v := S ((itoaS (n / 10) ++ [(UInt8.ofNat (48 + n.toNat % 10))]))) 9 (ls' := [true, true, true, true, true, true, true, true, true, true, false]) rfl (by kernel_rfl) rfl rfl (fun w2 hw2 => Ru.sadd rfl rfl (by have := itoa_len (n := n / 10) (by omega) (by omega); simp; omega)) rfl ?_
          refine AO.val (v := S ((itoaS (n / 10) ++ [(UInt8.ofNat (48 + n.toNat % 10))]))) 10 (ls' := [true, true, true, true, true, true, true, true, true, true, true]) rfl (by kernel_rfl) rfl rfl (fun w2 hw2 => Ru.assign rfl) rfl ?_
          refine AO.nil (by kernel_rfl) ?_
          refine C.ret ?_
          refine P1 (v := S ((itoaS (n / 10) ++ [(UInt8.ofNat (48 + n.toNat % 10))]))) rfl ?_
          exact ⟨(by rw [itoa_ten (n := n) (by omega)]), (Mem.none hM7_7)⟩
        · refine step1 (ls' := [true, true, false, true, true, true, true, true, false, false, false]) rfl rfl ?_
          refine O.mlit (sz := 1) (cs := [.int .u8 ((((UInt8.ofNat (48 + n.toNat % 10))).toNat : Int))]) hM7a rfl Tryd.underlying29 el5 rfl rfl rfl (by kernel_rfl) (by kernel_rfl) rfl rfl (fun w7_7 b7_7 hb7_7 (hM7_7 : Mem w w7_7 [] [[⟨.slice (bl b7_7) (1) (1), 5, 1, 1, ([(UInt8.ofNat (48 + n.toNat % 10))]).map byteV⟩]]) => ?_)
          refine O.stop (Mem.none hM7_7) ?_
          refine AO.two 2 8 (by kernel_rfl) ?_ ?_
          · refine step1 (ls' := [true, true, true, true, true, true, true, true, false, false, false]) rfl rfl ?_
            refine O.callg [I ((n / 10))] rfl en82 rfl rfl (dec4_fn (n / 10) w7_7 (by omega)) ?_
            rintro _ w7_2 ⟨rfl, hR7_2⟩
            have hM7_2 : Mem w w7_2 [] [[⟨.slice (bl b7_7) (1) (1), 5, 1, 1, ([(UInt8.ofNat (48 + n.toNat % 10))]).map byteV⟩]] := Mem.call (Ma := []) hM7_7 hR7_2 rfl
            refine O.stop (Mem.none hM7_2) ?_
            refine AO.one 8 (by kernel_rfl) ?_
            refine step1 (ls' := [true, true, true, true, true, true, true, true, true, false, false]) rfl rfl ?_
            refine O.val (v := S ([(UInt8.ofNat (48 + n.toNat % 10))])) rfl (Ru.b2s (l := [(UInt8.ofNat (48 + n.toNat % 10))]) Tryd.underlying29 Tryd.underlying5 Tryd.underlying9 rfl (hM7_2.rd 0 rfl)) rfl ?_
            refine O.stop (Mem.none hM7_2) ?_
            refine AO.val (v := S ((itoaS (n / 10) ++ [(UInt8.ofNat (48 + n.toNat % 10))]))) 9 (ls' := [true, true, true, true, true, true, true, true, true, true, false]) rfl (by kernel_rfl) rfl rfl (fun w2 hw2 => Ru.sadd rfl rfl (by have := itoa_len (n := n / 10) (by omega) (by omega); simp; omega)) rfl ?_
            refine AO.val (v := S ((itoaS (n / 10) ++ [(UInt8.ofNat (48 + n.toNat % 10))]))) 10 (ls' := [true, true, true, true, true, true, true, true, true, true, true]) rfl (by kernel_rfl) rfl rfl (fun w2 hw2 => Ru.assign rfl) rfl ?_
            refine AO.nil (by kernel_rfl) ?_
            refine C.ret ?_
            refine P1 (v := S ((itoaS (n / 10) ++ [(UInt8.ofNat (48 + n.toNat % 10))]))) rfl ?_
            exact ⟨(by rw [itoa_ten (n := n) (by omega)]), (Mem.none hM7_2)⟩
          · refine step1 (ls' := [true, true, false, true, true, true, true, true, true, false, false]) rfl rfl ?_
            refine O.val (v := S ([(UInt8.ofNat (48 + n.toNat % 10))])) rfl (Ru.b2s (l := [(UInt8.ofNat (48 + n.toNat % 10))]) Tryd.underlying29 Tryd.underlying5 Tryd.underlying9 rfl (hM7_7.rd 0 rfl)) rfl ?_
            refine O.stop (Mem.none hM7_7) ?_
            refine AO.one 2 (by kernel_rfl) ?_
            refine step1 (ls' := [true, true, true, true, true, true, true, true, true, false, false]) rfl rfl ?_
            refine O.callg [I ((n / 10))] rfl en82 rfl rfl (dec4_fn (n / 10) w7_7 (by omega)) ?_
            rintro _ w7_2 ⟨rfl, hR7_2⟩
            have hM7_2 : Mem w w7_2 [] [[⟨.slice (bl b7_7) (1) (1), 5, 1, 1, ([(UInt8.ofNat (48 + n.toNat % 10))]).map byteV⟩]] := Mem.call (Ma := []) hM7_7 hR7_2 rfl
            refine O.stop (Mem.none hM7_2) ?_
            refine AO.val (v := S ((itoaS (n / 10) ++ [(UInt8.ofNat (48 + n.toNat % 10))]))) 9 (ls' := [true, true, true, true, true, true, true, true, true, true, false]) rfl (by kernel_rfl) rfl rfl (fun w2 hw2 => Ru.sadd rfl rfl (by have := itoa_len (n := n / 10) (by omega) (by omega); simp; omega)) rfl ?_
            refine AO.val (v := S ((itoaS (n / 10) ++ [(UInt8.ofNat (48 + n.toNat % 10))]))) 10 (ls' := [true, true, true, true, true, true, true, true, true, true, true]) rfl (by kernel_rfl) rfl rfl (fun w2 hw2 => Ru.assign rfl) rfl ?_
            refine AO.nil (by kernel_rfl) ?_
            refine C.ret ?_
            refine P1 (v := S ((itoaS (n / 10) ++ [(UInt8.ofNat (48 + n.toNat % 10))]))) rfl ?_
            exact ⟨(by rw [itoa_ten (n := n) (by omega)]), (Mem.none hM7_2)⟩
  · refine O.pass rfl rfl rfl rfl rfl ?_
    refine O.pass rfl rfl rfl rfl rfl ?_
    refine O.pass rfl rfl rfl rfl rfl ?_
    refine O.pass rfl rfl rfl rfl rfl ?_
    refine O.val (v := .bool (false)) rfl (Ru.pickF rfl rfl) rfl ?_
    refine O.nil ?_
    refine C.condF rfl ?_
    refine C.skip ?_
    refine C.seq ?_
    refine C.seq ?_
    refine C.region ?_
    refine O.val (v := I (n)) rfl (Ru.move rfl) rfl ?_
    refine O.val (v := .bool (decide (n < 0))) rfl (Ru.lss rfl rfl) rfl ?_
    refine O.nil ?_
    refine C.cond (p := n < 0) rfl (fun c12 => ?_) (fun c12 => ?_)
    · refine C.seq ?_
      refine C.region ?_
      refine O.val (v := I (n)) rfl (Ru.move rfl) rfl ?_
      refine O.val (v := I (-(n))) rfl (Ru.neg rfl (by omega)) rfl ?_
      refine O.callg [I (-(n))] rfl en82 rfl rfl (dec4_fn (-(n)) w (by omega)) ?_
      rintro _ w4_2 ⟨rfl, hR4_2⟩
      have hM4_2 : Mem w w4_2 [] [] := Mem.call (Ma := []) hM hR4_2 rfl
      refine O.val (v := S (([45] ++ itoaS (-(n))))) rfl (Ru.sadd rfl rfl (by have := itoa_len (n := -n) (by omega) (by omega); simp; omega)) rfl ?_
      refine O.val (v := S (([45] ++ itoaS (-(n))))) rfl (Ru.assign rfl) rfl ?_
      refine O.nil ?_
      refine C.ret ?_
      refine P1 (v := S (([45] ++ itoaS (-(n))))) rfl ?_
      exact ⟨(by rw [itoa_min (n := n) (by omega)]; rfl), (Mem.none hM4_2)⟩
    · refine C.skip ?_
      refine C.seq ?_
      refine C.seq ?_
      refine C.region ?_
      refine O.val (v := I (n)) rfl (Ru.move rfl) rfl ?_
      refine O.val (v := .bool (decide (n < 10))) rfl (Ru.lss rfl rfl) rfl ?_
      refine O.nil ?_
      refine C.cond (p := n < 10) rfl (fun c18 => ?_) (fun c18 => ?_)
      · refine C.seq ?_
        refine C.region ?_
        refine O.val (v := I (n)) rfl (Ru.move rfl) rfl ?_
        refine O.val (v := I ((48 + n))) rfl (Ru.add rfl rfl (by omega)) rfl ?_
        refine O.val (v := .int .u8 ((((UInt8.ofNat (48 + n.toNat))).toNat : Int))) rfl (Ru.conv (c := (((UInt8.ofNat (48 + n.toNat))).toNat : Int)) Tryd.underlying3 Tryd.underlying5 rfl (by exact (IntKind.wrap_u8_of _ (by omega)).trans (by rw [UInt8.toNat_ofNat']; omega))) rfl ?_
        refine O.mlit (sz := 1) (cs := [.int .u8 ((((UInt8.ofNat (48 + n.toNat))).toNat : Int))]) hM rfl Tryd.underlying29 el5 rfl rfl rfl (by kernel_rfl) (by kernel_rfl) rfl rfl (fun w6_3 b6_3 hb6_3 (hM6_3 : Mem w w6_3 [] [[⟨.slice (bl b6_3) (1) (1), 5, 1, 1, ([(UInt8.ofNat (48 + n.toNat))]).map byteV⟩]]) => ?_)
        refine O.val (v := S ([(UInt8.ofNat (48 + n.toNat))])) rfl (Ru.b2s (l := [(UInt8.ofNat (48 + n.toNat))]) Tryd.underlying29 Tryd.underlying5 Tryd.underlying9 rfl (hM6_3.rd 0 rfl)) rfl ?_
        refine O.val (v := S ([(UInt8.ofNat (48 + n.toNat))])) rfl (Ru.assign rfl) rfl ?_
        refine O.nil ?_
        refine C.ret ?_
        refine P1 (v := S ([(UInt8.ofNat (48 + n.toNat))])) rfl ?_
        exact ⟨(by rw [itoa_dig (by omega) (by omega)]), (Mem.none hM6_3)⟩
      · refine C.skip ?_
        refine C.seq ?_
        refine C.any (f := 11) (ls := [false, false, false, false, false, false, false, false, false, false, false]) (fun w2 => Mem w w2 [] []) mixed rfl rfl (fun w2 hw2 => Mem0.ext (Mem.none hM) hw2) (fun w7a hE7a => ?_)
        have hM7a : Mem w w7a [] [] := Mem0.ext hM hE7a
        refine AO.val (v := I (n)) 0 (ls' := [true, false, false, false, false, false, false, false, false, false, false]) rfl (by kernel_rfl) rfl rfl (fun w2 hw2 => Ru.move rfl) rfl ?_
        refine AO.val (v := I ((n / 10))) 1 (ls' := [true, true, false, false, false, false, false, false, false, false, false]) rfl (by kernel_rfl) rfl rfl (fun w2 hw2 => Ru.quo rfl rfl (by omega)) rfl ?_
        refine AO.val (v := I (n)) 3 (ls' := [true, true, false, true, false, false, false, false, false, false, false]) rfl (by kernel_rfl) rfl rfl (fun w2 hw2 => Ru.move rfl) rfl ?_
        refine AO.val (v := I ((n % 10))) 4 (ls' := [true, true, false, true, true, false, false, false, false, false, false]) rfl (by kernel_rfl) rfl rfl (fun w2 hw2 => Ru.rem rfl rfl (by omega)) rfl ?_
        refine AO.val (v := I ((48 + (n % 10)))) 5 (ls' := [true, true, false, true, true, true, false, false, false, false, false]) rfl (by kernel_rfl) rfl rfl (fun w2 hw2 => Ru.add rfl rfl (by omega)) rfl ?_
        refine AO.val (v := .int .u8 ((((UInt8.ofNat (48 + n.toNat % 10))).toNat : Int))) 6 (ls' := [true, true, false, true, true, true, true, false, false, false, false]) rfl (by kernel_rfl) rfl rfl (fun w2 hw2 => Ru.conv (c := (((UInt8.ofNat (48 + n.toNat % 10))).toNat : Int)) Tryd.underlying3 Tryd.underlying5 rfl (by exact (IntKind.wrap_u8_of _ (by omega)).trans (by rw [UInt8.toNat_ofNat']; omega))) rfl ?_
        refine AO.two 2 7 (by kernel_rfl) ?_ ?_
        · refine step1 (ls' := [true, true, true, true, true, true, true, false, false, false, false]) rfl rfl ?_
          refine O.callg [I ((n / 10))] rfl en82 rfl rfl (dec4_fn (n / 10) w7a (by omega)) ?_
          rintro _ w7_2 ⟨rfl, hR7_2⟩
          have hM7_2 : Mem w w7_2 [] [] := Mem.call (Ma := []) hM7a hR7_2 rfl
          refine O.stop (Mem.none hM7_2) ?_
          refine AO.one 7 (by kernel_rfl) ?_
          refine step1 (ls' := [true, true, true, true, true, true, true, true, false, false, false]) rfl rfl ?_
          refine O.mlit (sz := 1) (cs := [.int .u8 ((((UInt8.ofNat (48 + n.toNat % 10))).toNat : Int))]) hM7_2 rfl Tryd.underlying29 el5 rfl rfl rfl (by kernel_rfl) (by kernel_rfl) rfl rfl (fun w7_7 b7_7 hb7_7 (hM7_7 : Mem w w7_7 [] [[⟨.slice (bl b7_7) (1) (1), 5, 1, 1, ([(UInt8.ofNat (48 + n.toNat % 10))]).map byteV⟩]]) => ?_)
          refine O.stop (Mem.none hM7_7) ?_
          refine AO.one 8 (by kernel_rfl) ?_
          refine step1 (ls' := [true, true, true, true, true, true, true, true, true, false, false]) rfl rfl ?_
          refine O.val (v := S ([(UInt8.ofNat (48 + n.toNat % 10))])) rfl (Ru.b2s (l := [(UInt8.ofNat (48 + n.toNat % 10))]) Tryd.underlying29 Tryd.underlying5 Tryd.underlying9 rfl (hM7_7.rd 0 rfl)) rfl ?_
          refine O.stop (Mem.none hM7_7) ?_
          refine AO.val (v := S ((itoaS (n / 10) ++ [(UInt8.ofNat (48 + n.toNat % 10))]))) 9 (ls' := [true, true, true, true, true, true, true, true, true, true, false]) rfl (by kernel_rfl) rfl rfl (fun w2 hw2 => Ru.sadd rfl rfl (by have := itoa_len (n := n / 10) (by omega) (by omega); simp; omega)) rfl ?_
          refine AO.val (v := S ((itoaS (n / 10) ++ [(UInt8.ofNat (48 + n.toNat % 10))]))) 10 (ls' := [true, true, true, true, true, true, true, true, true, true, true]) rfl (by kernel_rfl) rfl rfl (fun w2 hw2 => Ru.assign rfl) rfl ?_
          refine AO.nil (by kernel_rfl) ?_
          refine C.ret ?_
          refine P1 (v := S ((itoaS (n / 10) ++ [(UInt8.ofNat (48 + n.toNat % 10))]))) rfl ?_
          exact ⟨(by rw [itoa_ten (n := n) (by omega)]), (Mem.none hM7_7)⟩
        · refine step1 (ls' := [true, true, false, true, true, true, true, true, false, false, false]) rfl rfl ?_
          refine O.mlit (sz := 1) (cs := [.int .u8 ((((UInt8.ofNat (48 + n.toNat % 10))).toNat : Int))]) hM7a rfl Tryd.underlying29 el5 rfl rfl rfl (by kernel_rfl) (by kernel_rfl) rfl rfl (fun w7_7 b7_7 hb7_7 (hM7_7 : Mem w w7_7 [] [[⟨.slice (bl b7_7) (1) (1), 5, 1, 1, ([(UInt8.ofNat (48 + n.toNat % 10))]).map byteV⟩]]) => ?_)
          refine O.stop (Mem.none hM7_7) ?_
          refine AO.two 2 8 (by kernel_rfl) ?_ ?_
          · refine step1 (ls' := [true, true, true, true, true, true, true, true, false, false, false]) rfl rfl ?_
            refine O.callg [I ((n / 10))] rfl en82 rfl rfl (dec4_fn (n / 10) w7_7 (by omega)) ?_
            rintro _ w7_2 ⟨rfl, hR7_2⟩
            have hM7_2 : Mem w w7_2 [] [[⟨.slice (bl b7_7) (1) (1), 5, 1, 1, ([(UInt8.ofNat (48 + n.toNat % 10))]).map byteV⟩]] := Mem.call (Ma := []) hM7_7 hR7_2 rfl
            refine O.stop (Mem.none hM7_2) ?_
            refine AO.one 8 (by kernel_rfl) ?_
            refine step1 (ls' := [true, true, true, true, true, true, true, true, true, false, false]) rfl rfl ?_
            refine O.val (v := S ([(UInt8.ofNat (48 + n.toNat % 10))])) rfl (Ru.b2s (l := [(UInt8.ofNat (48 + n.toNat % 10))]) Tryd.underlying29 Tryd.underlying5 Tryd.underlying9 rfl (hM7_2.rd 0 rfl)) rfl ?_
            refine O.stop (Mem.none hM7_2) ?_
            refine AO.val (v := S ((itoaS (n / 10) ++ [(UInt8.ofNat (48 + n.toNat % 10))]))) 9 (ls' := [true, true, true, true, true, true, true, true, true, true, false]) rfl (by kernel_rfl) rfl rfl (fun w2 hw2 => Ru.sadd rfl rfl (by have := itoa_len (n := n / 10) (by omega) (by omega); simp; omega)) rfl ?_
            refine AO.val (v := S ((itoaS (n / 10) ++ [(UInt8.ofNat (48 + n.toNat % 10))]))) 10 (ls' := [true, true, true, true, true, true, true, true, true, true, true]) rfl (by kernel_rfl) rfl rfl (fun w2 hw2 => Ru.assign rfl) rfl ?_
            refine AO.nil (by kernel_rfl) ?_
            refine C.ret ?_
            refine P1 (v := S ((itoaS (n / 10) ++ [(UInt8.ofNat (48 + n.toNat % 10))]))) rfl ?_
            exact ⟨(by rw [itoa_ten (n := n) (by omega)]), (Mem.none hM7_2)⟩
          · refine step1 (ls' := [true, true, false, true, true, true, true, true, true, false, false]) rfl rfl ?_
            refine O.val (v := S ([(UInt8.ofNat (48 + n.toNat % 10))])) rfl (Ru.b2s (l := [(UInt8.ofNat (48 + n.toNat % 10))]) Tryd.underlying29 Tryd.underlying5 Tryd.underlying9 rfl (hM7_7.rd 0 rfl)) rfl ?_
            refine O.stop (Mem.none hM7_7) ?_
            refine AO.one 2 (by kernel_rfl) ?_
            refine step1 (ls' := [true, true, true, true, true, true, true, true, true, false, false]) rfl rfl ?_
            refine O.callg [I ((n / 10))] rfl en82 rfl rfl (dec4_fn (n / 10) w7_7 (by omega)) ?_
            rintro _ w7_2 ⟨rfl, hR7_2⟩
            have hM7_2 : Mem w w7_2 [] [[⟨.slice (bl b7_7) (1) (1), 5, 1, 1, ([(UInt8.ofNat (48 + n.toNat % 10))]).map byteV⟩]] := Mem.call (Ma := []) hM7_7 hR7_2 rfl
            refine O.stop (Mem.none hM7_2) ?_
            refine AO.val (v := S ((itoaS (n / 10) ++ [(UInt8.ofNat (48 + n.toNat % 10))]))) 9 (ls' := [true, true, true, true, true, true, true, true, true, true, false]) rfl (by kernel_rfl) rfl rfl (fun w2 hw2 => Ru.sadd rfl rfl (by have := itoa_len (n := n / 10) (by omega) (by omega); simp; omega)) rfl ?_
            refine AO.val (v := S ((itoaS (n / 10) ++ [(UInt8.ofNat (48 + n.toNat % 10))]))) 10 (ls' := [true, true, true, true, true, true, true, true, true, true, true]) rfl (by kernel_rfl) rfl rfl (fun w2 hw2 => Ru.assign rfl) rfl ?_
            refine AO.nil (by kernel_rfl) ?_
            refine C.ret ?_
            refine P1 (v := S ((itoaS (n / 10) ++ [(UInt8.ofNat (48 + n.toNat % 10))]))) rfl ?_
            exact ⟨(by rw [itoa_ten (n := n) (by omega)]), (Mem.none hM7_2)⟩
end Go.Proofs.YtfdlmimgooeioaaDoor
