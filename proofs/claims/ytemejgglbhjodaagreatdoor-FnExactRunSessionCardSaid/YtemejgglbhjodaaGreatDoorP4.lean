/- Own layer, part 5: plain theorems on the walk of this program's functions and on what they compute; no conditions. -/
import Derived.Test.YtemejgglbhjodaaGreatDoorP3
import Derived.Shelf.Strings.Builder1
import Derived.Test.YtemejgglbhjodaaGreatDoorRows
import Derived.Shelf.Strconv.Atoi
import Derived.Shelf.Strconv.AtoiErr
import Derived.Shelf.Strings.Cut
import Derived.Shelf.Strings.Split
import Derived.Lib.AtoiBound
import Derived.Handed
import Derived.Shelf.Vars
import Derived.Stop.LaidErr
import Derived.MakeChecks
import Derived.Lib.LaidTab
set_option linter.unusedVariables false
set_option linter.unusedSimpArgs false
namespace Go.Proofs.YtemejgglbhjodaaGreatDoor
open Go.Px
theorem aBu (n : Int) (w : World) (hn : 0 <= n /\ n < 10) :
  aR Tryz.prog 57 [I n] w (λ v w1 => v = S (bS n) /\ Mem w w1 [] []) := by
 have hM : Mem w w [] [] := Mem.refl
 refine aR.n1 Tryz.func57 rfl Tryz.results57 Tryz.ntmps57 rfl ?_
 refine pp 10 [] 5 (λ g5 => ?_) (λ g5 => ?_)
 exfalso; omega
 refine cd 14 [] (λ c12 => ?_) (λ c12 => ?_)
 exfalso; omega
 refine cd 7 [] (λ c18 => ?_) (λ c18 => ?_)
 refine ov 3 [] (a := oW) (b := ?_)
 refine ov 0 [] (s := Vn .u8 ((UInt8.ofNat (48 + n.toNat)).toNat : Int)) (a := by exact cv (Ru.conv (c := ((UInt8.ofNat (48 + n.toNat)).toNat : Int)) Tryz.underlying3 Tryz.underlying5 rfl (by exact (IntKind.wrap_u8_of _ t1).trans (by rw [UInt8.toNat_ofNat']; omega))) rfl) (b := ?_)
 refine Lt 0 [] (([(UInt8.ofNat (48 + n.toNat))]).map byteV) (λ d0 b0 c0 a0 => ?_)
 refine ov 0 [] (s := Vs ([(UInt8.ofNat (48 + n.toNat))])) (a := by exact cv (Ru.b2s (l := [(UInt8.ofNat (48 + n.toNat))]) Tryz.underlying22 Tryz.underlying5 Tryz.underlying9 rfl (a0.rd 0 rfl)) rfl) (b := ?_)
 refine E1 3 [] (S ([(UInt8.ofNat (48 + n.toNat))])) ?_
 exact ⟨(by rw [nE t1 t1]), (Mem.none a0)⟩
 exfalso; omega
theorem aBv (n : Int) (w : World) (hn : 0 <= n /\ n < 100) :
  aR Tryz.prog 57 [I n] w (λ v w1 => v = S (bS n) /\ Mem w w1 [] []) := by
 have hM : Mem w w [] [] := Mem.refl
 refine aR.n1 Tryz.func57 rfl Tryz.results57 Tryz.ntmps57 rfl ?_
 refine pp 10 [] 5 (λ g5 => ?_) (λ g5 => ?_)
 exfalso; omega
 refine cd 14 [] (λ c12 => ?_) (λ c12 => ?_)
 exfalso; omega
 refine cd 7 [] (λ c18 => ?_) (λ c18 => ?_)
 refine ov 3 [] (a := oW) (b := ?_)
 refine ov 0 [] (s := Vn .u8 ((UInt8.ofNat (48 + n.toNat)).toNat : Int)) (a := by exact cv (Ru.conv (c := ((UInt8.ofNat (48 + n.toNat)).toNat : Int)) Tryz.underlying3 Tryz.underlying5 rfl (by exact (IntKind.wrap_u8_of _ t1).trans (by rw [UInt8.toNat_ofNat']; omega))) rfl) (b := ?_)
 refine Lt 0 [] (([(UInt8.ofNat (48 + n.toNat))]).map byteV) (λ l0 i0 k0 d0 => ?_)
 refine ov 0 [] (s := Vs ([(UInt8.ofNat (48 + n.toNat))])) (a := by exact cv (Ru.b2s (l := [(UInt8.ofNat (48 + n.toNat))]) Tryz.underlying22 Tryz.underlying5 Tryz.underlying9 rfl (d0.rd 0 rfl)) rfl) (b := ?_)
 refine E1 3 [] (S ([(UInt8.ofNat (48 + n.toNat))])) ?_
 exact ⟨(by rw [nE t1 t1]), (Mem.none d0)⟩
 refine any 2 [] 11 [] λ h0 j0 => ?_
 refine av [0] [] 1 (s := Vi (n / 10)) (a := by exact λ w2 hw2 => cv (Ru.quo rfl rfl t1) rfl) (b := ?_)
 refine av [3] [] 4 (a := by exact λ _ hw2 => aEz) (b := ?_)
 refine av [] [] 5 (a := by exact λ _ hw2 => oW) (b := ?_)
 refine av [] [] 6 (s := Vn .u8 ((UInt8.ofNat (48 + n.toNat % 10)).toNat : Int)) (a := by exact λ w2 hw2 => cv (Ru.conv (c := ((UInt8.ofNat (48 + n.toNat % 10)).toNat : Int)) Tryz.underlying3 Tryz.underlying5 rfl (by exact (IntKind.wrap_u8_of _ t1).trans (by rw [UInt8.toNat_ofNat']; omega))) rfl) (b := ?_)
 refine aT [] [] 2 7 ?_ ?_
 refine cp 0 [] (b := aBu _ h0 qo) (c := λ e0 a0 => ?_)
 refine os 0 [] [] ?_
 refine aO [] [] 7 ?_
 refine Lt 0 [] (([(UInt8.ofNat (48 + n.toNat % 10))]).map byteV) (λ c0 f0 g0 b0 => ?_)
 refine os 0 [] [] ?_
 refine aO [] [] 8 ?_
 refine ov 0 [] (s := Vs ([(UInt8.ofNat (48 + n.toNat % 10))])) (a := by exact cv (Ru.b2s (l := [(UInt8.ofNat (48 + n.toNat % 10))]) Tryz.underlying22 Tryz.underlying5 Tryz.underlying9 rfl (b0.rd 0 rfl)) rfl) (b := ?_)
 refine os 0 [] [] ?_
 refine av [] [] 9 (a := by exact λ _ hw2 => iF (h := by have := cL (n := n / 10) t1 t1; simp; omega)) (b := ?_)
 refine an [10] [] ?_
 refine E1 1 [] (S (bS (n / 10) ++ [(UInt8.ofNat (48 + n.toNat % 10))])) ?_
 exact ⟨(by rw [fV (n := n) t1]), (Mem.none b0)⟩
 refine Lt 0 [] (([(UInt8.ofNat (48 + n.toNat % 10))]).map byteV) (λ c0 f0 g0 b0 => ?_)
 refine os 0 [] [] ?_
 refine aT [] [] 2 8 ?_ ?_
 refine cp 0 [] (b := aBu _ c0 qo) (c := λ e0 a0 => ?_)
 refine os 0 [] [] ?_
 refine aO [] [] 8 ?_
 refine ov 0 [] (s := Vs ([(UInt8.ofNat (48 + n.toNat % 10))])) (a := by exact cv (Ru.b2s (l := [(UInt8.ofNat (48 + n.toNat % 10))]) Tryz.underlying22 Tryz.underlying5 Tryz.underlying9 rfl (a0.rd 0 rfl)) rfl) (b := ?_)
 refine os 0 [] [] ?_
 refine av [] [] 9 (a := by exact λ _ hw2 => iF (h := by have := cL (n := n / 10) t1 t1; simp; omega)) (b := ?_)
 refine an [10] [] ?_
 refine E1 1 [] (S (bS (n / 10) ++ [(UInt8.ofNat (48 + n.toNat % 10))])) ?_
 exact ⟨(by rw [fV (n := n) t1]), (Mem.none a0)⟩
 refine ov 0 [] (s := Vs ([(UInt8.ofNat (48 + n.toNat % 10))])) (a := by exact cv (Ru.b2s (l := [(UInt8.ofNat (48 + n.toNat % 10))]) Tryz.underlying22 Tryz.underlying5 Tryz.underlying9 rfl (b0.rd 0 rfl)) rfl) (b := ?_)
 refine os 0 [] [] ?_
 refine aO [] [] 2 ?_
 refine cp 0 [] (b := aBu _ c0 qo) (c := λ e0 a0 => ?_)
 refine os 0 [] [] ?_
 refine av [] [] 9 (a := by exact λ _ hw2 => iF (h := by have := cL (n := n / 10) t1 t1; simp; omega)) (b := ?_)
 refine an [10] [] ?_
 refine E1 1 [] (S (bS (n / 10) ++ [(UInt8.ofNat (48 + n.toNat % 10))])) ?_
 exact ⟨(by rw [fV (n := n) t1]), (Mem.none a0)⟩
theorem aBw (n : Int) (w : World) (hn : 0 <= n /\ n < 1000) :
  aR Tryz.prog 57 [I n] w (λ v w1 => v = S (bS n) /\ Mem w w1 [] []) := by
 have hM : Mem w w [] [] := Mem.refl
 refine aR.n1 Tryz.func57 rfl Tryz.results57 Tryz.ntmps57 rfl ?_
 refine pp 10 [] 5 (λ g5 => ?_) (λ g5 => ?_)
 exfalso; omega
 refine cd 14 [] (λ c12 => ?_) (λ c12 => ?_)
 exfalso; omega
 refine cd 7 [] (λ c18 => ?_) (λ c18 => ?_)
 refine ov 3 [] (a := oW) (b := ?_)
 refine ov 0 [] (s := Vn .u8 ((UInt8.ofNat (48 + n.toNat)).toNat : Int)) (a := by exact cv (Ru.conv (c := ((UInt8.ofNat (48 + n.toNat)).toNat : Int)) Tryz.underlying3 Tryz.underlying5 rfl (by exact (IntKind.wrap_u8_of _ t1).trans (by rw [UInt8.toNat_ofNat']; omega))) rfl) (b := ?_)
 refine Lt 0 [] (([(UInt8.ofNat (48 + n.toNat))]).map byteV) (λ l0 i0 k0 d0 => ?_)
 refine ov 0 [] (s := Vs ([(UInt8.ofNat (48 + n.toNat))])) (a := by exact cv (Ru.b2s (l := [(UInt8.ofNat (48 + n.toNat))]) Tryz.underlying22 Tryz.underlying5 Tryz.underlying9 rfl (d0.rd 0 rfl)) rfl) (b := ?_)
 refine E1 3 [] (S ([(UInt8.ofNat (48 + n.toNat))])) ?_
 exact ⟨(by rw [nE t1 t1]), (Mem.none d0)⟩
 refine any 2 [] 11 [] λ h0 j0 => ?_
 refine av [0] [] 1 (s := Vi (n / 10)) (a := by exact λ w2 hw2 => cv (Ru.quo rfl rfl t1) rfl) (b := ?_)
 refine av [3] [] 4 (a := by exact λ _ hw2 => aEz) (b := ?_)
 refine av [] [] 5 (a := by exact λ _ hw2 => oW) (b := ?_)
 refine av [] [] 6 (s := Vn .u8 ((UInt8.ofNat (48 + n.toNat % 10)).toNat : Int)) (a := by exact λ w2 hw2 => cv (Ru.conv (c := ((UInt8.ofNat (48 + n.toNat % 10)).toNat : Int)) Tryz.underlying3 Tryz.underlying5 rfl (by exact (IntKind.wrap_u8_of _ t1).trans (by rw [UInt8.toNat_ofNat']; omega))) rfl) (b := ?_)
 refine aT [] [] 2 7 ?_ ?_
 refine cp 0 [] (b := aBv _ h0 qo) (c := λ e0 a0 => ?_)
 refine os 0 [] [] ?_
 refine aO [] [] 7 ?_
 refine Lt 0 [] (([(UInt8.ofNat (48 + n.toNat % 10))]).map byteV) (λ c0 f0 g0 b0 => ?_)
 refine os 0 [] [] ?_
 refine aO [] [] 8 ?_
 refine ov 0 [] (s := Vs ([(UInt8.ofNat (48 + n.toNat % 10))])) (a := by exact cv (Ru.b2s (l := [(UInt8.ofNat (48 + n.toNat % 10))]) Tryz.underlying22 Tryz.underlying5 Tryz.underlying9 rfl (b0.rd 0 rfl)) rfl) (b := ?_)
 refine os 0 [] [] ?_
 refine av [] [] 9 (a := by exact λ _ hw2 => iF (h := by have := cL (n := n / 10) t1 t1; simp; omega)) (b := ?_)
 refine an [10] [] ?_
 refine E1 1 [] (S (bS (n / 10) ++ [(UInt8.ofNat (48 + n.toNat % 10))])) ?_
 exact ⟨(by rw [fV (n := n) t1]), (Mem.none b0)⟩
 refine Lt 0 [] (([(UInt8.ofNat (48 + n.toNat % 10))]).map byteV) (λ c0 f0 g0 b0 => ?_)
 refine os 0 [] [] ?_
 refine aT [] [] 2 8 ?_ ?_
 refine cp 0 [] (b := aBv _ c0 qo) (c := λ e0 a0 => ?_)
 refine os 0 [] [] ?_
 refine aO [] [] 8 ?_
 refine ov 0 [] (s := Vs ([(UInt8.ofNat (48 + n.toNat % 10))])) (a := by exact cv (Ru.b2s (l := [(UInt8.ofNat (48 + n.toNat % 10))]) Tryz.underlying22 Tryz.underlying5 Tryz.underlying9 rfl (a0.rd 0 rfl)) rfl) (b := ?_)
 refine os 0 [] [] ?_
 refine av [] [] 9 (a := by exact λ _ hw2 => iF (h := by have := cL (n := n / 10) t1 t1; simp; omega)) (b := ?_)
 refine an [10] [] ?_
 refine E1 1 [] (S (bS (n / 10) ++ [(UInt8.ofNat (48 + n.toNat % 10))])) ?_
 exact ⟨(by rw [fV (n := n) t1]), (Mem.none a0)⟩
 refine ov 0 [] (s := Vs ([(UInt8.ofNat (48 + n.toNat % 10))])) (a := by exact cv (Ru.b2s (l := [(UInt8.ofNat (48 + n.toNat % 10))]) Tryz.underlying22 Tryz.underlying5 Tryz.underlying9 rfl (b0.rd 0 rfl)) rfl) (b := ?_)
 refine os 0 [] [] ?_
 refine aO [] [] 2 ?_
 refine cp 0 [] (b := aBv _ c0 qo) (c := λ e0 a0 => ?_)
 refine os 0 [] [] ?_
 refine av [] [] 9 (a := by exact λ _ hw2 => iF (h := by have := cL (n := n / 10) t1 t1; simp; omega)) (b := ?_)
 refine an [10] [] ?_
 refine E1 1 [] (S (bS (n / 10) ++ [(UInt8.ofNat (48 + n.toNat % 10))])) ?_
 exact ⟨(by rw [fV (n := n) t1]), (Mem.none a0)⟩
theorem aBx (n : Int) (w : World) (hn : 0 <= n /\ n < 10000) :
  aR Tryz.prog 57 [I n] w (λ v w1 => v = S (bS n) /\ Mem w w1 [] []) := by
 have hM : Mem w w [] [] := Mem.refl
 refine aR.n1 Tryz.func57 rfl Tryz.results57 Tryz.ntmps57 rfl ?_
 refine pp 10 [] 5 (λ g5 => ?_) (λ g5 => ?_)
 exfalso; omega
 refine cd 14 [] (λ c12 => ?_) (λ c12 => ?_)
 exfalso; omega
 refine cd 7 [] (λ c18 => ?_) (λ c18 => ?_)
 refine ov 3 [] (a := oW) (b := ?_)
 refine ov 0 [] (s := Vn .u8 ((UInt8.ofNat (48 + n.toNat)).toNat : Int)) (a := by exact cv (Ru.conv (c := ((UInt8.ofNat (48 + n.toNat)).toNat : Int)) Tryz.underlying3 Tryz.underlying5 rfl (by exact (IntKind.wrap_u8_of _ t1).trans (by rw [UInt8.toNat_ofNat']; omega))) rfl) (b := ?_)
 refine Lt 0 [] (([(UInt8.ofNat (48 + n.toNat))]).map byteV) (λ l0 i0 k0 d0 => ?_)
 refine ov 0 [] (s := Vs ([(UInt8.ofNat (48 + n.toNat))])) (a := by exact cv (Ru.b2s (l := [(UInt8.ofNat (48 + n.toNat))]) Tryz.underlying22 Tryz.underlying5 Tryz.underlying9 rfl (d0.rd 0 rfl)) rfl) (b := ?_)
 refine E1 3 [] (S ([(UInt8.ofNat (48 + n.toNat))])) ?_
 exact ⟨(by rw [nE t1 t1]), (Mem.none d0)⟩
 refine any 2 [] 11 [] λ h0 j0 => ?_
 refine av [0] [] 1 (s := Vi (n / 10)) (a := by exact λ w2 hw2 => cv (Ru.quo rfl rfl t1) rfl) (b := ?_)
 refine av [3] [] 4 (a := by exact λ _ hw2 => aEz) (b := ?_)
 refine av [] [] 5 (a := by exact λ _ hw2 => oW) (b := ?_)
 refine av [] [] 6 (s := Vn .u8 ((UInt8.ofNat (48 + n.toNat % 10)).toNat : Int)) (a := by exact λ w2 hw2 => cv (Ru.conv (c := ((UInt8.ofNat (48 + n.toNat % 10)).toNat : Int)) Tryz.underlying3 Tryz.underlying5 rfl (by exact (IntKind.wrap_u8_of _ t1).trans (by rw [UInt8.toNat_ofNat']; omega))) rfl) (b := ?_)
 refine aT [] [] 2 7 ?_ ?_
 refine cp 0 [] (b := aBw _ h0 qo) (c := λ e0 a0 => ?_)
 refine os 0 [] [] ?_
 refine aO [] [] 7 ?_
 refine Lt 0 [] (([(UInt8.ofNat (48 + n.toNat % 10))]).map byteV) (λ c0 f0 g0 b0 => ?_)
 refine os 0 [] [] ?_
 refine aO [] [] 8 ?_
 refine ov 0 [] (s := Vs ([(UInt8.ofNat (48 + n.toNat % 10))])) (a := by exact cv (Ru.b2s (l := [(UInt8.ofNat (48 + n.toNat % 10))]) Tryz.underlying22 Tryz.underlying5 Tryz.underlying9 rfl (b0.rd 0 rfl)) rfl) (b := ?_)
 refine os 0 [] [] ?_
 refine av [] [] 9 (a := by exact λ _ hw2 => iF (h := by have := cL (n := n / 10) t1 t1; simp; omega)) (b := ?_)
 refine an [10] [] ?_
 refine E1 1 [] (S (bS (n / 10) ++ [(UInt8.ofNat (48 + n.toNat % 10))])) ?_
 exact ⟨(by rw [fV (n := n) t1]), (Mem.none b0)⟩
 refine Lt 0 [] (([(UInt8.ofNat (48 + n.toNat % 10))]).map byteV) (λ c0 f0 g0 b0 => ?_)
 refine os 0 [] [] ?_
 refine aT [] [] 2 8 ?_ ?_
 refine cp 0 [] (b := aBw _ c0 qo) (c := λ e0 a0 => ?_)
 refine os 0 [] [] ?_
 refine aO [] [] 8 ?_
 refine ov 0 [] (s := Vs ([(UInt8.ofNat (48 + n.toNat % 10))])) (a := by exact cv (Ru.b2s (l := [(UInt8.ofNat (48 + n.toNat % 10))]) Tryz.underlying22 Tryz.underlying5 Tryz.underlying9 rfl (a0.rd 0 rfl)) rfl) (b := ?_)
 refine os 0 [] [] ?_
 refine av [] [] 9 (a := by exact λ _ hw2 => iF (h := by have := cL (n := n / 10) t1 t1; simp; omega)) (b := ?_)
 refine an [10] [] ?_
 refine E1 1 [] (S (bS (n / 10) ++ [(UInt8.ofNat (48 + n.toNat % 10))])) ?_
 exact ⟨(by rw [fV (n := n) t1]), (Mem.none a0)⟩
 refine ov 0 [] (s := Vs ([(UInt8.ofNat (48 + n.toNat % 10))])) (a := by exact cv (Ru.b2s (l := [(UInt8.ofNat (48 + n.toNat % 10))]) Tryz.underlying22 Tryz.underlying5 Tryz.underlying9 rfl (b0.rd 0 rfl)) rfl) (b := ?_)
 refine os 0 [] [] ?_
 refine aO [] [] 2 ?_
 refine cp 0 [] (b := aBw _ c0 qo) (c := λ e0 a0 => ?_)
 refine os 0 [] [] ?_
 refine av [] [] 9 (a := by exact λ _ hw2 => iF (h := by have := cL (n := n / 10) t1 t1; simp; omega)) (b := ?_)
 refine an [10] [] ?_
 refine E1 1 [] (S (bS (n / 10) ++ [(UInt8.ofNat (48 + n.toNat % 10))])) ?_
 exact ⟨(by rw [fV (n := n) t1]), (Mem.none a0)⟩
theorem nV (n : Int) (w : World) (hn : 0 <= n /\ n < 100000) :
  aR Tryz.prog 57 [I n] w (λ v w1 => v = S (bS n) /\ Mem w w1 [] []) := by
 have hM : Mem w w [] [] := Mem.refl
 refine aR.n1 Tryz.func57 rfl Tryz.results57 Tryz.ntmps57 rfl ?_
 refine pp 10 [] 5 (λ g5 => ?_) (λ g5 => ?_)
 exfalso; omega
 refine cd 14 [] (λ c12 => ?_) (λ c12 => ?_)
 exfalso; omega
 refine cd 7 [] (λ c18 => ?_) (λ c18 => ?_)
 refine ov 3 [] (a := oW) (b := ?_)
 refine ov 0 [] (s := Vn .u8 ((UInt8.ofNat (48 + n.toNat)).toNat : Int)) (a := by exact cv (Ru.conv (c := ((UInt8.ofNat (48 + n.toNat)).toNat : Int)) Tryz.underlying3 Tryz.underlying5 rfl (by exact (IntKind.wrap_u8_of _ t1).trans (by rw [UInt8.toNat_ofNat']; omega))) rfl) (b := ?_)
 refine Lt 0 [] (([(UInt8.ofNat (48 + n.toNat))]).map byteV) (λ l0 i0 k0 d0 => ?_)
 refine ov 0 [] (s := Vs ([(UInt8.ofNat (48 + n.toNat))])) (a := by exact cv (Ru.b2s (l := [(UInt8.ofNat (48 + n.toNat))]) Tryz.underlying22 Tryz.underlying5 Tryz.underlying9 rfl (d0.rd 0 rfl)) rfl) (b := ?_)
 refine E1 3 [] (S ([(UInt8.ofNat (48 + n.toNat))])) ?_
 exact ⟨(by rw [nE t1 t1]), (Mem.none d0)⟩
 refine any 2 [] 11 [] λ h0 j0 => ?_
 refine av [0] [] 1 (s := Vi (n / 10)) (a := by exact λ w2 hw2 => cv (Ru.quo rfl rfl t1) rfl) (b := ?_)
 refine av [3] [] 4 (a := by exact λ _ hw2 => aEz) (b := ?_)
 refine av [] [] 5 (a := by exact λ _ hw2 => oW) (b := ?_)
 refine av [] [] 6 (s := Vn .u8 ((UInt8.ofNat (48 + n.toNat % 10)).toNat : Int)) (a := by exact λ w2 hw2 => cv (Ru.conv (c := ((UInt8.ofNat (48 + n.toNat % 10)).toNat : Int)) Tryz.underlying3 Tryz.underlying5 rfl (by exact (IntKind.wrap_u8_of _ t1).trans (by rw [UInt8.toNat_ofNat']; omega))) rfl) (b := ?_)
 refine aT [] [] 2 7 ?_ ?_
 refine cp 0 [] (b := aBx _ h0 qo) (c := λ e0 a0 => ?_)
 refine os 0 [] [] ?_
 refine aO [] [] 7 ?_
 refine Lt 0 [] (([(UInt8.ofNat (48 + n.toNat % 10))]).map byteV) (λ c0 f0 g0 b0 => ?_)
 refine os 0 [] [] ?_
 refine aO [] [] 8 ?_
 refine ov 0 [] (s := Vs ([(UInt8.ofNat (48 + n.toNat % 10))])) (a := by exact cv (Ru.b2s (l := [(UInt8.ofNat (48 + n.toNat % 10))]) Tryz.underlying22 Tryz.underlying5 Tryz.underlying9 rfl (b0.rd 0 rfl)) rfl) (b := ?_)
 refine os 0 [] [] ?_
 refine av [] [] 9 (a := by exact λ _ hw2 => iF (h := by have := cL (n := n / 10) t1 t1; simp; omega)) (b := ?_)
 refine an [10] [] ?_
 refine E1 1 [] (S (bS (n / 10) ++ [(UInt8.ofNat (48 + n.toNat % 10))])) ?_
 exact ⟨(by rw [fV (n := n) t1]), (Mem.none b0)⟩
 refine Lt 0 [] (([(UInt8.ofNat (48 + n.toNat % 10))]).map byteV) (λ c0 f0 g0 b0 => ?_)
 refine os 0 [] [] ?_
 refine aT [] [] 2 8 ?_ ?_
 refine cp 0 [] (b := aBx _ c0 qo) (c := λ e0 a0 => ?_)
 refine os 0 [] [] ?_
 refine aO [] [] 8 ?_
 refine ov 0 [] (s := Vs ([(UInt8.ofNat (48 + n.toNat % 10))])) (a := by exact cv (Ru.b2s (l := [(UInt8.ofNat (48 + n.toNat % 10))]) Tryz.underlying22 Tryz.underlying5 Tryz.underlying9 rfl (a0.rd 0 rfl)) rfl) (b := ?_)
 refine os 0 [] [] ?_
 refine av [] [] 9 (a := by exact λ _ hw2 => iF (h := by have := cL (n := n / 10) t1 t1; simp; omega)) (b := ?_)
 refine an [10] [] ?_
 refine E1 1 [] (S (bS (n / 10) ++ [(UInt8.ofNat (48 + n.toNat % 10))])) ?_
 exact ⟨(by rw [fV (n := n) t1]), (Mem.none a0)⟩
 refine ov 0 [] (s := Vs ([(UInt8.ofNat (48 + n.toNat % 10))])) (a := by exact cv (Ru.b2s (l := [(UInt8.ofNat (48 + n.toNat % 10))]) Tryz.underlying22 Tryz.underlying5 Tryz.underlying9 rfl (b0.rd 0 rfl)) rfl) (b := ?_)
 refine os 0 [] [] ?_
 refine aO [] [] 2 ?_
 refine cp 0 [] (b := aBx _ c0 qo) (c := λ e0 a0 => ?_)
 refine os 0 [] [] ?_
 refine av [] [] 9 (a := by exact λ _ hw2 => iF (h := by have := cL (n := n / 10) t1 t1; simp; omega)) (b := ?_)
 refine an [10] [] ?_
 refine E1 1 [] (S (bS (n / 10) ++ [(UInt8.ofNat (48 + n.toNat % 10))])) ?_
 exact ⟨(by rw [fV (n := n) t1]), (Mem.none a0)⟩
theorem gK (n : Int) (w : World) (hn : -99999 <= n /\ n <= 99999) :
  aR Tryz.prog 57 [I n] w (λ v w1 => v = S (bS n) /\ Mem w w1 [] []) := by
 have hM : Mem w w [] [] := Mem.refl
 refine aR.n1 Tryz.func57 rfl Tryz.results57 Tryz.ntmps57 rfl ?_
 refine pp 10 [] 5 (λ g5 => ?_) (λ g5 => ?_)
 refine ov 2 [] (s := Vi (-n)) (a := by exact cv (Ru.neg rfl t1) rfl) (b := ?_)
 refine ov 0 [] (s := Vb false) (a := by exact cv (Ru.congr (Ru.eql rfl rfl) (congrArg Value.bool (decide_eq_false t1))) rfl) (b := ?_)
 refine cd 10 [] (λ c12 => ?_) (λ c12 => ?_)
 refine ov 3 [] (s := Vi (-n)) (a := by exact cv (Ru.neg rfl t1) rfl) (b := ?_)
 refine cp 0 [] (b := nV _ w qo) (c := λ m0 g0 => ?_)
 refine ov 0 [] (a := iF (h := by have := cL (n := -n) t1 t1; simp; omega)) (b := ?_)
 refine E1 3 [] (S ([45] ++ bS (-n))) ?_
 exact ⟨(by rw [aEw (n := n) t1]; rfl), (Mem.none g0)⟩
 refine cd 7 [] (λ c18 => ?_) (λ c18 => ?_)
 refine ov 3 [] (a := oW) (b := ?_)
 refine ov 0 [] (s := Vn .u8 ((UInt8.ofNat (48 + n.toNat)).toNat : Int)) (a := by exact cv (Ru.conv (c := ((UInt8.ofNat (48 + n.toNat)).toNat : Int)) Tryz.underlying3 Tryz.underlying5 rfl (by exact (IntKind.wrap_u8_of _ t1).trans (by rw [UInt8.toNat_ofNat']; omega))) rfl) (b := ?_)
 refine Lt 0 [] (([(UInt8.ofNat (48 + n.toNat))]).map byteV) (λ n0 j0 l0 d0 => ?_)
 refine ov 0 [] (s := Vs ([(UInt8.ofNat (48 + n.toNat))])) (a := by exact cv (Ru.b2s (l := [(UInt8.ofNat (48 + n.toNat))]) Tryz.underlying22 Tryz.underlying5 Tryz.underlying9 rfl (d0.rd 0 rfl)) rfl) (b := ?_)
 refine E1 3 [] (S ([(UInt8.ofNat (48 + n.toNat))])) ?_
 exact ⟨(by rw [nE t1 t1]), (Mem.none d0)⟩
 refine any 2 [] 11 [] λ i0 k0 => ?_
 refine av [0] [] 1 (s := Vi (n / 10)) (a := by exact λ w2 hw2 => cv (Ru.quo rfl rfl t1) rfl) (b := ?_)
 refine av [3] [] 4 (a := by exact λ _ hw2 => aEz) (b := ?_)
 refine av [] [] 5 (a := by exact λ _ hw2 => oW) (b := ?_)
 refine av [] [] 6 (s := Vn .u8 ((UInt8.ofNat (48 + n.toNat % 10)).toNat : Int)) (a := by exact λ w2 hw2 => cv (Ru.conv (c := ((UInt8.ofNat (48 + n.toNat % 10)).toNat : Int)) Tryz.underlying3 Tryz.underlying5 rfl (by exact (IntKind.wrap_u8_of _ t1).trans (by rw [UInt8.toNat_ofNat']; omega))) rfl) (b := ?_)
 refine aT [] [] 2 7 ?_ ?_
 refine cp 0 [] (b := nV _ i0 qo) (c := λ e0 a0 => ?_)
 refine os 0 [] [] ?_
 refine aO [] [] 7 ?_
 refine Lt 0 [] (([(UInt8.ofNat (48 + n.toNat % 10))]).map byteV) (λ c0 f0 h0 b0 => ?_)
 refine os 0 [] [] ?_
 refine aO [] [] 8 ?_
 refine ov 0 [] (s := Vs ([(UInt8.ofNat (48 + n.toNat % 10))])) (a := by exact cv (Ru.b2s (l := [(UInt8.ofNat (48 + n.toNat % 10))]) Tryz.underlying22 Tryz.underlying5 Tryz.underlying9 rfl (b0.rd 0 rfl)) rfl) (b := ?_)
 refine os 0 [] [] ?_
 refine av [] [] 9 (a := by exact λ _ hw2 => iF (h := by have := cL (n := n / 10) t1 t1; simp; omega)) (b := ?_)
 refine an [10] [] ?_
 refine E1 1 [] (S (bS (n / 10) ++ [(UInt8.ofNat (48 + n.toNat % 10))])) ?_
 exact ⟨(by rw [fV (n := n) t1]), (Mem.none b0)⟩
 refine Lt 0 [] (([(UInt8.ofNat (48 + n.toNat % 10))]).map byteV) (λ c0 f0 h0 b0 => ?_)
 refine os 0 [] [] ?_
 refine aT [] [] 2 8 ?_ ?_
 refine cp 0 [] (b := nV _ c0 qo) (c := λ e0 a0 => ?_)
 refine os 0 [] [] ?_
 refine aO [] [] 8 ?_
 refine ov 0 [] (s := Vs ([(UInt8.ofNat (48 + n.toNat % 10))])) (a := by exact cv (Ru.b2s (l := [(UInt8.ofNat (48 + n.toNat % 10))]) Tryz.underlying22 Tryz.underlying5 Tryz.underlying9 rfl (a0.rd 0 rfl)) rfl) (b := ?_)
 refine os 0 [] [] ?_
 refine av [] [] 9 (a := by exact λ _ hw2 => iF (h := by have := cL (n := n / 10) t1 t1; simp; omega)) (b := ?_)
 refine an [10] [] ?_
 refine E1 1 [] (S (bS (n / 10) ++ [(UInt8.ofNat (48 + n.toNat % 10))])) ?_
 exact ⟨(by rw [fV (n := n) t1]), (Mem.none a0)⟩
 refine ov 0 [] (s := Vs ([(UInt8.ofNat (48 + n.toNat % 10))])) (a := by exact cv (Ru.b2s (l := [(UInt8.ofNat (48 + n.toNat % 10))]) Tryz.underlying22 Tryz.underlying5 Tryz.underlying9 rfl (b0.rd 0 rfl)) rfl) (b := ?_)
 refine os 0 [] [] ?_
 refine aO [] [] 2 ?_
 refine cp 0 [] (b := nV _ c0 qo) (c := λ e0 a0 => ?_)
 refine os 0 [] [] ?_
 refine av [] [] 9 (a := by exact λ _ hw2 => iF (h := by have := cL (n := n / 10) t1 t1; simp; omega)) (b := ?_)
 refine an [10] [] ?_
 refine E1 1 [] (S (bS (n / 10) ++ [(UInt8.ofNat (48 + n.toNat % 10))])) ?_
 exact ⟨(by rw [fV (n := n) t1]), (Mem.none a0)⟩
 refine cd 14 [] (λ c12 => ?_) (λ c12 => ?_)
 refine ov 3 [] (s := Vi (-n)) (a := by exact cv (Ru.neg rfl t1) rfl) (b := ?_)
 refine cp 0 [] (b := nV _ w qo) (c := λ m0 g0 => ?_)
 refine ov 0 [] (a := iF (h := by have := cL (n := -n) t1 t1; simp; omega)) (b := ?_)
 refine E1 3 [] (S ([45] ++ bS (-n))) ?_
 exact ⟨(by rw [aEw (n := n) t1]; rfl), (Mem.none g0)⟩
 refine cd 7 [] (λ c18 => ?_) (λ c18 => ?_)
 refine ov 3 [] (a := oW) (b := ?_)
 refine ov 0 [] (s := Vn .u8 ((UInt8.ofNat (48 + n.toNat)).toNat : Int)) (a := by exact cv (Ru.conv (c := ((UInt8.ofNat (48 + n.toNat)).toNat : Int)) Tryz.underlying3 Tryz.underlying5 rfl (by exact (IntKind.wrap_u8_of _ t1).trans (by rw [UInt8.toNat_ofNat']; omega))) rfl) (b := ?_)
 refine Lt 0 [] (([(UInt8.ofNat (48 + n.toNat))]).map byteV) (λ n0 j0 l0 d0 => ?_)
 refine ov 0 [] (s := Vs ([(UInt8.ofNat (48 + n.toNat))])) (a := by exact cv (Ru.b2s (l := [(UInt8.ofNat (48 + n.toNat))]) Tryz.underlying22 Tryz.underlying5 Tryz.underlying9 rfl (d0.rd 0 rfl)) rfl) (b := ?_)
 refine E1 3 [] (S ([(UInt8.ofNat (48 + n.toNat))])) ?_
 exact ⟨(by rw [nE t1 t1]), (Mem.none d0)⟩
 refine any 2 [] 11 [] λ i0 k0 => ?_
 refine av [0] [] 1 (s := Vi (n / 10)) (a := by exact λ w2 hw2 => cv (Ru.quo rfl rfl t1) rfl) (b := ?_)
 refine av [3] [] 4 (a := by exact λ _ hw2 => aEz) (b := ?_)
 refine av [] [] 5 (a := by exact λ _ hw2 => oW) (b := ?_)
 refine av [] [] 6 (s := Vn .u8 ((UInt8.ofNat (48 + n.toNat % 10)).toNat : Int)) (a := by exact λ w2 hw2 => cv (Ru.conv (c := ((UInt8.ofNat (48 + n.toNat % 10)).toNat : Int)) Tryz.underlying3 Tryz.underlying5 rfl (by exact (IntKind.wrap_u8_of _ t1).trans (by rw [UInt8.toNat_ofNat']; omega))) rfl) (b := ?_)
 refine aT [] [] 2 7 ?_ ?_
 refine cp 0 [] (b := nV _ i0 qo) (c := λ e0 a0 => ?_)
 refine os 0 [] [] ?_
 refine aO [] [] 7 ?_
 refine Lt 0 [] (([(UInt8.ofNat (48 + n.toNat % 10))]).map byteV) (λ c0 f0 h0 b0 => ?_)
 refine os 0 [] [] ?_
 refine aO [] [] 8 ?_
 refine ov 0 [] (s := Vs ([(UInt8.ofNat (48 + n.toNat % 10))])) (a := by exact cv (Ru.b2s (l := [(UInt8.ofNat (48 + n.toNat % 10))]) Tryz.underlying22 Tryz.underlying5 Tryz.underlying9 rfl (b0.rd 0 rfl)) rfl) (b := ?_)
 refine os 0 [] [] ?_
 refine av [] [] 9 (a := by exact λ _ hw2 => iF (h := by have := cL (n := n / 10) t1 t1; simp; omega)) (b := ?_)
 refine an [10] [] ?_
 refine E1 1 [] (S (bS (n / 10) ++ [(UInt8.ofNat (48 + n.toNat % 10))])) ?_
 exact ⟨(by rw [fV (n := n) t1]), (Mem.none b0)⟩
 refine Lt 0 [] (([(UInt8.ofNat (48 + n.toNat % 10))]).map byteV) (λ c0 f0 h0 b0 => ?_)
 refine os 0 [] [] ?_
 refine aT [] [] 2 8 ?_ ?_
 refine cp 0 [] (b := nV _ c0 qo) (c := λ e0 a0 => ?_)
 refine os 0 [] [] ?_
 refine aO [] [] 8 ?_
 refine ov 0 [] (s := Vs ([(UInt8.ofNat (48 + n.toNat % 10))])) (a := by exact cv (Ru.b2s (l := [(UInt8.ofNat (48 + n.toNat % 10))]) Tryz.underlying22 Tryz.underlying5 Tryz.underlying9 rfl (a0.rd 0 rfl)) rfl) (b := ?_)
 refine os 0 [] [] ?_
 refine av [] [] 9 (a := by exact λ _ hw2 => iF (h := by have := cL (n := n / 10) t1 t1; simp; omega)) (b := ?_)
 refine an [10] [] ?_
 refine E1 1 [] (S (bS (n / 10) ++ [(UInt8.ofNat (48 + n.toNat % 10))])) ?_
 exact ⟨(by rw [fV (n := n) t1]), (Mem.none a0)⟩
 refine ov 0 [] (s := Vs ([(UInt8.ofNat (48 + n.toNat % 10))])) (a := by exact cv (Ru.b2s (l := [(UInt8.ofNat (48 + n.toNat % 10))]) Tryz.underlying22 Tryz.underlying5 Tryz.underlying9 rfl (b0.rd 0 rfl)) rfl) (b := ?_)
 refine os 0 [] [] ?_
 refine aO [] [] 2 ?_
 refine cp 0 [] (b := nV _ c0 qo) (c := λ e0 a0 => ?_)
 refine os 0 [] [] ?_
 refine av [] [] 9 (a := by exact λ _ hw2 => iF (h := by have := cL (n := n / 10) t1 t1; simp; omega)) (b := ?_)
 refine an [10] [] ?_
 refine E1 1 [] (S (bS (n / 10) ++ [(UInt8.ofNat (48 + n.toNat % 10))])) ?_
 exact ⟨(by rw [fV (n := n) t1]), (Mem.none a0)⟩
theorem zB (A : Option Addr) (c : Nat) (l : List PairT) (w : World) (hA : Rd w A (l.flatMap cY)) (hl : l.length <= 1048576) (hv : ∀ p ∈ l, small p) (h24 : l.length <= 24) :
  aR Tryz.prog 48 [.slice A l.length c] w (λ v w1 => v = S (iH l) /\ Mem w w1 [] []) := by
 have hM : Mem w w [] [] := Mem.refl
 refine aR.n1 Tryz.func48 rfl Tryz.results48 Tryz.ntmps48 rfl ?_
 refine lp1 14 [] (λ (k : Nat) => ([(3, Vs (iH (l.take k))), (4, Vi ((k : Nat) : Int))] : List (Nat × SV))) (λ k => (k <= l.length)) (λ k => []) (λ k => l.length - k) [0] [] [] 0 (λ k σ g0 hI d0 => ?_) (hL := by exact (Has.cons (congrArg S (by simp [iH])) (Has.cons (I_congr t10) Has.nil))) (h0 := (bI _))
 have e0 := hI
 refine cd 8 [] (λ c8 => ?_) (λ c8 => ?_)
 have hkl : k < l.length := by omega
 have hsm := hv _ (aC hkl)
 have hfl := oR (l := l) k hv e0
 have hl1 := cL (n := l[k].key) (by have := hsm.1; omega) (by have := hsm.1; omega)
 have hl2 := cL (n := l[k].val) (by have := hsm.2; omega) (by have := hsm.2; omega)
 have hs1 := hsm.1
 have hs2 := hsm.2
 refine cd 9 [] (λ c12 => ?_) (λ c12 => ?_)
 have hk0 : k ≠ 0 := by omega
 refine ov 2 [] (a := iF (h := t3)) (b := ?_)
 refine dr 2 [] ?_
 have b0 : k < l.length := t3
 refine qv 3 [] (a := by exact λ _ hw2 => cJ b0 (hA.at hw2)) (b := ?_)
 refine qv 0 [] (a := by exact λ _ hw2 => fZ b0 (hA.at hw2)) (b := ?_)
 refine qv 0 [] (a := by exact λ _ hw2 => gF b0 (hA.at hw2)) (b := ?_)
 refine qc 0 [] (X := S (bS (l[k]'b0).key)) (b := by exact λ w2 hw2 => (gK (l[k]'b0).key w2 qo).mono λ _ _ h => ⟨h.1, Mem.call0 hw2 h.2⟩) (c := ?_)
 refine qv 0 [] (a := by exact λ _ hw2 => iF (h := t3)) (b := ?_)
 refine qv 0 [] (a := by exact λ _ hw2 => iF (h := t3)) (b := ?_)
 have a0 : k < l.length := t3
 refine qv 2 [] (a := by exact λ _ hw2 => cJ a0 (hA.at hw2)) (b := ?_)
 refine qv 0 [] (a := by exact λ _ hw2 => fZ a0 (hA.at hw2)) (b := ?_)
 refine qv 0 [] (a := by exact λ _ hw2 => gF a0 (hA.at hw2)) (b := ?_)
 refine qc 0 [] (X := S (bS (l[k]'a0).val)) (b := by exact λ w2 hw2 => (gK (l[k]'a0).val w2 qo).mono λ _ _ h => ⟨h.1, Mem.call0 hw2 h.2⟩) (c := ?_)
 refine qv 0 [] (a := by exact λ _ hw2 => iF (h := t3)) (b := ?_)
 refine qn 1 [] λ f0 c0 => ?_
 refine ov 2 [] (a := bL (k + 1)) (b := ?_)
 exact le1 2 [] (k + 1) [] (hL := by exact (Has.cons (congrArg S (by rw [oT hkl]; simp [zU, hk0])) (Has.cons (I_congr t10) Has.nil))) (h := t9)
 have hk0 : k = 0 := by omega
 refine dr 1 [] ?_
 have b0 : k < l.length := t3
 refine qv 3 [] (a := by exact λ _ hw2 => cJ b0 (hA.at hw2)) (b := ?_)
 refine qv 0 [] (a := by exact λ _ hw2 => fZ b0 (hA.at hw2)) (b := ?_)
 refine qv 0 [] (a := by exact λ _ hw2 => gF b0 (hA.at hw2)) (b := ?_)
 refine qc 0 [] (X := S (bS (l[k]'b0).key)) (b := by exact λ w2 hw2 => (gK (l[k]'b0).key w2 qo).mono λ _ _ h => ⟨h.1, Mem.call0 hw2 h.2⟩) (c := ?_)
 refine qv 0 [] (a := by exact λ _ hw2 => iF (h := t3)) (b := ?_)
 refine qv 0 [] (a := by exact λ _ hw2 => iF (h := t3)) (b := ?_)
 have a0 : k < l.length := t3
 refine qv 2 [] (a := by exact λ _ hw2 => cJ a0 (hA.at hw2)) (b := ?_)
 refine qv 0 [] (a := by exact λ _ hw2 => fZ a0 (hA.at hw2)) (b := ?_)
 refine qv 0 [] (a := by exact λ _ hw2 => gF a0 (hA.at hw2)) (b := ?_)
 refine qc 0 [] (X := S (bS (l[k]'a0).val)) (b := by exact λ w2 hw2 => (gK (l[k]'a0).val w2 qo).mono λ _ _ h => ⟨h.1, Mem.call0 hw2 h.2⟩) (c := ?_)
 refine qv 0 [] (a := by exact λ _ hw2 => iF (h := t3)) (b := ?_)
 refine qn 1 [] λ f0 c0 => ?_
 refine ov 2 [] (a := bL (k + 1)) (b := ?_)
 exact le1 2 [] (k + 1) [] (hL := by exact (Has.cons (congrArg S (by rw [oT hkl]; simp [zU, hk0])) (Has.cons (I_congr t10) Has.nil))) (h := t9)
 refine E1 7 [] (S (iH (l.take k))) ?_
 exact ⟨(congrArg S (by rw [qO t1])), (Mem.none d0)⟩
end Go.Proofs.YtemejgglbhjodaaGreatDoor
namespace Go.Proofs
open Go.Shelf
def Tryz.lays169_ren : Go.Shelf.Ren := ⟨λ | 169 => 64 | n => n, λ | 70 => 91 | 9 => 9 | 0 => 0 | 72 => 93 | 37 => 22 | 127 => 139 | 3 => 3 | 5 => 5 | n => n, λ | n => n⟩
theorem Tryz.lays169 : Go.Proofs.Lays.n169 Tryz.prog Tryz.lays169_ren := {
 mixed := by kernel_rfl
 f169 := Tryz.func64.trans (congrArg some (by kernel_rfl))
 t0 := Tryz.underlying0
 a0 := Tryz.isAgg0
 z0 := Tryz.sizeOf0
 v0 := Tryz.zeroValue0
 t3 := Tryz.underlying3
 a3 := Tryz.isAgg3
 z3 := Tryz.sizeOf3
 v3 := Tryz.zeroValue3
 t9 := Tryz.underlying9
 a9 := Tryz.isAgg9
 z9 := Tryz.sizeOf9
 v9 := Tryz.zeroValue9
 t37 := Tryz.underlying22
 a37 := Tryz.isAgg22
 z37 := Tryz.sizeOf22
 v37 := Tryz.zeroValue22
 t70 := Tryz.underlying91
 a70 := Tryz.isAgg91
 z70 := Tryz.sizeOf91
 v70 := Tryz.zeroValue91
 t72 := Tryz.underlying93
 a72 := Tryz.isAgg93
 z72 := Tryz.sizeOf93
 v72 := Tryz.zeroValue93
 t127 := Tryz.underlying139
 a127 := Tryz.isAgg139
 z127 := Tryz.sizeOf139
 v127 := Tryz.zeroValue139 }
theorem Tryz.Builder_Extra_169 : Builder.Extra Tryz.prog Tryz.lays169_ren := {
 sizeBuilder := by kernel_rfl
 liesBuilder := by kernel_rfl
 t5 := Tryz.underlying5
 a5 := Tryz.isAgg5
 z5 := Tryz.sizeOf5
 v5 := Tryz.zeroValue5
 infoByte := by kernel_rfl
 cellsByte := by kernel_rfl
 sizeByte := by kernel_rfl
 neB5 := by decide }
open Go.RowKit in
theorem Tryz.Builder_String_any (B b : Nat) (l : List UInt8) (w : World) (h : Lib.IsBuilder 93 5 B b (Lib.byteCells l) w) (hBw : B <= w.heap.size) :
  Calls Tryz.prog 64 #[.pointer (some ⟨b, 0, none⟩)] w λ e w' => e = .returned (.string ⟨l.toArray⟩) /\ Below B w w' := Any.Builder_String_any Tryz.lays169 Tryz.Builder_Extra_169 B b l w h hBw
def Tryz.laysM171_ren : Go.Shelf.Ren := ⟨λ | 171 => 88 | 243 => 133 | 246 => 162 | 283 => 181 | 284 => 182 | 285 => 183 | 286 => 184 | 129 => 205 | 317 => 204 | 318 => 206 | 319 => 207 | 320 => 208 | 337 => 219 | 338 => 220 | n => n, λ | 3 => 3 | 9 => 9 | 2 => 2 | 4 => 4 | 171 => 179 | 0 => 0 | 53 => 180 | 37 => 22 | 5 => 5 | 173 => 183 | 212 => 201 | 51 => 202 | 20 => 20 | 213 => 203 | 46 => 176 | 232 => 229 | 233 => 230 | n => n, λ | 17 => 1 | 18 => 6 | 19 => 7 | n => n⟩
theorem Tryz.laysM171 : Go.Proofs.LaysM.n171 Tryz.prog Tryz.laysM171_ren := {
 mixed := by kernel_rfl
 f129 := Tryz.func205.trans (congrArg some (by kernel_rfl))
 f171 := Tryz.func88.trans (congrArg some (by kernel_rfl))
 f243 := Tryz.func133.trans (congrArg some (by kernel_rfl))
 f246 := Tryz.func162.trans (congrArg some (by kernel_rfl))
 f283 := Tryz.func181.trans (congrArg some (by kernel_rfl))
 f284 := Tryz.func182.trans (congrArg some (by kernel_rfl))
 f285 := Tryz.func183.trans (congrArg some (by kernel_rfl))
 f286 := Tryz.func184.trans (congrArg some (by kernel_rfl))
 f317 := Tryz.func204.trans (congrArg some (by kernel_rfl))
 f318 := Tryz.func206.trans (congrArg some (by kernel_rfl))
 f319 := Tryz.func207.trans (congrArg some (by kernel_rfl))
 f320 := Tryz.func208.trans (congrArg some (by kernel_rfl))
 f337 := Tryz.func219.trans (congrArg some (by kernel_rfl))
 f338 := Tryz.func220.trans (congrArg some (by kernel_rfl))
 t0 := Tryz.underlying0
 a0 := Tryz.isAgg0
 z0 := Tryz.sizeOf0
 v0 := Tryz.zeroValue0
 t2 := Tryz.underlying2
 a2 := Tryz.isAgg2
 z2 := Tryz.sizeOf2
 v2 := Tryz.zeroValue2
 t3 := Tryz.underlying3
 a3 := Tryz.isAgg3
 z3 := Tryz.sizeOf3
 v3 := Tryz.zeroValue3
 t4 := Tryz.underlying4
 a4 := Tryz.isAgg4
 z4 := Tryz.sizeOf4
 v4 := Tryz.zeroValue4
 t5 := Tryz.underlying5
 a5 := Tryz.isAgg5
 z5 := Tryz.sizeOf5
 v5 := Tryz.zeroValue5
 t9 := Tryz.underlying9
 a9 := Tryz.isAgg9
 z9 := Tryz.sizeOf9
 v9 := Tryz.zeroValue9
 t20 := Tryz.underlying20
 a20 := Tryz.isAgg20
 z20 := Tryz.sizeOf20
 v20 := Tryz.zeroValue20
 t37 := Tryz.underlying22
 a37 := Tryz.isAgg22
 z37 := Tryz.sizeOf22
 v37 := Tryz.zeroValue22
 t46 := Tryz.underlying176
 a46 := Tryz.isAgg176
 z46 := Tryz.sizeOf176
 v46 := Tryz.zeroValue176
 t51 := Tryz.underlying202
 a51 := Tryz.isAgg202
 z51 := Tryz.sizeOf202
 v51 := Tryz.zeroValue202
 t53 := Tryz.underlying180
 a53 := Tryz.isAgg180
 z53 := Tryz.sizeOf180
 v53 := Tryz.zeroValue180
 t171 := Tryz.underlying179
 a171 := Tryz.isAgg179
 z171 := Tryz.sizeOf179
 v171 := Tryz.zeroValue179
 t173 := Tryz.underlying183
 a173 := Tryz.isAgg183
 z173 := Tryz.sizeOf183
 v173 := Tryz.zeroValue183
 t212 := Tryz.underlying201
 a212 := Tryz.isAgg201
 z212 := Tryz.sizeOf201
 v212 := Tryz.zeroValue201
 t213 := Tryz.underlying203
 a213 := Tryz.isAgg203
 z213 := Tryz.sizeOf203
 t232 := Tryz.underlying229
 a232 := Tryz.isAgg229
 z232 := Tryz.sizeOf229
 v232 := Tryz.zeroValue229
 t233 := Tryz.underlying230
 a233 := Tryz.isAgg230
 z233 := Tryz.sizeOf230
 v233 := Tryz.zeroValue230
 g17 := by kernel_rfl
 g18 := by kernel_rfl
 g19 := by kernel_rfl
 i0 := by kernel_rfl
 i2 := by kernel_rfl
 i3 := by kernel_rfl
 i4 := by kernel_rfl
 i5 := by kernel_rfl
 i9 := by kernel_rfl
 i20 := by kernel_rfl
 i37 := by kernel_rfl
 i46 := by kernel_rfl
 i51 := by kernel_rfl
 i53 := by kernel_rfl
 i171 := by kernel_rfl
 i173 := by kernel_rfl
 i212 := by kernel_rfl
 i232 := by kernel_rfl
 i233 := by kernel_rfl
 m17 := by kernel_rfl
 m18 := by kernel_rfl
 m19 := by kernel_rfl }
end Go.Proofs
section
namespace Go.Proofs.YtemejgglbhjodaaGreatDoor
open Go.Px Go.RowKit
def aDd : String := Rows.fnPageTextRow.named.headD ""
abbrev TAB (w : World) : Prop := Lib.TabIs Tryz.prog w aDd .u64 Lib.pow10Tab
theorem mU (n : Int) (w : World) (htab : TAB w) (hn : -9223372036854775808 <= n /\ n <= 9223372036854775807) : aR Tryz.prog 88 [I n] w (λ v w1 => v = S (bS n) /\ Mem w w1 [] []) :=
 ⟨(Any.strconv_Itoa Tryz.laysM171 n hn.1 hn.2 w htab).mono λ e w' ⟨he, k, os, hw⟩ => ⟨_, he, rfl, by rw [hw]; exact Px.mem_grow⟩⟩
theorem uW {l : Str} {b : Nat} (w : World) {B : Nat} (hBw : B <= w.heap.size) (h : Lib.IsBuilder 93 5 B b (Lib.byteCells l) w) : aR Tryz.prog 64 [.pointer (ofs (bl b) 0)] w (λ v w1 => v = S l /\ Below B w w1) :=
 ⟨(Tryz.Builder_String_any B b l w h hBw).mono λ e w' ⟨he, hw⟩ => ⟨_, he, rfl, hw⟩⟩
end Go.Proofs.YtemejgglbhjodaaGreatDoor
namespace Go.Px
open Go.RowKit
section
variable {w0 w w1 : World} {M : List (List FE)}
theorem vI (h : Mem w0 w [] M) (hB : Below w0.heap.size w w1) : Mem w0 w1 [] [] :=
 ⟨hB.os.trans h.os, hB.tape.trans h.tape, hB.output.trans h.output, cR h.size hB.size, λ k hk hr => (hB.block k hk).trans (h.block k hk hr), t11, t11, t11⟩
theorem iS.builder {A : Option Addr} {b c T e : Nat} {p : Value} {l : Str} (h : Mem w0 w [] M) (i j : Nat) (hi : M[i]? = some [⟨.slice (bl b) 1 1, T, 2, 1, [p, .slice A l.length c]⟩]) (hj : M[j]? = some [⟨.slice A l.length c, e, 1, l.length, l.map byteV⟩]) (hp : p = .pointer none \/ p = .pointer (ofs (bl b) 0)) (hij : i ≠ j := by decide) : Lib.IsBuilder T e w0.heap.size b (Lib.byteCells l) w := by
 have hb := cA (i := i) (j := 0) h hi rfl
 have ho : Px.own w 0 e 1 (.slice A l.length c) l.length (l.map byteV) := h.get hj (j := 0) rfl
 have hbb : w0.heap.size <= b := by
  rcases h.born _ (dM.2 ⟨_, cE hi, aU.2 rfl⟩) b rfl with h1 | h1
  ·exact h1
  simp at h1
 have hg := Px.grp_get (jB.1 h.apart).2 hi hj hij
 have hap : rU _ _ := hg _ (aU.2 rfl) _ (aU.2 rfl)
 have key : ∀ q : Value, p = q -> Lib.BuilderAt T e w0.heap.size b q (Lib.byteCells l) w := by
  rintro q rfl
  refine ⟨hbb, _, hb, ⟨?_, ?_⟩, ?_⟩
  ·simp [Lib.byteCells]
  ·have hlen : (Lib.byteCells l).length = l.length := by simp [Lib.byteCells]
   rw [hlen]
   obtain ⟨_, ⟨hv, h0⟩ | ⟨g, cap, cur, hv, hbg, hgg, hnc, hcm, hcs, ht⟩⟩ := ho
   ·left; exact ⟨hv, h0⟩
   right
   refine ⟨g, cap, cur, hv, ?_, hgg, hnc, hcm, hcs, ht⟩
   rcases h.born _ (dM.2 ⟨_, cE hj, aU.2 rfl⟩) g (by rw [FE.blk, hv]; rfl) with h1 | h1
   ·exact h1
   simp at h1
  intro e'
  exact hap b rfl e'
 rcases hp with hp | hp
 ·exact .inl (key _ hp)
 exact .inr (key _ hp)
end
end Go.Px
end
namespace Go.Proofs.YtemejgglbhjodaaGreatDoor
open Go.Px
theorem aNa (b : Nat) (A : Option Addr) (n : Nat) (c : Nat) (w : World) (hM : Mem w w [some b] [[⟨.slice (bl b) 1 1, 93, 2, 1, [(.pointer none), .slice A n c]⟩]]) :
  aR Tryz.prog 98 [.pointer (ofs (bl b) 0)] w (λ v w1 => v = (.tuple #[]) /\ Mem w w1 [some b] [[⟨.slice (bl b) 1 1, 93, 2, 1, [.pointer (ofs (bl b) 0), .slice A n c]⟩]]) := by
 refine aR.n0 Tryz.func98 rfl Tryz.results98 Tryz.ntmps98 rfl ?_
 refine ov 6 [0] (s := Vb true) (a := by exact cv (Ru.peqN (a := none) Tryz.underlying91 rfl rfl) rfl) (b := ?_)
 refine ov 5 [] (s := Vp (bl b) 0) (a := by exact cv (Ru.toUns (l := [(.pointer none), .slice A n c]) Tryz.underlying91 Tryz.underlying152 el93 t19 (cA (i := 0) (j := 0) hM rfl rfl) t11 rfl) rfl) (b := ?_)
 refine ov 0 [] (s := Vp (bl b) 0) (a := by exact cv (Ru.noEsc Tryz.func140 (by kernel_rfl) (by kernel_rfl) (by kernel_rfl) (by kernel_rfl) rfl) rfl) (b := ?_)
 refine ov 0 [] (s := Vp (bl b) 0) (a := by exact cv (Ru.frUns (l := [(.pointer none), .slice A n c]) Tryz.underlying152 Tryz.underlying91 el93 (cA (i := 0) (j := 0) hM rfl rfl) (by kernel_rfl) rfl) rfl) (b := ?_)
 refine Sb 2 [] 0 λ b0 a0 => ?_
 refine E0 1 [] ?_
 exact ⟨(by first | rfl | exact sl_congr t8 | (simp; done)), (a0.pk [0])⟩
theorem aNb (b : Nat) (A : Option Addr) (n : Nat) (c : Nat) (w : World) (hM : Mem w w [some b] [[⟨.slice (bl b) 1 1, 93, 2, 1, [.pointer (ofs (bl b) 0), .slice A n c]⟩]]) :
  aR Tryz.prog 98 [.pointer (ofs (bl b) 0)] w (λ v w1 => v = (.tuple #[]) /\ Mem w w1 [some b] [[⟨.slice (bl b) 1 1, 93, 2, 1, [.pointer (ofs (bl b) 0), .slice A n c]⟩]]) := by
 refine aR.n0 Tryz.func98 rfl Tryz.results98 Tryz.ntmps98 rfl ?_
 refine ov 6 [0] (s := Vb false) (a := by exact cv (Ru.peqN (a := ofs (bl b) 0) Tryz.underlying91 rfl rfl) rfl) (b := ?_)
 refine ov 9 [0] (s := Vb false) (a := by exact cv (Ru.pneS (a := ⟨b, 0, Option.none⟩) Tryz.underlying91 el93 rfl rfl) rfl) (b := ?_)
 refine E0 3 [] ?_
 exact ⟨(by first | rfl | exact sl_congr t8 | (simp; done)), (hM.pk [0])⟩
theorem tG (b : Nat) (p : Value) (A : Option Addr) (n : Nat) (c : Nat) (w : World) (hM : Mem w w [some b] [[⟨.slice (bl b) 1 1, 93, 2, 1, [p, .slice A n c]⟩]]) (hp : p = .pointer none \/ p = .pointer (ofs (bl b) 0)) :
  aR Tryz.prog 98 [.pointer (ofs (bl b) 0)] w (λ v w1 => v = (.tuple #[]) /\ Mem w w1 [some b] [[⟨.slice (bl b) 1 1, 93, 2, 1, [.pointer (ofs (bl b) 0), .slice A n c]⟩]]) := by
 rcases hp with rfl | rfl
 exact aNa b A n c w hM
 exact aNb b A n c w hM
theorem iL (b : Nat) (A : Option Addr) (c : Nat) (l : List UInt8) (p : Value) (ch : UInt8) (w : World) (hM : Mem w w [some b, (Value.slice A l.length c).ownBlock] [[⟨.slice (bl b) 1 1, 93, 2, 1, [p, .slice A l.length c]⟩], oB A c l]) (hp : p = .pointer none \/ p = .pointer (ofs (bl b) 0)) (hl : l.length <= 1000000) :
  aR Tryz.prog 63 [.pointer (ofs (bl b) 0), .int .u8 (ch.toNat : Int)] w (λ v w1 => ∃ (A1 : Option Addr) (c1 : Nat), v = (.nilIface) /\ Mem w w1 [some b, (Value.slice A l.length c).ownBlock] [[⟨.slice (bl b) 1 1, 93, 2, 1, [.pointer (ofs (bl b) 0), .slice A1 (l ++ [ch]).length c1]⟩], oB A1 c1 (l ++ [ch])]) := by
 refine aR.n1 Tryz.func63 rfl Tryz.results63 Tryz.ntmps63 rfl ?_
 refine cq 7 [] (b := tG _ p A l.length c w (hM.fp [0] rfl rfl) (by first | exact .inl rfl | exact .inr rfl | assumption)) (c := ?_)
 rintro _ k0 ⟨rfl, e0⟩
 have g0 := hM.cl 1 e0
 refine Lt 9 [0] (([ch]).map byteV) (λ m0 f0 i0 d0 => ?_)
 refine aM 0 [] 2 (d0.rd 0 rfl) (λ n0 a0 b0 j0 h0 => ?_)
 refine Sb 2 [] 1 λ l0 c0 => ?_
 refine E1 6 [] (.nilIface) ?_
 exact ⟨a0, b0, (by first | rfl | exact sl_congr t8 | (simp; done)), (c0.pk [1, 2])⟩
theorem hY (b : Nat) (A : Option Addr) (c : Nat) (l : List UInt8) (p : Value) (s : Str) (w : World) (hM : Mem w w [some b, (Value.slice A l.length c).ownBlock] [[⟨.slice (bl b) 1 1, 93, 2, 1, [p, .slice A l.length c]⟩], oB A c l]) (hp : p = .pointer none \/ p = .pointer (ofs (bl b) 0)) (hl : l.length + s.length <= 1000000) :
  aR Tryz.prog 61 [.pointer (ofs (bl b) 0), S s] w (λ v w1 => ∃ (A1 : Option Addr) (c1 : Nat), v = .tuple #[I ((s.length : Nat) : Int), (.nilIface)] /\ Mem w w1 [some b, (Value.slice A l.length c).ownBlock] [[⟨.slice (bl b) 1 1, 93, 2, 1, [.pointer (ofs (bl b) 0), .slice A1 (l ++ s).length c1]⟩], oB A1 c1 (l ++ s)]) := by
 refine aR.n2 Tryz.func61 rfl Tryz.results61 Tryz.ntmps61 rfl ?_
 refine cq 8 [] (b := tG _ p A l.length c w (hM.fp [0] rfl rfl) (by first | exact .inl rfl | exact .inr rfl | assumption)) (c := ?_)
 rintro _ h0 ⟨rfl, f0⟩
 have c0 := hM.cl 1 f0
 refine go 9 [0] ?_
 refine O.mappendS (l := s) (m1 := (l ++ s).length) (xs1 := (l ++ s).map byteV) (M' := λ a0 b0 => [[⟨.slice (bl b) 1 1, 93, 2, 1, [.pointer (ofs (bl b) 0), .slice A l.length c]⟩], oB a0 b0 (l ++ s)]) 1 c0 rfl rfl Tryz.underlying22 Tryz.underlying9 (by kernel_rfl) rfl rfl rfl t3 (by first | (simp; done) | (simp; omega)) t11 (λ _ _ => rfl) (λ i0 a0 b0 g0 d0 => ?_)
 try dsimp only at d0
 refine Sb 2 [] 0 λ j0 e0 => ?_
 refine E2 9 [] (I (s.length : Int)) (.nilIface) ?_
 exact ⟨a0, b0, (by first | rfl | exact sl_congr t8 | (simp; done)), (e0.pk [0, 1])⟩
end Go.Proofs.YtemejgglbhjodaaGreatDoor
namespace Go.Proofs.YtemejgglbhjodaaGreatDoor
open Go.Px
set_option maxHeartbeats 2000000 in
theorem tA (A : Option Addr) (c : Nat) (l : List PairT) (w : World) (hA : Rd w A (l.flatMap cY)) (hl : l.length <= 1048576) (htab : TAB w) :
  aR Tryz.prog 43 [.slice A l.length c] w (λ v w1 => v = S (aEp l) /\ Mem w w1 [] []) := by
 have hM : Mem w w [] [] := Mem.refl
 refine aR.n1 Tryz.func43 rfl Tryz.results43 Tryz.ntmps43 rfl ?_
 refine cp 8 [] (b := nT _ _ _ w (hA.at hM) q0) (c := λ i1 I0 => ?_)
 refine cn 2 [] (λ c8 => ?_) (λ c8 => ?_)
 refine E1 5 [] (S ([])) ?_
 exact ⟨(by rw [fmtR_no (by simpa using c8)]), (Mem.none I0)⟩
 have hv : bW l = true := by simpa using c8
 have hvs := lK hv
 have h24 := pR hv
 refine Al 3 [] λ j1 a0 e1 J0 => ?_
 have K0 := Mem.addNil (e := 5) (sz := 1) J0
 have U0 : ([] : List UInt8) = iH (l.take 0) := (by simp [iH])
 have L0 := K0.reM 0 U0 (f := byteV)
 have b1 := L0.reB 1 1 (show 0 = (iH (l.take 0)).length from (by simp [iH]))
 refine lp4 9 [] (λ (k : Nat) (pv : Value) (A2 : Option Addr) (c2 : Nat) => ([(11, Vi ((k : Nat) : Int))] : List (Nat × SV))) (λ k pv A2 c2 => (k <= l.length) /\ (pv = .pointer none \/ pv = .pointer (ofs (bl a0) 0))) (λ k pv A2 c2 => [oB A2 c2 (iH (l.take k)), [⟨.slice (bl a0) 1 1, 93, 2, 1, [pv, .slice A2 (iH (l.take k)).length c2]⟩]]) (λ k pv A2 c2 => l.length - k) [3, 9, 10] [0, 1] [] 0 ((.pointer none) : Value) none 0 (λ k pv A2 c2 σ Y0 hI d0 => ?_) (h0 := ⟨(bI _), (.inl rfl)⟩)
 obtain ⟨S0, T0⟩ := hI
 have g1 := (d0.cap 0 rfl).1
 refine cd 5 [] (λ c12 => ?_) (λ c12 => ?_)
 have hkl : k < l.length := by omega
 have hsm := hvs _ (aC hkl)
 have hfl := oR (l := l) k hvs S0
 have hl1 := cL (n := l[k].key) (by have := hsm.1; omega) (by have := hsm.1; omega)
 have hl2 := cL (n := l[k].val) (by have := hsm.2; omega) (by have := hsm.2; omega)
 have hs1 := hsm.1
 have hs2 := hsm.2
 have b0 : k < l.length := t3
 refine ov 6 [] (a := cJ b0 (hA.at d0)) (b := ?_)
 refine ov 0 [] (a := gL b0 (hA.at d0)) (b := ?_)
 refine Al 0 [] λ k1 Z0 f1 a1 => ?_
 refine Sb 1 [] 0 λ D0 x0 => ?_
 refine cd 7 [] (λ c17 => ?_) (λ c17 => ?_)
 have hk0 : k ≠ 0 := by omega
 have z0 := x0.pk [2, 1, 0]
 refine cq 1 [] (b := iL a0 A2 c2 (iH (l.take k)) pv (44 : UInt8) D0 (z0.fp [0, 1] rfl rfl) (by first | exact .inl rfl | exact .inr rfl | assumption) t3) (c := ?_)
 rintro _ X0 ⟨E0, F0, rfl, O0⟩
 have y0 := z0.cl 2 O0
 have h1 := (y0.cap 1 rfl).1
 refine cp 5 [2] (b := mU _ X0 (sO htab y0) (by first | omega | (constructor <;> omega))) (c := λ v0 i0 => ?_)
 refine cq 0 [] (b := hY a0 E0 F0 ((iH (l.take k)) ++ [(44 : UInt8)]) (.pointer (ofs (bl a0) 0)) _ v0 (i0.fp [0, 1] rfl rfl) (by first | exact .inl rfl | exact .inr rfl | assumption) t3) (c := ?_)
 rintro _ w0 ⟨l0, o0, rfl, s0⟩
 have c0 := i0.cl 2 s0
 have R0 := (c0.cap 1 rfl).1
 refine cq 3 [] (b := iL a0 l0 o0 (((iH (l.take k)) ++ [(44 : UInt8)]) ++ (bS (l[k]'b0).key)) (.pointer (ofs (bl a0) 0)) (58 : UInt8) w0 (c0.fp [0, 1] rfl rfl) (by first | exact .inl rfl | exact .inr rfl | assumption) t3) (c := ?_)
 rintro _ t0 ⟨j0, m0, rfl, p0⟩
 have e0 := c0.cl 2 p0
 have P0 := (e0.cap 1 rfl).1
 refine cp 4 [2] (b := mU _ t0 (sO htab e0) (by first | omega | (constructor <;> omega))) (c := λ u0 f0 => ?_)
 refine cq 0 [] (b := hY a0 j0 m0 ((((iH (l.take k)) ++ [(44 : UInt8)]) ++ (bS (l[k]'b0).key)) ++ [(58 : UInt8)]) (.pointer (ofs (bl a0) 0)) _ u0 (f0.fp [0, 1] rfl rfl) (by first | exact .inl rfl | exact .inr rfl | assumption) t3) (c := ?_)
 rintro _ V0 ⟨k0, n0, rfl, r0⟩
 have g0 := f0.cl 2 r0
 have Q0 := (g0.cap 1 rfl).1
 refine ov 2 [] (a := bL (k + 1)) (b := ?_)
 have B0 : (((((iH (l.take k)) ++ [(44 : UInt8)]) ++ (bS (l[k]'b0).key)) ++ [(58 : UInt8)]) ++ (bS (l[k]'b0).val) : List UInt8) = iH (l.take (k + 1)) := (by rw [oT hkl]; simp [zU, hk0])
 have M0 := g0.reM 1 B0
 have c1 := M0.reB 0 1 (show (((((iH (l.take k)) ++ [(44 : UInt8)]) ++ (bS (l[k]'b0).key)) ++ [(58 : UInt8)]) ++ (bS (l[k]'b0).val)).length = (iH (l.take (k + 1))).length from congrArg List.length B0)
 exact le4 2 [] (k + 1) ((.pointer (ofs (bl a0) 0)) : Value) k0 n0 [1, 0] (h := by exact ⟨t7, (.inr rfl)⟩)
 have hk0 : k = 0 := by omega
 refine cp 5 [0] (b := mU _ D0 (sO htab x0) (by first | omega | (constructor <;> omega))) (c := λ v0 i0 => ?_)
 have A0 := i0.pk [2, 1, 0]
 refine cq 0 [] (b := hY a0 A2 c2 (iH (l.take k)) pv _ v0 (A0.fp [0, 1] rfl rfl) (by first | exact .inl rfl | exact .inr rfl | assumption) t3) (c := ?_)
 rintro _ w0 ⟨l0, o0, rfl, s0⟩
 have c0 := A0.cl 2 s0
 have R0 := (c0.cap 1 rfl).1
 refine cq 3 [] (b := iL a0 l0 o0 ((iH (l.take k)) ++ (bS (l[k]'b0).key)) (.pointer (ofs (bl a0) 0)) (58 : UInt8) w0 (c0.fp [0, 1] rfl rfl) (by first | exact .inl rfl | exact .inr rfl | assumption) t3) (c := ?_)
 rintro _ t0 ⟨j0, m0, rfl, p0⟩
 have e0 := c0.cl 2 p0
 have P0 := (e0.cap 1 rfl).1
 refine cp 4 [2] (b := mU _ t0 (sO htab e0) (by first | omega | (constructor <;> omega))) (c := λ u0 f0 => ?_)
 refine cq 0 [] (b := hY a0 j0 m0 (((iH (l.take k)) ++ (bS (l[k]'b0).key)) ++ [(58 : UInt8)]) (.pointer (ofs (bl a0) 0)) _ u0 (f0.fp [0, 1] rfl rfl) (by first | exact .inl rfl | exact .inr rfl | assumption) t3) (c := ?_)
 rintro _ V0 ⟨k0, n0, rfl, r0⟩
 have g0 := f0.cl 2 r0
 have Q0 := (g0.cap 1 rfl).1
 refine ov 2 [] (a := bL (k + 1)) (b := ?_)
 have C0 : ((((iH (l.take k)) ++ (bS (l[k]'b0).key)) ++ [(58 : UInt8)]) ++ (bS (l[k]'b0).val) : List UInt8) = iH (l.take (k + 1)) := (by rw [oT hkl]; simp [zU, hk0])
 have N0 := g0.reM 1 C0
 have d1 := N0.reB 0 1 (show ((((iH (l.take k)) ++ (bS (l[k]'b0).key)) ++ [(58 : UInt8)]) ++ (bS (l[k]'b0).val)).length = (iH (l.take (k + 1))).length from congrArg List.length C0)
 exact le4 2 [] (k + 1) ((.pointer (ofs (bl a0) 0)) : Value) k0 n0 [1, 0] (h := by exact ⟨t7, (.inr rfl)⟩)
 refine go 3 [] ?_
 refine O.callg [.pointer (ofs (bl a0) 0)] rfl en64 rfl rfl (uW (l := iH (l.take k)) Y0 d0.size (d0.builder 1 0 rfl rfl (by exact T0))) ?_
 rintro _ W0 ⟨rfl, G0⟩
 have H0 : Mem w W0 [] [] := vI d0 G0
 refine E1 3 [] (S (iH (l.take k))) ?_
 exact ⟨(congrArg S (by rw [tO hv, qO t1])), (Mem.none H0)⟩
end Go.Proofs.YtemejgglbhjodaaGreatDoor
namespace Go.Proofs.YtemejgglbhjodaaGreatDoor
open Go.Px
theorem mf77 : pU Tryz.prog 77 [.int .i64 0, .slice none 0 0, .bool false, .bool false, .bool false, .bool false, .bool false, .bool false, .bool false, .bool false, .bool false, .bool false, .bool false, .bool false, .bool false, .bool false, .bool false, .bool false, .int .i64 0] [(0, 2), (2, 16), (18, 1)] := pU.of (z := .agg #[.int .i64 0, .slice none 0 0, .bool false, .bool false, .bool false, .bool false, .bool false, .bool false, .bool false, .bool false, .bool false, .bool false, .bool false, .bool false, .bool false, .bool false, .bool false, .bool false, .int .i64 0]) (by kernel_rfl) rfl (by kernel_rfl)
instance ienl_encPg : EnL encPg 3 := ⟨aLa⟩
theorem xX (b : Nat) (at0 : Int) (T : bN) (s : List Int) (ld : Int) (w : World) (hNT : TrN w T) (hOT : TrO T [some b]) (hM : Mem w w [some b] [[⟨.slice (bl b) 1 1, 77, 19, 1, ckC T s ld⟩]]) (hs : SzT T) (hat : 0 <= at0 /\ at0 < (T.l.length : Int)) :
  aR Tryz.prog 93 [.pointer (ofs (bl b) 0), I at0] w (λ v w1 => v = .bool (frB T.t at0) /\ Mem w w1 [some b] [[⟨.slice (bl b) 1 1, 77, 19, 1, ckC T s ld⟩]]) := by
 refine aR.n1 Tryz.func93 rfl Tryz.results93 Tryz.ntmps93 rfl ?_
 refine ov 10 [] (s := Vl T.A T.l.length T.cp) (a := by exact cv (Ru.load1 kV rfl ((hM.rd 0 rfl).ld (k := 1) rfl)) rfl) (b := ?_)
 have a0 : at0.toNat < T.l.length := t3
 refine ov 1 [] (a := cJ a0 (hNT.atR hM hOT).1) (b := ?_)
 refine ov 0 [] (a := gL a0 (hNT.atR hM hOT).1) (b := ?_)
 have hgp : gP T.t at0 = (T.l[at0.toNat]'a0).t := jH rfl a0
 have hsz := hs.at a0
 refine Al 0 [] λ q0 n0 p0 o0 => ?_
 refine Sb 0 [] 0 λ m0 g0 => ?_
 refine pp 9 [0] 20 (λ g20 => ?_) (λ g20 => ?_)
 refine E1 12 [] (.bool false) ?_
 exact ⟨(by rw [nB, hgp]; first | rw [fr_n1 (by show ¬ (T.l[at0.toNat]'a0).k.l.length <= 4; omega)] | rw [fr_n2 (show bR (T.l[at0.toNat]'a0).t.keys = false from (show bR (T.l[at0.toNat]'a0).k.l = false from (by simpa using c25)))]), (g0.pk [1])⟩
 refine cq 2 [0] (b := lP (T.l[at0.toNat]'a0).k.A (T.l[at0.toNat]'a0).k.cp (T.l[at0.toNat]'a0).k.l m0 ((hNT.atR g0 hOT).2.get a0).1 qo) (c := ?_)
 rintro _ r0 ⟨rfl, j0⟩
 have b0 := g0.cl 0 j0
 refine cn 3 [] (λ c25 => ?_) (λ c25 => ?_)
 refine E1 5 [] (.bool false) ?_
 exact ⟨(by rw [nB, hgp]; first | rw [fr_n1 (by show ¬ (T.l[at0.toNat]'a0).k.l.length <= 4; omega)] | rw [fr_n2 (show bR (T.l[at0.toNat]'a0).t.keys = false from (show bR (T.l[at0.toNat]'a0).k.l = false from (by simpa using c25)))]), (b0.pk [1])⟩
 have hvk : bR (T.l[at0.toNat]'a0).k.l = true := by simpa using c25
 refine ov 9 [] (s := Vi T.root) (a := by exact cv (Ru.load1 el3 rfl ((b0.rd 1 rfl).ld (k := 0) rfl)) rfl) (b := ?_)
 refine pp 2 [] 33 (λ g33 => ?_) (λ g33 => ?_)
 refine cd 6 [0] (λ c38 => ?_) (λ c38 => ?_)
 refine E1 5 [] (.bool false) ?_
 exact ⟨(by rw [nB, hgp, fr_n3 (root := T.t.root) g33 (by show ¬ 2 <= (T.l[at0.toNat]'a0).k.l.length; omega)]), (b0.pk [1])⟩
 have hr : at0 = T.t.root \/ 2 <= (T.l[at0.toNat]'a0).t.keys.length := by first | (left; exact Classical.not_not.1 g33) | (left; simpa using g33) | (right; show 2 <= (T.l[at0.toNat]'a0).k.l.length; omega)
 refine cd 9 [0] (λ c42 => ?_) (λ c42 => ?_)
 refine pp 7 [0] 47 (λ g47 => ?_) (λ g47 => ?_)
 refine pp 6 [0] 53 (λ g53 => ?_) (λ g53 => ?_)
 refine ov 6 [0, 0] (a := bL ((T.l[at0.toNat]'a0).k.l.length + 1)) (b := ?_)
 refine E1 5 [] (.bool (decide ((((T.l[at0.toNat]'a0).c.l.length : Nat) : Int) = ((((T.l[at0.toNat]'a0).k.l.length + 1) : Nat) : Int)))) ?_
 exact ⟨(by rw [nB, hgp, fr_yi' (show (T.l[at0.toNat]'a0).t.keys.length <= 4 from (by show (T.l[at0.toNat]'a0).k.l.length <= 4; omega)) (show bR (T.l[at0.toNat]'a0).t.keys = true from hvk) hr (by show 0 < (T.l[at0.toNat]'a0).c.l.length; omega) (vl := (T.l[at0.toNat]'a0).v.l.length) (kl := (T.l[at0.toNat]'a0).k.l.length) (cl := (T.l[at0.toNat]'a0).c.l.length) rfl rfl rfl]; refine congrArg Value.bool ?_; rw [dU]; simp only [aW, decide_eq_true_eq, reduceCtorEq, true_iff, false_iff]; omega), (b0.pk [1])⟩
 refine E1 12 [] (.bool false) ?_
 exact ⟨(by rw [nB, hgp, fr_yi' (show (T.l[at0.toNat]'a0).t.keys.length <= 4 from (by show (T.l[at0.toNat]'a0).k.l.length <= 4; omega)) (show bR (T.l[at0.toNat]'a0).t.keys = true from hvk) hr (by show 0 < (T.l[at0.toNat]'a0).c.l.length; omega) (vl := (T.l[at0.toNat]'a0).v.l.length) (kl := (T.l[at0.toNat]'a0).k.l.length) (cl := (T.l[at0.toNat]'a0).c.l.length) rfl rfl rfl]; refine congrArg Value.bool ?_; rw [dU]; simp only [aW, decide_eq_true_eq, reduceCtorEq, true_iff, false_iff]; omega), (b0.pk [1])⟩
 refine E1 18 [] (.bool false) ?_
 exact ⟨(by rw [nB, hgp, fr_yi' (show (T.l[at0.toNat]'a0).t.keys.length <= 4 from (by show (T.l[at0.toNat]'a0).k.l.length <= 4; omega)) (show bR (T.l[at0.toNat]'a0).t.keys = true from hvk) hr (by show 0 < (T.l[at0.toNat]'a0).c.l.length; omega) (vl := (T.l[at0.toNat]'a0).v.l.length) (kl := (T.l[at0.toNat]'a0).k.l.length) (cl := (T.l[at0.toNat]'a0).c.l.length) rfl rfl rfl]; refine congrArg Value.bool ?_; rw [dU]; simp only [aW, decide_eq_true_eq, reduceCtorEq, true_iff, false_iff]; omega), (b0.pk [1])⟩
 refine cd 12 [0, 0] (λ c69 => ?_) (λ c69 => ?_)
 refine E1 5 [] (.bool false) ?_
 exact ⟨(by rw [nB, hgp, fr_yl' (show (T.l[at0.toNat]'a0).t.keys.length <= 4 from (by show (T.l[at0.toNat]'a0).k.l.length <= 4; omega)) (show bR (T.l[at0.toNat]'a0).t.keys = true from hvk) hr (by show (T.l[at0.toNat]'a0).c.l.length = 0; omega) (V := (T.l[at0.toNat]'a0).v.l) (kl := (T.l[at0.toNat]'a0).k.l.length) rfl rfl]; refine congrArg Value.bool (Eq.symm ?_); rw [lL]; left; exact decide_eq_false t1), (b0.pk [1])⟩
 refine lp1 10 [0] (λ (k : Nat) => ([(73, Vi ((k : Nat) : Int))] : List (Nat × SV))) (λ k => (k <= (T.l[at0.toNat]'a0).v.l.length) /\ (((T.l[at0.toNat]'a0).v.l.take k).all fA = true)) (λ k => []) (λ k => (T.l[at0.toNat]'a0).v.l.length - k) [71, 72] [] [0, 1] 0 (λ k σ i0 hI d0 => ?_) (h0 := ⟨(bI _), t15⟩)
 obtain ⟨k0, e0⟩ := hI
 refine cd 5 [] (λ c74 => ?_) (λ c74 => ?_)
 have c0 : k < (T.l[at0.toNat]'a0).v.l.length := t3
 refine ov 5 [] (a := cG c0 ((hNT.atR d0 hOT).2.get a0).2.2) (b := ?_)
 refine ov 0 [] (a := eT c0 ((hNT.atR d0 hOT).2.get a0).2.2) (b := ?_)
 refine cp 5 [] (b := pH _ i0 ) (c := λ l0 f0 => ?_)
 refine cn 2 [] (λ c79 => ?_) (λ c79 => ?_)
 refine E1 5 [] (.bool false) ?_
 exact ⟨(by rw [nB, hgp, fr_yl' (show (T.l[at0.toNat]'a0).t.keys.length <= 4 from (by show (T.l[at0.toNat]'a0).k.l.length <= 4; omega)) (show bR (T.l[at0.toNat]'a0).t.keys = true from hvk) hr (by show (T.l[at0.toNat]'a0).c.l.length = 0; omega) (V := (T.l[at0.toNat]'a0).v.l) (kl := (T.l[at0.toNat]'a0).k.l.length) rfl rfl]; refine congrArg Value.bool (Eq.symm ?_); rw [lL]; right; exact aMv c0 (by simpa using c79)), (f0.pk [1])⟩
 refine ov 2 [] (a := bL (k + 1)) (b := ?_)
 exact le1 2 [] (k + 1) [0, 1] (h := by exact ⟨t7, (xJ c0 e0 (by simpa using c79))⟩)
 refine E1 6 [] (.bool true) ?_
 exact ⟨(by rw [nB, hgp, fr_yl' (show (T.l[at0.toNat]'a0).t.keys.length <= 4 from (by show (T.l[at0.toNat]'a0).k.l.length <= 4; omega)) (show bR (T.l[at0.toNat]'a0).t.keys = true from hvk) hr (by show (T.l[at0.toNat]'a0).c.l.length = 0; omega) (V := (T.l[at0.toNat]'a0).v.l) (kl := (T.l[at0.toNat]'a0).k.l.length) rfl rfl]; refine congrArg Value.bool (Eq.symm ?_); rw [aW]; exact ⟨decide_eq_true t1, xH t1 e0⟩), (d0.pk [1])⟩
 have hr : at0 = T.t.root \/ 2 <= (T.l[at0.toNat]'a0).t.keys.length := by first | (left; exact Classical.not_not.1 g33) | (left; simpa using g33) | (right; show 2 <= (T.l[at0.toNat]'a0).k.l.length; omega)
 refine cd 16 [0] (λ c42 => ?_) (λ c42 => ?_)
 refine pp 7 [0] 47 (λ g47 => ?_) (λ g47 => ?_)
 refine pp 6 [0] 53 (λ g53 => ?_) (λ g53 => ?_)
 refine ov 6 [0, 0] (a := bL ((T.l[at0.toNat]'a0).k.l.length + 1)) (b := ?_)
 refine E1 5 [] (.bool (decide ((((T.l[at0.toNat]'a0).c.l.length : Nat) : Int) = ((((T.l[at0.toNat]'a0).k.l.length + 1) : Nat) : Int)))) ?_
 exact ⟨(by rw [nB, hgp, fr_yi' (show (T.l[at0.toNat]'a0).t.keys.length <= 4 from (by show (T.l[at0.toNat]'a0).k.l.length <= 4; omega)) (show bR (T.l[at0.toNat]'a0).t.keys = true from hvk) hr (by show 0 < (T.l[at0.toNat]'a0).c.l.length; omega) (vl := (T.l[at0.toNat]'a0).v.l.length) (kl := (T.l[at0.toNat]'a0).k.l.length) (cl := (T.l[at0.toNat]'a0).c.l.length) rfl rfl rfl]; refine congrArg Value.bool ?_; rw [dU]; simp only [aW, decide_eq_true_eq, reduceCtorEq, true_iff, false_iff]; omega), (b0.pk [1])⟩
 refine E1 12 [] (.bool false) ?_
 exact ⟨(by rw [nB, hgp, fr_yi' (show (T.l[at0.toNat]'a0).t.keys.length <= 4 from (by show (T.l[at0.toNat]'a0).k.l.length <= 4; omega)) (show bR (T.l[at0.toNat]'a0).t.keys = true from hvk) hr (by show 0 < (T.l[at0.toNat]'a0).c.l.length; omega) (vl := (T.l[at0.toNat]'a0).v.l.length) (kl := (T.l[at0.toNat]'a0).k.l.length) (cl := (T.l[at0.toNat]'a0).c.l.length) rfl rfl rfl]; refine congrArg Value.bool ?_; rw [dU]; simp only [aW, decide_eq_true_eq, reduceCtorEq, true_iff, false_iff]; omega), (b0.pk [1])⟩
 refine E1 18 [] (.bool false) ?_
 exact ⟨(by rw [nB, hgp, fr_yi' (show (T.l[at0.toNat]'a0).t.keys.length <= 4 from (by show (T.l[at0.toNat]'a0).k.l.length <= 4; omega)) (show bR (T.l[at0.toNat]'a0).t.keys = true from hvk) hr (by show 0 < (T.l[at0.toNat]'a0).c.l.length; omega) (vl := (T.l[at0.toNat]'a0).v.l.length) (kl := (T.l[at0.toNat]'a0).k.l.length) (cl := (T.l[at0.toNat]'a0).c.l.length) rfl rfl rfl]; refine congrArg Value.bool ?_; rw [dU]; simp only [aW, decide_eq_true_eq, reduceCtorEq, true_iff, false_iff]; omega), (b0.pk [1])⟩
 refine cd 12 [0, 0] (λ c69 => ?_) (λ c69 => ?_)
 refine E1 5 [] (.bool false) ?_
 exact ⟨(by rw [nB, hgp, fr_yl' (show (T.l[at0.toNat]'a0).t.keys.length <= 4 from (by show (T.l[at0.toNat]'a0).k.l.length <= 4; omega)) (show bR (T.l[at0.toNat]'a0).t.keys = true from hvk) hr (by show (T.l[at0.toNat]'a0).c.l.length = 0; omega) (V := (T.l[at0.toNat]'a0).v.l) (kl := (T.l[at0.toNat]'a0).k.l.length) rfl rfl]; refine congrArg Value.bool (Eq.symm ?_); rw [lL]; left; exact decide_eq_false t1), (b0.pk [1])⟩
 refine lp1 10 [0] (λ (k : Nat) => ([(73, Vi ((k : Nat) : Int))] : List (Nat × SV))) (λ k => (k <= (T.l[at0.toNat]'a0).v.l.length) /\ (((T.l[at0.toNat]'a0).v.l.take k).all fA = true)) (λ k => []) (λ k => (T.l[at0.toNat]'a0).v.l.length - k) [71, 72] [] [0, 1] 0 (λ k σ i0 hI d0 => ?_) (h0 := ⟨(bI _), t15⟩)
 obtain ⟨k0, e0⟩ := hI
 refine cd 5 [] (λ c74 => ?_) (λ c74 => ?_)
 have c0 : k < (T.l[at0.toNat]'a0).v.l.length := t3
 refine ov 5 [] (a := cG c0 ((hNT.atR d0 hOT).2.get a0).2.2) (b := ?_)
 refine ov 0 [] (a := eT c0 ((hNT.atR d0 hOT).2.get a0).2.2) (b := ?_)
 refine cp 5 [] (b := pH _ i0 ) (c := λ l0 f0 => ?_)
 refine cn 2 [] (λ c79 => ?_) (λ c79 => ?_)
 refine E1 5 [] (.bool false) ?_
 exact ⟨(by rw [nB, hgp, fr_yl' (show (T.l[at0.toNat]'a0).t.keys.length <= 4 from (by show (T.l[at0.toNat]'a0).k.l.length <= 4; omega)) (show bR (T.l[at0.toNat]'a0).t.keys = true from hvk) hr (by show (T.l[at0.toNat]'a0).c.l.length = 0; omega) (V := (T.l[at0.toNat]'a0).v.l) (kl := (T.l[at0.toNat]'a0).k.l.length) rfl rfl]; refine congrArg Value.bool (Eq.symm ?_); rw [lL]; right; exact aMv c0 (by simpa using c79)), (f0.pk [1])⟩
 refine ov 2 [] (a := bL (k + 1)) (b := ?_)
 exact le1 2 [] (k + 1) [0, 1] (h := by exact ⟨t7, (xJ c0 e0 (by simpa using c79))⟩)
 refine E1 6 [] (.bool true) ?_
 exact ⟨(by rw [nB, hgp, fr_yl' (show (T.l[at0.toNat]'a0).t.keys.length <= 4 from (by show (T.l[at0.toNat]'a0).k.l.length <= 4; omega)) (show bR (T.l[at0.toNat]'a0).t.keys = true from hvk) hr (by show (T.l[at0.toNat]'a0).c.l.length = 0; omega) (V := (T.l[at0.toNat]'a0).v.l) (kl := (T.l[at0.toNat]'a0).k.l.length) rfl rfl]; refine congrArg Value.bool (Eq.symm ?_); rw [aW]; exact ⟨decide_eq_true t1, xH t1 e0⟩), (d0.pk [1])⟩
theorem aMg (b : Nat) (at0 : Int) (dp : Int) (low : Int) (high : Int) (T : bN) (s : List Int) (ld : Int) (w : World) (hNT : TrN w T) (hOT : TrO T [some b]) (hM : Mem w w [some b] [[⟨.slice (bl b) 1 1, 77, 19, 1, ckC T s ld⟩]]) (hs : SzT T) (h16 : T.l.length <= 16) (hn : 0 <= 3) (hd : dp = 3 - (0 : Int)) :
  aR Tryz.prog 51 [.pointer (ofs (bl b) 0), I at0, I dp, I low, I high] w (λ v w1 => ∃ (s1 : List Int) (l1 : Int), v = .bool (kD T.t 0 at0 low high s ld).isSome /\ (∀ q, kD T.t 0 at0 low high s ld = some q -> q = (s1, l1)) /\ Mem w w1 [some b] [[⟨.slice (bl b) 1 1, 77, 19, 1, ckC T s1 l1⟩]]) := by
 refine aR.n1 Tryz.func51 rfl Tryz.results51 Tryz.ntmps51 rfl ?_
 refine pp 10 [] 20 (λ g20 => ?_) (λ g20 => ?_)
 refine E1 28 [] (.bool false) ?_
 exact ⟨s, ld, rfl, (λ q9 a0 => by cases a0), (hM.pk [0])⟩
 refine ov 5 [] (s := Vl T.A T.l.length T.cp) (a := by exact cv (Ru.load1 kV rfl ((hM.rd 0 rfl).ld (k := 1) rfl)) rfl) (b := ?_)
 refine pp 4 [] 30 (λ g30 => ?_) (λ g30 => ?_)
 refine E1 18 [] (.bool false) ?_
 exact ⟨s, ld, rfl, (λ q9 a0 => by cases a0), (hM.pk [0])⟩
 refine pp 4 [] 34 (λ g34 => ?_) (λ g34 => ?_)
 refine E1 14 [] (.bool false) ?_
 exact ⟨s, ld, rfl, (λ q9 a0 => by cases a0), (hM.pk [0])⟩
 exfalso; omega
set_option maxHeartbeats 2000000 in
theorem aMh (n : Nat) (ih_fn : ∀ (b : Nat) (at0 : Int) (dp : Int) (low : Int) (high : Int) (T : bN) (s : List Int) (ld : Int) (w : World) (hNT : TrN w T) (hOT : TrO T [some b]) (hM : Mem w w [some b] [[⟨.slice (bl b) 1 1, 77, 19, 1, ckC T s ld⟩]]) (hs : SzT T) (h16 : T.l.length <= 16) (hn : n <= 3) (hd : dp = 3 - (n : Int)), aR Tryz.prog 51 [.pointer (ofs (bl b) 0), I at0, I dp, I low, I high] w (λ v w1 => ∃ (s1 : List Int) (l1 : Int), v = .bool (kD T.t n at0 low high s ld).isSome /\ (∀ q, kD T.t n at0 low high s ld = some q -> q = (s1, l1)) /\ Mem w w1 [some b] [[⟨.slice (bl b) 1 1, 77, 19, 1, ckC T s1 l1⟩]])) (b : Nat) (at0 : Int) (dp : Int) (low : Int) (high : Int) (T : bN) (s : List Int) (ld : Int) (w : World) (hNT : TrN w T) (hOT : TrO T [some b]) (hM : Mem w w [some b] [[⟨.slice (bl b) 1 1, 77, 19, 1, ckC T s ld⟩]]) (hs : SzT T) (h16 : T.l.length <= 16) (hn : (n + 1) <= 3) (hd : dp = 3 - ((n + 1) : Int)) :
  aR Tryz.prog 51 [.pointer (ofs (bl b) 0), I at0, I dp, I low, I high] w (λ v w1 => ∃ (s1 : List Int) (l1 : Int), v = .bool (kD T.t (n + 1) at0 low high s ld).isSome /\ (∀ q, kD T.t (n + 1) at0 low high s ld = some q -> q = (s1, l1)) /\ Mem w w1 [some b] [[⟨.slice (bl b) 1 1, 77, 19, 1, ckC T s1 l1⟩]]) := by
 refine aR.n1 Tryz.func51 rfl Tryz.results51 Tryz.ntmps51 rfl ?_
 refine pp 10 [] 20 (λ g20 => ?_) (λ g20 => ?_)
 refine E1 28 [] (.bool false) ?_
 have hno : kD T.t (n + 1) at0 low high s ld = none := aDm (by first | exact .inr t25 | (left; cases h9 : inT T.t at0 with | false => rfl | true => (have := fI.1 h9; exfalso; omega)))
 exact ⟨s, ld, (by rw [hno]; rfl), (λ q9 b0 => by rw [hno] at b0; cases b0), (hM.pk [0])⟩
 refine ov 5 [] (s := Vl T.A T.l.length T.cp) (a := by exact cv (Ru.load1 kV rfl ((hM.rd 0 rfl).ld (k := 1) rfl)) rfl) (b := ?_)
 refine pp 4 [] 30 (λ g30 => ?_) (λ g30 => ?_)
 refine E1 18 [] (.bool false) ?_
 have hno : kD T.t (n + 1) at0 low high s ld = none := aDm (by first | exact .inr t25 | (left; cases h9 : inT T.t at0 with | false => rfl | true => (have := fI.1 h9; exfalso; omega)))
 exact ⟨s, ld, (by rw [hno]; rfl), (λ q9 b0 => by rw [hno] at b0; cases b0), (hM.pk [0])⟩
 refine pp 4 [] 34 (λ g34 => ?_) (λ g34 => ?_)
 exfalso; omega
 have r0 : 0 <= at0 /\ at0 < 16 := t1
 refine ov 4 [] (s := Vp (bl b) (2 + at0.toNat)) (a := by exact cv (Ru.indexArrK (j := at0.toNat) Tryz.underlying75 el4 rfl rfl rfl rfl rfl r0) rfl) (b := ?_)
 refine ov 0 [] (s := Vd (at0 ∈ s)) (a := by exact cv (Ru.load1 el4 rfl ((hM.rd 0 rfl).ld (aIw r0))) rfl) (b := ?_)
 refine cd 2 [] (λ c41 => ?_) (λ c41 => ?_)
 refine E1 5 [] (.bool false) ?_
 have hno : kD T.t (n + 1) at0 low high s ld = none := aDm (by first | exact .inr t25 | (left; cases h9 : inT T.t at0 with | false => rfl | true => (have := fI.1 h9; exfalso; omega)))
 exact ⟨s, ld, (by rw [hno]; rfl), (λ q9 b0 => by rw [hno] at b0; cases b0), (hM.pk [0])⟩
 have s0 : 0 <= at0 /\ at0 < 16 := t1
 refine ov 7 [] (s := Vp (bl b) (2 + at0.toNat)) (a := by exact cv (Ru.indexArrK (j := at0.toNat) Tryz.underlying75 el4 rfl rfl rfl rfl rfl s0) rfl) (b := ?_)
 refine sX 0 [] 0 (ckC T (s ++ [at0]) ld) (hk := (by simp [ckC]; omega)) (hq := (ck_setI s0)) (h := λ z0 f0 => ?_)
 refine cq 6 [] (b := xX _ _ T (s ++ [at0]) ld z0 (hNT.atR f0 hOT) (TrO.cons (TrO.own f0 hNT hOT 0 rfl) TrO.nil) (f0.fp [0] rfl rfl) q0 qo) (c := ?_)
 rintro _ J0 ⟨rfl, x0⟩
 have g0 := f0.cl 1 x0
 refine cn 2 [] (λ c50 => ?_) (λ c50 => ?_)
 refine E1 5 [] (.bool false) ?_
 have hno : kD T.t (n + 1) at0 low high s ld = none := aDn (.inl (by simpa using c50))
 exact ⟨(s ++ [at0]), ld, (by rw [hno]; rfl), (λ q9 b0 => by rw [hno] at b0; cases b0), (g0.pk [0])⟩
 have hfb : frB T.t at0 = true := by simpa using c50
 refine ov 7 [] (s := Vl T.A T.l.length T.cp) (a := by exact cv (Ru.load1 kV rfl ((g0.rd 0 rfl).ld (k := 1) rfl)) rfl) (b := ?_)
 have a0 : at0.toNat < T.l.length := t3
 refine ov 1 [] (a := cJ a0 (hNT.atR g0 hOT).1) (b := ?_)
 refine ov 0 [] (a := gL a0 (hNT.atR g0 hOT).1) (b := ?_)
 have hgp : gP T.t at0 = (T.l[at0.toNat]'a0).t := jH rfl a0
 have hsz := hs.at a0
 have hl4 := iA hfb
 rw [hgp] at hl4
 simp only [PgL.t] at hl4
 have hki : (gP T.t at0).kids = (T.l[at0.toNat]'a0).c.l := by rw [hgp]; rfl
 refine Al 0 [] λ K0 B0 E0 C0 => ?_
 refine Sb 0 [] 0 λ L0 D0 => ?_
 refine lp1 10 [0] (λ (k : Nat) => ([(62, Vi ((k : Nat) : Int))] : List (Nat × SV))) (λ k => (k <= (T.l[at0.toNat]'a0).k.l.length) /\ (((T.l[at0.toNat]'a0).k.l.take k).all (λ k9 => decide (low <= k9) && decide (k9 < high)) = true)) (λ k => []) (λ k => (T.l[at0.toNat]'a0).k.l.length - k) [0, 2, 3, 4, 11, 60, 61] [] [0, 1] 0 (λ k σ O0 hI c0 => ?_) (h0 := ⟨(bI _), t15⟩)
 obtain ⟨G0, p0⟩ := hI
 refine cd 5 [] (λ c63 => ?_) (λ c63 => ?_)
 have e0 : k < (T.l[at0.toNat]'a0).k.l.length := t3
 refine ov 5 [] (a := cG e0 ((hNT.atR c0 hOT).2.get a0).1) (b := ?_)
 refine ov 0 [] (a := eT e0 ((hNT.atR c0 hOT).2.get a0).1) (b := ?_)
 refine pp 8 [] 69 (λ g69 => ?_) (λ g69 => ?_)
 refine E1 11 [] (.bool false) ?_
 have hno : kD T.t (n + 1) at0 low high s ld = none := aDn (.inr (by rw [hgp]; exact aJg (show k < (T.l[at0.toNat]'a0).t.keys.length from e0) (by first | (left; assumption) | (right; assumption) | (show ((T.l[at0.toNat]'a0).k.l)[k] < low \/ ((T.l[at0.toNat]'a0).k.l)[k] >= high; omega))))
 exact ⟨(s ++ [at0]), ld, (by rw [hno]; rfl), (λ q9 b0 => by rw [hno] at b0; cases b0), (c0.pk [1])⟩
 refine cd 5 [] (λ c73 => ?_) (λ c73 => ?_)
 refine E1 5 [] (.bool false) ?_
 have hno : kD T.t (n + 1) at0 low high s ld = none := aDn (.inr (by rw [hgp]; exact aJg (show k < (T.l[at0.toNat]'a0).t.keys.length from e0) (by first | (left; assumption) | (right; assumption) | (show ((T.l[at0.toNat]'a0).k.l)[k] < low \/ ((T.l[at0.toNat]'a0).k.l)[k] >= high; omega))))
 exact ⟨(s ++ [at0]), ld, (by rw [hno]; rfl), (λ q9 b0 => by rw [hno] at b0; cases b0), (c0.pk [1])⟩
 refine ov 2 [] (a := bL (k + 1)) (b := ?_)
 exact le1 2 [] (k + 1) [0, 1] (h := by exact ⟨t7, (xJ e0 p0 t13)⟩)
 have hkin : lE (gP T.t at0) low high = true := by rw [hgp]; exact xH (by show (T.l[at0.toNat]'a0).k.l.length <= k; omega) p0
 refine cd 9 [0] (λ c78 => ?_) (λ c78 => ?_)
 have hk0 : (gP T.t at0).kids = [] := by rw [hki]; exact aP t1
 have hvl := aPo (T := T.t) (n := n) (low := low) (high := high) (ld := ld) (fI.2 t1) c41 hfb (by first | assumption | exact hkin) hk0
 refine ov 6 [] (s := Vi ld) (a := by exact cv (Ru.load1 el3 rfl ((c0.rd 1 rfl).ld (k := 18) rfl)) rfl) (b := ?_)
 refine cd 2 [] (λ c83 => ?_) (λ c83 => ?_)
 refine sX 5 [] 1 (ckC T (s ++ [at0]) dp) (hk := (by simp [ckC])) (hq := ck_ld) (h := λ H0 n0 => ?_)
 refine ov 6 [] (s := Vi dp) (a := by exact cv (Ru.load1 el3 rfl ((n0.rd 1 rfl).ld (k := 18) rfl)) rfl) (b := ?_)
 refine ov 1 [] (s := Vb true) (a := by exact cv (Ru.congr (Ru.eql rfl rfl) (congrArg Value.bool t11)) rfl) (b := ?_)
 refine E1 3 [] (.bool true) ?_
 exact ⟨(s ++ [at0]), dp, (by rw [hvl]; first | (split <;> simp <;> omega) | (rw [if_pos (.inl c83)]; rfl)), (λ q9 b0 => by rw [hvl] at b0; split at b0; (have h8 := Option.some.inj b0; rw [<- h8]; congr 1; omega); cases b0), (n0.pk [1])⟩
 refine ov 6 [] (s := Vi ld) (a := by exact cv (Ru.load1 el3 rfl ((c0.rd 1 rfl).ld (k := 18) rfl)) rfl) (b := ?_)
 refine E1 5 [] (.bool (decide (ld = dp))) ?_
 exact ⟨(s ++ [at0]), ld, (by rw [hvl]; first | (split <;> simp <;> omega) | (rw [if_pos (.inl c83)]; rfl)), (λ q9 b0 => by rw [hvl] at b0; split at b0; (have h8 := Option.some.inj b0; rw [<- h8]; congr 1; omega); cases b0), (c0.pk [1])⟩
 have hk0 : (gP T.t at0).kids ≠ [] := by rw [hki]; intro e9; apply c78; rw [e9]; rfl
 have hvi := vis_in (T := T.t) (n := n) (low := low) (high := high) (ld := ld) (fI.2 t1) c41 hfb (by first | assumption | exact hkin) hk0
 have hkl := (lQ hfb hk0).2
 rw [hki, hgp] at hkl
 simp only [PgL.t] at hkl
 rw [hki] at hvi
 refine lp3 10 [0] (λ (k : Nat) (s2 : List Int) (l2 : Int) => ([(97, Vi ((k : Nat) : Int))] : List (Nat × SV))) (λ k s2 l2 => (k <= (T.l[at0.toNat]'a0).c.l.length) /\ (vT (λ k9 x9 s9 l9 => kD T.t n x9 (dQ (gP T.t at0) low k9) (cH (gP T.t at0) high k9) s9 l9) k ((T.l[at0.toNat]'a0).c.l.drop k) s2 l2 = kD T.t (n + 1) at0 low high s ld)) (λ k s2 l2 => [[⟨.slice (bl b) 1 1, 77, 19, 1, ckC T s2 l2⟩]]) (λ k s2 l2 => (T.l[at0.toNat]'a0).c.l.length - k) [0, 2, 3, 4, 11, 95, 96] [1] [0] 0 (s ++ [at0]) ld (λ k s2 l2 σ N0 hI d0 => ?_) (h0 := ⟨(bI _), (by (try dsimp only); rw [List.drop_zero]; exact hvi.symm)⟩)
 obtain ⟨F0, k0⟩ := hI
 refine cd 5 [] (λ c98 => ?_) (λ c98 => ?_)
 have j0 : k < (T.l[at0.toNat]'a0).c.l.length := t3
 refine ov 6 [] (a := cG j0 ((hNT.atR d0 hOT).2.get a0).2.1) (b := ?_)
 refine ov 0 [] (a := eT j0 ((hNT.atR d0 hOT).2.get a0).2.1) (b := ?_)
 refine ct0 10 [] ([(16, Vi (dQ (gP T.t at0) low k))] : List (Nat × SV)) True ([]) [0, 2, 3, 4, 11, 14, 15, 17, 95, 96, 97] [0, 1] ?_ (λ σ M0 hI o0 => ?_)
 refine cd 5 [] (λ c105 => ?_) (λ c105 => ?_)
 refine ov 4 [1] (a := eV) (b := ?_)
 have l0 : k - 1 < (T.l[at0.toNat]'a0).k.l.length := t3
 refine ov 0 [] (a := cG l0 ((hNT.atR d0 hOT).2.get a0).1 (h0 := t1)) (b := ?_)
 refine ov 0 [] (a := eT l0 ((hNT.atR d0 hOT).2.get a0).1) (b := ?_)
 exact ce0 2 [] [0, 1] (hL := by exact (Has.cons (I_congr (by rw [hgp]; exact (gB t1 (show k - 1 < (T.l[at0.toNat]'a0).t.keys.length from l0)).symm)) Has.nil)) (h := t12)
 exact ce0 1 [] [0, 1] (hL := by exact (Has.cons (I_congr (gH t1).symm) Has.nil)) (h := t12)
 refine ct0 0 [] ([(17, Vi (cH (gP T.t at0) high k))] : List (Nat × SV)) True ([]) [0, 2, 3, 4, 11, 15, 16, 95, 96, 97] [0, 1] ?_ (λ σ A0 hI i0 => ?_)
 refine cd 8 [1] (λ c116 => ?_) (λ c116 => ?_)
 have m0 : k < (T.l[at0.toNat]'a0).k.l.length := t3
 refine ov 4 [1] (a := cG m0 ((hNT.atR o0 hOT).2.get a0).1) (b := ?_)
 refine ov 0 [] (a := eT m0 ((hNT.atR o0 hOT).2.get a0).1) (b := ?_)
 exact ce0 2 [] [0, 1] (hL := by exact (Has.cons (I_congr (by rw [hgp]; exact (fU (show k < (T.l[at0.toNat]'a0).t.keys.length from m0)).symm)) Has.nil)) (h := t12)
 exact ce0 1 [] [0, 1] (hL := by exact (Has.cons (I_congr (by rw [hgp]; exact (gZ (show ¬ k < (T.l[at0.toNat]'a0).t.keys.length from (by show ¬ k < (T.l[at0.toNat]'a0).k.l.length; omega))).symm)) Has.nil)) (h := t12)
 refine ov 5 [] (a := oW) (b := ?_)
 refine cq 2 [] (b := ih_fn _ _ _ _ _ T s2 l2 A0 (hNT.atR i0 hOT) (TrO.cons (TrO.own i0 hNT hOT 0 rfl) TrO.nil) (i0.fp [0] rfl rfl) q0 q0 qo qo) (c := ?_)
 rintro _ I0 ⟨u0, t0, rfl, y0, w0⟩
 have v0 := i0.cl 1 w0
 refine cn 2 [] (λ c129 => ?_) (λ c129 => ?_)
 have hn1 := aGs c129
 refine E1 5 [] (.bool false) ?_
 have hno : kD T.t (n + 1) at0 low high s ld = none := by rw [<- k0]; exact visK_no j0 hn1
 exact ⟨u0, t0, (by rw [hno]; rfl), (λ q9 b0 => by rw [hno] at b0; cases b0), (v0.pk [0])⟩
 have hs1 := aGt (by simpa using c129) y0
 refine ov 2 [] (a := bL (k + 1)) (b := ?_)
 exact le3 2 [] (k + 1) u0 t0 [0, 1] (h := by exact ⟨t7, (by (try dsimp only); rw [<- visK_ok j0 hs1]; exact k0)⟩)
 refine E1 6 [] (.bool true) ?_
 have hve : kD T.t (n + 1) at0 low high s ld = some (s2, l2) := by rw [<- k0]; exact aPn t1
 exact ⟨s2, l2, (by rw [hve]; rfl), (λ q9 b0 => by rw [hve] at b0; exact (Option.some.inj b0).symm), (d0.pk [0])⟩
theorem aPp : ∀ (n : Nat), ∀ (b : Nat) (at0 : Int) (dp : Int) (low : Int) (high : Int) (T : bN) (s : List Int) (ld : Int) (w : World) (hNT : TrN w T) (hOT : TrO T [some b]) (hM : Mem w w [some b] [[⟨.slice (bl b) 1 1, 77, 19, 1, ckC T s ld⟩]]) (hs : SzT T) (h16 : T.l.length <= 16) (hn : n <= 3) (hd : dp = 3 - (n : Int)), aR Tryz.prog 51 [.pointer (ofs (bl b) 0), I at0, I dp, I low, I high] w (λ v w1 => ∃ (s1 : List Int) (l1 : Int), v = .bool (kD T.t n at0 low high s ld).isSome /\ (∀ q, kD T.t n at0 low high s ld = some q -> q = (s1, l1)) /\ Mem w w1 [some b] [[⟨.slice (bl b) 1 1, 77, 19, 1, ckC T s1 l1⟩]]) := by
 intro n
 induction n with
 | zero => exact aMg
 | succ n ih => exact aMh n ih
theorem gS (T : bN) (w : World) (hNT : TrN w T) (hs : SzT T) :
  aR Tryz.prog 19 [.agg #[I T.root, .slice T.A T.l.length T.cp]] w (λ v w1 => v = .bool (aN T.t) /\ Mem w w1 [] []) := by
 have hM : Mem w w [] [] := Mem.refl
 refine aR.n1 Tryz.func19 rfl Tryz.results19 Tryz.ntmps19 rfl ?_
 refine Bx 2 [] λ u0 n0 p0 c0 => ?_
 refine pp 10 [0] 9 (λ g9 => ?_) (λ g9 => ?_)
 refine E1 12 [] (.bool false) ?_
 exact ⟨(by rw [zJ (by rw [cP]; omega)]), (Mem.none c0)⟩
 refine cd 6 [0] (λ c14 => ?_) (λ c14 => ?_)
 refine E1 5 [] (.bool false) ?_
 exact ⟨(by rw [zJ (by rw [cP]; omega)]), (Mem.none c0)⟩
 have hpl : 1 <= T.t.pages.length /\ T.t.pages.length <= 16 := by rw [cP]; omega
 refine ov 4 [0] (s := Va [.i T.root, .sl T.A T.l.length T.cp, .b false, .b false, .b false, .b false, .b false, .b false, .b false, .b false, .b false, .b false, .b false, .b false, .b false, .b false, .b false, .b false, .i (-1)]) (a := by exact cv (Ru.buildN (cs := [I T.root, .slice T.A T.l.length T.cp, .bool false, .bool false, .bool false, .bool false, .bool false, .bool false, .bool false, .bool false, .bool false, .bool false, .bool false, .bool false, .bool false, .bool false, .bool false, .bool false, I (-1)]) mf77 rfl (by kernel_rfl)) rfl) (b := ?_)
 refine Al 0 [] λ v0 g0 r0 o0 => ?_
 refine Sb 0 [] 0 λ m0 i0 => ?_
 have a0 := i0.reC 0 (ck_nil (T := T) (ld := (-1)))
 refine cq 6 [1] (b := aPp 3 _ _ _ _ _ T ([] : List Int) (-1) m0 (hNT.at a0) (TrO.cons (TrO.old a0 hNT 0 rfl) TrO.nil) (a0.fp [0] rfl rfl) q0 qo qo (by rfl)) (c := ?_)
 rintro _ w0 ⟨f0, t0, rfl, l0, k0⟩
 have j0 := a0.cl 1 k0
 refine cn 2 [] (λ c20 => ?_) (λ c20 => ?_)
 have hno := aGs c20
 refine E1 5 [] (.bool false) ?_
 exact ⟨(by rw [aDl hno]), (Mem.none j0)⟩
 have hve := aGt (by simpa using c20) l0
 refine lp1 10 [1] (λ (k : Nat) => ([(24, Vi ((k : Nat) : Int))] : List (Nat × SV))) (λ k => (k <= T.l.length) /\ (∀ j : Nat, j < k -> (j : Int) ∈ f0)) (λ k => []) (λ k => T.l.length - k) [3, 23] [] [0, 1] 0 (λ k σ x0 hI b0 => ?_) (h0 := ⟨(bI _), (λ j hj => absurd hj t1)⟩)
 obtain ⟨s0, d0⟩ := hI
 refine cd 5 [] (λ c25 => ?_) (λ c25 => ?_)
 have e0 : 0 <= ((k : Nat) : Int) /\ ((k : Nat) : Int) < 16 := t1
 refine ov 12 [] (s := Vp (bl g0) (2 + ((k : Nat) : Int).toNat)) (a := by exact cv (Ru.indexArrK (j := ((k : Nat) : Int).toNat) Tryz.underlying75 el4 rfl rfl rfl rfl rfl e0) rfl) (b := ?_)
 refine ov 0 [] (s := Vd (((k : Nat) : Int) ∈ f0)) (a := by exact cv (Ru.load1 el4 rfl ((b0.rd 0 rfl).ld (aIw e0))) rfl) (b := ?_)
 refine cd 2 [] (λ c31 => ?_) (λ c31 => ?_)
 refine E1 5 [] (.bool false) ?_
 exact ⟨(by rw [valid_f (i := k) hpl hve (by rw [cP]; omega) (by simpa using c31)]), (Mem.none b0)⟩
 refine ov 2 [] (a := bL (k + 1)) (b := ?_)
 exact le1 2 [] (k + 1) [0, 1] (h := by exact ⟨t7, (λ j hj => by rcases Nat.lt_succ_iff_lt_or_eq.1 hj with h | h; exact d0 j h; subst h; simpa using c31)⟩)
 refine E1 6 [] (.bool true) ?_
 exact ⟨(by rw [(aBj hpl hve).2 (λ (i9 : Nat) (hi9 : i9 < T.t.pages.length) => d0 i9 (by have := cP (T := T); omega))]), (Mem.none b0)⟩
theorem qD (T : bN) (w : World) (hNT : TrN w T) (hs : SzT T) :
  aR Tryz.prog 89 [.agg #[I T.root, .slice T.A T.l.length T.cp]] w (λ v w1 => v = I ((bH T.t : Nat) : Int) /\ Mem w w1 [] []) := by
 have hM : Mem w w [] [] := Mem.refl
 refine aR.n1 Tryz.func89 rfl Tryz.results89 Tryz.ntmps89 rfl ?_
 have hs1 := hs.1
 refine Bx 2 [] λ m0 i0 k0 j0 => ?_
 refine lp2 14 [0] (λ (n : Nat) (a : Int) => ([(3, Vi ((n : Nat) : Int)), (4, Vi a)] : List (Nat × SV))) (λ n a => (1 <= n /\ n <= 4) /\ (bH T.t = n + hgt T.t (4 - n) a)) (λ n a => []) (λ n a => 4 - n) [1] [] [0] 1 T.root (λ n a σ g0 hI f0 => ?_) (h0 := ⟨t7, rfl⟩)
 obtain ⟨l0, d0⟩ := hI
 refine pp 6 [] 9 (λ g9 => ?_) (λ g9 => ?_)
 refine ov 4 [0] (a := eV) (b := ?_)
 refine cp 0 [] (b := lY _ _ _ g0 ) (c := λ n0 a0 => ?_)
 refine pt 2 [] 17 (λ g17 => ?_) (λ g17 => ?_)
 have hin : inT T.t a = true := fI.2 (by simp only [aW, decide_eq_true_eq] at g17; omega)
 have e0 : a.toNat < T.l.length := (by have := fI.1 hin; omega)
 refine ov 3 [0] (a := cJ e0 (hNT.at a0).1 (h0 := by have := fI.1 hin; omega)) (b := ?_)
 have hki : (gP T.t a).kids = (T.l[a.toNat]'e0).c.l := by rw [jH rfl e0]; rfl
 refine ov 0 [] (a := fZ e0 (hNT.at a0).1) (b := ?_)
 refine ov 0 [] (a := gF e0 (hNT.at a0).1) (b := ?_)
 refine cd 4 [] (λ c26 => ?_) (λ c26 => ?_)
 have b0 : a.toNat < T.l.length := (by have := fI.1 hin; omega)
 refine ov 7 [0] (a := cJ b0 (hNT.at a0).1 (h0 := by have := fI.1 hin; omega)) (b := ?_)
 refine ov 0 [] (a := fZ b0 (hNT.at a0).1) (b := ?_)
 refine ov 0 [] (a := gF b0 (hNT.at a0).1) (b := ?_)
 have c0 : 0 < (T.l[a.toNat]'b0).c.l.length := t1
 refine ov 0 [] (a := cG c0 ((hNT.at a0).2.get b0).2.1) (b := ?_)
 refine ov 0 [] (a := eT c0 ((hNT.at a0).2.get b0).2.1) (b := ?_)
 have hgo := hgt_go (T := T.t) (f := 4 - n - 1) hin (by rw [hki]; intro e9; rw [e9] at c0; simp at c0)
 rw [show 4 - n - 1 + 1 = 4 - n by omega, hki, bF c0] at hgo
 refine ov 4 [] (a := bL (n + 1)) (b := ?_)
 exact le2 2 [] (n + 1) (((T.l[a.toNat]'b0).c.l)[0]'c0) [0] (h := by exact ⟨t7, (by (try dsimp only); rw [hgo] at d0; rw [d0, show 4 - (n + 1) = 4 - n - 1 by omega]; omega)⟩)
 refine E1 7 [] (I ((n : Nat) : Int)) ?_
 have hz : hgt T.t (4 - n) a = 0 := by first | (rw [show 4 - n = 0 by omega]; rfl) | exact oU (.inr (by rw [hki]; exact aP t1)) | (refine oU (.inl ?_); cases h9 : inT T.t a with | false => rfl | true => (have := fI.1 h9; exfalso; simp at g17; omega))
 exact ⟨(I_congr (by rw [d0, hz]; simp)), (Mem.none a0)⟩
 refine E1 18 [] (I ((n : Nat) : Int)) ?_
 have hz : hgt T.t (4 - n) a = 0 := by first | (rw [show 4 - n = 0 by omega]; rfl) | exact oU (.inr (by rw [hki]; exact aP t1)) | (refine oU (.inl ?_); cases h9 : inT T.t a with | false => rfl | true => (have := fI.1 h9; exfalso; simp at g17; omega))
 exact ⟨(I_congr (by rw [d0, hz]; simp)), (Mem.none a0)⟩
 refine E1 26 [] (I ((n : Nat) : Int)) ?_
 have hz : hgt T.t (4 - n) a = 0 := by first | (rw [show 4 - n = 0 by omega]; rfl) | exact oU (.inr (by rw [hki]; exact aP t1)) | (refine oU (.inl ?_); cases h9 : inT T.t a with | false => rfl | true => (have := fI.1 h9; exfalso; simp at g17; omega))
 exact ⟨(I_congr (by rw [d0, hz]; simp)), (Mem.none f0)⟩
theorem aCq : ∀ (T : bN) (at0 : Int) (low : Int) (hi : Int) (dp : Int) (w : World) (hNT : TrN w T) (hs : SzT T) (hat : 0 <= at0 /\ at0 < (T.l.length : Int)) (hd : dp = (0 : Int)) (h1 : 1 <= 0) (h3 : 0 <= 3), aR Tryz.prog 90 [.agg #[I T.root, .slice T.A T.l.length T.cp], I at0, I low, I hi, I dp] w (λ v w1 => v = .bool (kW T.t 0 at0 low hi) /\ Mem w w1 [] []) := by
 intro T at0 low hi dp w hNT hs hat hd h1 h3; exact absurd h1 t1
set_option maxHeartbeats 4000000 in
theorem aCr (n : Nat) (ih_fn : ∀ (T : bN) (at0 : Int) (low : Int) (hi : Int) (dp : Int) (w : World) (hNT : TrN w T) (hs : SzT T) (hat : 0 <= at0 /\ at0 < (T.l.length : Int)) (hd : dp = (n : Int)) (h1 : 1 <= n) (h3 : n <= 3), aR Tryz.prog 90 [.agg #[I T.root, .slice T.A T.l.length T.cp], I at0, I low, I hi, I dp] w (λ v w1 => v = .bool (kW T.t n at0 low hi) /\ Mem w w1 [] [])) (T : bN) (at0 : Int) (low : Int) (hi : Int) (dp : Int) (w : World) (hNT : TrN w T) (hs : SzT T) (hat : 0 <= at0 /\ at0 < (T.l.length : Int)) (hd : dp = ((n + 1) : Int)) (h1 : 1 <= (n + 1)) (h3 : (n + 1) <= 3) :
  aR Tryz.prog 90 [.agg #[I T.root, .slice T.A T.l.length T.cp], I at0, I low, I hi, I dp] w (λ v w1 => v = .bool (kW T.t (n + 1) at0 low hi) /\ Mem w w1 [] []) := by
 have hM : Mem w w [] [] := Mem.refl
 refine aR.n1 Tryz.func90 rfl Tryz.results90 Tryz.ntmps90 rfl ?_
 have hs1 := hs.1
 refine Bx 2 [] λ K0 F0 I0 r0 => ?_
 have a0 : at0.toNat < T.l.length := t3
 refine ov 7 [0] (a := cJ a0 (hNT.at r0).1) (b := ?_)
 refine ov 0 [] (a := gL a0 (hNT.at r0).1) (b := ?_)
 have hgp : gP T.t at0 = (T.l[at0.toNat]'a0).t := jH rfl a0
 have hsz := hs.at a0
 have hfl := fit_L (T := T.t) (d := n) (i := at0) (low := low) (hi := hi)
 rw [hgp] at hfl
 refine Al 0 [] λ L0 G0 J0 H0 => ?_
 refine Sb 0 [] 0 λ y0 s0 => ?_
 refine cq 6 [0] (b := uM (T.l[at0.toNat]'a0).k.A (T.l[at0.toNat]'a0).k.cp (T.l[at0.toNat]'a0).k.l y0 ((hNT.at s0).2.get a0).1 qo) (c := ?_)
 rintro _ z0 ⟨rfl, v0⟩
 have j0 := s0.cl 0 v0
 refine pt 2 [] 24 (λ g24 => ?_) (λ g24 => ?_)
 refine E1 32 [] (.bool false) ?_
 exact ⟨(by rw [hfl, fit_n1 (show bR (T.l[at0.toNat]'a0).t.keys = false from (show bR (T.l[at0.toNat]'a0).k.l = false from (by simpa using g24)))]), (Mem.none j0)⟩
 refine pp 6 [0] 30 (λ g30 => ?_) (λ g30 => ?_)
 refine E1 26 [] (.bool false) ?_
 exact ⟨(by rw [hfl, fit_n2 (by show ¬ (T.l[at0.toNat]'a0).k.l.length <= 4; omega)]), (Mem.none j0)⟩
 refine cq 4 [0] (b := oN (T.l[at0.toNat]'a0).k.A (T.l[at0.toNat]'a0).k.cp (T.l[at0.toNat]'a0).k.l _ _ z0 ((hNT.at j0).2.get a0).1 qo) (c := ?_)
 rintro _ k0 ⟨rfl, u0⟩
 have b0 := j0.cl 0 u0
 refine pt 3 [] 38 (λ g38 => ?_) (λ g38 => ?_)
 refine E1 18 [] (.bool false) ?_
 exact ⟨(by rw [hfl, fit_n3 (show eH (T.l[at0.toNat]'a0).t.keys low hi = false from (show eH (T.l[at0.toNat]'a0).k.l low hi = false from (by simp only [eH]; simpa using g38)))]), (Mem.none b0)⟩
 refine pp 5 [1] 43 (λ g43 => ?_) (λ g43 => ?_)
 refine cd 7 [0] (λ c49 => ?_) (λ c49 => ?_)
 refine E1 5 [] (.bool false) ?_
 exact ⟨(by rw [hfl, fit_n4 (T := T.t) (show at0 ≠ T.t.root from g43) (by show ¬ 2 <= (T.l[at0.toNat]'a0).k.l.length; omega)]), (Mem.none b0)⟩
 have hvk : bR (T.l[at0.toNat]'a0).t.keys = true := by show bR (T.l[at0.toNat]'a0).k.l = true; simpa using g24
 have h4 : (T.l[at0.toNat]'a0).t.keys.length <= 4 := by show (T.l[at0.toNat]'a0).k.l.length <= 4; omega
 have hai : eH (T.l[at0.toNat]'a0).t.keys low hi = true := by show eH (T.l[at0.toNat]'a0).k.l low hi = true; simp only [eH]; simpa using g38
 have hr : at0 = T.t.root \/ 2 <= (T.l[at0.toNat]'a0).t.keys.length := by first | (left; exact Classical.not_not.1 g43) | (left; simpa using g43) | (right; show 2 <= (T.l[at0.toNat]'a0).k.l.length; omega)
 refine cd 7 [] (λ c51 => ?_) (λ c51 => ?_)
 have hn0 : n = 0 := by omega
 subst hn0
 refine pp 7 [0] 56 (λ g56 => ?_) (λ g56 => ?_)
 refine pp 9 [0, 0] 65 (λ g65 => ?_) (λ g65 => ?_)
 refine cq 2 [0] (b := oN (T.l[at0.toNat]'a0).v.A (T.l[at0.toNat]'a0).v.cp (T.l[at0.toNat]'a0).v.l _ _ k0 ((hNT.at b0).2.get a0).2.2 qo) (c := ?_)
 rintro _ A0 ⟨rfl, o0⟩
 have m0 := b0.cl 0 o0
 refine E1 4 [] (.bool ((T.l[at0.toNat]'a0).v.l.all (λ a => decide ((-1000) <= a) && decide (a <= 1000)))) ?_
 exact ⟨(by rw [hfl, fit_y0' hvk h4 hai hr (V := (T.l[at0.toNat]'a0).v.l) (kl := (T.l[at0.toNat]'a0).k.l.length) (cl := (T.l[at0.toNat]'a0).c.l.length) rfl rfl rfl]; refine congrArg Value.bool ?_; rw [dU]; simp only [aW, decide_eq_true_eq, reduceCtorEq, true_iff, false_iff, eH]; first | (rintro ⟨⟨h7, h8⟩, _⟩; omega) | exact ⟨λ h9 => ⟨⟨t1, t1⟩, h9⟩, λ h9 => h9.2⟩), (Mem.none m0)⟩
 refine E1 7 [] (.bool false) ?_
 exact ⟨(by rw [hfl, fit_y0' hvk h4 hai hr (V := (T.l[at0.toNat]'a0).v.l) (kl := (T.l[at0.toNat]'a0).k.l.length) (cl := (T.l[at0.toNat]'a0).c.l.length) rfl rfl rfl]; refine congrArg Value.bool ?_; rw [dU]; simp only [aW, decide_eq_true_eq, reduceCtorEq, true_iff, false_iff, eH]; first | (rintro ⟨⟨h7, h8⟩, _⟩; omega) | exact ⟨λ h9 => ⟨⟨t1, t1⟩, h9⟩, λ h9 => h9.2⟩), (Mem.none b0)⟩
 refine E1 16 [] (.bool false) ?_
 exact ⟨(by rw [hfl, fit_y0' hvk h4 hai hr (V := (T.l[at0.toNat]'a0).v.l) (kl := (T.l[at0.toNat]'a0).k.l.length) (cl := (T.l[at0.toNat]'a0).c.l.length) rfl rfl rfl]; refine congrArg Value.bool ?_; rw [dU]; simp only [aW, decide_eq_true_eq, reduceCtorEq, true_iff, false_iff, eH]; first | (rintro ⟨⟨h7, h8⟩, _⟩; omega) | exact ⟨λ h9 => ⟨⟨t1, t1⟩, h9⟩, λ h9 => h9.2⟩), (Mem.none b0)⟩
 have hn0 : n ≠ 0 := by omega
 refine pp 9 [0] 74 (λ g74 => ?_) (λ g74 => ?_)
 refine E1 32 [] (.bool false) ?_
 exact ⟨(by rw [hfl, qA (h0 := hn0) (by left; show (T.l[at0.toNat]'a0).k.l.length = 0; omega)]), (Mem.none b0)⟩
 refine pp 6 [0] 80 (λ g80 => ?_) (λ g80 => ?_)
 refine E1 26 [] (.bool false) ?_
 exact ⟨(by rw [hfl, qA (h0 := hn0) (by right; left; show (T.l[at0.toNat]'a0).v.l.length ≠ 0; omega)]), (Mem.none b0)⟩
 refine ov 6 [0, 0] (a := bL ((T.l[at0.toNat]'a0).k.l.length + 1)) (b := ?_)
 refine pp 3 [] 90 (λ g90 => ?_) (λ g90 => ?_)
 refine E1 16 [] (.bool false) ?_
 exact ⟨(by rw [hfl, qA (h0 := hn0) (by right; right; left; show (T.l[at0.toNat]'a0).c.l.length ≠ (T.l[at0.toNat]'a0).k.l.length + 1; omega)]), (Mem.none b0)⟩
 refine ov 5 [0, 1] (a := eV) (b := ?_)
 refine cq 0 [] (b := oN (T.l[at0.toNat]'a0).c.A (T.l[at0.toNat]'a0).c.cp (T.l[at0.toNat]'a0).c.l _ _ k0 ((hNT.at b0).2.get a0).2.1 qo) (c := ?_)
 rintro _ B0 ⟨rfl, p0⟩
 have n0 := b0.cl 0 p0
 refine cn 3 [] (λ c99 => ?_) (λ c99 => ?_)
 refine E1 5 [] (.bool false) ?_
 exact ⟨(by rw [hfl, qA (h0 := hn0) (by right; right; right; rw [cP]; show eH (T.l[at0.toNat]'a0).c.l 0 _ = false; simp only [eH]; simpa using c99)]), (Mem.none n0)⟩
 have hyd := aNo (T := T.t) (i := at0) hn0 hvk h4 hai hr (by show (T.l[at0.toNat]'a0).k.l.length ≠ 0; omega) (by show (T.l[at0.toNat]'a0).v.l.length = 0; omega) (by show (T.l[at0.toNat]'a0).c.l.length = (T.l[at0.toNat]'a0).k.l.length + 1; omega) (by rw [cP]; show eH (T.l[at0.toNat]'a0).c.l 0 _ = true; simp only [eH]; simpa using c99)
 have hal : eH (T.l[at0.toNat]'a0).c.l 0 ((T.l.length : Int) - 1) = true := by simp only [eH]; simpa using c99
 refine lp1 7 [] (λ (k : Nat) => ([(12, Vi ((k : Nat) : Int))] : List (Nat × SV))) (λ k => (k <= (T.l[at0.toNat]'a0).c.l.length) /\ ((List.range k).all (λ k9 => kW T.t n ((T.l[at0.toNat]'a0).c.l.getD k9 0) (dQ (T.l[at0.toNat]'a0).t low k9) (cH (T.l[at0.toNat]'a0).t (hi + 1) k9 - 1)) = true)) (λ k => []) (λ k => (T.l[at0.toNat]'a0).c.l.length - k) [2, 3, 4, 5, 11] [] [0, 1] 0 (λ k σ E0 hI e0 => ?_) (h0 := ⟨(bI _), rfl⟩)
 obtain ⟨w0, i0⟩ := hI
 refine cd 9 [0] (λ c104 => ?_) (λ c104 => ?_)
 refine ct0 13 [] ([(13, Vi (dQ (T.l[at0.toNat]'a0).t low k))] : List (Nat × SV)) True ([]) [2, 3, 4, 5, 11, 12, 14] [0, 1] ?_ (λ σ C0 hI g0 => ?_)
 refine cd 5 [] (λ c110 => ?_) (λ c110 => ?_)
 refine ov 4 [0] (a := eV) (b := ?_)
 have f0 : k - 1 < (T.l[at0.toNat]'a0).k.l.length := t3
 refine ov 0 [] (a := cG f0 ((hNT.at e0).2.get a0).1 (h0 := t1)) (b := ?_)
 refine ov 0 [] (a := eT f0 ((hNT.at e0).2.get a0).1) (b := ?_)
 exact ce0 2 [] [0, 1] (hL := by exact (Has.cons (I_congr (gB t1 (show k - 1 < (T.l[at0.toNat]'a0).t.keys.length from f0)).symm) Has.nil)) (h := t12)
 exact ce0 1 [] [0, 1] (hL := by exact (Has.cons (I_congr (gH t1).symm) Has.nil)) (h := t12)
 refine ct0 0 [] ([(14, Vi (cH (T.l[at0.toNat]'a0).t (hi + 1) k - 1))] : List (Nat × SV)) True ([]) [2, 3, 4, 5, 11, 12, 13] [0, 1] ?_ (λ σ D0 hI t0 => ?_)
 refine cd 8 [0] (λ c121 => ?_) (λ c121 => ?_)
 have d0 : k < (T.l[at0.toNat]'a0).k.l.length := t3
 refine ov 4 [0] (a := cG d0 ((hNT.at g0).2.get a0).1) (b := ?_)
 have hkb := rL (show bR (T.l[at0.toNat]'a0).k.l = true from hvk) d0
 refine ov 0 [] (a := eT d0 ((hNT.at g0).2.get a0).1) (b := ?_)
 refine ov 0 [] (a := eV) (b := ?_)
 exact ce0 2 [] [0, 1] (hL := by exact (Has.cons (I_congr (by rw [fU (show k < (T.l[at0.toNat]'a0).t.keys.length from d0)]; rfl)) Has.nil)) (h := t12)
 exact ce0 1 [] [0, 1] (hL := by exact (Has.cons (I_congr (by rw [gZ (show ¬ k < (T.l[at0.toNat]'a0).t.keys.length from (by show ¬ k < (T.l[at0.toNat]'a0).k.l.length; omega))]; omega)) Has.nil)) (h := t12)
 refine dr 1 [] ?_
 have c0 : k < (T.l[at0.toNat]'a0).c.l.length := t3
 refine qv 4 [1, 0] (a := by exact λ _ hw2 => cG c0 ((hNT.at hw2).2.get a0).2.1) (b := ?_)
 have hrg := aAc hal c0
 refine qv 0 [] (a := by exact λ _ hw2 => eT c0 ((hNT.at hw2).2.get a0).2.1) (b := ?_)
 refine qv 3 [] (a := by exact λ _ hw2 => eV) (b := ?_)
 refine qc 0 [] (X := .bool (kW T.t n (((T.l[at0.toNat]'a0).c.l)[k]'c0) (dQ (T.l[at0.toNat]'a0).t low k) (cH (T.l[at0.toNat]'a0).t (hi + 1) k - 1))) (b := by exact λ w2 hw2 => (ih_fn T (((T.l[at0.toNat]'a0).c.l)[k]'c0) (dQ (T.l[at0.toNat]'a0).t low k) (cH (T.l[at0.toNat]'a0).t (hi + 1) k - 1) (dp - 1) w2 (hNT.at hw2) q0 qo qo qo qo).mono λ _ _ h => ⟨h.1, Mem.call0 hw2 h.2⟩) (c := ?_)
 refine qn 1 [] λ x0 l0 => ?_
 refine cn 0 [] (λ c139 => ?_) (λ c139 => ?_)
 have hf1 : (λ k9 => kW T.t n ((T.l[at0.toNat]'a0).c.l.getD k9 0) (dQ (T.l[at0.toNat]'a0).t low k9) (cH (T.l[at0.toNat]'a0).t (hi + 1) k9 - 1)) k = false := by show kW _ _ _ _ _ = false; rw [bF (show k < (T.l[at0.toNat]'a0).c.l.length from c0)]; simpa using c139
 refine E1 5 [] (.bool false) ?_
 exact ⟨(by rw [hfl, hyd]; exact congrArg Value.bool (aBa (p := λ k9 => kW T.t n ((T.l[at0.toNat]'a0).c.l.getD k9 0) (dQ (T.l[at0.toNat]'a0).t low k9) (cH (T.l[at0.toNat]'a0).t (hi + 1) k9 - 1)) c0 hf1).symm), (Mem.none l0)⟩
 have hf1 : (λ k9 => kW T.t n ((T.l[at0.toNat]'a0).c.l.getD k9 0) (dQ (T.l[at0.toNat]'a0).t low k9) (cH (T.l[at0.toNat]'a0).t (hi + 1) k9 - 1)) k = true := by show kW _ _ _ _ _ = true; rw [bF (show k < (T.l[at0.toNat]'a0).c.l.length from c0)]; simpa using c139
 refine ov 3 [] (a := bL (k + 1)) (b := ?_)
 exact le1 2 [] (k + 1) [0, 1] (h := by exact ⟨t7, (aAz i0 hf1)⟩)
 refine E1 6 [] (.bool true) ?_
 exact ⟨(by rw [hfl, hyd, show (T.l[at0.toNat]'a0).t.kids.length = k from (by show (T.l[at0.toNat]'a0).c.l.length = k; omega)]; exact congrArg Value.bool i0.symm), (Mem.none e0)⟩
 have hvk : bR (T.l[at0.toNat]'a0).t.keys = true := by show bR (T.l[at0.toNat]'a0).k.l = true; simpa using g24
 have h4 : (T.l[at0.toNat]'a0).t.keys.length <= 4 := by show (T.l[at0.toNat]'a0).k.l.length <= 4; omega
 have hai : eH (T.l[at0.toNat]'a0).t.keys low hi = true := by show eH (T.l[at0.toNat]'a0).k.l low hi = true; simp only [eH]; simpa using g38
 have hr : at0 = T.t.root \/ 2 <= (T.l[at0.toNat]'a0).t.keys.length := by first | (left; exact Classical.not_not.1 g43) | (left; simpa using g43) | (right; show 2 <= (T.l[at0.toNat]'a0).k.l.length; omega)
 refine cd 15 [] (λ c51 => ?_) (λ c51 => ?_)
 have hn0 : n = 0 := by omega
 subst hn0
 refine pp 7 [0] 56 (λ g56 => ?_) (λ g56 => ?_)
 refine pp 9 [0, 0] 65 (λ g65 => ?_) (λ g65 => ?_)
 refine cq 2 [0] (b := oN (T.l[at0.toNat]'a0).v.A (T.l[at0.toNat]'a0).v.cp (T.l[at0.toNat]'a0).v.l _ _ k0 ((hNT.at b0).2.get a0).2.2 qo) (c := ?_)
 rintro _ A0 ⟨rfl, o0⟩
 have m0 := b0.cl 0 o0
 refine E1 4 [] (.bool ((T.l[at0.toNat]'a0).v.l.all (λ a => decide ((-1000) <= a) && decide (a <= 1000)))) ?_
 exact ⟨(by rw [hfl, fit_y0' hvk h4 hai hr (V := (T.l[at0.toNat]'a0).v.l) (kl := (T.l[at0.toNat]'a0).k.l.length) (cl := (T.l[at0.toNat]'a0).c.l.length) rfl rfl rfl]; refine congrArg Value.bool ?_; rw [dU]; simp only [aW, decide_eq_true_eq, reduceCtorEq, true_iff, false_iff, eH]; first | (rintro ⟨⟨h7, h8⟩, _⟩; omega) | exact ⟨λ h9 => ⟨⟨t1, t1⟩, h9⟩, λ h9 => h9.2⟩), (Mem.none m0)⟩
 refine E1 7 [] (.bool false) ?_
 exact ⟨(by rw [hfl, fit_y0' hvk h4 hai hr (V := (T.l[at0.toNat]'a0).v.l) (kl := (T.l[at0.toNat]'a0).k.l.length) (cl := (T.l[at0.toNat]'a0).c.l.length) rfl rfl rfl]; refine congrArg Value.bool ?_; rw [dU]; simp only [aW, decide_eq_true_eq, reduceCtorEq, true_iff, false_iff, eH]; first | (rintro ⟨⟨h7, h8⟩, _⟩; omega) | exact ⟨λ h9 => ⟨⟨t1, t1⟩, h9⟩, λ h9 => h9.2⟩), (Mem.none b0)⟩
 refine E1 16 [] (.bool false) ?_
 exact ⟨(by rw [hfl, fit_y0' hvk h4 hai hr (V := (T.l[at0.toNat]'a0).v.l) (kl := (T.l[at0.toNat]'a0).k.l.length) (cl := (T.l[at0.toNat]'a0).c.l.length) rfl rfl rfl]; refine congrArg Value.bool ?_; rw [dU]; simp only [aW, decide_eq_true_eq, reduceCtorEq, true_iff, false_iff, eH]; first | (rintro ⟨⟨h7, h8⟩, _⟩; omega) | exact ⟨λ h9 => ⟨⟨t1, t1⟩, h9⟩, λ h9 => h9.2⟩), (Mem.none b0)⟩
 have hn0 : n ≠ 0 := by omega
 refine pp 9 [0] 74 (λ g74 => ?_) (λ g74 => ?_)
 refine E1 32 [] (.bool false) ?_
 exact ⟨(by rw [hfl, qA (h0 := hn0) (by left; show (T.l[at0.toNat]'a0).k.l.length = 0; omega)]), (Mem.none b0)⟩
 refine pp 6 [0] 80 (λ g80 => ?_) (λ g80 => ?_)
 refine E1 26 [] (.bool false) ?_
 exact ⟨(by rw [hfl, qA (h0 := hn0) (by right; left; show (T.l[at0.toNat]'a0).v.l.length ≠ 0; omega)]), (Mem.none b0)⟩
 refine ov 6 [0, 0] (a := bL ((T.l[at0.toNat]'a0).k.l.length + 1)) (b := ?_)
 refine pp 3 [] 90 (λ g90 => ?_) (λ g90 => ?_)
 refine E1 16 [] (.bool false) ?_
 exact ⟨(by rw [hfl, qA (h0 := hn0) (by right; right; left; show (T.l[at0.toNat]'a0).c.l.length ≠ (T.l[at0.toNat]'a0).k.l.length + 1; omega)]), (Mem.none b0)⟩
 refine ov 5 [0, 1] (a := eV) (b := ?_)
 refine cq 0 [] (b := oN (T.l[at0.toNat]'a0).c.A (T.l[at0.toNat]'a0).c.cp (T.l[at0.toNat]'a0).c.l _ _ k0 ((hNT.at b0).2.get a0).2.1 qo) (c := ?_)
 rintro _ B0 ⟨rfl, p0⟩
 have n0 := b0.cl 0 p0
 refine cn 3 [] (λ c99 => ?_) (λ c99 => ?_)
 refine E1 5 [] (.bool false) ?_
 exact ⟨(by rw [hfl, qA (h0 := hn0) (by right; right; right; rw [cP]; show eH (T.l[at0.toNat]'a0).c.l 0 _ = false; simp only [eH]; simpa using c99)]), (Mem.none n0)⟩
 have hyd := aNo (T := T.t) (i := at0) hn0 hvk h4 hai hr (by show (T.l[at0.toNat]'a0).k.l.length ≠ 0; omega) (by show (T.l[at0.toNat]'a0).v.l.length = 0; omega) (by show (T.l[at0.toNat]'a0).c.l.length = (T.l[at0.toNat]'a0).k.l.length + 1; omega) (by rw [cP]; show eH (T.l[at0.toNat]'a0).c.l 0 _ = true; simp only [eH]; simpa using c99)
 have hal : eH (T.l[at0.toNat]'a0).c.l 0 ((T.l.length : Int) - 1) = true := by simp only [eH]; simpa using c99
 refine lp1 7 [] (λ (k : Nat) => ([(12, Vi ((k : Nat) : Int))] : List (Nat × SV))) (λ k => (k <= (T.l[at0.toNat]'a0).c.l.length) /\ ((List.range k).all (λ k9 => kW T.t n ((T.l[at0.toNat]'a0).c.l.getD k9 0) (dQ (T.l[at0.toNat]'a0).t low k9) (cH (T.l[at0.toNat]'a0).t (hi + 1) k9 - 1)) = true)) (λ k => []) (λ k => (T.l[at0.toNat]'a0).c.l.length - k) [2, 3, 4, 5, 11] [] [0, 1] 0 (λ k σ E0 hI e0 => ?_) (h0 := ⟨(bI _), rfl⟩)
 obtain ⟨w0, i0⟩ := hI
 refine cd 9 [0] (λ c104 => ?_) (λ c104 => ?_)
 refine ct0 13 [] ([(13, Vi (dQ (T.l[at0.toNat]'a0).t low k))] : List (Nat × SV)) True ([]) [2, 3, 4, 5, 11, 12, 14] [0, 1] ?_ (λ σ C0 hI g0 => ?_)
 refine cd 5 [] (λ c110 => ?_) (λ c110 => ?_)
 refine ov 4 [0] (a := eV) (b := ?_)
 have f0 : k - 1 < (T.l[at0.toNat]'a0).k.l.length := t3
 refine ov 0 [] (a := cG f0 ((hNT.at e0).2.get a0).1 (h0 := t1)) (b := ?_)
 refine ov 0 [] (a := eT f0 ((hNT.at e0).2.get a0).1) (b := ?_)
 exact ce0 2 [] [0, 1] (hL := by exact (Has.cons (I_congr (gB t1 (show k - 1 < (T.l[at0.toNat]'a0).t.keys.length from f0)).symm) Has.nil)) (h := t12)
 exact ce0 1 [] [0, 1] (hL := by exact (Has.cons (I_congr (gH t1).symm) Has.nil)) (h := t12)
 refine ct0 0 [] ([(14, Vi (cH (T.l[at0.toNat]'a0).t (hi + 1) k - 1))] : List (Nat × SV)) True ([]) [2, 3, 4, 5, 11, 12, 13] [0, 1] ?_ (λ σ D0 hI t0 => ?_)
 refine cd 8 [0] (λ c121 => ?_) (λ c121 => ?_)
 have d0 : k < (T.l[at0.toNat]'a0).k.l.length := t3
 refine ov 4 [0] (a := cG d0 ((hNT.at g0).2.get a0).1) (b := ?_)
 have hkb := rL (show bR (T.l[at0.toNat]'a0).k.l = true from hvk) d0
 refine ov 0 [] (a := eT d0 ((hNT.at g0).2.get a0).1) (b := ?_)
 refine ov 0 [] (a := eV) (b := ?_)
 exact ce0 2 [] [0, 1] (hL := by exact (Has.cons (I_congr (by rw [fU (show k < (T.l[at0.toNat]'a0).t.keys.length from d0)]; rfl)) Has.nil)) (h := t12)
 exact ce0 1 [] [0, 1] (hL := by exact (Has.cons (I_congr (by rw [gZ (show ¬ k < (T.l[at0.toNat]'a0).t.keys.length from (by show ¬ k < (T.l[at0.toNat]'a0).k.l.length; omega))]; omega)) Has.nil)) (h := t12)
 refine dr 1 [] ?_
 have c0 : k < (T.l[at0.toNat]'a0).c.l.length := t3
 refine qv 4 [1, 0] (a := by exact λ _ hw2 => cG c0 ((hNT.at hw2).2.get a0).2.1) (b := ?_)
 have hrg := aAc hal c0
 refine qv 0 [] (a := by exact λ _ hw2 => eT c0 ((hNT.at hw2).2.get a0).2.1) (b := ?_)
 refine qv 3 [] (a := by exact λ _ hw2 => eV) (b := ?_)
 refine qc 0 [] (X := .bool (kW T.t n (((T.l[at0.toNat]'a0).c.l)[k]'c0) (dQ (T.l[at0.toNat]'a0).t low k) (cH (T.l[at0.toNat]'a0).t (hi + 1) k - 1))) (b := by exact λ w2 hw2 => (ih_fn T (((T.l[at0.toNat]'a0).c.l)[k]'c0) (dQ (T.l[at0.toNat]'a0).t low k) (cH (T.l[at0.toNat]'a0).t (hi + 1) k - 1) (dp - 1) w2 (hNT.at hw2) q0 qo qo qo qo).mono λ _ _ h => ⟨h.1, Mem.call0 hw2 h.2⟩) (c := ?_)
 refine qn 1 [] λ x0 l0 => ?_
 refine cn 0 [] (λ c139 => ?_) (λ c139 => ?_)
 have hf1 : (λ k9 => kW T.t n ((T.l[at0.toNat]'a0).c.l.getD k9 0) (dQ (T.l[at0.toNat]'a0).t low k9) (cH (T.l[at0.toNat]'a0).t (hi + 1) k9 - 1)) k = false := by show kW _ _ _ _ _ = false; rw [bF (show k < (T.l[at0.toNat]'a0).c.l.length from c0)]; simpa using c139
 refine E1 5 [] (.bool false) ?_
 exact ⟨(by rw [hfl, hyd]; exact congrArg Value.bool (aBa (p := λ k9 => kW T.t n ((T.l[at0.toNat]'a0).c.l.getD k9 0) (dQ (T.l[at0.toNat]'a0).t low k9) (cH (T.l[at0.toNat]'a0).t (hi + 1) k9 - 1)) c0 hf1).symm), (Mem.none l0)⟩
 have hf1 : (λ k9 => kW T.t n ((T.l[at0.toNat]'a0).c.l.getD k9 0) (dQ (T.l[at0.toNat]'a0).t low k9) (cH (T.l[at0.toNat]'a0).t (hi + 1) k9 - 1)) k = true := by show kW _ _ _ _ _ = true; rw [bF (show k < (T.l[at0.toNat]'a0).c.l.length from c0)]; simpa using c139
 refine ov 3 [] (a := bL (k + 1)) (b := ?_)
 exact le1 2 [] (k + 1) [0, 1] (h := by exact ⟨t7, (aAz i0 hf1)⟩)
 refine E1 6 [] (.bool true) ?_
 exact ⟨(by rw [hfl, hyd, show (T.l[at0.toNat]'a0).t.kids.length = k from (by show (T.l[at0.toNat]'a0).c.l.length = k; omega)]; exact congrArg Value.bool i0.symm), (Mem.none e0)⟩
theorem aFk : ∀ (n : Nat), ∀ (T : bN) (at0 : Int) (low : Int) (hi : Int) (dp : Int) (w : World) (hNT : TrN w T) (hs : SzT T) (hat : 0 <= at0 /\ at0 < (T.l.length : Int)) (hd : dp = (n : Int)) (h1 : 1 <= n) (h3 : n <= 3), aR Tryz.prog 90 [.agg #[I T.root, .slice T.A T.l.length T.cp], I at0, I low, I hi, I dp] w (λ v w1 => v = .bool (kW T.t n at0 low hi) /\ Mem w w1 [] []) := by
 intro n
 induction n with
 | zero => exact aCq
 | succ n ih => exact aCr n ih
theorem aPq : ∀ (T : bN) (at0 : Int) (lo : Int) (hi : Int) (w : World) (hNT : TrN w T) (hs : SzT T) (hok : okB T.t 0 at0 lo hi = true) (h3 : 0 <= 3), aR Tryz.prog 91 [.agg #[I T.root, .slice T.A T.l.length T.cp], I at0] w (λ v w1 => ∃ (A1 : Option Addr) (c1 : Nat), v = .slice A1 (aS T.t 0 at0).length c1 /\ Mem w w1 [] [oI A1 c1 (aS T.t 0 at0)]) := by
 intro T at0 lo hi w hNT hs hok h3; simp [okB] at hok
theorem aPr (n : Nat) (ih_fn : ∀ (T : bN) (at0 : Int) (lo : Int) (hi : Int) (w : World) (hNT : TrN w T) (hs : SzT T) (hok : okB T.t n at0 lo hi = true) (h3 : n <= 3), aR Tryz.prog 91 [.agg #[I T.root, .slice T.A T.l.length T.cp], I at0] w (λ v w1 => ∃ (A1 : Option Addr) (c1 : Nat), v = .slice A1 (aS T.t n at0).length c1 /\ Mem w w1 [] [oI A1 c1 (aS T.t n at0)])) (T : bN) (at0 : Int) (lo : Int) (hi : Int) (w : World) (hNT : TrN w T) (hs : SzT T) (hok : okB T.t (n + 1) at0 lo hi = true) (h3 : (n + 1) <= 3) :
  aR Tryz.prog 91 [.agg #[I T.root, .slice T.A T.l.length T.cp], I at0] w (λ v w1 => ∃ (A1 : Option Addr) (c1 : Nat), v = .slice A1 (aS T.t (n + 1) at0).length c1 /\ Mem w w1 [] [oI A1 c1 (aS T.t (n + 1) at0)]) := by
 have hM : Mem w w [] [] := Mem.refl
 refine aR.n1 Tryz.func91 rfl Tryz.results91 Tryz.ntmps91 rfl ?_
 have hat := fI.1 (iX hok)
 have hjx : at0.toNat < T.l.length := by omega
 have hki : (gP T.t at0).kids = (T.l[at0.toNat]'hjx).c.l := by rw [jH rfl hjx]; rfl
 have hsz := hs.at hjx
 have hsl := zG hok h3
 have hse : aS T.t (n + 1) at0 = at0 :: (T.l[at0.toNat]'hjx).c.l.flatMap (aS T.t n) := by simp only [aS]; rw [hki]
 refine Bx 2 [] λ F0 u0 z0 w0 => ?_
 refine Lt 5 [] (([at0]).map I) (λ G0 i0 A0 k0 => ?_)
 have o0 : ([at0] : List Int) = at0 :: ((T.l[at0.toNat]'hjx).c.l.take 0).flatMap (aS T.t n) := t11
 have x0 := k0.reM 0 o0
 refine lp3 8 [] (λ (k : Nat) (A2 : Option Addr) (c2 : Nat) => ([(5, Vl A2 (at0 :: ((T.l[at0.toNat]'hjx).c.l.take k).flatMap (aS T.t n)).length c2), (6, Vi ((k : Nat) : Int))] : List (Nat × SV))) (λ k A2 c2 => (k <= (T.l[at0.toNat]'hjx).c.l.length)) (λ k A2 c2 => [oI A2 c2 (at0 :: ((T.l[at0.toNat]'hjx).c.l.take k).flatMap (aS T.t n))]) (λ k A2 c2 => (T.l[at0.toNat]'hjx).c.l.length - k) [1, 2] [0] [1] 0 (bl i0) 1 (λ k A2 c2 σ J0 hI d0 => ?_) (h0 := (bI _))
 have E0 := hI
 have C0 := (d0.cap 0 rfl).1
 have e0 : at0.toNat < T.l.length := t3
 refine ov 7 [1] (a := cJ e0 (hNT.at d0).1) (b := ?_)
 refine ov 0 [] (a := fZ e0 (hNT.at d0).1) (b := ?_)
 refine ov 0 [] (a := gF e0 (hNT.at d0).1) (b := ?_)
 refine cd 3 [] (λ c17 => ?_) (λ c17 => ?_)
 refine any 3 [] 14 [1] λ s0 a0 => ?_
 have b0 : at0.toNat < T.l.length := t3
 refine av [0, 1, 2, 3, 4] [0, 0] 5 (a := by exact λ _ hw2 => cJ b0 (hNT.at a0).1) (b := ?_)
 refine av [] [] 6 (a := by exact λ _ hw2 => fZ b0 (hNT.at a0).1) (b := ?_)
 refine aO [8] [] 7 ?_
 refine ov 0 [] (a := gF b0 (hNT.at a0).1) (b := ?_)
 refine os 0 [] [1] ?_
 have c0 : k < (T.l[at0.toNat]'b0).c.l.length := t3
 refine av [] [] 9 (a := by exact λ _ hw2 => cG c0 ((hNT.at a0).2.get b0).2.1) (b := ?_)
 have hok1 := iC hok (k := k) (by rw [hki]; exact c0)
 simp only [hki] at hok1
 have hsl1 := zG hok1 t1
 have hfs := vD (f := aS T.t n) c0
 refine aO [] [] 10 ?_
 refine ov 0 [] (a := eT c0 ((hNT.at a0).2.get b0).2.1) (b := ?_)
 refine os 0 [] [1] ?_
 refine aO [] [] 11 ?_
 refine cq 0 [] (b := ih_fn T _ _ _ s0 (hNT.at a0) q0 (by exact hok1) qo) (c := ?_)
 rintro _ H0 ⟨t0, v0, rfl, n0⟩
 have f0 := a0.cl 0 n0
 have D0 := (f0.cap 0 rfl).1
 refine os 0 [] [2] ?_
 refine aO [] [] 12 ?_
 refine aM 0 [] 1 (f0.rd 0 rfl) (λ I0 g0 j0 B0 l0 => ?_) (hn := by have h8 := congrArg List.length hse; have h9 := congrArg List.length hfs; have h7 := tM (f := aS T.t n) c0; simp only [aA, aG] at h8 h9 h7 ⊢; omega) (hb := by have h8 := congrArg List.length hse; have h9 := congrArg List.length hfs; have h7 := tM (f := aS T.t n) c0; simp only [aA, aG] at h8 h9 h7 ⊢; omega)
 refine os 0 [] [2] ?_
 refine an [13] [] ?_
 refine ov 2 [] (a := bL (k + 1)) (b := ?_)
 have p0 : (at0 :: ((T.l[at0.toNat]'hjx).c.l.take k).flatMap (aS T.t n) ++ (aS T.t n (((T.l[at0.toNat]'b0).c.l)[k]'c0)) : List Int) = at0 :: ((T.l[at0.toNat]'hjx).c.l.take (k + 1)).flatMap (aS T.t n) := (by rw [<- hfs]; simp)
 have y0 := l0.reM 1 p0
 exact le3 2 [] (k + 1) g0 j0 [1, 2] (h := t9)
 refine E1 7 [] (.slice A2 (at0 :: ((T.l[at0.toNat]'hjx).c.l.take k).flatMap (aS T.t n)).length c2) ?_
 have hkk : (T.l[at0.toNat]'hjx).c.l.take k = (T.l[at0.toNat]'hjx).c.l := aE t1
 have r0 : (at0 :: ((T.l[at0.toNat]'hjx).c.l.take k).flatMap (aS T.t n) : List Int) = (aS T.t (n + 1) at0) := (by rw [hse, hkk])
 have m0 := d0.reM 0 r0
 exact ⟨A2, c2, (sl_congr (by rw [hse, hkk])), (m0.pk [0])⟩
theorem walk_fn : ∀ (n : Nat), ∀ (T : bN) (at0 : Int) (lo : Int) (hi : Int) (w : World) (hNT : TrN w T) (hs : SzT T) (hok : okB T.t n at0 lo hi = true) (h3 : n <= 3), aR Tryz.prog 91 [.agg #[I T.root, .slice T.A T.l.length T.cp], I at0] w (λ v w1 => ∃ (A1 : Option Addr) (c1 : Nat), v = .slice A1 (aS T.t n at0).length c1 /\ Mem w w1 [] [oI A1 c1 (aS T.t n at0)]) := by
 intro n
 induction n with
 | zero => exact aPq
 | succ n ih => exact aPr n ih
set_option maxHeartbeats 4000000 in
theorem jM (T : bN) (w : World) (hNT : TrN w T) (hs : SzT T) :
  aR Tryz.prog 46 [.agg #[I T.root, .slice T.A T.l.length T.cp]] w (λ v w1 => v = .bool (aN T.t) /\ Mem w w1 [] []) := by
 have hM : Mem w w [] [] := Mem.refl
 refine aR.n1 Tryz.func46 rfl Tryz.results46 Tryz.ntmps46 rfl ?_
 refine Bx 2 [] λ t0 l0 n0 m0 => ?_
 have hvr := aBi (T := T.t)
 have hs1 := hs.1
 refine dr 4 [] ?_
 refine qc 3 [0] (X := .bool (decide (1 <= ((T.l.length : Nat) : Int)) && decide (((T.l.length : Nat) : Int) <= 16))) (b := by exact λ w2 hw2 => (lY ((T.l.length : Nat) : Int) 1 16 w2 ).mono λ _ _ h => ⟨h.1, Mem.call0 hw2 h.2⟩) (c := ?_)
 refine qt 2 [] 10 (λ g10 => ?_) (λ g10 => ?_)
 refine qn 23 [] λ c0 a0 => ?_
 refine E1 6 [] (.bool false) ?_
 exact ⟨(by rw [hvr, show (decide (1 <= T.t.pages.length) && decide (T.t.pages.length <= 16)) = false from (by rw [cP, lL, decide_eq_false_iff_not, decide_eq_false_iff_not]; simp at g10; omega)]; simp), (Mem.none a0)⟩
 have hl16 : 1 <= T.t.pages.length /\ T.t.pages.length <= 16 := by rw [cP]; simp at g10; omega
 refine qv 5 [0, 0] (a := by exact λ _ hw2 => eV) (b := ?_)
 refine qc 0 [] (X := .bool (decide (0 <= T.root) && decide (T.root <= (((T.l.length : Nat) : Int) - 1)))) (b := by exact λ w2 hw2 => (lY T.root 0 (((T.l.length : Nat) : Int) - 1) w2 ).mono λ _ _ h => ⟨h.1, Mem.call0 hw2 h.2⟩) (c := ?_)
 refine qt 3 [] 20 (λ g20 => ?_) (λ g20 => ?_)
 refine qn 13 [] λ c0 a0 => ?_
 refine E1 6 [] (.bool false) ?_
 exact ⟨(by rw [hvr, show inT T.t T.t.root = false from (by cases h9 : inT T.t T.t.root with | false => rfl | true => (have h8 := fI.1 h9; have h7 : 0 <= T.root /\ T.root < _ := h8; exfalso; simp at g20; omega))]; simp), (Mem.none a0)⟩
 have hin : inT T.t T.t.root = true := fI.2 (by simp at g20; show 0 <= T.root /\ T.root < _; omega)
 have hrt : 0 <= T.root /\ T.root < (T.l.length : Int) := fI.1 hin
 refine qc 1 [0] (X := I ((bH T.t : Nat) : Int)) (b := by exact λ w2 hw2 => (qD T w2 (hNT.at hw2) q0).mono λ _ _ h => ⟨h.1, Mem.call0 hw2 h.2⟩) (c := ?_)
 refine qp 3 [] 25 (λ g25 => ?_) (λ g25 => ?_)
 refine qn 8 [] λ c0 a0 => ?_
 refine E1 6 [] (.bool false) ?_
 exact ⟨(by rw [hvr, show decide (bH T.t <= 3) = false from decide_eq_false t1]; simp), (Mem.none a0)⟩
 have hh3 : bH T.t <= 3 := by omega
 refine qc 4 [0, 0, 0] (X := I ((bH T.t : Nat) : Int)) (b := by exact λ w2 hw2 => (qD T w2 (hNT.at hw2) q0).mono λ _ _ h => ⟨h.1, Mem.call0 hw2 h.2⟩) (c := ?_)
 refine qc 0 [] (X := .bool (kW T.t (bH T.t) T.root 0 99)) (b := by exact λ w2 hw2 => (aFk (bH T.t) T T.root 0 99 ((bH T.t : Nat) : Int) w2 (hNT.at hw2) q0 qo (by rfl) (by exact qE) (by exact hh3)).mono λ _ _ h => ⟨h.1, Mem.call0 hw2 h.2⟩) (c := ?_)
 refine qn 2 [] λ c0 a0 => ?_
 refine cn 0 [] (λ c33 => ?_) (λ c33 => ?_)
 refine E1 5 [] (.bool false) ?_
 exact ⟨(by rw [hvr, show kW T.t (bH T.t) T.t.root 0 99 = false from (show kW T.t (bH T.t) T.root 0 99 = false from (by simpa using c33))]; simp), (Mem.none a0)⟩
 have hft : kW T.t (bH T.t) T.root 0 99 = true := by simpa using c33
 have hok : okB T.t (bH T.t) T.root 0 100 = true := (vC (d := bH T.t) (low := 0) (hi := 99) hin).symm.trans hft
 have hsl := zG hok hh3
 have hve : aN T.t = (decide (aS T.t (bH T.t) T.root).Nodup && decide ((aS T.t (bH T.t) T.root).length = T.t.pages.length)) := by rw [hvr]; simp only [hl16.1, hl16.2, hin, hh3, decide_true, Bool.true_and]; rw [show kW T.t (bH T.t) T.t.root 0 99 = true from hft]; rfl
 refine cq 6 [0, 0] (b := walk_fn (bH T.t) T _ 0 100 c0 (hNT.at a0) q0 (by exact hok) (by exact hh3)) (c := ?_)
 rintro _ u0 ⟨e0, f0, rfl, k0⟩
 have i0 := a0.cl 0 k0
 have r0 := (i0.cap 0 rfl).1
 refine lp1 8 [] (λ (k : Nat) => ([(4, Vi ((k : Nat) : Int))] : List (Nat × SV))) (λ k => (k <= (aS T.t (bH T.t) T.root).length) /\ ((aS T.t (bH T.t) T.root).take k).Nodup) (λ k => []) (λ k => (aS T.t (bH T.t) T.root).length - k) [1, 3] [] [0, 1] 0 (λ k σ w0 hI d0 => ?_) (h0 := ⟨(bI _), t15⟩)
 obtain ⟨s0, g0⟩ := hI
 have o0 := (d0.cap 0 rfl).1
 refine cd 8 [] (λ c41 => ?_) (λ c41 => ?_)
 refine dr 4 [] ?_
 have p0 := d0.cap 0 rfl
 refine qv 2 [] (s := Vl e0 ((aS T.t (bH T.t) T.root).take k).length f0) (a := by exact λ w2 hw2 => cv (Ru.congr (Ru.lsliceTo (h := k) Tryz.underlying30 el3 rfl rfl t1 t1) (sl_congr t6)) rfl) (b := ?_)
 have b0 : k < (aS T.t (bH T.t) T.root).length := t3
 refine qv 2 [] (a := by exact λ _ hw2 => cG b0 (hw2.rd 0 rfl)) (b := ?_)
 refine qv 0 [] (a := by exact λ _ hw2 => eT b0 (hw2.rd 0 rfl)) (b := ?_)
 refine qc 0 [] (X := .bool (decide (((aS T.t (bH T.t) T.root)[k]'b0) ∈ ((aS T.t (bH T.t) T.root).take k)))) (b := by exact λ w2 hw2 => (wQ e0 f0 ((aS T.t (bH T.t) T.root).take k) ((aS T.t (bH T.t) T.root)[k]'b0) w2 (fE (hw2.rd 0 rfl)) t13).mono λ _ _ h => ⟨h.1, Mem.call0 hw2 h.2⟩) (c := ?_)
 refine qn 0 [] λ v0 j0 => ?_
 refine cb 0 [] (λ c51 => ?_) (λ c51 => ?_)
 refine E1 5 [] (.bool false) ?_
 exact ⟨(by rw [hve, decide_eq_false (aLv b0 (by simpa using c51))]; rfl), (Mem.none j0)⟩
 refine ov 3 [] (a := bL (k + 1)) (b := ?_)
 exact le1 2 [] (k + 1) [0, 1] (h := by exact ⟨t7, (aHv b0 g0 (by simpa using c51))⟩)
 refine E1 12 [1] (.bool (decide ((((aS T.t (bH T.t) T.root).length : Nat) : Int) = ((T.l.length : Nat) : Int)))) ?_
 exact ⟨(by rw [hve, decide_eq_true (show (aS T.t (bH T.t) T.root).Nodup by rwa [aE t1] at g0), cP]; refine congrArg Value.bool ?_; rw [Bool.true_and]; exact decide_eq_decide.2 t1), (Mem.none d0)⟩
theorem jJ (p : PgL) (w : World) (hNp : PgN w p) (hk : p.k.l.length <= 1048576) (hv : p.v.l.length = p.k.l.length) :
  aR Tryz.prog 49 [.agg #[.slice p.k.A p.k.l.length p.k.cp, .slice p.c.A p.c.l.length p.c.cp, .slice p.v.A p.v.l.length p.v.cp]] w (λ v w1 => ∃ (A1 : Option Addr) (c1 : Nat), v = .slice A1 (aV p.t).length c1 /\ Mem w w1 [] [oP A1 c1 (aV p.t)]) := by
 have hM : Mem w w [] [] := Mem.refl
 refine aR.n1 Tryz.func49 rfl Tryz.results49 Tryz.ntmps49 rfl ?_
 refine Bx 2 [] λ B0 s0 x0 t0 => ?_
 refine Lt 4 [] (([]).flatMap cY) (λ C0 j0 y0 l0 => ?_)
 have p0 : ([] : List PairT) = (aV p.t).take 0 := t2
 have u0 := l0.reF 0 p0 (f := cY)
 refine lp3 8 [] (λ (k : Nat) (A2 : Option Addr) (c2 : Nat) => ([(3, Vl A2 ((aV p.t).take k).length c2), (4, Vi ((k : Nat) : Int))] : List (Nat × SV))) (λ k A2 c2 => (k <= p.k.l.length)) (λ k A2 c2 => [oP A2 c2 ((aV p.t).take k)]) (λ k A2 c2 => p.k.l.length - k) [1] [0] [1] 0 (bl j0) 0 (λ k A2 c2 σ E0 hI i0 => ?_) (h0 := (bI _))
 have A0 := hI
 have z0 := (i0.cap 0 rfl).1
 refine cd 9 [1] (λ c10 => ?_) (λ c10 => ?_)
 refine any 3 [] 15 [1] λ D0 c0 => ?_
 have a0 : k < p.k.l.length := t3
 refine av [0, 1, 2, 3] [0] 4 (a := by exact λ _ hw2 => cG a0 (hNp.at c0).1) (b := ?_)
 have b0 : k < p.v.l.length := t3
 refine av [6, 7, 8] [0] 9 (a := by exact λ _ hw2 => cG b0 (hNp.at c0).2.2) (b := ?_)
 refine aT [] [] 5 10 ?_ ?_
 refine ov 0 [] (a := eT a0 (hNp.at c0).1) (b := ?_)
 refine os 0 [] [1] ?_
 refine aO [] [] 10 ?_
 refine ov 0 [] (a := eT b0 (hNp.at c0).2.2) (b := ?_)
 refine os 0 [] [1] ?_
 refine aO [11] [] 12 ?_
 refine Lt 0 [] (([(⟨p.k.l[k]'a0, p.v.l[k]'b0⟩ : PairT)]).flatMap cY) (λ q0 k0 n0 f0 => ?_)
 refine os 0 [] [2] ?_
 refine aO [] [] 13 ?_
 refine aF 0 [] 1 (f0.rd 0 rfl) (λ r0 d0 e0 o0 g0 => ?_) (hn := t3) (hb := t3)
 refine os 0 [] [2] ?_
 refine an [14] [] ?_
 refine ov 2 [] (a := bL (k + 1)) (b := ?_)
 have v0 := g0.rF 1 ((aV p.t).take (k + 1) : List PairT) (e := (aFq a0 b0))
 exact le3 2 [] (k + 1) d0 e0 [1, 2] (h := t9)
 refine ov 0 [] (a := eT b0 (hNp.at c0).2.2) (b := ?_)
 refine os 0 [] [1] ?_
 refine aO [] [] 5 ?_
 refine ov 0 [] (a := eT a0 (hNp.at c0).1) (b := ?_)
 refine os 0 [] [1] ?_
 refine aO [11] [] 12 ?_
 refine Lt 0 [] (([(⟨p.k.l[k]'a0, p.v.l[k]'b0⟩ : PairT)]).flatMap cY) (λ q0 k0 n0 f0 => ?_)
 refine os 0 [] [2] ?_
 refine aO [] [] 13 ?_
 refine aF 0 [] 1 (f0.rd 0 rfl) (λ r0 d0 e0 o0 g0 => ?_) (hn := t3) (hb := t3)
 refine os 0 [] [2] ?_
 refine an [14] [] ?_
 refine ov 2 [] (a := bL (k + 1)) (b := ?_)
 have w0 := g0.rF 1 ((aV p.t).take (k + 1) : List PairT) (e := (aFq a0 b0))
 exact le3 2 [] (k + 1) d0 e0 [1, 2] (h := t9)
 refine E1 7 [] (.slice A2 ((aV p.t).take k).length c2) ?_
 have m0 := i0.rF 0 (aV p.t : List PairT) (e := (yX t1))
 exact ⟨A2, c2, (sl_congr (by rw [yX t1])), (m0.pk [0])⟩
theorem gD (p : PgL) (w : World) (hNp : PgN w p) (hk : p.k.l.length <= 1048576) (hv : p.v.l.length = p.k.l.length) :
  aR Tryz.prog 35 [.agg #[.slice p.k.A p.k.l.length p.k.cp, .slice p.c.A p.c.l.length p.c.cp, .slice p.v.A p.v.l.length p.v.cp]] w (λ v w1 => ∃ (A1 : Option Addr) (c1 : Nat), v = .slice A1 (aV p.t).length c1 /\ Mem w w1 [] [oP A1 c1 (aV p.t)]) := by
 have hM : Mem w w [] [] := Mem.refl
 refine aR.n1 Tryz.func35 rfl Tryz.results35 Tryz.ntmps35 rfl ?_
 refine Bx 2 [] λ v0 g0 r0 j0 => ?_
 refine go 7 [0] ?_
 refine O.mmake (k := p.k.l.length) (sz := 2) (xs := (List.replicate p.k.l.length (⟨0, 0⟩ : PairT)).flatMap cY) j0 rfl Tryz.underlying43 jA rfl rfl rfl rfl t1 t1 (uN rfl) (λ n0 b0 s0 k0 => ?_)
 have e0 : (List.replicate p.k.l.length (⟨0, 0⟩ : PairT) : List PairT) = (aV p.t).take 0 ++ List.replicate (p.k.l.length - 0) (⟨0, 0⟩ : PairT) := t11
 have p0 : Mem w n0 [] [[⟨.slice (bl b0) p.k.l.length p.k.l.length, 27, 2, p.k.l.length, ((aV p.t).take 0 ++ List.replicate (p.k.l.length - 0) (⟨0, 0⟩ : PairT)).flatMap cY⟩], [⟨.slice (bl g0) 1 1, 42, 3, 1, [.slice p.k.A p.k.l.length p.k.cp, .slice p.c.A p.c.l.length p.c.cp, .slice p.v.A p.v.l.length p.v.cp]⟩]] := k0.relen 0 (n' := p.k.l.length) (xs' := ((aV p.t).take 0 ++ List.replicate (p.k.l.length - 0) (⟨0, 0⟩ : PairT)).flatMap cY) rfl (by first | rfl | exact congrArg List.length e0 | (have hqq := congrArg List.length e0; first | omega | (simp at hqq ⊢; omega)) | (simp; done) | (simp; omega)) (congrArg (λ z_ => z_.flatMap cY) e0) rfl
 refine lp1 11 [1] (λ (k : Nat) => ([(3, Vl (bl b0) p.k.l.length p.k.l.length), (13, Vi ((k : Nat) : Int))] : List (Nat × SV))) (λ k => (k <= p.k.l.length)) (λ k => [[⟨.slice (bl b0) p.k.l.length p.k.l.length, 27, 2, p.k.l.length, ((aV p.t).take k ++ List.replicate (p.k.l.length - k) (⟨0, 0⟩ : PairT)).flatMap cY⟩]]) (λ k => p.k.l.length - k) [1, 11, 12] [0] [1] 0 (λ k σ w0 hI a0 => ?_) (h0 := (bI _))
 have u0 := hI
 have t0 := (a0.cap 0 rfl).1
 refine cd 5 [] (λ c14 => ?_) (λ c14 => ?_)
 have c0 : k < p.k.l.length := t3
 refine ov 6 [] (a := cG c0 (hNp.at a0).1) (b := ?_)
 refine ov 0 [] (a := eT c0 (hNp.at a0).1) (b := ?_)
 have d0 : k < p.v.l.length := t3
 refine ov 10 [1] (a := cG d0 (hNp.at a0).2.2) (b := ?_)
 refine ov 0 [] (a := eT d0 (hNp.at a0).2.2) (b := ?_)
 have i0 : k < ((aV p.t).take k ++ List.replicate (p.k.l.length - k) (⟨0, 0⟩ : PairT)).length := (by rw [aA, aB, List.length_replicate, eL]; show k < min k p.k.l.length + (p.k.l.length - k); omega)
 refine ov 1 [] (a := cJ i0 (a0.rd 0 rfl) (h0 := t1)) (b := ?_)
 refine sF 0 [] 0 (⟨p.k.l[k]'c0, p.v.l[k]'d0⟩ : PairT) i0 λ o0 l0 => ?_
 refine ov 2 [] (a := bL (k + 1)) (b := ?_)
 have f0 : (((aV p.t).take k ++ List.replicate (p.k.l.length - k) (⟨0, 0⟩ : PairT)).set k (⟨p.k.l[k]'c0, p.v.l[k]'d0⟩ : PairT) : List PairT) = (aV p.t).take (k + 1) ++ List.replicate (p.k.l.length - (k + 1)) (⟨0, 0⟩ : PairT) := (prs_set c0 d0)
 have q0 : Mem w o0 [] [[⟨.slice (bl b0) p.k.l.length p.k.l.length, 27, 2, p.k.l.length, ((aV p.t).take (k + 1) ++ List.replicate (p.k.l.length - (k + 1)) (⟨0, 0⟩ : PairT)).flatMap cY⟩], [⟨.slice (bl g0) 1 1, 42, 3, 1, [.slice p.k.A p.k.l.length p.k.cp, .slice p.c.A p.c.l.length p.c.cp, .slice p.v.A p.v.l.length p.v.cp]⟩]] := l0.relen 0 (n' := p.k.l.length) (xs' := ((aV p.t).take (k + 1) ++ List.replicate (p.k.l.length - (k + 1)) (⟨0, 0⟩ : PairT)).flatMap cY) rfl (by first | rfl | exact congrArg List.length f0 | (have hqq := congrArg List.length f0; first | omega | (simp at hqq ⊢; omega)) | (simp; done) | (simp; omega)) (congrArg (λ z_ => z_.flatMap cY) f0) rfl
 exact le1 2 [] (k + 1) [0, 1] (h := t9)
 refine E1 7 [] (.slice (bl b0) p.k.l.length p.k.l.length) ?_
 have hke : k = p.k.l.length := by omega
 have m0 := a0.rF 0 (aV p.t : List PairT) (e := by rw [yX t1, show p.k.l.length - k = 0 by omega]; simp)
 exact ⟨bl b0, p.k.l.length, (sl_congr (by rw [eL]; rfl)), (m0.pk [0])⟩
theorem aCs : ∀ (T : bN) (at0 : Int) (lo : Int) (hi : Int) (w : World) (hNT : TrN w T) (hs : SzT T) (hok : okB T.t 0 at0 lo hi = true) (h3 : 0 <= 3), aR Tryz.prog 149 [.agg #[I T.root, .slice T.A T.l.length T.cp], I at0] w (λ v w1 => v = S (cW T.t 0 at0) /\ Mem w w1 [] []) := by
 intro T at0 lo hi w hNT hs hok h3; simp [okB] at hok
set_option maxHeartbeats 2000000 in
theorem aCt (n : Nat) (ih_fn : ∀ (T : bN) (at0 : Int) (lo : Int) (hi : Int) (w : World) (hNT : TrN w T) (hs : SzT T) (hok : okB T.t n at0 lo hi = true) (h3 : n <= 3), aR Tryz.prog 149 [.agg #[I T.root, .slice T.A T.l.length T.cp], I at0] w (λ v w1 => v = S (cW T.t n at0) /\ Mem w w1 [] [])) (T : bN) (at0 : Int) (lo : Int) (hi : Int) (w : World) (hNT : TrN w T) (hs : SzT T) (hok : okB T.t (n + 1) at0 lo hi = true) (h3 : (n + 1) <= 3) :
  aR Tryz.prog 149 [.agg #[I T.root, .slice T.A T.l.length T.cp], I at0] w (λ v w1 => v = S (cW T.t (n + 1) at0) /\ Mem w w1 [] []) := by
 have hM : Mem w w [] [] := Mem.refl
 refine aR.n1 Tryz.func149 rfl Tryz.results149 Tryz.ntmps149 rfl ?_
 have hat := fI.1 (iX hok)
 have hjx : at0.toNat < T.l.length := by omega
 have hgp : gP T.t at0 = (T.l[at0.toNat]'hjx).t := jH rfl hjx
 have hsz := hs.at hjx
 have hfb := (dL.1 hok).2.1
 have hl4 := iA hfb
 rw [hgp] at hl4
 have hl5 : (T.l[at0.toNat]'hjx).k.l.length <= 4 := hl4
 have hp3 := pow3 (d := n) t1
 have hp1 : 1 <= 8 ^ n := Nat.pow_pos t1
 have hps : 8 ^ (n + 1) = 8 ^ n * 8 := kU ..
 have hvk := kI hfb
 rw [hgp] at hvk
 refine Bx 2 [] λ A0 r0 w0 d0 => ?_
 have a0 : at0.toNat < T.l.length := t3
 refine ov 7 [0] (a := cJ a0 (hNT.at d0).1) (b := ?_)
 refine ov 0 [] (a := gL a0 (hNT.at d0).1) (b := ?_)
 refine Al 0 [] λ B0 s0 x0 u0 => ?_
 refine Sb 0 [] 0 λ m0 e0 => ?_
 refine cd 9 [0] (λ c16 => ?_) (λ c16 => ?_)
 have hk0 : (gP T.t at0).kids = [] := by rw [hgp]; exact aP (by show (T.l[at0.toNat]'hjx).c.l.length = 0; omega)
 have hvr := gI hfb hk0
 rw [hgp] at hvr
 have hvl := (jS hfb hk0).1
 rw [hgp] at hvl
 have hte : cW T.t (n + 1) at0 = iH (aV (T.l[at0.toNat]'hjx).t) := by simp only [cW]; rw [if_pos hk0, hgp]
 have hfy := tO hvr
 have htl := rJ hok
 rw [hte] at htl
 have hpl : (aV (T.l[at0.toNat]'hjx).t).length <= 4 := by rw [eL]; exact hl4
 refine cq 3 [0] (b := jJ (T.l[at0.toNat]'a0) m0 ((hNT.at e0).2.get a0) qo (by exact hvl)) (c := ?_)
 rintro _ n0 ⟨p0, t0, rfl, k0⟩
 have f0 := e0.cl 0 k0
 have y0 := (f0.cap 0 rfl).1
 refine cp 0 [] (b := zB _ _ _ n0 (f0.rd 0 rfl) qo (by exact lK hvr) qo) (c := λ C0 j0 => ?_)
 refine E1 3 [] (S (iH (aV (T.l[at0.toNat]'a0).t))) ?_
 exact ⟨(congrArg S (by rw [hte])), (Mem.none j0)⟩
 have hk0 : (gP T.t at0).kids ≠ [] := by rw [hgp]; intro e9; exact absurd (show (T.l[at0.toNat]'hjx).c.l.length = 0 from congrArg List.length e9) t1
 have hkl := (lQ hfb hk0).2
 rw [hgp] at hkl
 have hkl2 : (T.l[at0.toNat]'hjx).c.l.length = (T.l[at0.toNat]'hjx).k.l.length + 1 := hkl
 have hte : cW T.t (n + 1) at0 = 40 :: (eO (cW T.t n) (T.l[at0.toNat]'hjx).k.l 0 (T.l[at0.toNat]'hjx).c.l ++ [41]) := by simp only [cW]; rw [if_neg hk0, hgp]; rfl
 have hkp : ∀ j k : Nat, k <= j -> (eO (cW T.t n) (T.l[at0.toNat]'hjx).k.l 0 ((T.l[at0.toNat]'hjx).c.l.take k)).length <= j * (200 * 8 ^ n + 23) := λ j k hk => by have := aAp hok hk; rw [hgp] at this; exact this
 refine lp1 11 [] (λ (k : Nat) => ([(6, Vs (40 :: eO (cW T.t n) (T.l[at0.toNat]'hjx).k.l 0 ((T.l[at0.toNat]'hjx).c.l.take k))), (7, Vi ((k : Nat) : Int))] : List (Nat × SV))) (λ k => (k <= (T.l[at0.toNat]'hjx).c.l.length)) (λ k => []) (λ k => (T.l[at0.toNat]'hjx).c.l.length - k) [2, 5] [] [0, 1] 0 (λ k σ o0 hI c0 => ?_) (hL := by exact (Has.cons (congrArg S (by simp [eO])) (Has.cons (I_congr t10) Has.nil))) (h0 := (bI _))
 have z0 := hI
 refine cd 9 [0] (λ c24 => ?_) (λ c24 => ?_)
 have hkt := yG (f := cW T.t n) (ks := (T.l[at0.toNat]'hjx).k.l) (l := (T.l[at0.toNat]'hjx).c.l) (k := k) t1
 have hkx : k < (T.l[at0.toNat]'hjx).c.l.length := by omega
 have hok1 := iC hok (k := k) (by rw [hgp]; exact hkx)
 have hck : (gP T.t at0).kids[k]'(by rw [hgp]; exact hkx) = ((T.l[at0.toNat]'hjx).c.l)[k] := by simp only [hgp]; rfl
 rw [hck] at hok1
 have htl1 := rJ hok1
 have hk4 := hkp 4 k t1
 refine cd 9 [] (λ c28 => ?_) (λ c28 => ?_)
 have hk0 : k ≠ 0 := by omega
 have hkj : k - 1 < (T.l[at0.toNat]'hjx).k.l.length := by omega
 have hkb := rL (show bR (T.l[at0.toNat]'hjx).k.l = true from hvk) hkj
 have hil := cL (n := ((T.l[at0.toNat]'hjx).k.l)[k - 1]) t1 t1
 have hgd := bF hkj
 refine ov 2 [] (a := iF (h := t3)) (b := ?_)
 refine ov 3 [0] (a := eV) (b := ?_)
 have g0 : k - 1 < (T.l[at0.toNat]'a0).k.l.length := hkj
 refine ov 0 [] (a := cG g0 ((hNT.at c0).2.get a0).1 (h0 := t1)) (b := ?_)
 refine ov 0 [] (a := eT g0 ((hNT.at c0).2.get a0).1) (b := ?_)
 refine cp 0 [] (b := gK _ o0 qo) (c := λ D0 v0 => ?_)
 refine ov 0 [] (a := iF (h := t3)) (b := ?_)
 refine ov 0 [] (a := iF (h := t3)) (b := ?_)
 refine dr 2 [] ?_
 have b0 : k < (T.l[at0.toNat]'a0).c.l.length := t3
 refine qv 5 [1, 0] (a := by exact λ _ hw2 => cG b0 ((hNT.at hw2).2.get a0).2.1) (b := ?_)
 refine qv 0 [] (a := by exact λ _ hw2 => eT b0 ((hNT.at hw2).2.get a0).2.1) (b := ?_)
 refine qc 0 [] (X := S (cW T.t n (((T.l[at0.toNat]'a0).c.l)[k]'b0))) (b := by exact λ w2 hw2 => (ih_fn T (((T.l[at0.toNat]'a0).c.l)[k]'b0) _ _ w2 (hNT.at hw2) q0 (by exact hok1) qo).mono λ _ _ h => ⟨h.1, Mem.call0 hw2 h.2⟩) (c := ?_)
 refine qv 0 [] (a := by exact λ _ hw2 => iF (h := t3)) (b := ?_)
 refine qn 1 [] λ l0 i0 => ?_
 refine ov 2 [] (a := bL (k + 1)) (b := ?_)
 exact le1 2 [] (k + 1) [0, 1] (hL := by exact (Has.cons (congrArg S (by rw [hkt]; first | (simp [hk0]; done) | (rw [if_neg hk0, hgd]; simp))) (Has.cons (I_congr t10) Has.nil))) (h := t9)
 have hk0 : k = 0 := by omega
 refine dr 1 [] ?_
 have b0 : k < (T.l[at0.toNat]'a0).c.l.length := t3
 refine qv 5 [1, 0] (a := by exact λ _ hw2 => cG b0 ((hNT.at hw2).2.get a0).2.1) (b := ?_)
 refine qv 0 [] (a := by exact λ _ hw2 => eT b0 ((hNT.at hw2).2.get a0).2.1) (b := ?_)
 refine qc 0 [] (X := S (cW T.t n (((T.l[at0.toNat]'a0).c.l)[k]'b0))) (b := by exact λ w2 hw2 => (ih_fn T (((T.l[at0.toNat]'a0).c.l)[k]'b0) _ _ w2 (hNT.at hw2) q0 (by exact hok1) qo).mono λ _ _ h => ⟨h.1, Mem.call0 hw2 h.2⟩) (c := ?_)
 refine qv 0 [] (a := by exact λ _ hw2 => iF (h := t3)) (b := ?_)
 refine qn 1 [] λ l0 i0 => ?_
 refine ov 2 [] (a := bL (k + 1)) (b := ?_)
 exact le1 2 [] (k + 1) [0, 1] (hL := by exact (Has.cons (congrArg S (by rw [hkt]; first | (simp [hk0]; done) | (rw [if_neg hk0, hgd]; simp))) (Has.cons (I_congr t10) Has.nil))) (h := t9)
 have hk5 := hkp 5 k t1
 refine ov 4 [] (a := iF (h := t3)) (b := ?_)
 refine E1 3 [] (S (40 :: eO (cW T.t n) (T.l[at0.toNat]'hjx).k.l 0 ((T.l[at0.toNat]'hjx).c.l.take k) ++ [41])) ?_
 exact ⟨(congrArg S (by rw [hte, aE t1]; simp)), (Mem.none c0)⟩
theorem aFl : ∀ (n : Nat), ∀ (T : bN) (at0 : Int) (lo : Int) (hi : Int) (w : World) (hNT : TrN w T) (hs : SzT T) (hok : okB T.t n at0 lo hi = true) (h3 : n <= 3), aR Tryz.prog 149 [.agg #[I T.root, .slice T.A T.l.length T.cp], I at0] w (λ v w1 => v = S (cW T.t n at0) /\ Mem w w1 [] []) := by
 intro n
 induction n with
 | zero => exact aCs
 | succ n ih => exact aCt n ih
theorem zY : ∀ (T : bN) (at0 : Int) (b : Nat) (A : Option Addr) (c : Nat) (l : List UInt8) (p : Value) (lo : Int) (hi : Int) (w : World) (hNT : TrN w T) (hOT : TrO T [some b, (Value.slice A l.length c).ownBlock]) (hM : Mem w w [some b, (Value.slice A l.length c).ownBlock] [[⟨.slice (bl b) 1 1, 93, 2, 1, [p, .slice A l.length c]⟩], oB A c l]) (hp : p = .pointer none \/ p = .pointer (ofs (bl b) 0)) (hs : SzT T) (hok : okB T.t 0 at0 lo hi = true) (h3 : 0 <= 3) (hl : l.length + 200 * 8 ^ 0 <= 1000000) (htab : TAB w) (htO : kM Tryz.prog aDd [some b, (Value.slice A l.length c).ownBlock]), aR Tryz.prog 144 [.agg #[I T.root, .slice T.A T.l.length T.cp], I at0, .pointer (ofs (bl b) 0)] w (λ v w1 => ∃ (A1 : Option Addr) (c1 : Nat), v = (.tuple #[]) /\ Mem w w1 [some b, (Value.slice A l.length c).ownBlock] [[⟨.slice (bl b) 1 1, 93, 2, 1, [.pointer (ofs (bl b) 0), .slice A1 (l ++ cW T.t 0 at0).length c1]⟩], oB A1 c1 (l ++ cW T.t 0 at0)]) := by
 intro T at0 b A c l p lo hi w hNT hOT hM hp hs hok h3 hl htab htO; simp [okB] at hok
set_option maxHeartbeats 4000000 in
theorem zZ (n : Nat) (ih_fn : ∀ (T : bN) (at0 : Int) (b : Nat) (A : Option Addr) (c : Nat) (l : List UInt8) (p : Value) (lo : Int) (hi : Int) (w : World) (hNT : TrN w T) (hOT : TrO T [some b, (Value.slice A l.length c).ownBlock]) (hM : Mem w w [some b, (Value.slice A l.length c).ownBlock] [[⟨.slice (bl b) 1 1, 93, 2, 1, [p, .slice A l.length c]⟩], oB A c l]) (hp : p = .pointer none \/ p = .pointer (ofs (bl b) 0)) (hs : SzT T) (hok : okB T.t n at0 lo hi = true) (h3 : n <= 3) (hl : l.length + 200 * 8 ^ n <= 1000000) (htab : TAB w) (htO : kM Tryz.prog aDd [some b, (Value.slice A l.length c).ownBlock]), aR Tryz.prog 144 [.agg #[I T.root, .slice T.A T.l.length T.cp], I at0, .pointer (ofs (bl b) 0)] w (λ v w1 => ∃ (A1 : Option Addr) (c1 : Nat), v = (.tuple #[]) /\ Mem w w1 [some b, (Value.slice A l.length c).ownBlock] [[⟨.slice (bl b) 1 1, 93, 2, 1, [.pointer (ofs (bl b) 0), .slice A1 (l ++ cW T.t n at0).length c1]⟩], oB A1 c1 (l ++ cW T.t n at0)])) (T : bN) (at0 : Int) (b : Nat) (A : Option Addr) (c : Nat) (l : List UInt8) (p : Value) (lo : Int) (hi : Int) (w : World) (hNT : TrN w T) (hOT : TrO T [some b, (Value.slice A l.length c).ownBlock]) (hM : Mem w w [some b, (Value.slice A l.length c).ownBlock] [[⟨.slice (bl b) 1 1, 93, 2, 1, [p, .slice A l.length c]⟩], oB A c l]) (hp : p = .pointer none \/ p = .pointer (ofs (bl b) 0)) (hs : SzT T) (hok : okB T.t (n + 1) at0 lo hi = true) (h3 : (n + 1) <= 3) (hl : l.length + 200 * 8 ^ (n + 1) <= 1000000) (htab : TAB w) (htO : kM Tryz.prog aDd [some b, (Value.slice A l.length c).ownBlock]) :
  aR Tryz.prog 144 [.agg #[I T.root, .slice T.A T.l.length T.cp], I at0, .pointer (ofs (bl b) 0)] w (λ v w1 => ∃ (A1 : Option Addr) (c1 : Nat), v = (.tuple #[]) /\ Mem w w1 [some b, (Value.slice A l.length c).ownBlock] [[⟨.slice (bl b) 1 1, 93, 2, 1, [.pointer (ofs (bl b) 0), .slice A1 (l ++ cW T.t (n + 1) at0).length c1]⟩], oB A1 c1 (l ++ cW T.t (n + 1) at0)]) := by
 refine aR.n0 Tryz.func144 rfl Tryz.results144 Tryz.ntmps144 rfl ?_
 have hat := fI.1 (iX hok)
 have hjx : at0.toNat < T.l.length := by omega
 have hgp : gP T.t at0 = (T.l[at0.toNat]'hjx).t := jH rfl hjx
 have hsz := hs.at hjx
 have hfb := (dL.1 hok).2.1
 have hl4 := iA hfb
 rw [hgp] at hl4
 have hl5 : (T.l[at0.toNat]'hjx).k.l.length <= 4 := hl4
 have hp3 := pow3 (d := n) t1
 have hp1 : 1 <= 8 ^ n := Nat.pow_pos t1
 have hps : 8 ^ (n + 1) = 8 ^ n * 8 := kU ..
 have hvk := kI hfb
 rw [hgp] at hvk
 refine Bx 2 [] λ K1 p1 y1 r0 => ?_
 have a0 : at0.toNat < T.l.length := t3
 refine ov 6 [0] (a := cJ a0 (hNT.atR r0 hOT).1) (b := ?_)
 refine ov 0 [] (a := gL a0 (hNT.atR r0 hOT).1) (b := ?_)
 refine Al 0 [] λ M1 q1 z1 s1 => ?_
 refine Sb 0 [] 0 λ C0 l0 => ?_
 refine cd 9 [0] (λ c17 => ?_) (λ c17 => ?_)
 have hk0 : (gP T.t at0).kids = [] := by rw [hgp]; exact aP (by show (T.l[at0.toNat]'hjx).c.l.length = 0; omega)
 have hvr := gI hfb hk0
 rw [hgp] at hvr
 have hvl := (jS hfb hk0).1
 rw [hgp] at hvl
 have hte : cW T.t (n + 1) at0 = iH (aV (T.l[at0.toNat]'hjx).t) := by simp only [cW]; rw [if_pos hk0, hgp]
 have hfy := tO hvr
 have htl := rJ hok
 rw [hte] at htl
 have hpl : (aV (T.l[at0.toNat]'hjx).t).length <= 4 := by rw [eL]; exact hl4
 refine cq 4 [0] (b := gD (T.l[at0.toNat]'a0) C0 ((hNT.atR l0 hOT).2.get a0) qo (by exact hvl)) (c := ?_)
 rintro _ l1 ⟨o1, r1, rfl, b1⟩
 have m0 := l0.cl 0 b1
 have F1 := (m0.cap 0 rfl).1
 refine cp 0 [] (b := tA _ _ _ l1 (m0.rd 0 rfl) qo (uK htab m0 htO)) (c := λ m1 Q0 => ?_)
 have w0 := Q0.pk [3, 4, 0, 1, 2]
 refine cq 0 [] (b := hY b A c l p _ m1 (w0.fp [0, 1] rfl rfl) (by first | exact .inl rfl | exact .inr rfl | assumption) (by rw [hfy]; omega)) (c := ?_)
 rintro _ N1 ⟨H0, N0, rfl, d1⟩
 have u0 := w0.cl 2 d1
 have G1 := (u0.cap 1 rfl).1
 refine E0 2 [] ?_
 have y0 : (l ++ (aEp (aV (T.l[at0.toNat]'a0).t)) : List UInt8) = l ++ cW T.t (n + 1) at0 := (by rw [hte, hfy])
 have R0 := u0.reM 1 y0
 have T0 := R0.reB 0 1 (show (l ++ (aEp (aV (T.l[at0.toNat]'a0).t))).length = (l ++ cW T.t (n + 1) at0).length from congrArg List.length y0)
 exact ⟨H0, N0, rfl, (T0.pk [0, 1])⟩
 have hk0 : (gP T.t at0).kids ≠ [] := by rw [hgp]; intro e9; exact absurd (show (T.l[at0.toNat]'hjx).c.l.length = 0 from congrArg List.length e9) t1
 have hkl := (lQ hfb hk0).2
 rw [hgp] at hkl
 have hkl2 : (T.l[at0.toNat]'hjx).c.l.length = (T.l[at0.toNat]'hjx).k.l.length + 1 := hkl
 have hte : cW T.t (n + 1) at0 = 40 :: (eO (cW T.t n) (T.l[at0.toNat]'hjx).k.l 0 (T.l[at0.toNat]'hjx).c.l ++ [41]) := by simp only [cW]; rw [if_neg hk0, hgp]; rfl
 have hkp : ∀ j k : Nat, k <= j -> (eO (cW T.t n) (T.l[at0.toNat]'hjx).k.l 0 ((T.l[at0.toNat]'hjx).c.l.take k)).length <= j * (200 * 8 ^ n + 23) := λ j k hk => by have := aAp hok hk; rw [hgp] at this; exact this
 have x0 := l0.pk [2, 3, 0, 1]
 refine cq 4 [] (b := iL b A c l p (40 : UInt8) C0 (x0.fp [0, 1] rfl rfl) (by first | exact .inl rfl | exact .inr rfl | assumption) t3) (c := ?_)
 rintro _ O1 ⟨I0, O0, rfl, e1⟩
 have v0 := x0.cl 2 e1
 have H1 := (v0.cap 1 rfl).1
 have U0 := v0.rM 1 (l ++ 40 :: eO (cW T.t n) (T.l[at0.toNat]'hjx).k.l 0 ((T.l[at0.toNat]'hjx).c.l.take 0) : List UInt8) (e := by simp [eO])
 have u1 := U0.reB 0 1 (show (l ++ [(40 : UInt8)]).length = (l ++ 40 :: eO (cW T.t n) (T.l[at0.toNat]'hjx).k.l 0 ((T.l[at0.toNat]'hjx).c.l.take 0)).length from (by simp [eO]))
 refine lp3 10 [2] (λ (k : Nat) (A2 : Option Addr) (c2 : Nat) => ([(28, Vi ((k : Nat) : Int))] : List (Nat × SV))) (λ k A2 c2 => (k <= (T.l[at0.toNat]'hjx).c.l.length)) (λ k A2 c2 => [[⟨.slice (bl b) 1 1, 93, 2, 1, [.pointer (ofs (bl b) 0), .slice A2 (l ++ 40 :: eO (cW T.t n) (T.l[at0.toNat]'hjx).k.l 0 ((T.l[at0.toNat]'hjx).c.l.take k)).length c2]⟩], oB A2 c2 (l ++ 40 :: eO (cW T.t n) (T.l[at0.toNat]'hjx).k.l 0 ((T.l[at0.toNat]'hjx).c.l.take k))]) (λ k A2 c2 => (T.l[at0.toNat]'hjx).c.l.length - k) [2, 3, 6, 26, 27] [0, 1] [2, 3] 0 I0 O0 (λ k A2 c2 σ p0 hI b0 => ?_) (h0 := (bI _))
 have J1 := hI
 have B1 := (b0.cap 1 rfl).1
 refine cd 5 [] (λ c29 => ?_) (λ c29 => ?_)
 have hkt := yG (f := cW T.t n) (ks := (T.l[at0.toNat]'hjx).k.l) (l := (T.l[at0.toNat]'hjx).c.l) (k := k) t1
 have hkx : k < (T.l[at0.toNat]'hjx).c.l.length := by omega
 have hok1 := iC hok (k := k) (by rw [hgp]; exact hkx)
 have hck : (gP T.t at0).kids[k]'(by rw [hgp]; exact hkx) = ((T.l[at0.toNat]'hjx).c.l)[k] := by simp only [hgp]; rfl
 rw [hck] at hok1
 have htl1 := rJ hok1
 have hk4 := hkp 4 k t1
 have e0 : k < (T.l[at0.toNat]'a0).c.l.length := t3
 refine ov 6 [] (a := cG e0 ((hNT.atR b0 hOT).2.get a0).2.1) (b := ?_)
 refine ov 0 [] (a := eT e0 ((hNT.atR b0 hOT).2.get a0).2.1) (b := ?_)
 refine cd 9 [] (λ c34 => ?_) (λ c34 => ?_)
 have hk0 : k ≠ 0 := by omega
 have hkj : k - 1 < (T.l[at0.toNat]'hjx).k.l.length := by omega
 have hkb := rL (show bR (T.l[at0.toNat]'hjx).k.l = true from hvk) hkj
 have hil := cL (n := ((T.l[at0.toNat]'hjx).k.l)[k - 1]) t1 t1
 have hgd := bF hkj
 refine cq 3 [] (b := iL b A2 c2 (l ++ 40 :: eO (cW T.t n) (T.l[at0.toNat]'hjx).k.l 0 ((T.l[at0.toNat]'hjx).c.l.take k)) (.pointer (ofs (bl b) 0)) (32 : UInt8) p0 (b0.fp [0, 1] rfl rfl) (by first | exact .inl rfl | exact .inr rfl | assumption) t3) (c := ?_)
 rintro _ n1 ⟨J0, P0, rfl, f1⟩
 have g0 := b0.cl 2 f1
 have I1 := (g0.cap 1 rfl).1
 refine ov 7 [2] (a := eV) (b := ?_)
 have d0 : k - 1 < (T.l[at0.toNat]'a0).k.l.length := hkj
 refine ov 0 [] (a := cG d0 ((hNT.atR g0 hOT).2.get a0).1 (h0 := t1)) (b := ?_)
 refine ov 0 [] (a := eT d0 ((hNT.atR g0 hOT).2.get a0).1) (b := ?_)
 refine cp 0 [] (b := mU _ n1 (uK htab g0 htO) (by constructor <;> omega)) (c := λ h1 s0 => ?_)
 refine cq 0 [] (b := hY b J0 P0 ((l ++ 40 :: eO (cW T.t n) (T.l[at0.toNat]'hjx).k.l 0 ((T.l[at0.toNat]'hjx).c.l.take k)) ++ [(32 : UInt8)]) (.pointer (ofs (bl b) 0)) _ h1 (s0.fp [0, 1] rfl rfl) (by first | exact .inl rfl | exact .inr rfl | assumption) t3) (c := ?_)
 rintro _ i1 ⟨D0, K0, rfl, Y0⟩
 have k0 := s0.cl 2 Y0
 have C1 := (k0.cap 1 rfl).1
 refine cq 3 [] (b := iL b D0 K0 (((l ++ 40 :: eO (cW T.t n) (T.l[at0.toNat]'hjx).k.l 0 ((T.l[at0.toNat]'hjx).c.l.take k)) ++ [(32 : UInt8)]) ++ (bS (((T.l[at0.toNat]'a0).k.l)[k - 1]'d0))) (.pointer (ofs (bl b) 0)) (32 : UInt8) i1 (k0.fp [0, 1] rfl rfl) (by first | exact .inl rfl | exact .inr rfl | assumption) t3) (c := ?_)
 rintro _ j1 ⟨F0, L0, rfl, Z0⟩
 have c0 := k0.cl 2 Z0
 have D1 := (c0.cap 1 rfl).1
 refine cq 5 [3] (b := ih_fn T _ b F0 L0 ((((l ++ 40 :: eO (cW T.t n) (T.l[at0.toNat]'hjx).k.l 0 ((T.l[at0.toNat]'hjx).c.l.take k)) ++ [(32 : UInt8)]) ++ (bS (((T.l[at0.toNat]'a0).k.l)[k - 1]'d0))) ++ [(32 : UInt8)]) (.pointer (ofs (bl b) 0)) _ _ j1 (hNT.atR c0 hOT) (TrO.cons (TrO.own c0 hNT hOT 0 rfl) (TrO.cons (TrO.own c0 hNT hOT 1 rfl) TrO.nil)) (c0.fp [0, 1] rfl rfl) (by first | exact .inl rfl | exact .inr rfl | assumption) q0 (by exact hok1) qo t3 (uK htab c0 htO) (kM.cons (kM.own htab c0 htO 0 rfl) (kM.cons (kM.own htab c0 htO 1 rfl) kM.nil))) (c := ?_)
 rintro _ k1 ⟨i0, j0, rfl, o0⟩
 have f0 := c0.cl 2 o0
 have g1 := (f0.cap 1 rfl).1
 refine ov 2 [] (a := bL (k + 1)) (b := ?_)
 have z0 : (((((l ++ 40 :: eO (cW T.t n) (T.l[at0.toNat]'hjx).k.l 0 ((T.l[at0.toNat]'hjx).c.l.take k)) ++ [(32 : UInt8)]) ++ (bS (((T.l[at0.toNat]'a0).k.l)[k - 1]'d0))) ++ [(32 : UInt8)]) ++ cW T.t n (((T.l[at0.toNat]'a0).c.l)[k]'e0) : List UInt8) = l ++ 40 :: eO (cW T.t n) (T.l[at0.toNat]'hjx).k.l 0 ((T.l[at0.toNat]'hjx).c.l.take (k + 1)) := (by rw [hkt]; first | (simp [hk0]; done) | (rw [if_neg hk0, hgd]; simp))
 have V0 := f0.reM 1 z0
 have v1 := V0.reB 0 1 (show (((((l ++ 40 :: eO (cW T.t n) (T.l[at0.toNat]'hjx).k.l 0 ((T.l[at0.toNat]'hjx).c.l.take k)) ++ [(32 : UInt8)]) ++ (bS (((T.l[at0.toNat]'a0).k.l)[k - 1]'d0))) ++ [(32 : UInt8)]) ++ cW T.t n (((T.l[at0.toNat]'a0).c.l)[k]'e0)).length = (l ++ 40 :: eO (cW T.t n) (T.l[at0.toNat]'hjx).k.l 0 ((T.l[at0.toNat]'hjx).c.l.take (k + 1))).length from congrArg List.length z0)
 exact le3 2 [] (k + 1) i0 j0 [0, 1, 2, 3] (h := t9)
 have hk0 : k = 0 := by omega
 refine cq 5 [3] (b := ih_fn T _ b A2 c2 (l ++ 40 :: eO (cW T.t n) (T.l[at0.toNat]'hjx).k.l 0 ((T.l[at0.toNat]'hjx).c.l.take k)) (.pointer (ofs (bl b) 0)) _ _ p0 (hNT.atR b0 hOT) (TrO.cons (TrO.own b0 hNT hOT 0 rfl) (TrO.cons (TrO.own b0 hNT hOT 1 rfl) TrO.nil)) (b0.fp [0, 1] rfl rfl) (by first | exact .inl rfl | exact .inr rfl | assumption) q0 (by exact hok1) qo t3 (uK htab b0 htO) (kM.cons (kM.own htab b0 htO 0 rfl) (kM.cons (kM.own htab b0 htO 1 rfl) kM.nil))) (c := ?_)
 rintro _ k1 ⟨i0, j0, rfl, o0⟩
 have f0 := b0.cl 2 o0
 have g1 := (f0.cap 1 rfl).1
 refine ov 2 [] (a := bL (k + 1)) (b := ?_)
 have A0 : ((l ++ 40 :: eO (cW T.t n) (T.l[at0.toNat]'hjx).k.l 0 ((T.l[at0.toNat]'hjx).c.l.take k)) ++ cW T.t n (((T.l[at0.toNat]'a0).c.l)[k]'e0) : List UInt8) = l ++ 40 :: eO (cW T.t n) (T.l[at0.toNat]'hjx).k.l 0 ((T.l[at0.toNat]'hjx).c.l.take (k + 1)) := (by rw [hkt]; first | (simp [hk0]; done) | (rw [if_neg hk0, hgd]; simp))
 have W0 := f0.reM 1 A0
 have x1 := W0.reB 0 1 (show ((l ++ 40 :: eO (cW T.t n) (T.l[at0.toNat]'hjx).k.l 0 ((T.l[at0.toNat]'hjx).c.l.take k)) ++ cW T.t n (((T.l[at0.toNat]'a0).c.l)[k]'e0)).length = (l ++ 40 :: eO (cW T.t n) (T.l[at0.toNat]'hjx).k.l 0 ((T.l[at0.toNat]'hjx).c.l.take (k + 1))).length from congrArg List.length A0)
 exact le3 2 [] (k + 1) i0 j0 [0, 1, 2, 3] (h := t9)
 have hk5 := hkp 5 k t1
 refine cq 3 [] (b := iL b A2 c2 (l ++ 40 :: eO (cW T.t n) (T.l[at0.toNat]'hjx).k.l 0 ((T.l[at0.toNat]'hjx).c.l.take k)) (.pointer (ofs (bl b) 0)) (41 : UInt8) p0 (b0.fp [0, 1] rfl rfl) (by first | exact .inl rfl | exact .inr rfl | assumption) t3) (c := ?_)
 rintro _ L1 ⟨G0, M0, rfl, a1⟩
 have t0 := b0.cl 2 a1
 have E1 := (t0.cap 1 rfl).1
 refine E0 1 [] ?_
 have B0 : ((l ++ 40 :: eO (cW T.t n) (T.l[at0.toNat]'hjx).k.l 0 ((T.l[at0.toNat]'hjx).c.l.take k)) ++ [(41 : UInt8)] : List UInt8) = l ++ cW T.t (n + 1) at0 := (by rw [hte, aE t1]; simp)
 have X0 := t0.reM 1 B0
 have S0 := X0.reB 0 1 (show ((l ++ 40 :: eO (cW T.t n) (T.l[at0.toNat]'hjx).k.l 0 ((T.l[at0.toNat]'hjx).c.l.take k)) ++ [(41 : UInt8)]).length = (l ++ cW T.t (n + 1) at0).length from congrArg List.length B0)
 exact ⟨G0, M0, rfl, (S0.pk [0, 1])⟩
theorem aDf : ∀ (n : Nat), ∀ (T : bN) (at0 : Int) (b : Nat) (A : Option Addr) (c : Nat) (l : List UInt8) (p : Value) (lo : Int) (hi : Int) (w : World) (hNT : TrN w T) (hOT : TrO T [some b, (Value.slice A l.length c).ownBlock]) (hM : Mem w w [some b, (Value.slice A l.length c).ownBlock] [[⟨.slice (bl b) 1 1, 93, 2, 1, [p, .slice A l.length c]⟩], oB A c l]) (hp : p = .pointer none \/ p = .pointer (ofs (bl b) 0)) (hs : SzT T) (hok : okB T.t n at0 lo hi = true) (h3 : n <= 3) (hl : l.length + 200 * 8 ^ n <= 1000000) (htab : TAB w) (htO : kM Tryz.prog aDd [some b, (Value.slice A l.length c).ownBlock]), aR Tryz.prog 144 [.agg #[I T.root, .slice T.A T.l.length T.cp], I at0, .pointer (ofs (bl b) 0)] w (λ v w1 => ∃ (A1 : Option Addr) (c1 : Nat), v = (.tuple #[]) /\ Mem w w1 [some b, (Value.slice A l.length c).ownBlock] [[⟨.slice (bl b) 1 1, 93, 2, 1, [.pointer (ofs (bl b) 0), .slice A1 (l ++ cW T.t n at0).length c1]⟩], oB A1 c1 (l ++ cW T.t n at0)]) := by
 intro n
 induction n with
 | zero => exact zY
 | succ n ih => exact zZ n ih
theorem zC (T : bN) (w : World) (hNT : TrN w T) (hs : SzT T) :
  aR Tryz.prog 112 [.agg #[I T.root, .slice T.A T.l.length T.cp]] w (λ v w1 => v = S (frX T.t) /\ Mem w w1 [] []) := by
 have hM : Mem w w [] [] := Mem.refl
 refine aR.n1 Tryz.func112 rfl Tryz.results112 Tryz.ntmps112 rfl ?_
 refine Bx 2 [] λ d0 f0 g0 b0 => ?_
 refine cp 6 [0] (b := jM T d0 (hNT.at b0) q0) (c := λ e0 a0 => ?_)
 refine cn 2 [] (λ c5 => ?_) (λ c5 => ?_)
 refine E1 5 [] (S ([])) ?_
 exact ⟨(congrArg S (by rw [aNv (by simpa using c5)])), (Mem.none a0)⟩
 have hv : aN T.t = true := by simpa using c5
 obtain ⟨hh3, hok, _⟩ := eF hv
 have hp3 := pow3 hh3
 have hok0 : okB T.t (bH T.t) T.root 0 100 = true := hok
 refine cp 6 [0, 0] (b := aFl (bH T.t) T _ 0 100 e0 (hNT.at a0) q0 (by exact hok0) (by exact hh3)) (c := λ h0 c0 => ?_)
 refine E1 3 [] (S (cW T.t (bH T.t) T.root)) ?_
 exact ⟨(congrArg S (by rw [aCc hv]; rfl)), (Mem.none c0)⟩
theorem zN (T : bN) (w : World) (hNT : TrN w T) (hs : SzT T) (htab : TAB w) :
  aR Tryz.prog 104 [.agg #[I T.root, .slice T.A T.l.length T.cp]] w (λ v w1 => v = S (frX T.t) /\ Mem w w1 [] []) := by
 have hM : Mem w w [] [] := Mem.refl
 refine aR.n1 Tryz.func104 rfl Tryz.results104 Tryz.ntmps104 rfl ?_
 refine Bx 2 [] λ k0 p0 s0 e0 => ?_
 refine cp 6 [0] (b := gS T k0 (hNT.at e0) q0) (c := λ v0 f0 => ?_)
 refine cn 2 [] (λ c6 => ?_) (λ c6 => ?_)
 refine E1 5 [] (S ([])) ?_
 exact ⟨(congrArg S (by rw [aNv (by simpa using c6)])), (Mem.none f0)⟩
 have hv : aN T.t = true := by simpa using c6
 obtain ⟨hh3, hok, _⟩ := eF hv
 have hp3 := pow3 hh3
 have hok0 : okB T.t (bH T.t) T.root 0 100 = true := hok
 refine Al 3 [] λ l0 c0 t0 g0 => ?_
 have i0 := Mem.addNil (e := 5) (sz := 1) g0
 have a0 := i0.pk [1, 0, 2]
 refine cq 6 [2, 2] (b := aDf (bH T.t) T _ c0 none 0 [] (.pointer none) 0 100 l0 (hNT.at a0) (TrO.cons (TrO.old a0 hNT 0 rfl) (TrO.cons (TrO.old a0 hNT 1 rfl) TrO.nil)) (a0.fp [0, 1] rfl rfl) (by first | exact .inl rfl | exact .inr rfl | assumption) q0 (by exact hok0) (by exact hh3) t3 (sO htab a0) (kM.cons (kM.old htab a0 0 rfl) (kM.cons (kM.old htab a0 1 rfl) kM.nil))) (c := ?_)
 rintro _ m0 ⟨o0, r0, rfl, j0⟩
 have b0 := a0.cl 2 j0
 have u0 := (b0.cap 1 rfl).1
 refine go 3 [] ?_
 refine O.callg [.pointer (ofs (bl c0) 0)] rfl en64 rfl rfl (uW (l := [] ++ cW T.t (bH T.t) T.root) m0 b0.size (b0.builder 0 1 rfl rfl (by first | exact .inl rfl | exact .inr rfl | assumption))) ?_
 rintro _ n0 ⟨rfl, d0⟩
 have h0 : Mem w n0 [] [] := vI b0 d0
 refine E1 3 [] (S ([] ++ cW T.t (bH T.t) T.root)) ?_
 exact ⟨(congrArg S (by rw [aCc hv]; first | rfl | (simp; done))), (Mem.none h0)⟩
end Go.Proofs.YtemejgglbhjodaaGreatDoor
namespace Go.Proofs
open Go.Shelf
def Tryz.lays172_ren : Go.Shelf.Ren := ⟨λ | 172 => 139 | 244 => 167 | 245 => 168 | 247 => 190 | 279 => 191 | 280 => 192 | 281 => 193 | 282 => 194 | 287 => 211 | 316 => 212 | 171 => 88 | 205 => 213 | 321 => 221 | 322 => 222 | 243 => 133 | 246 => 162 | 283 => 181 | 284 => 182 | 285 => 183 | 286 => 184 | 129 => 205 | 317 => 204 | 318 => 206 | 319 => 207 | 320 => 208 | 337 => 219 | 338 => 220 | n => n, λ | 9 => 9 | 3 => 3 | 75 => 95 | 76 => 96 | 4 => 4 | 5 => 5 | 167 => 185 | 37 => 22 | 0 => 0 | 85 => 186 | 2 => 2 | 168 => 188 | 53 => 180 | 175 => 211 | 46 => 176 | 210 => 214 | 127 => 139 | 145 => 225 | 143 => 223 | 21 => 21 | 171 => 179 | 173 => 183 | 212 => 201 | 51 => 202 | 20 => 20 | 213 => 203 | 232 => 229 | 233 => 230 | 80 => 100 | n => n, λ | 15 => 4 | 16 => 5 | 17 => 1 | 18 => 6 | 19 => 7 | n => n⟩
theorem Tryz.lays172 : Go.Proofs.Lays.n172 Tryz.prog Tryz.lays172_ren := {
 mixed := by kernel_rfl
 f129 := Tryz.func205.trans (congrArg some (by kernel_rfl))
 f171 := Tryz.func88.trans (congrArg some (by kernel_rfl))
 f172 := Tryz.func139.trans (congrArg some (by kernel_rfl))
 f205 := Tryz.func213.trans (congrArg some (by kernel_rfl))
 f243 := Tryz.func133.trans (congrArg some (by kernel_rfl))
 f244 := Tryz.func167.trans (congrArg some (by kernel_rfl))
 f245 := Tryz.func168.trans (congrArg some (by kernel_rfl))
 f246 := Tryz.func162.trans (congrArg some (by kernel_rfl))
 f247 := Tryz.func190.trans (congrArg some (by kernel_rfl))
 f279 := Tryz.func191.trans (congrArg some (by kernel_rfl))
 f280 := Tryz.func192.trans (congrArg some (by kernel_rfl))
 f281 := Tryz.func193.trans (congrArg some (by kernel_rfl))
 f282 := Tryz.func194.trans (congrArg some (by kernel_rfl))
 f283 := Tryz.func181.trans (congrArg some (by kernel_rfl))
 f284 := Tryz.func182.trans (congrArg some (by kernel_rfl))
 f285 := Tryz.func183.trans (congrArg some (by kernel_rfl))
 f286 := Tryz.func184.trans (congrArg some (by kernel_rfl))
 f287 := Tryz.func211.trans (congrArg some (by kernel_rfl))
 f316 := Tryz.func212.trans (congrArg some (by kernel_rfl))
 f317 := Tryz.func204.trans (congrArg some (by kernel_rfl))
 f318 := Tryz.func206.trans (congrArg some (by kernel_rfl))
 f319 := Tryz.func207.trans (congrArg some (by kernel_rfl))
 f320 := Tryz.func208.trans (congrArg some (by kernel_rfl))
 f321 := Tryz.func221.trans (congrArg some (by kernel_rfl))
 f322 := Tryz.func222.trans (congrArg some (by kernel_rfl))
 f337 := Tryz.func219.trans (congrArg some (by kernel_rfl))
 f338 := Tryz.func220.trans (congrArg some (by kernel_rfl))
 t0 := Tryz.underlying0
 a0 := Tryz.isAgg0
 z0 := Tryz.sizeOf0
 v0 := Tryz.zeroValue0
 t2 := Tryz.underlying2
 a2 := Tryz.isAgg2
 z2 := Tryz.sizeOf2
 v2 := Tryz.zeroValue2
 t3 := Tryz.underlying3
 a3 := Tryz.isAgg3
 z3 := Tryz.sizeOf3
 v3 := Tryz.zeroValue3
 t4 := Tryz.underlying4
 a4 := Tryz.isAgg4
 z4 := Tryz.sizeOf4
 v4 := Tryz.zeroValue4
 t5 := Tryz.underlying5
 a5 := Tryz.isAgg5
 z5 := Tryz.sizeOf5
 v5 := Tryz.zeroValue5
 t9 := Tryz.underlying9
 a9 := Tryz.isAgg9
 z9 := Tryz.sizeOf9
 v9 := Tryz.zeroValue9
 t20 := Tryz.underlying20
 a20 := Tryz.isAgg20
 z20 := Tryz.sizeOf20
 v20 := Tryz.zeroValue20
 t21 := Tryz.underlying21
 a21 := Tryz.isAgg21
 z21 := Tryz.sizeOf21
 v21 := Tryz.zeroValue21
 t37 := Tryz.underlying22
 a37 := Tryz.isAgg22
 z37 := Tryz.sizeOf22
 v37 := Tryz.zeroValue22
 t46 := Tryz.underlying176
 a46 := Tryz.isAgg176
 z46 := Tryz.sizeOf176
 v46 := Tryz.zeroValue176
 t51 := Tryz.underlying202
 a51 := Tryz.isAgg202
 z51 := Tryz.sizeOf202
 v51 := Tryz.zeroValue202
 t53 := Tryz.underlying180
 a53 := Tryz.isAgg180
 z53 := Tryz.sizeOf180
 v53 := Tryz.zeroValue180
 t75 := Tryz.underlying95
 a75 := Tryz.isAgg95
 z75 := Tryz.sizeOf95
 v75 := Tryz.zeroValue95
 t76 := Tryz.underlying96
 a76 := Tryz.isAgg96
 z76 := Tryz.sizeOf96
 v76 := Tryz.zeroValue96
 t85 := Tryz.underlying186
 a85 := Tryz.isAgg186
 z85 := Tryz.sizeOf186
 v85 := Tryz.zeroValue186
 t127 := Tryz.underlying139
 a127 := Tryz.isAgg139
 z127 := Tryz.sizeOf139
 v127 := Tryz.zeroValue139
 t143 := Tryz.underlying223
 a143 := Tryz.isAgg223
 z143 := Tryz.sizeOf223
 v143 := Tryz.zeroValue223
 t145 := Tryz.underlying225
 a145 := Tryz.isAgg225
 z145 := Tryz.sizeOf225
 v145 := Tryz.zeroValue225
 t167 := Tryz.underlying185
 a167 := Tryz.isAgg185
 z167 := Tryz.sizeOf185
 v167 := Tryz.zeroValue185
 t168 := Tryz.underlying188
 a168 := Tryz.isAgg188
 z168 := Tryz.sizeOf188
 v168 := Tryz.zeroValue188
 t171 := Tryz.underlying179
 a171 := Tryz.isAgg179
 z171 := Tryz.sizeOf179
 v171 := Tryz.zeroValue179
 t173 := Tryz.underlying183
 a173 := Tryz.isAgg183
 z173 := Tryz.sizeOf183
 v173 := Tryz.zeroValue183
 t175 := Tryz.underlying211
 a175 := Tryz.isAgg211
 z175 := Tryz.sizeOf211
 v175 := Tryz.zeroValue211
 t210 := Tryz.underlying214
 a210 := Tryz.isAgg214
 z210 := Tryz.sizeOf214
 v210 := Tryz.zeroValue214
 t212 := Tryz.underlying201
 a212 := Tryz.isAgg201
 z212 := Tryz.sizeOf201
 v212 := Tryz.zeroValue201
 t213 := Tryz.underlying203
 a213 := Tryz.isAgg203
 z213 := Tryz.sizeOf203
 t232 := Tryz.underlying229
 a232 := Tryz.isAgg229
 z232 := Tryz.sizeOf229
 v232 := Tryz.zeroValue229
 t233 := Tryz.underlying230
 a233 := Tryz.isAgg230
 z233 := Tryz.sizeOf230
 v233 := Tryz.zeroValue230
 g15 := by kernel_rfl
 g16 := by kernel_rfl
 g17 := by kernel_rfl
 g18 := by kernel_rfl
 g19 := by kernel_rfl }
open Go.RowKit in
theorem Tryz.strconv_Atoi (s : ByteArray) (n : Int) (hl : s.size <= 18) (h : Lib.atoi s.data.toList = some n) (w : World) :
  Calls Tryz.prog 139 #[.string s] w λ e w' => e = .returned (.tuple #[.int .i64 n, .nilIface]) /\ ∃ t, w' = Lib.bytesWorld w 5 t := Any.strconv_Atoi Tryz.lays172 s n hl h w
def Tryz.laysC172_ren : Go.Shelf.Ren := ⟨λ | 172 => 139 | 244 => 167 | 245 => 168 | 247 => 190 | 279 => 191 | 280 => 192 | 281 => 193 | 282 => 194 | 287 => 211 | 316 => 212 | 171 => 88 | 205 => 213 | 321 => 221 | 322 => 222 | 243 => 133 | 246 => 162 | 283 => 181 | 284 => 182 | 285 => 183 | 286 => 184 | 129 => 205 | 317 => 204 | 318 => 206 | 319 => 207 | 320 => 208 | 337 => 219 | 338 => 220 | n => n, λ | 9 => 9 | 3 => 3 | 75 => 95 | 76 => 96 | 4 => 4 | 5 => 5 | 167 => 185 | 37 => 22 | 0 => 0 | 85 => 186 | 2 => 2 | 168 => 188 | 53 => 180 | 175 => 211 | 46 => 176 | 210 => 214 | 127 => 139 | 145 => 225 | 143 => 223 | 21 => 21 | 171 => 179 | 173 => 183 | 212 => 201 | 51 => 202 | 20 => 20 | 213 => 203 | 232 => 229 | 233 => 230 | 80 => 100 | n => n, λ | 15 => 4 | 16 => 5 | 17 => 1 | 18 => 6 | 19 => 7 | n => n⟩
theorem Tryz.laysC172 : Go.Proofs.LaysC.n172 Tryz.prog Tryz.laysC172_ren := {
 mixed := by kernel_rfl
 f129 := Tryz.func205.trans (congrArg some (by kernel_rfl))
 f171 := Tryz.func88.trans (congrArg some (by kernel_rfl))
 f172 := Tryz.func139.trans (congrArg some (by kernel_rfl))
 f205 := Tryz.func213.trans (congrArg some (by kernel_rfl))
 f243 := Tryz.func133.trans (congrArg some (by kernel_rfl))
 f244 := Tryz.func167.trans (congrArg some (by kernel_rfl))
 f245 := Tryz.func168.trans (congrArg some (by kernel_rfl))
 f246 := Tryz.func162.trans (congrArg some (by kernel_rfl))
 f247 := Tryz.func190.trans (congrArg some (by kernel_rfl))
 f279 := Tryz.func191.trans (congrArg some (by kernel_rfl))
 f280 := Tryz.func192.trans (congrArg some (by kernel_rfl))
 f281 := Tryz.func193.trans (congrArg some (by kernel_rfl))
 f282 := Tryz.func194.trans (congrArg some (by kernel_rfl))
 f283 := Tryz.func181.trans (congrArg some (by kernel_rfl))
 f284 := Tryz.func182.trans (congrArg some (by kernel_rfl))
 f285 := Tryz.func183.trans (congrArg some (by kernel_rfl))
 f286 := Tryz.func184.trans (congrArg some (by kernel_rfl))
 f287 := Tryz.func211.trans (congrArg some (by kernel_rfl))
 f316 := Tryz.func212.trans (congrArg some (by kernel_rfl))
 f317 := Tryz.func204.trans (congrArg some (by kernel_rfl))
 f318 := Tryz.func206.trans (congrArg some (by kernel_rfl))
 f319 := Tryz.func207.trans (congrArg some (by kernel_rfl))
 f320 := Tryz.func208.trans (congrArg some (by kernel_rfl))
 f321 := Tryz.func221.trans (congrArg some (by kernel_rfl))
 f322 := Tryz.func222.trans (congrArg some (by kernel_rfl))
 f337 := Tryz.func219.trans (congrArg some (by kernel_rfl))
 f338 := Tryz.func220.trans (congrArg some (by kernel_rfl))
 t0 := Tryz.underlying0
 a0 := Tryz.isAgg0
 z0 := Tryz.sizeOf0
 v0 := Tryz.zeroValue0
 t2 := Tryz.underlying2
 a2 := Tryz.isAgg2
 z2 := Tryz.sizeOf2
 v2 := Tryz.zeroValue2
 t3 := Tryz.underlying3
 a3 := Tryz.isAgg3
 z3 := Tryz.sizeOf3
 v3 := Tryz.zeroValue3
 t4 := Tryz.underlying4
 a4 := Tryz.isAgg4
 z4 := Tryz.sizeOf4
 v4 := Tryz.zeroValue4
 t5 := Tryz.underlying5
 a5 := Tryz.isAgg5
 z5 := Tryz.sizeOf5
 v5 := Tryz.zeroValue5
 t9 := Tryz.underlying9
 a9 := Tryz.isAgg9
 z9 := Tryz.sizeOf9
 v9 := Tryz.zeroValue9
 t20 := Tryz.underlying20
 a20 := Tryz.isAgg20
 z20 := Tryz.sizeOf20
 v20 := Tryz.zeroValue20
 t21 := Tryz.underlying21
 a21 := Tryz.isAgg21
 z21 := Tryz.sizeOf21
 v21 := Tryz.zeroValue21
 t37 := Tryz.underlying22
 a37 := Tryz.isAgg22
 z37 := Tryz.sizeOf22
 v37 := Tryz.zeroValue22
 t46 := Tryz.underlying176
 a46 := Tryz.isAgg176
 z46 := Tryz.sizeOf176
 v46 := Tryz.zeroValue176
 t51 := Tryz.underlying202
 a51 := Tryz.isAgg202
 z51 := Tryz.sizeOf202
 v51 := Tryz.zeroValue202
 t53 := Tryz.underlying180
 a53 := Tryz.isAgg180
 z53 := Tryz.sizeOf180
 v53 := Tryz.zeroValue180
 t75 := Tryz.underlying95
 a75 := Tryz.isAgg95
 z75 := Tryz.sizeOf95
 v75 := Tryz.zeroValue95
 t76 := Tryz.underlying96
 a76 := Tryz.isAgg96
 z76 := Tryz.sizeOf96
 v76 := Tryz.zeroValue96
 t85 := Tryz.underlying186
 a85 := Tryz.isAgg186
 z85 := Tryz.sizeOf186
 v85 := Tryz.zeroValue186
 t127 := Tryz.underlying139
 a127 := Tryz.isAgg139
 z127 := Tryz.sizeOf139
 v127 := Tryz.zeroValue139
 t143 := Tryz.underlying223
 a143 := Tryz.isAgg223
 z143 := Tryz.sizeOf223
 v143 := Tryz.zeroValue223
 t145 := Tryz.underlying225
 a145 := Tryz.isAgg225
 z145 := Tryz.sizeOf225
 v145 := Tryz.zeroValue225
 t167 := Tryz.underlying185
 a167 := Tryz.isAgg185
 z167 := Tryz.sizeOf185
 v167 := Tryz.zeroValue185
 t168 := Tryz.underlying188
 a168 := Tryz.isAgg188
 z168 := Tryz.sizeOf188
 v168 := Tryz.zeroValue188
 t171 := Tryz.underlying179
 a171 := Tryz.isAgg179
 z171 := Tryz.sizeOf179
 v171 := Tryz.zeroValue179
 t173 := Tryz.underlying183
 a173 := Tryz.isAgg183
 z173 := Tryz.sizeOf183
 v173 := Tryz.zeroValue183
 t175 := Tryz.underlying211
 a175 := Tryz.isAgg211
 z175 := Tryz.sizeOf211
 v175 := Tryz.zeroValue211
 t210 := Tryz.underlying214
 a210 := Tryz.isAgg214
 z210 := Tryz.sizeOf214
 v210 := Tryz.zeroValue214
 t212 := Tryz.underlying201
 a212 := Tryz.isAgg201
 z212 := Tryz.sizeOf201
 v212 := Tryz.zeroValue201
 t213 := Tryz.underlying203
 a213 := Tryz.isAgg203
 z213 := Tryz.sizeOf203
 t232 := Tryz.underlying229
 a232 := Tryz.isAgg229
 z232 := Tryz.sizeOf229
 v232 := Tryz.zeroValue229
 t233 := Tryz.underlying230
 a233 := Tryz.isAgg230
 z233 := Tryz.sizeOf230
 v233 := Tryz.zeroValue230
 g15 := by kernel_rfl
 g16 := by kernel_rfl
 g17 := by kernel_rfl
 g18 := by kernel_rfl
 g19 := by kernel_rfl
 t80 := Tryz.underlying100
 a80 := Tryz.isAgg100
 z80 := Tryz.sizeOf100
 v80 := Tryz.zeroValue100
 i0 := by kernel_rfl
 i2 := by kernel_rfl
 i3 := by kernel_rfl
 i4 := by kernel_rfl
 i5 := by kernel_rfl
 i9 := by kernel_rfl
 i20 := by kernel_rfl
 i21 := by kernel_rfl
 i37 := by kernel_rfl
 i46 := by kernel_rfl
 i51 := by kernel_rfl
 i53 := by kernel_rfl
 i75 := by kernel_rfl
 i76 := by kernel_rfl
 i80 := by kernel_rfl
 i85 := by kernel_rfl
 i127 := by kernel_rfl
 i143 := by kernel_rfl
 i145 := by kernel_rfl
 i167 := by kernel_rfl
 i168 := by kernel_rfl
 i171 := by kernel_rfl
 i173 := by kernel_rfl
 i175 := by kernel_rfl
 i210 := by kernel_rfl
 i212 := by kernel_rfl
 i232 := by kernel_rfl
 i233 := by kernel_rfl
 m15 := by kernel_rfl
 m16 := by kernel_rfl
 m17 := by kernel_rfl
 m18 := by kernel_rfl
 m19 := by kernel_rfl
 c0 := by kernel_rfl
 c2 := by kernel_rfl
 c3 := by kernel_rfl
 c4 := by kernel_rfl
 c5 := by kernel_rfl
 c9 := by kernel_rfl
 c20 := by kernel_rfl
 c21 := by kernel_rfl
 c37 := by kernel_rfl
 c46 := by kernel_rfl
 c51 := by kernel_rfl
 c53 := by kernel_rfl
 c75 := by kernel_rfl
 c76 := by kernel_rfl
 c80 := by kernel_rfl
 c85 := by kernel_rfl
 c127 := by kernel_rfl
 c143 := by kernel_rfl
 c145 := by kernel_rfl
 c167 := by kernel_rfl
 c168 := by kernel_rfl
 c171 := by kernel_rfl
 c173 := by kernel_rfl
 c175 := by kernel_rfl
 c210 := by kernel_rfl
 c212 := by kernel_rfl
 c213 := by kernel_rfl
 c232 := by kernel_rfl
 c233 := by kernel_rfl }
open Go.RowKit in
theorem Tryz.strconv_Atoi_err (s : ByteArray) (hl : s.size <= 18) (h : Lib.atoi s.data.toList = none) (ev : Value) (w : World) (hv : w.cell? ⟨4, 0, none⟩ = some ev) (hev : ev = .nilIface \/ ∃ te pe, ev = .iface te pe) :
  Calls Tryz.prog 139 #[.string s] w λ e w' => ∃ N, e = .returned (.tuple #[.int .i64 0, .iface 188 (.pointer (some ⟨N, 0, none⟩))]) /\ w.heap.size <= N /\ w'.heap[N]? = some (.cells #[.string ⟨#[65, 116, 111, 105]⟩, .string s, ev] 214 (0, 0)) /\ Below w.heap.size w w' := Any.strconv_Atoi_err Tryz.laysC172 s hl h ev w hv hev
open Go.RowKit Go.Lib in
def Tryz.lays146_ren : Go.Shelf.Ren := ⟨λ | 146 => 52 | 221 => 94 | 268 => 135 | 138 => 136 | 143 => 137 | 195 => 163 | 197 => 164 | 218 => 165 | 219 => 166 | 260 => 185 | 217 => 186 | 225 => 187 | 224 => 188 | 267 => 189 | 266 => 209 | 314 => 210 | n => n, λ | 9 => 9 | 31 => 47 | 3 => 3 | 4 => 4 | 0 => 0 | 105 => 163 | 21 => 21 | 5 => 5 | 46 => 176 | 119 => 205 | 139 => 208 | 138 => 207 | 146 => 209 | 51 => 202 | n => n, λ | 1 => 0 | 3 => 2 | 4 => 3 | n => n⟩
theorem Tryz.lays146 : Go.Proofs.Lays.n146 Tryz.prog Tryz.lays146_ren := {
 mixed := by kernel_rfl
 f138 := Tryz.func136.trans (congrArg some (by kernel_rfl))
 f143 := Tryz.func137.trans (congrArg some (by kernel_rfl))
 f146 := Tryz.func52.trans (congrArg some (by kernel_rfl))
 f195 := Tryz.func163.trans (congrArg some (by kernel_rfl))
 f197 := Tryz.func164.trans (congrArg some (by kernel_rfl))
 f217 := Tryz.func186.trans (congrArg some (by kernel_rfl))
 f218 := Tryz.func165.trans (congrArg some (by kernel_rfl))
 f219 := Tryz.func166.trans (congrArg some (by kernel_rfl))
 f221 := Tryz.func94.trans (congrArg some (by kernel_rfl))
 f224 := Tryz.func188.trans (congrArg some (by kernel_rfl))
 f225 := Tryz.func187.trans (congrArg some (by kernel_rfl))
 f260 := Tryz.func185.trans (congrArg some (by kernel_rfl))
 f266 := Tryz.func209.trans (congrArg some (by kernel_rfl))
 f267 := Tryz.func189.trans (congrArg some (by kernel_rfl))
 f268 := Tryz.func135.trans (congrArg some (by kernel_rfl))
 f314 := Tryz.func210.trans (congrArg some (by kernel_rfl))
 t0 := Tryz.underlying0
 a0 := Tryz.isAgg0
 z0 := Tryz.sizeOf0
 v0 := Tryz.zeroValue0
 t3 := Tryz.underlying3
 a3 := Tryz.isAgg3
 z3 := Tryz.sizeOf3
 v3 := Tryz.zeroValue3
 t4 := Tryz.underlying4
 a4 := Tryz.isAgg4
 z4 := Tryz.sizeOf4
 v4 := Tryz.zeroValue4
 t5 := Tryz.underlying5
 a5 := Tryz.isAgg5
 z5 := Tryz.sizeOf5
 v5 := Tryz.zeroValue5
 t9 := Tryz.underlying9
 a9 := Tryz.isAgg9
 z9 := Tryz.sizeOf9
 v9 := Tryz.zeroValue9
 t21 := Tryz.underlying21
 a21 := Tryz.isAgg21
 z21 := Tryz.sizeOf21
 v21 := Tryz.zeroValue21
 t31 := Tryz.underlying47
 a31 := Tryz.isAgg47
 z31 := Tryz.sizeOf47
 v31 := Tryz.zeroValue47
 t46 := Tryz.underlying176
 a46 := Tryz.isAgg176
 z46 := Tryz.sizeOf176
 v46 := Tryz.zeroValue176
 t51 := Tryz.underlying202
 a51 := Tryz.isAgg202
 z51 := Tryz.sizeOf202
 v51 := Tryz.zeroValue202
 t105 := Tryz.underlying163
 a105 := Tryz.isAgg163
 z105 := Tryz.sizeOf163
 v105 := Tryz.zeroValue163
 t119 := Tryz.underlying205
 a119 := Tryz.isAgg205
 z119 := Tryz.sizeOf205
 t138 := Tryz.underlying207
 a138 := Tryz.isAgg207
 z138 := Tryz.sizeOf207
 v138 := Tryz.zeroValue207
 t139 := Tryz.underlying208
 a139 := Tryz.isAgg208
 z139 := Tryz.sizeOf208
 v139 := Tryz.zeroValue208
 t146 := Tryz.underlying209
 a146 := Tryz.isAgg209
 z146 := Tryz.sizeOf209
 v146 := Tryz.zeroValue209
 g1 := by kernel_rfl
 g3 := by kernel_rfl
 g4 := by kernel_rfl }
open Go.RowKit Go.Lib in
theorem Tryz.strings_Split (s sep : ByteArray) (m : Int) (w : World) (hs : s.size < 4294967281) (hm : w.cell? ⟨0, 0, none⟩ = some (.int .i64 m)) (h1 : 1 <= sep.size) :
  Calls Tryz.prog 52 #[.string s, .string sep] w λ e w' =>
   e = .returned (.slice (some ⟨w.heap.size, 0, none⟩) (Lib.countB s sep + 1) (Lib.countB s sep + 1)) /\ w' = w.alloc (.cells ((Lib.splitB sep 0 (Lib.countB s sep) s).map Value.string).toArray 9) := Any.strings_Split Tryz.lays146 (by kernel_rfl) s sep m w hs hm h1
end Go.Proofs
section
namespace Go.Px
open Go.RowKit
section
variable {P : Program} {σ : Sig} {w : World} {dst : Option Tmp} {T U T' e : TypeId} {pos : String} {after : Array Edge} {g : Option (Nat × Bool)} {x y : Operand}
theorem tV {w w1 : World} (h : Below w.heap.size w w1) : Mem w w1 [] [] := ⟨h.os, h.tape, h.output, h.size, λ k hk _ => h.block k hk, t11, t11, t11⟩
theorem aIv {w0 w : World} {L : List FE} {k i : Nat} {v : Value} (h : w0.cell? ⟨k, i, none⟩ = some v) (hM : iS w0 w [] L) : w.cell? ⟨k, i, none⟩ = some v := by
 have hlt : k < w0.heap.size := by
  rcases fB k w0.heap.size with h1 | h1
  ·exact h1
  unfold World.cell? at h; rw [Array.getElem?_eq_none h1] at h; cases h
 exact (World.cell?_of_block (hM.block k hlt t11)).trans h
theorem Ru.infN {k : Nat} (ht : ∃ m, P.underlying T = some (.interface m)) (hx : σ k = .nilIface) : Ru P σ ⟨dst, .binOp .neq T (.tmp k) (.const .nilIface) U, T', pos, after, g⟩ w (.bool false) := by
 obtain ⟨m, ht⟩ := ht
 have h : ∀ d : Nat, (Op.equalIn (d + 1) T .nilIface .nilIface).run P w = .ok true w := λ d => by simp [Op.equalIn, run_underlying ht]
 simp [Ru, execOp, ev, hx, eqGuard, binOp, Op.equal, Op.maxDepth, h 9999]
theorem Ru.infS {k : Nat} {t : TypeId} {p : Value} (ht : ∃ m, P.underlying T = some (.interface m)) (hx : σ k = .iface t p) : Ru P σ ⟨dst, .binOp .neq T (.tmp k) (.const .nilIface) U, T', pos, after, g⟩ w (.bool true) := by
 obtain ⟨m, ht⟩ := ht
 have h : ∀ d : Nat, (Op.equalIn (d + 1) T (.iface t p) .nilIface).run P w = .ok false w := λ d => by simp [Op.equalIn, run_underlying ht]
 simp [Ru, execOp, ev, hx, eqGuard, binOp, Op.equal, Op.maxDepth, h 9999]
end
theorem aMs (l : Str) : (⟨l.toArray⟩ : ByteArray).data.toList = l := by simp
theorem aIi {c : UInt8} {s : Str} : (Lib.splitB ⟨#[c]⟩ 0 (Lib.countB ⟨s.toArray⟩ ⟨#[c]⟩) ⟨s.toArray⟩).map Value.string = (cQ c s).map S := by
 have h := Lib.splitB_data ⟨#[c]⟩ 0 (Lib.countB ⟨s.toArray⟩ ⟨#[c]⟩) ⟨s.toArray⟩
 have h2 : Lib.splitK [c] 0 (Lib.count s [c]) s = cQ c s := splK_eq s.length s (dD _)
 have h3 : (Lib.splitB ⟨#[c]⟩ 0 (Lib.countB ⟨s.toArray⟩ ⟨#[c]⟩) ⟨s.toArray⟩).map (·.data.toList) = cQ c s := by
  rw [h]
  have e : Lib.countB ⟨s.toArray⟩ ⟨#[c]⟩ = Lib.count s [c] := by
   show Lib.count _ _ = _
   simp
  rw [e]; simpa using h2
 rw [<- h3, nR]
 apply gG
 intro b _
 show Value.string b = S b.data.toList
 simp [S]
end Go.Px
namespace Go.Proofs.YtemejgglbhjodaaGreatDoor
open Go.Px Go.RowKit
structure LW (w : World) : Prop where
 tab : TAB w
 max : ∃ m, w.cell? ⟨0, 0, none⟩ = some (.int .i64 m)
 err : ∃ t p, w.cell? ⟨4, 0, none⟩ = some (.iface t p)
theorem LW.at {w0 w : World} {L : List FE} (h : LW w0) (hM : iS w0 w [] L) : LW w :=
 ⟨sO h.tab hM, by obtain ⟨m, hm⟩ := h.max; exact ⟨m, aIv hm hM⟩, by obtain ⟨t, p, hp⟩ := h.err; exact ⟨t, p, aIv hp hM⟩⟩
theorem aMm (s : Str) (n : Int) (w : World) (hl : s.length <= 18) (hat : Lib.atoi s = some n) :
  aR Tryz.prog 139 [S s] w (λ v w1 => v = .tuple #[I n, .nilIface] /\ Mem w w1 [] []) := by
 refine ⟨(Tryz.strconv_Atoi ⟨s.toArray⟩ n (by rw [uV]; exact hl) (by rw [aMs]; exact hat) w).mono λ e w' ⟨he, t, hw⟩ => ⟨_, he, rfl, ?_⟩⟩
 rw [hw]; exact tV (Lib.bytesWorld_below _ _ _)
theorem aMn (s : Str) (w : World) (hl : s.length <= 18) (hat : Lib.atoi s = none) (hlw : LW w) :
  aR Tryz.prog 139 [S s] w (λ v w1 => ∃ (tE : TypeId) (pE : Value), v = .tuple #[I 0, .iface tE pE] /\ Mem w w1 [] []) := by
 obtain ⟨t, p, hp⟩ := hlw.err
 refine ⟨(Tryz.strconv_Atoi_err ⟨s.toArray⟩ (by rw [uV]; exact hl) (by rw [aMs]; exact hat) (.iface t p) w hp (.inr ⟨t, p, rfl⟩)).mono λ e w' h => ?_⟩
 obtain ⟨N, he, hN, _, hb⟩ := h
 exact ⟨_, he, _, _, rfl, tV hb⟩
end Go.Proofs.YtemejgglbhjodaaGreatDoor
end
namespace Go.Px
open Go.Lib
theorem aOr {α : Type} {o : Option α} (h : o.isSome = false) : o = none := by cases o <;> simp at h ⊢
theorem aOs {α : Type} {o : Option α} {d : α} (h : o.isSome = true) : o = some (o.getD d) := by cases o <;> simp at h ⊢
theorem aGi {c : UInt8} : ∀ {s : Str}, (cQ c s).length <= s.length + 1
 | [] => by simp [cQ]
 | b :: s => by
  have ih := aGi (c := c) (s := s)
  simp only [cQ]
  split
  ·simp; omega
  cases h : cQ c s with
  | nil => simp
  | cons p ps => rw [h] at ih; simp at ih ⊢; omega
theorem aPe {c : UInt8} {s : Str} {L : List Str} {f i : Nat} (h : L ++ cQ c (s.drop f) = cQ c s) (hn : c ∉ (s.drop f).take (i - f)) (hf : f <= i) (hi : i < s.length) (hc : s[i] = c) : (L ++ [(s.drop f).take (i - f)]) ++ cQ c (s.drop (i + 1)) = cQ c s := by
 rw [<- h, bO]
 congr 1
 have e : s.drop f = (s.drop f).take (i - f) ++ c :: s.drop (i + 1) := by
  conv => lhs; rw [<- bT (i - f) (s.drop f)]
  congr 1
  rw [List.drop_drop, show f + (i - f) = i by omega, cB hi, hc]
 conv => rhs; rw [e]
 rw [zD hn]; rfl
theorem aHw {c : UInt8} {s : Str} {f i : Nat} (hn : c ∉ (s.drop f).take (i - f)) (hf : f <= i) (hi : i < s.length) (hc : s[i] ≠ c) : c ∉ (s.drop f).take (i + 1 - f) := by
 have h1 : i - f < (s.drop f).length := by simp; omega
 rw [show i + 1 - f = i - f + 1 by omega, dO h1]
 intro hm
 rcases bE.1 hm with hm | hm
 exact hn hm
 rw [aU, lN] at hm
 apply hc
 rw [hm]; congr 1; omega
theorem spl_end {c : UInt8} {s : Str} {L : List Str} {f i : Nat} (h : L ++ cQ c (s.drop f) = cQ c s) (hn : c ∉ (s.drop f).take (i - f)) (hi : s.length <= i) : L ++ [s.drop f] = cQ c s := by
 rw [aE t13] at hn
 rw [<- h, vP hn]
theorem aHh {s : Str} {i : Nat} (h : i < s.length) : mW (s.take (i + 1)) = dig (mW (s.take i)) s[i] := by rw [dO h, vA]
theorem aHf : ∀ (n : Nat) (s : Str), s.length = n -> mW s < 10 ^ n := by
 intro n
 induction n with
 | zero => intro s hs; have : s = [] := aP hs; subst this; simp [mW]
 | succ n ih =>
  intro s hs
  have h1 : s = s.take n ++ [s[n]'t1] := by rw [<- dO t1, aE t1]
  have h2 := ih (s.take n) t13
  rw [h1, vA]
  unfold dig
  split
  ·rename_i hb; rw [kU]; omega
  rw [kU]; omega
theorem sD {s : Str} (h : s.length <= 5) : mW s <= 99999 := by
 have h1 := aHf s.length s rfl
 have h2 : 10 ^ s.length <= 10 ^ 5 := Nat.pow_le_pow_right t1 h
 omega
theorem aJn {s : Str} {i : Nat} (h : i < s.length) (h0 : i ≠ 0 \/ s[i] ≠ 45) (hb : ¬ (48 <= (s[i]).toNat /\ (s[i]).toNat <= 57)) : eJ s = none := tY λ n e => by
 subst e
 exact hb (aLm h h0)
theorem num_e {s : Str} (h : s = [] \/ ¬ s.length <= 5 \/ s = [45]) : eJ s = none := by
 rcases h with h | h | h
 subst h; exact tY λ n => itoa_ne n
 exact aAu h
 subst h; exact tY λ n => aLl n
theorem pv_neg {s : Str} (h : 0 < s.length) (h0 : s[0] = 45) : pv s = -(mW s : Int) := by
 unfold pv; rw [if_pos]; rw [<- h0, List.head?_eq_getElem?, aL h]
theorem pv_pos {s : Str} (h : 0 < s.length) (h0 : s[0] ≠ 45) : pv s = mW s := by
 unfold pv; rw [if_neg]; rw [List.head?_eq_getElem?, aL h]; simpa using h0
theorem aJo {s : Str} {n : Int} (hn : pv s = n) (hl : s.length <= 5) (h : bS n = s) : eJ s = some n := aFi hl h
theorem aJp {s : Str} {n : Int} (hn : pv s = n) (h : bS n ≠ s) : eJ s = none := by
 unfold eJ; rw [if_neg λ hc => h (by rw [<- hn]; exact hc.2)]
end Go.Px
namespace Go.Proofs.YtemejgglbhjodaaGreatDoor
open Go.Px
theorem aFs (s : Str) (n : Int) (w : World) (hlw : LW w) (hat : Lib.atoi s = some n) :
  aR Tryz.prog 96 [S s] w (λ v w1 => v = .tuple #[I ((eJ s).getD 0), .bool (eJ s).isSome] /\ Mem w w1 [] []) := by
 have hM : Mem w w [] [] := Mem.refl
 refine aR.n2 Tryz.func96 rfl Tryz.results96 Tryz.ntmps96 rfl ?_
 refine cd 12 [] (λ c8 => ?_) (λ c8 => ?_)
 refine E2 6 [] (I 0) (.bool false) ?_
 exact ⟨(by rw [aAu t1]; rfl), (Mem.none hM)⟩
 refine cp 4 [] (b := aMm _ n w qo (by exact hat)) (c := λ c0 b0 => ?_)
 have hnb := Lib.atoi_bound hat t1
 refine go 10 [] ?_
 refine O.val (v := .bool false) rfl (Ru.infN ⟨_, Tryz.underlying95⟩ rfl) rfl ?_
 refine cp 2 [] (b := mU _ c0 (sO hlw.tab b0) (by constructor <;> omega)) (c := λ d0 a0 => ?_)
 refine cd 4 [] (λ c21 => ?_) (λ c21 => ?_)
 refine E2 6 [] (I 0) (.bool false) ?_
 exact ⟨(by rw [aCn hat (by simp_all)]; rfl), (Mem.none a0)⟩
 refine E2 8 [] (I n) (.bool true) ?_
 exact ⟨(by rw [aFi (n := n) t1 (by simp_all)]; rfl), (Mem.none a0)⟩
theorem aFt (s : Str) (w : World) (hlw : LW w) (hat : Lib.atoi s = none) :
  aR Tryz.prog 96 [S s] w (λ v w1 => v = .tuple #[I ((eJ s).getD 0), .bool (eJ s).isSome] /\ Mem w w1 [] []) := by
 have hM : Mem w w [] [] := Mem.refl
 refine aR.n2 Tryz.func96 rfl Tryz.results96 Tryz.ntmps96 rfl ?_
 refine cd 12 [] (λ c8 => ?_) (λ c8 => ?_)
 refine E2 6 [] (I 0) (.bool false) ?_
 exact ⟨(by rw [qL hat]; rfl), (Mem.none hM)⟩
 refine cq 4 [] (b := aMn _ w qo (by exact hat) (hlw.at hM)) (c := ?_)
 rintro _ e0 ⟨d0, c0, rfl, b0⟩
 have a0 := hM.cl 0 b0
 refine go 10 [] ?_
 refine O.val (v := .bool true) rfl (Ru.infS ⟨_, Tryz.underlying95⟩ rfl) rfl ?_
 refine E2 14 [] (I 0) (.bool false) ?_
 exact ⟨(by rw [qL hat]; rfl), (Mem.none a0)⟩
theorem zX (s : Str) (w : World) (hlw : LW w) :
  aR Tryz.prog 96 [S s] w (λ v w1 => v = .tuple #[I ((eJ s).getD 0), .bool (eJ s).isSome] /\ Mem w w1 [] []) := by
 cases h : Lib.atoi s with
 | none => exact aFt s w hlw h
 | some n => exact aFs s n w hlw h
theorem aIg (s : Str) (ch : UInt8) (w : World) (hs : s.length <= 1048576) :
  aR Tryz.prog 107 [S s, .int .u8 (ch.toNat : Int)] w (λ v w1 => ∃ (A1 : Option Addr) (c1 : Nat), v = .slice A1 (cQ ch s).length c1 /\ Mem w w1 [] [oS A1 c1 (cQ ch s)]) := by
 have hM : Mem w w [] [] := Mem.refl
 refine aR.n1 Tryz.func107 rfl Tryz.results107 Tryz.ntmps107 rfl ?_
 refine Lt 6 [] (([]).map S) (λ D0 i0 w0 k0 => ?_)
 have r0 : ([] : List Str) = ([] : List Str) := t2
 have u0 := k0.reM 0 r0 (f := S)
 refine lp5 12 [] (λ (i : Nat) (f : Nat) (L : List Str) (A2 : Option Addr) (c2 : Nat) => ([(5, Vl A2 L.length c2), (6, Vi ((f : Nat) : Int)), (7, Vi ((i : Nat) : Int))] : List (Nat × SV))) (λ i f L A2 c2 => (f <= i /\ i <= s.length) /\ (L ++ cQ ch (s.drop f) = cQ ch s) /\ (ch ∉ (s.drop f).take (i - f)) /\ (L.length <= i)) (λ i f L A2 c2 => [oS A2 c2 L]) (λ i f L A2 c2 => s.length - i) [0, 1] [0] [] 0 0 (([] : List Str) : List Str) (bl i0) 0 (λ i f L A2 c2 σ I0 hI p0 => ?_) (h0 := ⟨t7, t15, t15, t15⟩)
 obtain ⟨f0, b0, c0, C0⟩ := hI
 have B0 := (p0.cap 0 rfl).1
 refine cd 8 [] (λ c12 => ?_) (λ c12 => ?_)
 have a0 : i < s.length := t3
 refine ov 7 [] (s := Vn .u8 ((s[i]'a0).toNat : Int)) (a := by exact cv (Ru.sindex i a0 Tryz.underlying9 rfl rfl t1 t1) rfl) (b := ?_)
 refine cd 3 [] (λ c19 => ?_) (λ c19 => ?_)
 have hec : s[i]'a0 = ch := (aBg rfl).2 c19
 refine ov 6 [] (a := ksB f i) (b := ?_)
 refine Lt 0 [] (([(s.drop f).take (i - f)]).map S) (λ E0 s0 x0 l0 => ?_)
 refine aM 0 [] 1 (l0.rd 0 rfl) (λ F0 g0 j0 z0 m0 => ?_)
 refine ov 4 [] (a := bL (i + 1)) (b := ?_)
 refine ov 4 [] (a := bL (i + 1)) (b := ?_)
 have v0 := m0.rM 1 ((L ++ [(s.drop f).take (i - f)]) : List Str) (e := t2)
 exact le5 2 [] (i + 1) (i + 1) (L ++ [(s.drop f).take (i - f)]) g0 j0 [1] (h := by exact ⟨t7, (aPe b0 c0 f0.1 a0 hec), t15, t22⟩)
 have hec : s[i]'a0 ≠ ch := λ e => c19 ((aBg rfl).1 e)
 refine ov 3 [] (a := bL (i + 1)) (b := ?_)
 exact le5 2 [] (i + 1) f L A2 c2 [0] (h := by exact ⟨t7, b0, (aHw c0 f0.1 a0 hec), t7⟩)
 refine ov 6 [] (a := ksF f) (b := ?_)
 refine Lt 0 [] (([s.drop f]).map S) (λ G0 t0 y0 n0 => ?_)
 refine aM 0 [] 1 (n0.rd 0 rfl) (λ H0 d0 e0 A0 o0 => ?_)
 refine E1 3 [] (.slice d0 (L ++ [s.drop f]).length e0) ?_
 have hend := spl_end b0 c0 t1
 have q0 := o0.rM 1 (cQ ch s : List Str) (e := hend)
 exact ⟨d0, e0, (by rw [hend]), (q0.pk [1])⟩
theorem lI (s : Str) (w : World) :
  aR Tryz.prog 145 [S s] w (λ v w1 => v = .tuple #[I ((eJ s).getD 0), .bool (eJ s).isSome] /\ Mem w w1 [] []) := by
 have hM : Mem w w [] [] := Mem.refl
 refine aR.n2 Tryz.func145 rfl Tryz.results145 Tryz.ntmps145 rfl ?_
 refine pp 16 [] 9 (λ g9 => ?_) (λ g9 => ?_)
 refine E2 16 [] (I 0) (.bool false) ?_
 exact ⟨(by rw [num_e (by first | (left; exact aP t1) | (right; left; omega) | (right; right; simp_all))]; rfl), (Mem.none hM)⟩
 refine pp 5 [] 14 (λ g14 => ?_) (λ g14 => ?_)
 refine E2 11 [] (I 0) (.bool false) ?_
 exact ⟨(by rw [num_e (by first | (left; exact aP t1) | (right; left; omega) | (right; right; simp_all))]; rfl), (Mem.none hM)⟩
 refine cd 4 [] (λ c17 => ?_) (λ c17 => ?_)
 refine E2 6 [] (I 0) (.bool false) ?_
 exact ⟨(by rw [num_e (by first | (left; exact aP t1) | (right; left; omega) | (right; right; simp_all))]; rfl), (Mem.none hM)⟩
 have hl5 : s.length <= 5 /\ 0 < s.length /\ s ≠ [45] := by refine ⟨t1, t1, by simp_all⟩
 have hdv := sD hl5.1
 refine lp1 7 [] (λ (i : Nat) => ([(4, Vi ((mW (s.take i) : Nat) : Int)), (5, Vi ((i : Nat) : Int))] : List (Nat × SV))) (λ i => (i <= s.length)) (λ i => []) (λ i => s.length - i) [0] [] [] 0 (λ i σ d0 hI j0 => ?_) (hL := by exact (Has.cons (I_congr (by simp [mW])) (Has.cons (I_congr t10) Has.nil))) (h0 := (bI _))
 have k0 := hI
 refine cd 8 [] (λ c21 => ?_) (λ c21 => ?_)
 have a0 : i < s.length := t3
 refine ov 7 [] (s := Vn .u8 ((s[i]'a0).toNat : Int)) (a := by exact cv (Ru.sindex i a0 Tryz.underlying9 rfl rfl t1 t1) rfl) (b := ?_)
 have hub := u8_le (s[i]'a0)
 have hds := aHh a0
 have hdi := sD (s := s.take i) t13
 have hdj := sD (s := s.take (i + 1)) t13
 refine ov 0 [] (a := kcv) (b := ?_)
 refine cp 0 [] (b := lY _ _ _ d0 ) (c := λ l0 e0 => ?_)
 refine cb 1 [] (λ c28 => ?_) (λ c28 => ?_)
 have hdg : 48 <= (s[i]'a0).toNat /\ (s[i]'a0).toNat <= 57 := by simp at c28; omega
 unfold dig at hds
 rw [if_pos hdg] at hds
 refine ov 2 [] (a := aAq (10 * mW (s.take i))) (b := ?_)
 have c0 : i < s.length := t3
 refine ov 2 [] (s := Vn .u8 ((s[i]'c0).toNat : Int)) (a := by exact cv (Ru.sindex i c0 Tryz.underlying9 rfl rfl t1 t1) rfl) (b := ?_)
 refine ov 0 [] (a := kcv) (b := ?_)
 refine ov 0 [] (a := bL ((10 * mW (s.take i)) + (s[i]'c0).toNat)) (b := ?_)
 refine ov 0 [] (a := eV) (b := ?_)
 refine ov 4 [] (a := bL (i + 1)) (b := ?_)
 exact le1 2 [] (i + 1) [] (hL := by exact (Has.cons (I_congr t1) (Has.cons (I_congr t10) Has.nil))) (h := t9)
 have hdg : ¬ (48 <= (s[i]'a0).toNat /\ (s[i]'a0).toNat <= 57) := by simp at c28; omega
 unfold dig at hds
 rw [if_neg hdg] at hds
 refine pp 5 [] 39 (λ g39 => ?_) (λ g39 => ?_)
 refine E2 13 [] (I 0) (.bool false) ?_
 exact ⟨(by rw [aJn a0 (by first | (left; omega) | (right; exact λ e => c44 ((aBg (c := 45) rfl).1 e))) hdg]; rfl), (Mem.none e0)⟩
 have g0 : i < s.length := t3
 refine ov 2 [] (s := Vn .u8 ((s[i]'g0).toNat : Int)) (a := by exact cv (Ru.sindex i g0 Tryz.underlying9 rfl rfl t1 t1) rfl) (b := ?_)
 refine cd 3 [] (λ c44 => ?_) (λ c44 => ?_)
 refine E2 6 [] (I 0) (.bool false) ?_
 exact ⟨(by rw [aJn a0 (by first | (left; omega) | (right; exact λ e => c44 ((aBg (c := 45) rfl).1 e))) hdg]; rfl), (Mem.none e0)⟩
 refine ov 3 [] (a := bL (i + 1)) (b := ?_)
 exact le1 2 [] (i + 1) [] (hL := by exact (Has.cons (I_congr t1) (Has.cons (I_congr t10) Has.nil))) (h := t9)
 have hdz : mW (s.take i) = mW s := by rw [aE t1]
 have f0 : 0 < s.length := t3
 refine ov 5 [] (s := Vn .u8 ((s[0]'f0).toNat : Int)) (a := by exact cv (Ru.sindex 0 f0 Tryz.underlying9 rfl rfl t1 t1) rfl) (b := ?_)
 refine cd 2 [] (λ c47 => ?_) (λ c47 => ?_)
 have hpv := pv_neg t1 ((aBg (c := 45) rfl).2 c47)
 refine ov 2 [] (s := Vi (-((mW (s.take i) : Nat) : Int))) (a := by exact cv (Ru.neg rfl t1) rfl) (b := ?_)
 refine cp 6 [] (b := gK _ d0 (by first | omega | (constructor <;> omega))) (c := λ i0 b0 => ?_)
 refine cd 3 [] (λ c53 => ?_) (λ c53 => ?_)
 refine E2 6 [] (I 0) (.bool false) ?_
 exact ⟨(by rw [aJp (n := pv s) rfl (by simp_all)]; rfl), (Mem.none b0)⟩
 refine E2 8 [] (I (-((mW (s.take i) : Nat) : Int))) (.bool true) ?_
 exact ⟨(by rw [aJo (n := pv s) rfl hl5.1 (by simp_all)]; simp_all), (Mem.none b0)⟩
 have hpv := pv_pos (s := s) t1 (λ e => c47 ((aBg (c := 45) rfl).1 e))
 refine cp 5 [] (b := gK _ d0 (by first | omega | (constructor <;> omega))) (c := λ i0 b0 => ?_)
 refine cd 3 [] (λ c53 => ?_) (λ c53 => ?_)
 refine E2 6 [] (I 0) (.bool false) ?_
 exact ⟨(by rw [aJp (n := pv s) rfl (by simp_all)]; rfl), (Mem.none b0)⟩
 refine E2 8 [] (I ((mW (s.take i) : Nat) : Int)) (.bool true) ?_
 exact ⟨(by rw [aJo (n := pv s) rfl hl5.1 (by simp_all)]; simp_all), (Mem.none b0)⟩
end Go.Proofs.YtemejgglbhjodaaGreatDoor
section
namespace Go.Px
variable {H : Type} {enc : TypeId × Value -> H}
theorem returnsIn_and_shaped {a : Assume} {C : Checked} {os : Os} {f : FuncId} {fn : Func} {s : ChangeSpec} {conds : List PathCond} {apart fresh handsOn again : Bool} {X : World -> Array Value -> Prop}
  (hX : ∀ (w w' : World) (args : Array Value), w.heap = w'.heap -> X w args -> X w' args)
  (own : ownKnob C.prog.godebug = none) (started : os.Started) (noInit : C.prog.inits.idxOf? f = none) (hfn : C.prog.funcs[f]? = some fn)
  (witness : ∃ (w : World) (tape : Tape) (i : Input), w.os = os /\ (w.forCall tape i).Shaped C.prog /\ i.vars = [] /\ Input.okWide C.prog (w.forCall tape i) .any w.heap.size f i /\
   ((s.pre enc C.prog fn conds apart (w.forCall tape i).memory i.args /\ X (w.forCall tape i).memory i.args) /\ sizedMet enc C.prog fn (OpenSpec.ofChange s) apart (w.forCall tape i).memory i.args) /\ a.holds C.prog (lone (Frame.enter C.prog f i.args .normal) [] (w.forCall tape i)))
  (contract : ∀ (W : World) (base : Nat) (args : Array Value) (ds gs : List (DataW H)) (before : List MemPlace),
   (∀ (j : Nat) t v, fn.params[j]? = some t -> args[j]? = some v -> Value.okWide C.prog W .any base t v) ->
   DataW.Whole enc C.prog fn.params.toList s.vars apart W args.toList ds gs before -> X W args -> W.ShapedOpen C.prog ->
   Calls C.prog f args W λ e W' => ∃ v, e = .returned v /\ s.post enc C.prog fn apart fresh handsOn again W args v W') :
  ReturnsInHanded a C os f .any (λ w args => (s.pre enc C.prog fn conds apart w args /\ X w args) /\ sizedMet enc C.prog fn (OpenSpec.ofChange s) apart w args) (s.post enc C.prog fn apart fresh handsOn again) := by
 refine returnsInHanded_of_calls own started noInit witness ?_
 intro w tape i _ hsh _ hok hpre hholds
 obtain ⟨_, _, _, fn', hfn', _, _, _, _, hval⟩ := hok
 have e : fn' = fn := Option.some.inj (hfn'.symm.trans hfn)
 subst e
 obtain ⟨⟨⟨ds, gs, before, hw, hc⟩, hx⟩, hz⟩ := hpre
 have hw' := DataW.Whole.of_heap (w' := w.forCall tape i) (by rfl) hw
 refine (contract (w.forCall tape i) w.heap.size i.args ds gs before hval hw' (hX _ _ _ (by rfl) hx) hsh).mono λ e W' ⟨v, he, hp⟩ => ?_
 subst he
 exact ChangeSpec.post_blind hp
end Go.Px
namespace Go.Proofs.YtemejgglbhjodaaGreatDoor
open Go.Px Go.RowKit
theorem row_es (u : TypeId) (h : Tryz.prog.typeName? 3 u = some ("*" ++ "errors.errorString")) : u = 223 :=
 typeName_ptr_named (by kernel_rfl) (by kernel_rfl) t19 u h
theorem aJj {W : World} (h0 : laidMetH Tryz.prog Rows.fnPageTextRow.laid W) (hsh : W.ShapedOpen Tryz.prog) : LW W := by
 rw [MakeChecks.laidMetH_plain _ _ _ (by kernel_rfl)] at h0
 have h : laidMet Tryz.prog Rows.fnPageTextRow.laid W := h0
 refine ⟨?_, ?_, ?_⟩
 obtain ⟨ps, ⟨g0, t0, cs0, f0, p0, q0, _, _, _, _, ⟨g1, t1, cs1, f1, p1, q1, _, _, _, _, ⟨g, t, cs, fuel, p, q, hg, ht, hvar, hd, _, _⟩, _⟩, _⟩, _⟩ := h
 have hg' : Tryz.prog.globalNamed aDd = some 1 := by kernel_rfl
 obtain rfl := Option.some.inj (hg'.symm.trans (show Tryz.prog.globalNamed aDd = some g from hg))
 have hty : (Tryz.prog.globals[1]?).map (·.type) = some 201 := by kernel_rfl
 obtain rfl := Option.some.inj (hty.symm.trans ht)
 unfold TAB Lib.TabIs
 rw [show W.var? Tryz.prog aDd = some cs from hvar, <- Lib.cells_of_tab (zs := Lib.pow10Tab) Tryz.underlying201 Tryz.underlying180 (by kernel_rfl) (by kernel_rfl) hd]
 exact cell_of_shapedOpen_int (g := 0) (zero := #[.int .i64 0]) (t := 3) hsh (of_decide_eq_true (by kernel_rfl)) (by kernel_rfl) rfl (by kernel_rfl) (by kernel_rfl) Tryz.underlying3
 have h5 := laidMet.tail (laidMet.tail (laidMet.tail (laidMet.tail (laidMet.tail h))))
 have hgE : Tryz.prog.globalNamed "strconv.ErrSyntax" = some 4 := by kernel_rfl
 obtain ⟨a0, s0, hv0, _, _, _⟩ := laid_sentinel h5 hgE (ti := 95) (by kernel_rfl) Tryz.underlying95 row_es Tryz.underlying223 Tryz.underlying225 rfl rfl Tryz.underlying9 (by kernel_rfl) (by kernel_rfl)
 have h1 := World.var?_cell hgE hv0 0
 exact ⟨223, .pointer (some a0), by simpa using h1⟩
end Go.Proofs.YtemejgglbhjodaaGreatDoor
end
