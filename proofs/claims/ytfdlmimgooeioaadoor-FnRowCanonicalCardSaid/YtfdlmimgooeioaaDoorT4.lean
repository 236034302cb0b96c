/- Own layer: part of this seat (T4). Plain theorems; no conditions. -/
import Derived.Test.YtfdlmimgooeioaaDoorT3
import Derived.Test.YtfdlmimgooeioaaDoorT2
import Derived.Test.YtfdlmimgooeioaaDoorSI
set_option linter.unusedVariables false
set_option linter.unusedSimpArgs false
/-! this program's contracts on texts cut and numbers read -/
namespace Go.Px
open Go.RowKit
section
variable {P : Program} {σ : Sig} {w : World} {dst : Option Tmp} {T U T' e : TypeId} {pos : String} {after : Array Edge} {g : Option (Nat × Bool)} {x y : Operand}
theorem mem_of_below {w w1 : World} (h : Below w.heap.size w w1) : Mem w w1 [] [] := ⟨h.os, h.tape, h.output, h.size, fun k hk _ => h.block k hk, by simp, by simp, by simp⟩
theorem cell_at {w0 w : World} {L : List FE} {k i : Nat} {v : Value} (h : w0.cell? ⟨k, i, none⟩ = some v) (hM : Mem0 w0 w [] L) : w.cell? ⟨k, i, none⟩ = some v := by
  have hlt : k < w0.heap.size := by
    rcases Nat.lt_or_ge k w0.heap.size with h1 | h1
    · exact h1
    · unfold World.cell? at h; rw [Array.getElem?_eq_none h1] at h; cases h
  exact (World.cell?_of_block (hM.block k hlt (by simp))).trans h
theorem Ru.infN {k : Nat} (ht : ∃ m, P.underlying T = some (.interface m)) (hx : σ k = .nilIface) : Ru P σ ⟨dst, .binOp .neq T (.tmp k) (.const .nilIface) U, T', pos, after, g⟩ w (.bool false) := by
  obtain ⟨m, ht⟩ := ht
  have h : ∀ d : Nat, (Op.equalIn (d + 1) T .nilIface .nilIface).run P w = .ok true w := fun d => by simp [Op.equalIn, run_underlying ht]
  simp [Ru, execOp, ev, hx, eqGuard, binOp, Op.equal, Op.maxDepth, h 9999]
theorem Ru.infS {k : Nat} {t : TypeId} {p : Value} (ht : ∃ m, P.underlying T = some (.interface m)) (hx : σ k = .iface t p) : Ru P σ ⟨dst, .binOp .neq T (.tmp k) (.const .nilIface) U, T', pos, after, g⟩ w (.bool true) := by
  obtain ⟨m, ht⟩ := ht
  have h : ∀ d : Nat, (Op.equalIn (d + 1) T (.iface t p) .nilIface).run P w = .ok false w := fun d => by simp [Op.equalIn, run_underlying ht]
  simp [Ru, execOp, ev, hx, eqGuard, binOp, Op.equal, Op.maxDepth, h 9999]
end
theorem S_data (l : Str) : (⟨l.toArray⟩ : ByteArray).data.toList = l := by simp
theorem split_vals {c : UInt8} {s : Str} : (Lib.splitB ⟨#[c]⟩ 0 (Lib.countB ⟨s.toArray⟩ ⟨#[c]⟩) ⟨s.toArray⟩).map Value.string = (splS c s).map S := by
  have h := Lib.splitB_data ⟨#[c]⟩ 0 (Lib.countB ⟨s.toArray⟩ ⟨#[c]⟩) ⟨s.toArray⟩
  have h2 : Lib.splitK [c] 0 (Lib.count s [c]) s = splS c s := splK_eq s.length s (Nat.le_refl _)
  have h3 : (Lib.splitB ⟨#[c]⟩ 0 (Lib.countB ⟨s.toArray⟩ ⟨#[c]⟩) ⟨s.toArray⟩).map (·.data.toList) = splS c s := by
    rw [h]
    have e : Lib.countB ⟨s.toArray⟩ ⟨#[c]⟩ = Lib.count s [c] := by
      show Lib.count _ _ = _
      simp
    rw [e]; simpa using h2
  rw [← h3, List.map_map]
  apply List.map_congr_left
  intro b _
  show Value.string b = S b.data.toList
  simp [S]
end Go.Px
namespace Go.Proofs.YtfdlmimgooeioaaDoor
open Go.Px Go.RowKit
/-- what of the library's variables the readers ask: the table; a number; an error that is there -/
structure LW (w : World) : Prop where
  tab : TAB w
  max : ∃ m, w.cell? ⟨1, 0, none⟩ = some (.int .i64 m)
  err : ∃ t p, w.cell? ⟨4, 0, none⟩ = some (.iface t p)
theorem LW.at {w0 w : World} {L : List FE} (h : LW w0) (hM : Mem0 w0 w [] L) : LW w :=
  ⟨tab_at h.tab hM, by obtain ⟨m, hm⟩ := h.max; exact ⟨m, cell_at hm hM⟩, by obtain ⟨t, p, hp⟩ := h.err; exact ⟨t, p, cell_at hp hM⟩⟩
theorem Cut_fn (s : Str) (w : World) (hlw : LW w) (hs : s.length ≤ 4000000000) :
    Does Tryd.prog 97 [S (s), S ([58])] w (fun v w1 => v = .tuple #[S ((Lib.cut s [58]).1), S ((Lib.cut s [58]).2.1), .bool ((Lib.cut s [58]).2.2)] ∧ Mem w w1 [] []) := by
  obtain ⟨m, hm⟩ := hlw.max
  refine ⟨(Tryd.strings_Cut ⟨s.toArray⟩ ⟨#[58]⟩ m w (by rw [S_size]; omega) hm).mono fun e w' ⟨he, k, hw⟩ => ⟨_, he, ?_, ?_⟩⟩
  · simp only [S_data]; rfl
  · rw [hw]; exact ⟨rfl, rfl, rfl, Nat.le_refl _, fun _ _ _ => rfl, by simp, by simp, by simp⟩
theorem Split_fn (s : Str) (w : World) (hlw : LW w) (hs : s.length ≤ 4000000000) :
    Does Tryd.prog 64 [S (s), S ([44])] w (fun v w1 => ∃ (A1 : Option Addr) (c1 : Nat), v = .slice (A1) ((splS 44 s).length) (c1) ∧ Mem w w1 [] [[⟨.slice (A1) ((splS 44 s).length) (c1), 9, 1, ((splS 44 s).length), (splS 44 s).map S⟩]]) := by
  obtain ⟨m, hm⟩ := hlw.max
  have hv := split_vals (c := 44) (s := s)
  have hl := congrArg List.length hv
  simp only [List.length_map] at hl
  refine ⟨(Tryd.strings_Split ⟨s.toArray⟩ ⟨#[44]⟩ m w (by rw [S_size]; omega) hm (by decide)).mono fun e w' ⟨he, hw⟩ => ?_⟩
  have hcount : Lib.countB ⟨s.toArray⟩ ⟨#[44]⟩ + 1 = (splS 44 s).length := by
    rw [← hl]
    exact (Lib.splitB_all ⟨#[44]⟩ (by decide) 0 _ _ rfl).symm
  rw [hcount] at he
  rw [hv] at hw
  refine ⟨_, he, some ⟨w.heap.size, 0, none⟩, (splS 44 s).length, rfl, ?_⟩
  have hB : Blk w' w.heap.size 9 ((splS 44 s).map S) := by rw [hw]; exact heap_alloc_new w _
  have hb := Lib.countB_le ⟨#[44]⟩ (by decide) s.length ⟨s.toArray⟩ (by rw [S_size]; exact Nat.le_refl _)
  rw [S_size] at hb
  exact Mem.cons Mem.refl (by rw [hw]; exact kalloc w _) (blk_own' (m := (splS 44 s).length) (sz := 1) hB (by simp) (by simp only [maxLen]; omega)) (fun k hk => by simp [FE.blk, Value.ownBlock] at hk; omega)
theorem AtoiA_fn (s : Str) (n : Int) (w : World) (hl : s.length ≤ 18) (hat : Lib.atoi s = some n) :
    Does Tryd.prog 120 [S (s)] w (fun v w1 => v = .tuple #[I (n), .nilIface] ∧ Mem w w1 [] []) := by
  refine ⟨(Tryd.strconv_Atoi ⟨s.toArray⟩ n (by rw [S_size]; exact hl) (by rw [S_data]; exact hat) w).mono fun e w' ⟨he, t, hw⟩ => ⟨_, he, rfl, ?_⟩⟩
  rw [hw]; exact mem_of_below (Lib.bytesWorld_below _ _ _)
theorem AtoiB_fn (s : Str) (w : World) (hl : s.length ≤ 18) (hat : Lib.atoi s = none) (hlw : LW w) :
    Does Tryd.prog 120 [S (s)] w (fun v w1 => ∃ (tE : TypeId) (pE : Value), v = .tuple #[I (0), .iface tE pE] ∧ Mem w w1 [] []) := by
  obtain ⟨t, p, hp⟩ := hlw.err
  refine ⟨(Tryd.strconv_Atoi_err ⟨s.toArray⟩ (by rw [S_size]; exact hl) (by rw [S_data]; exact hat) (.iface t p) w hp (.inr ⟨t, p, rfl⟩)).mono fun e w' h => ?_⟩
  obtain ⟨N, he, hN, _, hb⟩ := h
  exact ⟨_, he, _, _, rfl, mem_of_below hb⟩
end Go.Proofs.YtfdlmimgooeioaaDoor
