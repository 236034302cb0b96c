/- Own layer: memory: blocks, slices, loads, stores, append. Plain theorems; no conditions. -/
import Derived.Test.YtfdlmimgooeioaaDoorPx1
import Derived.Laws.CopyOwn
set_option linter.unusedVariables false
set_option linter.unusedSimpArgs false
namespace Go.Px
open Go.RowKit

/-! ### Memory -/
/-- block g is the row l of elements of type t, all of it writable -/
def Blk (w : World) (g : Nat) (t : TypeId) (l : List Value) : Prop := w.heap[g]? = some (.cells l.toArray t (0, 0))
def ofs (A : Option Addr) (k : Nat) : Option Addr := A.map (·.add k)
/-- cell k behind the address A holds v -/
def Ld (w : World) (A : Option Addr) (k : Nat) (v : Value) : Prop := ∃ a, A = some a ∧ w.cell? (a.add k) = some v
/-- behind the address A lie the cells l -/
def Rd (w : World) (A : Option Addr) (l : List Value) : Prop := l = [] ∨ ∃ b o, A = some ⟨b, o, none⟩ ∧ b < w.heap.size ∧ ∀ j u, l[j]? = some u → w.cell? ⟨b, o + j, none⟩ = some u
/-- the address of block g -/
abbrev bl (g : Nat) : Option Addr := some ⟨g, 0, none⟩
/-- a slice's address lies in a block from B on -/
def Fr (B : Nat) (A : Option Addr) : Prop := ∀ a, A = some a → B ≤ a.block

theorem add_add (a : Addr) (i j : Nat) : (a.add i).add j = a.add (i + j) := by
  unfold Addr.add
  by_cases hi : i = 0 <;> by_cases hj : j = 0 <;> simp [hi, hj, Nat.add_assoc]
theorem add_lit (b o k : Nat) : (⟨b, o, none⟩ : Addr).add k = ⟨b, o + k, none⟩ := by unfold Addr.add; split <;> simp_all
theorem add_block (a : Addr) (k : Nat) : (a.add k).block = a.block := by unfold Addr.add; split <;> rfl
theorem ofs_ofs (A : Option Addr) (i j : Nat) : ofs (ofs A i) j = ofs A (i + j) := by cases A <;> simp [ofs, add_add]

section
variable {w w' w'' : World} {A : Option Addr} {l : List Value} {t : TypeId} {k : Nat} {row : Option Nat}

theorem Blk.lt {g : Nat} (h : Blk w g t l) : g < w.heap.size := by
  rcases Nat.lt_or_ge g w.heap.size with hlt | hge
  · exact hlt
  · unfold Blk at h; rw [Array.getElem?_eq_none hge] at h; cases h
theorem Blk.cell {g : Nat} (h : Blk w g t l) (i : Nat) : w.cell? ⟨g, i, none⟩ = l[i]? := by
  rw [cell_of_row w g i _ t (0, 0) h]; simp
theorem Blk.kp {g : Nat} (h : Blk w g t l) (hk : w.grownBy w' row) (hg : some g ≠ row) : Blk w' g t l := (hk.block g h.lt hg).trans h
theorem Blk.ext {g : Nat} (h : Blk w g t l) (hk : w.grownBy w' none) : Blk w' g t l := h.kp hk (by simp)
theorem Blk.ld {g : Nat} {v : Value} (h : Blk w g t l) (hv : l[k]? = some v) : Ld w (bl g) k v := ⟨_, rfl, by rw [add_lit, Nat.zero_add, h.cell, hv]⟩
theorem Blk.rd {g : Nat} (h : Blk w g t l) : Rd w (bl g) l := .inr ⟨g, 0, rfl, h.lt, fun j u hu => by rw [Nat.zero_add, h.cell, hu]⟩

theorem Rd.nil : Rd w A [] := .inl rfl
theorem Rd.kp (h : Rd w A l) (hk : w.grownBy w' row) (hg : ∀ a, A = some a → some a.block ≠ row) : Rd w' A l := by
  rcases h with h | ⟨b, o, hA, hb, hc⟩
  · exact .inl h
  · exact .inr ⟨b, o, hA, Nat.lt_of_lt_of_le hb hk.size, fun j u hu => (World.cell?_of_block (hk.block b hb (hg _ hA))).trans (hc j u hu)⟩
theorem Rd.ext (h : Rd w A l) (hk : w.grownBy w' none) : Rd w' A l := h.kp hk (fun _ _ => by simp)
/-- nothing but blocks from the birth world's on was written -/
theorem Rd.own {g : Nat} (h0 : Rd w A l) (h : Rd w' A l) (hk : w'.grownBy w'' (some g)) (hg : w.heap.size ≤ g) : Rd w'' A l := by
  rcases h0 with h0 | ⟨b, o, hA, hb, _⟩
  · exact .inl h0
  · exact h.kp hk (fun a ha he => by rw [hA] at ha; cases ha; simp at he; omega)
theorem Rd.ld {v : Value} (h : Rd w A l) (hv : l[k]? = some v) : Ld w A k v := by
  rcases h with rfl | ⟨b, o, hA, _, hc⟩
  · simp at hv
  · exact ⟨_, hA, by rw [add_lit]; exact hc k v hv⟩
theorem Rd.some {v : Value} (h : Rd w A l) (hv : l[k]? = some v) : A.isSome = true := by
  obtain ⟨a, ha, _⟩ := h.ld hv; rw [ha]; rfl
theorem Rd.drop (h : Rd w A l) (m : Nat) (hm : m < l.length) : Rd w (ofs A m) (l.drop m) := by
  rcases h with rfl | ⟨b, o, hA, hb, hc⟩
  · simp at hm
  · exact .inr ⟨b, o + m, by rw [hA]; simp [ofs, add_lit], hb, fun j u hu => by rw [Nat.add_assoc]; exact hc _ u (by rw [← hu, List.getElem?_drop])⟩
theorem Rd.take (h : Rd w A l) (m : Nat) : Rd w A (l.take m) := by
  rcases h with rfl | ⟨b, o, hA, hb, hc⟩
  · exact .inl (by simp)
  · exact .inr ⟨b, o, hA, hb, fun j u hu => hc j u (by
      rw [List.getElem?_take] at hu
      split at hu
      · exact hu
      · cases hu)⟩

/-- tracking from the world of the entry -/
theorem krefl (w : World) (row : Option Nat) : w.grownBy w row := ⟨rfl, rfl, rfl, Nat.le_refl _, fun _ _ _ => rfl⟩
theorem kstep {r : Option Nat} (h : w.grownBy w' r) (h' : w'.grownBy w'' row) (hr : ∀ k, row = some k → w.heap.size ≤ k ∨ r = some k) : w.grownBy w'' r :=
  ⟨h'.os.trans h.os, h'.tape.trans h.tape, h'.output.trans h.output, Nat.le_trans h.size h'.size, fun k hk hne =>
    (h'.block k (Nat.lt_of_lt_of_le hk h.size) (fun e => by rcases hr k e.symm with h1 | h1; · omega
                                                            · exact hne h1.symm)).trans (h.block k hk hne)⟩
theorem kext {r : Option Nat} (h : w.grownBy w' r) (h' : w'.grownBy w'' none) : w.grownBy w'' r := kstep h h' (by simp)
theorem kown {r : Option Nat} {g : Nat} (h : w.grownBy w' r) (h' : w'.grownBy w'' (some g)) (hg : w.heap.size ≤ g) : w.grownBy w'' r := kstep h h' (by rintro k ⟨⟩; exact .inl hg)
theorem ksame {g : Nat} (h : w.grownBy w' (some g)) (h' : w'.grownBy w'' (some g)) : w.grownBy w'' (some g) := kstep h h' (by rintro k ⟨⟩; exact .inr rfl)
theorem kweak {r : Option Nat} (h : w.grownBy w' none) : w.grownBy w' r := ⟨h.os, h.tape, h.output, h.size, fun k hk _ => h.block k hk (by simp)⟩
theorem kdrawn (w : World) : w.grownBy { w with drawn := w.drawn + 1 } none := ⟨rfl, rfl, rfl, Nat.le_refl _, fun _ _ _ => rfl⟩
theorem kalloc (w : World) (o : Obj) : w.grownBy (w.alloc o) none := World.grownBy_alloc w o none
end

/-! ### Types -/
def isAggD : TypeDesc → Bool
  | .struct _ => true
  | .array _ _ => true
  | _ => false
/-- element type e: its zero's cells, its size in bytes, whether it is a struct or an array -/
structure ElT (P : Program) (e : TypeId) (zs : List Value) (bytes : Nat) (agg : Bool) : Prop where
  info : ∃ i z, P.info? e = some i ∧ i.zero = some z ∧ z.cells = zs.toArray ∧ i.size = zs.length ∧ i.bytes = bytes
  und : ∃ d, P.underlying e = some d ∧ isAggD d = agg
theorem ElT.of {P : Program} {e : TypeId} {zs : List Value} {bytes : Nat} {agg : Bool} {z : Value} (h1 : (P.info? e).map (fun i => (i.zero, i.size, i.bytes)) = some (some z, zs.length, bytes)) (hz : z.cells = zs.toArray)
    (h2 : (P.underlying e).map isAggD = some agg) : ElT P e zs bytes agg := by
  refine ⟨?_, ?_⟩
  · cases hi : P.info? e with
    | none => rw [hi] at h1; cases h1
    | some i =>
      rw [hi] at h1
      simp only [Option.map_some, Option.some.injEq, Prod.mk.injEq] at h1
      exact ⟨i, z, rfl, h1.1, hz, h1.2.1, h1.2.2⟩
  · cases hd : P.underlying e with
    | none => rw [hd] at h2; cases h2
    | some d => rw [hd] at h2; exact ⟨d, rfl, by simpa using h2⟩
/-- field f of the struct T lies at cell off -/
def FlT (P : Program) (T : TypeId) (f off : Nat) : Prop := ∃ fs fd, P.underlying T = some (.struct fs) ∧ fs[f]? = some fd ∧ fd.offset = off ∧ ∃ i, P.info? fd.type = some i ∧ i.size ≠ 0
def flq (P : Program) (T : TypeId) (f : Nat) : Option (Nat × Bool) :=
  match P.underlying T with
  | some (.struct fs) => match fs[f]? with
    | some fd => match P.info? fd.type with
      | some i => some (fd.offset, i.size == 0)
      | none => none
    | none => none
  | _ => none
theorem FlT.of {P : Program} {T : TypeId} {f off : Nat} (h : flq P T f = some (off, false)) : FlT P T f off := by
  unfold flq at h
  split at h
  · rename_i fs hu
    split at h
    · rename_i fd hf
      split at h
      · rename_i i hi
        simp only [Option.some.injEq, Prod.mk.injEq] at h
        exact ⟨fs, fd, hu, hf, h.1, i, hi, by simpa using h.2⟩
      · cases h
    · cases h
  · cases h

theorem I_congr {a b : Int} (h : a = b) : I a = I b := by rw [h]
theorem S_congr {a b : Str} (h : a = b) : S a = S b := by rw [h]
theorem Has.nil {σ : Sig} : Has σ [] := trivial
theorem Has.cons {σ : Sig} {d : Nat} {v : Value} {l : List (Nat × Value)} (h : σ d = v) (t : Has σ l) : Has σ ((d, v) :: l) := ⟨h, t⟩
theorem loopEnd {ι : Type} {L : ι → List (Nat × Value)} {I : ι → World → Prop} {μ : ι → Nat} {m : Nat} {Q : Post} {σ : Sig} {w : World} (x : ι) (hm : μ x < m) (hL : Has σ (L x)) (hI : I x w) : loopQ L I μ m Q .normal σ w := ⟨x, hm, hL, hI⟩
theorem cutEnd {ι : Type} {L : ι → List (Nat × Value)} {I : ι → World → Prop} {Q : Post} {σ : Sig} {w : World} (x : ι) (hL : Has σ (L x)) (hI : I x w) : thenQ (fun σ w => ∃ i, Has σ (L i) ∧ I i w) Q .normal σ w := ⟨x, hL, hI⟩
theorem wrap_u8 (n : Int) (h : 0 ≤ n ∧ n ≤ 255) : IntKind.i64.wrap n = n := by rw [IntKind.wrap_i64]; omega
theorem u8_le (b : UInt8) : 0 ≤ (b.toNat : Int) ∧ (b.toNat : Int) ≤ 255 := by have := b.toNat_lt; omega

section
variable {P : Program} {σ : Sig} {w : World} {dst : Option Tmp} {T U T' e : TypeId} {pos : String} {after : Array Edge} {g : Option (Nat × Bool)} {x y z : Operand}
variable {A : Option Addr} {zs : List Value} {bytes : Nat} {agg : Bool}

theorem run_size {w : World} (h : ElT P e zs bytes agg) : (sizeOf e).run P w = .ok zs.length w := by
  obtain ⟨i, z, hi, _, _, hs, _⟩ := h.info
  simp [sizeOf, typeInfo, hi, hs]
theorem run_agg {w : World} (h : ElT P e zs bytes agg) : (isAgg e).run P w = .ok agg w := by
  obtain ⟨d, hd, ha⟩ := h.und
  unfold isAgg
  rw [Sem.run_bind, run_underlying hd w]
  cases d <;> simp_all [isAggD] <;> rfl

theorem Ru.nilc (hx : ev σ x = .pointer A) (hA : A.isSome = true) : Ru P σ ⟨dst, .nilCheck x, T, pos, after, g⟩ w (.pointer A) := by
  cases A with
  | none => cases hA
  | some a => simp [Ru, execOp, hx]

theorem Ru.fieldA {f off k : Nat} (hf : FlT P T f off) (hx : ev σ x = .pointer (ofs A k)) (hA : A.isSome = true) : Ru P σ ⟨dst, .fieldAddr T x f, T', pos, after, g⟩ w (.pointer (ofs A (k + off))) := by
  obtain ⟨fs, fd, hu, hfd, ho, i, hi, hn⟩ := hf
  cases A with
  | none => cases hA
  | some a =>
    subst ho
    simp [Ru, execOp, hx, ofs, Instr.fieldAt, run_underlying hu, hfd, Instr.sureAddr, fieldPlace, sizeOf, typeInfo, hi, hn, add_add]

theorem Ru.indexA {k : IntKind} {i : Int} {j n c : Nat} (ht : P.underlying T = some (.slice e)) (he : ElT P e zs bytes agg) (hx : ev σ x = .slice A n c) (hy : ev σ y = .int k i) (hA : A.isSome = true)
    (hi : i.toNat = j) (h0 : 0 ≤ i ∧ i < n) : Ru P σ ⟨dst, .indexAddr T x y, T', pos, after, g⟩ w (.pointer (ofs A (j * zs.length))) := by
  cases A with
  | none => cases hA
  | some a =>
    subst hi
    simp [Ru, execOp, hx, hy, Instr.indexAt, asIntOf, run_underlying ht, h0.1, h0.2, run_size he, ofs]

/-- one cell is loaded -/
theorem Ru.load1 {k : Nat} {v : Value} (he : ElT P T zs bytes false) (hx : ev σ x = .pointer (ofs A k)) (hl : Ld w A k v) : Ru P σ ⟨dst, .load T x, T', pos, after, g⟩ w v := by
  obtain ⟨a, rfl, hc⟩ := hl
  simp [Ru, execOp, hx, ofs, Instr.loadAt, Instr.sureAddr, loadVar, run_agg he, hc]
/-- a struct is loaded -/
theorem Ru.loadN {k : Nat} {vs : List Value} (he : ElT P T zs bytes true) (hx : ev σ x = .pointer (ofs A k)) (hz : vs.length = zs.length) (hA : A.isSome = true) (hl : ∀ j u, vs[j]? = some u → Ld w A (k + j) u) : Ru P σ ⟨dst, .load T x, T', pos, after, g⟩ w (.agg vs.toArray) := by
  cases A with
  | none => cases hA
  | some a =>
    have h := run_loadCells_list (P := P) w (a.add k) vs (fun j u hu => by
      obtain ⟨a', ha, hc⟩ := hl j u hu
      cases ha
      rw [add_add]; exact hc)
    simp [Ru, execOp, hx, ofs, Instr.loadAt, Instr.sureAddr, loadVar, run_agg he, run_size he, ← hz, h]
theorem Ru.field1 {k : Nat} {f : Nat} {cs : Array Value} {v : Value} {fs : Array Field} {fd : Field} (hu : P.underlying T = some (.struct fs)) (hf : fs[f]? = some fd) (he : ElT P fd.type zs bytes false) (ho : fd.offset = k) (hx : ev σ x = .agg cs) (hv : cs[k]? = some v) :
    Ru P σ ⟨dst, .field T x f, T', pos, after, g⟩ w v := by
  subst ho
  simp [Ru, execOp, hx, Instr.field, run_underlying hu, hf, asAgg, part, run_agg he, hv]

/-! slices of strings and of slices -/
theorem Ru.sslice {a : Str} {lo hi : Int} {l h : Nat} (ht : P.underlying T = some .string) (hx : ev σ x = S a) (hlo : ev σ y = I lo) (hhi : ev σ z = I hi) (hl : lo.toNat = l) (hh : hi.toNat = h) (hb : 0 ≤ lo ∧ lo ≤ hi ∧ hi ≤ a.length) :
    Ru P σ ⟨dst, .slice T x (some y) (some z) none, T', pos, after, g⟩ w (S ((a.drop l).take (h - l))) := by
  subst hl hh
  have h1 : 0 ≤ hi := by omega
  have h2 : lo ≤ max hi 0 := by omega
  have hq : (IntKind.i64 = IntKind.i64) := rfl
  simp [Ru, execOp, hx, hlo, hhi, S, Instr.sliceAt, run_underlying ht, Instr.slice, Instr.sliceBounds, Instr.sliceBound, asIntOf, h1, h2, hb.1, hb.2.2]
  apply ByteArray.ext
  simp [ByteArray.data_extract, List.extract_eq_take_drop]
theorem Ru.ssliceTo {a : Str} {hi : Int} {h : Nat} (ht : P.underlying T = some .string) (hx : ev σ x = S a) (hhi : ev σ z = I hi) (hh : hi.toNat = h) (hb : 0 ≤ hi ∧ hi ≤ a.length) :
    Ru P σ ⟨dst, .slice T x none (some z) none, T', pos, after, g⟩ w (S (a.take h)) := by
  subst hh
  simp [Ru, execOp, hx, hhi, S, Instr.sliceAt, run_underlying ht, Instr.slice, Instr.sliceBounds, Instr.sliceBound, asIntOf, hb.1, hb.2]
  apply ByteArray.ext
  simp [ByteArray.data_extract, List.extract_eq_take_drop]
theorem Ru.ssliceFrom {a : Str} {lo : Int} {l : Nat} (ht : P.underlying T = some .string) (hx : ev σ x = S a) (hlo : ev σ y = I lo) (hl : lo.toNat = l) (hb : 0 ≤ lo ∧ lo ≤ a.length) :
    Ru P σ ⟨dst, .slice T x (some y) none none, T', pos, after, g⟩ w (S (a.drop l)) := by
  subst hl
  simp [Ru, execOp, hx, hlo, S, Instr.sliceAt, run_underlying ht, Instr.slice, Instr.sliceBounds, Instr.sliceBound, asIntOf, hb.1, hb.2]
  apply ByteArray.ext
  simp [ByteArray.data_extract, List.extract_eq_take_drop]
  rw [List.take_of_length_le (by simp)]

theorem Ru.lslice {n c : Nat} {lo hi : Int} {l h : Nat} (ht : P.underlying T = some (.slice e)) (he : ElT P e zs bytes agg) (hx : ev σ x = .slice A n c) (hlo : ev σ y = I lo) (hhi : ev σ z = I hi) (hl : lo.toNat = l) (hh : hi.toNat = h) (hb : 0 ≤ lo ∧ lo ≤ hi ∧ hi ≤ c) :
    Ru P σ ⟨dst, .slice T x (some y) (some z) none, T', pos, after, g⟩ w (.slice (if c = l then A else ofs A (l * zs.length)) (h - l) (c - l)) := by
  subst hl hh
  have h1 : 0 ≤ hi := by omega
  have h2 : lo ≤ max hi 0 := by omega
  simp [Ru, execOp, hx, hlo, hhi, Instr.sliceAt, run_underlying ht, Instr.slice, Instr.sliceBounds, Instr.sliceBound, asIntOf, h1, h2, hb.1, hb.2.2, run_size he]
  rfl
theorem Ru.lsliceTo {n c : Nat} {hi : Int} {h : Nat} (ht : P.underlying T = some (.slice e)) (he : ElT P e zs bytes agg) (hx : ev σ x = .slice A n c) (hhi : ev σ z = I hi) (hh : hi.toNat = h) (hb : 0 ≤ hi ∧ hi ≤ c) :
    Ru P σ ⟨dst, .slice T x none (some z) none, T', pos, after, g⟩ w (.slice A h c) := by
  subst hh
  simp [Ru, execOp, hx, hhi, Instr.sliceAt, run_underlying ht, Instr.slice, Instr.sliceBounds, Instr.sliceBound, asIntOf, hb.1, hb.2, run_size he]
  intro _
  cases A <;> simp [Addr.add]
theorem Ru.lsliceFrom {n c : Nat} {lo : Int} {l : Nat} (ht : P.underlying T = some (.slice e)) (he : ElT P e zs bytes agg) (hx : ev σ x = .slice A n c) (hlo : ev σ y = I lo) (hl : lo.toNat = l) (hb : 0 ≤ lo ∧ lo ≤ n) :
    Ru P σ ⟨dst, .slice T x (some y) none none, T', pos, after, g⟩ w (.slice (if c = l then A else ofs A (l * zs.length)) (n - l) (c - l)) := by
  subst hl
  simp [Ru, execOp, hx, hlo, Instr.sliceAt, run_underlying ht, Instr.slice, Instr.sliceBounds, Instr.sliceBound, asIntOf, hb.1, hb.2, run_size he]
  rfl

/-! structs by value -/
def evp (σ : Sig) : List (Nat × Operand) → List (Nat × Value)
  | [] => []
  | p :: l => (p.1, ev σ p.2) :: evp σ l
theorem evp_eq : ∀ l : List (Nat × Operand), evp σ l = l.map fun p => (p.1, ev σ p.2)
  | [] => rfl
  | _ :: l => by simp [evp, evp_eq l]
def sets (zs : List Value) : List (Nat × Value) → List Value
  | [] => zs
  | p :: l => sets (zs.set p.1 p.2) l
def one (v : Value) : Bool := v.oneCell'
/-- T is a struct of fields of one cell each; zs: its zero -/
def OneF (P : Program) (T : TypeId) (zs : List Value) : Prop :=
  ∃ it z fs, P.info? T = some it ∧ it.zero = some z ∧ z.cells = zs.toArray ∧ P.underlying T = some (.struct fs) ∧ fs.toList.mapM (fun f => (P.info? f.type).map fun i => (f.offset, i.size)) = some ((List.range zs.length).map fun k => (k, 1))
def oneq (P : Program) (T : TypeId) : Option (List (Nat × Nat)) :=
  match P.underlying T with
  | some (.struct fs) => fs.toList.mapM (fun f => (P.info? f.type).map fun i => (f.offset, i.size))
  | _ => none
theorem OneF.of {P : Program} {T : TypeId} {zs : List Value} {z : Value} (h1 : (P.info? T).map (·.zero) = some (some z)) (hz : z.cells = zs.toArray) (h2 : oneq P T = some ((List.range zs.length).map fun k => (k, 1))) : OneF P T zs := by
  unfold oneq at h2
  cases hi : P.info? T with
  | none => rw [hi] at h1; cases h1
  | some it =>
    rw [hi] at h1
    split at h2
    · rename_i fs hu
      exact ⟨it, z, fs, hi, by simpa using h1, hz, hu, h2⟩
    · cases h2
theorem fill_sets : ∀ (ps : List (Nat × Value)) (zs : List Value), (∀ p ∈ ps, p.1 < zs.length ∧ one p.2 = true) →
    Instr.fill (((List.range zs.length).map fun k => (k, 1)).toArray[·]?) zs.toArray ps = some (sets zs ps).toArray
  | [], zs, _ => rfl
  | (i, v) :: ps, zs, h => by
    have h0 := h (i, v) (by simp)
    have hv : v.cells = #[v] := by
      cases v <;> first | rfl | exact absurd h0.2 (by simp [one, Value.oneCell'])
    have hl : i < zs.length := h0.1
    have ih := fill_sets ps (zs.set i v) (fun p hp => by have := h p (by simp [hp]); simpa using this)
    have hle : ¬ (i + 1 > zs.length) := by omega
    simp only [Instr.fill, hv]
    simp only [List.getElem?_toArray, List.getElem?_map, List.getElem?_range hl, Option.map_some]
    simp only [List.length_set] at ih
    simp [hle, sets]
    simpa using ih
theorem Ru.build {parts : List (Nat × Operand)} {ps : List (Nat × Value)} {cs : List Value} (hT : OneF P T zs) (hp : evp σ parts = ps) (ho : (ps.all fun p => Nat.blt p.1 zs.length && one p.2) = true) (hc : sets zs ps = cs) : Ru P σ ⟨dst, .build T parts.toArray, T', pos, after, g⟩ w (.agg cs.toArray) := by
  subst hp hc
  obtain ⟨it, z, fs, hi, hz, hzc, hu, hm⟩ := hT
  have hb : P.built T (evp σ parts) = some (sets zs (evp σ parts)).toArray := by
    unfold Program.built
    simp only [hi, hu, hz, hm, hzc]
    refine fill_sets _ _ fun p hp => ?_
    have := (List.all_eq_true.1 ho) p hp
    simpa [Nat.blt_eq] using this
  have := run_build (P := P) w T ((evp σ parts).toArray) _ (by simpa using hb)
  rw [evp_eq] at this
  simp only [Ru, execOp, List.map_toArray]
  simp [this, evp_eq]

/-! ### New blocks -/
variable {n : Nat} {Q : Post} {ops rest : List Oper}
/-- a variable of its own for a value -/
theorem O.box {d : Nat} {vs : List Value} {v : Value} (hg : gok ops σ g = true) (hx : ev σ x = v) (hv : v.cells = vs.toArray) (hd : Nat.blt d n = true)
    (h : ∀ w' b, b = w.heap.size → w.grownBy w' none → Blk w' b T vs → O P n ops rest Q (upd σ d (.pointer (ofs (bl b) 0))) w') : O P n ops (⟨some d, .box T x, T', pos, after, g⟩ :: rest) Q σ w := by
  refine O.valW hg (v := .pointer (ofs (bl w.heap.size) 0)) (w' := w.alloc (.cells vs.toArray T)) ?_ hd (h _ _ rfl (kalloc _ _) (heap_alloc_new w _))
  simp [Rw, execOp, hx, Instr.box, newVar, newRow, hv, ofs, Addr.add]
theorem O.alloc {d : Nat} (hg : gok ops σ g = true) (hd : Nat.blt d n = true) (he : ElT P T zs bytes agg)
    (h : ∀ w' b, b = w.heap.size → w.grownBy w' none → Blk w' b T zs → O P n ops rest Q (upd σ d (.pointer (ofs (bl b) 0))) w') : O P n ops (⟨some d, .alloc T, T', pos, after, g⟩ :: rest) Q σ w := by
  obtain ⟨i, z, hi, hz, hzc, _, _⟩ := he.info
  refine O.valW hg (v := .pointer (ofs (bl w.heap.size) 0)) (w' := w.alloc (.cells zs.toArray T)) ?_ hd (h _ _ rfl (kalloc _ _) (heap_alloc_new w _))
  simp [Rw, execOp, Instr.alloc, zeroValue, typeInfo, hi, hz, newVar, newRow, hzc, ofs, Addr.add]
/-- the cells of n zeros -/
def zer (zs : List Value) (n : Nat) : List Value := (madeCells zs.toArray (n * zs.length)).toList
theorem O.make {d k : Nat} (hg : gok ops σ g = true) (hT : P.underlying T = some (.slice e)) (he : ElT P e zs bytes agg) (hx : ev σ x = I k) (hy : ev σ y = I k) (hd : Nat.blt d n = true) (hk : bytes * k ≤ 281474976710656) (hm : k ≤ 9223372036854775807)
    (h : ∀ w' b, b = w.heap.size → w.grownBy w' none → Blk w' b e (zer zs k) → O P n ops rest Q (upd σ d (.slice (bl b) k k)) w') : O P n ops (⟨some d, .makeSlice T x y, T', pos, after, g⟩ :: rest) Q σ w := by
  obtain ⟨i, z, hi, hz, hzc, hs, hb⟩ := he.info
  have hb' : (i.bytes : Int) * (k : Int) ≤ 281474976710656 := by
    rw [hb, ← Int.natCast_mul]; omega
  have hr := run_make (P := P) w T e i z hT hi hz .i64 .i64 k k (by omega) (Int.le_refl _) hb' (by omega)
  simp only [Int.toNat_natCast] at hr
  refine O.valW hg (v := .slice (bl w.heap.size) k k) (w' := w.alloc (.cells (madeCells z.cells (k * i.size)) e)) ?_ hd (h _ _ rfl (kalloc _ _) ?_)
  · simp [Rw, execOp, hx, hy, hr]
  · rw [hzc, hs]
    show (w.alloc _).heap[w.heap.size]? = _
    rw [heap_alloc_new]
    simp [zer]
/-- what a literal of a slice lays down -/
def fillS (zs : List Value) (len : Nat) (ps : List (Nat × Value)) : Option (Array Value) := Instr.fill (fun i => some (i * zs.length, zs.length)) ((Array.range (len * zs.length)).map (zs.toArray[· % zs.length]!)) ps
theorem O.lit {d len : Nat} {parts : List (Nat × Operand)} {ps : List (Nat × Value)} {cs : List Value} (hg : gok ops σ g = true) (hT : P.underlying T = some (.slice e)) (he : ElT P e zs bytes agg) (hp : evp σ parts = ps) (hd : Nat.blt d n = true) (hsm : Nat.ble (len * zs.length) 16777216 = true)
    (hc : fillS zs len ps = some cs.toArray)
    (h : ∀ w' b, b = w.heap.size → w.grownBy w' none → Blk w' b e cs → O P n ops rest Q (upd σ d (.slice (bl b) len len)) w') : O P n ops (⟨some d, .buildSlice T len parts.toArray, T', pos, after, g⟩ :: rest) Q σ w := by
  subst hp
  obtain ⟨i, z, hi, hz, hzc, hs, hb⟩ := he.info
  refine O.valW hg (v := .slice (bl w.heap.size) len len) (w' := w.alloc (.cells cs.toArray e)) ?_ hd (h _ _ rfl (kalloc _ _) (heap_alloc_new w _))
  have hsm' : ¬ (16777216 < len * zs.length) := by have := Nat.le_of_ble_eq_true hsm; omega
  by_cases h0 : len * zs.length = 0
  · have hc' := hc
    simp only [fillS, h0, Array.range_zero', List.map_toArray, Array.map_empty] at hc'
    simp only [evp_eq, List.map_nil] at hc'
    simp [Rw, execOp, Instr.buildSlice, run_underlying hT, run_size he, h0, List.map_toArray, Array.range_zero', hc', newRow]
  · have hc' := hc
    simp only [fillS, evp_eq] at hc'
    simp [Rw, execOp, Instr.buildSlice, run_underlying hT, run_size he, h0, hsm', zeroValue, typeInfo, hi, hz, hzc, newRow]
    simp at hc'
    simp [hc']

/-! ### Stores -/
def spl (l : List Value) (k : Nat) (vs : List Value) : List Value := l.take k ++ vs ++ l.drop (k + vs.length)
theorem spl_length {l vs : List Value} {k : Nat} (h : k + vs.length ≤ l.length) : (spl l k vs).length = l.length := by simp [spl]; omega
theorem spl_one {l : List Value} {k : Nat} {v : Value} (h : k < l.length) : spl l k [v] = l.set k v := by
  simp [spl, List.set_eq_take_append_cons_drop, h]
theorem O.store {b k : Nat} {t : TypeId} {l vs : List Value} {v : Value} (hg : gok ops σ g = true) (he : ElT P T zs bytes agg) (hx : ev σ x = .pointer (ofs (bl b) k)) (hy : ev σ y = v) (hv : v.cells = vs.toArray) (hl : vs.length = zs.length) (h1 : (vs.all one) = true)
    (hb : Blk w b t l) (hk : k + vs.length ≤ l.length)
    (h : ∀ w', w.grownBy w' (some b) → w'.heap.size = w.heap.size → Blk w' b t (spl l k vs) → O P n ops rest Q σ w') : O P n ops (⟨none, .store T x y, T', pos, after, g⟩ :: rest) Q σ w := by
  have hst := run_storeCells_at P b k t vs 0 l.toArray w hb (by simpa using hk) (fun v hv => (List.all_eq_true.1 h1) v hv)
  refine O.st hg (w' := w.setRow b (spl l k vs).toArray) ?_ (h _ ⟨rfl, rfl, rfl, by simp, fun j _ hne => setRow_other w b j _ (fun e => hne (by rw [e]))⟩ (by simp) (setRow_heap w b _ _ t _ hb))
  simp only [Nat.add_zero] at hst
  simp only [Rs, execOp, hx, hy, ofs, Option.map_some, add_lit, Nat.zero_add, Instr.storeAt, Instr.sureAddr, storeVar]
  simp [run_size he, hv, hl, hst, spl]

/-! ### append -/
/-- v: a slice of the call's own: nil, or at the head of a row from block B on -/
abbrev own (w : World) (B : Nat) (e : TypeId) (sz : Nat) (v : Value) (m : Nat) (xs : List Value) : Prop := w.ownsRow B e sz v m xs
theorem own_form {B sz m : Nat} {v : Value} {xs : List Value} (h : own w B e sz v m xs) : ∃ A c, v = .slice A m c ∧ m ≤ c ∧ c ≤ maxLen ∧ Rd w A xs ∧ Fr B A ∧ xs.length = m * sz := by
  obtain ⟨hl, ⟨rfl, rfl⟩ | ⟨b, c, cur, rfl, hb, hh, hn, hc, hs, ht⟩⟩ := h
  · exact ⟨none, 0, rfl, Nat.le_refl _, Nat.zero_le _, .inl (List.eq_nil_of_length_eq_zero (by simpa using hl)), (fun a h => by cases h), hl⟩
  · have hlt : b < w.heap.size := (Array.getElem?_eq_some_iff.1 hh).1
    refine ⟨_, c, rfl, hn, hc, .inr ⟨b, 0, rfl, hlt, fun j u hu => ?_⟩, by rintro a ⟨⟩; exact hb, hl⟩
    rw [Nat.zero_add, cell_of_row w b j cur e (0, 0) hh]
    subst ht
    rw [List.getElem?_take] at hu
    split at hu
    · simpa using hu
    · cases hu
theorem own_new {b m sz B : Nat} {xs : List Value} (h : Blk w b e xs) (hB : B ≤ b) (hl : xs.length = m * sz) (hm : m ≤ maxLen) : own w B e sz (.slice (bl b) m m) m xs :=
  ⟨hl, .inr ⟨b, m, xs.toArray, rfl, hB, h, Nat.le_refl _, hm, by simpa using hl, by simp [← hl]⟩⟩
theorem own_nil {sz B : Nat} : own w B e sz (.slice none 0 0) 0 [] := World.ownsRow_nil w B e sz
theorem own_kp {w' : World} {row : Option Nat} {B sz m : Nat} {v : Value} {xs : List Value} (h : own w B e sz v m xs) (hk : w.grownBy w' row) (hne : v.ownBlock = none ∨ v.ownBlock ≠ row) : own w' B e sz v m xs := h.kept hk hne
theorem own_ext {w' : World} {B sz m : Nat} {v : Value} {xs : List Value} (h : own w B e sz v m xs) (hk : w.grownBy w' none) : own w' B e sz v m xs := by
  refine h.kept hk ?_
  cases v.ownBlock <;> simp
theorem own_mono {B B' sz m : Nat} {v : Value} {xs : List Value} (h : own w B e sz v m xs) (hB : B' ≤ B) : own w B' e sz v m xs := by
  obtain ⟨hl, ⟨rfl, rfl⟩ | ⟨b, c, cur, rfl, hb, r⟩⟩ := h
  · exact ⟨hl, .inl ⟨rfl, rfl⟩⟩
  · exact ⟨hl, .inr ⟨b, c, cur, rfl, Nat.le_trans hB hb, r⟩⟩

theorem run_append_none (t ty : TypeId) (ht : P.underlying t = some (.slice e)) (he : ElT P e zs bytes agg) {B m : Nat} {v : Value} {xs : List Value} (hown : own w B e zs.length v m xs) (A : Option Addr) (c : Nat) :
    ∃ c', (Builtin.append_ #[t, t] ty #[v, .slice A 0 c]).run P w = .ok v w ∧ c' = c := by
  refine ⟨c, ?_, rfl⟩
  obtain ⟨i, z, hi, hz, hzc, hs, hb⟩ := he.info
  rcases hown.2 with ⟨rfl, rfl⟩ | ⟨b, cap, cur, rfl, _, _, hnc, _⟩
  · cases A <;> simp [Builtin.append_, run_underlying ht, sizeOf, typeInfo, hi, Builtin.lenOf, Builtin.firstCells, loadCells, loadCellsFrom]
  · cases A <;> simp [Builtin.append_, run_underlying ht, sizeOf, typeInfo, hi, Builtin.lenOf, Builtin.firstCells, loadCells, loadCellsFrom, hnc, storeCells]

theorem O.append {d : Nat} {t : TypeId} {B m k c : Nat} {v : Value} {xs news : List Value} (hg : gok ops σ g = true) (ht : P.underlying t = some (.slice e)) (he : ElT P e zs bytes agg) (hz : 0 < zs.length) (hx : ev σ x = v) (hy : ev σ y = .slice A k c) (hd : Nat.blt d n = true)
    (hown : own w B e zs.length v m xs) (hr : Rd w A news) (hl : news.length = k * zs.length) (h1 : (news.all one) = true) (hn : m + k ≤ 9223372036854775807) (hby : (m + k) * bytes ≤ 140737488355328) (hB : B ≤ w.heap.size)
    (h : ∀ w' v', own w' B e zs.length v' (m + k) (xs ++ news) → w.grownBy w' v.ownBlock → (v'.ownBlock = v.ownBlock ∨ v'.ownBlock = some w.heap.size) → O P n ops rest Q (upd σ d v') w') :
    O P n ops (⟨some d, .call ⟨.builtin .append, #[x, y], #[t, t]⟩, T', pos, after, g⟩ :: rest) Q σ w := by
  have key : ∃ v' w', (Builtin.append_ #[t, t] T' #[v, .slice A k c]).run P w = .ok v' w' ∧ own w' B e zs.length v' (m + k) (xs ++ news) ∧ w.grownBy w' v.ownBlock ∧ (v'.ownBlock = v.ownBlock ∨ v'.ownBlock = some w.heap.size) := by
    by_cases hk : news = []
    · subst hk
      have hk0 : k = 0 := by
        rcases Nat.eq_zero_or_pos k with h0 | h0
        · exact h0
        · have := Nat.mul_pos h0 hz; simp at hl; omega
      subst hk0
      obtain ⟨_, hrun, _⟩ := run_append_none t T' ht he hown A c
      exact ⟨v, w, hrun, by simpa using hown, krefl w _, .inl rfl⟩
    · rcases hr with hr | ⟨b, o, rfl, hb, hc⟩
      · exact absurd hr hk
      · obtain ⟨i, z, hi, hz', hzc, hs, hb'⟩ := he.info
        obtain ⟨v', w', hrun, h2, h3, _, h5⟩ := run_append_own_at (P := P) w B t T' e i z zs.length bytes ht hi hz' hs hb' (by simp [hzc]) hz v m xs hown ⟨b, o, none⟩ k c news hl (fun j u hu => by rw [add_lit]; exact hc j u hu) (fun u hu => (List.all_eq_true.1 h1) u hu) (by simp only [maxLen]; omega) hby hB
        exact ⟨v', w', hrun, h2, h3, h5⟩
  obtain ⟨v', w', hrun, h2, h3, h4⟩ := key
  refine O.valW hg (v := v') (w' := w') ?_ hd (h w' v' h2 h3 h4)
  simp [Rw, execOp, resolve, invoke, builtin, hx, hy, hrun]
end

section
variable {w w' w'' : World} {A : Option Addr} {t e : TypeId} {k : Nat}
theorem Blk.lds {g : Nat} {l vs : List Value} (h : Blk w g t l) (hv : (l.drop k).take vs.length = vs) : ∀ j u, vs[j]? = some u → Ld w (bl g) (k + j) u := fun j u hu => h.ld (by
  rw [← hv, List.getElem?_take] at hu
  split at hu
  · rwa [List.getElem?_drop] at hu
  · cases hu)
theorem ldm {α : Type} {f : α → Value} {l : List α} (h : Rd w A (l.map f)) (hk : k < l.length) : Ld w A (k * 1) (f l[k]) := by
  rw [Nat.mul_one]; exact h.ld (by simp [hk])
theorem smm {α : Type} {f : α → Value} {l : List α} (h : Rd w A (l.map f)) (hk : k < l.length) : A.isSome = true := h.some (k := k) (v := f l[k]) (by simp [hk])
theorem flat_get {α : Type} {enc : α → List Value} {n : Nat} (hn : ∀ a, (enc a).length = n) : ∀ (l : List α) (k : Nat) (hk : k < l.length) (f : Nat), f < n → (l.flatMap enc)[k * n + f]? = (enc l[k])[f]?
  | a :: l, 0, hk, f, hf => by
    simp only [List.flatMap_cons, Nat.zero_mul, Nat.zero_add, List.getElem_cons_zero]
    rw [List.getElem?_append_left (by rw [hn]; exact hf)]
  | a :: l, k + 1, hk, f, hf => by
    simp only [List.flatMap_cons, List.getElem_cons_succ]
    have he : (k + 1) * n + f = (enc a).length + (k * n + f) := by rw [hn, Nat.succ_mul]; omega
    rw [he, List.getElem?_append_right (by omega), Nat.add_sub_cancel_left]
    exact flat_get hn l k (by simpa using hk) f hf
theorem ldf {α : Type} {enc : α → List Value} {n : Nat} {l : List α} {f : Nat} {v : Value} (hn : ∀ a, (enc a).length = n) (h : Rd w A (l.flatMap enc)) (hk : k < l.length) (hv : (enc l[k])[f]? = some v) : Ld w A (k * n + f) v := by
  have hf : f < n := by rw [← hn l[k]]; exact (List.getElem?_eq_some_iff.1 hv).1
  exact h.ld (by rw [flat_get hn l k hk f hf, hv])
theorem ldn {α : Type} {enc : α → List Value} {n : Nat} {l : List α} (hn : ∀ a, (enc a).length = n) (h : Rd w A (l.flatMap enc)) (hk : k < l.length) : ∀ j u, (enc l[k])[j]? = some u → Ld w A (k * n + j) u := fun _ _ hu => ldf hn h hk hu
theorem smf {α : Type} {enc : α → List Value} {n : Nat} {l : List α} {v : Value} (hn : ∀ a, (enc a).length = n) (h : Rd w A (l.flatMap enc)) (hk : k < l.length) (hv : (enc l[k])[0]? = some v) : A.isSome = true := by
  obtain ⟨a, ha, _⟩ := ldf hn h hk hv; rw [ha]; rfl
theorem kownr {r : Option Nat} {sz m : Nat} {v : Value} {xs : List Value} (h : w.grownBy w' r) (h' : w'.grownBy w'' v.ownBlock) (ho : own w' w.heap.size e sz v m xs) : w.grownBy w'' r :=
  kstep h h' fun k hk => .inl (World.ownsRow.lt ho k hk).1
theorem blk_own {g B sz m : Nat} {v : Value} {xs l : List Value} (h : Blk w g t l) (hE : w.grownBy w' v.ownBlock) (ho : own w B e sz v m xs) (hg : g < B) : Blk w' g t l :=
  h.kp hE (fun he => by have := (World.ownsRow.lt ho g he.symm).1; omega)
/-- an owned row while a block below its base is written -/
theorem own_low {g B sz m : Nat} {v : Value} {xs : List Value} (h : own w B e sz v m xs) (hE : w.grownBy w' (some g)) (hg : g < B) : own w' B e sz v m xs := by
  refine h.kept hE ?_
  cases hv : v.ownBlock with
  | none => exact .inl rfl
  | some k => exact .inr (fun he => by cases he; have := (World.ownsRow.lt h _ hv).1; omega)
end
end Go.Px
