/- Own layer: loops over slices, bytes, copies. Plain theorems; no conditions. -/
import Derived.Test.YtfdlmimgooeioaaDoorPx2
set_option linter.unusedVariables false
set_option linter.unusedSimpArgs false
namespace Go.Px
open Go.RowKit

theorem take_snoc {α : Type} {l : List α} {k : Nat} (hk : k < l.length) : l.take (k + 1) = l.take k ++ [l[k]] := List.take_succ_eq_append_getElem hk
theorem rep_get {α : Type} (zs : List α) : ∀ (n i : Nat), i < n * zs.length → ((List.replicate n zs).flatten)[i]? = zs[i % zs.length]?
  | 0, i, h => by simp at h
  | n + 1, i, h => by
    rw [List.replicate_succ, List.flatten_cons]
    by_cases hi : i < zs.length
    · rw [List.getElem?_append_left hi, Nat.mod_eq_of_lt hi]
    · rw [List.getElem?_append_right (by omega), rep_get zs n (i - zs.length) (by rw [Nat.succ_mul] at h; omega), ← Nat.mod_eq_sub_mod (by omega)]
theorem zer_eq (zs : List Value) (n : Nat) : zer zs n = (List.replicate n zs).flatten := by
  apply List.ext_getElem?
  intro i
  unfold zer madeCells
  by_cases hi : i < n * zs.length
  · have h0 : 0 < zs.length := by
      rcases Nat.eq_zero_or_pos zs.length with h | h
      · rw [h] at hi; simp at hi
      · exact h
    have hm : i % zs.length < zs.length := Nat.mod_lt _ h0
    rw [rep_get zs n i hi]
    simp [hi, hm]
  · have hl : ((List.replicate n zs).flatten).length = n * zs.length := by simp
    rw [List.getElem?_eq_none (by simp; omega), List.getElem?_eq_none (by rw [hl]; omega)]
theorem zer_one (z : Value) (n : Nat) : zer [z] n = List.replicate n z := by
  rw [zer_eq]
  induction n with
  | zero => rfl
  | succ n ih => rw [List.replicate_succ, List.flatten_cons, ih]; rfl
theorem zer_length (zs : List Value) (n : Nat) : (zer zs n).length = n * zs.length := by simp [zer, size_madeCells]

/-- the first k elements written, zeros behind them -/
def mf {α : Type} (f : α → Value) (z : Value) (l : List α) (k : Nat) : List Value := (l.take k).map f ++ List.replicate (l.length - k) z
theorem mf_zero {α : Type} {f : α → Value} {z : Value} {l : List α} : zer [z] l.length = mf f z l 0 := by simp [mf, zer_one]
theorem mf_len {α : Type} {f : α → Value} {z : Value} {l : List α} {k : Nat} (hk : k ≤ l.length) : (mf f z l k).length = l.length := by simp [mf]; omega
theorem mf_step {α : Type} {f : α → Value} {z : Value} {l : List α} {k : Nat} (hk : k < l.length) : spl (mf f z l k) (k * 1) [f l[k]] = mf f z l (k + 1) := by
  rw [Nat.mul_one]
  have h1 : ((l.take k).map f).length = k := by simp; omega
  have h2 : l.length - k = (l.length - (k + 1)) + 1 := by omega
  unfold spl mf
  rw [take_snoc hk, List.map_append, List.take_append_of_le_length (by omega), List.take_of_length_le (by omega), List.drop_append, h1]
  rw [h2, List.replicate_succ]
  simp
  omega
theorem mf_all {α : Type} {f : α → Value} {z : Value} {l : List α} {k : Nat} (hk : l.length ≤ k) : mf f z l k = l.map f := by
  unfold mf
  rw [List.take_of_length_le hk, show l.length - k = 0 from by omega]
  simp
/-- the same for elements of several cells -/
def nf {α : Type} (enc : α → List Value) (zs : List Value) (l : List α) (k : Nat) : List Value := (l.take k).flatMap enc ++ (List.replicate (l.length - k) zs).flatten
theorem nf_zero {α : Type} {enc : α → List Value} {zs : List Value} {l : List α} : zer zs l.length = nf enc zs l 0 := by simp [nf, zer_eq]
theorem flatMap_len {α : Type} {enc : α → List Value} {n : Nat} (hn : ∀ a, (enc a).length = n) : ∀ l : List α, (l.flatMap enc).length = l.length * n
  | [] => by simp
  | a :: l => by simp [hn, flatMap_len hn l, Nat.succ_mul]; omega
theorem nf_len {α : Type} {enc : α → List Value} {zs : List Value} {l : List α} {k : Nat} (hn : ∀ a, (enc a).length = zs.length) (hk : k ≤ l.length) : (nf enc zs l k).length = l.length * zs.length := by
  have : (l.take k).length = k := by simp; omega
  simp only [nf, List.length_append, flatMap_len hn, this, List.length_flatten, List.map_replicate, List.sum_replicate_nat]
  rw [← Nat.add_mul]; congr 1; omega
theorem nf_step {α : Type} {enc : α → List Value} {zs : List Value} {l : List α} {k : Nat} (hn : ∀ a, (enc a).length = zs.length) (hk : k < l.length) : spl (nf enc zs l k) (k * zs.length) (enc l[k]) = nf enc zs l (k + 1) := by
  have h0 : (l.take k).length = k := by simp; omega
  have h1 : ((l.take k).flatMap enc).length = k * zs.length := by rw [flatMap_len hn, h0]
  have h2 : l.length - k = (l.length - (k + 1)) + 1 := by omega
  unfold spl nf
  rw [take_snoc hk, List.flatMap_append, ← h1, List.take_left, hn, List.drop_append, List.drop_of_length_le (by omega), h2, List.replicate_succ, List.flatten_cons]
  simp
theorem nf_all {α : Type} {enc : α → List Value} {zs : List Value} {l : List α} {k : Nat} (hk : l.length ≤ k) : nf enc zs l k = l.flatMap enc := by
  unfold nf
  rw [List.take_of_length_le hk, show l.length - k = 0 from by omega]
  simp
/-- a step of a writing loop over what is there -/
theorem spl_len1 {l : List Value} {k : Nat} {v : Value} (h : k < l.length) : (spl l k [v]).length = l.length := spl_length (by simp; omega)
theorem Blk.kpn {w w' : World} {g b : Nat} {t : TypeId} {l : List Value} (h : Blk w g t l) (hE : w.grownBy w' (some b)) (hg : g ≠ b) : Blk w' g t l := h.kp hE (by simpa using hg)
theorem Blk.cast {w : World} {g : Nat} {t : TypeId} {l l' : List Value} (h : Blk w g t l) (e : l = l') : Blk w g t l' := e ▸ h
theorem own_cast {w : World} {e : TypeId} {B sz m m' : Nat} {v : Value} {xs xs' : List Value} (h : own w B e sz v m xs) (hm : m = m') (hx : xs = xs') : own w B e sz v m' xs' := hm ▸ hx ▸ h
theorem Rd.cast {w : World} {A : Option Addr} {l l' : List Value} (h : Rd w A l) (e : l = l') : Rd w A l' := e ▸ h
theorem all_map_one {α : Type} {f : α → Value} (hf : ∀ a, one (f a) = true) (l : List α) : ((l.map f).all one) = true := by simp [hf]
theorem all_flat_one {α : Type} {enc : α → List Value} (hf : ∀ a, (enc a).all one = true) (l : List α) : ((l.flatMap enc).all one) = true := by
  induction l with
  | nil => rfl
  | cons a l ih => simp only [List.flatMap_cons, List.all_append, hf a, ih]; rfl
theorem fr_ne {w : World} {A : Option Addr} {g : Nat} (h : Fr w.heap.size A) (hg : g < w.heap.size) : ∀ a, A = some a → some a.block ≠ some g := by
  intro a ha he
  have := h a ha
  simp at he; omega

/-! lists compared element by element -/
theorem ne_len {α : Type} [DecidableEq α] {a b : List α} (h : a.length ≠ b.length) : decide (a = b) = false := decide_eq_false fun e => h (by rw [e])
theorem ne_at {α : Type} [DecidableEq α] {a b : List α} {k : Nat} (ha : k < a.length) (hb : k < b.length) (h : a[k] ≠ b[k]) : decide (a = b) = false := decide_eq_false fun e => h (by subst e; rfl)
theorem eq_all {α : Type} [DecidableEq α] {a b : List α} {k : Nat} (ha : a.length ≤ k) (hb : b.length ≤ k) (h : a.take k = b.take k) : decide (a = b) = true := decide_eq_true (by rwa [List.take_of_length_le ha, List.take_of_length_le hb] at h)
theorem eq_step {α : Type} {a b : List α} {k : Nat} (ha : k < a.length) (hb : k < b.length) (h : a.take k = b.take k) (he : a[k] = b[k]) : a.take (k + 1) = b.take (k + 1) := by rw [take_snoc ha, take_snoc hb, h, he]

/-! bytes -/
def byteV (b : UInt8) : Value := .int .u8 (b.toNat : Int)
section
variable {P : Program} {σ : Sig} {w : World} {dst : Option Tmp} {T U T' e : TypeId} {pos : String} {after : Array Edge} {g : Option (Nat × Bool)} {x y z : Operand}
variable {A : Option Addr} {zs : List Value} {bytes : Nat} {agg : Bool} {n : Nat} {Q : Post} {ops rest : List Oper}
theorem Ru.b2s {l : List UInt8} {c : Nat} (hs : P.underlying T = some (.slice e)) (he : P.underlying e = some (.int .u8)) (hd : P.underlying U = some .string) (hx : ev σ x = .slice A l.length c) (hr : Rd w A (l.map byteV)) :
    Ru P σ ⟨dst, .convert T U x, T', pos, after, g⟩ w (S l) := by
  have hf : ∀ (l : List UInt8) (s : ByteArray), ((l.map fun b => (b.toNat : Int)).foldl (fun r n => r.push (UInt8.ofNat n.toNat)) s) = ⟨s.data ++ l.toArray⟩ := by
    intro l
    induction l with
    | nil => intro s; simp
    | cons b l ih =>
      intro s
      simp only [List.map_cons, List.foldl_cons, ih]
      apply ByteArray.ext
      simp [ByteArray.push]
  have hconv := run_convert_bytes_string (P := P) w T U e A l.length c hs he hd
  have key : (Conv.bytesToString (.slice A l.length c)).run P w = .ok (S l) w := by
    rcases hr with hr | ⟨b, o, rfl, _, hc⟩
    · have : l = [] := by simpa using hr
      subst this
      cases A with
      | none => rfl
      | some a =>
        have := run_bytesToString (P := P) w a 0 c [] (by simp [loadCells, loadCellsFrom])
        rw [show S [] = .string ByteArray.empty from rfl]
        simpa using this
    · have hl := run_loadCells_list (P := P) w ⟨b, o, none⟩ (l.map byteV) (fun j u hu => by rw [add_lit]; exact hc j u hu)
      have := run_bytesToString (P := P) w ⟨b, o, none⟩ l.length c (l.map fun b => (b.toNat : Int)) (by
        simp only [List.length_map] at hl
        rw [hl]
        simp [byteV, Function.comp_def])
      rw [this, hf]
      show Result.ok (Value.string ⟨#[] ++ l.toArray⟩) w = _
      simp [S]
  simp [Ru, execOp, hx, hconv, key]
theorem IntKind.wrap_u8_of (n : Int) (h : 0 ≤ n ∧ n ≤ 255) : IntKind.u8.wrap n = n := IntWalk.u8_in n h

/-- a cell of a slice of the call's own is written -/
theorem O.storeOwn {B m c k sz : Nat} {z' : Value} {v : Value} {xs : List Value} (hg : gok ops σ g = true) (he : ElT P T [z'] bytes false) (hx : ev σ x = .pointer (ofs A k)) (hy : ev σ y = v) (hv : v.cells = #[v])
    (ho : own w B e sz (.slice A m c) m xs) (hk : k < xs.length ∧ one v = true)
    (h : ∀ w', w.grownBy w' (A.map (·.block)) → w'.heap.size = w.heap.size → own w' B e sz (.slice A m c) m (xs.set k v) → O P n ops rest Q σ w') : O P n ops (⟨none, .store T x y, T', pos, after, g⟩ :: rest) Q σ w := by
  obtain ⟨hl, ⟨h1, h2⟩ | ⟨b, c', cur, h1, hB, hh, hn, hc, hs, ht⟩⟩ := ho
  · cases h1; simp at hl; rw [hl] at hk; simp at hk
  · cases h1
    have hcl : xs.length ≤ cur.size := by rw [← ht]; simp; omega
    have hb : Blk w b e cur.toList := by unfold Blk; simpa using hh
    refine O.store (vs := [v]) hg he hx hy hv rfl (by simp [hk.2]) hb (by simp; omega) ?_
    intro w' hE hsz hb'
    refine h w' (by simpa using hE) hsz ⟨by simpa using hl, .inr ⟨b, c, (cur.toList.set k v).toArray, rfl, hB, ?_, hn, hc, by simpa using hs, ?_⟩⟩
    · rw [spl_one (by simp; omega)] at hb'
      exact hb'
    · subst ht
      rw [List.take_set]

theorem cellsOf_el (h : ElT P e zs bytes agg) : P.cellsOf e = zs.length := by
  obtain ⟨i, z, hi, _, _, hs, _⟩ := h.info
  simp [Program.cellsOf, hi, hs]
/-- copy of a text into a new row of bytes -/
theorem O.copyS {d b c : Nat} {l : Str} {cs : List Value} {t u : TypeId} {zv : Value} (hg : gok ops σ g = true) (ht : P.underlying t = some (.slice e)) (he : ElT P e [zv] bytes false) (hx : ev σ x = .slice (bl b) l.length c) (hy : ev σ y = S l) (hd : Nat.blt d n = true)
    (hb : Blk w b e cs) (hcs : cs.length = l.length)
    (h : ∀ w', w.grownBy w' (some b) → w'.heap.size = w.heap.size → Blk w' b e (l.map byteV) → O P n ops rest Q (upd σ d (I l.length)) w') :
    O P n ops (⟨some d, .call ⟨.builtin .copy, #[x, y], #[t, u]⟩, T', pos, after, g⟩ :: rest) Q σ w := by
  have hst := run_storeCells_at P b 0 e (l.map byteV) 0 cs.toArray w hb (by simp; omega) (by simp [byteV, Value.oneCell'])
  have hn : min l.length l.length = l.length := by omega
  have hcell : (Builtin.firstCells 1 l.length (S l)).run P w = .ok (l.map byteV).toArray w := by
    simp [Builtin.firstCells, S]
    intro a _
    rfl
  have hnew : (List.map byteV l ++ List.drop (0 + 0 + (List.map byteV l).length) cs) = l.map byteV := by simp [hcs]
  simp only [Nat.zero_add, List.take_zero, List.nil_append, Nat.add_zero] at hst hnew
  rw [hnew] at hst
  refine O.valW hg (v := I l.length) (w' := w.setRow b (l.map byteV).toArray) ?_ hd (h _ ⟨rfl, rfl, rfl, by simp, fun j _ hne => setRow_other w b j _ (fun e => hne (by rw [e]))⟩ (by simp) (setRow_heap w b _ _ e _ hb))
  have hlen : (Builtin.lenOf (S l)).run P w = .ok l.length w := by simp [S, Builtin.lenOf]
  have hsz := run_size (P := P) (w := w) he
  simp only [Rw, execOp, resolve, invoke, builtin]
  simp [hx, hy, Builtin.copy_, run_underlying ht, hlen, hsz, hcell, hst, goInt]
/-- a string over a row of bytes, without a copy -/
theorem O.bytesS {d b : Nat} {l : Str} {t u : TypeId} {zv : Value} (hg : gok ops σ g = true) (ht : P.underlying t = some (.pointer e)) (he : ElT P e [zv] bytes false) (hx : ev σ x = .pointer (ofs (bl b) (0 * 1))) (hy : ev σ y = I l.length) (hd : Nat.blt d n = true)
    (hb : Blk w b e (l.map byteV)) (h0 : l ≠ []) (h63 : l.length ≤ 9223372036854775807)
    (h : ∀ w', w.grownBy w' (some b) → O P n ops rest Q (upd σ d (S l)) w') :
    O P n ops (⟨some d, .call ⟨.builtin .unsafeString, #[x, y], #[t, u]⟩, T', pos, after, g⟩ :: rest) Q σ w := by
  have hsh : w.shape? b = some (e, l.length) := by unfold Blk at hb; simp [World.shape?, hb]
  have hr := Lib.run_unsafeString_row (P := P) w t u T' e ht (by rw [cellsOf_el he]; rfl) b l.length hsh l h0 (Nat.le_refl _) h63 (fun j x hx => by
    rw [add_lit, Nat.zero_add, hb.cell]; simp [hx, byteV])
  refine O.valW hg (v := S l) (w' := w.freeze ⟨b, 0, none⟩ l.length) ?_ hd (h _ ?_)
  · have hx' : ev σ x = .pointer (some ⟨b, 0, none⟩) := hx
    simp only [Rw, execOp, resolve, invoke, builtin]
    simp [hx', hy, hr, S]
  · unfold World.freeze
    split
    · exact krefl w _
    · exact ⟨rfl, rfl, rfl, by simp, fun j _ hne => by
        simp only [Array.getElem?_modify]
        rw [if_neg (fun e => hne (by rw [e]))]⟩
end
end Go.Px
