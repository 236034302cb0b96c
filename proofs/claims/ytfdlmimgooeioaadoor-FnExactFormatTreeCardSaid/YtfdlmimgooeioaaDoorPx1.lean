/- Own layer: what operations on numbers, texts and truth values yield. Plain theorems; no conditions. -/
import Derived.Test.YtfdlmimgooeioaaDoorPx0
import Derived.Lib.UnsafeStr
import Derived.Laws.StructEq
set_option linter.unusedVariables false
set_option linter.unusedSimpArgs false
namespace Go.Px
open Go.RowKit

/-! ### Strings as lists of bytes -/
abbrev Str := List UInt8
def S (l : Str) : Value := .string ⟨l.toArray⟩
abbrev I (x : Int) : Value := .int .i64 x
abbrev blt : Str → Str → Bool := Op.bytesLess
theorem S_of (s : ByteArray) : Value.string s = S s.data.toList := by cases s; simp [S]
@[simp] theorem size_S (l : Str) : (⟨l.toArray⟩ : ByteArray).size = l.length := by simp [ByteArray.size]

section
variable {P : Program} {σ : Sig} {w : World} {dst : Option Tmp} {T U T' : TypeId} {pos : String} {after : Array Edge} {g : Option (Nat × Bool)} {x y z : Operand}

theorem Ru.congr {o : Oper} {v v' : Value} (h : Ru P σ o w v) (e : v = v') : Ru P σ o w v' := e ▸ h
theorem Ru.move {v : Value} (hx : ev σ x = v) : Ru P σ ⟨dst, .move x, T, pos, after, g⟩ w v := by subst hx; rfl
theorem Ru.assign {v : Value} (hx : ev σ x = v) : Ru P σ ⟨dst, .assign x, T, pos, after, g⟩ w v := by subst hx; rfl
theorem Ru.pickT {v : Value} (hc : ev σ x = .bool true) (hy : ev σ y = v) : Ru P σ ⟨dst, .pick x y z, T, pos, after, g⟩ w v := by
  subst hy; simp [Ru, execOp, hc, asBool]
theorem Ru.pickF {v : Value} (hc : ev σ x = .bool false) (hz : ev σ z = v) : Ru P σ ⟨dst, .pick x y z, T, pos, after, g⟩ w v := by
  subst hz; simp [Ru, execOp, hc, asBool]
theorem Ru.not {b : Bool} (hx : ev σ x = .bool b) : Ru P σ ⟨dst, .unOp .not T x, T', pos, after, g⟩ w (.bool (!b)) := by
  simp [Ru, execOp, hx, Op.unary]
theorem Ru.notp {p : Prop} [Decidable p] (hx : ev σ x = .bool (decide p)) : Ru P σ ⟨dst, .unOp .not T x, T', pos, after, g⟩ w (.bool (decide (¬ p))) := by
  simp [Ru, execOp, hx, Op.unary]
theorem Ru.neg {a : Int} (hx : ev σ x = I a) (h : -9223372036854775808 < a ∧ a ≤ 9223372036854775807) : Ru P σ ⟨dst, .unOp .neg T x, T', pos, after, g⟩ w (I (-a)) := by
  simp [Ru, execOp, hx, Op.unary, Op.intArith]
  rw [IntKind.wrap_i64]; omega

section ints
variable {a b : Int}
theorem Ru.add (hx : ev σ x = I a) (hy : ev σ y = I b) (h : -9223372036854775808 ≤ a + b ∧ a + b ≤ 9223372036854775807) : Ru P σ ⟨dst, .binOp .add T x y U, T', pos, after, g⟩ w (I (a + b)) := by
  simp [Ru, execOp, hx, hy, eqGuard, binOp, Op.intArith]; rw [IntKind.wrap_i64]; omega
theorem Ru.sub (hx : ev σ x = I a) (hy : ev σ y = I b) (h : -9223372036854775808 ≤ a - b ∧ a - b ≤ 9223372036854775807) : Ru P σ ⟨dst, .binOp .sub T x y U, T', pos, after, g⟩ w (I (a - b)) := by
  simp [Ru, execOp, hx, hy, eqGuard, binOp, Op.intArith]; rw [IntKind.wrap_i64]; omega
theorem Ru.mul (hx : ev σ x = I a) (hy : ev σ y = I b) (h : -9223372036854775808 ≤ a * b ∧ a * b ≤ 9223372036854775807) : Ru P σ ⟨dst, .binOp .mul T x y U, T', pos, after, g⟩ w (I (a * b)) := by
  simp [Ru, execOp, hx, hy, eqGuard, binOp, Op.intArith]; rw [IntKind.wrap_i64]; omega
theorem Ru.addw {k : IntKind} (hx : ev σ x = .int k a) (hy : ev σ y = .int k b) : Ru P σ ⟨dst, .binOp .add T x y U, T', pos, after, g⟩ w (.int k (k.wrap (a + b))) := by
  simp [Ru, execOp, hx, hy, eqGuard, binOp, Op.intArith]
theorem Ru.quo (hx : ev σ x = I a) (hy : ev σ y = I b) (h : 0 ≤ a ∧ a ≤ 9223372036854775807 ∧ 1 ≤ b) : Ru P σ ⟨dst, .binOp .quo T x y U, T', pos, after, g⟩ w (I (a / b)) := by
  have hb : ¬ b = 0 := by omega
  simp [Ru, execOp, hx, hy, eqGuard, binOp, Op.intDiv, hb]
  exact IntWalk.i64_quo a b h
theorem Ru.rem (hx : ev σ x = I a) (hy : ev σ y = I b) (h : 0 ≤ a ∧ 1 ≤ b) : Ru P σ ⟨dst, .binOp .rem T x y U, T', pos, after, g⟩ w (I (a % b)) := by
  have hb : ¬ b = 0 := by omega
  simp [Ru, execOp, hx, hy, eqGuard, binOp, Op.intDiv, hb]
  exact IntWalk.rem_in a b h.1
theorem Ru.eql {k : IntKind} (hx : ev σ x = .int k a) (hy : ev σ y = .int k b) : Ru P σ ⟨dst, .binOp .eql T x y U, T', pos, after, g⟩ w (.bool (decide (a = b))) := by
  simp [Ru, execOp, hx, hy, go_sem, eqGuard, binOp, Op.intCmp]
  by_cases h : a = b <;> simp [h]
theorem Ru.neq {k : IntKind} (hx : ev σ x = .int k a) (hy : ev σ y = .int k b) : Ru P σ ⟨dst, .binOp .neq T x y U, T', pos, after, g⟩ w (.bool (decide (a ≠ b))) := by
  simp [Ru, execOp, hx, hy, go_sem, eqGuard, binOp, Op.intCmp]
  by_cases h : a = b <;> simp [h]
theorem Ru.lss {k : IntKind} (hx : ev σ x = .int k a) (hy : ev σ y = .int k b) : Ru P σ ⟨dst, .binOp .lss T x y U, T', pos, after, g⟩ w (.bool (decide (a < b))) := by
  simp [Ru, execOp, hx, hy, eqGuard, binOp, Op.intCmp]
theorem Ru.leq {k : IntKind} (hx : ev σ x = .int k a) (hy : ev σ y = .int k b) : Ru P σ ⟨dst, .binOp .leq T x y U, T', pos, after, g⟩ w (.bool (decide (a ≤ b))) := by
  simp [Ru, execOp, hx, hy, eqGuard, binOp, Op.intCmp]
theorem Ru.gtr {k : IntKind} (hx : ev σ x = .int k a) (hy : ev σ y = .int k b) : Ru P σ ⟨dst, .binOp .gtr T x y U, T', pos, after, g⟩ w (.bool (decide (a > b))) := by
  simp [Ru, execOp, hx, hy, eqGuard, binOp, Op.intCmp]
theorem Ru.geq {k : IntKind} (hx : ev σ x = .int k a) (hy : ev σ y = .int k b) : Ru P σ ⟨dst, .binOp .geq T x y U, T', pos, after, g⟩ w (.bool (decide (a ≥ b))) := by
  simp [Ru, execOp, hx, hy, eqGuard, binOp, Op.intCmp]
/-- conversions of integers -/
theorem Ru.conv {k k' : IntKind} {c : Int} {d : TypeDesc} (hs : P.underlying T = some d) (hd : P.underlying U = some (.int k')) (hx : ev σ x = .int k a) (hc : k'.wrap a = c) : Ru P σ ⟨dst, .convert T U x, T', pos, after, g⟩ w (.int k' c) := by
  subst hc
  simp only [Ru, execOp, hx, convert]
  simp [run_underlying hs, run_underlying hd]
  cases d <;> rfl
end ints

section strs
variable {a b : Str}
theorem Ru.seql (hx : ev σ x = S a) (hy : ev σ y = S b) : Ru P σ ⟨dst, .binOp .eql T x y U, T', pos, after, g⟩ w (.bool (decide (a = b))) := by
  simp [Ru, execOp, hx, hy, S, go_sem, binOp, Op.stringOp]
  by_cases h : a = b <;> simp [h]
theorem Ru.sneq (hx : ev σ x = S a) (hy : ev σ y = S b) : Ru P σ ⟨dst, .binOp .neq T x y U, T', pos, after, g⟩ w (.bool (decide (a ≠ b))) := by
  simp [Ru, execOp, hx, hy, S, go_sem, binOp, Op.stringOp]
  by_cases h : a = b <;> simp [h]
theorem Ru.slss (hx : ev σ x = S a) (hy : ev σ y = S b) : Ru P σ ⟨dst, .binOp .lss T x y U, T', pos, after, g⟩ w (.bool (blt a b)) := by
  simp [Ru, execOp, hx, hy, S, eqGuard, binOp, Op.stringOp]
theorem Ru.sgeq (hx : ev σ x = S a) (hy : ev σ y = S b) : Ru P σ ⟨dst, .binOp .geq T x y U, T', pos, after, g⟩ w (.bool (!blt a b)) := by
  simp [Ru, execOp, hx, hy, S, eqGuard, binOp, Op.stringOp]
theorem Ru.sgtr (hx : ev σ x = S a) (hy : ev σ y = S b) : Ru P σ ⟨dst, .binOp .gtr T x y U, T', pos, after, g⟩ w (.bool (!blt a b && !decide (a = b))) := by
  simp [Ru, execOp, hx, hy, S, eqGuard, binOp, Op.stringOp]
  by_cases h : a = b <;> simp [h]
theorem Ru.sleq (hx : ev σ x = S a) (hy : ev σ y = S b) : Ru P σ ⟨dst, .binOp .leq T x y U, T', pos, after, g⟩ w (.bool (blt a b || decide (a = b))) := by
  simp [Ru, execOp, hx, hy, S, eqGuard, binOp, Op.stringOp]
  by_cases h : a = b <;> simp [h]
theorem Ru.sadd (hx : ev σ x = S a) (hy : ev σ y = S b) (h : a.length + b.length ≤ 9223372036854775807) : Ru P σ ⟨dst, .binOp .add T x y U, T', pos, after, g⟩ w (S (a ++ b)) := by
  have h' : ¬ ((9223372036854775807 : Int) < (a.length : Int) + (b.length : Int)) := by omega
  simp [Ru, execOp, hx, hy, S, eqGuard, binOp, Op.stringOp, h']
  apply ByteArray.ext
  simp
theorem Ru.slen {t : TypeId} (ht : P.underlying t = some .string) (hx : ev σ x = S a) : Ru P σ ⟨dst, .call ⟨.builtin .len, #[x], #[t]⟩, T, pos, after, g⟩ w (I a.length) := by
  simp [Ru, execOp, resolve, invoke, builtin, hx, S, Builtin.len_, run_underlying ht, goInt]
theorem Ru.sindex {k : IntKind} {i : Int} (j : Nat) (hj : j < a.length) (ht : P.underlying T = some .string) (hx : ev σ x = S a) (hy : ev σ y = .int k i) (hi : i.toNat = j) (h0 : 0 ≤ i) : Ru P σ ⟨dst, .index T x y, T', pos, after, g⟩ w (.int .u8 (a[j]'hj).toNat) := by
  subst hi
  have : (⟨a.toArray⟩ : ByteArray)[i.toNat]? = some (a[i.toNat]'hj) := by
    rw [ByteArray.getElem?_lt' _ _ (by simpa using hj)]; rfl
  simp [Ru, execOp, hx, hy, S, Instr.index, asIntOf, run_underlying ht, h0, this]
end strs

theorem Ru.blenSlice {A : Option Addr} {n c : Nat} {t e : TypeId} (ht : P.underlying t = some (.slice e)) (hx : ev σ x = .slice A n c) : Ru P σ ⟨dst, .call ⟨.builtin .len, #[x], #[t]⟩, T, pos, after, g⟩ w (I n) := by
  simp [Ru, execOp, resolve, invoke, builtin, hx, Builtin.len_, run_underlying ht, goInt]
theorem Ru.beql {a b : Bool} (ht : P.underlying T = some .bool) (hx : ev σ x = .bool a) (hy : ev σ y = .bool b) : Ru P σ ⟨dst, .binOp .eql T x y U, T', pos, after, g⟩ w (.bool (decide (a = b))) := by
  simp [Ru, execOp, hx, hy, go_sem, binOp, run_equal_bool w T a b ht]
  cases a <;> cases b <;> rfl
theorem Ru.bneq {a b : Bool} (ht : P.underlying T = some .bool) (hx : ev σ x = .bool a) (hy : ev σ y = .bool b) : Ru P σ ⟨dst, .binOp .neq T x y U, T', pos, after, g⟩ w (.bool (decide (a ≠ b))) := by
  simp [Ru, execOp, hx, hy, go_sem, binOp, run_equal_bool w T a b ht]
  cases a <;> cases b <;> rfl
theorem Ru.extract {vs : Array Value} {k : Nat} {v : Value} (hx : ev σ x = .tuple vs) (hv : vs[k]? = some v) : Ru P σ ⟨dst, .extract x k, T, pos, after, g⟩ w v := by
  simp [Ru, execOp, hx, Instr.extract, hv]
end
end Go.Px
