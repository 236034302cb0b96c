/- Own layer: part of this seat (T6). Plain theorems; no conditions. -/
import Derived.Test.YtfdlmimgooeioaaDoorT5
import Derived.Test.YtfdlmimgooeioaaDoorRows
import Derived.Handed
import Derived.Shelf.Vars
import Derived.Stop.LaidErr
import Derived.MakeChecks
import Derived.Lib.LaidTab
set_option linter.unusedVariables false
set_option linter.unusedSimpArgs false
/-! from a row's listed variables, and the world's shape, to what the readers ask -/
namespace Go.Px
variable {H : Type} {enc : TypeId × Value → H}
theorem returnsIn_and_shaped {a : Assume} {C : Checked} {os : Os} {f : FuncId} {fn : Func} {s : ChangeSpec} {conds : List PathCond} {apart fresh handsOn again : Bool} {X : World → Array Value → Prop}
    (hX : ∀ (w w' : World) (args : Array Value), w.heap = w'.heap → X w args → X w' args)
    (own : ownKnob C.prog.godebug = none) (started : os.Started) (noInit : C.prog.inits.idxOf? f = none) (hfn : C.prog.funcs[f]? = some fn)
    (witness : ∃ (w : World) (tape : Tape) (i : Input), w.os = os ∧ (w.forCall tape i).Shaped C.prog ∧ i.vars = [] ∧ Input.okWide C.prog (w.forCall tape i) .any w.heap.size f i ∧
      ((s.pre enc C.prog fn conds apart (w.forCall tape i).memory i.args ∧ X (w.forCall tape i).memory i.args) ∧ sizedMet enc C.prog fn (OpenSpec.ofChange s) apart (w.forCall tape i).memory i.args) ∧ a.holds C.prog (lone (Frame.enter C.prog f i.args .normal) [] (w.forCall tape i)))
    (contract : ∀ (W : World) (base : Nat) (args : Array Value) (ds gs : List (DataW H)) (before : List MemPlace),
      (∀ (j : Nat) t v, fn.params[j]? = some t → args[j]? = some v → Value.okWide C.prog W .any base t v) →
      DataW.Whole enc C.prog fn.params.toList s.vars apart W args.toList ds gs before → X W args → W.ShapedOpen C.prog →
      Calls C.prog f args W fun e W' => ∃ v, e = .returned v ∧ s.post enc C.prog fn apart fresh handsOn again W args v W') :
    ReturnsInHanded a C os f .any (fun w args => (s.pre enc C.prog fn conds apart w args ∧ X w args) ∧ sizedMet enc C.prog fn (OpenSpec.ofChange s) apart w args) (s.post enc C.prog fn apart fresh handsOn again) := by
  refine returnsInHanded_of_calls own started noInit witness ?_
  intro w tape i _ hsh _ hok hpre hholds
  obtain ⟨_, _, _, fn', hfn', _, _, _, _, hval⟩ := hok
  have e : fn' = fn := Option.some.inj (hfn'.symm.trans hfn)
  subst e
  obtain ⟨⟨⟨ds, gs, before, hw, hc⟩, hx⟩, hz⟩ := hpre
  have hw' := DataW.Whole.of_heap (w' := w.forCall tape i) (by rfl) hw
  refine (contract (w.forCall tape i) w.heap.size i.args ds gs before hval hw' (hX _ _ _ (by rfl) hx) hsh).mono fun e W' ⟨v, he, hp⟩ => ?_
  subst he
  exact ChangeSpec.post_blind hp
end Go.Px
namespace Go.Proofs.YtfdlmimgooeioaaDoor
open Go.Px Go.RowKit
theorem row_es (u : TypeId) (h : Tryd.prog.typeName? 3 u = some ("*" ++ "errors.errorString")) : u = 196 :=
  typeName_ptr_named (by kernel_rfl) (by kernel_rfl) (by decide) u h
theorem lw_of {W : World} (h0 : laidMetH Tryd.prog Rows.fnExactParseRowRow.laid W) (hsh : W.ShapedOpen Tryd.prog) : LW W := by
  rw [MakeChecks.laidMetH_plain _ _ _ (by kernel_rfl)] at h0
  have h : laidMet Tryd.prog Rows.fnExactParseRowRow.laid W := h0
  refine ⟨?_, ?_, ?_⟩
  · obtain ⟨ps, ⟨g0, t0, cs0, f0, p0, q0, _, _, _, _, ⟨g1, t1, cs1, f1, p1, q1, _, _, _, _, ⟨g, t, cs, fuel, p, q, hg, ht, hvar, hd, _, _⟩, _⟩, _⟩, _⟩ := h
    have hg' : Tryd.prog.globalNamed tabN = some 0 := by kernel_rfl
    obtain rfl := Option.some.inj (hg'.symm.trans (show Tryd.prog.globalNamed tabN = some g from hg))
    have hty : (Tryd.prog.globals[0]?).map (·.type) = some 159 := by kernel_rfl
    obtain rfl := Option.some.inj (hty.symm.trans ht)
    unfold TAB Lib.TabIs
    rw [show W.var? Tryd.prog tabN = some cs from hvar, ← Lib.cells_of_tab (zs := Lib.pow10Tab) Tryd.underlying159 Tryd.underlying139 (by kernel_rfl) (by kernel_rfl) hd]
  · exact cell_of_shapedOpen_int (g := 1) (zero := #[.int .i64 0]) (t := 3) hsh (of_decide_eq_true (by kernel_rfl)) (by kernel_rfl) rfl (by kernel_rfl) (by kernel_rfl) Tryd.underlying3
  · have h5 := laidMet.tail (laidMet.tail (laidMet.tail (laidMet.tail (laidMet.tail h))))
    have hgE : Tryd.prog.globalNamed "strconv.ErrSyntax" = some 4 := by kernel_rfl
    obtain ⟨a0, s0, hv0, _, _, _⟩ := laid_sentinel h5 hgE (ti := 68) (by kernel_rfl) Tryd.underlying68 row_es Tryd.underlying196 Tryd.underlying198 rfl rfl Tryd.underlying9 (by kernel_rfl) (by kernel_rfl)
    have h1 := World.var?_cell hgE hv0 0
    exact ⟨196, .pointer (some a0), by simpa using h1⟩
end Go.Proofs.YtfdlmimgooeioaaDoor
namespace Go.Px
theorem fmt_empty {l : List PairT} (hv : validR l = true) : fmtR l = [] ↔ ((l.length : Nat) : Int) = 0 := by
  rw [fmtR_yes hv]
  constructor
  · intro h
    cases l with
    | nil => rfl
    | cons x l => exact absurd h (fmtL_ne (by simp))
  · intro h
    have : l = [] := List.eq_nil_of_length_eq_zero (by omega)
    subst this; rfl
theorem fmtR_len (l : List PairT) : (fmtR l).length ≤ 1100 := by
  cases hv : validR l with
  | false => rw [fmtR_no hv]; simp
  | true =>
    have h1 := fmtL_len (l := l) l.length (valid_small hv) (Nat.le_refl _)
    rw [List.take_length] at h1
    have h2 := validR_len hv
    rw [fmtR_yes hv]; omega
end Go.Px
