/- The looker's end: a panic of its own is taken up, and the answer is false. -/
import Derived.Test.YthbjcafldbocpaaVcatch
import Derived.Test.YthbjcafldbocpaaVstepu
namespace Go.Proofs.Ythbjcafldbocpaa
open Go.RowKit
set_option linter.unusedVariables false
set_option linter.unusedSimpArgs false
theorem wp_noFrame {P : Program} {id : Nat} {ops : Array Oper} {b : Bool} {Q Q' : Exit → Act → World → Prop} {a : Act} {w : World} (h : (Code.region id ops b).wp P Q' a w) (hq : ∀ e a w, Q' e a w → Q e a w) : (Code.region id ops b).wp P Q a w :=
  Code.wp_mono hq h
/-- at a panic: what is known of the frame and of the world -/
def PanQ (p : Addr) (ds : List Deferred) (R : World → Prop) (Q : Exit → Act → World → Prop) : Exit → Act → World → Prop
  | .panic c, a, w => c = giveUp ∧ a.tmps[2]? = some (.pointer (some p)) ∧ a.defers = ds ∧ R w
  | e, a, w => Q e a w
theorem PanQ.put {p : Addr} {ds : List Deferred} {R : World → Prop} {Q : Exit → Act → World → Prop} {d : Nat} (hd : d ≠ 2) {v : Value} (c : List PanicEntry) (a : Act) (w : World) (h : PanQ p ds R Q (.panic c) (a.put (some d) v) w) : PanQ p ds R Q (.panic c) a w := by
  obtain ⟨h1, h2, h3, h4⟩ := h
  refine ⟨h1, ?_, h3, h4⟩
  rw [← h2]
  simp only [Act.put]
  rw [Array.getElem?_setIfInBounds_ne hd]
theorem wp_panQ {P : Program} {id : Nat} {ops : Array Oper} {b : Bool} {Q : Exit → Act → World → Prop} {a : Act} {w : World} (p : Addr) (ds : List Deferred) (R : World → Prop) (h : (Code.region id ops b).wp P (PanQ p ds R Q) a w) (hq : ∀ a w, a.tmps[2]? = some (.pointer (some p)) → a.defers = ds → R w → Q (.panic giveUp) a w) : (Code.region id ops b).wp P Q a w := by
  refine Code.wp_mono (fun e a w h => ?_) h
  cases e with
  | panic c => obtain ⟨rfl, h2, h3, h4⟩ := h; exact hq a w h2 h3 h4
  | _ => exact h
theorem door_panic {R : Ending → World → Prop} {a : Act} {w : World} {g : Nat} {u : Value} (ht : a.tmps[2]? = some (.pointer (some ⟨g, 0, none⟩))) (hd : a.defers = [{ target := .fn (Fn.func 63) #[.pointer (some ⟨g, 0, none⟩)], args := #[] }])
    (hr : Row w g 4 [u]) (h : R (.returned (.bool false)) ((w.alloc (.cells #[] 125)).setCell ⟨g, 0, none⟩ (.bool false))) : bodyPostD Try.prog Try.f49 R (.panic giveUp) a w := by
  show Leaves Try.prog Try.f49 a.tmps R a.defers (.panicking giveUp) w
  rw [hd]
  refine leaves_cons (f := 63) (args := #[.pointer (some ⟨g, 0, none⟩)]) (by simp) (by simp [go_sem]) ?_
  refine (catch_panic g w u hr).mono ?_
  rintro e u' w'' ⟨rfl, rfl, rfl⟩
  have hc := ((hr.alloc (.cells #[] 125)).set 0 (.bool false)).cell 0
  simp [Leaves, settle, results, Try.results49, go_sem, ht, hc, h]
theorem door_ret {R : Ending → World → Prop} {a : Act} {w : World} {g : Nat} {b : Bool} (ht : a.tmps[2]? = some (.pointer (some ⟨g, 0, none⟩))) (hd : a.defers = [{ target := .fn (Fn.func 63) #[.pointer (some ⟨g, 0, none⟩)], args := #[] }])
    (hr : Row w g 4 [.bool b]) (h : R (.returned (.bool b)) w) : bodyPostD Try.prog Try.f49 R .ret a w := by
  show Leaves Try.prog Try.f49 a.tmps R a.defers .returning w
  rw [hd]
  refine leaves_cons (f := 63) (args := #[.pointer (some ⟨g, 0, none⟩)]) (by simp) (by simp [go_sem]) ?_
  refine (catch_idle ⟨g, 0, none⟩ w).mono ?_
  rintro e u' w'' ⟨rfl, rfl, rfl⟩
  have hc := hr.cell 0
  simp [Leaves, settle, results, Try.results49, go_sem, ht, hc, h]
end Go.Proofs.Ythbjcafldbocpaa
