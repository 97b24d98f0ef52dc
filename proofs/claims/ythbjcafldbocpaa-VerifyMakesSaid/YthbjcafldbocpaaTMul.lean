/- The walk of a product over the tables. -/
import Derived.Test.YthbjcafldbocpaaTab
import Derived.Test.YthbjcafldbocpaaMem
import Derived.Deep.QuietTactic
import Derived.BigQuiet
import Derived.IntWalk
namespace Go.Proofs.Ythbjcafldbocpaa
open Go.RowKit
set_option linter.unusedVariables false
set_option linter.unusedSimpArgs false

theorem tab_exp {w : World} {g : Nat} {t : TypeId} {T : Array Value} (hT : IsTab T) (h : w.heap[g]? = some (.cells T t (0, 0))) (i : Nat) (hi : i < 510) : w.cell? ⟨g, i, none⟩ = some (.int .u8 ((Gf.ex i).toNat : Int)) := by
  rw [cell_of_row _ _ _ _ _ _ h]; exact hT.exp i hi
theorem tab_log {w : World} {g : Nat} {t : TypeId} {T : Array Value} (hT : IsTab T) (h : w.heap[g]? = some (.cells T t (0, 0))) {a : UInt8} (ha : a ≠ 0) : w.cell? ⟨g, 510 + a.toNat, none⟩ = some (.int .i64 (Gf.lg a : Int)) := by
  rw [cell_of_row _ _ _ _ _ _ h]; exact hT.log ha
/-- block g holds the tables -/
def HasTab (w : World) (g : Nat) : Prop := ∃ T, IsTab T ∧ w.heap[g]? = some (.cells T 135 (0, 0))
theorem HasTab.mk {w : World} {g : Nat} {T : Array Value} (hT : IsTab T) (h : w.heap[g]? = some (.cells T 135 (0, 0))) : HasTab w g := ⟨T, hT, h⟩
theorem HasTab.lt {w : World} {g : Nat} (h : HasTab w g) : g < w.heap.size := by
  obtain ⟨T, _, h⟩ := h
  rcases Nat.lt_or_ge g w.heap.size with hlt | hge
  · exact hlt
  · rw [Array.getElem?_eq_none hge] at h; cases h
theorem HasTab.of_block {w w' : World} {g : Nat} (h : HasTab w g) (hb : w'.heap[g]? = w.heap[g]?) : HasTab w' g := by
  obtain ⟨T, hT, h⟩ := h; exact ⟨T, hT, hb.trans h⟩
theorem HasTab.drewN {w : World} {g : Nat} (h : HasTab w g) (n : Nat) : HasTab (w.drewN n) g := h
theorem HasTab.exp {w : World} {g : Nat} (h : HasTab w g) (i : Nat) (hi : i < 510) : w.cell? ⟨g, i, none⟩ = some (.int .u8 ((Gf.ex i).toNat : Int)) := by
  obtain ⟨T, hT, h⟩ := h; exact tab_exp hT h i hi
theorem HasTab.log {w : World} {g : Nat} (h : HasTab w g) {a : UInt8} (ha : a ≠ 0) : w.cell? ⟨g, 510 + a.toNat, none⟩ = some (.int .i64 (Gf.lg a : Int)) := by
  obtain ⟨T, hT, h⟩ := h; exact tab_log hT h ha

set_option maxRecDepth 100000 in
set_option maxHeartbeats 400000 in
theorem tmul_calls (g : Nat) (a b : UInt8) (w : World) (h : HasTab w g) :
    Calls Try.prog 71 #[.pointer (some ⟨g, 0, none⟩), .int .u8 (a.toNat : Int), .int .u8 (b.toNat : Int)] w fun e w' => e = .returned (.int .u8 ((Gf.mul a b).toNat : Int)) ∧ ∃ n, w' = w.drewN n := by
  have ha := u8_eq_zero a
  have hb := u8_eq_zero b
  by_cases h1 : a = 0
  · have hz := Lib.hid (show Gf.mul a b = 0 by rw [h1, Gf.mul_zero_left])
    rw [decide_eq_true h1] at ha
    clear h1 hb
    go_enter Try.func71, Try.ntmps71
    go_wp2_with fail
    go_ret
    exact ⟨by rw [hz.out]; rfl, 0, rfl⟩
  by_cases h2 : b = 0
  · have hz := Lib.hid (show Gf.mul a b = 0 by rw [h2, Gf.mul_zero])
    rw [decide_eq_true h2] at hb
    rw [decide_eq_false h1] at ha
    clear h1 h2
    go_enter Try.func71, Try.ntmps71
    go_wp2_with fail
    go_ret
    exact ⟨by rw [hz.out]; rfl, 0, rfl⟩
  have hz := Lib.hid (Gf.mul_eq h1 h2)
  have c1 := h.log h1
  have c2 := h.log h2
  have l1 := Gf.lg_bd h1
  have l2 := Gf.lg_bd h2
  have c3 := h.exp (Gf.lg a + Gf.lg b) (by omega)
  rw [decide_eq_false h2] at hb
  rw [decide_eq_false h1] at ha
  have ba := a.toNat_lt
  have bb := b.toNat_lt
  generalize Gf.lg a = x at *
  generalize Gf.lg b = y at *
  clear h1 h2 h
  go_enter Try.func71, Try.ntmps71
  go_wp2_with fail
  have e1 : IntKind.i64.wrap ((x : Int) + (y : Int)) = (x : Int) + (y : Int) := IntWalk.i64_in _ (by omega)
  have e2 : ((x : Int) + (y : Int)).toNat = x + y := by omega
  have e3 : 0 ≤ (x : Int) + (y : Int) := by omega
  go_quiet (fail)
  go_wp2_with fail
  go_ret
  exact ⟨by rw [hz.out]; rfl, _, rfl⟩

end Go.Proofs.Ythbjcafldbocpaa
