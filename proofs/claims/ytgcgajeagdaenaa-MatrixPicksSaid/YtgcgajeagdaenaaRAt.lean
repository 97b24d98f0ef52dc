/- The walk of the document's At. -/
import Derived.Test.YtgcgajeagdaenaaMatW
namespace Go.Proofs.Ytgcgajeagdaenaa
open Go.RowKit
set_option linter.unusedVariables false
set_option linter.unusedSimpArgs false

set_option maxHeartbeats 800000 in
theorem at_calls (r c i j k : Nat) (A : Option Addr) (n cap : Nat) (xs : List UInt8) (w : World) (hr : Rd w w.heap.size A n (bVs xs)) (hk : Hid (k = i * c)) (hkj : k + j < n) (hn : n ≤ 4096) :
    Calls Try.prog 48 #[mV r c A n cap, .int .i64 (i : Int), .int .i64 (j : Int)] w fun e w' => e = .returned (.int .u8 ((xs.getD (k + j) 0).toNat : Int)) ∧ Below w.heap.size w w' := by
  have e1 : IntKind.i64.wrap ((i : Int) * (c : Int)) = (k : Int) := by rw [← Int.natCast_mul, ← hk.out, IntKind.wrap_i64]; omega
  have hB : Below w.heap.size w (w.alloc (Obj.cells #[.int .i64 (r : Int), .int .i64 (c : Int), .slice A n cap] 24)) := (Below.refl _ _).alloc (Nat.le_refl _) _
  obtain ⟨g, o, rfl, hg, hcell⟩ := rd_get (hr.below hB (Nat.le_refl _)) hkj
  have HB := Lib.hid hB
  have HR := Lib.hid hr
  obtain ⟨x, hx⟩ : ∃ x, x = xs.getD (k + j) 0 := ⟨_, rfl⟩
  rw [← hx] at hcell ⊢
  have hcell2 := (World.cell?_alloc_lt w (Obj.cells #[.int .i64 (r : Int), .int .i64 (c : Int), .slice (some ⟨g, o, none⟩) n cap] 24) ⟨g, o + (k + j), none⟩ (by omega)).symm.trans hcell
  clear hx hB hr hcell
  go_enter Try.func48, Try.ntmps48
  go_wp2_with fail
  go_ret
  exact ⟨rfl, HB.out⟩
end Go.Proofs.Ytgcgajeagdaenaa
