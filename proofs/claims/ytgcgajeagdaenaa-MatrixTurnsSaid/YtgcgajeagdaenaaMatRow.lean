/- The walk of row. -/
import Derived.Test.YtgcgajeagdaenaaMatW
import Derived.Deep.QuietTactic
import Derived.BigQuiet
namespace Go.Proofs.Ytgcgajeagdaenaa
open Go.RowKit
set_option linter.unusedVariables false
set_option linter.unusedSimpArgs false

/-- where a row begins -/
def rowA (A : Option Addr) (c k : Nat) : Option Addr := if c = 0 then A else A.map (·.add k)
theorem rowA_plain {g o c k : Nat} (h : c ≠ 0) : rowA (some ⟨g, o, none⟩) c k = some ⟨g, o + k, none⟩ := by
  unfold rowA
  rw [if_neg h]
  simp [Addr.add]
theorem rd_row {w : World} {B n c k : Nat} {A : Option Addr} {xs : List UInt8} (h : Rd w B A n (bVs xs)) (hk : k + c ≤ n) : Rd w B (rowA A c k) c (bVs ((xs.drop k).take c)) := by
  have hl := h.len
  rw [bVs_length] at hl
  refine ⟨by rw [bVs_length, List.length_take, List.length_drop]; omega, fun hc => ?_⟩
  obtain ⟨g, o, rfl, hg, hcell⟩ := h.2 (by omega)
  refine ⟨g, o + k, rowA_plain (by omega), hg, fun j u hu => ?_⟩
  rw [Nat.add_assoc]
  refine hcell (k + j) u ?_
  rw [← hu]
  have hj : j < c := by
    rcases Nat.lt_or_ge j c with h | h
    · exact h
    · rw [List.getElem?_eq_none (by rw [bVs_length, List.length_take]; omega)] at hu; cases hu
  simp [bVs, List.getElem?_take, hj, List.getElem?_drop]
set_option maxHeartbeats 800000 in
theorem row_calls (r c i : Nat) (A : Option Addr) (n cap k k1 : Nat) (w : World) (hr : r ≤ 64) (hc : c ≤ 64) (hi : i < r) (hk : Hid (k = i * c)) (hk1 : Hid (k1 = (i + 1) * c)) (hn : k1 ≤ n) (hcap : n ≤ cap) :
    Calls Try.prog 46 #[mV r c A n cap, .int .i64 (i : Int)] w fun e w' => e = .returned (.slice (rowA A c k) c c) ∧ Below w.heap.size w w' := by
  have hkc : k + c = k1 := by rw [hk.out, hk1.out, Nat.add_mul]; omega
  have hb : k1 ≤ 4096 := by
    rw [hk1.out]
    exact Nat.le_trans (Nat.mul_le_mul (show i + 1 ≤ 64 by omega) hc) (by omega)
  have e1 : IntKind.i64.wrap ((i : Int) * (c : Int)) = (k : Int) := by rw [← Int.natCast_mul, ← hk.out, IntKind.wrap_i64]; omega
  have e2 : IntKind.i64.wrap (((i : Int) + 1) * (c : Int)) = (k1 : Int) := by
    have : ((i : Int) + 1) * (c : Int) = ((i + 1) * c : Nat) := by simp
    rw [this, ← hk1.out, IntKind.wrap_i64]; omega
  have HKC := Lib.hid hkc
  have e3 : IntKind.i64.wrap ((i : Int) + 1) = (i : Int) + 1 := by rw [IntKind.wrap_i64]; omega
  have hkk : k ≤ k1 := by omega
  by_cases hz : c = 0
  · obtain rfl : k1 = k := by omega
    have HA := Lib.hid (show rowA A c k1 = A by unfold rowA; rw [if_pos hz])
    have HZ := Lib.hid hz
    clear hz hkc
    go_enter Try.func46, Try.ntmps46
    go_wp2_with fail
    go_quiet (fail)
    go_wp2_with fail
    go_ret
    exact ⟨by rw [HA.out, HZ.out]; rfl, below_drewN ((Below.refl _ _).alloc (Nat.le_refl _) _) _⟩
  · have hne : ¬ k1 = k := by omega
    have HA := Lib.hid (show rowA A c k = A.map (·.add k) by unfold rowA; rw [if_neg hz])
    have HE := Lib.hid (show k1 - k = c by omega)
    clear hz hkc
    go_enter Try.func46, Try.ntmps46
    go_wp2_with fail
    go_quiet (fail)
    go_wp2_with fail
    go_ret
    exact ⟨by rw [HA.out]; show Ending.returned (Value.slice _ (k1 - k) (k1 - k)) = _; rw [HE.out], below_drewN ((Below.refl _ _).alloc (Nat.le_refl _) _) _⟩
end Go.Proofs.Ytgcgajeagdaenaa
