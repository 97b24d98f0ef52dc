/- The walk of subset.Has. -/
import Derived.Test.YthbjcafldbocpaaVstepg
import Derived.Test.YthbjcafldbocpaaVpl
import Derived.Laws.BitsAllLaws
namespace Go.Proofs.Ythbjcafldbocpaa
open Go.RowKit
set_option linter.unusedVariables false
set_option linter.unusedSimpArgs false
theorem ret_b {a b : Bool} (h : a = b) : Ending.returned (.bool a) = .returned (.bool b) := by rw [h]
theorem testb_u64 (p i : Nat) (hp : p < 2 ^ 64) : (bits BinOp.and IntKind.u64 ((p : Int) / 2 ^ i) 1 == 1) = p.testBit i := by
  have e : ((p : Int) / 2 ^ i) = ((p / 2 ^ i : Nat) : Int) := by simp
  have hb : p / 2 ^ i < 2 ^ 64 := Nat.lt_of_le_of_lt (Nat.div_le_self _ _) hp
  rw [e, show (1 : Int) = ((1 : Nat) : Int) from rfl, u64_and_nat _ _ hb (by decide), Nat.and_one_is_mod, Nat.testBit_eq_decide_div_mod_eq, Bool.eq_iff_iff]
  simp
  omega
set_option maxRecDepth 100000 in
theorem has_calls (reads s : Nat) (hs : s < 64) (hr : reads < 2 ^ 64) (w : World) :
    Calls Try.prog 75 #[.int .u64 (reads : Int), .int .i64 (s : Int)] w fun e w' => e = .returned (.bool (reads.testBit s)) ∧ w' = w := by
  have h1 : decide ((s : Int) < 64) = true := decide_eq_true (by omega)
  have h0 : decide ((0 : Int) ≤ (s : Int)) = true := decide_eq_true (by omega)
  go_enter Try.func75, Try.ntmps75
  go_wp2_with fail
  go_ret
  exact ⟨ret_b (testb_u64 reads s hr), rfl⟩
theorem has_is (reads s : Nat) (hs : s < 64) (hr : reads < 2 ^ 64) (b : Bool) (h : reads.testBit s = b) (w : World) :
    Calls Try.prog 75 #[.int .u64 (reads : Int), .int .i64 (s : Int)] w fun e w' => e = .returned (.bool b) ∧ w' = w := by
  subst h
  exact has_calls reads s hs hr w
end Go.Proofs.Ythbjcafldbocpaa
