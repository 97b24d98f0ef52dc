/- The walk of looker.step: a step that adds a register to itself. -/
import Derived.Test.YthbjcafldbocpaaVstepf
namespace Go.Proofs.Ythbjcafldbocpaa
open Go.RowKit
set_option linter.unusedVariables false
set_option linter.unusedSimpArgs false
set_option maxRecDepth 100000 in
theorem step_self (gk D : Nat) (C : UInt8) (w : World) :
    Calls Try.prog 64 #[.pointer (some ⟨gk, 0, none⟩), .agg #[.int .u8 3, .int .i64 (D : Int), .int .i64 (D : Int), .int .u8 (C.toNat : Int)]] w fun e w' => e = .panicked giveUp ∧ Below w.heap.size w w' := by
  go_enter Try.func64, Try.ntmps64
  go_wp2_with fail
  obtain ⟨w1, hw1⟩ : ∃ w1, w1 = w.alloc (.cells #[.int .u8 3, .int .i64 (D : Int), .int .i64 (D : Int), .int .u8 (C.toNat : Int)] 59) := ⟨_, rfl⟩
  have q : Below w.heap.size w w1 := by rw [hw1]; exact (Below.refl _ _).alloc (Nat.le_refl _) _
  rw [← hw1]
  clear hw1
  refine (need_no _).mono ?_
  rintro e w' ⟨rfl, rfl⟩
  go_wp2_with fail
  exact ⟨rfl, rfl, q⟩
/-- the fact that a register cannot be read: it lies beyond the program's, or it was not set -/
def NoReg (nr : Nat) (bs : List Bool) (r : Nat) : Prop := nr ≤ r ∨ (r < nr ∧ bs[r]? = some false)
theorem reg_no (gk gr gs go gd nr no reads n at_ loads nS cS r : Nat) (AS : Option Addr) (bs : List Bool) (w : World)
    (hk : Row w gk 82 (lkV AS nS cS nr no reads n at_ gr gs go gd loads)) (hb : Row w gs 4 (bolVs bs)) (h : NoReg nr bs r) :
    Calls Try.prog 76 #[.pointer (some ⟨gk, 0, none⟩), .int .i64 (r : Int)] w fun e w' => e = .panicked giveUp ∧ w' = w := by
  rcases h with h | ⟨h, h'⟩
  · exact reg_far gk gs r nr w (hk.cell 1) h
  · exact reg_unset gk gs r nr w (hk.cell 1) (hk.cell 7) h (by rw [hb.cell, bolVs, List.getElem?_map, h']; rfl)
set_option maxRecDepth 100000 in
theorem step_out_no (gk gr gs go gd nr no reads n at_ loads nS cS : Nat) (AS : Option Addr) (D S : Nat) (C : UInt8) (bs : List Bool) (w : World)
    (hk : Row w gk 82 (lkV AS nS cS nr no reads n at_ gr gs go gd loads)) (hb : Row w gs 4 (bolVs bs)) (h : NoReg nr bs S) :
    Calls Try.prog 64 #[.pointer (some ⟨gk, 0, none⟩), .agg #[.int .u8 4, .int .i64 (D : Int), .int .i64 (S : Int), .int .u8 (C.toNat : Int)]] w fun e w' => e = .panicked giveUp ∧ Below w.heap.size w w' := by
  go_enter Try.func64, Try.ntmps64
  go_wp2_with fail
  obtain ⟨w1, hw1⟩ : ∃ w1, w1 = w.alloc (.cells #[.int .u8 4, .int .i64 (D : Int), .int .i64 (S : Int), .int .u8 (C.toNat : Int)] 59) := ⟨_, rfl⟩
  have q : Below w.heap.size w w1 := by rw [hw1]; exact (Below.refl _ _).alloc (Nat.le_refl _) _
  have hk1 := hk.below q hk.lt
  have hb1 := hb.below q hb.lt
  rw [← hw1]
  clear hw1
  refine (reg_no gk gr gs go gd nr no reads n at_ loads nS cS S AS bs w1 hk1 hb1 h).mono ?_
  rintro e w' ⟨rfl, rfl⟩
  go_wp2_with fail
  exact ⟨rfl, rfl, q⟩
end Go.Proofs.Ythbjcafldbocpaa
