/- The walk of Transpose. -/
import Derived.Test.YtgcgajeagdaenaaTurn
import Derived.Test.YtgcgajeagdaenaaMatR
namespace Go.Proofs.Ytgcgajeagdaenaa
open Go.RowKit
set_option linter.unusedVariables false
set_option linter.unusedSimpArgs false

set_option maxRecDepth 100000 in
set_option maxHeartbeats 3200000 in
theorem trans_no (r c : Int) (A : Option Addr) (n cap : Nat) (w : World) (h : rightB r c n = false) :
    Calls Try.prog 32 #[mV r c A n cap] w fun e w' => e = .returned (.tuple #[mV 0 0 none 0 0, .int .i64 3]) ∧ Below w.heap.size w w' := by
  have HR1 := Lib.hid (fun w => right_calls r c A n cap w)
  rw [h] at HR1
  clear h
  have S := ((Ctx.start w).box [.int .i64 r, .int .i64 c, .slice A n cap]).box [.int .i64 0, .int .i64 0, .slice none 0 0]
  simp only [World.size_alloc] at S
  obtain ⟨c0, c1, c2⟩ := S.cells 1 rfl
  obtain ⟨e0, e1, e2, f0, f1, f2⟩ := (S.row 0 rfl).three
  have hsz := S.lt 0 rfl
  go_enter Try.func32, Try.ntmps32
  go_wp2_with (go_at_call 17; refine (HR1.out _).mono ?_; rintro e w1 ⟨rfl, hb⟩; replace S := S.go hb; clear hb c0 c1 c2 e0 e1 e2 f0 f1 f2 hsz; have hsz := S.lt 0 rfl; obtain ⟨c0, c1, c2⟩ := S.cells 1 rfl; obtain ⟨e0, e1, e2, f0, f1, f2⟩ := (S.row 0 rfl).three)
  exact bodyPost_ret (v := .tuple #[mV 0 0 none 0 0, .int .i64 3]) (by simp [results, Try.results32, go_sem, e0, e1, e2, f0, f1, f2]) rfl ⟨rfl, below_set3 S.below (by omega) _ _ _⟩
set_option maxRecDepth 100000 in
set_option maxHeartbeats 3200000 in
theorem trans_yes (r c n : Nat) (A : Option Addr) (cap : Nat) (xs : List UInt8) (w : World) (hr : r ≤ 64) (hc : c ≤ 64) (hn : Hid (n = r * c)) (hx : Rd w w.heap.size A n (bVs xs)) (hcap : n ≤ cap) :
    Calls Try.prog 32 #[mV r c A n cap] w fun e w' => ∃ g, e = .returned (.tuple #[mV c r g n n, .int .i64 0]) ∧ OwnB w' w.heap.size g n n (turnD r c xs) ∧ Below w.heap.size w w' := by
  have HR1 := Lib.hid (fun w => right_calls r c A n cap w)
  rw [show rightB r c n = true by simp [rightB, hn.out]; omega] at HR1
  have HT := Lib.hid (fun w h => turned_calls r c n A cap xs w hr hc hn h hcap)
  have hle : n ≤ 64 * 64 := by rw [hn.out]; exact Nat.mul_le_mul hr hc
  have S := (((Ctx.start w).add hx).box [.int .i64 r, .int .i64 c, .slice A n cap]).box [.int .i64 0, .int .i64 0, .slice none 0 0]
  simp only [World.size_alloc] at S
  obtain ⟨c0, c1, c2⟩ := S.cells 1 rfl
  obtain ⟨e0, e1, e2, f0, f1, f2⟩ := (S.row 0 rfl).three
  have hsz := S.lt 0 rfl
  have hs2 := S.below.size
  go_enter Try.func32, Try.ntmps32
  go_wp2_with (go_at_call 17; refine (HR1.out _).mono ?_; rintro e w1 ⟨rfl, hb⟩; replace S := S.go hb; clear hb c0 c1 c2 e0 e1 e2 f0 f1 f2 hsz; have hsz := S.lt 0 rfl; obtain ⟨c0, c1, c2⟩ := S.cells 1 rfl; obtain ⟨e0, e1, e2, f0, f1, f2⟩ := (S.row 0 rfl).three)
  refine (HT.out _ (S.rd 0 rfl)).mono ?_
  rintro e w2 ⟨g, rfl, hrow, hg, hb⟩
  replace S := S.go hb
  clear hb c0 c1 c2 e0 e1 e2 f0 f1 f2
  obtain ⟨e0, e1, e2, f0, f1, f2⟩ := (S.row 0 rfl).three
  go_wp2_with fail
  refine bodyPost_ret (v := .tuple #[mV c r (some ⟨g, 0, none⟩) n n, .int .i64 0]) (by simp [results, Try.results32, go_sem, e0, e1, e2, f0, f1, f2]) rfl ⟨some ⟨g, 0, none⟩, rfl, ?_, below_set3 S.below (by omega) _ _ _⟩
  exact (hrow.far3 (by omega) _ _ _).ownB (by omega) (by rw [turnD, grid_length, hn.out, Nat.mul_comm]) (by simp only [maxLen]; omega)
end Go.Proofs.Ytgcgajeagdaenaa
