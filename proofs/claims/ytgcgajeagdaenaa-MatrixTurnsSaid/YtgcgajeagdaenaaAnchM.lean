/- The walk of anchored. -/
import Derived.Test.YtgcgajeagdaenaaMulN
import Derived.Test.YtgcgajeagdaenaaLike
import Derived.Test.YtgcgajeagdaenaaApp
namespace Go.Proofs.Ytgcgajeagdaenaa
open Go.RowKit
set_option linter.unusedVariables false
set_option linter.unusedSimpArgs false

theorem bits_1201 : bVs [1, 2, 0, 1] = [.int .u8 1, .int .u8 2, .int .u8 0, .int .u8 1] := by simp [bVs]
theorem bits_1031 : bVs [1, 0, 3, 1] = [.int .u8 1, .int .u8 0, .int .u8 3, .int .u8 1] := by simp [bVs]
theorem bits_7231 : bVs [7, 2, 3, 1] = [.int .u8 7, .int .u8 2, .int .u8 3, .int .u8 1] := by simp [bVs]
theorem mulB_small : mulB 2 2 4 2 2 4 = true := by decide
theorem mulG_small : mulG 2 2 2 [1, 2, 0, 1] [1, 0, 3, 1] = [7, 2, 3, 1] := by decide +kernel
theorem mul_small (A B : Option Addr) (w : World) (hx : Rd w w.heap.size A 4 (bVs [1, 2, 0, 1])) (hy : Rd w w.heap.size B 4 (bVs [1, 0, 3, 1])) :
    Calls Try.prog 29 #[mV 2 2 A 4 4, mV 2 2 B 4 4] w fun e w' => ∃ g, e = .returned (.tuple #[mV 2 2 g 4 4, .int .i64 0]) ∧ OwnB w' w.heap.size g 4 4 [7, 2, 3, 1] ∧ Below w.heap.size w w' := by
  have h := mul_any 2 2 2 2 A B 4 4 4 4 [1, 2, 0, 1] [1, 0, 3, 1] w hx hy (Nat.le_refl _) (Nat.le_refl _)
  rw [mulB_small] at h
  simp only [muR, muE, muN, muD, if_true] at h
  rw [show mulG (2 : Int).toNat (2 : Int).toNat (2 : Int).toNat [1, 2, 0, 1] [1, 0, 3, 1] = [7, 2, 3, 1] from mulG_small] at h
  exact h

set_option maxRecDepth 100000 in
set_option maxHeartbeats 3200000 in
theorem anchored_calls (w : World) : Calls Try.prog 30 #[] w fun e w' => e = .returned (.bool true) ∧ Below w.heap.size w w' := by
  have r1 : Rd (w.alloc (.cells #[.int .u8 1, .int .u8 2, .int .u8 0, .int .u8 1] 5)) (w.heap.size + 1) (some ⟨w.heap.size, 0, none⟩) 4 (bVs [1, 2, 0, 1]) := by
    have r := rd_new w [1, 2, 0, 1] 4 rfl 5
    rwa [show (bVs [1, 2, 0, 1]).toArray = #[.int .u8 1, .int .u8 2, .int .u8 0, .int .u8 1] by rw [bits_1201]] at r
  have HN1 := Lib.hid (fun w : World => show Rd (w.alloc (.cells #[.int .u8 1, .int .u8 0, .int .u8 3, .int .u8 1] 5)) (w.heap.size + 1) (some ⟨w.heap.size, 0, none⟩) 4 (bVs [1, 0, 3, 1]) by
    have r := rd_new w [1, 0, 3, 1] 4 rfl 5
    rwa [show (bVs [1, 0, 3, 1]).toArray = #[.int .u8 1, .int .u8 0, .int .u8 3, .int .u8 1] by rw [bits_1031]] at r)
  have HN2 := Lib.hid (fun w : World => show Rd (w.alloc (.cells #[.int .u8 7, .int .u8 2, .int .u8 3, .int .u8 1] 5)) (w.heap.size + 1) (some ⟨w.heap.size, 0, none⟩) 4 (bVs [7, 2, 3, 1]) by
    have r := rd_new w [7, 2, 3, 1] 4 rfl 5
    rwa [show (bVs [7, 2, 3, 1]).toArray = #[.int .u8 7, .int .u8 2, .int .u8 3, .int .u8 1] by rw [bits_7231]] at r)
  have s1 := World.size_alloc w (.cells #[.int .u8 1, .int .u8 2, .int .u8 0, .int .u8 1] 5)
  have h1 : Below w.heap.size w ((w.alloc (.cells #[.int .u8 1, .int .u8 2, .int .u8 0, .int .u8 1] 5)).alloc (.cells #[.int .u8 1, .int .u8 0, .int .u8 3, .int .u8 1] 5)) := ((Below.refl _ _).alloc (Nat.le_refl _) _).alloc (by simp) _
  have rd1 := (r1.below ((Below.refl _ _).alloc (Nat.le_refl _) (.cells #[.int .u8 1, .int .u8 0, .int .u8 3, .int .u8 1] 5)) (by simp)).more (B' := ((w.alloc (.cells #[.int .u8 1, .int .u8 2, .int .u8 0, .int .u8 1] 5)).alloc (.cells #[.int .u8 1, .int .u8 0, .int .u8 3, .int .u8 1] 5)).heap.size) (by simp)
  have rd2 := (HN1.out (w.alloc (.cells #[.int .u8 1, .int .u8 2, .int .u8 0, .int .u8 1] 5))).more (B' := ((w.alloc (.cells #[.int .u8 1, .int .u8 2, .int .u8 0, .int .u8 1] 5)).alloc (.cells #[.int .u8 1, .int .u8 0, .int .u8 3, .int .u8 1] 5)).heap.size) (by simp)
  rw [s1] at rd2
  clear s1 r1
  go_enter Try.func30, Try.ntmps30
  go_wp2_with fail
  refine (mul_small _ _ _ rd1 rd2).mono ?_
  rintro e w1 ⟨g, rfl, ho, hb⟩
  have S := (((Ctx.start w).go h1).go hb).box [.int .i64 2, .int .i64 2, .slice g 4 4]
  obtain ⟨c0, c1, c2⟩ := S.cells 0 rfl
  have S2 := S.alloc (.cells #[.int .u8 7, .int .u8 2, .int .u8 3, .int .u8 1] 5)
  have r3 := (HN2.out (w1.alloc (.cells #[.int .i64 2, .int .i64 2, .slice g 4 4] 24))).more (B' := ((w1.alloc (.cells #[.int .i64 2, .int .i64 2, .slice g 4 4] 24)).alloc (.cells #[.int .u8 7, .int .u8 2, .int .u8 3, .int .u8 1] 5)).heap.size) (by simp)
  have r4 := ho.rd.go (((Below.refl _ _).alloc (Nat.le_refl _) (.cells #[.int .i64 2, .int .i64 2, .slice g 4 4] 24)).alloc (by simp) (.cells #[.int .u8 7, .int .u8 2, .int .u8 3, .int .u8 1] 5))
  rw [World.size_alloc w1 (.cells #[.int .i64 2, .int .i64 2, .slice g 4 4] 24)] at r3
  have HS2 := Lib.hid S2
  clear rd1 rd2 h1 hb ho S S2
  go_wp2_with fail
  refine (like_self 2 2 g 4 4 _ 4 4 [7, 2, 3, 1] _ r4 r3).mono ?_
  rintro e w2 ⟨rfl, hb⟩
  go_wp2_with fail
  go_ret
  exact ⟨rfl, HS2.out.below.trans (hb.mono HS2.out.below.size)⟩
end Go.Proofs.Ytgcgajeagdaenaa
