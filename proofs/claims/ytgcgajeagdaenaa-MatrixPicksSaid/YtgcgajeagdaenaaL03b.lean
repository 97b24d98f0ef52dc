/- The walk of the law MatrixPicks. -/
import Derived.Test.YtgcgajeagdaenaaPick
import Derived.Test.YtgcgajeagdaenaaRPick
import Derived.Test.YtgcgajeagdaenaaLike3
import Derived.Test.YtgcgajeagdaenaaCtx
import Derived.Deep.RegionHeld3
namespace Go.Proofs.Ytgcgajeagdaenaa
open Go.RowKit
set_option linter.unusedVariables false
set_option linter.unusedSimpArgs false

set_option maxRecDepth 100000 in
set_option maxHeartbeats 3200000 in
theorem matrixPicks_calls (r c : Int) (A : Option Addr) (n cap : Nat) (xs : List UInt8) (Az : Option Addr) (nz capz : Nat) (zs : List Int) (w : World) (br : -9223372036854775808 ≤ r ∧ r ≤ 9223372036854775807) (bc : -9223372036854775808 ≤ c ∧ c ≤ 9223372036854775807) (rd : Rd w w.heap.size A n (bVs xs)) (lc : n ≤ cap) (cr : cap ≤ 140737488351232)
    (rz : Rd w w.heap.size Az nz (iVs zs)) (lz : nz ≤ capz) (cz : capz ≤ 140737488351232) :
    Calls Try.prog 4 #[mV r c A n cap, .slice Az nz capz] w fun e w' => e = .returned (.bool true) ∧ Below w.heap.size w w' := by
  clear br bc
  have hnz : nz ≤ 140737488355328 := by omega
  have hB0 : Below w.heap.size w (w.alloc (.cells #[.int .i64 r, .int .i64 c, .slice A n cap] 24)) := (Below.refl _ _).alloc (Nat.le_refl _) _
  have HZ := Lib.hid (fun x (h : Below w.heap.size w x) => rz.go h)
  have S := ((Ctx.start w).add rd).box [.int .i64 r, .int .i64 c, .slice A n cap]
  have C0 := S.cells 0 rfl
  obtain ⟨c0, c1, c2⟩ := C0
  clear lz rz hB0
  have HPK := Lib.hid (fun w (h1 : Rd w w.heap.size A n (bVs xs)) (h2 : Rd w w.heap.size Az nz (iVs zs)) => pick_calls r c A n cap xs Az nz capz zs w h1 h2 hnz lc)
  have HRP := Lib.hid (fun w (h1 : Rd w w.heap.size A n (bVs xs)) (h2 : Rd w w.heap.size Az nz (iVs zs)) => refPick_calls r c A n cap xs Az nz capz zs w h1 h2 hnz)
  unfold PickPost at HPK HRP
  generalize pkR (rightB r c n) r zs = R at *
  generalize pkC (rightB r c n) r c zs = C at *
  generalize pkD (rightB r c n) r c xs zs = D at *
  generalize pickE (rightB r c n) r zs = E at *
  go_enter Try.func4, Try.ntmps4
  go_wp2_with fail
  refine (HPK.out _ (S.rd 0 rfl) (HZ.out _ S.below)).mono ?_; rintro e w1 ⟨A1, n1, cap1, rfl, ho, hb⟩
  replace S := ((S.go hb).add ho.rd).box [.int .i64 R, .int .i64 C, .slice A1 n1 cap1]
  have hs : w.heap.size < w1.heap.size := Nat.lt_of_lt_of_le (by simp) hb.size
  clear hb ho
  obtain ⟨c0, c1, c2⟩ := S.cells 1 rfl
  go_wp2_with fail
  refine (HRP.out _ (S.rd 1 rfl) (HZ.out _ S.below)).mono ?_; rintro e w2 ⟨A2, n2, cap2, rfl, ho, hb⟩
  have hs2 : w1.heap.size < w2.heap.size := Nat.lt_of_lt_of_le (by simp) hb.size
  have HL : n1 = n2 := by have h1 := (S.rd 0 rfl).len; have h2 := ho.rd.len; omega
  replace S := ((S.go hb).add ho.rd).box [.int .i64 R, .int .i64 C, .slice A2 n2 cap2]
  clear hb ho
  subst HL
  obtain ⟨c0, c1, c2⟩ := S.cells 0 rfl
  obtain ⟨d0, d1, d2⟩ := S.cells 1 rfl
  go_wp2_with fail
  refine (like3_self R C A1 n1 cap1 E A2 n1 cap2 D _ (S.rd 1 rfl) (S.rd 0 rfl)).mono ?_; rintro e w3 ⟨rfl, hb⟩
  go_wp2_with fail
  go_ret
  exact ⟨rfl, S.below.trans (hb.mono S.below.size)⟩
end Go.Proofs.Ytgcgajeagdaenaa
