/- The law's own program: clear 0; load 1 0; mac 0 1 5; out 0 0. -/
import Derived.Test.YthbjcafldbocpaaVcheck
import Derived.Test.YthbjcafldbocpaaVdo3
namespace Go.Proofs.Ythbjcafldbocpaa
open Go.RowKit Go.Proofs.YthbjcafldbocpaaW.PrintWords Go.Proofs.Ythbjcafldbocpaa.P0
set_option linter.unusedVariables false
set_option linter.unusedSimpArgs false
def fiveL : List S59 := [⟨1, 0, 0, 0⟩, ⟨2, 1, 0, 0⟩, ⟨3, 0, 1, 5⟩, ⟨4, 0, 0, 0⟩]
theorem five_check : checkV fiveL 2 1 1 2 = (4, 0) := by decide +kernel
theorem five_may : mayB fiveL 2 1 = true := by decide +kernel
theorem five_run : vAll 2 1 1 2 (fiveL.map psOf) = (4, some ⟨[some [5, 0], some [1, 0]], [some [5, 0]], 1⟩) := by
  rfl
theorem five_bytes : ∀ s ∈ fiveL, byteB s.f3 = true := by decide +kernel
def cs59 (s : S59) : List Value := [.int .u8 s.f0, .int .i64 s.f1, .int .i64 s.f2, .int .u8 s.f3]
theorem fm_get : ∀ (l : List S59) (j i : Nat) (s : S59), l[j]? = some s → i < 4 → (l.flatMap cs59)[j * 4 + i]? = (cs59 s)[i]?
  | [], j, i, s, h, _ => by simp at h
  | x :: l, 0, i, s, h, hi => by
    simp at h
    subst h
    rw [List.flatMap_cons, Nat.zero_mul, Nat.zero_add, List.getElem?_append_left (by simpa [cs59] using hi)]
  | x :: l, j + 1, i, s, h, hi => by
    rw [List.flatMap_cons, List.getElem?_append_right (by simp [cs59]; omega), show (j + 1) * 4 + i - (cs59 x).length = j * 4 + i by simp [cs59]; omega]
    exact fm_get l j i s (by simpa using h) hi
theorem C_of_row {W : World} {g : Nat} {t : TypeId} {l : List S59} (h : Row W g t (l.flatMap cs59)) (hl : l.length ≤ 9223372036854775807) : Kd.C k59 W (some ⟨g, 0, none⟩) l.length l := by
  refine ⟨rfl, hl, fun _ => ⟨⟨g, 0, none⟩, rfl, fun j s hs => ⟨cs59 s, rfl, k59_mk W s, fun i u hu => ?_⟩⟩⟩
  have hi : i < 4 := by
    rcases Nat.lt_or_ge i 4 with h | h
    · exact h
    · rw [List.getElem?_eq_none (by simpa [cs59] using h)] at hu; cases hu
  rw [addr_add, Nat.zero_add, show k59.sz = 4 from rfl, h.cell, fm_get l j i s hs hi]
  exact hu
theorem five_calls (w : World) : Calls Try.prog 32 #[] w fun e w' => ∃ A c, e = .returned (progV A fiveL.length c 2 1 1) ∧ Kd.C k59 w' A fiveL.length fiveL ∧ fiveL.length ≤ c ∧ Below w.heap.size w w' := by
  have h0 := Row.new w [.slice (some ⟨w.heap.size + 1, 0, none⟩) 4 4, .int .i64 2, .int .i64 1, .int .u64 1] 26
  have h1 := h0.alloc (.cells (fiveL.flatMap cs59).toArray 59)
  have d0 := h1.cell 0
  have d1 := h1.cell 1
  have d2 := h1.cell 2
  have d3 := h1.cell 3
  have h2 := Row.new (w.alloc (.cells [.slice (some ⟨w.heap.size + 1, 0, none⟩) 4 4, .int .i64 2, .int .i64 1, .int .u64 1].toArray 26)) (fiveL.flatMap cs59) 59
  rw [show (w.alloc (.cells [Value.slice (some ⟨w.heap.size + 1, 0, none⟩) 4 4, .int .i64 2, .int .i64 1, .int .u64 1].toArray 26)).heap.size = w.heap.size + 1 by simp] at h2
  have HC := Lib.hid (C_of_row h2 (by decide))
  have HB := Lib.hid (show Below w.heap.size w ((w.alloc (.cells [.slice (some ⟨w.heap.size + 1, 0, none⟩) 4 4, .int .i64 2, .int .i64 1, .int .u64 1].toArray 26)).alloc (.cells (fiveL.flatMap cs59).toArray 59)) from ((Below.refl _ _).alloc (Nat.le_refl _) _).alloc (by simp) _)
  obtain ⟨W2, hW2⟩ : ∃ W2, W2 = (w.alloc (.cells [.slice (some ⟨w.heap.size + 1, 0, none⟩) 4 4, .int .i64 2, .int .i64 1, .int .u64 1].toArray 26)).alloc (.cells (fiveL.flatMap cs59).toArray 59) := ⟨_, rfl⟩
  rw [← hW2] at d0 d1 d2 d3 HC HB
  have HW2 := Lib.hid hW2
  clear hW2 h0 h1 h2
  go_enter Try.func32, Try.ntmps32
  go_wp2_with fail
  have e2 : (w.alloc (.cells #[.slice (some ⟨w.heap.size + 1, 0, none⟩) 4 4, .int .i64 2, .int .i64 1, .int .u64 1] 26)).alloc (.cells #[.int .u8 1, .int .i64 0, .int .i64 0, .int .u8 0, .int .u8 2, .int .i64 1, .int .i64 0, .int .u8 0, .int .u8 3, .int .i64 0, .int .i64 1, .int .u8 5, .int .u8 4, .int .i64 0, .int .i64 0, .int .u8 0] 59) = W2 := HW2.out.symm
  rw [e2]
  simp only [List.getElem?_cons_zero, List.getElem?_cons_succ] at d0 d1 d2 d3
  refine bodyPost_ret (v := progV (some ⟨w.heap.size + 1, 0, none⟩) 4 4 2 1 1) (by simp [progV, results, Try.results32, go_sem, d0, d1, d2, d3]) rfl ?_
  exact ⟨_, 4, rfl, HC.out, by decide, HB.out⟩
end Go.Proofs.Ythbjcafldbocpaa
