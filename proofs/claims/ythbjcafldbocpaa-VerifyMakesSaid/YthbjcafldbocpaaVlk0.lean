/- The makes of a looker's rows. -/
import Derived.Test.YthbjcafldbocpaaVall
import Derived.Laws.MakeOwn
namespace Go.Proofs.Ythbjcafldbocpaa
open Go.RowKit
set_option linter.unusedVariables false
set_option linter.unusedSimpArgs false
theorem content_info : (Try.prog.info? 87).map (fun i => (i.zero, i.size, i.bytes)) = some (some (.agg (Array.replicate 64 (.int .u8 0))), 64, 64) := by kernel_rfl
theorem bool_info : (Try.prog.info? 4).map (fun i => (i.zero, i.size, i.bytes)) = some (some (.bool false), 1, 1) := by kernel_rfl
theorem made_same (z : Array Value) (u : Value) (n : Nat) (hz : 0 < z.size) (h : ∀ i, i < z.size → z[i]! = u) : madeCells z n = (List.replicate n u).toArray := by
  apply Array.ext
  · simp [madeCells]
  · intro i h1 h2
    simp only [madeCells, Array.getElem_map, List.getElem_toArray, List.getElem_replicate]
    exact h _ (Nat.mod_lt _ hz)
theorem flat_none (n : Nat) : flatR (List.replicate n none) = List.replicate (n * 64) 0 := by
  induction n with
  | zero => rfl
  | succ n ih =>
    show pad none ++ flatR (List.replicate n none) = _
    rw [ih, show pad none = List.replicate 64 0 from rfl, List.replicate_append_replicate]
    congr 1
    omega
theorem cells_agg (A : Array Value) : (Value.agg A).cells = A := rfl
theorem zeros_get (i : Nat) (h : i < (Array.replicate 64 (Value.int .u8 0)).size) : (Array.replicate 64 (Value.int .u8 0))[i]! = Value.int .u8 0 := by
  have h2 : i < 64 := by simpa using h
  rw [getElem!_def]
  simp [h2]
set_option maxRecDepth 10000 in
theorem make_content (n : Nat) (hn : n ≤ 256) (w : World) :
    (Instr.makeSlice 79 (.int .i64 (n : Int)) (.int .i64 (n : Int))).run Try.prog w = .ok (.slice (some ⟨w.heap.size, 0, none⟩) n n) (w.alloc (.cells (bVs (flatR (List.replicate n none))).toArray 87)) := by
  obtain ⟨i, hi, hz, hs, hb⟩ := info_parts content_info
  have h := run_make (P := Try.prog) w 79 87 i _ Try.underlying79 hi hz .i64 .i64 (n : Int) (n : Int) (by omega) (by omega) (by rw [hb]; omega) (by omega)
  rw [hs, Int.toNat_natCast] at h
  rw [h]
  have e : madeCells (Value.agg (Array.replicate 64 (Value.int .u8 0))).cells (n * 64) = (bVs (flatR (List.replicate n none))).toArray := by
    rw [cells_agg, made_same _ (Value.int .u8 0) _ (by rw [Array.size_replicate]; decide) zeros_get]
    congr 1
    rw [flat_none, bVs_zeros]
  rw [e]
theorem make_bools (n : Nat) (hn : n ≤ 256) (w : World) :
    (Instr.makeSlice 80 (.int .i64 (n : Int)) (.int .i64 (n : Int))).run Try.prog w = .ok (.slice (some ⟨w.heap.size, 0, none⟩) n n) (w.alloc (.cells (bolVs (somes (List.replicate n none))).toArray 4)) := by
  obtain ⟨i, hi, hz, hs, hb⟩ := info_parts bool_info
  have h := run_make (P := Try.prog) w 80 4 i _ Try.underlying80 hi hz .i64 .i64 (n : Int) (n : Int) (by omega) (by omega) (by rw [hb]; omega) (by omega)
  rw [hs, Nat.mul_one, Int.toNat_natCast] at h
  rw [h]
  have e : madeCells (Value.bool false).cells n = (bolVs (somes (List.replicate n none))).toArray := by
    rw [show (Value.bool false).cells = #[Value.bool false] from rfl, made_same _ (Value.bool false) _ (by simp) (by intro i hi; simp at hi; subst hi; rfl)]
    simp [bolVs, somes]
  rw [e]
end Go.Proofs.Ythbjcafldbocpaa
