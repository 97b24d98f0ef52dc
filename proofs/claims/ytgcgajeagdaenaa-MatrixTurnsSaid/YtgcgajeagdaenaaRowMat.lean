/- Words for the rows: how a matrix that came in reads. -/
import Derived.Test.YtgcgajeagdaenaaRowAid
import Derived.Test.YtgcgajeagdaenaaMatW
import Derived.Lib.SmallJoins
namespace Go.Proofs.Ytgcgajeagdaenaa
open Go.ChangeShapes Go.WideShapes Go.ChangeAt Go.RowKit Go.Joins
set_option linter.unusedVariables false
set_option linter.unusedSimpArgs false

theorem cells_matrix : Try.prog.cellsOf 24 = 3 := by kernel_rfl
theorem bytes_field {H : Type} {enc : TypeId × Value → H} {W : World} {fuel : Nat} {v : Value} {y : DataW H × List MemPlace}
    (hf : DataW.trod enc Try.prog W 0 (fun _ => true) true fuel 22 [v] = some y) :
    ∃ (a : Option Addr) (len cap : Nat) (xs : List UInt8), v = .slice a len cap ∧ Rd W W.heap.size a len (bVs xs) ∧ len ≤ cap ∧ cap ≤ maxLen ∧ ((y.1 = .nil ∧ cap = 0) ∨ ∃ es rs : List (DataW H), y.1 = .slice es rs ∧ es.length + rs.length = cap) := by
  have hv : ∃ a len cap, v = .slice a len cap := by
    rcases open_ints Try.underlying22 Try.underlying5 (by kernel_rfl) hf with ⟨hcs, _⟩ | ⟨x, l, c, zs, hcs, _⟩
    · simp at hcs; exact ⟨_, _, _, hcs⟩
    · simp at hcs; exact ⟨_, _, _, hcs⟩
  obtain ⟨a, len, cap, rfl⟩ := hv
  have h : DataW.Trod enc Try.prog W 0 (fun _ => true) true 22 (.slice a len cap) y.1 y.2 := ⟨fuel, hf⟩
  obtain ⟨xs, h1, h2, h3, h4⟩ := open_bytes h
  exact ⟨a, len, cap, xs, rfl, h1, h2, h3, h4⟩
/-- A matrix that came in. -/
theorem open_matrix {H : Type} {enc : TypeId × Value → H} {W : World} {r : Reach} {b0 : Nat} {v : Value} {d : DataW H} {p : List MemPlace}
    (hv : Value.okWide Try.prog W r b0 24 v) (h : DataW.Trod enc Try.prog W 0 (fun _ => true) true 24 v d p) :
    ∃ (rr cc : Int) (a : Option Addr) (n cap : Nat) (xs : List UInt8) (d2 : DataW H), v = mV rr cc a n cap ∧ (Lit.int .i64 rr).wf = true ∧ (Lit.int .i64 cc).wf = true ∧ Rd W W.heap.size a n (bVs xs) ∧ n ≤ cap ∧ cap ≤ maxLen ∧
      d = .agg [.lit (.int .i64 rr), .lit (.int .i64 cc), d2] ∧ ((d2 = .nil ∧ cap = 0) ∨ ∃ es rs : List (DataW H), d2 = .slice es rs ∧ es.length + rs.length = cap) := by
  obtain ⟨v0, v1, v2, y0, y1, y2, m, rfl, rfl, rfl, t0, t1, t2⟩ := open_agg3 Try.underlying24 (by kernel_rfl) cells_matrix hv h
  obtain ⟨rr, e0, rfl, w0⟩ := DataW.trod_int Try.underlying3 t0
  obtain ⟨cc, e1, rfl, w1⟩ := DataW.trod_int Try.underlying3 t1
  obtain ⟨a, n, cap, xs, rfl, h1, h2, h3, h4⟩ := bytes_field t2
  simp at e0 e1
  subst e0; subst e1
  exact ⟨rr, cc, a, n, cap, xs, y2.1, rfl, w0, w1, h1, h2, h3, rfl, h4⟩
theorem sized_matrix {H : Type} {ts : List TypeId} {ds : List (DataW H)} {j : Nat} {a b : DataW H} {d2 : DataW H} {cap : Nat} (h : (DataW.weightsEach Try.prog ts ds).all (· ≤ reachBytes) = true)
    (ht : ts[j]? = some 24) (hd : ds[j]? = some (.agg [a, b, d2])) (hs : (d2 = .nil ∧ cap = 0) ∨ ∃ es rs : List (DataW H), d2 = .slice es rs ∧ es.length + rs.length = cap) : cap ≤ 140737488351232 := by
  rcases hs with ⟨_, h0⟩ | ⟨es, rs, rfl, hl⟩
  · omega
  · have := List.all_eq_true.1 h _ (DataW.weights_mem_each ht hd ((es.length + rs.length) * Try.prog.bytesOf 5) (by
      simp only [DataW.weights, Try.underlying24, DataW.weightsEach, List.map, Array.toList, Try.underlying22]
      simp))
    rw [bytes_of_u8] at this
    simp only [reachBytes] at this
    have h2 := of_decide_eq_true this
    omega
end Go.Proofs.Ytgcgajeagdaenaa
