/- Words for the rows: how a list of ints that came in reads. -/
import Derived.Test.YtgcgajeagdaenaaRowAid
import Derived.Test.YtgcgajeagdaenaaPickW
namespace Go.Proofs.Ytgcgajeagdaenaa
open Go.ChangeShapes Go.WideShapes Go.ChangeAt Go.RowKit

theorem bytes_of_int : Try.prog.bytesOf 3 = 8 := by kernel_rfl
/-- A list of ints that came in: it reads; its size is within the reach. -/
theorem open_intlist {H : Type} {enc : TypeId × Value → H} {W : World} {d : DataW H} {p : List MemPlace} {a : Option Addr} {len cap : Nat}
    (h : DataW.Trod enc Try.prog W 0 (fun _ => true) true 35 (.slice a len cap) d p) :
    ∃ (zs : List Int), Rd W W.heap.size a len (iVs zs) ∧ len ≤ cap ∧ cap ≤ maxLen ∧ ((d = .nil ∧ cap = 0) ∨ ∃ es rs : List (DataW H), d = .slice es rs ∧ es.length + rs.length = cap) ∧ (∀ z ∈ zs, -9223372036854775808 ≤ z ∧ z ≤ 9223372036854775807) := by
  obtain ⟨fuel, hf⟩ := h
  have hlt := DataW.trod_lt fuel _ _ _ hf
  rcases open_ints Try.underlying35 Try.underlying3 (by kernel_rfl) hf with ⟨hcs, hx⟩ | ⟨x, l, c, zs, hcs, _, hl, hm, hz, hx, hcell, hwz⟩
  · simp [Value.cells] at hcs
    obtain ⟨rfl, rfl, rfl⟩ := hcs
    exact ⟨[], Rd.nil, Nat.le_refl _, Nat.zero_le _, .inl ⟨by simpa using congrArg Prod.fst hx, rfl⟩, fun z hz => absurd hz (by simp)⟩
  · simp [Value.cells] at hcs
    obtain ⟨rfl, rfl, rfl⟩ := hcs
    simp only [if_true] at hz
    refine ⟨zs.take len, ⟨by simp [iVs]; omega, fun hn => ?_⟩, hl, hm, .inr ⟨_, _, by simpa using congrArg Prod.fst hx, by simp [lits]; omega⟩, fun z hz => bounds_i64 (hwz z (List.mem_of_mem_take hz))⟩
    obtain ⟨g, o, rfl, hc⟩ := ints_at hcell (by omega)
    refine ⟨g, o, rfl, ?_, fun j u hu => ?_⟩
    · have hp : p = MemPlace.row ⟨g, o, none⟩ zs.length := by simpa using congrArg Prod.snd hx
      exact hlt (.cell g o) (by rw [hp]; simp [MemPlace.row]; omega)
    · have hj : j < (iVs (zs.take len)).length := by
        rcases Nat.lt_or_ge j (iVs (zs.take len)).length with hlt | hge
        · exact hlt
        · rw [List.getElem?_eq_none hge] at hu; cases hu
      rw [iVs_length, List.length_take] at hj
      rw [hc j (by omega), ← hu]
      simp [iVs, List.getD]
      rw [List.getElem?_take_of_lt (by omega), List.getElem?_eq_getElem (by omega), List.getElem?_map, List.getElem?_eq_getElem (by omega)]
      rfl
end Go.Proofs.Ytgcgajeagdaenaa
