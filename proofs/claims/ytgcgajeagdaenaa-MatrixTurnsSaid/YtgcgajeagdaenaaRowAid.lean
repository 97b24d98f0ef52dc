/- Words for the rows: how arguments read. -/
import Derived.Test.YtgcgajeagdaenaaMem
import Derived.ProofKit
import Derived.OpenShut
import Derived.ChangeOld
import Derived.SizedLaws
namespace Go.Proofs.Ytgcgajeagdaenaa
open Go.ChangeShapes Go.WideShapes Go.ChangeAt Go.RowKit

theorem own_knob : ownKnob Try.prog.godebug = none := by kernel_rfl
theorem laid_out : laidOutB Try.prog = true := by kernel_rfl
theorem u8_of {n : Int} (h : (Lit.int .u8 n).wf = true) : ∃ u : UInt8, n = (u.toNat : Int) := by
  have hb := bounds_u8 h
  refine ⟨UInt8.ofNat n.toNat, ?_⟩
  rw [UInt8.toNat_ofNat']
  omega
theorem u8s_of : ∀ {zs : List Int}, (∀ n ∈ zs, (Lit.int .u8 n).wf = true) → ∃ xs : List UInt8, zs = xs.map fun x => (x.toNat : Int)
  | [], _ => ⟨[], rfl⟩
  | z :: zs, h => by
    obtain ⟨u, hu⟩ := u8_of (h z (by simp))
    obtain ⟨xs, hx⟩ := u8s_of (zs := zs) (fun n hn => h n (by simp [hn]))
    exact ⟨u :: xs, by simp [hu, hx]⟩
/-- A list of bytes that came in: it reads; its size is within the reach. -/
theorem open_bytes {H : Type} {enc : TypeId × Value → H} {W : World} {d : DataW H} {p : List MemPlace} {a : Option Addr} {len cap : Nat}
    (h : DataW.Trod enc Try.prog W 0 (fun _ => true) true 22 (.slice a len cap) d p) :
    ∃ (xs : List UInt8), Rd W W.heap.size a len (bVs xs) ∧ len ≤ cap ∧ cap ≤ maxLen ∧ ((d = .nil ∧ cap = 0) ∨ ∃ es rs : List (DataW H), d = .slice es rs ∧ es.length + rs.length = cap) := by
  obtain ⟨fuel, hf⟩ := h
  have hlt := DataW.trod_lt fuel _ _ _ hf
  rcases open_ints Try.underlying22 Try.underlying5 (by kernel_rfl) hf with ⟨hcs, hx⟩ | ⟨x, l, c, zs, hcs, _, hl, hm, hz, hx, hcell, hwz⟩
  · simp [Value.cells] at hcs
    obtain ⟨rfl, rfl, rfl⟩ := hcs
    exact ⟨[], Rd.nil, Nat.le_refl _, Nat.zero_le _, .inl ⟨by simpa using congrArg Prod.fst hx, rfl⟩⟩
  · simp [Value.cells] at hcs
    obtain ⟨rfl, rfl, rfl⟩ := hcs
    simp only [if_true] at hz
    obtain ⟨xs, rfl⟩ := u8s_of hwz
    rw [List.length_map] at hz
    refine ⟨xs.take len, ⟨by simp [bVs]; omega, fun hn => ?_⟩, hl, hm, .inr ⟨_, _, by simpa using congrArg Prod.fst hx, by simp [lits]; omega⟩⟩
    obtain ⟨g, o, rfl, hc⟩ := ints_at hcell (by rw [List.length_map]; omega)
    refine ⟨g, o, rfl, ?_, fun j u hu => ?_⟩
    · have hp : p = MemPlace.row ⟨g, o, none⟩ ((xs.map fun x => (x.toNat : Int)).length) := by simpa using congrArg Prod.snd hx
      have := hlt (.cell g o) (by rw [hp]; simp [MemPlace.row]; omega)
      exact this
    · have hj : j < (bVs (xs.take len)).length := by
        rcases Nat.lt_or_ge j (bVs (xs.take len)).length with hlt | hge
        · exact hlt
        · rw [List.getElem?_eq_none hge] at hu; cases hu
      rw [bVs_length, List.length_take] at hj
      rw [hc j (by rw [List.length_map]; omega)]
      rw [← hu]
      have hx : (xs.map fun x => (x.toNat : Int)).getD j 0 = ((xs[j]'(by omega)).toNat : Int) := by simp [List.getD]; rw [List.getElem?_eq_getElem (by omega)]; rfl
      rw [hx, bVs_get _ _ (by rw [List.length_take]; omega), List.getElem_take]
theorem bytes_of_u8 : Try.prog.bytesOf 5 = 1 := by kernel_rfl
end Go.Proofs.Ytgcgajeagdaenaa
