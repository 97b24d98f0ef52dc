/- Words: rows that are picked. -/
import Derived.Test.YtgcgajeagdaenaaMatW
namespace Go.Proofs.Ytgcgajeagdaenaa
open Go.RowKit
set_option linter.unusedVariables false
set_option linter.unusedSimpArgs false

def iVs (zs : List Int) : List Value := zs.map fun z => .int .i64 z
theorem iVs_length (zs : List Int) : (iVs zs).length = zs.length := by simp [iVs]
theorem rd_int {w : World} {B : Nat} {A : Option Addr} {n : Nat} {zs : List Int} (h : Rd w B A n (iVs zs)) {k : Nat} (hk : k < n) :
    ∃ g o, A = some ⟨g, o, none⟩ ∧ g < B ∧ w.cell? ⟨g, o + k, none⟩ = some (.int .i64 (zs.getD k 0)) := by
  obtain ⟨g, o, u, hA, hg, hu, hc⟩ := h.at_ hk
  have hl : k < zs.length := by have := h.len; rw [iVs_length] at this; omega
  refine ⟨g, o, hA, hg, ?_⟩
  rw [hc, ← hu]
  simp [iVs, List.getD, hl]
/-- is each of them a row -/
def rowsB (r : Int) (zs : List Int) : Bool := zs.all fun z => decide (0 ≤ z ∧ z < r)
theorem rowsB_get {r : Int} {zs : List Int} (h : rowsB r zs = true) {k : Nat} (hk : k < zs.length) : 0 ≤ zs.getD k 0 ∧ zs.getD k 0 < r := by
  have := List.all_eq_true.1 h _ (List.getElem_mem hk)
  simpa [List.getD, hk] using this
theorem rowsB_no {r : Int} {zs : List Int} (h : ∀ k, k < zs.length → 0 ≤ zs.getD k 0 ∧ zs.getD k 0 < r) : rowsB r zs = true := by
  unfold rowsB
  rw [List.all_eq_true]
  intro z hz
  obtain ⟨k, hk, rfl⟩ := List.getElem_of_mem hz
  have := h k hk
  simpa [List.getD, hk] using this
/-- the rows, one behind the other -/
def pickD (c : Nat) (xs : List UInt8) (zs : List Int) : List UInt8 := zs.flatMap fun z => (xs.drop (z.toNat * c)).take c
theorem pick_len {c r : Nat} {xs : List UInt8} {zs : List Int} (hx : xs.length = r * c) (h : rowsB r zs = true) : (pickD c xs zs).length = zs.length * c := by
  induction zs with
  | nil => simp [pickD]
  | cons z zs ih =>
    simp only [rowsB, List.all_cons, Bool.and_eq_true, decide_eq_true_eq] at h
    simp only [pickD, List.flatMap_cons, List.length_append, List.length_take, List.length_drop, List.length_cons] at ih ⊢
    rw [ih h.2, hx, Nat.add_mul]
    have h1 : (z.toNat + 1) * c ≤ r * c := Nat.mul_le_mul_right c (by omega)
    rw [Nat.add_mul] at h1
    omega
theorem pick_snoc {c : Nat} {xs : List UInt8} {zs : List Int} {i : Nat} (hi : i < zs.length) : pickD c xs (zs.take (i + 1)) = pickD c xs (zs.take i) ++ (xs.drop ((zs.getD i 0).toNat * c)).take c := by
  rw [List.take_succ_eq_append_getElem hi]
  simp only [pickD, List.flatMap_append, List.flatMap_cons, List.flatMap_nil, List.append_nil, List.getD]
  rw [List.getElem?_eq_getElem hi]
  rfl
def pickE (rt : Bool) (r : Int) (zs : List Int) : Int := if rt = false then 3 else if rowsB r zs = false then 2 else if 64 < zs.length then 4 else 0
def pkR (rt : Bool) (r : Int) (zs : List Int) : Int := if pickE rt r zs = 0 then zs.length else 0
def pkC (rt : Bool) (r c : Int) (zs : List Int) : Int := if pickE rt r zs = 0 then c else 0
def pkD (rt : Bool) (r c : Int) (xs : List UInt8) (zs : List Int) : List UInt8 := if pickE rt r zs = 0 then pickD c.toNat xs zs else []
end Go.Proofs.Ytgcgajeagdaenaa
