/- What the functions compute that the law MatrixKrons reaches, proved by walking them; conditions stand at each theorem. -/
import Derived.ProofKit
import Derived.OpenShut
import Derived.ChangeOld
import Derived.SizedLaws
import Derived.Lib.SmallJoins
import Derived.Test.YtgcgajeagdaenaaCMatrixKronsA1
namespace Go.Proofs.Ytgcgajeagdaenaa
open Go.RowKit Go.Proofs.YtgcgajeagdaenaaW.PrintWords
set_option linter.unusedVariables false
set_option linter.unusedSimpArgs false

theorem nI_set (xs : List UInt8) (i : Nat) (x : UInt8) : (nI xs).set i (x.toNat : Int) = nI (xs.set i x) := by simp [nI, List.map_set]
theorem nI_snoc (xs : List UInt8) (x : UInt8) : nI xs ++ [(x.toNat : Int)] = nI (xs ++ [x]) := by simp [nI]
theorem nI_app (xs ys : List UInt8) : nI xs ++ nI ys = nI (xs ++ ys) := by simp [nI]
theorem nI_nil : nI [] = [] := rfl
theorem nI_rep (n : Nat) : List.replicate n (0 : Int) = nI (List.replicate n 0) := by simp [nI]
theorem nI_take (xs : List UInt8) (n : Nat) : (nI xs).take n = nI (xs.take n) := by simp [nI, List.map_take]
theorem nI_drop (xs : List UInt8) (n : Nat) : (nI xs).drop n = nI (xs.drop n) := by simp [nI, List.map_drop]
theorem rd_nI (xs : List UInt8) (i : Nat) : rd (nI xs) (i : Int) = ((xs.getD i 0).toNat : Int) := by
  unfold rd nI
  rw [Int.toNat_natCast, List.getD_eq_getElem?_getD, List.getElem?_map, List.getD_eq_getElem?_getD]
  cases xs[i]? <;> simp
theorem w64 {e : Int} (h0 : -9223372036854775808 ≤ e) (h1 : e ≤ 9223372036854775807) : wrap64 e = e := by
  unfold wrap64
  omega
theorem w64_nat {n : Nat} (h : n ≤ 9223372036854775807) : wrap64 (n : Int) = (n : Int) := w64 (by omega) (by omega)
theorem w64_succ {i : Nat} (h : i ≤ 9223372036854775806) : wrap64 ((i : Int) + 1) = ((i + 1 : Nat) : Int) := by
  rw [w64 (by omega) (by omega)]; rfl
theorem w64_mul {i c : Nat} (h : i * c ≤ 9223372036854775807) : wrap64 ((i : Int) * (c : Int)) = ((i * c : Nat) : Int) := by
  rw [← Int.natCast_mul, w64 (by omega) (by omega)]
theorem w64_add {i c : Nat} (h : i + c ≤ 9223372036854775807) : wrap64 ((i : Int) + (c : Int)) = ((i + c : Nat) : Int) := by
  rw [← Int.natCast_add, w64 (by omega) (by omega)]
theorem w64_place {i c j : Nat} (h : i * c + j ≤ 9223372036854775807) : wrap64 (wrap64 ((i : Int) * (c : Int)) + (j : Int)) = ((i * c + j : Nat) : Int) := by
  rw [w64_mul (by omega), w64_add h]
theorem getD_set_same (xs : List UInt8) (p : Nat) (x : UInt8) (h : p < xs.length) : (xs.set p x).getD p 0 = x := by
  rw [List.getD_eq_getElem?_getD, List.getElem?_set]
  simp [h]
theorem add_xor (a b : UInt8) : Go.bits .xor .u8 (a.toNat : Int) (b.toNat : Int) = ((Gf.add a b).toNat : Int) := bxor_u8 a b
end Go.Proofs.Ytgcgajeagdaenaa
namespace Go.Proofs.Ytgcgajeagdaenaa
open Go.ChangeShapes Go.WideShapes Go.ChangeAt Go.RowKit

theorem own_knob : ownKnob Try.prog.godebug = none := by kernel_rfl
theorem laid_out : laidOutB Try.prog = true := by kernel_rfl
theorem u8_of {n : Int} (h : (Lit.int .u8 n).wf = true) : ∃ u : UInt8, n = (u.toNat : Int) := by
  have hb := bounds_u8 h
  refine ⟨UInt8.ofNat n.toNat, ?_⟩
  rw [UInt8.toNat_ofNat']
  omega
theorem u8s_of : ∀ {zs : List Int}, (∀ n ∈ zs, (Lit.int .u8 n).wf = true) → ∃ xs : List UInt8, zs = xs.map fun x => (x.toNat : Int)
  | [], _ => ⟨[], rfl⟩
  | z :: zs, h => by
    obtain ⟨u, hu⟩ := u8_of (h z (by simp))
    obtain ⟨xs, hx⟩ := u8s_of (zs := zs) (fun n hn => h n (by simp [hn]))
    exact ⟨u :: xs, by simp [hu, hx]⟩
/-- A list of bytes that came in: it reads; its size is within the reach. -/
theorem open_bytes {H : Type} {enc : TypeId × Value → H} {W : World} {d : DataW H} {p : List MemPlace} {a : Option Addr} {len cap : Nat}
    (h : DataW.Trod enc Try.prog W 0 (fun _ => true) true 22 (.slice a len cap) d p) :
    ∃ (xs : List UInt8), Rd W W.heap.size a len (bVs xs) ∧ len ≤ cap ∧ cap ≤ maxLen ∧ ((d = .nil ∧ cap = 0) ∨ ∃ es rs : List (DataW H), d = .slice es rs ∧ es.length + rs.length = cap) := by
  obtain ⟨fuel, hf⟩ := h
  have hlt := DataW.trod_lt fuel _ _ _ hf
  rcases open_ints Try.underlying22 Try.underlying5 (by kernel_rfl) hf with ⟨hcs, hx⟩ | ⟨x, l, c, zs, hcs, _, hl, hm, hz, hx, hcell, hwz⟩
  · simp [Value.cells] at hcs
    obtain ⟨rfl, rfl, rfl⟩ := hcs
    exact ⟨[], Rd.nil, Nat.le_refl _, Nat.zero_le _, .inl ⟨by simpa using congrArg Prod.fst hx, rfl⟩⟩
  · simp [Value.cells] at hcs
    obtain ⟨rfl, rfl, rfl⟩ := hcs
    simp only [if_true] at hz
    obtain ⟨xs, rfl⟩ := u8s_of hwz
    rw [List.length_map] at hz
    refine ⟨xs.take len, ⟨by simp [bVs]; omega, fun hn => ?_⟩, hl, hm, .inr ⟨_, _, by simpa using congrArg Prod.fst hx, by simp [lits]; omega⟩⟩
    obtain ⟨g, o, rfl, hc⟩ := ints_at hcell (by rw [List.length_map]; omega)
    refine ⟨g, o, rfl, ?_, fun j u hu => ?_⟩
    · have hp : p = MemPlace.row ⟨g, o, none⟩ ((xs.map fun x => (x.toNat : Int)).length) := by simpa using congrArg Prod.snd hx
      have := hlt (.cell g o) (by rw [hp]; simp [MemPlace.row]; omega)
      exact this
    · have hj : j < (bVs (xs.take len)).length := by
        rcases Nat.lt_or_ge j (bVs (xs.take len)).length with hlt | hge
        · exact hlt
        · rw [List.getElem?_eq_none hge] at hu; cases hu
      rw [bVs_length, List.length_take] at hj
      rw [hc j (by rw [List.length_map]; omega)]
      rw [← hu]
      have hx : (xs.map fun x => (x.toNat : Int)).getD j 0 = ((xs[j]'(by omega)).toNat : Int) := by simp [List.getD]; rw [List.getElem?_eq_getElem (by omega)]; rfl
      rw [hx, bVs_get _ _ (by rw [List.length_take]; omega), List.getElem_take]
theorem bytes_of_u8 : Try.prog.bytesOf 5 = 1 := by kernel_rfl
end Go.Proofs.Ytgcgajeagdaenaa
namespace Go.Proofs.Ytgcgajeagdaenaa
open Go.ChangeShapes Go.WideShapes Go.ChangeAt Go.RowKit Go.Joins
set_option linter.unusedVariables false
set_option linter.unusedSimpArgs false

theorem cells_matrix : Try.prog.cellsOf 24 = 3 := by kernel_rfl
theorem bytes_field {H : Type} {enc : TypeId × Value → H} {W : World} {fuel : Nat} {v : Value} {y : DataW H × List MemPlace}
    (hf : DataW.trod enc Try.prog W 0 (fun _ => true) true fuel 22 [v] = some y) :
    ∃ (a : Option Addr) (len cap : Nat) (xs : List UInt8), v = .slice a len cap ∧ Rd W W.heap.size a len (bVs xs) ∧ len ≤ cap ∧ cap ≤ maxLen ∧ ((y.1 = .nil ∧ cap = 0) ∨ ∃ es rs : List (DataW H), y.1 = .slice es rs ∧ es.length + rs.length = cap) := by
  have hv : ∃ a len cap, v = .slice a len cap := by
    rcases open_ints Try.underlying22 Try.underlying5 (by kernel_rfl) hf with ⟨hcs, _⟩ | ⟨x, l, c, zs, hcs, _⟩
    · simp at hcs; exact ⟨_, _, _, hcs⟩
    · simp at hcs; exact ⟨_, _, _, hcs⟩
  obtain ⟨a, len, cap, rfl⟩ := hv
  have h : DataW.Trod enc Try.prog W 0 (fun _ => true) true 22 (.slice a len cap) y.1 y.2 := ⟨fuel, hf⟩
  obtain ⟨xs, h1, h2, h3, h4⟩ := open_bytes h
  exact ⟨a, len, cap, xs, rfl, h1, h2, h3, h4⟩
/-- A matrix that came in. -/
theorem open_matrix {H : Type} {enc : TypeId × Value → H} {W : World} {r : Reach} {b0 : Nat} {v : Value} {d : DataW H} {p : List MemPlace}
    (hv : Value.okWide Try.prog W r b0 24 v) (h : DataW.Trod enc Try.prog W 0 (fun _ => true) true 24 v d p) :
    ∃ (rr cc : Int) (a : Option Addr) (n cap : Nat) (xs : List UInt8) (d2 : DataW H), v = mV rr cc a n cap ∧ (Lit.int .i64 rr).wf = true ∧ (Lit.int .i64 cc).wf = true ∧ Rd W W.heap.size a n (bVs xs) ∧ n ≤ cap ∧ cap ≤ maxLen ∧
      d = .agg [.lit (.int .i64 rr), .lit (.int .i64 cc), d2] ∧ ((d2 = .nil ∧ cap = 0) ∨ ∃ es rs : List (DataW H), d2 = .slice es rs ∧ es.length + rs.length = cap) := by
  obtain ⟨v0, v1, v2, y0, y1, y2, m, rfl, rfl, rfl, t0, t1, t2⟩ := open_agg3 Try.underlying24 (by kernel_rfl) cells_matrix hv h
  obtain ⟨rr, e0, rfl, w0⟩ := DataW.trod_int Try.underlying3 t0
  obtain ⟨cc, e1, rfl, w1⟩ := DataW.trod_int Try.underlying3 t1
  obtain ⟨a, n, cap, xs, rfl, h1, h2, h3, h4⟩ := bytes_field t2
  simp at e0 e1
  subst e0; subst e1
  exact ⟨rr, cc, a, n, cap, xs, y2.1, rfl, w0, w1, h1, h2, h3, rfl, h4⟩
theorem sized_matrix {H : Type} {ts : List TypeId} {ds : List (DataW H)} {j : Nat} {a b : DataW H} {d2 : DataW H} {cap : Nat} (h : (DataW.weightsEach Try.prog ts ds).all (· ≤ reachBytes) = true)
    (ht : ts[j]? = some 24) (hd : ds[j]? = some (.agg [a, b, d2])) (hs : (d2 = .nil ∧ cap = 0) ∨ ∃ es rs : List (DataW H), d2 = .slice es rs ∧ es.length + rs.length = cap) : cap ≤ 140737488351232 := by
  rcases hs with ⟨_, h0⟩ | ⟨es, rs, rfl, hl⟩
  · omega
  · have := List.all_eq_true.1 h _ (DataW.weights_mem_each ht hd ((es.length + rs.length) * Try.prog.bytesOf 5) (by
      simp only [DataW.weights, Try.underlying24, DataW.weightsEach, List.map, Array.toList, Try.underlying22]
      simp))
    rw [bytes_of_u8] at this
    simp only [reachBytes] at this
    have h2 := of_decide_eq_true this
    omega
end Go.Proofs.Ytgcgajeagdaenaa
