/- Bridges between this proof's words on lists of bytes and the print's words. -/
import Derived.Test.YthbjcafldbocpaaMem
import Derived.Test.YthbjcafldbocpaaWWords
namespace Go.Proofs.Ythbjcafldbocpaa
open Go.RowKit Go.Proofs.YthbjcafldbocpaaW.PrintWords
set_option linter.unusedVariables false
set_option linter.unusedSimpArgs false

/-- bytes as whole numbers -/
def nI (xs : List UInt8) : List Int := xs.map fun x => (x.toNat : Int)
def toU (a : Int) : UInt8 := UInt8.ofNat a.toNat
def byteB (a : Int) : Bool := decide (0 ≤ a) && decide (a < 256)
def inU (l : List Int) : Bool := l.all byteB
theorem nI_length (xs : List UInt8) : (nI xs).length = xs.length := by simp [nI]
theorem toU_nat (x : UInt8) : toU (x.toNat : Int) = x := by simp [toU]
theorem toU_of {a : Int} (h : byteB a = true) : ((toU a).toNat : Int) = a := by
  simp [byteB] at h
  unfold toU
  rw [UInt8.toNat_ofNat']
  omega
theorem byteB_nat (x : UInt8) : byteB (x.toNat : Int) = true := by
  have h := x.toNat_lt
  have h0 : decide ((0 : Int) ≤ (x.toNat : Int)) = true := decide_eq_true (by omega)
  have h1 : decide ((x.toNat : Int) < 256) = true := decide_eq_true (by omega)
  unfold byteB
  rw [h0, h1]; rfl
theorem inU_nI (xs : List UInt8) : inU (nI xs) = true := by
  unfold inU
  rw [List.all_eq_true]
  intro a ha
  obtain ⟨x, _, rfl⟩ := List.mem_map.1 ha
  exact byteB_nat x
theorem nI_of : ∀ {l : List Int}, inU l = true → nI (l.map toU) = l
  | [], _ => rfl
  | a :: l, h => by
    have h' : byteB a = true ∧ inU l = true := by
      unfold inU at h ⊢
      rw [List.all_cons, Bool.and_eq_true] at h
      exact h
    have h2 := nI_of (l := l) h'.2
    have h3 := toU_of h'.1
    show ((toU a).toNat : Int) :: nI (l.map toU) = a :: l
    rw [h3, h2]
theorem nI_toU : ∀ xs : List UInt8, (nI xs).map toU = xs
  | [] => rfl
  | x :: xs => by
    have h2 := nI_toU xs
    simp only [nI, List.map_cons] at h2 ⊢
    rw [toU_nat, h2]
theorem ints_of {l : List Int} (h : inU l = true) : ∃ xs : List UInt8, l = nI xs := ⟨_, (nI_of h).symm⟩
theorem nI_get (xs : List UInt8) (j : Nat) : (nI xs)[j]? = xs[j]?.map fun x => (x.toNat : Int) := by simp [nI]
theorem addr_add (g o j : Nat) : (⟨g, o, none⟩ : Addr).add j = ⟨g, o + j, none⟩ := by unfold Addr.add; split <;> simp_all
theorem one_drop {α : Type} (l : List α) (j : Nat) (h : j < l.length) : (l.drop j).take 1 = [l[j]] := by
  rw [List.drop_eq_getElem_cons h]
  rfl
theorem lt_of_cell {w : World} {g o : Nat} {u : Value} (h : w.cell? ⟨g, o, none⟩ = some u) : g < w.heap.size := by
  rcases Nat.lt_or_ge g w.heap.size with hlt | hge
  · exact hlt
  · simp only [World.cell?, Array.getElem?_eq_none hge] at h
    cases h
theorem spot_of_cell {w : World} {g o : Nat} {s : Option Nat} {u : Value} (h : w.cell? ⟨g, o, s⟩ = some u) : s = none := by
  cases s with
  | none => rfl
  | some s =>
    simp only [World.cell?] at h
    split at h
    · simp at h
    · cases h
theorem rd_of_C {w : World} {A : Option Addr} {xs : List UInt8} (h : Kd.C (Kd.int .u8) w A (nI xs).length (nI xs)) : Rd w w.heap.size A xs.length (bVs xs) := by
  obtain ⟨h1, h2, h3⟩ := h
  refine ⟨bVs_length xs, fun hn => ?_⟩
  rw [nI_length] at h3
  obtain ⟨ad, rfl, hc⟩ := h3 hn
  have hcell : ∀ j (hj : j < xs.length), w.cell? (ad.add j) = some (.int .u8 ((xs[j]).toNat : Int)) := by
    intro j hj
    obtain ⟨c, e1, e2, e3⟩ := hc j ((xs[j]).toNat : Int) (by rw [nI_get, List.getElem?_eq_getElem hj]; rfl)
    have e2' : c = [.int .u8 ((xs[j]).toNat : Int)] := e2
    have e4 := e3 0 (.int .u8 ((xs[j]).toNat : Int)) (by rw [e2']; rfl)
    have e5 : (Kd.int .u8).sz = 1 := rfl
    rw [e5, Nat.mul_one, Nat.add_zero] at e4
    exact e4
  have h0 := hcell 0 hn
  obtain ⟨g, o, s⟩ := ad
  have hs : s = none := by
    have h1 : (⟨g, o, s⟩ : Addr).add 0 = ⟨g, o, s⟩ := by unfold Addr.add; simp
    rw [h1] at h0
    exact spot_of_cell h0
  subst hs
  rw [addr_add] at h0
  refine ⟨g, o, rfl, lt_of_cell h0, fun j u hu => ?_⟩
  · have hj : j < xs.length := by
      rcases Nat.lt_or_ge j xs.length with hlt | hge
      · exact hlt
      · rw [List.getElem?_eq_none (by rw [bVs_length]; exact hge)] at hu; cases hu
    rw [bVs_get xs j hj] at hu
    rw [← hu, ← addr_add]
    exact hcell j hj
theorem C_of_rd {w : World} {B : Nat} {A : Option Addr} {xs : List UInt8} (h : Rd w B A xs.length (bVs xs)) (hm : xs.length ≤ 9223372036854775807) : Kd.C (Kd.int .u8) w A (nI xs).length (nI xs) := by
  refine ⟨rfl, by rw [nI_length]; exact hm, fun hn => ?_⟩
  rw [nI_length] at hn
  obtain ⟨g, o, rfl, hg, hc⟩ := h.2 hn
  refine ⟨_, rfl, fun j p hp => ⟨[.int .u8 p], rfl, rfl, fun i u hu => ?_⟩⟩
  have hj : j < xs.length := by
    rcases Nat.lt_or_ge j xs.length with hlt | hge
    · exact hlt
    · rw [List.getElem?_eq_none (by rw [nI_length]; exact hge)] at hp; cases hp
  rw [nI_get, List.getElem?_eq_getElem hj] at hp
  simp at hp
  subst hp
  cases i with
  | zero =>
    simp at hu
    subst hu
    have e5 : (Kd.int .u8).sz = 1 := rfl
    rw [e5, Nat.mul_one, Nat.add_zero, addr_add]
    exact hc j _ (bVs_get xs j hj)
  | succ i => simp at hu
theorem reps_bytes (R : Int → List Value → Prop) (hR : ∀ x : UInt8, R (x.toNat : Int) [.int .u8 (x.toNat : Int)]) (xs : List UInt8) : Reps R 1 (nI xs) (bVs xs) := by
  refine ⟨by rw [bVs_length, nI_length, Nat.mul_one], fun j p hp => ?_⟩
  have hj : j < xs.length := by
    rcases Nat.lt_or_ge j xs.length with hlt | hge
    · exact hlt
    · rw [List.getElem?_eq_none (by rw [nI_length]; exact hge)] at hp; cases hp
  rw [nI_get, List.getElem?_eq_getElem hj] at hp
  simp at hp
  subst hp
  have e : ((bVs xs).drop (j * 1)).take 1 = [.int .u8 ((xs[j]).toNat : Int)] := by
    rw [Nat.mul_one, one_drop _ _ (by rw [bVs_length]; exact hj)]
    simp [bVs]
  rw [e]
  exact hR _
theorem R_of_own {w : World} {base n cap : Nat} {A : Option Addr} {xs : List UInt8} (h : OwnB w base A n cap xs) : Kd.R (Kd.int .u8) 5 w base (fun _ => True) (.slice A n cap) (nI xs) := by
  refine ⟨fun _ _ => trivial, bVs xs, ?_, reps_bytes _ (fun x => rfl) xs⟩
  have e : (nI xs).length = n := by rw [nI_length]; exact h.1
  rw [e]
  exact h.2
/-- two slices that lie in two blocks -/
def Apart (A1 A2 : Option Addr) : Prop := ∀ g, A1 = some ⟨g, 0, none⟩ → A2 ≠ some ⟨g, 0, none⟩
theorem Apart.symm {A1 A2 : Option Addr} (h : Apart A1 A2) : Apart A2 A1 := fun g h1 h2 => h g h2 h1
theorem OwnB.addr {w : World} {base n cap : Nat} {A : Option Addr} {xs : List UInt8} (h : OwnB w base A n cap xs) : A = none ∨ ∃ g, A = some ⟨g, 0, none⟩ := by
  rcases h.2.2 with ⟨h1, _⟩ | ⟨g, c, cur, hv, _⟩
  · simp only [Value.slice.injEq] at h1
    exact .inl h1.1
  · simp only [Value.slice.injEq] at hv
    exact .inr ⟨g, hv.1⟩
theorem apart_own {w : World} {b1 b2 n1 n2 c1 c2 : Nat} {A1 A2 : Option Addr} {xs ys : List UInt8} (h1 : OwnB w b1 A1 n1 c1 xs) (h2 : OwnB w b2 A2 n2 c2 ys) (h : Apart A1 A2) : ∀ k, (Value.slice A1 n1 c1).ownBlock = some k → some k ≠ (Value.slice A2 n2 c2).ownBlock := by
  intro k e
  rcases h1.addr with rfl | ⟨g, rfl⟩
  · cases e
  · simp only [Value.ownBlock, Option.some.injEq] at e
    subst e
    rcases h2.addr with rfl | ⟨g2, rfl⟩
    · simp [Value.ownBlock]
    · simp only [Value.ownBlock, ne_eq, Option.some.injEq]
      intro e2
      subst e2
      exact h g rfl rfl
theorem R_of_own_ok {w : World} {base n cap : Nat} {A : Option Addr} {xs : List UInt8} {ok : Nat → Prop} (h : OwnB w base A n cap xs) (hk : ∀ k, (Value.slice A n cap).ownBlock = some k → ok k) : Kd.R (Kd.int .u8) 5 w base ok (.slice A n cap) (nI xs) := by
  refine ⟨hk, bVs xs, ?_, reps_bytes _ (fun x => rfl) xs⟩
  have e : (nI xs).length = n := by rw [nI_length]; exact h.1
  rw [e]
  exact h.2
/-- what the print says of a row of bytes that was made -/
theorem own_of_R {w : World} {base : Nat} {v : Value} {l : List Int} (h : Kd.R (Kd.int .u8) 5 w base (fun _ => True) v l) (hl : inU l = true) : ∃ A cap, v = .slice A l.length cap ∧ l.length ≤ cap ∧ OwnB w base A l.length cap (l.map toU) := by
  obtain ⟨A, c, rfl, hc, _⟩ := Kd.R_reads h
  obtain ⟨_, inner, ho, hr⟩ := h
  obtain ⟨xs, rfl⟩ := ints_of hl
  have e : inner = bVs xs := by
    have hlen : inner.length = xs.length := by have := hr.1; rw [nI_length] at this; have e5 : (Kd.int .u8).sz = 1 := rfl; rw [e5] at this; omega
    apply List.ext_getElem (by rw [hlen, bVs_length])
    intro j h1 h2
    have hj : j < xs.length := by omega
    have hp := hr.2 j ((xs[j]).toNat : Int) (by rw [nI_get, List.getElem?_eq_getElem hj]; rfl)
    have e5 : (Kd.int .u8).sz = 1 := rfl
    rw [e5, Nat.mul_one, one_drop _ _ h1] at hp
    have hp' : [inner[j]] = [.int .u8 ((xs[j]).toNat : Int)] := hp
    simp at hp'
    rw [hp']
    simp [bVs]
  subst e
  refine ⟨A, c, rfl, hc, ?_, ?_⟩
  · rw [nI_toU, nI_length]
  · rw [nI_toU]; exact ho
end Go.Proofs.Ythbjcafldbocpaa
