/- Mac, Sum, Dot of lists of any lengths: one contract each. -/
import Derived.Test.YtkalponomccaiaaMac
import Derived.Test.YtkalponomccaiaaDot
import Derived.Test.YtkalponomccaiaaRefL
namespace Go.Proofs.Ytkalponomccaiaa
open Go.RowKit
set_option linter.unusedVariables false
set_option linter.unusedSimpArgs false

def Gf.macR (ds : List UInt8) (c : UInt8) (ss : List UInt8) : List UInt8 := if ds.length = ss.length then Gf.macL ds c ss else []
def Gf.dotR (xs ys : List UInt8) : UInt8 := if xs.length = ys.length then Gf.dot xs ys else 0
def Gf.shE (n m : Nat) : Int := if n = m then 0 else 3
theorem macR_len (ds ss : List UInt8) (c : UInt8) : (Gf.macR ds c ss).length ≤ ds.length := by
  unfold Gf.macR
  split
  · next h => rw [macL_length c h]; omega
  · exact Nat.zero_le _

theorem mac_any (dst : Option Addr) (n dc : Nat) (c : UInt8) (src : Option Addr) (m sc : Nat) (ds ss : List UInt8) (w : World) (hd : Rd w w.heap.size dst n (bVs ds)) (hs : Rd w w.heap.size src m (bVs ss)) (hn : n ≤ 140737488355328) :
    Calls Try.prog 29 #[.slice dst n dc, .int .u8 (c.toNat : Int), .slice src m sc] w fun e w' => ∃ A' n' cap', e = .returned (.tuple #[.slice A' n' cap', .int .i64 (Gf.shE n m)]) ∧ OwnB w' w.heap.size A' n' cap' (Gf.macR ds c ss) ∧ Below w.heap.size w w' := by
  have l1 := hd.len
  have l2 := hs.len
  rw [bVs_length] at l1 l2
  by_cases h : n = m
  · subst h
    refine (mac_calls dst n dc c src sc ds ss w hd hs hn).mono ?_
    rintro e w' ⟨A', c', rfl, ho, hb⟩
    refine ⟨A', n, c', by unfold Gf.shE; rw [if_pos rfl], ?_, hb⟩
    unfold Gf.macR; rw [if_pos (by omega)]; exact ho
  · refine (mac_no dst n dc c src m sc w h).mono ?_
    rintro e w' ⟨rfl, rfl⟩
    refine ⟨none, 0, 0, by unfold Gf.shE; rw [if_neg h], ?_, Below.refl _ _⟩
    unfold Gf.macR; rw [if_neg (by omega)]
    exact ⟨rfl, rfl, .inl ⟨rfl, rfl⟩⟩
theorem refMac_any (dst : Option Addr) (n dc : Nat) (c : UInt8) (src : Option Addr) (m sc : Nat) (ds ss : List UInt8) (w : World) (hd : Rd w w.heap.size dst n (bVs ds)) (hs : Rd w w.heap.size src m (bVs ss)) (hn : n ≤ 140737488355328) :
    Calls Try.prog 28 #[.slice dst n dc, .int .u8 (c.toNat : Int), .slice src m sc] w fun e w' => ∃ A' n' cap', e = .returned (.tuple #[.slice A' n' cap', .int .i64 (Gf.shE n m)]) ∧ OwnB w' w.heap.size A' n' cap' (Gf.macR ds c ss) ∧ Below w.heap.size w w' := by
  have l1 := hd.len
  have l2 := hs.len
  rw [bVs_length] at l1 l2
  by_cases h : n = m
  · subst h
    refine (refMac_calls dst n dc c src sc ds ss w hd hs hn).mono ?_
    rintro e w' ⟨A', c', rfl, ho, hb⟩
    refine ⟨A', n, c', by unfold Gf.shE; rw [if_pos rfl], ?_, hb⟩
    unfold Gf.macR; rw [if_pos (by omega)]; exact ho
  · refine (refMac_no dst n dc c src m sc w h).mono ?_
    rintro e w' ⟨rfl, rfl⟩
    refine ⟨none, 0, 0, by unfold Gf.shE; rw [if_neg h], ?_, Below.refl _ _⟩
    unfold Gf.macR; rw [if_neg (by omega)]
    exact ⟨rfl, rfl, .inl ⟨rfl, rfl⟩⟩
theorem dot_any (a : Option Addr) (n ac : Nat) (b : Option Addr) (m bc : Nat) (xs ys : List UInt8) (w : World) (ha : Rd w w.heap.size a n (bVs xs)) (hb : Rd w w.heap.size b m (bVs ys)) (hn : n ≤ 140737488355328) :
    Calls Try.prog 30 #[.slice a n ac, .slice b m bc] w fun e w' => e = .returned (.tuple #[.int .u8 ((Gf.dotR xs ys).toNat : Int), .int .i64 (Gf.shE n m)]) ∧ Below w.heap.size w w' := by
  have l1 := ha.len
  have l2 := hb.len
  rw [bVs_length] at l1 l2
  by_cases h : n = m
  · subst h
    refine (dot_calls a n ac b bc xs ys w ha hb hn).mono ?_
    rintro e w' ⟨rfl, hb⟩
    exact ⟨by unfold Gf.shE Gf.dotR; rw [if_pos rfl, if_pos (by omega)], hb⟩
  · refine (dot_no a n ac b m bc w h).mono ?_
    rintro e w' ⟨rfl, rfl⟩
    exact ⟨by unfold Gf.shE Gf.dotR; rw [if_neg h, if_neg (by omega)]; rfl, Below.refl _ _⟩
theorem refDot_any (a : Option Addr) (n ac : Nat) (b : Option Addr) (m bc : Nat) (xs ys : List UInt8) (w : World) (ha : Rd w w.heap.size a n (bVs xs)) (hb : Rd w w.heap.size b m (bVs ys)) (hn : n ≤ 140737488355328) :
    Calls Try.prog 31 #[.slice a n ac, .slice b m bc] w fun e w' => e = .returned (.tuple #[.int .u8 ((Gf.dotR xs ys).toNat : Int), .int .i64 (Gf.shE n m)]) ∧ Below w.heap.size w w' := by
  have l1 := ha.len
  have l2 := hb.len
  rw [bVs_length] at l1 l2
  by_cases h : n = m
  · subst h
    refine (refDot_calls a n ac b bc xs ys w ha hb hn).mono ?_
    rintro e w' ⟨rfl, hb⟩
    exact ⟨by unfold Gf.shE Gf.dotR; rw [if_pos rfl, if_pos (by omega)], hb⟩
  · refine (refDot_no a n ac b m bc w h).mono ?_
    rintro e w' ⟨rfl, rfl⟩
    exact ⟨by unfold Gf.shE Gf.dotR; rw [if_neg h, if_neg (by omega)]; rfl, Below.refl _ _⟩
set_option maxHeartbeats 400000 in
theorem sum_any (dst : Option Addr) (n dc : Nat) (src : Option Addr) (m sc : Nat) (ds ss : List UInt8) (w : World) (hd : Rd w w.heap.size dst n (bVs ds)) (hs : Rd w w.heap.size src m (bVs ss)) (hn : n ≤ 140737488355328) :
    Calls Try.prog 27 #[.slice dst n dc, .slice src m sc] w fun e w' => ∃ A' n' cap', e = .returned (.tuple #[.slice A' n' cap', .int .i64 (Gf.shE n m)]) ∧ OwnB w' w.heap.size A' n' cap' (Gf.macR ds 1 ss) ∧ Below w.heap.size w w' := by
  have h := mac_any dst n dc 1 src m sc ds ss w hd hs hn
  have H := Lib.hid h
  clear h
  go_enter Try.func27, Try.ntmps27
  go_wp2_with (go_at_call 29; refine H.out.mono ?_; rintro e w1 ⟨A1, n1, c1, rfl, ho1, hb1⟩)
  go_ret2
  exact ⟨_, _, _, rfl, ho1, hb1⟩
end Go.Proofs.Ytkalponomccaiaa
