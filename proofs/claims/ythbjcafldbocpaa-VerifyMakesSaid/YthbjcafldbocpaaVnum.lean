/- The walks of wire.num, wire.Num and of Write's closure: they answer. -/
import Derived.Test.YthbjcafldbocpaaAppV
import Derived.Test.YthbjcafldbocpaaVcell
import Derived.Laws.BitsAllLaws
namespace Go.Proofs.Ythbjcafldbocpaa
open Go.RowKit
set_option linter.unusedVariables false
set_option linter.unusedSimpArgs false
theorem byte_or (m : Nat) : ∃ y : UInt8, bits BinOp.or IntKind.u8 ((m : Int) % 256) 128 = (y.toNat : Int) := by
  refine ⟨UInt8.ofNat (m % 256 ||| 128), ?_⟩
  have h : m % 256 ||| 128 < 2 ^ 8 := Nat.or_lt_two_pow (by omega) (by decide)
  rw [show ((m : Int) % 256) = ((m % 256 : Nat) : Int) by omega, show (128 : Int) = ((128 : Nat) : Int) from rfl, u8_or_nat _ _ (by omega) (by decide), UInt8.toNat_ofNat', Nat.mod_eq_of_lt h]
theorem byte_of (m : Nat) : ∃ y : UInt8, ((m : Int) % 256) = (y.toNat : Int) := by
  refine ⟨UInt8.ofNat m, ?_⟩
  rw [UInt8.toNat_ofNat']
  omega
theorem byte_at {m : Nat} (h : m < 256) : ∃ y : UInt8, (m : Int) = (y.toNat : Int) := by
  refine ⟨UInt8.ofNat m, ?_⟩
  rw [UInt8.toNat_ofNat']
  omega
set_option maxRecDepth 100000 in
set_option maxHeartbeats 1600000 in
theorem wnum_calls (n : Nat) (hn : n < 2097152) (w : World) :
    Calls Try.prog 74 #[.int .i64 (n : Int)] w fun e w' => ∃ v xs, e = .returned v ∧ OwnV w' w.heap.size v xs ∧ xs.length ≤ 4 ∧ Below w.heap.size w w' := by
  go_enter Try.func74, Try.ntmps74
  go_wp2_with fail
  go_loopw [0, 3] (fun v0 v3 wr => ∃ (m : Nat) (xs : List UInt8), v0 = .int .i64 (m : Int) ∧ OwnV wr w.heap.size v3 xs ∧ xs.length ≤ 3 ∧ (xs.length = 0 → m < 2097152) ∧ (xs.length = 1 → m < 16384) ∧ (xs.length = 2 → m < 128) ∧ (xs.length = 3 → m < 1) ∧ Below w.heap.size w wr) (fun v0 _ _ => (intOf v0).toNat)
  case atStart => exact ⟨n, [], rfl, OwnV.nil _ _, by simp, fun _ => hn, fun h => by simp at h, fun h => by simp at h, fun h => by simp at h, Below.refl _ _⟩
  case round =>
    obtain ⟨m, xs, rfl, ho, hl, l0, l1, l2, l3, hb⟩ := hrel
    have hl4 : xs.length = 0 ∨ xs.length = 1 ∨ xs.length = 2 ∨ xs.length = 3 := by omega
    by_cases hm : 128 ≤ m
    · have hm1 : decide ((128 : Int) ≤ (m : Int)) = true := decide_eq_true (by omega)
      obtain ⟨y, hy⟩ := byte_or m
      have HB := Lib.hid hb
      clear hb
      go_wp2_with (at_builtin; refine wpList_append_byte (.tmp 6) (.tmp 10) rfl rfl w.heap.size _ xs y rfl (show OwnV wr w.heap.size _ xs from ho) rfl (by omega) (show w.heap.size ≤ wr.heap.size from HB.out.size) ?_; intro v1 w1 ho1 hb1 hg1)
      go_roundw
      case rel =>
        refine ⟨m / 128, xs ++ [y], by first | go_num | (simp; done) | omega, ho1, by rw [List.length_append, List.length_singleton]; omega, ?_, ?_, ?_, ?_, HB.out.trans hb1⟩ <;> rw [List.length_append, List.length_singleton] <;> omega
      case measure => simp [intOf]; omega
    · have hm1 : decide ((128 : Int) ≤ (m : Int)) = false := decide_eq_false (by omega)
      obtain ⟨y, hy⟩ := byte_at (m := m) (by omega)
      have hy2 : (m : Int) % 256 = (y.toNat : Int) := by omega
      have HB := Lib.hid hb
      clear hb
      go_wp2_with (at_builtin; refine wpList_append_byte (.tmp 14) (.tmp 17) rfl rfl w.heap.size _ xs y rfl (show OwnV wr w.heap.size _ xs from ho) rfl (by omega) (show w.heap.size ≤ wr.heap.size from HB.out.size) ?_; intro v1 w1 ho1 hb1 hg1)
      go_ret
      exact ⟨_, _, rfl, ho1, by rw [List.length_append, List.length_singleton]; omega, HB.out.trans hb1⟩
theorem wNum_calls (n : Nat) (hn : n < 2097152) (w : World) :
    Calls Try.prog 61 #[.int .i64 (n : Int)] w fun e w' => ∃ v xs, e = .returned (.tuple #[v, .int .i64 0]) ∧ OwnV w' w.heap.size v xs ∧ xs.length ≤ 4 ∧ Below w.heap.size w w' := by
  have h0 : decide ((n : Int) < 0) = false := decide_eq_false (by omega)
  go_enter Try.func61, Try.ntmps61
  go_wp2_with fail
  refine (wnum_calls n hn w).mono ?_
  rintro e w' ⟨v, xs, rfl, ho, hl, hb⟩
  go_wp2_with fail
  go_ret2
  exact ⟨v, xs, rfl, ho, hl, hb⟩
theorem OwnV.set_far {w : World} {base gb : Nat} {v : Value} {xs : List UInt8} (h : OwnV w base v xs) (hg : gb < base) (u : Value) : OwnV (w.setCell ⟨gb, 0, none⟩ u) base v xs :=
  h.kept (row := some gb) (grown_setCell (p := ⟨gb, 0, none⟩) (World.grownBy.refl w (some gb)) (.inl rfl) u) (.inr (by intro e; have := (World.ownsRow.lt h gb e).1; omega))
set_option maxRecDepth 100000 in
set_option maxHeartbeats 1600000 in
theorem write1_calls (n base gb : Nat) (v : Value) (xs : List UInt8) (hn : n < 2097152) (w : World) (hr : Row w gb 35 [v]) (ho : OwnV w base v xs) (hg : gb < base) (hB : base ≤ w.heap.size) (hl : xs.length ≤ 1000000) :
    Calls Try.prog 60 #[.int .i64 (n : Int), .pointer (some ⟨gb, 0, none⟩)] w fun e w' => ∃ v' xs', e = .returned (.tuple #[]) ∧ Row w' gb 35 [v'] ∧ OwnV w' base v' xs' ∧ xs'.length ≤ xs.length + 4 ∧ Chg3 base gb gb gb w w' := by
  go_enter Try.func60, Try.ntmps60
  go_wp2_with fail
  refine (wNum_calls n hn w).mono ?_
  rintro e w1 ⟨x, ys, rfl, hx, hly, hb⟩
  have hr1 := hr.below hb hr.lt
  have c0 : w1.cell? ⟨gb, 0, none⟩ = some v := hr1.cell 0
  have f0 : w1.frozen? ⟨gb, 0, none⟩ = false := hr1.frozen 0
  have ho1 := ho.below hb
  obtain ⟨A, c, rfl, hox⟩ := hx.slice
  have HRD := Lib.hid hox.rd
  have HR := Lib.hid hr1
  have HB := Lib.hid hb
  clear hb hr1
  go_wp2_with (at_builtin; refine wpList_append_rd (.tmp 10) (.tmp 11) rfl rfl base v xs ys rfl ho1 w1.heap.size A ys.length c rfl HRD.out (by omega) (Nat.le_trans hB HB.out.size) ?_; intro v2 w2 ho2 hg2 hat2; obtain ⟨A2, cap2, rfl, hox2⟩ := ho2.slice; have hb2 := Lib.hid (grown_below (B := base) hg2 (Nat.le_trans hB HB.out.size) (fun k hk => (World.ownsRow.lt ho1 k hk).1)); have hr2 := Lib.hid (HR.out.below hb2.out hg); have c2 : w2.cell? ⟨gb, 0, none⟩ = some v := hr2.out.cell 0; have f2 : w2.frozen? ⟨gb, 0, none⟩ = false := hr2.out.frozen 0)
  go_end0
  have h3 := ho2.set_far hg (.slice A2 (xs ++ ys).length cap2)
  rw [List.length_append] at h3
  exact ⟨_, _, rfl, hr2.out.set 0 _, h3, by rw [List.length_append]; omega, (Chg3.of_below ((HB.out.mono hB).trans hb2.out)).set (g := gb) (.inl rfl) 0 _⟩
end Go.Proofs.Ythbjcafldbocpaa
