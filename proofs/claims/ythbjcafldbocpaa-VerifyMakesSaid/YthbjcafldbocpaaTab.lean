/- The field's tables as cells: what they hold behind n rounds of build, and at the end. -/
import Derived.Test.YthbjcafldbocpaaWords
import Derived.Deep.WholeRow
import Derived.Laws.NewBlocks
namespace Go.Proofs.Ythbjcafldbocpaa
open Go.RowKit
set_option linter.unusedVariables false
set_option linter.unusedSimpArgs false

def zz (m n : Nat) : Array Value := (List.replicate m (Value.int .u8 0) ++ List.replicate n (Value.int .i64 0)).toArray
theorem zz_size (m n : Nat) : (zz m n).size = m + n := by simp [zz]
theorem zz_one (m n : Nat) : ∀ v, v ∈ (zz m n).toList → v.oneCell' = true := by
  intro v hv
  simp only [zz, List.mem_append, List.mem_replicate] at hv
  rcases hv with ⟨_, rfl⟩ | ⟨_, rfl⟩ <;> rfl
def tabAt : Nat → Array Value
  | 0 => zz 510 256
  | n + 1 => (((tabAt n).setIfInBounds n (.int .u8 ((Gf.ex n).toNat : Int))).setIfInBounds (n + 255) (.int .u8 ((Gf.ex n).toNat : Int))).setIfInBounds (510 + (Gf.ex n).toNat) (.int .i64 (n : Int))
theorem tabAt_size (n : Nat) : (tabAt n).size = 766 := by
  induction n with
  | zero => exact zz_size 510 256
  | succ n ih => simp only [tabAt, Array.size_setIfInBounds, ih]
theorem mem_setI {a : Array Value} {i : Nat} {x v : Value} (h : v ∈ (a.setIfInBounds i x).toList) : v = x ∨ v ∈ a.toList := by
  rw [Array.toList_setIfInBounds] at h
  rcases List.mem_or_eq_of_mem_set h with h | h
  · exact .inr h
  · exact .inl h
theorem tabAt_one (n : Nat) : ∀ v, v ∈ (tabAt n).toList → v.oneCell' = true := by
  induction n with
  | zero => exact zz_one _ _
  | succ n ih =>
    intro v hv
    simp only [tabAt] at hv
    rcases mem_setI hv with rfl | hv
    · rfl
    rcases mem_setI hv with rfl | hv
    · rfl
    rcases mem_setI hv with rfl | hv
    · rfl
    exact ih v hv
theorem tabAt_all (n : Nat) : (tabAt n).all (·.oneCell') = true := by
  rw [Array.all_eq_true_iff_forall_mem]
  exact fun v hv => tabAt_one n v (Array.mem_def.1 hv)
theorem tabAt_facts (n : Nat) (hn : n ≤ 255) : (∀ i, i < n → (tabAt n)[i]? = some (.int .u8 ((Gf.ex i).toNat : Int)) ∧ (tabAt n)[i + 255]? = some (.int .u8 ((Gf.ex i).toNat : Int))) ∧
    (∀ i, i < n → (tabAt n)[510 + (Gf.ex i).toNat]? = some (.int .i64 (i : Int))) := by
  induction n with
  | zero => exact ⟨fun i h => absurd h (by omega), fun i h => absurd h (by omega)⟩
  | succ n ih =>
    obtain ⟨h1, h2⟩ := ih (by omega)
    have hs := tabAt_size n
    have hx := (Gf.ex n).toNat_lt
    simp only [tabAt, Array.getElem?_setIfInBounds, Array.size_setIfInBounds, hs]
    refine ⟨fun i hi => ⟨?_, ?_⟩, fun i hi => ?_⟩
    · rw [if_neg (by omega)]
      rw [if_neg (by omega)]
      by_cases e : n = i
      · subst e; rw [if_pos rfl, if_pos (by omega)]
      · rw [if_neg e]; exact (h1 i (by omega)).1
    · rw [if_neg (by omega)]
      by_cases e : n = i
      · subst e; rw [if_pos rfl, if_pos (by omega)]
      · rw [if_neg (by omega), if_neg (by omega)]; exact (h1 i (by omega)).2
    · have hxi := (Gf.ex i).toNat_lt
      by_cases e : i = n
      · subst e; rw [if_pos rfl, if_pos (by omega)]
      · have hne : ¬ (510 + (Gf.ex n).toNat = 510 + (Gf.ex i).toNat) := by
          intro h
          have h3 : Gf.ex n = Gf.ex i := UInt8.toNat_inj.1 (by omega)
          have h4 := Gf.ex_inj h3
          rw [Nat.mod_eq_of_lt (by omega), Nat.mod_eq_of_lt (by omega)] at h4
          omega
        rw [if_neg hne, if_neg (by omega), if_neg (by omega)]
        exact h2 i (by omega)

/-- the tables, whole -/
def TAB : Array Value := tabAt 255
theorem TAB_size : TAB.size = 766 := tabAt_size 255
theorem TAB_all : TAB.all (·.oneCell') = true := tabAt_all 255
theorem TAB_exp (i : Nat) (h : i < 510) : TAB[i]? = some (.int .u8 ((Gf.ex i).toNat : Int)) := by
  have hf := (tabAt_facts 255 (by omega)).1
  by_cases hi : i < 255
  · exact (hf i hi).1
  · have h1 := (hf (i - 255) (by omega)).2
    rw [show i - 255 + 255 = i from by omega] at h1
    have h2 := Gf.ex_period (i - 255)
    rw [show i - 255 + 255 = i from by omega] at h2
    rw [h2]
    exact h1
theorem TAB_log (a : UInt8) (h : a ≠ 0) : TAB[510 + a.toNat]? = some (.int .i64 (Gf.lg a : Int)) := by
  have h1 := (tabAt_facts 255 (by omega)).2 (Gf.lg a) (Gf.lg_bd h)
  rw [Gf.ex_lg h] at h1
  exact h1

/-- the tables, as a word that no rewriting opens -/
def IsTab (T : Array Value) : Prop := T = TAB
theorem IsTab.size {T : Array Value} (h : IsTab T) : T.size = 766 := by rw [h]; exact TAB_size
theorem IsTab.all {T : Array Value} (h : IsTab T) : T.all (·.oneCell') = true := by rw [h]; exact TAB_all
theorem IsTab.exp {T : Array Value} (h : IsTab T) (i : Nat) (hi : i < 510) : T[i]? = some (.int .u8 ((Gf.ex i).toNat : Int)) := by rw [h]; exact TAB_exp i hi
theorem IsTab.log {T : Array Value} (h : IsTab T) {a : UInt8} (ha : a ≠ 0) : T[510 + a.toNat]? = some (.int .i64 (Gf.lg a : Int)) := by rw [h]; exact TAB_log a ha

theorem zero_tables : (Try.prog.info? 135).map (fun i => (i.zero, i.size)) = some (some (.agg (tabAt 0)), 766) := by kernel_rfl

theorem Below.setRow {B : Nat} {a w : World} (h : Below B a w) {g : Nat} (hp : B ≤ g) (cs : Array Value) : Below B a (w.setRow g cs) :=
  ⟨h.os, h.tape, h.output, by simpa using h.size, fun k hk => by
    rw [← h.block k hk]
    simp only [World.setRow]
    rw [Array.getElem?_modify, if_neg (by omega)]⟩
theorem some_of_lt {C : Array Value} {i : Nat} (h : i < C.size) : ∃ v, C[i]? = some v := ⟨_, Array.getElem?_eq_getElem h⟩
set_option maxRecDepth 100000 in
set_option maxHeartbeats 1000000 in
theorem build_calls (w : World) :
    Calls Try.prog 70 #[] w fun e w' => ∃ T, IsTab T ∧ e = .returned (.agg T) ∧ Below w.heap.size w w' := by
  obtain ⟨hzv, hsz⟩ := zero_of_info zero_tables
  have HSZ := Lib.hid hsz
  clear hsz
  obtain ⟨Z, hZ⟩ : ∃ Z, Z = tabAt 0 := ⟨_, rfl⟩
  rw [← hZ] at hzv
  have HZ := Lib.hid hZ
  clear hZ
  go_enter Try.func70, Try.ntmps70
  go_wp2_with fail
  go_loopw [2, 4] (fun v2 v4 wr => ∃ (n : Nat) (C : Array Value), n ≤ 255 ∧ v2 = .int .u8 ((Gf.ex n).toNat : Int) ∧ v4 = .int .i64 (n : Int) ∧ wr = (w.alloc (Obj.cells Z 135)).alloc (Obj.cells C 135) ∧ Hid (C = tabAt n)) (fun _ v4 _ => 255 - (intOf v4).toNat)
  case atStart => exact ⟨0, Z, by omega, rfl, rfl, rfl, HZ.out⟩
  case round =>
    obtain ⟨n, C, hn, rfl, rfl, rfl, HC⟩ := hrel
    by_cases hlt : n < 255
    · have hx := (Gf.ex n).toNat_lt
      have hs : C.size = 766 := by rw [HC.out]; exact tabAt_size n
      obtain ⟨v1, h1⟩ := some_of_lt (C := C) (i := n) (by omega)
      obtain ⟨v2, h2⟩ := some_of_lt (C := C.setIfInBounds n (.int .u8 ((Gf.ex n).toNat : Int))) (i := n + 255) (by rw [Array.size_setIfInBounds]; omega)
      obtain ⟨v3, h3⟩ := some_of_lt (C := (C.setIfInBounds n (.int .u8 ((Gf.ex n).toNat : Int))).setIfInBounds (n + 255) (.int .u8 ((Gf.ex n).toNat : Int))) (i := 510 + (Gf.ex n).toNat) (by rw [Array.size_setIfInBounds, Array.size_setIfInBounds]; omega)
      clear hs
      go_wp2_with (go_at_call 78; refine (double_calls _ _).mono ?_; rintro e w' ⟨rfl, rfl⟩)
      go_roundw
      case rel => exact ⟨n + 1, _, by omega, rfl, by go_num, rfl, by have := HC.out; simp only [tabAt]; rw [← this]; rfl⟩
      case measure => simp [intOf]; omega
    · obtain rfl : n = 255 := by omega
      obtain rfl : C = TAB := HC.out
      have hg1 := heap_alloc2_new w (Obj.cells Z 135) (Obj.cells TAB 135)
      have hg0 := heap_alloc2_old w (Obj.cells Z 135) (Obj.cells TAB 135)
      have hz : Z.size = TAB.size := by rw [HZ.out, TAB_size, tabAt_size]
      have G1 := Lib.hid hg1
      have G0 := Lib.hid hg0
      have H0 := Lib.hid hz
      clear hg1 hg0 hz hzv
      go_wp2_with (first | (refine wpList_load_row rfl 135 (.tmp 1) rfl (w.heap.size + 1) rfl 135 TAB (0, 0) _ G1.out Try.underlying135 rfl (by rw [TAB_size]; exact HSZ.out) ?_) | (refine wpList_store_row rfl 135 (.tmp 0) (.tmp 23) rfl w.heap.size TAB rfl rfl 135 Z G0.out (by rw [TAB_size]; exact HSZ.out) H0.out TAB_all ?_))
      have hg2 := setRow_heap ((w.alloc (Obj.cells Z 135)).alloc (Obj.cells TAB 135)) w.heap.size Z TAB 135 (0, 0) G0.out
      refine bodyPost_ret (results_cell_row rfl _ _ w.heap.size 135 TAB (0, 0) _ rfl hg2 Try.underlying135 rfl (by rw [TAB_size]; exact HSZ.out)) rfl ?_
      exact ⟨TAB, rfl, rfl, Below.setRow (((Below.refl _ _).alloc (Nat.le_refl _) _).alloc (by simp) _) (Nat.le_refl _) _⟩
/-- a type's zero value and its size, the cells behind a word of their own: for the walks that lay the tables into a variable -/
theorem zero_tables' : ∃ Z : Array Value, (∀ w, (zeroValue 135).run Try.prog w = .ok (.agg Z) w) ∧ Hid (Z.size = 766) ∧ Hid ((Try.prog.info? 135).map (·.size) = some 766) := by
  obtain ⟨hzv, hsz⟩ := zero_of_info zero_tables
  exact ⟨_, hzv, tabAt_size 0, hsz⟩
/-- the tables' store into a new variable, as the walks meet it -/
theorem wpList_store_tab {ops : Array Oper} {rest : List Oper} {o : Oper} {a : Act} {w : World} {Q : Exit → Act → World → Prop} (x y : Operand) (hgd : o.guard = none) (ho : o.op = .store 135 x y)
    (T Z : Array Value) (hT : IsTab T) (hZ : Hid (Z.size = 766)) (hs : Hid ((Try.prog.info? 135).map (·.size) = some 766))
    (hx : a.eval x = .pointer (some ⟨w.heap.size, 0, none⟩)) (hy : a.eval y = .agg T)
    (h : ∀ w2 : World, w2.heap.size = w.heap.size + 1 → w2.heap[w.heap.size]? = some (.cells T 135 (0, 0)) → Below w.heap.size w w2 → wpList Try.prog ops Q rest (a.put o.dst undef) w2) :
    wpList Try.prog ops Q (o :: rest) a (w.alloc (Obj.cells Z 135)) := by
  refine wpList_store_row hgd 135 x y ho w.heap.size T hx hy 135 Z (heap_alloc_new w _) (by rw [hT.size]; exact hs) (by rw [hT.size]; exact hZ) hT.all ?_
  rw [World.setRow_alloc_new]
  exact h _ (by simp) (heap_alloc_new w _) ((Below.refl _ _).alloc (Nat.le_refl _) _)
end Go.Proofs.Ythbjcafldbocpaa
