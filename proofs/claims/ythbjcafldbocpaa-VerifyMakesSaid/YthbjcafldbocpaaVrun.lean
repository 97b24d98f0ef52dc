/- The walk of the document's run. -/
import Derived.Test.YthbjcafldbocpaaVdo4
import Derived.Test.YthbjcafldbocpaaVdo2
import Derived.Test.YthbjcafldbocpaaVmay
import Derived.Test.YthbjcafldbocpaaBoxes
import Derived.Test.YthbjcafldbocpaaVlk0
import Derived.Deep.CutBlock
import Derived.Lib.SliceRun
namespace Go.Proofs.Ythbjcafldbocpaa
open Go.RowKit Go.Proofs.YthbjcafldbocpaaW.PrintWords Go.Proofs.Ythbjcafldbocpaa.P0
set_option linter.unusedVariables false
set_option linter.unusedSimpArgs false
/-- the document's step, all ways -/
theorem do_calls (gt ga gz nr no n reads nS cS : Nat) (AS : Option Addr) (s : PS) (hs : s.Ok) (st : VS) (W : World) (h : DW W gt ga gz nr no n st) (hn : n ≤ 64) (hnr : nr ≤ 256) (hrd : reads < 2 ^ 64) :
    Calls Try.prog 51 #[.pointer (some ⟨gt, 0, none⟩), .agg #[.slice AS nS cS, .int .i64 (nr : Int), .int .i64 (no : Int), .int .u64 (reads : Int)], .agg #[.int .u8 (s.k : Int), .int .i64 (s.D : Int), .int .i64 (s.S : Int), .int .u8 (s.C.toNat : Int)], .int .i64 (n : Int)] W fun e W' =>
      Chg3 W.heap.size gt ga gz W W' ∧ (∀ st', vStep nr no reads n st s.k s.D s.S s.C = some st' → e = .returned (.bool true) ∧ DW W' gt ga gz nr no n st') ∧ (vStep nr no reads n st s.k s.D s.S s.C = none → e = .returned (.bool false)) := by
  obtain ⟨k, D, S, C⟩ := s
  rcases hs with h1 | h1 | h1 | h1 <;> (simp only at h1; subst h1)
  · exact do_clear gt ga gz nr no n reads nS cS AS D S C st W h hn hnr
  · exact do_load gt ga gz nr no n reads nS cS AS D S C st W h hn hnr hrd
  · exact do_mac gt ga gz nr no n reads nS cS AS D S C st W h hn hnr
  · exact do_out gt ga gz nr no n reads nS cS AS D S C st W h hn hnr
theorem nil_info : (Try.prog.info? 35).map (fun i => (i.zero, i.size, i.bytes)) = some (some (.slice none 0 0), 1, 24) := by kernel_rfl
theorem make_nils (n : Nat) (hn : n ≤ 256) (w : World) :
    (Instr.makeSlice 34 (.int .i64 (n : Int)) (.int .i64 (n : Int))).run Try.prog w = .ok (.slice (some ⟨w.heap.size, 0, none⟩) n n) (w.alloc (.cells (List.replicate n (.slice none 0 0)).toArray 35)) := by
  obtain ⟨i, hi, hz, hs, hb⟩ := info_parts nil_info
  have h := run_make (P := Try.prog) w 34 35 i _ Try.underlying34 hi hz .i64 .i64 (n : Int) (n : Int) (by omega) (by omega) (by rw [hb]; omega) (by omega)
  rw [hs, Nat.mul_one, Int.toNat_natCast] at h
  rw [h, show (Value.slice none 0 0).cells = #[Value.slice none 0 0] from rfl, made_same _ (Value.slice none 0 0) _ (by simp) (by intro i hi; simp at hi; subst hi; rfl)]
theorem vals_nil (W : World) (n : Nat) : Vals W (List.replicate n (.slice none 0 0)) (List.replicate n none) := by
  refine ⟨by simp, fun i hi => ?_⟩
  rw [List.length_replicate] at hi
  rw [List.getD_eq_getElem?_getD, List.getElem?_replicate, if_pos hi, List.getD_eq_getElem?_getD, List.getElem?_replicate, if_pos hi]
  rfl
/-- the document's state, just made -/
def RunMid (w : World) (regs outs n : Nat) (ps : List Value) (v : Value) (x : World) : Prop :=
  ∃ gt ga gz : Nat, v = .pointer (some ⟨gt, 0, none⟩) ∧ DW x gt ga gz regs outs n ⟨List.replicate regs none, List.replicate outs none, 0⟩ ∧ w.heap.size < gt ∧ w.heap.size < ga ∧ w.heap.size < gz ∧ Below w.heap.size w x ∧ Row x w.heap.size 26 ps
theorem runmid_of {w x : World} {regs outs n gt ga gz : Nat} {v : Value} {ps L1 L2 : List Value} (e1 : L1 = List.replicate regs (.slice none 0 0)) (e2 : L2 = List.replicate outs (.slice none 0 0)) (hv : v = .pointer (some ⟨gt, 0, none⟩)) (ht : Row x gt 113 [.slice (some ⟨ga, 0, none⟩) regs regs, .slice (some ⟨gz, 0, none⟩) outs outs, .int .u64 0])
    (ha : Row x ga 35 L1) (hz : Row x gz 35 L2) (lo : w.heap.size < gt ∧ w.heap.size < ga ∧ w.heap.size < gz) (ne : ga ≠ gt ∧ gz ≠ gt ∧ gz ≠ ga) (hb : Below w.heap.size w x) (hp : Row x w.heap.size 26 ps) : RunMid w regs outs n ps v x := by
  subst e1 e2
  have hok : VS.Ok ⟨List.replicate regs none, List.replicate outs none, 0⟩ regs outs n := by
    refine ⟨by simp, by simp, fun i l h => ?_, fun i l h => ?_⟩ <;> (rw [List.getD_eq_getElem?_getD, List.getElem?_replicate] at h; split at h <;> cases h)
  exact ⟨gt, ga, gz, hv, ⟨ht, ⟨_, ha, vals_nil _ _⟩, ⟨_, hz, vals_nil _ _⟩, hok, show (0 : Nat) < 2 ^ 64 by decide, ne⟩, lo.1, lo.2.1, lo.2.2, hb, hp⟩
theorem rbelow_al {w x : World} (h : Below w.heap.size w x) (o : Obj) : Below w.heap.size w (x.alloc o) := h.alloc h.size o
theorem rbelow_dr {w x : World} (h : Below w.heap.size w x) : Below w.heap.size w x.drew := ⟨h.os, h.tape, h.output, h.size, h.block⟩
theorem cs_alloc2 {x : World} {a b : Addr} {p q : Value} (h : x.cell? a = some p ∧ x.cell? b = some q) (o : Obj) : (x.alloc o).cell? a = some p ∧ (x.alloc o).cell? b = some q := by
  have hc : ∀ {a : Addr} {p : Value}, x.cell? a = some p → (x.alloc o).cell? a = some p := fun h => (World.cell?_alloc_some x _ o (by rw [h]; rfl)).trans h
  exact ⟨hc h.1, hc h.2⟩
/-- what run answers for a program that can be written -/
def RunPost (w : World) (regs outs reads n : Nat) (l : List PS) (e : Ending) (w' : World) : Prop :=
  Below w.heap.size w w' ∧
    (∀ st, (vAll regs outs reads n l).2 = some st → ∃ gt ga gz, e = .returned (.tuple #[.slice (some ⟨gz, 0, none⟩) outs outs, .int .i64 ((vAll regs outs reads n l).1 : Int), .int .i64 0]) ∧ DW w' gt ga gz regs outs n st ∧ w.heap.size < gz) ∧
    ((vAll regs outs reads n l).2 = none → e = .returned (.tuple #[.slice none 0 0, .int .i64 ((vAll regs outs reads n l).1 : Int), .int .i64 250]))
set_option maxHeartbeats 4000000 in
set_option maxRecDepth 100000 in
theorem run_yes (AS : Option Addr) (l : List PS) (cS regs outs reads n : Nat) (w : World) (hl : StepsAt w w.heap.size AS l) (hr : regs ≤ 256) (ho : outs ≤ 64) (hlen : l.length ≤ 65536) (hn : n ≤ 64) (hrd : reads < 2 ^ 64) (hok : ∀ s ∈ l, s.Ok)
    (hcan : ∀ w1, Below w.heap.size w w1 → Calls Try.prog 50 #[.agg #[.slice AS l.length cS, .int .i64 (regs : Int), .int .i64 (outs : Int), .int .u64 (reads : Int)]] w1 fun e w' => e = .returned (.bool true) ∧ Below w1.heap.size w1 w') :
    Calls Try.prog 31 #[.agg #[.slice AS l.length cS, .int .i64 (regs : Int), .int .i64 (outs : Int), .int .u64 (reads : Int)], .int .i64 (n : Int)] w fun e w' => RunPost w regs outs reads n l e w' := by
  have h0 : decide ((n : Int) < 0) = false := decide_eq_false (by omega)
  have h1 : decide ((64 : Int) < (n : Int)) = false := decide_eq_false (by omega)
  go_enter Try.func31, Try.ntmps31
  go_wp2_with fail
  have q : Below w.heap.size w (w.alloc (.cells #[.slice AS l.length cS, .int .i64 (regs : Int), .int .i64 (outs : Int), .int .u64 (reads : Int)] 26)) := (Below.refl _ _).alloc (Nat.le_refl _) _
  have hp0 := Row.new w [.slice AS l.length cS, .int .i64 (regs : Int), .int .i64 (outs : Int), .int .u64 (reads : Int)] 26
  refine (hcan _ q).mono ?_
  rintro e w1 ⟨rfl, hb⟩
  have hp1 := hp0.below hb hp0.lt
  have q1 : Below w.heap.size w w1 := q.trans (hb.mono (by simp))
  have p1 : w1.cell? ⟨w.heap.size, 1, none⟩ = some (.int .i64 (regs : Int)) := hp1.cell 1
  have p2 : w1.cell? ⟨w.heap.size, 2, none⟩ = some (.int .i64 (outs : Int)) := hp1.cell 2
  have hm1 := fun w => make_nils regs hr w
  have hm2 := fun w => make_nils outs (by omega) w
  obtain ⟨L1, hL1⟩ : ∃ L1, L1 = List.replicate regs (Value.slice none 0 0) := ⟨_, rfl⟩
  obtain ⟨L2, hL2⟩ : ∃ L2, L2 = List.replicate outs (Value.slice none 0 0) := ⟨_, rfl⟩
  rw [← hL1] at hm1
  rw [← hL2] at hm2
  have HL1 := Lib.hid hL1
  have HL2 := Lib.hid hL2
  have HP1 := Lib.hid hp1
  have HQ1 := Lib.hid q1
  have LT1 := Lib.hid (show w.heap.size < w1.heap.size from hp1.lt)
  clear hL1 hL2 hp1 q1 hcan q hp0 hb
  go_wp2_with fail
  go_cut [7] from 21 to 28 (fun s7 wx => RunMid w regs outs n [.slice AS l.length cS, .int .i64 (regs : Int), .int .i64 (outs : Int), .int .u64 (reads : Int)] s7 wx)
  case first =>
    refine wp_region_held_drew (S := (fun x => x.cell? ⟨w.heap.size, 1, none⟩ = some (.int .i64 (regs : Int)) ∧ x.cell? ⟨w.heap.size, 2, none⟩ = some (.int .i64 (outs : Int)))) (by kernel_rfl) ⟨p1, p2⟩ (fun hHeld => ?_)
    refine wpAnyH_take (i := 0) (v := ?_) rfl (by kernel_rfl) (by kernel_rfl) (by kernel_rfl) (fun _ _ _ h => h) (Or.inl ⟨by kernel_rfl, ?_⟩) (by assumption) ?_
    rotate_left
    · (intro w hSw; (try dsimp only at hSw); go_simp; (try with_reducible rfl))
    try simp only [List.getElem_toArray, List.getElem_cons_succ, List.getElem_cons_zero, Act.put, List.setIfInBounds_toArray, List.set_cons_zero, List.set_cons_succ]
    refine wpAnyH_take (i := 1) (v := ?_) rfl (by kernel_rfl) (by kernel_rfl) (by kernel_rfl) (fun _ _ _ h => h) (Or.inl ⟨by kernel_rfl, ?_⟩) (by assumption) ?_
    rotate_left
    · (intro w hSw; (try dsimp only at hSw); go_simp; (try with_reducible rfl))
    try simp only [List.getElem_toArray, List.getElem_cons_succ, List.getElem_cons_zero, Act.put, List.setIfInBounds_toArray, List.set_cons_zero, List.set_cons_succ]
    refine wpAnyH_take (i := 3) (v := ?_) rfl (by kernel_rfl) (by kernel_rfl) (by kernel_rfl) (fun _ _ _ h => h) (Or.inl ⟨by kernel_rfl, ?_⟩) (by assumption) ?_
    rotate_left
    · (intro w hSw; (try dsimp only at hSw); go_simp; (try with_reducible rfl))
    try simp only [List.getElem_toArray, List.getElem_cons_succ, List.getElem_cons_zero, Act.put, List.setIfInBounds_toArray, List.set_cons_zero, List.set_cons_succ]
    refine wpAnyH_take (i := 4) (v := ?_) rfl (by kernel_rfl) (by kernel_rfl) (by kernel_rfl) (fun _ _ _ h => h) (Or.inl ⟨by kernel_rfl, ?_⟩) (by assumption) ?_
    rotate_left
    · (intro w hSw; (try dsimp only at hSw); go_simp; (try with_reducible rfl))
    try simp only [List.getElem_toArray, List.getElem_cons_succ, List.getElem_cons_zero, Act.put, List.setIfInBounds_toArray, List.set_cons_zero, List.set_cons_succ]
    refine wpAnyH_ready (rs := [2, 5]) (by kernel_rfl) (by simp) ?_
    refine AllReadyH.cons rfl (fun K hK => ?_) (AllReadyH.cons rfl (fun K hK => ?_) AllReadyH.nil)
    · go_simp
      refine hK.out _ _ (cs_alloc2 hHeld _) (fun hHeld => ?_)
      clear hK K
      try simp only [List.getElem_toArray, List.getElem_cons_succ, List.getElem_cons_zero, Act.put, List.setIfInBounds_toArray, List.set_cons_zero, List.set_cons_succ]
      refine wpAnyH_ready (rs := [5]) (by kernel_rfl) (by simp) ?_
      refine AllReadyH.cons rfl (fun K hK => ?_) AllReadyH.nil
      go_simp
      refine hK.out _ _ (cs_alloc2 hHeld _) (fun hHeld => ?_)
      clear hK K
      try simp only [List.getElem_toArray, List.getElem_cons_succ, List.getElem_cons_zero, Act.put, List.setIfInBounds_toArray, List.set_cons_zero, List.set_cons_succ]
      refine wpAnyH_ready (rs := [6]) (by kernel_rfl) (by simp) ?_
      refine AllReadyH.cons rfl (fun K hK => ?_) AllReadyH.nil
      go_simp
      refine hK.out _ _ hHeld (fun hHeld => ?_)
      clear hK K
      try simp only [List.getElem_toArray, List.getElem_cons_succ, List.getElem_cons_zero, Act.put, List.setIfInBounds_toArray, List.set_cons_zero, List.set_cons_succ]
      refine wpAnyH_ready (rs := [7]) (by kernel_rfl) (by simp) ?_
      refine AllReadyH.cons rfl (fun K hK => ?_) AllReadyH.nil
      go_simp
      refine hK.out _ _ (cs_alloc2 hHeld _) (fun hHeld => ?_)
      clear hK K
      try simp only [List.getElem_toArray, List.getElem_cons_succ, List.getElem_cons_zero, Act.put, List.setIfInBounds_toArray, List.set_cons_zero, List.set_cons_succ]
      refine wpAnyH_ready (rs := [8]) (by kernel_rfl) (by simp) ?_
      refine AllReadyH.cons rfl (fun K hK => ?_) AllReadyH.nil
      go_simp
      refine hK.out _ _ hHeld (fun hHeld => ?_)
      clear hK K
      try simp only [List.getElem_toArray, List.getElem_cons_succ, List.getElem_cons_zero, Act.put, List.setIfInBounds_toArray, List.set_cons_zero, List.set_cons_succ]
      refine wpAnyH_done (by kernel_rfl) ?_ _
      go_wp2_with fail
      go_meet
      exact runmid_of HL1.out HL2.out rfl (by repeat' (first | with_reducible refine Row.drew ?_ | with_reducible refine Row.newE _ _ _ (by simp) | exact Row.newE _ _ _ (by simp) | with_reducible refine Row.alloc ?_ _)) (by repeat' (first | with_reducible refine Row.drew ?_ | with_reducible refine Row.newE _ _ _ (by simp) | exact Row.newE _ _ _ (by simp) | with_reducible refine Row.alloc ?_ _)) (by repeat' (first | with_reducible refine Row.drew ?_ | with_reducible refine Row.newE _ _ _ (by simp) | exact Row.newE _ _ _ (by simp) | with_reducible refine Row.alloc ?_ _)) (by have := LT1.out; refine ⟨?_, ?_, ?_⟩ <;> omega) (by refine ⟨?_, ?_, ?_⟩ <;> omega) (by repeat' (first | with_reducible exact HQ1.out | with_reducible refine rbelow_dr ?_ | with_reducible refine rbelow_al ?_ _)) (by repeat' (first | with_reducible exact HP1.out | with_reducible refine Row.drew ?_ | with_reducible refine Row.alloc ?_ _))
    · go_simp
      refine hK.out _ _ (cs_alloc2 hHeld _) (fun hHeld => ?_)
      clear hK K
      try simp only [List.getElem_toArray, List.getElem_cons_succ, List.getElem_cons_zero, Act.put, List.setIfInBounds_toArray, List.set_cons_zero, List.set_cons_succ]
      refine wpAnyH_ready (rs := [2]) (by kernel_rfl) (by simp) ?_
      refine AllReadyH.cons rfl (fun K hK => ?_) AllReadyH.nil
      go_simp
      refine hK.out _ _ (cs_alloc2 hHeld _) (fun hHeld => ?_)
      clear hK K
      try simp only [List.getElem_toArray, List.getElem_cons_succ, List.getElem_cons_zero, Act.put, List.setIfInBounds_toArray, List.set_cons_zero, List.set_cons_succ]
      refine wpAnyH_ready (rs := [6]) (by kernel_rfl) (by simp) ?_
      refine AllReadyH.cons rfl (fun K hK => ?_) AllReadyH.nil
      go_simp
      refine hK.out _ _ hHeld (fun hHeld => ?_)
      clear hK K
      try simp only [List.getElem_toArray, List.getElem_cons_succ, List.getElem_cons_zero, Act.put, List.setIfInBounds_toArray, List.set_cons_zero, List.set_cons_succ]
      refine wpAnyH_ready (rs := [7]) (by kernel_rfl) (by simp) ?_
      refine AllReadyH.cons rfl (fun K hK => ?_) AllReadyH.nil
      go_simp
      refine hK.out _ _ (cs_alloc2 hHeld _) (fun hHeld => ?_)
      clear hK K
      try simp only [List.getElem_toArray, List.getElem_cons_succ, List.getElem_cons_zero, Act.put, List.setIfInBounds_toArray, List.set_cons_zero, List.set_cons_succ]
      refine wpAnyH_ready (rs := [8]) (by kernel_rfl) (by simp) ?_
      refine AllReadyH.cons rfl (fun K hK => ?_) AllReadyH.nil
      go_simp
      refine hK.out _ _ hHeld (fun hHeld => ?_)
      clear hK K
      try simp only [List.getElem_toArray, List.getElem_cons_succ, List.getElem_cons_zero, Act.put, List.setIfInBounds_toArray, List.set_cons_zero, List.set_cons_succ]
      refine wpAnyH_done (by kernel_rfl) ?_ _
      go_wp2_with fail
      go_meet
      exact runmid_of HL1.out HL2.out rfl (by repeat' (first | with_reducible refine Row.drew ?_ | with_reducible refine Row.newE _ _ _ (by simp) | exact Row.newE _ _ _ (by simp) | with_reducible refine Row.alloc ?_ _)) (by repeat' (first | with_reducible refine Row.drew ?_ | with_reducible refine Row.newE _ _ _ (by simp) | exact Row.newE _ _ _ (by simp) | with_reducible refine Row.alloc ?_ _)) (by repeat' (first | with_reducible refine Row.drew ?_ | with_reducible refine Row.newE _ _ _ (by simp) | exact Row.newE _ _ _ (by simp) | with_reducible refine Row.alloc ?_ _)) (by have := LT1.out; refine ⟨?_, ?_, ?_⟩ <;> omega) (by refine ⟨?_, ?_, ?_⟩ <;> omega) (by repeat' (first | with_reducible exact HQ1.out | with_reducible refine rbelow_dr ?_ | with_reducible refine rbelow_al ?_ _)) (by repeat' (first | with_reducible exact HP1.out | with_reducible refine Row.drew ?_ | with_reducible refine Row.alloc ?_ _))
  case rest =>
    obtain ⟨gt, ga, gz, rfl, hD, lt1, la1, lz1, hbl, hp⟩ := hcut
    have HD := Lib.hid hD
    have HBL := Lib.hid hbl
    have HP := Lib.hid hp
    clear hm1 hm2 HL1 HL2 HP1 HQ1 LT1 p1 p2 hD hbl hp
    go_wp2_with fail
    go_loopw [8] (fun v8 wr => ∃ i st, i ≤ l.length ∧ v8 = .int .i64 ((i : Nat) : Int) ∧ vRun regs outs reads n l 0 ⟨List.replicate regs none, List.replicate outs none, 0⟩ = vRun regs outs reads n (l.drop i) i st ∧ DW wr gt ga gz regs outs n st ∧ Below w.heap.size w wr ∧ Row wr w.heap.size 26 [.slice AS l.length cS, .int .i64 (regs : Int), .int .i64 (outs : Int), .int .u64 (reads : Int)]) (fun v8 _ => l.length - (intOf v8).toNat)
    case atStart => exact ⟨0, _, by omega, rfl, rfl, HD.out, HBL.out, HP.out⟩
    case round =>
      obtain ⟨i, st, hi, rfl, hv, hD, hbl, hp⟩ := hrel
      clear HD HBL HP
      have p0 : wr.cell? ⟨w.heap.size, 0, none⟩ = some (.slice AS l.length cS) := hp.cell 0
      have HD := Lib.hid hD
      have HBL := Lib.hid hbl
      have HP := Lib.hid hp
      have HV := Lib.hid hv
      by_cases hlt : i < l.length
      · obtain ⟨g, o, rfl, hg, hc⟩ := (hl.below hbl) (by omega)
        obtain ⟨s, hs⟩ : ∃ s, l[i]? = some s := ⟨l[i], List.getElem?_eq_getElem hlt⟩
        obtain ⟨s0, s1, s2, s3⟩ := hc i s hs
        have p1 : wr.cell? ⟨w.heap.size, 1, none⟩ = some (.int .i64 (regs : Int)) := hp.cell 1
        have p2 : wr.cell? ⟨w.heap.size, 2, none⟩ = some (.int .i64 (outs : Int)) := hp.cell 2
        have p3 : wr.cell? ⟨w.heap.size, 3, none⟩ = some (.int .u64 (reads : Int)) := hp.cell 3
        have i0 : (0 : Int) ≤ (i : Int) := by omega
        have i1 : (i : Int) < (l.length : Int) := by omega
        have HDO := Lib.hid (do_calls gt ga gz regs outs n reads l.length cS (some ⟨g, o, none⟩) s (hok s (List.mem_of_getElem? hs)) st wr.drew (hD.drewN 1) hn hr hrd)
        have HS := Lib.hid hs
        clear hc hs hD hbl hp hv
        go_wp2_with fail
        refine wp_region_held_drew (S := (fun x => x.cell? ⟨w.heap.size, 0, none⟩ = some (.slice (some ⟨g, o, none⟩) l.length cS) ∧ x.cell? ⟨w.heap.size, 1, none⟩ = some (.int .i64 (regs : Int)) ∧ x.cell? ⟨w.heap.size, 2, none⟩ = some (.int .i64 (outs : Int)) ∧ x.cell? ⟨w.heap.size, 3, none⟩ = some (.int .u64 (reads : Int)) ∧ x.cell? ⟨g, o + i * 4, none⟩ = some (.int .u8 (s.k : Int)) ∧ x.cell? ⟨g, o + i * 4 + 1, none⟩ = some (.int .i64 (s.D : Int)) ∧ x.cell? ⟨g, o + i * 4 + 2, none⟩ = some (.int .i64 (s.S : Int)) ∧ x.cell? ⟨g, o + i * 4 + 3, none⟩ = some (.int .u8 (s.C.toNat : Int)))) (by kernel_rfl) ⟨p0, p1, p2, p3, s0, s1, s2, s3⟩ (fun hHeld => ?_)
        refine wpAnyH_take (i := 0) (v := ?_) rfl (by kernel_rfl) (by kernel_rfl) (by kernel_rfl) (fun _ _ _ h => h) (Or.inl ⟨by kernel_rfl, ?_⟩) (by assumption) ?_
        rotate_left
        · (intro w hSw; (try dsimp only at hSw); go_simp; (try with_reducible rfl))
        try simp only [List.getElem_toArray, List.getElem_cons_succ, List.getElem_cons_zero, Act.put, List.setIfInBounds_toArray, List.set_cons_zero, List.set_cons_succ]
        refine wpAnyH_take (i := 1) (v := ?_) rfl (by kernel_rfl) (by kernel_rfl) (by kernel_rfl) (fun _ _ _ h => h) (Or.inl ⟨by kernel_rfl, ?_⟩) (by assumption) ?_
        rotate_left
        · (intro w hSw; (try dsimp only at hSw); go_simp; (try with_reducible rfl))
        try simp only [List.getElem_toArray, List.getElem_cons_succ, List.getElem_cons_zero, Act.put, List.setIfInBounds_toArray, List.set_cons_zero, List.set_cons_succ]
        refine wpAnyH_take (i := 2) (v := ?_) rfl (by kernel_rfl) (by kernel_rfl) (by kernel_rfl) (fun _ _ _ h => h) (Or.inl ⟨by kernel_rfl, ?_⟩) (by assumption) ?_
        rotate_left
        · (intro w hSw; (try dsimp only at hSw); go_simp; (try with_reducible rfl))
        try simp only [List.getElem_toArray, List.getElem_cons_succ, List.getElem_cons_zero, Act.put, List.setIfInBounds_toArray, List.set_cons_zero, List.set_cons_succ]
        refine wpAnyH_take (i := 3) (v := ?_) rfl (by kernel_rfl) (by kernel_rfl) (by kernel_rfl) (fun _ _ _ h => h) (Or.inl ⟨by kernel_rfl, ?_⟩) (by assumption) ?_
        rotate_left
        · (intro w hSw; (try dsimp only at hSw); go_simp; (try with_reducible rfl))
        try simp only [List.getElem_toArray, List.getElem_cons_succ, List.getElem_cons_zero, Act.put, List.setIfInBounds_toArray, List.set_cons_zero, List.set_cons_succ]
        refine wpAnyH_take (i := 4) (v := ?_) rfl (by kernel_rfl) (by kernel_rfl) (by kernel_rfl) (fun _ _ _ h => h) (Or.inl ⟨by kernel_rfl, ?_⟩) (by assumption) ?_
        rotate_left
        · (intro w hSw; (try dsimp only at hSw); go_simp; (try with_reducible rfl))
        try simp only [List.getElem_toArray, List.getElem_cons_succ, List.getElem_cons_zero, Act.put, List.setIfInBounds_toArray, List.set_cons_zero, List.set_cons_succ]
        refine wpAnyH_take (i := 5) (v := ?_) rfl (by kernel_rfl) (by kernel_rfl) (by kernel_rfl) (fun _ _ _ h => h) (Or.inl ⟨by kernel_rfl, ?_⟩) (by assumption) ?_
        rotate_left
        · (intro w hSw; (try dsimp only at hSw); go_simp; (try with_reducible rfl))
        try simp only [List.getElem_toArray, List.getElem_cons_succ, List.getElem_cons_zero, Act.put, List.setIfInBounds_toArray, List.set_cons_zero, List.set_cons_succ]
        refine wpAnyH_take (i := 6) (v := ?_) rfl (by kernel_rfl) (by kernel_rfl) (by kernel_rfl) (fun _ _ _ h => h) (Or.inl ⟨by kernel_rfl, ?_⟩) (by assumption) ?_
        rotate_left
        · (intro w hSw; (try dsimp only at hSw); go_simp; (try with_reducible rfl))
        try simp only [List.getElem_toArray, List.getElem_cons_succ, List.getElem_cons_zero, Act.put, List.setIfInBounds_toArray, List.set_cons_zero, List.set_cons_succ]
        refine wpAnyH_take (i := 7) (v := ?_) rfl (by kernel_rfl) (by kernel_rfl) (by kernel_rfl) (fun _ _ _ h => h) (Or.inl ⟨by kernel_rfl, ?_⟩) (by assumption) ?_
        rotate_left
        · (intro w hSw; (try dsimp only at hSw); go_simp; (try with_reducible rfl))
        try simp only [List.getElem_toArray, List.getElem_cons_succ, List.getElem_cons_zero, Act.put, List.setIfInBounds_toArray, List.set_cons_zero, List.set_cons_succ]
        refine wpAnyH_ready (rs := [8]) (by kernel_rfl) (by simp) ?_
        refine AllReadyH.cons rfl (fun K hK => ?_) AllReadyH.nil
        go_simp
        refine HDO.out.mono ?_
        rintro e w4 ⟨hc4, hy, hno⟩
        have lwr : w.heap.size < wr.heap.size := HP.out.lt
        have hb4 : Below w.heap.size w w4 := HBL.out.trans ⟨hc4.os, hc4.tape, hc4.output, hc4.size, fun k hk => hc4.block k (show k < wr.heap.size by omega) (by omega) (by omega) (by omega)⟩
        have hp4 : Row w4 w.heap.size 26 [.slice (some ⟨g, o, none⟩) l.length cS, .int .i64 (regs : Int), .int .i64 (outs : Int), .int .u64 (reads : Int)] := hc4.row (w := wr.drew) (HP.out.drewN 1) lwr (by omega) (by omega) (by omega)
        have hcell : ∀ p : Addr, p.block = g → w4.cell? p = wr.cell? p := fun p hp => World.cell?_of_block (hc4.block _ (by rw [hp]; exact Nat.lt_trans hg lwr) (by rw [hp]; omega) (by rw [hp]; omega) (by rw [hp]; omega))
        have hS4 := And.intro (hp4.cell 0) (And.intro (hp4.cell 1) (And.intro (hp4.cell 2) (And.intro (hp4.cell 3) (And.intro ((hcell _ rfl).trans s0) (And.intro ((hcell _ rfl).trans s1) (And.intro ((hcell _ rfl).trans s2) ((hcell _ rfl).trans s3)))))))
        cases hvs : vStep regs outs reads n st s.k s.D s.S s.C with
        | none =>
          obtain rfl := hno hvs
          have hall : vAll regs outs reads n l = (i, none) := by
            unfold vAll
            rw [HV.out, vRun_at HS.out, hvs]
          have HS4 := Lib.hid hS4
          clear hy hno hc4 hcell hS4 hp4
          go_wp2_with fail
          refine hK.out _ _ HS4.out (fun hHeld => ?_)
          clear hK K
          try simp only [List.getElem_toArray, List.getElem_cons_succ, List.getElem_cons_zero, Act.put, List.setIfInBounds_toArray, List.set_cons_zero, List.set_cons_succ]
          refine wpAnyH_take (i := 9) (v := ?_) rfl (by kernel_rfl) (by kernel_rfl) (by kernel_rfl) (fun _ _ _ h => h) (Or.inl ⟨by kernel_rfl, ?_⟩) (by assumption) ?_
          rotate_left
          · (intro w hSw; (try dsimp only at hSw); go_simp; (try with_reducible rfl))
          try simp only [List.getElem_toArray, List.getElem_cons_succ, List.getElem_cons_zero, Act.put, List.setIfInBounds_toArray, List.set_cons_zero, List.set_cons_succ]
          refine wpAnyH_done (by kernel_rfl) ?_ _
          go_wp2_with fail
          go_ret3
          refine ⟨hb4, fun st2 h2 => ?_, fun _ => ?_⟩
          · rw [hall] at h2; cases h2
          · rw [hall]; rfl
        | some st' =>
          obtain ⟨rfl, hD4⟩ := hy st' hvs
          have HS4 := Lib.hid hS4
          have HD4 := Lib.hid hD4
          have HB4 := Lib.hid hb4
          have HP4 := Lib.hid hp4
          have HVS := Lib.hid hvs
          clear hy hno hc4 hcell hS4 hp4 hD4 hb4 hvs
          go_wp2_with fail
          refine hK.out _ _ HS4.out (fun hHeld => ?_)
          clear hK K
          try simp only [List.getElem_toArray, List.getElem_cons_succ, List.getElem_cons_zero, Act.put, List.setIfInBounds_toArray, List.set_cons_zero, List.set_cons_succ]
          refine wpAnyH_take (i := 9) (v := ?_) rfl (by kernel_rfl) (by kernel_rfl) (by kernel_rfl) (fun _ _ _ h => h) (Or.inl ⟨by kernel_rfl, ?_⟩) (by assumption) ?_
          rotate_left
          · (intro w hSw; (try dsimp only at hSw); go_simp; (try with_reducible rfl))
          try simp only [List.getElem_toArray, List.getElem_cons_succ, List.getElem_cons_zero, Act.put, List.setIfInBounds_toArray, List.set_cons_zero, List.set_cons_succ]
          refine wpAnyH_done (by kernel_rfl) ?_ _
          clear hHeld s0 s1 s2 s3 p0 p1 p2 p3
          go_wp2_with fail
          go_roundw
          case rel => exact ⟨i + 1, st', by omega, by go_num, by rw [HV.out, vRun_at HS.out, HVS.out], HD4.out, HB4.out, HP4.out⟩
          case measure => simp [intOf] <;> omega
      · have hd1 : decide (i < l.length) = false := decide_eq_false hlt
        have hd2 : decide ((i : Int) < (l.length : Int)) = false := decide_eq_false (by omega)
        obtain rfl : i = l.length := by omega
        have hv1 : vRun regs outs reads n l 0 ⟨List.replicate regs none, List.replicate outs none, 0⟩ = (l.length, some st) := by rw [hv, List.drop_length]; rfl
        have HV1 := Lib.hid hv1
        clear hd1 hd2 hD hbl hp hv hv1
        go_wp2_with fail
        go_loopw [9] (fun v9 wr => ∃ j : Nat, j ≤ outs ∧ v9 = .int .i64 (j : Int) ∧ (∀ q, q < j → (somes st.outs)[q]? = some true) ∧ DW wr gt ga gz regs outs n st ∧ Below w.heap.size w wr ∧ Row wr w.heap.size 26 [.slice AS l.length cS, .int .i64 (regs : Int), .int .i64 (outs : Int), .int .u64 (reads : Int)]) (fun v9 _ => outs - (intOf v9).toNat)
        case atStart => exact ⟨0, by omega, rfl, fun q hq => absurd hq (by omega), HD.out, HBL.out, HP.out⟩
        case round =>
          obtain ⟨j, hj, rfl, hall, hD, hbl, hp⟩ := hrel
          clear HD HBL HP p0
          have p0 : wr.cell? ⟨w.heap.size, 0, none⟩ = some (.slice AS l.length cS) := hp.cell 0
          have p2 : wr.cell? ⟨w.heap.size, 2, none⟩ = some (.int .i64 (outs : Int)) := hp.cell 2
          have t1 : wr.cell? ⟨gt, 1, none⟩ = some (.slice (some ⟨gz, 0, none⟩) outs outs) := hD.ht.cell 1
          have HD := Lib.hid hD
          have HBL := Lib.hid hbl
          have HP := Lib.hid hp
          have HALL := Lib.hid hall
          by_cases hlt2 : j < outs
          · obtain ⟨lz, hrz, hvz⟩ := hD.lz
            obtain ⟨v, cv, ov⟩ := hvz.cell hrz (i := j) (by rw [hD.ok.lo]; exact hlt2)
            have i0 : (0 : Int) ≤ (j : Int) := by omega
            have i1 : (j : Int) < (outs : Int) := by omega
            cases hx : st.outs.getD j none with
            | some x =>
              rw [hx] at ov
              obtain ⟨g, k, rfl, _, _⟩ := ov
              have HX := Lib.hid (isReg_of hx).2
              have heq := fun w : World => Lib.run_eql_slice_nil (P := Try.prog) w 35 5 (some ⟨g, 0, none⟩) x.length k 0 0 Try.underlying35
              clear hrz hvz hD hbl hp hall
              go_wp2_with fail
              go_roundw
              case rel =>
                refine ⟨j + 1, by omega, by go_num, fun q hq => ?_, HD.out, HBL.out, HP.out⟩
                rcases Nat.lt_or_ge q j with h | h
                · exact HALL.out q h
                · obtain rfl : q = j := by omega
                  exact HX.out
              case measure => simp [intOf] <;> omega
            | none =>
              rw [hx] at ov
              obtain rfl : v = .slice none 0 0 := ov
              have hv2 : vAll regs outs reads n l = (l.length, none) := vAll_no HV1.out (fun h => by
                have h3 := h.1 (st.outs.getD j none) (by rw [List.getD_eq_getElem?_getD, List.getElem?_eq_getElem (by rw [hD.ok.lo]; exact hlt2)]; exact List.getElem_mem _)
                rw [hx] at h3
                cases h3)
              have heq := fun w : World => Lib.run_eql_slice_nil (P := Try.prog) w 35 5 none 0 0 0 0 Try.underlying35
              clear hrz hvz hD hbl hp hall
              go_wp2_with fail
              go_quiet (fail)
              go_wp2_with fail
              go_ret3
              refine ⟨below_drewN HBL.out _, fun st2 h2 => ?_, fun _ => ?_⟩
              · rw [hv2] at h2; cases h2
              · rw [hv2]; rfl
          · obtain rfl : j = outs := by omega
            have t2 : wr.cell? ⟨gt, 2, none⟩ = some (.int .u64 (st.loads : Int)) := hD.ht.cell 2
            have p3 : wr.cell? ⟨w.heap.size, 3, none⟩ = some (.int .u64 (reads : Int)) := hp.cell 3
            have hso : ∀ o ∈ st.outs, o.isSome = true := somes_all hD.ok.lo hall
            clear hD hbl hp hall
            go_wp2_with fail
            by_cases hrd2 : st.loads = reads
            · have r1 : ((st.loads : Int) != (reads : Int)) = false := by simp [hrd2]
              have r2 : decide (st.loads = reads) = true := decide_eq_true hrd2
              have hv2 : vAll regs j reads n l = (l.length, some st) := vAll_yes HV1.out ⟨hso, hrd2⟩
              go_quiet (fail)
              go_wp2_with fail
              obtain ⟨W2, hW2⟩ : ∃ W2, W2 = wr.drewN nq := ⟨_, rfl⟩
              have p0 : W2.cell? ⟨w.heap.size, 0, none⟩ = some (.slice AS l.length cS) := by rw [hW2]; exact p0
              have t1 : W2.cell? ⟨gt, 1, none⟩ = some (.slice (some ⟨gz, 0, none⟩) j j) := by rw [hW2]; exact t1
              have hd2 : DW W2 gt ga gz regs j n st := by rw [hW2]; exact HD.out.drewN nq
              have hb2 : Below w.heap.size w W2 := by rw [hW2]; exact below_drewN HBL.out nq
              rw [← hW2]
              have HD2 := Lib.hid hd2
              have HB2 := Lib.hid hb2
              clear hW2 hd2 hb2
              go_quiet (fail)
              go_wp2_with fail
              go_ret3
              refine ⟨below_drewN HB2.out _, fun st2 h2 => ?_, fun h2 => ?_⟩
              · rw [hv2] at h2 ⊢
                injection h2 with h2
                subst h2
                exact ⟨gt, ga, gz, rfl, HD2.out.drewN _, lz1⟩
              · rw [hv2] at h2; cases h2
            · have r1 : ((st.loads : Int) != (reads : Int)) = true := by simp; omega
              have r2 : decide (st.loads = reads) = false := decide_eq_false hrd2
              have hv2 : vAll regs j reads n l = (l.length, none) := vAll_no HV1.out (fun h => hrd2 h.2)
              go_quiet (fail)
              go_wp2_with fail
              obtain ⟨W2, hW2⟩ : ∃ W2, W2 = wr.drewN nq := ⟨_, rfl⟩
              have p0 : W2.cell? ⟨w.heap.size, 0, none⟩ = some (.slice AS l.length cS) := by rw [hW2]; exact p0
              have t1 : W2.cell? ⟨gt, 1, none⟩ = some (.slice (some ⟨gz, 0, none⟩) j j) := by rw [hW2]; exact t1
              have hd2 : DW W2 gt ga gz regs j n st := by rw [hW2]; exact HD.out.drewN nq
              have hb2 : Below w.heap.size w W2 := by rw [hW2]; exact below_drewN HBL.out nq
              rw [← hW2]
              have HD2 := Lib.hid hd2
              have HB2 := Lib.hid hb2
              clear hW2 hd2 hb2
              go_quiet (fail)
              go_wp2_with fail
              go_ret3
              refine ⟨below_drewN HB2.out _, fun st2 h2 => ?_, fun _ => ?_⟩
              · rw [hv2] at h2; cases h2
              · rw [hv2]; rfl
end Go.Proofs.Ythbjcafldbocpaa
