/- The walk of the document's step: a step that adds one register to another. -/
import Derived.Test.YthbjcafldbocpaaVdo1
import Derived.Test.YthbjcafldbocpaaRMac
namespace Go.Proofs.Ythbjcafldbocpaa
open Go.RowKit
set_option linter.unusedVariables false
set_option linter.unusedSimpArgs false
/-- 'append(v, ys...)' in a region that draws its order -/
theorem step_append_rd {ops : Array Oper} {o : Oper} {a : Act} {W : World} {K : Act → World → Prop} {Q : Exit → Act → World → Prop} {E : Prop} (s x : Operand) (hgd : o.guard = none)
    (ho : o.op = .call { callee := .builtin .append, args := #[s, x], argTypes := #[35, 35] })
    (base : Nat) (v : Value) (xs ys : List UInt8) (hs : a.eval s = v) (hown : OwnV W base v xs) (B : Nat) (A : Option Addr) (m c : Nat) (hx : a.eval x = .slice A m c) (hr : Rd W B A m (bVs ys))
    (hlen : xs.length + m ≤ 140737488355328) (hbase : base ≤ W.heap.size)
    (h : ∀ v' w', OwnV w' base v' (xs ++ ys) → W.grownBy w' v.ownBlock → (v'.ownBlock = v.ownBlock ∨ v'.ownBlock = some W.heap.size) → K (a.put o.dst v') w') :
    if Region.wanted o (yielded ops a.tmps) = true then Oper.wp Try.prog o a W K Q else E := by
  have hw : Region.wanted o (yielded ops a.tmps) = true := by simp [Region.wanted, hgd]
  rw [if_pos hw]
  obtain ⟨v', w', hrun, h1, h2, h3⟩ := run_append_rd W base o.type v xs ys hown B A m c hr hlen hbase
  unfold Oper.wp execOp
  simp only [ho, resolve, invoke, builtin, Sem.run_bind, Sem.run_pure, Result.andThen_ok, List.map_toArray, List.map_cons, List.map_nil, hs, hx, hrun]
  exact h v' w' h1 h2 h3
theorem OwnB.le' {w : World} {base n cap : Nat} {A : Option Addr} {xs : List UInt8} (h : OwnB w base A n cap xs) : n ≤ cap := by
  rcases h.2.2 with ⟨h1, h2⟩ | ⟨g, c, cur, hv, hg, hh, h3, _⟩
  · omega
  · simp only [Value.slice.injEq] at hv
    obtain ⟨_, _, rfl⟩ := hv
    exact h3
/-- what an append to a list that is there makes is a row that is there -/
theorem ValO.of_append {W w' : World} {base g : Nat} {v' : Value} {l : List UInt8} (h : OwnV w' base v' l) (hat : v'.ownBlock = some g ∨ v'.ownBlock = some W.heap.size) : ValO w' v' (some l) := by
  rcases h.2 with ⟨rfl, _⟩ | ⟨g2, cap, cur, rfl, hg, hh, h1, h2, h3, h4⟩
  · rcases hat with h | h <;> simp [Value.ownBlock] at h
  · have ho : OwnB w' base (some ⟨g2, 0, none⟩) l.length cap l := ⟨rfl, h⟩
    exact ⟨g2, cap, rfl, ho.le', RdT.of_own ho⟩
set_option maxHeartbeats 4000000 in
set_option maxRecDepth 100000 in
theorem do_mac (gt ga gz nr no n reads nS cS : Nat) (AS : Option Addr) (D S : Nat) (C : UInt8) (st : VS) (W : World) (h : DW W gt ga gz nr no n st) (hn : n ≤ 64) (hnr : nr ≤ 256) :
    Calls Try.prog 51 #[.pointer (some ⟨gt, 0, none⟩), .agg #[.slice AS nS cS, .int .i64 (nr : Int), .int .i64 (no : Int), .int .u64 (reads : Int)], .agg #[.int .u8 3, .int .i64 (D : Int), .int .i64 (S : Int), .int .u8 (C.toNat : Int)], .int .i64 (n : Int)] W fun e W' =>
      Chg3 W.heap.size gt ga gz W W' ∧ (∀ st', vStep nr no reads n st 3 D S C = some st' → e = .returned (.bool true) ∧ DW W' gt ga gz nr no n st') ∧ (vStep nr no reads n st 3 D S C = none → e = .returned (.bool false)) := by
  have i0 : (0 : Int) ≤ (D : Int) := by omega
  have j0 : (0 : Int) ≤ (S : Int) := by omega
  go_enter Try.func51, Try.ntmps51
  go_wp2_with fail
  obtain ⟨W1, hW1⟩ : ∃ W1, W1 = (W.alloc (.cells #[.slice AS nS cS, .int .i64 (nr : Int), .int .i64 (no : Int), .int .u64 (reads : Int)] 26)).alloc (.cells #[.int .u8 3, .int .i64 (D : Int), .int .i64 (S : Int), .int .u8 (C.toNat : Int)] 59) := ⟨_, rfl⟩
  have q : Below W.heap.size W W1 := by rw [hW1]; exact ((Below.refl _ _).alloc (Nat.le_refl _) _).alloc (by simp) _
  have hp : Row W1 W.heap.size 26 [.slice AS nS cS, .int .i64 (nr : Int), .int .i64 (no : Int), .int .u64 (reads : Int)] := by rw [hW1]; exact (Row.new W _ _).alloc _
  have hs : Row W1 (W.heap.size + 1) 59 [.int .u8 3, .int .i64 (D : Int), .int .i64 (S : Int), .int .u8 (C.toNat : Int)] := by
    rw [hW1]
    have := Row.new (W.alloc (.cells #[.slice AS nS cS, .int .i64 (nr : Int), .int .i64 (no : Int), .int .u64 (reads : Int)] 26)) [.int .u8 3, .int .i64 (D : Int), .int .i64 (S : Int), .int .u8 (C.toNat : Int)] 59
    simpa using this
  have h1 := h.below q
  have ltt := h.ht.lt
  have lta : ga < W.heap.size := by obtain ⟨lv, hr, _⟩ := h.la; exact hr.lt
  have ltz : gz < W.heap.size := by obtain ⟨lv, hr, _⟩ := h.lz; exact hr.lt
  rw [← hW1]
  clear hW1 h
  obtain ⟨lv, hra, hva⟩ := h1.la
  obtain ⟨lz, hrz, hvz⟩ := h1.lz
  have k0 : W1.cell? ⟨gt, 0, none⟩ = some (.slice (some ⟨ga, 0, none⟩) nr nr) := h1.ht.cell 0
  have s0 : W1.cell? ⟨W.heap.size + 1, 0, none⟩ = some (.int .u8 3) := hs.cell 0
  have s1 : W1.cell? ⟨W.heap.size + 1, 1, none⟩ = some (.int .i64 (D : Int)) := hs.cell 1
  have s2 : W1.cell? ⟨W.heap.size + 1, 2, none⟩ = some (.int .i64 (S : Int)) := hs.cell 2
  have e1 : ∀ k : Nat, W1.heap[k]? = W1.heap[k]? := fun _ => rfl
  obtain ⟨bD, hbD⟩ : ∃ b, (st.regs.getD D none).isSome = b := ⟨_, rfl⟩
  obtain ⟨bS, hbS⟩ : ∃ b, (st.regs.getD S none).isSome = b := ⟨_, rfl⟩
  have HID := Lib.hid (fun (X : World) (e : ∀ k : Nat, X.heap[k]? = W1.heap[k]?) => inside_is X ga nr D lv st.regs ((e ga).trans hra) (hva.keep (fun g _ _ => e g)) h1.ok.lr _ hbD)
  have HIS := Lib.hid (fun (X : World) (e : ∀ k : Nat, X.heap[k]? = W1.heap[k]?) => inside_is X ga nr S lv st.regs ((e ga).trans hra) (hva.keep (fun g _ _ => e g)) h1.ok.lr _ hbS)
  have HBD := Lib.hid hbD
  have HBS := Lib.hid hbS
  clear hbD hbS
  have H1 := Lib.hid h1
  have HS := Lib.hid hs
  have HP := Lib.hid hp
  have HQ := Lib.hid q
  have HRA := Lib.hid hra
  have HVA := Lib.hid hva
  have HRZ := Lib.hid hrz
  have HVZ := Lib.hid hvz
  clear h1 hs hp q hra hva hrz hvz
  go_quiet (exact Calls.quiet_of_same (HID.out _ (fun _ => rfl)))
  obtain ⟨W2, hW2⟩ : ∃ W2, W2 = W1.drewN nq := ⟨_, rfl⟩
  have e2 : ∀ k : Nat, W2.heap[k]? = W1.heap[k]? := by rw [hW2]; exact e1
  rw [← hW2]
  have k0 : W2.cell? ⟨gt, 0, none⟩ = some (.slice (some ⟨ga, 0, none⟩) nr nr) := by rw [hW2]; exact k0
  have s0 : W2.cell? ⟨W.heap.size + 1, 0, none⟩ = some (.int .u8 3) := by rw [hW2]; exact s0
  have s1 : W2.cell? ⟨W.heap.size + 1, 1, none⟩ = some (.int .i64 (D : Int)) := by rw [hW2]; exact s1
  have s2 : W2.cell? ⟨W.heap.size + 1, 2, none⟩ = some (.int .i64 (S : Int)) := by rw [hW2]; exact s2
  have HW2 := Lib.hid hW2
  clear hW2
  go_wp2_with fail
  go_quiet (exact Calls.quiet_of_same (HIS.out _ e2))
  obtain ⟨W3, hW3⟩ : ∃ W3, W3 = W2.drewN nq := ⟨_, rfl⟩
  have e3 : ∀ k : Nat, W3.heap[k]? = W1.heap[k]? := by rw [hW3]; exact e2
  rw [← hW3]
  have k0 : W3.cell? ⟨gt, 0, none⟩ = some (.slice (some ⟨ga, 0, none⟩) nr nr) := by rw [hW3]; exact k0
  have s0 : W3.cell? ⟨W.heap.size + 1, 0, none⟩ = some (.int .u8 3) := by rw [hW3]; exact s0
  have s1 : W3.cell? ⟨W.heap.size + 1, 1, none⟩ = some (.int .i64 (D : Int)) := by rw [hW3]; exact s1
  have s2 : W3.cell? ⟨W.heap.size + 1, 2, none⟩ = some (.int .i64 (S : Int)) := by rw [hW3]; exact s2
  have p1 : W3.cell? ⟨W.heap.size, 1, none⟩ = some (.int .i64 (nr : Int)) := (HP.out.of_block (w' := W3) (e3 _)).cell 1
  have p2 : W3.cell? ⟨W.heap.size, 2, none⟩ = some (.int .i64 (no : Int)) := (HP.out.of_block (w' := W3) (e3 _)).cell 2
  have p3 : W3.cell? ⟨W.heap.size, 3, none⟩ = some (.int .u64 (reads : Int)) := (HP.out.of_block (w' := W3) (e3 _)).cell 3
  have q3 : Below W.heap.size W W3 := by rw [hW3, HW2.out]; exact below_drewN (below_drewN HQ.out _) _
  have HW3 := Lib.hid hW3
  clear hW3
  have D3 := Lib.hid (H1.out.below (W' := W3) (show Below W1.heap.size W1 W3 by rw [HW3.out, HW2.out]; exact below_drewN (below_drewN (Below.refl _ _) _) _))
  cases hd : st.regs.getD D none with
  | none =>
    have hv : vStep nr no reads n st 3 D S C = none := by
      unfold vStep
      rw [if_neg (by decide), if_neg (by decide), if_pos rfl, hd]
      split <;> rfl
    obtain rfl : bD = false := by rw [← HBD.out, hd]; rfl
    go_wp2_with fail
    go_ret
    exact ⟨Chg3.of_below q3, fun st' h => some_none h hv, fun _ => rfl⟩
  | some d =>
    obtain rfl : bD = true := by rw [← HBD.out, hd]; rfl
    cases hs : st.regs.getD S none with
    | none =>
      have hv : vStep nr no reads n st 3 D S C = none := by
        unfold vStep
        rw [if_neg (by decide), if_neg (by decide), if_pos rfl, hd, hs]
        split <;> rfl
      obtain rfl : bS = false := by rw [← HBS.out, hs]; rfl
      go_wp2_with fail
      go_ret
      exact ⟨Chg3.of_below q3, fun st' h => some_none h hv, fun _ => rfl⟩
    | some s =>
      obtain rfl : bS = true := by rw [← HBS.out, hs]; rfl
      by_cases hDS : D = S
      · have hv : vStep nr no reads n st 3 D S C = none := by simp [vStep, hDS]
        have e0 : ((D : Int) == (S : Int)) = true := by simp [hDS]
        have e0n : decide (D = S) = true := decide_eq_true hDS
        go_wp2_with fail
        go_ret
        exact ⟨Chg3.of_below q3, fun st' h => some_none h hv, fun _ => rfl⟩
      · have hv : vStep nr no reads n st 3 D S C = some { st with regs := st.regs.set D (some (Gf.macL d C s)) } := by
          unfold vStep
          rw [if_neg (by decide), if_neg (by decide), if_pos rfl, if_neg hDS, hd, hs]
        have e0 : ((D : Int) == (S : Int)) = false := by simp; omega
        have e0n : decide (D = S) = false := decide_eq_false hDS
        have hD : D < nr := by have := (isReg_of hd).1; rw [D3.out.ok.lr] at this; exact this
        have hS : S < nr := by have := (isReg_of hs).1; rw [D3.out.ok.lr] at this; exact this
        obtain ⟨lw, hrw, hvw⟩ := D3.out.la
        obtain ⟨vd, cd, od⟩ := hvw.cell hrw (i := D) (by rw [D3.out.ok.lr]; exact hD)
        obtain ⟨vs, cs, os⟩ := hvw.cell hrw (i := S) (by rw [D3.out.ok.lr]; exact hS)
        rw [hd] at od
        rw [hs] at os
        obtain ⟨gd, kd, rfl, _, rd⟩ := od
        obtain ⟨gs, ks, rfl, _, rs⟩ := os
        have ld : d.length = n := D3.out.ok.wr _ _ hd
        have ls : s.length = n := D3.out.ok.wr _ _ hs
        rw [ld] at cd
        rw [ls] at cs
        have hrd := rd.rd
        have hrs := rs.rd
        rw [ld] at hrd
        rw [ls] at hrs
        have HMAC := Lib.hid (refMac_calls (some ⟨gd, 0, none⟩) n kd C (some ⟨gs, 0, none⟩) ks d s W3.drew (show Rd W3.drew W3.drew.heap.size _ n _ from hrd) (show Rd W3.drew W3.drew.heap.size _ n _ from hrs) (by omega))
        have s3 : W3.cell? ⟨W.heap.size + 1, 3, none⟩ = some (.int .u8 (C.toNat : Int)) := (HS.out.of_block (w' := W3) (e3 _)).cell 3
        have i1 : (D : Int) < (nr : Int) := by omega
        have j1 : (S : Int) < (nr : Int) := by omega
        have lgt3 : gt < W3.heap.size := D3.out.ht.lt
        have lga3 : ga < W3.heap.size := hrw.lt
        have lt3 : W.heap.size + 1 < W3.heap.size := (HS.out.of_block (w' := W3) (e3 _)).lt
        have c1 : W3.frozen? ⟨ga, D, none⟩ = false := hrw.frozen D
        have HR4L := Lib.hid (show lw.length = nr by rw [hvw.1, D3.out.ok.lr])
        have HRW := Lib.hid hrw
        clear hrw hvw rd rs hrd hrs
        go_wp2_with fail
        refine wp_region_held_drew (S := (fun x => x.cell? ⟨gt, 0, none⟩ = some (.slice (some ⟨ga, 0, none⟩) nr nr) ∧ x.cell? ⟨W.heap.size + 1, 1, none⟩ = some (.int .i64 (D : Int)) ∧ x.cell? ⟨W.heap.size + 1, 2, none⟩ = some (.int .i64 (S : Int)) ∧ x.cell? ⟨W.heap.size + 1, 3, none⟩ = some (.int .u8 (C.toNat : Int)) ∧ x.cell? ⟨ga, D, none⟩ = some (.slice (some ⟨gd, 0, none⟩) n kd) ∧ x.cell? ⟨ga, S, none⟩ = some (.slice (some ⟨gs, 0, none⟩) n ks))) (by kernel_rfl) ⟨k0, s1, s2, s3, cd, cs⟩ (fun hHeld => ?_)
        refine wpAnyH_take (i := 0) (v := ?_) rfl (by kernel_rfl) (by kernel_rfl) (by kernel_rfl) (fun _ _ _ h => h) (Or.inl ⟨by kernel_rfl, ?_⟩) (by assumption) ?_
        rotate_left
        · (intro w hSw; (try dsimp only at hSw); go_simp; (try with_reducible rfl))
        try simp only [List.getElem_toArray, List.getElem_cons_succ, List.getElem_cons_zero, Act.put, List.setIfInBounds_toArray, List.set_cons_zero, List.set_cons_succ]
        refine wpAnyH_take (i := 1) (v := ?_) rfl (by kernel_rfl) (by kernel_rfl) (by kernel_rfl) (fun _ _ _ h => h) (Or.inl ⟨by kernel_rfl, ?_⟩) (by assumption) ?_
        rotate_left
        · (intro w hSw; (try dsimp only at hSw); go_simp; (try with_reducible rfl))
        try simp only [List.getElem_toArray, List.getElem_cons_succ, List.getElem_cons_zero, Act.put, List.setIfInBounds_toArray, List.set_cons_zero, List.set_cons_succ]
        refine wpAnyH_take (i := 2) (v := ?_) rfl (by kernel_rfl) (by kernel_rfl) (by kernel_rfl) (fun _ _ _ h => h) (Or.inl ⟨by kernel_rfl, ?_⟩) (by assumption) ?_
        rotate_left
        · (intro w hSw; (try dsimp only at hSw); go_simp; (try with_reducible rfl))
        try simp only [List.getElem_toArray, List.getElem_cons_succ, List.getElem_cons_zero, Act.put, List.setIfInBounds_toArray, List.set_cons_zero, List.set_cons_succ]
        refine wpAnyH_take (i := 3) (v := ?_) rfl (by kernel_rfl) (by kernel_rfl) (by kernel_rfl) (fun _ _ _ h => h) (Or.inl ⟨by kernel_rfl, ?_⟩) (by assumption) ?_
        rotate_left
        · (intro w hSw; (try dsimp only at hSw); go_simp; (try with_reducible rfl))
        try simp only [List.getElem_toArray, List.getElem_cons_succ, List.getElem_cons_zero, Act.put, List.setIfInBounds_toArray, List.set_cons_zero, List.set_cons_succ]
        refine wpAnyH_take (i := 4) (v := ?_) rfl (by kernel_rfl) (by kernel_rfl) (by kernel_rfl) (fun _ _ _ h => h) (Or.inl ⟨by kernel_rfl, ?_⟩) (by assumption) ?_
        rotate_left
        · (intro w hSw; (try dsimp only at hSw); go_simp; (try with_reducible rfl))
        try simp only [List.getElem_toArray, List.getElem_cons_succ, List.getElem_cons_zero, Act.put, List.setIfInBounds_toArray, List.set_cons_zero, List.set_cons_succ]
        refine wpAnyH_take (i := 5) (v := ?_) rfl (by kernel_rfl) (by kernel_rfl) (by kernel_rfl) (fun _ _ _ h => h) (Or.inl ⟨by kernel_rfl, ?_⟩) (by assumption) ?_
        rotate_left
        · (intro w hSw; (try dsimp only at hSw); go_simp; (try with_reducible rfl))
        try simp only [List.getElem_toArray, List.getElem_cons_succ, List.getElem_cons_zero, Act.put, List.setIfInBounds_toArray, List.set_cons_zero, List.set_cons_succ]
        refine wpAnyH_take (i := 6) (v := ?_) rfl (by kernel_rfl) (by kernel_rfl) (by kernel_rfl) (fun _ _ _ h => h) (Or.inl ⟨by kernel_rfl, ?_⟩) (by assumption) ?_
        rotate_left
        · (intro w hSw; (try dsimp only at hSw); go_simp; (try with_reducible rfl))
        try simp only [List.getElem_toArray, List.getElem_cons_succ, List.getElem_cons_zero, Act.put, List.setIfInBounds_toArray, List.set_cons_zero, List.set_cons_succ]
        refine wpAnyH_take (i := 7) (v := ?_) rfl (by kernel_rfl) (by kernel_rfl) (by kernel_rfl) (fun _ _ _ h => h) (Or.inl ⟨by kernel_rfl, ?_⟩) (by assumption) ?_
        rotate_left
        · (intro w hSw; (try dsimp only at hSw); go_simp; (try with_reducible rfl))
        try simp only [List.getElem_toArray, List.getElem_cons_succ, List.getElem_cons_zero, Act.put, List.setIfInBounds_toArray, List.set_cons_zero, List.set_cons_succ]
        refine wpAnyH_take (i := 8) (v := ?_) rfl (by kernel_rfl) (by kernel_rfl) (by kernel_rfl) (fun _ _ _ h => h) (Or.inl ⟨by kernel_rfl, ?_⟩) (by assumption) ?_
        rotate_left
        · (intro w hSw; (try dsimp only at hSw); go_simp; (try with_reducible rfl))
        try simp only [List.getElem_toArray, List.getElem_cons_succ, List.getElem_cons_zero, Act.put, List.setIfInBounds_toArray, List.set_cons_zero, List.set_cons_succ]
        refine wpAnyH_take (i := 9) (v := ?_) rfl (by kernel_rfl) (by kernel_rfl) (by kernel_rfl) (fun _ _ _ h => h) (Or.inl ⟨by kernel_rfl, ?_⟩) (by assumption) ?_
        rotate_left
        · (intro w hSw; (try dsimp only at hSw); go_simp; (try with_reducible rfl))
        try simp only [List.getElem_toArray, List.getElem_cons_succ, List.getElem_cons_zero, Act.put, List.setIfInBounds_toArray, List.set_cons_zero, List.set_cons_succ]
        refine wpAnyH_take (i := 10) (v := ?_) rfl (by kernel_rfl) (by kernel_rfl) (by kernel_rfl) (fun _ _ _ h => h) (Or.inl ⟨by kernel_rfl, ?_⟩) (by assumption) ?_
        rotate_left
        · (intro w hSw; (try dsimp only at hSw); go_simp; (try with_reducible rfl))
        try simp only [List.getElem_toArray, List.getElem_cons_succ, List.getElem_cons_zero, Act.put, List.setIfInBounds_toArray, List.set_cons_zero, List.set_cons_succ]
        refine wpAnyH_take (i := 11) (v := ?_) rfl (by kernel_rfl) (by kernel_rfl) (by kernel_rfl) (fun _ _ _ h => h) (Or.inl ⟨by kernel_rfl, ?_⟩) (by assumption) ?_
        rotate_left
        · (intro w hSw; (try dsimp only at hSw); go_simp; (try with_reducible rfl))
        try simp only [List.getElem_toArray, List.getElem_cons_succ, List.getElem_cons_zero, Act.put, List.setIfInBounds_toArray, List.set_cons_zero, List.set_cons_succ]
        refine wpAnyH_take (i := 12) (v := ?_) rfl (by kernel_rfl) (by kernel_rfl) (by kernel_rfl) (fun _ _ _ h => h) (Or.inl ⟨by kernel_rfl, ?_⟩) (by assumption) ?_
        rotate_left
        · (intro w hSw; (try dsimp only at hSw); go_simp; (try with_reducible rfl))
        try simp only [List.getElem_toArray, List.getElem_cons_succ, List.getElem_cons_zero, Act.put, List.setIfInBounds_toArray, List.set_cons_zero, List.set_cons_succ]
        refine wpAnyH_take (i := 13) (v := ?_) rfl (by kernel_rfl) (by kernel_rfl) (by kernel_rfl) (fun _ _ _ h => h) (Or.inl ⟨by kernel_rfl, ?_⟩) (by assumption) ?_
        rotate_left
        · (intro w hSw; (try dsimp only at hSw); go_simp; (try with_reducible rfl))
        try simp only [List.getElem_toArray, List.getElem_cons_succ, List.getElem_cons_zero, Act.put, List.setIfInBounds_toArray, List.set_cons_zero, List.set_cons_succ]
        refine wpAnyH_take (i := 14) (v := ?_) rfl (by kernel_rfl) (by kernel_rfl) (by kernel_rfl) (fun _ _ _ h => h) (Or.inl ⟨by kernel_rfl, ?_⟩) (by assumption) ?_
        rotate_left
        · (intro w hSw; (try dsimp only at hSw); go_simp; (try with_reducible rfl))
        try simp only [List.getElem_toArray, List.getElem_cons_succ, List.getElem_cons_zero, Act.put, List.setIfInBounds_toArray, List.set_cons_zero, List.set_cons_succ]
        refine wpAnyH_take (i := 15) (v := ?_) rfl (by kernel_rfl) (by kernel_rfl) (by kernel_rfl) (fun _ _ _ h => h) (Or.inl ⟨by kernel_rfl, ?_⟩) (by assumption) ?_
        rotate_left
        · (intro w hSw; (try dsimp only at hSw); go_simp; (try with_reducible rfl))
        try simp only [List.getElem_toArray, List.getElem_cons_succ, List.getElem_cons_zero, Act.put, List.setIfInBounds_toArray, List.set_cons_zero, List.set_cons_succ]
        refine wpAnyH_take (i := 16) (v := ?_) rfl (by kernel_rfl) (by kernel_rfl) (by kernel_rfl) (fun _ _ _ h => h) (Or.inl ⟨by kernel_rfl, ?_⟩) (by assumption) ?_
        rotate_left
        · (intro w hSw; (try dsimp only at hSw); go_simp; (try with_reducible rfl))
        try simp only [List.getElem_toArray, List.getElem_cons_succ, List.getElem_cons_zero, Act.put, List.setIfInBounds_toArray, List.set_cons_zero, List.set_cons_succ]
        refine wpAnyH_take (i := 17) (v := ?_) rfl (by kernel_rfl) (by kernel_rfl) (by kernel_rfl) (fun _ _ _ h => h) (Or.inl ⟨by kernel_rfl, ?_⟩) (by assumption) ?_
        rotate_left
        · (intro w hSw; (try dsimp only at hSw); go_simp; (try with_reducible rfl))
        try simp only [List.getElem_toArray, List.getElem_cons_succ, List.getElem_cons_zero, Act.put, List.setIfInBounds_toArray, List.set_cons_zero, List.set_cons_succ]
        refine wpAnyH_ready (rs := [18]) (by kernel_rfl) (by simp) ?_
        refine AllReadyH.cons rfl (fun K hK => ?_) AllReadyH.nil
        go_simp
        refine HMAC.out.mono ?_
        rintro e w4 ⟨A4, c4, rfl, ho4, hb4⟩
        have hb5 : Below W3.heap.size W3 w4 := ⟨hb4.os, hb4.tape, hb4.output, hb4.size, hb4.block⟩
        have hs4 := (HS.out.of_block (w' := W3) (e3 _)).below hb5 lt3
        have ht4 := D3.out.ht.below hb5 lgt3
        have hr4 := HRW.out.below hb5 lga3
        have cd4 : w4.cell? ⟨ga, D, none⟩ = some (.slice (some ⟨gd, 0, none⟩) n kd) := (hb5.cell (p := ⟨ga, D, none⟩) lga3).trans cd
        have cs4 : w4.cell? ⟨ga, S, none⟩ = some (.slice (some ⟨gs, 0, none⟩) n ks) := (hb5.cell (p := ⟨ga, S, none⟩) lga3).trans cs
        have HO4 := Lib.hid ho4
        have HB5 := Lib.hid hb5
        clear hb4 hb5 ho4
        go_wp2_with fail
        refine hK.out _ _ ⟨ht4.cell 0, hs4.cell 1, hs4.cell 2, hs4.cell 3, cd4, cs4⟩ (fun hHeld => ?_)
        clear hK K
        try simp only [List.getElem_toArray, List.getElem_cons_succ, List.getElem_cons_zero, Act.put, List.setIfInBounds_toArray, List.set_cons_zero, List.set_cons_succ]
        refine wpAnyH_take (i := 19) (v := ?_) rfl (by kernel_rfl) (by kernel_rfl) (by kernel_rfl) (fun _ _ _ h => h) (Or.inl ⟨by kernel_rfl, ?_⟩) (by assumption) ?_
        rotate_left
        · (intro w hSw; (try dsimp only at hSw); go_simp; (try with_reducible rfl))
        try simp only [List.getElem_toArray, List.getElem_cons_succ, List.getElem_cons_zero, Act.put, List.setIfInBounds_toArray, List.set_cons_zero, List.set_cons_succ]
        refine wpAnyH_take (i := 20) (v := ?_) rfl (by kernel_rfl) (by kernel_rfl) (by kernel_rfl) (fun _ _ _ h => h) (Or.inl ⟨by kernel_rfl, ?_⟩) (by assumption) ?_
        rotate_left
        · (intro w hSw; (try dsimp only at hSw); go_simp; (try with_reducible rfl))
        try simp only [List.getElem_toArray, List.getElem_cons_succ, List.getElem_cons_zero, Act.put, List.setIfInBounds_toArray, List.set_cons_zero, List.set_cons_succ]
        refine wpAnyH_take (i := 21) (v := ?_) rfl (by kernel_rfl) (by kernel_rfl) (by kernel_rfl) (fun _ _ _ h => h) (Or.inl ⟨by kernel_rfl, ?_⟩) (by assumption) ?_
        rotate_left
        · (intro w hSw; (try dsimp only at hSw); go_simp; (try with_reducible rfl))
        try simp only [List.getElem_toArray, List.getElem_cons_succ, List.getElem_cons_zero, Act.put, List.setIfInBounds_toArray, List.set_cons_zero, List.set_cons_succ]
        refine wpAnyH_take (i := 22) (v := ?_) rfl (by kernel_rfl) (by kernel_rfl) (by kernel_rfl) (fun _ _ _ h => h) (Or.inl ⟨by kernel_rfl, ?_⟩) (by assumption) ?_
        rotate_left
        · (intro w hSw; (try dsimp only at hSw); go_simp; (try with_reducible rfl))
        try simp only [List.getElem_toArray, List.getElem_cons_succ, List.getElem_cons_zero, Act.put, List.setIfInBounds_toArray, List.set_cons_zero, List.set_cons_succ]
        refine wpAnyH_take (i := 23) (v := ?_) rfl (by kernel_rfl) (by kernel_rfl) (by kernel_rfl) (fun _ _ _ h => h) (Or.inl ⟨by kernel_rfl, ?_⟩) (by assumption) ?_
        rotate_left
        · (intro w hSw; (try dsimp only at hSw); go_simp; (try with_reducible rfl))
        try simp only [List.getElem_toArray, List.getElem_cons_succ, List.getElem_cons_zero, Act.put, List.setIfInBounds_toArray, List.set_cons_zero, List.set_cons_succ]
        refine wpAnyH_done (by kernel_rfl) ?_ _
        have k0 : w4.cell? ⟨gt, 0, none⟩ = some (.slice (some ⟨ga, 0, none⟩) nr nr) := ht4.cell 0
        have s1 : w4.cell? ⟨W.heap.size + 1, 1, none⟩ = some (.int .i64 (D : Int)) := hs4.cell 1
        have s0 : w4.cell? ⟨W.heap.size + 1, 0, none⟩ = some (.int .u8 3) := hs4.cell 0
        have HT4 := Lib.hid ht4
        have HS4 := Lib.hid hs4
        have HR4 := Lib.hid hr4
        clear ht4 hs4 hr4 cd4 cs4 cd cs k0 s2 s3 p1 p2 p3 hHeld HMAC c1
        have k0 : w4.cell? ⟨gt, 0, none⟩ = some (.slice (some ⟨ga, 0, none⟩) nr nr) := HT4.out.cell 0
        go_wp2_with fail
        refine wp_region_held_drew (S := (fun x => x.cell? ⟨gt, 0, none⟩ = some (.slice (some ⟨ga, 0, none⟩) nr nr) ∧ x.cell? ⟨W.heap.size + 1, 1, none⟩ = some (.int .i64 (D : Int)))) (by kernel_rfl) ⟨k0, s1⟩ (fun hHeld => ?_)
        refine wpAnyH_take (i := 0) (v := ?_) rfl (by kernel_rfl) (by kernel_rfl) (by kernel_rfl) (fun _ _ _ h => h) (Or.inl ⟨by kernel_rfl, ?_⟩) (by assumption) ?_
        rotate_left
        · (intro w hSw; (try dsimp only at hSw); go_simp; (try with_reducible rfl))
        try simp only [List.getElem_toArray, List.getElem_cons_succ, List.getElem_cons_zero, Act.put, List.setIfInBounds_toArray, List.set_cons_zero, List.set_cons_succ]
        refine wpAnyH_take (i := 1) (v := ?_) rfl (by kernel_rfl) (by kernel_rfl) (by kernel_rfl) (fun _ _ _ h => h) (Or.inl ⟨by kernel_rfl, ?_⟩) (by assumption) ?_
        rotate_left
        · (intro w hSw; (try dsimp only at hSw); go_simp; (try with_reducible rfl))
        try simp only [List.getElem_toArray, List.getElem_cons_succ, List.getElem_cons_zero, Act.put, List.setIfInBounds_toArray, List.set_cons_zero, List.set_cons_succ]
        refine wpAnyH_take (i := 2) (v := ?_) rfl (by kernel_rfl) (by kernel_rfl) (by kernel_rfl) (fun _ _ _ h => h) (Or.inl ⟨by kernel_rfl, ?_⟩) (by assumption) ?_
        rotate_left
        · (intro w hSw; (try dsimp only at hSw); go_simp; (try with_reducible rfl))
        try simp only [List.getElem_toArray, List.getElem_cons_succ, List.getElem_cons_zero, Act.put, List.setIfInBounds_toArray, List.set_cons_zero, List.set_cons_succ]
        refine wpAnyH_take (i := 3) (v := ?_) rfl (by kernel_rfl) (by kernel_rfl) (by kernel_rfl) (fun _ _ _ h => h) (Or.inl ⟨by kernel_rfl, ?_⟩) (by assumption) ?_
        rotate_left
        · (intro w hSw; (try dsimp only at hSw); go_simp; (try with_reducible rfl))
        try simp only [List.getElem_toArray, List.getElem_cons_succ, List.getElem_cons_zero, Act.put, List.setIfInBounds_toArray, List.set_cons_zero, List.set_cons_succ]
        refine wpAnyH_take (i := 4) (v := ?_) rfl (by kernel_rfl) (by kernel_rfl) (by kernel_rfl) (fun _ _ _ h => h) (Or.inl ⟨by kernel_rfl, ?_⟩) (by assumption) ?_
        rotate_left
        · (intro w hSw; (try dsimp only at hSw); go_simp; (try with_reducible rfl))
        try simp only [List.getElem_toArray, List.getElem_cons_succ, List.getElem_cons_zero, Act.put, List.setIfInBounds_toArray, List.set_cons_zero, List.set_cons_succ]
        refine wpAnyH_take (i := 5) (v := ?_) rfl (by kernel_rfl) (by kernel_rfl) (by kernel_rfl) (fun _ _ _ h => h) (Or.inl ⟨by kernel_rfl, ?_⟩) (by assumption) ?_
        rotate_left
        · (intro w hSw; (try dsimp only at hSw); go_simp; (try with_reducible rfl))
        try simp only [List.getElem_toArray, List.getElem_cons_succ, List.getElem_cons_zero, Act.put, List.setIfInBounds_toArray, List.set_cons_zero, List.set_cons_succ]
        refine wpAnyH_take (i := 7) (v := ?_) rfl (by kernel_rfl) (by kernel_rfl) (by kernel_rfl) (fun _ _ _ h => h) (Or.inl ⟨by kernel_rfl, ?_⟩) (by assumption) ?_
        rotate_left
        · (intro w hSw; (try dsimp only at hSw); go_simp; (try with_reducible rfl))
        try simp only [List.getElem_toArray, List.getElem_cons_succ, List.getElem_cons_zero, Act.put, List.setIfInBounds_toArray, List.set_cons_zero, List.set_cons_succ]
        refine wpAnyH_ready (rs := [6]) (by kernel_rfl) (by simp) ?_
        refine AllReadyH.cons rfl (fun K hK => ?_) AllReadyH.nil
        go_simp
        obtain ⟨W5, hW5⟩ : ∃ W5, W5 = (w4.alloc (.cells #[] 5)).drewN 1 := ⟨_, rfl⟩
        have hw5 : (w4.alloc (.cells #[] 5)).drew = W5 := hW5.symm
        have b45 : Below w4.heap.size w4 W5 := by rw [hW5]; exact below_drewN ((Below.refl _ _).alloc (Nat.le_refl _) _) 1
        have own5 : OwnV W5 w4.heap.size (.slice (some ⟨w4.heap.size, 0, none⟩) 0 0) [] := by rw [hW5]; exact (own_empty w4 w4.heap.size (Nat.le_refl _) _ rfl).drewN 1
        have rd5 : Rd W5 W5.heap.size A4 n (bVs (Gf.macL d C s)) := (HO4.out.rd).go b45
        rw [hw5]
        have ht5 := HT4.out.below b45 HT4.out.lt
        have hs5 := HS4.out.below b45 HS4.out.lt
        have HB45 := Lib.hid b45
        have OWN5 := Lib.hid own5
        have RD5 := Lib.hid rd5
        clear hW5 hw5 b45 own5 rd5
        refine hK.out _ _ ⟨ht5.cell 0, hs5.cell 1⟩ (fun hHeld => ?_)
        clear hK K
        try simp only [List.getElem_toArray, List.getElem_cons_succ, List.getElem_cons_zero, Act.put, List.setIfInBounds_toArray, List.set_cons_zero, List.set_cons_succ]
        refine wpAnyH_ready (rs := [8]) (by kernel_rfl) (by simp) ?_
        refine AllReadyH.cons rfl (fun K hK => ?_) AllReadyH.nil
        refine step_append_rd (.tmp 140) (.tmp 141) rfl rfl w4.heap.size _ [] (Gf.macL d C s) rfl OWN5.out W5.heap.size A4 n c4 rfl RD5.out (by simp; omega) HB45.out.size ?_
        intro v6 w6 ho6 hg6 hat6
        have hv6 : ValO w6 v6 (some (Gf.macL d C s)) := ValO.of_append (W := W5) (g := w4.heap.size) ho6 hat6
        have hb6 : Below w4.heap.size w4 w6 := HB45.out.trans (grown_below hg6 HB45.out.size (fun k hk => (World.ownsRow.lt OWN5.out k hk).1))
        obtain ⟨g6, c6, rfl, lc6, hr6⟩ := hv6
        have hr7 := HR4.out.below hb6 HR4.out.lt
        have c7 : w6.frozen? ⟨ga, D, none⟩ = false := hr7.frozen D
        obtain ⟨u7, cu7⟩ : ∃ u, w6.cell? ⟨ga, D, none⟩ = some u := hr7.has (by rw [HR4L.out]; exact hD)
        have ht6 := HT4.out.below hb6 HT4.out.lt
        have hs6 := HS4.out.below hb6 HS4.out.lt
        have lml : (Gf.macL d C s).length = n := by rw [macL_length C (ld.trans ls.symm), ld]
        obtain ⟨d7, c8⟩ := D3.out.put (W' := w6) (HB5.out.trans (hb6.mono HB5.out.size)) D (l := Gf.macL d C s) lml (v := .slice (some ⟨g6, 0, none⟩) (Gf.macL d C s).length c6) ⟨g6, c6, rfl, lc6, hr6⟩
        rw [lml] at d7 c8
        have hs7 := hs6.far (p := ⟨ga, D, none⟩) (by simp; omega) (.slice (some ⟨g6, 0, none⟩) n c6)
        have ht7 := ht6.far (p := ⟨ga, D, none⟩) (Ne.symm D3.out.ne.1) (.slice (some ⟨g6, 0, none⟩) n c6)
        have D7 := Lib.hid d7
        have C7 := Lib.hid c8
        have HS6 := Lib.hid hs6
        clear hr6 ho6 hg6 hat6 hb6 d7 c8 hr7
        refine hK.out _ _ ⟨ht6.cell 0, hs6.cell 1⟩ (fun hHeld => ?_)
        clear hK K
        try simp only [List.getElem_toArray, List.getElem_cons_succ, List.getElem_cons_zero, Act.put, List.setIfInBounds_toArray, List.set_cons_zero, List.set_cons_succ]
        refine wpAnyH_take (i := 9) (v := ?_) rfl (by kernel_rfl) (by kernel_rfl) (by kernel_rfl) (fun _ _ _ h => h) (Or.inl ⟨by kernel_rfl, ?_⟩) (by assumption) ?_
        rotate_left
        · (intro w hSw; (try dsimp only at hSw); go_simp; (try with_reducible rfl))
        try simp only [List.getElem_toArray, List.getElem_cons_succ, List.getElem_cons_zero, Act.put, List.setIfInBounds_toArray, List.set_cons_zero, List.set_cons_succ]
        refine wpAnyH_ready (rs := [10]) (by kernel_rfl) (by simp) ?_
        refine AllReadyH.cons rfl (fun K hK => ?_) AllReadyH.nil
        go_simp
        refine hK.out _ _ ⟨ht7.cell 0, hs7.cell 1⟩ (fun hHeld => ?_)
        clear hK K
        try simp only [List.getElem_toArray, List.getElem_cons_succ, List.getElem_cons_zero, Act.put, List.setIfInBounds_toArray, List.set_cons_zero, List.set_cons_succ]
        refine wpAnyH_done (by kernel_rfl) ?_ _
        obtain ⟨W8, hW8⟩ : ∃ W8, W8 = w6.setCell ⟨ga, D, none⟩ (.slice (some ⟨g6, 0, none⟩) n c6) := ⟨_, rfl⟩
        rw [← hW8] at D7 C7 hs7
        rw [← hW8]
        have s8 : W8.cell? ⟨W.heap.size + 1, 0, none⟩ = some (.int .u8 3) := hs7.cell 0
        clear hW8 hs7 ht7 ht6 hs5 ht5 s1 s0 k0 cu7 c7
        go_wp2_with fail
        go_ret
        refine ⟨(Chg3.of_below q3).trans (Chg3.low3 C7.out q3.size), fun st' h => ?_, fun h => some_none hv h⟩
        rw [hv] at h
        injection h with h
        rw [← h]
        exact ⟨rfl, D7.out⟩
end Go.Proofs.Ythbjcafldbocpaa
