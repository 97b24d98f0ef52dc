/- copy of bytes into a row of the call's own. -/
import Derived.Test.YtgcgajeagdaenaaApp
import Derived.Laws.CopyOwn
namespace Go.Proofs.Ytgcgajeagdaenaa
open Go.RowKit
set_option linter.unusedVariables false
set_option linter.unusedSimpArgs false

/-- xs with cs written over it from off on -/
def over (xs : List UInt8) (off : Nat) (cs : List UInt8) : List UInt8 := xs.take off ++ (cs ++ xs.drop (off + cs.length))
theorem over_length {xs : List UInt8} {off : Nat} {cs : List UInt8} (h : off + cs.length ≤ xs.length) : (over xs off cs).length = xs.length := by simp [over]; omega
theorem over_bVs (xs : List UInt8) (off : Nat) (cs : List UInt8) : splice (bVs xs) off (bVs cs) = bVs (over xs off cs) := by simp [splice, over, bVs, List.map_take, List.map_drop]
theorem over_nil (xs : List UInt8) (off : Nat) : over xs off [] = xs := by simp [over]
theorem over_end (P Z row : List UInt8) (k : Nat) (hk : P.length = k) : over (P ++ Z) k row = P ++ row ++ Z.drop row.length := by
  subst hk
  simp [over, List.drop_append]
theorem over_twice (l row : List UInt8) (k : Nat) (h : k + row.length ≤ l.length) : over (over l k row) k row = over l k row := by
  have e : over l k row = (l.take k) ++ (row ++ l.drop (k + row.length)) := rfl
  rw [e, over_end _ _ _ k (by rw [List.length_take]; omega)]
  simp [List.drop_append]
theorem u8_size : (Try.prog.info? 5).map (·.size) = some 1 := by kernel_rfl
theorem Row.setRow {w : World} {g g' : Nat} {t : TypeId} {ys : List Value} (h : Row w g t ys) (hne : g ≠ g') (cs : Array Value) : Row (w.setRow g' cs) g t ys := (setRow_other w g' g cs hne).trans h

/-- one copy, run -/
theorem run_copy_bytes (W : World) (ty : TypeId) (dp sp : Option Addr) (dl dc m sc : Nat) (g off : Nat) (cur ss : List UInt8) (hg : Row W g 5 (bVs cur)) (B : Nat) (hr : Rd W B sp m (bVs ss))
    (hdst : 0 < (ss.take dl).length → dp = some ⟨g, off, none⟩) (hfit : off + (ss.take dl).length ≤ cur.length) :
    ∃ w', (Builtin.copy_ #[22, 22] ty #[.slice dp dl dc, .slice sp m sc]).run Try.prog W = .ok (goInt (ss.take dl).length) w' ∧ Row w' g 5 (bVs (over cur off (ss.take dl))) ∧ W.grownBy w' (some g) := by
  have hm := hr.len
  rw [bVs_length] at hm
  have hn : (bVs (ss.take dl)).length = Nat.min m dl := by rw [bVs_length, List.length_take, hm]; show min dl m = min m dl; omega
  by_cases h0 : (ss.take dl).length = 0
  · have he : ss.take dl = [] := List.eq_nil_of_length_eq_zero h0
    rw [he, over_nil]
    refine ⟨W, ?_, hg, World.grownBy.refl W _⟩
    exact run_copy_none (P := Try.prog) W 22 22 ty 5 dp sp dl dc m sc Try.underlying22 u8_size (by rw [← hn, bVs_length, h0])
  · obtain rfl := hdst (by omega)
    have hmp : 0 < m := by rw [List.length_take] at h0; omega
    obtain ⟨g2, o2, rfl, _, hc⟩ := hr.2 hmp
    have hrun := run_copy_row (P := Try.prog) W 22 22 ty 5 g off dl dc ⟨g2, o2, none⟩ m sc (bVs cur).toArray 5 (bVs (ss.take dl)) Try.underlying22 u8_size hg hn
      (fun j v hv => by
        have hadd : (⟨g2, o2, none⟩ : Addr).add j = ⟨g2, o2 + j, none⟩ := by unfold Addr.add; split <;> simp_all
        rw [hadd]
        refine hc j v ?_
        rw [← hv, ← bVs_take, List.getElem?_take]
        have hj : j < (bVs (ss.take dl)).length := by
          rcases Nat.lt_or_ge j (bVs (ss.take dl)).length with h | h
          · exact h
          · rw [List.getElem?_eq_none h] at hv; cases hv
        rw [bVs_length, List.length_take] at hj
        rw [if_pos (by omega)])
      (by rw [bVs_length]; simpa [bVs_length] using hfit) (fun v hv => bVs_one hv)
    rw [bVs_length] at hrun
    refine ⟨_, hrun, ?_, ?_⟩
    · have h := setRow_heap W g _ ((bVs cur).toArray.toList.take off ++ bVs (ss.take dl) ++ (bVs cur).toArray.toList.drop (off + (ss.take dl).length)).toArray 5 (0, 0) hg
      unfold Row
      rw [← over_bVs]
      simp only [splice, bVs_length]
      rw [← List.append_assoc]
      exact h
    · exact ⟨rfl, rfl, rfl, by simp [World.setRow], fun k hk hne => setRow_other W g k _ (fun e => hne (by rw [e]))⟩
theorem wp_copy_bytes {o : Oper} {a : Act} {W : World} {K : Act → World → Prop} {Q : Exit → Act → World → Prop} (d s : Operand)
    (ho : o.op = .call { callee := .builtin .copy, args := #[d, s], argTypes := #[22, 22] })
    (dp sp : Option Addr) (dl dc m sc : Nat) (hd : a.eval d = .slice dp dl dc) (hs : a.eval s = .slice sp m sc)
    (g off : Nat) (cur ss : List UInt8) (hg : Row W g 5 (bVs cur)) (B : Nat) (hr : Rd W B sp m (bVs ss)) (hdst : 0 < (ss.take dl).length → dp = some ⟨g, off, none⟩) (hfit : off + (ss.take dl).length ≤ cur.length)
    (h : ∀ w', Row w' g 5 (bVs (over cur off (ss.take dl))) → W.grownBy w' (some g) → K (a.put o.dst (goInt (ss.take dl).length)) w') : o.wp Try.prog a W K Q := by
  obtain ⟨w', hrun, h1, h2⟩ := run_copy_bytes W o.type dp sp dl dc m sc g off cur ss hg B hr hdst hfit
  unfold Oper.wp execOp
  simp only [ho, resolve, invoke, builtin, Sem.run_bind, Sem.run_pure, Result.andThen_ok, List.map_toArray, List.map_cons, List.map_nil, hd, hs, hrun]
  exact h w' h1 h2
theorem wpList_copy_bytes {ops : Array Oper} {rest : List Oper} {o : Oper} {a : Act} {W : World} {Q : Exit → Act → World → Prop} (d s : Operand) (hgd : o.guard = none)
    (ho : o.op = .call { callee := .builtin .copy, args := #[d, s], argTypes := #[22, 22] })
    (dp sp : Option Addr) (dl dc m sc : Nat) (hd : a.eval d = .slice dp dl dc) (hs : a.eval s = .slice sp m sc)
    (g off : Nat) (cur ss : List UInt8) (hg : Row W g 5 (bVs cur)) (B : Nat) (hr : Rd W B sp m (bVs ss)) (hdst : 0 < (ss.take dl).length → dp = some ⟨g, off, none⟩) (hfit : off + (ss.take dl).length ≤ cur.length)
    (h : ∀ w', Row w' g 5 (bVs (over cur off (ss.take dl))) → W.grownBy w' (some g) → wpList Try.prog ops Q rest (a.put o.dst (goInt (ss.take dl).length)) w') : wpList Try.prog ops Q (o :: rest) a W :=
  wpList_plain hgd fun _ hK => wp_copy_bytes d s ho dp sp dl dc m sc hd hs g off cur ss hg B hr hdst hfit fun w' h1 h2 => hK _ _ (h w' h1 h2)
theorem step_copy_bytes {ops : Array Oper} {o : Oper} {a : Act} {W : World} {K : Act → World → Prop} {Q : Exit → Act → World → Prop} {E : Prop} (d s : Operand) (hgd : o.guard = none)
    (ho : o.op = .call { callee := .builtin .copy, args := #[d, s], argTypes := #[22, 22] })
    (dp sp : Option Addr) (dl dc m sc : Nat) (hd : a.eval d = .slice dp dl dc) (hs : a.eval s = .slice sp m sc)
    (g off : Nat) (cur ss : List UInt8) (hg : Row W g 5 (bVs cur)) (B : Nat) (hr : Rd W B sp m (bVs ss)) (hdst : 0 < (ss.take dl).length → dp = some ⟨g, off, none⟩) (hfit : off + (ss.take dl).length ≤ cur.length)
    (h : ∀ w', Row w' g 5 (bVs (over cur off (ss.take dl))) → W.grownBy w' (some g) → K (a.put o.dst (goInt (ss.take dl).length)) w') :
    if Region.wanted o (yielded ops a.tmps) = true then Oper.wp Try.prog o a W K Q else E := by
  have hw : Region.wanted o (yielded ops a.tmps) = true := by simp [Region.wanted, hgd]
  rw [if_pos hw]
  exact wp_copy_bytes d s ho dp sp dl dc m sc hd hs g off cur ss hg B hr hdst hfit h
end Go.Proofs.Ytgcgajeagdaenaa
