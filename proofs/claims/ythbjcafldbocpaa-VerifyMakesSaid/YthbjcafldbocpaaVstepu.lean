/- The walk of looker.step, all ways in one contract: it does the plain step, or gives up. -/
import Derived.Test.YthbjcafldbocpaaVstepi
import Derived.Test.YthbjcafldbocpaaVstepj
namespace Go.Proofs.Ythbjcafldbocpaa
open Go.RowKit
set_option linter.unusedVariables false
set_option linter.unusedSimpArgs false

/-- the looker's blocks are five, all new; its program's numbers are small -/
structure LkG (base gk gr gs go gd nr no reads n : Nat) : Prop where
  bk : base ≤ gk
  br : base ≤ gr
  bs : base ≤ gs
  bo : base ≤ go
  bd : base ≤ gd
  n1 : gs ≠ gk
  n2 : gr ≠ gk
  n3 : gr ≠ gs
  n4 : gd ≠ gk
  n5 : go ≠ gk
  n6 : go ≠ gd
  n7 : gs ≠ go
  n8 : gr ≠ go
  n9 : gs ≠ gd
  n10 : gr ≠ gd
  hn : n ≤ 64
  hreads : reads < 2 ^ 64
theorem some_none {α : Type} {o : Option α} {x : α} {P : Prop} (h : o = some x) (h' : o = none) : P := by rw [h] at h'; cases h'
def somes (rs : List (Option (List UInt8))) : List Bool := rs.map (·.isSome)
/-- the looker's memory -/
structure LkW (w : World) (gk gr gs go gd nr no reads n : Nat) (AS : Option Addr) (nS cS at_ : Nat) (st : VS) : Prop where
  hk : Row w gk 82 (lkV AS nS cS nr no reads n at_ gr gs go gd st.loads)
  hs : Row w gs 4 (bolVs (somes st.regs))
  hr : Row w gr 87 (bVs (flatR st.regs))
  hd : Row w gd 4 (bolVs (somes st.outs))
  ho : Row w go 87 (bVs (flatR st.outs))
  ok : st.Ok nr no n
  hl : st.loads < 2 ^ 64
/-- of the blocks that are there only the looker's five may turn, and none below base -/
structure Fr (base gk gr gs go gd : Nat) (w w' : World) : Prop where
  low : Below base w w'
  keep : ∀ k, k < w.heap.size → k ≠ gk → k ≠ gr → k ≠ gs → k ≠ go → k ≠ gd → w'.heap[k]? = w.heap[k]?
theorem Fr.trans {base gk gr gs go gd : Nat} {w w' w'' : World} (h : Fr base gk gr gs go gd w w') (h' : Fr base gk gr gs go gd w' w'') : Fr base gk gr gs go gd w w'' :=
  ⟨h.low.trans h'.low, fun k hk a b c d e => (h'.keep k (Nat.lt_of_lt_of_le hk h.low.size) a b c d e).trans (h.keep k hk a b c d e)⟩
theorem Fr.row {base gk gr gs go gd : Nat} {w w' : World} (h : Fr base gk gr gs go gd w w') {g : Nat} {t : TypeId} {ys : List Value} (hr : Row w g t ys) (a : g ≠ gk) (b : g ≠ gr) (c : g ≠ gs) (d : g ≠ go) (e : g ≠ gd) : Row w' g t ys := (h.keep g hr.lt a b c d e).trans hr
theorem Chg3.low {B a b c base : Nat} {w w' : World} (h : Chg3 B a b c w w') (hB : base ≤ B) (ha : base ≤ a) (hb : base ≤ b) (hc : base ≤ c) : Below base w w' :=
  ⟨h.os, h.tape, h.output, h.size, fun k hk => h.block k (by omega) (by omega) (by omega) (by omega)⟩
theorem Chg3.fr {a b c base gk gr gs go gd : Nat} {w w' : World} (h : Chg3 w.heap.size a b c w w') (hB : base ≤ w.heap.size) (ha : base ≤ a) (hb : base ≤ b) (hc : base ≤ c) (hi : ∀ x, (x = a ∨ x = b ∨ x = c) → x = gk ∨ x = gr ∨ x = gs ∨ x = go ∨ x = gd) : Fr base gk gr gs go gd w w' :=
  ⟨h.low hB ha hb hc, fun k hk n1 n2 n3 n4 n5 => h.block k hk (fun e => by have := hi k (.inl e); omega) (fun e => by have := hi k (.inr (.inl e)); omega) (fun e => by have := hi k (.inr (.inr e)); omega)⟩
theorem Fr.of_below {base gk gr gs go gd : Nat} {w w' : World} (h : Below w.heap.size w w') (hB : base ≤ w.heap.size) : Fr base gk gr gs go gd w w' := ⟨h.mono hB, fun k hk _ _ _ _ _ => h.block k hk⟩
theorem somes_set (rs : List (Option (List UInt8))) (D : Nat) (l : List UInt8) : (somes rs).set D true = somes (rs.set D (some l)) := by simp [somes, List.map_set]
theorem noReg_of {st : VS} {nr no n : Nat} (h : st.Ok nr no n) {r : Nat} (hr : st.regs.getD r none = none) : NoReg nr (somes st.regs) r := by
  rcases Nat.lt_or_ge r nr with hlt | hge
  · refine .inr ⟨hlt, ?_⟩
    rw [List.getD_eq_getElem?_getD, List.getElem?_eq_getElem (by rw [h.lr]; exact hlt)] at hr
    simp only [Option.getD_some] at hr
    rw [somes, List.getElem?_map, List.getElem?_eq_getElem (by rw [h.lr]; exact hlt), hr]
    rfl
  · exact .inl hge
theorem isReg_of {rs : List (Option (List UInt8))} {r : Nat} {l : List UInt8} (hr : rs.getD r none = some l) : r < rs.length ∧ (somes rs)[r]? = some true := by
  rcases Nat.lt_or_ge r rs.length with hlt | hge
  · refine ⟨hlt, ?_⟩
    rw [List.getD_eq_getElem?_getD, List.getElem?_eq_getElem hlt] at hr
    simp only [Option.getD_some] at hr
    rw [somes, List.getElem?_map, List.getElem?_eq_getElem hlt, hr]
    rfl
  · rw [List.getD_eq_getElem?_getD, List.getElem?_eq_none hge] at hr; cases hr
theorem seg_flat {rs : List (Option (List UInt8))} (h : Short rs) {r : Nat} (hr : r < rs.length) : seg (flatR rs) r = pad (rs.getD r none) := flatR_drop h r hr
theorem bVs_zeros (k : Nat) : bVs (List.replicate k 0) = List.replicate k (.int .u8 0) := by simp [bVs]
theorem bVs_unit (s : Nat) : bVs ((List.replicate 64 0).set s 1) = (List.replicate 64 (.int .u8 0)).set s (.int .u8 1) := by
  rw [← bVs_zeros, ← bVs_set]; rfl
theorem or_lt (a s : Nat) (h : a < 2 ^ 64) (hs : s < 64) : a ||| 1 <<< s < 2 ^ 64 :=
  Nat.or_lt_two_pow h (by rw [Nat.one_shiftLeft]; exact Nat.pow_lt_pow_right (by decide) hs)
set_option maxHeartbeats 1000000 in
theorem step_calls {base gk gr gs go gd nr no reads n nS cS at_ : Nat} {AS : Option Addr} {st : VS} {w : World} (G : LkG base gk gr gs go gd nr no reads n) (h : LkW w gk gr gs go gd nr no reads n AS nS cS at_ st)
    (k D S : Nat) (C : UInt8) (hk : k = 1 ∨ k = 2 ∨ k = 3 ∨ k = 4) :
    Calls Try.prog 64 #[.pointer (some ⟨gk, 0, none⟩), .agg #[.int .u8 (k : Int), .int .i64 (D : Int), .int .i64 (S : Int), .int .u8 (C.toNat : Int)]] w fun e w' =>
      Fr base gk gr gs go gd w w' ∧ (∀ st', vStep nr no reads n st k D S C = some st' → e = .returned (.tuple #[]) ∧ LkW w' gk gr gs go gd nr no reads n AS nS cS at_ st') ∧
      (vStep nr no reads n st k D S C = none → e = .panicked giveUp ∧ Row w' gk 82 (lkV AS nS cS nr no reads n at_ gr gs go gd st.loads)) := by
  have hB : base ≤ w.heap.size := Nat.le_trans G.bk (Nat.le_of_lt h.hk.lt)
  have sr := Short.of_ok h.ok G.hn
  have so := Short.of_ok' h.ok G.hn
  have lf : (bVs (flatR st.regs)).length = nr * 64 := by rw [bVs_length, flatR_length sr, h.ok.lr]
  have lf' : (flatR st.regs).length = nr * 64 := by rw [flatR_length sr, h.ok.lr]
  have lo' : (flatR st.outs).length = no * 64 := by rw [flatR_length so, h.ok.lo]
  have lb : (somes st.regs).length = nr := by rw [somes, List.length_map, h.ok.lr]
  have ld : (somes st.outs).length = no := by rw [somes, List.length_map, h.ok.lo]
  -- a way that gives up and writes nothing below
  have gone : ∀ {v : Array Value}, vStep nr no reads n st k D S C = none → Calls Try.prog 64 v w (fun e w' => e = .panicked giveUp ∧ Below w.heap.size w w') → Calls Try.prog 64 v w fun e w' => Fr base gk gr gs go gd w w' ∧ (∀ st', vStep nr no reads n st k D S C = some st' → e = .returned (.tuple #[]) ∧ LkW w' gk gr gs go gd nr no reads n AS nS cS at_ st') ∧ (vStep nr no reads n st k D S C = none → e = .panicked giveUp ∧ Row w' gk 82 (lkV AS nS cS nr no reads n at_ gr gs go gd st.loads)) := by
    intro v hv hc
    refine hc.mono ?_
    rintro e w' ⟨he, hb⟩
    exact ⟨Fr.of_below hb hB, fun st' h' => some_none h' hv, fun _ => ⟨he, h.hk.below hb h.hk.lt⟩⟩
  rcases hk with rfl | rfl | rfl | rfl
  · by_cases hD : D < nr
    · have hv : vStep nr no reads n st 1 D S C = some { st with regs := st.regs.set D (some (List.replicate n 0)) } := by simp [vStep, hD]
      refine (step_clear gk gr gs go gd nr no reads n at_ st.loads nS cS AS D S C (somes st.regs) _ w h.hk h.hs h.hr lb lf hD G.n1 G.n2 G.n3).mono ?_
      rintro e w' ⟨rfl, k1, k2, k3, k4⟩
      refine ⟨k4.fr hB G.bs G.br G.br (by omega), fun st' h' => ?_, fun h' => some_none hv h'⟩
      rw [hv] at h'
      injection h' with h'
      subst h'
      refine ⟨rfl, k1, by rw [← somes_set]; exact k2, ?_, k4.row h.hd h.hd.lt (Ne.symm G.n9) (Ne.symm G.n10) (Ne.symm G.n10), k4.row h.ho h.ho.lt (Ne.symm G.n7) (Ne.symm G.n8) (Ne.symm G.n8), h.ok.set D _ (by simp) st.loads, h.hl⟩
      have e := layAt_pad sr D (by rw [h.ok.lr]; exact hD) (some (List.replicate n 0)) (fun l hl => by injection hl with hl; rw [← hl, List.length_replicate]; exact G.hn)
      rw [pad_zero n G.hn, bVs_zeros] at e
      rw [← e]
      exact k3
    · exact gone (by simp [vStep, hD]) (step_far gk gr gs go gd nr no reads n at_ st.loads nS cS AS D S C w h.hk (by omega))
  · by_cases hD : D < nr
    · refine (step_load gk gr gs go gd nr no reads n at_ st.loads nS cS AS D S C (somes st.regs) _ w h.hk h.hs h.hr lb lf hD G.hn G.hreads h.hl G.n1 G.n2 G.n3).mono ?_
      rintro e w' ⟨hy, hno⟩
      by_cases hc : S < n ∧ reads.testBit S = true
      · have hv : vStep nr no reads n st 2 D S C = some { st with regs := st.regs.set D (some (unitR n S)), loads := st.loads ||| 1 <<< S } := by simp [vStep, hD, hc.1, hc.2]
        obtain ⟨rfl, k1, k2, k3, k4⟩ := hy hc
        refine ⟨k4.fr hB G.bs G.br G.bk (by omega), fun st' h' => ?_, fun h' => some_none hv h'⟩
        rw [hv] at h'
        injection h' with h'
        subst h'
        refine ⟨rfl, k1, by rw [← somes_set]; exact k2, ?_, k4.row h.hd h.hd.lt (Ne.symm G.n9) (Ne.symm G.n10) G.n4, k4.row h.ho h.ho.lt (Ne.symm G.n7) (Ne.symm G.n8) G.n5, h.ok.set D _ (unitR_length _ _) _, or_lt _ _ h.hl (by have := G.hn; omega)⟩
        have e := layAt_pad sr D (by rw [h.ok.lr]; exact hD) (some (unitR n S)) (fun l hl => by injection hl with hl; rw [← hl, unitR_length]; exact G.hn)
        rw [pad_unit n S G.hn hc.1, bVs_unit] at e
        rw [← e]
        exact k3
      · have hv : vStep nr no reads n st 2 D S C = none := by
          unfold vStep
          rw [if_neg (by decide), if_pos rfl, if_neg (fun h => hc h.2)]
        obtain ⟨rfl, k1, k4⟩ := hno hc
        exact ⟨k4.fr hB G.bs G.br G.bk (by omega), fun st' h' => some_none h' hv, fun _ => ⟨rfl, k1⟩⟩
    · exact gone (by simp [vStep, hD]) (step_far2 gk gr gs go gd nr no reads n at_ st.loads nS cS AS D S C w h.hk (by omega))
  · by_cases hDS : D = S
    · subst hDS
      exact gone (by simp [vStep]) (step_self gk D C w)
    · cases hd : st.regs.getD D none with
      | none =>
        refine gone ?_ (step_mac_no gk gr gs go gd nr no reads n at_ st.loads nS cS AS D S C (somes st.regs) w h.hk h.hs (.inl (noReg_of h.ok hd)) hDS)
        unfold vStep
        rw [if_neg (by decide), if_neg (by decide), if_pos rfl, if_neg hDS, hd]
      | some d =>
        obtain ⟨hD, bD⟩ := isReg_of hd
        rw [h.ok.lr] at hD
        cases hs : st.regs.getD S none with
        | none =>
          refine gone ?_ (step_mac_no gk gr gs go gd nr no reads n at_ st.loads nS cS AS D S C (somes st.regs) w h.hk h.hs (.inr ⟨hD, bD, noReg_of h.ok hs⟩) hDS)
          unfold vStep
          rw [if_neg (by decide), if_neg (by decide), if_pos rfl, if_neg hDS, hd, hs]
        | some s =>
          obtain ⟨hS, bS⟩ := isReg_of hs
          rw [h.ok.lr] at hS
          have hv : vStep nr no reads n st 3 D S C = some { st with regs := st.regs.set D (some (Gf.macL d C s)) } := by
            unfold vStep
            rw [if_neg (by decide), if_neg (by decide), if_pos rfl, if_neg hDS, hd, hs]
          have ln : d.length = n := h.ok.wr _ _ hd
          have lsn : s.length = n := h.ok.wr _ _ hs
          refine (step_mac gk gr gs go gd nr no reads n at_ st.loads nS cS AS D S C (somes st.regs) (flatR st.regs) w h.hk h.hs h.hr lf' G.n1 G.n2 G.n3 hD hS bD bS hDS).mono ?_
          rintro e w' ⟨rfl, k1, k2, k3, k4⟩
          refine ⟨k4.fr hB G.br G.br G.br (by omega), fun st' h' => ?_, fun h' => some_none hv h'⟩
          rw [hv] at h'
          injection h' with h'
          subst h'
          have hml : (Gf.macL d C s).length = n := by rw [macL_length C (ln.trans lsn.symm), ln]
          refine ⟨rfl, k1, ?_, ?_, k4.row h.hd h.hd.lt (Ne.symm G.n10) (Ne.symm G.n10) (Ne.symm G.n10), k4.row h.ho h.ho.lt (Ne.symm G.n8) (Ne.symm G.n8) (Ne.symm G.n8), h.ok.set D _ hml st.loads, h.hl⟩
          · have e : somes (st.regs.set D (some (Gf.macL d C s))) = somes st.regs := by
              rw [← somes_set]
              apply List.ext_getElem?
              intro i
              rw [List.getElem?_set]
              split
              · rename_i hi; subst hi; rw [bD, if_pos (by rw [lb]; exact hD)]
              · rfl
            rw [e]; exact k2
          · have e := layAt_pad sr D (by rw [h.ok.lr]; exact hD) (some (Gf.macL d C s)) (fun l hl => by injection hl with hl; rw [← hl, hml]; exact G.hn)
            rw [pad_mac d s C (ln.trans lsn.symm) (by rw [ln]; exact G.hn)] at e
            rw [seg_flat sr (by rw [h.ok.lr]; exact hD), seg_flat sr (by rw [h.ok.lr]; exact hS), hd, hs] at k3
            rw [← e]
            exact k3
  · cases hs : st.regs.getD S none with
    | none =>
      refine gone ?_ (step_out_no gk gr gs go gd nr no reads n at_ st.loads nS cS AS D S C (somes st.regs) w h.hk h.hs (noReg_of h.ok hs))
      unfold vStep
      rw [if_neg (by decide), if_neg (by decide), if_neg (by decide), if_pos rfl, hs]
    | some s =>
      obtain ⟨hS, bS⟩ := isReg_of hs
      rw [h.ok.lr] at hS
      by_cases hc : D < no ∧ st.outs.getD D none = none
      · have hv : vStep nr no reads n st 4 D S C = some { st with outs := st.outs.set D (some s) } := by
          unfold vStep
          rw [if_neg (by decide), if_neg (by decide), if_neg (by decide), if_pos rfl, hs]
          simp only [if_pos hc]
        have lsn : s.length = n := h.ok.wr _ _ hs
        have bD : (somes st.outs)[D]? = some false := by
          have := hc.2
          rw [List.getD_eq_getElem?_getD, List.getElem?_eq_getElem (by rw [h.ok.lo]; exact hc.1)] at this
          simp only [Option.getD_some] at this
          rw [somes, List.getElem?_map, List.getElem?_eq_getElem (by rw [h.ok.lo]; exact hc.1), this]
          rfl
        refine (step_out gk gr gs go gd nr no reads n at_ st.loads nS cS AS D S C (somes st.regs) (somes st.outs) (flatR st.regs) (flatR st.outs) w h.hk h.hs h.hr lf' h.hd h.ho ld lo' G.n4 G.n5 G.n6 G.n7 G.n8 G.n9 G.n10 hS bS hc.1 bD).mono ?_
        rintro e w' ⟨rfl, k1, k2, k3, k4⟩
        refine ⟨k4.fr hB G.bd G.bo G.bo (by omega), fun st' h' => ?_, fun h' => some_none hv h'⟩
        rw [hv] at h'
        injection h' with h'
        have hok := vStep_ok h.ok (by rw [hv, h'])
        subst h'
        refine ⟨rfl, k1, k4.row h.hs h.hs.lt G.n9 G.n7 G.n7, k4.row h.hr h.hr.lt G.n10 G.n8 G.n8, by rw [← somes_set]; exact k2, ?_, hok, h.hl⟩
        have e := layAt_pad so D (by rw [h.ok.lo]; exact hc.1) (some s) (fun l hl => by injection hl with hl; rw [← hl, lsn]; exact G.hn)
        rw [seg_flat sr (by rw [h.ok.lr]; exact hS), hs] at k3
        rw [← e]
        exact k3
      · refine gone ?_ (step_out_bad gk gr gs go gd nr no reads n at_ st.loads nS cS AS D S C (somes st.regs) (somes st.outs) w h.hk h.hs h.hd hS bS ?_)
        · unfold vStep
          rw [if_neg (by decide), if_neg (by decide), if_neg (by decide), if_pos rfl, hs]
          simp only [if_neg hc]
        · rcases Nat.lt_or_ge D no with hlt | hge
          · refine .inr ⟨hlt, ?_⟩
            cases ho : st.outs.getD D none with
            | none => exact absurd ⟨hlt, ho⟩ hc
            | some l => exact (isReg_of ho).2
          · exact .inl hge
end Go.Proofs.Ythbjcafldbocpaa
