/- What the functions compute that the law PolyFresh reaches, proved by walking them; conditions stand at each theorem. -/
import Derived.Below
import Derived.Deep.Draws
import Derived.Deep.AppendLies
import Derived.Maps.AppendAt
import Derived.OwnWalk
import Derived.Laws.BytesArg
import Derived.Laws.MakeOwn
import Derived.Laws.OwnMore
import Derived.Deep.OwnRows
import Derived.Tactics
import Derived.Lib.ConvBytes
import Derived.Laws.Slices
import Derived.WalkKit
import Derived.KernelRfl
import Derived.RowKit3
import Derived.Deep.LoopGhost
import Derived.Deep.QuietTactic
import Derived.BigQuiet
import Derived.WideLaws
import Derived.Deep.DeepCutAuto
import Derived.Deep.CutBlock
import Derived.Deep.RegionHeld3
import Derived.Laws.Rows
import Derived.Lib.AppendStr
import Derived.ArgAppend
import Derived.Laws.IdiomCopy
import Derived.OrdersHeld
import Derived.Laws.BitsLemmas
import Derived.RowKit
import Derived.Deep.WholeRow
import Derived.Laws.NewBlocks
import Derived.ProofKit
import Derived.OpenShut
import Derived.ChangeOld
import Derived.SizedLaws
import Derived.Test.YtaihgckcmcacfaaCPolyFreshA1
import Derived.Test.YtaihgckcmcacfaaProg
import Derived.Test.YtaihgckcmcacfaaWWords
import Derived.Test.YtaihgckcmcacfaaWLast
import Derived.Test.YtaihgckcmcacfaaWTab
import Derived.Test.YtaihgckcmcacfaaWFour
import Derived.Test.YtaihgckcmcacfaaWQPut
import Derived.Test.YtaihgckcmcacfaaWApart
import Derived.Test.YtaihgckcmcacfaaWArr
import Derived.Test.YtaihgckcmcacfaaWZeros
import Derived.Test.YtaihgckcmcacfaaWFoot
import Derived.Test.YtaihgckcmcacfaaWKept
import Derived.Test.YtaihgckcmcacfaaWShare
import Derived.Test.YtaihgckcmcacfaaWN
import Derived.Test.YtaihgckcmcacfaaWFootNe
import Derived.Test.YtaihgckcmcacfaaWAt
import Derived.Test.YtaihgckcmcacfaaWEqStruct
import Derived.Test.YtaihgckcmcacfaaWRepsOne
import Derived.Test.YtaihgckcmcacfaaWInv
import Derived.Test.YtaihgckcmcacfaaWInvWords
import Derived.Test.YtaihgckcmcacfaaWGuard
import Derived.Test.YtaihgckcmcacfaaWNEv
import Derived.Test.YtaihgckcmcacfaaWMore
namespace Go.Proofs.Ytaihgckcmcacfaa
open Go.RowKit
set_option linter.unusedVariables false
set_option linter.unusedSimpArgs false

set_option maxHeartbeats 400000 in
theorem div_calls (a b : UInt8) (w : World) :
    Calls Try.prog 51 #[.int .u8 (a.toNat : Int), .int .u8 (b.toNat : Int)] w fun e w' => e = .returned (.tuple #[.int .u8 ((Gf.mul a (Gf.inv b)).toNat : Int), .int .i64 (Gf.invE b)]) ∧ Below w.heap.size w w' := by
  by_cases hz : b = 0
  · have h1 := Lib.hid (show Gf.mul a (Gf.inv b) = 0 by rw [hz, Gf.inv_zero, Gf.mul_zero])
    have h2 : Gf.invE b = 5 := by unfold Gf.invE; rw [if_pos hz]
    have hi := inv_calls b w
    rw [h2] at hi
    have HI := Lib.hid hi
    have H2 := Lib.hid h2
    clear hz h2 hi
    go_enter Try.func51, Try.ntmps51
    go_wp2_with (go_at_call 48; refine HI.out.mono ?_; rintro e w1 ⟨rfl, hb1⟩)
    go_ret2
    exact ⟨by rw [h1.out, H2.out]; rfl, hb1⟩
  · have h2 : Gf.invE b = 0 := by unfold Gf.invE; rw [if_neg hz]
    have hi := inv_calls b w
    rw [h2] at hi
    have HI := Lib.hid hi
    have H2 := Lib.hid h2
    clear hz h2 hi
    go_enter Try.func51, Try.ntmps51
    go_wp2_with (first | (go_at_call 48; refine HI.out.mono ?_; rintro e w1 ⟨rfl, hb1⟩) | (go_at_call 39; refine (mul_calls _ _ _).mono ?_; rintro e w' ⟨rfl, rfl⟩))
    go_ret2
    exact ⟨by rw [H2.out]; rfl, hb1⟩

end Go.Proofs.Ytaihgckcmcacfaa
namespace Go.Proofs.Ytaihgckcmcacfaa
open Go.RowKit Go.Proofs.YtaihgckcmcacfaaW.PrintWords
set_option linter.unusedVariables false
set_option linter.unusedSimpArgs false

def field_Div.f (a b : Int) : Option (Int × Int) := if (byteB a && byteB b) = true then some (((Gf.mul (toU a) (Gf.inv (toU b))).toNat : Int), Gf.invE (toU b)) else none
theorem field_Div.calls (a0 : Int) (a1 : Int) (r1 : Int) (r2 : Int) (w : World)  (h : field_Div.f a0 a1 = some (r1, r2)) :
    Calls Try.prog 51 #[.int .u8 a0, .int .u8 a1] w fun e w' => e = .returned (.tuple #[.int .u8 r1, .int .i64 r2]) ∧ Below w.heap.size w w' := by
  unfold field_Div.f at h
  split at h
  · rename_i hi
    rw [Bool.and_eq_true] at hi
    simp only [Option.some.injEq, Prod.mk.injEq] at h
    obtain ⟨rfl, rfl⟩ := h
    have hc := div_calls (toU a0) (toU a1) w
    rw [toU_of hi.1, toU_of hi.2] at hc
    refine hc.mono ?_
    rintro e w' ⟨rfl, hb⟩
    exact ⟨rfl, hb⟩
  · cases h
end Go.Proofs.Ytaihgckcmcacfaa
namespace Go.Proofs.Ytaihgckcmcacfaa
open Go.RowKit Go.Proofs.YtaihgckcmcacfaaW.PrintWords
set_option linter.unusedVariables false
set_option linter.unusedSimpArgs false

def field_Mul.f (a b : Int) : Option Int := if (byteB a && byteB b) = true then some ((Gf.mul (toU a) (toU b)).toNat : Int) else none
theorem field_Mul.calls (a0 : Int) (a1 : Int) (r : Int) (w : World)  (h : field_Mul.f a0 a1 = some r) :
    Calls Try.prog 39 #[.int .u8 a0, .int .u8 a1] w fun e w' => e = .returned (.int .u8 r) ∧ Drawn0 w w' := by
  unfold field_Mul.f at h
  split at h
  · rename_i hi
    rw [Bool.and_eq_true] at hi
    obtain rfl := Option.some.inj h
    have hc := mul_calls (toU a0) (toU a1) w
    rw [toU_of hi.1, toU_of hi.2] at hc
    refine hc.mono ?_
    rintro e w' ⟨rfl, rfl⟩
    exact ⟨rfl, 0, rfl⟩
  · cases h
end Go.Proofs.Ytaihgckcmcacfaa
-- Out of the translation, by this session's turn of the print (wip/gp.py).
namespace Go.Proofs.Ytaihgckcmcacfaa.P0
open Go.RowKit Go.Proofs.YtaihgckcmcacfaaW.PrintWords Go.Proofs.YtaihgckcmcacfaaW.PrintLast Go.Proofs.YtaihgckcmcacfaaW.PrintMore
attribute [local go_sem] max2_int min2_int max_two min_two max_three min_three max_four min_four   -- for this text's walks alone
set_option linter.unusedVariables false
set_option linter.unusedSimpArgs false



def errW : Option Int → Value
  | none => .nilIface
  | some c => .iface 0 (.int .i64 c)
theorem errW_none : errW none = .nilIface := rfl
theorem errW_some (c : Int) : errW (some c) = .iface 0 (.int .i64 c) := rfl

theorem info5 : (Try.prog.info? 5).map (fun i => (i.zero, i.size, i.bytes)) = some (some (.int .u8 0), 1, 1) := by kernel_rfl
-- the values' own types

end Go.Proofs.Ytaihgckcmcacfaa.P0
-- Out of the translation, by this session's turn of the print (wip/gp.py).
namespace Go.Proofs.Ytaihgckcmcacfaa.P0
open Go.RowKit Go.Proofs.YtaihgckcmcacfaaW.PrintWords Go.Proofs.YtaihgckcmcacfaaW.PrintLast Go.Proofs.YtaihgckcmcacfaaW.PrintMore
attribute [local go_sem] max2_int min2_int max_two min_two max_three min_three max_four min_four   -- for this text's walks alone
set_option linter.unusedVariables false
set_option linter.unusedSimpArgs false

/-! ### recoupref01_Same: function 13 -/
def recoupref01_Same.f (l0 : List Int) (l1 : List Int) : Option (Bool) := some ((strOfNums l0).toList == (strOfNums l1).toList)
set_option maxHeartbeats 8000000 in
set_option maxRecDepth 100000 in
theorem recoupref01_Same.calls (A0 : Option Addr) (c0 : Nat) (l0 : List Int) (A1 : Option Addr) (c1 : Nat) (l1 : List Int) (r : Bool) (w : World) (hr0 : Kd.C (Kd.int .u8) w A0 l0.length l0) (hc0 : l0.length ≤ c0) (hr1 : Kd.C (Kd.int .u8) w A1 l1.length l1) (hc1 : l1.length ≤ c1) (h : recoupref01_Same.f l0 l1 = some r) :
    Calls Try.prog 13 #[.slice A0 l0.length c0, .slice A1 l1.length c1] w fun e w' => e = .returned (.bool r) ∧ Drawn0 w w' := by
  have HR0 := Aside0.mk hr0
  have HC0 := Aside0.mk hc0
  clear hr0 hc0
  have HR1 := Aside0.mk hr1
  have HC1 := Aside0.mk hc1
  clear hr1 hc1
  have H : (some ((strOfNums l0).toList == (strOfNums l1).toList)) = some r := h
  clear h
  obtain rfl := Option.some.inj H
  have hcv3 := Kd.C_string (P := Try.prog) (A := A0) (c := c0) Try.underlying22 Try.underlying5 Try.underlying9 HR0.out
  have hcv4 := Kd.C_string (P := Try.prog) (A := A1) (c := c1) Try.underlying22 Try.underlying5 Try.underlying9 HR1.out
  go_enter Try.func13, Try.ntmps13
  go_wp2
  go_ret
  exact ⟨by first | rfl | (simp; done) | (simp [*]; done), by repeat (first | exact Drawn0.refl _ | apply Drawn0.step)⟩

-- given: function 14 (poly_Trim)

/-! ### recoupref01_Copy: function 35 -/
def recoupref01_Copy.f (l0 : List Int) : Option (List Int) := (some (([] : List Int) : List Int)).bind fun y101 => (if y101.length + l0.length < 140737488355328 then (some (y101 ++ l0)) else (none))
set_option maxHeartbeats 8000000 in
set_option maxRecDepth 100000 in
theorem recoupref01_Copy.calls (A0 : Option Addr) (c0 : Nat) (l0 : List Int) (r : List Int) (w : World) (hr0 : Kd.C (Kd.int .u8) w A0 l0.length l0) (hc0 : l0.length ≤ c0) (h : recoupref01_Copy.f l0 = some r) :
    Calls Try.prog 35 #[.slice A0 l0.length c0] w fun e w' => ∃ v0_ : Value, e = .returned (v0_) ∧ Kd.R (Kd.int .u8) 5 w' w.heap.size (fun _ => True) v0_ r ∧ Below w.heap.size w w' := by
  have HR0 := Aside0.mk hr0
  have HC0 := Aside0.mk hc0
  clear hr0 hc0
  have HB := Aside0.mk (Below.refl w.heap.size w)
  have H : ((some (([] : List Int) : List Int)).bind fun y101 => (if y101.length + l0.length < 140737488355328 then (some (y101 ++ l0)) else (none))) = some r := h
  clear h
  obtain ⟨y101, hy101⟩ : ∃ y_ : List Int, y_ = (([] : List Int)) := ⟨_, rfl⟩
  replace H : (if y101.length + l0.length < 140737488355328 then (some (y101 ++ l0)) else (none)) = some r := by first | (rw [hy101]; with_reducible exact H) | (have H2_ := (Option.bind_some _ _).symm.trans H; rw [hy101]; with_reducible exact H2_) | (have H2_ := (Option.bind_some _ _).symm.trans H; with_reducible exact H2_) | with_reducible exact H | (rw [hy101]; exact H) | exact H
  have Ny101 := Aside0.mk hy101
  clear hy101
  by_cases c2 : y101.length + l0.length < 140737488355328
  · rw [if_pos c2] at H
    have LMc2 := Aside0.mk c2
    clear c2
    obtain ⟨y104, hy104⟩ : ∃ y_ : List Int, y_ = (y101 ++ l0) := ⟨_, rfl⟩
    replace H : (some y104) = some r := by first | (rw [hy104]; with_reducible exact H) | (have H2_ := (Option.bind_some _ _).symm.trans H; rw [hy104]; with_reducible exact H2_) | (have H2_ := (Option.bind_some _ _).symm.trans H; with_reducible exact H2_) | with_reducible exact H | (rw [hy104]; exact H) | exact H
    have Ny104 := Aside0.mk hy104
    clear hy104
    obtain rfl := Option.some.inj H
    go_enter Try.func35, Try.ntmps35
    go_wp2_with (first | ((with_reducible refine gate_dst (N := 3) rfl ?_); refine Kd.R_lit (Kd.int .u8) _ 5 ?hg (N := 3) ?hd (xs := ([] : List Int)) (inner := []) (ok := fun _ => True) (okp := fun _ => True) ?hr ?hp (fun _ hk => hk) trivial (Below.refl _ _) (Nat.le_refl _) (by simp) ?_; (case hd => rfl); (case hg => rfl); (case hr => first | (go_simp; done) | (go_simp; rfl)); (case hp => exact (Reps.none _ _)); intro v102 w3 ho4 hb hg_ hnew_; clear hg_ hnew_; (first | rw [← Ny101.out] at ho4 | (simp only [Int.reduceToNat] at ho4; rw [← Ny101.out] at ho4)); have n0_ := Aside0.mk (Kd.R_lower ho4 (below_size (by repeat (first | (with_reducible first | exact HB.out | apply below_alloc | apply pw_below_drewN | apply below_drew1) | exact HB.out)))); have n1_ := Aside0.mk (below_step (by repeat (first | (with_reducible first | exact HB.out | apply below_alloc | apply pw_below_drewN | apply below_drew1) | exact HB.out)) hb); clear HB; have HO103 := n0_; have HB := n1_; clear n0_ n1_; clear hb ho4) | ((with_reducible refine gate_builtin (b := .append) (xs := #[.tmp 3, .tmp 4]) rfl ?_); at_builtin; refine Kd.R_append_rows (Kd.int .u8) (w0 := w) w.heap.size rfl (.tmp 3) (.tmp 4) 22 5 (.int .u8 0) 1 rfl Try.underlying22 info5 rfl (by decide) (by omega) v102 y101 l0 _ _ _ (fun _ => True) (fun _ => False) rfl rfl ?aO ?aR (fun _ _ h => h) (fun _ h => h.elim) ?aF ?aB ?aS ?aL ?_; (case aR => repeat (first | exact (Kd.C_below HR0.out HB.out) | (with_reducible refine Kd.C_alloc ?_ _) | (with_reducible refine Kd.C_drewN ?_ _) | (with_reducible refine Kd.C_drew ?_))); (case aB => exact (by repeat (first | (with_reducible first | exact HB.out | apply below_alloc | apply pw_below_drewN | apply below_drew1) | exact HB.out))); (case aF => exact (fun _ _ => trivial)); (case aO => exact (by (with_reducible repeat first | apply Kd.R_alloc | apply Kd.R_drewN | apply Kd.R_drew); exact HO103.out)); (case aS => exact (below_size (by repeat (first | (with_reducible first | exact HB.out | apply below_alloc | apply pw_below_drewN | apply below_drew1) | exact HB.out)))); (case aL => have := LMc2.out; omega); intro v105 w5 ho hb hg hat; rw [← Ny104.out] at ho; have n0_ := Aside0.mk (hb); have n1_ := Aside0.mk (ho); clear HB HO103; have HB := n0_; have HO106 := n1_; clear n0_ n1_; clear ho hb hg hat))
    go_ret
    exact ⟨_, by first | rfl | (simp [errW_none, errW_some] <;> rfl) | (simp [*, errW_none, errW_some] <;> rfl), by (with_reducible repeat first | apply Kd.R_alloc | apply Kd.R_drewN | apply Kd.R_drew); exact HO106.out, by repeat (first | (with_reducible first | exact HB.out | apply below_alloc | apply pw_below_drewN | apply below_drew1) | exact HB.out)⟩
  · rw [if_neg c2] at H
    exact absurd H (by simp)

/-! ### recoupref02_Trim: function 15 -/
def recoupref02_Trim.l0 : Nat → List Int → Int → Option (List Int)
  | 0, _, _ => none
  | k + 1, x0, x3 => if x3 > 0 then (if 0 ≤ (wrap64 (x3 - 1)) then (if (wrap64 (x3 - 1)) < (x0.length : Int) then (if (rd x0 (wrap64 (x3 - 1))) = 0 then (recoupref02_Trim.l0 k x0 (wrap64 (x3 - 1))) else (if 0 ≤ x3 then (if x3 ≤ (x0.length : Int) then ((recoupref01_Copy.f (x0.take (x3 : Int).toNat)).bind fun t109 => (some t109)) else (none)) else (none))) else (none)) else (none)) else (if 0 ≤ x3 then (if x3 ≤ (x0.length : Int) then ((recoupref01_Copy.f (x0.take (x3 : Int).toNat)).bind fun t113 => (some t113)) else (none)) else (none))
def recoupref02_Trim.f (k : Nat) (l0 : List Int) : Option (List Int) := recoupref02_Trim.l0 k l0 (l0.length : Int)
theorem recoupref02_Trim.mono_l : ∀ k, (∀ y0 y1, LeO (recoupref02_Trim.l0 k y0 y1) (recoupref02_Trim.l0 (k + 1) y0 y1))
  | 0 => fun _ _ r h => by simp [recoupref02_Trim.l0] at h
  | k + 1 => by
    have ih0 := recoupref02_Trim.mono_l k
    · intro y0 y1
      unfold recoupref02_Trim.l0
      repeat' first
      | (with_reducible exact ih0 _ _)
      | (with_reducible exact LeO.refl _)
      | (with_reducible exact LeO.none _)
      | (with_reducible refine LeO.ite ?_ ?_)
      | (with_reducible refine LeO.bind ?_ (fun _ => ?_))
      | exact ih0 _ _
      | exact LeO.none _
      | refine LeO.ite ?_ ?_
      | refine LeO.bind ?_ (fun _ => ?_)
theorem recoupref02_Trim.mono : ∀ a0 k, LeO (recoupref02_Trim.f k a0) (recoupref02_Trim.f (k + 1) a0) := by
  intro a0 k
  have ih0 := recoupref02_Trim.mono_l k
  unfold recoupref02_Trim.f
  repeat' first
      | (with_reducible exact ih0 _ _)
      | (with_reducible exact LeO.refl _)
      | (with_reducible exact LeO.none _)
      | (with_reducible refine LeO.ite ?_ ?_)
      | (with_reducible refine LeO.bind ?_ (fun _ => ?_))
      | exact ih0 _ _
      | exact LeO.none _
      | refine LeO.ite ?_ ?_
      | refine LeO.bind ?_ (fun _ => ?_)
set_option maxHeartbeats 8000000 in
set_option maxRecDepth 100000 in
theorem recoupref02_Trim.calls (k : Nat) (A0 : Option Addr) (c0 : Nat) (l0 : List Int) (r : List Int) (w : World) (hr0 : Kd.C (Kd.int .u8) w A0 l0.length l0) (hc0 : l0.length ≤ c0) (h : recoupref02_Trim.f k l0 = some r) :
    Calls Try.prog 15 #[.slice A0 l0.length c0] w fun e w' => ∃ v0_ : Value, e = .returned (v0_) ∧ Kd.R (Kd.int .u8) 5 w' w.heap.size (fun _ => True) v0_ r ∧ Below w.heap.size w w' := by
  have HR0 := Aside0.mk hr0
  have HC0 := Aside0.mk hc0
  clear hr0 hc0
  have HB := Aside0.mk (Below.refl w.heap.size w)
  have H : (recoupref02_Trim.l0 k l0 (l0.length : Int)) = some r := h
  clear h
  have H' := Aside0.mk H
  clear H
  go_enter Try.func15, Try.ntmps15
  go_wp2
  go_loopg [3] k (fun kq v3 w' => ∃ (x3_1 : Int), v3 = .int .i64 x3_1 ∧ Aside0 (recoupref02_Trim.l0 kq l0 x3_1 = some r) ∧ Aside0 (kq ≤ k) ∧ Aside0 (Below w.heap.size w w'))
  case atStart => exact ⟨((l0.length : Int)), (by first | rfl | (simp; done) | (simp [*]; done)), H', ⟨Nat.le_refl _⟩, ⟨by repeat (first | (with_reducible first | exact HB.out | apply below_alloc | apply pw_below_drewN | apply below_drew1) | exact HB.out)⟩⟩
  case round =>
    clear H'
    try clear c1
    obtain ⟨x3_1, rfl, HA, HK1, HB⟩ := hrel
    cases gk with
    | zero => exact absurd HA.out (by simp [recoupref02_Trim.l0])
    | succ k1 =>
      have H := HA.out
      clear HA
      simp only [recoupref02_Trim.l0] at H
      by_cases c2 : x3_1 > 0
      · rw [if_pos c2] at H
        have c2b0 : decide (0 < x3_1) = true := decide_eq_true c2
        clear c2
        obtain ⟨ji3, hji3⟩ : ∃ j_ : Int, (wrap64 (x3_1 - 1)) = j_ := ⟨_, rfl⟩
        replace H : (if 0 ≤ (ji3) then (if (ji3) < (l0.length : Int) then (if (rd l0 (ji3)) = 0 then (recoupref02_Trim.l0 k1 l0 ji3) else (if 0 ≤ x3_1 then (if x3_1 ≤ (l0.length : Int) then ((recoupref01_Copy.f (l0.take (x3_1 : Int).toNat)).bind fun t109 => (some t109)) else (none)) else (none))) else (none)) else (none)) = some r := by first | (rw [hji3] at H; exact H) | (simp only [hji3] at H ⊢; exact H)
        have hji3w : (IntKind.i64.wrap (x3_1 - 1)) = ji3 := (i64_w _).trans hji3
        by_cases c4 : 0 ≤ (ji3)
        · rw [if_pos c4] at H
          have c4b0 : decide (0 ≤ (ji3)) = true := decide_eq_true c4
          clear c4
          by_cases c5 : (ji3) < (l0.length : Int)
          · rw [if_pos c5] at H
            have c5b0 : decide ((ji3) < (l0.length : Int)) = true := decide_eq_true c5
            clear c5
            by_cases c6 : (rd l0 (ji3)) = 0
            · rw [if_pos c6] at H
              have c6b0 : ((rd l0 (ji3)) == 0) = true := beq_iff_eq.mpr c6
              have c6b1 : ((rd l0 (ji3)) != 0) = false := bne_eq_false_iff_eq.mpr c6
              clear c6
              have H' := Aside0.mk H
              clear H
              have p107 : 0 ≤ ((ji3) : Int) := of_decide_eq_true (by first | (with_reducible assumption) | assumption)
              have q107 : (ji3) < (l0.length : Int) := of_decide_eq_true (by first | (with_reducible assumption) | assumption)
              obtain ⟨ad107, e107, hx107_0⟩ := Kd.at_int HR0.out (ji3) p107 q107
              cases e107
              replace hx107_0 := (HB.out.cell (World.block_lt_of_cell? w _ hx107_0)).trans hx107_0
              replace p107 := eq_true p107
              replace q107 := eq_true q107
              go_wp2
              go_roundg k1
              case measure => have := HK1.out; omega
              case rel => exact ⟨(ji3), (by first | rfl | (simp; done) | (simp only [← hji3] <;> (first | rfl | simp)) | (simp [*]; done)), H', ⟨by have := HK1.out; omega⟩, ⟨by repeat (first | (with_reducible first | exact HB.out | apply below_alloc | apply pw_below_drewN | apply below_drew1) | exact HB.out)⟩⟩
            · rw [if_neg c6] at H
              have c6b0 : ((rd l0 (ji3)) == 0) = false := beq_eq_false_iff_ne.mpr c6
              have c6b1 : ((rd l0 (ji3)) != 0) = true := bne_iff_ne.mpr c6
              by_cases c7 : 0 ≤ x3_1
              · rw [if_pos c7] at H
                have c7b0 := eq_true c7
                have c7b1 : decide (0 ≤ x3_1) = true := decide_eq_true c7
                clear c7
                by_cases c8 : x3_1 ≤ (l0.length : Int)
                · rw [if_pos c8] at H
                  have c8b0 := eq_true c8
                  have c8b1 : decide (x3_1 ≤ (l0.length : Int)) = true := decide_eq_true c8
                  clear c8
                  replace H := Option.bind_eq_some_iff.mp H
                  obtain ⟨t109, A90, H⟩ := H
                  replace H : (some t109) = some r := H
                  have A9 := Aside0.mk A90
                  clear A90
                  obtain rfl := Option.some.inj H
                  have p107 : 0 ≤ ((ji3) : Int) := of_decide_eq_true (by first | (with_reducible assumption) | assumption)
                  have q107 : (ji3) < (l0.length : Int) := of_decide_eq_true (by first | (with_reducible assumption) | assumption)
                  obtain ⟨ad107, e107, hx107_0⟩ := Kd.at_int HR0.out (ji3) p107 q107
                  cases e107
                  replace hx107_0 := (HB.out.cell (World.block_lt_of_cell? w _ hx107_0)).trans hx107_0
                  replace p107 := eq_true p107
                  replace q107 := eq_true q107
                  obtain ⟨i010, hi010, _, hsz10, _⟩ := info_parts info5
                  obtain ⟨hcut10, hA10, hC10⟩ := print_take_of (P := Try.prog) (Value.int .u8) 0 22 5 .i64 Try.underlying22 hi010 hsz10 (some ad107) c0 l0 x3_1 (of_decide_eq_true (by first | (with_reducible assumption) | assumption)) (of_decide_eq_true (by first | (with_reducible assumption) | assumption)) HC0.out
                  have HR108 := Aside0.mk (Kd.C_of_reads (h1 := fun _ => rfl) (hA10 _ (Kd.reads_of_C HR0.out)))
                  have HC108 := Aside0.mk hC10
                  clear hA10 hC10 hi010 hsz10
                  go_wp2_with (first | ((with_reducible refine gate_callee (f := 35) rfl ?_); refine goesL_ (some 21) rfl rfl Try.func35 (by kernel_rfl) rfl #[.slice (some ad107) (l0.take (x3_1 : Int).toNat).length c0] rfl (by (try simp only [List.map_toArray, List.map_cons, List.map_nil]); first | done | (rw [show (l0.take (x3_1 : Int).toNat).length = x3_1.toNat from (by rw [List.length_take]; have h_ : (x3_1 : Int) ≤ (l0.length : Int) := of_decide_eq_true (by first | (with_reducible assumption) | assumption); omega)] <;> rfl) | rfl | (simp only [List.length_drop, List.length_take]; rfl)) ?_; (with_reducible refine (recoupref01_Copy.calls _ _ (l0.take (x3_1 : Int).toNat) t109 _ ?side1 ?side2 A9.out).mono ?_); (case side1 => repeat (first | exact (Kd.C_below HR108.out HB.out) | (with_reducible refine Kd.C_alloc ?_ _) | (with_reducible refine Kd.C_drewN ?_ _) | (with_reducible refine Kd.C_drew ?_))); (case side2 => exact HC108.out); rintro e w11 ⟨v110, rfl, ho0, hb⟩; refine ⟨_, rfl, ?_⟩; have n0_ := Aside0.mk (Kd.R_lower ho0 (below_size (by repeat (first | (with_reducible first | exact HB.out | apply below_alloc | apply pw_below_drewN | apply below_drew1) | exact HB.out)))); have n1_ := Aside0.mk (below_step (by repeat (first | (with_reducible first | exact HB.out | apply below_alloc | apply pw_below_drewN | apply below_drew1) | exact HB.out)) hb); clear HB; have HO111 := n0_; have HB := n1_; clear n0_ n1_; (try clear hb); (try clear hb2); (try clear hk); (try clear hi); (try clear ho0)))
                  go_ret
                  exact ⟨_, by first | rfl | (simp [errW_none, errW_some] <;> rfl) | (simp only [← hji3]; first | rfl | (simp [errW_none, errW_some] <;> rfl)) | (simp [*, errW_none, errW_some] <;> rfl), by (with_reducible repeat first | apply Kd.R_alloc | apply Kd.R_drewN | apply Kd.R_drew); exact HO111.out, by repeat (first | (with_reducible first | exact HB.out | apply below_alloc | apply pw_below_drewN | apply below_drew1) | exact HB.out)⟩
                · rw [if_neg c8] at H
                  exact absurd H (by simp)
              · rw [if_neg c7] at H
                exact absurd H (by simp)
          · rw [if_neg c5] at H
            exact absurd H (by simp)
        · rw [if_neg c4] at H
          exact absurd H (by simp)
      · rw [if_neg c2] at H
        have c2b0 : decide (0 < x3_1) = false := decide_eq_false c2
        clear c2
        by_cases c12 : 0 ≤ x3_1
        · rw [if_pos c12] at H
          have c12b0 := eq_true c12
          have c12b1 : decide (0 ≤ x3_1) = true := decide_eq_true c12
          clear c12
          by_cases c13 : x3_1 ≤ (l0.length : Int)
          · rw [if_pos c13] at H
            have c13b0 := eq_true c13
            have c13b1 : decide (x3_1 ≤ (l0.length : Int)) = true := decide_eq_true c13
            clear c13
            replace H := Option.bind_eq_some_iff.mp H
            obtain ⟨t113, A140, H⟩ := H
            replace H : (some t113) = some r := H
            have A14 := Aside0.mk A140
            clear A140
            obtain rfl := Option.some.inj H
            obtain ⟨i015, hi015, _, hsz15, _⟩ := info_parts info5
            obtain ⟨hcut15, hA15, hC15⟩ := print_take_of (P := Try.prog) (Value.int .u8) 0 22 5 .i64 Try.underlying22 hi015 hsz15 A0 c0 l0 x3_1 (of_decide_eq_true (by first | (with_reducible assumption) | assumption)) (of_decide_eq_true (by first | (with_reducible assumption) | assumption)) HC0.out
            have HR112 := Aside0.mk (Kd.C_of_reads (h1 := fun _ => rfl) (hA15 _ (Kd.reads_of_C HR0.out)))
            have HC112 := Aside0.mk hC15
            clear hA15 hC15 hi015 hsz15
            go_wp2_with (first | ((with_reducible refine gate_callee (f := 35) rfl ?_); refine goesL_ (some 21) rfl rfl Try.func35 (by kernel_rfl) rfl #[.slice A0 (l0.take (x3_1 : Int).toNat).length c0] rfl (by (try simp only [List.map_toArray, List.map_cons, List.map_nil]); first | done | (rw [show (l0.take (x3_1 : Int).toNat).length = x3_1.toNat from (by rw [List.length_take]; have h_ : (x3_1 : Int) ≤ (l0.length : Int) := of_decide_eq_true (by first | (with_reducible assumption) | assumption); omega)] <;> rfl) | rfl | (simp only [List.length_drop, List.length_take]; rfl)) ?_; (with_reducible refine (recoupref01_Copy.calls _ _ (l0.take (x3_1 : Int).toNat) t113 _ ?side1 ?side2 A14.out).mono ?_); (case side1 => repeat (first | exact (Kd.C_below HR112.out HB.out) | (with_reducible refine Kd.C_alloc ?_ _) | (with_reducible refine Kd.C_drewN ?_ _) | (with_reducible refine Kd.C_drew ?_))); (case side2 => exact HC112.out); rintro e w16 ⟨v114, rfl, ho0, hb⟩; refine ⟨_, rfl, ?_⟩; have n0_ := Aside0.mk (Kd.R_lower ho0 (below_size (by repeat (first | (with_reducible first | exact HB.out | apply below_alloc | apply pw_below_drewN | apply below_drew1) | exact HB.out)))); have n1_ := Aside0.mk (below_step (by repeat (first | (with_reducible first | exact HB.out | apply below_alloc | apply pw_below_drewN | apply below_drew1) | exact HB.out)) hb); clear HB; have HO115 := n0_; have HB := n1_; clear n0_ n1_; (try clear hb); (try clear hb2); (try clear hk); (try clear hi); (try clear ho0)))
            go_ret
            exact ⟨_, by first | rfl | (simp [errW_none, errW_some] <;> rfl) | (simp [*, errW_none, errW_some] <;> rfl), by (with_reducible repeat first | apply Kd.R_alloc | apply Kd.R_drewN | apply Kd.R_drew); exact HO115.out, by repeat (first | (with_reducible first | exact HB.out | apply below_alloc | apply pw_below_drewN | apply below_drew1) | exact HB.out)⟩
          · rw [if_neg c13] at H
            exact absurd H (by simp)
        · rw [if_neg c12] at H
          exact absurd H (by simp)

-- given: function 16 (poly_Degree)

-- given: function 39 (field_Mul)

/-! ### poly_Eval: function 17 -/
def poly_Eval.l0 : Nat → List Int → Int → Int → Int → Option (Int)
  | 0, _, _, _, _ => none
  | k + 1, x0, x1, x5, x6 => if x6 ≥ 0 then ((field_Mul.f x5 x1).bind fun t116 => (if 0 ≤ x6 then (if x6 < (x0.length : Int) then (poly_Eval.l0 k x0 x1 (Go.bits .xor .u8 t116 (rd x0 x6)) (wrap64 (x6 - 1))) else (none)) else (none))) else (some x5)
def poly_Eval.f (k : Nat) (l0 : List Int) (a1 : Int) : Option (Int) := poly_Eval.l0 k l0 a1 0 (wrap64 ((l0.length : Int) - 1))
theorem poly_Eval.mono_l : ∀ k, (∀ y0 y1 y2 y3, LeO (poly_Eval.l0 k y0 y1 y2 y3) (poly_Eval.l0 (k + 1) y0 y1 y2 y3))
  | 0 => fun _ _ _ _ r h => by simp [poly_Eval.l0] at h
  | k + 1 => by
    have ih0 := poly_Eval.mono_l k
    · intro y0 y1 y2 y3
      unfold poly_Eval.l0
      repeat' first
      | (with_reducible exact ih0 _ _ _ _)
      | (with_reducible exact LeO.refl _)
      | (with_reducible exact LeO.none _)
      | (with_reducible refine LeO.ite ?_ ?_)
      | (with_reducible refine LeO.bind ?_ (fun _ => ?_))
      | exact ih0 _ _ _ _
      | exact LeO.none _
      | refine LeO.ite ?_ ?_
      | refine LeO.bind ?_ (fun _ => ?_)
theorem poly_Eval.mono : ∀ a0 a1 k, LeO (poly_Eval.f k a0 a1) (poly_Eval.f (k + 1) a0 a1) := by
  intro a0 a1 k
  have ih0 := poly_Eval.mono_l k
  unfold poly_Eval.f
  repeat' first
      | (with_reducible exact ih0 _ _ _ _)
      | (with_reducible exact LeO.refl _)
      | (with_reducible exact LeO.none _)
      | (with_reducible refine LeO.ite ?_ ?_)
      | (with_reducible refine LeO.bind ?_ (fun _ => ?_))
      | exact ih0 _ _ _ _
      | exact LeO.none _
      | refine LeO.ite ?_ ?_
      | refine LeO.bind ?_ (fun _ => ?_)
set_option maxHeartbeats 8000000 in
set_option maxRecDepth 100000 in
theorem poly_Eval.calls (k : Nat) (A0 : Option Addr) (c0 : Nat) (l0 : List Int) (a1 : Int) (r : Int) (w : World) (hr0 : Kd.C (Kd.int .u8) w A0 l0.length l0) (hc0 : l0.length ≤ c0) (h : poly_Eval.f k l0 a1 = some r) :
    Calls Try.prog 17 #[.slice A0 l0.length c0, .int .u8 a1] w fun e w' => e = .returned (.int .u8 r) ∧ Drawn0 w w' := by
  have HR0 := Aside0.mk hr0
  have HC0 := Aside0.mk hc0
  clear hr0 hc0
  have H : (poly_Eval.l0 k l0 a1 0 (wrap64 ((l0.length : Int) - 1))) = some r := h
  clear h
  have H' := Aside0.mk H
  clear H
  go_enter Try.func17, Try.ntmps17
  go_wp2
  repeat (go_quiet (fail); try go_wp2)
  go_loopg [5, 6] k (fun kq v5 v6 w' => ∃ (x5_1 : Int) (x6_1 : Int), v5 = .int .u8 x5_1 ∧ v6 = .int .i64 x6_1 ∧ Aside0 (poly_Eval.l0 kq l0 a1 x5_1 x6_1 = some r) ∧ Aside0 (kq ≤ k) ∧ Drawn0 w w')
  case atStart => exact ⟨(0), (wrap64 ((l0.length : Int) - 1)), (by first | rfl | (simp; done) | (simp [*]; done)), (by first | rfl | (simp; done) | (simp [*]; done)), H', ⟨Nat.le_refl _⟩, by repeat (first | exact Drawn0.refl _ | apply Drawn0.step)⟩
  case round =>
    clear H'
    try clear c1
    try clear p2
    obtain ⟨x5_1, x6_1, rfl, rfl, HA, HK1, ⟨m1, rfl⟩⟩ := hrel
    cases gk with
    | zero => exact absurd HA.out (by simp [poly_Eval.l0])
    | succ k1 =>
      have H := HA.out
      clear HA
      simp only [poly_Eval.l0] at H
      by_cases c3 : x6_1 ≥ 0
      · rw [if_pos c3] at H
        have c3b0 : decide (0 ≤ x6_1) = true := decide_eq_true c3
        clear c3
        replace H := Option.bind_eq_some_iff.mp H
        obtain ⟨t116, A40, H⟩ := H
        replace H : (if 0 ≤ x6_1 then (if x6_1 < (l0.length : Int) then (poly_Eval.l0 k1 l0 a1 (Go.bits .xor .u8 t116 (rd l0 x6_1)) (wrap64 (x6_1 - 1))) else (none)) else (none)) = some r := H
        have A4 := Aside0.mk A40
        clear A40
        by_cases c5 : 0 ≤ x6_1
        · rw [if_pos c5] at H
          have c5b0 : decide (0 ≤ x6_1) = true := decide_eq_true c5
          clear c5
          by_cases c6 : x6_1 < (l0.length : Int)
          · rw [if_pos c6] at H
            have c6b0 : decide (x6_1 < (l0.length : Int)) = true := decide_eq_true c6
            clear c6
            have H' := Aside0.mk H
            clear H
            go_wp2_with (first | (go_at_call 39; (with_reducible refine (field_Mul.calls x5_1 a1 t116 _ A4.out).mono ?_); rintro e w' ⟨rfl, ⟨nd, rfl⟩⟩; (try first | exact ⟨rfl, _, World.drewN_drewN _ _ _⟩ | exact ⟨rfl, _, Eq.trans (World.drewN_drewN _ _ _) (congrArg (World.drewN _) (Nat.add_assoc _ _ _))⟩); have p117 : 0 ≤ (x6_1 : Int) := of_decide_eq_true (by first | (with_reducible assumption) | assumption); have q117 : x6_1 < (l0.length : Int) := of_decide_eq_true (by first | (with_reducible assumption) | assumption); obtain ⟨ad117, e117, hx117_0⟩ := Kd.at_int HR0.out x6_1 p117 q117; cases e117; replace p117 := eq_true p117; replace q117 := eq_true q117))
            repeat (go_quiet (first | (go_at_call 39; (with_reducible refine (field_Mul.calls x5_1 a1 t116 _ A4.out).mono ?_); rintro e w' ⟨rfl, ⟨nd, rfl⟩⟩; (try first | exact ⟨rfl, _, World.drewN_drewN _ _ _⟩ | exact ⟨rfl, _, Eq.trans (World.drewN_drewN _ _ _) (congrArg (World.drewN _) (Nat.add_assoc _ _ _))⟩); have p117 : 0 ≤ (x6_1 : Int) := of_decide_eq_true (by first | (with_reducible assumption) | assumption); have q117 : x6_1 < (l0.length : Int) := of_decide_eq_true (by first | (with_reducible assumption) | assumption); obtain ⟨ad117, e117, hx117_0⟩ := Kd.at_int HR0.out x6_1 p117 q117; cases e117; replace p117 := eq_true p117; replace q117 := eq_true q117)); try go_wp2_with (first | (go_at_call 39; (with_reducible refine (field_Mul.calls x5_1 a1 t116 _ A4.out).mono ?_); rintro e w' ⟨rfl, ⟨nd, rfl⟩⟩; (try first | exact ⟨rfl, _, World.drewN_drewN _ _ _⟩ | exact ⟨rfl, _, Eq.trans (World.drewN_drewN _ _ _) (congrArg (World.drewN _) (Nat.add_assoc _ _ _))⟩); have p117 : 0 ≤ (x6_1 : Int) := of_decide_eq_true (by first | (with_reducible assumption) | assumption); have q117 : x6_1 < (l0.length : Int) := of_decide_eq_true (by first | (with_reducible assumption) | assumption); obtain ⟨ad117, e117, hx117_0⟩ := Kd.at_int HR0.out x6_1 p117 q117; cases e117; replace p117 := eq_true p117; replace q117 := eq_true q117)))
            go_roundg k1
            case measure => have := HK1.out; omega
            case rel => exact ⟨(Go.bits .xor .u8 t116 (rd l0 x6_1)), (wrap64 (x6_1 - 1)), (by first | rfl | (simp; done) | (simp [*]; done)), (by first | rfl | (simp; done) | (simp [*]; done)), H', ⟨by have := HK1.out; omega⟩, by repeat (first | exact Drawn0.refl _ | apply Drawn0.step)⟩
          · rw [if_neg c6] at H
            exact absurd H (by simp)
        · rw [if_neg c5] at H
          exact absurd H (by simp)
      · rw [if_neg c3] at H
        have c3b0 : decide (0 ≤ x6_1) = false := decide_eq_false c3
        clear c3
        obtain rfl := Option.some.inj H
        go_wp2
        repeat (go_quiet (fail); try go_wp2)
        go_ret
        exact ⟨by first | rfl | (simp; done) | (simp [*]; done), by repeat (first | exact Drawn0.refl _ | apply Drawn0.step)⟩

-- given: function 28 (recoupref01_Mul)

/-! ### recoupref02_Eval: function 18 -/
def recoupref02_Eval.l0 : Nat → List Int → Int → Int → Int → Int → Option (Int)
  | 0, _, _, _, _, _ => none
  | k + 1, x0, x1, x5, x6, x7 => if x7 < (x0.length : Int) then (if 0 ≤ x7 then ((recoupref01_Mul.f (rd x0 x7) x6).bind fun t119 => ((recoupref01_Mul.f x6 x1).bind fun t120 => (recoupref02_Eval.l0 k x0 x1 (Go.bits .xor .u8 x5 t119) t120 (wrap64 (x7 + 1))))) else (none)) else (some x5)
def recoupref02_Eval.f (k : Nat) (l0 : List Int) (a1 : Int) : Option (Int) := recoupref02_Eval.l0 k l0 a1 0 1 0
theorem recoupref02_Eval.mono_l : ∀ k, (∀ y0 y1 y2 y3 y4, LeO (recoupref02_Eval.l0 k y0 y1 y2 y3 y4) (recoupref02_Eval.l0 (k + 1) y0 y1 y2 y3 y4))
  | 0 => fun _ _ _ _ _ r h => by simp [recoupref02_Eval.l0] at h
  | k + 1 => by
    have ih0 := recoupref02_Eval.mono_l k
    · intro y0 y1 y2 y3 y4
      unfold recoupref02_Eval.l0
      repeat' first
      | (with_reducible exact ih0 _ _ _ _ _)
      | (with_reducible exact LeO.refl _)
      | (with_reducible exact LeO.none _)
      | (with_reducible refine LeO.ite ?_ ?_)
      | (with_reducible refine LeO.bind ?_ (fun _ => ?_))
      | exact ih0 _ _ _ _ _
      | exact LeO.none _
      | refine LeO.ite ?_ ?_
      | refine LeO.bind ?_ (fun _ => ?_)
theorem recoupref02_Eval.mono : ∀ a0 a1 k, LeO (recoupref02_Eval.f k a0 a1) (recoupref02_Eval.f (k + 1) a0 a1) := by
  intro a0 a1 k
  have ih0 := recoupref02_Eval.mono_l k
  unfold recoupref02_Eval.f
  repeat' first
      | (with_reducible exact ih0 _ _ _ _ _)
      | (with_reducible exact LeO.refl _)
      | (with_reducible exact LeO.none _)
      | (with_reducible refine LeO.ite ?_ ?_)
      | (with_reducible refine LeO.bind ?_ (fun _ => ?_))
      | exact ih0 _ _ _ _ _
      | exact LeO.none _
      | refine LeO.ite ?_ ?_
      | refine LeO.bind ?_ (fun _ => ?_)
set_option maxHeartbeats 8000000 in
set_option maxRecDepth 100000 in
theorem recoupref02_Eval.calls (k : Nat) (A0 : Option Addr) (c0 : Nat) (l0 : List Int) (a1 : Int) (r : Int) (w : World) (hr0 : Kd.C (Kd.int .u8) w A0 l0.length l0) (hc0 : l0.length ≤ c0) (h : recoupref02_Eval.f k l0 a1 = some r) :
    Calls Try.prog 18 #[.slice A0 l0.length c0, .int .u8 a1] w fun e w' => e = .returned (.int .u8 r) ∧ Drawn0 w w' := by
  have HR0 := Aside0.mk hr0
  have HC0 := Aside0.mk hc0
  clear hr0 hc0
  have H : (recoupref02_Eval.l0 k l0 a1 0 1 0) = some r := h
  clear h
  have H' := Aside0.mk H
  clear H
  go_enter Try.func18, Try.ntmps18
  go_wp2
  go_loopg [5, 6, 7] k (fun kq v5 v6 v7 w' => ∃ (x5_1 : Int) (x6_1 : Int) (x7_1 : Int), v5 = .int .u8 x5_1 ∧ v6 = .int .u8 x6_1 ∧ v7 = .int .i64 x7_1 ∧ Aside0 (recoupref02_Eval.l0 kq l0 a1 x5_1 x6_1 x7_1 = some r) ∧ Aside0 (kq ≤ k) ∧ Drawn0 w w')
  case atStart => exact ⟨(0), (1), (0), (by first | rfl | (simp; done) | (simp [*]; done)), (by first | rfl | (simp; done) | (simp [*]; done)), (by first | rfl | (simp; done) | (simp [*]; done)), H', ⟨Nat.le_refl _⟩, by repeat (first | exact Drawn0.refl _ | apply Drawn0.step)⟩
  case round =>
    clear H'
    try clear c1
    try clear p2
    obtain ⟨x5_1, x6_1, x7_1, rfl, rfl, rfl, HA, HK1, ⟨m1, rfl⟩⟩ := hrel
    cases gk with
    | zero => exact absurd HA.out (by simp [recoupref02_Eval.l0])
    | succ k1 =>
      have H := HA.out
      clear HA
      simp only [recoupref02_Eval.l0] at H
      by_cases c3 : x7_1 < (l0.length : Int)
      · rw [if_pos c3] at H
        have c3b0 : decide (x7_1 < (l0.length : Int)) = true := decide_eq_true c3
        clear c3
        by_cases c4 : 0 ≤ x7_1
        · rw [if_pos c4] at H
          have c4b0 : decide (0 ≤ x7_1) = true := decide_eq_true c4
          clear c4
          replace H := Option.bind_eq_some_iff.mp H
          obtain ⟨t119, A50, H⟩ := H
          replace H : ((recoupref01_Mul.f x6_1 a1).bind fun t120 => (recoupref02_Eval.l0 k1 l0 a1 (Go.bits .xor .u8 x5_1 t119) t120 (wrap64 (x7_1 + 1)))) = some r := H
          have A5 := Aside0.mk A50
          clear A50
          replace H := Option.bind_eq_some_iff.mp H
          obtain ⟨t120, A60, H⟩ := H
          replace H : (recoupref02_Eval.l0 k1 l0 a1 (Go.bits .xor .u8 x5_1 t119) t120 (wrap64 (x7_1 + 1))) = some r := H
          have A6 := Aside0.mk A60
          clear A60
          have H' := Aside0.mk H
          clear H
          have p118 : 0 ≤ (x7_1 : Int) := of_decide_eq_true (by first | (with_reducible assumption) | assumption)
          have q118 : x7_1 < (l0.length : Int) := of_decide_eq_true (by first | (with_reducible assumption) | assumption)
          obtain ⟨ad118, e118, hx118_0⟩ := Kd.at_int HR0.out x7_1 p118 q118
          cases e118
          replace p118 := eq_true p118
          replace q118 := eq_true q118
          go_wp2_with (first | ((with_reducible refine gate_callee (f := 28) rfl ?_); refine goesL_ (some 20) rfl rfl Try.func28 (by kernel_rfl) rfl #[.int .u8 (rd l0 x7_1), .int .u8 x6_1] rfl (by (try simp only [List.map_toArray, List.map_cons, List.map_nil]); first | done | rfl | (simp only [List.length_drop, List.length_take]; rfl)) ?_; (with_reducible refine (recoupref01_Mul.calls (rd l0 x7_1) x6_1 t119 _ A5.out).mono ?_); rintro e w' ⟨rfl, ⟨nd, rfl⟩⟩; refine ⟨_, rfl, ?_⟩) | ((with_reducible refine gate_callee (f := 28) rfl ?_); refine goesL_ (some 24) rfl rfl Try.func28 (by kernel_rfl) rfl #[.int .u8 x6_1, .int .u8 a1] rfl (by (try simp only [List.map_toArray, List.map_cons, List.map_nil]); first | done | rfl | (simp only [List.length_drop, List.length_take]; rfl)) ?_; (with_reducible refine (recoupref01_Mul.calls x6_1 a1 t120 _ A6.out).mono ?_); rintro e w' ⟨rfl, ⟨nd, rfl⟩⟩; refine ⟨_, rfl, ?_⟩))
          go_roundg k1
          case measure => have := HK1.out; omega
          case rel => exact ⟨(Go.bits .xor .u8 x5_1 t119), (t120), (wrap64 (x7_1 + 1)), (by first | rfl | (simp; done) | (simp [*]; done)), (by first | rfl | (simp; done) | (simp [*]; done)), (by first | rfl | (simp; done) | (simp [*]; done)), H', ⟨by have := HK1.out; omega⟩, by repeat (first | exact Drawn0.refl _ | apply Drawn0.step)⟩
        · rw [if_neg c4] at H
          exact absurd H (by simp)
      · rw [if_neg c3] at H
        have c3b0 : decide (x7_1 < (l0.length : Int)) = false := decide_eq_false c3
        clear c3
        obtain rfl := Option.some.inj H
        go_wp2
        go_ret
        exact ⟨by first | rfl | (simp; done) | (simp [*]; done), by repeat (first | exact Drawn0.refl _ | apply Drawn0.step)⟩

/-! ### recouplaw02_PolyValues: function 3 -/
def recouplaw02_PolyValues.f (k : Nat) (l0 : List Int) (a1 : Int) : Option (Bool) := (poly_Trim.f l0).bind fun t121 => ((recoupref02_Trim.f k l0).bind fun t124 => ((recoupref01_Same.f t121 t124).bind fun t127 => (if t127 = true then ((poly_Degree.f l0).bind fun t128 => ((recoupref02_Trim.f k l0).bind fun t129 => (if t128 = (wrap64 ((t129.length : Int) - 1)) then ((poly_Eval.f k l0 a1).bind fun t132 => ((recoupref02_Eval.f k l0 a1).bind fun t133 => (some (t132 == t133)))) else (some false)))) else (some false))))
theorem recouplaw02_PolyValues.mono : ∀ a0 a1 k, LeO (recouplaw02_PolyValues.f k a0 a1) (recouplaw02_PolyValues.f (k + 1) a0 a1) := by
  intro a0 a1 k
  unfold recouplaw02_PolyValues.f
  repeat' first
      | (with_reducible exact poly_Eval.mono _ _ _)
      | (with_reducible exact recoupref02_Eval.mono _ _ _)
      | (with_reducible exact recoupref02_Trim.mono _ _)
      | (with_reducible exact LeO.refl _)
      | (with_reducible exact LeO.none _)
      | (with_reducible refine LeO.ite ?_ ?_)
      | (with_reducible refine LeO.bind ?_ (fun _ => ?_))
      | exact poly_Eval.mono _ _ _
      | exact recoupref02_Eval.mono _ _ _
      | exact recoupref02_Trim.mono _ _
      | exact LeO.none _
      | refine LeO.ite ?_ ?_
      | refine LeO.bind ?_ (fun _ => ?_)
set_option maxHeartbeats 8000000 in
set_option maxRecDepth 100000 in
theorem recouplaw02_PolyValues.calls (k : Nat) (A0 : Option Addr) (c0 : Nat) (l0 : List Int) (a1 : Int) (r : Bool) (w : World) (hr0 : Kd.C (Kd.int .u8) w A0 l0.length l0) (hc0 : l0.length ≤ c0) (hrt : r = true) (h : recouplaw02_PolyValues.f k l0 a1 = some r) :
    Calls Try.prog 3 #[.slice A0 l0.length c0, .int .u8 a1] w fun e w' => e = .returned (.bool r) ∧ Below w.heap.size w w' := by
  have HR0 := Aside0.mk hr0
  have HC0 := Aside0.mk hc0
  clear hr0 hc0
  have HRT := Aside0.mk hrt
  clear hrt
  have HB := Aside0.mk (Below.refl w.heap.size w)
  have H : ((poly_Trim.f l0).bind fun t121 => ((recoupref02_Trim.f k l0).bind fun t124 => ((recoupref01_Same.f t121 t124).bind fun t127 => (if t127 = true then ((poly_Degree.f l0).bind fun t128 => ((recoupref02_Trim.f k l0).bind fun t129 => (if t128 = (wrap64 ((t129.length : Int) - 1)) then ((poly_Eval.f k l0 a1).bind fun t132 => ((recoupref02_Eval.f k l0 a1).bind fun t133 => (some (t132 == t133)))) else (some false)))) else (some false))))) = some r := h
  clear h
  replace H := Option.bind_eq_some_iff.mp H
  obtain ⟨t121, A30, H⟩ := H
  replace H : ((recoupref02_Trim.f k l0).bind fun t124 => ((recoupref01_Same.f t121 t124).bind fun t127 => (if t127 = true then ((poly_Degree.f l0).bind fun t128 => ((recoupref02_Trim.f k l0).bind fun t129 => (if t128 = (wrap64 ((t129.length : Int) - 1)) then ((poly_Eval.f k l0 a1).bind fun t132 => ((recoupref02_Eval.f k l0 a1).bind fun t133 => (some (t132 == t133)))) else (some false)))) else (some false)))) = some r := H
  have A3 := Aside0.mk A30
  clear A30
  replace H := Option.bind_eq_some_iff.mp H
  obtain ⟨t124, A40, H⟩ := H
  replace H : ((recoupref01_Same.f t121 t124).bind fun t127 => (if t127 = true then ((poly_Degree.f l0).bind fun t128 => ((recoupref02_Trim.f k l0).bind fun t129 => (if t128 = (wrap64 ((t129.length : Int) - 1)) then ((poly_Eval.f k l0 a1).bind fun t132 => ((recoupref02_Eval.f k l0 a1).bind fun t133 => (some (t132 == t133)))) else (some false)))) else (some false))) = some r := H
  have A4 := Aside0.mk A40
  clear A40
  replace H := Option.bind_eq_some_iff.mp H
  obtain ⟨t127, A50, H⟩ := H
  replace H : (if t127 = true then ((poly_Degree.f l0).bind fun t128 => ((recoupref02_Trim.f k l0).bind fun t129 => (if t128 = (wrap64 ((t129.length : Int) - 1)) then ((poly_Eval.f k l0 a1).bind fun t132 => ((recoupref02_Eval.f k l0 a1).bind fun t133 => (some (t132 == t133)))) else (some false)))) else (some false)) = some r := H
  have A5 := Aside0.mk A50
  clear A50
  by_cases c6 : t127 = true
  · subst c6
    have H1 : ((poly_Degree.f l0).bind fun t128 => ((recoupref02_Trim.f k l0).bind fun t129 => (if t128 = (wrap64 ((t129.length : Int) - 1)) then ((poly_Eval.f k l0 a1).bind fun t132 => ((recoupref02_Eval.f k l0 a1).bind fun t133 => (some (t132 == t133)))) else (some false)))) = some r := by rw [if_pos rfl] at H; exact H
    clear H
    have H := H1
    clear H1
    replace H := Option.bind_eq_some_iff.mp H
    obtain ⟨t128, A70, H⟩ := H
    replace H : ((recoupref02_Trim.f k l0).bind fun t129 => (if t128 = (wrap64 ((t129.length : Int) - 1)) then ((poly_Eval.f k l0 a1).bind fun t132 => ((recoupref02_Eval.f k l0 a1).bind fun t133 => (some (t132 == t133)))) else (some false))) = some r := H
    have A7 := Aside0.mk A70
    clear A70
    replace H := Option.bind_eq_some_iff.mp H
    obtain ⟨t129, A80, H⟩ := H
    replace H : (if t128 = (wrap64 ((t129.length : Int) - 1)) then ((poly_Eval.f k l0 a1).bind fun t132 => ((recoupref02_Eval.f k l0 a1).bind fun t133 => (some (t132 == t133)))) else (some false)) = some r := H
    have A8 := Aside0.mk A80
    clear A80
    by_cases c9 : t128 = (wrap64 ((t129.length : Int) - 1))
    · rw [if_pos c9] at H
      have c9b0 : (t128 == (wrap64 ((t129.length : Int) - 1))) = true := beq_iff_eq.mpr c9
      have c9b1 : (t128 != (wrap64 ((t129.length : Int) - 1))) = false := bne_eq_false_iff_eq.mpr c9
      clear c9
      replace H := Option.bind_eq_some_iff.mp H
      obtain ⟨t132, A100, H⟩ := H
      replace H : ((recoupref02_Eval.f k l0 a1).bind fun t133 => (some (t132 == t133))) = some r := H
      have A10 := Aside0.mk A100
      clear A100
      replace H := Option.bind_eq_some_iff.mp H
      obtain ⟨t133, A110, H⟩ := H
      replace H : (some (t132 == t133)) = some r := H
      have A11 := Aside0.mk A110
      clear A110
      obtain rfl := Option.some.inj H
      go_enter Try.func3, Try.ntmps3
      go_wp2_with (first | ((with_reducible refine gate_callee (f := 14) rfl ?_); refine goesL_ (some 6) rfl rfl Try.func14 (by kernel_rfl) rfl #[.slice A0 l0.length c0] rfl (by (try simp only [List.map_toArray, List.map_cons, List.map_nil]); first | done | rfl | (simp only [List.length_drop, List.length_take]; rfl)) ?_; (with_reducible refine (poly_Trim.calls _ _ l0 t121 _ ?side1 ?side2 A3.out).mono ?_); (case side1 => repeat (first | exact HR0.out | (with_reducible refine Kd.C_alloc ?_ _) | (with_reducible refine Kd.C_drewN ?_ _) | (with_reducible refine Kd.C_drew ?_))); (case side2 => exact HC0.out); rintro e w12 ⟨v122, rfl, ho0, hb⟩; refine ⟨_, rfl, ?_⟩; have n0_ := Aside0.mk (Kd.R_lower ho0 (below_size (by repeat (first | (with_reducible first | exact HB.out | apply below_alloc | apply pw_below_drewN | apply below_drew1) | exact HB.out)))); have n1_ := Aside0.mk (below_step (by repeat (first | (with_reducible first | exact HB.out | apply below_alloc | apply pw_below_drewN | apply below_drew1) | exact HB.out)) hb); clear HB; have HO123 := n0_; have HB := n1_; clear n0_ n1_; (try clear hb); (try clear hb2); (try clear hk); (try clear hi); (try clear ho0)) | ((with_reducible refine gate_callee (f := 15) rfl ?_); refine goesL_ (some 8) rfl rfl Try.func15 (by kernel_rfl) rfl #[.slice A0 l0.length c0] rfl (by (try simp only [List.map_toArray, List.map_cons, List.map_nil]); first | done | rfl | (simp only [List.length_drop, List.length_take]; rfl)) ?_; (with_reducible refine (recoupref02_Trim.calls k _ _ l0 t124 _ ?side1 ?side2 A4.out).mono ?_); (case side1 => repeat (first | exact (Kd.C_below HR0.out HB.out) | (with_reducible refine Kd.C_alloc ?_ _) | (with_reducible refine Kd.C_drewN ?_ _) | (with_reducible refine Kd.C_drew ?_))); (case side2 => exact HC0.out); rintro e w13 ⟨v125, rfl, ho0, hb⟩; refine ⟨_, rfl, ?_⟩; have n0_ := Aside0.mk (Kd.R_elder' (by (with_reducible repeat first | apply Kd.R_alloc | apply Kd.R_drewN | apply Kd.R_drew); exact HO123.out) (Kd.R_base ho0) hb); have n1_ := Aside0.mk (Kd.R_lower (Kd.R_new' ho0 (Kd.R_lt (by (with_reducible repeat first | apply Kd.R_alloc | apply Kd.R_drewN | apply Kd.R_drew); exact HO123.out))) (below_size (by repeat (first | (with_reducible first | exact HB.out | apply below_alloc | apply pw_below_drewN | apply below_drew1) | exact HB.out)))); have n2_ := Aside0.mk (below_step (by repeat (first | (with_reducible first | exact HB.out | apply below_alloc | apply pw_below_drewN | apply below_drew1) | exact HB.out)) hb); clear HO123 HB; have HO123 := n0_; have HO126 := n1_; have HB := n2_; clear n0_ n1_ n2_; (try clear hb); (try clear hb2); (try clear hk); (try clear hi); (try clear ho0); obtain ⟨Ao14, co14, eo14⟩ := Kd.R_slice HO123.out; subst eo14; obtain ⟨Ao15, co15, eo15⟩ := Kd.R_slice HO126.out; subst eo15) | ((with_reducible refine gate_callee (f := 13) rfl ?_); refine goesL_ (some 9) rfl rfl Try.func13 (by kernel_rfl) rfl #[.slice Ao14 t121.length co14, .slice Ao15 t124.length co15] rfl (by (try simp only [List.map_toArray, List.map_cons, List.map_nil]); first | done | rfl | (simp only [List.length_drop, List.length_take]; rfl)) ?_; (with_reducible refine (recoupref01_Same.calls _ _ t121 _ _ t124 true _ ?side1 ?side2 ?side3 ?side4 A5.out).mono ?_); (case side1 => repeat (first | exact (Kd.R_reads' HO123.out).2.2 | (with_reducible refine Kd.C_alloc ?_ _) | (with_reducible refine Kd.C_drewN ?_ _) | (with_reducible refine Kd.C_drew ?_))); (case side2 => exact (Kd.R_reads' HO123.out).2.1); (case side3 => repeat (first | exact (Kd.R_reads' HO126.out).2.2 | (with_reducible refine Kd.C_alloc ?_ _) | (with_reducible refine Kd.C_drewN ?_ _) | (with_reducible refine Kd.C_drew ?_))); (case side4 => exact (Kd.R_reads' HO126.out).2.1); rintro e w' ⟨rfl, ⟨nd, rfl⟩⟩; refine ⟨_, rfl, ?_⟩) | (go_at_call 16; (with_reducible refine (poly_Degree.calls _ _ l0 t128 _ ?side1 ?side2 A7.out).mono ?_); (case side1 => repeat (first | exact (Kd.C_below HR0.out (by repeat (first | (with_reducible first | exact HB.out | apply below_alloc | apply pw_below_drewN | apply below_drew1) | exact HB.out))) | (with_reducible refine Kd.C_alloc ?_ _) | (with_reducible refine Kd.C_drewN ?_ _) | (with_reducible refine Kd.C_drew ?_))); (case side2 => exact HC0.out); rintro e w' ⟨rfl, ⟨nd, rfl⟩⟩) | (go_at_call 15; (with_reducible refine (recoupref02_Trim.calls k _ _ l0 t129 _ ?side1 ?side2 A8.out).mono ?_); (case side1 => repeat (first | exact (Kd.C_below HR0.out (by repeat (first | (with_reducible first | exact HB.out | apply below_alloc | apply pw_below_drewN | apply below_drew1) | exact HB.out))) | (with_reducible refine Kd.C_alloc ?_ _) | (with_reducible refine Kd.C_drewN ?_ _) | (with_reducible refine Kd.C_drew ?_))); (case side2 => exact HC0.out); rintro e w16 ⟨v130, rfl, ho0, hb⟩; have n0_ := Aside0.mk (Kd.R_elder' (by (with_reducible repeat first | apply Kd.R_alloc | apply Kd.R_drewN | apply Kd.R_drew); exact HO123.out) (Kd.R_base ho0) hb); have n1_ := Aside0.mk (Kd.R_elder' (by (with_reducible repeat first | apply Kd.R_alloc | apply Kd.R_drewN | apply Kd.R_drew); exact HO126.out) (Kd.R_base ho0) hb); have n2_ := Aside0.mk (Kd.R_lower (Kd.R_new' (Kd.R_new' ho0 (Kd.R_lt (by (with_reducible repeat first | apply Kd.R_alloc | apply Kd.R_drewN | apply Kd.R_drew); exact HO123.out))) (Kd.R_lt (by (with_reducible repeat first | apply Kd.R_alloc | apply Kd.R_drewN | apply Kd.R_drew); exact HO126.out))) (below_size (by repeat (first | (with_reducible first | exact HB.out | apply below_alloc | apply pw_below_drewN | apply below_drew1) | exact HB.out)))); have n3_ := Aside0.mk (below_step (by repeat (first | (with_reducible first | exact HB.out | apply below_alloc | apply pw_below_drewN | apply below_drew1) | exact HB.out)) hb); clear HO123 HO126 HB; have HO123 := n0_; have HO126 := n1_; have HO131 := n2_; have HB := n3_; clear n0_ n1_ n2_ n3_; (try clear hb); (try clear hb2); (try clear hk); (try clear hi); (try clear ho0); obtain ⟨Ao17, co17, eo17⟩ := Kd.R_slice HO131.out; subst eo17) | (go_at_call 17; (with_reducible refine (poly_Eval.calls k _ _ l0 a1 t132 _ ?side1 ?side2 A10.out).mono ?_); (case side1 => repeat (first | exact (Kd.C_below HR0.out HB.out) | (with_reducible refine Kd.C_alloc ?_ _) | (with_reducible refine Kd.C_drewN ?_ _) | (with_reducible refine Kd.C_drew ?_))); (case side2 => exact HC0.out); rintro e w' ⟨rfl, ⟨nd, rfl⟩⟩) | (go_at_call 18; (with_reducible refine (recoupref02_Eval.calls k _ _ l0 a1 t133 _ ?side1 ?side2 A11.out).mono ?_); (case side1 => repeat (first | exact (Kd.C_below HR0.out (by repeat (first | (with_reducible first | exact HB.out | apply below_alloc | apply pw_below_drewN | apply below_drew1) | exact HB.out))) | (with_reducible refine Kd.C_alloc ?_ _) | (with_reducible refine Kd.C_drewN ?_ _) | (with_reducible refine Kd.C_drew ?_))); (case side2 => exact HC0.out); rintro e w' ⟨rfl, ⟨nd, rfl⟩⟩))
      go_ret
      exact ⟨by first | rfl | (simp [errW_none, errW_some] <;> rfl) | (simp [*, errW_none, errW_some] <;> rfl), by repeat (first | (with_reducible first | exact HB.out | apply below_alloc | apply pw_below_drewN | apply below_drew1) | exact HB.out)⟩
    · rw [if_neg c9] at H
      have c9b0 : (t128 == (wrap64 ((t129.length : Int) - 1))) = false := beq_eq_false_iff_ne.mpr c9
      have c9b1 : (t128 != (wrap64 ((t129.length : Int) - 1))) = true := bne_iff_ne.mpr c9
      exact absurd (Option.some.inj H) (by rw [HRT.out]; decide)
  · replace c6 := Bool.eq_false_iff.mpr c6
    subst c6
    have H1 : (some false) = some r := by rw [if_neg (show ¬ (false = true) by decide)] at H; exact H
    clear H
    have H := H1
    clear H1
    exact absurd (Option.some.inj H) (by rw [HRT.out]; decide)

/-- THE ONE PURE STATEMENT of recouplaw02_PolyValues: yours. -/
def recouplaw02_PolyValues.Pure : Prop := ∀ (l0 : List Int) (a1 : Int), l0.length ≤ maxLen → l0.length * 1 ≤ 140737488351232 → (∀ x ∈ l0, (Lit.int .u8 x).wf = true) → (Lit.int .u8 a1).wf = true → ∃ k, recouplaw02_PolyValues.f k l0 a1 = some true
theorem recouplaw02_PolyValues.walk (P : recouplaw02_PolyValues.Pure) (a0 : Option Addr) (len0 cap0 : Nat) (z0 : List Int) (a1 : Int) (w : World) (w0 : (a0 = none ∧ len0 = 0 ∧ cap0 = 0 ∧ z0 = []) ∨ ∃ x, a0 = some x ∧ len0 ≤ cap0 ∧ cap0 ≤ maxLen ∧ z0.length = cap0 ∧ (∀ i, i < z0.length → w.cell? (x.add i) = some (.int .u8 (z0.getD i 0))) ∧ ∀ n ∈ z0, (Lit.int .u8 n).wf = true) (y0 : len0 * 1 ≤ 140737488351232) (w1 : (Lit.int .u8 a1).wf = true) :
    Calls Try.prog 3 #[.slice a0 len0 cap0, .int .u8 a1] w fun e w' => e = .returned (.bool true) ∧ Below w.heap.size w w' := by
  obtain ⟨l0, rfl, hr0, hm0, hw0, hc0⟩ := ReadsInt.ofRowC w0
  obtain ⟨k, h⟩ := P l0 a1 hm0 y0 hw0 w1
  refine (recouplaw02_PolyValues.calls k _ _ l0 a1 true w (Kd.C_of_reads (d := (0 : Int)) (h1 := fun _ => rfl) hr0) hc0 rfl h).mono ?_
  rintro e w' ⟨rfl, hd⟩
  exact ⟨rfl, hd⟩

end Go.Proofs.Ytaihgckcmcacfaa.P0
namespace Go.Proofs.Ytaihgckcmcacfaa
open Go.RowKit Go.Proofs.YtaihgckcmcacfaaW.PrintWords
set_option linter.unusedVariables false
set_option linter.unusedSimpArgs false

theorem nI_set (xs : List UInt8) (i : Nat) (x : UInt8) : (nI xs).set i (x.toNat : Int) = nI (xs.set i x) := by simp [nI, List.map_set]
theorem nI_snoc (xs : List UInt8) (x : UInt8) : nI xs ++ [(x.toNat : Int)] = nI (xs ++ [x]) := by simp [nI]
theorem nI_app (xs ys : List UInt8) : nI xs ++ nI ys = nI (xs ++ ys) := by simp [nI]
theorem nI_nil : nI [] = [] := rfl
theorem nI_rep (n : Nat) : List.replicate n (0 : Int) = nI (List.replicate n 0) := by simp [nI]
theorem nI_take (xs : List UInt8) (n : Nat) : (nI xs).take n = nI (xs.take n) := by simp [nI, List.map_take]
theorem nI_drop (xs : List UInt8) (n : Nat) : (nI xs).drop n = nI (xs.drop n) := by simp [nI, List.map_drop]
theorem rd_nI (xs : List UInt8) (i : Nat) : rd (nI xs) (i : Int) = ((xs.getD i 0).toNat : Int) := by
  unfold rd nI
  rw [Int.toNat_natCast, List.getD_eq_getElem?_getD, List.getElem?_map, List.getD_eq_getElem?_getD]
  cases xs[i]? <;> simp
theorem w64 {e : Int} (h0 : -9223372036854775808 ≤ e) (h1 : e ≤ 9223372036854775807) : wrap64 e = e := by
  unfold wrap64
  omega
theorem w64_nat {n : Nat} (h : n ≤ 9223372036854775807) : wrap64 (n : Int) = (n : Int) := w64 (by omega) (by omega)
theorem w64_succ {i : Nat} (h : i ≤ 9223372036854775806) : wrap64 ((i : Int) + 1) = ((i + 1 : Nat) : Int) := by
  rw [w64 (by omega) (by omega)]; rfl
theorem w64_mul {i c : Nat} (h : i * c ≤ 9223372036854775807) : wrap64 ((i : Int) * (c : Int)) = ((i * c : Nat) : Int) := by
  rw [← Int.natCast_mul, w64 (by omega) (by omega)]
theorem w64_add {i c : Nat} (h : i + c ≤ 9223372036854775807) : wrap64 ((i : Int) + (c : Int)) = ((i + c : Nat) : Int) := by
  rw [← Int.natCast_add, w64 (by omega) (by omega)]
theorem w64_place {i c j : Nat} (h : i * c + j ≤ 9223372036854775807) : wrap64 (wrap64 ((i : Int) * (c : Int)) + (j : Int)) = ((i * c + j : Nat) : Int) := by
  rw [w64_mul (by omega), w64_add h]
theorem getD_set_same (xs : List UInt8) (p : Nat) (x : UInt8) (h : p < xs.length) : (xs.set p x).getD p 0 = x := by
  rw [List.getD_eq_getElem?_getD, List.getElem?_set]
  simp [h]
theorem add_xor (a b : UInt8) : Go.bits .xor .u8 (a.toNat : Int) (b.toNat : Int) = ((Gf.add a b).toNat : Int) := bxor_u8 a b
end Go.Proofs.Ytaihgckcmcacfaa
namespace Go.Proofs.Ytaihgckcmcacfaa
open Go.RowKit Go.Proofs.YtaihgckcmcacfaaW.PrintWords
set_option linter.unusedVariables false
set_option linter.unusedSimpArgs false

theorem pu_fmul8 (a b : UInt8) : field_Mul.f (a.toNat : Int) (b.toNat : Int) = some ((Gf.mul a b).toNat : Int) := by
  unfold field_Mul.f
  rw [byteB_nat, byteB_nat, toU_nat, toU_nat]
  rfl
/-- Eval -/
theorem pu_eval (xs : List UInt8) (x : UInt8) (h : xs.length ≤ 140737488355328) : Ev (fun k => P0.poly_Eval.f k (nI xs) (x.toNat : Int)) ((ev xs x).toNat : Int) := by
  have hl : ∀ m d, d + m = xs.length → Ev (fun k => P0.poly_Eval.l0 k (nI xs) (x.toNat : Int) ((hor xs x d).toNat : Int) ((m : Int) - 1)) ((ev xs x).toNat : Int) := by
    intro m
    induction m with
    | zero =>
      intro d hd
      obtain rfl : d = xs.length := by omega
      refine Ev.step (fun k => ?_) (Ev.now _)
      rw [P0.poly_Eval.l0, if_neg (by omega), hor_ev]
    | succ m ih =>
      intro d hd
      refine Ev.step (fun k => ?_) (ih (d + 1) (by omega))
      have e0 : (((m + 1 : Nat) : Int) - 1) = (m : Int) := by omega
      rw [P0.poly_Eval.l0, e0, if_pos (by omega), pu_fmul8, Option.bind_some, if_pos (by omega), if_pos (by rw [nI_length]; omega), rd_nI, add_xor, w64 (by omega) (by omega), hor, show xs.length - (d + 1) = m by omega]
  unfold P0.poly_Eval.f
  rw [nI_length, w64 (by omega) (by omega)]
  exact hl xs.length 0 (by omega)
def poly_Eval.f (l : List Int) (x : Int) : Option Int := if (inU l && byteB x && decide (l.length ≤ 140737488355328)) = true then some ((ev (l.map toU) (toU x)).toNat : Int) else none
theorem poly_Eval.calls (A0 : Option Addr) (c0 : Nat) (l0 : List Int) (a1 : Int) (r : Int) (w : World) (hr0 : Kd.C (Kd.int .u8) w A0 l0.length l0) (hc0 : l0.length ≤ c0) (h : poly_Eval.f l0 a1 = some r) :
    Calls Try.prog 17 #[.slice A0 l0.length c0, .int .u8 a1] w fun e w' => e = .returned (.int .u8 r) ∧ Drawn0 w w' := by
  unfold poly_Eval.f at h
  split at h
  · rename_i hi
    simp only [Bool.and_eq_true, decide_eq_true_eq] at hi
    obtain rfl := Option.some.inj h
    obtain ⟨xs, rfl⟩ := ints_of hi.1.1
    simp only [nI_length, nI_toU] at hi hc0 ⊢
    obtain ⟨k, hk⟩ := (pu_eval xs (toU a1) hi.2).rounds
    rw [toU_of hi.1.2] at hk
    have hc := P0.poly_Eval.calls k A0 c0 (nI xs) a1 _ w hr0 (by rw [nI_length]; exact hc0) hk
    rw [nI_length] at hc
    exact hc
  · cases h
theorem eval_calls (A : Option Addr) (n cap : Nat) (xs : List UInt8) (x : UInt8) (w : World) (hr : Rd w w.heap.size A n (bVs xs)) (hcap : n ≤ cap) (hn : n ≤ 140737488355328) :
    Calls Try.prog 17 #[.slice A n cap, .int .u8 (x.toNat : Int)] w fun e w' => ∃ q, e = .returned (.int .u8 ((ev xs x).toNat : Int)) ∧ w' = w.drewN q := by
  obtain rfl : xs.length = n := by have := hr.len; rw [bVs_length] at this; exact this
  have hc := poly_Eval.calls A cap (nI xs) (x.toNat : Int) ((ev xs x).toNat : Int) w (C_of_rd hr (by omega)) (by rw [nI_length]; exact hcap) (by
    unfold poly_Eval.f
    rw [inU_nI, byteB_nat, nI_length, decide_eq_true hn, nI_toU, toU_nat]
    rfl)
  rw [nI_length] at hc
  refine hc.mono ?_
  rintro e w' ⟨rfl, q, rfl⟩
  exact ⟨q, rfl, rfl⟩
end Go.Proofs.Ytaihgckcmcacfaa
namespace Go.Proofs.Ytaihgckcmcacfaa
set_option linter.unusedVariables false
set_option linter.unusedSimpArgs false

theorem trimE_under {xs : List UInt8} {n : Nat} (h : ∀ i, n ≤ i → xs.getD i 0 = 0) : trimE xs ≤ n := by
  rcases Nat.lt_or_ge n (trimE xs) with h1 | h1
  · exact absurd (h (trimE xs - 1) (by omega)) (trimE_top xs (by omega))
  · exact h1
theorem over_top {ys : List UInt8} (h : 0 < trimE ys) : Gf.mul (Gf.inv (ys.getD (trimE ys - 1) 0)) ((trimL ys).getD ((trimL ys).length - 1) 0) = 1 := by
  rw [trimL_length, trimL_getD]
  exact Gf.inv_mul (trimE_top ys h)
theorem rep_getD (n i : Nat) : (List.replicate n (0 : UInt8)).getD i 0 = 0 := by
  simp [List.getD, List.getElem?_replicate]
  split <;> rfl
theorem dm_rem (xs ys : List UInt8) (h : 0 < trimE ys) : (dmL xs ys).2.length < trimE ys := by
  have h1 := divG_rem (trimL ys) (Gf.inv (ys.getD (trimE ys - 1) 0)) (by rw [trimL_length]; exact h) (over_top h) (trimE xs) (List.replicate (trimE xs + 1 - trimE ys) 0) (trimL xs) (by rw [trimL_length]; exact Nat.le_refl _)
  rw [trimL_length] at h1
  exact h1
theorem dm_len (xs ys : List UInt8) : (dmL xs ys).1.length = trimE xs + 1 - trimE ys := by
  unfold dmL
  rw [divG_len, List.length_replicate]
theorem dm_sum (xs ys : List UInt8) (h : 0 < trimE ys) (i : Nat) : Gf.add (convF (dmL xs ys).1 ys i) ((dmL xs ys).2.getD i 0) = xs.getD i 0 := by
  have h1 := divG_sum (trimL ys) (Gf.inv (ys.getD (trimE ys - 1) 0)) (by rw [trimL_length]; exact h) (trimL xs) (trimE xs) (List.replicate (trimE xs + 1 - trimE ys) 0) (trimL xs) (by rw [trimL_length, trimL_length, List.length_replicate]; omega) (fun j _ => rep_getD _ j) (over_top h) (fun i => by rw [convF_zero_left (fun k => rep_getD _ k), Gf.zero_add]) i
  rw [trimL_getD] at h1
  rw [← h1]
  unfold dmL
  congr 1
  exact convF_congr (fun _ => rfl) (fun k => (trimL_getD ys k).symm) i
theorem dm_mul_getD (xs ys : List UInt8) (h : 0 < trimE ys) (i : Nat) : (mulL (trimL (dmL xs ys).1) ys).getD i 0 = Gf.add (xs.getD i 0) ((dmL xs ys).2.getD i 0) := by
  rw [mulL_getD, convF_congr (fun k => trimL_getD _ k) (fun _ => rfl) i, ← dm_sum xs ys h i, Gf.add_assoc, Gf.add_self, Gf.add_zero]
theorem dm_mul_len (xs ys : List UInt8) (h : 0 < trimE ys) (hx : trimE xs ≤ 512) (hy : trimE ys ≤ 512) : trimE (mulL (trimL (dmL xs ys).1) ys) ≤ 512 := by
  have hr := dm_rem xs ys h
  refine trimE_under fun i hi => ?_
  rw [dm_mul_getD xs ys h, trimE_high xs i (by omega), getD_out _ i (by omega)]
  rfl
theorem dm_add (xs ys : List UInt8) (h : 0 < trimE ys) : addL (trimL (mulL (trimL (dmL xs ys).1) ys)) (trimL (dmL xs ys).2) = trimL xs := by
  unfold addL
  refine trimL_congr fun i => ?_
  have e := addL_getD (trimL (mulL (trimL (dmL xs ys).1) ys)) (trimL (dmL xs ys).2) i
  unfold addL at e
  rw [trimL_getD] at e
  rw [e, trimL_getD, trimL_getD, dm_mul_getD xs ys h, Gf.add_assoc, Gf.add_self, Gf.add_zero]
end Go.Proofs.Ytaihgckcmcacfaa
namespace Go.Proofs.Ytaihgckcmcacfaa
open Go.RowKit Go.Proofs.YtaihgckcmcacfaaW.PrintWords
set_option linter.unusedVariables false
set_option linter.unusedSimpArgs false

theorem divG_trim (q : List UInt8) (over : UInt8) : ∀ k quo rem, trimL rem = rem → trimL (divG q over k quo rem).2 = (divG q over k quo rem).2
  | 0, _, _, h => h
  | k + 1, quo, rem, h => by
    unfold divG
    split
    · exact h
    · exact divG_trim q over k _ _ (stepR_trim q rem over)
theorem dm_rem_trim (xs ys : List UInt8) : trimL (dmL xs ys).2 = (dmL xs ys).2 := by
  unfold dmL
  exact divG_trim _ _ _ _ _ (trimL_idem xs)
/-- Euclid's remainders, so many at most -/
def gcdG : Nat → List UInt8 → List UInt8 → List UInt8
  | 0, p, _ => p
  | k + 1, p, q => if q.length = 0 then p else gcdG k q (dmL p q).2
theorem gcdG_stop (k : Nat) (p q : List UInt8) (h : q.length = 0) : gcdG k p q = p := by
  cases k with
  | zero => rfl
  | succ k => rw [gcdG, if_pos h]
def gcdL (xs ys : List UInt8) : List UInt8 := gcdG (trimL ys).length (trimL xs) (trimL ys)
def normL (l : List UInt8) : List UInt8 := if l.length = 0 then [] else l.map (Gf.mul (Gf.inv (l.getD (l.length - 1) 0)))
def gcE (xs ys : List UInt8) : Int := if longB xs || longB ys then 4 else 0
def gcP (xs ys : List UInt8) : List UInt8 := if longB xs || longB ys then [] else normL (gcdL xs ys)
def slN (v : Value) : Nat := match v with | .slice _ n _ => n | _ => 0
theorem dmL_calls (A B : Option Addr) (n m c d : Nat) (xs ys : List UInt8) (w : World) (ha : Rd w w.heap.size A n (bVs xs)) (hb : Rd w w.heap.size B m (bVs ys)) (h1 : n ≤ c) (h2 : m ≤ d) (hn : n ≤ 140737488355328) (hm : m ≤ 140737488355328) (h0 : 0 < trimE ys) :
    Calls Try.prog 46 #[.slice A n c, .slice B m d] w fun e w' => ∃ A1 k1 c1 A2 k2 c2, e = .returned (.tuple #[.slice A1 k1 c1, .slice A2 k2 c2]) ∧
      OwnB w' w.heap.size A1 k1 c1 (trimL (dmL xs ys).1) ∧ OwnB w' w.heap.size A2 k2 c2 (dmL xs ys).2 ∧ Below w.heap.size w w' ∧ Apart A1 A2 :=
  divmod_calls A B n m c d xs ys w ha hb h1 h2 hn hm h0
set_option maxRecDepth 100000 in
set_option maxHeartbeats 1600000 in
theorem gcd_calls (A B : Option Addr) (n m c d : Nat) (xs ys : List UInt8) (w : World) (ha : Rd w w.heap.size A n (bVs xs)) (hb : Rd w w.heap.size B m (bVs ys)) (h1 : n ≤ c) (h2 : m ≤ d) (hn : n ≤ 140737488355328) (hm : m ≤ 140737488355328) :
    Calls Try.prog 31 #[.slice A n c, .slice B m d] w fun e w' => ∃ A1 k1 c1, e = .returned (.tuple #[.slice A1 k1 c1, .int .i64 (gcE xs ys)]) ∧
      OwnB w' w.heap.size A1 k1 c1 (gcP xs ys) ∧ Below w.heap.size w w' := by
  have hpl : xs.length = n := by have := ha.len; rw [bVs_length] at this; exact this
  have hql : ys.length = m := by have := hb.len; rw [bVs_length] at this; exact this
  have tp := trimE_le xs
  have tq := trimE_le ys
  have hB : Below w.heap.size w (w.alloc (.cells #[.slice A n c, .slice B m d] 22)) := (Below.refl _ _).alloc (Nat.le_refl _) _
  have HL := Lib.hid (long_calls w.heap.size 2 2 _ _ (lists_two w 22 ha hb h1 h2 (by omega) (by omega)) (by omega))
  rw [anyB_two] at HL
  have HA := Lib.hid (ha.go hB)
  have HBB := Lib.hid (hb.go hB)
  have HT := Lib.hid (trim_calls A n c xs _ (ha.go hB) h1 hn)
  have HB := Lib.hid hB
  have HW0 := Lib.hid (show w.heap.size ≤ (w.alloc (.cells #[.slice A n c, .slice B m d] 22)).heap.size by simp)
  clear hB ha hb
  unfold gcE gcP
  cases hc : (longB xs || longB ys)
  · rw [hc] at HL
    simp only [Bool.false_eq_true, if_false]
    clear hc
    obtain ⟨D, hD⟩ : ∃ D, D = gcdL xs ys := ⟨_, rfl⟩
    rw [← hD]
    have HD := Lib.hid hD
    obtain ⟨ly, hly⟩ : ∃ l, l = trimE ys := ⟨_, rfl⟩
    obtain ⟨lx, hlx⟩ : ∃ l, l = trimE xs := ⟨_, rfl⟩
    have HLY := Lib.hid hly
    have HLX := Lib.hid hlx
    have hlym : ly ≤ 140737488355328 := by omega
    have hlxm : lx ≤ 140737488355328 := by omega
    rw [← hlx] at HT
    clear hD hly hlx hpl hql tp tq
    go_enter Try.func31, Try.ntmps31
    go_wp2_with fail
    refine HL.out.mono ?_
    rintro e w' ⟨rfl, rfl⟩
    go_wp2_with fail
    refine HT.out.mono ?_
    rintro e w1 ⟨A1, c1, rfl, o1, b1⟩
    have HT2 := Lib.hid (trim_calls B m d ys w1 (HBB.out.go b1) h2 hm)
    rw [← HLY.out] at HT2
    have O1 := Lib.hid (o1.mono HW0.out)
    have B1 := Lib.hid (HB.out.trans (b1.mono HW0.out))
    clear o1 b1
    go_wp2_with fail
    refine HT2.out.mono ?_
    rintro e w2 ⟨A2, c2, rfl, o2, b2⟩
    have O1' := Lib.hid (O1.out.below b2 (Nat.le_refl _))
    have O2 := Lib.hid (o2.mono B1.out.size)
    have B2 := Lib.hid (B1.out.trans (b2.mono B1.out.size))
    clear o2 b2 HT2 O1 B1
    go_wp2_with fail
    go_loopw [0, 1] (fun v0 v1 wr => ∃ (k : Nat) (A B : Option Addr) (n c m d : Nat) (P Q : List UInt8), v0 = .slice A n c ∧ v1 = .slice B m d ∧ OwnB wr w.heap.size A n c P ∧ OwnB wr w.heap.size B m d Q ∧ Below w.heap.size w wr ∧ n ≤ 140737488355328 ∧ m ≤ 140737488355328 ∧ trimL Q = Q ∧ gcdG k P Q = D ∧ m ≤ k) (fun _ v1 _ => slN v1)
    case atStart => exact ⟨ly, A1, A2, lx, c1, ly, c2, trimL xs, trimL ys, rfl, rfl, O1'.out, O2.out, B2.out, hlxm, hlym, trimL_idem _, by rw [HD.out]; unfold gcdL; rw [trimL_length, HLY.out], Nat.le_refl _⟩
    case round =>
      obtain ⟨k, A, B, n, c, m, d, P, Q, rfl, rfl, oP, oQ, hB, hnm, hmm, htr, hg, hk⟩ := hrel
      clear O1' O2 B2 HT HL HA HBB HB HW0
      have hQl : Q.length = m := oQ.1
      have hPl : P.length = n := oP.1
      have HQL := Lib.hid hQl
      have HPL := Lib.hid hPl
      have OP := Lib.hid oP
      have OQ := Lib.hid oQ
      have HTR := Lib.hid htr
      have HG := Lib.hid hg
      have HB := Lib.hid hB
      by_cases h0 : m = 0
      · have d1 : decide (0 < (m : Int)) = false := decide_eq_false (by omega)
        have d2 : decide (0 < m) = false := decide_eq_false (by omega)
        have hPD : P = D := by rw [← hg, gcdG_stop _ _ _ (by omega)]
        clear hQl hPl oP oQ htr hg hB
        by_cases h00 : n = 0
        · have z0 : ((n : Int) == 0) = true := by rw [beq_iff_eq]; omega
          have z1 : (n == 0) = true := by rw [beq_iff_eq]; omega
          have HN := Lib.hid (show normL D = [] by unfold normL; rw [if_pos (by rw [← hPD, HPL.out]; exact h00)])
          clear h0 h00 hPD hk
          go_wp2_with fail
          go_ret2
          exact ⟨none, 0, 0, rfl, by rw [HN.out]; exact ⟨rfl, rfl, .inl ⟨rfl, rfl⟩⟩, HB.out⟩
        · have z0 : ((n : Int) == 0) = false := by rw [beq_eq_false_iff_ne]; omega
          have z1 : (n == 0) = false := by rw [beq_eq_false_iff_ne]; omega
          have i0 : (0 : Int) ≤ (n : Int) - 1 := by omega
          have i1 : (n : Int) - 1 < (n : Int) := by omega
          have i2 : IntKind.i64.wrap ((n : Int) - 1) = (n : Int) - 1 := by rw [IntKind.wrap_i64]; omega
          have i3 : ((n : Int) - 1).toNat = n - 1 := by omega
          obtain ⟨g, rfl, hg1, hg2, hcell, _⟩ := OP.out.at_ (i := n - 1) (by omega)
          obtain ⟨x, hx⟩ : ∃ x, x = P.getD (n - 1) 0 := ⟨_, rfl⟩
          rw [← hx] at hcell
          have HN := Lib.hid (show normL D = P.map (Gf.mul (Gf.inv x)) by unfold normL; rw [← hPD, if_neg (by rw [HPL.out]; exact h00), HPL.out, hx])
          have HI := Lib.hid (inv_calls x wr)
          clear h0 h00 hPD hk hx
          go_wp2_with fail
          refine HI.out.mono ?_
          rintro e w3 ⟨rfl, hb3⟩
          have HS := Lib.hid (scale_calls (Gf.inv x) _ n c P w3 (OP.out.rd.go hb3) hnm)
          have HB3 := Lib.hid (HB.out.trans (hb3.mono HB.out.size))
          clear hb3
          go_wp2_with fail
          refine HS.out.mono ?_
          rintro e w4 ⟨A4, c4, rfl, o4, hb4⟩
          have HO4 := Lib.hid (o4.mono HB3.out.size)
          have HB4 := Lib.hid (HB3.out.trans (hb4.mono HB3.out.size))
          clear o4 hb4
          go_wp2_with fail
          go_ret2
          exact ⟨_, _, _, rfl, by rw [HN.out]; exact HO4.out, HB4.out⟩
      · have d1 : decide (0 < (m : Int)) = true := decide_eq_true (by omega)
        have d2 : decide (0 < m) = true := decide_eq_true (by omega)
        have htq : trimE Q = m := by rw [← trimL_length, htr, hQl]
        have HDM := Lib.hid (dmL_calls A B n m c d P Q wr oP.rd oQ.rd oP.le oQ.le hnm hmm (by omega))
        have hr := dm_rem P Q (by omega)
        rw [htq] at hr
        have HR := Lib.hid hr
        obtain ⟨k', rfl⟩ : ∃ k', k = k' + 1 := ⟨k - 1, by omega⟩
        rw [gcdG, if_neg (by omega)] at hg
        have HG' := Lib.hid hg
        clear hQl hPl oP oQ htr hg hB htq hr HG
        go_wp2_with fail
        refine HDM.out.mono ?_
        rintro e w3 ⟨A3, k3, c3, A4, k4, c4, rfl, _, o4, hb, _⟩
        have HO4 := Lib.hid (o4.mono HB.out.size)
        have HOQ := Lib.hid (OQ.out.below hb (Nat.le_refl _))
        have HB3 := Lib.hid (HB.out.trans (hb.mono HB.out.size))
        have hk4 : (dmL P Q).2.length = k4 := o4.1
        have HK4 := Lib.hid hk4
        have hlt : k4 < m := by rw [← hk4]; exact HR.out
        clear o4 hb hk4
        go_wp2_with fail
        go_roundw
        case rel => exact ⟨k', B, A4, m, d, k4, c4, Q, (dmL P Q).2, rfl, rfl, HOQ.out, HO4.out, HB3.out, hmm, by omega, dm_rem_trim P Q, HG'.out, by omega⟩
        case measure => exact hlt
  · rw [hc] at HL
    simp only [if_true]
    clear hc hpl hql tp tq
    go_enter Try.func31, Try.ntmps31
    go_wp2_with fail
    refine HL.out.mono ?_
    rintro e w' ⟨rfl, rfl⟩
    go_wp2_with fail
    go_ret2
    exact ⟨none, 0, 0, rfl, ⟨rfl, rfl, .inl ⟨rfl, rfl⟩⟩, HB.out⟩
def poly_GCD.f (l m : List Int) : Option (List Int × Int) := if (inU l && inU m && (decide (l.length ≤ 140737488355328) && decide (m.length ≤ 140737488355328))) = true then some (nI (gcP (l.map toU) (m.map toU)), gcE (l.map toU) (m.map toU)) else none
theorem poly_GCD.calls (A0 : Option Addr) (c0 : Nat) (l0 : List Int) (A1 : Option Addr) (c1 : Nat) (l1 : List Int) (r1 : List Int) (r2 : Int) (w : World) (hr0 : Kd.C (Kd.int .u8) w A0 l0.length l0) (hc0 : l0.length ≤ c0) (hr1 : Kd.C (Kd.int .u8) w A1 l1.length l1) (hc1 : l1.length ≤ c1) (h : poly_GCD.f l0 l1 = some (r1, r2)) :
    Calls Try.prog 31 #[.slice A0 l0.length c0, .slice A1 l1.length c1] w fun e w' => ∃ v0_ : Value, e = .returned (.tuple #[v0_, .int .i64 r2]) ∧ Kd.R (Kd.int .u8) 5 w' w.heap.size (fun _ => True) v0_ r1 ∧ Below w.heap.size w w' := by
  unfold poly_GCD.f at h
  split at h
  · rename_i hi
    simp only [Bool.and_eq_true, decide_eq_true_eq] at hi
    simp only [Option.some.injEq, Prod.mk.injEq] at h
    obtain ⟨rfl, rfl⟩ := h
    obtain ⟨xs, rfl⟩ := ints_of hi.1.1
    obtain ⟨ys, rfl⟩ := ints_of hi.1.2
    simp only [nI_length, nI_toU] at hi hc0 hc1 ⊢
    refine (gcd_calls A0 A1 xs.length ys.length c0 c1 xs ys w (rd_of_C hr0) (rd_of_C hr1) hc0 hc1 hi.2.1 hi.2.2).mono ?_
    rintro e w' ⟨A1', k1, c1', rfl, o1, hb⟩
    exact ⟨_, rfl, R_of_own o1, hb⟩
  · cases h
end Go.Proofs.Ytaihgckcmcacfaa
namespace Go.Proofs.Ytaihgckcmcacfaa
open Go.RowKit
set_option linter.unusedVariables false
set_option linter.unusedSimpArgs false

/-- the product of the first k linear factors -/
def prodTo (rs : List UInt8) : Nat → List UInt8
  | 0 => [1]
  | k + 1 => mulL (prodTo rs k) [rs.getD k 0, 1]
theorem trimE_lin (r : UInt8) : trimE [r, 1] = 2 := trimE_of (fun i hi => getD_out _ i hi) (fun _ => by show (1 : UInt8) ≠ 0; decide)
theorem prodTo_trimE (rs : List UInt8) : ∀ k, trimE (prodTo rs k) = k + 1
  | 0 => by show trimE [1] = 1; decide
  | k + 1 => by
    have ih := prodTo_trimE rs k
    rw [prodTo, trimE_mul _ _ (by omega) (by rw [trimE_lin]; omega), ih, trimE_lin]
    omega
theorem prodTo_len (rs : List UInt8) (k : Nat) : (prodTo rs k).length = k + 1 := by
  have h : trimL (prodTo rs k) = prodTo rs k := by
    cases k with
    | zero => show trimL [1] = [1]; decide
    | succ k => exact mulL_trim _ _
  rw [← h, trimL_length, prodTo_trimE]
theorem ev_lin (r x : UInt8) : ev [r, 1] x = Gf.add r x := by
  show Gf.add (Gf.add 0 (Gf.mul r 1)) (Gf.mul 1 (Gf.mul 1 x)) = _
  rw [Gf.zero_add, Gf.mul_one, Gf.one_mul, Gf.one_mul]
theorem ev_one (x : UInt8) : ev [1] x = 1 := by
  show Gf.add 0 (Gf.mul 1 1) = _
  rw [Gf.zero_add, Gf.mul_one]
theorem take_next (rs : List UInt8) (k : Nat) (h : k < rs.length) : rs.take (k + 1) = rs.take k ++ [rs.getD k 0] := by
  rw [List.take_succ_eq_append_getElem h]
  simp [List.getD, h]
theorem ev_prod (rs : List UInt8) (x : UInt8) : ∀ k, k ≤ rs.length → (ev (prodTo rs k) x = 0 ↔ x ∈ rs.take k)
  | 0, _ => by
    rw [prodTo, ev_one]
    exact ⟨fun h => absurd h (by decide), fun h => absurd h (by simp)⟩
  | k + 1, hk => by
    have ih := ev_prod rs x k (by omega)
    rw [prodTo, ev_mul, ev_lin, take_next rs k (by omega), List.mem_append, List.mem_singleton, ← ih]
    constructor
    · intro h
      by_cases h1 : ev (prodTo rs k) x = 0
      · exact .inl h1
      · by_cases h2 : Gf.add (rs.getD k 0) x = 0
        · exact .inr ((Gf.add_eq_zero _ _).1 h2).symm
        · exact absurd h (Gf.mul_ne h1 h2)
    · rintro (h | h)
      · rw [h, Gf.mul_comm, Gf.mul_zero]
      · rw [h, Gf.add_self, Gf.mul_zero]
/-- the marks behind i elements -/
def mkL (rs : List UInt8) (i : Nat) : List Value := (List.range 256).map fun x => Value.bool (decide (UInt8.ofNat x ∈ rs.take i))
theorem mkL_len (rs : List UInt8) (i : Nat) : (mkL rs i).length = 256 := by simp [mkL]
theorem mkL_get (rs : List UInt8) (i x : Nat) (hx : x < 256) : (mkL rs i)[x]? = some (.bool (decide (UInt8.ofNat x ∈ rs.take i))) := by
  unfold mkL
  rw [List.getElem?_map, List.getElem?_range hx]
  rfl
theorem mkL_zero (rs : List UInt8) : mkL rs 0 = List.replicate 256 (.bool false) := by
  apply List.ext_getElem?
  intro x
  rcases Nat.lt_or_ge x 256 with h | h
  · rw [mkL_get _ _ _ h, List.getElem?_replicate, if_pos h]
    simp
  · rw [List.getElem?_eq_none (by rw [mkL_len]; exact h), List.getElem?_eq_none (by rw [List.length_replicate]; exact h)]
theorem mkL_set (rs : List UInt8) (i : Nat) (h : i < rs.length) : (mkL rs i).set (rs.getD i 0).toNat (.bool true) = mkL rs (i + 1) := by
  apply List.ext_getElem?
  intro x
  have hr := (rs.getD i 0).toNat_lt
  rcases Nat.lt_or_ge x 256 with hx | hx
  · rw [mkL_get _ _ _ hx, List.getElem?_set, mkL_len, take_next rs i h]
    by_cases e : (rs.getD i 0).toNat = x
    · have e2 : UInt8.ofNat x = rs.getD i 0 := by rw [← e]; simp
      rw [if_pos e, if_pos (by omega), e2]
      simp
    · have e2 : ¬ UInt8.ofNat x = rs.getD i 0 := fun h2 => e (by rw [← h2, UInt8.toNat_ofNat']; omega)
      rw [if_neg e, mkL_get _ _ _ hx]
      simp only [List.mem_append, List.mem_singleton, e2, or_false]
  · rw [List.getElem?_eq_none (by rw [List.length_set, mkL_len]; exact hx), List.getElem?_eq_none (by rw [mkL_len]; exact hx)]
theorem mkA_set (rs : List UInt8) (i : Nat) (h : i < rs.length) : (mkL rs i).toArray.setIfInBounds (rs.getD i 0).toNat (.bool true) = (mkL rs (i + 1)).toArray := by
  rw [← mkL_set rs i h]
  simp
theorem zero_marks : (Try.prog.info? 39).map (fun i => (i.zero, i.size)) = some (some (.agg (List.replicate 256 (.bool false)).toArray), 256) := by kernel_rfl
end Go.Proofs.Ytaihgckcmcacfaa
namespace Go.Proofs.Ytaihgckcmcacfaa
open Go.RowKit
set_option linter.unusedVariables false
set_option linter.unusedSimpArgs false

/-- does one of the first elements stand twice? -/
def dupTo (xs : List UInt8) : Nat → Bool
  | 0 => false
  | i + 1 => dupTo xs i || decide (xs.getD i 0 ∈ xs.take i)
def dupB (xs : List UInt8) : Bool := dupTo xs xs.length
theorem dupTo_false {xs : List UInt8} : ∀ {i}, dupTo xs i = false → ∀ k, k < i → xs.getD k 0 ∉ xs.take k
  | 0, _, k, hk => by omega
  | i + 1, h, k, hk => by
    rw [dupTo, Bool.or_eq_false_iff] at h
    rcases Nat.lt_or_ge k i with h1 | h1
    · exact dupTo_false h.1 k h1
    · obtain rfl : k = i := by omega
      exact of_decide_eq_false h.2
theorem dupTo_seen {xs : List UInt8} {k : Nat} (hs : xs.getD k 0 ∈ xs.take k) : ∀ i, k < i → dupTo xs i = true
  | 0, h => by omega
  | i + 1, h => by
    rw [dupTo, Bool.or_eq_true]
    rcases Nat.lt_or_ge k i with h1 | h1
    · exact .inl (dupTo_seen hs i h1)
    · obtain rfl : k = i := by omega
      exact .inr (decide_eq_true hs)
theorem mem_take_getD {xs : List UInt8} {k j : Nat} (hj : j < k) (hk : j < xs.length) : xs.getD j 0 ∈ xs.take k := by
  have e : xs.getD j 0 = (xs.take k)[j]'(by rw [List.length_take]; omega) := by
    simp [List.getD, hk]
  rw [e]
  exact List.getElem_mem _
theorem dup_ne {xs : List UInt8} (h : dupB xs = false) {i j : Nat} (hi : i < xs.length) (hj : j < xs.length) (hne : i ≠ j) : xs.getD i 0 ≠ xs.getD j 0 := by
  intro e
  rcases Nat.lt_or_ge i j with h1 | h1
  · exact dupTo_false h j hj (by rw [← e]; exact mem_take_getD h1 hi)
  · exact dupTo_false h i hi (by rw [e]; exact mem_take_getD (by omega) hj)
theorem nodup_le : ∀ (n : Nat) (l : List Nat), l.Nodup → (∀ x ∈ l, x < n) → l.length ≤ n
  | 0, l, _, h => by
    cases l with
    | nil => exact Nat.le_refl _
    | cons a l => exact absurd (h a (by simp)) (by omega)
  | n + 1, l, hn, h => by
    have h1 := nodup_le n (l.erase n) (hn.erase n) (fun x hx => by
      have h2 := (hn.mem_erase_iff).1 hx
      have h3 := h x h2.2
      have := h2.1
      omega)
    have h2 : l.length ≤ (l.erase n).length + 1 := by
      rw [List.length_erase]
      split <;> omega
    omega
theorem dup_len {xs : List UInt8} (h : dupB xs = false) : xs.length ≤ 256 := by
  have h1 : (xs.map UInt8.toNat).Nodup := by
    rw [List.nodup_iff_pairwise_ne, List.pairwise_iff_getElem]
    intro i j hi hj hlt e
    rw [List.length_map] at hi hj
    refine dup_ne h hi hj (by omega) ?_
    rw [List.getElem_map, List.getElem_map] at e
    have e2 := UInt8.toNat_inj.1 e
    simp [List.getD, hi, hj, e2]
  have h2 := nodup_le 256 _ h1 (fun x hx => by
    obtain ⟨y, _, rfl⟩ := List.mem_map.1 hx
    exact y.toNat_lt)
  rw [List.length_map] at h2
  exact h2
set_option maxRecDepth 100000 in
set_option maxHeartbeats 800000 in
theorem twice_calls (A : Option Addr) (n cap : Nat) (xs : List UInt8) (w : World) (hr : Rd w w.heap.size A n (bVs xs)) (hn : n ≤ 140737488355328) :
    Calls Try.prog 34 #[.slice A n cap] w fun e w' => e = .returned (.bool (dupB xs)) ∧ Below w.heap.size w w' := by
  have hl : xs.length = n := by have := hr.len; rw [bVs_length] at this; exact this
  have HR := Lib.hid hr
  have HL := Lib.hid hl
  obtain ⟨b, hb⟩ : ∃ b, b = dupB xs := ⟨_, rfl⟩
  have HB := Lib.hid (show b = dupTo xs n by rw [hb, dupB, hl])
  rw [← hb]
  obtain ⟨hzv, hsz⟩ := zero_of_info zero_marks
  obtain ⟨Z, hZ⟩ : ∃ Z, Z = (List.replicate 256 (Value.bool false)).toArray := ⟨_, rfl⟩
  rw [← hZ] at hzv
  have HZ := Lib.hid (show Z = (mkL xs 0).toArray by rw [hZ, mkL_zero])
  clear hZ hsz hr hl hb
  go_enter Try.func34, Try.ntmps34
  go_wp2_with fail
  go_loopw [4] (fun v4 wr => ∃ (i : Nat) (C : Array Value), i ≤ n ∧ v4 = .int .i64 (i : Int) ∧ wr = w.alloc (Obj.cells C 39) ∧ Hid (C = (mkL xs i).toArray) ∧ Hid (dupTo xs i = false)) (fun v4 _ => n - (intOf v4).toNat)
  case atStart => exact ⟨0, Z, by omega, rfl, rfl, HZ, Lib.hid rfl⟩
  case round =>
    obtain ⟨i, C, hi, rfl, rfl, HC, HD⟩ := hrel
    clear HZ hzv
    by_cases hlt : i < n
    · obtain ⟨g, o, rfl, hg, hcell⟩ := rd_get HR.out hlt
      have hne : g ≠ w.heap.size := by omega
      have HS := Lib.hid (mkA_set xs i (by rw [HL.out]; exact hlt))
      have HX := Lib.hid (show UInt8.ofNat (xs.getD i 0).toNat = xs.getD i 0 by simp)
      have hx := (xs.getD i 0).toNat_lt
      have hv : C[(xs.getD i 0).toNat]? = some (.bool (decide (xs.getD i 0 ∈ xs.take i))) := by
        rw [HC.out, List.getElem?_toArray, mkL_get _ _ _ hx, HX.out]
      have HN := Lib.hid (show dupTo xs (i + 1) = (dupTo xs i || decide (xs.getD i 0 ∈ xs.take i)) from rfl)
      cases hm : decide (xs.getD i 0 ∈ xs.take i)
      · rw [hm] at hv HN
        have HD1 := Lib.hid (show dupTo xs (i + 1) = false by rw [HN.out, HD.out]; rfl)
        clear hm HX HN
        generalize xs.getD i 0 = x at *
        go_wp2_with fail
        go_roundw
        case rel => exact ⟨i + 1, _, by omega, by go_num, rfl, Lib.hid (by rw [HC.out]; exact HS.out), HD1⟩
        case measure => simp [intOf]; omega
      · rw [hm] at hv
        have HD1 := Lib.hid (show b = true by rw [HB.out]; exact dupTo_seen (of_decide_eq_true hm) n hlt)
        clear hm HX HN
        generalize xs.getD i 0 = x at *
        go_wp2_with fail
        go_ret
        exact ⟨by rw [HD1.out]; rfl, (Below.refl _ _).alloc (Nat.le_refl _) _⟩
    · obtain rfl : i = n := by omega
      go_wp2_with fail
      go_ret
      exact ⟨by rw [HB.out, HD.out]; rfl, (Below.refl _ _).alloc (Nat.le_refl _) _⟩
end Go.Proofs.Ytaihgckcmcacfaa
namespace Go.Proofs.Ytaihgckcmcacfaa
open Go.RowKit Go.Proofs.YtaihgckcmcacfaaW.PrintWords
set_option linter.unusedVariables false
set_option linter.unusedSimpArgs false

theorem row_lin (w : World) (x : UInt8) : Rd (w.alloc (.cells #[.int .u8 (x.toNat : Int), .int .u8 1] 5)) (w.alloc (.cells #[.int .u8 (x.toNat : Int), .int .u8 1] 5)).heap.size (some ⟨w.heap.size, 0, none⟩) 2 (bVs [x, 1]) := by
  have h : Row (w.alloc (.cells #[.int .u8 (x.toNat : Int), .int .u8 1] 5)) w.heap.size 5 (bVs [x, 1]) := Row.new w [.int .u8 (x.toNat : Int), .int .u8 1] _
  exact (h.ownB (base := 0) (n := 2) (Nat.zero_le _) rfl (by simp only [maxLen]; omega)).rd
theorem own_one (w : World) : OwnB (w.alloc (.cells #[.int .u8 1] 5)) w.heap.size (some ⟨w.heap.size, 0, none⟩) 1 1 [1] := by
  have h : Row (w.alloc (.cells #[.int .u8 1] 5)) w.heap.size 5 (bVs [1]) := Row.new w [.int .u8 1] _
  exact h.ownB (Nat.le_refl _) rfl (by simp only [maxLen]; omega)
set_option maxRecDepth 100000 in
set_option maxHeartbeats 800000 in
theorem product_calls (A : Option Addr) (n cap : Nat) (xs : List UInt8) (w : World) (hr : Rd w w.heap.size A n (bVs xs)) (hn : n ≤ 140737488355320) :
    Calls Try.prog 45 #[.slice A n cap] w fun e w' => ∃ A' k c', e = .returned (.slice A' k c') ∧ OwnB w' w.heap.size A' k c' (prodTo xs xs.length) ∧ Below w.heap.size w w' := by
  have hl : xs.length = n := by have := hr.len; rw [bVs_length] at this; exact this
  have HR := Lib.hid hr
  have HL := Lib.hid hl
  rw [hl]
  clear hr hl
  go_enter Try.func45, Try.ntmps45
  go_wp2_with fail
  go_loopw [3, 9] (fun v3 v9 wr => ∃ (i : Nat) (A' : Option Addr) (k c' : Nat), i ≤ n ∧ v9 = .int .i64 (i : Int) ∧ v3 = .slice A' k c' ∧ OwnB wr w.heap.size A' k c' (prodTo xs i) ∧ Below w.heap.size w wr) (fun _ v9 _ => n - (intOf v9).toNat)
  case atStart => exact ⟨0, _, _, _, by omega, rfl, rfl, own_one w, (Below.refl _ _).alloc (Nat.le_refl _) _⟩
  case round =>
    obtain ⟨i, A', k, c', hi, rfl, rfl, ho, hB⟩ := hrel
    have HB := Lib.hid hB
    by_cases hlt : i < n
    · obtain ⟨g, o, rfl, hg, hcell⟩ := rd_get (HR.out.below hB (Nat.le_refl _)) hlt
      have hk : (prodTo xs i).length = k := ho.1
      rw [prodTo_len] at hk
      obtain ⟨W, hW⟩ : ∃ W, W = wr.alloc (.cells #[.int .u8 ((xs.getD i 0).toNat : Int), .int .u8 1] 5) := ⟨_, rfl⟩
      have hbw : Below wr.heap.size wr W := by rw [hW]; exact (Below.refl _ _).alloc (Nat.le_refl _) _
      have hq : Rd W W.heap.size (some ⟨wr.heap.size, 0, none⟩) 2 (bVs [xs.getD i 0, 1]) := by rw [hW]; exact row_lin wr _
      have HM := Lib.hid (pmul_calls A' (some ⟨wr.heap.size, 0, none⟩) k 2 c' 2 (prodTo xs i) [xs.getD i 0, 1] W (ho.rd.go hbw) hq ho.le (Nat.le_refl _) (by omega) (by omega))
      have HW := Lib.hid hW
      have HBW := Lib.hid (hB.trans (hbw.mono hB.size))
      have HN := Lib.hid (show prodTo xs (i + 1) = mulL (prodTo xs i) [xs.getD i 0, 1] from rfl)
      clear hk hW hbw hq ho hB
      generalize xs.getD i 0 = x at *
      go_wp2_with fail
      rw [← HW.out]
      refine HM.out.mono ?_
      rintro e w1 ⟨A1, k1, c1, rfl, o1, b1⟩
      have HO := Lib.hid (o1.mono HBW.out.size)
      have HB1 := Lib.hid (HBW.out.trans (b1.mono HBW.out.size))
      clear o1 b1
      go_wp2_with fail
      go_roundw
      case rel => exact ⟨i + 1, _, _, _, by omega, by go_num, rfl, by rw [HN.out]; exact HO.out, HB1.out⟩
      case measure => simp [intOf]; omega
    · obtain rfl : i = n := by omega
      have HO := Lib.hid ho
      clear ho hB
      go_wp2_with fail
      go_ret
      exact ⟨_, _, _, rfl, HO.out, HB.out⟩
/-- the part of one point -/
def partL (xs : List UInt8) (x : UInt8) : List UInt8 := trimL (dmL (prodTo xs xs.length) [x, 1]).1
def facC (xs ys : List UInt8) (i : Nat) : UInt8 := Gf.mul (ys.getD i 0) (Gf.inv (ev (partL xs (xs.getD i 0)) (xs.getD i 0)))
/-- the sum of the first points' parts -/
def intTo (xs ys : List UInt8) : Nat → List UInt8
  | 0 => []
  | i + 1 => addL (intTo xs ys i) ((partL xs (xs.getD i 0)).map (Gf.mul (facC xs ys i)))
def intE (xs ys : List UInt8) : Int := if xs.length = ys.length then (if dupB xs then 2 else 0) else 3
def intP (xs ys : List UInt8) : List UInt8 := if xs.length = ys.length then (if dupB xs then [] else intTo xs ys xs.length) else []
theorem partL_len (xs : List UInt8) (x : UInt8) : (partL xs x).length ≤ xs.length + 1 := by
  unfold partL
  rw [trimL_length]
  have h1 := trimE_le (dmL (prodTo xs xs.length) [x, 1]).1
  have h2 : (dmL (prodTo xs xs.length) [x, 1]).1.length = trimE (prodTo xs xs.length) + 1 - trimE [x, 1] := by
    unfold dmL
    rw [divG_len, List.length_replicate]
  rw [prodTo_trimE, trimE_lin] at h2
  omega
theorem intTo_len (xs ys : List UInt8) : ∀ i, (intTo xs ys i).length ≤ xs.length + 1
  | 0 => Nat.zero_le _
  | i + 1 => by
    rw [intTo]
    refine Nat.le_trans (addL_len _ _) ?_
    rw [List.length_map]
    have := intTo_len xs ys i
    have := partL_len xs (xs.getD i 0)
    omega
set_option maxRecDepth 100000 in
set_option maxHeartbeats 1600000 in
theorem inter_calls (A B : Option Addr) (n m c d : Nat) (xs ys : List UInt8) (w : World) (ha : Rd w w.heap.size A n (bVs xs)) (hb : Rd w w.heap.size B m (bVs ys)) (h1 : n ≤ c) (h2 : m ≤ d) (hn : n ≤ 140737488355328) (hm : m ≤ 140737488355328) :
    Calls Try.prog 33 #[.slice A n c, .slice B m d] w fun e w' => ∃ A1 k1 c1, e = .returned (.tuple #[.slice A1 k1 c1, .int .i64 (intE xs ys)]) ∧
      OwnB w' w.heap.size A1 k1 c1 (intP xs ys) ∧ Below w.heap.size w w' := by
  have hxl : xs.length = n := by have := ha.len; rw [bVs_length] at this; exact this
  have hyl : ys.length = m := by have := hb.len; rw [bVs_length] at this; exact this
  have HA := Lib.hid ha
  have HY := Lib.hid hb
  by_cases hnm : n = m
  · subst hnm
    have z1 : ((n : Int) != (n : Int)) = false := by simp
    have HE2 := Lib.hid (show dupB xs = true → intE xs ys = 2 ∧ intP xs ys = [] by
      intro h
      unfold intE intP
      simp [h, show xs.length = ys.length by omega])
    have HE0 := Lib.hid (show dupB xs = false → intE xs ys = 0 ∧ intP xs ys = intTo xs ys n by
      intro h
      unfold intE intP
      rw [hxl, hyl]
      simp [h])
    have HD := Lib.hid (show dupB xs = dupTo xs n by rw [dupB, hxl])
    have HL := Lib.hid hxl
    obtain ⟨hzv, hsz⟩ := zero_of_info zero_marks
    obtain ⟨Z, hZ⟩ : ∃ Z, Z = (List.replicate 256 (Value.bool false)).toArray := ⟨_, rfl⟩
    rw [← hZ] at hzv
    have HZ := Lib.hid (show Z = (mkL xs 0).toArray by rw [hZ, mkL_zero])
    clear hZ hsz ha hb hxl hyl
    go_enter Try.func33, Try.ntmps33
    go_wp2_with fail
    go_loopw [24] (fun v24 wr => ∃ (i : Nat) (C : Array Value), i ≤ n ∧ v24 = .int .i64 (i : Int) ∧ wr = w.alloc (Obj.cells C 39) ∧ Hid (C = (mkL xs i).toArray) ∧ Hid (dupTo xs i = false)) (fun v24 _ => n - (intOf v24).toNat)
    case atStart => exact ⟨0, Z, by omega, rfl, rfl, HZ, Lib.hid rfl⟩
    case round =>
      obtain ⟨i, C, hi, rfl, rfl, HC, HDT⟩ := hrel
      clear HZ hzv
      by_cases hlt : i < n
      · obtain ⟨g, o, rfl, hg, hcell⟩ := rd_get HA.out hlt
        have hne : g ≠ w.heap.size := by omega
        have HS := Lib.hid (mkA_set xs i (by rw [HL.out]; exact hlt))
        have HX := Lib.hid (show UInt8.ofNat (xs.getD i 0).toNat = xs.getD i 0 by simp)
        have hx := (xs.getD i 0).toNat_lt
        have hv : C[(xs.getD i 0).toNat]? = some (.bool (decide (xs.getD i 0 ∈ xs.take i))) := by
          rw [HC.out, List.getElem?_toArray, mkL_get _ _ _ hx, HX.out]
        have HN := Lib.hid (show dupTo xs (i + 1) = (dupTo xs i || decide (xs.getD i 0 ∈ xs.take i)) from rfl)
        cases hm : decide (xs.getD i 0 ∈ xs.take i)
        · rw [hm] at hv HN
          have HD1 := Lib.hid (show dupTo xs (i + 1) = false by rw [HN.out, HDT.out]; rfl)
          clear hm HX HN
          generalize xs.getD i 0 = x at *
          go_wp2_with fail
          go_roundw
          case rel => exact ⟨i + 1, _, by omega, by go_num, rfl, Lib.hid (by rw [HC.out]; exact HS.out), HD1⟩
          case measure => simp [intOf]; omega
        · rw [hm] at hv
          have HD1 := Lib.hid (HE2.out (by rw [HD.out]; exact dupTo_seen (of_decide_eq_true hm) n hlt))
          clear hm HX HN
          generalize xs.getD i 0 = x at *
          go_wp2_with fail
          go_ret2
          exact ⟨none, 0, 0, by rw [HD1.out.1]; rfl, by rw [HD1.out.2]; exact ⟨rfl, rfl, .inl ⟨rfl, rfl⟩⟩, (Below.refl _ _).alloc (Nat.le_refl _) _⟩
      · obtain rfl : i = n := by omega
        have HDN := Lib.hid (show dupB xs = false by rw [HD.out, HDT.out])
        have HN5 := Lib.hid (show i ≤ 256 by rw [← HL.out]; exact dup_len HDN.out)
        have HR0 := Lib.hid (HE0.out HDN.out)
        obtain ⟨W, hW⟩ : ∃ W, W = w.alloc (Obj.cells C 39) := ⟨_, rfl⟩
        have hbw : Below w.heap.size w W := by rw [hW]; exact (Below.refl _ _).alloc (Nat.le_refl _) _
        rw [← hW]
        have HP := Lib.hid (product_calls A i c xs W (HA.out.go hbw) (by have := HN5.out; omega))
        have HBW := Lib.hid hbw
        clear hW hbw HDT HC
        go_wp2_with fail
        refine HP.out.mono ?_
        rintro e w1 ⟨A1, k1, c1, rfl, o1, b1⟩
        have hk1 : (prodTo xs xs.length).length = k1 := o1.1
        rw [prodTo_len, HL.out] at hk1
        have O1 := Lib.hid o1
        have B1 := Lib.hid (HBW.out.trans (b1.mono HBW.out.size))
        have hk5 : k1 ≤ 257 := by have := HN5.out; omega
        clear o1 b1 hk1
        go_wp2_with fail
        go_loopw [10, 38] (fun v10 v38 wr => ∃ (j : Nat) (A' : Option Addr) (k c' : Nat), j ≤ i ∧ v38 = .int .i64 (j : Int) ∧ v10 = .slice A' k c' ∧ OwnB wr w.heap.size A' k c' (intTo xs ys j) ∧ Below w1.heap.size w1 wr) (fun _ v38 _ => i - (intOf v38).toNat)
        case atStart => exact ⟨0, none, 0, 0, by omega, rfl, rfl, ⟨rfl, rfl, .inl ⟨rfl, rfl⟩⟩, Below.refl _ _⟩
        case round =>
          obtain ⟨j, A', k, c', hj, rfl, rfl, ho, hB⟩ := hrel
          have HB := Lib.hid (B1.out.trans (hB.mono B1.out.size))
          by_cases hlt : j < i
          · obtain ⟨g, o, rfl, hg, hcell⟩ := rd_get (HA.out.below HB.out (Nat.le_refl _)) hlt
            obtain ⟨gy, oy, rfl, hgy, hcy⟩ := rd_get HY.out hlt
            have hk : (intTo xs ys j).length = k := ho.1
            have hkm := intTo_len xs ys j
            rw [hk, HL.out] at hkm
            obtain ⟨W2, hW2⟩ : ∃ W, W = wr.alloc (.cells #[.int .u8 ((xs.getD j 0).toNat : Int), .int .u8 1] 5) := ⟨_, rfl⟩
            have hbw : Below wr.heap.size wr W2 := by rw [hW2]; exact (Below.refl _ _).alloc (Nat.le_refl _) _
            have hq : Rd W2 W2.heap.size (some ⟨wr.heap.size, 0, none⟩) 2 (bVs [xs.getD j 0, 1]) := by rw [hW2]; exact row_lin wr _
            have HM := Lib.hid (divmod_calls A1 (some ⟨wr.heap.size, 0, none⟩) k1 2 c1 2 (prodTo xs xs.length) [xs.getD j 0, 1] W2 ((O1.out.rd.go hB).go hbw) hq O1.out.le (Nat.le_refl _) (by omega) (by omega) (by rw [trimE_lin]; omega))
            have HW := Lib.hid hW2
            have HBW2 := Lib.hid (HB.out.trans (hbw.mono HB.out.size))
            have HC2 := Lib.hid (hB.trans (hbw.mono hB.size))
            have HO := Lib.hid (ho.below hbw (Nat.le_refl _))
            have HN := Lib.hid (show intTo xs ys (j + 1) = addL (intTo xs ys j) ((partL xs (xs.getD j 0)).map (Gf.mul (Gf.mul (ys.getD j 0) (Gf.inv (ev (partL xs (xs.getD j 0)) (xs.getD j 0)))))) from rfl)
            have hpl := partL_len xs (xs.getD j 0)
            have HPL := Lib.hid (show trimL (divG (trimL [xs.getD j 0, 1]) (Gf.inv ([xs.getD j 0, 1].getD (trimE [xs.getD j 0, 1] - 1) 0)) (trimE (prodTo xs xs.length)) (List.replicate (trimE (prodTo xs xs.length) + 1 - trimE [xs.getD j 0, 1]) 0) (trimL (prodTo xs xs.length))).1 = partL xs (xs.getD j 0) from rfl)
            rw [HL.out] at hpl
            rw [HPL.out] at HM
            have hi5 := HN5.out
            clear hk hW2 hbw hq ho HPL
            generalize xs.getD j 0 = x at *
            generalize ys.getD j 0 = y at *
            obtain ⟨P, hP⟩ : ∃ P, P = partL xs x := ⟨_, rfl⟩
            rw [← hP] at HM HN hpl
            clear hP
            go_wp2_with fail
            rw [← HW.out]
            refine HM.out.mono ?_
            rintro e w3 ⟨A3, k3, c3, A4, k4, c4, rfl, o3, _, b3, _⟩
            have hk3 : P.length = k3 := o3.1
            have HO3 := Lib.hid o3
            have HBW3 := Lib.hid (HBW2.out.trans (b3.mono HBW2.out.size))
            have HC3 := Lib.hid (HC2.out.trans (b3.mono HC2.out.size))
            have HOO := Lib.hid (HO.out.below b3 (Nat.le_refl _))
            have hk3m : k3 ≤ 140737488355328 := by omega
            have hle3 : k3 ≤ c3 := o3.le
            have hcy3 : w3.cell? ⟨gy, oy + j, none⟩ = some (.int .u8 (y.toNat : Int)) := (HBW3.out.cell (p := ⟨gy, oy + j, none⟩) hgy).trans hcy
            have HE := Lib.hid (eval_calls A3 k3 c3 P x w3.drew (show Rd w3.drew w3.drew.heap.size A3 k3 (bVs P) from o3.rd) hle3 hk3m)
            obtain ⟨v, hv⟩ : ∃ v, v = ev P x := ⟨_, rfl⟩
            rw [← hv] at HE HN
            obtain ⟨fc, hfc⟩ : ∃ fc, fc = Gf.mul y (Gf.inv v) := ⟨_, rfl⟩
            rw [← hfc] at HN
            have HFC := Lib.hid hfc
            have q0 : (0 : Int) ≤ (j : Int) := by omega
            have q1 : (j : Int) < (i : Int) := by omega
            clear o3 b3 hk3 hv hfc hcell hcy HM HW
            go_wp2_with fail
            go_region_with (first | (go_at_call 17; refine HE.out.mono ?_; rintro e w' ⟨q, rfl, rfl⟩) | (go_at_call 51; refine (div_calls _ _ _).mono ?_; rintro e w4 ⟨rfl, hb4⟩))
            all_goals
              rw [← HFC.out]
              have HB4 := Lib.hid (show Below w3.heap.size w3 w4 from (below_drewN (Below.refl _ w3) _).trans hb4)
              clear hb4
              have HB44 := Lib.hid (HBW3.out.trans (HB4.out.mono HBW3.out.size))
              have HC4 := Lib.hid (HC3.out.trans (HB4.out.mono HC3.out.size))
              have HS := Lib.hid (scale_calls fc A3 k3 c3 P w4 (HO3.out.rd.go HB4.out) hk3m)
              have HO4 := Lib.hid (HOO.out.below HB4.out (Nat.le_refl _))
              go_wp2_with fail
              refine HS.out.mono ?_
              rintro e w5 ⟨A5, c5, rfl, o5, b5⟩
              have hl5 : (P.map (Gf.mul fc)).length = k3 := o5.1
              have HB5 := Lib.hid (HB44.out.trans (b5.mono HB44.out.size))
              have HC5 := Lib.hid (HC4.out.trans (b5.mono HC4.out.size))
              have HO5 := Lib.hid (HO4.out.below b5 (Nat.le_refl _))
              have HADD := Lib.hid (padd_any A' A5 k k3 c' c5 (intTo xs ys j) (P.map (Gf.mul fc)) w5 HO5.out.rd o5.rd (by omega) hk3m)
              clear b5 o5 hl5
              go_wp2_with fail
              refine HADD.out.mono ?_
              rintro e w6 ⟨A6, k6, c6, rfl, o6, b6⟩
              have HB6 := Lib.hid (HB5.out.trans (b6.mono HB5.out.size))
              have HC6 := Lib.hid (HC5.out.trans (b6.mono HC5.out.size))
              have HO6 := Lib.hid (o6.mono HB5.out.size)
              clear b6 o6
              go_wp2_with fail
              go_roundw
              case rel => exact ⟨j + 1, _, _, _, by omega, by go_num, rfl, by rw [HN.out]; exact HO6.out, HC6.out⟩
              case measure => simp [intOf]; omega
          · obtain rfl : j = i := by omega
            have HO := Lib.hid ho
            clear ho hB
            go_wp2_with fail
            go_ret2
            exact ⟨_, _, _, by rw [HR0.out.1]; rfl, by rw [HR0.out.2]; exact HO.out, HB.out⟩
  · have z1 : ((n : Int) != (m : Int)) = true := by simp; omega
    have z2 : (n != m) = true := by simp; omega
    have HE3 := Lib.hid (show intE xs ys = 3 ∧ intP xs ys = [] by
      unfold intE intP
      simp [show ¬ xs.length = ys.length by omega])
    clear ha hb hxl hyl hnm
    go_enter Try.func33, Try.ntmps33
    go_wp2_with fail
    go_ret2
    exact ⟨none, 0, 0, by rw [HE3.out.1]; rfl, by rw [HE3.out.2]; exact ⟨rfl, rfl, .inl ⟨rfl, rfl⟩⟩, Below.refl _ _⟩
def poly_Interpolate.f (l m : List Int) : Option (List Int × Int) := if (inU l && inU m && (decide (l.length ≤ 140737488355328) && decide (m.length ≤ 140737488355328))) = true then some (nI (intP (l.map toU) (m.map toU)), intE (l.map toU) (m.map toU)) else none
theorem poly_Interpolate.calls (A0 : Option Addr) (c0 : Nat) (l0 : List Int) (A1 : Option Addr) (c1 : Nat) (l1 : List Int) (r1 : List Int) (r2 : Int) (w : World) (hr0 : Kd.C (Kd.int .u8) w A0 l0.length l0) (hc0 : l0.length ≤ c0) (hr1 : Kd.C (Kd.int .u8) w A1 l1.length l1) (hc1 : l1.length ≤ c1) (h : poly_Interpolate.f l0 l1 = some (r1, r2)) :
    Calls Try.prog 33 #[.slice A0 l0.length c0, .slice A1 l1.length c1] w fun e w' => ∃ v0_ : Value, e = .returned (.tuple #[v0_, .int .i64 r2]) ∧ Kd.R (Kd.int .u8) 5 w' w.heap.size (fun _ => True) v0_ r1 ∧ Below w.heap.size w w' := by
  unfold poly_Interpolate.f at h
  split at h
  · rename_i hi
    simp only [Bool.and_eq_true, decide_eq_true_eq] at hi
    simp only [Option.some.injEq, Prod.mk.injEq] at h
    obtain ⟨rfl, rfl⟩ := h
    obtain ⟨xs, rfl⟩ := ints_of hi.1.1
    obtain ⟨ys, rfl⟩ := ints_of hi.1.2
    simp only [nI_length, nI_toU] at hi hc0 hc1 ⊢
    refine (inter_calls A0 A1 xs.length ys.length c0 c1 xs ys w (rd_of_C hr0) (rd_of_C hr1) hc0 hc1 hi.2.1 hi.2.2).mono ?_
    rintro e w' ⟨A1', k1, c1', rfl, o1, hb⟩
    exact ⟨_, rfl, R_of_own o1, hb⟩
  · cases h
def recouplaw02_twice.f (l : List Int) : Option Bool := if (inU l && decide (l.length ≤ 140737488355328)) = true then some (dupB (l.map toU)) else none
theorem recouplaw02_twice.calls (A0 : Option Addr) (c0 : Nat) (l0 : List Int) (r : Bool) (w : World) (hr0 : Kd.C (Kd.int .u8) w A0 l0.length l0) (hc0 : l0.length ≤ c0) (h : recouplaw02_twice.f l0 = some r) :
    Calls Try.prog 34 #[.slice A0 l0.length c0] w fun e w' => e = .returned (.bool r) ∧ Below w.heap.size w w' := by
  unfold recouplaw02_twice.f at h
  split at h
  · rename_i hi
    simp only [Bool.and_eq_true, decide_eq_true_eq] at hi
    obtain rfl := Option.some.inj h
    obtain ⟨xs, rfl⟩ := ints_of hi.1
    simp only [nI_length, nI_toU] at hi hc0 ⊢
    exact twice_calls A0 xs.length c0 xs w (rd_of_C hr0) hi.2
  · cases h
end Go.Proofs.Ytaihgckcmcacfaa
namespace Go.Proofs.Ytaihgckcmcacfaa
open Go.RowKit Go.Proofs.YtaihgckcmcacfaaW.PrintWords
set_option linter.unusedVariables false
set_option linter.unusedSimpArgs false

/-- the roots below k -/
def rootsTo (xs : List UInt8) : Nat → List UInt8
  | 0 => []
  | k + 1 => if ev xs (UInt8.ofNat k) = 0 then rootsTo xs k ++ [UInt8.ofNat k] else rootsTo xs k
theorem rootsTo_len (xs : List UInt8) : ∀ k, (rootsTo xs k).length ≤ k
  | 0 => Nat.le_refl _
  | k + 1 => by
    have := rootsTo_len xs k
    unfold rootsTo
    split
    · rw [List.length_append, List.length_singleton]; omega
    · omega
def rootsL (xs : List UInt8) : List UInt8 := if trimE xs = 0 then [] else rootsTo xs 256
set_option maxRecDepth 100000 in
set_option maxHeartbeats 1600000 in
theorem roots_calls (A : Option Addr) (n cap : Nat) (xs : List UInt8) (w : World) (hr : Rd w w.heap.size A n (bVs xs)) (hcap : n ≤ cap) (hn : n ≤ 140737488355328) :
    Calls Try.prog 25 #[.slice A n cap] w fun e w' => ∃ v, e = .returned v ∧ OwnV w' w.heap.size v (rootsL xs) ∧ Below w.heap.size w w' := by
  have hl : xs.length = n := by have := hr.len; rw [bVs_length] at this; exact this
  have t1 := trimE_le xs
  have HT := Lib.hid (trimmed_calls A n cap xs w hr hcap hn)
  have HRD := Lib.hid (rd_trim hr)
  obtain ⟨p, hp⟩ : ∃ p, p = trimE xs := ⟨_, rfl⟩
  have hpn : p ≤ n := by omega
  rw [← hp] at HT HRD
  clear hr hl
  by_cases h0 : p = 0
  · have HE := Lib.hid (show rootsL xs = [] by unfold rootsL; rw [if_pos (by omega)])
    subst h0
    clear hp
    go_enter Try.func25, Try.ntmps25
    go_wp2_with fail
    refine HT.out.mono ?_
    rintro e w' ⟨rfl, rfl⟩
    go_wp2_with fail
    go_ret
    exact ⟨_, rfl, by rw [HE.out]; exact OwnV.nil _ _, Below.refl _ _⟩
  · have HE := Lib.hid (show rootsL xs = rootsTo xs 256 by unfold rootsL; rw [if_neg (by omega)])
    have dp : ((p : Int) == 0) = false := by rw [beq_eq_false_iff_ne]; omega
    have dp' : (p == 0) = false := by rw [beq_eq_false_iff_ne]; exact h0
    clear hp h0
    go_enter Try.func25, Try.ntmps25
    go_wp2_with fail
    refine HT.out.mono ?_
    rintro e w' ⟨rfl, rfl⟩
    go_wp2_with fail
    go_loopw [3, 11] (fun v3 v11 wr => ∃ k : Nat, k ≤ 256 ∧ v11 = .int .i64 (k : Int) ∧ OwnV wr w.heap.size v3 (rootsTo xs k) ∧ Below w.heap.size w wr) (fun _ v11 _ => 256 - (intOf v11).toNat)
    case atStart => exact ⟨0, by omega, rfl, OwnV.nil _ _, Below.refl _ _⟩
    case round =>
      obtain ⟨k, hk, rfl, ho, hB⟩ := hrel
      by_cases hlt : k < 256
      · obtain ⟨x, rfl⟩ : ∃ x : UInt8, k = x.toNat := ⟨UInt8.ofNat k, by rw [UInt8.toNat_ofNat']; omega⟩
        have hx : x = UInt8.ofNat x.toNat := by simp
        have HEV := Lib.hid (eval_calls A p cap (trimL xs) x wr (HRD.out.go hB) (by omega) (by omega))
        rw [ev_trim] at HEV
        have hlen := rootsTo_len xs x.toNat
        have HO := Lib.hid ho
        have HB := Lib.hid hB
        clear ho hB
        by_cases hz : ev xs x = 0
        · have HS := Lib.hid (show rootsTo xs (x.toNat + 1) = rootsTo xs x.toNat ++ [x] by rw [rootsTo, ← hx, if_pos hz])
          rw [hz] at HEV
          clear hz hx
          generalize rootsTo xs x.toNat = l at *
          go_wp2_with fail
          refine HEV.out.mono ?_
          rintro e w' ⟨q, rfl, rfl⟩
          go_wp2_with (at_builtin; refine wpList_append_byte (.tmp 19) (.tmp 22) rfl rfl w.heap.size _ l x rfl (show OwnV (wr.drewN q) w.heap.size _ l from HO.out) rfl (by omega) (show w.heap.size ≤ (wr.drewN q).heap.size from HB.out.size) ?_; intro v1 w1 ho1 hb1 hg1)
          go_roundw
          case rel => exact ⟨x.toNat + 1, by omega, by go_num, by rw [HS.out]; exact ho1, (below_drewN HB.out q).trans hb1⟩
          case measure => simp [intOf]; omega
        · have HS := Lib.hid (show rootsTo xs (x.toNat + 1) = rootsTo xs x.toNat by rw [rootsTo, ← hx, if_neg hz])
          obtain ⟨y, hy⟩ : ∃ y, y = ev xs x := ⟨_, rfl⟩
          rw [← hy] at HEV hz
          have dy : ((y.toNat : Int) == 0) = false := by rw [u8_eq_zero]; simpa using hz
          clear hz hx hy
          go_wp2_with fail
          refine HEV.out.mono ?_
          rintro e w' ⟨q, rfl, rfl⟩
          go_wp2_with fail
          go_roundw
          case rel => exact ⟨x.toNat + 1, by omega, by go_num, by rw [HS.out]; exact HO.out, below_drewN HB.out q⟩
          case measure => simp [intOf]; omega
      · obtain rfl : k = 256 := by omega
        go_wp2_with fail
        go_ret
        exact ⟨_, rfl, by rw [HE.out]; exact ho, hB⟩
def poly_Roots.f (l : List Int) : Option (List Int) := if (inU l && decide (l.length ≤ 140737488355328)) = true then some (nI (rootsL (l.map toU))) else none
theorem poly_Roots.calls (A0 : Option Addr) (c0 : Nat) (l0 : List Int) (r : List Int) (w : World) (hr0 : Kd.C (Kd.int .u8) w A0 l0.length l0) (hc0 : l0.length ≤ c0) (h : poly_Roots.f l0 = some r) :
    Calls Try.prog 25 #[.slice A0 l0.length c0] w fun e w' => ∃ v0_ : Value, e = .returned (v0_) ∧ Kd.R (Kd.int .u8) 5 w' w.heap.size (fun _ => True) v0_ r ∧ Below w.heap.size w w' := by
  unfold poly_Roots.f at h
  split at h
  · rename_i hi
    simp only [Bool.and_eq_true, decide_eq_true_eq] at hi
    obtain rfl := Option.some.inj h
    obtain ⟨xs, rfl⟩ := ints_of hi.1
    simp only [nI_length, nI_toU] at hi hc0 ⊢
    refine (roots_calls A0 xs.length c0 xs w (rd_of_C hr0) hc0 hi.2).mono ?_
    rintro e w' ⟨v, rfl, ho, hb⟩
    obtain ⟨A', cap', rfl, ho'⟩ := ho.slice' rfl
    exact ⟨_, rfl, R_of_own ho', hb⟩
  · cases h
end Go.Proofs.Ytaihgckcmcacfaa
namespace Go.Proofs.Ytaihgckcmcacfaa
open Go.RowKit Go.Proofs.YtaihgckcmcacfaaW.PrintWords
set_option linter.unusedVariables false
set_option linter.unusedSimpArgs false

theorem p0_copy (xs : List UInt8) (h : xs.length < 140737488355328) : P0.recoupref01_Copy.f (nI xs) = some (nI xs) := by
  unfold P0.recoupref01_Copy.f
  rw [Option.bind_some, if_pos (by rw [nI_length]; simpa using h), List.nil_append]
theorem nat_zero_iff' (a : UInt8) : ((a.toNat : Int) = 0) ↔ a = 0 := by
  have := u8_eq_zero a
  rw [Bool.eq_iff_iff, beq_iff_eq, decide_eq_true_eq] at this
  exact this
theorem p0_rtrim (xs : List UInt8) (h : xs.length < 140737488355328) : Ev (fun k => P0.recoupref02_Trim.f k (nI xs)) (nI (trimL xs)) := by
  have hl : ∀ n, n ≤ xs.length → trimE xs = trimN xs n → Ev (fun k => P0.recoupref02_Trim.l0 k (nI xs) (n : Int)) (nI (trimL xs)) := by
    intro n
    induction n with
    | zero =>
      intro _ he
      refine Ev.step (f := fun _ => some (nI (trimL xs))) (fun k => ?_) (Ev.now _)
      have e : trimL xs = [] := by unfold trimL; rw [he]; rfl
      rw [P0.recoupref02_Trim.l0, if_neg (by omega), if_pos (by omega), if_pos (by rw [nI_length]; omega), e]
      show (P0.recoupref01_Copy.f (nI [])).bind _ = _
      rw [p0_copy [] (by simp)]
      rfl
    | succ n ih =>
      intro hn he
      have e0 : wrap64 (((n + 1 : Nat) : Int) - 1) = (n : Int) := by rw [w64 (by omega) (by omega)]; omega
      by_cases hz : xs.getD n 0 = 0
      · refine Ev.step (fun k => ?_) (ih (by omega) (by rw [he, trimN_step hz]))
        rw [P0.recoupref02_Trim.l0, if_pos (by omega), e0, if_pos (by omega), if_pos (by rw [nI_length]; omega), rd_nI, if_pos ((nat_zero_iff' _).2 hz)]
      · refine Ev.step (f := fun _ => some (nI (trimL xs))) (fun k => ?_) (Ev.now _)
        have e1 : (nI xs).take (n + 1) = nI (trimL xs) := by rw [nI_take]; unfold trimL; rw [he, trimN_stop hz]
        have e2 := trimE_le xs
        rw [P0.recoupref02_Trim.l0, if_pos (by omega), e0, if_pos (by omega), if_pos (by rw [nI_length]; omega), rd_nI, if_neg (fun h2 => hz ((nat_zero_iff' _).1 h2)), if_pos (by omega), if_pos (by rw [nI_length]; omega), Int.toNat_natCast, e1, p0_copy _ (by rw [trimL_length]; omega)]
        rfl
  unfold P0.recoupref02_Trim.f
  rw [nI_length]
  exact hl xs.length (Nat.le_refl _) rfl
theorem rtrim_calls (A : Option Addr) (n cap : Nat) (xs : List UInt8) (w : World) (hr : Rd w w.heap.size A n (bVs xs)) (hcap : n ≤ cap) (hn : n < 140737488355328) :
    Calls Try.prog 15 #[.slice A n cap] w fun e w' => ∃ A' cap', e = .returned (.slice A' (trimE xs) cap') ∧ OwnB w' w.heap.size A' (trimE xs) cap' (trimL xs) ∧ Below w.heap.size w w' := by
  obtain rfl : xs.length = n := by have := hr.len; rw [bVs_length] at this; exact this
  obtain ⟨k, hk⟩ := (p0_rtrim xs hn).rounds
  have hc := P0.recoupref02_Trim.calls k A cap (nI xs) _ w (C_of_rd hr (by omega)) (by rw [nI_length]; exact hcap) hk
  rw [nI_length] at hc
  refine hc.mono ?_
  rintro e w' ⟨v, rfl, hv, hb⟩
  obtain ⟨A', c', rfl, hc', ho⟩ := own_of_R hv (inU_nI _)
  rw [nI_toU, nI_length, trimL_length] at ho
  rw [nI_length, trimL_length]
  exact ⟨A', c', rfl, ho, hb⟩
set_option maxHeartbeats 400000 in
theorem rlong_calls (A : Option Addr) (n cap : Nat) (xs : List UInt8) (w : World) (hr : Rd w w.heap.size A n (bVs xs)) (hcap : n ≤ cap) (hn : n < 140737488355328) :
    Calls Try.prog 42 #[.slice A n cap] w fun e w' => e = .returned (.bool (longB xs)) ∧ Below w.heap.size w w' := by
  have HT := Lib.hid (rtrim_calls A n cap xs w hr hcap hn)
  have HB := Lib.hid (show longB xs = decide (512 < ((trimE xs : Nat) : Int)) from rfl)
  obtain ⟨t, ht⟩ : ∃ t, t = trimE xs := ⟨_, rfl⟩
  have htm : t ≤ 140737488355328 := by
    have h1 := trimE_le xs
    have h2 := hr.len
    rw [bVs_length] at h2
    omega
  rw [← ht] at HT HB
  rw [HB.out]
  clear ht hr HB
  go_enter Try.func42, Try.ntmps42
  go_wp2_with fail
  refine HT.out.mono ?_
  rintro e w1 ⟨A', c', rfl, _, hb⟩
  have HB := Lib.hid hb
  clear hb
  go_wp2_with fail
  go_ret
  exact ⟨rfl, HB.out⟩
end Go.Proofs.Ytaihgckcmcacfaa
namespace Go.Proofs.Ytaihgckcmcacfaa
open Go.RowKit Go.Proofs.YtaihgckcmcacfaaW.PrintWords
set_option linter.unusedVariables false
set_option linter.unusedSimpArgs false

/-- two quotients that read alike stay so -/
theorem divG_quo (q : List UInt8) (over : UInt8) (hq : 0 < q.length) (ho : Gf.mul over (q.getD (q.length - 1) 0) = 1) : ∀ k a b rem, rem.length + 1 ≤ a.length + q.length → rem.length + 1 ≤ b.length + q.length → (∀ i, a.getD i 0 = b.getD i 0) →
    (∀ i, (divG q over k a rem).1.getD i 0 = (divG q over k b rem).1.getD i 0) ∧ (divG q over k a rem).2 = (divG q over k b rem).2
  | 0, a, b, rem, _, _, h => ⟨h, rfl⟩
  | k + 1, a, b, rem, ha, hb, h => by
    unfold divG
    by_cases h1 : rem.length < q.length
    · rw [if_pos h1, if_pos h1]; exact ⟨h, rfl⟩
    · rw [if_neg h1, if_neg h1]
      have hlt := stepR_lt q rem over hq (by omega) ho
      refine divG_quo q over hq ho k _ _ _ (by rw [List.length_set]; omega) (by rw [List.length_set]; omega) fun i => ?_
      rw [getD_set _ _ _ _ (by omega), getD_set _ _ _ _ (by omega), h i]
theorem nat_pred_cast {n : Nat} (h : 0 < n) : IntKind.i64.wrap ((n : Int) - 1) = (n : Int) - 1 ∨ 9223372036854775807 < n := by
  rcases Nat.lt_or_ge 9223372036854775807 n with h1 | h1
  · exact .inr h1
  · left; rw [IntKind.wrap_i64]; omega
set_option maxRecDepth 100000 in
set_option maxHeartbeats 3200000 in
theorem rDivMod_calls (A B : Option Addr) (n m c d : Nat) (xs ys : List UInt8) (w : World) (ha : Rd w w.heap.size A n (bVs xs)) (hb : Rd w w.heap.size B m (bVs ys)) (h1 : n ≤ c) (h2 : m ≤ d) (hn : n < 140737488355328) (hm : m < 140737488355328) :
    Calls Try.prog 30 #[.slice A n c, .slice B m d] w fun e w' => ∃ A1 k1 c1 A2 k2 c2, e = .returned (.tuple #[.slice A1 k1 c1, .slice A2 k2 c2, .int .i64 (dmE xs ys)]) ∧
      OwnB w' w.heap.size A1 k1 c1 (dmQ xs ys) ∧ OwnB w' w.heap.size A2 k2 c2 (dmR xs ys) ∧ Below w.heap.size w w' ∧ Apart A1 A2 := by
  have hxl : xs.length = n := by have := ha.len; rw [bVs_length] at this; exact this
  have hyl : ys.length = m := by have := hb.len; rw [bVs_length] at this; exact this
  have tp := trimE_le xs
  have tq := trimE_le ys
  have HA := Lib.hid ha
  have HY := Lib.hid hb
  have HL1 := Lib.hid (rlong_calls A n c xs w ha h1 hn)
  have HZ := Lib.hid (show ∀ w1, Below w.heap.size w w1 → Calls Try.prog 42 #[.slice B m d] w1 fun e w' => e = .returned (.bool (longB ys)) ∧ Below w1.heap.size w1 w' from fun w1 hb1 => rlong_calls B m d ys w1 (hb.go hb1) h2 hm)
  clear ha hb
  cases hc1 : longB xs
  · cases hc2 : longB ys
    · rw [hc1] at HL1
      rw [hc2] at HZ
      have a1 := of_decide_eq_false hc1
      have a2 := of_decide_eq_false hc2
      have HT := Lib.hid (show ∀ w1, Below w.heap.size w w1 → Calls Try.prog 15 #[.slice B m d] w1 fun e w' => ∃ A' cap', e = .returned (.slice A' (trimE ys) cap') ∧ OwnB w' w1.heap.size A' (trimE ys) cap' (trimL ys) ∧ Below w1.heap.size w1 w' from fun w1 hb1 => rtrim_calls B m d ys w1 (HY.out.go hb1) h2 hm)
      obtain ⟨lq, hlq⟩ : ∃ l, l = trimE ys := ⟨_, rfl⟩
      obtain ⟨lp, hlp⟩ : ∃ l, l = trimE xs := ⟨_, rfl⟩
      have HLQ := Lib.hid hlq
      have HLP := Lib.hid hlp
      rw [← hlq] at HT tq a2
      rw [← hlp] at tp a1
      by_cases h0 : lq = 0
      · simp only [dmE, dmQ, dmR, hc1, hc2, ← hlq, h0, Bool.or_self, Bool.false_eq_true, if_false, if_true]
        have z0 : ((lq : Int) == 0) = true := by rw [beq_iff_eq]; omega
        have z1 : (lq == 0) = true := by rw [beq_iff_eq]; exact h0
        clear hc1 hc2 hlq hlp h0 tp tq hxl hyl
        go_enter Try.func30, Try.ntmps30
        go_wp2_with fail
        refine HL1.out.mono ?_
        rintro e w1 ⟨rfl, hb1⟩
        have HB1 := Lib.hid hb1
        clear hb1
        go_wp2_with fail
        refine (HZ.out w1 HB1.out).mono ?_
        rintro e w2 ⟨rfl, hb2⟩
        have HB2 := Lib.hid (HB1.out.trans (hb2.mono HB1.out.size))
        clear hb2
        go_wp2_with fail
        refine (HT.out w2 HB2.out).mono ?_
        rintro e w3 ⟨A3, c3, rfl, _, hb3⟩
        have HB3 := Lib.hid (HB2.out.trans (hb3.mono HB2.out.size))
        clear hb3
        go_wp2_with fail
        refine bodyPost_ret (v := .tuple #[.slice none 0 0, .slice none 0 0, .int .i64 5]) (by simp [results, Try.results30, go_sem]) rfl ?_
        exact ⟨none, 0, 0, none, 0, 0, rfl, ⟨rfl, rfl, .inl ⟨rfl, rfl⟩⟩, ⟨rfl, rfl, .inl ⟨rfl, rfl⟩⟩, HB3.out, fun _ h _ => by cases h⟩
      · simp only [dmE, dmQ, dmR, hc1, hc2, ← hlq, h0, Bool.or_self, Bool.false_eq_true, if_false]
        have z0 : ((lq : Int) == 0) = false := by rw [beq_eq_false_iff_ne]; omega
        have z1 : (lq == 0) = false := by rw [beq_eq_false_iff_ne]; exact h0
        have i0 : (0 : Int) ≤ (lq : Int) - 1 := by omega
        have i1 : (lq : Int) - 1 < (lq : Int) := by omega
        have i2 : IntKind.i64.wrap ((lq : Int) - 1) = (lq : Int) - 1 := by rw [IntKind.wrap_i64]; omega
        have i3 : ((lq : Int) - 1).toNat = lq - 1 := by omega
        have HTX := Lib.hid (show ∀ w1, Below w.heap.size w w1 → Calls Try.prog 15 #[.slice A n c] w1 fun e w' => ∃ A' cap', e = .returned (.slice A' (trimE xs) cap') ∧ OwnB w' w1.heap.size A' (trimE xs) cap' (trimL xs) ∧ Below w1.heap.size w1 w' from fun w1 hb1 => rtrim_calls A n c xs w1 (HA.out.go hb1) h1 hn)
        rw [← hlp] at HTX
        obtain ⟨x, hx⟩ : ∃ x, x = ys.getD (lq - 1) 0 := ⟨_, rfl⟩
        have HX := Lib.hid hx
        have hmk : ∀ w : World, (Instr.makeSlice 22 (.int .i64 512) (.int .i64 512)).run Try.prog w = .ok (.slice (some ⟨w.heap.size, 0, none⟩) 512 512) (w.alloc (.cells (madeCells #[.int .u8 0] 512) 5)) := fun w => make_bytes 512 (by omega) w
        have h00 : 0 < lq := by omega
        have hxne : x ≠ 0 := by rw [hx, hlq]; exact trimE_top ys (by omega)
        obtain ⟨Qt, hQt⟩ : ∃ Q, Q = trimL ys := ⟨_, rfl⟩
        obtain ⟨Pt, hPt⟩ : ∃ P, P = trimL xs := ⟨_, rfl⟩
        have hQl : Qt.length = lq := by rw [hQt, trimL_length, hlq]
        have hQx : Qt.getD (lq - 1) 0 = x := by rw [hQt, trimL_getD, hx]
        have hPl : Pt.length = lp := by rw [hPt, trimL_length, hlp]
        have hPtr : trimL Pt = Pt := by rw [hPt, trimL_idem]
        obtain ⟨over, hov⟩ : ∃ o, o = Gf.inv x := ⟨_, rfl⟩
        have hone : Gf.mul over (Qt.getD (Qt.length - 1) 0) = 1 := by rw [hQl, hQx, hov]; exact Gf.inv_mul hxne
        obtain ⟨D, hD⟩ : ∃ D, D = divG Qt over lp (List.replicate 512 0) Pt := ⟨_, rfl⟩
        have hDD := divG_quo Qt over (by omega) hone lp (List.replicate 512 0) (List.replicate (lp + 1 - lq) 0) Pt (by rw [List.length_replicate]; omega) (by rw [List.length_replicate]; omega) (fun i => by rw [rep_getD, rep_getD])
        have hdm : dmL xs ys = divG Qt over lp (List.replicate (lp + 1 - lq) 0) Pt := by
          unfold dmL
          rw [← hlq, ← hlp, ← hx, ← hov, ← hQt, ← hPt]
        rw [← hdm, ← hD] at hDD
        rw [← trimL_congr hDD.1, ← hDD.2]
        have HDr := Lib.hid hD
        have HQL := Lib.hid hQl
        have HQX := Lib.hid hQx
        have HPL := Lib.hid hPl
        have HPT := Lib.hid hPtr
        have HOV := Lib.hid hov
        have HONE := Lib.hid hone
        rw [← hQt] at HT
        rw [← hPt] at HTX
        clear hc1 hc2 hlq hlp h0 hxl hyl hx hQt hPt hQl hQx hPl hPtr hov hone hD hDD hdm HA HY
        go_enter Try.func30, Try.ntmps30
        go_wp2_with fail
        refine HL1.out.mono ?_
        rintro e w1 ⟨rfl, hb1⟩
        have HB1 := Lib.hid hb1
        clear hb1
        go_wp2_with fail
        refine (HZ.out w1 HB1.out).mono ?_
        rintro e w2 ⟨rfl, hb2⟩
        have HB2 := Lib.hid (HB1.out.trans (hb2.mono HB1.out.size))
        clear hb2
        go_wp2_with fail
        refine (HT.out w2 HB2.out).mono ?_
        rintro e w3 ⟨A3, c3, rfl, o3, hb3⟩
        have HB3 := Lib.hid (HB2.out.trans (hb3.mono HB2.out.size))
        have HQ3 := Lib.hid o3.rd
        obtain ⟨g, rfl, _, hg, hcell, _⟩ := o3.at_ (i := lq - 1) (by omega)
        rw [HQX.out] at hcell
        have HI := Lib.hid (refInv_calls x w3)
        rw [← HOV.out] at HI
        clear hb3 o3 HB1 HB2 HT HZ HL1
        go_wp2_with fail
        refine HI.out.mono ?_
        rintro e w4 ⟨rfl, rfl⟩
        clear hcell
        go_wp2_with fail
        refine (HTX.out w3 HB3.out).mono ?_
        rintro e w5 ⟨A5, c5, rfl, o5, hb5⟩
        have HB5 := Lib.hid hb5
        have HO5 := Lib.hid o5
        have HA5 := Lib.hid (show ∀ g', A5 = some ⟨g', 0, none⟩ → g' < w5.heap.size by
          intro g' e
          subst e
          exact (o5.row g' rfl).2)
        have hw53 := hb5.size
        obtain ⟨gq, hgq⟩ : ∃ gq, gq = w5.heap.size := ⟨_, rfl⟩
        obtain ⟨W6, hW6⟩ : ∃ W, W = w5.alloc (Obj.cells (madeCells #[.int .u8 0] 512) 5) := ⟨_, rfl⟩
        have hrow6 : Row W6 gq 5 (bVs (List.replicate 512 0)) := by rw [hW6, hgq]; exact row_made_bytes w5 512
        have hb6 : Below w5.heap.size w5 W6 := by rw [hW6]; exact (Below.refl _ _).alloc (Nat.le_refl _) _
        have HO6 := Lib.hid (o5.below hb6 (Nat.le_refl _))
        have HR6 := Lib.hid hrow6
        have HB6 := Lib.hid (hb5.trans (hb6.mono hw53))
        have HW6 := Lib.hid hW6
        have HGQ := Lib.hid hgq
        clear hb5 o5 hrow6 hb6 hW6 hgq HO5 HB5
        go_wp2_with fail
        rw [← HGQ.out, ← HW6.out]
        clear hmk
        go_loopw [9] (fun v9 wr => ∃ (k t cap : Nat) (A' : Option Addr) (quo R : List UInt8), v9 = .slice A' t cap ∧ OwnB wr w3.heap.size A' t cap R ∧ (∀ g', A' = some ⟨g', 0, none⟩ → g' ≠ gq) ∧ Row wr gq 5 (bVs quo) ∧ quo.length = 512 ∧ trimL R = R ∧ t ≤ lp ∧ t ≤ k ∧ divG Qt over k quo R = D ∧ Below w3.heap.size w3 wr) (fun v9 _ => match v9 with | .slice _ n _ => n | _ => 0)
        case atStart => exact ⟨lp, lp, c5, A5, _, Pt, rfl, HO6.out, fun g' e => by have := HA5.out g' e; have := HGQ.out; omega, HR6.out, by simp, HPT.out, Nat.le_refl _, Nat.le_refl _, HDr.out.symm, HB6.out⟩
        case round =>
          obtain ⟨k, t, cap, A', quo, R, rfl, ho, hne, hrow, hql, htr, htl, htk, hdiv, hB⟩ := hrel
          have hRl : R.length = t := ho.1
          have hgr : gq < wr.heap.size := hrow.lt
          have HO := Lib.hid ho
          have HNE := Lib.hid hne
          have HROW := Lib.hid hrow
          have HTR := Lib.hid htr
          have HDV := Lib.hid hdiv
          have HB := Lib.hid hB
          have HRL := Lib.hid hRl
          have HQLEN := Lib.hid hql
          by_cases hlt : lq ≤ t
          · have d1 : decide (lq ≤ t) = true := decide_eq_true hlt
            have j0 : (0 : Int) ≤ (t : Int) - 1 := by omega
            have j1 : (t : Int) - 1 < (t : Int) := by omega
            have j2 : IntKind.i64.wrap ((t : Int) - 1) = (t : Int) - 1 := by rw [IntKind.wrap_i64]; omega
            have j3 : ((t : Int) - 1).toNat = t - 1 := by omega
            have k2 : IntKind.i64.wrap ((t : Int) - (lq : Int)) = (t : Int) - (lq : Int) := by rw [IntKind.wrap_i64]; omega
            have k0 : (0 : Int) ≤ (t : Int) - (lq : Int) := by omega
            have k1 : (t : Int) - (lq : Int) < 512 := by omega
            have k3 : ((t : Int) - (lq : Int)).toNat = t - lq := by omega
            obtain ⟨gr, rfl, hgr1, hgr2, hcell, _⟩ := ho.at_ (i := t - 1) (by omega)
            obtain ⟨y, hy⟩ : ∃ y, y = R.getD (t - 1) 0 := ⟨_, rfl⟩
            rw [← hy] at hcell
            have hcq := hrow.cell (t - lq)
            obtain ⟨old, hold⟩ := hrow.has (i := t - lq) (by rw [bVs_length]; omega)
            have hfq := hrow.frozen (t - lq)
            have HM := Lib.hid (refMul_calls y over wr)
            obtain ⟨q, hq⟩ : ∃ q, q = Gf.mul y over := ⟨_, rfl⟩
            rw [← hq] at HM
            have HY := Lib.hid hy
            have HQ := Lib.hid hq
            obtain ⟨W7, hW7⟩ : ∃ W, W = wr.setCell ⟨gq, t - lq, none⟩ (.int .u8 (q.toNat : Int)) := ⟨_, rfl⟩
            have hneq := hne gr rfl
            have HNQ := Lib.hid hneq
            have HW7 := Lib.hid hW7
            have HROW7 := Lib.hid (show Row W7 gq 5 (bVs (quo.set (t - lq) q)) by rw [hW7, ← bVs_set]; exact hrow.set _ _)
            have HO7 := Lib.hid (show OwnB W7 w3.heap.size (some ⟨gr, 0, none⟩) t cap R by
              rw [hW7]
              exact ho.keep fun g e => by
                simp only [Option.some.injEq, Addr.mk.injEq, and_true] at e
                subst e
                exact Below.heap_setCell wr _ _ _ hneq)
            have HG3 := Lib.hid (show w3.heap.size ≤ gq by have := HGQ.out; omega)
            have HB7 := Lib.hid (show Below w3.heap.size w3 W7 by rw [hW7]; exact hB.setCell (by show _ ≤ gq; exact HG3.out) _)
            clear hy hq hW7 hneq hne hrow htr hdiv hB hRl hql ho hcq
            go_wp2_with fail
            refine HM.out.mono ?_
            rintro e w' ⟨rfl, rfl⟩
            clear hcell
            go_wp2_with fail
            rw [← HW7.out]
            obtain ⟨wo, rfl⟩ : ∃ wo : World, wo = wr := ⟨_, rfl⟩
            go_loopw [13] (fun v13 wr => ∃ j : Nat, j ≤ lq ∧ v13 = .int .i64 (j : Int) ∧ OwnB wr w3.heap.size (some ⟨gr, 0, none⟩) t cap (offTo R Qt (t - lq) q j) ∧ Row wr gq 5 (bVs (quo.set (t - lq) q)) ∧ Below w3.heap.size w3 wr) (fun v13 _ => lq - (intOf v13).toNat)
            case atStart => exact ⟨0, by omega, rfl, by rw [offTo_zero]; exact HO7.out, HROW7.out, HB7.out⟩
            case round =>
              obtain ⟨j, hj, rfl, hoi, hrow, hBi⟩ := hrel
              by_cases hjl : j < lq
              · obtain ⟨g1, e1, _, _, hc1, hf1⟩ := hoi.at_ (i := t - lq + j) (by omega)
                simp only [Option.some.injEq, Addr.mk.injEq, and_true] at e1
                subst e1
                obtain ⟨g2, o2, e2, hg2, hc2⟩ := rd_get HQ3.out hjl
                simp only [Option.some.injEq, Addr.mk.injEq, and_true] at e2
                obtain ⟨rfl, rfl⟩ := e2
                have hc2 : wr.cell? ⟨g, j, none⟩ = some (.int .u8 ((Qt.getD j 0).toNat : Int)) := by
                  have h := (hBi.cell (p := ⟨g, 0 + j, none⟩) hg).trans hc2
                  rw [Nat.zero_add] at h
                  exact h
                have hset := offTo_set (rem := R) (q := Qt) (a := t - lq) (c := q) (n := j) (by rw [HRL.out]; omega)
                have HSET := Lib.hid hset
                obtain ⟨L, hL⟩ : ∃ L, L = offTo R Qt (t - lq) q j := ⟨_, rfl⟩
                rw [← hL] at hc1 hset HSET hoi
                obtain ⟨a, ha⟩ : ∃ a, a = L.getD (t - lq + j) 0 := ⟨_, rfl⟩
                obtain ⟨b, hb⟩ : ∃ b, b = Qt.getD j 0 := ⟨_, rfl⟩
                rw [← ha] at hc1 HSET
                rw [← hb] at hc2 HSET
                have s2 : IntKind.i64.wrap ((t : Int) - (lq : Int) + (j : Int)) = (t : Int) - (lq : Int) + (j : Int) := by rw [IntKind.wrap_i64]; omega
                have s0 : (0 : Int) ≤ (t : Int) - (lq : Int) + (j : Int) := by omega
                have s1 : (t : Int) - (lq : Int) + (j : Int) < (t : Int) := by omega
                have s3 : ((t : Int) - (lq : Int) + (j : Int)).toNat = t - lq + j := by omega
                have p0 : (0 : Int) ≤ (j : Int) := by omega
                have p1 : (j : Int) < (lq : Int) := by omega
                have HX := Lib.hid (bxor_u8 a (Gf.mul q b))
                have HOI := Lib.hid hoi
                have HROWI := Lib.hid hrow
                have HBI := Lib.hid hBi
                have hgg : w3.heap.size ≤ gr := hgr1
                have HGG := Lib.hid hgg
                clear hL ha hb hset hoi hrow hBi hgg
                go_wp2_with fail
                have hx := HX.out
                go_region_with (first | (go_at_call 28; refine (refMul_calls _ _ _).mono ?_; rintro e w' ⟨rfl, rfl⟩))
                all_goals
                  go_wp2_with fail
                  go_roundw
                  case rel => exact ⟨j + 1, by omega, by go_num, by rw [← HSET.out]; exact HOI.out.store _ _, HROWI.out.far (p := ⟨gr, t - lq + j, none⟩) HNQ.out.symm _, (HBI.out.setCell (p := ⟨gr, t - lq + j, none⟩) HGG.out _).drew⟩
                  case measure => simp [intOf]; omega
              · obtain rfl : j = lq := by omega
                have HTR2 := Lib.hid (rtrim_calls (some ⟨gr, 0, none⟩) t cap (offTo R Qt (t - j) q j) wr hoi.rd hoi.le (by omega))
                have HROWI := Lib.hid hrow
                have HBI := Lib.hid hBi
                have hlt2 := stepR_lt Qt R over (by rw [HQL.out]; exact h00) (by rw [HRL.out, HQL.out]; exact hlt) HONE.out
                have hst : stepR Qt R over = trimL (offTo R Qt (t - j) q j) := by
                  unfold stepR stepC
                  rw [HRL.out, HQL.out, ← HY.out, ← HQ.out]
                rw [hst, trimL_length, HRL.out] at hlt2
                obtain ⟨k', rfl⟩ : ∃ k', k = k' + 1 := ⟨k - 1, by omega⟩
                have hdv := HDV.out
                rw [divG, if_neg (by rw [HRL.out, HQL.out]; omega), hst, HRL.out, HQL.out, show stepC R over = q by unfold stepC; rw [HRL.out, ← HY.out, ← HQ.out]] at hdv
                have HDV2 := Lib.hid hdv
                have HSI := Lib.hid (show gq < wr.heap.size from hrow.lt)
                clear hoi hrow hBi hst hdv
                go_wp2_with fail
                refine HTR2.out.mono ?_
                rintro e w8 ⟨A8, c8, rfl, o8, b8⟩
                have HO8 := Lib.hid (o8.mono HBI.out.size)
                have HNE8 := Lib.hid (show ∀ g', A8 = some ⟨g', 0, none⟩ → g' ≠ gq by
                  intro g' e
                  subst e
                  have h := (o8.row g' rfl).1
                  have := HSI.out
                  omega)
                have HROW8 := Lib.hid (HROWI.out.below b8 HSI.out)
                have HB8 := Lib.hid (HBI.out.trans (b8.mono HBI.out.size))
                clear o8 b8
                go_wp2_with fail
                go_roundw
                case rel => exact ⟨k', _, c8, A8, _, _, rfl, HO8.out, HNE8.out, HROW8.out, by rw [List.length_set]; exact HQLEN.out, trimL_idem _, by omega, by omega, HDV2.out, HB8.out⟩
                case measure => exact hlt2
          · have d1 : decide (lq ≤ t) = false := decide_eq_false hlt
            have hD1 : D = (quo, R) := by
              rw [← HDV.out]
              cases k with
              | zero => rfl
              | succ k => rw [divG, if_pos (by rw [HRL.out, HQL.out]; omega)]
            have HD1 := Lib.hid hD1
            have hg3 : w3.heap.size ≤ gq := by have := HGQ.out; omega
            have HTR2 := Lib.hid (rtrim_calls (some ⟨gq, 0, none⟩) 512 512 quo wr (HROW.out.ownB (base := w3.heap.size) hg3 HQLEN.out (by simp only [maxLen]; omega)).rd (Nat.le_refl _) (by omega))
            clear hD1 ho hne hrow htr hdiv hB hRl hql
            go_wp2_with fail
            refine HTR2.out.mono ?_
            rintro e w8 ⟨A8, c8, rfl, o8, b8⟩
            have HO8 := Lib.hid (o8.mono (Nat.le_trans HB3.out.size HB.out.size))
            have HO9 := Lib.hid ((HO.out.below b8 (Nat.le_refl _)).mono HB3.out.size)
            have HB8 := Lib.hid ((HB3.out.trans (HB.out.mono HB3.out.size)).trans (b8.mono (Nat.le_trans HB3.out.size HB.out.size)))
            have HAP := Lib.hid (show Apart A8 A' from fun g h1 h2 => by
              subst h1 h2
              have h3 := (o8.row g rfl).1
              have h4 := (HO.out.row g rfl).2
              omega)
            clear o8 b8
            go_wp2_with fail
            refine bodyPost_ret (v := .tuple #[.slice A8 (trimE quo) c8, .slice A' t cap, .int .i64 0]) (by simp [results, Try.results30, go_sem]) rfl ?_
            exact ⟨_, _, _, _, _, _, rfl, by rw [HD1.out]; exact HO8.out, by rw [HD1.out]; exact HO9.out, HB8.out, HAP.out⟩
    · rw [hc1] at HL1
      rw [hc2] at HZ
      simp only [dmE, dmQ, dmR, hc1, hc2, Bool.false_or, if_true]
      clear hc1 hc2 tp tq hxl hyl
      go_enter Try.func30, Try.ntmps30
      go_wp2_with fail
      refine HL1.out.mono ?_
      rintro e w1 ⟨rfl, hb1⟩
      have HB1 := Lib.hid hb1
      clear hb1
      go_wp2_with fail
      refine (HZ.out w1 HB1.out).mono ?_
      rintro e w2 ⟨rfl, hb2⟩
      have HB2 := Lib.hid (HB1.out.trans (hb2.mono HB1.out.size))
      clear hb2
      go_wp2_with fail
      refine bodyPost_ret (v := .tuple #[.slice none 0 0, .slice none 0 0, .int .i64 4]) (by simp [results, Try.results30, go_sem]) rfl ?_
      exact ⟨none, 0, 0, none, 0, 0, rfl, ⟨rfl, rfl, .inl ⟨rfl, rfl⟩⟩, ⟨rfl, rfl, .inl ⟨rfl, rfl⟩⟩, HB2.out, fun _ h _ => by cases h⟩
  · rw [hc1] at HL1
    simp only [dmE, dmQ, dmR, hc1, Bool.true_or, if_true]
    clear hc1 tp tq hxl hyl
    go_enter Try.func30, Try.ntmps30
    go_wp2_with fail
    refine HL1.out.mono ?_
    rintro e w1 ⟨rfl, hb1⟩
    have HB1 := Lib.hid hb1
    clear hb1
    go_wp2_with fail
    refine bodyPost_ret (v := .tuple #[.slice none 0 0, .slice none 0 0, .int .i64 4]) (by simp [results, Try.results30, go_sem]) rfl ?_
    exact ⟨none, 0, 0, none, 0, 0, rfl, ⟨rfl, rfl, .inl ⟨rfl, rfl⟩⟩, ⟨rfl, rfl, .inl ⟨rfl, rfl⟩⟩, HB1.out, fun _ h _ => by cases h⟩
def recoupref02_DivMod.f (l m : List Int) : Option (List Int × List Int × Int) := if (inU l && inU m && (decide (l.length < 140737488355328) && decide (m.length < 140737488355328))) = true then some (nI (dmQ (l.map toU) (m.map toU)), nI (dmR (l.map toU) (m.map toU)), dmE (l.map toU) (m.map toU)) else none
theorem recoupref02_DivMod.calls (A0 : Option Addr) (c0 : Nat) (l0 : List Int) (A1 : Option Addr) (c1 : Nat) (l1 : List Int) (r1 : List Int) (r2 : List Int) (r3 : Int) (w : World) (hr0 : Kd.C (Kd.int .u8) w A0 l0.length l0) (hc0 : l0.length ≤ c0) (hr1 : Kd.C (Kd.int .u8) w A1 l1.length l1) (hc1 : l1.length ≤ c1) (h : recoupref02_DivMod.f l0 l1 = some (r1, r2, r3)) :
    Calls Try.prog 30 #[.slice A0 l0.length c0, .slice A1 l1.length c1] w fun e w' => ∃ v0_ v1_ : Value, e = .returned (.tuple #[v0_, v1_, .int .i64 r3]) ∧ Kd.R (Kd.int .u8) 5 w' w.heap.size (fun k_ => some k_ ≠ v1_.ownBlock) v0_ r1 ∧ Kd.R (Kd.int .u8) 5 w' w.heap.size (fun k_ => some k_ ≠ v0_.ownBlock) v1_ r2 ∧ Below w.heap.size w w' := by
  unfold recoupref02_DivMod.f at h
  split at h
  · rename_i hi
    simp only [Bool.and_eq_true, decide_eq_true_eq] at hi
    simp only [Option.some.injEq, Prod.mk.injEq] at h
    obtain ⟨rfl, rfl, rfl⟩ := h
    obtain ⟨xs, rfl⟩ := ints_of hi.1.1
    obtain ⟨ys, rfl⟩ := ints_of hi.1.2
    simp only [nI_length, nI_toU] at hi hc0 hc1 ⊢
    refine (rDivMod_calls A0 A1 xs.length ys.length c0 c1 xs ys w (rd_of_C hr0) (rd_of_C hr1) hc0 hc1 hi.2.1 hi.2.2).mono ?_
    rintro e w' ⟨A1', k1, c1', A2', k2, c2', rfl, o1, o2, hb, hap⟩
    exact ⟨_, _, rfl, R_of_own_ok o1 (apart_own o1 o2 hap), R_of_own_ok o2 (apart_own o2 o1 hap.symm), hb⟩
  · cases h
end Go.Proofs.Ytaihgckcmcacfaa
namespace Go.Proofs.Ytaihgckcmcacfaa
set_option linter.unusedVariables false
set_option linter.unusedSimpArgs false

def conv (u v : Nat → UInt8) (i : Nat) : UInt8 := sumF (i + 1) fun k => Gf.mul (u k) (v (i - k))
theorem convF_conv (xs ys : List UInt8) (i : Nat) : convF xs ys i = conv (fun k => xs.getD k 0) (fun k => ys.getD k 0) i := rfl
theorem conv_congr {u u' v v' : Nat → UInt8} (h1 : ∀ k, u k = u' k) (h2 : ∀ k, v k = v' k) (i : Nat) : conv u v i = conv u' v' i := by
  unfold conv
  exact sumF_congr fun k _ => by rw [h1, h2]
theorem conv_add (u u' v : Nat → UInt8) (i : Nat) : conv (fun k => Gf.add (u k) (u' k)) v i = Gf.add (conv u v i) (conv u' v i) := by
  unfold conv
  rw [← sumF_add]
  exact sumF_congr fun k _ => Gf.add_mul _ _ _
theorem conv_assoc (u v w : Nat → UInt8) (i : Nat) : conv (conv u v) w i = conv u (conv v w) i := by
  have e1 : conv (conv u v) w i = sumF (i + 1) (fun k => sumF (i + 1) (fun j => if j ≤ k then Gf.mul (Gf.mul (u j) (v (k - j))) (w (i - k)) else 0)) := by
    unfold conv
    refine sumF_congr fun k hk => ?_
    rw [sumF_mul_right]
    have e2 : sumF (i + 1) (fun j => if j ≤ k then Gf.mul (Gf.mul (u j) (v (k - j))) (w (i - k)) else 0) = sumF (k + 1) (fun j => if j ≤ k then Gf.mul (Gf.mul (u j) (v (k - j))) (w (i - k)) else 0) :=
      sumF_len (fun j hj => if_neg (by omega)) (by omega)
    rw [e2]
    exact sumF_congr fun j hj => (if_pos (by omega)).symm
  rw [e1, sumF_swap]
  unfold conv
  refine sumF_congr fun j hj => ?_
  rw [show i + 1 = j + (i - j + 1) by omega, sumF_from _ j (fun k hk => if_neg (by omega)), sumF_mul]
  refine sumF_congr fun l hl => ?_
  rw [if_pos (by omega), Nat.add_sub_cancel_left, Gf.mul_assoc, show i - (j + l) = i - j - l by omega]
theorem conv_one (v : Nat → UInt8) (c : UInt8) (i : Nat) : conv (fun k => [c].getD k 0) v i = Gf.mul c (v i) := by
  unfold conv
  rw [sumF_one (k := 0) (by omega)]
  · rfl
  · intro k _ hk
    obtain ⟨j, rfl⟩ : ∃ j, k = j + 1 := ⟨k - 1, by omega⟩
    show Gf.mul 0 _ = 0
    rw [Gf.mul_comm, Gf.mul_zero]
/-- f divides g -/
def Dv (f g : List UInt8) : Prop := ∃ h : List UInt8, ∀ i, g.getD i 0 = convF h f i
theorem Dv.refl (f : List UInt8) : Dv f f := ⟨[1], fun i => by rw [convF_conv, conv_one, Gf.one_mul]⟩
theorem Dv.nil (f : List UInt8) {g : List UInt8} (h : ∀ i, g.getD i 0 = 0) : Dv f g := ⟨[], fun i => by rw [h i]; exact (convF_zero_left (fun k => getD_out [] k (Nat.zero_le _))).symm⟩
theorem Dv.congr {f g g' : List UInt8} (h : Dv f g) (e : ∀ i, g'.getD i 0 = g.getD i 0) : Dv f g' := by
  obtain ⟨q, hq⟩ := h
  exact ⟨q, fun i => by rw [e, hq]⟩
theorem Dv.sum {f a b g : List UInt8} (ha : Dv f a) (hb : Dv f b) (e : ∀ i, g.getD i 0 = Gf.add (a.getD i 0) (b.getD i 0)) : Dv f g := by
  obtain ⟨p, hp⟩ := ha
  obtain ⟨q, hq⟩ := hb
  refine ⟨addL p q, fun i => ?_⟩
  rw [e, hp, hq, convF_conv, convF_conv, convF_conv, conv_congr (fun k => addL_getD p q k) (fun _ => rfl), conv_add]
theorem Dv.mul {f a g : List UInt8} (q : List UInt8) (ha : Dv f a) (e : ∀ i, g.getD i 0 = convF q a i) : Dv f g := by
  obtain ⟨p, hp⟩ := ha
  refine ⟨mulL q p, fun i => ?_⟩
  have e1 : convF q a i = conv (fun k => q.getD k 0) (conv (fun k => p.getD k 0) (fun k => f.getD k 0)) i := by
    rw [convF_conv]
    exact conv_congr (fun _ => rfl) (fun k => (hp k).trans (convF_conv p f k)) i
  have e2 : convF (mulL q p) f i = conv (conv (fun k => q.getD k 0) (fun k => p.getD k 0)) (fun k => f.getD k 0) i := by
    rw [convF_conv]
    exact conv_congr (fun k => (mulL_getD q p k).trans (convF_conv q p k)) (fun _ => rfl) i
  rw [e, e1, e2, conv_assoc]
theorem Dv.trans {f a g : List UInt8} (h1 : Dv f a) (h2 : Dv a g) : Dv f g := by
  obtain ⟨q, hq⟩ := h2
  exact h1.mul q hq
theorem add_move {a b c : UInt8} (h : Gf.add a b = c) : b = Gf.add c a := by rw [← h, Gf.add_comm a b, Gf.add_assoc, Gf.add_self, Gf.add_zero]
theorem Dv.rem {d a : List UInt8} (hd : 0 < trimE d) (h : Dv d a) : (dmL a d).2 = [] := by
  obtain ⟨p, hp⟩ := h
  have hs := dm_sum a d hd
  have hr := dm_rem a d hd
  have e : ∀ i, (dmL a d).2.getD i 0 = convF (addL p (dmL a d).1) d i := by
    intro i
    rw [add_move (hs i), hp i, convF_conv, convF_conv, convF_conv, conv_congr (fun k => addL_getD p _ k) (fun _ => rfl), conv_add]
  have hz : trimE (addL p (dmL a d).1) = 0 := by
    rcases Nat.eq_zero_or_pos (trimE (addL p (dmL a d).1)) with h0 | h0
    · exact h0
    · exfalso
      have h1 := convF_top (addL p (dmL a d).1) d (by omega) (by omega)
      rw [← e, getD_out _ _ (by omega)] at h1
      exact Gf.mul_ne (trimE_top _ h0) (trimE_top _ hd) h1.symm
  have h2 : trimE (dmL a d).2 = 0 := by
    have := trimE_under (xs := (dmL a d).2) (n := 0) (fun i _ => by rw [e, convF_zero_left (fun k => trimE_high _ k (by omega))])
    omega
  rw [← dm_rem_trim]
  exact List.eq_nil_of_length_eq_zero (by rw [trimL_length]; exact h2)
theorem dm_dv {d a : List UInt8} (hd : 0 < trimE d) (h : (dmL a d).2 = []) : Dv d a := ⟨(dmL a d).1, fun i => by
  have hs := dm_sum a d hd i
  rw [h, getD_out [] i (Nat.zero_le _), Gf.add_zero] at hs
  exact hs.symm⟩
theorem gcdG_dv : ∀ k p q, q.length ≤ k → trimL q = q → trimL p = p → (Dv (gcdG k p q) p ∧ Dv (gcdG k p q) q) ∧ (∀ c, Dv c p → Dv c q → Dv c (gcdG k p q)) ∧ trimL (gcdG k p q) = gcdG k p q
  | 0, p, q, hk, _, hp => ⟨⟨Dv.refl p, Dv.nil p (fun i => getD_out _ _ (by omega))⟩, fun c h1 _ => h1, hp⟩
  | k + 1, p, q, hk, hq, hp => by
    rw [gcdG]
    by_cases h0 : q.length = 0
    · rw [if_pos h0]
      exact ⟨⟨Dv.refl p, Dv.nil p (fun i => getD_out _ _ (by omega))⟩, fun c h1 _ => h1, hp⟩
    · rw [if_neg h0]
      have ht : trimE q = q.length := by rw [← trimL_length, hq]
      have hr := dm_rem p q (by omega)
      have ih := gcdG_dv k q (dmL p q).2 (by omega) (dm_rem_trim p q) hq
      refine ⟨⟨?_, ih.1.1⟩, fun c h1 h2 => ih.2.1 c h2 ?_, ih.2.2⟩
      · refine Dv.sum (a := mulL (dmL p q).1 q) (b := (dmL p q).2) (ih.1.1.mul (dmL p q).1 (fun i => mulL_getD _ _ i)) ih.1.2 (fun i => ?_)
        rw [mulL_getD, dm_sum p q (by omega)]
      · refine Dv.sum (a := p) (b := mulL (dmL p q).1 q) h1 (h2.mul (dmL p q).1 (fun i => mulL_getD _ _ i)) (fun i => ?_)
        rw [mulL_getD]
        exact add_move (dm_sum p q (by omega) i)
theorem normL_getD (l : List UInt8) (i : Nat) : (normL l).getD i 0 = Gf.mul (Gf.inv (l.getD (l.length - 1) 0)) (l.getD i 0) := by
  unfold normL
  split
  · rename_i h
    rw [getD_out [] i (Nat.zero_le _), getD_out l i (by omega), Gf.mul_zero]
  · have e : l.getD i 0 = (l[i]?).getD 0 := List.getD_eq_getElem?_getD
    rw [List.getD_eq_getElem?_getD, List.getElem?_map, e]
    cases h : l[i]? with
    | none => simp [Gf.mul_zero]
    | some a => simp
theorem normL_len (l : List UInt8) : (normL l).length = l.length := by
  unfold normL
  split
  · rename_i h; rw [h]; rfl
  · rw [List.length_map]
theorem top_ne {l : List UInt8} (ht : trimL l = l) (h0 : l.length ≠ 0) : l.getD (l.length - 1) 0 ≠ 0 := by
  have e : trimE l = l.length := by rw [← trimL_length, ht]
  have h := trimE_top l (by omega)
  rw [e] at h
  exact h
theorem normL_top {l : List UInt8} (ht : trimL l = l) (h0 : l.length ≠ 0) : (normL l).getD ((normL l).length - 1) 0 = 1 := by
  rw [normL_len, normL_getD, Gf.inv_mul (top_ne ht h0)]
theorem normL_trimE {l : List UInt8} (ht : trimL l = l) : trimE (normL l) = l.length := by
  by_cases h0 : l.length = 0
  · have e : normL l = [] := by unfold normL; rw [if_pos h0]
    rw [e, h0]; rfl
  · refine trimE_of (fun i hi => getD_out _ i (by rw [normL_len]; exact hi)) (fun _ => ?_)
    have h := normL_top ht h0
    rw [normL_len] at h
    rw [h]
    decide
theorem normL_of {l : List UInt8} : Dv l (normL l) := ⟨[Gf.inv (l.getD (l.length - 1) 0)], fun i => by rw [convF_conv, conv_one, normL_getD]⟩
theorem of_normL {l : List UInt8} (ht : trimL l = l) : Dv (normL l) l := by
  by_cases h0 : l.length = 0
  · exact Dv.nil _ (fun i => getD_out _ _ (by omega))
  · refine ⟨[l.getD (l.length - 1) 0], fun i => ?_⟩
    rw [convF_conv, conv_one, normL_getD, ← Gf.mul_assoc, Gf.mul_inv (top_ne ht h0), Gf.one_mul]
theorem Dv.trim_left {f g : List UInt8} : Dv (trimL f) g ↔ Dv f g := by
  have e : ∀ h i, convF h (trimL f) i = convF h f i := fun h i => convF_congr (fun _ => rfl) (fun k => trimL_getD f k) i
  constructor
  · rintro ⟨h, hh⟩; exact ⟨h, fun i => by rw [hh, e]⟩
  · rintro ⟨h, hh⟩; exact ⟨h, fun i => by rw [hh, e]⟩
theorem Dv.trim_right {f g : List UInt8} : Dv f (trimL g) ↔ Dv f g := ⟨fun h => h.congr (fun i => (trimL_getD g i).symm), fun h => h.congr (fun i => trimL_getD g i)⟩
/-- what the greatest common divisor is -/
theorem gcdL_dv (xs ys : List UInt8) : (Dv (gcdL xs ys) xs ∧ Dv (gcdL xs ys) ys) ∧ (∀ c, Dv c xs → Dv c ys → Dv c (gcdL xs ys)) ∧ trimL (gcdL xs ys) = gcdL xs ys := by
  have h := gcdG_dv (trimL ys).length (trimL xs) (trimL ys) (Nat.le_refl _) (trimL_idem _) (trimL_idem _)
  exact ⟨⟨Dv.trim_right.1 h.1.1, Dv.trim_right.1 h.1.2⟩, fun c h1 h2 => h.2.1 c (Dv.trim_right.2 h1) (Dv.trim_right.2 h2), h.2.2⟩
theorem Dv.zero {f g : List UInt8} (hf : f.length = 0) (h : Dv f g) : trimE g = 0 := by
  obtain ⟨p, hp⟩ := h
  have := trimE_under (xs := g) (n := 0) (fun i _ => by rw [hp, convF_zero_right (fun k => getD_out _ k (by omega))])
  omega
end Go.Proofs.Ytaihgckcmcacfaa
namespace Go.Proofs.Ytaihgckcmcacfaa
set_option linter.unusedVariables false
set_option linter.unusedSimpArgs false

theorem ev_split (p : List UInt8) (d : List UInt8) (hd : 0 < trimE d) (x : UInt8) : ev p x = Gf.add (Gf.mul (ev (dmL p d).1 x) (ev d x)) (ev (dmL p d).2 x) := by
  have hs := dm_sum p d hd
  generalize (dmL p d).1 = Q at hs ⊢
  generalize (dmL p d).2 = R at hs ⊢
  have h1 := ev_add (mulL Q d) R p x (fun i => by rw [mulL_getD]; exact (hs i).symm)
  rw [ev_mul] at h1
  exact h1
theorem ev_nil (x : UInt8) : ev [] x = 0 := rfl
theorem ev_const (c x : UInt8) : ev [c] x = c := by
  show Gf.add 0 (Gf.mul c 1) = c
  rw [Gf.zero_add, Gf.mul_one]
theorem ev_short (l : List UInt8) (h : l.length < 2) (x y : UInt8) : ev l x = ev l y := by
  cases l with
  | nil => rw [ev_nil, ev_nil]
  | cons a l =>
    cases l with
    | nil => rw [ev_const, ev_const]
    | cons b l => simp only [List.length_cons] at h; omega
theorem root_div {p : List UInt8} {r : UInt8} (h : ev p r = 0) (x : UInt8) : ev p x = Gf.mul (ev (dmL p [r, 1]).1 x) (Gf.add r x) := by
  have h2 : trimE [r, 1] = 2 := trimE_lin r
  have hr := dm_rem p [r, 1] (by omega)
  rw [h2] at hr
  have e1 := ev_split p [r, 1] (by omega) r
  rw [h, ev_lin, Gf.add_self, Gf.mul_zero, Gf.zero_add] at e1
  rw [ev_split p [r, 1] (by omega) x, ev_lin, ev_short _ hr x r, ← e1, Gf.add_zero]
theorem root_rem {p : List UInt8} {r : UInt8} (h : ev p r = 0) : (dmL p [r, 1]).2 = [] := by
  have h2 : trimE [r, 1] = 2 := trimE_lin r
  have hr := dm_rem p [r, 1] (by omega)
  rw [h2] at hr
  have e1 := ev_split p [r, 1] (by omega) r
  rw [h, ev_lin, Gf.add_self, Gf.mul_zero, Gf.zero_add] at e1
  have ht := dm_rem_trim p [r, 1]
  generalize (dmL p [r, 1]).2 = l at hr e1 ht
  cases l with
  | nil => rfl
  | cons a l =>
    cases l with
    | nil =>
      rw [ev_const] at e1
      exfalso
      have := top_ne ht (by simp)
      exact this e1.symm
    | cons b l => simp only [List.length_cons] at hr; omega
theorem root_quo {p : List UInt8} {r : UInt8} (h : ev p r = 0) (hp : 0 < trimE p) : trimE (dmL p [r, 1]).1 + 1 = trimE p ∧ 0 < trimE (dmL p [r, 1]).1 := by
  have h2 : trimE [r, 1] = 2 := trimE_lin r
  have hs := dm_sum p [r, 1] (by omega)
  rw [root_rem h] at hs
  have e : trimE p = trimE (mulL (dmL p [r, 1]).1 [r, 1]) := trimE_congr (fun i => by rw [mulL_getD, ← hs i, getD_out [] i (Nat.zero_le _), Gf.add_zero])
  rcases Nat.eq_zero_or_pos (trimE (dmL p [r, 1]).1) with h0 | h0
  · rw [trimE_mul0 _ _ (.inl h0)] at e
    omega
  · rw [trimE_mul _ _ (by omega) (by omega), h2] at e
    exact ⟨by omega, h0⟩
/-- a polynomial has fewer roots than coefficients -/
theorem roots_lt : ∀ (rs : List UInt8) (p : List UInt8), rs.Nodup → (∀ r ∈ rs, ev p r = 0) → 0 < trimE p → rs.length < trimE p
  | [], p, _, _, hp => hp
  | r :: rs, p, hn, hr, hp => by
    have h0 := hr r (by simp)
    have hq := root_quo h0 hp
    rw [List.nodup_cons] at hn
    have ih := roots_lt rs (dmL p [r, 1]).1 hn.2 (fun s hs => by
      have h1 := hr s (by simp [hs])
      rw [root_div h0] at h1
      rcases (Gf.mul_eq_zero _ _).1 h1 with h2 | h2
      · exact h2
      · have := (Gf.add_eq_zero _ _).1 h2
        subst this
        exact absurd hs hn.1) hq.2
    rw [List.length_cons]
    omega
theorem dup_nodup {xs : List UInt8} (h : dupB xs = false) : xs.Nodup := by
  rw [List.nodup_iff_pairwise_ne, List.pairwise_iff_getElem]
  intro i j hi hj hlt e
  refine dup_ne h hi hj (by omega) ?_
  simp [List.getD, hi, hj, e]
theorem mem_getD {xs : List UInt8} {i : Nat} (h : i < xs.length) : xs.getD i 0 ∈ xs := by
  have e : xs.getD i 0 = xs[i] := by simp [List.getD, h]
  rw [e]
  exact List.getElem_mem _
theorem all_root {xs : List UInt8} {x : UInt8} (h : x ∈ xs) : ev (prodTo xs xs.length) x = 0 := by
  rw [ev_prod xs x _ (Nat.le_refl _), List.take_length]
  exact h
theorem part_trimE {xs : List UInt8} {i : Nat} (hi : i < xs.length) : trimE (partL xs (xs.getD i 0)) = xs.length := by
  have h := (root_quo (all_root (mem_getD hi)) (by rw [prodTo_trimE]; omega)).1
  rw [prodTo_trimE] at h
  unfold partL
  rw [trimE_trimL]
  omega
theorem part_root {xs : List UInt8} {i : Nat} (hi : i < xs.length) {x : UInt8} (hx : x ∈ xs) (hne : xs.getD i 0 ≠ x) : ev (partL xs (xs.getD i 0)) x = 0 := by
  have h := root_div (all_root (mem_getD hi)) x
  rw [all_root hx] at h
  unfold partL
  rw [ev_trim]
  rcases (Gf.mul_eq_zero _ _).1 h.symm with h2 | h2
  · exact h2
  · exact absurd ((Gf.add_eq_zero _ _).1 h2) hne
theorem part_ne {xs : List UInt8} (hd : dupB xs = false) {i : Nat} (hi : i < xs.length) : ev (partL xs (xs.getD i 0)) (xs.getD i 0) ≠ 0 := by
  intro h0
  have h := roots_lt xs (partL xs (xs.getD i 0)) (dup_nodup hd) (fun r hr => by
    by_cases e : xs.getD i 0 = r
    · rw [← e]; exact h0
    · exact part_root hi hr e) (by rw [part_trimE hi]; omega)
  rw [part_trimE hi] at h
  omega
theorem ev_scale (c : UInt8) (p : List UInt8) (x : UInt8) : ev (p.map (Gf.mul c)) x = Gf.mul c (ev p x) := by
  unfold ev evN
  rw [List.length_map, sumF_mul]
  refine sumF_congr fun i hi => ?_
  show Gf.mul ((p.map (Gf.mul c)).getD i 0) _ = Gf.mul c (Gf.mul (p.getD i 0) _)
  rw [← Gf.mul_assoc, List.getD_eq_getElem?_getD, List.getElem?_map, List.getD_eq_getElem?_getD, List.getElem?_eq_getElem hi]
  rfl
theorem ev_int {xs ys : List UInt8} (hd : dupB xs = false) {j : Nat} (hj : j < xs.length) : ∀ k, k ≤ xs.length → ev (intTo xs ys k) (xs.getD j 0) = if j < k then ys.getD j 0 else 0
  | 0, _ => by rw [if_neg (by omega)]; rfl
  | k + 1, hk => by
    rw [intTo, ev_add _ _ _ _ (addL_getD _ _), ev_int hd hj k (by omega), ev_scale]
    by_cases e : k = j
    · subst e
      rw [if_neg (by omega), if_pos (by omega), Gf.zero_add]
      unfold facC
      rw [Gf.mul_assoc, Gf.inv_mul (part_ne hd hj), Gf.mul_one]
    · have hne : xs.getD k 0 ≠ xs.getD j 0 := dup_ne hd (by omega) hj e
      rw [part_root (by omega) (mem_getD hj) hne, Gf.mul_zero, Gf.add_zero]
      by_cases h : j < k
      · rw [if_pos h, if_pos (by omega)]
      · rw [if_neg h, if_neg (by omega)]
theorem int_trimE (xs ys : List UInt8) : ∀ k, k ≤ xs.length → trimE (intTo xs ys k) ≤ xs.length
  | 0, _ => Nat.zero_le _
  | k + 1, hk => by
    have ih := int_trimE xs ys k (by omega)
    have hp := part_trimE (xs := xs) (i := k) (by omega)
    refine trimE_under fun i hi => ?_
    rw [intTo, addL_getD, trimE_high _ i (by omega), List.getD_eq_getElem?_getD, List.getElem?_map, Gf.zero_add]
    have h0 := trimE_high (partL xs (xs.getD k 0)) i (by omega)
    rw [List.getD_eq_getElem?_getD] at h0
    cases h : (partL xs (xs.getD k 0))[i]? with
    | none => rfl
    | some a =>
      rw [h] at h0
      simp only [Option.getD_some] at h0
      rw [h0]
      simp [Gf.mul_zero]
end Go.Proofs.Ytaihgckcmcacfaa
namespace Go.Proofs.Ytaihgckcmcacfaa
open Go.RowKit
set_option linter.unusedVariables false
set_option linter.unusedSimpArgs false

theorem own_mark (m i : UInt8) : bits BinOp.xor IntKind.u8 (m.toNat : Int) (i.toNat : Int) = ((Gf.add m i).toNat : Int) := bxor_u8 m i

set_option maxHeartbeats 1600000 in
theorem spoil_calls (A : Option Addr) (n cap base : Nat) (xs : List UInt8) (m : UInt8) (w : World) (ho : OwnB w base A n cap xs) (hbase : base ≤ w.heap.size) (hn : n + 3 ≤ 140737488355328) :
    Calls Try.prog 36 #[.slice A n cap, .int .u8 (m.toNat : Int)] w fun e w' => e = .returned (.tuple #[]) ∧ w.grownBy w' (Value.slice A n cap).ownBlock := by
  obtain ⟨row, hrow⟩ : ∃ row, row = (Value.slice A n cap).ownBlock := ⟨_, rfl⟩
  rw [← hrow]
  have HR := Lib.hid hrow
  clear hrow
  go_enter Try.func36, Try.ntmps36
  go_wp2_with fail
  go_loopw [4] (fun v4 wr => ∃ (i : Nat) (ys : List UInt8), i ≤ n ∧ v4 = .int .i64 (i : Int) ∧ OwnB wr base A n cap ys ∧ w.grownBy wr row) (fun v4 _ => n - (intOf v4).toNat)
  case atStart => exact ⟨0, xs, by omega, rfl, ho, World.grownBy.refl w _⟩
  case round =>
    obtain ⟨i, ys, hi, rfl, hoy, hg⟩ := hrel
    have HO0 := Lib.hid ho
    clear ho
    by_cases hlt : i < n
    · obtain ⟨g, rfl, hg1, hg2, hcell, hfz⟩ := hoy.at_ hlt
      obtain ⟨k, hk⟩ : ∃ k : UInt8, (k.toNat : Int) = (i : Int) % 256 := ⟨UInt8.ofNat i, by rw [UInt8.toNat_ofNat']; omega⟩
      have hx : bits BinOp.xor IntKind.u8 (m.toNat : Int) ((i : Int) % 256) = ((Gf.add m k).toNat : Int) := by rw [← hk]; exact bxor_u8 m k
      have HK := Lib.hid hk
      have HO := Lib.hid hoy
      have HG := Lib.hid hg
      clear hoy hg hk
      go_wp2_with fail
      go_roundw
      case rel => exact ⟨i + 1, _, by omega, by go_num, HO.out.store i (Gf.add m k), grown_setCell HG.out (.inl (by rw [HR.out]; rfl)) _⟩
      case measure => simp [intOf]; omega
    · obtain rfl : i = n := by omega
      have HL := Lib.hid hoy.1
      have HO := Lib.hid hoy
      have HG := Lib.hid hg
      clear hoy hg
      have hsz := HG.out.size
      go_wp2_with (at_builtin; refine wpList_append_rd (.tmp 19) (.tmp 23) rfl rfl base _ ys [m, m, m] rfl (by have h := World.ownsRow.alloc HO.out.2 (.cells (bVs [m, m, m]).toArray 5); unfold OwnV; rw [HL.out]; exact h) (wr.heap.size + 1) (some ⟨wr.heap.size, 0, none⟩) 3 3 rfl (rd_new wr [m, m, m] 3 rfl _) (by rw [HL.out]; exact hn) (by simp; omega) ?_; intro v1 w1 ho1 hg1 hat1; obtain ⟨A1, c1, rfl, hob⟩ := ho1.slice' (n := i + 3) (by rw [List.length_append, HL.out]; rfl))
      have HA := Lib.hid (show ∀ g1, A1 = some ⟨g1, 0, none⟩ → some g1 = row ∨ w.heap.size ≤ g1 by
        intro g1 h
        subst h
        rcases hat1 with e | e
        · exact .inl (by rw [HR.out]; exact e)
        · refine .inr ?_
          simp [Value.ownBlock] at e
          omega)
      have HG1 := Lib.hid (show w.grownBy w1 row by
        have h1 := grown_alloc HG.out (.cells (bVs [m, m, m]).toArray 5)
        rw [HR.out] at h1 ⊢
        exact h1.trans hg1)
      have HOB := Lib.hid hob
      clear hat1 hg1 ho1 hob HG HO HL
      go_loopw [5] (fun v5 wr => ∃ (j : Nat) (zs : List UInt8), j ≤ i + 3 ∧ v5 = .int .i64 (j : Int) ∧ OwnB wr base A1 (i + 3) c1 zs ∧ w.grownBy wr row) (fun v5 _ => (i + 3) - (intOf v5).toNat)
      case atStart => exact ⟨0, _, by omega, rfl, HOB.out, HG1.out⟩
      case round =>
        obtain ⟨j, zs, hj, rfl, hoz, hg⟩ := hrel
        clear HOB HG1
        by_cases hlt : j < i + 3
        · obtain ⟨g, rfl, hg1, hg2, hcell, hfz⟩ := hoz.at_ hlt
          have HO := Lib.hid hoz
          have HG := Lib.hid hg
          clear hoz hg
          go_wp2_with fail
          go_roundw
          case rel => exact ⟨j + 1, _, by omega, by go_num, HO.out.store j m, grown_setCell HG.out (HA.out _ rfl) _⟩
          case measure => simp [intOf]; omega
        · obtain rfl : j = i + 3 := by omega
          go_wp2_with fail
          go_end0
          exact ⟨rfl, hg⟩

end Go.Proofs.Ytaihgckcmcacfaa
namespace Go.Proofs.Ytaihgckcmcacfaa
open Go.RowKit
set_option linter.unusedVariables false
set_option linter.unusedSimpArgs false

/-- a list that was made: where it lies, and what it holds -/
structure Res where
  A : Option Addr
  n : Nat
  cap : Nat
  xs : List UInt8
def Res.v (r : Res) : Value := .slice r.A r.n r.cap
/-- the lists are the call's own, from block B on, and lie apart -/
structure Owned (w : World) (B : Nat) (R : List Res) : Prop where
  own : ∀ r ∈ R, OwnB w B r.A r.n r.cap r.xs
  apart : R.Pairwise fun r s => Apart r.A s.A
section
variable {w w' : World} {B : Nat} {R : List Res}
theorem Owned.nil (w : World) (B : Nat) : Owned w B [] := ⟨fun r h => absurd h (by simp), List.Pairwise.nil⟩
theorem Owned.go (h : Owned w B R) (hb : Below w.heap.size w w') : Owned w' B R := ⟨fun r hr => (h.own r hr).below hb (Nat.le_refl _), h.apart⟩
theorem Owned.drewN (h : Owned w B R) (k : Nat) : Owned (w.drewN k) B R := ⟨fun r hr => (h.own r hr).drewN k, h.apart⟩
theorem Owned.lt (h : Owned w B R) {r : Res} (hr : r ∈ R) {g : Nat} (e : r.A = some ⟨g, 0, none⟩) : B ≤ g ∧ g < w.heap.size := by
  have h1 := h.own r hr
  rw [e] at h1
  exact h1.row g rfl
theorem Owned.snoc (h : Owned w B R) (hb : Below w.heap.size w w') (hB : B ≤ w.heap.size) {A : Option Addr} {n cap : Nat} {xs : List UInt8} (ho : OwnB w' w.heap.size A n cap xs) : Owned w' B (R ++ [⟨A, n, cap, xs⟩]) := by
  refine ⟨fun r hr => ?_, ?_⟩
  · rcases List.mem_append.1 hr with h1 | h1
    · exact (h.own r h1).below hb (Nat.le_refl _)
    · obtain rfl := List.mem_singleton.1 h1
      exact ho.mono hB
  · rw [List.pairwise_append]
    refine ⟨h.apart, List.pairwise_singleton _ _, fun r hr s hs => ?_⟩
    obtain rfl := List.mem_singleton.1 hs
    intro g e1 e2
    have h1 := h.lt hr e1
    subst e2
    have h2 := (ho.row g rfl).1
    omega
theorem Owned.snoc2 (h : Owned w B R) (hb : Below w.heap.size w w') (hB : B ≤ w.heap.size) {A : Option Addr} {n cap : Nat} {xs : List UInt8} (ho : OwnB w' w.heap.size A n cap xs) {A2 : Option Addr} {n2 cap2 : Nat} {xs2 : List UInt8} (ho2 : OwnB w' w.heap.size A2 n2 cap2 xs2) (ha : Apart A A2) :
    Owned w' B (R ++ [⟨A, n, cap, xs⟩, ⟨A2, n2, cap2, xs2⟩]) := by
  refine ⟨fun r hr => ?_, ?_⟩
  · rcases List.mem_append.1 hr with h1 | h1
    · exact (h.own r h1).below hb (Nat.le_refl _)
    · simp only [List.mem_cons, List.not_mem_nil, or_false] at h1
      rcases h1 with rfl | rfl
      · exact ho.mono hB
      · exact ho2.mono hB
  · rw [List.pairwise_append]
    refine ⟨h.apart, by simp; exact ha, fun r hr s hs => ?_⟩
    simp only [List.mem_cons, List.not_mem_nil, or_false] at hs
    intro g e1 e2
    have h1 := h.lt hr e1
    rcases hs with rfl | rfl
    · subst e2
      have h2 := (ho.row g rfl).1
      omega
    · subst e2
      have h2 := (ho2.row g rfl).1
      omega
theorem Res.block {r : Res} {base : Nat} (ho : OwnB w base r.A r.n r.cap r.xs) {k : Nat} (e : r.v.ownBlock = some k) : r.A = some ⟨k, 0, none⟩ := by
  rcases ho.addr with h | ⟨g, h⟩
  · unfold Res.v at e
    rw [h] at e
    cases e
  · unfold Res.v at e
    rw [h] at e ⊢
    simp only [Value.ownBlock, Option.some.injEq] at e
    subst e
    rfl
theorem Owned.spoilt {r : Res} (h : Owned w B (r :: R)) (hg : w.grownBy w' r.v.ownBlock) : Owned w' B R := by
  have hp := List.pairwise_cons.1 h.apart
  refine ⟨fun s hs => (h.own s (List.mem_cons_of_mem _ hs)).keep fun g e => ?_, hp.2⟩
  have hl := h.lt (List.mem_cons_of_mem _ hs) e
  refine hg.block g hl.2 fun e2 => ?_
  have e3 := Res.block (h.own r (List.mem_cons_self ..)) e2.symm
  exact hp.1 s hs g e3 e
theorem Owned.row_spoilt {r : Res} (h : Owned w B (r :: R)) (hg : w.grownBy w' r.v.ownBlock) {gl : Nat} {t : TypeId} {ys : List Value} (hr : Row w gl t ys) (hne : ∀ s ∈ r :: R, s.A ≠ some ⟨gl, 0, none⟩) : Row w' gl t ys := by
  refine hr.of_block (hg.block gl hr.lt fun e2 => ?_)
  exact hne r (List.mem_cons_self ..) (Res.block (h.own r (List.mem_cons_self ..)) e2.symm)
theorem Owned.below_spoilt {r : Res} {w0 : World} (h : Owned w B (r :: R)) (hg : w.grownBy w' r.v.ownBlock) (hb : Below B w0 w) (hB : B ≤ w.heap.size) : Below B w0 w' := by
  refine hb.trans (grown_below hg hB fun k e => ?_)
  exact (h.lt (List.mem_cons_self ..) (Res.block (h.own r (List.mem_cons_self ..)) e)).1
theorem Owned.head {r : Res} (h : Owned w B (r :: R)) : OwnB w B r.A r.n r.cap r.xs := h.own r (List.mem_cons_self ..)
theorem drop_head {R : List Res} {i : Nat} (hi : i < R.length) : ∃ r, R.drop i = r :: R.drop (i + 1) ∧ r ∈ R ∧ (R.map Res.v)[i]? = some (.slice r.A r.n r.cap) := by
  refine ⟨R[i], List.drop_eq_getElem_cons hi, List.getElem_mem _, ?_⟩
  rw [List.getElem?_map, List.getElem?_eq_getElem hi]
  rfl
end
/-- what a walk keeps: lists that read -/
structure Kp (w0 w : World) (rs : List (Option Addr × Nat × List UInt8)) : Prop where
  below : Below w0.heap.size w0 w
  rds : ∀ r ∈ rs, Rd w w.heap.size r.1 r.2.1 (bVs r.2.2)
section
variable {w0 w w' : World} {rs : List (Option Addr × Nat × List UInt8)}
theorem Kp.start (w : World) : Kp w w [] := ⟨Below.refl _ _, fun r h => absurd h (by simp)⟩
theorem Kp.go (h : Kp w0 w rs) (hb : Below w.heap.size w w') : Kp w0 w' rs := ⟨h.below.trans (hb.mono h.below.size), fun r hm => (h.rds r hm).go hb⟩
theorem Kp.add {A : Option Addr} {n : Nat} {xs : List UInt8} (h : Kp w0 w rs) (hr : Rd w w.heap.size A n (bVs xs)) : Kp w0 w ((A, n, xs) :: rs) :=
  ⟨h.below, fun r hm => by
    rcases List.mem_cons.1 hm with rfl | hm
    · exact hr
    · exact h.rds r hm⟩
theorem Kp.rd (h : Kp w0 w rs) (i : Nat) {A : Option Addr} {n : Nat} {xs : List UInt8} (e : rs[i]? = some (A, n, xs)) : Rd w w.heap.size A n (bVs xs) := h.rds _ (List.mem_of_getElem? e)
theorem Kp.drewN (h : Kp w0 w rs) (k : Nat) : Kp w0 (w.drewN k) rs := h.go (below_drewN (Below.refl _ _) k)
end
end Go.Proofs.Ytaihgckcmcacfaa
namespace Go.Proofs.Ytaihgckcmcacfaa
open Go.RowKit
set_option linter.unusedVariables false
set_option linter.unusedSimpArgs false

set_option maxHeartbeats 400000 in
theorem copy_calls (A : Option Addr) (n cap : Nat) (xs : List UInt8) (w : World) (hr : Rd w w.heap.size A n (bVs xs)) (hn : n ≤ 140737488355328) :
    Calls Try.prog 35 #[.slice A n cap] w fun e w' => ∃ v, e = .returned v ∧ OwnV w' w.heap.size v xs ∧ Below w.heap.size w w' := by
  go_enter Try.func35, Try.ntmps35
  go_wp2_with (at_builtin; refine wpList_append_rd (.tmp 3) (.tmp 4) rfl rfl w.heap.size _ [] xs rfl (own_empty w _ (Nat.le_refl _) _ rfl) w.heap.size A n cap rfl (hr.below ((Below.refl _ _).alloc (Nat.le_refl _) _) (Nat.le_refl _)) (by simpa using hn) (by simp) ?_; intro v1 w1 ho1 hg1 hat1)
  go_ret
  exact ⟨_, rfl, ho1, ((Below.refl _ _).alloc (Nat.le_refl _) _).trans (grown_below hg1 (by simp) (fun k hk => Nat.le_of_eq (Option.some.inj hk)))⟩

theorem copy_own (A : Option Addr) (n cap : Nat) (xs : List UInt8) (w : World) (hr : Rd w w.heap.size A n (bVs xs)) (hn : n ≤ 140737488355328) :
    Calls Try.prog 35 #[.slice A n cap] w fun e w' => ∃ A' cap', e = .returned (.slice A' n cap') ∧ OwnB w' w.heap.size A' n cap' xs ∧ Below w.heap.size w w' := by
  refine (copy_calls A n cap xs w hr hn).mono ?_
  rintro e w' ⟨v, rfl, ho, hb⟩
  obtain ⟨A', cap', rfl, ho'⟩ := ho.slice' (n := n) (by have := hr.len; rw [bVs_length] at this; exact this)
  exact ⟨A', cap', rfl, ho', hb⟩
end Go.Proofs.Ytaihgckcmcacfaa
namespace Go.Proofs.Ytaihgckcmcacfaa
open Go.ChangeShapes Go.WideShapes Go.ChangeAt Go.RowKit

theorem own_knob : ownKnob Try.prog.godebug = none := by kernel_rfl
theorem laid_out : laidOutB Try.prog = true := by kernel_rfl
theorem u8_of {n : Int} (h : (Lit.int .u8 n).wf = true) : ∃ u : UInt8, n = (u.toNat : Int) := by
  have hb := bounds_u8 h
  refine ⟨UInt8.ofNat n.toNat, ?_⟩
  rw [UInt8.toNat_ofNat']
  omega
theorem u8s_of : ∀ {zs : List Int}, (∀ n ∈ zs, (Lit.int .u8 n).wf = true) → ∃ xs : List UInt8, zs = xs.map fun x => (x.toNat : Int)
  | [], _ => ⟨[], rfl⟩
  | z :: zs, h => by
    obtain ⟨u, hu⟩ := u8_of (h z (by simp))
    obtain ⟨xs, hx⟩ := u8s_of (zs := zs) (fun n hn => h n (by simp [hn]))
    exact ⟨u :: xs, by simp [hu, hx]⟩
/-- A list of bytes that came in: it reads; its size is within the reach. -/
theorem open_bytes {H : Type} {enc : TypeId × Value → H} {W : World} {d : DataW H} {p : List MemPlace} {a : Option Addr} {len cap : Nat}
    (h : DataW.Trod enc Try.prog W 0 (fun _ => true) true 22 (.slice a len cap) d p) :
    ∃ (xs : List UInt8), Rd W W.heap.size a len (bVs xs) ∧ len ≤ cap ∧ cap ≤ maxLen ∧ ((d = .nil ∧ cap = 0) ∨ ∃ es rs : List (DataW H), d = .slice es rs ∧ es.length + rs.length = cap) := by
  obtain ⟨fuel, hf⟩ := h
  have hlt := DataW.trod_lt fuel _ _ _ hf
  rcases open_ints Try.underlying22 Try.underlying5 (by kernel_rfl) hf with ⟨hcs, hx⟩ | ⟨x, l, c, zs, hcs, _, hl, hm, hz, hx, hcell, hwz⟩
  · simp [Value.cells] at hcs
    obtain ⟨rfl, rfl, rfl⟩ := hcs
    exact ⟨[], Rd.nil, Nat.le_refl _, Nat.zero_le _, .inl ⟨by simpa using congrArg Prod.fst hx, rfl⟩⟩
  · simp [Value.cells] at hcs
    obtain ⟨rfl, rfl, rfl⟩ := hcs
    simp only [if_true] at hz
    obtain ⟨xs, rfl⟩ := u8s_of hwz
    rw [List.length_map] at hz
    refine ⟨xs.take len, ⟨by simp [bVs]; omega, fun hn => ?_⟩, hl, hm, .inr ⟨_, _, by simpa using congrArg Prod.fst hx, by simp [lits]; omega⟩⟩
    obtain ⟨g, o, rfl, hc⟩ := ints_at hcell (by rw [List.length_map]; omega)
    refine ⟨g, o, rfl, ?_, fun j u hu => ?_⟩
    · have hp : p = MemPlace.row ⟨g, o, none⟩ ((xs.map fun x => (x.toNat : Int)).length) := by simpa using congrArg Prod.snd hx
      have := hlt (.cell g o) (by rw [hp]; simp [MemPlace.row]; omega)
      exact this
    · have hj : j < (bVs (xs.take len)).length := by
        rcases Nat.lt_or_ge j (bVs (xs.take len)).length with hlt | hge
        · exact hlt
        · rw [List.getElem?_eq_none hge] at hu; cases hu
      rw [bVs_length, List.length_take] at hj
      rw [hc j (by rw [List.length_map]; omega)]
      rw [← hu]
      have hx : (xs.map fun x => (x.toNat : Int)).getD j 0 = ((xs[j]'(by omega)).toNat : Int) := by simp [List.getD]; rw [List.getElem?_eq_getElem (by omega)]; rfl
      rw [hx, bVs_get _ _ (by rw [List.length_take]; omega), List.getElem_take]
theorem bytes_of_u8 : Try.prog.bytesOf 5 = 1 := by kernel_rfl
end Go.Proofs.Ytaihgckcmcacfaa
