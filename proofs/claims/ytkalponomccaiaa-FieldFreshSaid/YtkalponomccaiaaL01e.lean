/- The walk of the law FieldFresh. -/
import Derived.Test.YtkalponomccaiaaL01d
namespace Go.Proofs.Ytkalponomccaiaa
open Go.RowKit
set_option linter.unusedVariables false
set_option linter.unusedSimpArgs false

set_option maxHeartbeats 3200000 in
theorem fieldFresh_calls (a0 : Option Addr) (n0 c0 : Nat) (x0 : List UInt8) (a1 : Option Addr) (n1 c1 : Nat) (x1 : List UInt8) (c : UInt8) (w : World)
    (r0 : Rd w w.heap.size a0 n0 (bVs x0)) (l0 : n0 ≤ c0) (m0 : c0 ≤ 140737488351232) (r1 : Rd w w.heap.size a1 n1 (bVs x1)) (l1 : n1 ≤ c1) (m1 : c1 ≤ 140737488351232) :
    Calls Try.prog 11 #[.slice a0 n0 c0, .slice a1 n1 c1, .int .u8 (c.toNat : Int)] w fun e w' => e = .returned (.bool true) ∧ Below w.heap.size w w' := by
  have hn : n0 + 3 ≤ 140737488355328 := by omega
  have hn' : n0 ≤ 140737488355328 := by omega
  have hm' : n1 ≤ 140737488355328 := by omega
  have e0 : x0.length = n0 := by have := r0.len; rw [bVs_length] at this; exact this
  have hmr : ∀ d, (Gf.macR x0 d x1).length + 3 ≤ 140737488355328 := fun d => by have := macR_len x0 x1 d; omega
  have HMR := Lib.hid hmr
  clear l0 m0 l1 m1 e0 hmr
  go_enter Try.func11, Try.ntmps11
  go_wp2_with fail
  -- p, q
  refine (copy_own _ _ _ x0 _ r0 hn').mono ?_; rintro e w1 ⟨Ap, cp, rfl, op, b1⟩
  replace r0 := r0.below b1 (Nat.le_refl _); replace r1 := r1.below b1 (Nat.le_refl _); have p := op.rd; clear op
  go_wp2_with fail
  refine (copy_own _ _ _ x1 _ (r1.more b1.size) hm').mono ?_; rintro e w2 ⟨Aq, cq, rfl, oq, b2⟩
  replace r0 := r0.below b2 b1.size; replace r1 := r1.below b2 b1.size; replace p := p.below b2 (Nat.le_refl _); have q := oq.rd; clear oq
  have s1 := b1.size
  have s2 := b2.size
  have hW : Below w.heap.size w w2 := b1.trans (b2.mono s1)
  clear b1 b2
  go_wp2_with fail
  -- x
  refine (sum_any _ _ _ _ _ _ x0 x1 _ (p.more s2) q hn').mono ?_; rintro e w3 ⟨Ax, kx, cx, rfl, ox, b3⟩
  have rx := ox.row
  replace r0 := r0.below b3 (by omega); replace r1 := r1.below b3 (by omega); replace p := p.below b3 s2; replace q := q.below b3 (Nat.le_refl _)
  have s3 := b3.size
  replace hW := hW.trans (b3.mono (by omega))
  clear b3
  go_wp2_with fail
  -- y
  refine (scale_calls c _ _ _ x0 _ (p.more (by omega)) hn').mono ?_; rintro e w4 ⟨Ay, cy, rfl, oy, b4⟩
  have ry := oy.row
  replace r0 := r0.below b4 (by omega); replace r1 := r1.below b4 (by omega); replace p := p.below b4 (by omega); replace q := q.below b4 (by omega); replace ox := ox.below b4 (Nat.le_refl _)
  have s4 := b4.size
  replace hW := hW.trans (b4.mono (by omega))
  clear b4
  go_wp2_with fail
  -- z
  refine (mac_any _ _ _ c _ _ _ x0 x1 _ (p.more (by omega)) (q.more (by omega)) hn').mono ?_; rintro e w5 ⟨Az, kz, cz, rfl, oz, b5⟩
  have rz := oz.row
  replace r0 := r0.below b5 (by omega); replace r1 := r1.below b5 (by omega); replace p := p.below b5 (by omega); replace q := q.below b5 (by omega); replace ox := ox.below b5 (by omega); replace oy := oy.below b5 (Nat.le_refl _)
  have s5 := b5.size
  replace hW := hW.trans (b5.mono (by omega))
  clear b5
  have hkx : kx + 3 ≤ 140737488355328 := by have := HMR.out 1; have := ox.1; omega
  have hkz : kz + 3 ≤ 140737488355328 := by have := HMR.out c; have := oz.1; omega
  have H7 := Lib.hid (fun w h1 h2 h3 => spoil_calls Ax kx cx w2.heap.size (Gf.macR x0 1 x1) 7 w h1 h2 h3)
  have H90 := Lib.hid (fun w h1 h2 h3 => spoil_calls Ay n0 cy w3.heap.size (x0.map (Gf.mul c)) 90 w h1 h2 h3)
  have H200 := Lib.hid (fun w h1 h2 h3 => spoil_calls Az kz cz w4.heap.size (Gf.macR x0 c x1) 200 w h1 h2 h3)
  go_wp2_with fail
  refine (H7.out _ ox (by omega) hkx).mono ?_; rintro e w6 ⟨rfl, g6⟩
  clear ox H7
  replace r0 := r0.spoil g6 (by omega) (fun k hk => by have := rx k hk; omega); replace r1 := r1.spoil g6 (by omega) (fun k hk => by have := rx k hk; omega)
  replace p := p.spoil g6 (by omega) (fun k hk => by have := rx k hk; omega); replace q := q.spoil g6 (by omega) (fun k hk => by have := rx k hk; omega)
  replace oy := oy.spoil g6 (fun k hk => by have := rx k hk; omega); replace oz := oz.spoil g6 (fun k hk => by have := rx k hk; omega)
  have s6 := g6.size
  replace hW := hW.trans (grown_below g6 (by omega) (fun k hk => by have := rx k hk; omega))
  clear g6 rx
  go_wp2_with fail
  refine (H90.out _ oy (by omega) hn).mono ?_; rintro e w7 ⟨rfl, g7⟩
  clear oy H90
  replace r0 := r0.spoil g7 (by omega) (fun k hk => by have := ry k hk; omega); replace r1 := r1.spoil g7 (by omega) (fun k hk => by have := ry k hk; omega)
  replace p := p.spoil g7 (by omega) (fun k hk => by have := ry k hk; omega); replace q := q.spoil g7 (by omega) (fun k hk => by have := ry k hk; omega)
  replace oz := oz.spoil g7 (fun k hk => by have := ry k hk; omega)
  have s7 := g7.size
  replace hW := hW.trans (grown_below g7 (by omega) (fun k hk => by have := ry k hk; omega))
  clear g7 ry
  go_wp2_with fail
  -- again
  refine (refMac_any _ _ _ c _ _ _ x0 x1 _ (r0.more (by omega)) (r1.more (by omega)) hn').mono ?_; rintro e w8 ⟨Aa, ka, ca, rfl, oa, b8⟩
  replace r0 := r0.below b8 (by omega); replace r1 := r1.below b8 (by omega); replace p := p.below b8 (by omega); replace q := q.below b8 (by omega); replace oz := oz.below b8 (Nat.le_refl _)
  have s8 := b8.size
  replace hW := hW.trans (b8.mono (by omega))
  clear b8
  go_wp2_with fail
  refine (same_self _ _ _ _ _ _ _ _ oz.rd oa.rd).mono ?_; rintro e w' ⟨rfl, rfl⟩
  go_wp2_with fail
  refine (H200.out _ oz (by omega) hkz).mono ?_; rintro e w9 ⟨rfl, g9⟩
  clear oz H200
  replace r0 := r0.spoil g9 (by omega) (fun k hk => by have := rz k hk; omega); replace r1 := r1.spoil g9 (by omega) (fun k hk => by have := rz k hk; omega)
  replace p := p.spoil g9 (by omega) (fun k hk => by have := rz k hk; omega); replace q := q.spoil g9 (by omega) (fun k hk => by have := rz k hk; omega)
  replace oa := oa.spoil g9 (fun k hk => by have := rz k hk; omega)
  have s9 := g9.size
  replace hW := hW.trans (grown_below g9 (by omega) (fun k hk => by have := rz k hk; omega))
  clear g9 rz
  have ra := oa.rd
  replace r0 : Rd w9 w9.heap.size _ _ _ := r0.more (by omega)
  replace r1 : Rd w9 w9.heap.size _ _ _ := r1.more (by omega)
  replace p : Rd w9 w9.heap.size _ _ _ := p.more (by omega)
  replace q : Rd w9 w9.heap.size _ _ _ := q.more (by omega)
  clear oa s1 s2 s3 s4 s5 s6 s7 s8 s9
  go_wp2_with fail
  refine (mac_any _ _ _ c _ _ _ x0 x1 _ p q hn').mono ?_; rintro e w10 ⟨Au, ku, cu, rfl, ou, b⟩
  replace hW := hW.trans (b.mono hW.size); replace r0 := r0.go b; replace r1 := r1.go b; replace p := p.go b; replace q := q.go b; replace ra := ra.go b; have ru := ou.rd; clear ou b
  go_wp2_with fail
  refine (same_self _ _ _ _ _ _ _ _ p r0).mono ?_; rintro e w' ⟨rfl, rfl⟩
  go_wp2_with fail
  refine (same_self _ _ _ _ _ _ _ _ q r1).mono ?_; rintro e w' ⟨rfl, rfl⟩
  go_wp2_with fail
  refine (same_self _ _ _ _ _ _ _ _ ru ra).mono ?_; rintro e w' ⟨rfl, rfl⟩
  go_wp2_with fail
  refine (scale_calls c _ _ _ x0 _ p hn').mono ?_; rintro e w11 ⟨As, cs, rfl, os, b⟩
  replace hW := hW.trans (b.mono hW.size); replace r0 := r0.go b; have rs := os.rd; clear os b
  go_wp2_with fail
  refine (refScale_calls c _ _ _ x0 _ r0 hn').mono ?_; rintro e w12 ⟨At, ct, rfl, ot, b⟩
  replace hW := hW.trans (b.mono hW.size); replace rs := rs.go b; have rt := ot.rd; clear ot b
  go_wp2_with fail
  refine (same_self _ _ _ _ _ _ _ _ rs rt).mono ?_; rintro e w' ⟨rfl, rfl⟩
  go_wp2_with (go_at_call 16; refine (anchored_calls _).mono ?_; rintro e w' ⟨rfl, rfl⟩)
  go_ret
  exact ⟨rfl, hW⟩
end Go.Proofs.Ytkalponomccaiaa
