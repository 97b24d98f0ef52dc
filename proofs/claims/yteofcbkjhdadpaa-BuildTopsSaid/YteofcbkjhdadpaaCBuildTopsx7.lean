import Derived.Test.YteofcbkjhdadpaaCBuildTopsx0
import Derived.Test.YteofcbkjhdadpaaCBuildTopsx6
import Derived.Test.YteofcbkjhdadpaaCBuildTopsq
set_option maxHeartbeats 8000000
set_option maxRecDepth 100000
set_option linter.unusedSimpArgs false
set_option linter.unusedVariables false
namespace Go.Proofs.Yteofcbkjhdadpaa.Pr
open Go.RowKit Go.Proofs.aI.bE Go.Proofs.aI.fB Go.Proofs.aI.iS
attribute [local go_sem] kQ kO nK nJ jD jC kP kN   -- for this text's walks alone
def eH.f (aQ : Int) (aK : Int) (aV : List Int) (a1 : Int) : Option (Int×Int×List Int):=if 0≤(wrap64 (a1 * aK)) then (if (wrap64 (a1 * aK))≤(aV.length : Int) then ((gT.f (aV.take ((wrap64 (a1 * aK)) : Int).toNat)).bind fun ZS => (some (a1,aK,ZS))) else (none)) else (none)
def eH.T1 : Bool×List (List Nat×List Nat):=(true,[([],[]),([],[]),([1],[1]),([],[]),([3],[3]),([],[]),([],[]),([6],[6]),([5,7],[5,7]),([4,8],[4,8]),([9],[9]),([0,2,10],[0,2,10]),([11,10,0,1,2,3,4,5,6,7,8,9,10,11],[11])])
def eH.B1 : List Nat:=[0,0,2,0,8,0,0,64,224,504,1016,2047,4095]
theorem eH.bCo : rV .any (opsOf Try.f52 1) = eH.T1:=by kernel_rfl
theorem eH.aYk : mQ eH.T1.2 eH.B1 = true:=by kernel_rfl
theorem eH.calls (aQ : Int) (aK : Int) (cG : Option Addr) (cF : Nat) (aV : List Int) (a1 : Int) (r1 : Int) (r2 : Int) (r3 : List Int) (w : World) (hr0_2 : Kd.C (Kd.int .u8) w cG aV.length aV) (hc0_2 : aV.length≤cF) (h : eH.f aQ aK aV a1 = some (r1,r2,r3)) :
  Calls Try.prog 52 #[.agg #[.int .i64 aQ,.int .i64 aK,.slice cG aV.length cF],.int .i64 a1] w fun e w' => ∃ vQ : Value,e = .returned (.agg #[.int .i64 r1,.int .i64 r2,vQ])∧Kd.R (Kd.int .u8) 5 w' w.heap.size (fun _ => True) vQ r3∧Below w.heap.size w w':=by
 have CQ:=Try.underlying24;have iH:=aA.mk hr0_2;have iN:=aA.mk hc0_2;clear hr0_2 hc0_2;have HB:=aA.mk (Below.refl w.heap.size w);have H : (if 0≤(wrap64 (a1 * aK)) then (if (wrap64 (a1 * aK))≤(aV.length : Int) then ((gT.f (aV.take ((wrap64 (a1 * aK)) : Int).toNat)).bind fun ZS => (some (a1,aK,ZS))) else (none)) else (none)) = some (r1,r2,r3):=h;clear h;obtain ⟨FU,MX⟩ : ∃ j_ : Int,(wrap64 (a1 * aK)) = j_:=⟨_,rfl⟩
 replace H : (if 0≤(FU) then (if (FU)≤(aV.length : Int) then ((gT.f (aV.take ((FU) : Int).toNat)).bind fun ZS => (some (a1,aK,ZS))) else (none)) else (none)) = some (r1,r2,r3):=by first | (rw [MX] at H;exact H) | (simp only [MX] at H ⊢;exact H)
 have aRo : (IntKind.i64.wrap (a1 * aK)) = FU:=(bG _).trans MX
 by_cases c4 : 0≤(FU)
 ·rw [if_pos c4] at H
  have NC:=eq_true c4;have YC : decide (0≤(FU)) = true:=decide_eq_true c4;clear c4
  by_cases c5 : (FU)≤(aV.length : Int)
  ·rw [if_pos c5] at H
   have IH:=eq_true c5;have aMk : decide ((FU)≤(aV.length : Int)) = true:=decide_eq_true c5;clear c5;replace H:=Option.bind_eq_some_iff.mp H;obtain ⟨ZS,A60,H⟩:=H;replace H : (some (a1,aK,ZS)) = some (r1,r2,r3):=H;have A6:=aA.mk A60;clear A60;simp only [Option.some.injEq,Prod.mk.injEq] at H;obtain ⟨rfl,rfl,rfl⟩:=H;go_enter Try.func52,Try.ntmps52
   try go_wp2_with (first | ((with_reducible refine bU (N:=2) rfl ?_);refine pG (N:=2) (cs:=#[.int .i64 aQ,.int .i64 aK,.slice cG aV.length cF]) (t:=24) ?_;intro aDU hg w7 hbox hb;have AJ:=aA.mk (hbox);have bHQ:=aA.mk (gE hg (dN HB) : w.heap.size≤aDU);have aBg:=aA.mk (gE hg (dN HB) : w.heap.size≤aDU);replace HB:=aA.mk (aM (dN HB) hb);clear hb hbox hg) | ((with_reducible refine bU (N:=4) rfl ?_);refine pG (N:=4) (cs:=#[.int .i64 0,.int .i64 0,.slice none 0 0]) (t:=24) ?_;intro zZ hg w8 hbox hb;have EG:=aA.mk (hbox);have bHP:=aA.mk (gE hg (dR HB aBg) : w.heap.size≤zZ);have aMV:=aA.mk (gE hg (dR HB aBg) : w.heap.size≤zZ);replace HB:=aA.mk (aM (dR HB aBg) hb);have nB:=aA.mk (lQ hg (bT AJ));have TC:=aA.mk (lR hg (bT AJ));replace AJ:=aA.mk (aH (bT AJ) hb);clear hb hbox hg))
   replace AJ:=aA.mk (aG AJ.out);replace EG:=aA.mk (aG EG.out);replace HB:=aA.mk (dO HB.out);obtain ⟨bIT,aRs,_,aQJ,_⟩:=info_parts FV;obtain ⟨bFb,aXn,aXm⟩:=ZY (P:=Try.prog) (Value.int .u8) 0 22 5 .i64 Try.underlying22 aRs aQJ cG cF aV (FU) (of_decide_eq_true pH) (of_decide_eq_true pH) iN.out;have aRL:=aA.mk (Kd.aGi (h1:=fun _ => rfl) (aXn _ (Kd.MR iH.out)));have aYE:=aA.mk aXm;clear aXn aXm aRs aQJ;refine qR (n:=13) (S:=fun w' => w'.cell? ⟨aDU,0,none⟩ = some (.int .i64 aQ)∧w'.cell? ⟨aDU,1,none⟩ = some (.int .i64 aK)∧w'.cell? ⟨aDU,2,none⟩ = some (.slice cG aV.length cF)) (ds:=[]) #[false,false,false,false,false,false,false,false,false,false,false,false,false] (by kernel_rfl) rfl rfl ⟨(aU AJ.out 0).trans rfl,(aU AJ.out 1).trans rfl,(aU AJ.out 2).trans rfl⟩ (fun hHeld => ?_);refine jO eH.bCo eH.aYk (fun HT_ HW_ => ?_);generalize w8.drew = w9 at AJ EG HB aRL hHeld ⊢;refine cB (i:=0) (N:=some 5) (v:=?_) (a':=?_) (eE 13 1) rfl rfl (bK HT_.out (by kernel_rfl)) (fun _ _ _ h => h) (Or.inl ⟨by rfl,?_⟩) ?_ ?_;rotate_left
   ·intro w'
    go_simp;(with_reducible rfl)
   rotate_left
   ·simp only [Act.put,cV,cT,cW,bG,bH]
    rfl
   refine cB (i:=1) (N:=some 6) (v:=?_) (a':=?_) (eE 13 3) rfl rfl (bK HT_.out (by kernel_rfl)) (fun _ _ _ h => h) (Or.inl ⟨by rfl,?_⟩) ?_ ?_;rotate_left
   ·intro w'
    go_simp;(with_reducible rfl)
   rotate_left
   ·simp only [Act.put,cV,cT,cW,bG,bH]
    rfl
   refine cB (i:=3) (N:=some 8) (v:=?_) (a':=?_) (eE 13 11) rfl rfl (bK HT_.out (by kernel_rfl)) (fun _ _ _ h => h) (Or.inl ⟨by rfl,?_⟩) ?_ ?_;rotate_left
   ·intro w'
    go_simp;(with_reducible rfl)
   rotate_left
   ·simp only [Act.put,cV,cT,cW,bG,bH]
    rfl
   refine cB (i:=5) (N:=some 10) (v:=?_) (a':=?_) (eE 13 43) rfl rfl (bK HT_.out (by kernel_rfl)) (fun _ _ _ h => h) (Or.inl ⟨by rfl,?_⟩) ?_ ?_;rotate_left
   ·intro w'
    go_simp;(with_reducible rfl)
   rotate_left
   ·simp only [Act.put,cV,cT,cW,bG,bH]
    rfl
   refine cB (i:=6) (N:=some 11) (v:=?_) (a':=?_) (eE 13 107) rfl rfl (bK HT_.out (by kernel_rfl)) (fun _ _ _ h => h) (Or.inl ⟨by rfl,?_⟩) ?_ ?_;rotate_left
   ·intro w'
    go_simp;(with_reducible rfl)
   rotate_left
   ·simp only [Act.put,cV,cT,cW,bG,bH]
    rfl
   refine hY (i:=2) (N:=some 7) (v:=?_) (a':=?_) (eE 13 111) rfl rfl (dZ HT_.out HW_.out (by kernel_rfl)) (fun _ _ _ h => h) (Or.inl ⟨by rfl,?_⟩) hHeld ?_ ?_;rotate_left
   ·rintro w' ⟨s0,s1,s2⟩
    go_simp;(with_reducible rfl)
   rotate_left
   ·simp only [Act.put,cV,cT,cW,bG,bH]
    rfl
   refine hY (i:=4) (N:=some 9) (v:=?_) (a':=?_) (eE 13 127) rfl rfl (dZ HT_.out HW_.out (by kernel_rfl)) (fun _ _ _ h => h) (Or.inl ⟨by rfl,?_⟩) hHeld ?_ ?_;rotate_left
   ·rintro w' ⟨s0,s1,s2⟩
    go_simp;(with_reducible rfl)
   rotate_left
   ·simp only [Act.put,cV,cT,cW,bG,bH]
    rfl
   refine hY (i:=7) (N:=some 12) (v:=?_) (a':=?_) (eE 13 255) rfl rfl (dZ HT_.out HW_.out (by kernel_rfl)) (fun _ _ _ h => h) (Or.inl ⟨by rfl,?_⟩) hHeld ?_ ?_;rotate_left
   ·rintro w' ⟨s0,s1,s2⟩
    go_simp;(with_reducible rfl)
   rotate_left
   ·simp only [Act.put,cV,cT,cW,bG,bH]
    rfl
   refine cB (i:=8) (N:=some 13) (v:=?_) (a':=?_) (eE 13 511) rfl rfl (bK HT_.out (by kernel_rfl)) (fun _ _ _ h => h) (Or.inl ⟨by rfl,?_⟩) ?_ ?_;rotate_left
   ·intro w'
    go_simp;(with_reducible rfl)
   rotate_left
   ·simp only [Act.put,cV,cT,cW,bG,bH]
    rfl
   refine cB (i:=9) (N:=some 14) (v:=?_) (a':=?_) (eE 13 1023) rfl rfl (bK HT_.out (by kernel_rfl)) (fun _ _ _ h => h) (Or.inl ⟨by rfl,?_⟩) ?_ ?_;rotate_left
   ·intro w'
    go_simp;(with_reducible rfl)
   rotate_left
   ·simp only [Act.put,cV,cT,cW,bG,bH]
    rfl
   refine yR (i:=10) (N:=some 15) (eE 13 2047) rfl rfl (iU HT_.out (by kernel_rfl)) (by decide) (fun K hK => ?_);refine xS Try.func41 (by kernel_rfl) rfl #[.slice cG (aV.take ((FU) : Int).toNat).length cF] (by rfl) rfl rfl (by (try simp only [List.map_toArray,List.map_cons,List.map_nil]);first | done | (rw [show (aV.take ((FU) : Int).toNat).length = (FU).toNat from (by rw [List.length_take];have h_ : ((FU) : Int)≤(aV.length : Int):=of_decide_eq_true pH;omega)] <;> rfl) | (simp only [MX];rfl) | rfl | (simp only [List.length_drop,List.length_take];rfl)) ?_
   with_reducible refine (gT.calls _ _ (aV.take ((FU) : Int).toNat) ZS _ ?side1 ?side2 A6.out).mono ?_
   (case side1 => exact sW (Kd.eN aRL.out HB.out))
   (case side2 => exact aYE.out);rintro e w11 ⟨bIC,rfl,ho0,hb⟩;refine ⟨_,rfl,?_⟩;have aRQ:=aA.mk (Kd.dY ho0 (cD (eA HB aBg aMV)));replace AJ:=aA.mk (aH (bT AJ) hb);replace EG:=aA.mk (aH (bT EG) hb);replace HB:=aA.mk (aM (eA HB aBg aMV) hb);(try clear hb);(try clear hb2);(try clear hk);(try clear hi);(try clear ho0);obtain ⟨aTM,aQc,eo12⟩:=Kd.cZ aRQ.out
   (first | subst eo12 | (injection eo12 with f1_ f2_ f3_;have f4_:=f1_.symm;have f5_:=f3_.symm;clear f1_ f2_ f3_;subst f4_;subst f5_));refine hK.out _ _ ⟨(aU AJ.out 0).trans rfl,(aU AJ.out 1).trans rfl,(aU AJ.out 2).trans rfl⟩ (fun hHeld => ?_);clear hK K;refine kY (a':=?_) ?_ ?_;rotate_left
   ·show Act.put _ (some 15) _ = _
    simp only [Act.put,cV,cT,cW,bG,bH];rfl
   refine cB (i:=11) (N:=some 16) (v:=?_) (a':=?_) (eE 13 4095) rfl rfl (bK HT_.out (by kernel_rfl)) (fun _ _ _ h => h) (Or.inl ⟨by rfl,?_⟩) ?_ ?_;rotate_left
   ·intro w'
    go_simp;(with_reducible rfl)
   rotate_left
   ·simp only [Act.put,cV,cT,cW,bG,bH]
    rfl
   refine yR (i:=12) (N:=none) (eE 13 8191) rfl rfl (iU HT_.out (by kernel_rfl)) (by decide) (fun K hK => ?_);have hs13:=bR EG 0 (.int .i64 0) rfl;have hfs13:=aD EG.out 0;have hns13_0:=nB.out;have hms13_0:=TC.out;have hs14:=bR EG 1 (.int .i64 0) rfl;have hfs14:=aD EG.out 1;have hns14_0:=nB.out;have hms14_0:=TC.out;have hs15:=bR EG 2 (.slice none 0 0) rfl;have hfs15:=aD EG.out 2;have hns15_0:=nB.out;have hms15_0:=TC.out;refine GN (w1:=?_) (by rfl) rfl ?_ ?_;rotate_left
   ·go_simp
    rfl
   refine hK.out _ _ ⟨((Go.Proofs.aI.bE.cell_far (p:=⟨zZ,_,none⟩) nB.out _).trans (((Go.Proofs.aI.bE.cell_far (p:=⟨zZ,_,none⟩) nB.out _).trans (((Go.Proofs.aI.bE.cell_far (p:=⟨zZ,_,none⟩) nB.out _).trans (hHeld.1)))))),((Go.Proofs.aI.bE.cell_far (p:=⟨zZ,_,none⟩) nB.out _).trans (((Go.Proofs.aI.bE.cell_far (p:=⟨zZ,_,none⟩) nB.out _).trans (((Go.Proofs.aI.bE.cell_far (p:=⟨zZ,_,none⟩) nB.out _).trans (hHeld.2.1)))))),((Go.Proofs.aI.bE.cell_far (p:=⟨zZ,_,none⟩) nB.out _).trans (((Go.Proofs.aI.bE.cell_far (p:=⟨zZ,_,none⟩) nB.out _).trans (((Go.Proofs.aI.bE.cell_far (p:=⟨zZ,_,none⟩) nB.out _).trans (hHeld.2.2))))))⟩ (fun hHeld => ?_);clear hK K;refine vY (oG HT_.out (by kernel_rfl)) ?_
   try go_wp2
   refine bodyPost_ret (results_cell_row rfl _ _ zZ 24 #[.int .i64 a1,.int .i64 aK,.slice aTM ZS.length aQc] (0,0) _ rfl (by (with_reducible repeat first | apply aE | apply aG | apply aC);refine bC (cs:=#[.int .i64 a1,.int .i64 aK,.slice none 0 0]) ?_ 2 _ rfl;(with_reducible repeat first | apply aE | apply aG | apply aC);refine bC (cs:=#[.int .i64 a1,.int .i64 0,.slice none 0 0]) ?_ 1 _ rfl;(with_reducible repeat first | apply aE | apply aG | apply aC);refine bC (cs:=#[.int .i64 0,.int .i64 0,.slice none 0 0]) ?_ 0 _ rfl;(with_reducible repeat first | apply aE | apply aG | apply aC);exact EG.out) Try.underlying24 rfl (by kernel_rfl)) rfl ?_;exact ⟨_,by first | rfl | (simp [jF,jE] <;> rfl) | (simp only [← MX];first | rfl | (simp [jF,jE] <;> rfl)) | (simp [*,jF,jE] <;> rfl),by (with_reducible repeat first | apply Kd.bX | apply Kd.bW | apply Kd.bQ);exact Kd.cE (Kd.cU (p:=⟨zZ,2,none⟩) (Kd.cU (p:=⟨zZ,1,none⟩) (Kd.cU (p:=⟨zZ,0,none⟩) (Kd.eM aRQ.out EG.out (by decide)) (fun _ hk => hk.2) (.int .i64 a1)) (fun _ hk => hk.2) (.int .i64 aK)) (fun _ hk => hk.2) (.slice aTM ZS.length aQc)) (fun _ hk => trivial),eA HB aBg aMV⟩
  ·rw [if_neg c5] at H
   exact absurd H (by simp)
 ·rw [if_neg c4] at H
  exact absurd H (by simp)
end Go.Proofs.Yteofcbkjhdadpaa.Pr
