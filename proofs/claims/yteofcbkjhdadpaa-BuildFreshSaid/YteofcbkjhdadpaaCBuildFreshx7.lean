-- Out of the translation,by this session's turn of the print (wip/gp.py).
import Derived.Test.YteofcbkjhdadpaaCBuildFreshx0
import Derived.Test.YteofcbkjhdadpaaCBuildFreshx6
import Derived.Test.YteofcbkjhdadpaaCBuildFreshq
set_option maxHeartbeats 8000000
set_option maxRecDepth 100000
set_option linter.unusedSimpArgs false
set_option linter.unusedVariables false
namespace Go.Proofs.Yteofcbkjhdadpaa.Pr
open Go.RowKit Go.Proofs.aG.aX Go.Proofs.aG.dI Go.Proofs.aG.eN
attribute [local go_sem] fZ fX gZ gY fD fC fY fW   -- for this text's walks alone
def dB.f (aN : Int) (aJ : Int) (aT : List Int) (a1 : Int) : Option (Int×Int×List Int):=if 0≤(wrap64 (a1 * aJ)) then (if (wrap64 (a1 * aJ))≤(aT.length : Int) then ((dP.f (aT.take ((wrap64 (a1 * aJ)) : Int).toNat)).bind fun SM => (some (a1,aJ,SM))) else (none)) else (none)
def dB.T1 : Bool×List (List Nat×List Nat):=(true,[([],[]),([],[]),([1],[1]),([],[]),([3],[3]),([],[]),([],[]),([6],[6]),([5,7],[5,7]),([4,8],[4,8]),([9],[9]),([0,2,10],[0,2,10]),([11,10,0,1,2,3,4,5,6,7,8,9,10,11],[11])])
def dB.B1 : List Nat:=[0,0,2,0,8,0,0,64,224,504,1016,2047,4095]
theorem dB.aVX : pI .any (opsOf Try.f52 1) = dB.T1:=by kernel_rfl
theorem dB.aRC : mQ dB.T1.2 dB.B1 = true:=by kernel_rfl
theorem dB.calls (aN : Int) (aJ : Int) (bL : Option Addr) (bK : Nat) (aT : List Int) (a1 : Int) (r1 : Int) (r2 : Int) (r3 : List Int) (w : World) (hr0_2 : Kd.C (Kd.int .u8) w bL aT.length aT) (hc0_2 : aT.length≤bK) (h : dB.f aN aJ aT a1 = some (r1,r2,r3)) :
  Calls Try.prog 52 #[.agg #[.int .i64 aN,.int .i64 aJ,.slice bL aT.length bK],.int .i64 a1] w fun e w' => ∃ pF : Value,e = .returned (.agg #[.int .i64 r1,.int .i64 r2,pF])∧Kd.R (Kd.int .u8) 5 w' w.heap.size (fun _ => True) pF r3∧Below w.heap.size w w':=by
 have wM:=Try.underlying24;have eP:=aA.mk hr0_2;have eS:=aA.mk hc0_2;clear hr0_2 hc0_2;have HB:=aA.mk (Below.refl w.heap.size w);have H : (if 0≤(wrap64 (a1 * aJ)) then (if (wrap64 (a1 * aJ))≤(aT.length : Int) then ((dP.f (aT.take ((wrap64 (a1 * aJ)) : Int).toNat)).bind fun SM => (some (a1,aJ,SM))) else (none)) else (none)) = some (r1,r2,r3):=h;clear h;obtain ⟨AK,EY⟩ : ∃ j_ : Int,(wrap64 (a1 * aJ)) = j_:=⟨_,rfl⟩
 replace H : (if 0≤(AK) then (if (AK)≤(aT.length : Int) then ((dP.f (aT.take ((AK) : Int).toNat)).bind fun SM => (some (a1,aJ,SM))) else (none)) else (none)) = some (r1,r2,r3):=by first | (rw [EY] at H;exact H) | (simp only [EY] at H ⊢;exact H)
 have aMD : (IntKind.i64.wrap (a1 * aJ)) = AK:=(bE _).trans EY
 by_cases c4 : 0≤(AK)
 ·rw [if_pos c4] at H
  have MW:=eq_true c4;have aAU : decide (0≤(AK)) = true:=decide_eq_true c4;clear c4
  by_cases c5 : (AK)≤(aT.length : Int)
  ·rw [if_pos c5] at H
   have rK:=eq_true c5;have FJ : decide ((AK)≤(aT.length : Int)) = true:=decide_eq_true c5;clear c5;replace H:=Option.bind_eq_some_iff.mp H;obtain ⟨SM,A60,H⟩:=H;replace H : (some (a1,aJ,SM)) = some (r1,r2,r3):=H;have A6:=aA.mk A60;clear A60;simp only [Option.some.injEq,Prod.mk.injEq] at H;obtain ⟨rfl,rfl,rfl⟩:=H;go_enter Try.func52,Try.ntmps52
   try go_wp2_with (first | ((with_reducible refine bH (N:=2) rfl ?_);refine lK (N:=2) (cs:=#[.int .i64 aN,.int .i64 aJ,.slice bL aT.length bK]) (t:=24) ?_;intro aAD hg w7 hbox hb;have wG:=aA.mk (hbox);have aZI:=aA.mk (eW hg (cG HB) : w.heap.size≤aAD);have VL:=aA.mk (eW hg (cG HB) : w.heap.size≤aAD);replace HB:=aA.mk (aQ (cG HB) hb);clear hb hbox hg) | ((with_reducible refine bH (N:=4) rfl ?_);refine lK (N:=4) (cs:=#[.int .i64 0,.int .i64 0,.slice none 0 0]) (t:=24) ?_;intro vV hg w8 hbox hb;have zM:=aA.mk (hbox);have aZH:=aA.mk (eW hg (cE HB VL) : w.heap.size≤vV);have aJj:=aA.mk (eW hg (cE HB VL) : w.heap.size≤vV);replace HB:=aA.mk (aQ (cE HB VL) hb);have jS:=aA.mk (wJ hg (cH wG));have LD:=aA.mk (wK hg (cH wG));replace wG:=aA.mk (aM (cH wG) hb);clear hb hbox hg))
   replace wG:=aA.mk (aH wG.out);replace zM:=aA.mk (aH zM.out);replace HB:=aA.mk (dT HB.out);obtain ⟨bAA,aME,_,aMo,_⟩:=info_parts yS;obtain ⟨aWS,aQG,aQF⟩:=SV (P:=Try.prog) (Value.int .u8) 0 22 5 .i64 Try.underlying22 aME aMo bL bK aT (AK) (of_decide_eq_true mK) (of_decide_eq_true mK) eS.out;have aMZ:=aA.mk (Kd.aCN (h1:=fun _ => rfl) (aQG _ (Kd.ET eP.out)));have aRV:=aA.mk aQF;clear aQG aQF aME aMo;refine sG (n:=13) (S:=fun w' => w'.cell? ⟨aAD,0,none⟩ = some (.int .i64 aN)∧w'.cell? ⟨aAD,1,none⟩ = some (.int .i64 aJ)∧w'.cell? ⟨aAD,2,none⟩ = some (.slice bL aT.length bK)) (ds:=[]) #[false,false,false,false,false,false,false,false,false,false,false,false,false] (by kernel_rfl) rfl rfl ⟨(aY wG.out 0).trans rfl,(aY wG.out 1).trans rfl,(aY wG.out 2).trans rfl⟩ (fun hHeld => ?_);refine kL dB.aVX dB.aRC (fun HT_ HW_ => ?_);generalize w8.drew = w9 at wG zM HB aMZ hHeld ⊢;refine bY (i:=0) (N:=some 5) (v:=?_) (a':=?_) (eH 13 1) rfl rfl (bS HT_.out (by kernel_rfl)) (fun _ _ _ h => h) (Or.inl ⟨by rfl,?_⟩) ?_ ?_;rotate_left
   ·intro w'
    go_simp;(with_reducible rfl)
   rotate_left
   ·simp only [Act.put,cO,cL,cP,bE,bJ]
    rfl
   refine bY (i:=1) (N:=some 6) (v:=?_) (a':=?_) (eH 13 3) rfl rfl (bS HT_.out (by kernel_rfl)) (fun _ _ _ h => h) (Or.inl ⟨by rfl,?_⟩) ?_ ?_;rotate_left
   ·intro w'
    go_simp;(with_reducible rfl)
   rotate_left
   ·simp only [Act.put,cO,cL,cP,bE,bJ]
    rfl
   refine bY (i:=3) (N:=some 8) (v:=?_) (a':=?_) (eH 13 11) rfl rfl (bS HT_.out (by kernel_rfl)) (fun _ _ _ h => h) (Or.inl ⟨by rfl,?_⟩) ?_ ?_;rotate_left
   ·intro w'
    go_simp;(with_reducible rfl)
   rotate_left
   ·simp only [Act.put,cO,cL,cP,bE,bJ]
    rfl
   refine bY (i:=5) (N:=some 10) (v:=?_) (a':=?_) (eH 13 43) rfl rfl (bS HT_.out (by kernel_rfl)) (fun _ _ _ h => h) (Or.inl ⟨by rfl,?_⟩) ?_ ?_;rotate_left
   ·intro w'
    go_simp;(with_reducible rfl)
   rotate_left
   ·simp only [Act.put,cO,cL,cP,bE,bJ]
    rfl
   refine bY (i:=6) (N:=some 11) (v:=?_) (a':=?_) (eH 13 107) rfl rfl (bS HT_.out (by kernel_rfl)) (fun _ _ _ h => h) (Or.inl ⟨by rfl,?_⟩) ?_ ?_;rotate_left
   ·intro w'
    go_simp;(with_reducible rfl)
   rotate_left
   ·simp only [Act.put,cO,cL,cP,bE,bJ]
    rfl
   refine gP (i:=2) (N:=some 7) (v:=?_) (a':=?_) (eH 13 111) rfl rfl (dM HT_.out HW_.out (by kernel_rfl)) (fun _ _ _ h => h) (Or.inl ⟨by rfl,?_⟩) hHeld ?_ ?_;rotate_left
   ·rintro w' ⟨s0,s1,s2⟩
    go_simp;(with_reducible rfl)
   rotate_left
   ·simp only [Act.put,cO,cL,cP,bE,bJ]
    rfl
   refine gP (i:=4) (N:=some 9) (v:=?_) (a':=?_) (eH 13 127) rfl rfl (dM HT_.out HW_.out (by kernel_rfl)) (fun _ _ _ h => h) (Or.inl ⟨by rfl,?_⟩) hHeld ?_ ?_;rotate_left
   ·rintro w' ⟨s0,s1,s2⟩
    go_simp;(with_reducible rfl)
   rotate_left
   ·simp only [Act.put,cO,cL,cP,bE,bJ]
    rfl
   refine gP (i:=7) (N:=some 12) (v:=?_) (a':=?_) (eH 13 255) rfl rfl (dM HT_.out HW_.out (by kernel_rfl)) (fun _ _ _ h => h) (Or.inl ⟨by rfl,?_⟩) hHeld ?_ ?_;rotate_left
   ·rintro w' ⟨s0,s1,s2⟩
    go_simp;(with_reducible rfl)
   rotate_left
   ·simp only [Act.put,cO,cL,cP,bE,bJ]
    rfl
   refine bY (i:=8) (N:=some 13) (v:=?_) (a':=?_) (eH 13 511) rfl rfl (bS HT_.out (by kernel_rfl)) (fun _ _ _ h => h) (Or.inl ⟨by rfl,?_⟩) ?_ ?_;rotate_left
   ·intro w'
    go_simp;(with_reducible rfl)
   rotate_left
   ·simp only [Act.put,cO,cL,cP,bE,bJ]
    rfl
   refine bY (i:=9) (N:=some 14) (v:=?_) (a':=?_) (eH 13 1023) rfl rfl (bS HT_.out (by kernel_rfl)) (fun _ _ _ h => h) (Or.inl ⟨by rfl,?_⟩) ?_ ?_;rotate_left
   ·intro w'
    go_simp;(with_reducible rfl)
   rotate_left
   ·simp only [Act.put,cO,cL,cP,bE,bJ]
    rfl
   refine DS (i:=10) (N:=some 15) (eH 13 2047) rfl rfl (jO HT_.out (by kernel_rfl)) (by decide) (fun K hK => ?_);refine BR Try.func41 (by kernel_rfl) rfl #[.slice bL (aT.take ((AK) : Int).toNat).length bK] (by rfl) rfl rfl (by (try simp only [List.map_toArray,List.map_cons,List.map_nil]);first | done | (rw [show (aT.take ((AK) : Int).toNat).length = (AK).toNat from (by rw [List.length_take];have h_ : ((AK) : Int)≤(aT.length : Int):=of_decide_eq_true mK;omega)] <;> rfl) | (simp only [EY];rfl) | rfl | (simp only [List.length_drop,List.length_take];rfl)) ?_
   with_reducible refine (dP.calls _ _ (aT.take ((AK) : Int).toNat) SM _ ?side1 ?side2 A6.out).mono ?_
   (case side1 => exact pZ (Kd.cV aMZ.out HB.out))
   (case side2 => exact aRV.out);rintro e w11 ⟨bAl,rfl,ho0,hb⟩;refine ⟨_,rfl,?_⟩;have aNd:=aA.mk (Kd.dS ho0 (bU (cR HB VL aJj)));replace wG:=aA.mk (aM (cH wG) hb);replace zM:=aA.mk (aM (cH zM) hb);replace HB:=aA.mk (aQ (cR HB VL aJj) hb);(try clear hb);(try clear hb2);(try clear hk);(try clear hi);(try clear ho0);obtain ⟨aSC,aRe,eo12⟩:=Kd.cM aNd.out
   (first | subst eo12 | (injection eo12 with f1_ f2_ f3_;have f4_:=f1_.symm;have f5_:=f3_.symm;clear f1_ f2_ f3_;subst f4_;subst f5_));refine hK.out _ _ ⟨(aY wG.out 0).trans rfl,(aY wG.out 1).trans rfl,(aY wG.out 2).trans rfl⟩ (fun hHeld => ?_);clear hK K;refine qM (a':=?_) ?_ ?_;rotate_left
   ·show Act.put _ (some 15) _ = _
    simp only [Act.put,cO,cL,cP,bE,bJ];rfl
   refine bY (i:=11) (N:=some 16) (v:=?_) (a':=?_) (eH 13 4095) rfl rfl (bS HT_.out (by kernel_rfl)) (fun _ _ _ h => h) (Or.inl ⟨by rfl,?_⟩) ?_ ?_;rotate_left
   ·intro w'
    go_simp;(with_reducible rfl)
   rotate_left
   ·simp only [Act.put,cO,cL,cP,bE,bJ]
    rfl
   refine DS (i:=12) (N:=none) (eH 13 8191) rfl rfl (jO HT_.out (by kernel_rfl)) (by decide) (fun K hK => ?_);have hs13:=bO zM 0 (.int .i64 0) rfl;have hfs13:=aC zM.out 0;have hns13_0:=jS.out;have hms13_0:=LD.out;have hs14:=bO zM 1 (.int .i64 0) rfl;have hfs14:=aC zM.out 1;have hns14_0:=jS.out;have hms14_0:=LD.out;have hs15:=bO zM 2 (.slice none 0 0) rfl;have hfs15:=aC zM.out 2;have hns15_0:=jS.out;have hms15_0:=LD.out;refine LI (w1:=?_) (by rfl) rfl ?_ ?_;rotate_left
   ·go_simp
    rfl
   refine hK.out _ _ ⟨((Go.Proofs.aG.aX.cell_far (p:=⟨vV,_,none⟩) jS.out _).trans (((Go.Proofs.aG.aX.cell_far (p:=⟨vV,_,none⟩) jS.out _).trans (((Go.Proofs.aG.aX.cell_far (p:=⟨vV,_,none⟩) jS.out _).trans (hHeld.1)))))),((Go.Proofs.aG.aX.cell_far (p:=⟨vV,_,none⟩) jS.out _).trans (((Go.Proofs.aG.aX.cell_far (p:=⟨vV,_,none⟩) jS.out _).trans (((Go.Proofs.aG.aX.cell_far (p:=⟨vV,_,none⟩) jS.out _).trans (hHeld.2.1)))))),((Go.Proofs.aG.aX.cell_far (p:=⟨vV,_,none⟩) jS.out _).trans (((Go.Proofs.aG.aX.cell_far (p:=⟨vV,_,none⟩) jS.out _).trans (((Go.Proofs.aG.aX.cell_far (p:=⟨vV,_,none⟩) jS.out _).trans (hHeld.2.2))))))⟩ (fun hHeld => ?_);clear hK K;refine yV (rJ HT_.out (by kernel_rfl)) ?_
   try go_wp2
   refine bodyPost_ret (results_cell_row rfl _ _ vV 24 #[.int .i64 a1,.int .i64 aJ,.slice aSC SM.length aRe] (0,0) _ rfl (by (with_reducible repeat first | apply aD | apply aH | apply aE);refine bA (cs:=#[.int .i64 a1,.int .i64 aJ,.slice none 0 0]) ?_ 2 _ rfl;(with_reducible repeat first | apply aD | apply aH | apply aE);refine bA (cs:=#[.int .i64 a1,.int .i64 0,.slice none 0 0]) ?_ 1 _ rfl;(with_reducible repeat first | apply aD | apply aH | apply aE);refine bA (cs:=#[.int .i64 0,.int .i64 0,.slice none 0 0]) ?_ 0 _ rfl;(with_reducible repeat first | apply aD | apply aH | apply aE);exact zM.out) Try.underlying24 rfl (by kernel_rfl)) rfl ?_;exact ⟨_,by first | rfl | (simp [errW_none,errW_some] <;> rfl) | (simp only [← EY];first | rfl | (simp [errW_none,errW_some] <;> rfl)) | (simp [*,errW_none,errW_some] <;> rfl),by (with_reducible repeat first | apply Kd.cK | apply Kd.cJ | apply Kd.cC);exact Kd.cN (Kd.dD (p:=⟨vV,2,none⟩) (Kd.dD (p:=⟨vV,1,none⟩) (Kd.dD (p:=⟨vV,0,none⟩) (Kd.eC aNd.out zM.out (by decide)) (fun _ hk => hk.2) (.int .i64 a1)) (fun _ hk => hk.2) (.int .i64 aJ)) (fun _ hk => hk.2) (.slice aSC SM.length aRe)) (fun _ hk => trivial),cR HB VL aJj⟩
  ·rw [if_neg c5] at H
   exact absurd H (by simp)
 ·rw [if_neg c4] at H
  exact absurd H (by simp)
end Go.Proofs.Yteofcbkjhdadpaa.Pr
