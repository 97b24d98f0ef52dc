import Derived.Test.YteofcbkjhdadpaaCBuildTopsx0
import Derived.Test.YteofcbkjhdadpaaCBuildTopsq
set_option maxHeartbeats 8000000
set_option maxRecDepth 100000
set_option linter.unusedSimpArgs false
set_option linter.unusedVariables false
namespace Go.Proofs.Yteofcbkjhdadpaa.Pr
open Go.RowKit Go.Proofs.aI.bE Go.Proofs.aI.fB Go.Proofs.aI.iS
attribute [local go_sem] kQ kO nK nJ jD jC kP kN   -- for this text's walks alone
mutual
def bA.l0 : Nat→Int→List Int→List Int→Int→Option (List Int)
 | 0,_,_,_,_ => none
 | k + 1,x0,x2,x7,x8 => if x8 < (x7.length : Int) then (if 0≤x8 then (bA.l0 k x0 x2 (x7.set (x8 : Int).toNat x8) (wrap64 (x8 + 1))) else (none)) else (bA.l1 k x0 x2 x7 0)
def bA.l1 : Nat→Int→List Int→List Int→Int→Option (List Int)
 | 0,_,_,_,_ => none
 | k + 1,x0,x2,x7,x9 => if (wrap64 (x9 + 1)) < (x2.length : Int) then (if 0≤x9 then (if x9 < (x2.length : Int) then (if (x7.length : Int) = 0 then (none) else (if 0≤(wrap64 (x9 + 1)) then (if 0≤(Int.tmod (wrap64 (rd x2 (wrap64 (x9 + 1)))) (x7.length : Int)) then (if (Int.tmod (wrap64 (rd x2 (wrap64 (x9 + 1)))) (x7.length : Int)) < (x7.length : Int) then (if 0≤(Int.tmod (wrap64 (rd x2 x9)) (x7.length : Int)) then (if (Int.tmod (wrap64 (rd x2 x9)) (x7.length : Int)) < (x7.length : Int) then (bA.l1 k x0 x2 ((x7.set ((Int.tmod (wrap64 (rd x2 x9)) (x7.length : Int)) : Int).toNat (rd x7 (Int.tmod (wrap64 (rd x2 (wrap64 (x9 + 1)))) (x7.length : Int)))).set ((Int.tmod (wrap64 (rd x2 (wrap64 (x9 + 1)))) (x7.length : Int)) : Int).toNat (rd x7 (Int.tmod (wrap64 (rd x2 x9)) (x7.length : Int)))) (wrap64 (x9 + 2))) else (none)) else (none)) else (none)) else (none)) else (none))) else (none)) else (none)) else (if 0≤x0 then (if x0≤(x7.length : Int) then (some (x7.take (x0 : Int).toNat)) else (none)) else (none))
end
def bA.f (k : Nat) (a0 : Int) (a1 : Int) (l2 : List Int) : Option (List Int):=if 0≤(wrap64 (a0 + a1)) then (if (wrap64 (a0 + a1) : Int).toNat≤35184372088832 then (bA.l0 k a0 l2 (List.replicate (wrap64 (a0 + a1) : Int).toNat 0) 0) else (none)) else (none)
def bA.T9 : Bool×List (List Nat×List Nat):=(true,[([],[]),([],[]),([0,1],[0,1]),([2],[2]),([3],[3]),([],[]),([5],[5]),([4,6],[4,6]),([],[]),([],[]),([9],[9]),([8,10],[8,10]),([11],[11]),([12],[12]),([],[]),([14],[14]),([13,15],[13,15]),([7,0,1,2,3,4,5,6,7],[7]),([16,17,0,1,2,3,4,5,6,7,8,9,10,11,12,13,14,15,16,17],[16])])
def bA.B9 : List Nat:=[0,0,3,7,15,0,32,127,0,0,512,1792,3840,7936,0,16384,65280,255,262143]
theorem bA.bCm : rV .any (opsOf Try.f23 9) = bA.T9:=by kernel_rfl
theorem bA.aYi : mQ bA.T9.2 bA.B9 = true:=by kernel_rfl
def bA.T10 : Bool×List (List Nat×List Nat):=(true,[([],[]),([],[]),([],[]),([],[]),([],[]),([],[]),([4,5],[4,5]),([6],[6]),([],[]),([],[]),([8,9],[8,9]),([10],[10]),([0,1,0,1,4,5,6,7,11],[0,1]),([12,7,0,1,4,5,6,7,11],[7,12]),([2,3,0,1,2,3,4,5,6,7,8,9,10,11,12,13],[2,3]),([14,11,13,0,1,2,3,4,5,6,7,8,9,10,11,12,13],[11,14])])
def bA.B10 : List Nat:=[0,0,0,0,0,0,48,112,0,0,768,1792,4083,8179,16383,32767]
theorem bA.aKE : rV .any (opsOf Try.f23 10) = bA.T10:=by kernel_rfl
theorem bA.aFZ : mQ bA.T10.2 bA.B10 = true:=by kernel_rfl
theorem bA.calls (k : Nat) (a0 : Int) (a1 : Int) (A2 : Option Addr) (c2 : Nat) (l2 : List Int) (r : List Int) (w : World) (hr2 : Kd.C (Kd.int .u8) w A2 l2.length l2) (hc2 : l2.length≤c2) (h : bA.f k a0 a1 l2 = some r) :
  Calls Try.prog 23 #[.int .i64 a0,.int .i64 a1,.slice A2 l2.length c2] w fun e w' => ∃ v0_ : Value,e = .returned (v0_)∧Kd.R (Kd.int .i64) 3 w' w.heap.size (fun _ => True) v0_ r∧Below w.heap.size w w':=by
 have NJ:=aA.mk hr2;have HC2:=aA.mk hc2;clear hr2 hc2;have HB:=aA.mk (Below.refl w.heap.size w);have H : (if 0≤(wrap64 (a0 + a1)) then (if (wrap64 (a0 + a1) : Int).toNat≤35184372088832 then (bA.l0 k a0 l2 (List.replicate (wrap64 (a0 + a1) : Int).toNat 0) 0) else (none)) else (none)) = some r:=h;clear h;obtain ⟨XO,aBY⟩ : ∃ j_ : Int,(wrap64 (a0 + a1)) = j_:=⟨_,rfl⟩
 replace H : (if 0≤(XO) then (if (XO : Int).toNat≤35184372088832 then (bA.l0 k a0 l2 (List.replicate (XO : Int).toNat 0) 0) else (none)) else (none)) = some r:=by first | (rw [aBY] at H;exact H) | (simp only [aBY] at H ⊢;exact H)
 have aVm : (IntKind.i64.wrap (a0 + a1)) = XO:=(bG _).trans aBY
 by_cases c5 : 0≤(XO)
 ·rw [if_pos c5] at H
  have IH:=eq_true c5;have aMk : decide (0≤(XO)) = true:=decide_eq_true c5;clear c5
  by_cases c6 : (XO : Int).toNat≤35184372088832
  ·rw [if_pos c6] at H
   have aFQ:=eq_true c6;have aQf : decide ((XO : Int).toNat≤35184372088832) = true:=decide_eq_true c6;clear c6;obtain ⟨y517,hy517⟩ : ∃ y_ : List Int,y_ = (List.replicate (XO : Int).toNat 0):=⟨_,rfl⟩
   replace H : (bA.l0 k a0 l2 y517 0) = some r:=by first | (rw [hy517];with_reducible exact H) | (have H2_:=(Option.bind_some _ _).symm.trans H;rw [hy517];with_reducible exact H2_) | (have H2_:=(Option.bind_some _ _).symm.trans H;with_reducible exact H2_) | with_reducible exact H | (rw [hy517];exact H) | exact H
   have Ny517:=aA.mk hy517;clear hy517;have H':=aA.mk H;clear H;go_enter Try.func23,Try.ntmps23;go_wp2_with (first | ((with_reducible refine bU (N:=15) rfl ?_);refine Kd.YQ (Kd.int .i64) _ 3 rfl (N:=15) rfl 37 _ _ rfl XO rfl rfl Try.underlying37 (.int .i64 0) 8 aLH rfl (by decide) (by omega) 0 (ok:=fun _ => True) (okp:=fun _ => True) rfl (fun _ hk => hk) trivial (of_decide_eq_true pH) (Nat.le_trans (Nat.mul_le_mul_right _ (of_decide_eq_true pH : XO.toNat≤35184372088832)) (by omega)) (Below.refl _ _) (Nat.le_refl _) ?_;intro bCc w7 ho8 hb hg_ hnew_;clear hg_ hnew_;(first | rw [← Ny517.out] at ho8 | (simp only [Int.reduceToNat] at ho8;rw [← Ny517.out] at ho8));have aYx:=aA.mk (Kd.dY ho8 (cD (dN HB)));replace HB:=aA.mk (aM (dN HB) hb);clear hb ho8))
   go_loopg [8] k (fun kq v8 w' => ∃ (WD : List Int) (EL : Int),v8 = .int .i64 EL∧aA (bA.l0 kq a0 l2 WD EL = some r)∧aA (kq≤k)∧aA (Kd.R (Kd.int .i64) 3 w' w.heap.size (fun _ => True) bCc WD)∧aA (Below w.heap.size w w'))
   case atStart => exact ⟨(y517),(0),rT,H',⟨Nat.le_refl _⟩,⟨cN aYx.out⟩,⟨dN HB⟩⟩
   case round =>
    clear H';(try clear c2);(try clear p2);(try clear c5);(try clear IH);(try clear aMk);(try clear c6);(try clear aFQ);(try clear aQf);(try clear p6);obtain ⟨WD,EL,rfl,HA,FP,yF,HB⟩:=hrel
    cases gk with
    | zero => exact absurd HA.out (by simp [bA.l0])
    | succ k1 =>
     have H:=HA.out;clear HA;simp only [bA.l0] at H
     by_cases c9 : EL < (WD.length : Int)
     ·rw [if_pos c9] at H
      have DS : decide (EL < (WD.length : Int)) = true:=decide_eq_true c9;clear c9
      by_cases NF : 0≤EL
      ·rw [if_pos NF] at H
       have aAV : decide (0≤EL) = true:=decide_eq_true NF;clear NF;obtain ⟨y520,hy520⟩ : ∃ y_ : List Int,y_ = (WD.set (EL : Int).toNat EL):=⟨_,rfl⟩
       replace H : (bA.l0 k1 a0 l2 y520 (wrap64 (EL + 1))) = some r:=by first | (rw [hy520];with_reducible exact H) | (have H2_:=(Option.bind_some _ _).symm.trans H;rw [hy520];with_reducible exact H2_) | (have H2_:=(Option.bind_some _ _).symm.trans H;with_reducible exact H2_) | with_reducible exact H | (rw [hy520];exact H) | exact H
       have Ny520:=aA.mk hy520;clear hy520;have H':=aA.mk H;clear H;obtain ⟨aTM,aQc,eo12⟩:=Kd.cZ yF.out;subst eo12;have p11 : 0≤(EL : Int):=of_decide_eq_true pH;have q11 : (EL : Int) < ((WD.length : Int) : Int):=of_decide_eq_true pH;obtain ⟨go11,aTo,eo11,aXx,gl11,cl11,HG11⟩:=Kd.CT yF.out (by omega)
       (first | cases eo11 | (injection eo11 with ea_ en_ ec_;(first | subst ea_ | (injection ea_ with ea_;subst ea_));subst ec_;clear en_));have GB11:=aA.mk aXx;have GG11:=aA.mk HG11;clear aXx gl11 HG11;obtain ⟨hx11_0,hf11_0⟩:=Kd.rQ 0 yF.out (EL : Int) p11 q11;replace p11:=eq_true p11;replace q11:=eq_true q11;have HP13:=Kd.YO yF.out (EL : Int) EL;go_wp2_with (first | ((with_reducible refine AB (t:=3) (p:=25) rfl ?_);refine xN (t:=3) (p:=25) (v:=?vo_w14) (w1:=(wr.setCell ⟨go11,(EL : Int).toNat,none⟩ (.int .i64 EL))) ?hg ?ho ?hn ?hr ?_;(case ho => rfl);(case hg => rfl);(case hn => rfl);(case hr => first | (go_simp;done) | (go_simp;rfl));intro w14 hw;have hg : wr.grownBy w14 (some go11):=(by rw [hw];exact HP13.2);have hp_ : Kd.R (Kd.int .i64) 3 w14 w.heap.size (fun _ => True) (.slice (some ⟨go11,0,none⟩) WD.length aQc) y520:=(by rw [hw,Ny520.out];exact HP13.1);clear HP13;replace yF:=aA.mk (hp_);replace HB:=aA.mk ((by rw [hw];exact cM (HB.out) GB11.out : Below w.heap.size w w14));clear hg hw hp_))
       go_roundg k1
       case measure => have:=FP.out;omega
       case rel => exact ⟨(y520),(wrap64 (EL + 1)),rT,H',⟨by have:=FP.out;omega⟩,⟨cN yF.out⟩,⟨dN HB⟩⟩
      ·rw [if_neg NF] at H
       exact absurd H (by simp)
     ·rw [if_neg c9] at H
      have DS : decide (EL < (WD.length : Int)) = false:=decide_eq_false c9;clear c9;have H':=aA.mk H;clear H;obtain ⟨aTL,aTn,eo15⟩:=Kd.cZ yF.out;subst eo15
      go_wp2
      go_loopg [9] k1 (fun kq v9 w' => ∃ (dD : List Int) (nD : Int),v9 = .int .i64 nD∧aA (bA.l1 kq a0 l2 dD nD = some r)∧aA (kq≤k1)∧aA (Kd.R (Kd.int .i64) 3 w' w.heap.size (fun _ => True) (.slice aTL WD.length aTn) dD)∧aA (Below w.heap.size w w'))
      case atStart => exact ⟨(WD),(0),rT,H',⟨Nat.le_refl _⟩,⟨cN yF.out⟩,⟨dN HB⟩⟩
      case round =>
       clear H';(try clear c1);(try clear p1);(try clear q1);(try clear hx1);(try clear c2);(try clear p2);(try clear c5);(try clear IH);(try clear aMk);(try clear c6);(try clear aFQ);(try clear aQf);(try clear p6);(try clear c9);(try clear DS);(try clear NF);(try clear aAV);(try clear p11);(try clear q11);(try clear hx11);(try clear hf11);(try clear hx11_0);(try clear p11);(try clear p2);(try clear p6);(try clear q11);obtain ⟨dD,nD,rfl,HA,yL,yF,HB⟩:=hrel;have hl7_2:=(Kd.bM yF.out).1;rw [hl7_2] at yF;(try simp only [hl7_2])
       cases gk with
       | zero => exact absurd HA.out (by simp [bA.l1])
       | succ k2 =>
        have H:=HA.out;clear HA;simp only [bA.l1] at H
        by_cases c16 : (wrap64 (nD + 1)) < (l2.length : Int)
        ·rw [if_pos c16] at H
         have aEl : decide ((wrap64 (nD + 1)) < (l2.length : Int)) = true:=decide_eq_true c16;clear c16
         by_cases UK : 0≤nD
         ·rw [if_pos UK] at H
          have aMu : decide (0≤nD) = true:=decide_eq_true UK;clear UK
          by_cases ZG : nD < (l2.length : Int)
          ·rw [if_pos ZG] at H
           have aAU : decide (nD < (l2.length : Int)) = true:=decide_eq_true ZG;clear ZG
           by_cases c19 : (dD.length : Int) = 0
           ·rw [if_pos c19] at H
            exact absurd H (by simp)
           ·rw [if_neg c19] at H
            have aRG : ((dD.length : Int) == 0) = false:=beq_eq_false_iff_ne.mpr c19;have aRF : ((dD.length : Int) != 0) = true:=bne_iff_ne.mpr c19;have bHn : ¬ (dD = []):=fun h_ => c19 (by rw [h_];rfl)
            obtain ⟨PC,aHa⟩ : ∃ j_ : Int,(wrap64 (nD + 1)) = j_:=⟨_,rfl⟩
            replace H : (if 0≤(PC) then (if 0≤(Int.tmod (wrap64 (rd l2 (PC))) (dD.length : Int)) then (if (Int.tmod (wrap64 (rd l2 (PC))) (dD.length : Int)) < (dD.length : Int) then (if 0≤(Int.tmod (wrap64 (rd l2 nD)) (dD.length : Int)) then (if (Int.tmod (wrap64 (rd l2 nD)) (dD.length : Int)) < (dD.length : Int) then (bA.l1 k2 a0 l2 ((dD.set ((Int.tmod (wrap64 (rd l2 nD)) (dD.length : Int)) : Int).toNat (rd dD (Int.tmod (wrap64 (rd l2 (PC))) (dD.length : Int)))).set ((Int.tmod (wrap64 (rd l2 (PC))) (dD.length : Int)) : Int).toNat (rd dD (Int.tmod (wrap64 (rd l2 nD)) (dD.length : Int)))) (wrap64 (nD + 2))) else (none)) else (none)) else (none)) else (none)) else (none)) = some r:=by first | (rw [aHa] at H;exact H) | (simp only [aHa] at H ⊢;exact H)
            (try rw [aHa] at aEl);have bEG : (IntKind.i64.wrap (nD + 1)) = PC:=(bG _).trans aHa
            by_cases EH : 0≤(PC)
            ·rw [if_pos EH] at H
             have MD : decide (0≤(PC)) = true:=decide_eq_true EH;clear EH;obtain ⟨zQ,aRq⟩ : ∃ j_ : Int,(Int.tmod (wrap64 (rd l2 (PC))) (dD.length : Int)) = j_:=⟨_,rfl⟩
             replace H : (if 0≤(zQ) then (if (zQ) < (dD.length : Int) then (if 0≤(Int.tmod (wrap64 (rd l2 nD)) (dD.length : Int)) then (if (Int.tmod (wrap64 (rd l2 nD)) (dD.length : Int)) < (dD.length : Int) then (bA.l1 k2 a0 l2 ((dD.set ((Int.tmod (wrap64 (rd l2 nD)) (dD.length : Int)) : Int).toNat (rd dD (zQ))).set ((zQ) : Int).toNat (rd dD (Int.tmod (wrap64 (rd l2 nD)) (dD.length : Int)))) (wrap64 (nD + 2))) else (none)) else (none)) else (none)) else (none)) = some r:=by first | (rw [aRq] at H;exact H) | (simp only [aRq] at H ⊢;exact H)
             by_cases c23 : 0≤(zQ)
             ·rw [if_pos c23] at H
              have bHm : decide (0≤(zQ)) = true:=decide_eq_true c23;clear c23
              by_cases c24 : (zQ) < (dD.length : Int)
              ·rw [if_pos c24] at H
               have bHl : decide ((zQ) < (dD.length : Int)) = true:=decide_eq_true c24;clear c24;obtain ⟨CO,aRp⟩ : ∃ j_ : Int,(Int.tmod (wrap64 (rd l2 nD)) (dD.length : Int)) = j_:=⟨_,rfl⟩
               replace H : (if 0≤(CO) then (if (CO) < (dD.length : Int) then (bA.l1 k2 a0 l2 ((dD.set ((CO) : Int).toNat (rd dD (zQ))).set ((zQ) : Int).toNat (rd dD (CO))) (wrap64 (nD + 2))) else (none)) else (none)) = some r:=by first | (rw [aRp] at H;exact H) | (simp only [aRp] at H ⊢;exact H)
               by_cases c26 : 0≤(CO)
               ·rw [if_pos c26] at H
                have aHE : decide (0≤(CO)) = true:=decide_eq_true c26;clear c26
                by_cases c27 : (CO) < (dD.length : Int)
                ·rw [if_pos c27] at H
                 have bHk : decide ((CO) < (dD.length : Int)) = true:=decide_eq_true c27;clear c27;obtain ⟨y525,hy525⟩ : ∃ y_ : List Int,y_ = (dD.set ((CO) : Int).toNat (rd dD (zQ))):=⟨_,rfl⟩
                 replace H : (bA.l1 k2 a0 l2 (y525.set ((zQ) : Int).toNat (rd dD (CO))) (wrap64 (nD + 2))) = some r:=by first | (rw [hy525];with_reducible exact H) | (have H2_:=(Option.bind_some _ _).symm.trans H;rw [hy525];with_reducible exact H2_) | (have H2_:=(Option.bind_some _ _).symm.trans H;with_reducible exact H2_) | with_reducible exact H | (rw [hy525];exact H) | exact H
                 have Ny525:=aA.mk hy525;clear hy525;obtain ⟨y526,hy526⟩ : ∃ y_ : List Int,y_ = (y525.set ((zQ) : Int).toNat (rd dD (CO))):=⟨_,rfl⟩
                 replace H : (bA.l1 k2 a0 l2 y526 (wrap64 (nD + 2))) = some r:=by first | (rw [hy526];with_reducible exact H) | (have H2_:=(Option.bind_some _ _).symm.trans H;rw [hy526];with_reducible exact H2_) | (have H2_:=(Option.bind_some _ _).symm.trans H;with_reducible exact H2_) | with_reducible exact H | (rw [hy526];exact H) | exact H
                 have Ny526:=aA.mk hy526;clear hy526;have H':=aA.mk H;clear H
                 try go_wp2
                 replace yF:=aA.mk (Kd.bQ yF.out);replace HB:=aA.mk (dO HB.out);have aSJ : 0≤(nD : Int):=of_decide_eq_true pH;have q521 : nD < (l2.length : Int):=of_decide_eq_true pH;obtain ⟨ad521,e521,hx521_0⟩:=Kd.rG NJ.out nD aSJ q521;have aGZ:=hx521_0
                 cases e521
                 replace hx521_0:=(HB.out.cell (World.block_lt_of_cell? w _ hx521_0)).trans hx521_0;replace aSJ:=eq_true aSJ;replace q521:=eq_true q521;have aSI : 0≤((PC) : Int):=of_decide_eq_true pH;have q522 : (PC) < (l2.length : Int):=of_decide_eq_true pH;obtain ⟨ad522,e522,hx522_0⟩:=Kd.rG NJ.out (PC) aSI q522;have aGY:=hx522_0;obtain rfl : ad521 = ad522:=(by injection e522)
                 replace hx522_0:=(HB.out.cell (World.block_lt_of_cell? w _ hx522_0)).trans hx522_0;replace aSI:=eq_true aSI;replace q522:=eq_true q522;refine qR (n:=19) (S:=fun w' => w'.cell? (ad521.add (nD).toNat) = some (.int .u8 (rd l2 nD))∧w'.cell? (ad521.add ((PC)).toNat) = some (.int .u8 (rd l2 (PC)))) (ds:=[]) #[false,false,false,false,false,false,false,false,false,false,false,false,false,false,false,false,false,false,false] (by kernel_rfl) rfl rfl ⟨((HB.out.cell (World.block_lt_of_cell? w _ aGZ)).trans aGZ),((HB.out.cell (World.block_lt_of_cell? w _ aGY)).trans aGY)⟩ (fun hHeld => ?_);refine jO bA.bCm bA.aYi (fun HT_ HW_ => ?_);generalize wr.drew = w30 at yF HB hx521_0 hx522_0 hHeld ⊢;refine cB (i:=0) (N:=some 33) (v:=?_) (a':=?_) (eE 19 1) rfl rfl (bK HT_.out (by kernel_rfl)) (fun _ _ _ h => h) (Or.inl ⟨by rfl,?_⟩) ?_ ?_;rotate_left
                 ·intro w'
                  go_simp;(with_reducible rfl)
                 rotate_left
                 ·simp only [Act.put,cV,cT,cW,bG,bH]
                  rfl
                 refine cB (i:=1) (N:=some 34) (v:=?_) (a':=?_) (eE 19 3) rfl rfl (bK HT_.out (by kernel_rfl)) (fun _ _ _ h => h) (Or.inl ⟨by rfl,?_⟩) ?_ ?_;rotate_left
                 ·intro w'
                  go_simp;(with_reducible rfl)
                 rotate_left
                 ·simp only [Act.put,cV,cT,cW,bG,bH]
                  rfl
                 refine cB (i:=2) (N:=some 35) (v:=?_) (a':=?_) (eE 19 7) rfl rfl (bK HT_.out (by kernel_rfl)) (fun _ _ _ h => h) (Or.inl ⟨by rfl,?_⟩) ?_ ?_;rotate_left
                 ·intro w'
                  go_simp;(with_reducible rfl)
                 rotate_left
                 ·simp only [Act.put,cV,cT,cW,bG,bH]
                  rfl
                 refine cB (i:=5) (N:=some 38) (v:=?_) (a':=?_) (eE 19 39) rfl rfl (bK HT_.out (by kernel_rfl)) (fun _ _ _ h => h) (Or.inl ⟨by rfl,?_⟩) ?_ ?_;rotate_left
                 ·intro w'
                  go_simp;(with_reducible rfl)
                 rotate_left
                 ·simp only [Act.put,cV,cT,cW,bG,bH]
                  rfl
                 refine cB (i:=6) (N:=some 39) (v:=?_) (a':=?_) (eE 19 103) rfl rfl (bK HT_.out (by kernel_rfl)) (fun _ _ _ h => h) (Or.inl ⟨by rfl,?_⟩) ?_ ?_;rotate_left
                 ·intro w'
                  go_simp;(with_reducible rfl)
                 rotate_left
                 ·simp only [Act.put,cV,cT,cW,bG,bH]
                  rfl
                 refine cB (i:=8) (N:=some 41) (v:=?_) (a':=?_) (eE 19 359) rfl rfl (bK HT_.out (by kernel_rfl)) (fun _ _ _ h => h) (Or.inl ⟨by rfl,?_⟩) ?_ ?_;rotate_left
                 ·intro w'
                  go_simp;(with_reducible rfl)
                 rotate_left
                 ·simp only [Act.put,cV,cT,cW,bG,bH]
                  rfl
                 refine cB (i:=9) (N:=some 42) (v:=?_) (a':=?_) (eE 19 871) rfl rfl (bK HT_.out (by kernel_rfl)) (fun _ _ _ h => h) (Or.inl ⟨by rfl,?_⟩) ?_ ?_;rotate_left
                 ·intro w'
                  go_simp;(with_reducible rfl)
                 rotate_left
                 ·simp only [Act.put,cV,cT,cW,bG,bH]
                  rfl
                 refine cB (i:=10) (N:=some 43) (v:=?_) (a':=?_) (eE 19 1895) rfl rfl (bK HT_.out (by kernel_rfl)) (fun _ _ _ h => h) (Or.inl ⟨by rfl,?_⟩) ?_ ?_;rotate_left
                 ·intro w'
                  go_simp;(with_reducible rfl)
                 rotate_left
                 ·simp only [Act.put,cV,cT,cW,bG,bH]
                  rfl
                 refine cB (i:=11) (N:=some 44) (v:=?_) (a':=?_) (eE 19 3943) rfl rfl (bK HT_.out (by kernel_rfl)) (fun _ _ _ h => h) (Or.inl ⟨by rfl,?_⟩) ?_ ?_;rotate_left
                 ·intro w'
                  go_simp;(with_reducible rfl)
                 rotate_left
                 ·simp only [Act.put,cV,cT,cW,bG,bH]
                  rfl
                 refine cB (i:=14) (N:=some 47) (v:=?_) (a':=?_) (eE 19 20327) rfl rfl (bK HT_.out (by kernel_rfl)) (fun _ _ _ h => h) (Or.inl ⟨by rfl,?_⟩) ?_ ?_;rotate_left
                 ·intro w'
                  go_simp;(with_reducible rfl)
                 rotate_left
                 ·simp only [Act.put,cV,cT,cW,bG,bH]
                  rfl
                 refine cB (i:=15) (N:=some 48) (v:=?_) (a':=?_) (eE 19 53095) rfl rfl (bK HT_.out (by kernel_rfl)) (fun _ _ _ h => h) (Or.inl ⟨by rfl,?_⟩) ?_ ?_;rotate_left
                 ·intro w'
                  go_simp;(with_reducible rfl)
                 rotate_left
                 ·simp only [Act.put,cV,cT,cW,bG,bH]
                  rfl
                 refine hY (i:=3) (N:=some 36) (v:=?_) (a':=?_) (eE 19 53103) rfl rfl (dZ HT_.out HW_.out (by kernel_rfl)) (fun _ _ _ h => h) (Or.inl ⟨by rfl,?_⟩) hHeld ?_ ?_;rotate_left
                 ·rintro w' ⟨s0,s1⟩
                  go_simp;(with_reducible rfl)
                 rotate_left
                 ·simp only [Act.put,cV,cT,cW,bG,bH]
                  rfl
                 refine cB (i:=4) (N:=some 37) (v:=?_) (a':=?_) (eE 19 53119) rfl rfl (bK HT_.out (by kernel_rfl)) (fun _ _ _ h => h) (Or.inl ⟨by rfl,?_⟩) ?_ ?_;rotate_left
                 ·intro w'
                  go_simp;(with_reducible rfl)
                 rotate_left
                 ·simp only [Act.put,cV,cT,cW,bG,bH]
                  rfl
                 refine cB (i:=7) (N:=some 40) (v:=?_) (a':=?_) (eE 19 53247) rfl rfl (bK HT_.out (by kernel_rfl)) (fun _ _ _ h => h) (Or.inl ⟨by rfl,?_⟩) ?_ ?_;rotate_left
                 ·intro w'
                  go_simp;(with_reducible rfl)
                 rotate_left
                 ·simp only [Act.put,cV,cT,cW,bG,bH]
                  rfl
                 refine cB (i:=17) (N:=some 10) (v:=?_) (a':=?_) (eE 19 184319) rfl rfl (bK HT_.out (by kernel_rfl)) (fun _ _ _ h => h) (Or.inl ⟨by rfl,?_⟩) ?_ ?_;rotate_left
                 ·intro w'
                  go_simp;(with_reducible rfl)
                 rotate_left
                 ·simp only [Act.put,cV,cT,cW,bG,bH]
                  rfl
                 refine hY (i:=12) (N:=some 45) (v:=?_) (a':=?_) (eE 19 188415) rfl rfl (dZ HT_.out HW_.out (by kernel_rfl)) (fun _ _ _ h => h) (Or.inl ⟨by rfl,?_⟩) hHeld ?_ ?_;rotate_left
                 ·rintro w' ⟨s0,s1⟩
                  go_simp;(with_reducible rfl)
                 rotate_left
                 ·simp only [Act.put,cV,cT,cW,bG,bH]
                  rfl
                 refine cB (i:=13) (N:=some 46) (v:=?_) (a':=?_) (eE 19 196607) rfl rfl (bK HT_.out (by kernel_rfl)) (fun _ _ _ h => h) (Or.inl ⟨by rfl,?_⟩) ?_ ?_;rotate_left
                 ·intro w'
                  go_simp;(with_reducible rfl)
                 rotate_left
                 ·simp only [Act.put,cV,cT,cW,bG,bH]
                  rfl
                 refine cB (i:=16) (N:=some 49) (v:=?_) (a':=?_) (eE 19 262143) rfl rfl (bK HT_.out (by kernel_rfl)) (fun _ _ _ h => h) (Or.inl ⟨by rfl,?_⟩) ?_ ?_;rotate_left
                 ·intro w'
                  go_simp;(with_reducible rfl)
                 rotate_left
                 ·simp only [Act.put,cV,cT,cW,bG,bH]
                  rfl
                 refine cB (i:=18) (N:=some 11) (v:=?_) (a':=?_) (eE 19 524287) rfl rfl (bK HT_.out (by kernel_rfl)) (fun _ _ _ h => h) (Or.inl ⟨by rfl,?_⟩) ?_ ?_;rotate_left
                 ·intro w'
                  go_simp;(with_reducible rfl)
                 rotate_left
                 ·simp only [Act.put,cV,cT,cW,bG,bH]
                  rfl
                 refine vY (oG HT_.out (by kernel_rfl)) ?_
                 try go_wp2
                 replace yF:=aA.mk (Kd.bQ yF.out);replace HB:=aA.mk (dO HB.out);have aSH : 0≤((zQ) : Int):=of_decide_eq_true pH;have q523 : (zQ) < (dD.length : Int):=of_decide_eq_true pH;obtain ⟨ad523,e523,hx523_0⟩:=Kd.rG (Kd.bM yF.out).2.2 (zQ) aSH q523
                 cases e523
                 replace aSH:=eq_true aSH;replace q523:=eq_true q523;have aSG : 0≤((CO) : Int):=of_decide_eq_true pH;have q524 : (CO) < (dD.length : Int):=of_decide_eq_true pH;obtain ⟨ad524,e524,hx524_0⟩:=Kd.rG (Kd.bM yF.out).2.2 (CO) aSG q524;obtain rfl : ad523 = ad524:=(by injection e524)
                 replace aSG:=eq_true aSG;replace q524:=eq_true q524;have p28 : 0≤((CO) : Int):=of_decide_eq_true pH;have q28 : ((CO) : Int) < ((dD.length : Int) : Int):=of_decide_eq_true pH;obtain ⟨go28,gV,eo28,aXt,gl28,cl28,HG28⟩:=Kd.CT yF.out (by omega)
                 (first | cases eo28 | (injection eo28 with ea_ en_ ec_;(first | subst ea_ | (injection ea_ with ea_;subst ea_));subst ec_;clear en_));have GB28:=aA.mk aXt;have GG28:=aA.mk HG28;clear aXt gl28 HG28
                 (first | simp only [add_plain] at hx523_0 | skip)
                 (first | simp only [add_plain] at hx524_0 | skip);obtain ⟨hx28_0,hf28_0⟩:=Kd.rQ 0 yF.out ((CO) : Int) p28 q28;replace p28:=eq_true p28;replace q28:=eq_true q28;have HP32:=Kd.NH yF.out ((CO) : Int) (rd dD (zQ));rw [← Ny525.out] at HP32;have HQ32:=aA.mk HP32;clear HP32;have p29 : 0≤((zQ) : Int):=of_decide_eq_true pH;have q29 : ((zQ) : Int) < ((dD.length : Int) : Int):=of_decide_eq_true pH;obtain ⟨hx29_0,hf29_0⟩:=Kd.rQ 0 HQ32.out ((zQ) : Int) p29 q29;replace p29:=eq_true p29;replace q29:=eq_true q29;have HP33:=Kd.NH HQ32.out ((zQ) : Int) (rd dD (CO));rw [← Ny526.out] at HP33;have HQ33:=aA.mk HP33;clear HP33;refine qR (n:=16) (S:=fun w' => w'.cell? ⟨go28,((zQ)).toNat,none⟩ = some (.int .i64 (rd dD (zQ)))∧w'.cell? ⟨go28,((CO)).toNat,none⟩ = some (.int .i64 (rd dD (CO)))) (ds:=[13,15]) #[false,false,false,false,false,false,false,false,false,false,false,false,false,false,false,false] (by kernel_rfl) rfl rfl ⟨hx523_0,hx524_0⟩ (fun hHeld => ?_);refine jO bA.aKE bA.aFZ (fun HT_ HW_ => ?_);generalize w30.drew = w31 at yF HB GG28 HQ32 HQ33 hf28_0 hf29_0 hx28_0 hx29_0 hx523_0 hx524_0 hHeld ⊢;refine cB (i:=0) (N:=some 50) (v:=?_) (a':=?_) (eE 16 1) rfl rfl (bK HT_.out (by kernel_rfl)) (fun _ _ _ h => h) (Or.inl ⟨by rfl,?_⟩) ?_ ?_;rotate_left
                 ·intro w'
                  go_simp;(with_reducible rfl)
                 rotate_left
                 ·simp only [Act.put,cV,cT,cW,bG,bH]
                  rfl
                 refine cB (i:=1) (N:=some 51) (v:=?_) (a':=?_) (eE 16 3) rfl rfl (bK HT_.out (by kernel_rfl)) (fun _ _ _ h => h) (Or.inl ⟨by rfl,?_⟩) ?_ ?_;rotate_left
                 ·intro w'
                  go_simp;(with_reducible rfl)
                 rotate_left
                 ·simp only [Act.put,cV,cT,cW,bG,bH]
                  rfl
                 refine cB (i:=2) (N:=some 52) (v:=?_) (a':=?_) (eE 16 7) rfl rfl (bK HT_.out (by kernel_rfl)) (fun _ _ _ h => h) (Or.inl ⟨by rfl,?_⟩) ?_ ?_;rotate_left
                 ·intro w'
                  go_simp;(with_reducible rfl)
                 rotate_left
                 ·simp only [Act.put,cV,cT,cW,bG,bH]
                  rfl
                 refine cB (i:=3) (N:=some 53) (v:=?_) (a':=?_) (eE 16 15) rfl rfl (bK HT_.out (by kernel_rfl)) (fun _ _ _ h => h) (Or.inl ⟨by rfl,?_⟩) ?_ ?_;rotate_left
                 ·intro w'
                  go_simp;(with_reducible rfl)
                 rotate_left
                 ·simp only [Act.put,cV,cT,cW,bG,bH]
                  rfl
                 refine cB (i:=4) (N:=some 54) (v:=?_) (a':=?_) (eE 16 31) rfl rfl (bK HT_.out (by kernel_rfl)) (fun _ _ _ h => h) (Or.inl ⟨by rfl,?_⟩) ?_ ?_;rotate_left
                 ·intro w'
                  go_simp;(with_reducible rfl)
                 rotate_left
                 ·simp only [Act.put,cV,cT,cW,bG,bH]
                  rfl
                 refine cB (i:=5) (N:=some 55) (v:=?_) (a':=?_) (eE 16 63) rfl rfl (bK HT_.out (by kernel_rfl)) (fun _ _ _ h => h) (Or.inl ⟨by rfl,?_⟩) ?_ ?_;rotate_left
                 ·intro w'
                  go_simp;(with_reducible rfl)
                 rotate_left
                 ·simp only [Act.put,cV,cT,cW,bG,bH]
                  rfl
                 refine cB (i:=6) (N:=some 56) (v:=?_) (a':=?_) (eE 16 127) rfl rfl (bK HT_.out (by kernel_rfl)) (fun _ _ _ h => h) (Or.inl ⟨by rfl,?_⟩) ?_ ?_;rotate_left
                 ·intro w'
                  go_simp;(with_reducible rfl)
                 rotate_left
                 ·simp only [Act.put,cV,cT,cW,bG,bH]
                  rfl
                 refine cB (i:=8) (N:=some 58) (v:=?_) (a':=?_) (eE 16 383) rfl rfl (bK HT_.out (by kernel_rfl)) (fun _ _ _ h => h) (Or.inl ⟨by rfl,?_⟩) ?_ ?_;rotate_left
                 ·intro w'
                  go_simp;(with_reducible rfl)
                 rotate_left
                 ·simp only [Act.put,cV,cT,cW,bG,bH]
                  rfl
                 refine cB (i:=9) (N:=some 59) (v:=?_) (a':=?_) (eE 16 895) rfl rfl (bK HT_.out (by kernel_rfl)) (fun _ _ _ h => h) (Or.inl ⟨by rfl,?_⟩) ?_ ?_;rotate_left
                 ·intro w'
                  go_simp;(with_reducible rfl)
                 rotate_left
                 ·simp only [Act.put,cV,cT,cW,bG,bH]
                  rfl
                 refine cB (i:=10) (N:=some 60) (v:=?_) (a':=?_) (eE 16 1919) rfl rfl (bK HT_.out (by kernel_rfl)) (fun _ _ _ h => h) (Or.inl ⟨by rfl,?_⟩) ?_ ?_;rotate_left
                 ·intro w'
                  go_simp;(with_reducible rfl)
                 rotate_left
                 ·simp only [Act.put,cV,cT,cW,bG,bH]
                  rfl
                 refine hY (i:=7) (N:=some 57) (v:=?_) (a':=?_) (eE 16 2047) rfl rfl (dZ HT_.out HW_.out (by kernel_rfl)) (fun _ _ _ h => h) (Or.inl ⟨by rfl,?_⟩) hHeld ?_ ?_;rotate_left
                 ·rintro w' ⟨s0,s1⟩
                  go_simp;(with_reducible rfl)
                 rotate_left
                 ·simp only [Act.put,cV,cT,cW,bG,bH]
                  rfl
                 refine hY (i:=11) (N:=some 61) (v:=?_) (a':=?_) (eE 16 4095) rfl rfl (dZ HT_.out HW_.out (by kernel_rfl)) (fun _ _ _ h => h) (Or.inl ⟨by rfl,?_⟩) hHeld ?_ ?_;rotate_left
                 ·rintro w' ⟨s0,s1⟩
                  go_simp;(with_reducible rfl)
                 rotate_left
                 ·simp only [Act.put,cV,cT,cW,bG,bH]
                  rfl
                 refine cB (i:=12) (N:=some 62) (v:=?_) (a':=?_) (eE 16 8191) rfl rfl (bK HT_.out (by kernel_rfl)) (fun _ _ _ h => h) (Or.inl ⟨by rfl,?_⟩) ?_ ?_;rotate_left
                 ·intro w'
                  go_simp;(with_reducible rfl)
                 rotate_left
                 ·simp only [Act.put,cV,cT,cW,bG,bH]
                  rfl
                 refine OZ (i:=13) (N:=none) (eE 16 16383) rfl rfl (iU HT_.out (by kernel_rfl)) (by decide) (fun K hK => ?_);refine GN (w1:=?_) (by rfl) rfl ?_ ?_;rotate_left
                 ·go_simp
                  rfl
                 refine hK.out _ _ ?_;clear hK K;refine cB (i:=14) (N:=some 63) (v:=?_) (a':=?_) (eE 16 32767) rfl rfl (bK HT_.out (by kernel_rfl)) (fun _ _ _ h => h) (Or.inl ⟨by rfl,?_⟩) ?_ ?_;rotate_left
                 ·intro w'
                  go_simp;(with_reducible rfl)
                 rotate_left
                 ·simp only [Act.put,cV,cT,cW,bG,bH]
                  rfl
                 refine OZ (i:=15) (N:=none) (eE 16 65535) rfl rfl (iU HT_.out (by kernel_rfl)) (by decide) (fun K hK => ?_);refine GN (w1:=?_) (by rfl) rfl ?_ ?_;rotate_left
                 ·go_simp
                  rfl
                 refine hK.out _ _ ?_;clear hK K;refine vY (oG HT_.out (by kernel_rfl)) ?_
                 try go_wp2
                 (try simp only [← hl7_2])
                 go_roundg k2
                 case measure => have:=FP.out;have:=yL.out;omega
                 case rel => exact ⟨(y526),(wrap64 (nD + 2)),rT,H',⟨by have:=FP.out;have:=yL.out;omega⟩,⟨by (try simp only [hl7_2]);(with_reducible repeat first | apply Kd.bX | apply Kd.bW | apply Kd.bQ);exact HQ33.out⟩,⟨eA HB GB28 GB28⟩⟩
                ·rw [if_neg c27] at H
                 exact absurd H (by simp)
               ·rw [if_neg c26] at H
                exact absurd H (by simp)
              ·rw [if_neg c24] at H
               exact absurd H (by simp)
             ·rw [if_neg c23] at H
              exact absurd H (by simp)
            ·rw [if_neg EH] at H
             exact absurd H (by simp)
          ·rw [if_neg ZG] at H
           exact absurd H (by simp)
         ·rw [if_neg UK] at H
          exact absurd H (by simp)
        ·rw [if_neg c16] at H
         have aEl : decide ((wrap64 (nD + 1)) < (l2.length : Int)) = false:=decide_eq_false c16;clear c16
         by_cases c34 : 0≤a0
         ·rw [if_pos c34] at H
          have bHj:=eq_true c34;have bHi : decide (0≤a0) = true:=decide_eq_true c34;clear c34
          by_cases ZD : a0≤(dD.length : Int)
          ·rw [if_pos ZD] at H
           have aAS:=eq_true ZD;have aMq : decide (a0≤(dD.length : Int)) = true:=decide_eq_true ZD;clear ZD;obtain ⟨y527,hy527⟩ : ∃ y_ : List Int,y_ = (dD.take (a0 : Int).toNat):=⟨_,rfl⟩
           replace H : (some y527) = some r:=by first | (rw [hy527];with_reducible exact H) | (have H2_:=(Option.bind_some _ _).symm.trans H;rw [hy527];with_reducible exact H2_) | (have H2_:=(Option.bind_some _ _).symm.trans H;with_reducible exact H2_) | with_reducible exact H | (rw [hy527];exact H) | exact H
           have Ny527:=aA.mk hy527;clear hy527;obtain rfl:=Option.some.inj H;have q36 : (a0 : Int)≤((dD.length : Int) : Int):=of_decide_eq_true pH;obtain ⟨bIS,aRr,_,aUt,_⟩:=info_parts aLH;have aTb:=aTj (P:=Try.prog) 37 3 .i64 Try.underlying37 aRr aTL dD.length aTn a0 (of_decide_eq_true pH) q36 (Kd.bM yF.out).2.1;have hr36:=Kd.aGe (m:=(a0 : Int).toNat) yF.out (by omega);have hy36 : y527.length = (a0 : Int).toNat:=(by rw [Ny527.out,List.length_take];omega)
           rw [← Ny527.out] at hr36;rw [← hy36] at hr36 aTb;clear hy36 aRr aUt yF;have aYw:=aA.mk hr36;clear hr36;replace q36:=eq_true q36
           go_wp2
           go_ret;exact ⟨_,by first | rfl | (simp [jF,jE] <;> rfl) | (simp only [← aBY];first | rfl | (simp [jF,jE] <;> rfl)) | (simp [*,jF,jE] <;> rfl),cN aYw.out,dN HB⟩
          ·rw [if_neg ZD] at H
           exact absurd H (by simp)
         ·rw [if_neg c34] at H
          exact absurd H (by simp)
  ·rw [if_neg c6] at H
   exact absurd H (by simp)
 ·rw [if_neg c5] at H
  exact absurd H (by simp)
end Go.Proofs.Yteofcbkjhdadpaa.Pr
