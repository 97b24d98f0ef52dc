-- Out of the translation,by this session's turn of the print (wip/gp.py).
import Derived.Test.YteofcbkjhdadpaaCBuildFreshx0
import Derived.Test.YteofcbkjhdadpaaCBuildFreshx1
import Derived.Test.YteofcbkjhdadpaaCBuildFreshx6
import Derived.Test.YteofcbkjhdadpaaCBuildFreshq
set_option maxHeartbeats 8000000
set_option maxRecDepth 100000
set_option linter.unusedSimpArgs false
set_option linter.unusedVariables false
namespace Go.Proofs.Yteofcbkjhdadpaa.Pr
open Go.RowKit Go.Proofs.aG.aX Go.Proofs.aG.dI Go.Proofs.aG.eN
attribute [local go_sem] fZ fX gZ gY fD fC fY fW   -- for this text's walks alone
mutual
def aK.j0 : Nat→List Int→List Int→Bool→Option (Int×Int×List Int×Int)
 | 0,_,_,_ => none
 | k + 1,x0,x1,x19 => if x19 = true then (some (0,0,([] : List Int),4)) else ((dP.f x0).bind fun ML => (if ML.length + x1.length < 140737488355328 then (aK.l0 k x0 x1 (ML ++ x1) 0) else (none)))
def aK.l0 : Nat→List Int→List Int→List Int→Int→Option (Int×Int×List Int×Int)
 | 0,_,_,_,_ => none
 | k + 1,x0,x1,x6,x7 => if x7 < (x6.length : Int) then (aK.l1 k x0 x1 x6 x7 0) else ((dF.f (x0.length : Int) (x1.length : Int)).bind fun aIO => (aK.l2 k x0 x1 0 aIO.1 aIO.2.1 aIO.2.2))
def aK.l1 : Nat→List Int→List Int→List Int→Int→Int→Option (Int×Int×List Int×Int)
 | 0,_,_,_,_,_ => none
 | k + 1,x0,x1,x6,x7,x8 => if x8 < x7 then (if 0≤x7 then (if x7 < (x6.length : Int) then (if 0≤x8 then (if x8 < (x6.length : Int) then (if (rd x6 x7) = (rd x6 x8) then (some (0,0,([] : List Int),2)) else (aK.l1 k x0 x1 x6 x7 (wrap64 (x8 + 1)))) else (none)) else (none)) else (none)) else (none)) else (aK.l0 k x0 x1 x6 (wrap64 (x7 + 1)))
def aK.l2 : Nat→List Int→List Int→Int→Int→Int→List Int→Option (Int×Int×List Int×Int)
 | 0,_,_,_,_,_,_ => none
 | k + 1,x0,x1,x10,FV,wS,CP => if x10 < (x0.length : Int) then (aK.l3 k x0 x1 x10 0 FV wS CP) else (some (FV,wS,CP,0))
def aK.l3 : Nat→List Int→List Int→Int→Int→Int→Int→List Int→Option (Int×Int×List Int×Int)
 | 0,_,_,_,_,_,_,_ => none
 | k + 1,x0,x1,x10,ZK,FV,wS,CP => if ZK < (x1.length : Int) then (if 0≤x10 then (if x10 < (x0.length : Int) then (if 0≤ZK then ((eK.f (Go.bits .xor .u8 (rd x0 x10) (rd x1 ZK))).bind fun aRz => (if 0≤(wrap64 ((wrap64 (x10 * wS)) + ZK)) then (if (wrap64 ((wrap64 (x10 * wS)) + ZK)) < (CP.length : Int) then (aK.l3 k x0 x1 x10 (wrap64 (ZK + 1)) FV wS (CP.set ((wrap64 ((wrap64 (x10 * wS)) + ZK)) : Int).toNat aRz.1)) else (none)) else (none))) else (none)) else (none)) else (none)) else (aK.l2 k x0 x1 (wrap64 (x10 + 1)) FV wS CP)
end
def aK.f (k : Nat) (l0 : List Int) (l1 : List Int) : Option (Int×Int×List Int×Int):=if (l0.length : Int) > 64 then (aK.j0 k l0 l1 true) else (aK.j0 k l0 l1 (decide ((l1.length : Int) > 64)))
def aK.T10 : Bool×List (List Nat×List Nat):=(true,[([],[]),([],[]),([0,1],[0,1]),([2],[2]),([],[]),([],[]),([4,5],[4,5]),([6],[6]),([3,7],[3,7])])
def aK.B10 : List Nat:=[0,0,3,7,0,0,48,112,255]
theorem aK.aMi : pI .any (opsOf Try.f12 10) = aK.T10:=by kernel_rfl
theorem aK.aIR : mQ aK.T10.2 aK.B10 = true:=by kernel_rfl
def aK.T19 : Bool×List (List Nat×List Nat):=(true,[([],[]),([0],[0]),([],[]),([],[]),([3],[3]),([2,4],[2,4]),([],[]),([5,6],[5,6]),([],[]),([],[]),([8,9],[8,9]),([10],[10]),([],[]),([],[]),([12,13],[12,13]),([14],[14]),([11,15],[11,15]),([16],[16]),([17],[17]),([18],[18]),([18],[18]),([1,7,0,1,2,3,4,5,6,7,8,9,10,11,12,13,14,15,16,17,18,19],[1,7]),([21,19,17,0,1,2,3,4,5,6,7,8,9,10,11,12,13,14,15,16,17,18,19],[19,21])])
def aK.B19 : List Nat:=[0,1,0,0,8,28,0,124,0,0,768,1792,0,0,12288,28672,65280,130816,261888,524032,524032,1048575,3145727]
theorem aK.aPq : pI .any (opsOf Try.f12 19) = aK.T19:=by kernel_rfl
theorem aK.aOx : mQ aK.T19.2 aK.B19 = true:=by kernel_rfl
theorem aK.calls (k : Nat) (A0 : Option Addr) (c0 : Nat) (l0 : List Int) (A1 : Option Addr) (c1 : Nat) (l1 : List Int) (r1 : Int) (r2 : Int) (r3 : List Int) (r4 : Int) (w : World) (hr0 : Kd.C (Kd.int .u8) w A0 l0.length l0) (hc0 : l0.length≤c0) (hr1 : Kd.C (Kd.int .u8) w A1 l1.length l1) (hc1 : l1.length≤c1) (h : aK.f k l0 l1 = some (r1,r2,r3,r4)) :
  Calls Try.prog 12 #[.slice A0 l0.length c0,.slice A1 l1.length c1] w fun e w' => ∃ pF : Value,e = .returned (.tuple #[.agg #[.int .i64 r1,.int .i64 r2,pF],.int .i64 r4])∧Kd.R (Kd.int .u8) 5 w' w.heap.size (fun _ => True) pF r3∧Below w.heap.size w w':=by
 have wM:=Try.underlying24;have HR0:=aA.mk hr0;have HC0:=aA.mk hc0;clear hr0 hc0;have oA:=aA.mk hr1;have HC1:=aA.mk hc1;clear hr1 hc1;have HB:=aA.mk (Below.refl w.heap.size w);have H : (if (l0.length : Int) > 64 then (aK.j0 k l0 l1 true) else (aK.j0 k l0 l1 (decide ((l1.length : Int) > 64)))) = some (r1,r2,r3,r4):=h;clear h;have HC3:=aA.mk H;clear H;go_enter Try.func12,Try.ntmps12;go_upto_region 1 with (first | ((with_reducible refine bH (N:=4) rfl ?_);(try (refine fG (by rfl) ?_;dsimp only));refine lK (N:=4) (cs:=#[.int .i64 0,.int .i64 0,.slice none 0 0]) (t:=24) ?_;intro yT hg w4 hbox hb;have dX:=aA.mk (hbox);have aZA:=aA.mk (eW hg (cG HB) : w.heap.size≤yT);have oV:=aA.mk (eW hg (cG HB) : w.heap.size≤yT);replace HB:=aA.mk (aQ (cG HB) hb);clear hb hbox hg))
 (try simp only [Act.put,cO,cL,cP])
 go_cut [19] (fun v19 wc => ∃ (kq : Nat) (aCW : Bool),v19 = .bool aCW∧aA (aK.j0 kq l0 l1 aCW = some (r1,r2,r3,r4))∧aA (kq≤k)∧aA (wc.heap[yT]? = some (.cells #[.int .i64 0,.int .i64 0,(.slice none 0 0)] 24 (0,0)))∧aA (Below w.heap.size w wc))
 case first =>
  have H:=HC3.out;clear HC3
  by_cases c5 : (l0.length : Int) > 64
  ·rw [if_pos c5] at H
   have rK : decide (64 < (l0.length : Int)) = true:=decide_eq_true c5;have FJ : decide (64 < l0.length) = true:=decide_eq_true (by omega);clear c5
   (first | rw [rK] | (simp only [bE,bJ];rw [rK]) | rw [FJ] | skip);have H':=aA.mk H;clear H
   go_wp2
   go_meet
   case rel => exact ⟨_,(true),nL,H',⟨q_o⟩,⟨gM dX.out⟩,⟨cE HB oV⟩⟩
  ·rw [if_neg c5] at H
   have rK : decide (64 < (l0.length : Int)) = false:=decide_eq_false c5;have FJ : decide (64 < l0.length) = false:=decide_eq_false (by omega);clear c5
   (first | rw [rK] | (simp only [bE,bJ];rw [rK]) | rw [FJ] | skip);have H':=aA.mk H;clear H
   go_wp2
   go_meet
   case rel => exact ⟨_,(decide ((l1.length : Int) > 64)),nL,H',⟨q_o⟩,⟨gM dX.out⟩,⟨cE HB oV⟩⟩
 case rest =>
  clear HC3;(try clear c1);(try clear p2);(try clear c5);(try clear rK);(try clear FJ);obtain ⟨kq,aCW,rfl,HA,HJ2,dX,HB⟩:=hcut
  cases kq with
  | zero => exact absurd HA.out (by simp [aK.j0])
  | succ kj2 =>
   have H:=HA.out;clear HA;simp only [aK.j0] at H
   by_cases c6 : aCW = true
   ·subst c6
    have H1 : (some (0,0,([] : List Int),4)) = some (r1,r2,r3,r4):=by rw [if_pos rfl] at H;exact H
    clear H;have H:=H1;clear H1;simp only [Option.some.injEq,Prod.mk.injEq] at H;obtain ⟨rfl,rfl,rfl,rfl⟩:=H;have iS:=bO dX 0 (.int .i64 0) rfl;have iR:=bO dX 1 (.int .i64 0) rfl;have iQ:=bO dX 2 (.slice none 0 0) rfl;have iP:=aC dX.out 0;have iO:=aC dX.out 1;have iN:=aC dX.out 2
    go_wp2
    refine bodyPost_ret (dE rfl _ _ yT 24 #[.int .i64 0,.int .i64 0,.slice none 0 0] (0,0) _ rfl (by (with_reducible repeat first | apply aD | apply aH | apply aE);refine bA (cs:=#[.int .i64 0,.int .i64 0,.slice none 0 0]) ?_ 2 _ rfl;(with_reducible repeat first | apply aD | apply aH | apply aE);refine bA (cs:=#[.int .i64 0,.int .i64 0,.slice none 0 0]) ?_ 1 _ rfl;(with_reducible repeat first | apply aD | apply aH | apply aE);refine bA (cs:=#[.int .i64 0,.int .i64 0,.slice none 0 0]) ?_ 0 _ rfl;(with_reducible repeat first | apply aD | apply aH | apply aE);exact dX.out) Try.underlying24 rfl (by kernel_rfl)) rfl ?_;exact ⟨_,uB,MR,cE HB oV⟩
   ·replace c6:=Bool.eq_false_iff.mpr c6
    subst c6;have H1 : ((dP.f l0).bind fun ML => (if ML.length + l1.length < 140737488355328 then (aK.l0 kj2 l0 l1 (ML ++ l1) 0) else (none))) = some (r1,r2,r3,r4):=by rw [if_neg (show ¬ (false = true) by decide)] at H;exact H
    clear H;have H:=H1;clear H1;replace H:=Option.bind_eq_some_iff.mp H;obtain ⟨ML,A80,H⟩:=H;replace H : (if ML.length + l1.length < 140737488355328 then (aK.l0 kj2 l0 l1 (ML ++ l1) 0) else (none)) = some (r1,r2,r3,r4):=H;have A8:=aA.mk A80;clear A80
    by_cases c9 : ML.length + l1.length < 140737488355328
    ·rw [if_pos c9] at H
     have LMc9:=aA.mk c9;clear c9;obtain ⟨y360,hy360⟩ : ∃ y_ : List Int,y_ = (ML ++ l1):=⟨_,rfl⟩
     replace H : (aK.l0 kj2 l0 l1 y360 0) = some (r1,r2,r3,r4):=by first | (rw [hy360];with_reducible exact H) | (have H2_:=(Option.bind_some _ _).symm.trans H;rw [hy360];with_reducible exact H2_) | (have H2_:=(Option.bind_some _ _).symm.trans H;with_reducible exact H2_) | with_reducible exact H | (rw [hy360];exact H) | exact H
     have Ny360:=aA.mk hy360;clear hy360;have H':=aA.mk H;clear H;go_wp2_with (first | ((with_reducible refine bB (f:=41) rfl ?_);refine cS (some 22) rfl rfl Try.func41 (by kernel_rfl) rfl #[.slice A0 l0.length c0] rfl mS ?_;(with_reducible refine (dP.calls _ _ l0 ML _ ?side1 ?side2 A8.out).mono ?_);(case side1 => exact pZ (Kd.cV HR0.out HB.out));(case side2 => exact HC0.out);rintro e w10 ⟨aVO,rfl,ho0,hb⟩;refine ⟨_,rfl,?_⟩;have aJd:=aA.mk (Kd.dS ho0 (bU (cE HB oV)));replace dX:=aA.mk (aM (cH dX) hb);replace HB:=aA.mk (aQ (cE HB oV) hb);(try clear hb);(try clear hb2);(try clear hk);(try clear hi);(try clear ho0)) | ((with_reducible refine rH (b:=.append) (xs:=#[.tmp 22,.tmp 23]) rfl ?_);(try (refine fG (by rfl) ?_;dsimp only));at_builtin;refine Kd.yJ (Kd.int .u8) (w0:=w) w.heap.size rfl (.tmp 22) (.tmp 23) 22 5 (.int .u8 0) 1 rfl Try.underlying22 yS rfl (by decide) (by omega) aVO ML l1 _ _ _ (fun _ => True) (fun _ => False) rfl rfl ?aO ?aR (fun _ _ h => h) (fun _ h => h.elim) ?aF ?aB ?aS ?aL ?_;(case aR => exact pZ (Kd.cV oA.out HB.out));(case aB => exact (cE HB oV));(case aF => exact (fun _ _ => trivial));(case aO => exact (eQ aJd.out));(case aS => exact (bU (cE HB oV)));(case aL => have:=LMc9.out;omega);intro aVN w11 ho hb hg hat;rw [← Ny360.out] at ho;have tN:=aA.mk (dJ (cH dX) hg (Kd.jE aJd.out dX.out (by decide)));have tM:=aA.mk (hb);have LN:=aA.mk (ho);clear dX HB aJd;have dX:=tN;have HB:=tM;have aRN:=LN;clear tN tM LN;clear ho hb hg hat))
     go_loopg [7] kj2 (fun kq v7 w' => ∃ (cX : Int) (sA : Int) (pN : Int),v7 = .int .i64 cX∧aA (aK.l0 kq l0 l1 y360 cX = some (r1,r2,r3,r4))∧aA (kq≤kj2)∧aA (Kd.R (Kd.int .u8) 5 w' w.heap.size (fun _ => True) aVN y360)∧aA (w'.heap[yT]? = some (.cells #[.int .i64 sA,.int .i64 pN,(.slice none 0 0)] 24 (0,0)))∧aA (Below w.heap.size w w'))
     case atStart => exact ⟨(0),(0),(0),nL,H',⟨Nat.le_refl _⟩,⟨eQ aRN.out⟩,⟨gM dX.out⟩,⟨cE HB oV⟩⟩
     case round =>
      clear H';(try clear c1);(try clear p2);(try clear c4);(try clear c5);(try clear rK);(try clear FJ);(try clear c6);(try clear c9);(try clear iS);(try clear iR);(try clear iQ);(try clear iP);(try clear iO);(try clear iN);(try clear p2);obtain ⟨cX,sA,pN,rfl,HA,vJ,rS,dX,HB⟩:=hrel
      cases gk with
      | zero => exact absurd HA.out (by simp [aK.l0])
      | succ k2 =>
       have H:=HA.out;clear HA;simp only [aK.l0] at H
       by_cases AO : cX < (y360.length : Int)
       ·rw [if_pos AO] at H
        have MB : decide (cX < (y360.length : Int)) = true:=decide_eq_true AO;clear AO;have H':=aA.mk H;clear H;obtain ⟨JT,FI,eo13⟩:=Kd.cM rS.out;subst eo13
        go_wp2
        go_loopg [8] k2 (fun kq v8 w' => ∃ (jM : Int) (vA : Int) (rZ : Int),v8 = .int .i64 jM∧aA (aK.l1 kq l0 l1 y360 cX jM = some (r1,r2,r3,r4))∧aA (kq≤k2)∧aA (Kd.R (Kd.int .u8) 5 w' w.heap.size (fun _ => True) (.slice JT y360.length FI) y360)∧aA (w'.heap[yT]? = some (.cells #[.int .i64 vA,.int .i64 rZ,(.slice none 0 0)] 24 (0,0)))∧aA (Below w.heap.size w w'))
        case atStart => exact ⟨(0),(sA),(pN),nL,H',⟨Nat.le_refl _⟩,⟨eQ rS.out⟩,⟨gM dX.out⟩,⟨cE HB oV⟩⟩
        case round =>
         clear H';(try clear c1);(try clear p2);(try clear c4);(try clear c5);(try clear rK);(try clear FJ);(try clear c6);(try clear c9);(try clear AO);(try clear MB);(try clear iS);(try clear iR);(try clear iQ);(try clear iP);(try clear iO);(try clear iN);(try clear p2);obtain ⟨jM,vA,rZ,rfl,HA,zN,rS,dX,HB⟩:=hrel
         cases gk with
         | zero => exact absurd HA.out (by simp [aK.l1])
         | succ k3 =>
          have H:=HA.out;clear HA;simp only [aK.l1] at H
          by_cases FR : jM < cX
          ·rw [if_pos FR] at H
           have aED : decide (jM < cX) = true:=decide_eq_true FR;clear FR
           by_cases YZ : 0≤cX
           ·rw [if_pos YZ] at H
            have aIM : decide (0≤cX) = true:=decide_eq_true YZ;clear YZ
            by_cases c16 : cX < (y360.length : Int)
            ·rw [if_pos c16] at H
             have aMU : decide (cX < (y360.length : Int)) = true:=decide_eq_true c16;clear c16
             by_cases CE : 0≤jM
             ·rw [if_pos CE] at H
              have RB : decide (0≤jM) = true:=decide_eq_true CE;clear CE
              by_cases ZL : jM < (y360.length : Int)
              ·rw [if_pos ZL] at H
               have UZ : decide (jM < (y360.length : Int)) = true:=decide_eq_true ZL;clear ZL
               by_cases MX : (rd y360 cX) = (rd y360 jM)
               ·rw [if_pos MX] at H
                have aAZ : ((rd y360 cX) == (rd y360 jM)) = true:=beq_iff_eq.mpr MX;have aAY : ((rd y360 cX) != (rd y360 jM)) = false:=bne_eq_false_iff_eq.mpr MX;clear MX;simp only [Option.some.injEq,Prod.mk.injEq] at H;obtain ⟨rfl,rfl,rfl,rfl⟩:=H
                try go_wp2
                replace rS:=aA.mk (Kd.cC rS.out);replace dX:=aA.mk (aH dX.out);replace HB:=aA.mk (dT HB.out);have WM : 0≤(cX : Int):=of_decide_eq_true mK;have q363 : cX < (y360.length : Int):=of_decide_eq_true mK;obtain ⟨ad363,e363,hx363_0⟩:=Kd.nU (Kd.cD rS.out).2.2 cX WM q363
                cases e363
                replace WM:=eq_true WM;replace q363:=eq_true q363;have WL : 0≤(jM : Int):=of_decide_eq_true mK;have q364 : jM < (y360.length : Int):=of_decide_eq_true mK;obtain ⟨ad364,e364,hx364_0⟩:=Kd.nU (Kd.cD rS.out).2.2 jM WL q364;obtain rfl : ad363 = ad364:=(by injection e364)
                replace WL:=eq_true WL;replace q364:=eq_true q364;refine sG (n:=9) (S:=fun w' => w'.cell? (ad363.add (cX).toNat) = some (.int .u8 (rd y360 cX))∧w'.cell? (ad363.add (jM).toNat) = some (.int .u8 (rd y360 jM))) (ds:=[]) #[false,false,false,false,false,false,false,false,false] (by kernel_rfl) rfl rfl ⟨hx363_0,hx364_0⟩ (fun hHeld => ?_);refine kL aK.aMi aK.aIR (fun HT_ HW_ => ?_);generalize wr.drew = w20 at rS dX HB hx363_0 hx364_0 hHeld ⊢;refine bY (i:=0) (N:=some 36) (v:=?_) (a':=?_) (eH 9 1) rfl rfl (bS HT_.out (by kernel_rfl)) (fun _ _ _ h => h) (Or.inl ⟨by rfl,?_⟩) ?_ ?_;rotate_left
                ·intro w'
                 go_simp;(with_reducible rfl)
                rotate_left
                ·simp only [Act.put,cO,cL,cP,bE,bJ]
                 rfl
                refine bY (i:=1) (N:=some 37) (v:=?_) (a':=?_) (eH 9 3) rfl rfl (bS HT_.out (by kernel_rfl)) (fun _ _ _ h => h) (Or.inl ⟨by rfl,?_⟩) ?_ ?_;rotate_left
                ·intro w'
                 go_simp;(with_reducible rfl)
                rotate_left
                ·simp only [Act.put,cO,cL,cP,bE,bJ]
                 rfl
                refine bY (i:=2) (N:=some 38) (v:=?_) (a':=?_) (eH 9 7) rfl rfl (bS HT_.out (by kernel_rfl)) (fun _ _ _ h => h) (Or.inl ⟨by rfl,?_⟩) ?_ ?_;rotate_left
                ·intro w'
                 go_simp;(with_reducible rfl)
                rotate_left
                ·simp only [Act.put,cO,cL,cP,bE,bJ]
                 rfl
                refine bY (i:=4) (N:=some 40) (v:=?_) (a':=?_) (eH 9 23) rfl rfl (bS HT_.out (by kernel_rfl)) (fun _ _ _ h => h) (Or.inl ⟨by rfl,?_⟩) ?_ ?_;rotate_left
                ·intro w'
                 go_simp;(with_reducible rfl)
                rotate_left
                ·simp only [Act.put,cO,cL,cP,bE,bJ]
                 rfl
                refine bY (i:=5) (N:=some 41) (v:=?_) (a':=?_) (eH 9 55) rfl rfl (bS HT_.out (by kernel_rfl)) (fun _ _ _ h => h) (Or.inl ⟨by rfl,?_⟩) ?_ ?_;rotate_left
                ·intro w'
                 go_simp;(with_reducible rfl)
                rotate_left
                ·simp only [Act.put,cO,cL,cP,bE,bJ]
                 rfl
                refine bY (i:=6) (N:=some 42) (v:=?_) (a':=?_) (eH 9 119) rfl rfl (bS HT_.out (by kernel_rfl)) (fun _ _ _ h => h) (Or.inl ⟨by rfl,?_⟩) ?_ ?_;rotate_left
                ·intro w'
                 go_simp;(with_reducible rfl)
                rotate_left
                ·simp only [Act.put,cO,cL,cP,bE,bJ]
                 rfl
                refine gP (i:=3) (N:=some 39) (v:=?_) (a':=?_) (eH 9 127) rfl rfl (dM HT_.out HW_.out (by kernel_rfl)) (fun _ _ _ h => h) (Or.inl ⟨by rfl,?_⟩) hHeld ?_ ?_;rotate_left
                ·rintro w' ⟨s0,s1⟩
                 go_simp;(with_reducible rfl)
                rotate_left
                ·simp only [Act.put,cO,cL,cP,bE,bJ]
                 rfl
                refine gP (i:=7) (N:=some 43) (v:=?_) (a':=?_) (eH 9 255) rfl rfl (dM HT_.out HW_.out (by kernel_rfl)) (fun _ _ _ h => h) (Or.inl ⟨by rfl,?_⟩) hHeld ?_ ?_;rotate_left
                ·rintro w' ⟨s0,s1⟩
                 go_simp;(with_reducible rfl)
                rotate_left
                ·simp only [Act.put,cO,cL,cP,bE,bJ]
                 rfl
                refine bY (i:=8) (N:=some 44) (v:=?_) (a':=?_) (eH 9 511) rfl rfl (bS HT_.out (by kernel_rfl)) (fun _ _ _ h => h) (Or.inl ⟨by rfl,?_⟩) ?_ ?_;rotate_left
                ·intro w'
                 go_simp;(with_reducible rfl)
                rotate_left
                ·simp only [Act.put,cO,cL,cP,bE,bJ]
                 rfl
                refine yV (rJ HT_.out (by kernel_rfl)) ?_;have YO:=bO dX 0 (.int .i64 vA) rfl;have YN:=bO dX 1 (.int .i64 rZ) rfl;have YM:=bO dX 2 (.slice none 0 0) rfl;have XT:=aC dX.out 0;have XS:=aC dX.out 1;have XR:=aC dX.out 2
                try go_wp2
                refine bodyPost_ret (dE rfl _ _ yT 24 #[.int .i64 0,.int .i64 0,.slice none 0 0] (0,0) _ rfl (by (with_reducible repeat first | apply aD | apply aH | apply aE);refine bA (cs:=#[.int .i64 0,.int .i64 0,.slice none 0 0]) ?_ 2 _ rfl;(with_reducible repeat first | apply aD | apply aH | apply aE);refine bA (cs:=#[.int .i64 0,.int .i64 rZ,.slice none 0 0]) ?_ 1 _ rfl;(with_reducible repeat first | apply aD | apply aH | apply aE);refine bA (cs:=#[.int .i64 vA,.int .i64 rZ,.slice none 0 0]) ?_ 0 _ rfl;(with_reducible repeat first | apply aD | apply aH | apply aE);exact dX.out) Try.underlying24 rfl (by kernel_rfl)) rfl ?_;exact ⟨_,uB,MR,cE HB oV⟩
               ·rw [if_neg MX] at H
                have aAZ : ((rd y360 cX) == (rd y360 jM)) = false:=beq_eq_false_iff_ne.mpr MX;have aAY : ((rd y360 cX) != (rd y360 jM)) = true:=bne_iff_ne.mpr MX;have H':=aA.mk H;clear H
                try go_wp2
                replace rS:=aA.mk (Kd.cC rS.out);replace dX:=aA.mk (aH dX.out);replace HB:=aA.mk (dT HB.out);have WM : 0≤(cX : Int):=of_decide_eq_true mK;have q363 : cX < (y360.length : Int):=of_decide_eq_true mK;obtain ⟨ad363,e363,hx363_0⟩:=Kd.nU (Kd.cD rS.out).2.2 cX WM q363
                cases e363
                replace WM:=eq_true WM;replace q363:=eq_true q363;have WL : 0≤(jM : Int):=of_decide_eq_true mK;have q364 : jM < (y360.length : Int):=of_decide_eq_true mK;obtain ⟨ad364,e364,hx364_0⟩:=Kd.nU (Kd.cD rS.out).2.2 jM WL q364;obtain rfl : ad363 = ad364:=(by injection e364)
                replace WL:=eq_true WL;replace q364:=eq_true q364;refine sG (n:=9) (S:=fun w' => w'.cell? (ad363.add (cX).toNat) = some (.int .u8 (rd y360 cX))∧w'.cell? (ad363.add (jM).toNat) = some (.int .u8 (rd y360 jM))) (ds:=[]) #[false,false,false,false,false,false,false,false,false] (by kernel_rfl) rfl rfl ⟨hx363_0,hx364_0⟩ (fun hHeld => ?_);refine kL aK.aMi aK.aIR (fun HT_ HW_ => ?_);generalize wr.drew = w22 at rS dX HB hx363_0 hx364_0 hHeld ⊢;refine bY (i:=0) (N:=some 36) (v:=?_) (a':=?_) (eH 9 1) rfl rfl (bS HT_.out (by kernel_rfl)) (fun _ _ _ h => h) (Or.inl ⟨by rfl,?_⟩) ?_ ?_;rotate_left
                ·intro w'
                 go_simp;(with_reducible rfl)
                rotate_left
                ·simp only [Act.put,cO,cL,cP,bE,bJ]
                 rfl
                refine bY (i:=1) (N:=some 37) (v:=?_) (a':=?_) (eH 9 3) rfl rfl (bS HT_.out (by kernel_rfl)) (fun _ _ _ h => h) (Or.inl ⟨by rfl,?_⟩) ?_ ?_;rotate_left
                ·intro w'
                 go_simp;(with_reducible rfl)
                rotate_left
                ·simp only [Act.put,cO,cL,cP,bE,bJ]
                 rfl
                refine bY (i:=2) (N:=some 38) (v:=?_) (a':=?_) (eH 9 7) rfl rfl (bS HT_.out (by kernel_rfl)) (fun _ _ _ h => h) (Or.inl ⟨by rfl,?_⟩) ?_ ?_;rotate_left
                ·intro w'
                 go_simp;(with_reducible rfl)
                rotate_left
                ·simp only [Act.put,cO,cL,cP,bE,bJ]
                 rfl
                refine bY (i:=4) (N:=some 40) (v:=?_) (a':=?_) (eH 9 23) rfl rfl (bS HT_.out (by kernel_rfl)) (fun _ _ _ h => h) (Or.inl ⟨by rfl,?_⟩) ?_ ?_;rotate_left
                ·intro w'
                 go_simp;(with_reducible rfl)
                rotate_left
                ·simp only [Act.put,cO,cL,cP,bE,bJ]
                 rfl
                refine bY (i:=5) (N:=some 41) (v:=?_) (a':=?_) (eH 9 55) rfl rfl (bS HT_.out (by kernel_rfl)) (fun _ _ _ h => h) (Or.inl ⟨by rfl,?_⟩) ?_ ?_;rotate_left
                ·intro w'
                 go_simp;(with_reducible rfl)
                rotate_left
                ·simp only [Act.put,cO,cL,cP,bE,bJ]
                 rfl
                refine bY (i:=6) (N:=some 42) (v:=?_) (a':=?_) (eH 9 119) rfl rfl (bS HT_.out (by kernel_rfl)) (fun _ _ _ h => h) (Or.inl ⟨by rfl,?_⟩) ?_ ?_;rotate_left
                ·intro w'
                 go_simp;(with_reducible rfl)
                rotate_left
                ·simp only [Act.put,cO,cL,cP,bE,bJ]
                 rfl
                refine gP (i:=3) (N:=some 39) (v:=?_) (a':=?_) (eH 9 127) rfl rfl (dM HT_.out HW_.out (by kernel_rfl)) (fun _ _ _ h => h) (Or.inl ⟨by rfl,?_⟩) hHeld ?_ ?_;rotate_left
                ·rintro w' ⟨s0,s1⟩
                 go_simp;(with_reducible rfl)
                rotate_left
                ·simp only [Act.put,cO,cL,cP,bE,bJ]
                 rfl
                refine gP (i:=7) (N:=some 43) (v:=?_) (a':=?_) (eH 9 255) rfl rfl (dM HT_.out HW_.out (by kernel_rfl)) (fun _ _ _ h => h) (Or.inl ⟨by rfl,?_⟩) hHeld ?_ ?_;rotate_left
                ·rintro w' ⟨s0,s1⟩
                 go_simp;(with_reducible rfl)
                rotate_left
                ·simp only [Act.put,cO,cL,cP,bE,bJ]
                 rfl
                refine bY (i:=8) (N:=some 44) (v:=?_) (a':=?_) (eH 9 511) rfl rfl (bS HT_.out (by kernel_rfl)) (fun _ _ _ h => h) (Or.inl ⟨by rfl,?_⟩) ?_ ?_;rotate_left
                ·intro w'
                 go_simp;(with_reducible rfl)
                rotate_left
                ·simp only [Act.put,cO,cL,cP,bE,bJ]
                 rfl
                refine yV (rJ HT_.out (by kernel_rfl)) ?_
                try go_wp2
                go_roundg k3
                case measure => have:=HJ2.out;have:=vJ.out;have:=zN.out;omega
                case rel => exact ⟨(wrap64 (jM + 1)),(vA),(rZ),nL,H',⟨by have:=HJ2.out;have:=vJ.out;have:=zN.out;omega⟩,⟨eQ rS.out⟩,⟨gM dX.out⟩,⟨cE HB oV⟩⟩
              ·rw [if_neg ZL] at H
               exact absurd H (by simp)
             ·rw [if_neg CE] at H
              exact absurd H (by simp)
            ·rw [if_neg c16] at H
             exact absurd H (by simp)
           ·rw [if_neg YZ] at H
            exact absurd H (by simp)
          ·rw [if_neg FR] at H
           have aED : decide (jM < cX) = false:=decide_eq_false FR;clear FR;have H':=aA.mk H;clear H
           go_wp2
           go_roundg k3
           case measure => have:=HJ2.out;have:=vJ.out;have:=zN.out;omega
           case rel => exact ⟨(wrap64 (cX + 1)),(vA),(rZ),nL,H',⟨by have:=HJ2.out;have:=vJ.out;have:=zN.out;omega⟩,⟨eQ rS.out⟩,⟨gM dX.out⟩,⟨cE HB oV⟩⟩
       ·rw [if_neg AO] at H
        have MB : decide (cX < (y360.length : Int)) = false:=decide_eq_false AO;clear AO;replace H:=Option.bind_eq_some_iff.mp H;obtain ⟨⟨AY,xW,aHc⟩,aJx,H⟩:=H;replace H : (aK.l2 k2 l0 l1 0 AY xW aHc) = some (r1,r2,r3,r4):=H;have A23:=aA.mk aJx;clear aJx;have H':=aA.mk H;clear H;obtain ⟨aOU,aOs,eo24⟩:=Kd.cM rS.out;subst eo24;go_wp2_with (first | ((with_reducible refine bB (f:=45) rfl ?_);refine cS (some 50) rfl rfl Try.func45 (by kernel_rfl) rfl #[.int .i64 (l0.length : Int),.int .i64 (l1.length : Int)] rfl mS ?_;(with_reducible refine (dF.calls (l0.length : Int) (l1.length : Int) AY xW aHc _ A23.out).mono ?_);rintro e w25 ⟨bAi,rfl,ho0,hb⟩;refine ⟨_,rfl,?_⟩;have aEK:=aA.mk (Kd.dS (Kd.mM ho0 (Kd.uX (eQ rS.out))) (bU (cE HB oV)));replace rS:=aA.mk (Kd.gS (eQ rS.out) (Kd.lW ho0) hb);replace dX:=aA.mk (aM (cH dX) hb);replace HB:=aA.mk (aQ (cE HB oV) hb);(try clear hb);(try clear hb2);(try clear hk);(try clear hi);(try clear ho0)) | ((with_reducible refine bH (N:=9) rfl ?_);(try (refine fG (by rfl) ?_;dsimp only));refine lK (N:=9) (cs:=#[.int .i64 0,.int .i64 0,.slice none 0 0]) (t:=24) ?_;intro EB hg w26 hbox hb;replace rS:=aA.mk (Kd.cW (eQ rS.out) hb);replace aEK:=aA.mk (Kd.cW (eQ aEK.out) hb);have kG:=aA.mk (hbox);have aZz:=aA.mk (eW hg (cE HB oV) : w.heap.size≤EB);have aBs:=aA.mk (eW hg (cE HB oV) : w.heap.size≤EB);replace HB:=aA.mk (aQ (cE HB oV) hb);have zA:=aA.mk (wJ hg (cH dX));have VD:=aA.mk (wK hg (cH dX));replace dX:=aA.mk (aM (cH dX) hb);clear hb hbox hg;have aMA:=VD.out;have aMt:=zA.out;have IS:=bO kG 0 (.int .i64 0) rfl;have IQ:=bO kG 1 (.int .i64 0) rfl;have IP:=bO kG 2 (.slice none 0 0) rfl;have IE:=aC kG.out 0;have ID:=aC kG.out 1;have IC:=aC kG.out 2;obtain ⟨aSy,aRb,eo29⟩:=Kd.cM aEK.out;subst eo29))
        go_loopg [10] k2 (fun kq v10 w' => ∃ (fE : Int) (uZ : List Int) (qH : Value),v10 = .int .i64 fE∧aA (aK.l2 kq l0 l1 fE AY xW uZ = some (r1,r2,r3,r4))∧aA (kq≤k2)∧aA (Kd.R (Kd.int .u8) 5 w' w.heap.size (fun _ => True) qH uZ)∧aA (w'.heap[yT]? = some (.cells #[.int .i64 sA,.int .i64 pN,(.slice none 0 0)] 24 (0,0)))∧aA (w'.heap[EB]? = some (.cells #[.int .i64 AY,.int .i64 xW,qH] 24 (0,0)))∧aA (Below w.heap.size w w'))
        case atStart => exact ⟨(0),(aHc),(.slice aSy aHc.length aRb),nL,H',⟨Nat.le_refl _⟩,⟨by (with_reducible repeat first | apply Kd.cK | apply Kd.cJ | apply Kd.cC);exact Kd.cN (Kd.dD (p:=⟨EB,2,none⟩) (Kd.dD (p:=⟨EB,1,none⟩) (Kd.dD (p:=⟨EB,0,none⟩) (Kd.eC aEK.out kG.out (by decide)) (fun _ hk => hk.2) (.int .i64 AY)) (fun _ hk => hk.2) (.int .i64 xW)) (fun _ hk => hk.2) (.slice aSy aHc.length aRb)) (fun _ hk => trivial)⟩,⟨by (with_reducible repeat first | apply aD | apply aH | apply aE);refine bF ?_ zA.out _;(with_reducible repeat first | apply aD | apply aH | apply aE);refine bF ?_ zA.out _;(with_reducible repeat first | apply aD | apply aH | apply aE);refine bF ?_ zA.out _;(with_reducible repeat first | apply aD | apply aH | apply aE);exact dX.out⟩,⟨by (with_reducible repeat first | apply aD | apply aH | apply aE);refine bA (cs:=#[.int .i64 AY,.int .i64 xW,.slice none 0 0]) ?_ 2 _ rfl;(with_reducible repeat first | apply aD | apply aH | apply aE);refine bA (cs:=#[.int .i64 AY,.int .i64 0,.slice none 0 0]) ?_ 1 _ rfl;(with_reducible repeat first | apply aD | apply aH | apply aE);refine bA (cs:=#[.int .i64 0,.int .i64 0,.slice none 0 0]) ?_ 0 _ rfl;(with_reducible repeat first | apply aD | apply aH | apply aE);exact kG.out⟩,⟨cR HB oV aBs⟩⟩
        case round =>
         clear H';(try clear c1);(try clear c2);(try clear p2);(try clear p3);(try clear q3);(try clear hx3);(try clear c4);(try clear c5);(try clear rK);(try clear FJ);(try clear c6);(try clear p6);(try clear c9);(try clear AO);(try clear MB);(try clear FR);(try clear aED);(try clear YZ);(try clear aIM);(try clear c16);(try clear aMU);(try clear CE);(try clear RB);(try clear ZL);(try clear UZ);(try clear MX);(try clear aAZ);(try clear aAY);(try clear c27);(try clear YO);(try clear YN);(try clear YM);(try clear IS);(try clear IQ);(try clear IP);(try clear iS);(try clear iR);(try clear iQ);(try clear XT);(try clear XS);(try clear XR);(try clear IE);(try clear ID);(try clear IC);(try clear iP);(try clear iO);(try clear iN);(try clear hx363_0);(try clear hx364_0);(try clear p2);(try clear WM);(try clear WL);(try clear q363);(try clear q364);obtain ⟨fE,uZ,qH,rfl,HA,zN,iY,dX,kG,HB⟩:=hrel
         cases gk with
         | zero => exact absurd HA.out (by simp [aK.l2])
         | succ k3 =>
          have H:=HA.out;clear HA;simp only [aK.l2] at H
          by_cases TH : fE < (l0.length : Int)
          ·rw [if_pos TH] at H
           have MA : decide (fE < (l0.length : Int)) = true:=decide_eq_true TH;clear TH;have H':=aA.mk H;clear H
           go_wp2
           go_loopg [11] k3 (fun kq v11 w' => ∃ (mP : Int) (iX : List Int) (qH : Value),v11 = .int .i64 mP∧aA (aK.l3 kq l0 l1 fE mP AY xW iX = some (r1,r2,r3,r4))∧aA (kq≤k3)∧aA (Kd.R (Kd.int .u8) 5 w' w.heap.size (fun _ => True) qH iX)∧aA (w'.heap[yT]? = some (.cells #[.int .i64 sA,.int .i64 pN,(.slice none 0 0)] 24 (0,0)))∧aA (w'.heap[EB]? = some (.cells #[.int .i64 AY,.int .i64 xW,qH] 24 (0,0)))∧aA (Below w.heap.size w w'))
           case atStart => exact ⟨(0),(uZ),(qH),nL,H',⟨Nat.le_refl _⟩,⟨eQ iY.out⟩,⟨gM dX.out⟩,⟨gM kG.out⟩,⟨cR HB oV aBs⟩⟩
           case round =>
            clear H';(try clear c1);(try clear c2);(try clear p2);(try clear c3);(try clear p3);(try clear q3);(try clear hx3);(try clear c4);(try clear c5);(try clear rK);(try clear FJ);(try clear c6);(try clear p6);(try clear c9);(try clear AO);(try clear MB);(try clear FR);(try clear aED);(try clear YZ);(try clear aIM);(try clear c16);(try clear aMU);(try clear CE);(try clear RB);(try clear ZL);(try clear UZ);(try clear MX);(try clear aAZ);(try clear aAY);(try clear c27);(try clear TH);(try clear MA);(try clear YO);(try clear YN);(try clear YM);(try clear IS);(try clear IQ);(try clear IP);(try clear iS);(try clear iR);(try clear iQ);(try clear XT);(try clear XS);(try clear XR);(try clear IE);(try clear ID);(try clear IC);(try clear iP);(try clear iO);(try clear iN);(try clear hx363_0);(try clear hx364_0);(try clear p2);(try clear p3);(try clear WM);(try clear WL);(try clear p6);(try clear q3);(try clear q363);(try clear q364);obtain ⟨mP,iX,qH,rfl,HA,ZM,iY,dX,kG,HB⟩:=hrel
            cases gk with
            | zero => exact absurd HA.out (by simp [aK.l3])
            | succ k4 =>
             have H:=HA.out;clear HA;simp only [aK.l3] at H
             by_cases FQ : mP < (l1.length : Int)
             ·rw [if_pos FQ] at H
              have QZ : decide (mP < (l1.length : Int)) = true:=decide_eq_true FQ;clear FQ
              by_cases c32 : 0≤fE
              ·rw [if_pos c32] at H
               have aZk : decide (0≤fE) = true:=decide_eq_true c32;clear c32
               by_cases c33 : fE < (l0.length : Int)
               ·rw [if_pos c33] at H
                have aZj : decide (fE < (l0.length : Int)) = true:=decide_eq_true c33;clear c33
                by_cases c34 : 0≤mP
                ·rw [if_pos c34] at H
                 have aZi : decide (0≤mP) = true:=decide_eq_true c34;clear c34;replace H:=Option.bind_eq_some_iff.mp H;obtain ⟨⟨aHb,aVY⟩,aJv,H⟩:=H;replace H : (if 0≤(wrap64 ((wrap64 (fE * xW)) + mP)) then (if (wrap64 ((wrap64 (fE * xW)) + mP)) < (iX.length : Int) then (aK.l3 k4 l0 l1 fE (wrap64 (mP + 1)) AY xW (iX.set ((wrap64 ((wrap64 (fE * xW)) + mP)) : Int).toNat aHb)) else (none)) else (none)) = some (r1,r2,r3,r4):=H;have A35:=aA.mk aJv;clear aJv;obtain ⟨KL,aDt⟩ : ∃ j_ : Int,(wrap64 ((wrap64 (fE * xW)) + mP)) = j_:=⟨_,rfl⟩
                 replace H : (if 0≤(KL) then (if (KL) < (iX.length : Int) then (aK.l3 k4 l0 l1 fE (wrap64 (mP + 1)) AY xW (iX.set ((KL) : Int).toNat aHb)) else (none)) else (none)) = some (r1,r2,r3,r4):=by first | (rw [aDt] at H;exact H) | (simp only [aDt] at H ⊢;exact H)
                 (try rw [aDt] at A35);have aWw : (IntKind.i64.wrap ((wrap64 (fE * xW)) + mP)) = KL:=(bE _).trans aDt
                 by_cases c37 : 0≤(KL)
                 ·rw [if_pos c37] at H
                  have aMQ : decide (0≤(KL)) = true:=decide_eq_true c37;clear c37
                  by_cases c38 : (KL) < (iX.length : Int)
                  ·rw [if_pos c38] at H
                   have aEB : decide ((KL) < (iX.length : Int)) = true:=decide_eq_true c38;clear c38;obtain ⟨y375,hy375⟩ : ∃ y_ : List Int,y_ = (iX.set ((KL) : Int).toNat aHb):=⟨_,rfl⟩
                   replace H : (aK.l3 k4 l0 l1 fE (wrap64 (mP + 1)) AY xW y375) = some (r1,r2,r3,r4):=by first | (rw [hy375];with_reducible exact H) | (have H2_:=(Option.bind_some _ _).symm.trans H;rw [hy375];with_reducible exact H2_) | (have H2_:=(Option.bind_some _ _).symm.trans H;with_reducible exact H2_) | with_reducible exact H | (rw [hy375];exact H) | exact H
                   have Ny375:=aA.mk hy375;clear hy375;have H':=aA.mk H;clear H
                   try go_wp2
                   replace iY:=aA.mk (Kd.cC iY.out);replace dX:=aA.mk (aH dX.out);replace kG:=aA.mk (aH kG.out);replace HB:=aA.mk (dT HB.out);have aNU : 0≤(fE : Int):=of_decide_eq_true mK;have q371 : fE < (l0.length : Int):=of_decide_eq_true mK;obtain ⟨ad371,e371,hx371_0⟩:=Kd.nU HR0.out fE aNU q371;have NM:=hx371_0
                   cases e371
                   replace hx371_0:=(HB.out.cell (World.block_lt_of_cell? w _ hx371_0)).trans hx371_0;replace aNU:=eq_true aNU;replace q371:=eq_true q371;have aNT : 0≤(mP : Int):=of_decide_eq_true mK;have q372 : mP < (l1.length : Int):=of_decide_eq_true mK;obtain ⟨ad372,e372,hx372_0⟩:=Kd.nU oA.out mP aNT q372;have NL:=hx372_0
                   cases e372
                   replace hx372_0:=(HB.out.cell (World.block_lt_of_cell? w _ hx372_0)).trans hx372_0;replace aNT:=eq_true aNT;replace q372:=eq_true q372;refine sG (n:=23) (S:=fun w' => w'.cell? ⟨EB,0,none⟩ = some (.int .i64 AY)∧w'.cell? ⟨EB,1,none⟩ = some (.int .i64 xW)∧w'.cell? ⟨EB,2,none⟩ = some (qH)∧w'.cell? (ad371.add (fE).toNat) = some (.int .u8 (rd l0 fE))∧w'.cell? (ad372.add (mP).toNat) = some (.int .u8 (rd l1 mP))) (ds:=[22]) #[false,false,false,false,false,false,false,false,false,false,false,false,false,false,false,false,false,false,false,false,false,false,false] (by kernel_rfl) rfl rfl ⟨(aY kG.out 0).trans rfl,(aY kG.out 1).trans rfl,(aY kG.out 2).trans rfl,((HB.out.cell (World.block_lt_of_cell? w _ NM)).trans NM),((HB.out.cell (World.block_lt_of_cell? w _ NL)).trans NL)⟩ (fun hHeld => ?_);refine kL aK.aPq aK.aOx (fun HT_ HW_ => ?_);generalize wr.drew = w40 at iY dX kG HB hx371_0 hx372_0 hHeld ⊢;refine bY (i:=0) (N:=some 64) (v:=?_) (a':=?_) (eH 23 1) rfl rfl (bS HT_.out (by kernel_rfl)) (fun _ _ _ h => h) (Or.inl ⟨by rfl,?_⟩) ?_ ?_;rotate_left
                   ·intro w'
                    go_simp;(with_reducible rfl)
                   rotate_left
                   ·simp only [Act.put,cO,cL,cP,bE,bJ]
                    rfl
                   refine bY (i:=2) (N:=some 66) (v:=?_) (a':=?_) (eH 23 5) rfl rfl (bS HT_.out (by kernel_rfl)) (fun _ _ _ h => h) (Or.inl ⟨by rfl,?_⟩) ?_ ?_;rotate_left
                   ·intro w'
                    go_simp;(with_reducible rfl)
                   rotate_left
                   ·simp only [Act.put,cO,cL,cP,bE,bJ]
                    rfl
                   refine bY (i:=3) (N:=some 67) (v:=?_) (a':=?_) (eH 23 13) rfl rfl (bS HT_.out (by kernel_rfl)) (fun _ _ _ h => h) (Or.inl ⟨by rfl,?_⟩) ?_ ?_;rotate_left
                   ·intro w'
                    go_simp;(with_reducible rfl)
                   rotate_left
                   ·simp only [Act.put,cO,cL,cP,bE,bJ]
                    rfl
                   refine bY (i:=6) (N:=some 70) (v:=?_) (a':=?_) (eH 23 77) rfl rfl (bS HT_.out (by kernel_rfl)) (fun _ _ _ h => h) (Or.inl ⟨by rfl,?_⟩) ?_ ?_;rotate_left
                   ·intro w'
                    go_simp;(with_reducible rfl)
                   rotate_left
                   ·simp only [Act.put,cO,cL,cP,bE,bJ]
                    rfl
                   refine bY (i:=8) (N:=some 72) (v:=?_) (a':=?_) (eH 23 333) rfl rfl (bS HT_.out (by kernel_rfl)) (fun _ _ _ h => h) (Or.inl ⟨by rfl,?_⟩) ?_ ?_;rotate_left
                   ·intro w'
                    go_simp;(with_reducible rfl)
                   rotate_left
                   ·simp only [Act.put,cO,cL,cP,bE,bJ]
                    rfl
                   refine bY (i:=9) (N:=some 73) (v:=?_) (a':=?_) (eH 23 845) rfl rfl (bS HT_.out (by kernel_rfl)) (fun _ _ _ h => h) (Or.inl ⟨by rfl,?_⟩) ?_ ?_;rotate_left
                   ·intro w'
                    go_simp;(with_reducible rfl)
                   rotate_left
                   ·simp only [Act.put,cO,cL,cP,bE,bJ]
                    rfl
                   refine bY (i:=10) (N:=some 74) (v:=?_) (a':=?_) (eH 23 1869) rfl rfl (bS HT_.out (by kernel_rfl)) (fun _ _ _ h => h) (Or.inl ⟨by rfl,?_⟩) ?_ ?_;rotate_left
                   ·intro w'
                    go_simp;(with_reducible rfl)
                   rotate_left
                   ·simp only [Act.put,cO,cL,cP,bE,bJ]
                    rfl
                   refine bY (i:=12) (N:=some 76) (v:=?_) (a':=?_) (eH 23 5965) rfl rfl (bS HT_.out (by kernel_rfl)) (fun _ _ _ h => h) (Or.inl ⟨by rfl,?_⟩) ?_ ?_;rotate_left
                   ·intro w'
                    go_simp;(with_reducible rfl)
                   rotate_left
                   ·simp only [Act.put,cO,cL,cP,bE,bJ]
                    rfl
                   refine bY (i:=13) (N:=some 77) (v:=?_) (a':=?_) (eH 23 14157) rfl rfl (bS HT_.out (by kernel_rfl)) (fun _ _ _ h => h) (Or.inl ⟨by rfl,?_⟩) ?_ ?_;rotate_left
                   ·intro w'
                    go_simp;(with_reducible rfl)
                   rotate_left
                   ·simp only [Act.put,cO,cL,cP,bE,bJ]
                    rfl
                   refine bY (i:=14) (N:=some 78) (v:=?_) (a':=?_) (eH 23 30541) rfl rfl (bS HT_.out (by kernel_rfl)) (fun _ _ _ h => h) (Or.inl ⟨by rfl,?_⟩) ?_ ?_;rotate_left
                   ·intro w'
                    go_simp;(with_reducible rfl)
                   rotate_left
                   ·simp only [Act.put,cO,cL,cP,bE,bJ]
                    rfl
                   refine gP (i:=1) (N:=some 65) (v:=?_) (a':=?_) (eH 23 30543) rfl rfl (dM HT_.out HW_.out (by kernel_rfl)) (fun _ _ _ h => h) (Or.inl ⟨by rfl,?_⟩) hHeld ?_ ?_;rotate_left
                   ·rintro w' ⟨s0,s1,s2,s3,s4⟩
                    go_simp;(with_reducible rfl)
                   rotate_left
                   ·simp only [Act.put,cO,cL,cP,bE,bJ]
                    rfl
                   refine gP (i:=4) (N:=some 68) (v:=?_) (a':=?_) (eH 23 30559) rfl rfl (dM HT_.out HW_.out (by kernel_rfl)) (fun _ _ _ h => h) (Or.inl ⟨by rfl,?_⟩) hHeld ?_ ?_;rotate_left
                   ·rintro w' ⟨s0,s1,s2,s3,s4⟩
                    go_simp;(with_reducible rfl)
                   rotate_left
                   ·simp only [Act.put,cO,cL,cP,bE,bJ]
                    rfl
                   refine bY (i:=5) (N:=some 69) (v:=?_) (a':=?_) (eH 23 30591) rfl rfl (bS HT_.out (by kernel_rfl)) (fun _ _ _ h => h) (Or.inl ⟨by rfl,?_⟩) ?_ ?_;rotate_left
                   ·intro w'
                    go_simp;(with_reducible rfl)
                   rotate_left
                   ·simp only [Act.put,cO,cL,cP,bE,bJ]
                    rfl
                   refine bY (i:=7) (N:=some 71) (v:=?_) (a':=?_) (eH 23 30719) rfl rfl (bS HT_.out (by kernel_rfl)) (fun _ _ _ h => h) (Or.inl ⟨by rfl,?_⟩) ?_ ?_;rotate_left
                   ·intro w'
                    go_simp;(with_reducible rfl)
                   rotate_left
                   ·simp only [Act.put,cO,cL,cP,bE,bJ]
                    rfl
                   refine gP (i:=11) (N:=some 75) (v:=?_) (a':=?_) (eH 23 32767) rfl rfl (dM HT_.out HW_.out (by kernel_rfl)) (fun _ _ _ h => h) (Or.inl ⟨by rfl,?_⟩) hHeld ?_ ?_;rotate_left
                   ·rintro w' ⟨s0,s1,s2,s3,s4⟩
                    go_simp;(with_reducible rfl)
                   rotate_left
                   ·simp only [Act.put,cO,cL,cP,bE,bJ]
                    rfl
                   refine gP (i:=15) (N:=some 79) (v:=?_) (a':=?_) (eH 23 65535) rfl rfl (dM HT_.out HW_.out (by kernel_rfl)) (fun _ _ _ h => h) (Or.inl ⟨by rfl,?_⟩) hHeld ?_ ?_;rotate_left
                   ·rintro w' ⟨s0,s1,s2,s3,s4⟩
                    go_simp;(with_reducible rfl)
                   rotate_left
                   ·simp only [Act.put,cO,cL,cP,bE,bJ]
                    rfl
                   refine bY (i:=16) (N:=some 80) (v:=?_) (a':=?_) (eH 23 131071) rfl rfl (bS HT_.out (by kernel_rfl)) (fun _ _ _ h => h) (Or.inl ⟨by rfl,?_⟩) ?_ ?_;rotate_left
                   ·intro w'
                    go_simp;(with_reducible rfl)
                   rotate_left
                   ·simp only [Act.put,cO,cL,cP,bE,bJ]
                    rfl
                   refine DS (i:=17) (N:=some 81) (eH 23 262143) rfl rfl (jO HT_.out (by kernel_rfl)) (by decide) (fun K hK => ?_);refine BR Try.func46 (by kernel_rfl) rfl #[.int .u8 (Go.bits .xor .u8 (rd l0 fE) (rd l1 mP))] (by rfl) rfl rfl mS ?_
                   with_reducible refine (eK.calls (Go.bits .xor .u8 (rd l0 fE) (rd l1 mP)) aHb aVY _ A35.out).mono ?_
                   rintro e w' ⟨rfl,⟨nd,rfl⟩⟩;refine ⟨_,rfl,?_⟩;have p39 : 0≤((KL) : Int):=of_decide_eq_true mK;have q39 : ((KL) : Int) < ((iX.length : Int) : Int):=of_decide_eq_true mK;obtain ⟨go39,aWW,eo39,aQM,gl39,cl39,HG39⟩:=Kd.AE iY.out (by omega)
                   (first | cases eo39 | (injection eo39 with ea_ en_ ec_;(first | subst ea_ | (injection ea_ with ea_;subst ea_));subst ec_;clear en_));have GB39:=aA.mk aQM;have GG39:=aA.mk HG39;clear aQM gl39 HG39;obtain ⟨hx39_0,hf39_0⟩:=Kd.nG 0 iY.out ((KL) : Int) p39 q39;replace p39:=eq_true p39;replace q39:=eq_true q39;have HP41:=Kd.KX iY.out ((KL) : Int) aHb;rw [← Ny375.out] at HP41;have HQ41:=aA.mk HP41;clear HP41;refine hK.out _ _ ⟨(aY kG.out 0).trans rfl,(aY kG.out 1).trans rfl,(aY kG.out 2).trans rfl,((HB.out.cell (World.block_lt_of_cell? w _ NM)).trans NM),((HB.out.cell (World.block_lt_of_cell? w _ NL)).trans NL)⟩ (fun hHeld => ?_);clear hK K;refine qM (a':=?_) ?_ ?_;rotate_left
                   ·show Act.put _ (some 81) _ = _
                    simp only [Act.put,cO,cL,cP,bE,bJ];rfl
                   refine bY (i:=18) (N:=some 63) (v:=?_) (a':=?_) (eH 23 524287) rfl rfl (bS HT_.out (by kernel_rfl)) (fun _ _ _ h => h) (Or.inl ⟨by rfl,?_⟩) ?_ ?_;rotate_left
                   ·intro w'
                    go_simp;(with_reducible rfl)
                   rotate_left
                   ·simp only [Act.put,cO,cL,cP,bE,bJ]
                    rfl
                   refine bY (i:=19) (N:=some 82) (v:=?_) (a':=?_) (eH 23 1048575) rfl rfl (bS HT_.out (by kernel_rfl)) (fun _ _ _ h => h) (Or.inl ⟨by rfl,?_⟩) ?_ ?_;rotate_left
                   ·intro w'
                    go_simp;(with_reducible rfl)
                   rotate_left
                   ·simp only [Act.put,cO,cL,cP,bE,bJ]
                    rfl
                   refine bY (i:=20) (N:=some 83) (v:=?_) (a':=?_) (eH 23 2097151) rfl rfl (bS HT_.out (by kernel_rfl)) (fun _ _ _ h => h) (Or.inl ⟨by rfl,?_⟩) ?_ ?_;rotate_left
                   ·intro w'
                    go_simp;(with_reducible rfl)
                   rotate_left
                   ·simp only [Act.put,cO,cL,cP,bE,bJ]
                    rfl
                   refine bY (i:=21) (N:=some 84) (v:=?_) (a':=?_) (eH 23 4194303) rfl rfl (bS HT_.out (by kernel_rfl)) (fun _ _ _ h => h) (Or.inl ⟨by rfl,?_⟩) ?_ ?_;rotate_left
                   ·intro w'
                    go_simp;(with_reducible rfl)
                   rotate_left
                   ·simp only [Act.put,cO,cL,cP,bE,bJ]
                    rfl
                   refine QH (i:=22) (N:=none) (eH 23 8388607) rfl rfl (jO HT_.out (by kernel_rfl)) (by decide) (fun K hK => ?_);refine LI (w1:=?_) (by rfl) rfl ?_ ?_;rotate_left
                   ·go_simp
                    rfl
                   refine hK.out _ _ ?_;clear hK K;refine yV (rJ HT_.out (by kernel_rfl)) ?_
                   try go_wp2
                   go_roundg k4
                   case measure => have:=HJ2.out;have:=vJ.out;have:=zN.out;have:=ZM.out;omega
                   case rel => exact ⟨(wrap64 (mP + 1)),(y375),(.slice (some ⟨go39,0,none⟩) iX.length aWW),nL,H',⟨by have:=HJ2.out;have:=vJ.out;have:=zN.out;have:=ZM.out;omega⟩,⟨eQ HQ41.out⟩,⟨by (with_reducible repeat first | apply aD | apply aH | apply aE);refine bF ?_ (by have h_:=Kd.jE iY.out dX.out (by decide);intro e_;exact h_ (by rw [e_];rfl)) _;(with_reducible repeat first | apply aD | apply aH | apply aE);exact dX.out⟩,⟨by (with_reducible repeat first | apply aD | apply aH | apply aE);refine bF ?_ (by have h_:=Kd.jE iY.out kG.out (by decide);intro e_;exact h_ (by rw [e_];rfl)) _;(with_reducible repeat first | apply aD | apply aH | apply aE);exact kG.out⟩,⟨jU HB GB39 oV aBs⟩⟩
                  ·rw [if_neg c38] at H
                   exact absurd H (by simp)
                 ·rw [if_neg c37] at H
                  exact absurd H (by simp)
                ·rw [if_neg c34] at H
                 exact absurd H (by simp)
               ·rw [if_neg c33] at H
                exact absurd H (by simp)
              ·rw [if_neg c32] at H
               exact absurd H (by simp)
             ·rw [if_neg FQ] at H
              have QZ : decide (mP < (l1.length : Int)) = false:=decide_eq_false FQ;clear FQ;have H':=aA.mk H;clear H
              go_wp2
              go_roundg k4
              case measure => have:=HJ2.out;have:=vJ.out;have:=zN.out;have:=ZM.out;omega
              case rel => exact ⟨(wrap64 (fE + 1)),(iX),(qH),nL,H',⟨by have:=HJ2.out;have:=vJ.out;have:=zN.out;have:=ZM.out;omega⟩,⟨eQ iY.out⟩,⟨gM dX.out⟩,⟨gM kG.out⟩,⟨cR HB oV aBs⟩⟩
          ·rw [if_neg TH] at H
           have MA : decide (fE < (l0.length : Int)) = false:=decide_eq_false TH;clear TH;simp only [Option.some.injEq,Prod.mk.injEq] at H;obtain ⟨rfl,rfl,rfl,rfl⟩:=H;have aMy:=VD.out;have aMr:=zA.out;have aEg:=bO kG 0 (.int .i64 AY) rfl;have aEf:=bO kG 1 (.int .i64 xW) rfl;have aEe:=bO kG 2 qH rfl;have aDI:=aC kG.out 0;have aDH:=aC kG.out 1;have aDG:=aC kG.out 2;have aEd:=bO dX 0 (.int .i64 sA) rfl;have aEc:=bO dX 1 (.int .i64 pN) rfl;have aEb:=bO dX 2 (.slice none 0 0) rfl;have aDF:=aC dX.out 0;have aDE:=aC dX.out 1;have aDD:=aC dX.out 2;obtain ⟨aSx,aRa,eo45⟩:=Kd.cM iY.out;subst eo45
           go_wp2
           refine bodyPost_ret (dE rfl _ _ yT 24 #[.int .i64 AY,.int .i64 xW,.slice aSx uZ.length aRa] (0,0) _ rfl (by (with_reducible repeat first | apply aD | apply aH | apply aE);refine bA (cs:=#[.int .i64 AY,.int .i64 xW,.slice none 0 0]) ?_ 2 _ rfl;(with_reducible repeat first | apply aD | apply aH | apply aE);refine bA (cs:=#[.int .i64 AY,.int .i64 pN,.slice none 0 0]) ?_ 1 _ rfl;(with_reducible repeat first | apply aD | apply aH | apply aE);refine bA (cs:=#[.int .i64 sA,.int .i64 pN,.slice none 0 0]) ?_ 0 _ rfl;(with_reducible repeat first | apply aD | apply aH | apply aE);exact dX.out) Try.underlying24 rfl (by kernel_rfl)) rfl ?_;exact ⟨_,uB,by (with_reducible repeat first | apply Kd.cK | apply Kd.cJ | apply Kd.cC);exact Kd.cN (Kd.dD (p:=⟨yT,2,none⟩) (Kd.dD (p:=⟨yT,1,none⟩) (Kd.dD (p:=⟨yT,0,none⟩) (Kd.eC iY.out dX.out (by decide)) (fun _ hk => hk.2) (.int .i64 AY)) (fun _ hk => hk.2) (.int .i64 xW)) (fun _ hk => hk.2) (.slice aSx uZ.length aRa)) (fun _ hk => trivial),cR HB oV aBs⟩
    ·rw [if_neg c9] at H
     exact absurd H (by simp)
end Go.Proofs.Yteofcbkjhdadpaa.Pr
