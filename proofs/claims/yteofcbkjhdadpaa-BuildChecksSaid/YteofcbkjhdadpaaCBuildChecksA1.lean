/- What the functions compute that the law BuildChecks reaches, proved by walking them; conditions stand at each theorem. -/
import Derived.WalkKit
import Derived.WalkSpells
import Derived.WalkLawsBesides
import Derived.Lib.Hide
import Derived.Laws.BitsAllLaws
import Derived.Deep.WholeRow
import Derived.Laws.NewBlocks
import Derived.Below
import Derived.Laws.Rows
import Derived.Laws.MakeOwn
import Derived.Laws.OwnMore
import Derived.Deep.Draws
import Derived.Deep.QuietTactic
import Derived.BigQuiet
import Derived.IntWalk
import Derived.OwnWalk
import Derived.RegionTactic
import Derived.Deep.AppendLies
import Derived.Maps.AppendAt
import Derived.Laws.CopyOwn
import Derived.Deep.RegionHeld3
import Derived.Deep.CutRange
import Derived.Deep.Cut
import Derived.Test.YteofcbkjhdadpaaProg
import Derived.Test.YteofcbkjhdadpaaCBuildChecksw1
import Derived.Test.YteofcbkjhdadpaaCBuildChecksq
set_option maxHeartbeats 12800000
set_option maxRecDepth 100000
set_option linter.unusedSimpArgs false
set_option linter.unusedVariables false
namespace Go.Proofs.Yteofcbkjhdadpaa
def JS (xs : List UInt8) : Nat→Bool
 | 0 => false
 | i + 1 => JS xs i || decide (xs.getD i 0∈xs.take i)
def aFH (xs : List UInt8) : Bool:=JS xs xs.length
theorem JR {xs : List UInt8} : ∀ {i},JS xs i = false → ∀ k,k < i→xs.getD k 0 ∉ xs.take k
 | 0,_,k,hk => by omega
 | i + 1,h,k,hk => by
  rw [JS,Bool.or_eq_false_iff] at h
  rcases Nat.lt_or_ge k i with h1 | h1
  ·exact JR h.1 k h1
  ·obtain rfl : k = i:=by omega
   exact of_decide_eq_false h.2
theorem ZL {xs : List UInt8} {k : Nat} (hs : xs.getD k 0∈xs.take k) : ∀ i,k < i→JS xs i = true
 | 0,h => by omega
 | i + 1,h => by
  rw [JS,Bool.or_eq_true]
  rcases Nat.lt_or_ge k i with h1 | h1
  ·exact .inl (ZL hs i h1)
  ·obtain rfl : k = i:=by omega
   exact .inr (decide_eq_true hs)
theorem MJ {xs : List UInt8} {k j : Nat} (hj : j < k) (hk : j < xs.length) : xs.getD j 0∈xs.take k:=by
 have e : xs.getD j 0 = (xs.take k)[j]'(by rw [List.length_take];omega):=by
  simp [List.getD,hk]
 rw [e];exact List.getElem_mem _
theorem aUK {xs : List UInt8} (h : aFH xs = false) {i j : Nat} (hi : i < xs.length) (hj : j < xs.length) (hne : i≠j) : xs.getD i 0≠xs.getD j 0:=by
 intro e
 rcases Nat.lt_or_ge i j with h1 | h1
 ·exact JR h j hj (by rw [← e];exact MJ h1 hi)
 ·exact JR h i hi (by rw [e];exact MJ (by omega) hj)
end Go.Proofs.Yteofcbkjhdadpaa
namespace Go.Proofs.Yteofcbkjhdadpaa.Gf
def dbl (a : UInt8) : UInt8:=if a &&& 128 = 0 then a <<< 1 else (a <<< 1) ^^^ 29
def add (a b : UInt8) : UInt8:=a ^^^ b
def zR : Nat→UInt8→UInt8→UInt8→UInt8
 | 0,_,_,p => p
 | n + 1,a,b,p => zR n (dbl a) (b >>> 1) (if b &&& 1 = 0 then p else p ^^^ a)
def mul (a b : UInt8) : UInt8:=zR 8 a b 0
def ex : Nat→UInt8
 | 0 => 1
 | n + 1 => dbl (ex n)
def aWq : Nat→UInt8→Nat→UInt8→Nat
 | 0,_,n,_ => n
 | k + 1,p,n,a => if p = a then n else aWq k (dbl p) (n + 1) a
def lg (a : UInt8) : Nat:=aWq 255 1 0 a
theorem OA {P : UInt8→Prop} (h : ∀ n,n < 256→P (UInt8.ofNat n)) (a : UInt8) : P a:=by
 have h1:=h a.toNat a.toNat_lt
 rwa [UInt8.ofNat_toNat] at h1
def aLs (a : Nat) : Nat:=if a.testBit 7 then (a <<< 1) ^^^ 285 else a <<< 1
theorem aNS (a b : Nat) : aLs (a ^^^ b) = aLs a ^^^ aLs b:=by
 unfold aLs;rw [Nat.testBit_xor,Nat.shiftLeft_xor_distrib];generalize a <<< 1 = x;generalize b <<< 1 = y
 cases a.testBit 7 <;> cases b.testBit 7 <;> simp
 ·rw [Nat.xor_assoc]
 ·rw [Nat.xor_assoc,Nat.xor_assoc,Nat.xor_comm y]
 ·rw [Nat.xor_assoc,← Nat.xor_assoc 285 y,Nat.xor_comm 285 y,Nat.xor_assoc y,Nat.xor_self,Nat.xor_zero]
theorem LL (a : UInt8) : (dbl a).toNat = aLs a.toNat:=by
 revert a
 apply OA
 decide +kernel
theorem aJn (a b : UInt8) : dbl (a ^^^ b) = dbl a ^^^ dbl b:=by
 apply UInt8.toNat_inj.1;rw [LL,UInt8.toNat_xor,UInt8.toNat_xor,LL,LL];exact aNS _ _
theorem aNR : dbl 0 = 0:=by decide
theorem aLd (n : Nat) : ∀ a b p,zR n (dbl a) b (dbl p) = dbl (zR n a b p):=by
 induction n with
 | zero => intro a b p;rfl
 | succ n ih =>
  intro a b p;simp only [zR];rw [← ih]
  by_cases h : b &&& 1 = 0
  ·simp [h]
  ·simp [h,aJn]
theorem aLe (n : Nat) : ∀ a a' b p p',zR n (a ^^^ a') b (p ^^^ p') = zR n a b p ^^^ zR n a' b p':=by
 induction n with
 | zero => intro a a' b p p';rfl
 | succ n ih =>
  intro a a' b p p';simp only [zR];rw [aJn,← ih]
  by_cases h : b &&& 1 = 0
  ·simp [h]
  ·simp only [h,if_false]
   congr 1
   rw [UInt8.xor_assoc,UInt8.xor_assoc]
   congr 1
   rw [← UInt8.xor_assoc,← UInt8.xor_assoc,UInt8.xor_comm p' a]
theorem aQb (a b : UInt8) : mul (dbl a) b = dbl (mul a b):=by
 unfold mul;rw [← aLd,aNR]
theorem FX (a b c : UInt8) : mul (a ^^^ b) c = mul a c ^^^ mul b c:=by
 unfold mul;rw [← aLe,UInt8.xor_zero]
theorem eS (b : UInt8) : mul 0 b = 0:=by
 have h:=FX 0 0 b;rw [UInt8.xor_self] at h;rw [h,UInt8.xor_self]
theorem one_mul (b : UInt8) : mul 1 b = b:=by
 revert b
 apply OA
 decide +kernel
theorem mul_zero (a : UInt8) : mul a 0 = 0:=by
 revert a
 apply OA
 decide +kernel
/-! powers of 2 -/
theorem aUJ : ex 255 = 1:=by decide +kernel
theorem aHt (m : Nat) (n : Nat) : mul (ex m) (ex n) = ex (m + n):=by
 induction m with
 | zero => simp [ex,one_mul]
 | succ m ih =>
  rw [Nat.add_right_comm];simp only [ex];rw [aQb,ih]
theorem aBN (n : Nat) : ex (n + 255) = ex n:=by rw [Nat.add_comm,← aHt,aUJ,one_mul]
theorem aNO (k n : Nat) : ex (n + 255 * k) = ex n:=by
 induction k with
 | zero => rfl
 | succ k ih => rw [Nat.mul_succ,← Nat.add_assoc,aBN,ih]
theorem ZK (n : Nat) : ex (n % 255) = ex n:=by
 conv => rhs;rw [← Nat.mod_add_div n 255]
 rw [aNO]
theorem aRV : ∀ n,n < 256→UInt8.ofNat n≠0→lg (UInt8.ofNat n) < 255∧ex (lg (UInt8.ofNat n)) = UInt8.ofNat n:=by decide +kernel
theorem aBA {a : UInt8} (h : a≠0) : lg a < 255:=(OA (P:=fun a => a≠0→lg a < 255∧ex (lg a) = a) aRV a h).1
theorem aJl {a : UInt8} (h : a≠0) : ex (lg a) = a:=(OA (P:=fun a => a≠0→lg a < 255∧ex (lg a) = a) aRV a h).2
theorem aUx : ∀ n,n < 255→lg (ex n) = n:=by decide +kernel
theorem aNd (n : Nat) : lg (ex n) = n % 255:=by
 rw [← ZK];exact aUx _ (Nat.mod_lt _ (by decide))
theorem aUH : ∀ n,n < 255→ex n≠0:=by decide +kernel
theorem aSR (n : Nat) : ex n≠0:=by
 rw [← ZK];exact aUH _ (Nat.mod_lt _ (by decide))
theorem aUI {m n : Nat} (h : ex m = ex n) : m % 255 = n % 255:=by rw [← aNd,← aNd,h]
theorem mul_eq {a b : UInt8} (ha : a≠0) (hb : b≠0) : mul a b = ex (lg a + lg b):=by
 conv => lhs;rw [← aJl ha,← aJl hb]
 exact aHt _ _
theorem mul_comm (a b : UInt8) : mul a b = mul b a:=by
 by_cases ha : a = 0
 ·subst ha;rw [eS,mul_zero]
 by_cases hb : b = 0
 ·subst hb;rw [eS,mul_zero]
 rw [mul_eq ha hb,mul_eq hb ha,Nat.add_comm]
theorem aMW {a b : UInt8} (ha : a≠0) (hb : b≠0) : mul a b≠0:=by
 rw [mul_eq ha hb];exact aSR _
theorem aNc {a b : UInt8} (ha : a≠0) (hb : b≠0) : lg (mul a b) = (lg a + lg b) % 255:=by
 rw [mul_eq ha hb,aNd]
theorem mul_assoc (a b c : UInt8) : mul (mul a b) c = mul a (mul b c):=by
 by_cases ha : a = 0
 ·subst ha;simp only [eS]
 by_cases hb : b = 0
 ·subst hb;simp only [eS,mul_zero]
 by_cases hc : c = 0
 ·subst hc;simp only [mul_zero]
 rw [mul_eq (aMW ha hb) hc,mul_eq ha (aMW hb hc),aNc ha hb,aNc hb hc];rw [← ZK,← ZK (lg a + _)]
 congr 1
 omega
theorem mul_one (a : UInt8) : mul a 1 = a:=by rw [mul_comm,one_mul]
theorem aQa (a b c : UInt8) : mul a (b ^^^ c) = mul a b ^^^ mul a c:=by
 rw [mul_comm,FX,mul_comm b,mul_comm c]
theorem add_comm (a b : UInt8) : add a b = add b a:=UInt8.xor_comm _ _
theorem add_assoc (a b c : UInt8) : add (add a b) c = add a (add b c):=UInt8.xor_assoc _ _ _
theorem KD (a : UInt8) : add a a = 0:=UInt8.xor_self
theorem add_zero (a : UInt8) : add a 0 = a:=UInt8.xor_zero
theorem zero_add (a : UInt8) : add 0 a = a:=UInt8.zero_xor
theorem add_left_comm (a b c : UInt8) : add a (add b c) = add b (add a c):=by rw [← add_assoc,add_comm a b,add_assoc]
theorem aHF (a b : UInt8) : add a (add a b) = b:=by rw [← add_assoc,KD,zero_add]
theorem add_eq_zero (a b : UInt8) : add a b = 0 ↔ a = b:=by
 constructor
 ·intro h
  have:=aHF a b;rw [h,add_zero] at this;exact this
 ·rintro rfl;exact KD _
theorem mul_add (a b c : UInt8) : mul a (add b c) = add (mul a b) (mul a c):=aQa _ _ _
theorem add_mul (a b c : UInt8) : mul (add a b) c = add (mul a c) (mul b c):=FX _ _ _
def inv (a : UInt8) : UInt8:=if a = 0 then 0 else ex (255 - lg a)
theorem aNg {a : UInt8} (h : a≠0) : inv a≠0:=by unfold inv;rw [if_neg h];exact aSR _
theorem aIs {a : UInt8} (h : a≠0) : mul a (inv a) = 1:=by
 unfold inv;rw [if_neg h];have h1:=aHt (lg a) (255 - lg a);have:=aBA h;rw [aJl h,show lg a + (255 - lg a) = 0 + 255 * 1 from by omega,aNO] at h1;exact h1
theorem inv_mul {a : UInt8} (h : a≠0) : mul (inv a) a = 1:=by rw [mul_comm,aIs h]
theorem aHp {a b : UInt8} (h : mul a b = 1) : b = inv a:=by
 have ha : a≠0:=by rintro rfl;rw [eS] at h;exact absurd h (by decide)
 have:=mul_assoc (inv a) a b;rw [h,inv_mul ha,mul_one,one_mul] at this;exact this
def npow (a : UInt8) : Nat→UInt8
 | 0 => 1
 | n + 1 => mul (npow a n) a
def pw (a : UInt8) (n : Int) : UInt8:=if n = 0 then 1 else if a = 0 then 0 else ex (lg a * (n % 255).toNat % 255)
/-! the document's product: shifted sums,then the remainder -/
def oI (p i : Nat) : Nat:=if p.testBit i then p ^^^ (285 <<< (i - 8)) else p
def aCN (p : Nat) : Nat:=oI (oI (oI (oI (oI (oI (oI p 14) 13) 12) 11) 10) 9) 8
theorem aGR (p q i : Nat) : oI (p ^^^ q) i = oI p i ^^^ oI q i:=by
 unfold oI;rw [Nat.testBit_xor];generalize 285 <<< (i - 8) = c
 cases p.testBit i <;> cases q.testBit i <;> simp
 ·rw [Nat.xor_assoc]
 ·rw [Nat.xor_assoc,Nat.xor_assoc,Nat.xor_comm q c]
 ·rw [Nat.xor_assoc,← Nat.xor_assoc c q c,Nat.xor_comm c q,Nat.xor_assoc q c c,Nat.xor_self,Nat.xor_zero]
theorem aMx (p q : Nat) : aCN (p ^^^ q) = aCN p ^^^ aCN q:=by unfold aCN;simp only [aGR]
def zP (a b : Nat) : Nat→Nat
 | 0 => 0
 | n + 1 => if b.testBit n then zP a b n ^^^ (a <<< n) else zP a b n
def aFJ : Nat→Nat→Nat
 | 0,a => a
 | n + 1,a => aLs (aFJ n a)
theorem aKG : ∀ a,a < 256 → ∀ i,i < 8→aCN (a <<< i) = aFJ i a:=by decide +kernel
def SS (a b : Nat) : Nat→Nat
 | 0 => 0
 | n + 1 => if b.testBit n then SS a b n ^^^ aFJ n a else SS a b n
theorem aCM (a b : Nat) (ha : a < 256) : ∀ n,n≤8→aCN (zP a b n) = SS a b n
 | 0,_ => by show aCN 0 = 0;decide
 | n + 1,h => by
  simp only [zP,SS]
  by_cases hb : b.testBit n = true
  ·rw [if_pos hb,if_pos hb,aMx,aCM a b ha n (by omega),aKG a ha n (by omega)]
  ·rw [if_neg hb,if_neg hb,aCM a b ha n (by omega)]
def aLr : Nat→UInt8→UInt8
 | 0,a => a
 | n + 1,a => dbl (aLr n a)
theorem aHw (n : Nat) (a : UInt8) : (aLr n a).toNat = aFJ n a.toNat:=by
 induction n with
 | zero => rfl
 | succ n ih => simp only [aLr,aFJ,LL,ih]
def shs : Nat→UInt8→UInt8
 | 0,b => b
 | n + 1,b => shs n b >>> 1
def aAP (a b : UInt8) : Nat→UInt8
 | 0 => 0
 | n + 1 => if b.toNat.testBit n then aAP a b n ^^^ aLr n a else aAP a b n
theorem aKy (k : Nat) (b : UInt8) : (shs k b).toNat = b.toNat / 2 ^ k:=by
 induction k with
 | zero => simp [shs]
 | succ k ih =>
  simp only [shs];rw [UInt8.toNat_shiftRight,ih]
  simp [Nat.shiftRight_eq_div_pow,Nat.div_div_eq_div_mul,Nat.pow_succ]
theorem aIj (k : Nat) (b : UInt8) : shs k b &&& 1 = 0 ↔ ¬ b.toNat.testBit k = true:=by
 rw [← UInt8.toNat_inj,UInt8.toNat_and,aKy,Nat.testBit_eq_decide_div_mod_eq];show (b.toNat / 2 ^ k) &&& 1 = 0 ↔ _;rw [Nat.and_one_is_mod]
 simp
theorem aHm (a b : UInt8) (n : Nat) : ∀ k,zR n (aLr k a) (shs k b) (aAP a b k) = aAP a b (k + n):=by
 induction n with
 | zero => intro k;rfl
 | succ n ih =>
  intro k;have h:=ih (k + 1);rw [Nat.add_right_comm,Nat.add_assoc] at h;rw [← h];simp only [zR];have e : (if shs k b &&& 1 = 0 then aAP a b k else aAP a b k ^^^ aLr k a) = aAP a b (k + 1):=by
   simp only [aAP]
   by_cases hb : b.toNat.testBit k = true
   ·rw [if_pos hb,if_neg (fun h => (aIj k b).1 h hb)]
   ·rw [if_neg hb,if_pos ((aIj k b).2 hb)]
  rw [e];rfl
theorem aGK (a b : UInt8) (k : Nat) : (aAP a b k).toNat = SS a.toNat b.toNat k:=by
 induction k with
 | zero => rfl
 | succ k ih =>
  simp only [aAP,SS]
  by_cases hb : b.toNat.testBit k = true
  ·rw [if_pos hb,if_pos hb,UInt8.toNat_xor,ih,aHw]
  ·rw [if_neg hb,if_neg hb,ih]
theorem aPK (a b : UInt8) : aCN (zP a.toNat b.toNat 8) = (mul a b).toNat:=by
 rw [aCM _ _ a.toNat_lt 8 (Nat.le_refl _),← aGK];have h:=aHm a b 8 0;exact congrArg UInt8.toNat h.symm
theorem YG (a b : Nat) (ha : a < 256) : ∀ n,n≤8→zP a b n < 2 ^ 15
 | 0,_ => by simp [zP]
 | n + 1,h => by
  have ih:=YG a b ha n (by omega);simp only [zP];have h1 : a <<< n < 2 ^ 15:=by
   rw [Nat.shiftLeft_eq]
   calc a * 2 ^ n≤255 * 2 ^ 7:=Nat.mul_le_mul (by omega) (Nat.pow_le_pow_right (by omega) (by omega))
    _ < 2 ^ 15:=by decide
  by_cases hb : b.testBit n = true
  ·rw [if_pos hb];exact Nat.xor_lt_two_pow ih h1
  ·rw [if_neg hb];exact ih
theorem aBp (p i : Nat) (hi : i≤14) (hp : p < 2 ^ 15) : oI p i < 2 ^ 15:=by
 unfold oI
 by_cases hb : p.testBit i = true
 ·rw [if_pos hb]
  refine Nat.xor_lt_two_pow hp ?_;rw [Nat.shiftLeft_eq]
  calc 285 * 2 ^ (i - 8)≤285 * 2 ^ 6:=Nat.mul_le_mul (Nat.le_refl _) (Nat.pow_le_pow_right (by omega) (by omega))
   _ < 2 ^ 15:=by decide
 ·rw [if_neg hb];exact hp
def aCP : Nat→Nat→Nat
 | 0,p => p
 | n + 1,p => aCP n (oI p (n + 8))
/-! lists -/
def sY (dst : List UInt8) (c : UInt8) (src : List UInt8) : List UInt8:=List.zipWith (fun d s => add d (mul c s)) dst src
def QT (xs ys : List UInt8) : Nat→UInt8
 | 0 => 0
 | i + 1 => add (QT xs ys i) (mul (xs.getD i 0) (ys.getD i 0))
def dot (xs ys : List UInt8) : UInt8:=QT xs ys xs.length
end Go.Proofs.Yteofcbkjhdadpaa.Gf
namespace Go.Proofs.Yteofcbkjhdadpaa
def qM (R C : Nat) (f : Nat→Nat→UInt8) : List UInt8:=(List.range (R * C)).map fun p => f (p / C) (p % C)
theorem lZ (R C : Nat) (f : Nat→Nat→UInt8) : (qM R C f).length = R * C:=by simp [qM]
theorem mI {R C i j : Nat} (hi : i < R) (hj : j < C) : i * C + j < R * C:=by
 have h : (i + 1) * C≤R * C:=Nat.mul_le_mul_right C hi;rw [Nat.add_mul] at h;omega
theorem SG {C i j : Nat} (hj : j < C) : (i * C + j) / C = i:=by
 rw [Nat.add_comm,Nat.add_mul_div_right _ _ (by omega),Nat.div_eq_of_lt hj,Nat.zero_add]
theorem SF {C i j : Nat} (hj : j < C) : (i * C + j) % C = j:=by
 rw [Nat.add_comm,Nat.add_mul_mod_self_right,Nat.mod_eq_of_lt hj]
theorem aFe {R C p : Nat} (hp : p < R * C) : p / C < R∧p % C < C∧p = p / C * C + p % C:=by
 have hC : 0 < C:=by
  rcases Nat.eq_zero_or_pos C with h | h
  ·subst h;simp at hp
  ·exact h
 refine ⟨(Nat.div_lt_iff_lt_mul hC).2 hp,Nat.mod_lt _ hC,?_⟩;have:=Nat.div_add_mod p C;rw [Nat.mul_comm] at this;omega
theorem JJ {R C i j : Nat} (f : Nat→Nat→UInt8) (hi : i < R) (hj : j < C) : (qM R C f)[i * C + j]? = some (f i j):=by
 simp only [qM,List.getElem?_map,List.getElem?_range (mI hi hj),Option.map_some,SG hj,SF hj]
theorem EM {R C i j : Nat} (f : Nat→Nat→UInt8) (hi : i < R) (hj : j < C) : (qM R C f).getD (i * C + j) 0 = f i j:=by
 rw [List.getD_eq_getElem?_getD,JJ f hi hj];rfl
theorem pM {R C : Nat} {f g : Nat→Nat→UInt8} (h : ∀ i j,i < R→j < C→f i j = g i j) : qM R C f = qM R C g:=by
 unfold qM;apply List.map_congr_left;intro p hp;obtain ⟨h1,h2,_⟩:=aFe (List.mem_range.1 hp);exact h _ _ h1 h2
theorem aFA {R C : Nat} {xs : List UInt8} {f : Nat→Nat→UInt8} (hl : xs.length = R * C) (h : ∀ i j,i < R→j < C→xs[i * C + j]? = some (f i j)) : xs = qM R C f:=by
 apply List.ext_getElem?;intro p
 rcases Nat.lt_or_ge p (R * C) with hp | hp
 ·obtain ⟨h1,h2,h3⟩:=aFe hp
  rw [h3,h _ _ h1 h2,JJ f h1 h2]
 ·rw [List.getElem?_eq_none (by omega),List.getElem?_eq_none (by rw [lZ];omega)]
theorem aBF (R C : Nat) : List.replicate (R * C) 0 = qM R C (fun _ _ => 0):=by
 unfold qM;rw [List.map_const',List.length_range]
theorem aKQ {C i j a b : Nat} (hj : j < C) (hb : b < C) (h : i * C + j = a * C + b) : i = a∧j = b :=
 ⟨by have h1:=congrArg (· / C) h;simpa only [SG hj,SG hb] using h1,by have h1:=congrArg (· % C) h;simpa only [SF hj,SF hb] using h1⟩
theorem ZF {R C i j : Nat} (f : Nat→Nat→UInt8) (v : UInt8) (hi : i < R) (hj : j < C) : (qM R C f).set (i * C + j) v = qM R C (fun a b => if a = i∧b = j then v else f a b):=by
 refine aFA (by rw [List.length_set,lZ]) fun a b ha hb => ?_
 rw [List.getElem?_set]
 by_cases h : i * C + j = a * C + b
 ·obtain ⟨rfl,rfl⟩:=aKQ hj hb h
  rw [if_pos rfl,if_pos (by rw [lZ];exact mI hi hj),if_pos ⟨rfl,rfl⟩]
 ·rw [if_neg h,JJ f ha hb,if_neg (by rintro ⟨rfl,rfl⟩;exact h rfl)]
theorem aND {R C i : Nat} (f : Nat→Nat→UInt8) (hi : i < R) : ((qM R C f).drop (i * C)).take C = (List.range C).map (f i):=by
 apply List.ext_getElem?;intro j;rw [List.getElem?_take]
 rcases Nat.lt_or_ge j C with hj | hj
 ·rw [if_pos hj,List.getElem?_drop,JJ f hi hj,List.getElem?_map,List.getElem?_range hj];rfl
 ·rw [if_neg (by omega),List.getElem?_eq_none (by simpa using hj)]
theorem aBG {R C i j : Nat} (f : Nat→Nat→UInt8) (hi : i < R) (hj : j < C) : (qM R C f).take (i * C + j) ++ [f i j] = (qM R C f).take (i * C + j + 1):=by
 rw [List.take_add_one,JJ f hi hj];rfl
def sO (R C : Nat) (f : Nat→Nat→UInt8) (i j : Nat) : List UInt8:=qM R C (fun a b => if a < i ∨ (a = i∧b < j) then f a b else 0)
theorem JN (R C : Nat) (f : Nat→Nat→UInt8) : List.replicate (R * C) 0 = sO R C f 0 0:=by
 rw [aBF];exact pM fun i j _ _ => (if_neg (by omega)).symm
theorem SQ {R C i j : Nat} (f : Nat→Nat→UInt8) (hi : i < R) (hj : j < C) : (sO R C f i j).set (i * C + j) (f i j) = sO R C f i (j + 1):=by
 unfold sO;rw [ZF _ _ hi hj];refine pM fun a b _ _ => ?_
 by_cases h : a = i∧b = j
 ·rw [if_pos h,if_pos (by omega),h.1,h.2]
 ·rw [if_neg h]
  by_cases h2 : a < i ∨ (a = i∧b < j)
  ·rw [if_pos h2,if_pos (by omega)]
  ·rw [if_neg h2,if_neg (by omega)]
theorem NR (R C i : Nat) (f : Nat→Nat→UInt8) : sO R C f i C = sO R C f (i + 1) 0:=by
 refine pM fun a b _ hb => ?_
 by_cases h : a < i ∨ (a = i∧b < C)
 ·rw [if_pos h,if_pos (by omega)]
 ·rw [if_neg h,if_neg (by omega)]
theorem SR (R C : Nat) (f : Nat→Nat→UInt8) : sO R C f R 0 = qM R C f:=pM fun a b ha _ => if_pos (by omega)
theorem AO (R C i j : Nat) (f : Nat→Nat→UInt8) : (sO R C f i j).length = R * C:=lZ _ _ _
theorem aNN {R C i j : Nat} (f : Nat→Nat→UInt8) (hi : i < R) (hj : j < C) : (sO R C f i j).set (i * C + j) 0 = sO R C f i j:=by
 unfold sO;rw [ZF _ _ hi hj];refine pM fun a b _ _ => ?_
 by_cases h : a = i∧b = j
 ·rw [if_pos h,if_neg (by omega)]
 ·rw [if_neg h]
def JO (R C : Nat) (f : Nat→Nat→UInt8) (j i : Nat) : List UInt8:=qM R C (fun a b => if b < j ∨ (b = j∧a < i) then f a b else 0)
theorem aFF (R C : Nat) (f : Nat→Nat→UInt8) : List.replicate (R * C) 0 = JO R C f 0 0:=by
 rw [aBF];exact pM fun i j _ _ => (if_neg (by omega)).symm
theorem aLn {R C i j : Nat} (f : Nat→Nat→UInt8) (hi : i < R) (hj : j < C) : (JO R C f j i).set (i * C + j) (f i j) = JO R C f j (i + 1):=by
 unfold JO;rw [ZF _ _ hi hj];refine pM fun a b _ _ => ?_
 by_cases h : a = i∧b = j
 ·rw [if_pos h,if_pos (by omega),h.1,h.2]
 ·rw [if_neg h]
  by_cases h2 : b < j ∨ (b = j∧a < i)
  ·rw [if_pos h2,if_pos (by omega)]
  ·rw [if_neg h2,if_neg (by omega)]
theorem aHs (R C j : Nat) (f : Nat→Nat→UInt8) : JO R C f j R = JO R C f (j + 1) 0:=by
 refine pM fun a b ha _ => ?_
 by_cases h : b < j ∨ (b = j∧a < R)
 ·rw [if_pos h,if_pos (by omega)]
 ·rw [if_neg h,if_neg (by omega)]
theorem aLo (R C : Nat) (f : Nat→Nat→UInt8) : JO R C f C 0 = qM R C f:=pM fun a b _ hb => if_pos (by omega)
theorem aEs (R C i j : Nat) (f : Nat→Nat→UInt8) : (JO R C f i j).length = R * C:=lZ _ _ _
/-! sums -/
def RV : Nat→(Nat→UInt8)→UInt8
 | 0,_ => 0
 | n + 1,f => Gf.add (RV n f) (f n)
theorem aGJ {n : Nat} {f g : Nat→UInt8} (h : ∀ i,i < n→f i = g i) : RV n f = RV n g:=by
 induction n with
 | zero => rfl
 | succ n ih => rw [RV,RV,ih (fun i hi => h i (by omega)),h n (by omega)]
theorem aBS (xs ys : List UInt8) : ∀ n,Gf.QT xs ys n = RV n (fun k => Gf.mul (xs.getD k 0) (ys.getD k 0))
 | 0 => rfl
 | n + 1 => by rw [Gf.QT,RV,aBS xs ys n]
theorem aRo {xs ys : List UInt8} {n : Nat} (h : xs.length = n) : Gf.dot xs ys = RV n (fun k => Gf.mul (xs.getD k 0) (ys.getD k 0)):=by
 unfold Gf.dot;rw [h,aBS]
end Go.Proofs.Yteofcbkjhdadpaa
namespace Go.Proofs.Yteofcbkjhdadpaa
open Go.RowKit
theorem YK {a b : Int} (h : a = b) : Ending.returned (.int .u8 a) = .returned (.int .u8 b):=by rw [h]
theorem aRw (a b : UInt8) : bits .and .u8 (a.toNat : Int) (b.toNat : Int) = ((a &&& b).toNat : Int):=by
 rw [u8_and_nat _ _ a.toNat_lt b.toNat_lt,UInt8.toNat_and]
theorem GS (a b : UInt8) : bits .xor .u8 (a.toNat : Int) (b.toNat : Int) = ((Gf.add a b).toNat : Int):=by
 unfold Gf.add;rw [u8_xor_nat _ _ a.toNat_lt b.toNat_lt,UInt8.toNat_xor]
theorem toNat_zero (a : UInt8) : a.toNat = 0 ↔ a = 0:=UInt8.toNat_inj (b:=0)
theorem xC (a : UInt8) : ((a.toNat : Int) == 0) = decide (a = 0):=by
 rw [Bool.eq_iff_iff];simp [toNat_zero]
theorem aCy (b : UInt8) : (b >>> 1).toNat = b.toNat / 2:=by
 rw [UInt8.toNat_shiftRight];simp [Nat.shiftRight_eq_div_pow]
theorem aHv : ∀ n,n < 256→(bits BinOp.and IntKind.u8 ((UInt8.ofNat n).toNat : Int) 128 != 0) = true→bits BinOp.xor IntKind.u8 (((UInt8.ofNat n).toNat : Int) * 2 % 256) 29 = ((Gf.dbl (UInt8.ofNat n)).toNat : Int):=by decide +kernel
theorem aLp : ∀ n,n < 256→(bits BinOp.and IntKind.u8 ((UInt8.ofNat n).toNat : Int) 128 != 0) = false→(((UInt8.ofNat n).toNat : Int) * 2 % 256) = ((Gf.dbl (UInt8.ofNat n)).toNat : Int):=by decide +kernel
theorem GQ (a : UInt8) (w : World) :
  Calls Try.prog 87 #[.int .u8 (a.toNat : Int)] w fun e w' => e = .returned (.int .u8 ((Gf.dbl a).toNat : Int))∧w = w':=by
 go_enter Try.func87,Try.ntmps87;go_wp2_with fail
 ·go_ret
  exact ⟨YK (Gf.OA (P:=fun a => (bits BinOp.and IntKind.u8 (a.toNat : Int) 128 != 0) = true→bits BinOp.xor IntKind.u8 ((a.toNat : Int) * 2 % 256) 29 = ((Gf.dbl a).toNat : Int)) aHv a ‹_›),rfl⟩
 ·go_ret
  exact ⟨YK (Gf.OA (P:=fun a => (bits BinOp.and IntKind.u8 (a.toNat : Int) 128 != 0) = false→((a.toNat : Int) * 2 % 256) = ((Gf.dbl a).toNat : Int)) aLp a ‹_›),rfl⟩
theorem aGN (b : UInt8) : ((b >>> 1).toNat : Int) = (b.toNat : Int) / 2:=by
 rw [aCy];omega
theorem Gf.aHl (n : Nat) : ∀ a p,Gf.zR n a 0 p = p:=by
 induction n with
 | zero => intro a p;rfl
 | succ n ih => intro a p;simp only [Gf.zR];rw [if_pos (by decide)];exact ih _ _
theorem aAf (b : UInt8) : (bits .and .u8 (b.toNat : Int) 1 != 0) = !decide (b &&& 1 = 0):=by
 have:=aRw b 1;rw [show ((1 : UInt8).toNat : Int) = 1 from rfl] at this;rw [this];show (!(((b &&& 1).toNat : Int) == 0)) = _;rw [xC]
end Go.Proofs.Yteofcbkjhdadpaa
namespace Go.Proofs.Yteofcbkjhdadpaa
open Go.RowKit
def zz (m n : Nat) : Array Value:=(List.replicate m (Value.int .u8 0) ++ List.replicate n (Value.int .i64 0)).toArray
theorem aPr (m n : Nat) : (zz m n).size = m + n:=by simp [zz]
theorem aTM (m n : Nat) : ∀ v,v∈(zz m n).toList→v.oneCell' = true:=by
 intro v hv;simp only [zz,List.mem_append,List.mem_replicate] at hv
 rcases hv with ⟨_,rfl⟩ | ⟨_,rfl⟩ <;> rfl
def BH : Nat→Array Value
 | 0 => zz 510 256
 | n + 1 => (((BH n).setIfInBounds n (.int .u8 ((Gf.ex n).toNat : Int))).setIfInBounds (n + 255) (.int .u8 ((Gf.ex n).toNat : Int))).setIfInBounds (510 + (Gf.ex n).toNat) (.int .i64 (n : Int))
theorem BG (n : Nat) : (BH n).size = 766:=by
 induction n with
 | zero => exact aPr 510 256
 | succ n ih => simp only [BH,Array.size_setIfInBounds,ih]
theorem YW {a : Array Value} {i : Nat} {x v : Value} (h : v∈(a.setIfInBounds i x).toList) : v = x ∨ v∈a.toList:=by
 rw [Array.toList_setIfInBounds] at h
 rcases List.mem_or_eq_of_mem_set h with h | h
 ·exact .inr h
 ·exact .inl h
theorem aKd (n : Nat) : ∀ v,v∈(BH n).toList→v.oneCell' = true:=by
 induction n with
 | zero => exact aTM _ _
 | succ n ih =>
  intro v hv;simp only [BH] at hv
  rcases YW hv with rfl | hv
  ·rfl
  rcases YW hv with rfl | hv
  ·rfl
  rcases YW hv with rfl | hv
  ·rfl
  exact ih v hv
theorem aKe (n : Nat) : (BH n).all (·.oneCell') = true:=by
 rw [Array.all_eq_true_iff_forall_mem];exact fun v hv => aKd n v (Array.mem_def.1 hv)
theorem TN (n : Nat) (hn : n≤255) : (∀ i,i < n→(BH n)[i]? = some (.int .u8 ((Gf.ex i).toNat : Int))∧(BH n)[i + 255]? = some (.int .u8 ((Gf.ex i).toNat : Int))) ∧
  (∀ i,i < n→(BH n)[510 + (Gf.ex i).toNat]? = some (.int .i64 (i : Int))):=by
 induction n with
 | zero => exact ⟨fun i h => absurd h (by omega),fun i h => absurd h (by omega)⟩
 | succ n ih =>
  obtain ⟨h1,h2⟩:=ih (by omega);have hs:=BG n;have hx:=(Gf.ex n).toNat_lt;simp only [BH,Array.getElem?_setIfInBounds,Array.size_setIfInBounds,hs];refine ⟨fun i hi => ⟨?_,?_⟩,fun i hi => ?_⟩
  ·rw [if_neg (by omega)]
   rw [if_neg (by omega)]
   by_cases e : n = i
   ·subst e;rw [if_pos rfl,if_pos (by omega)]
   ·rw [if_neg e];exact (h1 i (by omega)).1
  ·rw [if_neg (by omega)]
   by_cases e : n = i
   ·subst e;rw [if_pos rfl,if_pos (by omega)]
   ·rw [if_neg (by omega),if_neg (by omega)];exact (h1 i (by omega)).2
  ·have hxi:=(Gf.ex i).toNat_lt
   by_cases e : i = n
   ·subst e;rw [if_pos rfl,if_pos (by omega)]
   ·have hne : ¬ (510 + (Gf.ex n).toNat = 510 + (Gf.ex i).toNat):=by
     intro h;have h3 : Gf.ex n = Gf.ex i:=UInt8.toNat_inj.1 (by omega);have h4:=Gf.aUI h3;rw [Nat.mod_eq_of_lt (by omega),Nat.mod_eq_of_lt (by omega)] at h4;omega
    rw [if_neg hne,if_neg (by omega),if_neg (by omega)];exact h2 i (by omega)
def TAB : Array Value:=BH 255
theorem KE : TAB.size = 766:=BG 255
theorem aJL : TAB.all (·.oneCell') = true:=aKe 255
theorem aRC (i : Nat) (h : i < 510) : TAB[i]? = some (.int .u8 ((Gf.ex i).toNat : Int)):=by
 have hf:=(TN 255 (by omega)).1
 by_cases hi : i < 255
 ·exact (hf i hi).1
 ·have h1:=(hf (i - 255) (by omega)).2
  rw [show i - 255 + 255 = i from by omega] at h1;have h2:=Gf.aBN (i - 255);rw [show i - 255 + 255 = i from by omega] at h2;rw [h2];exact h1
theorem aRB (a : UInt8) (h : a≠0) : TAB[510 + a.toNat]? = some (.int .i64 (Gf.lg a : Int)):=by
 have h1:=(TN 255 (by omega)).2 (Gf.lg a) (Gf.aBA h);rw [Gf.aJl h] at h1;exact h1
def DT (T : Array Value) : Prop:=T = TAB
theorem DT.size {T : Array Value} (h : DT T) : T.size = 766:=by rw [h];exact KE
theorem DT.all {T : Array Value} (h : DT T) : T.all (·.oneCell') = true:=by rw [h];exact aJL
theorem DT.exp {T : Array Value} (h : DT T) (i : Nat) (hi : i < 510) : T[i]? = some (.int .u8 ((Gf.ex i).toNat : Int)):=by rw [h];exact aRC i hi
theorem DT.log {T : Array Value} (h : DT T) {a : UInt8} (ha : a≠0) : T[510 + a.toNat]? = some (.int .i64 (Gf.lg a : Int)):=by rw [h];exact aRB a ha
theorem TL : (Try.prog.info? 109).map (fun i => (i.zero,i.size)) = some (some (.agg (BH 0)),766):=by kernel_rfl
theorem Below.setRow {B : Nat} {a w : World} (h : Below B a w) {g : Nat} (hp : B≤g) (cs : Array Value) : Below B a (w.setRow g cs) :=
 ⟨h.os,h.tape,h.output,by simpa using h.size,fun k hk => by
  rw [← h.block k hk];simp only [World.setRow];rw [Array.getElem?_modify,if_neg (by omega)]⟩
theorem MY {C : Array Value} {i : Nat} (h : i < C.size) : ∃ v,C[i]? = some v:=⟨_,Array.getElem?_eq_getElem h⟩
theorem JZ (w : World) :
  Calls Try.prog 90 #[] w fun e w' => ∃ T,DT T∧e = .returned (.agg T)∧Below w.heap.size w w':=by
 obtain ⟨hzv,hsz⟩:=zero_of_info TL;have HSZ:=Lib.hid hsz;clear hsz;obtain ⟨Z,hZ⟩ : ∃ Z,Z = BH 0:=⟨_,rfl⟩
 rw [← hZ] at hzv;have HZ:=Lib.hid hZ;clear hZ;go_enter Try.func90,Try.ntmps90;go_wp2_with fail
 go_loopw [2,4] (fun v2 v4 wr => ∃ (n : Nat) (C : Array Value),n≤255∧v2 = .int .u8 ((Gf.ex n).toNat : Int)∧v4 = .int .i64 (n : Int)∧wr = (w.alloc (Obj.cells Z 109)).alloc (Obj.cells C 109)∧Hid (C = BH n)) (fun _ v4 _ => 255 - (intOf v4).toNat)
 case atStart => exact ⟨0,Z,by omega,rfl,rfl,rfl,HZ.out⟩
 case round =>
  obtain ⟨n,C,hn,rfl,rfl,rfl,HC⟩:=hrel
  by_cases hlt : n < 255
  ·have hx:=(Gf.ex n).toNat_lt
   have hs : C.size = 766:=by rw [HC.out];exact BG n
   obtain ⟨v1,h1⟩:=MY (C:=C) (i:=n) (by omega);obtain ⟨v2,h2⟩:=MY (C:=C.setIfInBounds n (.int .u8 ((Gf.ex n).toNat : Int))) (i:=n + 255) (by rw [Array.size_setIfInBounds];omega);obtain ⟨v3,h3⟩:=MY (C:=(C.setIfInBounds n (.int .u8 ((Gf.ex n).toNat : Int))).setIfInBounds (n + 255) (.int .u8 ((Gf.ex n).toNat : Int))) (i:=510 + (Gf.ex n).toNat) (by rw [Array.size_setIfInBounds,Array.size_setIfInBounds];omega);clear hs;go_wp2_with (go_at_call 87;refine (GQ _ _).mono ?_;rintro e w' ⟨rfl,rfl⟩)
   go_roundw
   case rel => exact ⟨n + 1,_,by omega,rfl,by go_num,rfl,by have:=HC.out;simp only [BH];rw [← this];rfl⟩
   case measure => simp [intOf];omega
  ·obtain rfl : n = 255:=by omega
   obtain rfl : C = TAB:=HC.out;have hg1:=heap_alloc2_new w (Obj.cells Z 109) (Obj.cells TAB 109);have hg0:=heap_alloc2_old w (Obj.cells Z 109) (Obj.cells TAB 109);have hz : Z.size = TAB.size:=by rw [HZ.out,KE,BG]
   have G1:=Lib.hid hg1;have G0:=Lib.hid hg0;have H0:=Lib.hid hz;clear hg1 hg0 hz hzv;go_wp2_with (first | (refine wpList_load_row rfl 109 (.tmp 1) rfl (w.heap.size + 1) rfl 109 TAB (0,0) _ G1.out Try.underlying109 rfl (by rw [KE];exact HSZ.out) ?_) | (refine wpList_store_row rfl 109 (.tmp 0) (.tmp 23) rfl w.heap.size TAB rfl rfl 109 Z G0.out (by rw [KE];exact HSZ.out) H0.out aJL ?_))
   have hg2:=setRow_heap ((w.alloc (Obj.cells Z 109)).alloc (Obj.cells TAB 109)) w.heap.size Z TAB 109 (0,0) G0.out;refine bodyPost_ret (results_cell_row rfl _ _ w.heap.size 109 TAB (0,0) _ rfl hg2 Try.underlying109 rfl (by rw [KE];exact HSZ.out)) rfl ?_;exact ⟨TAB,rfl,rfl,Below.setRow (((Below.refl _ _).alloc (Nat.le_refl _) _).alloc (by simp) _) (Nat.le_refl _) _⟩
theorem FN : ∃ Z : Array Value,(∀ w,(zeroValue 109).run Try.prog w = .ok (.agg Z) w)∧Hid (Z.size = 766)∧Hid ((Try.prog.info? 109).map (·.size) = some 766):=by
 obtain ⟨hzv,hsz⟩:=zero_of_info TL;exact ⟨_,hzv,BG 0,hsz⟩
theorem xB {ops : Array Oper} {rest : List Oper} {o : Oper} {a : Act} {w : World} {Q : Exit→Act→World→Prop} (x y : Operand) (hgd : o.guard = none) (ho : o.op = .store 109 x y)
  (T Z : Array Value) (hT : DT T) (hZ : Hid (Z.size = 766)) (hs : Hid ((Try.prog.info? 109).map (·.size) = some 766))
  (hx : a.eval x = .pointer (some ⟨w.heap.size,0,none⟩)) (hy : a.eval y = .agg T)
  (h : ∀ w2 : World,w2.heap.size = w.heap.size + 1→w2.heap[w.heap.size]? = some (.cells T 109 (0,0))→Below w.heap.size w w2→wpList Try.prog ops Q rest (a.put o.dst undef) w2) :
  wpList Try.prog ops Q (o :: rest) a (w.alloc (Obj.cells Z 109)):=by
 refine wpList_store_row hgd 109 x y ho w.heap.size T hx hy 109 Z (heap_alloc_new w _) (by rw [hT.size];exact hs) (by rw [hT.size];exact hZ) hT.all ?_;rw [World.setRow_alloc_new];exact h _ (by simp) (heap_alloc_new w _) ((Below.refl _ _).alloc (Nat.le_refl _) _)
end Go.Proofs.Yteofcbkjhdadpaa
namespace Go.Proofs.Yteofcbkjhdadpaa
open Go.RowKit
def fQ (xs : List UInt8) : List Value:=xs.map fun x => .int .u8 (x.toNat : Int)
theorem cB (xs : List UInt8) : (fQ xs).length = xs.length:=by simp [fQ]
theorem wH (xs : List UInt8) (i : Nat) (h : i < xs.length) : (fQ xs)[i]? = some (.int .u8 ((xs[i]).toNat : Int)):=by simp [fQ,h]
theorem aAd (xs ys : List UInt8) : fQ (xs ++ ys) = fQ xs ++ fQ ys:=by simp [fQ]
theorem aOx (xs : List UInt8) (n : Nat) : (fQ xs).take n = fQ (xs.take n):=by simp [fQ,List.map_take]
theorem XN {u : Value} {xs : List UInt8} (h : u∈fQ xs) : u.oneCell' = true:=by
 simp only [fQ,List.mem_map] at h;obtain ⟨x,_,rfl⟩:=h;rfl
def Rd (w : World) (B : Nat) (A : Option Addr) (n : Nat) (xs : List Value) : Prop :=
 xs.length = n∧(0 < n → ∃ g o,A = some ⟨g,o,none⟩∧g < B ∧ ∀ j u,xs[j]? = some u→w.cell? ⟨g,o + j,none⟩ = some u)
section
variable {w w' : World} {B B' n : Nat} {A : Option Addr} {xs : List Value}
theorem Rd.len (h : Rd w B A n xs) : xs.length = n:=h.1
theorem Rd.nil : Rd w B A 0 []:=⟨rfl,fun h => absurd h (by omega)⟩
theorem Rd.at_ (h : Rd w B A n xs) {k : Nat} (hk : k < n) : ∃ g o u,A = some ⟨g,o,none⟩∧g < B∧xs[k]? = some u∧w.cell? ⟨g,o + k,none⟩ = some u:=by
 obtain ⟨g,o,hA,hg,hc⟩:=h.2 (by omega);have hl : k < xs.length:=by have:=h.1;omega
 exact ⟨g,o,xs[k],hA,hg,List.getElem?_eq_getElem hl,hc k _ (List.getElem?_eq_getElem hl)⟩
theorem Rd.vJ (h : Rd w B A n xs) (hk : ∀ k,k < B→w'.heap[k]? = w.heap[k]?) : Rd w' B A n xs :=
 ⟨h.1,fun hn => by
  obtain ⟨g,o,hA,hg,hc⟩:=h.2 hn;exact ⟨g,o,hA,hg,fun j u hu => (World.cell?_of_block (hk g hg)).trans (hc j u hu)⟩⟩
theorem Rd.more (h : Rd w B A n xs) (hB : B≤B') : Rd w B' A n xs :=
 ⟨h.1,fun hn => by
  obtain ⟨g,o,hA,hg,hc⟩:=h.2 hn;exact ⟨g,o,hA,by omega,hc⟩⟩
theorem Rd.below (h : Rd w B A n xs) (hb : Below B' w w') (hB : B≤B') : Rd w' B A n xs:=h.vJ fun k hk => hb.block k (by omega)
theorem Rd.go (h : Rd w w.heap.size A n xs) (hb : Below w.heap.size w w') : Rd w' w'.heap.size A n xs:=(h.below hb (Nat.le_refl _)).more hb.size
theorem Rd.take (h : Rd w B A n xs) {k : Nat} (hk : k≤n) : Rd w B A k (xs.take k):=by
 refine ⟨by rw [List.length_take,h.1];omega,fun hp => ?_⟩;obtain ⟨g,o,hA,hg,hc⟩:=h.2 (by omega);refine ⟨g,o,hA,hg,fun j u hu => hc j u ?_⟩;rw [List.getElem?_take] at hu
 split at hu
 ·exact hu
 ·cases hu
end
def Row (w : World) (g : Nat) (t : TypeId) (ys : List Value) : Prop:=w.heap[g]? = some (.cells ys.toArray t (0,0))
section
variable {w w' : World} {g : Nat} {t : TypeId} {ys : List Value}
theorem Row.lt (h : Row w g t ys) : g < w.heap.size:=by
 rcases Nat.lt_or_ge g w.heap.size with hlt | hge
 ·exact hlt
 ·unfold Row at h;rw [Array.getElem?_eq_none hge] at h;cases h
theorem Row.cell (h : Row w g t ys) (i : Nat) : w.cell? ⟨g,i,none⟩ = ys[i]? := by
 rw [cell_of_row w g i _ t (0,0) h,List.getElem?_toArray]
theorem Row.has (h : Row w g t ys) {i : Nat} (hi : i < ys.length) : ∃ old,w.cell? ⟨g,i,none⟩ = some old:=⟨ys[i],by rw [h.cell,List.getElem?_eq_getElem hi]⟩
theorem Row.frozen (h : Row w g t ys) (i : Nat) : w.frozen? ⟨g,i,none⟩ = false:=frozen_of_row w g i _ t h
theorem Row.made (w : World) (z : Value) (n : Nat) (t : TypeId) : Row (w.alloc (.cells (madeCells #[z] n) t)) w.heap.size t (List.replicate n z):=by
 unfold Row;rw [heap_alloc_new,← toList_madeCells_one z n,Array.toArray_toList]
theorem Row.new (w : World) (cs : List Value) (t : TypeId) : Row (w.alloc (.cells cs.toArray t)) w.heap.size t cs:=heap_alloc_new w _
theorem Row.three {a b c : Value} (h : Row w g t [a,b,c]) : w.cell? ⟨g,0,none⟩ = some a∧w.cell? ⟨g,1,none⟩ = some b∧w.cell? ⟨g,2,none⟩ = some c∧w.frozen? ⟨g,0,none⟩ = false∧w.frozen? ⟨g,1,none⟩ = false∧w.frozen? ⟨g,2,none⟩ = false :=
 ⟨h.cell 0,h.cell 1,h.cell 2,h.frozen 0,h.frozen 1,h.frozen 2⟩
theorem Row.of_block (h : Row w g t ys) (hb : w'.heap[g]? = w.heap[g]?) : Row w' g t ys:=hb.trans h
theorem Row.alloc (h : Row w g t ys) (o : Obj) : Row (w.alloc o) g t ys:=(Below.heap_alloc w o g h.lt).trans h
theorem Row.set (h : Row w g t ys) (i : Nat) (u : Value) : Row (w.setCell ⟨g,i,none⟩ u) g t (ys.set i u):=by
 unfold Row;rw [heap_setCell_same w g i _ t u h,cT]
theorem Row.NS (h : Row w g t ys) {p : Addr} (hp : g≠p.block) (u : Value) : Row (w.setCell p u) g t ys:=(Below.heap_setCell w p u g hp).trans h
theorem Row.below {B : Nat} (h : Row w g t ys) (hb : Below B w w') (hg : g < B) : Row w' g t ys:=(hb.block g hg).trans h
theorem Row.drewN (h : Row w g t ys) (k : Nat) : Row (w.drewN k) g t ys:=h
theorem Row.owns (h : Row w g t ys) {base n : Nat} (hb : base≤g) (hn : n≤ys.length) (hm : ys.length≤maxLen) : w.ownsRow base t 1 (.slice (some ⟨g,0,none⟩) n ys.length) n (ys.take n):=by
 refine ⟨by rw [List.length_take];omega,.inr ⟨g,ys.length,ys.toArray,rfl,hb,h,hn,hm,by simp,by simp⟩⟩
end
theorem below_drewN {B : Nat} {a w : World} (h : Below B a w) (n : Nat) : Below B a (w.drewN n):=⟨h.os,h.tape,h.output,h.size,h.block⟩
theorem aKH {w : World} {base : Nat} {t : TypeId} {A : Option Addr} {n cap : Nat} {xs : List Value} (h : w.ownsRow base t 1 (.slice A n cap) n xs) : Rd w w.heap.size A n xs:=by
 refine ⟨by have:=h.1;omega,fun hn => ?_⟩
 rcases h.2 with ⟨hv,h0⟩ | ⟨g,c,cur,hv,_,hh,_,_,_,_⟩
 ·omega
 ·simp only [Value.slice.injEq] at hv
  obtain ⟨rfl,_,rfl⟩:=hv;refine ⟨g,0,rfl,?_,fun j u hu => ?_⟩
  ·rcases Nat.lt_or_ge g w.heap.size with hlt | hge
   ·exact hlt
   ·rw [Array.getElem?_eq_none hge] at hh;cases hh
  ·have hj : j < xs.length:=by
    rcases Nat.lt_or_ge j xs.length with hlt | hge
    ·exact hlt
    ·rw [List.getElem?_eq_none hge] at hu;cases hu
   rw [Nat.zero_add,h.cellAt j (by have:=h.1;omega)];exact hu
def iR (w : World) (base : Nat) (A : Option Addr) (n cap : Nat) (xs : List UInt8) : Prop:=xs.length = n∧w.ownsRow base 5 1 (.slice A n cap) n (fQ xs)
theorem iR.rd {w : World} {base n cap : Nat} {A : Option Addr} {xs : List UInt8} (h : iR w base A n cap xs) : Rd w w.heap.size A n (fQ xs):=aKH h.2
theorem iR.mono {w : World} {base base' n cap : Nat} {A : Option Addr} {xs : List UInt8} (h : iR w base A n cap xs) (hb : base'≤base) : iR w base' A n cap xs:=by
 refine ⟨h.1,h.2.1,?_⟩
 rcases h.2.2 with h' | ⟨g,c,cur,hv,hg,rest⟩
 ·exact .inl h'
 ·exact .inr ⟨g,c,cur,hv,by omega,rest⟩
theorem iR.vJ {w w' : World} {base n cap : Nat} {A : Option Addr} {xs : List UInt8} (h : iR w base A n cap xs) (hb : ∀ g,A = some ⟨g,0,none⟩→w'.heap[g]? = w.heap[g]?) : iR w' base A n cap xs:=by
 refine ⟨h.1,h.2.1,?_⟩
 rcases h.2.2 with h' | ⟨g,c,cur,hv,hg,hh,rest⟩
 ·exact .inl h'
 ·simp only [Value.slice.injEq] at hv
  obtain ⟨rfl,_,rfl⟩:=hv;exact .inr ⟨g,cap,cur,rfl,hg,(hb g rfl).trans hh,rest⟩
theorem iR.below {w w' : World} {base B n cap : Nat} {A : Option Addr} {xs : List UInt8} (h : iR w base A n cap xs) (hb : Below B w w') (hB : w.heap.size≤B) : iR w' base A n cap xs:=by
 refine h.vJ fun g hA => hb.block g ?_
 subst hA
 rcases h.2.2 with ⟨h',_⟩ | ⟨g',c,cur,hv,hg,hh,rest⟩
 ·cases h'
 ·simp only [Value.slice.injEq,Option.some.injEq,Addr.mk.injEq,and_true,true_and] at hv
  obtain ⟨rfl,_⟩:=hv
  rcases Nat.lt_or_ge g w.heap.size with hlt | hge
  ·omega
  ·rw [Array.getElem?_eq_none hge] at hh;cases hh
theorem Row.aKX {w : World} {g : Nat} {ys : List UInt8} (h : Row w g 5 (fQ ys)) {base n : Nat} (hb : base≤g) (hn : ys.length = n) (hm : n≤maxLen) : iR w base (some ⟨g,0,none⟩) n n ys:=by
 have h1:=h.owns (n:=n) hb (by rw [cB];omega) (by rw [cB];omega);rw [cB,hn,List.take_of_length_le (by rw [cB];omega)] at h1;exact ⟨hn,h1⟩
theorem iR.NS {w : World} {base n cap : Nat} {A : Option Addr} {xs : List UInt8} (h : iR w base A n cap xs) {p : Addr} (hp : p.block < base) (u : Value) : iR (w.setCell p u) base A n cap xs:=by
 refine ⟨h.1,h.2.1,?_⟩
 rcases h.2.2 with h' | ⟨g,c,cur,hv,hg,hh,rest⟩
 ·exact .inl h'
 ·exact .inr ⟨g,c,cur,hv,hg,(Below.heap_setCell w p u g (by omega)).trans hh,rest⟩
theorem iR.JP {w : World} {base n cap g : Nat} {A : Option Addr} {xs : List UInt8} (h : iR w base A n cap xs) (hg : g < base) (a b c : Value) : iR (((w.setCell ⟨g,0,none⟩ a).setCell ⟨g,1,none⟩ b).setCell ⟨g,2,none⟩ c) base A n cap xs :=
 ((h.NS hg _).NS hg _).NS hg _
theorem cV {B g : Nat} {a w : World} (h : Below B a w) (hg : B≤g) (x y z : Value) : Below B a (((w.setCell ⟨g,0,none⟩ x).setCell ⟨g,1,none⟩ y).setCell ⟨g,2,none⟩ z):=((h.setCell hg _).setCell hg _).setCell hg _
theorem Row.aWe {w : World} {g : Nat} {t : TypeId} {a b c : Value} (h : Row w g t [a,b,c]) (x y z : Value) : Row (((w.setCell ⟨g,0,none⟩ x).setCell ⟨g,1,none⟩ y).setCell ⟨g,2,none⟩ z) g t [x,y,z]:=((h.set 0 x).set 1 y).set 2 z
theorem Row.JP {w : World} {g g' : Nat} {t : TypeId} {ys : List Value} (h : Row w g t ys) (hg : g≠g') (x y z : Value) : Row (((w.setCell ⟨g',0,none⟩ x).setCell ⟨g',1,none⟩ y).setCell ⟨g',2,none⟩ z) g t ys:=((h.NS hg x).NS hg y).NS hg z
theorem BJ (w : World) (n : Nat) : Row (w.alloc (.cells (madeCells #[.int .u8 0] n) 5)) w.heap.size 5 (fQ (List.replicate n 0)):=by
 have h:=Row.made w (.int .u8 0) n 5;have e : fQ (List.replicate n 0) = List.replicate n (.int .u8 0):=by simp [fQ]
 rw [e];exact h
theorem aEz (xs : List UInt8) (i : Nat) (x : UInt8) : (fQ xs).set i (.int .u8 (x.toNat : Int)) = fQ (xs.set i x):=by simp [fQ,List.map_set]
theorem qE {w : World} {B : Nat} {A : Option Addr} {n : Nat} {xs : List UInt8} (h : Rd w B A n (fQ xs)) {k : Nat} (hk : k < n) :
  ∃ g o,A = some ⟨g,o,none⟩∧g < B∧w.cell? ⟨g,o + k,none⟩ = some (.int .u8 ((xs.getD k 0).toNat : Int)):=by
 obtain ⟨g,o,u,hA,hg,hu,hc⟩:=h.at_ hk;have hl : k < xs.length:=by have:=h.len;rw [cB] at this;omega
 rw [wH xs k hl] at hu;refine ⟨g,o,hA,hg,?_⟩;rw [hc,← hu]
 simp [List.getD,hl]
theorem iR.row {w : World} {base n cap : Nat} {A : Option Addr} {xs : List UInt8} (h : iR w base A n cap xs) : ∀ k,(Value.slice A n cap).ownBlock = some k→base≤k∧k < w.heap.size:=World.ownsRow.lt h.2
theorem iR.drewN {w : World} {base n cap : Nat} {A : Option Addr} {xs : List UInt8} (h : iR w base A n cap xs) (k : Nat) : iR (w.drewN k) base A n cap xs:=h
theorem iR.at_ {w : World} {base n cap : Nat} {A : Option Addr} {xs : List UInt8} (h : iR w base A n cap xs) {i : Nat} (hi : i < n) :
  ∃ g,A = some ⟨g,0,none⟩∧base≤g∧g < w.heap.size∧w.cell? ⟨g,i,none⟩ = some (.int .u8 ((xs.getD i 0).toNat : Int))∧w.frozen? ⟨g,i,none⟩ = false:=by
 rcases h.2.2 with ⟨_,h0⟩ | ⟨g,c,cur,hv,hg,hh,hrest⟩
 ·omega
 ·simp only [Value.slice.injEq] at hv
  obtain ⟨rfl,_,rfl⟩:=hv;have hlt : g < w.heap.size:=by
   rcases Nat.lt_or_ge g w.heap.size with hlt | hge
   ·exact hlt
   ·rw [Array.getElem?_eq_none hge] at hh;cases hh
  have hl : i < xs.length:=by have:=h.1;omega
  refine ⟨g,rfl,hg,hlt,?_,h.2.frozenAt i⟩;rw [h.2.cellAt i (by omega),wH xs i hl]
  simp [List.getD,hl]
theorem iR.store {w : World} {base n cap g : Nat} {xs : List UInt8} (h : iR w base (some ⟨g,0,none⟩) n cap xs) (i : Nat) (x : UInt8) : iR (w.setCell ⟨g,i,none⟩ (.int .u8 (x.toNat : Int))) base (some ⟨g,0,none⟩) n cap (xs.set i x):=by
 have h1:=(h.2.stored i (.int .u8 (x.toNat : Int))).1;rw [aEz] at h1;exact ⟨by rw [List.length_set];exact h.1,h1⟩
theorem VQ : (Try.prog.info? 5).map (fun i => (i.zero,i.size,i.bytes)) = some (some (.int .u8 0),1,1):=by kernel_rfl
theorem FY (n : Nat) (hn : n≤281474976710656) (w : World) :
  (Instr.makeSlice 22 (.int .i64 (n : Int)) (.int .i64 (n : Int))).run Try.prog w = .ok (.slice (some ⟨w.heap.size,0,none⟩) n n) (w.alloc (.cells (madeCells #[.int .u8 0] n) 5)):=by
 obtain ⟨i,hi,hz,hs,hb⟩:=info_parts VQ;have h:=run_make (P:=Try.prog) w 22 5 i _ Try.underlying22 hi hz .i64 .i64 (n : Int) (n : Int) (by omega) (by omega) (by rw [hb];omega) (by omega);rw [hs,Nat.mul_one,Int.toNat_natCast] at h;exact h
end Go.Proofs.Yteofcbkjhdadpaa
namespace Go.Proofs.Yteofcbkjhdadpaa
open Go.RowKit
theorem aPC {w : World} {g : Nat} {t : TypeId} {T : Array Value} (hT : DT T) (h : w.heap[g]? = some (.cells T t (0,0))) (i : Nat) (hi : i < 510) : w.cell? ⟨g,i,none⟩ = some (.int .u8 ((Gf.ex i).toNat : Int)):=by
 rw [cell_of_row _ _ _ _ _ _ h];exact hT.exp i hi
theorem aPB {w : World} {g : Nat} {t : TypeId} {T : Array Value} (hT : DT T) (h : w.heap[g]? = some (.cells T t (0,0))) {a : UInt8} (ha : a≠0) : w.cell? ⟨g,510 + a.toNat,none⟩ = some (.int .i64 (Gf.lg a : Int)):=by
 rw [cell_of_row _ _ _ _ _ _ h];exact hT.log ha
def pA (w : World) (g : Nat) : Prop:=∃ T,DT T∧w.heap[g]? = some (.cells T 109 (0,0))
theorem pA.mk {w : World} {g : Nat} {T : Array Value} (hT : DT T) (h : w.heap[g]? = some (.cells T 109 (0,0))) : pA w g:=⟨T,hT,h⟩
theorem pA.lt {w : World} {g : Nat} (h : pA w g) : g < w.heap.size:=by
 obtain ⟨T,_,h⟩:=h
 rcases Nat.lt_or_ge g w.heap.size with hlt | hge
 ·exact hlt
 ·rw [Array.getElem?_eq_none hge] at h;cases h
theorem pA.of_block {w w' : World} {g : Nat} (h : pA w g) (hb : w'.heap[g]? = w.heap[g]?) : pA w' g:=by
 obtain ⟨T,hT,h⟩:=h;exact ⟨T,hT,hb.trans h⟩
theorem pA.drewN {w : World} {g : Nat} (h : pA w g) (n : Nat) : pA (w.drewN n) g:=h
theorem pA.exp {w : World} {g : Nat} (h : pA w g) (i : Nat) (hi : i < 510) : w.cell? ⟨g,i,none⟩ = some (.int .u8 ((Gf.ex i).toNat : Int)):=by
 obtain ⟨T,hT,h⟩:=h;exact aPC hT h i hi
theorem pA.log {w : World} {g : Nat} (h : pA w g) {a : UInt8} (ha : a≠0) : w.cell? ⟨g,510 + a.toNat,none⟩ = some (.int .i64 (Gf.lg a : Int)):=by
 obtain ⟨T,hT,h⟩:=h;exact aPB hT h ha
theorem XY (g : Nat) (a b : UInt8) (w : World) (h : pA w g) :
  Calls Try.prog 100 #[.pointer (some ⟨g,0,none⟩),.int .u8 (a.toNat : Int),.int .u8 (b.toNat : Int)] w fun e w' => e = .returned (.int .u8 ((Gf.mul a b).toNat : Int)) ∧ ∃ n,w' = w.drewN n:=by
 have ha:=xC a;have hb:=xC b
 by_cases h1 : a = 0
 ·have hz:=Lib.hid (show Gf.mul a b = 0 by rw [h1,Gf.eS])
  rw [decide_eq_true h1] at ha;clear h1 hb;go_enter Try.func100,Try.ntmps100;go_wp2_with fail
  go_ret;exact ⟨by rw [hz.out];rfl,0,rfl⟩
 by_cases h2 : b = 0
 ·have hz:=Lib.hid (show Gf.mul a b = 0 by rw [h2,Gf.mul_zero])
  rw [decide_eq_true h2] at hb;rw [decide_eq_false h1] at ha;clear h1 h2;go_enter Try.func100,Try.ntmps100;go_wp2_with fail
  go_ret;exact ⟨by rw [hz.out];rfl,0,rfl⟩
 have hz:=Lib.hid (Gf.mul_eq h1 h2);have c1:=h.log h1;have c2:=h.log h2;have l1:=Gf.aBA h1;have l2:=Gf.aBA h2;have c3:=h.exp (Gf.lg a + Gf.lg b) (by omega);rw [decide_eq_false h2] at hb;rw [decide_eq_false h1] at ha;have ba:=a.toNat_lt;have bb:=b.toNat_lt;generalize Gf.lg a = x at *;generalize Gf.lg b = y at *;clear h1 h2 h;go_enter Try.func100,Try.ntmps100;go_wp2_with fail
 have e1 : IntKind.i64.wrap ((x : Int) + (y : Int)) = (x : Int) + (y : Int):=IntWalk.i64_in _ (by omega);have e2 : ((x : Int) + (y : Int)).toNat = x + y:=by omega
 have e3 : 0≤(x : Int) + (y : Int):=by omega
 go_quiet (fail)
 go_wp2_with fail
 go_ret;exact ⟨by rw [hz.out];rfl,_,rfl⟩
end Go.Proofs.Yteofcbkjhdadpaa
namespace Go.Proofs.Yteofcbkjhdadpaa
open Go.RowKit
theorem aHC (n : Int) : (wrap64 (n.tmod 255 + 255)).tmod 255 = n % 255:=by
 have h:=Int.tmod_eq_emod (a:=n) (b:=255);have h1 : -255 < n.tmod 255∧n.tmod 255 < 255:=by
  rw [h];have:=Int.emod_lt_of_pos n (show (0 : Int) < 255 by omega);have:=Int.emod_nonneg n (show (255 : Int)≠0 by omega)
  split <;> omega
 have h2 : wrap64 (n.tmod 255 + 255) = n.tmod 255 + 255:=by unfold wrap64;omega
 rw [h2,Int.tmod_eq_emod_of_nonneg (by omega),h]
 split <;> omega
theorem aBe (n : Int) (w : World) :
  Calls Try.prog 91 #[.int .i64 n] w fun e w' => e = .returned (.int .i64 (n % 255))∧w = w':=by
 go_enter Try.func91,Try.ntmps91;go_wp2_with fail
 go_ret;exact ⟨congrArg (fun x => Ending.returned (.int .i64 x)) (aHC n),rfl⟩
def Gf.aAU (a : UInt8) (n : Int) : Int:=if a = 0∧n < 0 then 5 else 0
theorem aUh {a : UInt8} {n : Int} (hn : n≠0) (ha : a≠0) : Gf.ex (Gf.lg a * (n % 255).toNat % 255) = Gf.pw a n:=by
 unfold Gf.pw;rw [if_neg hn,if_neg ha]
theorem aKP (a : UInt8) (n : Int) (w : World) (h0 : -9223372036854775808≤n) (h1 : n≤9223372036854775807) :
  Calls Try.prog 75 #[.int .u8 (a.toNat : Int),.int .i64 n] w fun e w' =>
   e = .returned (.tuple #[.int .u8 ((Gf.pw a n).toNat : Int),.int .i64 (Gf.aAU a n)])∧Below w.heap.size w w':=by
 have ha:=xC a
 by_cases hn : n = 0
 ·subst hn
  go_enter Try.func75,Try.ntmps75;go_wp2_with fail
  go_ret2
  exact ⟨by simp [Gf.pw,Gf.aAU],Below.refl _ _⟩
 have hn1 : (n == 0) = false:=by simpa using hn
 by_cases hz : a = 0
 ·rw [decide_eq_true hz] at ha
  by_cases hlt : n < 0
  ·have hd : decide (n < 0) = true:=by simpa using hlt
   have hp:=Lib.hid (show Gf.pw a n = 0 by unfold Gf.pw;rw [if_neg hn,if_pos hz]);have hc:=Lib.hid (show Gf.aAU a n = 5 by unfold Gf.aAU;rw [if_pos ⟨hz,hlt⟩]);clear hz hn;go_enter Try.func75,Try.ntmps75;go_wp2_with fail
   go_ret2
   exact ⟨by rw [hp.out,hc.out];rfl,Below.refl _ _⟩
  ·have hd : decide (n < 0) = false:=by simpa using hlt
   have hp:=Lib.hid (show Gf.pw a n = 0 by unfold Gf.pw;rw [if_neg hn,if_pos hz]);have hc:=Lib.hid (show Gf.aAU a n = 0 by unfold Gf.aAU;rw [if_neg (fun h => hlt h.2)]);clear hz hn;go_enter Try.func75,Try.ntmps75;go_wp2_with fail
   go_ret2
   exact ⟨by rw [hp.out,hc.out];rfl,Below.refl _ _⟩
 rw [decide_eq_false hz] at ha;have hp:=Lib.hid (aUh hn hz);have hc:=Lib.hid (show Gf.aAU a n = 0 by unfold Gf.aAU;rw [if_neg (fun h => hz h.1)]);have hl:=Gf.aBA hz;have HZ:=Lib.hid hz;have m0 : 0≤n % 255:=Int.emod_nonneg _ (by omega);have m1 : n % 255 < 255:=Int.emod_lt_of_pos _ (by omega);obtain ⟨m,hm⟩ : ∃ m : Nat,n % 255 = (m : Int):=⟨(n % 255).toNat,by omega⟩
 have hb : ∀ w,Calls Try.prog 91 #[.int .i64 n] w fun e w' => e = .returned (.int .i64 (m : Int))∧w = w':=by
  intro w;rw [← hm];exact aBe n w
 have HB:=Lib.hid hb;have hk : m < 255:=by omega
 rw [hm,Int.toNat_natCast] at hp;have HM:=Lib.hid hm;clear hz hb m0 m1 hm;obtain ⟨x,hx⟩ : ∃ x,x = Gf.lg a:=⟨_,rfl⟩
 rw [← hx] at hl hp;have HX:=Lib.hid hx;clear hx;obtain ⟨p,r,hp1,hr,e1,e2,hpr⟩ : ∃ p r : Nat,p≤64516∧r < 255∧IntKind.i64.wrap ((x : Int) * (m : Int)) = (p : Int)∧((p : Int)).tmod 255 = (r : Int)∧Hid (x * m % 255 = r):=by
  have hmul : x * m≤254 * 254:=Nat.mul_le_mul (by omega) (by omega);refine ⟨x * m,x * m % 255,hmul,Nat.mod_lt _ (by omega),?_,?_,rfl⟩
  ·rw [← Int.natCast_mul];exact IntWalk.i64_in _ (by omega)
  ·rw [Int.tmod_eq_emod_of_nonneg (by omega)];omega
 rw [hpr.out] at hp;have E1:=Lib.hid e1;have E2:=Lib.hid e2;clear e1 e2;have ba:=a.toNat_lt;obtain ⟨Z,hzv,HZ0,HSZ⟩:=FN;clear hn h0 h1;go_enter Try.func75,Try.ntmps75;go_wp2_with (first | (go_at_call 90;refine (JZ _).mono ?_;rintro e w1 ⟨T,hT,rfl,hb1⟩) | (refine xB (.tmp 6) (.tmp 20) rfl rfl T Z hT HZ0 HSZ rfl rfl ?_;intro w2 hs2 hg2 hb2))
 have ht:=pA.mk hT hg2;have c1:=ht.log HZ.out;rw [← HX.out] at c1;have c2:=ht.exp r (by omega);have e1:=E1.out;have e2:=E2.out;have HS2:=Lib.hid hs2;clear ht hzv hg2 hs2
 go_frame
 go_quiet ((go_at_call 91;exact Calls.quiet_of_same ((HB.out _).mono fun _ _ ⟨h1,h2⟩ => ⟨h1,h2.symm⟩)))
 go_wp2_with fail
 go_ret2
 exact ⟨by rw [← hp.out,hc.out];rfl,below_drewN (hb1.trans (hb2.mono hb1.size)) _⟩
end Go.Proofs.Yteofcbkjhdadpaa
namespace Go.Proofs.Yteofcbkjhdadpaa
open Go.RowKit
def Gf.QB (a : UInt8) : Int:=if a = 0 then 5 else 0
theorem aUi (a : UInt8) : Gf.pw a (-1) = Gf.inv a:=by
 unfold Gf.pw Gf.inv;rw [if_neg (by decide)]
 by_cases h : a = 0
 ·rw [if_pos h,if_pos h]
 ·rw [if_neg h,if_neg h]
  have hm : ((-1 : Int) % 255).toNat = 254:=by decide
  rw [hm];have h1:=Gf.aBA h;rw [← Gf.ZK (255 - Gf.lg a)]
  congr 1
  omega
theorem aMG (a : UInt8) : Gf.aAU a (-1) = Gf.QB a:=by
 unfold Gf.aAU Gf.QB
 by_cases h : a = 0 <;> simp [h]
theorem aBD (a : UInt8) (w : World) :
  Calls Try.prog 43 #[.int .u8 (a.toNat : Int)] w fun e w' => e = .returned (.tuple #[.int .u8 ((Gf.inv a).toNat : Int),.int .i64 (Gf.QB a)])∧Below w.heap.size w w':=by
 have hp:=aKP a (-1) w (by omega) (by omega);rw [aUi,aMG] at hp;have HP:=Lib.hid hp;clear hp;go_enter Try.func43,Try.ntmps43;go_wp2_with (go_at_call 75;refine HP.out.mono ?_;rintro e w1 ⟨rfl,hb1⟩)
 go_ret2
 exact ⟨rfl,hb1⟩
end Go.Proofs.Yteofcbkjhdadpaa
namespace Go.Proofs.Yteofcbkjhdadpaa
def aYO (xs ys : List UInt8) (i j : Nat) : UInt8:=Gf.inv (Gf.add (xs.getD i 0) (ys.getD j 0))
def aNZ (xs ys : List UInt8) : List UInt8:=qM xs.length ys.length (aYO xs ys)
def IS (xs ys : List UInt8) : Int:=if 64 < xs.length ∨ 64 < ys.length then 4 else if aFH (xs ++ ys) = true then 2 else 0
theorem aGe {xs ys : List UInt8} {i : Nat} (h : i < xs.length) : (xs ++ ys).getD i 0 = xs.getD i 0:=by
 rw [List.getD_eq_getElem?_getD,List.getElem?_append_left h,List.getD_eq_getElem?_getD]
theorem aCa {xs ys : List UInt8} {i : Nat} : (xs ++ ys).getD (xs.length + i) 0 = ys.getD i 0:=by
 rw [List.getD_eq_getElem?_getD,List.getElem?_append_right (by omega),List.getD_eq_getElem?_getD,Nat.add_sub_cancel_left]
theorem aUP {xs ys : List UInt8} (h : aFH (xs ++ ys) = false) {i j : Nat} (hi : i < xs.length) (hj : j < ys.length) : Gf.add (xs.getD i 0) (ys.getD j 0)≠0:=by
 intro e;have h1:=aUK h (i:=i) (j:=xs.length + j) (by rw [List.length_append];omega) (by rw [List.length_append];omega) (by omega);rw [aGe hi,aCa] at h1;exact h1 ((Gf.add_eq_zero _ _).1 e)
theorem aRr {xs ys : List UInt8} (h : aFH (xs ++ ys) = false) {i j : Nat} (hi : i < xs.length) (hj : j < ys.length) : Gf.QB (Gf.add (xs.getD i 0) (ys.getD j 0)) = 0:=by
 unfold Gf.QB;rw [if_neg (aUP h hi hj)]
end Go.Proofs.Yteofcbkjhdadpaa
namespace Go.Proofs.Yteofcbkjhdadpaa
open Go.RowKit
theorem aKc (rs : List UInt8) (k : Nat) (h : k < rs.length) : rs.take (k + 1) = rs.take k ++ [rs.getD k 0]:=by
 rw [List.take_succ_eq_append_getElem h]
 simp [List.getD,h]
def mkL (rs : List UInt8) (i : Nat) : List Value:=(List.range 256).map fun x => Value.bool (decide (UInt8.ofNat x∈rs.take i))
theorem VT (rs : List UInt8) (i : Nat) : (mkL rs i).length = 256:=by simp [mkL]
theorem VU (rs : List UInt8) (i x : Nat) (hx : x < 256) : (mkL rs i)[x]? = some (.bool (decide (UInt8.ofNat x∈rs.take i))):=by
 unfold mkL;rw [List.getElem?_map,List.getElem?_range hx];rfl
theorem aMY (rs : List UInt8) : mkL rs 0 = List.replicate 256 (.bool false):=by
 apply List.ext_getElem?;intro x
 rcases Nat.lt_or_ge x 256 with h | h
 ·rw [VU _ _ _ h,List.getElem?_replicate,if_pos h]
  simp
 ·rw [List.getElem?_eq_none (by rw [VT];exact h),List.getElem?_eq_none (by rw [List.length_replicate];exact h)]
theorem aQe (rs : List UInt8) (i : Nat) (h : i < rs.length) : (mkL rs i).set (rs.getD i 0).toNat (.bool true) = mkL rs (i + 1):=by
 apply List.ext_getElem?;intro x;have hr:=(rs.getD i 0).toNat_lt
 rcases Nat.lt_or_ge x 256 with hx | hx
 ·rw [VU _ _ _ hx,List.getElem?_set,VT,aKc rs i h]
  by_cases e : (rs.getD i 0).toNat = x
  ·have e2 : UInt8.ofNat x = rs.getD i 0:=by rw [← e];simp
   rw [if_pos e,if_pos (by omega),e2]
   simp
  ·have e2 : ¬ UInt8.ofNat x = rs.getD i 0:=fun h2 => e (by rw [← h2,UInt8.toNat_ofNat'];omega)
   rw [if_neg e,VU _ _ _ hx];simp only [List.mem_append,List.mem_singleton,e2,or_false]
 ·rw [List.getElem?_eq_none (by rw [List.length_set,VT];exact hx),List.getElem?_eq_none (by rw [VT];exact hx)]
theorem aQf (rs : List UInt8) (i : Nat) (h : i < rs.length) : (mkL rs i).toArray.setIfInBounds (rs.getD i 0).toNat (.bool true) = (mkL rs (i + 1)).toArray:=by
 rw [← aQe rs i h]
 simp
theorem aGx : (Try.prog.info? 64).map (fun i => (i.zero,i.size)) = some (some (.agg (List.replicate 256 (.bool false)).toArray),256):=by kernel_rfl
end Go.Proofs.Yteofcbkjhdadpaa
namespace Go.Proofs.Yteofcbkjhdadpaa
open Go.RowKit
theorem aLD (a b : UInt8) (w : World) :
  Calls Try.prog 44 #[.int .u8 (a.toNat : Int),.int .u8 (b.toNat : Int)] w fun e w' => e = .returned (.int .u8 ((Gf.add a b).toNat : Int))∧w = w':=by
 go_enter Try.func44,Try.ntmps44;go_wp2_with fail
 go_ret;exact ⟨YK (GS a b),rfl⟩
end Go.Proofs.Yteofcbkjhdadpaa
namespace Go.Proofs.Yteofcbkjhdadpaa
open Go.RowKit
def oW (w : World) (base : Nat) (v : Value) (xs : List UInt8) : Prop:=w.ownsRow base 5 1 v xs.length (fQ xs)
theorem oW.nil (w : World) (base : Nat) : oW w base (.slice none 0 0) []:=⟨rfl,.inl ⟨rfl,rfl⟩⟩
theorem oW.slice {w : World} {base : Nat} {v : Value} {xs : List UInt8} (h : oW w base v xs) : ∃ A cap,v = .slice A xs.length cap∧iR w base A xs.length cap xs:=by
 rcases h.2 with ⟨rfl,h0⟩ | ⟨g,cap,cur,rfl,hrest⟩
 ·rw [h0];exact ⟨none,0,rfl,h0,by have:=h;unfold oW at this;rw [h0] at this;exact this⟩
 ·exact ⟨_,_,rfl,rfl,h⟩
theorem oW.drewN {w : World} {base : Nat} {v : Value} {xs : List UInt8} (h : oW w base v xs) (k : Nat) : oW (w.drewN k) base v xs:=h
theorem oW.below {w w' : World} {base : Nat} {v : Value} {xs : List UInt8} (h : oW w base v xs) (hb : Below w.heap.size w w') : oW w' base v xs:=by
 have hg : w.grownBy w' (some w.heap.size):=⟨hb.os,hb.tape,hb.output,hb.size,fun k hk _ => hb.block k hk⟩
 refine World.ownsRow.kept h hg ?_
 rcases hv : v.ownBlock with _ | q
 ·exact .inl rfl
 ·refine .inr (fun e => ?_)
  have:=(World.ownsRow.lt h q hv).2;injection e with e;omega
theorem oW.kept {w w' : World} {base : Nat} {v : Value} {xs : List UInt8} {row : Option Nat} (h : oW w base v xs) (hg : w.grownBy w' row) (hne : v.ownBlock = none ∨ v.ownBlock≠row) : oW w' base v xs:=World.ownsRow.kept h hg hne
theorem tW {ops : Array Oper} {rest : List Oper} {o : Oper} {a : Act} {w0 : World} {Q : Exit→Act→World→Prop} (s x : Operand) (hgd : o.guard = none)
  (ho : o.op = .call { callee:=.builtin .append,args:=#[s,x],argTypes:=#[22,22] })
  (base : Nat) (v : Value) (xs : List UInt8) (y : UInt8) (hs : a.eval s = v) (hown : oW w0 base v xs) (hx : a.eval x = .slice (some ⟨w0.heap.size,0,none⟩) 1 1)
  (hlen : xs.length + 1≤140737488355328) (hbase : base≤w0.heap.size)
  (h : ∀ v' w',oW w' base v' (xs ++ [y])→Below base w0 w'→w0.grownBy w' v.ownBlock→wpList Try.prog ops Q rest (a.put o.dst v') w') :
  wpList Try.prog ops Q (o :: rest) a (w0.alloc (.cells #[.int .u8 (y.toNat : Int)] 5)):=by
 obtain ⟨i,hi,hz,hsz,hby⟩:=info_parts VQ;refine wpList_append_own _ hgd s x 22 ho base 5 i (.int .u8 0) 1 1 Try.underlying22 hi hz hsz hby rfl (by decide) v xs.length (fQ xs) hs (World.ownsRow.alloc hown _) ⟨w0.heap.size,0,none⟩ 1 1 (fQ [y]) hx rfl ?_ ?_ ?_ ?_ ?_ ?_
 ·intro j u hu
  have hj : j = 0:=by
   rcases Nat.lt_or_ge j (fQ [y]).length with hlt | hge
   ·simp [fQ] at hlt;omega
   ·rw [List.getElem?_eq_none hge] at hu;cases hu
  subst hj;simp only [fQ,List.map_cons,List.map_nil,List.getElem?_cons_zero,Option.some.injEq] at hu;subst hu
  simp [Addr.add]
 ·exact fun u hu => XN hu
 ·simp only [maxLen];omega
 ·omega
 ·simp;omega
 ·intro v' w' hown' hg _
  refine h v' w' ?_ ?_ ?_
  ·unfold oW
   rw [aAd,List.length_append];exact hown'
  ·exact ((Below.refl base w0).alloc hbase _).grown hg (by simp;omega) (fun k hk => (hown.lt k hk).1)
  ·exact ⟨hg.os,hg.tape,hg.output,Nat.le_trans (by simp) hg.size,fun k hk hne => (hg.block k (by simp;omega) hne).trans (Below.heap_alloc _ _ _ hk)⟩
theorem MZ (w : World) (base : Nat) (ty : TypeId) (v : Value) (xs : List UInt8) (hown : oW w base v xs) (c : Nat) :
  (Builtin.append_ #[22,22] ty #[v,.slice none 0 c]).run Try.prog w = .ok v w:=by
 obtain ⟨i,hi,hz,hsz,hby⟩:=info_parts VQ;have ht:=Try.underlying22
 rcases hown.2 with ⟨rfl,h0⟩ | ⟨g,cap,cur,rfl,_,_,hnc,_⟩
 ·simp [Builtin.append_,run_underlying ht,sizeOf,typeInfo,hi,Builtin.lenOf,Builtin.firstCells]
 ·simp [Builtin.append_,run_underlying ht,sizeOf,typeInfo,hi,Builtin.lenOf,Builtin.firstCells,hnc,storeCells]
theorem aAR (w : World) (base : Nat) (ty : TypeId) (v : Value) (xs ys : List UInt8) (hown : oW w base v xs) (B : Nat) (A : Option Addr) (m c : Nat) (hr : Rd w B A m (fQ ys))
  (hlen : xs.length + m≤140737488355328) (hbase : base≤w.heap.size) :
  ∃ v' w',(Builtin.append_ #[22,22] ty #[v,.slice A m c]).run Try.prog w = .ok v' w'∧oW w' base v' (xs ++ ys)∧w.grownBy w' v.ownBlock∧(v'.ownBlock = v.ownBlock ∨ v'.ownBlock = some w.heap.size):=by
 have hm:=hr.len;rw [cB] at hm
 rcases A with _ | ad
 ·have h0 : m = 0:=by
   rcases Nat.eq_zero_or_pos m with h | h
   ·exact h
   ·obtain ⟨g,o,hA,_⟩:=hr.2 h;cases hA
  subst h0;have hy : ys = []:=List.eq_nil_of_length_eq_zero hm;subst hy;exact ⟨v,w,MZ w base ty v xs hown c,by rw [List.append_nil];exact hown,World.grownBy.refl w _,.inl rfl⟩
 ·obtain ⟨i,hi,hz,hsz,hby⟩:=info_parts VQ
  obtain ⟨v',w',hrun,h2,h3,_,h5⟩:=run_append_own_at (P:=Try.prog) w base 22 ty 5 i (.int .u8 0) 1 1 Try.underlying22 hi hz hsz hby rfl (by decide) v xs.length (fQ xs) hown ad m c (fQ ys) (by rw [cB];omega)
   (fun j u hu => by
    have hj : j < m:=by
     rcases Nat.lt_or_ge j m with h | h
     ·exact h
     ·rw [List.getElem?_eq_none (by rw [cB];omega)] at hu;cases hu
    obtain ⟨g,o,hA,_,hc⟩:=hr.2 (by omega);injection hA with hA;subst hA;have:=hc j u hu;unfold Addr.add
    split
    ·next h0 => subst h0;simpa using this
    ·exact this)
   (fun u hu => XN hu) (by simp only [maxLen];omega) (by omega) hbase
  refine ⟨v',w',hrun,?_,h3,h5⟩;unfold oW;rw [aAd,List.length_append,hm];exact h2
theorem EG {ops : Array Oper} {rest : List Oper} {o : Oper} {a : Act} {W : World} {Q : Exit→Act→World→Prop} (s x : Operand) (hgd : o.guard = none)
  (ho : o.op = .call { callee:=.builtin .append,args:=#[s,x],argTypes:=#[22,22] })
  (base : Nat) (v : Value) (xs ys : List UInt8) (hs : a.eval s = v) (hown : oW W base v xs) (B : Nat) (A : Option Addr) (m c : Nat) (hx : a.eval x = .slice A m c) (hr : Rd W B A m (fQ ys))
  (hlen : xs.length + m≤140737488355328) (hbase : base≤W.heap.size)
  (h : ∀ v' w',oW w' base v' (xs ++ ys)→W.grownBy w' v.ownBlock→(v'.ownBlock = v.ownBlock ∨ v'.ownBlock = some W.heap.size)→wpList Try.prog ops Q rest (a.put o.dst v') w') : wpList Try.prog ops Q (o :: rest) a W:=by
 obtain ⟨v',w',hrun,h1,h2,h3⟩:=aAR W base o.type v xs ys hown B A m c hr hlen hbase;refine wpList_plain hgd fun _ hK => ?_
 unfold Oper.wp execOp;simp only [ho,resolve,invoke,builtin,Sem.run_bind,Sem.run_pure,Result.andThen_ok,List.map_toArray,List.map_cons,List.map_nil,hs,hx,hrun];exact hK _ _ (h v' w' h1 h2 h3)
theorem aKV (w : World) (base : Nat) (hb : base≤w.heap.size) (t : TypeId) (ht : t = 5) : oW (w.alloc (.cells #[] t)) base (.slice (some ⟨w.heap.size,0,none⟩) 0 0) []:=by
 subst ht;exact ⟨rfl,.inr ⟨w.heap.size,0,#[],rfl,hb,heap_alloc_new w _,Nat.le_refl _,Nat.zero_le _,rfl,rfl⟩⟩
theorem DM {B : Nat} {w w' : World} {row : Option Nat} (hg : w.grownBy w' row) (hB : B≤w.heap.size) (hr : ∀ k,row = some k→B≤k) : Below B w w':=(Below.refl B w).grown hg hB hr
theorem oW.RA {w : World} {base : Nat} {v : Value} {xs : List UInt8} (h : oW w base v xs) : ∀ k,v.ownBlock = some k→base≤k∧k < w.heap.size:=World.ownsRow.lt h
theorem oW.aGM {w : World} {base n : Nat} {v : Value} {xs : List UInt8} (h : oW w base v xs) (hn : xs.length = n) : ∃ A cap,v = .slice A n cap∧iR w base A n cap xs:=by
 subst hn;exact h.slice
theorem lY {a w : World} {row : Option Nat} (h : a.grownBy w row) {p : Addr} (hp : some p.block = row ∨ a.heap.size≤p.block) (u : Value) : a.grownBy (w.setCell p u) row :=
 ⟨h.os,h.tape,h.output,by simpa using h.size,fun k hk hne => (Below.heap_setCell w p u k (by
  rintro rfl
  rcases hp with hp | hp
  ·exact hne hp
  ·omega)).trans (h.block k hk hne)⟩
theorem GO {a w w' : World} {row : Option Nat} (h : a.grownBy w row) (hb : Below w.heap.size w w') : a.grownBy w' row :=
 ⟨hb.os.trans h.os,hb.tape.trans h.tape,hb.output.trans h.output,Nat.le_trans h.size hb.size,fun k hk hne => (hb.block k (Nat.lt_of_lt_of_le hk h.size)).trans (h.block k hk hne)⟩
end Go.Proofs.Yteofcbkjhdadpaa
namespace Go.Proofs.Yteofcbkjhdadpaa
open Go.RowKit
abbrev mV (r c : Int) (A : Option Addr) (n cap : Nat) : Value:=.agg #[.int .i64 r,.int .i64 c,.slice A n cap]
def mH (n : Int) : Bool:=decide (0≤n∧n≤64)
def bY (r c : Int) (n : Nat) : Bool:=decide ((0≤r∧r≤64)∧(0≤c∧c≤64)∧(n : Int) = r * c)
theorem aBo {n : Nat} (h : n≤64) : mH (n : Int) = true:=by simp [mH];omega
theorem PS {r c : Int} (h1 : 0≤r) (h2 : r≤64) (h3 : 0≤c) (h4 : c≤64) : 0≤r * c∧r * c≤4096:=by
 refine ⟨Int.mul_nonneg h1 h3,?_⟩;have:=Int.mul_le_mul h2 h4 h3 (by omega);omega
end Go.Proofs.Yteofcbkjhdadpaa
namespace Go.Proofs.Yteofcbkjhdadpaa
open Go.RowKit Go.Proofs.aH.bJ
def nI (xs : List UInt8) : List Int:=xs.map fun x => (x.toNat : Int)
def GZ (a : Int) : UInt8:=UInt8.ofNat a.toNat
def JY (a : Int) : Bool:=decide (0≤a) && decide (a < 256)
def inU (l : List Int) : Bool:=l.all JY
theorem bT (xs : List UInt8) : (nI xs).length = xs.length:=by simp [nI]
theorem KV (x : UInt8) : GZ (x.toNat : Int) = x:=by simp [GZ]
theorem RS {a : Int} (h : JY a = true) : ((GZ a).toNat : Int) = a:=by
 simp [JY] at h
 unfold GZ;rw [UInt8.toNat_ofNat'];omega
theorem AX (x : UInt8) : JY (x.toNat : Int) = true:=by
 have h:=x.toNat_lt;have h0 : decide ((0 : Int)≤(x.toNat : Int)) = true:=decide_eq_true (by omega);have h1 : decide ((x.toNat : Int) < 256) = true:=decide_eq_true (by omega);unfold JY;rw [h0,h1];rfl
theorem SN (xs : List UInt8) : inU (nI xs) = true:=by
 unfold inU;rw [List.all_eq_true];intro a ha;obtain ⟨x,_,rfl⟩:=List.mem_map.1 ha;exact AX x
theorem aRU : ∀ {l : List Int},inU l = true→nI (l.map GZ) = l
 | [],_ => rfl
 | a :: l,h => by
  have h' : JY a = true∧inU l = true:=by
   unfold inU at h ⊢;rw [List.all_cons,Bool.and_eq_true] at h;exact h
  have h2:=aRU (l:=l) h'.2;have h3:=RS h'.1;show ((GZ a).toNat : Int) :: nI (l.map GZ) = a :: l;rw [h3,h2]
theorem xG : ∀ xs : List UInt8,(nI xs).map GZ = xs
 | [] => rfl
 | x :: xs => by
  have h2:=xG xs;simp only [nI,List.map_cons] at h2 ⊢;rw [KV,h2]
theorem AN {l : List Int} (h : inU l = true) : ∃ xs : List UInt8,l = nI xs:=⟨_,(aRU h).symm⟩
theorem aHj (xs : List UInt8) (j : Nat) : (nI xs)[j]? = xs[j]?.map fun x => (x.toNat : Int):=by simp [nI]
theorem zF (g o j : Nat) : (⟨g,o,none⟩ : Addr).add j = ⟨g,o + j,none⟩:=by unfold Addr.add;split <;> simp_all
theorem aMS {α : Type} (l : List α) (j : Nat) (h : j < l.length) : (l.drop j).take 1 = [l[j]]:=by
 rw [List.drop_eq_getElem_cons h];rfl
theorem jH {w : World} {g o : Nat} {u : Value} (h : w.cell? ⟨g,o,none⟩ = some u) : g < w.heap.size:=by
 rcases Nat.lt_or_ge g w.heap.size with hlt | hge
 ·exact hlt
 ·simp only [World.cell?,Array.getElem?_eq_none hge] at h
  cases h
theorem aCI {w : World} {g o : Nat} {s : Option Nat} {u : Value} (h : w.cell? ⟨g,o,s⟩ = some u) : s = none:=by
 cases s with
 | none => rfl
 | some s =>
  simp only [World.cell?] at h
  split at h
  ·simp at h
  ·cases h
theorem AK {w : World} {A : Option Addr} {xs : List UInt8} (h : Kd.C (Kd.int .u8) w A (nI xs).length (nI xs)) : Rd w w.heap.size A xs.length (fQ xs):=by
 obtain ⟨h1,h2,h3⟩:=h;refine ⟨cB xs,fun hn => ?_⟩;rw [bT] at h3;obtain ⟨ad,rfl,hc⟩:=h3 hn;have hcell : ∀ j (hj : j < xs.length),w.cell? (ad.add j) = some (.int .u8 ((xs[j]).toNat : Int)):=by
  intro j hj;obtain ⟨c,e1,e2,e3⟩:=hc j ((xs[j]).toNat : Int) (by rw [aHj,List.getElem?_eq_getElem hj];rfl);have e2' : c = [.int .u8 ((xs[j]).toNat : Int)]:=e2;have e4:=e3 0 (.int .u8 ((xs[j]).toNat : Int)) (by rw [e2'];rfl);have e5 : (Kd.int .u8).sz = 1:=rfl;rw [e5,Nat.mul_one,Nat.add_zero] at e4;exact e4
 have h0:=hcell 0 hn;obtain ⟨g,o,s⟩:=ad;have hs : s = none:=by
  have h1 : (⟨g,o,s⟩ : Addr).add 0 = ⟨g,o,s⟩:=by unfold Addr.add;simp
  rw [h1] at h0;exact aCI h0
 subst hs;rw [zF] at h0;refine ⟨g,o,rfl,jH h0,fun j u hu => ?_⟩
 ·have hj : j < xs.length:=by
   rcases Nat.lt_or_ge j xs.length with hlt | hge
   ·exact hlt
   ·rw [List.getElem?_eq_none (by rw [cB];exact hge)] at hu;cases hu
  rw [wH xs j hj] at hu;rw [← hu,← zF];exact hcell j hj
theorem XP {w : World} {B : Nat} {A : Option Addr} {xs : List UInt8} (h : Rd w B A xs.length (fQ xs)) (hm : xs.length≤9223372036854775807) : Kd.C (Kd.int .u8) w A (nI xs).length (nI xs):=by
 refine ⟨rfl,by rw [bT];exact hm,fun hn => ?_⟩;rw [bT] at hn;obtain ⟨g,o,rfl,hg,hc⟩:=h.2 hn;refine ⟨_,rfl,fun j p hp => ⟨[.int .u8 p],rfl,rfl,fun i u hu => ?_⟩⟩;have hj : j < xs.length:=by
  rcases Nat.lt_or_ge j xs.length with hlt | hge
  ·exact hlt
  ·rw [List.getElem?_eq_none (by rw [bT];exact hge)] at hp;cases hp
 rw [aHj,List.getElem?_eq_getElem hj] at hp
 simp at hp
 subst hp
 cases i with
 | zero =>
  simp at hu
  subst hu;have e5 : (Kd.int .u8).sz = 1:=rfl;rw [e5,Nat.mul_one,Nat.add_zero,zF];exact hc j _ (wH xs j hj)
 | succ i => simp at hu
theorem YL (R : Int→List Value→Prop) (hR : ∀ x : UInt8,R (x.toNat : Int) [.int .u8 (x.toNat : Int)]) (xs : List UInt8) : fT R 1 (nI xs) (fQ xs):=by
 refine ⟨by rw [cB,bT,Nat.mul_one],fun j p hp => ?_⟩;have hj : j < xs.length:=by
  rcases Nat.lt_or_ge j xs.length with hlt | hge
  ·exact hlt
  ·rw [List.getElem?_eq_none (by rw [bT];exact hge)] at hp;cases hp
 rw [aHj,List.getElem?_eq_getElem hj] at hp
 simp at hp
 subst hp;have e : ((fQ xs).drop (j * 1)).take 1 = [.int .u8 ((xs[j]).toNat : Int)]:=by
  rw [Nat.mul_one,aMS _ _ (by rw [cB];exact hj)]
  simp [fQ]
 rw [e];exact hR _
theorem zG {w : World} {base n cap : Nat} {A : Option Addr} {xs : List UInt8} (h : iR w base A n cap xs) : Kd.R (Kd.int .u8) 5 w base (fun _ => True) (.slice A n cap) (nI xs):=by
 refine ⟨fun _ _ => trivial,fQ xs,?_,YL _ (fun x => rfl) xs⟩;have e : (nI xs).length = n:=by rw [bT];exact h.1
 rw [e];exact h.2
def aOV (A1 A2 : Option Addr) : Prop:=∀ g,A1 = some ⟨g,0,none⟩→A2≠some ⟨g,0,none⟩
theorem aOV.symm {A1 A2 : Option Addr} (h : aOV A1 A2) : aOV A2 A1:=fun g h1 h2 => h g h2 h1
theorem aGg {w : World} {base n cap : Nat} {A : Option Addr} {xs : List UInt8} {ok : Nat→Prop} (h : iR w base A n cap xs) (hk : ∀ k,(Value.slice A n cap).ownBlock = some k→ok k) : Kd.R (Kd.int .u8) 5 w base ok (.slice A n cap) (nI xs):=by
 refine ⟨hk,fQ xs,?_,YL _ (fun x => rfl) xs⟩;have e : (nI xs).length = n:=by rw [bT];exact h.1
 rw [e];exact h.2
end Go.Proofs.Yteofcbkjhdadpaa
namespace Go.Proofs.Yteofcbkjhdadpaa
open Go.RowKit Go.Proofs.aH.bJ
def RH (xs ys : List UInt8) (w : World) (e : Ending) (w' : World) : Prop:=∃ (r c : Int) (A' : Option Addr) (k cap : Nat),e = .returned (.tuple #[.agg #[.int .i64 r,.int .i64 c,.slice A' k cap],.int .i64 (IS xs ys)])∧iR w' w.heap.size A' k cap (if IS xs ys = 0 then aNZ xs ys else []) ∧
 (r = if IS xs ys = 0 then (xs.length : Int) else 0)∧(c = if IS xs ys = 0 then (ys.length : Int) else 0)∧Below w.heap.size w w'
theorem aEx {xs ys : List UInt8} {w w' : World} {E : Int} (h : IS xs ys = E) (hE : E≠0) (hb : Below w.heap.size w w') : RH xs ys w (.returned (.tuple #[mV 0 0 none 0 0,.int .i64 E])) w':=by
 unfold RH;rw [h,if_neg hE,if_neg hE,if_neg hE];exact ⟨0,0,none,0,0,rfl,⟨rfl,rfl,.inl ⟨rfl,rfl⟩⟩,rfl,rfl,hb⟩
theorem aEw (A B : Option Addr) (n m c d : Nat) (xs ys : List UInt8) (w : World) (ha : Rd w w.heap.size A n (fQ xs)) (hb : Rd w w.heap.size B m (fQ ys)) (hn : n≤140737488355328) (hm : m≤140737488355328) :
  Calls Try.prog 11 #[.slice A n c,.slice B m d] w (RH xs ys w):=by
 have hxl : xs.length = n:=by have:=ha.len;rw [cB] at this;exact this
 have hyl : ys.length = m:=by have:=hb.len;rw [cB] at this;exact this
 obtain ⟨W1,hW1⟩ : ∃ W1,W1 = w.alloc (.cells #[.int .i64 0,.int .i64 0,.slice none 0 0] 24):=⟨_,rfl⟩
 have hb1 : Below w.heap.size w W1:=by rw [hW1];exact (Below.refl _ _).alloc (Nat.le_refl _) _
 have hrow : Row W1 w.heap.size 24 [.int .i64 0,.int .i64 0,.slice none 0 0]:=by rw [hW1];exact Row.new w _ _
 obtain ⟨G4,hG4⟩ : ∃ G,G = w.heap.size:=⟨_,rfl⟩
 have HG4:=Lib.hid hG4;rw [← hG4] at hrow;obtain ⟨d0,d1,d2,f0,f1,f2⟩:=hrow.three;have hg4:=hrow.lt;have hge : w.heap.size≤G4:=by omega
 have HS1:=Lib.hid (show G4 + 1 = W1.heap.size by rw [hW1,hG4];simp);have HROW:=Lib.hid hrow;have HB1:=Lib.hid hb1;have HW1:=Lib.hid hW1;have HA:=Lib.hid (ha.below hb1 (Nat.le_refl _));have HY:=Lib.hid (hb.below hb1 (Nat.le_refl _));have hlt1 : w.heap.size < W1.heap.size:=by omega
 have HA0:=Lib.hid ha;have HY0:=Lib.hid hb;clear hW1 hb1 hrow hG4 ha hb
 by_cases h1 : 64 < n
 ·have e1 : decide (64 < (n : Int)) = true:=decide_eq_true (by omega)
  have HE:=Lib.hid (show IS xs ys = 4 by unfold IS;rw [if_pos (.inl (by omega))]);clear hxl hyl h1;go_enter Try.func11,Try.ntmps11;go_wp2_with fail
  rw [← HG4.out,← HW1.out];refine bodyPost_ret (v:=.tuple #[mV 0 0 none 0 0,.int .i64 4]) (by simp [results,Try.results11,go_sem,d0,d1,d2,hg4]) rfl ?_;exact aEx HE.out (by omega) HB1.out
 ·by_cases h2 : 64 < m
  ·have e1 : decide (64 < (n : Int)) = false:=decide_eq_false (by omega)
   have e2 : decide (64 < (m : Int)) = true:=decide_eq_true (by omega);have HE:=Lib.hid (show IS xs ys = 4 by unfold IS;rw [if_pos (.inr (by omega))]);clear hxl hyl h1 h2;go_enter Try.func11,Try.ntmps11;go_wp2_with fail
   rw [← HG4.out,← HW1.out];refine bodyPost_ret (v:=.tuple #[mV 0 0 none 0 0,.int .i64 4]) (by simp [results,Try.results11,go_sem,d0,d1,d2,hg4]) rfl ?_;exact aEx HE.out (by omega) HB1.out
  ·have e1 : decide (64 < (n : Int)) = false:=decide_eq_false (by omega)
   have e2 : decide (64 < (m : Int)) = false:=decide_eq_false (by omega);have HE:=Lib.hid (show IS xs ys = if aFH (xs ++ ys) = true then 2 else 0 by unfold IS;rw [if_neg (by omega)]);have hn64 : n≤64:=by omega
   have hm64 : m≤64:=by omega
   obtain ⟨al,hal⟩ : ∃ al,al = xs ++ ys:=⟨_,rfl⟩
   have hall : al.length = n + m:=by rw [hal,List.length_append,hxl,hyl]
   have HAL:=Lib.hid hal;have HALL:=Lib.hid hall;have HXL:=Lib.hid hxl;have HYL:=Lib.hid hyl;rw [← hal] at HE;obtain ⟨hzv,hsz⟩:=zero_of_info aGx;obtain ⟨Z,hZ⟩ : ∃ Z,Z = (List.replicate 256 (Value.bool false)).toArray:=⟨_,rfl⟩
   rw [← hZ] at hzv;have HZ:=Lib.hid (show Z = (mkL al 0).toArray by rw [hZ,aMY]);have HDUP:=Lib.hid (show ∀ k,k < al.length→al.getD k 0∈al.take k→IS xs ys = 2 by
    intro k hk hs;rw [HE.out,show aFH al = true from ZL hs _ hk];rfl)
   have hidx : ∀ q : Nat,q < 2 → ∃ (L : Option Addr) (k p cap : Nat) (l : List UInt8),(∀ w : World,(Instr.index 65 (.agg #[.slice A n c,.slice B m d]) (.int .i64 (q : Int))).run Try.prog w = .ok (.slice L k cap) w) ∧
     Rd W1 w.heap.size L k (fQ l)∧k≤64∧p + k≤n + m∧(∀ j,j < k→al.getD (p + j) 0 = l.getD j 0)∧p = (if q = 0 then 0 else n)∧p + k = (if q = 0 then n else n + m):=by
    intro q hq;obtain rfl | rfl : q = 0 ∨ q = 1:=by omega
    ·exact ⟨A,n,0,c,xs,fun _ => rfl,HA.out,hn64,by omega,fun j hj => by rw [Nat.zero_add,hal,aGe (by omega)],rfl,by simp⟩
    ·exact ⟨B,m,n,d,ys,fun _ => rfl,HY.out,hm64,by omega,fun j hj => by rw [hal,← hxl,aCa],rfl,by simp⟩
   have HIDX:=Lib.hid hidx;clear hZ hsz hxl hyl hal hall h1 h2 hidx;go_enter Try.func11,Try.ntmps11;go_wp2_with fail
   rw [← HG4.out,← HW1.out,HS1.out]
   go_loopw [30] (fun v30 wr => ∃ (q : Nat) (C : Array Value),q≤2∧v30 = .int .i64 (q : Int)∧wr = W1.alloc (Obj.cells C 64)∧Hid (C = (mkL al (if q = 0 then 0 else if q = 1 then n else n + m)).toArray)∧Hid (JS al (if q = 0 then 0 else if q = 1 then n else n + m) = false)) (fun v30 _ => 2 - (intOf v30).toNat)
   case atStart => exact ⟨0,Z,by omega,rfl,rfl,Lib.hid (by rw [if_pos rfl];exact HZ.out),Lib.hid rfl⟩
   case round =>
    obtain ⟨q,C0,hq,rfl,rfl,HC0,HD0⟩:=hrel;clear HZ hzv
    by_cases hq2 : q < 2
    ·obtain ⟨L,k,p,cap,l,hix,hrd,hk64,hpk,hget,hp,hp2⟩:=HIDX.out q hq2
     have HP:=Lib.hid (show (if q = 0 then 0 else if q = 1 then n else n + m) = p by
      rw [hp];obtain rfl | rfl : q = 0 ∨ q = 1:=by omega
      ·simp
      ·simp)
     have HP2:=Lib.hid (show (if q + 1 = 0 then 0 else if q + 1 = 1 then n else n + m) = p + k by
      rw [hp2];obtain rfl | rfl : q = 0 ∨ q = 1:=by omega
      ·simp
      ·simp)
     rw [HP.out] at HC0 HD0;have HGET:=Lib.hid hget;have HRD:=Lib.hid hrd;clear hp hp2 hget hrd;go_wp2_with fail
     go_loopw [35] (fun v35 wr => ∃ (j : Nat) (C : Array Value),j≤k∧v35 = .int .i64 (j : Int)∧wr = W1.alloc (Obj.cells C 64)∧Hid (C = (mkL al (p + j)).toArray)∧Hid (JS al (p + j) = false)) (fun v35 _ => k - (intOf v35).toNat)
     case atStart => exact ⟨0,C0,by omega,rfl,rfl,HC0,HD0⟩
     case round =>
      obtain ⟨j,C,hj,rfl,rfl,HC,HDT⟩:=hrel;clear HC0 HD0
      by_cases hlt : j < k
      ·obtain ⟨g,o,rfl,hg,hcell⟩:=qE HRD.out hlt
       have hne : g≠W1.heap.size:=by omega
       have hg1 : g < W1.heap.size:=by omega
       have hpj : p + j < al.length:=by rw [HALL.out];omega
       have HS:=Lib.hid (aQf al (p + j) hpj);rw [HGET.out j hlt] at HS;have HX:=Lib.hid (show UInt8.ofNat (l.getD j 0).toNat = l.getD j 0 by simp);have hx:=(l.getD j 0).toNat_lt;have hv : C[(l.getD j 0).toNat]? = some (.bool (decide (l.getD j 0∈al.take (p + j)))):=by
        rw [HC.out,List.getElem?_toArray,VU _ _ _ hx,HX.out]
       have HN:=Lib.hid (show JS al (p + j + 1) = (JS al (p + j) || decide (l.getD j 0∈al.take (p + j))) by rw [← HGET.out j hlt];rfl);have HSEEN:=Lib.hid (show l.getD j 0∈al.take (p + j)→IS xs ys = 2 from fun h => HDUP.out (p + j) hpj (by rw [HGET.out j hlt];exact h));clear hpj
       cases hmem : decide (l.getD j 0∈al.take (p + j))
       ·rw [hmem] at hv HN
        have HD1:=Lib.hid (show JS al (p + j + 1) = false by rw [HN.out,HDT.out];rfl);clear hmem HX HN HSEEN;generalize l.getD j 0 = x at *;go_wp2_with fail
        go_roundw
        case rel => exact ⟨j + 1,_,by omega,by go_num,rfl,Lib.hid (by rw [HC.out];exact HS.out),HD1⟩
        case measure => simp [intOf];omega
       ·rw [hmem] at hv
        have HEE:=Lib.hid (HSEEN.out (of_decide_eq_true hmem));clear hmem HX HN HSEEN;generalize l.getD j 0 = x at *;go_wp2_with fail
        have hgz : G4 < W1.heap.size:=hg4;refine bodyPost_ret (v:=.tuple #[mV 0 0 none 0 0,.int .i64 2]) (by simp [results,Try.results11,go_sem,d0,d1,d2,hg4,Nat.ne_of_lt hg4]) rfl ?_;exact aEx HEE.out (by omega) ((cV HB1.out hge _ _ _).alloc (by simp;exact HB1.out.size) _)
      ·obtain rfl : j = k:=by omega
       go_wp2_with fail
       go_roundw
       case rel => exact ⟨q + 1,C,by omega,by go_num,rfl,Lib.hid (by rw [HP2.out];exact HC.out),Lib.hid (by rw [HP2.out];exact HDT.out)⟩
       case measure => simp [intOf];omega
    ·obtain rfl : q = 2:=by omega
     rw [show ((2 : Nat) : Int) = 2 from rfl];have HD:=Lib.hid (show aFH (xs ++ ys) = false by
      rw [← HAL.out];unfold aFH;rw [HALL.out];exact HD0.out)
     have HE0:=Lib.hid (show IS xs ys = 0 by rw [HE.out,HAL.out,HD.out];rfl);obtain ⟨W2,hW2⟩ : ∃ W2,W2 = W1.alloc (Obj.cells C0 64):=⟨_,rfl⟩
     have hb2 : Below W1.heap.size W1 W2:=by rw [hW2];exact (Below.refl _ _).alloc (Nat.le_refl _) _
     rw [← hW2];have hrow2:=HROW.out.below hb2 HROW.out.lt;have MU:=Lib.hid (HB1.out.trans (hb2.mono HB1.out.size));have HA2:=Lib.hid (HA.out.below (hb2.mono HB1.out.size) (Nat.le_refl _));have HY2:=Lib.hid (HY.out.below (hb2.mono HB1.out.size) (Nat.le_refl _));obtain ⟨W3,hW3⟩ : ∃ W3,W3 = W2.alloc (.cells #[.int .i64 (n : Int),.int .i64 (m : Int),.slice none 0 0] 24):=⟨_,rfl⟩
     have hb3 : Below W2.heap.size W2 W3:=by rw [hW3];exact (Below.refl _ _).alloc (Nat.le_refl _) _
     obtain ⟨G11,hG11⟩ : ∃ G,G = W2.heap.size:=⟨_,rfl⟩
     have aBg:=Lib.hid (show Row W3 G11 24 [.int .i64 (n : Int),.int .i64 (m : Int),.slice none 0 0] by rw [hW3,hG11];exact Row.new W2 _ _);have HR4:=Lib.hid (hrow2.below hb3 hrow2.lt);have VJ:=Lib.hid (MU.out.trans (hb3.mono MU.out.size));have hl4:=hrow2.lt;have hne4 : G4 < G11:=by omega
     have HG11:=Lib.hid hG11;have HW3:=Lib.hid hW3;obtain ⟨D,hD⟩ : ∃ D,D = aNZ xs ys:=⟨_,rfl⟩
     have HDD:=Lib.hid hD;have hDl : D.length = n * m:=by rw [hD];unfold aNZ;rw [lZ,HXL.out,HYL.out]
     have HDL:=Lib.hid hDl;have hnm : n * m≤4096:=Nat.le_trans (Nat.mul_le_mul hn64 hm64) (by omega);have HTK:=Lib.hid (show ∀ i j,i < n→j < m→D.take (i * m + j) ++ [Gf.inv (Gf.add (xs.getD i 0) (ys.getD j 0))] = D.take (i * m + j + 1) by
      intro i j hi hj;rw [hD];unfold aNZ;rw [HXL.out,HYL.out];exact aBG (aYO xs ys) hi hj)
     clear hW2 hb2 hrow2 hW3 hb3 hG11 hD hDl HC0 HD0 d0 d1 d2 f0 f1 f2 HIDX HDUP;go_wp2_with fail
     rw [← HG11.out,← HW3.out]
     go_loopw [54] (fun v54 wr => ∃ (i : Nat) (v : Value),i≤n∧v54 = .int .i64 (i : Int)∧oW wr (G11 + 1) v (D.take (i * m))∧Row wr G4 24 [.int .i64 0,.int .i64 0,.slice none 0 0]∧Row wr G11 24 [.int .i64 (n : Int),.int .i64 (m : Int),v]∧Below w.heap.size w wr) (fun v54 _ => n - (intOf v54).toNat)
     case atStart => exact ⟨0,.slice none 0 0,by omega,rfl,by rw [Nat.zero_mul,List.take_zero];exact oW.nil _ _,HR4.out,aBg.out,VJ.out⟩
     case round =>
      obtain ⟨i,v,hi,rfl,ho,r4,r11,hB⟩:=hrel;clear HR4 aBg VJ
      by_cases hlt : i < n
      ·obtain ⟨gx,ox,rfl,hgx,hcx⟩:=qE (HA0.out.below hB (Nat.le_refl _)) hlt
       have HIV:=Lib.hid (show ∀ j,j < m→Gf.QB (Gf.add (xs.getD i 0) (ys.getD j 0)) = 0 from fun j hj => aRr HD.out (by rw [HXL.out];exact hlt) (by rw [HYL.out];exact hj));have HTKI:=Lib.hid (fun j hj => HTK.out i j hlt hj);have hip : i * m + m≤n * m:=by have h:=Nat.mul_le_mul_right m (show i + 1≤n by omega);rw [Nat.add_mul] at h;omega
       obtain ⟨x,hx⟩ : ∃ x,x = xs.getD i 0:=⟨_,rfl⟩
       rw [← hx] at hcx HIV HTKI;have HO:=Lib.hid ho;have HR4:=Lib.hid r4;have aBg:=Lib.hid r11;have HB:=Lib.hid hB;clear hx ho r4 r11 hB;obtain ⟨wo,rfl⟩ : ∃ wo : World,wo = wr:=⟨_,rfl⟩
       go_wp2_with fail
       clear hcx
       go_loopw [60] (fun v60 wr => ∃ (j : Nat) (v : Value),j≤m∧v60 = .int .i64 (j : Int)∧oW wr (G11 + 1) v (D.take (i * m + j))∧Row wr G4 24 [.int .i64 0,.int .i64 0,.slice none 0 0]∧Row wr G11 24 [.int .i64 (n : Int),.int .i64 (m : Int),v]∧Below w.heap.size w wr) (fun v60 _ => m - (intOf v60).toNat)
       case atStart => exact ⟨0,v,by omega,rfl,HO.out,HR4.out,aBg.out,HB.out⟩
       case round =>
        obtain ⟨j,v,hj,rfl,ho,r4,r11,hB⟩:=hrel;clear HO HR4 aBg HB
        by_cases hlj : j < m
        ·obtain ⟨gy,oy,rfl,hgy,hcy⟩:=qE (HY0.out.below hB (Nat.le_refl _)) hlj
         have hinv:=HIV.out j hlj;have HT:=Lib.hid (HTKI.out j hlj);have hlD : (D.take (i * m + j)).length≤4096:=by rw [List.length_take,HDL.out];omega
         obtain ⟨y,hy⟩ : ∃ y,y = ys.getD j 0:=⟨_,rfl⟩
         rw [← hy] at hcy hinv HT;have hI:=aBD (Gf.add x y) wr;rw [hinv] at hI;have HI:=Lib.hid hI;obtain ⟨l,hl⟩ : ∃ l,l = D.take (i * m + j):=⟨_,rfl⟩
         rw [← hl] at ho HT hlD;have HO:=Lib.hid ho;have HR4:=Lib.hid r4;have aBg:=Lib.hid r11;have HB:=Lib.hid hB;clear hy hinv hI hl ho r4 r11 hB;go_wp2_with fail
         refine (aLD x y _).mono ?_;rintro e w' ⟨rfl,rfl⟩;go_wp2_with fail
         refine HI.out.mono ?_;rintro e w5 ⟨rfl,hb5⟩;have HO5:=Lib.hid (HO.out.below hb5);have bFH:=Lib.hid (HR4.out.below hb5 HR4.out.lt);have aPL:=aBg.out.below hb5 aBg.out.lt;have HB5:=Lib.hid (HB.out.trans (hb5.mono HB.out.size));have hb11 : G11 + 1≤w5.heap.size:=aPL.lt;obtain ⟨e0,e1,e2,p0,p1,p2⟩:=aPL.three;have aZE:=Lib.hid aPL;obtain ⟨z,hz⟩ : ∃ z,z = Gf.inv (Gf.add x y):=⟨_,rfl⟩
         rw [← hz] at HT ⊢;clear hb5 aPL hcy hz;go_wp2_with (at_builtin;refine tW (.tmp 76) (.tmp 78) rfl rfl (G11 + 1) v l z rfl HO5.out rfl (by omega) hb11 ?_;intro v1 w6 ho1 hb6 hg6;obtain ⟨A3,c3,rfl,hob3⟩:=ho1.aGM (n:=l.length + 1) (by simp);have aWh:=aZE.out.below hb6 (by omega);obtain ⟨q0,q1,q2,s0,s1,s2⟩:=aWh.three)
         have bFG:=Lib.hid (bFH.out.below hb6 (by omega));have HB6:=Lib.hid (HB5.out.trans (hb6.mono (by omega)))
         go_roundw
         case rel => exact ⟨j + 1,.slice A3 (l.length + 1) c3,by omega,by go_num,by rw [show i * m + (j + 1) = i * m + j + 1 from rfl,← HT.out];have h:=(hob3.NS (p:=⟨G11,2,none⟩) (by simp) (.slice A3 (l.length + 1) c3)).2;unfold oW;rw [List.length_append];exact h,bFG.out.NS (by simp;omega) _,aWh.set 2 _,HB6.out.setCell (by simp;omega) _⟩
         case measure => simp [intOf];omega
        ·obtain rfl : j = m:=by omega
         have HO:=Lib.hid ho;have HR4:=Lib.hid r4;have aBg:=Lib.hid r11;have HB:=Lib.hid hB;clear ho r4 r11 hB;go_wp2_with fail
         go_roundw
         case rel => exact ⟨i + 1,v,by omega,by go_num,by rw [Nat.add_mul,Nat.one_mul];exact HO.out,HR4.out,aBg.out,HB.out⟩
         case measure => simp [intOf];omega
      ·obtain rfl : i = n:=by omega
       obtain ⟨d0,d1,d2,f0,f1,f2⟩:=r4.three;obtain ⟨e0,e1,e2,_,_,_⟩:=r11.three;have hg4':=r4.lt;rw [← HDL.out,List.take_length] at ho;obtain ⟨A3,c3,rfl,hob3⟩:=ho.slice;have HOB:=Lib.hid (hob3.JP (show G4 < G11 + 1 by omega) (.int .i64 (i : Int)) (.int .i64 (m : Int)) (.slice A3 D.length c3));have HB:=Lib.hid (cV hB hge (.int .i64 (i : Int)) (.int .i64 (m : Int)) (.slice A3 D.length c3));clear ho r4 r11 hB hob3;go_wp2_with fail
       refine bodyPost_ret (v:=.tuple #[mV i m A3 D.length c3,.int .i64 0]) (by simp [results,Try.results11,go_sem,d0,d1,d2,hg4']) rfl ?_;unfold RH;rw [HE0.out];refine ⟨_,_,_,_,_,rfl,?_,by rw [if_pos rfl,HXL.out],by rw [if_pos rfl,HYL.out],HB.out⟩;rw [if_pos rfl,← HDD.out];exact HOB.out.mono (by omega)
def AP.f (l m : List Int) : Option (Int×Int×List Int×Int):=if (inU l && inU m && (decide (l.length≤140737488355328) && decide (m.length≤140737488355328))) = true then
 some (if IS (l.map GZ) (m.map GZ) = 0 then (l.length : Int) else 0,if IS (l.map GZ) (m.map GZ) = 0 then (m.length : Int) else 0,nI (if IS (l.map GZ) (m.map GZ) = 0 then aNZ (l.map GZ) (m.map GZ) else []),IS (l.map GZ) (m.map GZ)) else none
theorem AP.calls (A0 : Option Addr) (c0 : Nat) (l0 : List Int) (A1 : Option Addr) (c1 : Nat) (l1 : List Int) (r1 : Int) (r2 : Int) (r3 : List Int) (r4 : Int) (w : World) (hr0 : Kd.C (Kd.int .u8) w A0 l0.length l0) (hc0 : l0.length≤c0) (hr1 : Kd.C (Kd.int .u8) w A1 l1.length l1) (hc1 : l1.length≤c1) (h : AP.f l0 l1 = some (r1,r2,r3,r4)) :
  Calls Try.prog 11 #[.slice A0 l0.length c0,.slice A1 l1.length c1] w fun e w' => ∃ uT : Value,e = .returned (.tuple #[.agg #[.int .i64 r1,.int .i64 r2,uT],.int .i64 r4])∧Kd.R (Kd.int .u8) 5 w' w.heap.size (fun _ => True) uT r3∧Below w.heap.size w w':=by
 unfold AP.f at h
 split at h
 ·rename_i hi
  simp only [Bool.and_eq_true,decide_eq_true_eq] at hi;simp only [Option.some.injEq,Prod.mk.injEq] at h;obtain ⟨rfl,rfl,rfl,rfl⟩:=h;obtain ⟨xs,rfl⟩:=AN hi.1.1;obtain ⟨ys,rfl⟩:=AN hi.1.2;simp only [bT,xG] at hi hc0 hc1 ⊢;refine (aEw A0 A1 xs.length ys.length c0 c1 xs ys w (AK hr0) (AK hr1) hi.2.1 hi.2.2).mono ?_;intro e w' hp;unfold RH at hp;obtain ⟨r,c,A',k,cap,rfl,ho,rfl,rfl,hb⟩:=hp;exact ⟨_,rfl,zG ho,hb⟩
 ·cases h
end Go.Proofs.Yteofcbkjhdadpaa
namespace Go.Proofs.Yteofcbkjhdadpaa
open Go.RowKit
theorem aGd (r c : Nat) (p : Nat) (w : World) (hr : r≤64) (hc : c≤64) (hp : Hid (p = r * c)) :
  Calls Try.prog 78 #[.int .i64 (r : Int),.int .i64 (c : Int)] w fun e w' => ∃ A,e = .returned (mV r c A p p)∧iR w' w.heap.size A p p (List.replicate p 0)∧Below w.heap.size w w':=by
 have hb : p≤4096:=by
  rw [hp.out];exact Nat.le_trans (Nat.mul_le_mul hr hc) (by omega)
 have e1 : IntKind.i64.wrap ((r : Int) * (c : Int)) = (p : Int):=by rw [IntKind.wrap_i64,hp.out,Int.natCast_mul];have:=PS (r:=r) (c:=c) (by omega) (by omega) (by omega) (by omega);omega
 have hmk:=FY p (by omega);go_enter Try.func78,Try.ntmps78;go_wp2_with fail
 have hrow:=BJ (w.alloc (Obj.cells #[Value.int IntKind.i64 (r : Int),Value.int IntKind.i64 (c : Int),Value.slice (some ⟨w.heap.size + 1,0,none⟩) p p] 24)) p;rw [World.size_alloc] at hrow;refine bodyPost_ret (v:=mV r c (some ⟨w.heap.size + 1,0,none⟩) p p) (by simp [results,Try.results78,go_sem]) rfl ⟨_,rfl,hrow.aKX (by omega) (by simp) (by simp only [maxLen];omega),((Below.refl _ _).alloc (Nat.le_refl _) _).alloc (by simp) _⟩
theorem LM (r c : Nat) (p : Nat) (w : World) (hr : r≤64) (hc : c≤64) (hp : Hid (p = r * c)) :
  Calls Try.prog 78 #[.int .i64 (r : Int),.int .i64 (c : Int)] w fun e w' => ∃ g,e = .returned (mV r c (some ⟨g,0,none⟩) p p)∧Row w' g 5 (fQ (List.replicate p 0))∧w.heap.size≤g∧Below w.heap.size w w':=by
 have hb : p≤4096:=by
  rw [hp.out];exact Nat.le_trans (Nat.mul_le_mul hr hc) (by omega)
 have e1 : IntKind.i64.wrap ((r : Int) * (c : Int)) = (p : Int):=by rw [IntKind.wrap_i64,hp.out,Int.natCast_mul];have:=PS (r:=r) (c:=c) (by omega) (by omega) (by omega) (by omega);omega
 have hmk:=FY p (by omega);go_enter Try.func78,Try.ntmps78;go_wp2_with fail
 have hrow:=BJ (w.alloc (Obj.cells #[Value.int IntKind.i64 (r : Int),Value.int IntKind.i64 (c : Int),Value.slice (some ⟨w.heap.size + 1,0,none⟩) p p] 24)) p;rw [World.size_alloc] at hrow;refine bodyPost_ret (v:=mV r c (some ⟨w.heap.size + 1,0,none⟩) p p) (by simp [results,Try.results78,go_sem]) rfl ⟨_,rfl,hrow,by omega,((Below.refl _ _).alloc (Nat.le_refl _) _).alloc (by simp) _⟩
end Go.Proofs.Yteofcbkjhdadpaa
namespace Go.Proofs.Yteofcbkjhdadpaa
open Go.RowKit
theorem mG (n : Int) (w : World) : Calls Try.prog 77 #[.int .i64 n] w fun e w' => e = .returned (.bool (mH n))∧w = w':=by
 by_cases h1 : 0≤n
 ·by_cases h2 : n≤64
  ·have H:=Lib.hid (show mH n = true by simp [mH,h1,h2])
   have d1 : decide (0≤n) = true:=by simpa using h1
   have d2 : decide (n≤64) = true:=by simpa using h2
   go_enter Try.func77,Try.ntmps77;go_wp2_with fail
   go_ret;exact ⟨by rw [H.out];rfl,rfl⟩
  ·have H:=Lib.hid (show mH n = false by simp [mH,h1,h2])
   have d1 : decide (0≤n) = true:=by simpa using h1
   have d2 : decide (n≤64) = false:=by simpa using h2
   go_enter Try.func77,Try.ntmps77;go_wp2_with fail
   go_ret;exact ⟨by rw [H.out];rfl,rfl⟩
 ·have H:=Lib.hid (show mH n = false by simp [mH,h1])
  have d1 : decide (0≤n) = false:=by simpa using h1
  go_enter Try.func77,Try.ntmps77;go_wp2_with fail
  go_ret;exact ⟨by rw [H.out];rfl,rfl⟩
theorem gM (r c : Int) (A : Option Addr) (n cap : Nat) (w : World) : Calls Try.prog 76 #[mV r c A n cap] w fun e w' => e = .returned (.bool (bY r c n))∧Below w.heap.size w w':=by
 by_cases hr : mH r = true
 ·by_cases hc : mH c = true
  ·have h1 : 0≤r∧r≤64:=by simpa [mH] using hr
   have h2 : 0≤c∧c≤64:=by simpa [mH] using hc
   obtain ⟨p,hp⟩ : ∃ p,p = r * c:=⟨_,rfl⟩
   have hb:=PS h1.1 h1.2 h2.1 h2.2;have e1 : IntKind.i64.wrap (r * c) = p:=by rw [IntKind.wrap_i64,hp];omega
   have H:=Lib.hid (show bY r c n = decide ((n : Int) = p) by rw [hp];simp [bY,h1,h2]);clear h1 h2 hb hp
   by_cases hn : (n : Int) = p
   ·have q : ((n : Int) == p) = true:=by simpa using hn
    have HN:=Lib.hid (show decide ((n : Int) = p) = true by simpa using hn);clear hn;go_enter Try.func76,Try.ntmps76;go_wp2_with (go_at_call 77;refine (mG _ _).mono ?_;rintro e w' ⟨rfl,rfl⟩)
    go_ret;exact ⟨by rw [H.out,HN.out];rfl,(Below.refl _ _).alloc (Nat.le_refl _) _⟩
   ·have q : ((n : Int) == p) = false:=by simpa using hn
    have HN:=Lib.hid (show decide ((n : Int) = p) = false by simpa using hn);clear hn;go_enter Try.func76,Try.ntmps76;go_wp2_with (go_at_call 77;refine (mG _ _).mono ?_;rintro e w' ⟨rfl,rfl⟩)
    go_ret;exact ⟨by rw [H.out,HN.out];rfl,(Below.refl _ _).alloc (Nat.le_refl _) _⟩
  ·have hc : mH c = false:=by simpa using hc
   have H:=Lib.hid (show bY r c n = false by simp [bY,mH] at hc ⊢;intro h1 h2 h3 h4;omega);go_enter Try.func76,Try.ntmps76;go_wp2_with (go_at_call 77;refine (mG _ _).mono ?_;rintro e w' ⟨rfl,rfl⟩)
   go_ret;exact ⟨by rw [H.out];rfl,(Below.refl _ _).alloc (Nat.le_refl _) _⟩
 ·have hr : mH r = false:=by simpa using hr
  have H:=Lib.hid (show bY r c n = false by simp [bY,mH] at hr ⊢;intro h1 h2;omega);go_enter Try.func76,Try.ntmps76;go_wp2_with (go_at_call 77;refine (mG _ _).mono ?_;rintro e w' ⟨rfl,rfl⟩)
  go_ret;exact ⟨by rw [H.out];rfl,(Below.refl _ _).alloc (Nat.le_refl _) _⟩
end Go.Proofs.Yteofcbkjhdadpaa
namespace Go.Proofs.Yteofcbkjhdadpaa
def aBz (r c : Int) : Bool:=mH r && mH c
theorem aLg {r c : Int} (h : aBz r c = true) : ∃ a b : Nat,r = a∧c = b∧a≤64∧b≤64:=by
 simp [aBz,mH] at h
 exact ⟨r.toNat,c.toNat,by omega,by omega,by omega,by omega⟩
end Go.Proofs.Yteofcbkjhdadpaa
namespace Go.Proofs.Yteofcbkjhdadpaa
open Go.RowKit
theorem aQg (r c : Int) (w : World) (h : aBz r c = false) :
  Calls Try.prog 63 #[.int .i64 r,.int .i64 c] w fun e w' => e = .returned (.tuple #[mV 0 0 none 0 0,.int .i64 2])∧Below w.heap.size w w':=by
 by_cases h1 : mH r = true
 ·have h2 : mH c = false:=by simpa [aBz,h1] using h
  clear h;go_enter Try.func63,Try.ntmps63;go_wp2_with (go_at_call 77;refine (mG _ _).mono ?_;rintro e w' ⟨rfl,rfl⟩)
  exact bodyPost_ret (v:=.tuple #[mV 0 0 none 0 0,.int .i64 2]) (by simp [results,Try.results63,go_sem]) rfl ⟨rfl,(Below.refl _ _).alloc (Nat.le_refl _) _⟩
 ·have h1 : mH r = false:=by simpa using h1
  clear h;go_enter Try.func63,Try.ntmps63;go_wp2_with (go_at_call 77;refine (mG _ _).mono ?_;rintro e w' ⟨rfl,rfl⟩)
  exact bodyPost_ret (v:=.tuple #[mV 0 0 none 0 0,.int .i64 2]) (by simp [results,Try.results63,go_sem]) rfl ⟨rfl,(Below.refl _ _).alloc (Nat.le_refl _) _⟩
theorem aNb (r c p : Nat) (w : World) (hr : r≤64) (hc : c≤64) (hp : Hid (p = r * c)) :
  Calls Try.prog 63 #[.int .i64 (r : Int),.int .i64 (c : Int)] w fun e w' => ∃ A,e = .returned (.tuple #[mV r c A p p,.int .i64 0])∧iR w' w.heap.size A p p (List.replicate p 0)∧Below w.heap.size w w':=by
 have h1 : mH (r : Int) = true:=by simp [mH];omega
 have h2 : mH (c : Int) = true:=by simp [mH];omega
 go_enter Try.func63,Try.ntmps63;go_wp2_with (first | (go_at_call 77;refine (mG _ _).mono ?_;rintro e w' ⟨rfl,rfl⟩) | (go_at_call 78;refine (aGd r c p _ hr hc hp).mono ?_;rintro e w1 ⟨A,rfl,ho,hb⟩;obtain ⟨c0,c1,c2,f0,f1,f2⟩:=((Row.new w [.int .i64 0,.int .i64 0,.slice none 0 0] 24).below hb (by simp)).three))
 refine bodyPost_ret (v:=.tuple #[mV r c A p p,.int .i64 0]) (by simp [results,Try.results63,go_sem,c0,c1,c2]) rfl ⟨_,rfl,(ho.JP (by simp) _ _ _).mono (by simp),cV (((Below.refl _ _).alloc (Nat.le_refl _) _).trans (hb.mono (by simp))) (Nat.le_refl _) _ _ _⟩
end Go.Proofs.Yteofcbkjhdadpaa
namespace Go.Proofs.Yteofcbkjhdadpaa
open Go.RowKit
def BK (A : Option Addr) (c k : Nat) : Option Addr:=if c = 0 then A else A.map (·.add k)
theorem tY {g o c k : Nat} (h : c≠0) : BK (some ⟨g,o,none⟩) c k = some ⟨g,o + k,none⟩:=by
 unfold BK;rw [if_neg h]
 simp [Addr.add]
theorem aGT {w : World} {B n c k : Nat} {A : Option Addr} {xs : List UInt8} (h : Rd w B A n (fQ xs)) (hk : k + c≤n) : Rd w B (BK A c k) c (fQ ((xs.drop k).take c)):=by
 have hl:=h.len;rw [cB] at hl;refine ⟨by rw [cB,List.length_take,List.length_drop];omega,fun hc => ?_⟩;obtain ⟨g,o,rfl,hg,hcell⟩:=h.2 (by omega);refine ⟨g,o + k,tY (by omega),hg,fun j u hu => ?_⟩;rw [Nat.add_assoc];refine hcell (k + j) u ?_;rw [← hu];have hj : j < c:=by
  rcases Nat.lt_or_ge j c with h | h
  ·exact h
  ·rw [List.getElem?_eq_none (by rw [cB,List.length_take];omega)] at hu;cases hu
 simp [fQ,List.getElem?_take,hj,List.getElem?_drop]
theorem uE (r c i : Nat) (A : Option Addr) (n cap k k1 : Nat) (w : World) (hr : r≤64) (hc : c≤64) (hi : i < r) (hk : Hid (k = i * c)) (hk1 : Hid (k1 = (i + 1) * c)) (hn : k1≤n) (hcap : n≤cap) :
  Calls Try.prog 79 #[mV r c A n cap,.int .i64 (i : Int)] w fun e w' => e = .returned (.slice (BK A c k) c c)∧Below w.heap.size w w':=by
 have hkc : k + c = k1:=by rw [hk.out,hk1.out,Nat.add_mul];omega
 have hb : k1≤4096:=by
  rw [hk1.out];exact Nat.le_trans (Nat.mul_le_mul (show i + 1≤64 by omega) hc) (by omega)
 have e1 : IntKind.i64.wrap ((i : Int) * (c : Int)) = (k : Int):=by rw [← Int.natCast_mul,← hk.out,IntKind.wrap_i64];omega
 have e2 : IntKind.i64.wrap (((i : Int) + 1) * (c : Int)) = (k1 : Int):=by
  have : ((i : Int) + 1) * (c : Int) = ((i + 1) * c : Nat):=by simp
  rw [this,← hk1.out,IntKind.wrap_i64];omega
 have HKC:=Lib.hid hkc;have e3 : IntKind.i64.wrap ((i : Int) + 1) = (i : Int) + 1:=by rw [IntKind.wrap_i64];omega
 have hkk : k≤k1:=by omega
 by_cases hz : c = 0
 ·obtain rfl : k1 = k:=by omega
  have HA:=Lib.hid (show BK A c k1 = A by unfold BK;rw [if_pos hz]);have HZ:=Lib.hid hz;clear hz hkc;go_enter Try.func79,Try.ntmps79;go_wp2_with fail
  go_quiet (fail)
  go_wp2_with fail
  go_ret;exact ⟨by rw [HA.out,HZ.out];rfl,below_drewN ((Below.refl _ _).alloc (Nat.le_refl _) _) _⟩
 ·have hne : ¬ k1 = k:=by omega
  have HA:=Lib.hid (show BK A c k = A.map (·.add k) by unfold BK;rw [if_neg hz]);have HE:=Lib.hid (show k1 - k = c by omega);clear hz hkc;go_enter Try.func79,Try.ntmps79;go_wp2_with fail
  go_quiet (fail)
  go_wp2_with fail
  go_ret;exact ⟨by rw [HA.out];show Ending.returned (Value.slice _ (k1 - k) (k1 - k)) = _;rw [HE.out],below_drewN ((Below.refl _ _).alloc (Nat.le_refl _) _) _⟩
end Go.Proofs.Yteofcbkjhdadpaa
namespace Go.Proofs.Yteofcbkjhdadpaa
def aFr (n : Nat) : Nat→List UInt8
 | 0 => List.replicate (n * n) 0
 | i + 1 => (aFr n i).set (i * n + i) 1
theorem aRp {n i : Nat} (h : i < n) : i * n + i < n * n:=by
 have : (i + 1) * n≤n * n:=Nat.mul_le_mul_right n h;rw [Nat.add_mul] at this;omega
end Go.Proofs.Yteofcbkjhdadpaa
namespace Go.Proofs.Yteofcbkjhdadpaa
open Go.RowKit
theorem aFq (n : Int) (w : World) (h : aBz n n = false) :
  Calls Try.prog 68 #[.int .i64 n] w fun e w' => e = .returned (.tuple #[mV 0 0 none 0 0,.int .i64 2])∧Below w.heap.size w w':=by
 go_enter Try.func68,Try.ntmps68;go_wp2_with (go_at_call 63;refine (aQg n n _ h).mono ?_;rintro e w1 ⟨rfl,hb⟩;obtain ⟨c0,c1,c2,f0,f1,f2⟩:=((Row.new w [.int .i64 0,.int .i64 0,.slice none 0 0] 24).below hb (by simp)).three;have hs : w.heap.size < w1.heap.size:=by have:=hb.size;simp at this;omega)
 exact bodyPost_ret (v:=.tuple #[mV 0 0 none 0 0,.int .i64 2]) (by simp [results,Try.results68,go_sem,c0,c1,c2,hs]) rfl ⟨rfl,(cV (((Below.refl w.heap.size w).alloc (Nat.le_refl _) _).trans (hb.mono (by simp))) (Nat.le_refl _) _ _ _).alloc (by simp;omega) _⟩
theorem aDc (n p : Nat) (w : World) (hn : n≤64) (hp : Hid (p = n * n)) :
  Calls Try.prog 68 #[.int .i64 (n : Int)] w fun e w' => ∃ A,e = .returned (.tuple #[mV n n A p p,.int .i64 0])∧iR w' w.heap.size A p p (aFr n n)∧Below w.heap.size w w':=by
 have hpb : p≤4096:=by rw [hp.out];exact Nat.le_trans (Nat.mul_le_mul hn hn) (by omega)
 go_enter Try.func68,Try.ntmps68;go_wp2_with (go_at_call 63;refine (aNb n n p _ hn hn hp).mono ?_;rintro e w1 ⟨A,rfl,ho,hb⟩;have B0:=(Row.new w [.int .i64 0,.int .i64 0,.slice none 0 0] 24).below hb (by simp);have hs : w.heap.size < w1.heap.size:=by have:=hb.size;simp at this;omega)
 have HA:=Lib.hid (show ∀ g,A = some ⟨g,0,none⟩→w.heap.size < g∧g < w1.heap.size by
  intro g h;subst h;have:=ho.row g rfl
  simp at this
  omega)
 have HO:=Lib.hid (show iR (w1.alloc (Obj.cells #[Value.int IntKind.i64 (n : Int),Value.int IntKind.i64 (n : Int),Value.slice A p p] 24)) w.heap.size A p p (aFr n 0) by
  have h:=ho.below ((Below.refl _ _).alloc (Nat.le_refl _) (Obj.cells #[Value.int IntKind.i64 (n : Int),Value.int IntKind.i64 (n : Int),Value.slice A p p] 24)) (Nat.le_refl _);simp only [aFr];rw [← hp.out];exact h.mono (by simp))
 have HB:=Lib.hid (show Below w.heap.size w (w1.alloc (Obj.cells #[Value.int IntKind.i64 (n : Int),Value.int IntKind.i64 (n : Int),Value.slice A p p] 24)) from (((Below.refl _ _).alloc (Nat.le_refl _) _).trans (hb.mono (by simp))).alloc (by omega) _);have HB0:=Lib.hid (B0.alloc (Obj.cells #[Value.int IntKind.i64 (n : Int),Value.int IntKind.i64 (n : Int),Value.slice A p p] 24));have HB1:=Lib.hid (Row.new w1 [.int .i64 n,.int .i64 n,.slice A p p] 24);clear ho hb B0
 go_loopw [18] (fun v18 wr => ∃ i : Nat,i≤n∧v18 = .int .i64 (i : Int)∧iR wr w.heap.size A p p (aFr n i)∧Below w.heap.size w wr∧Row wr w.heap.size 24 [.int .i64 0,.int .i64 0,.slice none 0 0]∧Row wr w1.heap.size 24 [.int .i64 n,.int .i64 n,.slice A p p]) (fun v18 _ => n - (intOf v18).toNat)
 case atStart => exact ⟨0,by omega,rfl,HO.out,HB.out,HB0.out,HB1.out⟩
 case round =>
  obtain ⟨i,hi,rfl,ho,hb,b0,b1⟩:=hrel;clear HO HB HB0 HB1
  by_cases hlt : i < n
  ·have hd:=aRp hlt
   obtain ⟨k,hk⟩ : ∃ k,k = i * n:=⟨_,rfl⟩
   obtain ⟨k1,hk1⟩ : ∃ k1,k1 = (i + 1) * n:=⟨_,rfl⟩
   have hkn : k1≤p:=by rw [hk1,hp.out];exact Nat.mul_le_mul_right n hlt
   have hki : k + i < p:=by rw [hk,hp.out];exact hd
   have HID:=Lib.hid (show (aFr n i).set (k + i) 1 = aFr n (i + 1) by rw [hk];rfl);have HK:=Lib.hid hk;have yS:=Lib.hid hk1;obtain ⟨g,rfl,hg1,hg2,hcell,hfz⟩:=ho.at_ hki;have hg3:=HA.out g rfl;have hro : BK (some ⟨g,0,none⟩) n k = some ⟨g,k,none⟩:=by rw [tY (by omega),Nat.zero_add]
   obtain ⟨c0,c1,c2,f0,f1,f2⟩:=b1.three;have HO:=Lib.hid ho;have HB:=Lib.hid hb;have HR:=Lib.hid (fun w => uE n n i (some ⟨g,0,none⟩) p p k k1 w hn hn hlt HK yS hkn (Nat.le_refl _));rw [hro] at HR;clear hk hk1 hd ho hb hro hcell hfz;go_wp2_with (go_at_call 79;refine (HR.out _).mono ?_;rintro e w2 ⟨rfl,hb2⟩;have o2:=HO.out.below hb2 (Nat.le_refl _);obtain ⟨g',e',_,hlt2,hcell,hfz⟩:=o2.at_ hki;cases e')
   go_roundw
   case rel =>
    refine ⟨i + 1,by omega,by go_num,?_,?_,?_,?_⟩
    ·have h:=o2.store (k + i) 1
     rw [HID.out] at h;exact h
    ·exact (HB.out.trans (hb2.mono HB.out.size)).setCell (by simp;omega) _
    ·exact (b0.below hb2 b0.lt).NS (by simp;omega) _
    ·exact (b1.below hb2 b1.lt).NS (by simp;omega) _
   case measure => simp [intOf];omega
  ·obtain rfl : i = n:=by omega
   obtain ⟨c0,c1,c2,f0,f1,f2⟩:=b0.three;obtain ⟨d0,d1,d2,_,_,_⟩:=b1.three;go_wp2_with fail
   refine bodyPost_ret (v:=.tuple #[mV i i A p p,.int .i64 0]) (by simp [results,Try.results68,go_sem,c0,c1,c2]) rfl ⟨_,rfl,?_,cV hb (Nat.le_refl _) _ _ _⟩;refine iR.vJ ho fun g hg => ?_
   have:=HA.out g hg;rw [Below.heap_setCell _ _ _ _ (by simp;omega),Below.heap_setCell _ _ _ _ (by simp;omega),Below.heap_setCell _ _ _ _ (by simp;omega)]
end Go.Proofs.Yteofcbkjhdadpaa
namespace Go.Proofs.Yteofcbkjhdadpaa
open Go.RowKit Go.Proofs.aH.bJ
def tI.f (n : Int) : Option (Int×Int×List Int×Int) :=
 if aBz n n = true then some (n,n,nI (aFr n.toNat n.toNat),0) else some (0,0,[],2)
theorem tI.calls (a0 : Int) (r1 : Int) (r2 : Int) (r3 : List Int) (r4 : Int) (w : World)  (h : tI.f a0 = some (r1,r2,r3,r4)) :
  Calls Try.prog 68 #[.int .i64 a0] w fun e w' => ∃ uT : Value,e = .returned (.tuple #[.agg #[.int .i64 r1,.int .i64 r2,uT],.int .i64 r4])∧Kd.R (Kd.int .u8) 5 w' w.heap.size (fun _ => True) uT r3∧Below w.heap.size w w':=by
 unfold tI.f at h
 split at h
 ·rename_i hi
  simp only [Option.some.injEq,Prod.mk.injEq] at h;obtain ⟨rfl,rfl,rfl,rfl⟩:=h;obtain ⟨a,b,rfl,h2,h3,h4⟩:=aLg hi;refine (aDc a (a * a) w h3 (Lib.hid rfl)).mono ?_;rintro e w' ⟨g,rfl,ho,hb⟩;exact ⟨_,rfl,zG ho,hb⟩
 ·rename_i hi
  simp only [Option.some.injEq,Prod.mk.injEq] at h;obtain ⟨rfl,rfl,rfl,rfl⟩:=h;refine (aFq a0 w (by simpa using hi)).mono ?_;rintro e w' ⟨rfl,hb⟩;exact ⟨_,rfl,Kd.IE _ _ _ _ _,hb⟩
end Go.Proofs.Yteofcbkjhdadpaa
namespace Go.Proofs.Yteofcbkjhdadpaa
open Go.RowKit
structure Ctx (w0 w : World) (bs : List (Nat×List Value)) (rs : List (Option Addr×Nat×List UInt8)) : Prop where
 below : Below w0.heap.size w0 w
 rows : ∀ b∈bs,Row w b.1 24 b.2
 rds : ∀ r∈rs,Rd w w.heap.size r.1 r.2.1 (fQ r.2.2)
section
variable {w0 w w' : World} {bs : List (Nat×List Value)} {rs : List (Option Addr×Nat×List UInt8)}
theorem Ctx.start (w : World) : Ctx w w [] []:=⟨Below.refl _ _,fun b h => absurd h (by simp),fun r h => absurd h (by simp)⟩
theorem Ctx.go (h : Ctx w0 w bs rs) (hb : Below w.heap.size w w') : Ctx w0 w' bs rs :=
 ⟨h.below.trans (hb.mono h.below.size),fun b hm => (h.rows b hm).below hb (h.rows b hm).lt,fun r hm => (h.rds r hm).go hb⟩
theorem Ctx.add {A : Option Addr} {n : Nat} {xs : List UInt8} (h : Ctx w0 w bs rs) (hr : Rd w w.heap.size A n (fQ xs)) : Ctx w0 w bs ((A,n,xs) :: rs) :=
 ⟨h.below,h.rows,fun r hm => by
  rcases List.mem_cons.1 hm with rfl | hm
  ·exact hr
  ·exact h.rds r hm⟩
theorem Ctx.box (h : Ctx w0 w bs rs) (cs : List Value) : Ctx w0 (w.alloc (.cells cs.toArray 24)) ((w.heap.size,cs) :: bs) rs:=by
 have hb : Below w.heap.size w (w.alloc (.cells cs.toArray 24)):=(Below.refl _ _).alloc (Nat.le_refl _) _;refine ⟨h.below.trans (hb.mono h.below.size),fun b hm => ?_,fun r hm => (h.rds r hm).go hb⟩
 rcases List.mem_cons.1 hm with rfl | hm
 ·exact Row.new w cs _
 ·exact (h.rows b hm).below hb (h.rows b hm).lt
theorem Ctx.alloc (h : Ctx w0 w bs rs) (o : Obj) : Ctx w0 (w.alloc o) bs rs:=h.go ((Below.refl _ _).alloc (Nat.le_refl _) o)
theorem Ctx.drewN (h : Ctx w0 w bs rs) (n : Nat) : Ctx w0 (w.drewN n) bs rs:=h.go (below_drewN (Below.refl _ _) n)
theorem Ctx.drew (h : Ctx w0 w bs rs) : Ctx w0 w.drew bs rs:=h.go (Below.drew (Below.refl _ _))
theorem Ctx.row (h : Ctx w0 w bs rs) (i : Nat) {g : Nat} {cs : List Value} (e : bs[i]? = some (g,cs)) : Row w g 24 cs:=h.rows _ (List.mem_of_getElem? e)
theorem Ctx.rd (h : Ctx w0 w bs rs) (i : Nat) {A : Option Addr} {n : Nat} {xs : List UInt8} (e : rs[i]? = some (A,n,xs)) : Rd w w.heap.size A n (fQ xs):=h.rds _ (List.mem_of_getElem? e)
theorem Ctx.lt (h : Ctx w0 w bs rs) (i : Nat) {g : Nat} {cs : List Value} (e : bs[i]? = some (g,cs)) : g < w.heap.size:=(h.row i e).lt
theorem Ctx.cells (h : Ctx w0 w bs rs) (i : Nat) {g : Nat} {a b c : Value} (e : bs[i]? = some (g,[a,b,c])) : w.cell? ⟨g,0,none⟩ = some a∧w.cell? ⟨g,1,none⟩ = some b∧w.cell? ⟨g,2,none⟩ = some c :=
 ⟨(h.row i e).cell 0,(h.row i e).cell 1,(h.row i e).cell 2⟩
end
end Go.Proofs.Yteofcbkjhdadpaa
namespace Go.Proofs.Yteofcbkjhdadpaa
open Go.RowKit
theorem Ctx.set {w0 w : World} {bs : List (Nat×List Value)} (h : Ctx w0 w bs []) {p : Addr} (hp : w0.heap.size≤p.block) (hn : ∀ b∈bs,b.1≠p.block) (u : Value) : Ctx w0 (w.setCell p u) bs [] :=
 ⟨h.below.setCell hp u,fun b hm => (h.rows b hm).NS (hn b hm) u,fun r hm => absurd hm (by simp)⟩
def ED (w : World) (g q : Nat) (v : UInt8) (new : List UInt8) : Prop:=∃ l : List UInt8,q < l.length∧l.set q v = new∧Row w g 5 (fQ l)
section
variable {w w' : World} {g q : Nat} {v : UInt8} {new : List UInt8}
theorem ED.go (h : ED w g q v new) (hb : Below w.heap.size w w') : ED w' g q v new:=by
 obtain ⟨l,h1,h2,h3⟩:=h;exact ⟨l,h1,h2,h3.below hb h3.lt⟩
theorem ED.drew (h : ED w g q v new) : ED w.drew g q v new:=h
theorem ED.cell (h : ED w g q v new) : ∃ old,w.cell? ⟨g,q,none⟩ = some old:=by
 obtain ⟨l,h1,h2,h3⟩:=h;exact h3.has (by rw [cB];exact h1)
theorem ED.frozen (h : ED w g q v new) : w.frozen? ⟨g,q,none⟩ = false:=by
 obtain ⟨l,h1,h2,h3⟩:=h;exact h3.frozen q
theorem ED.done (h : ED w g q v new) : Row (w.setCell ⟨g,q,none⟩ (.int .u8 (v.toNat : Int))) g 5 (fQ new):=by
 obtain ⟨l,h1,h2,h3⟩:=h;have:=h3.set q (.int .u8 (v.toNat : Int))
 rwa [aEz,h2] at this
theorem ED.set (h : ED w g q v new) : ED (w.setCell ⟨g,q,none⟩ (.int .u8 (v.toNat : Int))) g q v new:=by
 have hd:=h.done;obtain ⟨l,h1,h2,h3⟩:=h;refine ⟨new,by rw [← h2,List.length_set];exact h1,?_,hd⟩;rw [← h2,List.set_set]
theorem ED.fin (h : ED (w.setCell ⟨g,q,none⟩ (.int .u8 (v.toNat : Int))) g q v new) : Row (w.setCell ⟨g,q,none⟩ (.int .u8 (v.toNat : Int))) g 5 (fQ new):=by
 obtain ⟨l,h1,h2,h3⟩:=h;have he : l.set q v = l:=by
  have hc : (w.setCell ⟨g,q,none⟩ (.int .u8 (v.toNat : Int))).cell? ⟨g,q,none⟩ = some (.int .u8 ((l[q]).toNat : Int)):=by rw [h3.cell,wH l q h1]
  have h4:=h3;unfold Row at h4;simp only [World.setCell,Array.getElem?_modify,if_true] at h4;have hv : l[q] = v:=by
   cases ho : w.heap[g]? with
   | none => rw [ho] at h4;simp at h4
   | some o =>
    rw [ho] at h4
    cases o with
    | cells c e fz =>
     simp at h4
     have h5 : (c.setIfInBounds q (.int .u8 (v.toNat : Int)))[q]? = (fQ l).toArray[q]? := by rw [h4.1]
     rw [show (fQ l).toArray[q]? = (fQ l)[q]? by simp,wH l q h1,Array.getElem?_setIfInBounds] at h5
     by_cases hq : q < c.size
     ·simp [hq] at h5
      exact (UInt8.toNat_inj.1 (by omega)).symm
     ·simp [hq] at h5
    | _ => simp at h4
  rw [← hv];exact List.set_getElem_self h1
 rw [← h2,he];exact h3
theorem ED.lt (h : ED w g q v new) : g < w.heap.size:=by
 obtain ⟨l,h1,h2,h3⟩:=h;exact h3.lt
end
end Go.Proofs.Yteofcbkjhdadpaa
namespace Go.Proofs.Yteofcbkjhdadpaa
open Go.RowKit
section
variable {x y : World} {g : Nat} {t t' : TypeId} {ys : List Value} {o o' : Obj} {a b c : Value}
theorem aGb (h : Below (x.alloc (.cells #[a,b,c] t)).heap.size (x.alloc (.cells #[a,b,c] t)) y) : Row y x.heap.size t [a,b,c]:=(Row.new x [a,b,c] t).below h (by simp)
theorem aGa (h : Below ((x.alloc (.cells #[a,b,c] t)).alloc o).heap.size ((x.alloc (.cells #[a,b,c] t)).alloc o) y) : Row y x.heap.size t [a,b,c]:=((Row.new x [a,b,c] t).alloc o).below h (by simp;omega)
theorem aLB (h : Below (x.alloc (.cells #[a,b,c] t)).drew.heap.size (x.alloc (.cells #[a,b,c] t)).drew y) : Row y x.heap.size t [a,b,c]:=(show Row (x.alloc (.cells #[a,b,c] t)).drew x.heap.size t [a,b,c] from Row.new x [a,b,c] t).below h (show x.heap.size < (x.alloc (.cells #[a,b,c] t)).heap.size by simp)
theorem aLA (h : Below ((x.alloc (.cells #[a,b,c] t)).alloc o).drew.heap.size ((x.alloc (.cells #[a,b,c] t)).alloc o).drew y) : Row y x.heap.size t [a,b,c]:=(show Row ((x.alloc (.cells #[a,b,c] t)).alloc o).drew x.heap.size t [a,b,c] from (Row.new x [a,b,c] t).alloc o).below h (show x.heap.size < ((x.alloc (.cells #[a,b,c] t)).alloc o).heap.size by simp;omega)
theorem SW (r : Row x g t ys) (h : Below x.heap.size x y) : Row y g t ys:=r.below h r.lt
theorem aHz (r : Row x g t ys) (h : Below (x.alloc o).heap.size (x.alloc o) y) : Row y g t ys:=SW (r.alloc o) h
theorem aHy (r : Row x g t ys) (h : Below ((x.alloc o).alloc o').heap.size ((x.alloc o).alloc o') y) : Row y g t ys:=SW ((r.alloc o).alloc o') h
theorem size_drew (x : World) : x.drew.heap.size = x.heap.size:=rfl
theorem Row.bET (x : World) (cs : List Value) (t : TypeId) (e : g = x.heap.size) : Row (x.alloc (.cells cs.toArray t)) g t cs:=by rw [e];exact Row.new x cs t
theorem Row.drew (r : Row x g t ys) : Row x.drew g t ys:=r
theorem Ctx.cons {w0 : World} {bs : List (Nat×List Value)} (h : Ctx w0 x bs []) (r : Row x g 24 ys) : Ctx w0 x ((g,ys) :: bs) [] :=
 ⟨h.below,fun b hm => by
  rcases List.mem_cons.1 hm with rfl | hm
  ·exact r
  ·exact h.rows b hm,fun r hm => absurd hm (by simp)⟩
theorem Row.rd {xs : List UInt8} {n : Nat} (r : Row x g 5 (fQ xs)) (hn : xs.length = n) : Rd x x.heap.size (some ⟨g,0,none⟩) n (fQ xs):=by
 refine ⟨by rw [cB,hn],fun _ => ⟨g,0,rfl,r.lt,fun j u hu => ?_⟩⟩;rw [Nat.zero_add,r.cell,hu]
theorem Row.two (h : Row x g t [a,b,c]) : x.cell? ⟨g,0,none⟩ = some a∧x.cell? ⟨g,1,none⟩ = some b∧x.cell? ⟨g,2,none⟩ = some c∧x.frozen? ⟨g,0,none⟩ = false∧x.frozen? ⟨g,1,none⟩ = false∧x.frozen? ⟨g,2,none⟩ = false∧g < x.heap.size:=by
 obtain ⟨h0,h1,h2,h3,h4,h5⟩:=h.three;exact ⟨h0,h1,h2,h3,h4,h5,h.lt⟩
end
end Go.Proofs.Yteofcbkjhdadpaa
namespace Go.Proofs.Yteofcbkjhdadpaa
open Go.RowKit
def over (xs : List UInt8) (off : Nat) (cs : List UInt8) : List UInt8:=xs.take off ++ (cs ++ xs.drop (off + cs.length))
theorem TR {xs : List UInt8} {off : Nat} {cs : List UInt8} (h : off + cs.length≤xs.length) : (over xs off cs).length = xs.length:=by simp [over];omega
theorem aFi (xs : List UInt8) (off : Nat) (cs : List UInt8) : splice (fQ xs) off (fQ cs) = fQ (over xs off cs):=by simp [splice,over,fQ,List.map_take,List.map_drop]
theorem aMQ (xs : List UInt8) (off : Nat) : over xs off [] = xs:=by simp [over]
theorem YT (P Z row : List UInt8) (k : Nat) (hk : P.length = k) : over (P ++ Z) k row = P ++ row ++ Z.drop row.length:=by
 subst hk
 simp [over,List.drop_append]
theorem aHh (l row : List UInt8) (k : Nat) (h : k + row.length≤l.length) : over (over l k row) k row = over l k row:=by
 have e : over l k row = (l.take k) ++ (row ++ l.drop (k + row.length)):=rfl;rw [e,YT _ _ _ k (by rw [List.length_take];omega)]
 simp [List.drop_append]
theorem aCx : (Try.prog.info? 5).map (·.size) = some 1:=by kernel_rfl
theorem YJ (W : World) (ty : TypeId) (dp sp : Option Addr) (dl dc m sc : Nat) (g off : Nat) (cur ss : List UInt8) (hg : Row W g 5 (fQ cur)) (B : Nat) (hr : Rd W B sp m (fQ ss))
  (hdst : 0 < (ss.take dl).length→dp = some ⟨g,off,none⟩) (hfit : off + (ss.take dl).length≤cur.length) :
  ∃ w',(Builtin.copy_ #[22,22] ty #[.slice dp dl dc,.slice sp m sc]).run Try.prog W = .ok (goInt (ss.take dl).length) w'∧Row w' g 5 (fQ (over cur off (ss.take dl)))∧W.grownBy w' (some g):=by
 have hm:=hr.len;rw [cB] at hm;have hn : (fQ (ss.take dl)).length = Nat.min m dl:=by rw [cB,List.length_take,hm];show min dl m = min m dl;omega
 by_cases h0 : (ss.take dl).length = 0
 ·have he : ss.take dl = []:=List.eq_nil_of_length_eq_zero h0
  rw [he,aMQ];refine ⟨W,?_,hg,World.grownBy.refl W _⟩;exact run_copy_none (P:=Try.prog) W 22 22 ty 5 dp sp dl dc m sc Try.underlying22 aCx (by rw [← hn,cB,h0])
 ·obtain rfl:=hdst (by omega)
  have hmp : 0 < m:=by rw [List.length_take] at h0;omega
  obtain ⟨g2,o2,rfl,_,hc⟩:=hr.2 hmp;have hrun:=run_copy_row (P:=Try.prog) W 22 22 ty 5 g off dl dc ⟨g2,o2,none⟩ m sc (fQ cur).toArray 5 (fQ (ss.take dl)) Try.underlying22 aCx hg hn
   (fun j v hv => by
    have hadd : (⟨g2,o2,none⟩ : Addr).add j = ⟨g2,o2 + j,none⟩:=by unfold Addr.add;split <;> simp_all
    rw [hadd];refine hc j v ?_;rw [← hv,← aOx,List.getElem?_take];have hj : j < (fQ (ss.take dl)).length:=by
     rcases Nat.lt_or_ge j (fQ (ss.take dl)).length with h | h
     ·exact h
     ·rw [List.getElem?_eq_none h] at hv;cases hv
    rw [cB,List.length_take] at hj;rw [if_pos (by omega)])
   (by rw [cB];simpa [cB] using hfit) (fun v hv => XN hv)
  rw [cB] at hrun;refine ⟨_,hrun,?_,?_⟩
  ·have h:=setRow_heap W g _ ((fQ cur).toArray.toList.take off ++ fQ (ss.take dl) ++ (fQ cur).toArray.toList.drop (off + (ss.take dl).length)).toArray 5 (0,0) hg
   unfold Row;rw [← aFi];simp only [splice,cB];rw [← List.append_assoc];exact h
  ·exact ⟨rfl,rfl,rfl,by simp [World.setRow],fun k hk hne => setRow_other W g k _ (fun e => hne (by rw [e]))⟩
theorem aAA {o : Oper} {a : Act} {W : World} {K : Act→World→Prop} {Q : Exit→Act→World→Prop} (d s : Operand)
  (ho : o.op = .call { callee:=.builtin .copy,args:=#[d,s],argTypes:=#[22,22] })
  (dp sp : Option Addr) (dl dc m sc : Nat) (hd : a.eval d = .slice dp dl dc) (hs : a.eval s = .slice sp m sc)
  (g off : Nat) (cur ss : List UInt8) (hg : Row W g 5 (fQ cur)) (B : Nat) (hr : Rd W B sp m (fQ ss)) (hdst : 0 < (ss.take dl).length→dp = some ⟨g,off,none⟩) (hfit : off + (ss.take dl).length≤cur.length)
  (h : ∀ w',Row w' g 5 (fQ (over cur off (ss.take dl)))→W.grownBy w' (some g)→K (a.put o.dst (goInt (ss.take dl).length)) w') : o.wp Try.prog a W K Q:=by
 obtain ⟨w',hrun,h1,h2⟩:=YJ W o.type dp sp dl dc m sc g off cur ss hg B hr hdst hfit;unfold Oper.wp execOp;simp only [ho,resolve,invoke,builtin,Sem.run_bind,Sem.run_pure,Result.andThen_ok,List.map_toArray,List.map_cons,List.map_nil,hd,hs,hrun];exact h w' h1 h2
theorem zJ {ops : Array Oper} {o : Oper} {a : Act} {W : World} {K : Act→World→Prop} {Q : Exit→Act→World→Prop} {E : Prop} (d s : Operand) (hgd : o.guard = none)
  (ho : o.op = .call { callee:=.builtin .copy,args:=#[d,s],argTypes:=#[22,22] })
  (dp sp : Option Addr) (dl dc m sc : Nat) (hd : a.eval d = .slice dp dl dc) (hs : a.eval s = .slice sp m sc)
  (g off : Nat) (cur ss : List UInt8) (hg : Row W g 5 (fQ cur)) (B : Nat) (hr : Rd W B sp m (fQ ss)) (hdst : 0 < (ss.take dl).length→dp = some ⟨g,off,none⟩) (hfit : off + (ss.take dl).length≤cur.length)
  (h : ∀ w',Row w' g 5 (fQ (over cur off (ss.take dl)))→W.grownBy w' (some g)→K (a.put o.dst (goInt (ss.take dl).length)) w') :
  if Region.wanted o (yielded ops a.tmps) = true then Oper.wp Try.prog o a W K Q else E:=by
 have hw : Region.wanted o (yielded ops a.tmps) = true:=by simp [Region.wanted,hgd]
 rw [if_pos hw];exact aAA d s ho dp sp dl dc m sc hd hs g off cur ss hg B hr hdst hfit h
end Go.Proofs.Yteofcbkjhdadpaa
namespace Go.Proofs.Yteofcbkjhdadpaa
open Go.RowKit
theorem Ctx.grown {w0 x y : World} {bs : List (Nat×List Value)} {g : Nat} (h : Ctx w0 x bs []) (hg : x.grownBy y (some g)) (hge : w0.heap.size≤g) (hn : ∀ b∈bs,b.1≠g) : Ctx w0 y bs [] :=
 ⟨h.below.trans (DM hg h.below.size (fun k hk => by injection hk with hk;omega)),fun b hm => (h.rows b hm).of_block (hg.block _ (h.rows b hm).lt (fun e => hn b hm (by injection e))),fun r hm => absurd hm (by simp)⟩
theorem Row.grown {x y : World} {g g' : Nat} {t : TypeId} {ys : List Value} (h : Row x g t ys) (hg : x.grownBy y (some g')) (hn : g≠g') : Row y g t ys:=h.of_block (hg.block _ h.lt (fun e => hn (by injection e)))
end Go.Proofs.Yteofcbkjhdadpaa
namespace Go.Proofs.Yteofcbkjhdadpaa
open Go.RowKit
def CV (c : Nat) (xs : List UInt8) (j i : Nat) : UInt8:=xs.getD (i * c + j) 0
def eR (r c : Nat) (xs : List UInt8) : List UInt8:=qM c r (CV c xs)
theorem PA (r c n : Nat) (A : Option Addr) (cap : Nat) (xs : List UInt8) (w : World) (hr : r≤64) (hc : c≤64) (hn : Hid (n = r * c)) (hrd : Rd w w.heap.size A n (fQ xs)) (hcap : n≤cap) :
  Calls Try.prog 83 #[mV r c A n cap] w fun e w' => ∃ g,e = .returned (mV c r (some ⟨g,0,none⟩) n n)∧Row w' g 5 (fQ (eR r c xs))∧w.heap.size≤g∧Below w.heap.size w w':=by
 have hn2 : Hid (n = c * r):=Lib.hid (by rw [hn.out,Nat.mul_comm]);have S:=((Ctx.start w).box [.int .i64 r,.int .i64 c,.slice A n cap]).box [.int .i64 0,.int .i64 0,.slice none 0 0];obtain ⟨c0,c1,c2⟩:=S.cells 1 rfl;go_enter Try.func83,Try.ntmps83;go_wp2_with fail
 refine (LM c r n _ hc hr hn2).mono ?_;rintro e w1 ⟨gt,rfl,hrow,hgt,hb⟩;have hs:=hb.size;have hgl:=hrow.lt
 simp at hs hgt
 replace S:=(S.go hb).box [.int .i64 (c : Int),.int .i64 (r : Int),.slice (some ⟨gt,0,none⟩) n n];replace hrow:=hrow.alloc (.cells #[.int .i64 (c : Int),.int .i64 (r : Int),.slice (some ⟨gt,0,none⟩) n n] 24);rw [World.size_alloc] at S;obtain ⟨BS,hBS⟩ : ∃ BS : List (Nat×List Value),BS = [(w1.heap.size,[.int .i64 (c : Int),.int .i64 (r : Int),.slice (some ⟨gt,0,none⟩) n n]),(w.heap.size + 1,[.int .i64 0,.int .i64 0,.slice none 0 0]),(w.heap.size,[.int .i64 r,.int .i64 c,.slice A n cap])]:=⟨_,rfl⟩
 rw [← hBS] at S;have HC:=Lib.hid (show ∀ x : World,Ctx w x BS []→x.cell? ⟨w.heap.size,0,none⟩ = some (.int .i64 r)∧x.cell? ⟨w.heap.size,1,none⟩ = some (.int .i64 c)∧x.cell? ⟨w.heap.size,2,none⟩ = some (.slice A n cap)∧x.cell? ⟨w1.heap.size,0,none⟩ = some (.int .i64 c)∧x.cell? ⟨w1.heap.size,1,none⟩ = some (.int .i64 r)∧x.cell? ⟨w1.heap.size,2,none⟩ = some (.slice (some ⟨gt,0,none⟩) n n) by
  rw [hBS];exact fun x q => ⟨(q.cells 2 rfl).1,(q.cells 2 rfl).2.1,(q.cells 2 rfl).2.2,(q.cells 0 rfl).1,(q.cells 0 rfl).2.1,(q.cells 0 rfl).2.2⟩)
 have HE:=Lib.hid (show ∀ x : World,Ctx w x BS []→Row x (w.heap.size + 1) 24 [.int .i64 0,.int .i64 0,.slice none 0 0] by rw [hBS];exact fun x q => q.row 1 rfl);have HSET:=Lib.hid (show ∀ (x : World) (q : Nat) (v : Value),Ctx w x BS []→Ctx w (x.setCell ⟨gt,q,none⟩ v) BS [] by
  intro x q v h;refine h.set (p:=⟨gt,q,none⟩) (by simp;omega) ?_ v;rw [hBS]
  simp
  omega)
 clear hBS c0 c1 c2 hb;obtain ⟨c0,c1,c2,d0,d1,d2⟩:=HC.out _ S;have HF0:=aFF c r (CV c xs);rw [← hn2.out] at HF0;rw [HF0] at hrow;have HS:=Lib.hid S;have HROW:=Lib.hid hrow;clear S hrow HF0;go_wp2_with fail
 go_loopw [13] (fun v13 wr => ∃ i : Nat,i≤r∧v13 = .int .i64 (i : Int)∧Row wr gt 5 (fQ (JO c r (CV c xs) i 0))∧Ctx w wr BS []) (fun v13 _ => r - (intOf v13).toNat)
 case atStart => exact ⟨0,by omega,rfl,HROW.out,HS.out⟩
 case round =>
  obtain ⟨i,hi,rfl,hrow,S⟩:=hrel;clear HROW HS c0 c1 c2 d0 d1 d2;obtain ⟨wo,rfl⟩ : ∃ wo : World,wo = wr:=⟨_,rfl⟩
  obtain ⟨c0,c1,c2,d0,d1,d2⟩:=HC.out _ S;have HS:=Lib.hid S;have HROW:=Lib.hid hrow;clear S hrow
  by_cases hlt : i < r
  ·go_wp2_with fail
   clear c0 c1 c2 d0 d1 d2
   go_loopw [18] (fun v18 wr => ∃ j : Nat,j≤c∧v18 = .int .i64 (j : Int)∧Row wr gt 5 (fQ (JO c r (CV c xs) i j))∧Ctx w wr BS []) (fun v18 _ => c - (intOf v18).toNat)
   case atStart => exact ⟨0,by omega,rfl,HROW.out,HS.out⟩
   case round =>
    obtain ⟨j,hj,rfl,hrow,S⟩:=hrel;clear HROW HS;obtain ⟨c0,c1,c2,d0,d1,d2⟩:=HC.out _ S
    by_cases hlj : j < c
    ·have HF:=Lib.hid (aLn (R:=c) (C:=r) (i:=j) (j:=i) (CV c xs) hlj hlt)
     obtain ⟨new,hnew⟩ : ∃ new,new = JO c r (CV c xs) i (j + 1):=⟨_,rfl⟩
     rw [← hnew] at HF;have HNEW:=Lib.hid hnew;have hlen:=aEs c r i j (CV c xs);have hq:=mI hlj hlt;have hp:=mI hlt hlj;obtain ⟨v,hv⟩ : ∃ v,v = xs.getD (i * c + j) 0:=⟨_,rfl⟩
     have HV:=Lib.hid hv;rw [show CV c xs j i = v from hv.symm] at HF;have e1 : (i + 1) * c = i * c + c:=by rw [Nat.add_mul];omega
     have e2 : (j + 1) * r = j * r + r:=by rw [Nat.add_mul];omega
     have hk1 : i * c + c≤n:=by rw [hn.out,← e1];exact Nat.mul_le_mul_right c hlt
     have hk2 : j * r + r≤n:=by rw [hn2.out,← e2];exact Nat.mul_le_mul_right r hlj
     rw [← hn.out] at hp;rw [← hn2.out] at hq hlen;obtain ⟨kr,hkr⟩ : ∃ k,k = i * c:=⟨_,rfl⟩
     obtain ⟨kt,hkt⟩ : ∃ k,k = j * r:=⟨_,rfl⟩
     have pQ:=Lib.hid (fun w => uE c r j (some ⟨gt,0,none⟩) n n kt (kt + r) w hc hr hlj hkt (Lib.hid (by rw [hkt];exact e2.symm)) (by rw [hkt];exact hk2) (Nat.le_refl _));have RE:=Lib.hid (fun w => uE r c i A n cap kr (kr + c) w hr hc hlt hkr (Lib.hid (by rw [hkr];exact e1.symm)) (by rw [hkr];exact hk1) hcap);rw [tY (by omega),Nat.zero_add] at pQ;rw [← hkr] at hp hv hk1;rw [← hkt] at hq hk2 HF;clear hkr hkt e1 e2 hnew HV;obtain ⟨g,o,rfl,hg,hcell⟩:=qE hrd hp;rw [← hv,← Nat.add_assoc] at hcell;rw [tY (by omega)] at RE;clear hv;obtain ⟨P,hP⟩ : ∃ P : World→Prop,P = fun x => Ctx w x BS []∧ED x gt (kt + i) v new:=⟨_,rfl⟩
     have hp0 : P wr:=by rw [hP];exact ⟨S,_,by rw [hlen];exact hq,HF.out,hrow⟩
     obtain ⟨cur,hcur⟩ : ∃ cur : World→Value,∀ x,P x→x.cell? ⟨gt,kt + i,none⟩ = some (cur x):=by
      refine ⟨fun x => (x.cell? ⟨gt,kt + i,none⟩).getD (.bool false),fun x hx => ?_⟩;rw [hP] at hx;obtain ⟨old,h⟩:=hx.2.cell
      simp [h]
     have HG:=Lib.hid (show ∀ x y : World,P x→Below x.heap.size x y→P y by rw [hP];exact fun x y q hb => ⟨q.1.go hb,q.2.go hb⟩);have HD:=Lib.hid (show ∀ x : World,P x→P x.drew by rw [hP];exact fun x q => ⟨q.1.drew,q.2.drew⟩);have HST:=Lib.hid (show ∀ x : World,P x→P (x.setCell ⟨gt,kt + i,none⟩ (.int .u8 (v.toNat : Int))) by rw [hP];exact fun x q => ⟨HSET.out _ _ _ q.1,q.2.set⟩);have HCC:=Lib.hid (show ∀ x : World,P x→x.cell? ⟨w.heap.size,0,none⟩ = some (.int .i64 r)∧x.cell? ⟨w.heap.size,1,none⟩ = some (.int .i64 c)∧x.cell? ⟨w.heap.size,2,none⟩ = some (.slice (some ⟨g,o,none⟩) n cap)∧x.cell? ⟨w1.heap.size,0,none⟩ = some (.int .i64 c)∧x.cell? ⟨w1.heap.size,1,none⟩ = some (.int .i64 r)∧x.cell? ⟨w1.heap.size,2,none⟩ = some (.slice (some ⟨gt,0,none⟩) n n)∧x.cell? ⟨g,o + kr + j,none⟩ = some (.int .u8 (v.toNat : Int))∧x.cell? ⟨gt,kt + i,none⟩ = some (cur x)∧x.frozen? ⟨gt,kt + i,none⟩ = false by
      intro x q;have h:=hcur x q;rw [hP] at q;obtain ⟨q1,q2,q3,q4,q5,q6⟩:=HC.out x q.1;exact ⟨q1,q2,q3,q4,q5,q6,(q.1.below.cell (p:=⟨g,o + kr + j,none⟩) hg).trans hcell,h,q.2.frozen⟩)
     have HALL:=Lib.hid (show ∀ x : World,P (x.setCell ⟨gt,kt + i,none⟩ (.int .u8 (v.toNat : Int)))→Ctx w (x.setCell ⟨gt,kt + i,none⟩ (.int .u8 (v.toNat : Int))) BS []∧Row (x.setCell ⟨gt,kt + i,none⟩ (.int .u8 (v.toNat : Int))) gt 5 (fQ new) by rw [hP];exact fun x q => ⟨q.1,q.2.fin⟩);clear hP hcur S hrow hcell;go_wp2_with fail
     have hc:=HCC.out _ hp0
     go_region_held3 (fun x => P x∧x.cell? ⟨w.heap.size,0,none⟩ = some (.int .i64 r)∧x.cell? ⟨w.heap.size,1,none⟩ = some (.int .i64 c)∧x.cell? ⟨w.heap.size,2,none⟩ = some (.slice (some ⟨g,o,none⟩) n cap)∧x.cell? ⟨w1.heap.size,0,none⟩ = some (.int .i64 c)∧x.cell? ⟨w1.heap.size,1,none⟩ = some (.int .i64 r)∧x.cell? ⟨w1.heap.size,2,none⟩ = some (.slice (some ⟨gt,0,none⟩) n n)∧x.cell? ⟨g,o + kr + j,none⟩ = some (.int .u8 (v.toNat : Int))∧x.cell? ⟨gt,kt + i,none⟩ = some (cur x)∧x.frozen? ⟨gt,kt + i,none⟩ = false)
      (first | (go_split_ands;have q:=HG.out _ _ (by assumption) hbk;exact ⟨q,HCC.out _ q⟩) | (go_split_ands;have q:=HST.out _ (by assumption);exact ⟨q,HCC.out _ q⟩) | (go_split_ands;have q:=HD.out _ (by assumption);exact ⟨q,HCC.out _ q⟩))
      (first | (go_at_call 79;(first | (with_reducible refine (pQ.out _).mono ?_) | (with_reducible refine (RE.out _).mono ?_));rintro e wk ⟨rfl,hbk⟩))
     go_wp2_with fail
     go_split_ands
     go_roundw
     case rel => exact ⟨j + 1,by omega,by go_num,by rw [← HNEW.out];exact (HALL.out _ (by assumption)).2,(HALL.out _ (by assumption)).1⟩
     case measure => simp [intOf];omega
    ·obtain rfl : j = c:=by omega
     have HN:=Lib.hid (aHs j r i (CV j xs));go_wp2_with fail
     go_roundw
     case rel => exact ⟨i + 1,by omega,by go_num,by rw [← HN.out];exact hrow,S⟩
     case measure => simp [intOf];omega
  ·obtain rfl : i = r:=by omega
   obtain ⟨e0,e1,e2,f0,f1,f2⟩:=(HE.out _ HS.out).three;have HN:=Lib.hid (aLo c i (CV c xs));go_wp2_with fail
   refine bodyPost_ret (v:=mV c i (some ⟨gt,0,none⟩) n n) (by simp [results,Try.results83,go_sem,e0,e1,e2]) rfl ⟨gt,rfl,?_,by omega,cV HS.out.below (by omega) _ _ _⟩;have h:=HROW.out;rw [HN.out] at h;exact h.JP (by omega) _ _ _
end Go.Proofs.Yteofcbkjhdadpaa
namespace Go.Proofs.Yteofcbkjhdadpaa
open Go.RowKit
def NH (ca cb : Nat) (xs ys : List UInt8) (i j : Nat) : UInt8:=RV ca fun k => Gf.mul (xs.getD (i * ca + k) 0) (ys.getD (k * cb + j) 0)
def aAW (ra ca cb : Nat) (xs ys : List UInt8) : List UInt8:=qM ra cb (NH ca cb xs ys)
theorem aNQ {ra ca cb i j : Nat} {xs ys : List UInt8} (hx : xs.length = ra * ca) (hi : i < ra) (hj : j < cb) :
  Gf.dot ((xs.drop (i * ca)).take ca) (((eR ca cb ys).drop (j * ca)).take ca) = NH ca cb xs ys i j:=by
 have hl : ((xs.drop (i * ca)).take ca).length = ca:=by
  rw [List.length_take,List.length_drop,hx];have h : (i + 1) * ca≤ra * ca:=Nat.mul_le_mul_right ca hi;rw [Nat.add_mul] at h;omega
 rw [aRo hl];unfold NH eR;rw [aND _ hj];refine aGJ fun k hk => ?_
 congr 1
 ·rw [List.getD_eq_getElem?_getD,List.getElem?_take,if_pos hk,List.getElem?_drop,List.getD_eq_getElem?_getD]
 ·rw [List.getD_eq_getElem?_getD,List.getElem?_map,List.getElem?_range hk]
  rfl
theorem nC (r c : Nat) (xs : List UInt8) : (eR r c xs).length = c * r:=lZ _ _ _
def vH (ra ca : Int) (n : Nat) (rb cb : Int) (m : Nat) : Bool:=bY ra ca n && bY rb cb m && (ca == rb)
theorem NB {r c : Int} {n : Nat} (h : bY r c n = true) : ∃ a b : Nat,r = a∧c = b∧a≤64∧b≤64∧n = a * b:=by
 simp [bY] at h
 refine ⟨r.toNat,c.toNat,by omega,by omega,by omega,by omega,?_⟩;apply Int.ofNat_inj.1;rw [Int.natCast_mul,Int.toNat_of_nonneg h.1.1,Int.toNat_of_nonneg h.2.1.1];exact h.2.2
theorem aLf {ra ca rb cb : Int} {na nb : Nat} (h : vH ra ca na rb cb nb = true) : ∃ a b c : Nat,ra = a∧ca = b∧rb = b∧cb = c∧a≤64∧b≤64∧c≤64∧na = a * b∧nb = b * c:=by
 simp [vH] at h
 obtain ⟨a,b,h1,h2,h3,h4,h5⟩:=NB h.1.1;obtain ⟨b',c,h6,h7,h8,h9,h10⟩:=NB h.1.2;have:=h.2;obtain rfl : b = b':=by omega
 exact ⟨a,b,c,h1,h2,h6,h7,h3,h4,h9,h5,h10⟩
end Go.Proofs.Yteofcbkjhdadpaa
namespace Go.Proofs.Yteofcbkjhdadpaa
def EB (f : Nat→UInt8) (n i : Nat) : List UInt8:=(List.range i).map f ++ List.replicate (n - i) 0
theorem aNL (f : Nat→UInt8) {n i : Nat} (h : i≤n) : (EB f n i).length = n:=by simp [EB];omega
theorem aLm (f : Nat→UInt8) (n : Nat) : EB f n 0 = List.replicate n 0:=by simp [EB]
theorem aNM (f : Nat→UInt8) (n : Nat) : EB f n n = (List.range n).map f:=by simp [EB]
theorem aNK (f : Nat→UInt8) {n i : Nat} (h : i < n) : (EB f n i).set i (f i) = EB f n (i + 1):=by
 unfold EB;have hl : ((List.range i).map f).length = i:=by simp
 rw [List.set_append_right _ _ (by omega),hl,Nat.sub_self];obtain ⟨k,hk⟩ : ∃ k,n - i = k + 1:=⟨n - i - 1,by omega⟩
 rw [hk,List.replicate_succ,cS,List.range_succ,List.map_append,List.append_assoc]
 congr 2
 simp
 omega
theorem aAT (xs : List UInt8) (g : UInt8→UInt8) : (List.range xs.length).map (fun j => g (xs.getD j 0)) = xs.map g:=by
 apply List.ext_getElem?;intro j
 by_cases h : j < xs.length
 ·simp [h,List.getD]
 ·simp [h]
theorem YQ (xs ys : List UInt8) (g : UInt8→UInt8→UInt8) (h : xs.length = ys.length) : (List.range xs.length).map (fun j => g (xs.getD j 0) (ys.getD j 0)) = List.zipWith g xs ys:=by
 apply List.ext_getElem?;intro j
 by_cases hj : j < xs.length
 ·have hj' : j < ys.length:=by omega
  rw [List.getElem?_zipWith]
  simp [hj,hj',List.getD]
 ·have hj' : ¬ j < ys.length:=by omega
  rw [List.getElem?_zipWith]
  simp [hj]
def XX (f : Nat→UInt8) (ys : List UInt8) (i : Nat) : List UInt8:=(List.range i).map f ++ ys.drop i
theorem aPx (f : Nat→UInt8) (ys : List UInt8) : XX f ys 0 = ys:=by simp [XX]
theorem aTT (f : Nat→UInt8) (ys : List UInt8) : XX f ys ys.length = (List.range ys.length).map f:=by simp [XX]
theorem aTR (f : Nat→UInt8) {ys : List UInt8} {i : Nat} (h : i < ys.length) : (XX f ys i).set i (f i) = XX f ys (i + 1):=by
 unfold XX;have hl : ((List.range i).map f).length = i:=by simp
 rw [List.set_append_right _ _ (by omega),hl,Nat.sub_self,List.drop_eq_getElem_cons h,cS,List.range_succ,List.map_append,List.append_assoc];rfl
theorem aTS (f : Nat→UInt8) {ys : List UInt8} {i : Nat} (h : i < ys.length) : (XX f ys i).getD i 0 = ys.getD i 0:=by
 unfold XX;have hl : ((List.range i).map f).length = i:=by simp
 simp [List.getD,List.getElem?_append_right,hl,h]
theorem aNa {xs : List UInt8} (g : UInt8→UInt8) {i : Nat} (h : i < xs.length) : (xs.map g).getD i 0 = g (xs.getD i 0):=by simp [List.getD,h]
end Go.Proofs.Yteofcbkjhdadpaa
namespace Go.Proofs.Yteofcbkjhdadpaa
open Go.RowKit
theorem aLq (a : Option Addr) (n ac : Nat) (b : Option Addr) (bc : Nat) (xs ys : List UInt8) (w : World) (ha : Rd w w.heap.size a n (fQ xs)) (hb : Rd w w.heap.size b n (fQ ys)) (hn : n≤140737488355328) :
  Calls Try.prog 84 #[.slice a n ac,.slice b n bc] w fun e w' => e = .returned (.tuple #[.int .u8 ((Gf.dot xs ys).toNat : Int),.int .i64 0])∧Below w.heap.size w w':=by
 have hq : ((n : Int) != (n : Int)) = false:=by rw [bne_eq_false_iff_eq]
 have HL:=Lib.hid (show xs.length = n by have:=ha.len;rw [cB] at this;exact this);obtain ⟨Z,hzv,HZ0,HSZ⟩:=FN;go_enter Try.func84,Try.ntmps84;go_wp2_with (first | (go_at_call 90;refine (JZ _).mono ?_;rintro e w1 ⟨T,hT,rfl,hb1⟩) | (refine xB (.tmp 6) (.tmp 15) rfl rfl T Z hT HZ0 HSZ rfl rfl ?_;intro w2 hs2 hg2 hb2))
 have HT:=Lib.hid (pA.mk hT hg2);have HB:=Lib.hid (hb1.trans (hb2.mono hb1.size));have hsz:=hb1.size;clear hT hg2 hb2 HZ0 HSZ hzv hs2
 go_loopw [7,18] (fun v7 v18 wr => ∃ i : Nat,i≤n∧v18 = .int .i64 (i : Int)∧v7 = .int .u8 ((Gf.QT xs ys i).toNat : Int)∧pA wr w1.heap.size∧Below w.heap.size w wr) (fun _ v18 _ => n - (intOf v18).toNat)
 case atStart => exact ⟨0,by omega,rfl,rfl,HT.out,HB.out⟩
 case round =>
  obtain ⟨i,hi,rfl,rfl,ht,hbw⟩:=hrel;clear HT HB
  by_cases hlt : i < n
  ·obtain ⟨g,o,rfl,hg,hcell⟩:=qE (ha.below hbw (Nat.le_refl _)) hlt
   obtain ⟨g1,o1,rfl,hg1,hcell1⟩:=qE (hb.below hbw (Nat.le_refl _)) hlt;have hx:=GS (Gf.QT xs ys i) (Gf.mul (xs.getD i 0) (ys.getD i 0));have HD:=Lib.hid (show Gf.QT xs ys (i + 1) = Gf.add (Gf.QT xs ys i) (Gf.mul (xs.getD i 0) (ys.getD i 0)) from rfl);generalize xs.getD i 0 = x at *;generalize ys.getD i 0 = y at *;generalize Gf.QT xs ys i = s at *;have HB:=Lib.hid hbw;have HA:=Lib.hid ha;have HBB:=Lib.hid hb;clear hbw ha hb;go_wp2_with (go_at_call 100;refine (XY _ _ _ _ ht).mono ?_;rintro e w' ⟨rfl,nd,rfl⟩)
   go_roundw
   case rel => exact ⟨i + 1,by omega,by go_num,by rw [HD.out],ht.drewN nd,below_drewN HB.out nd⟩
   case measure => simp [intOf];omega
  ·obtain rfl : i = n:=by omega
   go_wp2_with fail
   go_ret2
   exact ⟨by rw [Gf.dot,HL.out];rfl,hbw⟩
end Go.Proofs.Yteofcbkjhdadpaa
namespace Go.Proofs.Yteofcbkjhdadpaa
open Go.RowKit
def aVe (w : World) (BS : List (Nat×List Value)) (ra ca cb p nb : Nat) (T : List UInt8) (s6 s7 : Value) (x : World) : Prop :=
 ∃ g6 g7 gm gt : Nat,s6 = .pointer (some ⟨g6,0,none⟩)∧s7 = .pointer (some ⟨g7,0,none⟩)∧w.heap.size + 3≤g6∧w.heap.size + 3≤g7∧w.heap.size + 3≤gm∧gm≠g6∧gm≠g7∧gm≠gt∧gt≠g6∧gt≠g7∧g6≠g7 ∧
  Ctx w x ((g6,[.int .i64 ra,.int .i64 cb,.slice (some ⟨gm,0,none⟩) p p]) :: (g7,[.int .i64 cb,.int .i64 ca,.slice (some ⟨gt,0,none⟩) nb nb]) :: BS) []∧Row x gm 5 (fQ (List.replicate p 0))∧Row x gt 5 (fQ T)
theorem aPZ (ra ca cb na nb p : Nat) (A B : Option Addr) (cap capb : Nat) (xs ys : List UInt8) (w : World) (hra : ra≤64) (hca : ca≤64) (hcb : cb≤64) (hna : Hid (na = ra * ca)) (hnb : Hid (nb = ca * cb)) (hp : Hid (p = ra * cb))
  (hx : Rd w w.heap.size A na (fQ xs)) (hy : Rd w w.heap.size B nb (fQ ys)) (hcap : na≤cap) (hcapb : nb≤capb) :
  Calls Try.prog 50 #[mV ra ca A na cap,mV ca cb B nb capb] w fun e w' => ∃ g,e = .returned (.tuple #[mV ra cb (some ⟨g,0,none⟩) p p,.int .i64 0])∧Row w' g 5 (fQ (aAW ra ca cb xs ys))∧w.heap.size≤g∧Below w.heap.size w w':=by
 have pQ:=Lib.hid (fun w => gM ra ca A na cap w);have RE:=Lib.hid (fun w => gM ca cb B nb capb w);rw [show bY ra ca na = true by simp [bY,hna.out];omega] at pQ;rw [show bY ca cb nb = true by simp [bY,hnb.out];omega] at RE;have S:=(((Ctx.start w).box [.int .i64 ra,.int .i64 ca,.slice A na cap]).box [.int .i64 ca,.int .i64 cb,.slice B nb capb]).box [.int .i64 0,.int .i64 0,.slice none 0 0];simp only [World.size_alloc] at S;obtain ⟨c0,c1,c2⟩:=S.cells 2 rfl;obtain ⟨d0,d1,d2⟩:=S.cells 1 rfl;have hsz:=S.lt 0 rfl;obtain ⟨T,hT⟩ : ∃ T,T = eR ca cb ys:=⟨_,rfl⟩
 have HT:=Lib.hid hT;clear hT;go_enter Try.func50,Try.ntmps50;go_upto_region 3 with (first | (go_at_call 76;(first | (with_reducible refine (pQ.out _).mono ?_) | (with_reducible refine (RE.out _).mono ?_));rintro e w1 ⟨rfl,hb⟩;replace S:=S.go hb;clear hb c0 c1 c2 d0 d1 d2 hsz;have hsz:=S.lt 0 rfl;obtain ⟨c0,c1,c2⟩:=S.cells 2 rfl;obtain ⟨d0,d1,d2⟩:=S.cells 1 rfl))
 clear c0 c1 c2 d0 d1 d2 pQ RE;obtain ⟨BS,hBS⟩ : ∃ BS : List (Nat×List Value),BS = [(w.heap.size + 1 + 1,[.int .i64 0,.int .i64 0,.slice none 0 0]),(w.heap.size + 1,[.int .i64 ca,.int .i64 cb,.slice B nb capb]),(w.heap.size,[.int .i64 ra,.int .i64 ca,.slice A na cap])]:=⟨_,rfl⟩
 have S2 : Ctx w w1 BS []:=by rw [hBS];exact S
 clear S;have HC:=Lib.hid (show ∀ x : World,Ctx w x BS []→x.cell? ⟨w.heap.size,0,none⟩ = some (.int .i64 ra)∧x.cell? ⟨w.heap.size + 1,1,none⟩ = some (.int .i64 cb)∧x.cell? ⟨w.heap.size + 1,0,none⟩ = some (.int .i64 ca)∧x.cell? ⟨w.heap.size + 1,2,none⟩ = some (.slice B nb capb) by
  rw [hBS];exact fun x q => ⟨(q.cells 2 rfl).1,(q.cells 1 rfl).2.1,(q.cells 1 rfl).1,(q.cells 1 rfl).2.2⟩)
 have HBS:=Lib.hid hBS;clear hBS
 go_cut [6,7] from 6 to 60 (fun s6 s7 wx => aVe w BS ra ca cb p nb T s6 s7 wx)
 case first =>
  obtain ⟨P,hP⟩ : ∃ P : World→Prop,P = fun x => Ctx w x BS []:=⟨_,rfl⟩
  have hp0 : P w1:=by rw [hP];exact S2
  have HB:=Lib.hid (show ∀ x : World,P x→Calls Try.prog 78 #[.int .i64 ra,.int .i64 cb] x fun e w' => ∃ g,e = .returned (mV ra cb (some ⟨g,0,none⟩) p p)∧Row w' g 5 (fQ (List.replicate p 0))∧x.heap.size≤g∧Below x.heap.size x w' from fun x _ => LM ra cb p x hra hcb hp);have HTU:=Lib.hid (show ∀ x : World,P x→Calls Try.prog 83 #[mV ca cb B nb capb] x fun e w' => ∃ g,e = .returned (mV cb ca (some ⟨g,0,none⟩) nb nb)∧Row w' g 5 (fQ T)∧x.heap.size≤g∧Below x.heap.size x w' by
   rw [hP,HT.out];exact fun x q => PA ca cb nb B capb ys x hca hcb hnb (hy.go q.below) hcapb)
  have HG:=Lib.hid (show ∀ x y : World,P x→Below x.heap.size x y→P y by rw [hP];exact fun x y q hb => q.go hb);have HA:=Lib.hid (show ∀ (x : World) o,P x→P (x.alloc o) by rw [hP];exact fun x o q => q.alloc o);have HD:=Lib.hid (show ∀ (x : World),P x→P x.drew by rw [hP];exact fun x q => q.drew);have HCC:=Lib.hid (show ∀ x : World,P x→x.cell? ⟨w.heap.size,0,none⟩ = some (.int .i64 ra)∧x.cell? ⟨w.heap.size + 1,1,none⟩ = some (.int .i64 cb)∧x.cell? ⟨w.heap.size + 1,0,none⟩ = some (.int .i64 ca)∧x.cell? ⟨w.heap.size + 1,2,none⟩ = some (.slice B nb capb) by rw [hP];exact HC.out);have HST:=Lib.hid (show ∀ (x : World) (a : Addr) (u : Value),w.heap.size + 3≤a.block→P x→P (x.setCell a u) by
   rw [hP];intro x a u ha q;refine q.set (by omega) ?_ u;rw [HBS.out]
   simp
   omega)
  have HPS:=Lib.hid (show ∀ (x : World),P x→w.heap.size + 3≤x.heap.size by
   rw [hP,HBS.out];intro x q;have:=q.lt 0 rfl;omega)
  have HFIN:=Lib.hid (show ∀ x,P x→Ctx w x BS [] by rw [hP];exact fun x q => q);clear hP S2;have hc:=HCC.out _ hp0;have hz1:=HPS.out _ hp0
  go_region_held3 (fun x => P x∧x.cell? ⟨w.heap.size,0,none⟩ = some (.int .i64 ra)∧x.cell? ⟨w.heap.size + 1,1,none⟩ = some (.int .i64 cb)∧x.cell? ⟨w.heap.size + 1,0,none⟩ = some (.int .i64 ca)∧x.cell? ⟨w.heap.size + 1,2,none⟩ = some (.slice B nb capb))
   (first | (refine ⟨?_,HCC.out _ ?_⟩ <;> (repeat' (first | with_reducible exact hp0 | with_reducible refine HD.out _ ?_ | with_reducible exact hpt | with_reducible exact hpb | with_reducible refine HA.out _ _ ?_ | with_reducible refine HST.out _ _ _ (by (try dsimp only);(try simp only [World.size_alloc]);first | omega | (simp;omega)) ?_))))
   (first | (go_at_call 78;(try go_split_ands);refine (HB.out _ (by assumption)).mono ?_;rintro e wb ⟨gm,rfl,hrowm,hgm,hbm⟩;have hpb:=HG.out _ _ (by assumption) hbm;have hzb:=HPS.out _ hpb;have lM:=hrowm.lt;(try simp only [World.size_alloc,size_drew] at hgm);(try ((first | (have rA:=aGb hbm) | (have rA:=aLB hbm));(try simp only [World.size_alloc] at rA);obtain ⟨a0,a1,a2,a3,a4,a5⟩:=rA.three;have lA:=rA.lt));(try ((first | (have rB:=aGa hbm) | (have rB:=aLA hbm));obtain ⟨b0,b1,b2,b3,b4,b5⟩:=rB.three;have lB:=rB.lt))) | (go_at_call 83;(try go_split_ands);refine (HTU.out _ (by assumption)).mono ?_;rintro e wt ⟨gt,rfl,hrowt,hgt,hbt⟩;have hpt:=HG.out _ _ (by assumption) hbt;have hzt:=HPS.out _ hpt;have lT:=hrowt.lt;(try simp only [World.size_alloc,size_drew] at hgt);(first | (have rM:=SW hrowm hbt) | (have rM:=aHz hrowm hbt) | (have rM:=aHy hrowm hbt));have lM2:=rM.lt;(try (have rC:=aGb hbt;(try simp only [World.size_alloc] at rC);obtain ⟨a0,a1,a2,a3,a4,a5⟩:=rC.three;have lC:=rC.lt));(try (have rD:=aGa hbt;obtain ⟨b0,b1,b2,b3,b4,b5⟩:=rD.three;have lD:=rD.lt));(try ((first | (have rE:=SW rA hbt) | (have rE:=aHz rA hbt) | (have rE:=aHy rA hbt));obtain ⟨a0,a1,a2,a3,a4,a5⟩:=rE.three;have lE:=rE.lt));(try ((first | (have rF:=SW rB hbt) | (have rF:=aHz rB hbt) | (have rF:=aHy rB hbt));obtain ⟨b0,b1,b2,b3,b4,b5⟩:=rF.three;have lF:=rF.lt))))
  all_goals (go_split_ands;go_wp2_with fail;go_meet;refine ⟨_,_,gm,gt,rfl,rfl,by omega,by omega,by omega,by omega,by omega,by omega,by omega,by omega,by omega,((HFIN.out _ (by assumption)).cons ?_).cons ?_,?_,?_⟩ <;> (repeat' (first | with_reducible assumption | with_reducible refine Row.bET _ _ _ (by first | with_reducible rfl | (simp;done)) | with_reducible refine Row.drew ?_ | with_reducible refine Row.alloc ?_ _ | with_reducible refine Row.aWe (a:=.int .i64 0) (b:=.int .i64 0) (c:=.slice none 0 0) ?_ _ _ _ | with_reducible refine Row.JP ?_ (by omega) _ _ _)))
 case rest =>
  clear S2 HC;obtain ⟨g6,g7,gm,gt,rfl,rfl,k6,k7,km,n1,n2,n3,n4,n5,n6,S,hrow,hrt⟩:=hcut;obtain ⟨B2,hB2⟩ : ∃ B2 : List (Nat×List Value),B2 = (g6,[.int .i64 ra,.int .i64 cb,.slice (some ⟨gm,0,none⟩) p p]) :: (g7,[.int .i64 cb,.int .i64 ca,.slice (some ⟨gt,0,none⟩) nb nb]) :: BS:=⟨_,rfl⟩
  rw [← hB2] at S;rw [HBS.out] at hB2;have HC:=Lib.hid (show ∀ x : World,Ctx w x B2 []→x.cell? ⟨w.heap.size,0,none⟩ = some (.int .i64 ra)∧x.cell? ⟨w.heap.size,1,none⟩ = some (.int .i64 ca)∧x.cell? ⟨w.heap.size,2,none⟩ = some (.slice A na cap)∧x.cell? ⟨g6,0,none⟩ = some (.int .i64 ra)∧x.cell? ⟨g6,1,none⟩ = some (.int .i64 cb)∧x.cell? ⟨g6,2,none⟩ = some (.slice (some ⟨gm,0,none⟩) p p)∧x.cell? ⟨g7,0,none⟩ = some (.int .i64 cb)∧x.cell? ⟨g7,1,none⟩ = some (.int .i64 ca)∧x.cell? ⟨g7,2,none⟩ = some (.slice (some ⟨gt,0,none⟩) nb nb) by
   rw [hB2];exact fun x q => ⟨(q.cells 4 rfl).1,(q.cells 4 rfl).2.1,(q.cells 4 rfl).2.2,(q.cells 0 rfl).1,(q.cells 0 rfl).2.1,(q.cells 0 rfl).2.2,(q.cells 1 rfl).1,(q.cells 1 rfl).2.1,(q.cells 1 rfl).2.2⟩)
  have HE:=Lib.hid (show ∀ x : World,Ctx w x B2 []→Row x (w.heap.size + 1 + 1) 24 [.int .i64 0,.int .i64 0,.slice none 0 0] by rw [hB2];exact fun x q => q.row 2 rfl);have HSET:=Lib.hid (show ∀ (x : World) (q : Nat) (v : Value),Ctx w x B2 []→Ctx w (x.setCell ⟨gm,q,none⟩ v) B2 [] by
   intro x q v h;refine h.set (p:=⟨gm,q,none⟩) (by simp;omega) ?_ v;rw [hB2]
   simp
   omega)
  clear hB2 HBS;obtain ⟨F,hF⟩ : ∃ F,F = NH ca cb xs ys:=⟨_,rfl⟩
  have HF:=Lib.hid hF;clear hF;have hF0:=JN ra cb F;rw [← hp.out] at hF0;rw [hF0] at hrow;clear hF0;obtain ⟨c0,c1,c2,d0,d1,d2,e0,e1,e2⟩:=HC.out _ S;have HS:=Lib.hid S;have HROW:=Lib.hid hrow;have HRT:=Lib.hid hrt;clear S hrow hrt;go_wp2_with fail
  clear c0 c1 c2 d0 d1 d2 e0 e1 e2
  go_loopw [35] (fun v35 wr => ∃ i : Nat,i≤ra∧v35 = .int .i64 (i : Int)∧Row wr gm 5 (fQ (sO ra cb F i 0))∧Row wr gt 5 (fQ T)∧Ctx w wr B2 []) (fun v35 _ => ra - (intOf v35).toNat)
  case atStart => exact ⟨0,by omega,rfl,HROW.out,HRT.out,HS.out⟩
  case round =>
   obtain ⟨i,hi,rfl,hrow,hrt,S⟩:=hrel;clear HROW HS HRT;obtain ⟨wo,rfl⟩ : ∃ wo : World,wo = wr:=⟨_,rfl⟩
   obtain ⟨c0,c1,c2,d0,d1,d2,e0,e1,e2⟩:=HC.out _ S;have HS:=Lib.hid S;have HROW:=Lib.hid hrow;have HRT:=Lib.hid hrt;clear S hrow hrt
   by_cases hlt : i < ra
   ·go_wp2_with fail
    clear c0 c1 c2 d0 d1 d2 e0 e1 e2
    go_loopw [40] (fun v40 wr => ∃ j : Nat,j≤cb∧v40 = .int .i64 (j : Int)∧Row wr gm 5 (fQ (sO ra cb F i j))∧Row wr gt 5 (fQ T)∧Ctx w wr B2 []) (fun v40 _ => cb - (intOf v40).toNat)
    case atStart => exact ⟨0,by omega,rfl,HROW.out,HRT.out,HS.out⟩
    case round =>
     obtain ⟨j,hj,rfl,hrow,hrt,S⟩:=hrel;clear HROW HS HRT;obtain ⟨c0,c1,c2,d0,d1,d2,e0,e1,e2⟩:=HC.out _ S
     by_cases hlj : j < cb
     ·have HFS:=Lib.hid (SQ (R:=ra) (C:=cb) (i:=i) (j:=j) F hlt hlj)
      obtain ⟨new,hnew⟩ : ∃ new,new = sO ra cb F i (j + 1):=⟨_,rfl⟩
      rw [← hnew] at HFS;have HNEW:=Lib.hid hnew;have hlen:=AO ra cb i j F;have hq:=mI hlt hlj;have hxl : xs.length = ra * ca:=by have:=hx.len;rw [cB] at this;rw [this,hna.out]
      have HV:=aNQ (ys:=ys) hxl hlt hlj;rw [← HT.out,← HF.out] at HV;have hTl : T.length = nb:=by rw [HT.out,nC,hnb.out,Nat.mul_comm]
      obtain ⟨v,hv⟩ : ∃ v,v = F i j:=⟨_,rfl⟩
      rw [← hv] at HFS HV;have f1 : (i + 1) * cb = i * cb + cb:=by rw [Nat.add_mul];omega
      have f2 : (i + 1) * ca = i * ca + ca:=by rw [Nat.add_mul];omega
      have f3 : (j + 1) * ca = j * ca + ca:=by rw [Nat.add_mul];omega
      have h1 : i * cb + cb≤p:=by rw [hp.out,← f1];exact Nat.mul_le_mul_right cb hlt
      have h2 : i * ca + ca≤na:=by rw [hna.out,← f2];exact Nat.mul_le_mul_right ca hlt
      have h3 : j * ca + ca≤nb:=by rw [hnb.out,Nat.mul_comm ca cb,← f3];exact Nat.mul_le_mul_right ca hlj
      rw [← hp.out] at hq hlen;obtain ⟨kr,hkr⟩ : ∃ k,k = i * cb:=⟨_,rfl⟩
      obtain ⟨ka,hka⟩ : ∃ k,k = i * ca:=⟨_,rfl⟩
      obtain ⟨kb,hkb⟩ : ∃ k,k = j * ca:=⟨_,rfl⟩
      have pQ:=Lib.hid (fun w => uE ra cb i (some ⟨gm,0,none⟩) p p kr (kr + cb) w hra hcb hlt hkr (Lib.hid (by rw [hkr];exact f1.symm)) (by rw [hkr];exact h1) (Nat.le_refl _));have RE:=Lib.hid (fun w => uE ra ca i A na cap ka (ka + ca) w hra hca hlt hka (Lib.hid (by rw [hka];exact f2.symm)) (by rw [hka];exact h2) hcap);have HR3:=Lib.hid (fun w => uE cb ca j (some ⟨gt,0,none⟩) nb nb kb (kb + ca) w hcb hca hlj hkb (Lib.hid (by rw [hkb];exact f3.symm)) (by rw [hkb];exact h3) (Nat.le_refl _));rw [tY (by omega),Nat.zero_add] at pQ;rw [← hkr] at hq h1 HFS;rw [← hka] at h2 HV;rw [← hkb] at h3 HV;clear hkr hka hkb f1 f2 f3 hnew hv;obtain ⟨ra1,hra1⟩ : ∃ l,l = (xs.drop ka).take ca:=⟨_,rfl⟩
      obtain ⟨rt1,hrt1⟩ : ∃ l,l = (T.drop kb).take ca:=⟨_,rfl⟩
      rw [← hra1,← hrt1] at HV;obtain ⟨P,hP⟩ : ∃ P : World→Prop,P = fun x => Ctx w x B2 []∧Row x gt 5 (fQ T)∧ED x gm (kr + j) v new:=⟨_,rfl⟩
      have hp0 : P wr:=by rw [hP];exact ⟨S,hrt,_,by rw [hlen];exact hq,HFS.out,hrow⟩
      have HCUR : ∀ x,P x → ∃ old,x.cell? ⟨gm,kr + j,none⟩ = some old:=by rw [hP];exact fun x q => q.2.2.cell
      obtain ⟨cur,hcur⟩ : ∃ cur : World→Value,∀ x,P x→x.cell? ⟨gm,kr + j,none⟩ = some (cur x):=by
       refine ⟨fun x => (x.cell? ⟨gm,kr + j,none⟩).getD (.bool false),fun x hx => ?_⟩;obtain ⟨old,h⟩:=HCUR x hx
       simp [h]
      have HDOT:=Lib.hid (show ∀ x : World,P x→Calls Try.prog 84 #[.slice (BK A ca ka) ca ca,.slice (BK (some ⟨gt,0,none⟩) ca kb) ca ca] x fun e w' => e = .returned (.tuple #[.int .u8 (v.toNat : Int),.int .i64 0])∧Below x.heap.size x w' by
       rw [hP,← HV,hra1,hrt1];exact fun x q => aLq _ _ _ _ _ _ _ _ (aGT (hx.go q.1.below) h2) (aGT (q.2.1.rd hTl) h3) (by omega))
      have HG:=Lib.hid (show ∀ x y : World,P x→Below x.heap.size x y→P y by rw [hP];exact fun x y q hb => ⟨q.1.go hb,SW q.2.1 hb,q.2.2.go hb⟩);have HD:=Lib.hid (show ∀ x : World,P x→P x.drew by rw [hP];exact fun x q => ⟨q.1.drew,q.2.1,q.2.2.drew⟩);have HST:=Lib.hid (show ∀ x : World,P x→P (x.setCell ⟨gm,kr + j,none⟩ (.int .u8 (v.toNat : Int))) by rw [hP];exact fun x q => ⟨HSET.out _ _ _ q.1,q.2.1.NS (by simp;omega) _,q.2.2.set⟩);have HCC:=Lib.hid (show ∀ x : World,P x→x.cell? ⟨w.heap.size,0,none⟩ = some (.int .i64 ra)∧x.cell? ⟨w.heap.size,1,none⟩ = some (.int .i64 ca)∧x.cell? ⟨w.heap.size,2,none⟩ = some (.slice A na cap)∧x.cell? ⟨g6,0,none⟩ = some (.int .i64 ra)∧x.cell? ⟨g6,1,none⟩ = some (.int .i64 cb)∧x.cell? ⟨g6,2,none⟩ = some (.slice (some ⟨gm,0,none⟩) p p)∧x.cell? ⟨g7,0,none⟩ = some (.int .i64 cb)∧x.cell? ⟨g7,1,none⟩ = some (.int .i64 ca)∧x.cell? ⟨g7,2,none⟩ = some (.slice (some ⟨gt,0,none⟩) nb nb)∧x.cell? ⟨gm,kr + j,none⟩ = some (cur x)∧x.frozen? ⟨gm,kr + j,none⟩ = false by
       intro x q;have h:=hcur x q;rw [hP] at q;obtain ⟨q1,q2,q3,q4,q5,q6,q7,q8,q9⟩:=HC.out x q.1;exact ⟨q1,q2,q3,q4,q5,q6,q7,q8,q9,h,q.2.2.frozen⟩)
      have HALL:=Lib.hid (show ∀ x : World,P (x.setCell ⟨gm,kr + j,none⟩ (.int .u8 (v.toNat : Int)))→Ctx w (x.setCell ⟨gm,kr + j,none⟩ (.int .u8 (v.toNat : Int))) B2 []∧Row (x.setCell ⟨gm,kr + j,none⟩ (.int .u8 (v.toNat : Int))) gt 5 (fQ T)∧Row (x.setCell ⟨gm,kr + j,none⟩ (.int .u8 (v.toNat : Int))) gm 5 (fQ new) by rw [hP];exact fun x q => ⟨q.1,q.2.1,q.2.2.fin⟩);clear hP hcur HCUR S hrow hrt HV hra1 hrt1 hxl hTl;go_wp2_with fail
      have hc:=HCC.out _ hp0
      go_region_held3 (fun x => P x∧x.cell? ⟨w.heap.size,0,none⟩ = some (.int .i64 ra)∧x.cell? ⟨w.heap.size,1,none⟩ = some (.int .i64 ca)∧x.cell? ⟨w.heap.size,2,none⟩ = some (.slice A na cap)∧x.cell? ⟨g6,0,none⟩ = some (.int .i64 ra)∧x.cell? ⟨g6,1,none⟩ = some (.int .i64 cb)∧x.cell? ⟨g6,2,none⟩ = some (.slice (some ⟨gm,0,none⟩) p p)∧x.cell? ⟨g7,0,none⟩ = some (.int .i64 cb)∧x.cell? ⟨g7,1,none⟩ = some (.int .i64 ca)∧x.cell? ⟨g7,2,none⟩ = some (.slice (some ⟨gt,0,none⟩) nb nb)∧x.cell? ⟨gm,kr + j,none⟩ = some (cur x)∧x.frozen? ⟨gm,kr + j,none⟩ = false)
       (first | (go_split_ands;have q:=HG.out _ _ (by assumption) hbk;exact ⟨q,HCC.out _ q⟩) | (go_split_ands;have q:=HST.out _ (by assumption);exact ⟨q,HCC.out _ q⟩) | (go_split_ands;have q:=HD.out _ (by assumption);exact ⟨q,HCC.out _ q⟩))
       (first | (go_at_call 79;(first | (with_reducible refine (pQ.out _).mono ?_) | (with_reducible refine (RE.out _).mono ?_) | (with_reducible refine (HR3.out _).mono ?_));rintro e wk ⟨rfl,hbk⟩) | (go_at_call 84;(try go_split_ands);refine (HDOT.out _ (by assumption)).mono ?_;rintro e wk ⟨rfl,hbk⟩))
      go_wp2_with fail
      go_split_ands
      go_roundw
      case rel => exact ⟨j + 1,by omega,by go_num,by rw [← HNEW.out];exact (HALL.out _ (by assumption)).2.2,(HALL.out _ (by assumption)).2.1,(HALL.out _ (by assumption)).1⟩
      case measure => simp [intOf];omega
     ·obtain rfl : j = cb:=by omega
      have HN:=Lib.hid (NR ra j i F);go_wp2_with fail
      go_roundw
      case rel => exact ⟨i + 1,by omega,by go_num,by rw [← HN.out];exact hrow,hrt,S⟩
      case measure => simp [intOf];omega
   ·obtain rfl : i = ra:=by omega
    obtain ⟨h0,h1,h2,f0,f1,f2⟩:=(HE.out _ HS.out).three;have HN:=Lib.hid (SR i cb F);go_wp2_with fail
    refine bodyPost_ret (v:=.tuple #[mV i cb (some ⟨gm,0,none⟩) p p,.int .i64 0]) (by simp [results,Try.results50,go_sem,h0,h1,h2]) rfl ⟨gm,rfl,?_,by omega,cV HS.out.below (by omega) _ _ _⟩;have h:=HROW.out;rw [HN.out,HF.out] at h;exact h.JP (by omega) _ _ _
end Go.Proofs.Yteofcbkjhdadpaa
