/- What the functions compute that the law BuildFresh reaches, proved by walking them; conditions stand at each theorem. -/
import Derived.WalkKit
import Derived.WalkSpells
import Derived.WalkLawsBesides
import Derived.Lib.Hide
import Derived.Laws.BitsAllLaws
import Derived.Deep.WholeRow
import Derived.Laws.NewBlocks
import Derived.Below
import Derived.Laws.Rows
import Derived.Laws.MakeOwn
import Derived.Laws.OwnMore
import Derived.Deep.Draws
import Derived.Deep.QuietTactic
import Derived.BigQuiet
import Derived.IntWalk
import Derived.OwnWalk
import Derived.RegionTactic
import Derived.Deep.AppendLies
import Derived.Maps.AppendAt
import Derived.Laws.CopyOwn
import Derived.Deep.RegionHeld3
import Derived.Deep.CutRange
import Derived.Deep.Cut
import Derived.Test.YteofcbkjhdadpaaProg
import Derived.Test.YteofcbkjhdadpaaCBuildFreshw1
import Derived.Test.YteofcbkjhdadpaaCBuildFreshq
set_option maxHeartbeats 12800000
set_option maxRecDepth 100000
set_option linter.unusedSimpArgs false
set_option linter.unusedVariables false
namespace Go.Proofs.Yteofcbkjhdadpaa
def vZ (xs : List UInt8) : Nat→Bool
 | 0 => false
 | i + 1 => vZ xs i || decide (xs.getD i 0∈xs.take i)
def QV (xs : List UInt8) : Bool:=vZ xs xs.length
theorem CC {xs : List UInt8} : ∀ {i},vZ xs i = false → ∀ k,k < i→xs.getD k 0 ∉ xs.take k
 | 0,_,k,hk => by omega
 | i + 1,h,k,hk => by
  rw [vZ,Bool.or_eq_false_iff] at h
  rcases Nat.lt_or_ge k i with h1 | h1
  ·exact CC h.1 k h1
  ·obtain rfl : k = i:=by omega
   exact of_decide_eq_false h.2
theorem FH {xs : List UInt8} {k : Nat} (hs : xs.getD k 0∈xs.take k) : ∀ i,k < i→vZ xs i = true
 | 0,h => by omega
 | i + 1,h => by
  rw [vZ,Bool.or_eq_true]
  rcases Nat.lt_or_ge k i with h1 | h1
  ·exact .inl (FH hs i h1)
  ·obtain rfl : k = i:=by omega
   exact .inr (decide_eq_true hs)
theorem yA {xs : List UInt8} {k j : Nat} (hj : j < k) (hk : j < xs.length) : xs.getD j 0∈xs.take k:=by
 have e : xs.getD j 0 = (xs.take k)[j]'(by rw [List.length_take];omega):=by
  simp [List.getD,hk]
 rw [e];exact List.getElem_mem _
theorem aOo {xs : List UInt8} (h : QV xs = false) {i j : Nat} (hi : i < xs.length) (hj : j < xs.length) (hne : i≠j) : xs.getD i 0≠xs.getD j 0:=by
 intro e
 rcases Nat.lt_or_ge i j with h1 | h1
 ·exact CC h j hj (by rw [← e];exact yA h1 hi)
 ·exact CC h i hi (by rw [e];exact yA (by omega) hj)
end Go.Proofs.Yteofcbkjhdadpaa
namespace Go.Proofs.Yteofcbkjhdadpaa.Gf
def TD (a : UInt8) : UInt8:=if a &&& 128 = 0 then a <<< 1 else (a <<< 1) ^^^ 29
def add (a b : UInt8) : UInt8:=a ^^^ b
def uJ : Nat→UInt8→UInt8→UInt8→UInt8
 | 0,_,_,p => p
 | n + 1,a,b,p => uJ n (TD a) (b >>> 1) (if b &&& 1 = 0 then p else p ^^^ a)
def mul (a b : UInt8) : UInt8:=uJ 8 a b 0
def ex : Nat→UInt8
 | 0 => 1
 | n + 1 => TD (ex n)
def aPD : Nat→UInt8→Nat→UInt8→Nat
 | 0,_,n,_ => n
 | k + 1,p,n,a => if p = a then n else aPD k (TD p) (n + 1) a
def lg (a : UInt8) : Nat:=aPD 255 1 0 a
theorem FM {P : UInt8→Prop} (h : ∀ n,n < 256→P (UInt8.ofNat n)) (a : UInt8) : P a:=by
 have h1:=h a.toNat a.toNat_lt
 rwa [UInt8.ofNat_toNat] at h1
def aGl (a : Nat) : Nat:=if a.testBit 7 then (a <<< 1) ^^^ 285 else a <<< 1
theorem aIv (a b : Nat) : aGl (a ^^^ b) = aGl a ^^^ aGl b:=by
 unfold aGl;rw [Nat.testBit_xor,Nat.shiftLeft_xor_distrib];generalize a <<< 1 = x;generalize b <<< 1 = y
 cases a.testBit 7 <;> cases b.testBit 7 <;> simp
 ·rw [Nat.xor_assoc]
 ·rw [Nat.xor_assoc,Nat.xor_assoc,Nat.xor_comm y]
 ·rw [Nat.xor_assoc,← Nat.xor_assoc 285 y,Nat.xor_comm 285 y,Nat.xor_assoc y,Nat.xor_self,Nat.xor_zero]
theorem DL (a : UInt8) : (TD a).toNat = aGl a.toNat:=by
 revert a
 apply FM
 decide +kernel
theorem aEu (a b : UInt8) : TD (a ^^^ b) = TD a ^^^ TD b:=by
 apply UInt8.toNat_inj.1;rw [DL,UInt8.toNat_xor,UInt8.toNat_xor,DL,DL];exact aIv _ _
theorem aIu : TD 0 = 0:=by decide
theorem aFR (n : Nat) : ∀ a b p,uJ n (TD a) b (TD p) = TD (uJ n a b p):=by
 induction n with
 | zero => intro a b p;rfl
 | succ n ih =>
  intro a b p;simp only [uJ];rw [← ih]
  by_cases h : b &&& 1 = 0
  ·simp [h]
  ·simp [h,aEu]
theorem aFS (n : Nat) : ∀ a a' b p p',uJ n (a ^^^ a') b (p ^^^ p') = uJ n a b p ^^^ uJ n a' b p':=by
 induction n with
 | zero => intro a a' b p p';rfl
 | succ n ih =>
  intro a a' b p p';simp only [uJ];rw [aEu,← ih]
  by_cases h : b &&& 1 = 0
  ·simp [h]
  ·simp only [h,if_false]
   congr 1
   rw [UInt8.xor_assoc,UInt8.xor_assoc]
   congr 1
   rw [← UInt8.xor_assoc,← UInt8.xor_assoc,UInt8.xor_comm p' a]
theorem aKn (a b : UInt8) : mul (TD a) b = TD (mul a b):=by
 unfold mul;rw [← aFR,aIu]
theorem zU (a b c : UInt8) : mul (a ^^^ b) c = mul a c ^^^ mul b c:=by
 unfold mul;rw [← aFS,UInt8.xor_zero]
theorem eO (b : UInt8) : mul 0 b = 0:=by
 have h:=zU 0 0 b;rw [UInt8.xor_self] at h;rw [h,UInt8.xor_self]
theorem one_mul (b : UInt8) : mul 1 b = b:=by
 revert b
 apply FM
 decide +kernel
theorem mul_zero (a : UInt8) : mul a 0 = 0:=by
 revert a
 apply FM
 decide +kernel
/-! powers of 2 -/
theorem aOn : ex 255 = 1:=by decide +kernel
theorem aCv (m : Nat) (n : Nat) : mul (ex m) (ex n) = ex (m + n):=by
 induction m with
 | zero => simp [ex,one_mul]
 | succ m ih =>
  rw [Nat.add_right_comm];simp only [ex];rw [aKn,ih]
theorem UR (n : Nat) : ex (n + 255) = ex n:=by rw [Nat.add_comm,← aCv,aOn,one_mul]
theorem aIr (k n : Nat) : ex (n + 255 * k) = ex n:=by
 induction k with
 | zero => rfl
 | succ k ih => rw [Nat.mul_succ,← Nat.add_assoc,UR,ih]
theorem QT (n : Nat) : ex (n % 255) = ex n:=by
 conv => rhs;rw [← Nat.mod_add_div n 255]
 rw [aIr]
theorem aMk : ∀ n,n < 256→UInt8.ofNat n≠0→lg (UInt8.ofNat n) < 255∧ex (lg (UInt8.ofNat n)) = UInt8.ofNat n:=by decide +kernel
theorem UB {a : UInt8} (h : a≠0) : lg a < 255:=(FM (P:=fun a => a≠0→lg a < 255∧ex (lg a) = a) aMk a h).1
theorem aEs {a : UInt8} (h : a≠0) : ex (lg a) = a:=(FM (P:=fun a => a≠0→lg a < 255∧ex (lg a) = a) aMk a h).2
theorem aOd : ∀ n,n < 255→lg (ex n) = n:=by decide +kernel
theorem aHW (n : Nat) : lg (ex n) = n % 255:=by
 rw [← QT];exact aOd _ (Nat.mod_lt _ (by decide))
theorem aOl : ∀ n,n < 255→ex n≠0:=by decide +kernel
theorem aMJ (n : Nat) : ex n≠0:=by
 rw [← QT];exact aOl _ (Nat.mod_lt _ (by decide))
theorem aOm {m n : Nat} (h : ex m = ex n) : m % 255 = n % 255:=by rw [← aHW,← aHW,h]
theorem mul_eq {a b : UInt8} (ha : a≠0) (hb : b≠0) : mul a b = ex (lg a + lg b):=by
 conv => lhs;rw [← aEs ha,← aEs hb]
 exact aCv _ _
theorem mul_comm (a b : UInt8) : mul a b = mul b a:=by
 by_cases ha : a = 0
 ·subst ha;rw [eO,mul_zero]
 by_cases hb : b = 0
 ·subst hb;rw [eO,mul_zero]
 rw [mul_eq ha hb,mul_eq hb ha,Nat.add_comm]
theorem aHP {a b : UInt8} (ha : a≠0) (hb : b≠0) : mul a b≠0:=by
 rw [mul_eq ha hb];exact aMJ _
theorem aHV {a b : UInt8} (ha : a≠0) (hb : b≠0) : lg (mul a b) = (lg a + lg b) % 255:=by
 rw [mul_eq ha hb,aHW]
theorem mul_assoc (a b c : UInt8) : mul (mul a b) c = mul a (mul b c):=by
 by_cases ha : a = 0
 ·subst ha;simp only [eO]
 by_cases hb : b = 0
 ·subst hb;simp only [eO,mul_zero]
 by_cases hc : c = 0
 ·subst hc;simp only [mul_zero]
 rw [mul_eq (aHP ha hb) hc,mul_eq ha (aHP hb hc),aHV ha hb,aHV hb hc];rw [← QT,← QT (lg a + _)]
 congr 1
 omega
theorem mul_one (a : UInt8) : mul a 1 = a:=by rw [mul_comm,one_mul]
theorem aKm (a b c : UInt8) : mul a (b ^^^ c) = mul a b ^^^ mul a c:=by
 rw [mul_comm,zU,mul_comm b,mul_comm c]
theorem add_comm (a b : UInt8) : add a b = add b a:=UInt8.xor_comm _ _
theorem add_assoc (a b c : UInt8) : add (add a b) c = add a (add b c):=UInt8.xor_assoc _ _ _
theorem CL (a : UInt8) : add a a = 0:=UInt8.xor_self
theorem add_zero (a : UInt8) : add a 0 = a:=UInt8.xor_zero
theorem zero_add (a : UInt8) : add 0 a = a:=UInt8.zero_xor
theorem add_left_comm (a b c : UInt8) : add a (add b c) = add b (add a c):=by rw [← add_assoc,add_comm a b,add_assoc]
theorem aCH (a b : UInt8) : add a (add a b) = b:=by rw [← add_assoc,CL,zero_add]
theorem add_eq_zero (a b : UInt8) : add a b = 0 ↔ a = b:=by
 constructor
 ·intro h
  have:=aCH a b;rw [h,add_zero] at this;exact this
 ·rintro rfl;exact CL _
theorem mul_add (a b c : UInt8) : mul a (add b c) = add (mul a b) (mul a c):=aKm _ _ _
theorem add_mul (a b c : UInt8) : mul (add a b) c = add (mul a c) (mul b c):=zU _ _ _
def inv (a : UInt8) : UInt8:=if a = 0 then 0 else ex (255 - lg a)
theorem aIa {a : UInt8} (h : a≠0) : inv a≠0:=by unfold inv;rw [if_neg h];exact aMJ _
theorem aDm {a : UInt8} (h : a≠0) : mul a (inv a) = 1:=by
 unfold inv;rw [if_neg h];have h1:=aCv (lg a) (255 - lg a);have:=UB h;rw [aEs h,show lg a + (255 - lg a) = 0 + 255 * 1 from by omega,aIr] at h1;exact h1
theorem inv_mul {a : UInt8} (h : a≠0) : mul (inv a) a = 1:=by rw [mul_comm,aDm h]
theorem aCt {a b : UInt8} (h : mul a b = 1) : b = inv a:=by
 have ha : a≠0:=by rintro rfl;rw [eO] at h;exact absurd h (by decide)
 have:=mul_assoc (inv a) a b;rw [h,inv_mul ha,mul_one,one_mul] at this;exact this
def npow (a : UInt8) : Nat→UInt8
 | 0 => 1
 | n + 1 => mul (npow a n) a
def pw (a : UInt8) (n : Int) : UInt8:=if n = 0 then 1 else if a = 0 then 0 else ex (lg a * (n % 255).toNat % 255)
/-! the document's product: shifted sums,then the remainder -/
def kP (p i : Nat) : Nat:=if p.testBit i then p ^^^ (285 <<< (i - 8)) else p
def WG (p : Nat) : Nat:=kP (kP (kP (kP (kP (kP (kP p 14) 13) 12) 11) 10) 9) 8
theorem aBY (p q i : Nat) : kP (p ^^^ q) i = kP p i ^^^ kP q i:=by
 unfold kP;rw [Nat.testBit_xor];generalize 285 <<< (i - 8) = c
 cases p.testBit i <;> cases q.testBit i <;> simp
 ·rw [Nat.xor_assoc]
 ·rw [Nat.xor_assoc,Nat.xor_assoc,Nat.xor_comm q c]
 ·rw [Nat.xor_assoc,← Nat.xor_assoc c q c,Nat.xor_comm c q,Nat.xor_assoc q c c,Nat.xor_self,Nat.xor_zero]
theorem aHp (p q : Nat) : WG (p ^^^ q) = WG p ^^^ WG q:=by unfold WG;simp only [aBY]
def uI (a b : Nat) : Nat→Nat
 | 0 => 0
 | n + 1 => if b.testBit n then uI a b n ^^^ (a <<< n) else uI a b n
def aAL : Nat→Nat→Nat
 | 0,a => a
 | n + 1,a => aGl (aAL n a)
theorem aFu : ∀ a,a < 256 → ∀ i,i < 8→WG (a <<< i) = aAL i a:=by decide +kernel
def KP (a b : Nat) : Nat→Nat
 | 0 => 0
 | n + 1 => if b.testBit n then KP a b n ^^^ aAL n a else KP a b n
theorem WE (a b : Nat) (ha : a < 256) : ∀ n,n≤8→WG (uI a b n) = KP a b n
 | 0,_ => by show WG 0 = 0;decide
 | n + 1,h => by
  simp only [uI,KP]
  by_cases hb : b.testBit n = true
  ·rw [if_pos hb,if_pos hb,aHp,WE a b ha n (by omega),aFu a ha n (by omega)]
  ·rw [if_neg hb,if_neg hb,WE a b ha n (by omega)]
def aGk : Nat→UInt8→UInt8
 | 0,a => a
 | n + 1,a => TD (aGk n a)
theorem aCy (n : Nat) (a : UInt8) : (aGk n a).toNat = aAL n a.toNat:=by
 induction n with
 | zero => rfl
 | succ n ih => simp only [aGk,aAL,DL,ih]
def shs : Nat→UInt8→UInt8
 | 0,b => b
 | n + 1,b => shs n b >>> 1
def SO (a b : UInt8) : Nat→UInt8
 | 0 => 0
 | n + 1 => if b.toNat.testBit n then SO a b n ^^^ aGk n a else SO a b n
theorem aFn (k : Nat) (b : UInt8) : (shs k b).toNat = b.toNat / 2 ^ k:=by
 induction k with
 | zero => simp [shs]
 | succ k ih =>
  simp only [shs];rw [UInt8.toNat_shiftRight,ih]
  simp [Nat.shiftRight_eq_div_pow,Nat.div_div_eq_div_mul,Nat.pow_succ]
theorem aDc (k : Nat) (b : UInt8) : shs k b &&& 1 = 0 ↔ ¬ b.toNat.testBit k = true:=by
 rw [← UInt8.toNat_inj,UInt8.toNat_and,aFn,Nat.testBit_eq_decide_div_mod_eq];show (b.toNat / 2 ^ k) &&& 1 = 0 ↔ _;rw [Nat.and_one_is_mod]
 simp
theorem aCq (a b : UInt8) (n : Nat) : ∀ k,uJ n (aGk k a) (shs k b) (SO a b k) = SO a b (k + n):=by
 induction n with
 | zero => intro k;rfl
 | succ n ih =>
  intro k;have h:=ih (k + 1);rw [Nat.add_right_comm,Nat.add_assoc] at h;rw [← h];simp only [uJ];have e : (if shs k b &&& 1 = 0 then SO a b k else SO a b k ^^^ aGk k a) = SO a b (k + 1):=by
   simp only [SO]
   by_cases hb : b.toNat.testBit k = true
   ·rw [if_pos hb,if_neg (fun h => (aDc k b).1 h hb)]
   ·rw [if_neg hb,if_pos ((aDc k b).2 hb)]
  rw [e];rfl
theorem aBR (a b : UInt8) (k : Nat) : (SO a b k).toNat = KP a.toNat b.toNat k:=by
 induction k with
 | zero => rfl
 | succ k ih =>
  simp only [SO,KP]
  by_cases hb : b.toNat.testBit k = true
  ·rw [if_pos hb,if_pos hb,UInt8.toNat_xor,ih,aCy]
  ·rw [if_neg hb,if_neg hb,ih]
theorem aJX (a b : UInt8) : WG (uI a.toNat b.toNat 8) = (mul a b).toNat:=by
 rw [WE _ _ a.toNat_lt 8 (Nat.le_refl _),← aBR];have h:=aCq a b 8 0;exact congrArg UInt8.toNat h.symm
theorem PL (a b : Nat) (ha : a < 256) : ∀ n,n≤8→uI a b n < 2 ^ 15
 | 0,_ => by simp [uI]
 | n + 1,h => by
  have ih:=PL a b ha n (by omega);simp only [uI];have h1 : a <<< n < 2 ^ 15:=by
   rw [Nat.shiftLeft_eq]
   calc a * 2 ^ n≤255 * 2 ^ 7:=Nat.mul_le_mul (by omega) (Nat.pow_le_pow_right (by omega) (by omega))
    _ < 2 ^ 15:=by decide
  by_cases hb : b.testBit n = true
  ·rw [if_pos hb];exact Nat.xor_lt_two_pow ih h1
  ·rw [if_neg hb];exact ih
theorem TS (p i : Nat) (hi : i≤14) (hp : p < 2 ^ 15) : kP p i < 2 ^ 15:=by
 unfold kP
 by_cases hb : p.testBit i = true
 ·rw [if_pos hb]
  refine Nat.xor_lt_two_pow hp ?_;rw [Nat.shiftLeft_eq]
  calc 285 * 2 ^ (i - 8)≤285 * 2 ^ 6:=Nat.mul_le_mul (Nat.le_refl _) (Nat.pow_le_pow_right (by omega) (by omega))
   _ < 2 ^ 15:=by decide
 ·rw [if_neg hb];exact hp
def WH : Nat→Nat→Nat
 | 0,p => p
 | n + 1,p => WH n (kP p (n + 8))
/-! lists -/
def mL (dst : List UInt8) (c : UInt8) (src : List UInt8) : List UInt8:=List.zipWith (fun d s => add d (mul c s)) dst src
def JC (xs ys : List UInt8) : Nat→UInt8
 | 0 => 0
 | i + 1 => add (JC xs ys i) (mul (xs.getD i 0) (ys.getD i 0))
def dot (xs ys : List UInt8) : UInt8:=JC xs ys xs.length
end Go.Proofs.Yteofcbkjhdadpaa.Gf
namespace Go.Proofs.Yteofcbkjhdadpaa
def lZ (R C : Nat) (f : Nat→Nat→UInt8) : List UInt8:=(List.range (R * C)).map fun p => f (p / C) (p % C)
theorem hY (R C : Nat) (f : Nat→Nat→UInt8) : (lZ R C f).length = R * C:=by simp [lZ]
theorem jV {R C i j : Nat} (hi : i < R) (hj : j < C) : i * C + j < R * C:=by
 have h : (i + 1) * C≤R * C:=Nat.mul_le_mul_right C hi;rw [Nat.add_mul] at h;omega
theorem KE {C i j : Nat} (hj : j < C) : (i * C + j) / C = i:=by
 rw [Nat.add_comm,Nat.add_mul_div_right _ _ (by omega),Nat.div_eq_of_lt hj,Nat.zero_add]
theorem KD {C i j : Nat} (hj : j < C) : (i * C + j) % C = j:=by
 rw [Nat.add_comm,Nat.add_mul_mod_self_right,Nat.mod_eq_of_lt hj]
theorem aAj {R C p : Nat} (hp : p < R * C) : p / C < R∧p % C < C∧p = p / C * C + p % C:=by
 have hC : 0 < C:=by
  rcases Nat.eq_zero_or_pos C with h | h
  ·subst h;simp at hp
  ·exact h
 refine ⟨(Nat.div_lt_iff_lt_mul hC).2 hp,Nat.mod_lt _ hC,?_⟩;have:=Nat.div_add_mod p C;rw [Nat.mul_comm] at this;omega
theorem BQ {R C i j : Nat} (f : Nat→Nat→UInt8) (hi : i < R) (hj : j < C) : (lZ R C f)[i * C + j]? = some (f i j):=by
 simp only [lZ,List.getElem?_map,List.getElem?_range (jV hi hj),Option.map_some,KE hj,KD hj]
theorem aGc {R C i j : Nat} (f : Nat→Nat→UInt8) (hi : i < R) (hj : j < C) : (lZ R C f).getD (i * C + j) 0 = f i j:=by
 rw [List.getD_eq_getElem?_getD,BQ f hi hj];rfl
theorem lV {R C : Nat} {f g : Nat→Nat→UInt8} (h : ∀ i j,i < R→j < C→f i j = g i j) : lZ R C f = lZ R C g:=by
 unfold lZ;apply List.map_congr_left;intro p hp;obtain ⟨h1,h2,_⟩:=aAj (List.mem_range.1 hp);exact h _ _ h1 h2
theorem aAB {R C : Nat} {xs : List UInt8} {f : Nat→Nat→UInt8} (hl : xs.length = R * C) (h : ∀ i j,i < R→j < C→xs[i * C + j]? = some (f i j)) : xs = lZ R C f:=by
 apply List.ext_getElem?;intro p
 rcases Nat.lt_or_ge p (R * C) with hp | hp
 ·obtain ⟨h1,h2,h3⟩:=aAj hp
  rw [h3,h _ _ h1 h2,BQ f h1 h2]
 ·rw [List.getElem?_eq_none (by omega),List.getElem?_eq_none (by rw [hY];omega)]
theorem UH (R C : Nat) : List.replicate (R * C) 0 = lZ R C (fun _ _ => 0):=by
 unfold lZ;rw [List.map_const',List.length_range]
theorem aFE {C i j a b : Nat} (hj : j < C) (hb : b < C) (h : i * C + j = a * C + b) : i = a∧j = b :=
 ⟨by have h1:=congrArg (· / C) h;simpa only [KE hj,KE hb] using h1,by have h1:=congrArg (· % C) h;simpa only [KD hj,KD hb] using h1⟩
theorem QN {R C i j : Nat} (f : Nat→Nat→UInt8) (v : UInt8) (hi : i < R) (hj : j < C) : (lZ R C f).set (i * C + j) v = lZ R C (fun a b => if a = i∧b = j then v else f a b):=by
 refine aAB (by rw [List.length_set,hY]) fun a b ha hb => ?_
 rw [List.getElem?_set]
 by_cases h : i * C + j = a * C + b
 ·obtain ⟨rfl,rfl⟩:=aFE hj hb h
  rw [if_pos rfl,if_pos (by rw [hY];exact jV hi hj),if_pos ⟨rfl,rfl⟩]
 ·rw [if_neg h,BQ f ha hb,if_neg (by rintro ⟨rfl,rfl⟩;exact h rfl)]
theorem aIh {R C i : Nat} (f : Nat→Nat→UInt8) (hi : i < R) : ((lZ R C f).drop (i * C)).take C = (List.range C).map (f i):=by
 apply List.ext_getElem?;intro j;rw [List.getElem?_take]
 rcases Nat.lt_or_ge j C with hj | hj
 ·rw [if_pos hj,List.getElem?_drop,BQ f hi hj,List.getElem?_map,List.getElem?_range hj];rfl
 ·rw [if_neg (by omega),List.getElem?_eq_none (by simpa using hj)]
theorem aGb {R C i j : Nat} (f : Nat→Nat→UInt8) (hi : i < R) (hj : j < C) : (lZ R C f).take (i * C + j) ++ [f i j] = (lZ R C f).take (i * C + j + 1):=by
 rw [List.take_add_one,BQ f hi hj];rfl
def jC (R C : Nat) (f : Nat→Nat→UInt8) (i j : Nat) : List UInt8:=lZ R C (fun a b => if a < i ∨ (a = i∧b < j) then f a b else 0)
theorem xO (R C : Nat) (f : Nat→Nat→UInt8) : List.replicate (R * C) 0 = jC R C f 0 0:=by
 rw [UH];exact lV fun i j _ _ => (if_neg (by omega)).symm
theorem DJ {R C i j : Nat} (f : Nat→Nat→UInt8) (hi : i < R) (hj : j < C) : (jC R C f i j).set (i * C + j) (f i j) = jC R C f i (j + 1):=by
 unfold jC;rw [QN _ _ hi hj];refine lV fun a b _ _ => ?_
 by_cases h : a = i∧b = j
 ·rw [if_pos h,if_pos (by omega),h.1,h.2]
 ·rw [if_neg h]
  by_cases h2 : a < i ∨ (a = i∧b < j)
  ·rw [if_pos h2,if_pos (by omega)]
  ·rw [if_neg h2,if_neg (by omega)]
theorem AA (R C i : Nat) (f : Nat→Nat→UInt8) : jC R C f i C = jC R C f (i + 1) 0:=by
 refine lV fun a b _ hb => ?_
 by_cases h : a < i ∨ (a = i∧b < C)
 ·rw [if_pos h,if_pos (by omega)]
 ·rw [if_neg h,if_neg (by omega)]
theorem DK (R C : Nat) (f : Nat→Nat→UInt8) : jC R C f R 0 = lZ R C f:=lV fun a b ha _ => if_pos (by omega)
theorem rI (R C i j : Nat) (f : Nat→Nat→UInt8) : (jC R C f i j).length = R * C:=hY _ _ _
theorem aIq {R C i j : Nat} (f : Nat→Nat→UInt8) (hi : i < R) (hj : j < C) : (jC R C f i j).set (i * C + j) 0 = jC R C f i j:=by
 unfold jC;rw [QN _ _ hi hj];refine lV fun a b _ _ => ?_
 by_cases h : a = i∧b = j
 ·rw [if_pos h,if_neg (by omega)]
 ·rw [if_neg h]
def vY (R C : Nat) (f : Nat→Nat→UInt8) (j i : Nat) : List UInt8:=lZ R C (fun a b => if b < j ∨ (b = j∧a < i) then f a b else 0)
theorem LY (R C : Nat) (f : Nat→Nat→UInt8) : List.replicate (R * C) 0 = vY R C f 0 0:=by
 rw [UH];exact lV fun i j _ _ => (if_neg (by omega)).symm
theorem UP {R C i j : Nat} (f : Nat→Nat→UInt8) (hi : i < R) (hj : j < C) : (vY R C f j i).set (i * C + j) (f i j) = vY R C f j (i + 1):=by
 unfold vY;rw [QN _ _ hi hj];refine lV fun a b _ _ => ?_
 by_cases h : a = i∧b = j
 ·rw [if_pos h,if_pos (by omega),h.1,h.2]
 ·rw [if_neg h]
  by_cases h2 : b < j ∨ (b = j∧a < i)
  ·rw [if_pos h2,if_pos (by omega)]
  ·rw [if_neg h2,if_neg (by omega)]
theorem QS (R C j : Nat) (f : Nat→Nat→UInt8) : vY R C f j R = vY R C f (j + 1) 0:=by
 refine lV fun a b ha _ => ?_
 by_cases h : b < j ∨ (b = j∧a < R)
 ·rw [if_pos h,if_pos (by omega)]
 ·rw [if_neg h,if_neg (by omega)]
theorem UQ (R C : Nat) (f : Nat→Nat→UInt8) : vY R C f C 0 = lZ R C f:=lV fun a b _ hb => if_pos (by omega)
theorem JB (R C i j : Nat) (f : Nat→Nat→UInt8) : (vY R C f i j).length = R * C:=hY _ _ _
/-! sums -/
def PM : Nat→(Nat→UInt8)→UInt8
 | 0,_ => 0
 | n + 1,f => Gf.add (PM n f) (f n)
theorem aBQ {n : Nat} {f g : Nat→UInt8} (h : ∀ i,i < n→f i = g i) : PM n f = PM n g:=by
 induction n with
 | zero => rfl
 | succ n ih => rw [PM,PM,ih (fun i hi => h i (by omega)),h n (by omega)]
theorem UX (xs ys : List UInt8) : ∀ n,Gf.JC xs ys n = PM n (fun k => Gf.mul (xs.getD k 0) (ys.getD k 0))
 | 0 => rfl
 | n + 1 => by rw [Gf.JC,PM,UX xs ys n]
theorem aLt {xs ys : List UInt8} {n : Nat} (h : xs.length = n) : Gf.dot xs ys = PM n (fun k => Gf.mul (xs.getD k 0) (ys.getD k 0)):=by
 unfold Gf.dot;rw [h,UX]
end Go.Proofs.Yteofcbkjhdadpaa
namespace Go.Proofs.Yteofcbkjhdadpaa
open Go.RowKit
theorem PT {a b : Int} (h : a = b) : Ending.returned (.int .u8 a) = .returned (.int .u8 b):=by rw [h]
theorem aLH (a b : UInt8) : bits .and .u8 (a.toNat : Int) (b.toNat : Int) = ((a &&& b).toNat : Int):=by
 rw [u8_and_nat _ _ a.toNat_lt b.toNat_lt,UInt8.toNat_and]
theorem xP (a b : UInt8) : bits .xor .u8 (a.toNat : Int) (b.toNat : Int) = ((Gf.add a b).toNat : Int):=by
 unfold Gf.add;rw [u8_xor_nat _ _ a.toNat_lt b.toNat_lt,UInt8.toNat_xor]
theorem toNat_zero (a : UInt8) : a.toNat = 0 ↔ a = 0:=UInt8.toNat_inj (b:=0)
theorem sE (a : UInt8) : ((a.toNat : Int) == 0) = decide (a = 0):=by
 rw [Bool.eq_iff_iff];simp [toNat_zero]
theorem VT (b : UInt8) : (b >>> 1).toNat = b.toNat / 2:=by
 rw [UInt8.toNat_shiftRight];simp [Nat.shiftRight_eq_div_pow]
theorem aCx : ∀ n,n < 256→(bits BinOp.and IntKind.u8 ((UInt8.ofNat n).toNat : Int) 128 != 0) = true→bits BinOp.xor IntKind.u8 (((UInt8.ofNat n).toNat : Int) * 2 % 256) 29 = ((Gf.TD (UInt8.ofNat n)).toNat : Int):=by decide +kernel
theorem aGi : ∀ n,n < 256→(bits BinOp.and IntKind.u8 ((UInt8.ofNat n).toNat : Int) 128 != 0) = false→(((UInt8.ofNat n).toNat : Int) * 2 % 256) = ((Gf.TD (UInt8.ofNat n)).toNat : Int):=by decide +kernel
theorem AB (a : UInt8) (w : World) :
  Calls Try.prog 87 #[.int .u8 (a.toNat : Int)] w fun e w' => e = .returned (.int .u8 ((Gf.TD a).toNat : Int))∧w = w':=by
 go_enter Try.func87,Try.ntmps87;go_wp2_with fail
 ·go_ret
  exact ⟨PT (Gf.FM (P:=fun a => (bits BinOp.and IntKind.u8 (a.toNat : Int) 128 != 0) = true→bits BinOp.xor IntKind.u8 ((a.toNat : Int) * 2 % 256) 29 = ((Gf.TD a).toNat : Int)) aCx a ‹_›),rfl⟩
 ·go_ret
  exact ⟨PT (Gf.FM (P:=fun a => (bits BinOp.and IntKind.u8 (a.toNat : Int) 128 != 0) = false→((a.toNat : Int) * 2 % 256) = ((Gf.TD a).toNat : Int)) aGi a ‹_›),rfl⟩
theorem aBS (b : UInt8) : ((b >>> 1).toNat : Int) = (b.toNat : Int) / 2:=by
 rw [VT];omega
theorem Gf.aCp (n : Nat) : ∀ a p,Gf.uJ n a 0 p = p:=by
 induction n with
 | zero => intro a p;rfl
 | succ n ih => intro a p;simp only [Gf.uJ];rw [if_pos (by decide)];exact ih _ _
theorem RI (b : UInt8) : (bits .and .u8 (b.toNat : Int) 1 != 0) = !decide (b &&& 1 = 0):=by
 have:=aLH b 1;rw [show ((1 : UInt8).toNat : Int) = 1 from rfl] at this;rw [this];show (!(((b &&& 1).toNat : Int) == 0)) = _;rw [sE]
end Go.Proofs.Yteofcbkjhdadpaa
namespace Go.Proofs.Yteofcbkjhdadpaa
open Go.RowKit
def zz (m n : Nat) : Array Value:=(List.replicate m (Value.int .u8 0) ++ List.replicate n (Value.int .i64 0)).toArray
theorem aJI (m n : Nat) : (zz m n).size = m + n:=by simp [zz]
theorem aNt (m n : Nat) : ∀ v,v∈(zz m n).toList→v.oneCell' = true:=by
 intro v hv;simp only [zz,List.mem_append,List.mem_replicate] at hv
 rcases hv with ⟨_,rfl⟩ | ⟨_,rfl⟩ <;> rfl
def vM : Nat→Array Value
 | 0 => zz 510 256
 | n + 1 => (((vM n).setIfInBounds n (.int .u8 ((Gf.ex n).toNat : Int))).setIfInBounds (n + 255) (.int .u8 ((Gf.ex n).toNat : Int))).setIfInBounds (510 + (Gf.ex n).toNat) (.int .i64 (n : Int))
theorem vL (n : Nat) : (vM n).size = 766:=by
 induction n with
 | zero => exact aJI 510 256
 | succ n ih => simp only [vM,Array.size_setIfInBounds,ih]
theorem QE {a : Array Value} {i : Nat} {x v : Value} (h : v∈(a.setIfInBounds i x).toList) : v = x ∨ v∈a.toList:=by
 rw [Array.toList_setIfInBounds] at h
 rcases List.mem_or_eq_of_mem_set h with h | h
 ·exact .inr h
 ·exact .inl h
theorem aFa (n : Nat) : ∀ v,v∈(vM n).toList→v.oneCell' = true:=by
 induction n with
 | zero => exact aNt _ _
 | succ n ih =>
  intro v hv;simp only [vM] at hv
  rcases QE hv with rfl | hv
  ·rfl
  rcases QE hv with rfl | hv
  ·rfl
  rcases QE hv with rfl | hv
  ·rfl
  exact ih v hv
theorem aFb (n : Nat) : (vM n).all (·.oneCell') = true:=by
 rw [Array.all_eq_true_iff_forall_mem];exact fun v hv => aFa n v (Array.mem_def.1 hv)
theorem LH (n : Nat) (hn : n≤255) : (∀ i,i < n→(vM n)[i]? = some (.int .u8 ((Gf.ex i).toNat : Int))∧(vM n)[i + 255]? = some (.int .u8 ((Gf.ex i).toNat : Int))) ∧
  (∀ i,i < n→(vM n)[510 + (Gf.ex i).toNat]? = some (.int .i64 (i : Int))):=by
 induction n with
 | zero => exact ⟨fun i h => absurd h (by omega),fun i h => absurd h (by omega)⟩
 | succ n ih =>
  obtain ⟨h1,h2⟩:=ih (by omega);have hs:=vL n;have hx:=(Gf.ex n).toNat_lt;simp only [vM,Array.getElem?_setIfInBounds,Array.size_setIfInBounds,hs];refine ⟨fun i hi => ⟨?_,?_⟩,fun i hi => ?_⟩
  ·rw [if_neg (by omega)]
   rw [if_neg (by omega)]
   by_cases e : n = i
   ·subst e;rw [if_pos rfl,if_pos (by omega)]
   ·rw [if_neg e];exact (h1 i (by omega)).1
  ·rw [if_neg (by omega)]
   by_cases e : n = i
   ·subst e;rw [if_pos rfl,if_pos (by omega)]
   ·rw [if_neg (by omega),if_neg (by omega)];exact (h1 i (by omega)).2
  ·have hxi:=(Gf.ex i).toNat_lt
   by_cases e : i = n
   ·subst e;rw [if_pos rfl,if_pos (by omega)]
   ·have hne : ¬ (510 + (Gf.ex n).toNat = 510 + (Gf.ex i).toNat):=by
     intro h;have h3 : Gf.ex n = Gf.ex i:=UInt8.toNat_inj.1 (by omega);have h4:=Gf.aOm h3;rw [Nat.mod_eq_of_lt (by omega),Nat.mod_eq_of_lt (by omega)] at h4;omega
    rw [if_neg hne,if_neg (by omega),if_neg (by omega)];exact h2 i (by omega)
def TAB : Array Value:=vM 255
theorem CM : TAB.size = 766:=vL 255
theorem aEH : TAB.all (·.oneCell') = true:=aFb 255
theorem aLN (i : Nat) (h : i < 510) : TAB[i]? = some (.int .u8 ((Gf.ex i).toNat : Int)):=by
 have hf:=(LH 255 (by omega)).1
 by_cases hi : i < 255
 ·exact (hf i hi).1
 ·have h1:=(hf (i - 255) (by omega)).2
  rw [show i - 255 + 255 = i from by omega] at h1;have h2:=Gf.UR (i - 255);rw [show i - 255 + 255 = i from by omega] at h2;rw [h2];exact h1
theorem aLM (a : UInt8) (h : a≠0) : TAB[510 + a.toNat]? = some (.int .i64 (Gf.lg a : Int)):=by
 have h1:=(LH 255 (by omega)).2 (Gf.lg a) (Gf.UB h);rw [Gf.aEs h] at h1;exact h1
def xR (T : Array Value) : Prop:=T = TAB
theorem xR.size {T : Array Value} (h : xR T) : T.size = 766:=by rw [h];exact CM
theorem xR.all {T : Array Value} (h : xR T) : T.all (·.oneCell') = true:=by rw [h];exact aEH
theorem xR.exp {T : Array Value} (h : xR T) (i : Nat) (hi : i < 510) : T[i]? = some (.int .u8 ((Gf.ex i).toNat : Int)):=by rw [h];exact aLN i hi
theorem xR.log {T : Array Value} (h : xR T) {a : UInt8} (ha : a≠0) : T[510 + a.toNat]? = some (.int .i64 (Gf.lg a : Int)):=by rw [h];exact aLM a ha
theorem LG : (Try.prog.info? 109).map (fun i => (i.zero,i.size)) = some (some (.agg (vM 0)),766):=by kernel_rfl
theorem Below.setRow {B : Nat} {a w : World} (h : Below B a w) {g : Nat} (hp : B≤g) (cs : Array Value) : Below B a (w.setRow g cs) :=
 ⟨h.os,h.tape,h.output,by simpa using h.size,fun k hk => by
  rw [← h.block k hk];simp only [World.setRow];rw [Array.getElem?_modify,if_neg (by omega)]⟩
theorem EN {C : Array Value} {i : Nat} (h : i < C.size) : ∃ v,C[i]? = some v:=⟨_,Array.getElem?_eq_getElem h⟩
theorem CH (w : World) :
  Calls Try.prog 90 #[] w fun e w' => ∃ T,xR T∧e = .returned (.agg T)∧Below w.heap.size w w':=by
 obtain ⟨hzv,hsz⟩:=zero_of_info LG;have HSZ:=Lib.hid hsz;clear hsz;obtain ⟨Z,hZ⟩ : ∃ Z,Z = vM 0:=⟨_,rfl⟩
 rw [← hZ] at hzv;have HZ:=Lib.hid hZ;clear hZ;go_enter Try.func90,Try.ntmps90;go_wp2_with fail
 go_loopw [2,4] (fun v2 v4 wr => ∃ (n : Nat) (C : Array Value),n≤255∧v2 = .int .u8 ((Gf.ex n).toNat : Int)∧v4 = .int .i64 (n : Int)∧wr = (w.alloc (Obj.cells Z 109)).alloc (Obj.cells C 109)∧Hid (C = vM n)) (fun _ v4 _ => 255 - (intOf v4).toNat)
 case atStart => exact ⟨0,Z,by omega,rfl,rfl,rfl,HZ.out⟩
 case round =>
  obtain ⟨n,C,hn,rfl,rfl,rfl,HC⟩:=hrel
  by_cases hlt : n < 255
  ·have hx:=(Gf.ex n).toNat_lt
   have hs : C.size = 766:=by rw [HC.out];exact vL n
   obtain ⟨v1,h1⟩:=EN (C:=C) (i:=n) (by omega);obtain ⟨v2,h2⟩:=EN (C:=C.setIfInBounds n (.int .u8 ((Gf.ex n).toNat : Int))) (i:=n + 255) (by rw [Array.size_setIfInBounds];omega);obtain ⟨v3,h3⟩:=EN (C:=(C.setIfInBounds n (.int .u8 ((Gf.ex n).toNat : Int))).setIfInBounds (n + 255) (.int .u8 ((Gf.ex n).toNat : Int))) (i:=510 + (Gf.ex n).toNat) (by rw [Array.size_setIfInBounds,Array.size_setIfInBounds];omega);clear hs;go_wp2_with (go_at_call 87;refine (AB _ _).mono ?_;rintro e w' ⟨rfl,rfl⟩)
   go_roundw
   case rel => exact ⟨n + 1,_,by omega,rfl,by go_num,rfl,by have:=HC.out;simp only [vM];rw [← this];rfl⟩
   case measure => simp [intOf];omega
  ·obtain rfl : n = 255:=by omega
   obtain rfl : C = TAB:=HC.out;have hg1:=heap_alloc2_new w (Obj.cells Z 109) (Obj.cells TAB 109);have hg0:=heap_alloc2_old w (Obj.cells Z 109) (Obj.cells TAB 109);have hz : Z.size = TAB.size:=by rw [HZ.out,CM,vL]
   have G1:=Lib.hid hg1;have G0:=Lib.hid hg0;have H0:=Lib.hid hz;clear hg1 hg0 hz hzv;go_wp2_with (first | (refine wpList_load_row rfl 109 (.tmp 1) rfl (w.heap.size + 1) rfl 109 TAB (0,0) _ G1.out Try.underlying109 rfl (by rw [CM];exact HSZ.out) ?_) | (refine wpList_store_row rfl 109 (.tmp 0) (.tmp 23) rfl w.heap.size TAB rfl rfl 109 Z G0.out (by rw [CM];exact HSZ.out) H0.out aEH ?_))
   have hg2:=setRow_heap ((w.alloc (Obj.cells Z 109)).alloc (Obj.cells TAB 109)) w.heap.size Z TAB 109 (0,0) G0.out;refine bodyPost_ret (results_cell_row rfl _ _ w.heap.size 109 TAB (0,0) _ rfl hg2 Try.underlying109 rfl (by rw [CM];exact HSZ.out)) rfl ?_;exact ⟨TAB,rfl,rfl,Below.setRow (((Below.refl _ _).alloc (Nat.le_refl _) _).alloc (by simp) _) (Nat.le_refl _) _⟩
theorem zO : ∃ Z : Array Value,(∀ w,(zeroValue 109).run Try.prog w = .ok (.agg Z) w)∧Hid (Z.size = 766)∧Hid ((Try.prog.info? 109).map (·.size) = some 766):=by
 obtain ⟨hzv,hsz⟩:=zero_of_info LG;exact ⟨_,hzv,vL 0,hsz⟩
theorem sC {ops : Array Oper} {rest : List Oper} {o : Oper} {a : Act} {w : World} {Q : Exit→Act→World→Prop} (x y : Operand) (hgd : o.guard = none) (ho : o.op = .store 109 x y)
  (T Z : Array Value) (hT : xR T) (hZ : Hid (Z.size = 766)) (hs : Hid ((Try.prog.info? 109).map (·.size) = some 766))
  (hx : a.eval x = .pointer (some ⟨w.heap.size,0,none⟩)) (hy : a.eval y = .agg T)
  (h : ∀ w2 : World,w2.heap.size = w.heap.size + 1→w2.heap[w.heap.size]? = some (.cells T 109 (0,0))→Below w.heap.size w w2→wpList Try.prog ops Q rest (a.put o.dst undef) w2) :
  wpList Try.prog ops Q (o :: rest) a (w.alloc (Obj.cells Z 109)):=by
 refine wpList_store_row hgd 109 x y ho w.heap.size T hx hy 109 Z (heap_alloc_new w _) (by rw [hT.size];exact hs) (by rw [hT.size];exact hZ) hT.all ?_;rw [World.setRow_alloc_new];exact h _ (by simp) (heap_alloc_new w _) ((Below.refl _ _).alloc (Nat.le_refl _) _)
end Go.Proofs.Yteofcbkjhdadpaa
namespace Go.Proofs.Yteofcbkjhdadpaa
open Go.RowKit
def dK (xs : List UInt8) : List Value:=xs.map fun x => .int .u8 (x.toNat : Int)
theorem bC (xs : List UInt8) : (dK xs).length = xs.length:=by simp [dK]
theorem rN (xs : List UInt8) (i : Nat) (h : i < xs.length) : (dK xs)[i]? = some (.int .u8 ((xs[i]).toNat : Int)):=by simp [dK,h]
theorem RH (xs ys : List UInt8) : dK (xs ++ ys) = dK xs ++ dK ys:=by simp [dK]
theorem aIS (xs : List UInt8) (n : Nat) : (dK xs).take n = dK (xs.take n):=by simp [dK,List.map_take]
theorem OT {u : Value} {xs : List UInt8} (h : u∈dK xs) : u.oneCell' = true:=by
 simp only [dK,List.mem_map] at h;obtain ⟨x,_,rfl⟩:=h;rfl
def Rd (w : World) (B : Nat) (A : Option Addr) (n : Nat) (xs : List Value) : Prop :=
 xs.length = n∧(0 < n → ∃ g o,A = some ⟨g,o,none⟩∧g < B ∧ ∀ j u,xs[j]? = some u→w.cell? ⟨g,o + j,none⟩ = some u)
section
variable {w w' : World} {B B' n : Nat} {A : Option Addr} {xs : List Value}
theorem Rd.len (h : Rd w B A n xs) : xs.length = n:=h.1
theorem Rd.nil : Rd w B A 0 []:=⟨rfl,fun h => absurd h (by omega)⟩
theorem Rd.at_ (h : Rd w B A n xs) {k : Nat} (hk : k < n) : ∃ g o u,A = some ⟨g,o,none⟩∧g < B∧xs[k]? = some u∧w.cell? ⟨g,o + k,none⟩ = some u:=by
 obtain ⟨g,o,hA,hg,hc⟩:=h.2 (by omega);have hl : k < xs.length:=by have:=h.1;omega
 exact ⟨g,o,xs[k],hA,hg,List.getElem?_eq_getElem hl,hc k _ (List.getElem?_eq_getElem hl)⟩
theorem Rd.qA (h : Rd w B A n xs) (hk : ∀ k,k < B→w'.heap[k]? = w.heap[k]?) : Rd w' B A n xs :=
 ⟨h.1,fun hn => by
  obtain ⟨g,o,hA,hg,hc⟩:=h.2 hn;exact ⟨g,o,hA,hg,fun j u hu => (World.cell?_of_block (hk g hg)).trans (hc j u hu)⟩⟩
theorem Rd.more (h : Rd w B A n xs) (hB : B≤B') : Rd w B' A n xs :=
 ⟨h.1,fun hn => by
  obtain ⟨g,o,hA,hg,hc⟩:=h.2 hn;exact ⟨g,o,hA,by omega,hc⟩⟩
theorem Rd.below (h : Rd w B A n xs) (hb : Below B' w w') (hB : B≤B') : Rd w' B A n xs:=h.qA fun k hk => hb.block k (by omega)
theorem Rd.go (h : Rd w w.heap.size A n xs) (hb : Below w.heap.size w w') : Rd w' w'.heap.size A n xs:=(h.below hb (Nat.le_refl _)).more hb.size
theorem Rd.take (h : Rd w B A n xs) {k : Nat} (hk : k≤n) : Rd w B A k (xs.take k):=by
 refine ⟨by rw [List.length_take,h.1];omega,fun hp => ?_⟩;obtain ⟨g,o,hA,hg,hc⟩:=h.2 (by omega);refine ⟨g,o,hA,hg,fun j u hu => hc j u ?_⟩;rw [List.getElem?_take] at hu
 split at hu
 ·exact hu
 ·cases hu
end
def Row (w : World) (g : Nat) (t : TypeId) (ys : List Value) : Prop:=w.heap[g]? = some (.cells ys.toArray t (0,0))
section
variable {w w' : World} {g : Nat} {t : TypeId} {ys : List Value}
theorem Row.lt (h : Row w g t ys) : g < w.heap.size:=by
 rcases Nat.lt_or_ge g w.heap.size with hlt | hge
 ·exact hlt
 ·unfold Row at h;rw [Array.getElem?_eq_none hge] at h;cases h
theorem Row.cell (h : Row w g t ys) (i : Nat) : w.cell? ⟨g,i,none⟩ = ys[i]? := by
 rw [cell_of_row w g i _ t (0,0) h,List.getElem?_toArray]
theorem Row.has (h : Row w g t ys) {i : Nat} (hi : i < ys.length) : ∃ old,w.cell? ⟨g,i,none⟩ = some old:=⟨ys[i],by rw [h.cell,List.getElem?_eq_getElem hi]⟩
theorem Row.frozen (h : Row w g t ys) (i : Nat) : w.frozen? ⟨g,i,none⟩ = false:=frozen_of_row w g i _ t h
theorem Row.made (w : World) (z : Value) (n : Nat) (t : TypeId) : Row (w.alloc (.cells (madeCells #[z] n) t)) w.heap.size t (List.replicate n z):=by
 unfold Row;rw [heap_alloc_new,← toList_madeCells_one z n,Array.toArray_toList]
theorem Row.new (w : World) (cs : List Value) (t : TypeId) : Row (w.alloc (.cells cs.toArray t)) w.heap.size t cs:=heap_alloc_new w _
theorem Row.three {a b c : Value} (h : Row w g t [a,b,c]) : w.cell? ⟨g,0,none⟩ = some a∧w.cell? ⟨g,1,none⟩ = some b∧w.cell? ⟨g,2,none⟩ = some c∧w.frozen? ⟨g,0,none⟩ = false∧w.frozen? ⟨g,1,none⟩ = false∧w.frozen? ⟨g,2,none⟩ = false :=
 ⟨h.cell 0,h.cell 1,h.cell 2,h.frozen 0,h.frozen 1,h.frozen 2⟩
theorem Row.of_block (h : Row w g t ys) (hb : w'.heap[g]? = w.heap[g]?) : Row w' g t ys:=hb.trans h
theorem Row.alloc (h : Row w g t ys) (o : Obj) : Row (w.alloc o) g t ys:=(Below.heap_alloc w o g h.lt).trans h
theorem Row.set (h : Row w g t ys) (i : Nat) (u : Value) : Row (w.setCell ⟨g,i,none⟩ u) g t (ys.set i u):=by
 unfold Row;rw [heap_setCell_same w g i _ t u h,cO]
theorem Row.FG (h : Row w g t ys) {p : Addr} (hp : g≠p.block) (u : Value) : Row (w.setCell p u) g t ys:=(Below.heap_setCell w p u g hp).trans h
theorem Row.below {B : Nat} (h : Row w g t ys) (hb : Below B w w') (hg : g < B) : Row w' g t ys:=(hb.block g hg).trans h
theorem Row.drewN (h : Row w g t ys) (k : Nat) : Row (w.drewN k) g t ys:=h
theorem Row.owns (h : Row w g t ys) {base n : Nat} (hb : base≤g) (hn : n≤ys.length) (hm : ys.length≤maxLen) : w.ownsRow base t 1 (.slice (some ⟨g,0,none⟩) n ys.length) n (ys.take n):=by
 refine ⟨by rw [List.length_take];omega,.inr ⟨g,ys.length,ys.toArray,rfl,hb,h,hn,hm,by simp,by simp⟩⟩
end
theorem below_drewN {B : Nat} {a w : World} (h : Below B a w) (n : Nat) : Below B a (w.drewN n):=⟨h.os,h.tape,h.output,h.size,h.block⟩
theorem aFv {w : World} {base : Nat} {t : TypeId} {A : Option Addr} {n cap : Nat} {xs : List Value} (h : w.ownsRow base t 1 (.slice A n cap) n xs) : Rd w w.heap.size A n xs:=by
 refine ⟨by have:=h.1;omega,fun hn => ?_⟩
 rcases h.2 with ⟨hv,h0⟩ | ⟨g,c,cur,hv,_,hh,_,_,_,_⟩
 ·omega
 ·simp only [Value.slice.injEq] at hv
  obtain ⟨rfl,_,rfl⟩:=hv;refine ⟨g,0,rfl,?_,fun j u hu => ?_⟩
  ·rcases Nat.lt_or_ge g w.heap.size with hlt | hge
   ·exact hlt
   ·rw [Array.getElem?_eq_none hge] at hh;cases hh
  ·have hj : j < xs.length:=by
    rcases Nat.lt_or_ge j xs.length with hlt | hge
    ·exact hlt
    ·rw [List.getElem?_eq_none hge] at hu;cases hu
   rw [Nat.zero_add,h.cellAt j (by have:=h.1;omega)];exact hu
def eJ (w : World) (base : Nat) (A : Option Addr) (n cap : Nat) (xs : List UInt8) : Prop:=xs.length = n∧w.ownsRow base 5 1 (.slice A n cap) n (dK xs)
theorem eJ.rd {w : World} {base n cap : Nat} {A : Option Addr} {xs : List UInt8} (h : eJ w base A n cap xs) : Rd w w.heap.size A n (dK xs):=aFv h.2
theorem eJ.mono {w : World} {base base' n cap : Nat} {A : Option Addr} {xs : List UInt8} (h : eJ w base A n cap xs) (hb : base'≤base) : eJ w base' A n cap xs:=by
 refine ⟨h.1,h.2.1,?_⟩
 rcases h.2.2 with h' | ⟨g,c,cur,hv,hg,rest⟩
 ·exact .inl h'
 ·exact .inr ⟨g,c,cur,hv,by omega,rest⟩
theorem eJ.qA {w w' : World} {base n cap : Nat} {A : Option Addr} {xs : List UInt8} (h : eJ w base A n cap xs) (hb : ∀ g,A = some ⟨g,0,none⟩→w'.heap[g]? = w.heap[g]?) : eJ w' base A n cap xs:=by
 refine ⟨h.1,h.2.1,?_⟩
 rcases h.2.2 with h' | ⟨g,c,cur,hv,hg,hh,rest⟩
 ·exact .inl h'
 ·simp only [Value.slice.injEq] at hv
  obtain ⟨rfl,_,rfl⟩:=hv;exact .inr ⟨g,cap,cur,rfl,hg,(hb g rfl).trans hh,rest⟩
theorem eJ.below {w w' : World} {base B n cap : Nat} {A : Option Addr} {xs : List UInt8} (h : eJ w base A n cap xs) (hb : Below B w w') (hB : w.heap.size≤B) : eJ w' base A n cap xs:=by
 refine h.qA fun g hA => hb.block g ?_
 subst hA
 rcases h.2.2 with ⟨h',_⟩ | ⟨g',c,cur,hv,hg,hh,rest⟩
 ·cases h'
 ·simp only [Value.slice.injEq,Option.some.injEq,Addr.mk.injEq,and_true,true_and] at hv
  obtain ⟨rfl,_⟩:=hv
  rcases Nat.lt_or_ge g w.heap.size with hlt | hge
  ·omega
  ·rw [Array.getElem?_eq_none hge] at hh;cases hh
theorem Row.aFL {w : World} {g : Nat} {ys : List UInt8} (h : Row w g 5 (dK ys)) {base n : Nat} (hb : base≤g) (hn : ys.length = n) (hm : n≤maxLen) : eJ w base (some ⟨g,0,none⟩) n n ys:=by
 have h1:=h.owns (n:=n) hb (by rw [bC];omega) (by rw [bC];omega);rw [bC,hn,List.take_of_length_le (by rw [bC];omega)] at h1;exact ⟨hn,h1⟩
theorem eJ.FG {w : World} {base n cap : Nat} {A : Option Addr} {xs : List UInt8} (h : eJ w base A n cap xs) {p : Addr} (hp : p.block < base) (u : Value) : eJ (w.setCell p u) base A n cap xs:=by
 refine ⟨h.1,h.2.1,?_⟩
 rcases h.2.2 with h' | ⟨g,c,cur,hv,hg,hh,rest⟩
 ·exact .inl h'
 ·exact .inr ⟨g,c,cur,hv,hg,(Below.heap_setCell w p u g (by omega)).trans hh,rest⟩
theorem eJ.CA {w : World} {base n cap g : Nat} {A : Option Addr} {xs : List UInt8} (h : eJ w base A n cap xs) (hg : g < base) (a b c : Value) : eJ (((w.setCell ⟨g,0,none⟩ a).setCell ⟨g,1,none⟩ b).setCell ⟨g,2,none⟩ c) base A n cap xs :=
 ((h.FG hg _).FG hg _).FG hg _
theorem bZ {B g : Nat} {a w : World} (h : Below B a w) (hg : B≤g) (x y z : Value) : Below B a (((w.setCell ⟨g,0,none⟩ x).setCell ⟨g,1,none⟩ y).setCell ⟨g,2,none⟩ z):=((h.setCell hg _).setCell hg _).setCell hg _
theorem Row.aPx {w : World} {g : Nat} {t : TypeId} {a b c : Value} (h : Row w g t [a,b,c]) (x y z : Value) : Row (((w.setCell ⟨g,0,none⟩ x).setCell ⟨g,1,none⟩ y).setCell ⟨g,2,none⟩ z) g t [x,y,z]:=((h.set 0 x).set 1 y).set 2 z
theorem Row.CA {w : World} {g g' : Nat} {t : TypeId} {ys : List Value} (h : Row w g t ys) (hg : g≠g') (x y z : Value) : Row (((w.setCell ⟨g',0,none⟩ x).setCell ⟨g',1,none⟩ y).setCell ⟨g',2,none⟩ z) g t ys:=((h.FG hg x).FG hg y).FG hg z
theorem vO (w : World) (n : Nat) : Row (w.alloc (.cells (madeCells #[.int .u8 0] n) 5)) w.heap.size 5 (dK (List.replicate n 0)):=by
 have h:=Row.made w (.int .u8 0) n 5;have e : dK (List.replicate n 0) = List.replicate n (.int .u8 0):=by simp [dK]
 rw [e];exact h
theorem ZB (xs : List UInt8) (i : Nat) (x : UInt8) : (dK xs).set i (.int .u8 (x.toNat : Int)) = dK (xs.set i x):=by simp [dK,List.map_set]
theorem mJ {w : World} {B : Nat} {A : Option Addr} {n : Nat} {xs : List UInt8} (h : Rd w B A n (dK xs)) {k : Nat} (hk : k < n) :
  ∃ g o,A = some ⟨g,o,none⟩∧g < B∧w.cell? ⟨g,o + k,none⟩ = some (.int .u8 ((xs.getD k 0).toNat : Int)):=by
 obtain ⟨g,o,u,hA,hg,hu,hc⟩:=h.at_ hk;have hl : k < xs.length:=by have:=h.len;rw [bC] at this;omega
 rw [rN xs k hl] at hu;refine ⟨g,o,hA,hg,?_⟩;rw [hc,← hu]
 simp [List.getD,hl]
theorem eJ.row {w : World} {base n cap : Nat} {A : Option Addr} {xs : List UInt8} (h : eJ w base A n cap xs) : ∀ k,(Value.slice A n cap).ownBlock = some k→base≤k∧k < w.heap.size:=World.ownsRow.lt h.2
theorem eJ.drewN {w : World} {base n cap : Nat} {A : Option Addr} {xs : List UInt8} (h : eJ w base A n cap xs) (k : Nat) : eJ (w.drewN k) base A n cap xs:=h
theorem eJ.at_ {w : World} {base n cap : Nat} {A : Option Addr} {xs : List UInt8} (h : eJ w base A n cap xs) {i : Nat} (hi : i < n) :
  ∃ g,A = some ⟨g,0,none⟩∧base≤g∧g < w.heap.size∧w.cell? ⟨g,i,none⟩ = some (.int .u8 ((xs.getD i 0).toNat : Int))∧w.frozen? ⟨g,i,none⟩ = false:=by
 rcases h.2.2 with ⟨_,h0⟩ | ⟨g,c,cur,hv,hg,hh,hrest⟩
 ·omega
 ·simp only [Value.slice.injEq] at hv
  obtain ⟨rfl,_,rfl⟩:=hv;have hlt : g < w.heap.size:=by
   rcases Nat.lt_or_ge g w.heap.size with hlt | hge
   ·exact hlt
   ·rw [Array.getElem?_eq_none hge] at hh;cases hh
  have hl : i < xs.length:=by have:=h.1;omega
  refine ⟨g,rfl,hg,hlt,?_,h.2.frozenAt i⟩;rw [h.2.cellAt i (by omega),rN xs i hl]
  simp [List.getD,hl]
theorem eJ.store {w : World} {base n cap g : Nat} {xs : List UInt8} (h : eJ w base (some ⟨g,0,none⟩) n cap xs) (i : Nat) (x : UInt8) : eJ (w.setCell ⟨g,i,none⟩ (.int .u8 (x.toNat : Int))) base (some ⟨g,0,none⟩) n cap (xs.set i x):=by
 have h1:=(h.2.stored i (.int .u8 (x.toNat : Int))).1;rw [ZB] at h1;exact ⟨by rw [List.length_set];exact h.1,h1⟩
theorem NC : (Try.prog.info? 5).map (fun i => (i.zero,i.size,i.bytes)) = some (some (.int .u8 0),1,1):=by kernel_rfl
theorem zW (n : Nat) (hn : n≤281474976710656) (w : World) :
  (Instr.makeSlice 22 (.int .i64 (n : Int)) (.int .i64 (n : Int))).run Try.prog w = .ok (.slice (some ⟨w.heap.size,0,none⟩) n n) (w.alloc (.cells (madeCells #[.int .u8 0] n) 5)):=by
 obtain ⟨i,hi,hz,hs,hb⟩:=info_parts NC;have h:=run_make (P:=Try.prog) w 22 5 i _ Try.underlying22 hi hz .i64 .i64 (n : Int) (n : Int) (by omega) (by omega) (by rw [hb];omega) (by omega);rw [hs,Nat.mul_one,Int.toNat_natCast] at h;exact h
end Go.Proofs.Yteofcbkjhdadpaa
namespace Go.Proofs.Yteofcbkjhdadpaa
open Go.RowKit
theorem aJP {w : World} {g : Nat} {t : TypeId} {T : Array Value} (hT : xR T) (h : w.heap[g]? = some (.cells T t (0,0))) (i : Nat) (hi : i < 510) : w.cell? ⟨g,i,none⟩ = some (.int .u8 ((Gf.ex i).toNat : Int)):=by
 rw [cell_of_row _ _ _ _ _ _ h];exact hT.exp i hi
theorem aJO {w : World} {g : Nat} {t : TypeId} {T : Array Value} (hT : xR T) (h : w.heap[g]? = some (.cells T t (0,0))) {a : UInt8} (ha : a≠0) : w.cell? ⟨g,510 + a.toNat,none⟩ = some (.int .i64 (Gf.lg a : Int)):=by
 rw [cell_of_row _ _ _ _ _ _ h];exact hT.log ha
def kY (w : World) (g : Nat) : Prop:=∃ T,xR T∧w.heap[g]? = some (.cells T 109 (0,0))
theorem kY.mk {w : World} {g : Nat} {T : Array Value} (hT : xR T) (h : w.heap[g]? = some (.cells T 109 (0,0))) : kY w g:=⟨T,hT,h⟩
theorem kY.lt {w : World} {g : Nat} (h : kY w g) : g < w.heap.size:=by
 obtain ⟨T,_,h⟩:=h
 rcases Nat.lt_or_ge g w.heap.size with hlt | hge
 ·exact hlt
 ·rw [Array.getElem?_eq_none hge] at h;cases h
theorem kY.of_block {w w' : World} {g : Nat} (h : kY w g) (hb : w'.heap[g]? = w.heap[g]?) : kY w' g:=by
 obtain ⟨T,hT,h⟩:=h;exact ⟨T,hT,hb.trans h⟩
theorem kY.drewN {w : World} {g : Nat} (h : kY w g) (n : Nat) : kY (w.drewN n) g:=h
theorem kY.exp {w : World} {g : Nat} (h : kY w g) (i : Nat) (hi : i < 510) : w.cell? ⟨g,i,none⟩ = some (.int .u8 ((Gf.ex i).toNat : Int)):=by
 obtain ⟨T,hT,h⟩:=h;exact aJP hT h i hi
theorem kY.log {w : World} {g : Nat} (h : kY w g) {a : UInt8} (ha : a≠0) : w.cell? ⟨g,510 + a.toNat,none⟩ = some (.int .i64 (Gf.lg a : Int)):=by
 obtain ⟨T,hT,h⟩:=h;exact aJO hT h ha
theorem PD (g : Nat) (a b : UInt8) (w : World) (h : kY w g) :
  Calls Try.prog 100 #[.pointer (some ⟨g,0,none⟩),.int .u8 (a.toNat : Int),.int .u8 (b.toNat : Int)] w fun e w' => e = .returned (.int .u8 ((Gf.mul a b).toNat : Int)) ∧ ∃ n,w' = w.drewN n:=by
 have ha:=sE a;have hb:=sE b
 by_cases h1 : a = 0
 ·have hz:=Lib.hid (show Gf.mul a b = 0 by rw [h1,Gf.eO])
  rw [decide_eq_true h1] at ha;clear h1 hb;go_enter Try.func100,Try.ntmps100;go_wp2_with fail
  go_ret;exact ⟨by rw [hz.out];rfl,0,rfl⟩
 by_cases h2 : b = 0
 ·have hz:=Lib.hid (show Gf.mul a b = 0 by rw [h2,Gf.mul_zero])
  rw [decide_eq_true h2] at hb;rw [decide_eq_false h1] at ha;clear h1 h2;go_enter Try.func100,Try.ntmps100;go_wp2_with fail
  go_ret;exact ⟨by rw [hz.out];rfl,0,rfl⟩
 have hz:=Lib.hid (Gf.mul_eq h1 h2);have c1:=h.log h1;have c2:=h.log h2;have l1:=Gf.UB h1;have l2:=Gf.UB h2;have c3:=h.exp (Gf.lg a + Gf.lg b) (by omega);rw [decide_eq_false h2] at hb;rw [decide_eq_false h1] at ha;have ba:=a.toNat_lt;have bb:=b.toNat_lt;generalize Gf.lg a = x at *;generalize Gf.lg b = y at *;clear h1 h2 h;go_enter Try.func100,Try.ntmps100;go_wp2_with fail
 have e1 : IntKind.i64.wrap ((x : Int) + (y : Int)) = (x : Int) + (y : Int):=IntWalk.i64_in _ (by omega);have e2 : ((x : Int) + (y : Int)).toNat = x + y:=by omega
 have e3 : 0≤(x : Int) + (y : Int):=by omega
 go_quiet (fail)
 go_wp2_with fail
 go_ret;exact ⟨by rw [hz.out];rfl,_,rfl⟩
end Go.Proofs.Yteofcbkjhdadpaa
namespace Go.Proofs.Yteofcbkjhdadpaa
open Go.RowKit
theorem aCE (n : Int) : (wrap64 (n.tmod 255 + 255)).tmod 255 = n % 255:=by
 have h:=Int.tmod_eq_emod (a:=n) (b:=255);have h1 : -255 < n.tmod 255∧n.tmod 255 < 255:=by
  rw [h];have:=Int.emod_lt_of_pos n (show (0 : Int) < 255 by omega);have:=Int.emod_nonneg n (show (255 : Int)≠0 by omega)
  split <;> omega
 have h2 : wrap64 (n.tmod 255 + 255) = n.tmod 255 + 255:=by unfold wrap64;omega
 rw [h2,Int.tmod_eq_emod_of_nonneg (by omega),h]
 split <;> omega
theorem TI (n : Int) (w : World) :
  Calls Try.prog 91 #[.int .i64 n] w fun e w' => e = .returned (.int .i64 (n % 255))∧w = w':=by
 go_enter Try.func91,Try.ntmps91;go_wp2_with fail
 go_ret;exact ⟨congrArg (fun x => Ending.returned (.int .i64 x)) (aCE n),rfl⟩
def Gf.SW (a : UInt8) (n : Int) : Int:=if a = 0∧n < 0 then 5 else 0
theorem aNL {a : UInt8} {n : Int} (hn : n≠0) (ha : a≠0) : Gf.ex (Gf.lg a * (n % 255).toNat % 255) = Gf.pw a n:=by
 unfold Gf.pw;rw [if_neg hn,if_neg ha]
theorem aFD (a : UInt8) (n : Int) (w : World) (h0 : -9223372036854775808≤n) (h1 : n≤9223372036854775807) :
  Calls Try.prog 75 #[.int .u8 (a.toNat : Int),.int .i64 n] w fun e w' =>
   e = .returned (.tuple #[.int .u8 ((Gf.pw a n).toNat : Int),.int .i64 (Gf.SW a n)])∧Below w.heap.size w w':=by
 have ha:=sE a
 by_cases hn : n = 0
 ·subst hn
  go_enter Try.func75,Try.ntmps75;go_wp2_with fail
  go_ret2
  exact ⟨by simp [Gf.pw,Gf.SW],Below.refl _ _⟩
 have hn1 : (n == 0) = false:=by simpa using hn
 by_cases hz : a = 0
 ·rw [decide_eq_true hz] at ha
  by_cases hlt : n < 0
  ·have hd : decide (n < 0) = true:=by simpa using hlt
   have hp:=Lib.hid (show Gf.pw a n = 0 by unfold Gf.pw;rw [if_neg hn,if_pos hz]);have hc:=Lib.hid (show Gf.SW a n = 5 by unfold Gf.SW;rw [if_pos ⟨hz,hlt⟩]);clear hz hn;go_enter Try.func75,Try.ntmps75;go_wp2_with fail
   go_ret2
   exact ⟨by rw [hp.out,hc.out];rfl,Below.refl _ _⟩
  ·have hd : decide (n < 0) = false:=by simpa using hlt
   have hp:=Lib.hid (show Gf.pw a n = 0 by unfold Gf.pw;rw [if_neg hn,if_pos hz]);have hc:=Lib.hid (show Gf.SW a n = 0 by unfold Gf.SW;rw [if_neg (fun h => hlt h.2)]);clear hz hn;go_enter Try.func75,Try.ntmps75;go_wp2_with fail
   go_ret2
   exact ⟨by rw [hp.out,hc.out];rfl,Below.refl _ _⟩
 rw [decide_eq_false hz] at ha;have hp:=Lib.hid (aNL hn hz);have hc:=Lib.hid (show Gf.SW a n = 0 by unfold Gf.SW;rw [if_neg (fun h => hz h.1)]);have hl:=Gf.UB hz;have HZ:=Lib.hid hz;have m0 : 0≤n % 255:=Int.emod_nonneg _ (by omega);have m1 : n % 255 < 255:=Int.emod_lt_of_pos _ (by omega);obtain ⟨m,hm⟩ : ∃ m : Nat,n % 255 = (m : Int):=⟨(n % 255).toNat,by omega⟩
 have hb : ∀ w,Calls Try.prog 91 #[.int .i64 n] w fun e w' => e = .returned (.int .i64 (m : Int))∧w = w':=by
  intro w;rw [← hm];exact TI n w
 have HB:=Lib.hid hb;have hk : m < 255:=by omega
 rw [hm,Int.toNat_natCast] at hp;have HM:=Lib.hid hm;clear hz hb m0 m1 hm;obtain ⟨x,hx⟩ : ∃ x,x = Gf.lg a:=⟨_,rfl⟩
 rw [← hx] at hl hp;have HX:=Lib.hid hx;clear hx;obtain ⟨p,r,hp1,hr,e1,e2,hpr⟩ : ∃ p r : Nat,p≤64516∧r < 255∧IntKind.i64.wrap ((x : Int) * (m : Int)) = (p : Int)∧((p : Int)).tmod 255 = (r : Int)∧Hid (x * m % 255 = r):=by
  have hmul : x * m≤254 * 254:=Nat.mul_le_mul (by omega) (by omega);refine ⟨x * m,x * m % 255,hmul,Nat.mod_lt _ (by omega),?_,?_,rfl⟩
  ·rw [← Int.natCast_mul];exact IntWalk.i64_in _ (by omega)
  ·rw [Int.tmod_eq_emod_of_nonneg (by omega)];omega
 rw [hpr.out] at hp;have E1:=Lib.hid e1;have E2:=Lib.hid e2;clear e1 e2;have ba:=a.toNat_lt;obtain ⟨Z,hzv,HZ0,HSZ⟩:=zO;clear hn h0 h1;go_enter Try.func75,Try.ntmps75;go_wp2_with (first | (go_at_call 90;refine (CH _).mono ?_;rintro e w1 ⟨T,hT,rfl,hb1⟩) | (refine sC (.tmp 6) (.tmp 20) rfl rfl T Z hT HZ0 HSZ rfl rfl ?_;intro w2 hs2 hg2 hb2))
 have ht:=kY.mk hT hg2;have c1:=ht.log HZ.out;rw [← HX.out] at c1;have c2:=ht.exp r (by omega);have e1:=E1.out;have e2:=E2.out;have HS2:=Lib.hid hs2;clear ht hzv hg2 hs2
 go_frame
 go_quiet ((go_at_call 91;exact Calls.quiet_of_same ((HB.out _).mono fun _ _ ⟨h1,h2⟩ => ⟨h1,h2.symm⟩)))
 go_wp2_with fail
 go_ret2
 exact ⟨by rw [← hp.out,hc.out];rfl,below_drewN (hb1.trans (hb2.mono hb1.size)) _⟩
end Go.Proofs.Yteofcbkjhdadpaa
namespace Go.Proofs.Yteofcbkjhdadpaa
open Go.RowKit
def Gf.EX (a : UInt8) : Int:=if a = 0 then 5 else 0
theorem aNM (a : UInt8) : Gf.pw a (-1) = Gf.inv a:=by
 unfold Gf.pw Gf.inv;rw [if_neg (by decide)]
 by_cases h : a = 0
 ·rw [if_pos h,if_pos h]
 ·rw [if_neg h,if_neg h]
  have hm : ((-1 : Int) % 255).toNat = 254:=by decide
  rw [hm];have h1:=Gf.UB h;rw [← Gf.QT (255 - Gf.lg a)]
  congr 1
  omega
theorem aHB (a : UInt8) : Gf.SW a (-1) = Gf.EX a:=by
 unfold Gf.SW Gf.EX
 by_cases h : a = 0 <;> simp [h]
theorem UF (a : UInt8) (w : World) :
  Calls Try.prog 43 #[.int .u8 (a.toNat : Int)] w fun e w' => e = .returned (.tuple #[.int .u8 ((Gf.inv a).toNat : Int),.int .i64 (Gf.EX a)])∧Below w.heap.size w w':=by
 have hp:=aFD a (-1) w (by omega) (by omega);rw [aNM,aHB] at hp;have HP:=Lib.hid hp;clear hp;go_enter Try.func43,Try.ntmps43;go_wp2_with (go_at_call 75;refine HP.out.mono ?_;rintro e w1 ⟨rfl,hb1⟩)
 go_ret2
 exact ⟨rfl,hb1⟩
end Go.Proofs.Yteofcbkjhdadpaa
namespace Go.Proofs.Yteofcbkjhdadpaa
def JG (xs ys : List UInt8) (i j : Nat) : UInt8:=Gf.inv (Gf.add (xs.getD i 0) (ys.getD j 0))
def aCz (xs ys : List UInt8) : List UInt8:=lZ xs.length ys.length (JG xs ys)
def kT (xs ys : List UInt8) : Int:=if 64 < xs.length ∨ 64 < ys.length then 4 else if QV (xs ++ ys) = true then 2 else 0
theorem aBh {xs ys : List UInt8} {i : Nat} (h : i < xs.length) : (xs ++ ys).getD i 0 = xs.getD i 0:=by
 rw [List.getD_eq_getElem?_getD,List.getElem?_append_left h,List.getD_eq_getElem?_getD]
theorem VA {xs ys : List UInt8} {i : Nat} : (xs ++ ys).getD (xs.length + i) 0 = ys.getD i 0:=by
 rw [List.getD_eq_getElem?_getD,List.getElem?_append_right (by omega),List.getD_eq_getElem?_getD,Nat.add_sub_cancel_left]
theorem aOt {xs ys : List UInt8} (h : QV (xs ++ ys) = false) {i j : Nat} (hi : i < xs.length) (hj : j < ys.length) : Gf.add (xs.getD i 0) (ys.getD j 0)≠0:=by
 intro e;have h1:=aOo h (i:=i) (j:=xs.length + j) (by rw [List.length_append];omega) (by rw [List.length_append];omega) (by omega);rw [aBh hi,VA] at h1;exact h1 ((Gf.add_eq_zero _ _).1 e)
theorem aLx {xs ys : List UInt8} (h : QV (xs ++ ys) = false) {i j : Nat} (hi : i < xs.length) (hj : j < ys.length) : Gf.EX (Gf.add (xs.getD i 0) (ys.getD j 0)) = 0:=by
 unfold Gf.EX;rw [if_neg (aOt h hi hj)]
end Go.Proofs.Yteofcbkjhdadpaa
namespace Go.Proofs.Yteofcbkjhdadpaa
open Go.RowKit
theorem aEZ (rs : List UInt8) (k : Nat) (h : k < rs.length) : rs.take (k + 1) = rs.take k ++ [rs.getD k 0]:=by
 rw [List.take_succ_eq_append_getElem h]
 simp [List.getD,h]
def mkL (rs : List UInt8) (i : Nat) : List Value:=(List.range 256).map fun x => Value.bool (decide (UInt8.ofNat x∈rs.take i))
theorem NI (rs : List UInt8) (i : Nat) : (mkL rs i).length = 256:=by simp [mkL]
theorem NJ (rs : List UInt8) (i x : Nat) (hx : x < 256) : (mkL rs i)[x]? = some (.bool (decide (UInt8.ofNat x∈rs.take i))):=by
 unfold mkL;rw [List.getElem?_map,List.getElem?_range hx];rfl
theorem aHR (rs : List UInt8) : mkL rs 0 = List.replicate 256 (.bool false):=by
 apply List.ext_getElem?;intro x
 rcases Nat.lt_or_ge x 256 with h | h
 ·rw [NJ _ _ _ h,List.getElem?_replicate,if_pos h]
  simp
 ·rw [List.getElem?_eq_none (by rw [NI];exact h),List.getElem?_eq_none (by rw [List.length_replicate];exact h)]
theorem aKq (rs : List UInt8) (i : Nat) (h : i < rs.length) : (mkL rs i).set (rs.getD i 0).toNat (.bool true) = mkL rs (i + 1):=by
 apply List.ext_getElem?;intro x;have hr:=(rs.getD i 0).toNat_lt
 rcases Nat.lt_or_ge x 256 with hx | hx
 ·rw [NJ _ _ _ hx,List.getElem?_set,NI,aEZ rs i h]
  by_cases e : (rs.getD i 0).toNat = x
  ·have e2 : UInt8.ofNat x = rs.getD i 0:=by rw [← e];simp
   rw [if_pos e,if_pos (by omega),e2]
   simp
  ·have e2 : ¬ UInt8.ofNat x = rs.getD i 0:=fun h2 => e (by rw [← h2,UInt8.toNat_ofNat'];omega)
   rw [if_neg e,NJ _ _ _ hx];simp only [List.mem_append,List.mem_singleton,e2,or_false]
 ·rw [List.getElem?_eq_none (by rw [List.length_set,NI];exact hx),List.getElem?_eq_none (by rw [NI];exact hx)]
theorem aKr (rs : List UInt8) (i : Nat) (h : i < rs.length) : (mkL rs i).toArray.setIfInBounds (rs.getD i 0).toNat (.bool true) = (mkL rs (i + 1)).toArray:=by
 rw [← aKq rs i h]
 simp
theorem aBF : (Try.prog.info? 64).map (fun i => (i.zero,i.size)) = some (some (.agg (List.replicate 256 (.bool false)).toArray),256):=by kernel_rfl
end Go.Proofs.Yteofcbkjhdadpaa
namespace Go.Proofs.Yteofcbkjhdadpaa
open Go.RowKit
theorem aGz (a b : UInt8) (w : World) :
  Calls Try.prog 44 #[.int .u8 (a.toNat : Int),.int .u8 (b.toNat : Int)] w fun e w' => e = .returned (.int .u8 ((Gf.add a b).toNat : Int))∧w = w':=by
 go_enter Try.func44,Try.ntmps44;go_wp2_with fail
 go_ret;exact ⟨PT (xP a b),rfl⟩
end Go.Proofs.Yteofcbkjhdadpaa
namespace Go.Proofs.Yteofcbkjhdadpaa
open Go.RowKit
def kI (w : World) (base : Nat) (v : Value) (xs : List UInt8) : Prop:=w.ownsRow base 5 1 v xs.length (dK xs)
theorem kI.nil (w : World) (base : Nat) : kI w base (.slice none 0 0) []:=⟨rfl,.inl ⟨rfl,rfl⟩⟩
theorem kI.slice {w : World} {base : Nat} {v : Value} {xs : List UInt8} (h : kI w base v xs) : ∃ A cap,v = .slice A xs.length cap∧eJ w base A xs.length cap xs:=by
 rcases h.2 with ⟨rfl,h0⟩ | ⟨g,cap,cur,rfl,hrest⟩
 ·rw [h0];exact ⟨none,0,rfl,h0,by have:=h;unfold kI at this;rw [h0] at this;exact this⟩
 ·exact ⟨_,_,rfl,rfl,h⟩
theorem kI.drewN {w : World} {base : Nat} {v : Value} {xs : List UInt8} (h : kI w base v xs) (k : Nat) : kI (w.drewN k) base v xs:=h
theorem kI.below {w w' : World} {base : Nat} {v : Value} {xs : List UInt8} (h : kI w base v xs) (hb : Below w.heap.size w w') : kI w' base v xs:=by
 have hg : w.grownBy w' (some w.heap.size):=⟨hb.os,hb.tape,hb.output,hb.size,fun k hk _ => hb.block k hk⟩
 refine World.ownsRow.kept h hg ?_
 rcases hv : v.ownBlock with _ | q
 ·exact .inl rfl
 ·refine .inr (fun e => ?_)
  have:=(World.ownsRow.lt h q hv).2;injection e with e;omega
theorem kI.kept {w w' : World} {base : Nat} {v : Value} {xs : List UInt8} {row : Option Nat} (h : kI w base v xs) (hg : w.grownBy w' row) (hne : v.ownBlock = none ∨ v.ownBlock≠row) : kI w' base v xs:=World.ownsRow.kept h hg hne
theorem pH {ops : Array Oper} {rest : List Oper} {o : Oper} {a : Act} {w0 : World} {Q : Exit→Act→World→Prop} (s x : Operand) (hgd : o.guard = none)
  (ho : o.op = .call { callee:=.builtin .append,args:=#[s,x],argTypes:=#[22,22] })
  (base : Nat) (v : Value) (xs : List UInt8) (y : UInt8) (hs : a.eval s = v) (hown : kI w0 base v xs) (hx : a.eval x = .slice (some ⟨w0.heap.size,0,none⟩) 1 1)
  (hlen : xs.length + 1≤140737488355328) (hbase : base≤w0.heap.size)
  (h : ∀ v' w',kI w' base v' (xs ++ [y])→Below base w0 w'→w0.grownBy w' v.ownBlock→wpList Try.prog ops Q rest (a.put o.dst v') w') :
  wpList Try.prog ops Q (o :: rest) a (w0.alloc (.cells #[.int .u8 (y.toNat : Int)] 5)):=by
 obtain ⟨i,hi,hz,hsz,hby⟩:=info_parts NC;refine wpList_append_own _ hgd s x 22 ho base 5 i (.int .u8 0) 1 1 Try.underlying22 hi hz hsz hby rfl (by decide) v xs.length (dK xs) hs (World.ownsRow.alloc hown _) ⟨w0.heap.size,0,none⟩ 1 1 (dK [y]) hx rfl ?_ ?_ ?_ ?_ ?_ ?_
 ·intro j u hu
  have hj : j = 0:=by
   rcases Nat.lt_or_ge j (dK [y]).length with hlt | hge
   ·simp [dK] at hlt;omega
   ·rw [List.getElem?_eq_none hge] at hu;cases hu
  subst hj;simp only [dK,List.map_cons,List.map_nil,List.getElem?_cons_zero,Option.some.injEq] at hu;subst hu
  simp [Addr.add]
 ·exact fun u hu => OT hu
 ·simp only [maxLen];omega
 ·omega
 ·simp;omega
 ·intro v' w' hown' hg _
  refine h v' w' ?_ ?_ ?_
  ·unfold kI
   rw [RH,List.length_append];exact hown'
  ·exact ((Below.refl base w0).alloc hbase _).grown hg (by simp;omega) (fun k hk => (hown.lt k hk).1)
  ·exact ⟨hg.os,hg.tape,hg.output,Nat.le_trans (by simp) hg.size,fun k hk hne => (hg.block k (by simp;omega) hne).trans (Below.heap_alloc _ _ _ hk)⟩
theorem EO (w : World) (base : Nat) (ty : TypeId) (v : Value) (xs : List UInt8) (hown : kI w base v xs) (c : Nat) :
  (Builtin.append_ #[22,22] ty #[v,.slice none 0 c]).run Try.prog w = .ok v w:=by
 obtain ⟨i,hi,hz,hsz,hby⟩:=info_parts NC;have ht:=Try.underlying22
 rcases hown.2 with ⟨rfl,h0⟩ | ⟨g,cap,cur,rfl,_,_,hnc,_⟩
 ·simp [Builtin.append_,run_underlying ht,sizeOf,typeInfo,hi,Builtin.lenOf,Builtin.firstCells]
 ·simp [Builtin.append_,run_underlying ht,sizeOf,typeInfo,hi,Builtin.lenOf,Builtin.firstCells,hnc,storeCells]
theorem SR (w : World) (base : Nat) (ty : TypeId) (v : Value) (xs ys : List UInt8) (hown : kI w base v xs) (B : Nat) (A : Option Addr) (m c : Nat) (hr : Rd w B A m (dK ys))
  (hlen : xs.length + m≤140737488355328) (hbase : base≤w.heap.size) :
  ∃ v' w',(Builtin.append_ #[22,22] ty #[v,.slice A m c]).run Try.prog w = .ok v' w'∧kI w' base v' (xs ++ ys)∧w.grownBy w' v.ownBlock∧(v'.ownBlock = v.ownBlock ∨ v'.ownBlock = some w.heap.size):=by
 have hm:=hr.len;rw [bC] at hm
 rcases A with _ | ad
 ·have h0 : m = 0:=by
   rcases Nat.eq_zero_or_pos m with h | h
   ·exact h
   ·obtain ⟨g,o,hA,_⟩:=hr.2 h;cases hA
  subst h0;have hy : ys = []:=List.eq_nil_of_length_eq_zero hm;subst hy;exact ⟨v,w,EO w base ty v xs hown c,by rw [List.append_nil];exact hown,World.grownBy.refl w _,.inl rfl⟩
 ·obtain ⟨i,hi,hz,hsz,hby⟩:=info_parts NC
  obtain ⟨v',w',hrun,h2,h3,_,h5⟩:=run_append_own_at (P:=Try.prog) w base 22 ty 5 i (.int .u8 0) 1 1 Try.underlying22 hi hz hsz hby rfl (by decide) v xs.length (dK xs) hown ad m c (dK ys) (by rw [bC];omega)
   (fun j u hu => by
    have hj : j < m:=by
     rcases Nat.lt_or_ge j m with h | h
     ·exact h
     ·rw [List.getElem?_eq_none (by rw [bC];omega)] at hu;cases hu
    obtain ⟨g,o,hA,_,hc⟩:=hr.2 (by omega);injection hA with hA;subst hA;have:=hc j u hu;unfold Addr.add
    split
    ·next h0 => subst h0;simpa using this
    ·exact this)
   (fun u hu => OT hu) (by simp only [maxLen];omega) (by omega) hbase
  refine ⟨v',w',hrun,?_,h3,h5⟩;unfold kI;rw [RH,List.length_append,hm];exact h2
theorem sD {ops : Array Oper} {rest : List Oper} {o : Oper} {a : Act} {W : World} {Q : Exit→Act→World→Prop} (s x : Operand) (hgd : o.guard = none)
  (ho : o.op = .call { callee:=.builtin .append,args:=#[s,x],argTypes:=#[22,22] })
  (base : Nat) (v : Value) (xs ys : List UInt8) (hs : a.eval s = v) (hown : kI W base v xs) (B : Nat) (A : Option Addr) (m c : Nat) (hx : a.eval x = .slice A m c) (hr : Rd W B A m (dK ys))
  (hlen : xs.length + m≤140737488355328) (hbase : base≤W.heap.size)
  (h : ∀ v' w',kI w' base v' (xs ++ ys)→W.grownBy w' v.ownBlock→(v'.ownBlock = v.ownBlock ∨ v'.ownBlock = some W.heap.size)→wpList Try.prog ops Q rest (a.put o.dst v') w') : wpList Try.prog ops Q (o :: rest) a W:=by
 obtain ⟨v',w',hrun,h1,h2,h3⟩:=SR W base o.type v xs ys hown B A m c hr hlen hbase;refine wpList_plain hgd fun _ hK => ?_
 unfold Oper.wp execOp;simp only [ho,resolve,invoke,builtin,Sem.run_bind,Sem.run_pure,Result.andThen_ok,List.map_toArray,List.map_cons,List.map_nil,hs,hx,hrun];exact hK _ _ (h v' w' h1 h2 h3)
theorem aFJ (w : World) (base : Nat) (hb : base≤w.heap.size) (t : TypeId) (ht : t = 5) : kI (w.alloc (.cells #[] t)) base (.slice (some ⟨w.heap.size,0,none⟩) 0 0) []:=by
 subst ht;exact ⟨rfl,.inr ⟨w.heap.size,0,#[],rfl,hb,heap_alloc_new w _,Nat.le_refl _,Nat.zero_le _,rfl,rfl⟩⟩
theorem tO {B : Nat} {w w' : World} {row : Option Nat} (hg : w.grownBy w' row) (hB : B≤w.heap.size) (hr : ∀ k,row = some k→B≤k) : Below B w w':=(Below.refl B w).grown hg hB hr
theorem kI.JJ {w : World} {base : Nat} {v : Value} {xs : List UInt8} (h : kI w base v xs) : ∀ k,v.ownBlock = some k→base≤k∧k < w.heap.size:=World.ownsRow.lt h
theorem kI.WB {w : World} {base n : Nat} {v : Value} {xs : List UInt8} (h : kI w base v xs) (hn : xs.length = n) : ∃ A cap,v = .slice A n cap∧eJ w base A n cap xs:=by
 subst hn;exact h.slice
theorem gN {a w : World} {row : Option Nat} (h : a.grownBy w row) {p : Addr} (hp : some p.block = row ∨ a.heap.size≤p.block) (u : Value) : a.grownBy (w.setCell p u) row :=
 ⟨h.os,h.tape,h.output,by simpa using h.size,fun k hk hne => (Below.heap_setCell w p u k (by
  rintro rfl
  rcases hp with hp | hp
  ·exact hne hp
  ·omega)).trans (h.block k hk hne)⟩
theorem aAA {a w : World} {row : Option Nat} (h : a.grownBy w row) (o : Obj) : a.grownBy (w.alloc o) row :=
 ⟨h.os,h.tape,h.output,Nat.le_trans h.size (by simp),fun k hk hne => (Below.heap_alloc w o k (Nat.lt_of_lt_of_le hk h.size)).trans (h.block k hk hne)⟩
theorem zZ {a w w' : World} {row : Option Nat} (h : a.grownBy w row) (hb : Below w.heap.size w w') : a.grownBy w' row :=
 ⟨hb.os.trans h.os,hb.tape.trans h.tape,hb.output.trans h.output,Nat.le_trans h.size hb.size,fun k hk hne => (hb.block k (Nat.lt_of_lt_of_le hk h.size)).trans (h.block k hk hne)⟩
theorem aNJ (w : World) (xs : List UInt8) (n : Nat) (hn : xs.length = n) (t : TypeId) : Rd (w.alloc (.cells (dK xs).toArray t)) (w.heap.size + 1) (some ⟨w.heap.size,0,none⟩) n (dK xs):=by
 refine ⟨by rw [bC,hn],fun _ => ⟨w.heap.size,0,rfl,by omega,fun j u hu => ?_⟩⟩;rw [Nat.zero_add,cell_of_row _ _ _ _ _ _ (heap_alloc_new w _),List.getElem?_toArray];exact hu
end Go.Proofs.Yteofcbkjhdadpaa
namespace Go.Proofs.Yteofcbkjhdadpaa
open Go.RowKit
abbrev mV (r c : Int) (A : Option Addr) (n cap : Nat) : Value:=.agg #[.int .i64 r,.int .i64 c,.slice A n cap]
def jB (n : Int) : Bool:=decide (0≤n∧n≤64)
def bM (r c : Int) (n : Nat) : Bool:=decide ((0≤r∧r≤64)∧(0≤c∧c≤64)∧(n : Int) = r * c)
theorem TQ {n : Nat} (h : n≤64) : jB (n : Int) = true:=by simp [jB];omega
theorem GR {r c : Int} (h1 : 0≤r) (h2 : r≤64) (h3 : 0≤c) (h4 : c≤64) : 0≤r * c∧r * c≤4096:=by
 refine ⟨Int.mul_nonneg h1 h3,?_⟩;have:=Int.mul_le_mul h2 h4 h3 (by omega);omega
end Go.Proofs.Yteofcbkjhdadpaa
namespace Go.Proofs.Yteofcbkjhdadpaa
open Go.RowKit Go.Proofs.aG.aX
def nI (xs : List UInt8) : List Int:=xs.map fun x => (x.toNat : Int)
def zS (a : Int) : UInt8:=UInt8.ofNat a.toNat
def CG (a : Int) : Bool:=decide (0≤a) && decide (a < 256)
def inU (l : List Int) : Bool:=l.all CG
theorem aZ (xs : List UInt8) : (nI xs).length = xs.length:=by simp [nI]
theorem zR (x : UInt8) : zS (x.toNat : Int) = x:=by simp [zS]
theorem JU {a : Int} (h : CG a = true) : ((zS a).toNat : Int) = a:=by
 simp [CG] at h
 unfold zS;rw [UInt8.toNat_ofNat'];omega
theorem sK (x : UInt8) : CG (x.toNat : Int) = true:=by
 have h:=x.toNat_lt;have h0 : decide ((0 : Int)≤(x.toNat : Int)) = true:=decide_eq_true (by omega);have h1 : decide ((x.toNat : Int) < 256) = true:=decide_eq_true (by omega);unfold CG;rw [h0,h1];rfl
theorem BO (xs : List UInt8) : inU (nI xs) = true:=by
 unfold inU;rw [List.all_eq_true];intro a ha;obtain ⟨x,_,rfl⟩:=List.mem_map.1 ha;exact sK x
theorem aMj : ∀ {l : List Int},inU l = true→nI (l.map zS) = l
 | [],_ => rfl
 | a :: l,h => by
  have h' : CG a = true∧inU l = true:=by
   unfold inU at h ⊢;rw [List.all_cons,Bool.and_eq_true] at h;exact h
  have h2:=aMj (l:=l) h'.2;have h3:=JU h'.1;show ((zS a).toNat : Int) :: nI (l.map zS) = a :: l;rw [h3,h2]
theorem nN : ∀ xs : List UInt8,(nI xs).map zS = xs
 | [] => rfl
 | x :: xs => by
  have h2:=nN xs;simp only [nI,List.map_cons] at h2 ⊢;rw [zR,h2]
theorem sW {l : List Int} (h : inU l = true) : ∃ xs : List UInt8,l = nI xs:=⟨_,(aMj h).symm⟩
theorem WQ (xs : List UInt8) (j : Nat) : (nI xs)[j]? = xs[j]?.map fun x => (x.toNat : Int):=by simp [nI]
theorem tV (g o j : Nat) : (⟨g,o,none⟩ : Addr).add j = ⟨g,o + j,none⟩:=by unfold Addr.add;split <;> simp_all
theorem aAn {α : Type} (l : List α) (j : Nat) (h : j < l.length) : (l.drop j).take 1 = [l[j]]:=by
 rw [List.drop_eq_getElem_cons h];rfl
theorem gQ {w : World} {g o : Nat} {u : Value} (h : w.cell? ⟨g,o,none⟩ = some u) : g < w.heap.size:=by
 rcases Nat.lt_or_ge g w.heap.size with hlt | hge
 ·exact hlt
 ·simp only [World.cell?,Array.getElem?_eq_none hge] at h
  cases h
theorem VZ {w : World} {g o : Nat} {s : Option Nat} {u : Value} (h : w.cell? ⟨g,o,s⟩ = some u) : s = none:=by
 cases s with
 | none => rfl
 | some s =>
  simp only [World.cell?] at h
  split at h
  ·simp at h
  ·cases h
theorem uP {w : World} {A : Option Addr} {xs : List UInt8} (h : Kd.C (Kd.int .u8) w A (nI xs).length (nI xs)) : Rd w w.heap.size A xs.length (dK xs):=by
 obtain ⟨h1,h2,h3⟩:=h;refine ⟨bC xs,fun hn => ?_⟩;rw [aZ] at h3;obtain ⟨ad,rfl,hc⟩:=h3 hn;have hcell : ∀ j (hj : j < xs.length),w.cell? (ad.add j) = some (.int .u8 ((xs[j]).toNat : Int)):=by
  intro j hj;obtain ⟨c,e1,e2,e3⟩:=hc j ((xs[j]).toNat : Int) (by rw [WQ,List.getElem?_eq_getElem hj];rfl);have e2' : c = [.int .u8 ((xs[j]).toNat : Int)]:=e2;have e4:=e3 0 (.int .u8 ((xs[j]).toNat : Int)) (by rw [e2'];rfl);have e5 : (Kd.int .u8).sz = 1:=rfl;rw [e5,Nat.mul_one,Nat.add_zero] at e4;exact e4
 have h0:=hcell 0 hn;obtain ⟨g,o,s⟩:=ad;have hs : s = none:=by
  have h1 : (⟨g,o,s⟩ : Addr).add 0 = ⟨g,o,s⟩:=by unfold Addr.add;simp
  rw [h1] at h0;exact VZ h0
 subst hs;rw [tV] at h0;refine ⟨g,o,rfl,gQ h0,fun j u hu => ?_⟩
 ·have hj : j < xs.length:=by
   rcases Nat.lt_or_ge j xs.length with hlt | hge
   ·exact hlt
   ·rw [List.getElem?_eq_none (by rw [bC];exact hge)] at hu;cases hu
  rw [rN xs j hj] at hu;rw [← hu,← tV];exact hcell j hj
theorem nK {w : World} {B : Nat} {A : Option Addr} {xs : List UInt8} (h : Rd w B A xs.length (dK xs)) (hm : xs.length≤9223372036854775807) : Kd.C (Kd.int .u8) w A (nI xs).length (nI xs):=by
 refine ⟨rfl,by rw [aZ];exact hm,fun hn => ?_⟩;rw [aZ] at hn;obtain ⟨g,o,rfl,hg,hc⟩:=h.2 hn;refine ⟨_,rfl,fun j p hp => ⟨[.int .u8 p],rfl,rfl,fun i u hu => ?_⟩⟩;have hj : j < xs.length:=by
  rcases Nat.lt_or_ge j xs.length with hlt | hge
  ·exact hlt
  ·rw [List.getElem?_eq_none (by rw [aZ];exact hge)] at hp;cases hp
 rw [WQ,List.getElem?_eq_getElem hj] at hp
 simp at hp
 subst hp
 cases i with
 | zero =>
  simp at hu
  subst hu;have e5 : (Kd.int .u8).sz = 1:=rfl;rw [e5,Nat.mul_one,Nat.add_zero,tV];exact hc j _ (rN xs j hj)
 | succ i => simp at hu
theorem PU (R : Int→List Value→Prop) (hR : ∀ x : UInt8,R (x.toNat : Int) [.int .u8 (x.toNat : Int)]) (xs : List UInt8) : eF R 1 (nI xs) (dK xs):=by
 refine ⟨by rw [bC,aZ,Nat.mul_one],fun j p hp => ?_⟩;have hj : j < xs.length:=by
  rcases Nat.lt_or_ge j xs.length with hlt | hge
  ·exact hlt
  ·rw [List.getElem?_eq_none (by rw [aZ];exact hge)] at hp;cases hp
 rw [WQ,List.getElem?_eq_getElem hj] at hp
 simp at hp
 subst hp;have e : ((dK xs).drop (j * 1)).take 1 = [.int .u8 ((xs[j]).toNat : Int)]:=by
  rw [Nat.mul_one,aAn _ _ (by rw [bC];exact hj)]
  simp [dK]
 rw [e];exact hR _
theorem tW {w : World} {base n cap : Nat} {A : Option Addr} {xs : List UInt8} (h : eJ w base A n cap xs) : Kd.R (Kd.int .u8) 5 w base (fun _ => True) (.slice A n cap) (nI xs):=by
 refine ⟨fun _ _ => trivial,dK xs,?_,PU _ (fun x => rfl) xs⟩;have e : (nI xs).length = n:=by rw [aZ];exact h.1
 rw [e];exact h.2
def aET (A1 A2 : Option Addr) : Prop:=∀ g,A1 = some ⟨g,0,none⟩→A2≠some ⟨g,0,none⟩
theorem aET.symm {A1 A2 : Option Addr} (h : aET A1 A2) : aET A2 A1:=fun g h1 h2 => h g h2 h1
theorem eJ.addr {w : World} {base n cap : Nat} {A : Option Addr} {xs : List UInt8} (h : eJ w base A n cap xs) : A = none ∨ ∃ g,A = some ⟨g,0,none⟩:=by
 rcases h.2.2 with ⟨h1,_⟩ | ⟨g,c,cur,hv,_⟩
 ·simp only [Value.slice.injEq] at h1
  exact .inl h1.1
 ·simp only [Value.slice.injEq] at hv
  exact .inr ⟨g,hv.1⟩
theorem aBj {w : World} {base n cap : Nat} {A : Option Addr} {xs : List UInt8} {ok : Nat→Prop} (h : eJ w base A n cap xs) (hk : ∀ k,(Value.slice A n cap).ownBlock = some k→ok k) : Kd.R (Kd.int .u8) 5 w base ok (.slice A n cap) (nI xs):=by
 refine ⟨hk,dK xs,?_,PU _ (fun x => rfl) xs⟩;have e : (nI xs).length = n:=by rw [aZ];exact h.1
 rw [e];exact h.2
theorem GU {w : World} {base : Nat} {v : Value} {l : List Int} (h : Kd.R (Kd.int .u8) 5 w base (fun _ => True) v l) (hl : inU l = true) : ∃ A cap,v = .slice A l.length cap∧l.length≤cap∧eJ w base A l.length cap (l.map zS):=by
 obtain ⟨A,c,rfl,hc,_⟩:=Kd.OU h;obtain ⟨_,inner,ho,hr⟩:=h;obtain ⟨xs,rfl⟩:=sW hl;have e : inner = dK xs:=by
  have hlen : inner.length = xs.length:=by have:=hr.1;rw [aZ] at this;have e5 : (Kd.int .u8).sz = 1:=rfl;rw [e5] at this;omega
  apply List.ext_getElem (by rw [hlen,bC]);intro j h1 h2;have hj : j < xs.length:=by omega
  have hp:=hr.2 j ((xs[j]).toNat : Int) (by rw [WQ,List.getElem?_eq_getElem hj];rfl);have e5 : (Kd.int .u8).sz = 1:=rfl;rw [e5,Nat.mul_one,aAn _ _ h1] at hp;have hp' : [inner[j]] = [.int .u8 ((xs[j]).toNat : Int)]:=hp
  simp at hp'
  rw [hp']
  simp [dK]
 subst e;refine ⟨A,c,rfl,hc,?_,?_⟩
 ·rw [nN,aZ]
 ·rw [nN];exact ho
end Go.Proofs.Yteofcbkjhdadpaa
namespace Go.Proofs.Yteofcbkjhdadpaa
open Go.RowKit Go.Proofs.aG.aX
def JR (xs ys : List UInt8) (w : World) (e : Ending) (w' : World) : Prop:=∃ (r c : Int) (A' : Option Addr) (k cap : Nat),e = .returned (.tuple #[.agg #[.int .i64 r,.int .i64 c,.slice A' k cap],.int .i64 (kT xs ys)])∧eJ w' w.heap.size A' k cap (if kT xs ys = 0 then aCz xs ys else []) ∧
 (r = if kT xs ys = 0 then (xs.length : Int) else 0)∧(c = if kT xs ys = 0 then (ys.length : Int) else 0)∧Below w.heap.size w w'
theorem YX {xs ys : List UInt8} {w w' : World} {E : Int} (h : kT xs ys = E) (hE : E≠0) (hb : Below w.heap.size w w') : JR xs ys w (.returned (.tuple #[mV 0 0 none 0 0,.int .i64 E])) w':=by
 unfold JR;rw [h,if_neg hE,if_neg hE,if_neg hE];exact ⟨0,0,none,0,0,rfl,⟨rfl,rfl,.inl ⟨rfl,rfl⟩⟩,rfl,rfl,hb⟩
theorem YW (A B : Option Addr) (n m c d : Nat) (xs ys : List UInt8) (w : World) (ha : Rd w w.heap.size A n (dK xs)) (hb : Rd w w.heap.size B m (dK ys)) (hn : n≤140737488355328) (hm : m≤140737488355328) :
  Calls Try.prog 11 #[.slice A n c,.slice B m d] w (JR xs ys w):=by
 have hxl : xs.length = n:=by have:=ha.len;rw [bC] at this;exact this
 have hyl : ys.length = m:=by have:=hb.len;rw [bC] at this;exact this
 obtain ⟨W1,hW1⟩ : ∃ W1,W1 = w.alloc (.cells #[.int .i64 0,.int .i64 0,.slice none 0 0] 24):=⟨_,rfl⟩
 have hb1 : Below w.heap.size w W1:=by rw [hW1];exact (Below.refl _ _).alloc (Nat.le_refl _) _
 have hrow : Row W1 w.heap.size 24 [.int .i64 0,.int .i64 0,.slice none 0 0]:=by rw [hW1];exact Row.new w _ _
 obtain ⟨G4,hG4⟩ : ∃ G,G = w.heap.size:=⟨_,rfl⟩
 have HG4:=Lib.hid hG4;rw [← hG4] at hrow;obtain ⟨d0,d1,d2,f0,f1,f2⟩:=hrow.three;have hg4:=hrow.lt;have hge : w.heap.size≤G4:=by omega
 have HS1:=Lib.hid (show G4 + 1 = W1.heap.size by rw [hW1,hG4];simp);have HROW:=Lib.hid hrow;have ZN:=Lib.hid hb1;have HW1:=Lib.hid hW1;have HA:=Lib.hid (ha.below hb1 (Nat.le_refl _));have HY:=Lib.hid (hb.below hb1 (Nat.le_refl _));have hlt1 : w.heap.size < W1.heap.size:=by omega
 have HA0:=Lib.hid ha;have HY0:=Lib.hid hb;clear hW1 hb1 hrow hG4 ha hb
 by_cases h1 : 64 < n
 ·have e1 : decide (64 < (n : Int)) = true:=decide_eq_true (by omega)
  have HE:=Lib.hid (show kT xs ys = 4 by unfold kT;rw [if_pos (.inl (by omega))]);clear hxl hyl h1;go_enter Try.func11,Try.ntmps11;go_wp2_with fail
  rw [← HG4.out,← HW1.out];refine bodyPost_ret (v:=.tuple #[mV 0 0 none 0 0,.int .i64 4]) (by simp [results,Try.results11,go_sem,d0,d1,d2,hg4]) rfl ?_;exact YX HE.out (by omega) ZN.out
 ·by_cases h2 : 64 < m
  ·have e1 : decide (64 < (n : Int)) = false:=decide_eq_false (by omega)
   have e2 : decide (64 < (m : Int)) = true:=decide_eq_true (by omega);have HE:=Lib.hid (show kT xs ys = 4 by unfold kT;rw [if_pos (.inr (by omega))]);clear hxl hyl h1 h2;go_enter Try.func11,Try.ntmps11;go_wp2_with fail
   rw [← HG4.out,← HW1.out];refine bodyPost_ret (v:=.tuple #[mV 0 0 none 0 0,.int .i64 4]) (by simp [results,Try.results11,go_sem,d0,d1,d2,hg4]) rfl ?_;exact YX HE.out (by omega) ZN.out
  ·have e1 : decide (64 < (n : Int)) = false:=decide_eq_false (by omega)
   have e2 : decide (64 < (m : Int)) = false:=decide_eq_false (by omega);have HE:=Lib.hid (show kT xs ys = if QV (xs ++ ys) = true then 2 else 0 by unfold kT;rw [if_neg (by omega)]);have hn64 : n≤64:=by omega
   have hm64 : m≤64:=by omega
   obtain ⟨al,hal⟩ : ∃ al,al = xs ++ ys:=⟨_,rfl⟩
   have hall : al.length = n + m:=by rw [hal,List.length_append,hxl,hyl]
   have HAL:=Lib.hid hal;have HALL:=Lib.hid hall;have HXL:=Lib.hid hxl;have HYL:=Lib.hid hyl;rw [← hal] at HE;obtain ⟨hzv,hsz⟩:=zero_of_info aBF;obtain ⟨Z,hZ⟩ : ∃ Z,Z = (List.replicate 256 (Value.bool false)).toArray:=⟨_,rfl⟩
   rw [← hZ] at hzv;have HZ:=Lib.hid (show Z = (mkL al 0).toArray by rw [hZ,aHR]);have HDUP:=Lib.hid (show ∀ k,k < al.length→al.getD k 0∈al.take k→kT xs ys = 2 by
    intro k hk hs;rw [HE.out,show QV al = true from FH hs _ hk];rfl)
   have hidx : ∀ q : Nat,q < 2 → ∃ (L : Option Addr) (k p cap : Nat) (l : List UInt8),(∀ w : World,(Instr.index 65 (.agg #[.slice A n c,.slice B m d]) (.int .i64 (q : Int))).run Try.prog w = .ok (.slice L k cap) w) ∧
     Rd W1 w.heap.size L k (dK l)∧k≤64∧p + k≤n + m∧(∀ j,j < k→al.getD (p + j) 0 = l.getD j 0)∧p = (if q = 0 then 0 else n)∧p + k = (if q = 0 then n else n + m):=by
    intro q hq;obtain rfl | rfl : q = 0 ∨ q = 1:=by omega
    ·exact ⟨A,n,0,c,xs,fun _ => rfl,HA.out,hn64,by omega,fun j hj => by rw [Nat.zero_add,hal,aBh (by omega)],rfl,by simp⟩
    ·exact ⟨B,m,n,d,ys,fun _ => rfl,HY.out,hm64,by omega,fun j hj => by rw [hal,← hxl,VA],rfl,by simp⟩
   have HIDX:=Lib.hid hidx;clear hZ hsz hxl hyl hal hall h1 h2 hidx;go_enter Try.func11,Try.ntmps11;go_wp2_with fail
   rw [← HG4.out,← HW1.out,HS1.out]
   go_loopw [30] (fun v30 wr => ∃ (q : Nat) (C : Array Value),q≤2∧v30 = .int .i64 (q : Int)∧wr = W1.alloc (Obj.cells C 64)∧Hid (C = (mkL al (if q = 0 then 0 else if q = 1 then n else n + m)).toArray)∧Hid (vZ al (if q = 0 then 0 else if q = 1 then n else n + m) = false)) (fun v30 _ => 2 - (intOf v30).toNat)
   case atStart => exact ⟨0,Z,by omega,rfl,rfl,Lib.hid (by rw [if_pos rfl];exact HZ.out),Lib.hid rfl⟩
   case round =>
    obtain ⟨q,C0,hq,rfl,rfl,HC0,HD0⟩:=hrel;clear HZ hzv
    by_cases hq2 : q < 2
    ·obtain ⟨L,k,p,cap,l,hix,hrd,hk64,hpk,hget,hp,hp2⟩:=HIDX.out q hq2
     have HP:=Lib.hid (show (if q = 0 then 0 else if q = 1 then n else n + m) = p by
      rw [hp];obtain rfl | rfl : q = 0 ∨ q = 1:=by omega
      ·simp
      ·simp)
     have HP2:=Lib.hid (show (if q + 1 = 0 then 0 else if q + 1 = 1 then n else n + m) = p + k by
      rw [hp2];obtain rfl | rfl : q = 0 ∨ q = 1:=by omega
      ·simp
      ·simp)
     rw [HP.out] at HC0 HD0;have HGET:=Lib.hid hget;have HRD:=Lib.hid hrd;clear hp hp2 hget hrd;go_wp2_with fail
     go_loopw [35] (fun v35 wr => ∃ (j : Nat) (C : Array Value),j≤k∧v35 = .int .i64 (j : Int)∧wr = W1.alloc (Obj.cells C 64)∧Hid (C = (mkL al (p + j)).toArray)∧Hid (vZ al (p + j) = false)) (fun v35 _ => k - (intOf v35).toNat)
     case atStart => exact ⟨0,C0,by omega,rfl,rfl,HC0,HD0⟩
     case round =>
      obtain ⟨j,C,hj,rfl,rfl,HC,HDT⟩:=hrel;clear HC0 HD0
      by_cases hlt : j < k
      ·obtain ⟨g,o,rfl,hg,hcell⟩:=mJ HRD.out hlt
       have hne : g≠W1.heap.size:=by omega
       have hg1 : g < W1.heap.size:=by omega
       have hpj : p + j < al.length:=by rw [HALL.out];omega
       have HS:=Lib.hid (aKr al (p + j) hpj);rw [HGET.out j hlt] at HS;have HX:=Lib.hid (show UInt8.ofNat (l.getD j 0).toNat = l.getD j 0 by simp);have hx:=(l.getD j 0).toNat_lt;have hv : C[(l.getD j 0).toNat]? = some (.bool (decide (l.getD j 0∈al.take (p + j)))):=by
        rw [HC.out,List.getElem?_toArray,NJ _ _ _ hx,HX.out]
       have HN:=Lib.hid (show vZ al (p + j + 1) = (vZ al (p + j) || decide (l.getD j 0∈al.take (p + j))) by rw [← HGET.out j hlt];rfl);have HSEEN:=Lib.hid (show l.getD j 0∈al.take (p + j)→kT xs ys = 2 from fun h => HDUP.out (p + j) hpj (by rw [HGET.out j hlt];exact h));clear hpj
       cases hmem : decide (l.getD j 0∈al.take (p + j))
       ·rw [hmem] at hv HN
        have HD1:=Lib.hid (show vZ al (p + j + 1) = false by rw [HN.out,HDT.out];rfl);clear hmem HX HN HSEEN;generalize l.getD j 0 = x at *;go_wp2_with fail
        go_roundw
        case rel => exact ⟨j + 1,_,by omega,by go_num,rfl,Lib.hid (by rw [HC.out];exact HS.out),HD1⟩
        case measure => simp [intOf];omega
       ·rw [hmem] at hv
        have HEE:=Lib.hid (HSEEN.out (of_decide_eq_true hmem));clear hmem HX HN HSEEN;generalize l.getD j 0 = x at *;go_wp2_with fail
        have hgz : G4 < W1.heap.size:=hg4;refine bodyPost_ret (v:=.tuple #[mV 0 0 none 0 0,.int .i64 2]) (by simp [results,Try.results11,go_sem,d0,d1,d2,hg4,Nat.ne_of_lt hg4]) rfl ?_;exact YX HEE.out (by omega) ((bZ ZN.out hge _ _ _).alloc (by simp;exact ZN.out.size) _)
      ·obtain rfl : j = k:=by omega
       go_wp2_with fail
       go_roundw
       case rel => exact ⟨q + 1,C,by omega,by go_num,rfl,Lib.hid (by rw [HP2.out];exact HC.out),Lib.hid (by rw [HP2.out];exact HDT.out)⟩
       case measure => simp [intOf];omega
    ·obtain rfl : q = 2:=by omega
     rw [show ((2 : Nat) : Int) = 2 from rfl];have HD:=Lib.hid (show QV (xs ++ ys) = false by
      rw [← HAL.out];unfold QV;rw [HALL.out];exact HD0.out)
     have HE0:=Lib.hid (show kT xs ys = 0 by rw [HE.out,HAL.out,HD.out];rfl);obtain ⟨W2,hW2⟩ : ∃ W2,W2 = W1.alloc (Obj.cells C0 64):=⟨_,rfl⟩
     have hb2 : Below W1.heap.size W1 W2:=by rw [hW2];exact (Below.refl _ _).alloc (Nat.le_refl _) _
     rw [← hW2];have hrow2:=HROW.out.below hb2 HROW.out.lt;have yL:=Lib.hid (ZN.out.trans (hb2.mono ZN.out.size));have HA2:=Lib.hid (HA.out.below (hb2.mono ZN.out.size) (Nat.le_refl _));have HY2:=Lib.hid (HY.out.below (hb2.mono ZN.out.size) (Nat.le_refl _));obtain ⟨W3,hW3⟩ : ∃ W3,W3 = W2.alloc (.cells #[.int .i64 (n : Int),.int .i64 (m : Int),.slice none 0 0] 24):=⟨_,rfl⟩
     have hb3 : Below W2.heap.size W2 W3:=by rw [hW3];exact (Below.refl _ _).alloc (Nat.le_refl _) _
     obtain ⟨G11,hG11⟩ : ∃ G,G = W2.heap.size:=⟨_,rfl⟩
     have wE:=Lib.hid (show Row W3 G11 24 [.int .i64 (n : Int),.int .i64 (m : Int),.slice none 0 0] by rw [hW3,hG11];exact Row.new W2 _ _);have TK:=Lib.hid (hrow2.below hb3 hrow2.lt);have AU:=Lib.hid (yL.out.trans (hb3.mono yL.out.size));have hl4:=hrow2.lt;have hne4 : G4 < G11:=by omega
     have HG11:=Lib.hid hG11;have HW3:=Lib.hid hW3;obtain ⟨D,hD⟩ : ∃ D,D = aCz xs ys:=⟨_,rfl⟩
     have HDD:=Lib.hid hD;have hDl : D.length = n * m:=by rw [hD];unfold aCz;rw [hY,HXL.out,HYL.out]
     have HDL:=Lib.hid hDl;have hnm : n * m≤4096:=Nat.le_trans (Nat.mul_le_mul hn64 hm64) (by omega);have HTK:=Lib.hid (show ∀ i j,i < n→j < m→D.take (i * m + j) ++ [Gf.inv (Gf.add (xs.getD i 0) (ys.getD j 0))] = D.take (i * m + j + 1) by
      intro i j hi hj;rw [hD];unfold aCz;rw [HXL.out,HYL.out];exact aGb (JG xs ys) hi hj)
     clear hW2 hb2 hrow2 hW3 hb3 hG11 hD hDl HC0 HD0 d0 d1 d2 f0 f1 f2 HIDX HDUP;go_wp2_with fail
     rw [← HG11.out,← HW3.out]
     go_loopw [54] (fun v54 wr => ∃ (i : Nat) (v : Value),i≤n∧v54 = .int .i64 (i : Int)∧kI wr (G11 + 1) v (D.take (i * m))∧Row wr G4 24 [.int .i64 0,.int .i64 0,.slice none 0 0]∧Row wr G11 24 [.int .i64 (n : Int),.int .i64 (m : Int),v]∧Below w.heap.size w wr) (fun v54 _ => n - (intOf v54).toNat)
     case atStart => exact ⟨0,.slice none 0 0,by omega,rfl,by rw [Nat.zero_mul,List.take_zero];exact kI.nil _ _,TK.out,wE.out,AU.out⟩
     case round =>
      obtain ⟨i,v,hi,rfl,ho,r4,r11,hB⟩:=hrel;clear TK wE AU
      by_cases hlt : i < n
      ·obtain ⟨gx,ox,rfl,hgx,hcx⟩:=mJ (HA0.out.below hB (Nat.le_refl _)) hlt
       have HIV:=Lib.hid (show ∀ j,j < m→Gf.EX (Gf.add (xs.getD i 0) (ys.getD j 0)) = 0 from fun j hj => aLx HD.out (by rw [HXL.out];exact hlt) (by rw [HYL.out];exact hj));have HTKI:=Lib.hid (fun j hj => HTK.out i j hlt hj);have hip : i * m + m≤n * m:=by have h:=Nat.mul_le_mul_right m (show i + 1≤n by omega);rw [Nat.add_mul] at h;omega
       obtain ⟨x,hx⟩ : ∃ x,x = xs.getD i 0:=⟨_,rfl⟩
       rw [← hx] at hcx HIV HTKI;have HO:=Lib.hid ho;have TK:=Lib.hid r4;have wE:=Lib.hid r11;have HB:=Lib.hid hB;clear hx ho r4 r11 hB;obtain ⟨wo,rfl⟩ : ∃ wo : World,wo = wr:=⟨_,rfl⟩
       go_wp2_with fail
       clear hcx
       go_loopw [60] (fun v60 wr => ∃ (j : Nat) (v : Value),j≤m∧v60 = .int .i64 (j : Int)∧kI wr (G11 + 1) v (D.take (i * m + j))∧Row wr G4 24 [.int .i64 0,.int .i64 0,.slice none 0 0]∧Row wr G11 24 [.int .i64 (n : Int),.int .i64 (m : Int),v]∧Below w.heap.size w wr) (fun v60 _ => m - (intOf v60).toNat)
       case atStart => exact ⟨0,v,by omega,rfl,HO.out,TK.out,wE.out,HB.out⟩
       case round =>
        obtain ⟨j,v,hj,rfl,ho,r4,r11,hB⟩:=hrel;clear HO TK wE HB
        by_cases hlj : j < m
        ·obtain ⟨gy,oy,rfl,hgy,hcy⟩:=mJ (HY0.out.below hB (Nat.le_refl _)) hlj
         have hinv:=HIV.out j hlj;have HT:=Lib.hid (HTKI.out j hlj);have hlD : (D.take (i * m + j)).length≤4096:=by rw [List.length_take,HDL.out];omega
         obtain ⟨y,hy⟩ : ∃ y,y = ys.getD j 0:=⟨_,rfl⟩
         rw [← hy] at hcy hinv HT;have hI:=UF (Gf.add x y) wr;rw [hinv] at hI;have HI:=Lib.hid hI;obtain ⟨l,hl⟩ : ∃ l,l = D.take (i * m + j):=⟨_,rfl⟩
         rw [← hl] at ho HT hlD;have HO:=Lib.hid ho;have TK:=Lib.hid r4;have wE:=Lib.hid r11;have HB:=Lib.hid hB;clear hy hinv hI hl ho r4 r11 hB;go_wp2_with fail
         refine (aGz x y _).mono ?_;rintro e w' ⟨rfl,rfl⟩;go_wp2_with fail
         refine HI.out.mono ?_;rintro e w5 ⟨rfl,hb5⟩;have HO5:=Lib.hid (HO.out.below hb5);have aXc:=Lib.hid (TK.out.below hb5 TK.out.lt);have aJY:=wE.out.below hb5 wE.out.lt;have HB5:=Lib.hid (HB.out.trans (hb5.mono HB.out.size));have hb11 : G11 + 1≤w5.heap.size:=aJY.lt;obtain ⟨e0,e1,e2,p0,p1,p2⟩:=aJY.three;have aRL:=Lib.hid aJY;obtain ⟨z,hz⟩ : ∃ z,z = Gf.inv (Gf.add x y):=⟨_,rfl⟩
         rw [← hz] at HT ⊢;clear hb5 aJY hcy hz;go_wp2_with (at_builtin;refine pH (.tmp 76) (.tmp 78) rfl rfl (G11 + 1) v l z rfl HO5.out rfl (by omega) hb11 ?_;intro v1 w6 ho1 hb6 hg6;obtain ⟨A3,c3,rfl,hob3⟩:=ho1.WB (n:=l.length + 1) (by simp);have aPz:=aRL.out.below hb6 (by omega);obtain ⟨q0,q1,q2,s0,s1,s2⟩:=aPz.three)
         have aXb:=Lib.hid (aXc.out.below hb6 (by omega));have HB6:=Lib.hid (HB5.out.trans (hb6.mono (by omega)))
         go_roundw
         case rel => exact ⟨j + 1,.slice A3 (l.length + 1) c3,by omega,by go_num,by rw [show i * m + (j + 1) = i * m + j + 1 from rfl,← HT.out];have h:=(hob3.FG (p:=⟨G11,2,none⟩) (by simp) (.slice A3 (l.length + 1) c3)).2;unfold kI;rw [List.length_append];exact h,aXb.out.FG (by simp;omega) _,aPz.set 2 _,HB6.out.setCell (by simp;omega) _⟩
         case measure => simp [intOf];omega
        ·obtain rfl : j = m:=by omega
         have HO:=Lib.hid ho;have TK:=Lib.hid r4;have wE:=Lib.hid r11;have HB:=Lib.hid hB;clear ho r4 r11 hB;go_wp2_with fail
         go_roundw
         case rel => exact ⟨i + 1,v,by omega,by go_num,by rw [Nat.add_mul,Nat.one_mul];exact HO.out,TK.out,wE.out,HB.out⟩
         case measure => simp [intOf];omega
      ·obtain rfl : i = n:=by omega
       obtain ⟨d0,d1,d2,f0,f1,f2⟩:=r4.three;obtain ⟨e0,e1,e2,_,_,_⟩:=r11.three;have hg4':=r4.lt;rw [← HDL.out,List.take_length] at ho;obtain ⟨A3,c3,rfl,hob3⟩:=ho.slice;have HOB:=Lib.hid (hob3.CA (show G4 < G11 + 1 by omega) (.int .i64 (i : Int)) (.int .i64 (m : Int)) (.slice A3 D.length c3));have HB:=Lib.hid (bZ hB hge (.int .i64 (i : Int)) (.int .i64 (m : Int)) (.slice A3 D.length c3));clear ho r4 r11 hB hob3;go_wp2_with fail
       refine bodyPost_ret (v:=.tuple #[mV i m A3 D.length c3,.int .i64 0]) (by simp [results,Try.results11,go_sem,d0,d1,d2,hg4']) rfl ?_;unfold JR;rw [HE0.out];refine ⟨_,_,_,_,_,rfl,?_,by rw [if_pos rfl,HXL.out],by rw [if_pos rfl,HYL.out],HB.out⟩;rw [if_pos rfl,← HDD.out];exact HOB.out.mono (by omega)
def oJ.f (l m : List Int) : Option (Int×Int×List Int×Int):=if (inU l && inU m && (decide (l.length≤140737488355328) && decide (m.length≤140737488355328))) = true then
 some (if kT (l.map zS) (m.map zS) = 0 then (l.length : Int) else 0,if kT (l.map zS) (m.map zS) = 0 then (m.length : Int) else 0,nI (if kT (l.map zS) (m.map zS) = 0 then aCz (l.map zS) (m.map zS) else []),kT (l.map zS) (m.map zS)) else none
theorem oJ.calls (A0 : Option Addr) (c0 : Nat) (l0 : List Int) (A1 : Option Addr) (c1 : Nat) (l1 : List Int) (r1 : Int) (r2 : Int) (r3 : List Int) (r4 : Int) (w : World) (hr0 : Kd.C (Kd.int .u8) w A0 l0.length l0) (hc0 : l0.length≤c0) (hr1 : Kd.C (Kd.int .u8) w A1 l1.length l1) (hc1 : l1.length≤c1) (h : oJ.f l0 l1 = some (r1,r2,r3,r4)) :
  Calls Try.prog 11 #[.slice A0 l0.length c0,.slice A1 l1.length c1] w fun e w' => ∃ pF : Value,e = .returned (.tuple #[.agg #[.int .i64 r1,.int .i64 r2,pF],.int .i64 r4])∧Kd.R (Kd.int .u8) 5 w' w.heap.size (fun _ => True) pF r3∧Below w.heap.size w w':=by
 unfold oJ.f at h
 split at h
 ·rename_i hi
  simp only [Bool.and_eq_true,decide_eq_true_eq] at hi;simp only [Option.some.injEq,Prod.mk.injEq] at h;obtain ⟨rfl,rfl,rfl,rfl⟩:=h;obtain ⟨xs,rfl⟩:=sW hi.1.1;obtain ⟨ys,rfl⟩:=sW hi.1.2;simp only [aZ,nN] at hi hc0 hc1 ⊢;refine (YW A0 A1 xs.length ys.length c0 c1 xs ys w (uP hr0) (uP hr1) hi.2.1 hi.2.2).mono ?_;intro e w' hp;unfold JR at hp;obtain ⟨r,c,A',k,cap,rfl,ho,rfl,rfl,hb⟩:=hp;exact ⟨_,rfl,tW ho,hb⟩
 ·cases h
end Go.Proofs.Yteofcbkjhdadpaa
namespace Go.Proofs.Yteofcbkjhdadpaa
open Go.RowKit
theorem aBg (r c : Nat) (p : Nat) (w : World) (hr : r≤64) (hc : c≤64) (hp : Hid (p = r * c)) :
  Calls Try.prog 78 #[.int .i64 (r : Int),.int .i64 (c : Int)] w fun e w' => ∃ A,e = .returned (mV r c A p p)∧eJ w' w.heap.size A p p (List.replicate p 0)∧Below w.heap.size w w':=by
 have hb : p≤4096:=by
  rw [hp.out];exact Nat.le_trans (Nat.mul_le_mul hr hc) (by omega)
 have e1 : IntKind.i64.wrap ((r : Int) * (c : Int)) = (p : Int):=by rw [IntKind.wrap_i64,hp.out,Int.natCast_mul];have:=GR (r:=r) (c:=c) (by omega) (by omega) (by omega) (by omega);omega
 have hmk:=zW p (by omega);go_enter Try.func78,Try.ntmps78;go_wp2_with fail
 have hrow:=vO (w.alloc (Obj.cells #[Value.int IntKind.i64 (r : Int),Value.int IntKind.i64 (c : Int),Value.slice (some ⟨w.heap.size + 1,0,none⟩) p p] 24)) p;rw [World.size_alloc] at hrow;refine bodyPost_ret (v:=mV r c (some ⟨w.heap.size + 1,0,none⟩) p p) (by simp [results,Try.results78,go_sem]) rfl ⟨_,rfl,hrow.aFL (by omega) (by simp) (by simp only [maxLen];omega),((Below.refl _ _).alloc (Nat.le_refl _) _).alloc (by simp) _⟩
theorem DM (r c : Nat) (p : Nat) (w : World) (hr : r≤64) (hc : c≤64) (hp : Hid (p = r * c)) :
  Calls Try.prog 78 #[.int .i64 (r : Int),.int .i64 (c : Int)] w fun e w' => ∃ g,e = .returned (mV r c (some ⟨g,0,none⟩) p p)∧Row w' g 5 (dK (List.replicate p 0))∧w.heap.size≤g∧Below w.heap.size w w':=by
 have hb : p≤4096:=by
  rw [hp.out];exact Nat.le_trans (Nat.mul_le_mul hr hc) (by omega)
 have e1 : IntKind.i64.wrap ((r : Int) * (c : Int)) = (p : Int):=by rw [IntKind.wrap_i64,hp.out,Int.natCast_mul];have:=GR (r:=r) (c:=c) (by omega) (by omega) (by omega) (by omega);omega
 have hmk:=zW p (by omega);go_enter Try.func78,Try.ntmps78;go_wp2_with fail
 have hrow:=vO (w.alloc (Obj.cells #[Value.int IntKind.i64 (r : Int),Value.int IntKind.i64 (c : Int),Value.slice (some ⟨w.heap.size + 1,0,none⟩) p p] 24)) p;rw [World.size_alloc] at hrow;refine bodyPost_ret (v:=mV r c (some ⟨w.heap.size + 1,0,none⟩) p p) (by simp [results,Try.results78,go_sem]) rfl ⟨_,rfl,hrow,by omega,((Below.refl _ _).alloc (Nat.le_refl _) _).alloc (by simp) _⟩
end Go.Proofs.Yteofcbkjhdadpaa
namespace Go.Proofs.Yteofcbkjhdadpaa
open Go.RowKit
theorem jA (n : Int) (w : World) : Calls Try.prog 77 #[.int .i64 n] w fun e w' => e = .returned (.bool (jB n))∧w = w':=by
 by_cases h1 : 0≤n
 ·by_cases h2 : n≤64
  ·have H:=Lib.hid (show jB n = true by simp [jB,h1,h2])
   have d1 : decide (0≤n) = true:=by simpa using h1
   have d2 : decide (n≤64) = true:=by simpa using h2
   go_enter Try.func77,Try.ntmps77;go_wp2_with fail
   go_ret;exact ⟨by rw [H.out];rfl,rfl⟩
  ·have H:=Lib.hid (show jB n = false by simp [jB,h1,h2])
   have d1 : decide (0≤n) = true:=by simpa using h1
   have d2 : decide (n≤64) = false:=by simpa using h2
   go_enter Try.func77,Try.ntmps77;go_wp2_with fail
   go_ret;exact ⟨by rw [H.out];rfl,rfl⟩
 ·have H:=Lib.hid (show jB n = false by simp [jB,h1])
  have d1 : decide (0≤n) = false:=by simpa using h1
  go_enter Try.func77,Try.ntmps77;go_wp2_with fail
  go_ret;exact ⟨by rw [H.out];rfl,rfl⟩
theorem fF (r c : Int) (A : Option Addr) (n cap : Nat) (w : World) : Calls Try.prog 76 #[mV r c A n cap] w fun e w' => e = .returned (.bool (bM r c n))∧Below w.heap.size w w':=by
 by_cases hr : jB r = true
 ·by_cases hc : jB c = true
  ·have h1 : 0≤r∧r≤64:=by simpa [jB] using hr
   have h2 : 0≤c∧c≤64:=by simpa [jB] using hc
   obtain ⟨p,hp⟩ : ∃ p,p = r * c:=⟨_,rfl⟩
   have hb:=GR h1.1 h1.2 h2.1 h2.2;have e1 : IntKind.i64.wrap (r * c) = p:=by rw [IntKind.wrap_i64,hp];omega
   have H:=Lib.hid (show bM r c n = decide ((n : Int) = p) by rw [hp];simp [bM,h1,h2]);clear h1 h2 hb hp
   by_cases hn : (n : Int) = p
   ·have q : ((n : Int) == p) = true:=by simpa using hn
    have HN:=Lib.hid (show decide ((n : Int) = p) = true by simpa using hn);clear hn;go_enter Try.func76,Try.ntmps76;go_wp2_with (go_at_call 77;refine (jA _ _).mono ?_;rintro e w' ⟨rfl,rfl⟩)
    go_ret;exact ⟨by rw [H.out,HN.out];rfl,(Below.refl _ _).alloc (Nat.le_refl _) _⟩
   ·have q : ((n : Int) == p) = false:=by simpa using hn
    have HN:=Lib.hid (show decide ((n : Int) = p) = false by simpa using hn);clear hn;go_enter Try.func76,Try.ntmps76;go_wp2_with (go_at_call 77;refine (jA _ _).mono ?_;rintro e w' ⟨rfl,rfl⟩)
    go_ret;exact ⟨by rw [H.out,HN.out];rfl,(Below.refl _ _).alloc (Nat.le_refl _) _⟩
  ·have hc : jB c = false:=by simpa using hc
   have H:=Lib.hid (show bM r c n = false by simp [bM,jB] at hc ⊢;intro h1 h2 h3 h4;omega);go_enter Try.func76,Try.ntmps76;go_wp2_with (go_at_call 77;refine (jA _ _).mono ?_;rintro e w' ⟨rfl,rfl⟩)
   go_ret;exact ⟨by rw [H.out];rfl,(Below.refl _ _).alloc (Nat.le_refl _) _⟩
 ·have hr : jB r = false:=by simpa using hr
  have H:=Lib.hid (show bM r c n = false by simp [bM,jB] at hr ⊢;intro h1 h2;omega);go_enter Try.func76,Try.ntmps76;go_wp2_with (go_at_call 77;refine (jA _ _).mono ?_;rintro e w' ⟨rfl,rfl⟩)
  go_ret;exact ⟨by rw [H.out];rfl,(Below.refl _ _).alloc (Nat.le_refl _) _⟩
end Go.Proofs.Yteofcbkjhdadpaa
namespace Go.Proofs.Yteofcbkjhdadpaa
def UA (r c : Int) : Bool:=jB r && jB c
theorem aFV {r c : Int} (h : UA r c = true) : ∃ a b : Nat,r = a∧c = b∧a≤64∧b≤64:=by
 simp [UA,jB] at h
 exact ⟨r.toNat,c.toNat,by omega,by omega,by omega,by omega⟩
end Go.Proofs.Yteofcbkjhdadpaa
namespace Go.Proofs.Yteofcbkjhdadpaa
open Go.RowKit
theorem aKs (r c : Int) (w : World) (h : UA r c = false) :
  Calls Try.prog 63 #[.int .i64 r,.int .i64 c] w fun e w' => e = .returned (.tuple #[mV 0 0 none 0 0,.int .i64 2])∧Below w.heap.size w w':=by
 by_cases h1 : jB r = true
 ·have h2 : jB c = false:=by simpa [UA,h1] using h
  clear h;go_enter Try.func63,Try.ntmps63;go_wp2_with (go_at_call 77;refine (jA _ _).mono ?_;rintro e w' ⟨rfl,rfl⟩)
  exact bodyPost_ret (v:=.tuple #[mV 0 0 none 0 0,.int .i64 2]) (by simp [results,Try.results63,go_sem]) rfl ⟨rfl,(Below.refl _ _).alloc (Nat.le_refl _) _⟩
 ·have h1 : jB r = false:=by simpa using h1
  clear h;go_enter Try.func63,Try.ntmps63;go_wp2_with (go_at_call 77;refine (jA _ _).mono ?_;rintro e w' ⟨rfl,rfl⟩)
  exact bodyPost_ret (v:=.tuple #[mV 0 0 none 0 0,.int .i64 2]) (by simp [results,Try.results63,go_sem]) rfl ⟨rfl,(Below.refl _ _).alloc (Nat.le_refl _) _⟩
theorem aHU (r c p : Nat) (w : World) (hr : r≤64) (hc : c≤64) (hp : Hid (p = r * c)) :
  Calls Try.prog 63 #[.int .i64 (r : Int),.int .i64 (c : Int)] w fun e w' => ∃ A,e = .returned (.tuple #[mV r c A p p,.int .i64 0])∧eJ w' w.heap.size A p p (List.replicate p 0)∧Below w.heap.size w w':=by
 have h1 : jB (r : Int) = true:=by simp [jB];omega
 have h2 : jB (c : Int) = true:=by simp [jB];omega
 go_enter Try.func63,Try.ntmps63;go_wp2_with (first | (go_at_call 77;refine (jA _ _).mono ?_;rintro e w' ⟨rfl,rfl⟩) | (go_at_call 78;refine (aBg r c p _ hr hc hp).mono ?_;rintro e w1 ⟨A,rfl,ho,hb⟩;obtain ⟨c0,c1,c2,f0,f1,f2⟩:=((Row.new w [.int .i64 0,.int .i64 0,.slice none 0 0] 24).below hb (by simp)).three))
 refine bodyPost_ret (v:=.tuple #[mV r c A p p,.int .i64 0]) (by simp [results,Try.results63,go_sem,c0,c1,c2]) rfl ⟨_,rfl,(ho.CA (by simp) _ _ _).mono (by simp),bZ (((Below.refl _ _).alloc (Nat.le_refl _) _).trans (hb.mono (by simp))) (Nat.le_refl _) _ _ _⟩
end Go.Proofs.Yteofcbkjhdadpaa
namespace Go.Proofs.Yteofcbkjhdadpaa
open Go.RowKit
def vP (A : Option Addr) (c k : Nat) : Option Addr:=if c = 0 then A else A.map (·.add k)
theorem pJ {g o c k : Nat} (h : c≠0) : vP (some ⟨g,o,none⟩) c k = some ⟨g,o + k,none⟩:=by
 unfold vP;rw [if_neg h]
 simp [Addr.add]
theorem aCa {w : World} {B n c k : Nat} {A : Option Addr} {xs : List UInt8} (h : Rd w B A n (dK xs)) (hk : k + c≤n) : Rd w B (vP A c k) c (dK ((xs.drop k).take c)):=by
 have hl:=h.len;rw [bC] at hl;refine ⟨by rw [bC,List.length_take,List.length_drop];omega,fun hc => ?_⟩;obtain ⟨g,o,rfl,hg,hcell⟩:=h.2 (by omega);refine ⟨g,o + k,pJ (by omega),hg,fun j u hu => ?_⟩;rw [Nat.add_assoc];refine hcell (k + j) u ?_;rw [← hu];have hj : j < c:=by
  rcases Nat.lt_or_ge j c with h | h
  ·exact h
  ·rw [List.getElem?_eq_none (by rw [bC,List.length_take];omega)] at hu;cases hu
 simp [dK,List.getElem?_take,hj,List.getElem?_drop]
theorem pP (r c i : Nat) (A : Option Addr) (n cap k k1 : Nat) (w : World) (hr : r≤64) (hc : c≤64) (hi : i < r) (hk : Hid (k = i * c)) (hk1 : Hid (k1 = (i + 1) * c)) (hn : k1≤n) (hcap : n≤cap) :
  Calls Try.prog 79 #[mV r c A n cap,.int .i64 (i : Int)] w fun e w' => e = .returned (.slice (vP A c k) c c)∧Below w.heap.size w w':=by
 have hkc : k + c = k1:=by rw [hk.out,hk1.out,Nat.add_mul];omega
 have hb : k1≤4096:=by
  rw [hk1.out];exact Nat.le_trans (Nat.mul_le_mul (show i + 1≤64 by omega) hc) (by omega)
 have e1 : IntKind.i64.wrap ((i : Int) * (c : Int)) = (k : Int):=by rw [← Int.natCast_mul,← hk.out,IntKind.wrap_i64];omega
 have e2 : IntKind.i64.wrap (((i : Int) + 1) * (c : Int)) = (k1 : Int):=by
  have : ((i : Int) + 1) * (c : Int) = ((i + 1) * c : Nat):=by simp
  rw [this,← hk1.out,IntKind.wrap_i64];omega
 have HKC:=Lib.hid hkc;have e3 : IntKind.i64.wrap ((i : Int) + 1) = (i : Int) + 1:=by rw [IntKind.wrap_i64];omega
 have hkk : k≤k1:=by omega
 by_cases hz : c = 0
 ·obtain rfl : k1 = k:=by omega
  have HA:=Lib.hid (show vP A c k1 = A by unfold vP;rw [if_pos hz]);have HZ:=Lib.hid hz;clear hz hkc;go_enter Try.func79,Try.ntmps79;go_wp2_with fail
  go_quiet (fail)
  go_wp2_with fail
  go_ret;exact ⟨by rw [HA.out,HZ.out];rfl,below_drewN ((Below.refl _ _).alloc (Nat.le_refl _) _) _⟩
 ·have hne : ¬ k1 = k:=by omega
  have HA:=Lib.hid (show vP A c k = A.map (·.add k) by unfold vP;rw [if_neg hz]);have HE:=Lib.hid (show k1 - k = c by omega);clear hz hkc;go_enter Try.func79,Try.ntmps79;go_wp2_with fail
  go_quiet (fail)
  go_wp2_with fail
  go_ret;exact ⟨by rw [HA.out];show Ending.returned (Value.slice _ (k1 - k) (k1 - k)) = _;rw [HE.out],below_drewN ((Below.refl _ _).alloc (Nat.le_refl _) _) _⟩
end Go.Proofs.Yteofcbkjhdadpaa
namespace Go.Proofs.Yteofcbkjhdadpaa
def aAx (n : Nat) : Nat→List UInt8
 | 0 => List.replicate (n * n) 0
 | i + 1 => (aAx n i).set (i * n + i) 1
theorem aLu {n i : Nat} (h : i < n) : i * n + i < n * n:=by
 have : (i + 1) * n≤n * n:=Nat.mul_le_mul_right n h;rw [Nat.add_mul] at this;omega
end Go.Proofs.Yteofcbkjhdadpaa
namespace Go.Proofs.Yteofcbkjhdadpaa
open Go.RowKit
theorem aAw (n : Int) (w : World) (h : UA n n = false) :
  Calls Try.prog 68 #[.int .i64 n] w fun e w' => e = .returned (.tuple #[mV 0 0 none 0 0,.int .i64 2])∧Below w.heap.size w w':=by
 go_enter Try.func68,Try.ntmps68;go_wp2_with (go_at_call 63;refine (aKs n n _ h).mono ?_;rintro e w1 ⟨rfl,hb⟩;obtain ⟨c0,c1,c2,f0,f1,f2⟩:=((Row.new w [.int .i64 0,.int .i64 0,.slice none 0 0] 24).below hb (by simp)).three;have hs : w.heap.size < w1.heap.size:=by have:=hb.size;simp at this;omega)
 exact bodyPost_ret (v:=.tuple #[mV 0 0 none 0 0,.int .i64 2]) (by simp [results,Try.results68,go_sem,c0,c1,c2,hs]) rfl ⟨rfl,(bZ (((Below.refl w.heap.size w).alloc (Nat.le_refl _) _).trans (hb.mono (by simp))) (Nat.le_refl _) _ _ _).alloc (by simp;omega) _⟩
theorem WW (n p : Nat) (w : World) (hn : n≤64) (hp : Hid (p = n * n)) :
  Calls Try.prog 68 #[.int .i64 (n : Int)] w fun e w' => ∃ A,e = .returned (.tuple #[mV n n A p p,.int .i64 0])∧eJ w' w.heap.size A p p (aAx n n)∧Below w.heap.size w w':=by
 have hpb : p≤4096:=by rw [hp.out];exact Nat.le_trans (Nat.mul_le_mul hn hn) (by omega)
 go_enter Try.func68,Try.ntmps68;go_wp2_with (go_at_call 63;refine (aHU n n p _ hn hn hp).mono ?_;rintro e w1 ⟨A,rfl,ho,hb⟩;have B0:=(Row.new w [.int .i64 0,.int .i64 0,.slice none 0 0] 24).below hb (by simp);have hs : w.heap.size < w1.heap.size:=by have:=hb.size;simp at this;omega)
 have HA:=Lib.hid (show ∀ g,A = some ⟨g,0,none⟩→w.heap.size < g∧g < w1.heap.size by
  intro g h;subst h;have:=ho.row g rfl
  simp at this
  omega)
 have HO:=Lib.hid (show eJ (w1.alloc (Obj.cells #[Value.int IntKind.i64 (n : Int),Value.int IntKind.i64 (n : Int),Value.slice A p p] 24)) w.heap.size A p p (aAx n 0) by
  have h:=ho.below ((Below.refl _ _).alloc (Nat.le_refl _) (Obj.cells #[Value.int IntKind.i64 (n : Int),Value.int IntKind.i64 (n : Int),Value.slice A p p] 24)) (Nat.le_refl _);simp only [aAx];rw [← hp.out];exact h.mono (by simp))
 have HB:=Lib.hid (show Below w.heap.size w (w1.alloc (Obj.cells #[Value.int IntKind.i64 (n : Int),Value.int IntKind.i64 (n : Int),Value.slice A p p] 24)) from (((Below.refl _ _).alloc (Nat.le_refl _) _).trans (hb.mono (by simp))).alloc (by omega) _);have HB0:=Lib.hid (B0.alloc (Obj.cells #[Value.int IntKind.i64 (n : Int),Value.int IntKind.i64 (n : Int),Value.slice A p p] 24));have ZN:=Lib.hid (Row.new w1 [.int .i64 n,.int .i64 n,.slice A p p] 24);clear ho hb B0
 go_loopw [18] (fun v18 wr => ∃ i : Nat,i≤n∧v18 = .int .i64 (i : Int)∧eJ wr w.heap.size A p p (aAx n i)∧Below w.heap.size w wr∧Row wr w.heap.size 24 [.int .i64 0,.int .i64 0,.slice none 0 0]∧Row wr w1.heap.size 24 [.int .i64 n,.int .i64 n,.slice A p p]) (fun v18 _ => n - (intOf v18).toNat)
 case atStart => exact ⟨0,by omega,rfl,HO.out,HB.out,HB0.out,ZN.out⟩
 case round =>
  obtain ⟨i,hi,rfl,ho,hb,b0,b1⟩:=hrel;clear HO HB HB0 ZN
  by_cases hlt : i < n
  ·have hd:=aLu hlt
   obtain ⟨k,hk⟩ : ∃ k,k = i * n:=⟨_,rfl⟩
   obtain ⟨k1,hk1⟩ : ∃ k1,k1 = (i + 1) * n:=⟨_,rfl⟩
   have hkn : k1≤p:=by rw [hk1,hp.out];exact Nat.mul_le_mul_right n hlt
   have hki : k + i < p:=by rw [hk,hp.out];exact hd
   have HID:=Lib.hid (show (aAx n i).set (k + i) 1 = aAx n (i + 1) by rw [hk];rfl);have HK:=Lib.hid hk;have FT:=Lib.hid hk1;obtain ⟨g,rfl,hg1,hg2,hcell,hfz⟩:=ho.at_ hki;have hg3:=HA.out g rfl;have hro : vP (some ⟨g,0,none⟩) n k = some ⟨g,k,none⟩:=by rw [pJ (by omega),Nat.zero_add]
   obtain ⟨c0,c1,c2,f0,f1,f2⟩:=b1.three;have HO:=Lib.hid ho;have HB:=Lib.hid hb;have HR:=Lib.hid (fun w => pP n n i (some ⟨g,0,none⟩) p p k k1 w hn hn hlt HK FT hkn (Nat.le_refl _));rw [hro] at HR;clear hk hk1 hd ho hb hro hcell hfz;go_wp2_with (go_at_call 79;refine (HR.out _).mono ?_;rintro e w2 ⟨rfl,hb2⟩;have o2:=HO.out.below hb2 (Nat.le_refl _);obtain ⟨g',e',_,hlt2,hcell,hfz⟩:=o2.at_ hki;cases e')
   go_roundw
   case rel =>
    refine ⟨i + 1,by omega,by go_num,?_,?_,?_,?_⟩
    ·have h:=o2.store (k + i) 1
     rw [HID.out] at h;exact h
    ·exact (HB.out.trans (hb2.mono HB.out.size)).setCell (by simp;omega) _
    ·exact (b0.below hb2 b0.lt).FG (by simp;omega) _
    ·exact (b1.below hb2 b1.lt).FG (by simp;omega) _
   case measure => simp [intOf];omega
  ·obtain rfl : i = n:=by omega
   obtain ⟨c0,c1,c2,f0,f1,f2⟩:=b0.three;obtain ⟨d0,d1,d2,_,_,_⟩:=b1.three;go_wp2_with fail
   refine bodyPost_ret (v:=.tuple #[mV i i A p p,.int .i64 0]) (by simp [results,Try.results68,go_sem,c0,c1,c2]) rfl ⟨_,rfl,?_,bZ hb (Nat.le_refl _) _ _ _⟩;refine eJ.qA ho fun g hg => ?_
   have:=HA.out g hg;rw [Below.heap_setCell _ _ _ _ (by simp;omega),Below.heap_setCell _ _ _ _ (by simp;omega),Below.heap_setCell _ _ _ _ (by simp;omega)]
end Go.Proofs.Yteofcbkjhdadpaa
namespace Go.Proofs.Yteofcbkjhdadpaa
open Go.RowKit Go.Proofs.aG.aX
def uF.f (n : Int) : Option (Int×Int×List Int×Int) :=
 if UA n n = true then some (n,n,nI (aAx n.toNat n.toNat),0) else some (0,0,[],2)
theorem uF.calls (a0 : Int) (r1 : Int) (r2 : Int) (r3 : List Int) (r4 : Int) (w : World)  (h : uF.f a0 = some (r1,r2,r3,r4)) :
  Calls Try.prog 68 #[.int .i64 a0] w fun e w' => ∃ pF : Value,e = .returned (.tuple #[.agg #[.int .i64 r1,.int .i64 r2,pF],.int .i64 r4])∧Kd.R (Kd.int .u8) 5 w' w.heap.size (fun _ => True) pF r3∧Below w.heap.size w w':=by
 unfold uF.f at h
 split at h
 ·rename_i hi
  simp only [Option.some.injEq,Prod.mk.injEq] at h;obtain ⟨rfl,rfl,rfl,rfl⟩:=h;obtain ⟨a,b,rfl,h2,h3,h4⟩:=aFV hi;refine (WW a (a * a) w h3 (Lib.hid rfl)).mono ?_;rintro e w' ⟨g,rfl,ho,hb⟩;exact ⟨_,rfl,tW ho,hb⟩
 ·rename_i hi
  simp only [Option.some.injEq,Prod.mk.injEq] at h;obtain ⟨rfl,rfl,rfl,rfl⟩:=h;refine (aAw a0 w (by simpa using hi)).mono ?_;rintro e w' ⟨rfl,hb⟩;exact ⟨_,rfl,Kd.AQ _ _ _ _ _,hb⟩
end Go.Proofs.Yteofcbkjhdadpaa
namespace Go.Proofs.Yteofcbkjhdadpaa
open Go.RowKit
structure Ctx (w0 w : World) (bs : List (Nat×List Value)) (rs : List (Option Addr×Nat×List UInt8)) : Prop where
 below : Below w0.heap.size w0 w
 rows : ∀ b∈bs,Row w b.1 24 b.2
 rds : ∀ r∈rs,Rd w w.heap.size r.1 r.2.1 (dK r.2.2)
section
variable {w0 w w' : World} {bs : List (Nat×List Value)} {rs : List (Option Addr×Nat×List UInt8)}
theorem Ctx.start (w : World) : Ctx w w [] []:=⟨Below.refl _ _,fun b h => absurd h (by simp),fun r h => absurd h (by simp)⟩
theorem Ctx.go (h : Ctx w0 w bs rs) (hb : Below w.heap.size w w') : Ctx w0 w' bs rs :=
 ⟨h.below.trans (hb.mono h.below.size),fun b hm => (h.rows b hm).below hb (h.rows b hm).lt,fun r hm => (h.rds r hm).go hb⟩
theorem Ctx.add {A : Option Addr} {n : Nat} {xs : List UInt8} (h : Ctx w0 w bs rs) (hr : Rd w w.heap.size A n (dK xs)) : Ctx w0 w bs ((A,n,xs) :: rs) :=
 ⟨h.below,h.rows,fun r hm => by
  rcases List.mem_cons.1 hm with rfl | hm
  ·exact hr
  ·exact h.rds r hm⟩
theorem Ctx.box (h : Ctx w0 w bs rs) (cs : List Value) : Ctx w0 (w.alloc (.cells cs.toArray 24)) ((w.heap.size,cs) :: bs) rs:=by
 have hb : Below w.heap.size w (w.alloc (.cells cs.toArray 24)):=(Below.refl _ _).alloc (Nat.le_refl _) _;refine ⟨h.below.trans (hb.mono h.below.size),fun b hm => ?_,fun r hm => (h.rds r hm).go hb⟩
 rcases List.mem_cons.1 hm with rfl | hm
 ·exact Row.new w cs _
 ·exact (h.rows b hm).below hb (h.rows b hm).lt
theorem Ctx.alloc (h : Ctx w0 w bs rs) (o : Obj) : Ctx w0 (w.alloc o) bs rs:=h.go ((Below.refl _ _).alloc (Nat.le_refl _) o)
theorem Ctx.drewN (h : Ctx w0 w bs rs) (n : Nat) : Ctx w0 (w.drewN n) bs rs:=h.go (below_drewN (Below.refl _ _) n)
theorem Ctx.drew (h : Ctx w0 w bs rs) : Ctx w0 w.drew bs rs:=h.go (Below.drew (Below.refl _ _))
theorem Ctx.row (h : Ctx w0 w bs rs) (i : Nat) {g : Nat} {cs : List Value} (e : bs[i]? = some (g,cs)) : Row w g 24 cs:=h.rows _ (List.mem_of_getElem? e)
theorem Ctx.rd (h : Ctx w0 w bs rs) (i : Nat) {A : Option Addr} {n : Nat} {xs : List UInt8} (e : rs[i]? = some (A,n,xs)) : Rd w w.heap.size A n (dK xs):=h.rds _ (List.mem_of_getElem? e)
theorem Ctx.lt (h : Ctx w0 w bs rs) (i : Nat) {g : Nat} {cs : List Value} (e : bs[i]? = some (g,cs)) : g < w.heap.size:=(h.row i e).lt
theorem Ctx.cells (h : Ctx w0 w bs rs) (i : Nat) {g : Nat} {a b c : Value} (e : bs[i]? = some (g,[a,b,c])) : w.cell? ⟨g,0,none⟩ = some a∧w.cell? ⟨g,1,none⟩ = some b∧w.cell? ⟨g,2,none⟩ = some c :=
 ⟨(h.row i e).cell 0,(h.row i e).cell 1,(h.row i e).cell 2⟩
end
end Go.Proofs.Yteofcbkjhdadpaa
namespace Go.Proofs.Yteofcbkjhdadpaa
open Go.RowKit
theorem Ctx.set {w0 w : World} {bs : List (Nat×List Value)} (h : Ctx w0 w bs []) {p : Addr} (hp : w0.heap.size≤p.block) (hn : ∀ b∈bs,b.1≠p.block) (u : Value) : Ctx w0 (w.setCell p u) bs [] :=
 ⟨h.below.setCell hp u,fun b hm => (h.rows b hm).FG (hn b hm) u,fun r hm => absurd hm (by simp)⟩
def yM (w : World) (g q : Nat) (v : UInt8) (new : List UInt8) : Prop:=∃ l : List UInt8,q < l.length∧l.set q v = new∧Row w g 5 (dK l)
section
variable {w w' : World} {g q : Nat} {v : UInt8} {new : List UInt8}
theorem yM.go (h : yM w g q v new) (hb : Below w.heap.size w w') : yM w' g q v new:=by
 obtain ⟨l,h1,h2,h3⟩:=h;exact ⟨l,h1,h2,h3.below hb h3.lt⟩
theorem yM.drew (h : yM w g q v new) : yM w.drew g q v new:=h
theorem yM.cell (h : yM w g q v new) : ∃ old,w.cell? ⟨g,q,none⟩ = some old:=by
 obtain ⟨l,h1,h2,h3⟩:=h;exact h3.has (by rw [bC];exact h1)
theorem yM.frozen (h : yM w g q v new) : w.frozen? ⟨g,q,none⟩ = false:=by
 obtain ⟨l,h1,h2,h3⟩:=h;exact h3.frozen q
theorem yM.done (h : yM w g q v new) : Row (w.setCell ⟨g,q,none⟩ (.int .u8 (v.toNat : Int))) g 5 (dK new):=by
 obtain ⟨l,h1,h2,h3⟩:=h;have:=h3.set q (.int .u8 (v.toNat : Int))
 rwa [ZB,h2] at this
theorem yM.set (h : yM w g q v new) : yM (w.setCell ⟨g,q,none⟩ (.int .u8 (v.toNat : Int))) g q v new:=by
 have hd:=h.done;obtain ⟨l,h1,h2,h3⟩:=h;refine ⟨new,by rw [← h2,List.length_set];exact h1,?_,hd⟩;rw [← h2,List.set_set]
theorem yM.fin (h : yM (w.setCell ⟨g,q,none⟩ (.int .u8 (v.toNat : Int))) g q v new) : Row (w.setCell ⟨g,q,none⟩ (.int .u8 (v.toNat : Int))) g 5 (dK new):=by
 obtain ⟨l,h1,h2,h3⟩:=h;have he : l.set q v = l:=by
  have hc : (w.setCell ⟨g,q,none⟩ (.int .u8 (v.toNat : Int))).cell? ⟨g,q,none⟩ = some (.int .u8 ((l[q]).toNat : Int)):=by rw [h3.cell,rN l q h1]
  have h4:=h3;unfold Row at h4;simp only [World.setCell,Array.getElem?_modify,if_true] at h4;have hv : l[q] = v:=by
   cases ho : w.heap[g]? with
   | none => rw [ho] at h4;simp at h4
   | some o =>
    rw [ho] at h4
    cases o with
    | cells c e fz =>
     simp at h4
     have h5 : (c.setIfInBounds q (.int .u8 (v.toNat : Int)))[q]? = (dK l).toArray[q]? := by rw [h4.1]
     rw [show (dK l).toArray[q]? = (dK l)[q]? by simp,rN l q h1,Array.getElem?_setIfInBounds] at h5
     by_cases hq : q < c.size
     ·simp [hq] at h5
      exact (UInt8.toNat_inj.1 (by omega)).symm
     ·simp [hq] at h5
    | _ => simp at h4
  rw [← hv];exact List.set_getElem_self h1
 rw [← h2,he];exact h3
theorem yM.lt (h : yM w g q v new) : g < w.heap.size:=by
 obtain ⟨l,h1,h2,h3⟩:=h;exact h3.lt
end
end Go.Proofs.Yteofcbkjhdadpaa
namespace Go.Proofs.Yteofcbkjhdadpaa
open Go.RowKit
section
variable {x y : World} {g : Nat} {t t' : TypeId} {ys : List Value} {o o' : Obj} {a b c : Value}
theorem aBe (h : Below (x.alloc (.cells #[a,b,c] t)).heap.size (x.alloc (.cells #[a,b,c] t)) y) : Row y x.heap.size t [a,b,c]:=(Row.new x [a,b,c] t).below h (by simp)
theorem aBd (h : Below ((x.alloc (.cells #[a,b,c] t)).alloc o).heap.size ((x.alloc (.cells #[a,b,c] t)).alloc o) y) : Row y x.heap.size t [a,b,c]:=((Row.new x [a,b,c] t).alloc o).below h (by simp;omega)
theorem aGx (h : Below (x.alloc (.cells #[a,b,c] t)).drew.heap.size (x.alloc (.cells #[a,b,c] t)).drew y) : Row y x.heap.size t [a,b,c]:=(show Row (x.alloc (.cells #[a,b,c] t)).drew x.heap.size t [a,b,c] from Row.new x [a,b,c] t).below h (show x.heap.size < (x.alloc (.cells #[a,b,c] t)).heap.size by simp)
theorem aGw (h : Below ((x.alloc (.cells #[a,b,c] t)).alloc o).drew.heap.size ((x.alloc (.cells #[a,b,c] t)).alloc o).drew y) : Row y x.heap.size t [a,b,c]:=(show Row ((x.alloc (.cells #[a,b,c] t)).alloc o).drew x.heap.size t [a,b,c] from (Row.new x [a,b,c] t).alloc o).below h (show x.heap.size < ((x.alloc (.cells #[a,b,c] t)).alloc o).heap.size by simp;omega)
theorem KR (r : Row x g t ys) (h : Below x.heap.size x y) : Row y g t ys:=r.below h r.lt
theorem aCB (r : Row x g t ys) (h : Below (x.alloc o).heap.size (x.alloc o) y) : Row y g t ys:=KR (r.alloc o) h
theorem aCA (r : Row x g t ys) (h : Below ((x.alloc o).alloc o').heap.size ((x.alloc o).alloc o') y) : Row y g t ys:=KR ((r.alloc o).alloc o') h
theorem size_drew (x : World) : x.drew.heap.size = x.heap.size:=rfl
theorem Row.aWl (x : World) (cs : List Value) (t : TypeId) (e : g = x.heap.size) : Row (x.alloc (.cells cs.toArray t)) g t cs:=by rw [e];exact Row.new x cs t
theorem Row.drew (r : Row x g t ys) : Row x.drew g t ys:=r
theorem Ctx.cons {w0 : World} {bs : List (Nat×List Value)} (h : Ctx w0 x bs []) (r : Row x g 24 ys) : Ctx w0 x ((g,ys) :: bs) [] :=
 ⟨h.below,fun b hm => by
  rcases List.mem_cons.1 hm with rfl | hm
  ·exact r
  ·exact h.rows b hm,fun r hm => absurd hm (by simp)⟩
theorem Row.rd {xs : List UInt8} {n : Nat} (r : Row x g 5 (dK xs)) (hn : xs.length = n) : Rd x x.heap.size (some ⟨g,0,none⟩) n (dK xs):=by
 refine ⟨by rw [bC,hn],fun _ => ⟨g,0,rfl,r.lt,fun j u hu => ?_⟩⟩;rw [Nat.zero_add,r.cell,hu]
theorem Row.two (h : Row x g t [a,b,c]) : x.cell? ⟨g,0,none⟩ = some a∧x.cell? ⟨g,1,none⟩ = some b∧x.cell? ⟨g,2,none⟩ = some c∧x.frozen? ⟨g,0,none⟩ = false∧x.frozen? ⟨g,1,none⟩ = false∧x.frozen? ⟨g,2,none⟩ = false∧g < x.heap.size:=by
 obtain ⟨h0,h1,h2,h3,h4,h5⟩:=h.three;exact ⟨h0,h1,h2,h3,h4,h5,h.lt⟩
end
end Go.Proofs.Yteofcbkjhdadpaa
namespace Go.Proofs.Yteofcbkjhdadpaa
open Go.RowKit
def over (xs : List UInt8) (off : Nat) (cs : List UInt8) : List UInt8:=xs.take off ++ (cs ++ xs.drop (off + cs.length))
theorem LM {xs : List UInt8} {off : Nat} {cs : List UInt8} (h : off + cs.length≤xs.length) : (over xs off cs).length = xs.length:=by simp [over];omega
theorem aAl (xs : List UInt8) (off : Nat) (cs : List UInt8) : splice (dK xs) off (dK cs) = dK (over xs off cs):=by simp [splice,over,dK,List.map_take,List.map_drop]
theorem aHJ (xs : List UInt8) (off : Nat) : over xs off [] = xs:=by simp [over]
theorem QA (P Z row : List UInt8) (k : Nat) (hk : P.length = k) : over (P ++ Z) k row = P ++ row ++ Z.drop row.length:=by
 subst hk
 simp [over,List.drop_append]
theorem aCl (l row : List UInt8) (k : Nat) (h : k + row.length≤l.length) : over (over l k row) k row = over l k row:=by
 have e : over l k row = (l.take k) ++ (row ++ l.drop (k + row.length)):=rfl;rw [e,QA _ _ _ k (by rw [List.length_take];omega)]
 simp [List.drop_append]
theorem VS : (Try.prog.info? 5).map (·.size) = some 1:=by kernel_rfl
theorem PR (W : World) (ty : TypeId) (dp sp : Option Addr) (dl dc m sc : Nat) (g off : Nat) (cur ss : List UInt8) (hg : Row W g 5 (dK cur)) (B : Nat) (hr : Rd W B sp m (dK ss))
  (hdst : 0 < (ss.take dl).length→dp = some ⟨g,off,none⟩) (hfit : off + (ss.take dl).length≤cur.length) :
  ∃ w',(Builtin.copy_ #[22,22] ty #[.slice dp dl dc,.slice sp m sc]).run Try.prog W = .ok (goInt (ss.take dl).length) w'∧Row w' g 5 (dK (over cur off (ss.take dl)))∧W.grownBy w' (some g):=by
 have hm:=hr.len;rw [bC] at hm;have hn : (dK (ss.take dl)).length = Nat.min m dl:=by rw [bC,List.length_take,hm];show min dl m = min m dl;omega
 by_cases h0 : (ss.take dl).length = 0
 ·have he : ss.take dl = []:=List.eq_nil_of_length_eq_zero h0
  rw [he,aHJ];refine ⟨W,?_,hg,World.grownBy.refl W _⟩;exact run_copy_none (P:=Try.prog) W 22 22 ty 5 dp sp dl dc m sc Try.underlying22 VS (by rw [← hn,bC,h0])
 ·obtain rfl:=hdst (by omega)
  have hmp : 0 < m:=by rw [List.length_take] at h0;omega
  obtain ⟨g2,o2,rfl,_,hc⟩:=hr.2 hmp;have hrun:=run_copy_row (P:=Try.prog) W 22 22 ty 5 g off dl dc ⟨g2,o2,none⟩ m sc (dK cur).toArray 5 (dK (ss.take dl)) Try.underlying22 VS hg hn
   (fun j v hv => by
    have hadd : (⟨g2,o2,none⟩ : Addr).add j = ⟨g2,o2 + j,none⟩:=by unfold Addr.add;split <;> simp_all
    rw [hadd];refine hc j v ?_;rw [← hv,← aIS,List.getElem?_take];have hj : j < (dK (ss.take dl)).length:=by
     rcases Nat.lt_or_ge j (dK (ss.take dl)).length with h | h
     ·exact h
     ·rw [List.getElem?_eq_none h] at hv;cases hv
    rw [bC,List.length_take] at hj;rw [if_pos (by omega)])
   (by rw [bC];simpa [bC] using hfit) (fun v hv => OT hv)
  rw [bC] at hrun;refine ⟨_,hrun,?_,?_⟩
  ·have h:=setRow_heap W g _ ((dK cur).toArray.toList.take off ++ dK (ss.take dl) ++ (dK cur).toArray.toList.drop (off + (ss.take dl).length)).toArray 5 (0,0) hg
   unfold Row;rw [← aAl];simp only [splice,bC];rw [← List.append_assoc];exact h
  ·exact ⟨rfl,rfl,rfl,by simp [World.setRow],fun k hk hne => setRow_other W g k _ (fun e => hne (by rw [e]))⟩
theorem SA {o : Oper} {a : Act} {W : World} {K : Act→World→Prop} {Q : Exit→Act→World→Prop} (d s : Operand)
  (ho : o.op = .call { callee:=.builtin .copy,args:=#[d,s],argTypes:=#[22,22] })
  (dp sp : Option Addr) (dl dc m sc : Nat) (hd : a.eval d = .slice dp dl dc) (hs : a.eval s = .slice sp m sc)
  (g off : Nat) (cur ss : List UInt8) (hg : Row W g 5 (dK cur)) (B : Nat) (hr : Rd W B sp m (dK ss)) (hdst : 0 < (ss.take dl).length→dp = some ⟨g,off,none⟩) (hfit : off + (ss.take dl).length≤cur.length)
  (h : ∀ w',Row w' g 5 (dK (over cur off (ss.take dl)))→W.grownBy w' (some g)→K (a.put o.dst (goInt (ss.take dl).length)) w') : o.wp Try.prog a W K Q:=by
 obtain ⟨w',hrun,h1,h2⟩:=PR W o.type dp sp dl dc m sc g off cur ss hg B hr hdst hfit;unfold Oper.wp execOp;simp only [ho,resolve,invoke,builtin,Sem.run_bind,Sem.run_pure,Result.andThen_ok,List.map_toArray,List.map_cons,List.map_nil,hd,hs,hrun];exact h w' h1 h2
theorem uC {ops : Array Oper} {o : Oper} {a : Act} {W : World} {K : Act→World→Prop} {Q : Exit→Act→World→Prop} {E : Prop} (d s : Operand) (hgd : o.guard = none)
  (ho : o.op = .call { callee:=.builtin .copy,args:=#[d,s],argTypes:=#[22,22] })
  (dp sp : Option Addr) (dl dc m sc : Nat) (hd : a.eval d = .slice dp dl dc) (hs : a.eval s = .slice sp m sc)
  (g off : Nat) (cur ss : List UInt8) (hg : Row W g 5 (dK cur)) (B : Nat) (hr : Rd W B sp m (dK ss)) (hdst : 0 < (ss.take dl).length→dp = some ⟨g,off,none⟩) (hfit : off + (ss.take dl).length≤cur.length)
  (h : ∀ w',Row w' g 5 (dK (over cur off (ss.take dl)))→W.grownBy w' (some g)→K (a.put o.dst (goInt (ss.take dl).length)) w') :
  if Region.wanted o (yielded ops a.tmps) = true then Oper.wp Try.prog o a W K Q else E:=by
 have hw : Region.wanted o (yielded ops a.tmps) = true:=by simp [Region.wanted,hgd]
 rw [if_pos hw];exact SA d s ho dp sp dl dc m sc hd hs g off cur ss hg B hr hdst hfit h
end Go.Proofs.Yteofcbkjhdadpaa
namespace Go.Proofs.Yteofcbkjhdadpaa
open Go.RowKit
theorem Ctx.grown {w0 x y : World} {bs : List (Nat×List Value)} {g : Nat} (h : Ctx w0 x bs []) (hg : x.grownBy y (some g)) (hge : w0.heap.size≤g) (hn : ∀ b∈bs,b.1≠g) : Ctx w0 y bs [] :=
 ⟨h.below.trans (tO hg h.below.size (fun k hk => by injection hk with hk;omega)),fun b hm => (h.rows b hm).of_block (hg.block _ (h.rows b hm).lt (fun e => hn b hm (by injection e))),fun r hm => absurd hm (by simp)⟩
theorem Row.grown {x y : World} {g g' : Nat} {t : TypeId} {ys : List Value} (h : Row x g t ys) (hg : x.grownBy y (some g')) (hn : g≠g') : Row y g t ys:=h.of_block (hg.block _ h.lt (fun e => hn (by injection e)))
end Go.Proofs.Yteofcbkjhdadpaa
namespace Go.Proofs.Yteofcbkjhdadpaa
open Go.RowKit
def DY (c : Nat) (xs : List UInt8) (j i : Nat) : UInt8:=xs.getD (i * c + j) 0
def uG (r c : Nat) (xs : List UInt8) : List UInt8:=lZ c r (DY c xs)
theorem GG (r c n : Nat) (A : Option Addr) (cap : Nat) (xs : List UInt8) (w : World) (hr : r≤64) (hc : c≤64) (hn : Hid (n = r * c)) (hrd : Rd w w.heap.size A n (dK xs)) (hcap : n≤cap) :
  Calls Try.prog 83 #[mV r c A n cap] w fun e w' => ∃ g,e = .returned (mV c r (some ⟨g,0,none⟩) n n)∧Row w' g 5 (dK (uG r c xs))∧w.heap.size≤g∧Below w.heap.size w w':=by
 have hn2 : Hid (n = c * r):=Lib.hid (by rw [hn.out,Nat.mul_comm]);have S:=((Ctx.start w).box [.int .i64 r,.int .i64 c,.slice A n cap]).box [.int .i64 0,.int .i64 0,.slice none 0 0];obtain ⟨c0,c1,c2⟩:=S.cells 1 rfl;go_enter Try.func83,Try.ntmps83;go_wp2_with fail
 refine (DM c r n _ hc hr hn2).mono ?_;rintro e w1 ⟨gt,rfl,hrow,hgt,hb⟩;have hs:=hb.size;have hgl:=hrow.lt
 simp at hs hgt
 replace S:=(S.go hb).box [.int .i64 (c : Int),.int .i64 (r : Int),.slice (some ⟨gt,0,none⟩) n n];replace hrow:=hrow.alloc (.cells #[.int .i64 (c : Int),.int .i64 (r : Int),.slice (some ⟨gt,0,none⟩) n n] 24);rw [World.size_alloc] at S;obtain ⟨BS,hBS⟩ : ∃ BS : List (Nat×List Value),BS = [(w1.heap.size,[.int .i64 (c : Int),.int .i64 (r : Int),.slice (some ⟨gt,0,none⟩) n n]),(w.heap.size + 1,[.int .i64 0,.int .i64 0,.slice none 0 0]),(w.heap.size,[.int .i64 r,.int .i64 c,.slice A n cap])]:=⟨_,rfl⟩
 rw [← hBS] at S;have HC:=Lib.hid (show ∀ x : World,Ctx w x BS []→x.cell? ⟨w.heap.size,0,none⟩ = some (.int .i64 r)∧x.cell? ⟨w.heap.size,1,none⟩ = some (.int .i64 c)∧x.cell? ⟨w.heap.size,2,none⟩ = some (.slice A n cap)∧x.cell? ⟨w1.heap.size,0,none⟩ = some (.int .i64 c)∧x.cell? ⟨w1.heap.size,1,none⟩ = some (.int .i64 r)∧x.cell? ⟨w1.heap.size,2,none⟩ = some (.slice (some ⟨gt,0,none⟩) n n) by
  rw [hBS];exact fun x q => ⟨(q.cells 2 rfl).1,(q.cells 2 rfl).2.1,(q.cells 2 rfl).2.2,(q.cells 0 rfl).1,(q.cells 0 rfl).2.1,(q.cells 0 rfl).2.2⟩)
 have HE:=Lib.hid (show ∀ x : World,Ctx w x BS []→Row x (w.heap.size + 1) 24 [.int .i64 0,.int .i64 0,.slice none 0 0] by rw [hBS];exact fun x q => q.row 1 rfl);have HSET:=Lib.hid (show ∀ (x : World) (q : Nat) (v : Value),Ctx w x BS []→Ctx w (x.setCell ⟨gt,q,none⟩ v) BS [] by
  intro x q v h;refine h.set (p:=⟨gt,q,none⟩) (by simp;omega) ?_ v;rw [hBS]
  simp
  omega)
 clear hBS c0 c1 c2 hb;obtain ⟨c0,c1,c2,d0,d1,d2⟩:=HC.out _ S;have HF0:=LY c r (DY c xs);rw [← hn2.out] at HF0;rw [HF0] at hrow;have HS:=Lib.hid S;have HROW:=Lib.hid hrow;clear S hrow HF0;go_wp2_with fail
 go_loopw [13] (fun v13 wr => ∃ i : Nat,i≤r∧v13 = .int .i64 (i : Int)∧Row wr gt 5 (dK (vY c r (DY c xs) i 0))∧Ctx w wr BS []) (fun v13 _ => r - (intOf v13).toNat)
 case atStart => exact ⟨0,by omega,rfl,HROW.out,HS.out⟩
 case round =>
  obtain ⟨i,hi,rfl,hrow,S⟩:=hrel;clear HROW HS c0 c1 c2 d0 d1 d2;obtain ⟨wo,rfl⟩ : ∃ wo : World,wo = wr:=⟨_,rfl⟩
  obtain ⟨c0,c1,c2,d0,d1,d2⟩:=HC.out _ S;have HS:=Lib.hid S;have HROW:=Lib.hid hrow;clear S hrow
  by_cases hlt : i < r
  ·go_wp2_with fail
   clear c0 c1 c2 d0 d1 d2
   go_loopw [18] (fun v18 wr => ∃ j : Nat,j≤c∧v18 = .int .i64 (j : Int)∧Row wr gt 5 (dK (vY c r (DY c xs) i j))∧Ctx w wr BS []) (fun v18 _ => c - (intOf v18).toNat)
   case atStart => exact ⟨0,by omega,rfl,HROW.out,HS.out⟩
   case round =>
    obtain ⟨j,hj,rfl,hrow,S⟩:=hrel;clear HROW HS;obtain ⟨c0,c1,c2,d0,d1,d2⟩:=HC.out _ S
    by_cases hlj : j < c
    ·have HF:=Lib.hid (UP (R:=c) (C:=r) (i:=j) (j:=i) (DY c xs) hlj hlt)
     obtain ⟨new,hnew⟩ : ∃ new,new = vY c r (DY c xs) i (j + 1):=⟨_,rfl⟩
     rw [← hnew] at HF;have HNEW:=Lib.hid hnew;have hlen:=JB c r i j (DY c xs);have hq:=jV hlj hlt;have hp:=jV hlt hlj;obtain ⟨v,hv⟩ : ∃ v,v = xs.getD (i * c + j) 0:=⟨_,rfl⟩
     have HV:=Lib.hid hv;rw [show DY c xs j i = v from hv.symm] at HF;have e1 : (i + 1) * c = i * c + c:=by rw [Nat.add_mul];omega
     have e2 : (j + 1) * r = j * r + r:=by rw [Nat.add_mul];omega
     have hk1 : i * c + c≤n:=by rw [hn.out,← e1];exact Nat.mul_le_mul_right c hlt
     have hk2 : j * r + r≤n:=by rw [hn2.out,← e2];exact Nat.mul_le_mul_right r hlj
     rw [← hn.out] at hp;rw [← hn2.out] at hq hlen;obtain ⟨kr,hkr⟩ : ∃ k,k = i * c:=⟨_,rfl⟩
     obtain ⟨kt,hkt⟩ : ∃ k,k = j * r:=⟨_,rfl⟩
     have oA:=Lib.hid (fun w => pP c r j (some ⟨gt,0,none⟩) n n kt (kt + r) w hc hr hlj hkt (Lib.hid (by rw [hkt];exact e2.symm)) (by rw [hkt];exact hk2) (Nat.le_refl _));have FN:=Lib.hid (fun w => pP r c i A n cap kr (kr + c) w hr hc hlt hkr (Lib.hid (by rw [hkr];exact e1.symm)) (by rw [hkr];exact hk1) hcap);rw [pJ (by omega),Nat.zero_add] at oA;rw [← hkr] at hp hv hk1;rw [← hkt] at hq hk2 HF;clear hkr hkt e1 e2 hnew HV;obtain ⟨g,o,rfl,hg,hcell⟩:=mJ hrd hp;rw [← hv,← Nat.add_assoc] at hcell;rw [pJ (by omega)] at FN;clear hv;obtain ⟨P,hP⟩ : ∃ P : World→Prop,P = fun x => Ctx w x BS []∧yM x gt (kt + i) v new:=⟨_,rfl⟩
     have hp0 : P wr:=by rw [hP];exact ⟨S,_,by rw [hlen];exact hq,HF.out,hrow⟩
     obtain ⟨cur,hcur⟩ : ∃ cur : World→Value,∀ x,P x→x.cell? ⟨gt,kt + i,none⟩ = some (cur x):=by
      refine ⟨fun x => (x.cell? ⟨gt,kt + i,none⟩).getD (.bool false),fun x hx => ?_⟩;rw [hP] at hx;obtain ⟨old,h⟩:=hx.2.cell
      simp [h]
     have HG:=Lib.hid (show ∀ x y : World,P x→Below x.heap.size x y→P y by rw [hP];exact fun x y q hb => ⟨q.1.go hb,q.2.go hb⟩);have HD:=Lib.hid (show ∀ x : World,P x→P x.drew by rw [hP];exact fun x q => ⟨q.1.drew,q.2.drew⟩);have HST:=Lib.hid (show ∀ x : World,P x→P (x.setCell ⟨gt,kt + i,none⟩ (.int .u8 (v.toNat : Int))) by rw [hP];exact fun x q => ⟨HSET.out _ _ _ q.1,q.2.set⟩);have HCC:=Lib.hid (show ∀ x : World,P x→x.cell? ⟨w.heap.size,0,none⟩ = some (.int .i64 r)∧x.cell? ⟨w.heap.size,1,none⟩ = some (.int .i64 c)∧x.cell? ⟨w.heap.size,2,none⟩ = some (.slice (some ⟨g,o,none⟩) n cap)∧x.cell? ⟨w1.heap.size,0,none⟩ = some (.int .i64 c)∧x.cell? ⟨w1.heap.size,1,none⟩ = some (.int .i64 r)∧x.cell? ⟨w1.heap.size,2,none⟩ = some (.slice (some ⟨gt,0,none⟩) n n)∧x.cell? ⟨g,o + kr + j,none⟩ = some (.int .u8 (v.toNat : Int))∧x.cell? ⟨gt,kt + i,none⟩ = some (cur x)∧x.frozen? ⟨gt,kt + i,none⟩ = false by
      intro x q;have h:=hcur x q;rw [hP] at q;obtain ⟨q1,q2,q3,q4,q5,q6⟩:=HC.out x q.1;exact ⟨q1,q2,q3,q4,q5,q6,(q.1.below.cell (p:=⟨g,o + kr + j,none⟩) hg).trans hcell,h,q.2.frozen⟩)
     have HALL:=Lib.hid (show ∀ x : World,P (x.setCell ⟨gt,kt + i,none⟩ (.int .u8 (v.toNat : Int)))→Ctx w (x.setCell ⟨gt,kt + i,none⟩ (.int .u8 (v.toNat : Int))) BS []∧Row (x.setCell ⟨gt,kt + i,none⟩ (.int .u8 (v.toNat : Int))) gt 5 (dK new) by rw [hP];exact fun x q => ⟨q.1,q.2.fin⟩);clear hP hcur S hrow hcell;go_wp2_with fail
     have hc:=HCC.out _ hp0
     go_region_held3 (fun x => P x∧x.cell? ⟨w.heap.size,0,none⟩ = some (.int .i64 r)∧x.cell? ⟨w.heap.size,1,none⟩ = some (.int .i64 c)∧x.cell? ⟨w.heap.size,2,none⟩ = some (.slice (some ⟨g,o,none⟩) n cap)∧x.cell? ⟨w1.heap.size,0,none⟩ = some (.int .i64 c)∧x.cell? ⟨w1.heap.size,1,none⟩ = some (.int .i64 r)∧x.cell? ⟨w1.heap.size,2,none⟩ = some (.slice (some ⟨gt,0,none⟩) n n)∧x.cell? ⟨g,o + kr + j,none⟩ = some (.int .u8 (v.toNat : Int))∧x.cell? ⟨gt,kt + i,none⟩ = some (cur x)∧x.frozen? ⟨gt,kt + i,none⟩ = false)
      (first | (go_split_ands;have q:=HG.out _ _ (by assumption) hbk;exact ⟨q,HCC.out _ q⟩) | (go_split_ands;have q:=HST.out _ (by assumption);exact ⟨q,HCC.out _ q⟩) | (go_split_ands;have q:=HD.out _ (by assumption);exact ⟨q,HCC.out _ q⟩))
      (first | (go_at_call 79;(first | (with_reducible refine (oA.out _).mono ?_) | (with_reducible refine (FN.out _).mono ?_));rintro e wk ⟨rfl,hbk⟩))
     go_wp2_with fail
     go_split_ands
     go_roundw
     case rel => exact ⟨j + 1,by omega,by go_num,by rw [← HNEW.out];exact (HALL.out _ (by assumption)).2,(HALL.out _ (by assumption)).1⟩
     case measure => simp [intOf];omega
    ·obtain rfl : j = c:=by omega
     have HN:=Lib.hid (QS j r i (DY j xs));go_wp2_with fail
     go_roundw
     case rel => exact ⟨i + 1,by omega,by go_num,by rw [← HN.out];exact hrow,S⟩
     case measure => simp [intOf];omega
  ·obtain rfl : i = r:=by omega
   obtain ⟨e0,e1,e2,f0,f1,f2⟩:=(HE.out _ HS.out).three;have HN:=Lib.hid (UQ c i (DY c xs));go_wp2_with fail
   refine bodyPost_ret (v:=mV c i (some ⟨gt,0,none⟩) n n) (by simp [results,Try.results83,go_sem,e0,e1,e2]) rfl ⟨gt,rfl,?_,by omega,bZ HS.out.below (by omega) _ _ _⟩;have h:=HROW.out;rw [HN.out] at h;exact h.CA (by omega) _ _ _
end Go.Proofs.Yteofcbkjhdadpaa
namespace Go.Proofs.Yteofcbkjhdadpaa
open Go.RowKit
def KJ (ca cb : Nat) (xs ys : List UInt8) (i j : Nat) : UInt8:=PM ca fun k => Gf.mul (xs.getD (i * ca + k) 0) (ys.getD (k * cb + j) 0)
def aAp (ra ca cb : Nat) (xs ys : List UInt8) : List UInt8:=lZ ra cb (KJ ca cb xs ys)
theorem aIt {ra ca cb i j : Nat} {xs ys : List UInt8} (hx : xs.length = ra * ca) (hi : i < ra) (hj : j < cb) :
  Gf.dot ((xs.drop (i * ca)).take ca) (((uG ca cb ys).drop (j * ca)).take ca) = KJ ca cb xs ys i j:=by
 have hl : ((xs.drop (i * ca)).take ca).length = ca:=by
  rw [List.length_take,List.length_drop,hx];have h : (i + 1) * ca≤ra * ca:=Nat.mul_le_mul_right ca hi;rw [Nat.add_mul] at h;omega
 rw [aLt hl];unfold KJ uG;rw [aIh _ hj];refine aBQ fun k hk => ?_
 congr 1
 ·rw [List.getD_eq_getElem?_getD,List.getElem?_take,if_pos hk,List.getElem?_drop,List.getD_eq_getElem?_getD]
 ·rw [List.getD_eq_getElem?_getD,List.getElem?_map,List.getElem?_range hk]
  rfl
theorem uO (r c : Nat) (xs : List UInt8) : (uG r c xs).length = c * r:=hY _ _ _
def qN (ra ca : Int) (n : Nat) (rb cb : Int) (m : Nat) : Bool:=bM ra ca n && bM rb cb m && (ca == rb)
theorem PS {r c : Int} {n : Nat} (h : bM r c n = true) : ∃ a b : Nat,r = a∧c = b∧a≤64∧b≤64∧n = a * b:=by
 simp [bM] at h
 refine ⟨r.toNat,c.toNat,by omega,by omega,by omega,by omega,?_⟩;apply Int.ofNat_inj.1;rw [Int.natCast_mul,Int.toNat_of_nonneg h.1.1,Int.toNat_of_nonneg h.2.1.1];exact h.2.2
theorem aFT {ra ca rb cb : Int} {na nb : Nat} (h : qN ra ca na rb cb nb = true) : ∃ a b c : Nat,ra = a∧ca = b∧rb = b∧cb = c∧a≤64∧b≤64∧c≤64∧na = a * b∧nb = b * c:=by
 simp [qN] at h
 obtain ⟨a,b,h1,h2,h3,h4,h5⟩:=PS h.1.1;obtain ⟨b',c,h6,h7,h8,h9,h10⟩:=PS h.1.2;have:=h.2;obtain rfl : b = b':=by omega
 exact ⟨a,b,c,h1,h2,h6,h7,h3,h4,h9,h5,h10⟩
end Go.Proofs.Yteofcbkjhdadpaa
namespace Go.Proofs.Yteofcbkjhdadpaa
def yI (f : Nat→UInt8) (n i : Nat) : List UInt8:=(List.range i).map f ++ List.replicate (n - i) 0
theorem aIo (f : Nat→UInt8) {n i : Nat} (h : i≤n) : (yI f n i).length = n:=by simp [yI];omega
theorem aGf (f : Nat→UInt8) (n : Nat) : yI f n 0 = List.replicate n 0:=by simp [yI]
theorem aIp (f : Nat→UInt8) (n : Nat) : yI f n n = (List.range n).map f:=by simp [yI]
theorem aIn (f : Nat→UInt8) {n i : Nat} (h : i < n) : (yI f n i).set i (f i) = yI f n (i + 1):=by
 unfold yI;have hl : ((List.range i).map f).length = i:=by simp
 rw [List.set_append_right _ _ (by omega),hl,Nat.sub_self];obtain ⟨k,hk⟩ : ∃ k,n - i = k + 1:=⟨n - i - 1,by omega⟩
 rw [hk,List.replicate_succ,cL,List.range_succ,List.map_append,List.append_assoc]
 congr 2
 simp
 omega
theorem SU (xs : List UInt8) (g : UInt8→UInt8) : (List.range xs.length).map (fun j => g (xs.getD j 0)) = xs.map g:=by
 apply List.ext_getElem?;intro j
 by_cases h : j < xs.length
 ·simp [h,List.getD]
 ·simp [h]
theorem PX (xs ys : List UInt8) (g : UInt8→UInt8→UInt8) (h : xs.length = ys.length) : (List.range xs.length).map (fun j => g (xs.getD j 0) (ys.getD j 0)) = List.zipWith g xs ys:=by
 apply List.ext_getElem?;intro j
 by_cases hj : j < xs.length
 ·have hj' : j < ys.length:=by omega
  rw [List.getElem?_zipWith]
  simp [hj,hj',List.getD]
 ·have hj' : ¬ j < ys.length:=by omega
  rw [List.getElem?_zipWith]
  simp [hj]
def PC (f : Nat→UInt8) (ys : List UInt8) (i : Nat) : List UInt8:=(List.range i).map f ++ ys.drop i
theorem aJL (f : Nat→UInt8) (ys : List UInt8) : PC f ys 0 = ys:=by simp [PC]
theorem aNy (f : Nat→UInt8) (ys : List UInt8) : PC f ys ys.length = (List.range ys.length).map f:=by simp [PC]
theorem aNw (f : Nat→UInt8) {ys : List UInt8} {i : Nat} (h : i < ys.length) : (PC f ys i).set i (f i) = PC f ys (i + 1):=by
 unfold PC;have hl : ((List.range i).map f).length = i:=by simp
 rw [List.set_append_right _ _ (by omega),hl,Nat.sub_self,List.drop_eq_getElem_cons h,cL,List.range_succ,List.map_append,List.append_assoc];rfl
theorem aNx (f : Nat→UInt8) {ys : List UInt8} {i : Nat} (h : i < ys.length) : (PC f ys i).getD i 0 = ys.getD i 0:=by
 unfold PC;have hl : ((List.range i).map f).length = i:=by simp
 simp [List.getD,List.getElem?_append_right,hl,h]
theorem aHT {xs : List UInt8} (g : UInt8→UInt8) {i : Nat} (h : i < xs.length) : (xs.map g).getD i 0 = g (xs.getD i 0):=by simp [List.getD,h]
end Go.Proofs.Yteofcbkjhdadpaa
namespace Go.Proofs.Yteofcbkjhdadpaa
open Go.RowKit
theorem aGj (a : Option Addr) (n ac : Nat) (b : Option Addr) (bc : Nat) (xs ys : List UInt8) (w : World) (ha : Rd w w.heap.size a n (dK xs)) (hb : Rd w w.heap.size b n (dK ys)) (hn : n≤140737488355328) :
  Calls Try.prog 84 #[.slice a n ac,.slice b n bc] w fun e w' => e = .returned (.tuple #[.int .u8 ((Gf.dot xs ys).toNat : Int),.int .i64 0])∧Below w.heap.size w w':=by
 have hq : ((n : Int) != (n : Int)) = false:=by rw [bne_eq_false_iff_eq]
 have HL:=Lib.hid (show xs.length = n by have:=ha.len;rw [bC] at this;exact this);obtain ⟨Z,hzv,HZ0,HSZ⟩:=zO;go_enter Try.func84,Try.ntmps84;go_wp2_with (first | (go_at_call 90;refine (CH _).mono ?_;rintro e w1 ⟨T,hT,rfl,hb1⟩) | (refine sC (.tmp 6) (.tmp 15) rfl rfl T Z hT HZ0 HSZ rfl rfl ?_;intro w2 hs2 hg2 hb2))
 have HT:=Lib.hid (kY.mk hT hg2);have HB:=Lib.hid (hb1.trans (hb2.mono hb1.size));have hsz:=hb1.size;clear hT hg2 hb2 HZ0 HSZ hzv hs2
 go_loopw [7,18] (fun v7 v18 wr => ∃ i : Nat,i≤n∧v18 = .int .i64 (i : Int)∧v7 = .int .u8 ((Gf.JC xs ys i).toNat : Int)∧kY wr w1.heap.size∧Below w.heap.size w wr) (fun _ v18 _ => n - (intOf v18).toNat)
 case atStart => exact ⟨0,by omega,rfl,rfl,HT.out,HB.out⟩
 case round =>
  obtain ⟨i,hi,rfl,rfl,ht,hbw⟩:=hrel;clear HT HB
  by_cases hlt : i < n
  ·obtain ⟨g,o,rfl,hg,hcell⟩:=mJ (ha.below hbw (Nat.le_refl _)) hlt
   obtain ⟨g1,o1,rfl,hg1,hcell1⟩:=mJ (hb.below hbw (Nat.le_refl _)) hlt;have hx:=xP (Gf.JC xs ys i) (Gf.mul (xs.getD i 0) (ys.getD i 0));have HD:=Lib.hid (show Gf.JC xs ys (i + 1) = Gf.add (Gf.JC xs ys i) (Gf.mul (xs.getD i 0) (ys.getD i 0)) from rfl);generalize xs.getD i 0 = x at *;generalize ys.getD i 0 = y at *;generalize Gf.JC xs ys i = s at *;have HB:=Lib.hid hbw;have HA:=Lib.hid ha;have HBB:=Lib.hid hb;clear hbw ha hb;go_wp2_with (go_at_call 100;refine (PD _ _ _ _ ht).mono ?_;rintro e w' ⟨rfl,nd,rfl⟩)
   go_roundw
   case rel => exact ⟨i + 1,by omega,by go_num,by rw [HD.out],ht.drewN nd,below_drewN HB.out nd⟩
   case measure => simp [intOf];omega
  ·obtain rfl : i = n:=by omega
   go_wp2_with fail
   go_ret2
   exact ⟨by rw [Gf.dot,HL.out];rfl,hbw⟩
end Go.Proofs.Yteofcbkjhdadpaa
namespace Go.Proofs.Yteofcbkjhdadpaa
open Go.RowKit
def aOI (w : World) (BS : List (Nat×List Value)) (ra ca cb p nb : Nat) (T : List UInt8) (s6 s7 : Value) (x : World) : Prop :=
 ∃ g6 g7 gm gt : Nat,s6 = .pointer (some ⟨g6,0,none⟩)∧s7 = .pointer (some ⟨g7,0,none⟩)∧w.heap.size + 3≤g6∧w.heap.size + 3≤g7∧w.heap.size + 3≤gm∧gm≠g6∧gm≠g7∧gm≠gt∧gt≠g6∧gt≠g7∧g6≠g7 ∧
  Ctx w x ((g6,[.int .i64 ra,.int .i64 cb,.slice (some ⟨gm,0,none⟩) p p]) :: (g7,[.int .i64 cb,.int .i64 ca,.slice (some ⟨gt,0,none⟩) nb nb]) :: BS) []∧Row x gm 5 (dK (List.replicate p 0))∧Row x gt 5 (dK T)
theorem aKl (ra ca cb na nb p : Nat) (A B : Option Addr) (cap capb : Nat) (xs ys : List UInt8) (w : World) (hra : ra≤64) (hca : ca≤64) (hcb : cb≤64) (hna : Hid (na = ra * ca)) (hnb : Hid (nb = ca * cb)) (hp : Hid (p = ra * cb))
  (hx : Rd w w.heap.size A na (dK xs)) (hy : Rd w w.heap.size B nb (dK ys)) (hcap : na≤cap) (hcapb : nb≤capb) :
  Calls Try.prog 50 #[mV ra ca A na cap,mV ca cb B nb capb] w fun e w' => ∃ g,e = .returned (.tuple #[mV ra cb (some ⟨g,0,none⟩) p p,.int .i64 0])∧Row w' g 5 (dK (aAp ra ca cb xs ys))∧w.heap.size≤g∧Below w.heap.size w w':=by
 have oA:=Lib.hid (fun w => fF ra ca A na cap w);have FN:=Lib.hid (fun w => fF ca cb B nb capb w);rw [show bM ra ca na = true by simp [bM,hna.out];omega] at oA;rw [show bM ca cb nb = true by simp [bM,hnb.out];omega] at FN;have S:=(((Ctx.start w).box [.int .i64 ra,.int .i64 ca,.slice A na cap]).box [.int .i64 ca,.int .i64 cb,.slice B nb capb]).box [.int .i64 0,.int .i64 0,.slice none 0 0];simp only [World.size_alloc] at S;obtain ⟨c0,c1,c2⟩:=S.cells 2 rfl;obtain ⟨d0,d1,d2⟩:=S.cells 1 rfl;have hsz:=S.lt 0 rfl;obtain ⟨T,hT⟩ : ∃ T,T = uG ca cb ys:=⟨_,rfl⟩
 have HT:=Lib.hid hT;clear hT;go_enter Try.func50,Try.ntmps50;go_upto_region 3 with (first | (go_at_call 76;(first | (with_reducible refine (oA.out _).mono ?_) | (with_reducible refine (FN.out _).mono ?_));rintro e w1 ⟨rfl,hb⟩;replace S:=S.go hb;clear hb c0 c1 c2 d0 d1 d2 hsz;have hsz:=S.lt 0 rfl;obtain ⟨c0,c1,c2⟩:=S.cells 2 rfl;obtain ⟨d0,d1,d2⟩:=S.cells 1 rfl))
 clear c0 c1 c2 d0 d1 d2 oA FN;obtain ⟨BS,hBS⟩ : ∃ BS : List (Nat×List Value),BS = [(w.heap.size + 1 + 1,[.int .i64 0,.int .i64 0,.slice none 0 0]),(w.heap.size + 1,[.int .i64 ca,.int .i64 cb,.slice B nb capb]),(w.heap.size,[.int .i64 ra,.int .i64 ca,.slice A na cap])]:=⟨_,rfl⟩
 have S2 : Ctx w w1 BS []:=by rw [hBS];exact S
 clear S;have HC:=Lib.hid (show ∀ x : World,Ctx w x BS []→x.cell? ⟨w.heap.size,0,none⟩ = some (.int .i64 ra)∧x.cell? ⟨w.heap.size + 1,1,none⟩ = some (.int .i64 cb)∧x.cell? ⟨w.heap.size + 1,0,none⟩ = some (.int .i64 ca)∧x.cell? ⟨w.heap.size + 1,2,none⟩ = some (.slice B nb capb) by
  rw [hBS];exact fun x q => ⟨(q.cells 2 rfl).1,(q.cells 1 rfl).2.1,(q.cells 1 rfl).1,(q.cells 1 rfl).2.2⟩)
 have HBS:=Lib.hid hBS;clear hBS
 go_cut [6,7] from 6 to 60 (fun s6 s7 wx => aOI w BS ra ca cb p nb T s6 s7 wx)
 case first =>
  obtain ⟨P,hP⟩ : ∃ P : World→Prop,P = fun x => Ctx w x BS []:=⟨_,rfl⟩
  have hp0 : P w1:=by rw [hP];exact S2
  have HB:=Lib.hid (show ∀ x : World,P x→Calls Try.prog 78 #[.int .i64 ra,.int .i64 cb] x fun e w' => ∃ g,e = .returned (mV ra cb (some ⟨g,0,none⟩) p p)∧Row w' g 5 (dK (List.replicate p 0))∧x.heap.size≤g∧Below x.heap.size x w' from fun x _ => DM ra cb p x hra hcb hp);have HTU:=Lib.hid (show ∀ x : World,P x→Calls Try.prog 83 #[mV ca cb B nb capb] x fun e w' => ∃ g,e = .returned (mV cb ca (some ⟨g,0,none⟩) nb nb)∧Row w' g 5 (dK T)∧x.heap.size≤g∧Below x.heap.size x w' by
   rw [hP,HT.out];exact fun x q => GG ca cb nb B capb ys x hca hcb hnb (hy.go q.below) hcapb)
  have HG:=Lib.hid (show ∀ x y : World,P x→Below x.heap.size x y→P y by rw [hP];exact fun x y q hb => q.go hb);have HA:=Lib.hid (show ∀ (x : World) o,P x→P (x.alloc o) by rw [hP];exact fun x o q => q.alloc o);have HD:=Lib.hid (show ∀ (x : World),P x→P x.drew by rw [hP];exact fun x q => q.drew);have HCC:=Lib.hid (show ∀ x : World,P x→x.cell? ⟨w.heap.size,0,none⟩ = some (.int .i64 ra)∧x.cell? ⟨w.heap.size + 1,1,none⟩ = some (.int .i64 cb)∧x.cell? ⟨w.heap.size + 1,0,none⟩ = some (.int .i64 ca)∧x.cell? ⟨w.heap.size + 1,2,none⟩ = some (.slice B nb capb) by rw [hP];exact HC.out);have HST:=Lib.hid (show ∀ (x : World) (a : Addr) (u : Value),w.heap.size + 3≤a.block→P x→P (x.setCell a u) by
   rw [hP];intro x a u ha q;refine q.set (by omega) ?_ u;rw [HBS.out]
   simp
   omega)
  have HPS:=Lib.hid (show ∀ (x : World),P x→w.heap.size + 3≤x.heap.size by
   rw [hP,HBS.out];intro x q;have:=q.lt 0 rfl;omega)
  have HFIN:=Lib.hid (show ∀ x,P x→Ctx w x BS [] by rw [hP];exact fun x q => q);clear hP S2;have hc:=HCC.out _ hp0;have hz1:=HPS.out _ hp0
  go_region_held3 (fun x => P x∧x.cell? ⟨w.heap.size,0,none⟩ = some (.int .i64 ra)∧x.cell? ⟨w.heap.size + 1,1,none⟩ = some (.int .i64 cb)∧x.cell? ⟨w.heap.size + 1,0,none⟩ = some (.int .i64 ca)∧x.cell? ⟨w.heap.size + 1,2,none⟩ = some (.slice B nb capb))
   (first | (refine ⟨?_,HCC.out _ ?_⟩ <;> (repeat' (first | with_reducible exact hp0 | with_reducible refine HD.out _ ?_ | with_reducible exact hpt | with_reducible exact hpb | with_reducible refine HA.out _ _ ?_ | with_reducible refine HST.out _ _ _ (by (try dsimp only);(try simp only [World.size_alloc]);first | omega | (simp;omega)) ?_))))
   (first | (go_at_call 78;(try go_split_ands);refine (HB.out _ (by assumption)).mono ?_;rintro e wb ⟨gm,rfl,hrowm,hgm,hbm⟩;have hpb:=HG.out _ _ (by assumption) hbm;have hzb:=HPS.out _ hpb;have lM:=hrowm.lt;(try simp only [World.size_alloc,size_drew] at hgm);(try ((first | (have rA:=aBe hbm) | (have rA:=aGx hbm));(try simp only [World.size_alloc] at rA);obtain ⟨a0,a1,a2,a3,a4,a5⟩:=rA.three;have lA:=rA.lt));(try ((first | (have rB:=aBd hbm) | (have rB:=aGw hbm));obtain ⟨b0,b1,b2,b3,b4,b5⟩:=rB.three;have lB:=rB.lt))) | (go_at_call 83;(try go_split_ands);refine (HTU.out _ (by assumption)).mono ?_;rintro e wt ⟨gt,rfl,hrowt,hgt,hbt⟩;have hpt:=HG.out _ _ (by assumption) hbt;have hzt:=HPS.out _ hpt;have lT:=hrowt.lt;(try simp only [World.size_alloc,size_drew] at hgt);(first | (have rM:=KR hrowm hbt) | (have rM:=aCB hrowm hbt) | (have rM:=aCA hrowm hbt));have lM2:=rM.lt;(try (have rC:=aBe hbt;(try simp only [World.size_alloc] at rC);obtain ⟨a0,a1,a2,a3,a4,a5⟩:=rC.three;have lC:=rC.lt));(try (have rD:=aBd hbt;obtain ⟨b0,b1,b2,b3,b4,b5⟩:=rD.three;have lD:=rD.lt));(try ((first | (have rE:=KR rA hbt) | (have rE:=aCB rA hbt) | (have rE:=aCA rA hbt));obtain ⟨a0,a1,a2,a3,a4,a5⟩:=rE.three;have lE:=rE.lt));(try ((first | (have rF:=KR rB hbt) | (have rF:=aCB rB hbt) | (have rF:=aCA rB hbt));obtain ⟨b0,b1,b2,b3,b4,b5⟩:=rF.three;have lF:=rF.lt))))
  all_goals (go_split_ands;go_wp2_with fail;go_meet;refine ⟨_,_,gm,gt,rfl,rfl,by omega,by omega,by omega,by omega,by omega,by omega,by omega,by omega,by omega,((HFIN.out _ (by assumption)).cons ?_).cons ?_,?_,?_⟩ <;> (repeat' (first | with_reducible assumption | with_reducible refine Row.aWl _ _ _ (by first | with_reducible rfl | (simp;done)) | with_reducible refine Row.drew ?_ | with_reducible refine Row.alloc ?_ _ | with_reducible refine Row.aPx (a:=.int .i64 0) (b:=.int .i64 0) (c:=.slice none 0 0) ?_ _ _ _ | with_reducible refine Row.CA ?_ (by omega) _ _ _)))
 case rest =>
  clear S2 HC;obtain ⟨g6,g7,gm,gt,rfl,rfl,k6,k7,km,n1,n2,n3,n4,n5,n6,S,hrow,hrt⟩:=hcut;obtain ⟨B2,hB2⟩ : ∃ B2 : List (Nat×List Value),B2 = (g6,[.int .i64 ra,.int .i64 cb,.slice (some ⟨gm,0,none⟩) p p]) :: (g7,[.int .i64 cb,.int .i64 ca,.slice (some ⟨gt,0,none⟩) nb nb]) :: BS:=⟨_,rfl⟩
  rw [← hB2] at S;rw [HBS.out] at hB2;have HC:=Lib.hid (show ∀ x : World,Ctx w x B2 []→x.cell? ⟨w.heap.size,0,none⟩ = some (.int .i64 ra)∧x.cell? ⟨w.heap.size,1,none⟩ = some (.int .i64 ca)∧x.cell? ⟨w.heap.size,2,none⟩ = some (.slice A na cap)∧x.cell? ⟨g6,0,none⟩ = some (.int .i64 ra)∧x.cell? ⟨g6,1,none⟩ = some (.int .i64 cb)∧x.cell? ⟨g6,2,none⟩ = some (.slice (some ⟨gm,0,none⟩) p p)∧x.cell? ⟨g7,0,none⟩ = some (.int .i64 cb)∧x.cell? ⟨g7,1,none⟩ = some (.int .i64 ca)∧x.cell? ⟨g7,2,none⟩ = some (.slice (some ⟨gt,0,none⟩) nb nb) by
   rw [hB2];exact fun x q => ⟨(q.cells 4 rfl).1,(q.cells 4 rfl).2.1,(q.cells 4 rfl).2.2,(q.cells 0 rfl).1,(q.cells 0 rfl).2.1,(q.cells 0 rfl).2.2,(q.cells 1 rfl).1,(q.cells 1 rfl).2.1,(q.cells 1 rfl).2.2⟩)
  have HE:=Lib.hid (show ∀ x : World,Ctx w x B2 []→Row x (w.heap.size + 1 + 1) 24 [.int .i64 0,.int .i64 0,.slice none 0 0] by rw [hB2];exact fun x q => q.row 2 rfl);have HSET:=Lib.hid (show ∀ (x : World) (q : Nat) (v : Value),Ctx w x B2 []→Ctx w (x.setCell ⟨gm,q,none⟩ v) B2 [] by
   intro x q v h;refine h.set (p:=⟨gm,q,none⟩) (by simp;omega) ?_ v;rw [hB2]
   simp
   omega)
  clear hB2 HBS;obtain ⟨F,hF⟩ : ∃ F,F = KJ ca cb xs ys:=⟨_,rfl⟩
  have HF:=Lib.hid hF;clear hF;have hF0:=xO ra cb F;rw [← hp.out] at hF0;rw [hF0] at hrow;clear hF0;obtain ⟨c0,c1,c2,d0,d1,d2,e0,e1,e2⟩:=HC.out _ S;have HS:=Lib.hid S;have HROW:=Lib.hid hrow;have HRT:=Lib.hid hrt;clear S hrow hrt;go_wp2_with fail
  clear c0 c1 c2 d0 d1 d2 e0 e1 e2
  go_loopw [35] (fun v35 wr => ∃ i : Nat,i≤ra∧v35 = .int .i64 (i : Int)∧Row wr gm 5 (dK (jC ra cb F i 0))∧Row wr gt 5 (dK T)∧Ctx w wr B2 []) (fun v35 _ => ra - (intOf v35).toNat)
  case atStart => exact ⟨0,by omega,rfl,HROW.out,HRT.out,HS.out⟩
  case round =>
   obtain ⟨i,hi,rfl,hrow,hrt,S⟩:=hrel;clear HROW HS HRT;obtain ⟨wo,rfl⟩ : ∃ wo : World,wo = wr:=⟨_,rfl⟩
   obtain ⟨c0,c1,c2,d0,d1,d2,e0,e1,e2⟩:=HC.out _ S;have HS:=Lib.hid S;have HROW:=Lib.hid hrow;have HRT:=Lib.hid hrt;clear S hrow hrt
   by_cases hlt : i < ra
   ·go_wp2_with fail
    clear c0 c1 c2 d0 d1 d2 e0 e1 e2
    go_loopw [40] (fun v40 wr => ∃ j : Nat,j≤cb∧v40 = .int .i64 (j : Int)∧Row wr gm 5 (dK (jC ra cb F i j))∧Row wr gt 5 (dK T)∧Ctx w wr B2 []) (fun v40 _ => cb - (intOf v40).toNat)
    case atStart => exact ⟨0,by omega,rfl,HROW.out,HRT.out,HS.out⟩
    case round =>
     obtain ⟨j,hj,rfl,hrow,hrt,S⟩:=hrel;clear HROW HS HRT;obtain ⟨c0,c1,c2,d0,d1,d2,e0,e1,e2⟩:=HC.out _ S
     by_cases hlj : j < cb
     ·have HFS:=Lib.hid (DJ (R:=ra) (C:=cb) (i:=i) (j:=j) F hlt hlj)
      obtain ⟨new,hnew⟩ : ∃ new,new = jC ra cb F i (j + 1):=⟨_,rfl⟩
      rw [← hnew] at HFS;have HNEW:=Lib.hid hnew;have hlen:=rI ra cb i j F;have hq:=jV hlt hlj;have hxl : xs.length = ra * ca:=by have:=hx.len;rw [bC] at this;rw [this,hna.out]
      have HV:=aIt (ys:=ys) hxl hlt hlj;rw [← HT.out,← HF.out] at HV;have hTl : T.length = nb:=by rw [HT.out,uO,hnb.out,Nat.mul_comm]
      obtain ⟨v,hv⟩ : ∃ v,v = F i j:=⟨_,rfl⟩
      rw [← hv] at HFS HV;have f1 : (i + 1) * cb = i * cb + cb:=by rw [Nat.add_mul];omega
      have f2 : (i + 1) * ca = i * ca + ca:=by rw [Nat.add_mul];omega
      have f3 : (j + 1) * ca = j * ca + ca:=by rw [Nat.add_mul];omega
      have h1 : i * cb + cb≤p:=by rw [hp.out,← f1];exact Nat.mul_le_mul_right cb hlt
      have h2 : i * ca + ca≤na:=by rw [hna.out,← f2];exact Nat.mul_le_mul_right ca hlt
      have h3 : j * ca + ca≤nb:=by rw [hnb.out,Nat.mul_comm ca cb,← f3];exact Nat.mul_le_mul_right ca hlj
      rw [← hp.out] at hq hlen;obtain ⟨kr,hkr⟩ : ∃ k,k = i * cb:=⟨_,rfl⟩
      obtain ⟨ka,hka⟩ : ∃ k,k = i * ca:=⟨_,rfl⟩
      obtain ⟨kb,hkb⟩ : ∃ k,k = j * ca:=⟨_,rfl⟩
      have oA:=Lib.hid (fun w => pP ra cb i (some ⟨gm,0,none⟩) p p kr (kr + cb) w hra hcb hlt hkr (Lib.hid (by rw [hkr];exact f1.symm)) (by rw [hkr];exact h1) (Nat.le_refl _));have FN:=Lib.hid (fun w => pP ra ca i A na cap ka (ka + ca) w hra hca hlt hka (Lib.hid (by rw [hka];exact f2.symm)) (by rw [hka];exact h2) hcap);have HR3:=Lib.hid (fun w => pP cb ca j (some ⟨gt,0,none⟩) nb nb kb (kb + ca) w hcb hca hlj hkb (Lib.hid (by rw [hkb];exact f3.symm)) (by rw [hkb];exact h3) (Nat.le_refl _));rw [pJ (by omega),Nat.zero_add] at oA;rw [← hkr] at hq h1 HFS;rw [← hka] at h2 HV;rw [← hkb] at h3 HV;clear hkr hka hkb f1 f2 f3 hnew hv;obtain ⟨ra1,hra1⟩ : ∃ l,l = (xs.drop ka).take ca:=⟨_,rfl⟩
      obtain ⟨rt1,hrt1⟩ : ∃ l,l = (T.drop kb).take ca:=⟨_,rfl⟩
      rw [← hra1,← hrt1] at HV;obtain ⟨P,hP⟩ : ∃ P : World→Prop,P = fun x => Ctx w x B2 []∧Row x gt 5 (dK T)∧yM x gm (kr + j) v new:=⟨_,rfl⟩
      have hp0 : P wr:=by rw [hP];exact ⟨S,hrt,_,by rw [hlen];exact hq,HFS.out,hrow⟩
      have HCUR : ∀ x,P x → ∃ old,x.cell? ⟨gm,kr + j,none⟩ = some old:=by rw [hP];exact fun x q => q.2.2.cell
      obtain ⟨cur,hcur⟩ : ∃ cur : World→Value,∀ x,P x→x.cell? ⟨gm,kr + j,none⟩ = some (cur x):=by
       refine ⟨fun x => (x.cell? ⟨gm,kr + j,none⟩).getD (.bool false),fun x hx => ?_⟩;obtain ⟨old,h⟩:=HCUR x hx
       simp [h]
      have HDOT:=Lib.hid (show ∀ x : World,P x→Calls Try.prog 84 #[.slice (vP A ca ka) ca ca,.slice (vP (some ⟨gt,0,none⟩) ca kb) ca ca] x fun e w' => e = .returned (.tuple #[.int .u8 (v.toNat : Int),.int .i64 0])∧Below x.heap.size x w' by
       rw [hP,← HV,hra1,hrt1];exact fun x q => aGj _ _ _ _ _ _ _ _ (aCa (hx.go q.1.below) h2) (aCa (q.2.1.rd hTl) h3) (by omega))
      have HG:=Lib.hid (show ∀ x y : World,P x→Below x.heap.size x y→P y by rw [hP];exact fun x y q hb => ⟨q.1.go hb,KR q.2.1 hb,q.2.2.go hb⟩);have HD:=Lib.hid (show ∀ x : World,P x→P x.drew by rw [hP];exact fun x q => ⟨q.1.drew,q.2.1,q.2.2.drew⟩);have HST:=Lib.hid (show ∀ x : World,P x→P (x.setCell ⟨gm,kr + j,none⟩ (.int .u8 (v.toNat : Int))) by rw [hP];exact fun x q => ⟨HSET.out _ _ _ q.1,q.2.1.FG (by simp;omega) _,q.2.2.set⟩);have HCC:=Lib.hid (show ∀ x : World,P x→x.cell? ⟨w.heap.size,0,none⟩ = some (.int .i64 ra)∧x.cell? ⟨w.heap.size,1,none⟩ = some (.int .i64 ca)∧x.cell? ⟨w.heap.size,2,none⟩ = some (.slice A na cap)∧x.cell? ⟨g6,0,none⟩ = some (.int .i64 ra)∧x.cell? ⟨g6,1,none⟩ = some (.int .i64 cb)∧x.cell? ⟨g6,2,none⟩ = some (.slice (some ⟨gm,0,none⟩) p p)∧x.cell? ⟨g7,0,none⟩ = some (.int .i64 cb)∧x.cell? ⟨g7,1,none⟩ = some (.int .i64 ca)∧x.cell? ⟨g7,2,none⟩ = some (.slice (some ⟨gt,0,none⟩) nb nb)∧x.cell? ⟨gm,kr + j,none⟩ = some (cur x)∧x.frozen? ⟨gm,kr + j,none⟩ = false by
       intro x q;have h:=hcur x q;rw [hP] at q;obtain ⟨q1,q2,q3,q4,q5,q6,q7,q8,q9⟩:=HC.out x q.1;exact ⟨q1,q2,q3,q4,q5,q6,q7,q8,q9,h,q.2.2.frozen⟩)
      have HALL:=Lib.hid (show ∀ x : World,P (x.setCell ⟨gm,kr + j,none⟩ (.int .u8 (v.toNat : Int)))→Ctx w (x.setCell ⟨gm,kr + j,none⟩ (.int .u8 (v.toNat : Int))) B2 []∧Row (x.setCell ⟨gm,kr + j,none⟩ (.int .u8 (v.toNat : Int))) gt 5 (dK T)∧Row (x.setCell ⟨gm,kr + j,none⟩ (.int .u8 (v.toNat : Int))) gm 5 (dK new) by rw [hP];exact fun x q => ⟨q.1,q.2.1,q.2.2.fin⟩);clear hP hcur HCUR S hrow hrt HV hra1 hrt1 hxl hTl;go_wp2_with fail
      have hc:=HCC.out _ hp0
      go_region_held3 (fun x => P x∧x.cell? ⟨w.heap.size,0,none⟩ = some (.int .i64 ra)∧x.cell? ⟨w.heap.size,1,none⟩ = some (.int .i64 ca)∧x.cell? ⟨w.heap.size,2,none⟩ = some (.slice A na cap)∧x.cell? ⟨g6,0,none⟩ = some (.int .i64 ra)∧x.cell? ⟨g6,1,none⟩ = some (.int .i64 cb)∧x.cell? ⟨g6,2,none⟩ = some (.slice (some ⟨gm,0,none⟩) p p)∧x.cell? ⟨g7,0,none⟩ = some (.int .i64 cb)∧x.cell? ⟨g7,1,none⟩ = some (.int .i64 ca)∧x.cell? ⟨g7,2,none⟩ = some (.slice (some ⟨gt,0,none⟩) nb nb)∧x.cell? ⟨gm,kr + j,none⟩ = some (cur x)∧x.frozen? ⟨gm,kr + j,none⟩ = false)
       (first | (go_split_ands;have q:=HG.out _ _ (by assumption) hbk;exact ⟨q,HCC.out _ q⟩) | (go_split_ands;have q:=HST.out _ (by assumption);exact ⟨q,HCC.out _ q⟩) | (go_split_ands;have q:=HD.out _ (by assumption);exact ⟨q,HCC.out _ q⟩))
       (first | (go_at_call 79;(first | (with_reducible refine (oA.out _).mono ?_) | (with_reducible refine (FN.out _).mono ?_) | (with_reducible refine (HR3.out _).mono ?_));rintro e wk ⟨rfl,hbk⟩) | (go_at_call 84;(try go_split_ands);refine (HDOT.out _ (by assumption)).mono ?_;rintro e wk ⟨rfl,hbk⟩))
      go_wp2_with fail
      go_split_ands
      go_roundw
      case rel => exact ⟨j + 1,by omega,by go_num,by rw [← HNEW.out];exact (HALL.out _ (by assumption)).2.2,(HALL.out _ (by assumption)).2.1,(HALL.out _ (by assumption)).1⟩
      case measure => simp [intOf];omega
     ·obtain rfl : j = cb:=by omega
      have HN:=Lib.hid (AA ra j i F);go_wp2_with fail
      go_roundw
      case rel => exact ⟨i + 1,by omega,by go_num,by rw [← HN.out];exact hrow,hrt,S⟩
      case measure => simp [intOf];omega
   ·obtain rfl : i = ra:=by omega
    obtain ⟨h0,h1,h2,f0,f1,f2⟩:=(HE.out _ HS.out).three;have HN:=Lib.hid (DK i cb F);go_wp2_with fail
    refine bodyPost_ret (v:=.tuple #[mV i cb (some ⟨gm,0,none⟩) p p,.int .i64 0]) (by simp [results,Try.results50,go_sem,h0,h1,h2]) rfl ⟨gm,rfl,?_,by omega,bZ HS.out.below (by omega) _ _ _⟩;have h:=HROW.out;rw [HN.out,HF.out] at h;exact h.CA (by omega) _ _ _
end Go.Proofs.Yteofcbkjhdadpaa
