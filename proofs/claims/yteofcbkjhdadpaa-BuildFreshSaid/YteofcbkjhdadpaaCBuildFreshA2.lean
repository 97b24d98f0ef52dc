/- What the functions compute that the law BuildFresh reaches, proved by walking them; conditions stand at each theorem. -/
import Derived.Deep.RegionHeld3
import Derived.WalkMore
import Derived.Deep.LoopGhost
import Derived.BigRegion
import Derived.RegionTactic
import Derived.Deep.AppendLies
import Derived.Ground.SlbCloneProg
import Derived.Shelf.Bytes.SlClone
import Derived.Ground.SlbNamesProg
import Derived.Shelf.Bytes.SlJoin
import Derived.Deep.QuietTactic
import Derived.BigQuiet
import Derived.Test.YteofcbkjhdadpaaCBuildFreshA1
import Derived.Test.YteofcbkjhdadpaaProg
import Derived.Test.YteofcbkjhdadpaaCBuildFreshq
set_option maxHeartbeats 3200000
set_option maxRecDepth 100000
set_option linter.unusedSimpArgs false
set_option linter.unusedVariables false
namespace Go.Proofs.Yteofcbkjhdadpaa
open Go.RowKit
theorem aOc (ra ca rb cb : Int) (A B : Option Addr) (na nb cap capb : Nat) (w : World) (h : qN ra ca na rb cb nb = false) :
  Calls Try.prog 50 #[mV ra ca A na cap,mV rb cb B nb capb] w fun e w' => e = .returned (.tuple #[mV 0 0 none 0 0,.int .i64 3])∧Below w.heap.size w w':=by
 have oA:=Lib.hid (fun w => fF ra ca A na cap w);have FN:=Lib.hid (fun w => fF rb cb B nb capb w);have S:=(((Ctx.start w).box [.int .i64 ra,.int .i64 ca,.slice A na cap]).box [.int .i64 rb,.int .i64 cb,.slice B nb capb]).box [.int .i64 0,.int .i64 0,.slice none 0 0];simp only [World.size_alloc] at S;obtain ⟨c0,c1,c2⟩:=S.cells 2 rfl;obtain ⟨d0,d1,d2⟩:=S.cells 1 rfl;obtain ⟨e0,e1,e2,f0,f1,f2⟩:=(S.row 0 rfl).three;have hsz:=S.lt 0 rfl;have hc : bM ra ca na = false ∨ (bM ra ca na = true∧bM rb cb nb = false) ∨ (bM ra ca na = true∧bM rb cb nb = true∧(ca == rb) = false):=by
  unfold qN at h
  cases h1 : bM ra ca na
  ·exact .inl rfl
  ·cases h2 : bM rb cb nb
   ·exact .inr (.inl ⟨rfl,rfl⟩)
   ·rw [h1,h2] at h;simp at h;exact .inr (.inr ⟨rfl,rfl,by simpa using h⟩)
 clear h;go_enter Try.func50,Try.ntmps50
 rcases hc with h1 | ⟨h1,h2⟩ | ⟨h1,h2,h3⟩
 ·rw [h1] at oA
  clear h1;go_wp2_with (go_at_call 76;refine (oA.out _).mono ?_;rintro e w1 ⟨rfl,hb⟩;replace S:=S.go hb;clear hb c0 c1 c2 d0 d1 d2 e0 e1 e2 f0 f1 f2 hsz;have hsz:=S.lt 0 rfl;obtain ⟨c0,c1,c2⟩:=S.cells 2 rfl;obtain ⟨d0,d1,d2⟩:=S.cells 1 rfl;obtain ⟨e0,e1,e2,f0,f1,f2⟩:=(S.row 0 rfl).three)
  exact bodyPost_ret (v:=.tuple #[mV 0 0 none 0 0,.int .i64 3]) (by simp [results,Try.results50,go_sem,e0,e1,e2,f0,f1,f2]) rfl ⟨rfl,bZ S.below (by omega) _ _ _⟩
 ·rw [h1] at oA
  rw [h2] at FN;clear h1 h2;go_wp2_with (go_at_call 76;(first | (with_reducible refine (oA.out _).mono ?_) | (with_reducible refine (FN.out _).mono ?_));rintro e w1 ⟨rfl,hb⟩;replace S:=S.go hb;clear hb c0 c1 c2 d0 d1 d2 e0 e1 e2 f0 f1 f2 hsz;have hsz:=S.lt 0 rfl;obtain ⟨c0,c1,c2⟩:=S.cells 2 rfl;obtain ⟨d0,d1,d2⟩:=S.cells 1 rfl;obtain ⟨e0,e1,e2,f0,f1,f2⟩:=(S.row 0 rfl).three)
  exact bodyPost_ret (v:=.tuple #[mV 0 0 none 0 0,.int .i64 3]) (by simp [results,Try.results50,go_sem,e0,e1,e2,f0,f1,f2]) rfl ⟨rfl,bZ S.below (by omega) _ _ _⟩
 ·rw [h1] at oA
  rw [h2] at FN;clear h1 h2;go_wp2_with (go_at_call 76;(first | (with_reducible refine (oA.out _).mono ?_) | (with_reducible refine (FN.out _).mono ?_));rintro e w1 ⟨rfl,hb⟩;replace S:=S.go hb;clear hb c0 c1 c2 d0 d1 d2 e0 e1 e2 f0 f1 f2 hsz;have hsz:=S.lt 0 rfl;obtain ⟨c0,c1,c2⟩:=S.cells 2 rfl;obtain ⟨d0,d1,d2⟩:=S.cells 1 rfl;obtain ⟨e0,e1,e2,f0,f1,f2⟩:=(S.row 0 rfl).three)
  exact bodyPost_ret (v:=.tuple #[mV 0 0 none 0 0,.int .i64 3]) (by simp [results,Try.results50,go_sem,e0,e1,e2,f0,f1,f2]) rfl ⟨rfl,bZ S.below (by omega) _ _ _⟩
def muR (b : Bool) (ra : Int) : Int:=if b then ra else 0
def muE (b : Bool) : Int:=if b then 0 else 3
def muN (b : Bool) (ra cb : Int) : Nat:=if b then ra.toNat * cb.toNat else 0
def muD (b : Bool) (ra ca cb : Int) (xs ys : List UInt8) : List UInt8:=if b then aAp ra.toNat ca.toNat cb.toNat xs ys else []
theorem oF {r c : Int} {n : Nat} (h : bM r c n = true) : ∃ a b : Nat,r = a∧c = b∧a≤64∧b≤64∧n = a * b:=by
 simp [bM] at h
 refine ⟨r.toNat,c.toNat,by omega,by omega,by omega,by omega,?_⟩;apply Int.ofNat_inj.1;rw [Int.natCast_mul,Int.toNat_of_nonneg h.1.1,Int.toNat_of_nonneg h.2.1.1];exact h.2.2
theorem aHQ {ra ca rb cb : Int} {na nb : Nat} (h : qN ra ca na rb cb nb = true) : ∃ a b c : Nat,ra = a∧ca = b∧rb = b∧cb = c∧a≤64∧b≤64∧c≤64∧na = a * b∧nb = b * c:=by
 simp [qN] at h
 obtain ⟨a,b,h1,h2,h3,h4,h5⟩:=oF h.1.1;obtain ⟨b',c,h6,h7,h8,h9,h10⟩:=oF h.1.2;have:=h.2;obtain rfl : b = b':=by omega
 exact ⟨a,b,c,h1,h2,h6,h7,h3,h4,h9,h5,h10⟩
theorem aKo (ra ca rb cb : Int) (A B : Option Addr) (na nb cap capb : Nat) (xs ys : List UInt8) (w : World) (hx : Rd w w.heap.size A na (dK xs)) (hy : Rd w w.heap.size B nb (dK ys)) (hcap : na≤cap) (hcapb : nb≤capb) :
  Calls Try.prog 50 #[mV ra ca A na cap,mV rb cb B nb capb] w fun e w' => ∃ g,e = .returned (.tuple #[mV (muR (qN ra ca na rb cb nb) ra) (muR (qN ra ca na rb cb nb) cb) g (muN (qN ra ca na rb cb nb) ra cb) (muN (qN ra ca na rb cb nb) ra cb),.int .i64 (muE (qN ra ca na rb cb nb))]) ∧
   eJ w' w.heap.size g (muN (qN ra ca na rb cb nb) ra cb) (muN (qN ra ca na rb cb nb) ra cb) (muD (qN ra ca na rb cb nb) ra ca cb xs ys)∧Below w.heap.size w w':=by
 by_cases h : qN ra ca na rb cb nb = true
 ·rw [h]
  obtain ⟨a,b,c,rfl,rfl,rfl,rfl,h1,h2,h3,rfl,rfl⟩:=aHQ h;refine (aKl a b c _ _ _ A B cap capb xs ys w h1 h2 h3 (Lib.hid rfl) (Lib.hid rfl) (Lib.hid rfl) hx hy hcap hcapb).mono ?_;rintro e w' ⟨g,rfl,hr,hg,hb⟩;refine ⟨some ⟨g,0,none⟩,by simp [muR,muE,muN],?_,hb⟩;have : a * c≤64 * 64:=Nat.mul_le_mul h1 h3;simp only [muN,muD,if_true,Int.toNat_natCast];exact hr.aFL hg (hY _ _ _) (by simp only [maxLen];omega)
 ·have h : qN ra ca na rb cb nb = false:=by simpa using h
  rw [h];refine (aOc ra ca rb cb A B na nb cap capb w h).mono ?_;rintro e w' ⟨rfl,hb⟩;exact ⟨none,by simp [muR,muE,muN],⟨rfl,rfl,.inl ⟨rfl,rfl⟩⟩,hb⟩
end Go.Proofs.Yteofcbkjhdadpaa
namespace Go.Proofs.Yteofcbkjhdadpaa
def PN (ra ca : Int) (na : Nat) (rb cb : Int) (nb : Nat) : Int:=if bM ra ca na && bM rb cb nb && (ca == cb) then (if ra + rb≤64 then 0 else 4) else 3
end Go.Proofs.Yteofcbkjhdadpaa
namespace Go.Proofs.Yteofcbkjhdadpaa
open Go.RowKit
theorem aCm (n : Nat) (xs : List UInt8) (h : xs.length≤n) : over (List.replicate n 0) 0 xs = xs ++ List.replicate (n - xs.length) 0:=by
 simp [over,List.drop_replicate]
theorem aFM (xs ys : List UInt8) (m k : Nat) (hk : xs.length = k) (h : ys.length = m) : over (xs ++ List.replicate m 0) k ys = xs ++ ys:=by
 subst hk;rw [QA _ _ _ _ rfl,List.drop_replicate,h,Nat.sub_self,List.replicate_zero,List.append_nil]
theorem aOu {x : World} {g : Nat} {t : TypeId} {ys : List Value} (r : Row x g t ys) : Row x.drew g t ys:=r
theorem aFm (ra rb c na nb r p : Nat) (A B : Option Addr) (cap capb : Nat) (xs ys : List UInt8) (w : World) (hra : ra≤64) (hrb : rb≤64) (h64 : r≤64) (hc : c≤64) (hsum : (ra : Int) + (rb : Int) = (r : Int)) (hna : Hid (na = ra * c)) (hnb : Hid (nb = rb * c)) (hp : Hid (p = r * c)) (hpp : Hid (p = na + nb))
  (hx : Rd w w.heap.size A na (dK xs)) (hy : Rd w w.heap.size B nb (dK ys)) (hcap : na≤cap) (hcapb : nb≤capb) :
  Calls Try.prog 70 #[mV ra c A na cap,mV rb c B nb capb] w fun e w' => ∃ g,e = .returned (.tuple #[mV r c (some ⟨g,0,none⟩) p p,.int .i64 0])∧Row w' g 5 (dK (xs ++ ys))∧w.heap.size≤g∧Below w.heap.size w w':=by
 have oA:=Lib.hid (fun w => fF ra c A na cap w);have FN:=Lib.hid (fun w => fF rb c B nb capb w);rw [show bM ra c na = true by simp [bM,hna.out];omega] at oA;rw [show bM rb c nb = true by simp [bM,hnb.out];omega] at FN;have hsd:=TQ h64;have hpb : p≤4096:=by rw [hp.out];exact Nat.le_trans (Nat.mul_le_mul h64 hc) (by omega)
 have hq : ((c : Int) != (c : Int)) = false:=by rw [bne_eq_false_iff_eq]
 have S:=(((Ctx.start w).box [.int .i64 ra,.int .i64 c,.slice A na cap]).box [.int .i64 rb,.int .i64 c,.slice B nb capb]).box [.int .i64 0,.int .i64 0,.slice none 0 0];simp only [World.size_alloc] at S;obtain ⟨c0,c1,c2⟩:=S.cells 2 rfl;obtain ⟨d0,d1,d2⟩:=S.cells 1 rfl;have hsz:=S.lt 0 rfl;go_enter Try.func70,Try.ntmps70;go_wp2_with (first | (go_at_call 76;(first | (with_reducible refine (oA.out _).mono ?_) | (with_reducible refine (FN.out _).mono ?_));rintro e w1 ⟨rfl,hb⟩;replace S:=S.go hb;clear hb c0 c1 c2 d0 d1 d2 hsz;have hsz:=S.lt 0 rfl;obtain ⟨c0,c1,c2⟩:=S.cells 2 rfl;obtain ⟨d0,d1,d2⟩:=S.cells 1 rfl) | (go_at_call 77;refine (jA _ _).mono ?_;rintro e w' ⟨rfl,rfl⟩))
 refine (DM r c p _ h64 hc hp).mono ?_;rintro e w2 ⟨gm,rfl,hrow,hgm,hb⟩;have hgl:=hrow.lt;replace S:=S.go hb;clear hb c0 c1 c2 d0 d1 d2 oA FN;replace S:=S.box [.int .i64 (r : Int),.int .i64 (c : Int),.slice (some ⟨gm,0,none⟩) p p];replace hrow:=hrow.alloc (.cells #[.int .i64 (r : Int),.int .i64 (c : Int),.slice (some ⟨gm,0,none⟩) p p] 24);go_wp2_with fail
 obtain ⟨BS,hBS⟩ : ∃ BS : List (Nat×List Value),BS = [(w2.heap.size,[.int .i64 (r : Int),.int .i64 (c : Int),.slice (some ⟨gm,0,none⟩) p p]),(w.heap.size + 1 + 1,[.int .i64 0,.int .i64 0,.slice none 0 0]),(w.heap.size + 1,[.int .i64 rb,.int .i64 c,.slice B nb capb]),(w.heap.size,[.int .i64 ra,.int .i64 c,.slice A na cap])]:=⟨_,rfl⟩
 rw [← hBS] at S;have hxl : xs.length = na:=by have:=hx.len;rw [bC] at this;exact this
 have hyl : ys.length = nb:=by have:=hy.len;rw [bC] at this;exact this
 have hpn:=hpp.out;have e1 : over (List.replicate p 0) 0 (xs.take p) = xs ++ List.replicate nb 0:=by rw [List.take_of_length_le (by omega),aCm _ _ (by omega)];congr 2;omega
 have e2 : over (xs ++ List.replicate nb 0) na (ys.take (p - na)) = xs ++ ys:=by rw [List.take_of_length_le (by omega)];exact aFM _ _ _ _ hxl hyl
 have e3 : (xs.take p).length = na:=by rw [List.take_of_length_le (by omega)];exact hxl
 have e4 : (ys.take (p - na)).length = nb:=by rw [List.take_of_length_le (by omega)];exact hyl
 have e5 : (xs ++ List.replicate nb 0).length = p:=by rw [List.length_append,List.length_replicate];omega
 have E1:=Lib.hid e1;have E2:=Lib.hid e2;have E3:=Lib.hid e3;have E4:=Lib.hid e4;have E5:=Lib.hid e5;obtain ⟨P,hP⟩ : ∃ P : World→Prop,P = fun x => Ctx w x BS []:=⟨_,rfl⟩
 have hp0 : P (w2.alloc (.cells #[.int .i64 (r : Int),.int .i64 (c : Int),.slice (some ⟨gm,0,none⟩) p p] 24)):=by rw [hP];exact S
 have HD:=Lib.hid (show ∀ x : World,P x→P x.drew by rw [hP];exact fun x q => q.drew);have HG:=Lib.hid (show ∀ x y : World,P x→x.grownBy y (some gm)→P y by
  rw [hP];refine fun x y q hg => q.grown hg (by omega) ?_
  rw [hBS]
  simp
  omega)
 have HC:=Lib.hid (show ∀ x : World,P x→x.cell? ⟨w2.heap.size,2,none⟩ = some (.slice (some ⟨gm,0,none⟩) p p)∧x.cell? ⟨w.heap.size,2,none⟩ = some (.slice A na cap)∧x.cell? ⟨w.heap.size + 1,2,none⟩ = some (.slice B nb capb) by
  rw [hP,hBS];exact fun x q => ⟨(q.cells 0 rfl).2.2,(q.cells 3 rfl).2.2,(q.cells 2 rfl).2.2⟩)
 have HX:=Lib.hid (show ∀ x : World,P x→Rd x x.heap.size A na (dK xs)∧Rd x x.heap.size B nb (dK ys) by rw [hP];exact fun x q => ⟨hx.go q.below,hy.go q.below⟩);have HF:=Lib.hid (show ∀ x : World,P x→Ctx w x BS [] by rw [hP];exact fun x q => q);have HBS:=Lib.hid hBS;have h1 : (0 : Int)≤(na : Int):=by omega
 have h2 : (na : Int)≤(p : Int):=by omega
 have hrd:=aOu hrow;clear hP S hBS e1 e2 e3 e4 e5 hxl hyl hpn hrow;have hc:=HC.out _ hp0
 go_region_held3 (fun x => P x∧x.cell? ⟨w2.heap.size,2,none⟩ = some (.slice (some ⟨gm,0,none⟩) p p)∧x.cell? ⟨w.heap.size,2,none⟩ = some (.slice A na cap)∧x.cell? ⟨w.heap.size + 1,2,none⟩ = some (.slice B nb capb))
  (first | (go_split_ands;have q:=HD.out _ hp0;exact ⟨q,HC.out _ q⟩) | (go_split_ands;have q:=HG.out _ _ (by assumption) hg9;exact ⟨q,HC.out _ q⟩) | (go_split_ands;have q:=HG.out _ _ (by assumption) hg8;exact ⟨q,HC.out _ q⟩))
  (first | (go_split_ands;refine uC _ _ (by rfl) (by rfl) (some ⟨gm,0,none⟩) A p p na cap (by rfl) (by rfl) gm 0 _ xs hrd _ (HX.out _ (by assumption)).1 (fun _ => rfl) (by rw [E3.out,List.length_replicate];have:=hpp.out;omega) ?_;rw [E1.out,E3.out];intro w8 hrow8 hg8) | (go_split_ands;refine uC _ _ (by rfl) (by rfl) _ B _ _ nb capb (by rfl) (by rfl) gm na _ ys hrow8 _ (HX.out _ (by assumption)).2 (by intro hl;rw [E4.out] at hl;exact if_neg (by have:=hpp.out;omega)) (by rw [E4.out,E5.out];have:=hpp.out;omega) ?_;rw [E2.out];intro w9 hrow9 hg9))
 go_split_ands;have hF:=HF.out w9 (by assumption);rw [HBS.out] at hF;obtain ⟨t0,t1,t2,_,_,_⟩:=(hF.row 0 rfl).three;obtain ⟨z0,z1,z2,f0,f1,f2⟩:=(hF.row 1 rfl).three;have hl1:=hF.lt 1 rfl;have hbel:=hF.below;clear hF;go_wp2_with fail
 ·rename_i h
  have h' : p = na:=h;clear h;subst h';refine bodyPost_ret (v:=.tuple #[mV r c (some ⟨gm,0,none⟩) p p,.int .i64 0]) (by simp [results,Try.results70,go_sem,z0,z1,z2,f0,f1,f2]) rfl ⟨gm,rfl,?_,by omega,bZ hbel (by omega) _ _ _⟩;exact hrow9.CA (by omega) _ _ _
 ·refine bodyPost_ret (v:=.tuple #[mV r c (some ⟨gm,0,none⟩) p p,.int .i64 0]) (by simp [results,Try.results70,go_sem,z0,z1,z2,f0,f1,f2]) rfl ⟨gm,rfl,?_,by omega,bZ hbel (by omega) _ _ _⟩
  exact hrow9.CA (by omega) _ _ _
theorem aHg (ra ca rb cb : Int) (A B : Option Addr) (na nb cap capb : Nat) (E : Int) (w : World) (h : PN ra ca na rb cb nb = E) (hE : E≠0) :
  Calls Try.prog 70 #[mV ra ca A na cap,mV rb cb B nb capb] w fun e w' => e = .returned (.tuple #[mV 0 0 none 0 0,.int .i64 E])∧Below w.heap.size w w':=by
 have oA:=Lib.hid (fun w => fF ra ca A na cap w);have FN:=Lib.hid (fun w => fF rb cb B nb capb w);have S:=(((Ctx.start w).box [.int .i64 ra,.int .i64 ca,.slice A na cap]).box [.int .i64 rb,.int .i64 cb,.slice B nb capb]).box [.int .i64 0,.int .i64 0,.slice none 0 0];simp only [World.size_alloc] at S;obtain ⟨c0,c1,c2⟩:=S.cells 2 rfl;obtain ⟨d0,d1,d2⟩:=S.cells 1 rfl;obtain ⟨e0,e1,e2,f0,f1,f2⟩:=(S.row 0 rfl).three;have hsz:=S.lt 0 rfl;have hc : (bM ra ca na = false∧E = 3) ∨ (bM ra ca na = true∧bM rb cb nb = false∧E = 3) ∨ (bM ra ca na = true∧bM rb cb nb = true∧(ca != cb) = true∧E = 3) ∨ (bM ra ca na = true∧bM rb cb nb = true∧(ca != cb) = false∧jB (ra + rb) = false∧(-9223372036854775808≤ra + rb∧ra + rb≤9223372036854775807)∧E = 4):=by
  unfold PN at h
  cases h1 : bM ra ca na
  ·rw [h1] at h;simp at h;exact .inl ⟨rfl,h.symm⟩
  ·cases h2 : bM rb cb nb
   ·rw [h1,h2] at h;simp at h;exact .inr (.inl ⟨rfl,rfl,h.symm⟩)
   ·by_cases h3 : ca = cb
    ·rw [h1,h2,h3] at h
     simp at h
     by_cases h4 : ra + rb≤64
     ·rw [if_pos h4] at h;omega
     ·rw [if_neg h4] at h
      simp [bM] at h1 h2
      exact .inr (.inr (.inr ⟨rfl,rfl,by simpa using h3,by simp [jB];omega,by omega,h.symm⟩))
    ·rw [h1,h2] at h;simp [h3] at h;exact .inr (.inr (.inl ⟨rfl,rfl,by simpa using h3,h.symm⟩))
 clear h hE
 rcases hc with ⟨h1,rfl⟩ | ⟨h1,h2,rfl⟩ | ⟨h1,h2,h3,rfl⟩ | ⟨h1,h2,h3,h4,⟨h5,h6⟩,rfl⟩
 ·rw [h1] at oA
  clear h1;go_enter Try.func70,Try.ntmps70;go_wp2_with (go_at_call 76;refine (oA.out _).mono ?_;rintro e w1 ⟨rfl,hb⟩;replace S:=S.go hb;clear hb c0 c1 c2 d0 d1 d2 e0 e1 e2 f0 f1 f2 hsz;have hsz:=S.lt 0 rfl;obtain ⟨c0,c1,c2⟩:=S.cells 2 rfl;obtain ⟨d0,d1,d2⟩:=S.cells 1 rfl;obtain ⟨e0,e1,e2,f0,f1,f2⟩:=(S.row 0 rfl).three)
  exact bodyPost_ret (v:=.tuple #[mV 0 0 none 0 0,.int .i64 3]) (by simp [results,Try.results70,go_sem,e0,e1,e2,f0,f1,f2]) rfl ⟨rfl,bZ S.below (by omega) _ _ _⟩
 ·rw [h1] at oA
  rw [h2] at FN;clear h1 h2;go_enter Try.func70,Try.ntmps70;go_wp2_with (go_at_call 76;(first | (with_reducible refine (oA.out _).mono ?_) | (with_reducible refine (FN.out _).mono ?_));rintro e w1 ⟨rfl,hb⟩;replace S:=S.go hb;clear hb c0 c1 c2 d0 d1 d2 e0 e1 e2 f0 f1 f2 hsz;have hsz:=S.lt 0 rfl;obtain ⟨c0,c1,c2⟩:=S.cells 2 rfl;obtain ⟨d0,d1,d2⟩:=S.cells 1 rfl;obtain ⟨e0,e1,e2,f0,f1,f2⟩:=(S.row 0 rfl).three)
  exact bodyPost_ret (v:=.tuple #[mV 0 0 none 0 0,.int .i64 3]) (by simp [results,Try.results70,go_sem,e0,e1,e2,f0,f1,f2]) rfl ⟨rfl,bZ S.below (by omega) _ _ _⟩
 ·rw [h1] at oA
  rw [h2] at FN;clear h1 h2;go_enter Try.func70,Try.ntmps70;go_wp2_with (go_at_call 76;(first | (with_reducible refine (oA.out _).mono ?_) | (with_reducible refine (FN.out _).mono ?_));rintro e w1 ⟨rfl,hb⟩;replace S:=S.go hb;clear hb c0 c1 c2 d0 d1 d2 e0 e1 e2 f0 f1 f2 hsz;have hsz:=S.lt 0 rfl;obtain ⟨c0,c1,c2⟩:=S.cells 2 rfl;obtain ⟨d0,d1,d2⟩:=S.cells 1 rfl;obtain ⟨e0,e1,e2,f0,f1,f2⟩:=(S.row 0 rfl).three)
  exact bodyPost_ret (v:=.tuple #[mV 0 0 none 0 0,.int .i64 3]) (by simp [results,Try.results70,go_sem,e0,e1,e2,f0,f1,f2]) rfl ⟨rfl,bZ S.below (by omega) _ _ _⟩
 ·rw [h1] at oA
  rw [h2] at FN;clear h1 h2;have e4 : IntKind.i64.wrap (ra + rb) = ra + rb:=by rw [IntKind.wrap_i64];omega
  clear h5 h6;go_enter Try.func70,Try.ntmps70;go_wp2_with (first | (go_at_call 76;(first | (with_reducible refine (oA.out _).mono ?_) | (with_reducible refine (FN.out _).mono ?_));rintro e w1 ⟨rfl,hb⟩;replace S:=S.go hb;clear hb c0 c1 c2 d0 d1 d2 e0 e1 e2 f0 f1 f2 hsz;have hsz:=S.lt 0 rfl;obtain ⟨c0,c1,c2⟩:=S.cells 2 rfl;obtain ⟨d0,d1,d2⟩:=S.cells 1 rfl;obtain ⟨e0,e1,e2,f0,f1,f2⟩:=(S.row 0 rfl).three) | (go_at_call 77;refine (jA _ _).mono ?_;rintro e w' ⟨rfl,rfl⟩))
  exact bodyPost_ret (v:=.tuple #[mV 0 0 none 0 0,.int .i64 4]) (by simp [results,Try.results70,go_sem,e0,e1,e2,f0,f1,f2]) rfl ⟨rfl,bZ S.below (by omega) _ _ _⟩
end Go.Proofs.Yteofcbkjhdadpaa
namespace Go.Proofs.Yteofcbkjhdadpaa
open Go.RowKit Go.Proofs.aG.aX
def zV.f (a0 a1 : Int) (l : List Int) (b0 b1 : Int) (m : List Int) : Option (Int×Int×List Int×Int) :=
 if (inU l && inU m) = true then (if PN a0 a1 l.length b0 b1 m.length = 0 then some (a0 + b0,a1,l ++ m,0) else some (0,0,[],PN a0 a1 l.length b0 b1 m.length)) else none
theorem aFP (xs ys : List UInt8) : nI xs ++ nI ys = nI (xs ++ ys):=by simp [nI]
theorem zV.calls (aN : Int) (aJ : Int) (bL : Option Addr) (bK : Nat) (aT : List Int) (eR : Int) (eV : Int) (rR : Option Addr) (rL : Nat) (eZ : List Int) (r1 : Int) (r2 : Int) (r3 : List Int) (r4 : Int) (w : World) (hr0_2 : Kd.C (Kd.int .u8) w bL aT.length aT) (hc0_2 : aT.length≤bK) (hr1_2 : Kd.C (Kd.int .u8) w rR eZ.length eZ) (hc1_2 : eZ.length≤rL) (h : zV.f aN aJ aT eR eV eZ = some (r1,r2,r3,r4)) :
  Calls Try.prog 70 #[.agg #[.int .i64 aN,.int .i64 aJ,.slice bL aT.length bK],.agg #[.int .i64 eR,.int .i64 eV,.slice rR eZ.length rL]] w fun e w' => ∃ pF : Value,e = .returned (.tuple #[.agg #[.int .i64 r1,.int .i64 r2,pF],.int .i64 r4])∧Kd.R (Kd.int .u8) 5 w' w.heap.size (fun _ => True) pF r3∧Below w.heap.size w w':=by
 unfold zV.f at h
 split at h
 ·rename_i hi
  simp only [Bool.and_eq_true] at hi;obtain ⟨xs,rfl⟩:=sW hi.1;obtain ⟨ys,rfl⟩:=sW hi.2;simp only [aZ] at h hc0_2 hc1_2 ⊢
  split at h
  ·rename_i hm
   simp only [Option.some.injEq,Prod.mk.injEq] at h;obtain ⟨rfl,rfl,rfl,rfl⟩:=h;unfold PN at hm
   split at hm
   ·rename_i h1
    simp only [Bool.and_eq_true,beq_iff_eq] at h1
    split at hm
    ·rename_i h64
     obtain ⟨a,b,rfl,rfl,k1,k2,k3⟩:=oF h1.1.1;obtain ⟨a',b',rfl,k4,k5,k6,k7⟩:=oF h1.1.2;obtain rfl : b' = b:=by have:=h1.2;omega
     obtain rfl:=k4;have e : (a : Int) + (a' : Int) = ((a + a' : Nat) : Int):=by omega
     refine (aFm a a' b' xs.length ys.length (a + a') ((a + a') * b') bL rR bK rL xs ys w k1 k5 (by omega) k2 e (Lib.hid k3) (Lib.hid k7) (Lib.hid rfl) (Lib.hid (by rw [Nat.add_mul,k3,k7])) (uP hr0_2) (uP hr1_2) hc0_2 hc1_2).mono ?_;rintro e' w' ⟨g,rfl,ho,hg,hb⟩;rw [e];have hb4 : (a + a') * b'≤64 * 64:=Nat.mul_le_mul (by omega) k2;refine ⟨_,rfl,?_,hb⟩;rw [aFP];exact tW (ho.aFL hg (by rw [List.length_append,k3,k7,Nat.add_mul]) (by simp only [maxLen];omega))
    ·cases hm
   ·cases hm
  ·rename_i hm
   simp only [Option.some.injEq,Prod.mk.injEq] at h;obtain ⟨rfl,rfl,rfl,rfl⟩:=h;refine (aHg aN aJ eR eV bL rR xs.length ys.length bK rL _ w rfl hm).mono ?_;rintro e w' ⟨rfl,hb⟩;exact ⟨_,rfl,Kd.AQ _ _ _ _ _,hb⟩
 ·cases h
end Go.Proofs.Yteofcbkjhdadpaa
namespace Go.Proofs.Yteofcbkjhdadpaa
open Go.RowKit
theorem aGV (r c : Int) (A : Option Addr) (n cap : Nat) (w : World) (h : bM r c n = false) :
  Calls Try.prog 58 #[mV r c A n cap] w fun e w' => e = .returned (.tuple #[mV 0 0 none 0 0,.int .i64 3])∧Below w.heap.size w w':=by
 have oA:=Lib.hid (fun w => fF r c A n cap w);rw [h] at oA;clear h;have S:=((Ctx.start w).box [.int .i64 r,.int .i64 c,.slice A n cap]).box [.int .i64 0,.int .i64 0,.slice none 0 0];simp only [World.size_alloc] at S;obtain ⟨c0,c1,c2⟩:=S.cells 1 rfl;obtain ⟨e0,e1,e2,f0,f1,f2⟩:=(S.row 0 rfl).three;have hsz:=S.lt 0 rfl;go_enter Try.func58,Try.ntmps58;go_wp2_with (go_at_call 76;refine (oA.out _).mono ?_;rintro e w1 ⟨rfl,hb⟩;replace S:=S.go hb;clear hb c0 c1 c2 e0 e1 e2 f0 f1 f2 hsz;have hsz:=S.lt 0 rfl;obtain ⟨c0,c1,c2⟩:=S.cells 1 rfl;obtain ⟨e0,e1,e2,f0,f1,f2⟩:=(S.row 0 rfl).three)
 exact bodyPost_ret (v:=.tuple #[mV 0 0 none 0 0,.int .i64 3]) (by simp [results,Try.results58,go_sem,e0,e1,e2,f0,f1,f2]) rfl ⟨rfl,bZ S.below (by omega) _ _ _⟩
theorem aEX (r c n : Nat) (A : Option Addr) (cap : Nat) (xs : List UInt8) (w : World) (hr : r≤64) (hc : c≤64) (hn : Hid (n = r * c)) (hx : Rd w w.heap.size A n (dK xs)) (hcap : n≤cap) :
  Calls Try.prog 58 #[mV r c A n cap] w fun e w' => ∃ g,e = .returned (.tuple #[mV c r g n n,.int .i64 0])∧eJ w' w.heap.size g n n (uG r c xs)∧Below w.heap.size w w':=by
 have oA:=Lib.hid (fun w => fF r c A n cap w);rw [show bM r c n = true by simp [bM,hn.out];omega] at oA;have HT:=Lib.hid (fun w h => GG r c n A cap xs w hr hc hn h hcap);have hle : n≤64 * 64:=by rw [hn.out];exact Nat.mul_le_mul hr hc
 have S:=(((Ctx.start w).add hx).box [.int .i64 r,.int .i64 c,.slice A n cap]).box [.int .i64 0,.int .i64 0,.slice none 0 0];simp only [World.size_alloc] at S;obtain ⟨c0,c1,c2⟩:=S.cells 1 rfl;obtain ⟨e0,e1,e2,f0,f1,f2⟩:=(S.row 0 rfl).three;have hsz:=S.lt 0 rfl;have hs2:=S.below.size;go_enter Try.func58,Try.ntmps58;go_wp2_with (go_at_call 76;refine (oA.out _).mono ?_;rintro e w1 ⟨rfl,hb⟩;replace S:=S.go hb;clear hb c0 c1 c2 e0 e1 e2 f0 f1 f2 hsz;have hsz:=S.lt 0 rfl;obtain ⟨c0,c1,c2⟩:=S.cells 1 rfl;obtain ⟨e0,e1,e2,f0,f1,f2⟩:=(S.row 0 rfl).three)
 refine (HT.out _ (S.rd 0 rfl)).mono ?_;rintro e w2 ⟨g,rfl,hrow,hg,hb⟩;replace S:=S.go hb;clear hb c0 c1 c2 e0 e1 e2 f0 f1 f2;obtain ⟨e0,e1,e2,f0,f1,f2⟩:=(S.row 0 rfl).three;go_wp2_with fail
 refine bodyPost_ret (v:=.tuple #[mV c r (some ⟨g,0,none⟩) n n,.int .i64 0]) (by simp [results,Try.results58,go_sem,e0,e1,e2,f0,f1,f2]) rfl ⟨some ⟨g,0,none⟩,rfl,?_,bZ S.below (by omega) _ _ _⟩;exact (hrow.CA (by omega) _ _ _).aFL (by omega) (by rw [uG,hY,hn.out,Nat.mul_comm]) (by simp only [maxLen];omega)
end Go.Proofs.Yteofcbkjhdadpaa
namespace Go.Proofs.Yteofcbkjhdadpaa
open Go.RowKit Go.Proofs.aG.aX
def dQ.f (a0 a1 : Int) (l : List Int) : Option (Int×Int×List Int×Int) :=
 if inU l = true then (if bM a0 a1 l.length = true then some (a1,a0,nI (uG a0.toNat a1.toNat (l.map zS)),0) else some (0,0,[],3)) else none
theorem dQ.calls (aN : Int) (aJ : Int) (bL : Option Addr) (bK : Nat) (aT : List Int) (r1 : Int) (r2 : Int) (r3 : List Int) (r4 : Int) (w : World) (hr0_2 : Kd.C (Kd.int .u8) w bL aT.length aT) (hc0_2 : aT.length≤bK) (h : dQ.f aN aJ aT = some (r1,r2,r3,r4)) :
  Calls Try.prog 58 #[.agg #[.int .i64 aN,.int .i64 aJ,.slice bL aT.length bK]] w fun e w' => ∃ pF : Value,e = .returned (.tuple #[.agg #[.int .i64 r1,.int .i64 r2,pF],.int .i64 r4])∧Kd.R (Kd.int .u8) 5 w' w.heap.size (fun _ => True) pF r3∧Below w.heap.size w w':=by
 unfold dQ.f at h
 split at h
 ·rename_i hi
  obtain ⟨xs,rfl⟩:=sW hi;simp only [aZ,nN] at h hc0_2 ⊢
  split at h
  ·rename_i hm
   simp only [Option.some.injEq,Prod.mk.injEq] at h;obtain ⟨rfl,rfl,rfl,rfl⟩:=h;obtain ⟨a,b,rfl,rfl,h1,h2,h3⟩:=oF hm;refine (aEX a b xs.length bL bK xs w h1 h2 (Lib.hid h3) (uP hr0_2) hc0_2).mono ?_;rintro e w' ⟨g,rfl,ho,hb⟩;exact ⟨_,rfl,tW ho,hb⟩
  ·rename_i hm
   simp only [Option.some.injEq,Prod.mk.injEq] at h;obtain ⟨rfl,rfl,rfl,rfl⟩:=h;refine (aGV aN aJ bL xs.length bK w (by simpa using hm)).mono ?_;rintro e w' ⟨rfl,hb⟩;exact ⟨_,rfl,Kd.AQ _ _ _ _ _,hb⟩
 ·cases h
end Go.Proofs.Yteofcbkjhdadpaa
namespace Go.Proofs.Yteofcbkjhdadpaa
open Go.RowKit
def AP (w : World) (A : Option Addr) (xs : List UInt8) : Prop :=
 0 < xs.length → ∃ g o cells,A = some ⟨g,o,none⟩∧w.heap[g]? = some (Obj.cells cells 5 (0,0)) ∧ ∀ j,j < xs.length→cells[o + j]? = some (.int .u8 ((xs.getD j 0).toNat : Int))
section
variable {w w' : World} {A : Option Addr} {xs : List UInt8}
theorem xG {w : World} {g : Nat} {o : Obj} (h : w.heap[g]? = some o) : g < w.heap.size:=by
 rcases Nat.lt_or_ge g w.heap.size with hlt | hge
 ·exact hlt
 ·rw [Array.getElem?_eq_none hge] at h;cases h
theorem AP.nil (w : World) (A : Option Addr) : AP w A []:=fun h => absurd h (by simp)
theorem AP.rd (h : AP w A xs) : Rd w w.heap.size A xs.length (dK xs):=by
 refine ⟨bC xs,fun hn => ?_⟩;obtain ⟨g,o,cells,rfl,hb,hc⟩:=h hn;refine ⟨g,o,rfl,xG hb,fun j u hu => ?_⟩;have hj : j < xs.length:=by
  rcases Nat.lt_or_ge j xs.length with hlt | hge
  ·exact hlt
  ·rw [List.getElem?_eq_none (by rw [bC];exact hge)] at hu;cases hu
 rw [cell_of_row w g (o + j) cells 5 (0,0) hb,hc j hj,← hu,rN xs j hj]
 simp [List.getD,hj]
theorem AP.qA (h : AP w A xs) (hk : ∀ (g : Nat) (cells : Array Value),w.heap[g]? = some (Obj.cells cells 5 (0,0))→w'.heap[g]? = w.heap[g]?) : AP w' A xs:=by
 intro hn;obtain ⟨g,o,cells,e,hb,hc⟩:=h hn;exact ⟨g,o,cells,e,(hk g cells hb).trans hb,hc⟩
theorem AP.below (h : AP w A xs) (hb : Below w.heap.size w w') : AP w' A xs:=h.qA fun g cells hg => hb.block g (xG hg)
theorem AP.grown (h : AP w A xs) {g' : Nat} (hg : w.grownBy w' (some g')) {t : TypeId} {ys : List Value} (hr : Row w g' t ys) (ht : t≠5) : AP w' A xs :=
 h.qA fun g cells hb => hg.block g (xG hb) (by
  intro e;injection e with e;subst e;unfold Row at hr;rw [hb] at hr;injection hr with hr;injection hr with _ e2;exact ht e2.symm)
theorem AP.set (h : AP w A xs) {p : Addr} {t : TypeId} {ys : List Value} (hr : Row w p.block t ys) (ht : t≠5) (u : Value) : AP (w.setCell p u) A xs :=
 h.qA fun g cells hb => Below.heap_setCell w p u g (by
  rintro rfl;unfold Row at hr;rw [hb] at hr;injection hr with hr;injection hr with _ e2;exact ht e2.symm)
theorem AP.WO {base n cap : Nat} (h : eJ w base A n cap xs) : AP w A xs:=by
 intro hn
 rcases h.2.2 with ⟨_,h0⟩ | ⟨g,c,cur,hv,hg,hh,h1,h2,h3,h4⟩
 ·have:=h.1;omega
 ·simp only [Value.slice.injEq] at hv
  obtain ⟨rfl,_,_⟩:=hv;refine ⟨g,0,cur,rfl,hh,fun j hj => ?_⟩;have e : (dK xs)[j]? = some (.int .u8 ((xs[j]).toNat : Int)):=rN xs j hj;rw [Nat.zero_add];have h5 : cur[j]? = (dK xs)[j]? := by
   rw [← h4,List.getElem?_take,if_pos (by have:=h.1;omega),Array.getElem?_toList]
  rw [h5,e]
  simp [List.getD,hj]
theorem AP.sub {k c n : Nat} (h : AP w A xs) (hl : xs.length = n) (hk : k + c≤n) {A' : Option Addr} (hA : 0 < c → ∀ g o,A = some ⟨g,o,none⟩→A' = some ⟨g,o + k,none⟩) : AP w A' ((xs.drop k).take c):=by
 have hlen : ((xs.drop k).take c).length = c:=by rw [List.length_take,List.length_drop];omega
 intro hn;rw [hlen] at hn;obtain ⟨g,o,cells,rfl,hb,hc⟩:=h (by omega);refine ⟨g,o + k,cells,hA hn g o rfl,hb,fun j hj => ?_⟩;rw [hlen] at hj;rw [Nat.add_assoc,hc (k + j) (by omega)];have e : ((xs.drop k).take c).getD j 0 = xs.getD (k + j) 0:=by
  rw [List.getD_eq_getElem?_getD,List.getElem?_take,if_pos hj,List.getElem?_drop,List.getD_eq_getElem?_getD]
 rw [e]
end
def qC (w : World) (A : Option Addr) (n c : Nat) (L : List (List UInt8)) : Prop :=
 L.length = n∧(∀ i,i < n→(L.getD i []).length = c)∧(0 < n → ∃ g lv,A = some ⟨g,0,none⟩∧Row w g 22 lv∧n≤lv.length ∧ ∀ i,i < n → ∃ Ai ci,lv[i]? = some (.slice Ai c ci)∧c≤ci∧AP w Ai (L.getD i []))
section
variable {w w' : World} {A : Option Addr} {n c : Nat} {L : List (List UInt8)}
theorem qC.len (h : qC w A n c L) : L.length = n:=h.1
theorem qC.width (h : qC w A n c L) {i : Nat} (hi : i < n) : (L.getD i []).length = c:=h.2.1 i hi
theorem qC.at_ (h : qC w A n c L) {i : Nat} (hi : i < n) : ∃ g Ai ci,A = some ⟨g,0,none⟩∧g < w.heap.size∧w.cell? ⟨g,i,none⟩ = some (.slice Ai c ci)∧w.frozen? ⟨g,i,none⟩ = false∧c≤ci∧AP w Ai (L.getD i []):=by
 obtain ⟨g,lv,e,hr,hl,hc⟩:=h.2.2 (by omega);obtain ⟨Ai,ci,h1,h2,h3⟩:=hc i hi;exact ⟨g,Ai,ci,e,hr.lt,by rw [hr.cell,h1],hr.frozen i,h2,h3⟩
theorem qC.row (h : qC w A n c L) (hn : 0 < n) : ∃ g lv,A = some ⟨g,0,none⟩∧Row w g 22 lv:=by
 obtain ⟨g,lv,e,hr,_⟩:=h.2.2 hn;exact ⟨g,lv,e,hr⟩
theorem qC.qA (h : qC w A n c L) (h1 : ∀ (g : Nat) (cells : Array Value),w.heap[g]? = some (Obj.cells cells 5 (0,0))→w'.heap[g]? = w.heap[g]?) (h2 : ∀ g : Nat,A = some ⟨g,0,none⟩→w'.heap[g]? = w.heap[g]?) : qC w' A n c L:=by
 refine ⟨h.1,h.2.1,fun hn => ?_⟩;obtain ⟨g,lv,e,hr,hl,hc⟩:=h.2.2 hn;refine ⟨g,lv,e,hr.of_block (h2 g e),hl,fun i hi => ?_⟩;obtain ⟨Ai,ci,q1,q2,q3⟩:=hc i hi;exact ⟨Ai,ci,q1,q2,q3.qA h1⟩
theorem qC.below (h : qC w A n c L) (hb : Below w.heap.size w w') : qC w' A n c L:=by
 refine ⟨h.1,h.2.1,fun hn => ?_⟩;obtain ⟨g,lv,e,hr,hl,hc⟩:=h.2.2 hn;refine ⟨g,lv,e,hr.below hb hr.lt,hl,fun i hi => ?_⟩;obtain ⟨Ai,ci,q1,q2,q3⟩:=hc i hi;exact ⟨Ai,ci,q1,q2,q3.below hb⟩
theorem qC.drewN (h : qC w A n c L) (k : Nat) : qC (w.drewN k) A n c L:=h
theorem qC.drew (h : qC w A n c L) : qC w.drew A n c L:=h
theorem qC.FG (h : qC w A n c L) {p : Addr} {t : TypeId} {ys : List Value} (hr : Row w p.block t ys) (ht : t≠5) (hA : A≠some ⟨p.block,0,none⟩) (u : Value) : qC (w.setCell p u) A n c L:=by
 refine h.qA (fun g cells hb => Below.heap_setCell w p u g ?_) (fun g e => Below.heap_setCell w p u g ?_)
 ·rintro rfl
  unfold Row at hr;rw [hb] at hr;injection hr with hr;injection hr with _ e2;exact ht e2.symm
 ·rintro rfl
  exact hA e
theorem qC.grown (h : qC w A n c L) {g' : Nat} (hg : w.grownBy w' (some g')) {t : TypeId} {ys : List Value} (hr : Row w g' t ys) (ht : t≠5) (hA : A≠some ⟨g',0,none⟩) : qC w' A n c L:=by
 refine ⟨h.1,h.2.1,fun hn => ?_⟩;obtain ⟨g,lv,e,hr2,hl,hc⟩:=h.2.2 hn;refine ⟨g,lv,e,hr2.of_block (hg.block g hr2.lt (fun e2 => by injection e2 with e2;subst e2;exact hA e)),hl,fun i hi => ?_⟩;obtain ⟨Ai,ci,q1,q2,q3⟩:=hc i hi;exact ⟨Ai,ci,q1,q2,q3.grown hg hr ht⟩
theorem eY {L : List (List UInt8)} {i j : Nat} {x : List UInt8} (h : i < L.length) : (L.set i x).getD j [] = if j = i then x else L.getD j []:=by
 rw [List.getD_eq_getElem?_getD,List.getD_eq_getElem?_getD,List.getElem?_set]
 by_cases e : i = j
 ·rw [if_pos e,if_pos h,if_pos e.symm];rfl
 ·rw [if_neg e,if_neg (fun h2 => e h2.symm)]
theorem qC.store (h : qC w A n c L) {i : Nat} (hi : i < n) {g : Nat} (hA : A = some ⟨g,0,none⟩) {A' : Option Addr} {c' : Nat} {x : List UInt8} (hx : x.length = c) (hc' : c≤c') (hr : AP w A' x) : qC (w.setCell ⟨g,i,none⟩ (.slice A' c c')) A n c (L.set i x):=by
 obtain ⟨g2,lv,e,hrow,hl,hc⟩:=h.2.2 (by omega);rw [hA] at e;simp only [Option.some.injEq,Addr.mk.injEq,and_true] at e;subst e;have hne : (22 : TypeId)≠5:=by decide
 refine ⟨by rw [List.length_set];exact h.1,fun j hj => ?_,fun _ => ⟨g,lv.set i (.slice A' c c'),hA,hrow.set i _,by rw [List.length_set];exact hl,fun j hj => ?_⟩⟩
 ·rw [eY (by rw [h.1];exact hi)]
  split
  ·exact hx
  ·exact h.2.1 j hj
 ·rw [eY (by rw [h.1];exact hi),List.getElem?_set]
  by_cases e : i = j
  ·rw [if_pos e,if_pos (by omega),if_pos e.symm]
   exact ⟨A',c',rfl,hc',hr.set hrow hne _⟩
  ·obtain ⟨Ai,ci,q1,q2,q3⟩:=hc j hj
   rw [if_neg e,if_neg (fun h2 => e h2.symm)];exact ⟨Ai,ci,q1,q2,q3.set hrow hne _⟩
end
end Go.Proofs.Yteofcbkjhdadpaa
namespace Go.Proofs.Yteofcbkjhdadpaa
open Go.RowKit
def fH (L : List (List UInt8)) (i j : Nat) : UInt8:=(L.getD i []).getD j 0
structure Gz (w : World) (gr : Nat) (Al Aa : Option Addr) (n capl c m : Nat) (L A : List (List UInt8)) : Prop where
 row : Row w gr 95 [.slice Al n capl,.slice Aa n n,.int .i64 (c : Int)]
 l : qC w Al n c L
 also : qC w Aa n m A
 le : n≤capl
 ne : ∀ g,Al = some ⟨g,0,none⟩→Aa≠some ⟨g,0,none⟩
theorem aBT (gr : Nat) (Al Aa : Option Addr) (n capl c m top col : Nat) (L A : List (List UInt8)) (w : World) (h : Gz w gr Al Aa n capl c m L A) (hn : n≤64) (hc : c≤64) (htop : top < n) (hcol : col≤65) :
  Calls Try.prog 94 #[.pointer (some ⟨gr,0,none⟩),.int .i64 (top : Int),.int .i64 (col : Int)] w fun e w' => ∃ (i j : Nat) (b : Bool),e = .returned (.tuple #[.int .i64 (i : Int),.int .i64 (j : Int),.bool b])∧w = w' ∧
   (b = true→i < n∧top≤i∧j < c∧col≤j∧fH L i j≠0∧(∀ i',top≤i'→i' < i→fH L i' j = 0) ∧ ∀ j',col≤j'→j' < j → ∀ i',top≤i'→i' < n→fH L i' j' = 0) ∧
   (b = false → ∀ j',col≤j'→j' < c → ∀ i',top≤i'→i' < n→fH L i' j' = 0):=by
 have r0 : w.cell? ⟨gr,0,none⟩ = some (.slice Al n capl):=h.row.cell 0;have r2 : w.cell? ⟨gr,2,none⟩ = some (.int .i64 (c : Int)):=h.row.cell 2;have HL:=Lib.hid h.l;clear h;go_enter Try.func94,Try.ntmps94;go_wp2_with fail
 go_step3
 go_wp2_with fail
 go_step3
 go_wp2_with fail
 go_loopg [6,7,8] (c - col) (fun k s6 s7 s8 wr => ∃ (j ii : Nat),s6 = .int .i64 (ii : Int)∧s7 = .int .i64 (j : Int)∧s8 = .bool false∧wr = w∧col≤j∧k = c - j∧(∀ j',col≤j'→j' < j→j' < c → ∀ i',top≤i'→i' < n→fH L i' j' = 0))
 case atStart => exact ⟨col,0,rfl,rfl,rfl,rfl,Nat.le_refl _,rfl,fun j' h1 h2 => by omega⟩
 case round =>
  obtain ⟨j,ii,rfl,rfl,rfl,rfl,hj,hk,hz⟩:=hrel;have HZ:=Lib.hid hz;clear hz;obtain ⟨wo,rfl⟩ : ∃ wo : World,wo = wr:=⟨_,rfl⟩
  obtain ⟨ko,rfl⟩ : ∃ ko : Nat,ko = gk:=⟨_,rfl⟩
  by_cases hjc : j < c
  ·go_wp2_with fail
   go_loopg [6,8] (n - top) (fun k s6 s8 wr2 => ∃ (i : Nat),s6 = .int .i64 (i : Int)∧s8 = .bool false∧wr2 = wo∧top≤i∧i≤n∧k = n - i ∧ ∀ i',top≤i'→i' < i→fH L i' j = 0)
   case atStart => exact ⟨top,rfl,rfl,rfl,Nat.le_refl _,by omega,rfl,fun i' h1 h2 => by omega⟩
   case round =>
    obtain ⟨i,rfl,rfl,rfl,hti,hin,hk2,hzi⟩:=hrel;have HZI:=Lib.hid hzi;clear hzi
    by_cases hi2 : i < n
    ·obtain ⟨g,Ai,ci,rfl,hg,hci,hfi,hle,hri⟩:=HL.out.at_ hi2
     have hwd:=HL.out.width hi2;obtain ⟨g',o,rfl,hg',hcell⟩:=mJ hri.rd (k:=j) (by omega);obtain ⟨x,hx⟩ : ∃ x,x = fH L i j:=⟨_,rfl⟩
     replace hcell : wr.cell? ⟨g',o + j,none⟩ = some (.int .u8 (x.toNat : Int)):=by rw [hx];exact hcell
     have HX:=Lib.hid hx;clear hx hri hwd
     by_cases hx0 : x.toNat = 0
     ·have hx1 : (x.toNat : Int) = 0:=by omega
      rw [hx1] at hcell;go_wp2_with fail
      go_roundg (n - (i + 1))
      case rel =>
       refine ⟨i + 1,by go_num,rfl,rfl,by omega,by omega,rfl,fun i' h1 h2 => ?_⟩
       rcases Nat.lt_or_ge i' i with h3 | h3
       ·exact HZI.out i' h1 h3
       ·obtain rfl : i' = i:=by omega
        rw [← HX.out];exact UInt8.toNat_inj.1 hx0
      case measure => omega
     ·have hx1 : ((x.toNat : Int) == 0) = false:=by simp;omega
      go_wp2_with fail
      try rw [Exit.noGoto_ret]
      refine bodyPost_ret (v:=.tuple #[.int .i64 (i : Int),.int .i64 (j : Int),.bool true]) (by simp [results,Try.results94,go_sem]) rfl ?_;refine ⟨i,j,true,rfl,rfl,fun _ => ⟨hi2,hti,hjc,hj,?_,HZI.out,fun j' h1 h2 i' h3 h4 => HZ.out j' h1 h2 (by omega) i' h3 h4⟩,fun h => by cases h⟩;rw [← HX.out];rintro rfl;exact hx0 rfl
    ·obtain rfl : i = n:=by omega
     go_wp2_with fail
     go_roundg (c - (j + 1))
     case rel =>
      refine ⟨j + 1,i,rfl,by go_num,rfl,rfl,by omega,rfl,fun j' h1 h2 h3 i' h4 h5 => ?_⟩
      rcases Nat.lt_or_ge j' j with h6 | h6
      ·exact HZ.out j' h1 h6 h3 i' h4 h5
      ·obtain rfl : j' = j:=by omega
       exact HZI.out i' h4 h5
     case measure => omega
  ·go_wp2_with fail
   try rw [Exit.noGoto_ret]
   refine bodyPost_ret (v:=.tuple #[.int .i64 (ii : Int),.int .i64 (j : Int),.bool false]) (by simp [results,Try.results94,go_sem]) rfl ?_;exact ⟨ii,j,false,rfl,rfl,(fun h => by cases h),fun _ j' h1 h2 i' h3 h4 => HZ.out j' h1 (by omega) h2 i' h3 h4⟩
end Go.Proofs.Yteofcbkjhdadpaa
namespace Go.Proofs.Yteofcbkjhdadpaa
open Go.RowKit
theorem BF (c : UInt8) (A : Option Addr) (n cap : Nat) (xs : List UInt8) (w : World) (hr : Rd w w.heap.size A n (dK xs)) (hn : n≤140737488355328) :
  Calls Try.prog 96 #[.int .u8 (c.toNat : Int),.slice A n cap] w fun e w' => ∃ A' cap',e = .returned (.slice A' n cap')∧eJ w' w.heap.size A' n cap' (xs.map (Gf.mul c))∧Below w.heap.size w w':=by
 obtain ⟨Z,hzv,HZ0,HSZ⟩:=zO;have hmk:=zW n (by omega);go_enter Try.func96,Try.ntmps96;go_wp2_with (first | (go_at_call 90;refine (CH _).mono ?_;rintro e w1 ⟨T,hT,rfl,hb1⟩) | (refine sC (.tmp 5) (.tmp 9) rfl rfl T Z hT HZ0 HSZ rfl rfl ?_;intro w2 hs2 hg2 hb2))
 have hrow:=vO w2 n;rw [hs2] at hrow;have hbW : Below w.heap.size w (w2.alloc (.cells (madeCells #[.int .u8 0] n) 5)):=(hb1.trans (hb2.mono hb1.size)).alloc (by have:=hb1.size;omega) _;have ht:=(kY.mk hT hg2).of_block (w':=w2.alloc (.cells (madeCells #[.int .u8 0] n) 5)) (Below.heap_alloc w2 _ _ (by omega));have hsz:=hb1.size;rw [← aGf (fun j => Gf.mul c (xs.getD j 0)) n] at hrow;have HF:=Lib.hid (aIp (fun j => Gf.mul c (xs.getD j 0)) n);have HR:=Lib.hid (SU xs (Gf.mul c));have HL:=Lib.hid (show xs.length = n by have:=hr.len;rw [bC] at this;exact this);have HT:=Lib.hid ht;have HW:=Lib.hid hrow;have HB:=Lib.hid hbW;clear hrow ht hbW hg2 hmk hzv hT HSZ HZ0 hs2 hb2
 go_loopw [15] (fun v15 wr => ∃ i : Nat,i≤n∧v15 = .int .i64 (i : Int)∧Row wr (w1.heap.size + 1) 5 (dK (yI (fun j => Gf.mul c (xs.getD j 0)) n i))∧kY wr w1.heap.size∧Below w.heap.size w wr) (fun v15 _ => n - (intOf v15).toNat)
 case atStart => exact ⟨0,by omega,rfl,HW.out,HT.out,HB.out⟩
 case round =>
  obtain ⟨i,hi,rfl,hrow,ht,hb⟩:=hrel;clear HT HW HB
  by_cases hlt : i < n
  ·obtain ⟨g,o,rfl,hg,hcell⟩:=mJ (hr.below hb (Nat.le_refl _)) hlt
   obtain ⟨old,hst⟩:=hrow.has (i:=i) (by rw [bC,aIo _ hi];exact hlt);have hfz:=hrow.frozen i;have HST:=Lib.hid hrow;have FN:=Lib.hid hr;have HB:=Lib.hid hb;obtain ⟨x,hx⟩ : ∃ x,x = xs.getD i 0:=⟨_,rfl⟩
   rw [← hx] at hcell;have HX:=Lib.hid hx;clear hx hr hrow hb;go_wp2_with (go_at_call 100;refine (PD _ _ _ _ ht).mono ?_;rintro e w' ⟨rfl,nd,rfl⟩)
   go_roundw
   case rel =>
    refine ⟨i + 1,by omega,by go_num,?_,?_,?_⟩
    ·have h:=(HST.out.drewN nd).set i (.int .u8 ((Gf.mul c (xs.getD i 0)).toNat : Int))
     rw [ZB] at h;have e:=aIn (fun j => Gf.mul c (xs.getD j 0)) hlt;rw [e,← HX.out] at h;exact h
    ·exact (ht.drewN nd).of_block (Below.heap_setCell _ _ _ _ (by simp))
    ·exact (below_drewN HB.out nd).setCell (by simp;omega) _
   case measure => simp [intOf];omega
  ·obtain rfl : i = n:=by omega
   rw [HF.out] at hrow;rw [show (List.range i).map (fun j => Gf.mul c (xs.getD j 0)) = xs.map (Gf.mul c) by rw [← HR.out,HL.out]] at hrow;go_wp2_with fail
   go_ret;exact ⟨_,_,rfl,hrow.aFL (by omega) (by rw [List.length_map,HL.out]) (by simp only [maxLen];omega),hb⟩
end Go.Proofs.Yteofcbkjhdadpaa
namespace Go.Proofs.Yteofcbkjhdadpaa
open Go.RowKit
theorem aKt {dst src : List UInt8} (c : UInt8) (h : dst.length = src.length) : (List.range src.length).map (fun j => Gf.add (Gf.mul c (src.getD j 0)) (dst.getD j 0)) = Gf.mL dst c src:=by
 have h1:=PX dst src (fun d s => Gf.add d (Gf.mul c s)) h;rw [h] at h1;unfold Gf.mL;rw [← h1];apply List.map_congr_left;intro j _;exact Gf.add_comm _ _
theorem aFW (dst : Option Addr) (n dc : Nat) (c : UInt8) (src : Option Addr) (sc : Nat) (ds ss : List UInt8) (w : World) (hd : Rd w w.heap.size dst n (dK ds)) (hs : Rd w w.heap.size src n (dK ss)) (hn : n≤140737488355328) :
  Calls Try.prog 98 #[.slice dst n dc,.int .u8 (c.toNat : Int),.slice src n sc] w fun e w' => ∃ A' cap',e = .returned (.tuple #[.slice A' n cap',.int .i64 0])∧eJ w' w.heap.size A' n cap' (Gf.mL ds c ss)∧Below w.heap.size w w':=by
 have hq : ((n : Int) != (n : Int)) = false:=by rw [bne_eq_false_iff_eq]
 have hld : ds.length = n:=by have:=hd.len;rw [bC] at this;exact this
 have hls : ss.length = n:=by have:=hs.len;rw [bC] at this;exact this
 have HLD:=Lib.hid hld;have HLS:=Lib.hid hls;have HF:=Lib.hid (show PC (fun j => Gf.add (Gf.mul c (ss.getD j 0)) (ds.getD j 0)) (ss.map (Gf.mul c)) n = Gf.mL ds c ss by
  have h:=aNy (fun j => Gf.add (Gf.mul c (ss.getD j 0)) (ds.getD j 0)) (ss.map (Gf.mul c));rw [List.length_map,hls] at h;rw [h,← aKt c (by omega),hls])
 clear hld hls;go_enter Try.func98,Try.ntmps98;go_wp2_with (go_at_call 96;refine (BF _ _ _ _ ss _ hs hn).mono ?_;rintro e w1 ⟨A1,c1,rfl,ho1,hb1⟩)
 rw [← aJL (fun j => Gf.add (Gf.mul c (ss.getD j 0)) (ds.getD j 0)) (ss.map (Gf.mul c))] at ho1;have HO:=Lib.hid ho1;have HB:=Lib.hid hb1;clear ho1 hb1
 go_loopw [21] (fun v21 wr => ∃ i : Nat,i≤n∧v21 = .int .i64 (i : Int)∧eJ wr w.heap.size A1 n c1 (PC (fun j => Gf.add (Gf.mul c (ss.getD j 0)) (ds.getD j 0)) (ss.map (Gf.mul c)) i)∧Below w.heap.size w wr) (fun v21 _ => n - (intOf v21).toNat)
 case atStart => exact ⟨0,by omega,rfl,HO.out,HB.out⟩
 case round =>
  obtain ⟨i,hi,rfl,ho,hb⟩:=hrel;clear HO HB
  by_cases hlt : i < n
  ·obtain ⟨g,o,rfl,hg,hcell⟩:=mJ (hd.below hb (Nat.le_refl _)) hlt
   obtain ⟨g1,rfl,hg1,_,hcell1,aQE⟩:=ho.at_ hlt;have hl : i < (ss.map (Gf.mul c)).length:=by rw [List.length_map,HLS.out];exact hlt
   rw [aNx _ hl,aHT _ (by rw [HLS.out];exact hlt)] at hcell1;have HU:=Lib.hid (aNw (fun j => Gf.add (Gf.mul c (ss.getD j 0)) (ds.getD j 0)) hl);have HS:=Lib.hid (ho.store i (Gf.add (Gf.mul c (ss.getD i 0)) (ds.getD i 0)));have hx:=xP (Gf.mul c (ss.getD i 0)) (ds.getD i 0);generalize Gf.mul c (ss.getD i 0) = y at *;generalize ds.getD i 0 = d at *;have HB:=Lib.hid hb;have HD:=Lib.hid hd;clear hb hl ho hd;go_wp2_with fail
   go_roundw
   case rel =>
    refine ⟨i + 1,by omega,by go_num,?_,?_⟩
    ·have h:=HS.out
     rw [HU.out] at h;exact h
    ·exact HB.out.setCell (by simp;omega) _
   case measure => simp [intOf];omega
  ·obtain rfl : i = n:=by omega
   rw [HF.out] at ho;go_wp2_with fail
   go_ret2
   exact ⟨_,_,rfl,ho,hb⟩
end Go.Proofs.Yteofcbkjhdadpaa
namespace Go.Proofs.Yteofcbkjhdadpaa
open Go.RowKit
theorem vT {a w : World} {row : Option Nat} (h : a.grownBy w row) : a.grownBy w.drew row:=⟨h.os,h.tape,h.output,h.size,h.block⟩
theorem cell_far {w : World} {p q : Addr} {u v : Value} (h : w.cell? q = some v) (hne : p.block≠q.block ∨ p.off≠q.off) : (w.setCell p u).cell? q = some v :=
 (World.cell?_setCell_other w p q u (by rintro rfl;rcases hne with h | h <;> exact h rfl)).trans h
theorem aGq {w : World} {p : Addr} {u v : Value} (h : w.cell? p = some v) : (w.setCell p u).cell? p = some u:=by
 first | exact World.cell?_setCell_same _ _ _ _ h | exact World.cell?_setCell_same w p u h | exact World.cell?_setCell h | simp [h]
theorem eJ.le' {w : World} {base n cap : Nat} {A : Option Addr} {xs : List UInt8} (h : eJ w base A n cap xs) : n≤cap:=by
 rcases h.2.2 with ⟨h1,h2⟩ | ⟨g,c,cur,hv,hg,hh,h3,_⟩
 ·omega
 ·simp only [Value.slice.injEq] at hv
  obtain ⟨_,_,rfl⟩:=hv;exact h3
theorem PH (A : Option Addr) (n cap c : Nat) (L : List (List UInt8)) (gi gt go i top : Nat) (over : UInt8) (w : World) (hL : qC w A n c L) (hi : i < n) (ht : top < n) (hn : n≤64) (hc : c≤140737488355328)
  (bi : w.cell? ⟨gi,0,none⟩ = some (.int .i64 (i : Int))) (bt : w.cell? ⟨gt,0,none⟩ = some (.int .i64 (top : Int))) (bo : w.cell? ⟨go,0,none⟩ = some (.int .u8 (over.toNat : Int)))
  (hgi : ∀ g,A = some ⟨g,0,none⟩→g≠gi∧g≠gt∧g≠go) :
  Calls Try.prog 95 #[.slice A n cap,.pointer (some ⟨gt,0,none⟩),.pointer (some ⟨gi,0,none⟩),.pointer (some ⟨go,0,none⟩)] w fun e w' => e = .returned (.tuple #[])∧qC w' A n c ((L.set i (L.getD top [])).set top ((L.getD i []).map (Gf.mul over))) ∧ ∃ g,A = some ⟨g,0,none⟩∧w.grownBy w' (some g):=by
 obtain ⟨g,Ai,ci,rfl,hg,hci,hfi,hle,hri⟩:=hL.at_ hi;obtain ⟨g2,At,ct,e2,_,hct,hft,hlt,hrt⟩:=hL.at_ ht;simp only [Option.some.injEq,Addr.mk.injEq,and_true] at e2;subst e2;obtain ⟨n1,n2,n3⟩:=hgi g rfl;have HL:=Lib.hid hL;have i0 : (0 : Int)≤(i : Int):=by omega
 have i1 : (i : Int) < (n : Int):=by omega
 have t0 : (0 : Int)≤(top : Int):=by omega
 have t1 : (top : Int) < (n : Int):=by omega
 clear hL hgi;go_enter Try.func95,Try.ntmps95;go_wp2_with fail
 obtain ⟨_,lv,e4,hrow⟩:=HL.out.row (by omega);simp only [Option.some.injEq,Addr.mk.injEq,and_true] at e4;subst e4;have HROWT:=Lib.hid hrow;clear hrow
 by_cases hit : i = top
 ·subst hit
  go_region
  go_wp2_with fail
  obtain ⟨W2,hW2⟩ : ∃ W2,W2 = ((w.setCell ⟨g,i,none⟩ (.slice Ai c ci)).setCell ⟨g,i,none⟩ (.slice Ai c ci)).drew:=⟨_,rfl⟩
  have hL2 : qC W2 (some ⟨g,0,none⟩) n c ((L.set i (L.getD i [])).set i (L.getD i [])):=by rw [hW2];exact qC.drew ((HL.out.store hi rfl (HL.out.width hi) hle hri).store hi rfl (HL.out.width hi) hle (hri.set (HROWT.out : Row w g _ _) (by decide) _))
  have hg2 : w.grownBy W2 (some g):=by rw [hW2];exact vT (gN (p:=⟨g,i,none⟩) (gN (p:=⟨g,i,none⟩) (World.grownBy.refl w (some g)) (.inl rfl) _) (.inl rfl) _)
  rw [← hW2];have HW2:=Lib.hid hW2;clear hW2 hci hct hfi hft hri hrt;obtain ⟨g3,At2,ct2,e3,hg3,hct2,hft2,hlt2,hrt2⟩:=hL2.at_ hi;simp only [Option.some.injEq,Addr.mk.injEq,and_true] at e3;subst e3;have bt2 : W2.cell? ⟨gt,0,none⟩ = some (.int .i64 (i : Int)):=(World.cell?_of_block (w:=w) (w':=W2) (a:=⟨gt,0,none⟩) (hg2.block gt (gQ bt) (by simp;omega))).trans bt;have bo2 : W2.cell? ⟨go,0,none⟩ = some (.int .u8 (over.toNat : Int)):=(World.cell?_of_block (w:=w) (w':=W2) (a:=⟨go,0,none⟩) (hg2.block go (gQ bo) (by simp;omega))).trans bo;have HLG:=Lib.hid (show ((L.set i (L.getD i [])).set i (L.getD i [])).getD i [] = L.getD i [] by rw [eY (by rw [List.length_set,HL.out.len];exact hi),if_pos rfl]);rw [HLG.out] at hrt2;have hwid : (L.getD i []).length = c:=HL.out.width hi;have hrd:=hrt2.rd;rw [hwid] at hrd;have HSC:=Lib.hid (BF over At2 c ct2 (L.getD i []) W2.drew (show Rd W2.drew W2.drew.heap.size At2 c (dK (L.getD i [])) from hrd) hc);have HL2:=Lib.hid hL2;have HG2:=Lib.hid hg2;have HWID:=Lib.hid hwid;have HLT1:=Lib.hid (gQ bt2);have HLT2:=Lib.hid (gQ bo2);clear hL2 hg2 hwid hrd hrt2 bi bt bo;refine wp_region_held_drew (S:=(fun w' => w'.cell? ⟨gt,0,none⟩ = some (.int .i64 (i : Int))∧w'.cell? ⟨go,0,none⟩ = some (.int .u8 (over.toNat : Int)))) (by kernel_rfl) ⟨bt2,bo2⟩ (fun hHeld => ?_);refine wpAnyH_take (i:=0) (v:=?_) rfl (by kernel_rfl) (by kernel_rfl) (by kernel_rfl) (fun _ _ _ h => h) (Or.inl ⟨by rfl,?_⟩) (by assumption) ?_
  rotate_left
  ·(intro w hSw;(try dsimp only at hSw);go_simp;(try with_reducible rfl))
  (try simp only [Act.put,cO,cL,cP]);refine wpAnyH_take (i:=1) (v:=?_) rfl (by kernel_rfl) (by kernel_rfl) (by kernel_rfl) (fun _ _ _ h => h) (Or.inl ⟨by rfl,?_⟩) (by assumption) ?_;rotate_left
  ·(intro w hSw;(try dsimp only at hSw);go_simp;(try with_reducible rfl))
  (try simp only [Act.put,cO,cL,cP]);refine wpAnyH_take (i:=2) (v:=?_) rfl (by kernel_rfl) (by kernel_rfl) (by kernel_rfl) (fun _ _ _ h => h) (Or.inl ⟨by rfl,?_⟩) (by assumption) ?_;rotate_left
  ·(intro w hSw;(try dsimp only at hSw);go_simp;(try with_reducible rfl))
  (try simp only [Act.put,cO,cL,cP]);refine wpAnyH_take (i:=3) (v:=?_) rfl (by kernel_rfl) (by kernel_rfl) (by kernel_rfl) (fun _ _ _ h => h) (Or.inl ⟨by rfl,?_⟩) (by assumption) ?_;rotate_left
  ·(intro w hSw;(try dsimp only at hSw);go_simp;(try with_reducible rfl))
  (try simp only [Act.put,cO,cL,cP]);refine wpAnyH_take (i:=4) (v:=?_) rfl (by kernel_rfl) (by kernel_rfl) (by kernel_rfl) (fun _ _ _ h => h) (Or.inl ⟨by rfl,?_⟩) (by assumption) ?_;rotate_left
  ·(intro w hSw;(try dsimp only at hSw);go_simp;(try with_reducible rfl))
  (try simp only [Act.put,cO,cL,cP]);refine wpAnyH_take (i:=5) (v:=?_) rfl (by kernel_rfl) (by kernel_rfl) (by kernel_rfl) (fun _ _ _ h => h) (Or.inl ⟨by rfl,?_⟩) (by assumption) ?_;rotate_left
  ·(intro w hSw;(try dsimp only at hSw);go_simp;(try with_reducible rfl))
  (try simp only [Act.put,cO,cL,cP]);refine wpAnyH_ready (rs:=[6]) (by kernel_rfl) (by simp) ?_;refine AllReadyH.cons rfl (fun K hK => ?_) AllReadyH.nil;go_simp;refine hK.out _ _ hHeld (fun hHeld => ?_);clear hK K;(try simp only [Act.put,cO,cL,cP]);refine wpAnyH_ready (rs:=[7]) (by kernel_rfl) (by simp) ?_;refine AllReadyH.cons rfl (fun K hK => ?_) AllReadyH.nil;go_simp;refine HSC.out.mono ?_;rintro e w3 ⟨A3,c3,rfl,o3,hb⟩;have hc3 : w3.cell? ⟨g,i,none⟩ = some (.slice At2 c ct2):=(hb.cell (p:=⟨g,i,none⟩) hg3).trans hct2;have hf3 : w3.frozen? ⟨g,i,none⟩ = false:=(hb.frozen (p:=⟨g,i,none⟩) hg3).trans hft2;have HO3:=Lib.hid o3;have AU:=Lib.hid hb;clear hb o3;go_wp2_with fail
  refine hK.out _ _ ⟨(AU.out.cell (p:=⟨gt,0,none⟩) HLT1.out).trans hHeld.1,(AU.out.cell (p:=⟨go,0,none⟩) HLT2.out).trans hHeld.2⟩ (fun hHeld => ?_);clear hK K;(try simp only [Act.put,cO,cL,cP]);refine wpAnyH_take (i:=8) (v:=?_) rfl (by kernel_rfl) (by kernel_rfl) (by kernel_rfl) (fun _ _ _ h => h) (Or.inl ⟨by rfl,?_⟩) (by assumption) ?_;rotate_left
  ·(intro w hSw;(try dsimp only at hSw);go_simp;(try with_reducible rfl))
  (try simp only [Act.put,cO,cL,cP]);refine wpAnyH_ready (rs:=[9]) (by kernel_rfl) (by simp) ?_;refine AllReadyH.cons rfl (fun K hK => ?_) AllReadyH.nil;go_simp;refine hK.out _ _ ⟨cell_far hHeld.1 (.inl n2),cell_far hHeld.2 (.inl n3)⟩ (fun hHeld => ?_);clear hK K;(try simp only [Act.put,cO,cL,cP]);refine wpAnyH_done (by kernel_rfl) ?_ _;have HF:=Lib.hid (show qC (w3.setCell ⟨g,i,none⟩ (.slice A3 c c3)) (some ⟨g,0,none⟩) n c ((L.set i (L.getD i [])).set i ((L.getD i []).map (Gf.mul over))) by
   have h:=((HL2.out.drew).below AU.out).store hi rfl (by rw [List.length_map];exact HWID.out) HO3.out.le' (AP.WO HO3.out);rw [List.set_set] at h;exact h)
  have HGF:=Lib.hid (show w.grownBy (w3.setCell ⟨g,i,none⟩ (.slice A3 c c3)) (some g) from gN (p:=⟨g,i,none⟩) (zZ (a:=w) (w:=W2.drew) (vT HG2.out) AU.out) (.inl rfl) _);go_wp2_with fail
  go_end0
  exact ⟨rfl,HF.out,g,rfl,HGF.out⟩
 ·have hne : top≠i:=fun h => hit h.symm
  go_region
  go_wp2_with fail
  obtain ⟨W2,hW2⟩ : ∃ W2,W2 = ((w.setCell ⟨g,i,none⟩ (.slice At c ct)).setCell ⟨g,top,none⟩ (.slice Ai c ci)).drew:=⟨_,rfl⟩
  have hL2 : qC W2 (some ⟨g,0,none⟩) n c ((L.set i (L.getD top [])).set top (L.getD i [])):=by rw [hW2];exact qC.drew ((HL.out.store hi rfl (HL.out.width ht) hlt hrt).store ht rfl (HL.out.width hi) hle (hri.set (HROWT.out : Row w g _ _) (by decide) _))
  have hg2 : w.grownBy W2 (some g):=by rw [hW2];exact vT (gN (p:=⟨g,top,none⟩) (gN (p:=⟨g,i,none⟩) (World.grownBy.refl w (some g)) (.inl rfl) _) (.inl rfl) _)
  rw [← hW2];have HW2:=Lib.hid hW2;clear hW2 hci hct hfi hft hri hrt;obtain ⟨g3,At2,ct2,e3,hg3,hct2,hft2,hlt2,hrt2⟩:=hL2.at_ ht;simp only [Option.some.injEq,Addr.mk.injEq,and_true] at e3;subst e3;have bt2 : W2.cell? ⟨gt,0,none⟩ = some (.int .i64 (top : Int)):=(World.cell?_of_block (w:=w) (w':=W2) (a:=⟨gt,0,none⟩) (hg2.block gt (gQ bt) (by simp;omega))).trans bt;have bo2 : W2.cell? ⟨go,0,none⟩ = some (.int .u8 (over.toNat : Int)):=(World.cell?_of_block (w:=w) (w':=W2) (a:=⟨go,0,none⟩) (hg2.block go (gQ bo) (by simp;omega))).trans bo;have HLG:=Lib.hid (show ((L.set i (L.getD top [])).set top (L.getD i [])).getD top [] = L.getD i [] by rw [eY (by rw [List.length_set,HL.out.len];exact ht),if_pos rfl]);rw [HLG.out] at hrt2;have hwid : (L.getD i []).length = c:=HL.out.width hi;have hrd:=hrt2.rd;rw [hwid] at hrd;have HSC:=Lib.hid (BF over At2 c ct2 (L.getD i []) W2.drew (show Rd W2.drew W2.drew.heap.size At2 c (dK (L.getD i [])) from hrd) hc);have HL2:=Lib.hid hL2;have HG2:=Lib.hid hg2;have HWID:=Lib.hid hwid;have HLT1:=Lib.hid (gQ bt2);have HLT2:=Lib.hid (gQ bo2);clear hL2 hg2 hwid hrd hrt2 bi bt bo;refine wp_region_held_drew (S:=(fun w' => w'.cell? ⟨gt,0,none⟩ = some (.int .i64 (top : Int))∧w'.cell? ⟨go,0,none⟩ = some (.int .u8 (over.toNat : Int)))) (by kernel_rfl) ⟨bt2,bo2⟩ (fun hHeld => ?_);refine wpAnyH_take (i:=0) (v:=?_) rfl (by kernel_rfl) (by kernel_rfl) (by kernel_rfl) (fun _ _ _ h => h) (Or.inl ⟨by rfl,?_⟩) (by assumption) ?_
  rotate_left
  ·(intro w hSw;(try dsimp only at hSw);go_simp;(try with_reducible rfl))
  (try simp only [Act.put,cO,cL,cP]);refine wpAnyH_take (i:=1) (v:=?_) rfl (by kernel_rfl) (by kernel_rfl) (by kernel_rfl) (fun _ _ _ h => h) (Or.inl ⟨by rfl,?_⟩) (by assumption) ?_;rotate_left
  ·(intro w hSw;(try dsimp only at hSw);go_simp;(try with_reducible rfl))
  (try simp only [Act.put,cO,cL,cP]);refine wpAnyH_take (i:=2) (v:=?_) rfl (by kernel_rfl) (by kernel_rfl) (by kernel_rfl) (fun _ _ _ h => h) (Or.inl ⟨by rfl,?_⟩) (by assumption) ?_;rotate_left
  ·(intro w hSw;(try dsimp only at hSw);go_simp;(try with_reducible rfl))
  (try simp only [Act.put,cO,cL,cP]);refine wpAnyH_take (i:=3) (v:=?_) rfl (by kernel_rfl) (by kernel_rfl) (by kernel_rfl) (fun _ _ _ h => h) (Or.inl ⟨by rfl,?_⟩) (by assumption) ?_;rotate_left
  ·(intro w hSw;(try dsimp only at hSw);go_simp;(try with_reducible rfl))
  (try simp only [Act.put,cO,cL,cP]);refine wpAnyH_take (i:=4) (v:=?_) rfl (by kernel_rfl) (by kernel_rfl) (by kernel_rfl) (fun _ _ _ h => h) (Or.inl ⟨by rfl,?_⟩) (by assumption) ?_;rotate_left
  ·(intro w hSw;(try dsimp only at hSw);go_simp;(try with_reducible rfl))
  (try simp only [Act.put,cO,cL,cP]);refine wpAnyH_take (i:=5) (v:=?_) rfl (by kernel_rfl) (by kernel_rfl) (by kernel_rfl) (fun _ _ _ h => h) (Or.inl ⟨by rfl,?_⟩) (by assumption) ?_;rotate_left
  ·(intro w hSw;(try dsimp only at hSw);go_simp;(try with_reducible rfl))
  (try simp only [Act.put,cO,cL,cP]);refine wpAnyH_ready (rs:=[6]) (by kernel_rfl) (by simp) ?_;refine AllReadyH.cons rfl (fun K hK => ?_) AllReadyH.nil;go_simp;refine hK.out _ _ hHeld (fun hHeld => ?_);clear hK K;(try simp only [Act.put,cO,cL,cP]);refine wpAnyH_ready (rs:=[7]) (by kernel_rfl) (by simp) ?_;refine AllReadyH.cons rfl (fun K hK => ?_) AllReadyH.nil;go_simp;refine HSC.out.mono ?_;rintro e w3 ⟨A3,c3,rfl,o3,hb⟩;have hc3 : w3.cell? ⟨g,top,none⟩ = some (.slice At2 c ct2):=(hb.cell (p:=⟨g,top,none⟩) hg3).trans hct2;have hf3 : w3.frozen? ⟨g,top,none⟩ = false:=(hb.frozen (p:=⟨g,top,none⟩) hg3).trans hft2;have HO3:=Lib.hid o3;have AU:=Lib.hid hb;clear hb o3;go_wp2_with fail
  refine hK.out _ _ ⟨(AU.out.cell (p:=⟨gt,0,none⟩) HLT1.out).trans hHeld.1,(AU.out.cell (p:=⟨go,0,none⟩) HLT2.out).trans hHeld.2⟩ (fun hHeld => ?_);clear hK K;(try simp only [Act.put,cO,cL,cP]);refine wpAnyH_take (i:=8) (v:=?_) rfl (by kernel_rfl) (by kernel_rfl) (by kernel_rfl) (fun _ _ _ h => h) (Or.inl ⟨by rfl,?_⟩) (by assumption) ?_;rotate_left
  ·(intro w hSw;(try dsimp only at hSw);go_simp;(try with_reducible rfl))
  (try simp only [Act.put,cO,cL,cP]);refine wpAnyH_ready (rs:=[9]) (by kernel_rfl) (by simp) ?_;refine AllReadyH.cons rfl (fun K hK => ?_) AllReadyH.nil;go_simp;refine hK.out _ _ ⟨cell_far hHeld.1 (.inl n2),cell_far hHeld.2 (.inl n3)⟩ (fun hHeld => ?_);clear hK K;(try simp only [Act.put,cO,cL,cP]);refine wpAnyH_done (by kernel_rfl) ?_ _;have HF:=Lib.hid (show qC (w3.setCell ⟨g,top,none⟩ (.slice A3 c c3)) (some ⟨g,0,none⟩) n c ((L.set i (L.getD top [])).set top ((L.getD i []).map (Gf.mul over))) by
   have h:=((HL2.out.drew).below AU.out).store ht rfl (by rw [List.length_map];exact HWID.out) HO3.out.le' (AP.WO HO3.out);rw [List.set_set] at h;exact h)
  have HGF:=Lib.hid (show w.grownBy (w3.setCell ⟨g,top,none⟩ (.slice A3 c c3)) (some g) from gN (p:=⟨g,top,none⟩) (zZ (a:=w) (w:=W2.drew) (vT HG2.out) AU.out) (.inl rfl) _);go_wp2_with fail
  go_end0
  exact ⟨rfl,HF.out,g,rfl,HGF.out⟩
theorem JM (A : Option Addr) (n cap c : Nat) (L : List (List UInt8)) (gk gc gt k top : Nat) (x : UInt8) (w : World) (hL : qC w A n c L) (hk : k < n) (ht : top < n) (hkt : k≠top) (hn : n≤64) (hc : c≤140737488355328)
  (bk : w.cell? ⟨gk,0,none⟩ = some (.int .i64 (k : Int))) (bt : w.cell? ⟨gt,0,none⟩ = some (.int .i64 (top : Int))) (bc : w.cell? ⟨gc,0,none⟩ = some (.int .u8 (x.toNat : Int)))
  (hgi : ∀ g,A = some ⟨g,0,none⟩→g≠gk∧g≠gt∧g≠gc) :
  Calls Try.prog 97 #[.slice A n cap,.pointer (some ⟨gk,0,none⟩),.pointer (some ⟨gc,0,none⟩),.pointer (some ⟨gt,0,none⟩)] w fun e w' => e = .returned (.tuple #[])∧qC w' A n c (L.set k (Gf.mL (L.getD k []) x (L.getD top []))) ∧ ∃ g,A = some ⟨g,0,none⟩∧w.grownBy w' (some g):=by
 obtain ⟨g,Ak,ck,rfl,hg,hck,hfk,hle,hrk⟩:=hL.at_ hk;obtain ⟨g2,At,ct,e2,_,hct,hft,hlt,hrt⟩:=hL.at_ ht;simp only [Option.some.injEq,Addr.mk.injEq,and_true] at e2;subst e2;obtain ⟨n1,n2,n3⟩:=hgi g rfl;have k0 : (0 : Int)≤(k : Int):=by omega
 have k1 : (k : Int) < (n : Int):=by omega
 have t0 : (0 : Int)≤(top : Int):=by omega
 have t1 : (top : Int) < (n : Int):=by omega
 have wk:=hL.width hk;have wt:=hL.width ht;have hrk2:=hrk.rd;have hrt2:=hrt.rd;rw [wk] at hrk2;rw [wt] at hrt2;have HMC:=Lib.hid (aFW Ak c ck x At ct (L.getD k []) (L.getD top []) w.drew (show Rd w.drew w.drew.heap.size Ak c (dK (L.getD k [])) from hrk2) (show Rd w.drew w.drew.heap.size At c (dK (L.getD top [])) from hrt2) hc);have HWID:=Lib.hid (show (Gf.mL (L.getD k []) x (L.getD top [])).length = c by unfold Gf.mL;rw [List.length_zipWith,wk,wt,Nat.min_self]);have HL:=Lib.hid hL;have HLK:=Lib.hid (gQ bk);have HLT:=Lib.hid (gQ bt);have HLC:=Lib.hid (gQ bc);clear hL hgi hrk hrt hrk2 hrt2 wk wt;go_enter Try.func97,Try.ntmps97;go_wp2_with fail
 have HGG:=Lib.hid hg;have HCT:=Lib.hid hct;refine wp_region_held_drew (S:=(fun w' => w'.cell? ⟨gk,0,none⟩ = some (.int .i64 (k : Int))∧w'.cell? ⟨gt,0,none⟩ = some (.int .i64 (top : Int))∧w'.cell? ⟨gc,0,none⟩ = some (.int .u8 (x.toNat : Int))∧w'.cell? ⟨g,top,none⟩ = some (.slice At c ct))) (by kernel_rfl) ⟨bk,bt,bc,hct⟩ (fun hHeld => ?_);refine wpAnyH_take (i:=0) (v:=?_) rfl (by kernel_rfl) (by kernel_rfl) (by kernel_rfl) (fun _ _ _ h => h) (Or.inl ⟨by rfl,?_⟩) (by assumption) ?_;rotate_left
 ·(intro w hSw;(try dsimp only at hSw);go_simp;(try with_reducible rfl))
 (try simp only [Act.put,cO,cL,cP]);refine wpAnyH_take (i:=1) (v:=?_) rfl (by kernel_rfl) (by kernel_rfl) (by kernel_rfl) (fun _ _ _ h => h) (Or.inl ⟨by rfl,?_⟩) (by assumption) ?_;rotate_left
 ·(intro w hSw;(try dsimp only at hSw);go_simp;(try with_reducible rfl))
 (try simp only [Act.put,cO,cL,cP]);refine wpAnyH_take (i:=2) (v:=?_) rfl (by kernel_rfl) (by kernel_rfl) (by kernel_rfl) (fun _ _ _ h => h) (Or.inl ⟨by rfl,?_⟩) (by assumption) ?_;rotate_left
 ·(intro w hSw;(try dsimp only at hSw);go_simp;(try with_reducible rfl))
 (try simp only [Act.put,cO,cL,cP]);refine wpAnyH_take (i:=3) (v:=?_) rfl (by kernel_rfl) (by kernel_rfl) (by kernel_rfl) (fun _ _ _ h => h) (Or.inl ⟨by rfl,?_⟩) (by assumption) ?_;rotate_left
 ·(intro w hSw;(try dsimp only at hSw);go_simp;(try with_reducible rfl))
 (try simp only [Act.put,cO,cL,cP]);refine wpAnyH_take (i:=4) (v:=?_) rfl (by kernel_rfl) (by kernel_rfl) (by kernel_rfl) (fun _ _ _ h => h) (Or.inl ⟨by rfl,?_⟩) (by assumption) ?_;rotate_left
 ·(intro w hSw;(try dsimp only at hSw);go_simp;(try with_reducible rfl))
 (try simp only [Act.put,cO,cL,cP]);refine wpAnyH_take (i:=6) (v:=?_) rfl (by kernel_rfl) (by kernel_rfl) (by kernel_rfl) (fun _ _ _ h => h) (Or.inl ⟨by rfl,?_⟩) (by assumption) ?_;rotate_left
 ·(intro w hSw;(try dsimp only at hSw);go_simp;(try with_reducible rfl))
 (try simp only [Act.put,cO,cL,cP]);refine wpAnyH_take (i:=7) (v:=?_) rfl (by kernel_rfl) (by kernel_rfl) (by kernel_rfl) (fun _ _ _ h => h) (Or.inl ⟨by rfl,?_⟩) (by assumption) ?_;rotate_left
 ·(intro w hSw;(try dsimp only at hSw);go_simp;(try with_reducible rfl))
 (try simp only [Act.put,cO,cL,cP]);refine wpAnyH_take (i:=8) (v:=?_) rfl (by kernel_rfl) (by kernel_rfl) (by kernel_rfl) (fun _ _ _ h => h) (Or.inl ⟨by rfl,?_⟩) (by assumption) ?_;rotate_left
 ·(intro w hSw;(try dsimp only at hSw);go_simp;(try with_reducible rfl))
 (try simp only [Act.put,cO,cL,cP]);refine wpAnyH_take (i:=9) (v:=?_) rfl (by kernel_rfl) (by kernel_rfl) (by kernel_rfl) (fun _ _ _ h => h) (Or.inl ⟨by rfl,?_⟩) (by assumption) ?_;rotate_left
 ·(intro w hSw;(try dsimp only at hSw);go_simp;(try with_reducible rfl))
 (try simp only [Act.put,cO,cL,cP]);refine wpAnyH_take (i:=10) (v:=?_) rfl (by kernel_rfl) (by kernel_rfl) (by kernel_rfl) (fun _ _ _ h => h) (Or.inl ⟨by rfl,?_⟩) (by assumption) ?_;rotate_left
 ·(intro w hSw;(try dsimp only at hSw);go_simp;(try with_reducible rfl))
 (try simp only [Act.put,cO,cL,cP]);refine wpAnyH_ready (rs:=[5]) (by kernel_rfl) (by simp) ?_;refine AllReadyH.cons rfl (fun K hK => ?_) AllReadyH.nil;go_simp;refine hK.out _ _ hHeld (fun hHeld => ?_);clear hK K;(try simp only [Act.put,cO,cL,cP]);refine wpAnyH_ready (rs:=[11]) (by kernel_rfl) (by simp) ?_;refine AllReadyH.cons rfl (fun K hK => ?_) AllReadyH.nil;go_simp;refine HMC.out.mono ?_;rintro e w3 ⟨A3,c3,rfl,o3,hb⟩;have hc3 : w3.cell? ⟨g,k,none⟩ = some (.slice Ak c ck):=(hb.cell (p:=⟨g,k,none⟩) hg).trans hck;have hf3 : w3.frozen? ⟨g,k,none⟩ = false:=(hb.frozen (p:=⟨g,k,none⟩) hg).trans hfk;have HO3:=Lib.hid o3;have AU:=Lib.hid hb;clear hb o3;go_wp2_with fail
 refine hK.out _ _ ⟨(AU.out.cell (p:=⟨gk,0,none⟩) HLK.out).trans hHeld.1,(AU.out.cell (p:=⟨gt,0,none⟩) HLT.out).trans hHeld.2.1,(AU.out.cell (p:=⟨gc,0,none⟩) HLC.out).trans hHeld.2.2.1,(AU.out.cell (p:=⟨g,top,none⟩) HGG.out).trans hHeld.2.2.2⟩ (fun hHeld => ?_);clear hK K;(try simp only [Act.put,cO,cL,cP]);refine wpAnyH_take (i:=12) (v:=?_) rfl (by kernel_rfl) (by kernel_rfl) (by kernel_rfl) (fun _ _ _ h => h) (Or.inl ⟨by rfl,?_⟩) (by assumption) ?_;rotate_left
 ·(intro w hSw;(try dsimp only at hSw);go_simp;(try with_reducible rfl))
 (try simp only [Act.put,cO,cL,cP]);refine wpAnyH_take (i:=13) (v:=?_) rfl (by kernel_rfl) (by kernel_rfl) (by kernel_rfl) (fun _ _ _ h => h) (Or.inl ⟨by rfl,?_⟩) (by assumption) ?_;rotate_left
 ·(intro w hSw;(try dsimp only at hSw);go_simp;(try with_reducible rfl))
 (try simp only [Act.put,cO,cL,cP]);refine wpAnyH_take (i:=14) (v:=?_) rfl (by kernel_rfl) (by kernel_rfl) (by kernel_rfl) (fun _ _ _ h => h) (Or.inl ⟨by rfl,?_⟩) (by assumption) ?_;rotate_left
 ·(intro w hSw;(try dsimp only at hSw);go_simp;(try with_reducible rfl))
 (try simp only [Act.put,cO,cL,cP]);refine wpAnyH_take (i:=15) (v:=?_) rfl (by kernel_rfl) (by kernel_rfl) (by kernel_rfl) (fun _ _ _ h => h) (Or.inl ⟨by rfl,?_⟩) (by assumption) ?_;rotate_left
 ·(intro w hSw;(try dsimp only at hSw);go_simp;(try with_reducible rfl))
 (try simp only [Act.put,cO,cL,cP]);refine wpAnyH_ready (rs:=[16]) (by kernel_rfl) (by simp) ?_;refine AllReadyH.cons rfl (fun K hK => ?_) AllReadyH.nil;go_simp;refine hK.out _ _ ⟨cell_far hHeld.1 (.inl n1),cell_far hHeld.2.1 (.inl n2),cell_far hHeld.2.2.1 (.inl n3),cell_far hHeld.2.2.2 (.inr hkt)⟩ (fun hHeld => ?_);clear hK K;(try simp only [Act.put,cO,cL,cP]);refine wpAnyH_done (by kernel_rfl) ?_ _;have HF:=Lib.hid (show qC (w3.setCell ⟨g,k,none⟩ (.slice A3 c c3)) (some ⟨g,0,none⟩) n c (L.set k (Gf.mL (L.getD k []) x (L.getD top []))) from
  ((HL.out.drew).below AU.out).store hk rfl HWID.out HO3.out.le' (AP.WO HO3.out))
 have HGF:=Lib.hid (show w.grownBy (w3.setCell ⟨g,k,none⟩ (.slice A3 c c3)) (some g) from gN (p:=⟨g,k,none⟩) (zZ (a:=w) (w:=w.drew) (vT (World.grownBy.refl w (some g))) AU.out) (.inl rfl) _);go_wp2_with fail
 go_end0
 exact ⟨rfl,HF.out,g,rfl,HGF.out⟩
end Go.Proofs.Yteofcbkjhdadpaa
namespace Go.Proofs.Yteofcbkjhdadpaa
open Go.RowKit
structure Chg (w w' : World) (gl ga : Nat) : Prop where
 os : w'.os = w.os
 tape : w'.tape = w.tape
 output : w'.output = w.output
 size : w.heap.size≤w'.heap.size
 block : ∀ k,k < w.heap.size→k≠gl→k≠ga→w'.heap[k]? = w.heap[k]?
theorem Chg.below {w w' : World} {gl ga B : Nat} (h : Chg w w' gl ga) (hl : B≤gl) (ha : B≤ga) (hB : B≤w.heap.size) : Below B w w':=⟨h.os,h.tape,h.output,h.size,fun k hk => h.block k (by omega) (by omega) (by omega)⟩
theorem Chg.two {w w1 w2 : World} {gl ga : Nat} (h1 : w.grownBy w1 (some gl)) (h2 : w1.grownBy w2 (some ga)) : Chg w w2 gl ga :=
 ⟨h2.os.trans h1.os,h2.tape.trans h1.tape,h2.output.trans h1.output,Nat.le_trans h1.size h2.size,fun k hk n1 n2 => (h2.block k (Nat.lt_of_lt_of_le hk h1.size) (by simpa using n2)).trans (h1.block k hk (by simpa using n1))⟩
theorem Chg.cell {w w' : World} {gl ga : Nat} (h : Chg w w' gl ga) {a : Addr} {v : Value} (hc : w.cell? a = some v) (n1 : a.block≠gl) (n2 : a.block≠ga) : w'.cell? a = some v:=(World.cell?_of_block (h.block a.block (World.block_lt_of_cell? w a hc) n1 n2)).trans hc
theorem Row.yR {w : World} {g g' : Nat} {t t' : TypeId} {ys ys' : List Value} (h : Row w g t ys) (h' : Row w g' t' ys') (ht : t≠t') : g≠g':=by
 rintro rfl;unfold Row at h h';rw [h] at h';injection h' with h';injection h' with _ e2;exact ht e2
theorem MY (gb gr gl ga n capl c m : Nat) (L A L1 A1 : List (List UInt8)) (p q r : Value) (w : World) (h : Gz w gr (some ⟨gl,0,none⟩) (some ⟨ga,0,none⟩) n capl c m L A) (h0 : 0 < n)
  (hb : w.cell? ⟨gb,0,none⟩ = some (.pointer (some ⟨gr,0,none⟩))) (hgb : gb≠gl) (hgr : gr≠gl) (hgr2 : gr≠ga) (hne : gl≠ga)
  (D1 : Calls Try.prog 95 #[.slice (some ⟨gl,0,none⟩) n capl,p,q,r] w fun e w' => e = .returned (.tuple #[])∧qC w' (some ⟨gl,0,none⟩) n c L1 ∧ ∃ g,(some ⟨gl,0,none⟩ : Option Addr) = some ⟨g,0,none⟩∧w.grownBy w' (some g))
  (D2 : ∀ w1,w.grownBy w1 (some gl)→qC w1 (some ⟨ga,0,none⟩) n m A→Calls Try.prog 95 #[.slice (some ⟨ga,0,none⟩) n n,p,q,r] w1 fun e w' => e = .returned (.tuple #[])∧qC w' (some ⟨ga,0,none⟩) n m A1 ∧ ∃ g,(some ⟨ga,0,none⟩ : Option Addr) = some ⟨g,0,none⟩∧w1.grownBy w' (some g)) :
  Calls Try.prog 93 #[.func (.func 95) #[] #[p,q,r],.pointer (some ⟨gb,0,none⟩)] w fun e w' => e = .returned (.tuple #[])∧Gz w' gr (some ⟨gl,0,none⟩) (some ⟨ga,0,none⟩) n capl c m L1 A1∧Chg w w' gl ga:=by
 have c0 : w.cell? ⟨gr,0,none⟩ = some (.slice (some ⟨gl,0,none⟩) n capl):=h.row.cell 0;have c1 : w.cell? ⟨gr,1,none⟩ = some (.slice (some ⟨ga,0,none⟩) n n):=h.row.cell 1;have H:=Lib.hid h;clear h;go_enter Try.func93,Try.ntmps93;go_wp2_with fail
 refine D1.mono ?_;rintro e w1 ⟨rfl,hl1,g,e1,hg1⟩;injection e1 with e1;injection e1 with e1;subst e1;have hbb:=hg1.cell hb (by simpa using hgb);have hcc:=hg1.cell c1 (by simpa using hgr);obtain ⟨_,lv,e4,hrow⟩:=H.out.l.row h0;injection e4 with e4;injection e4 with e4;subst e4;have ha1 : qC w1 (some ⟨ga,0,none⟩) n m A:=H.out.also.grown hg1 hrow (by decide) (by intro e;injection e with e;injection e with e;exact hne e.symm);have HD2:=Lib.hid (D2 w1 hg1 ha1);have HL1:=Lib.hid hl1;have HG1:=Lib.hid hg1;have HA1:=Lib.hid ha1;clear D1 D2 hl1 hg1 ha1 c0 c1 hb hrow;go_wp2_with fail
 refine HD2.out.mono ?_;rintro e w2 ⟨rfl,hl2,g,e1,hg2⟩;injection e1 with e1;injection e1 with e1;subst e1;obtain ⟨_,lv2,e4,hrow2⟩:=HA1.out.row h0;injection e4 with e4;injection e4 with e4;subst e4;have hch:=Chg.two HG1.out hg2;have hf : qC w2 (some ⟨gl,0,none⟩) n c L1:=HL1.out.grown hg2 hrow2 (by decide) (by intro e;injection e with e;injection e with e;exact hne e);have hrw:=H.out.row.of_block (hch.block gr H.out.row.lt hgr hgr2);have HR:=Lib.hid (show Gz w2 gr (some ⟨gl,0,none⟩) (some ⟨ga,0,none⟩) n capl c m L1 A1 from ⟨hrw,hf,hl2,H.out.le,H.out.ne⟩);have HC:=Lib.hid hch;clear hl2 hg2 hrow2 hch hf hrw hbb hcc;go_wp2_with fail
 go_end0
 exact ⟨rfl,HR.out,HC.out⟩
theorem RG (gb gr gl ga n capl c m : Nat) (L A L1 A1 : List (List UInt8)) (p q r : Value) (w : World) (h : Gz w gr (some ⟨gl,0,none⟩) (some ⟨ga,0,none⟩) n capl c m L A) (h0 : 0 < n)
  (hb : w.cell? ⟨gb,0,none⟩ = some (.pointer (some ⟨gr,0,none⟩))) (hgb : gb≠gl) (hgr : gr≠gl) (hgr2 : gr≠ga) (hne : gl≠ga)
  (D1 : Calls Try.prog 97 #[.slice (some ⟨gl,0,none⟩) n capl,p,q,r] w fun e w' => e = .returned (.tuple #[])∧qC w' (some ⟨gl,0,none⟩) n c L1 ∧ ∃ g,(some ⟨gl,0,none⟩ : Option Addr) = some ⟨g,0,none⟩∧w.grownBy w' (some g))
  (D2 : ∀ w1,w.grownBy w1 (some gl)→qC w1 (some ⟨ga,0,none⟩) n m A→Calls Try.prog 97 #[.slice (some ⟨ga,0,none⟩) n n,p,q,r] w1 fun e w' => e = .returned (.tuple #[])∧qC w' (some ⟨ga,0,none⟩) n m A1 ∧ ∃ g,(some ⟨ga,0,none⟩ : Option Addr) = some ⟨g,0,none⟩∧w1.grownBy w' (some g)) :
  Calls Try.prog 93 #[.func (.func 97) #[] #[p,q,r],.pointer (some ⟨gb,0,none⟩)] w fun e w' => e = .returned (.tuple #[])∧Gz w' gr (some ⟨gl,0,none⟩) (some ⟨ga,0,none⟩) n capl c m L1 A1∧Chg w w' gl ga:=by
 have c0 : w.cell? ⟨gr,0,none⟩ = some (.slice (some ⟨gl,0,none⟩) n capl):=h.row.cell 0;have c1 : w.cell? ⟨gr,1,none⟩ = some (.slice (some ⟨ga,0,none⟩) n n):=h.row.cell 1;have H:=Lib.hid h;clear h;go_enter Try.func93,Try.ntmps93;go_wp2_with fail
 refine D1.mono ?_;rintro e w1 ⟨rfl,hl1,g,e1,hg1⟩;injection e1 with e1;injection e1 with e1;subst e1;have hbb:=hg1.cell hb (by simpa using hgb);have hcc:=hg1.cell c1 (by simpa using hgr);obtain ⟨_,lv,e4,hrow⟩:=H.out.l.row h0;injection e4 with e4;injection e4 with e4;subst e4;have ha1 : qC w1 (some ⟨ga,0,none⟩) n m A:=H.out.also.grown hg1 hrow (by decide) (by intro e;injection e with e;injection e with e;exact hne e.symm);have HD2:=Lib.hid (D2 w1 hg1 ha1);have HL1:=Lib.hid hl1;have HG1:=Lib.hid hg1;have HA1:=Lib.hid ha1;clear D1 D2 hl1 hg1 ha1 c0 c1 hb hrow;go_wp2_with fail
 refine HD2.out.mono ?_;rintro e w2 ⟨rfl,hl2,g,e1,hg2⟩;injection e1 with e1;injection e1 with e1;subst e1;obtain ⟨_,lv2,e4,hrow2⟩:=HA1.out.row h0;injection e4 with e4;injection e4 with e4;subst e4;have hch:=Chg.two HG1.out hg2;have hf : qC w2 (some ⟨gl,0,none⟩) n c L1:=HL1.out.grown hg2 hrow2 (by decide) (by intro e;injection e with e;injection e with e;exact hne e);have hrw:=H.out.row.of_block (hch.block gr H.out.row.lt hgr hgr2);have HR:=Lib.hid (show Gz w2 gr (some ⟨gl,0,none⟩) (some ⟨ga,0,none⟩) n capl c m L1 A1 from ⟨hrw,hf,hl2,H.out.le,H.out.ne⟩);have HC:=Lib.hid hch;clear hl2 hg2 hrow2 hch hf hrw hbb hcc;go_wp2_with fail
 go_end0
 exact ⟨rfl,HR.out,HC.out⟩
end Go.Proofs.Yteofcbkjhdadpaa
namespace Go.Proofs.Yteofcbkjhdadpaa
open Go.RowKit
def kM (L : List (List UInt8)) (i top : Nat) (v : UInt8) : List (List UInt8):=(L.set i (L.getD top [])).set top ((L.getD i []).map (Gf.mul v))
def dN (top j : Nat) : Nat→List (List UInt8)→List (List UInt8)
 | 0,L => L
 | k + 1,L => if k≠top∧fH (dN top j k L) k j≠0 then (dN top j k L).set k (Gf.mL ((dN top j k L).getD k []) (fH (dN top j k L) k j) ((dN top j k L).getD top [])) else dN top j k L
def iU (top j : Nat) (L : List (List UInt8)) : Nat→List (List UInt8)→List (List UInt8)
 | 0,A => A
 | k + 1,A => if k≠top∧fH (dN top j k L) k j≠0 then (iU top j L k A).set k (Gf.mL ((iU top j L k A).getD k []) (fH (dN top j k L) k j) ((iU top j L k A).getD top [])) else iU top j L k A
inductive wD (n c : Nat) : Nat→Nat→List (List UInt8)→List (List UInt8)→List Nat→List (List UInt8)→List (List UInt8)→List Nat→Prop
 | full {top col : Nat} {L A : List (List UInt8)} {piv : List Nat} (h : n≤top) : wD n c top col L A piv L A piv
 | none {top col : Nat} {L A : List (List UInt8)} {piv : List Nat} (h : top < n) (hz : ∀ j',col≤j'→j' < c → ∀ i',top≤i'→i' < n→fH L i' j' = 0) : wD n c top col L A piv L A piv
 | step {top col i j : Nat} {L A L' A' : List (List UInt8)} {piv piv' : List Nat} (h : top < n) (hi : i < n) (hti : top≤i) (hj : j < c) (hcj : col≤j) (hx : fH L i j≠0) (hzi : ∀ i',top≤i'→i' < i→fH L i' j = 0)
   (hz : ∀ j',col≤j'→j' < j → ∀ i',top≤i'→i' < n→fH L i' j' = 0)
   (hr : wD n c (top + 1) (j + 1) (dN top j n (kM L i top (Gf.inv (fH L i j)))) (iU top j (kM L i top (Gf.inv (fH L i j))) n (kM A i top (Gf.inv (fH L i j)))) (piv ++ [j]) L' A' piv') : wD n c top col L A piv L' A' piv'
theorem wD.unique {n c top col : Nat} {L A L1 A1 L2 A2 : List (List UInt8)} {piv p1 p2 : List Nat} (h1 : wD n c top col L A piv L1 A1 p1) : wD n c top col L A piv L2 A2 p2→L1 = L2∧A1 = A2∧p1 = p2:=by
 induction h1 with
 | full h => intro h2;cases h2 with
  | full => exact ⟨rfl,rfl,rfl⟩
  | none => exact ⟨rfl,rfl,rfl⟩
  | step h' => omega
 | none h hz => intro h2;cases h2 with
  | full h' => exact ⟨rfl,rfl,rfl⟩
  | none => exact ⟨rfl,rfl,rfl⟩
  | step h' hi hti hj hcj hx => exact absurd (hz _ hcj hj _ hti hi) hx
 | @step top col i j L A L' A' piv piv' h hi hti hj hcj hx hzi hz hr ih => intro h2;cases h2 with
  | full h' => omega
  | none h' hz' => exact absurd (hz' _ hcj hj _ hti hi) hx
  | @step _ _ i2 j2 _ _ _ _ _ _ h' hi' hti' hj' hcj' hx' hzi' hz' hr' =>
   obtain rfl : j = j2:=by
    rcases Nat.lt_trichotomy j j2 with e | e | e
    ·exact absurd (hz' _ hcj e _ hti hi) hx
    ·exact e
    ·exact absurd (hz _ hcj' e _ hti' hi') hx'
   obtain rfl : i = i2:=by
    rcases Nat.lt_trichotomy i i2 with e | e | e
    ·exact absurd (hzi' _ hti e) hx
    ·exact e
    ·exact absurd (hzi _ hti' e) hx'
   exact ih hr'
end Go.Proofs.Yteofcbkjhdadpaa
namespace Go.Proofs.Yteofcbkjhdadpaa
open Gf
abbrev Mx:=Nat→Nat→UInt8
def yN (f : Nat→UInt8) : Nat→UInt8
 | 0 => 0
 | n + 1 => add (yN f n) (f n)
theorem kN {f g : Nat→UInt8} : ∀ {n},(∀ i,i < n→f i = g i)→yN f n = yN g n
 | 0,_ => rfl
 | n + 1,h => by rw [yN,yN,kN (n:=n) (fun i hi => h i (by omega)),h n (by omega)]
theorem yQ {f : Nat→UInt8} : ∀ {n},(∀ i,i < n→f i = 0)→yN f n = 0
 | 0,_ => rfl
 | n + 1,h => by rw [yN,yQ (n:=n) (fun i hi => h i (by omega)),h n (by omega)];rfl
theorem NF (f g : Nat→UInt8) : ∀ n,yN (fun i => add (f i) (g i)) n = add (yN f n) (yN g n)
 | 0 => (add_zero 0).symm
 | n + 1 => by
  rw [yN,yN,yN,NF f g n,add_assoc,add_assoc,add_left_comm (f n)]
theorem CT (c : UInt8) (f : Nat→UInt8) : ∀ n,yN (fun i => mul c (f i)) n = mul c (yN f n)
 | 0 => (mul_zero c).symm
 | n + 1 => by rw [yN,yN,CT c f n,mul_add]
theorem SP (c : UInt8) (f : Nat→UInt8) (n : Nat) : yN (fun i => mul (f i) c) n = mul (yN f n) c:=by
 rw [mul_comm,← CT];exact kN fun i _ => mul_comm _ _
theorem vN {f : Nat→UInt8} {q : Nat} : ∀ {n},q < n→(∀ i,i < n→i≠q→f i = 0)→yN f n = f q
 | 0,h,_ => by omega
 | n + 1,h,hz => by
  rw [yN]
  rcases Nat.lt_or_ge q n with h1 | h1
  ·rw [vN h1 (fun i hi hne => hz i (by omega) hne),hz n (by omega) (by omega),add_zero]
  ·obtain rfl : q = n:=by omega
   rw [yQ (fun i hi => hz i (by omega) (by omega)),zero_add]
theorem PO (f : Nat→Nat→UInt8) (m : Nat) : ∀ n,yN (fun i => yN (fun j => f i j) m) n = yN (fun j => yN (fun i => f i j) n) m
 | 0 => (yQ (fun _ _ => rfl)).symm
 | n + 1 => by
  rw [yN,PO f m n,← NF];rfl
def uW (M : Mx) (c : Nat) (x : Nat→UInt8) (k : Nat) : UInt8:=yN (fun l => mul (M k l) (x l)) c
def xX (M : Mx) (i top : Nat) (v : UInt8) : Mx:=fun k l => if k = top then mul v (M i l) else if k = i then M top l else M k l
def TC (S : Mx) (C : Nat→UInt8) (top : Nat) : Mx:=fun k l => if k = top then S k l else add (S k l) (mul (C k) (S top l))
def stF (M : Mx) (i top j : Nat) : Mx:=TC (xX M i top (inv (M i j))) (fun k => xX M i top (inv (M i j)) k j) top
def stA (M A : Mx) (i top j : Nat) : Mx:=TC (xX A i top (inv (M i j))) (fun k => xX M i top (inv (M i j)) k j) top
inductive qB (n c : Nat) : Nat→Nat→Mx→Mx→List Nat→Mx→Mx→List Nat→Prop
 | full {top col : Nat} {L A : Mx} {piv : List Nat} (h : n≤top) : qB n c top col L A piv L A piv
 | none {top col : Nat} {L A : Mx} {piv : List Nat} (h : top < n) (hz : ∀ j',col≤j'→j' < c → ∀ i',top≤i'→i' < n→L i' j' = 0) : qB n c top col L A piv L A piv
 | step {top col i j : Nat} {L A L' A' : Mx} {piv piv' : List Nat} (h : top < n) (hi : i < n) (hti : top≤i) (hj : j < c) (hcj : col≤j) (hx : L i j≠0) (hzi : ∀ i',top≤i'→i' < i→L i' j = 0)
   (hz : ∀ j',col≤j'→j' < j → ∀ i',top≤i'→i' < n→L i' j' = 0)
   (hr : qB n c (top + 1) (j + 1) (stF L i top j) (stA L A i top j) (piv ++ [j]) L' A' piv') : qB n c top col L A piv L' A' piv'
structure dL (n c : Nat) (L : List (List UInt8)) : Prop where
 len : L.length = n
 wid : ∀ i,i < n→(L.getD i []).length = c
theorem aLI {n c : Nat} {L : List (List UInt8)} (h : dL n c L) {k : Nat} (hk : n≤k) (l : Nat) : fH L k l = 0:=by
 have e : L.getD k [] = []:=by
  rw [List.getD_eq_getElem?_getD,List.getElem?_eq_none (by rw [h.len];exact hk)];rfl
 unfold fH;rw [e];rfl
theorem GW (v : UInt8) (xs : List UInt8) (l : Nat) : (xs.map (mul v)).getD l 0 = mul v (xs.getD l 0):=by
 rw [List.getD_eq_getElem?_getD,List.getD_eq_getElem?_getD,List.getElem?_map]
 cases xs[l]? with
 | none => exact (mul_zero v).symm
 | some x => rfl
theorem aDn {ds ss : List UInt8} (c : UInt8) (h : ds.length = ss.length) (l : Nat) : (mL ds c ss).getD l 0 = add (ds.getD l 0) (mul c (ss.getD l 0)):=by
 unfold mL;rw [List.getD_eq_getElem?_getD,List.getD_eq_getElem?_getD,List.getD_eq_getElem?_getD,List.getElem?_zipWith]
 rcases Nat.lt_or_ge l ss.length with h1 | h1
 ·rw [List.getElem?_eq_getElem h1,List.getElem?_eq_getElem (by omega : l < ds.length)]
  rfl
 ·rw [List.getElem?_eq_none h1,List.getElem?_eq_none (by omega : ds.length≤l)]
  simp [mul_zero,add_zero]
theorem vS {ds ss : List UInt8} (c : UInt8) (h : ds.length = ss.length) : (mL ds c ss).length = ds.length:=by simp [mL,h]
theorem BD {n c : Nat} {L : List (List UInt8)} (h : dL n c L) {i top : Nat} (hi : i < n) (ht : top < n) (v : UInt8) (k : Nat) :
  (kM L i top v).getD k [] = if k = top then (L.getD i []).map (mul v) else if k = i then L.getD top [] else L.getD k []:=by
 unfold kM;rw [eY (by rw [List.length_set,h.len];exact ht),eY (by rw [h.len];exact hi)]
theorem jR {n c : Nat} {L : List (List UInt8)} (h : dL n c L) {i top : Nat} (hi : i < n) (ht : top < n) (v : UInt8) : dL n c (kM L i top v):=by
 refine ⟨by simp [kM,h.len],fun k hk => ?_⟩;rw [BD h hi ht]
 split
 ·rw [List.length_map];exact h.wid i hi
 ·split
  ·exact h.wid top ht
  ·exact h.wid k hk
theorem aDb {n c : Nat} {L : List (List UInt8)} (h : dL n c L) {i top : Nat} (hi : i < n) (ht : top < n) (v : UInt8) : fH (kM L i top v) = xX (fH L) i top v:=by
 funext k l
 unfold fH xX;rw [BD h hi ht]
 split
 ·exact GW v _ l
 ·split <;> rfl
theorem kS {n c : Nat} {L : List (List UInt8)} (h : dL n c L) {top j : Nat} (ht : top < n) : ∀ m,m≤n→dL n c (dN top j m L) ∧ ∀ k,(dN top j m L).getD k [] = if k < m∧k≠top∧fH L k j≠0 then mL (L.getD k []) (fH L k j) (L.getD top []) else L.getD k []
 | 0,_ => ⟨h,fun k => by rw [if_neg (by omega)];rfl⟩
 | m + 1,hm => by
  obtain ⟨hr,ih⟩:=kS h ht m (by omega) (j:=j);have e1 : (dN top j m L).getD m [] = L.getD m []:=by rw [ih,if_neg (by omega)]
  have e2 : (dN top j m L).getD top [] = L.getD top []:=by rw [ih,if_neg (by simp)]
  have e3 : fH (dN top j m L) m j = fH L m j:=by unfold fH;rw [e1]
  rw [dN,e1,e2,e3]
  by_cases hc : m≠top∧fH L m j≠0
  ·rw [if_pos hc]
   have hl : (mL (L.getD m []) (fH L m j) (L.getD top [])).length = c:=by
    rw [vS _ (by rw [h.wid m (by omega),h.wid top ht])];exact h.wid m (by omega)
   have hg : ∀ k,((dN top j m L).set m (mL (L.getD m []) (fH L m j) (L.getD top []))).getD k [] = if k = m then mL (L.getD m []) (fH L m j) (L.getD top []) else (dN top j m L).getD k []:=fun k => eY (by rw [hr.len];omega)
   refine ⟨⟨by rw [List.length_set];exact hr.len,fun k hk => ?_⟩,fun k => ?_⟩
   ·rw [hg]
    split
    ·exact hl
    ·exact hr.wid k hk
   ·rw [hg,ih]
    by_cases hk : k = m
    ·subst hk
     rw [if_pos rfl,if_pos ⟨by omega,hc⟩]
    ·rw [if_neg hk]
     by_cases h2 : k < m∧k≠top∧fH L k j≠0
     ·rw [if_pos h2,if_pos ⟨by omega,h2.2⟩]
     ·rw [if_neg h2,if_neg (fun h3 => h2 ⟨by omega,h3.2⟩)]
  ·rw [if_neg hc]
   refine ⟨hr,fun k => ?_⟩;rw [ih]
   by_cases h2 : k < m∧k≠top∧fH L k j≠0
   ·rw [if_pos h2,if_pos ⟨by omega,h2.2⟩]
   ·rw [if_neg h2]
    refine (if_neg (fun h3 => ?_)).symm
    by_cases hk : k = m
    ·subst hk;exact hc h3.2
    ·exact h2 ⟨by omega,h3.2⟩
theorem oH {n c m0 : Nat} {L A : List (List UInt8)} (h : dL n c L) (hA : dL n m0 A) {top j : Nat} (ht : top < n) : ∀ m,m≤n→dL n m0 (iU top j L m A) ∧ ∀ k,(iU top j L m A).getD k [] = if k < m∧k≠top∧fH L k j≠0 then mL (A.getD k []) (fH L k j) (A.getD top []) else A.getD k []
 | 0,_ => ⟨hA,fun k => by rw [if_neg (by omega)];rfl⟩
 | m + 1,hm => by
  obtain ⟨hr,ih⟩:=oH h hA ht m (by omega) (j:=j);have e1 : (iU top j L m A).getD m [] = A.getD m []:=by rw [ih,if_neg (by omega)]
  have e2 : (iU top j L m A).getD top [] = A.getD top []:=by rw [ih,if_neg (by simp)]
  have e3 : fH (dN top j m L) m j = fH L m j:=by unfold fH;rw [(kS h ht m (by omega) (j:=j)).2,if_neg (by omega)]
  rw [iU,e1,e2,e3]
  by_cases hc : m≠top∧fH L m j≠0
  ·rw [if_pos hc]
   have hl : (mL (A.getD m []) (fH L m j) (A.getD top [])).length = m0:=by
    rw [vS _ (by rw [hA.wid m (by omega),hA.wid top ht])];exact hA.wid m (by omega)
   have hg : ∀ k,((iU top j L m A).set m (mL (A.getD m []) (fH L m j) (A.getD top []))).getD k [] = if k = m then mL (A.getD m []) (fH L m j) (A.getD top []) else (iU top j L m A).getD k []:=fun k => eY (by rw [hr.len];omega)
   refine ⟨⟨by rw [List.length_set];exact hr.len,fun k hk => ?_⟩,fun k => ?_⟩
   ·rw [hg]
    split
    ·exact hl
    ·exact hr.wid k hk
   ·rw [hg,ih]
    by_cases hk : k = m
    ·subst hk
     rw [if_pos rfl,if_pos ⟨by omega,hc⟩]
    ·rw [if_neg hk]
     by_cases h2 : k < m∧k≠top∧fH L k j≠0
     ·rw [if_pos h2,if_pos ⟨by omega,h2.2⟩]
     ·rw [if_neg h2,if_neg (fun h3 => h2 ⟨by omega,h3.2⟩)]
  ·rw [if_neg hc]
   refine ⟨hr,fun k => ?_⟩;rw [ih]
   by_cases h2 : k < m∧k≠top∧fH L k j≠0
   ·rw [if_pos h2,if_pos ⟨by omega,h2.2⟩]
   ·rw [if_neg h2]
    refine (if_neg (fun h3 => ?_)).symm
    by_cases hk : k = m
    ·subst hk;exact hc h3.2
    ·exact h2 ⟨by omega,h3.2⟩
theorem aAI {n c m0 : Nat} {L A : List (List UInt8)} (h : dL n c L) (hA : dL n m0 A) {top j : Nat} (ht : top < n) : fH (iU top j L n A) = TC (fH A) (fun k => fH L k j) top:=by
 funext k l
 have e:=(oH h hA ht n (Nat.le_refl n) (j:=j)).2 k;show ((iU top j L n A).getD k []).getD l 0 = _;rw [e];unfold TC
 by_cases hk : k = top
 ·rw [if_pos hk,if_neg (by simp [hk])];rfl
 ·rw [if_neg hk]
  by_cases hn : k < n
  ·have hl : (A.getD k []).length = (A.getD top []).length:=by rw [hA.wid k hn,hA.wid top ht]
   by_cases hc : fH L k j = 0
   ·rw [if_neg (by simp [hc])]
    simp only [hc,eO,add_zero];rfl
   ·rw [if_pos ⟨hn,hk,hc⟩,aDn _ hl];rfl
  ·rw [if_neg (fun h3 => hn h3.1)]
   simp only [aLI h (Nat.le_of_not_lt hn),eO,add_zero];rfl
theorem CB {top j : Nat} {L : List (List UInt8)} : ∀ m,dN top j m L = iU top j L m L
 | 0 => rfl
 | m + 1 => by rw [dN,iU,CB m]
theorem wD.toF {n c m top col : Nat} {L A L' A' : List (List UInt8)} {piv p' : List Nat} (h : wD n c top col L A piv L' A' p') : dL n c L→dL n m A→qB n c top col (fH L) (fH A) piv (fH L') (fH A') p'∧dL n c L'∧dL n m A':=by
 induction h with
 | full h => exact fun hl ha => ⟨.full h,hl,ha⟩
 | none h hz => exact fun hl ha => ⟨.none h hz,hl,ha⟩
 | @step top col i j L A L' A' piv piv' h hi hti hj hcj hx hzi hz hr ih =>
  intro hl ha;have s1:=jR hl hi h (inv (fH L i j));have s2:=jR ha hi h (inv (fH L i j));have e1:=kS s1 h n (Nat.le_refl n) (j:=j);have e2:=oH s1 s2 h n (Nat.le_refl n) (j:=j);obtain ⟨q1,q2,q3⟩:=ih e1.1 e2.1;refine ⟨.step h hi hti hj hcj hx hzi hz ?_,q2,q3⟩;rw [CB,aAI s1 s1 h,aAI s1 s2 h,aDb hl hi h,aDb ha hi h] at q1;exact q1
end Go.Proofs.Yteofcbkjhdadpaa
namespace Go.Proofs.Yteofcbkjhdadpaa
open Gf
theorem aCo {v a b : UInt8} (hv : v≠0) (h : mul v a = mul v b) : a = b:=by
 have e : mul (inv v) (mul v a) = mul (inv v) (mul v b):=by rw [h]
 rwa [← mul_assoc,← mul_assoc,inv_mul hv,one_mul,one_mul] at e
theorem KW {a b c : UInt8} (h : add a c = add b c) : a = b:=by
 have e : add (add a c) c = add (add b c) c:=by rw [h]
 rwa [add_assoc,add_assoc,CL,add_zero,add_zero] at e
theorem tS (M : Mx) (i top : Nat) (v : UInt8) (c : Nat) (x : Nat→UInt8) (k : Nat) :
  uW (xX M i top v) c x k = if k = top then mul v (uW M c x i) else if k = i then uW M c x top else uW M c x k:=by
 unfold uW xX
 split
 ·rw [← CT]
  exact kN fun l _ => mul_assoc _ _ _
 ·split <;> rfl
theorem yU (S : Mx) (C : Nat→UInt8) (top c : Nat) (x : Nat→UInt8) (k : Nat) :
  uW (TC S C top) c x k = if k = top then uW S c x k else add (uW S c x k) (mul (C k) (uW S c x top)):=by
 unfold uW TC
 split
 ·rfl
 ·rw [← CT,← NF]
  exact kN fun l _ => by rw [add_mul,mul_assoc]
def aGA (n c m : Nat) (M A : Mx) (x y : Nat→UInt8) : Prop:=∀ k,k < n→uW M c x k = uW A m y k
theorem aJV {n c m : Nat} {M A : Mx} {x y : Nat→UInt8} {i top : Nat} {v : UInt8} (hv : v≠0) (hi : i < n) (ht : top < n) : aGA n c m (xX M i top v) (xX A i top v) x y ↔ aGA n c m M A x y:=by
 constructor
 ·intro h k hk
  by_cases e1 : k = i
  ·have h1:=h top ht
   rw [tS,tS,if_pos rfl,if_pos rfl] at h1;rw [e1];exact aCo hv h1
  ·by_cases e2 : k = top
   ·have h1:=h i hi
    have hne : ¬ i = top:=fun e => e1 (e2.trans e.symm)
    rw [tS,tS,if_neg hne,if_neg hne,if_pos rfl,if_pos rfl] at h1;rw [e2];exact h1
   ·have h1:=h k hk
    rw [tS,tS,if_neg e2,if_neg e2,if_neg e1,if_neg e1] at h1;exact h1
 ·intro h k hk
  rw [tS,tS,h i hi,h top ht,h k hk]
theorem aJW {n c m : Nat} {S T : Mx} {C : Nat→UInt8} {x y : Nat→UInt8} {top : Nat} (ht : top < n) : aGA n c m (TC S C top) (TC T C top) x y ↔ aGA n c m S T x y:=by
 constructor
 ·intro h
  have h0:=h top ht;rw [yU,yU,if_pos rfl,if_pos rfl] at h0;intro k hk;have h1:=h k hk;rw [yU,yU] at h1
  by_cases e : k = top
  ·rw [e];exact h0
  ·rw [if_neg e,if_neg e,h0] at h1
   exact KW h1
 ·intro h k hk
  rw [yU,yU,h top ht,h k hk]
theorem qB.sat {n c m top col : Nat} {L A L' A' : Mx} {piv p' : List Nat} {x y : Nat→UInt8} (h : qB n c top col L A piv L' A' p') : aGA n c m L' A' x y ↔ aGA n c m L A x y:=by
 induction h with
 | full => exact Iff.rfl
 | none => exact Iff.rfl
 | step h hi hti hj hcj hx hzi hz hr ih =>
  exact ih.trans ((aJW h).trans (aJV (aIa hx) hi h))
structure Ech (n c top col : Nat) (M : Mx) (piv : List Nat) : Prop where
 len : piv.length = top
 le : top≤n
 ltc : ∀ q,q < top→piv.getD q 0 < c
 lt : ∀ q,q < top→piv.getD q 0 < col
 mono : ∀ p q,p < q→q < top→piv.getD p 0 < piv.getD q 0
 one : ∀ k q,k < n→q < top→M k (piv.getD q 0) = if k = q then 1 else 0
 low : ∀ k l,top≤k→k < n→l < col→M k l = 0
 left : ∀ q l,q < top→l < piv.getD q 0→M q l = 0
theorem LR {p : List Nat} {j q : Nat} : (p ++ [j]).getD q 0 = if q < p.length then p.getD q 0 else if q = p.length then j else 0:=by
 rw [List.getD_eq_getElem?_getD,List.getD_eq_getElem?_getD,List.getElem?_append]
 by_cases h : q < p.length
 ·rw [if_pos h,if_pos h]
 ·rw [if_neg h,if_neg h]
  by_cases e : q = p.length
  ·rw [if_pos e,e,Nat.sub_self];rfl
  ·rw [if_neg e,List.getElem?_eq_none (by simp;omega)];rfl
theorem Ech.step {n c top col i j : Nat} {M : Mx} {piv : List Nat} (h : Ech n c top col M piv) (ht : top < n) (hi : i < n) (hti : top≤i) (hj : j < c) (hcj : col≤j) (hx : M i j≠0)
  (hz : ∀ j',col≤j'→j' < j → ∀ i',top≤i'→i' < n→M i' j' = 0) : Ech n c (top + 1) (j + 1) (stF M i top j) (piv ++ [j]):=by
 have hp : ∀ q,q < top→(piv ++ [j]).getD q 0 = piv.getD q 0:=fun q hq => by rw [LR,if_pos (by rw [h.len];exact hq)]
 have hp2 : (piv ++ [j]).getD top 0 = j:=by rw [LR,h.len,if_neg (by omega),if_pos rfl]
 have z : ∀ k l,top≤k→k < n→l < j→M k l = 0:=fun k l h1 h2 h3 => by
  rcases Nat.lt_or_ge l col with h4 | h4
  ·exact h.low k l h1 h2 h4
  ·exact hz l h4 h3 k h1 h2
 have s0 : ∀ k l,top≤k→k < n→l < j→xX M i top (inv (M i j)) k l = 0:=fun k l h1 h2 h3 => by
  unfold xX
  split
  ·rw [z i l hti hi h3,mul_zero]
  ·split
   ·exact z top l (Nat.le_refl _) ht h3
   ·exact z k l h1 h2 h3
 have s1 : ∀ k l,k < top→xX M i top (inv (M i j)) k l = M k l:=fun k l h1 => by
  unfold xX;rw [if_neg (by omega),if_neg (by omega)]
 have sj : xX M i top (inv (M i j)) top j = 1:=by
  unfold xX;rw [if_pos rfl];exact inv_mul hx
 have tt : ∀ l,stF M i top j top l = xX M i top (inv (M i j)) top l:=fun l => by unfold stF TC;rw [if_pos rfl]
 have tk : ∀ k l,k≠top→stF M i top j k l = add (xX M i top (inv (M i j)) k l) (mul (xX M i top (inv (M i j)) k j) (xX M i top (inv (M i j)) top l)):=fun k l hk => by unfold stF TC;rw [if_neg hk]
 have tj : ∀ k,k≠top→stF M i top j k j = 0:=fun k hk => by rw [tk k j hk,sj,mul_one,CL]
 have tl : ∀ k l,k≠top→l < j→stF M i top j k l = xX M i top (inv (M i j)) k l:=fun k l hk hl => by rw [tk k l hk,s0 top l (Nat.le_refl _) ht hl,mul_zero,add_zero]
 refine ⟨by rw [List.length_append,h.len];rfl,ht,fun q hq => ?_,fun q hq => ?_,fun p q hpq hq => ?_,fun k q hk hq => ?_,fun k l hk hn hl => ?_,fun q l hq hl => ?_⟩
 ·rcases Nat.lt_or_ge q top with h1 | h1
  ·rw [hp q h1];exact h.ltc q h1
  ·obtain rfl : q = top:=by omega
   rw [hp2];exact hj
 ·rcases Nat.lt_or_ge q top with h1 | h1
  ·rw [hp q h1];have:=h.lt q h1;omega
  ·obtain rfl : q = top:=by omega
   rw [hp2];omega
 ·rcases Nat.lt_or_ge q top with h1 | h1
  ·rw [hp q h1,hp p (by omega)];exact h.mono p q hpq h1
  ·obtain rfl : q = top:=by omega
   rw [hp2,hp p hpq];have:=h.lt p hpq;omega
 ·rcases Nat.lt_or_ge q top with h1 | h1
  ·rw [hp q h1]
   have hlj : piv.getD q 0 < j:=by have:=h.lt q h1;omega
   by_cases e : k = top
   ·rw [e,tt,s0 top _ (Nat.le_refl _) ht hlj,if_neg (by omega)]
   ·rw [tl k _ e hlj]
    rcases Nat.lt_or_ge k top with h2 | h2
    ·rw [s1 k _ h2,h.one k q hk h1]
    ·rw [s0 k _ h2 hk hlj,if_neg (by omega)]
  ·obtain rfl : q = top:=by omega
   rw [hp2]
   by_cases e : k = q
   ·rw [e,tt,sj,if_pos rfl]
   ·rw [tj k e,if_neg e]
 ·rcases Nat.lt_or_ge l j with h1 | h1
  ·rw [tl k l (by omega) h1,s0 k l (by omega) hn h1]
  ·obtain rfl : l = j:=by omega
   exact tj k (by omega)
 ·rcases Nat.lt_or_ge q top with h1 | h1
  ·rw [hp q h1] at hl
   have hlj : l < j:=by have:=h.lt q h1;omega
   rw [tl q l (by omega) hlj,s1 q l h1,h.left q l h1 hl]
  ·obtain rfl : q = top:=by omega
   rw [hp2] at hl;rw [tt,s0 q l (Nat.le_refl _) ht hl]
structure DW (n c : Nat) (M : Mx) (p : List Nat) : Prop where
 le : p.length≤n
 ltc : ∀ q,q < p.length→p.getD q 0 < c
 mono : ∀ s q,s < q→q < p.length→p.getD s 0 < p.getD q 0
 one : ∀ k q,k < n→q < p.length→M k (p.getD q 0) = if k = q then 1 else 0
 low : ∀ k l,p.length≤k→k < n→l < c→M k l = 0
 left : ∀ q l,q < p.length→l < p.getD q 0→M q l = 0
theorem qB.ech {n c top col : Nat} {L A L' A' : Mx} {piv p' : List Nat} (h : qB n c top col L A piv L' A' p') : Ech n c top col L piv→DW n c L' p':=by
 induction h with
 | @full top col L A piv h => exact fun e => ⟨by rw [e.len];exact e.le,by rw [e.len];exact e.ltc,by rw [e.len];exact e.mono,by rw [e.len];exact e.one,by rw [e.len];intro k l h1 h2;omega,by rw [e.len];exact e.left⟩
 | @none top col L A piv h hz => exact fun e => ⟨by rw [e.len];exact e.le,by rw [e.len];exact e.ltc,by rw [e.len];exact e.mono,by rw [e.len];exact e.one,by
   rw [e.len];intro k l h1 h2 h3
   rcases Nat.lt_or_ge l col with h4 | h4
   ·exact e.low k l h1 h2 h4
   ·exact hz l h4 h3 k h1 h2,by rw [e.len];exact e.left⟩
 | step h hi hti hj hcj hx hzi hz hr ih => exact fun e => ih (e.step h hi hti hj hcj hx hz)
theorem Ech.zero (n c : Nat) (M : Mx) : Ech n c 0 0 M [] :=
 ⟨rfl,Nat.zero_le _,by intro q h;omega,by intro q h;omega,by intro p q h1 h2;omega,by intro k q h1 h2;omega,by intro k l h1 h2 h3;omega,by intro q l h;omega⟩
theorem qB.xY {n c : Nat} {L A L' A' : Mx} {p' : List Nat} (h : qB n c 0 0 L A [] L' A' p') : DW n c L' p':=h.ech (Ech.zero n c L)
theorem exists_least {P : Nat→Prop} : ∀ n,P n → ∃ m,P m ∧ ∀ k,k < m → ¬ P k:=by
 intro n
 induction n using Nat.strongRecOn with
 | _ n ih =>
  intro h
  by_cases e : ∃ k,k < n∧P k
  ·obtain ⟨k,h1,h2⟩:=e
   exact ih k h1 h2
  ·exact ⟨n,h,fun k h1 h2 => e ⟨k,h1,h2⟩⟩
theorem qB.total (n c : Nat) : ∀ (d top col : Nat) (L A : Mx) (piv : List Nat),d = n - top → ∃ L' A' p',qB n c top col L A piv L' A' p'
 | 0,top,col,L,A,piv,hd => ⟨L,A,piv,.full (by omega)⟩
 | d + 1,top,col,L,A,piv,hd => by
  by_cases e : ∃ j,(col≤j∧j < c) ∧ ∃ i,(top≤i∧i < n)∧L i j≠0
  ·obtain ⟨j0,hj0⟩:=e
   obtain ⟨j,⟨⟨h1,h2⟩,i0,hi0⟩,hm⟩:=exists_least (P:=fun j => (col≤j∧j < c) ∧ ∃ i,(top≤i∧i < n)∧L i j≠0) j0 hj0;obtain ⟨i,⟨⟨h3,h4⟩,h5⟩,hmi⟩:=exists_least (P:=fun i => (top≤i∧i < n)∧L i j≠0) i0 hi0;obtain ⟨L',A',p',hr⟩:=qB.total n c d (top + 1) (j + 1) (stF L i top j) (stA L A i top j) (piv ++ [j]) (by omega);refine ⟨L',A',p',.step (by omega) h4 h3 h2 h1 h5 (fun i' h6 h7 => ?_) (fun j' h6 h7 i' h8 h9 => ?_) hr⟩
   ·exact Classical.byContradiction fun hn => hmi i' h7 ⟨⟨h6,by omega⟩,hn⟩
   ·exact Classical.byContradiction fun hn => hm j' h7 ⟨⟨h6,by omega⟩,i',⟨h8,h9⟩,hn⟩
  ·exact ⟨L,A,piv,.none (by omega) fun j' h1 h2 i' h3 h4 => Classical.byContradiction fun hn => e ⟨j',⟨h1,h2⟩,i',⟨h3,h4⟩,hn⟩⟩
theorem qB.unique {n c top col : Nat} {L A1 A2 L1 L2 B1 B2 : Mx} {piv p1 p2 : List Nat} (h1 : qB n c top col L A1 piv L1 B1 p1) : ∀ {A2 : Mx},qB n c top col L A2 piv L2 B2 p2→L1 = L2∧p1 = p2:=by
 induction h1 with
 | full h => intro A2 h2;cases h2 with
  | full => exact ⟨rfl,rfl⟩
  | none => exact ⟨rfl,rfl⟩
  | step h' => omega
 | none h hz => intro A2 h2;cases h2 with
  | full h' => exact ⟨rfl,rfl⟩
  | none => exact ⟨rfl,rfl⟩
  | step h' hi hti hj hcj hx => exact absurd (hz _ hcj hj _ hti hi) hx
 | @step top col i j L A L' A' piv piv' h hi hti hj hcj hx hzi hz hr ih => intro A2 h2;cases h2 with
  | full h' => omega
  | none h' hz' => exact absurd (hz' _ hcj hj _ hti hi) hx
  | @step _ _ i2 j2 _ _ _ _ _ _ h' hi' hti' hj' hcj' hx' hzi' hz' hr' =>
   obtain rfl : j = j2:=by
    rcases Nat.lt_trichotomy j j2 with e | e | e
    ·exact absurd (hz' _ hcj e _ hti hi) hx
    ·exact e
    ·exact absurd (hz _ hcj' e _ hti' hi') hx'
   obtain rfl : i = i2:=by
    rcases Nat.lt_trichotomy i i2 with e | e | e
    ·exact absurd (hzi' _ hti e) hx
    ·exact e
    ·exact absurd (hzi _ hti' e) hx'
   exact ih hr'
def spr (p : List Nat) (z : Nat→UInt8) (t : Nat) : UInt8:=yN (fun q => if p.getD q 0 = t then z q else 0) p.length
def ZS (l t : Nat) : UInt8:=if t = l then 1 else 0
theorem aAK (M : Mx) (c : Nat) (x y : Nat→UInt8) (k : Nat) : uW M c (fun t => add (x t) (y t)) k = add (uW M c x k) (uW M c y k):=by
 unfold uW;rw [← NF];exact kN fun l _ => mul_add _ _ _
theorem UY (M : Mx) {c l : Nat} (h : l < c) (k : Nat) : uW M c (ZS l) k = M k l:=by
 unfold uW;rw [vN h (fun i _ hne => by rw [ZS,if_neg hne,mul_zero]),ZS,if_pos rfl,mul_one]
theorem aAJ (M : Mx) {c : Nat} {p : List Nat} (hp : ∀ q,q < p.length→p.getD q 0 < c) (z : Nat→UInt8) (k : Nat) : uW M c (spr p z) k = yN (fun q => mul (M k (p.getD q 0)) (z q)) p.length:=by
 unfold uW spr;rw [show yN (fun l => mul (M k l) (yN (fun q => if p.getD q 0 = l then z q else 0) p.length)) c = yN (fun l => yN (fun q => mul (M k l) (if p.getD q 0 = l then z q else 0)) p.length) c from kN fun l _ => (CT _ _ _).symm,PO];refine kN fun q hq => ?_
 rw [vN (hp q hq) (fun i _ hne => by rw [if_neg (fun e => hne e.symm),mul_zero]),if_pos rfl]
def aAu (p : List Nat) (M' : Mx) (l : Nat) (t : Nat) : UInt8:=add (ZS l t) (spr p (fun q => M' q l) t)
theorem DW.ker {n c : Nat} {M' : Mx} {p : List Nat} (h : DW n c M' p) {l : Nat} (hl : l < c) {k : Nat} (hk : k < n) : uW M' c (aAu p M' l) k = 0:=by
 unfold aAu;rw [aAK,UY _ hl,aAJ _ h.ltc]
 rcases Nat.lt_or_ge k p.length with h1 | h1
 ·rw [vN (q:=k) h1 (fun i hi hne => by rw [h.one k i hk hi,if_neg (fun e => hne e.symm),eO]),h.one k k hk h1,if_pos rfl,one_mul,CL]
 ·rw [yQ (fun i hi => by rw [h.one k i hk hi,if_neg (by omega),eO]),h.low k l h1 hk hl];rfl
def aLQ (n c : Nat) (M : Mx) (x : Nat→UInt8) : Prop:=∀ k,k < n→uW M c x k = 0
theorem qB.WV {n c top col : Nat} {L A L' A' : Mx} {piv p' : List Nat} {x : Nat→UInt8} (h : qB n c top col L A piv L' A' p') : aLQ n c L' x ↔ aLQ n c L x:=by
 have e:=h.sat (m:=0) (x:=x) (y:=fun _ => 0);exact e
theorem qB.aWT {n c : Nat} {L A L' A' : Mx} {p : List Nat} (h : qB n c 0 0 L A [] L' A' p) {k l : Nat} (hk : k < n) (hl : l < c) : L k l = yN (fun q => mul (L k (p.getD q 0)) (L' q l)) p.length:=by
 have e:=(h.WV (x:=aAu p L' l)).1 (fun k hk => h.xY.ker hl hk) k hk;unfold aAu at e;rw [aAK,UY _ hl,aAJ _ h.xY.ltc] at e;exact (add_eq_zero _ _).1 e
theorem DW.ge {n c : Nat} {M : Mx} {p : List Nat} (h : DW n c M p) : ∀ q,q < p.length→q≤p.getD q 0
 | 0,_ => Nat.zero_le _
 | q + 1,hq => by have h1:=h.ge q (by omega);have h2:=h.mono q (q + 1) (by omega) hq;omega
theorem DW.up {n c : Nat} {M : Mx} {p : List Nat} (h : DW n c M p) : ∀ d q,q + d < p.length→p.getD q 0 + d≤p.getD (q + d) 0
 | 0,q,_ => Nat.le_refl _
 | d + 1,q,hq => by
  have h1:=h.up d q (by omega);have h2 : p.getD (q + d) 0 < p.getD (q + (d + 1)) 0:=h.mono (q + d) (q + (d + 1)) (by omega) hq;omega
theorem DW.aDo {n c : Nat} {M : Mx} {p : List Nat} (h : DW n c M p) : p.length≤c:=by
 rcases Nat.lt_or_ge 0 p.length with h1 | h1
 ·have h2:=h.ge (p.length - 1) (by omega);have h3:=h.ltc (p.length - 1) (by omega);omega
 ·omega
theorem DW.full {n c : Nat} {M : Mx} {p : List Nat} (h : DW n c M p) (hc : p.length = c) {q : Nat} (hq : q < c) : p.getD q 0 = q:=by
 have h1:=h.ge q (by omega);have h2:=h.up (c - 1 - q) q (by omega);have h3:=h.ltc (q + (c - 1 - q)) (by omega);omega
theorem DW.free {n c : Nat} {M : Mx} {p : List Nat} (h : DW n c M p) (hc : p.length < c) : ∃ l,l < c ∧ ∀ q,q < p.length→p.getD q 0≠l:=by
 have H : ∀ m,m≤p.length→(∀ q,q < m→p.getD q 0 = q) ∨ ∃ l,l < c ∧ ∀ q,q < p.length→p.getD q 0≠l:=by
  intro m
  induction m with
  | zero => exact fun _ => .inl fun q hq => by omega
  | succ m ih =>
   intro hm
   rcases ih (by omega) with h1 | h1
   ·by_cases e : p.getD m 0 = m
    ·refine .inl fun q hq => ?_
     rcases Nat.lt_or_ge q m with h2 | h2
     ·exact h1 q h2
     ·obtain rfl : q = m:=by omega
      exact e
    ·refine .inr ⟨m,by omega,fun q hq => ?_⟩
     have h3:=h.ge m (by omega)
     rcases Nat.lt_trichotomy q m with h2 | h2 | h2
     ·rw [h1 q h2];omega
     ·rw [h2];exact e
     ·have:=h.mono m q h2 hq;omega
   ·exact .inr h1
 rcases H p.length (Nat.le_refl _) with h1 | h1
 ·exact ⟨p.length,hc,fun q hq => by rw [h1 q hq];omega⟩
 ·exact h1
theorem UD {p : List Nat} {M' : Mx} {l : Nat} (h : ∀ q,q < p.length→p.getD q 0≠l) : aAu p M' l l = 1:=by
 unfold aAu spr ZS;rw [if_pos rfl,yQ (fun q hq => by rw [if_neg (h q hq)])];rfl
theorem qB.aFy {n c : Nat} {L A L' A' : Mx} {p : List Nat} (h : qB n c 0 0 L A [] L' A' p) : p.length = c ↔ ∀ x,aLQ n c L x → ∀ l,l < c→x l = 0:=by
 constructor
 ·intro hc x hx l hl
  have e:=(h.WV (x:=x)).2 hx l (by have:=h.xY.le;omega);unfold uW at e;rw [vN hl (fun i hi hne => by
   have h1:=h.xY.one l i (by have:=h.xY.le;omega) (by omega);rw [h.xY.full hc hi] at h1;rw [h1,if_neg (fun e => hne e.symm),eO])] at e
  have h1:=h.xY.one l l (by have:=h.xY.le;omega) (by omega);rw [h.xY.full hc hl,if_pos rfl] at h1
  rwa [h1,one_mul] at e
 ·intro hk
  rcases Nat.lt_or_ge p.length c with h1 | h1
  ·obtain ⟨l,hl,hf⟩:=h.xY.free h1
   have e:=hk (aAu p L' l) ((h.WV).1 (fun k hk => h.xY.ker hl hk)) l hl;rw [UD hf] at e;exact absurd e (by decide)
  ·have:=h.xY.aDo;omega
theorem aHX {n c : Nat} (M : Mx) (h : n < c) : ∃ x,aLQ n c M x ∧ ∃ l,l < c∧x l≠0:=by
 obtain ⟨L',A',p,hr⟩:=qB.total n c (n - 0) 0 0 M M [] rfl;obtain ⟨l,hl,hf⟩:=hr.xY.free (by have:=hr.xY.le;omega);exact ⟨aAu p L' l,(hr.WV).1 (fun k hk => hr.xY.ker hl hk),l,hl,by rw [UD hf];decide⟩
def aPy (M : Mx) (n : Nat) (y : Nat→UInt8) (l : Nat) : UInt8:=yN (fun k => mul (y k) (M k l)) n
theorem qB.aFx {n c : Nat} {L A L' A' : Mx} {p : List Nat} (h : qB n c 0 0 L A [] L' A' p) (hk : ∀ y,(∀ l,l < c→aPy L n y l = 0) → ∀ k,k < n→y k = 0) : p.length = n:=by
 rcases Nat.lt_or_ge p.length n with h1 | h1
 ·obtain ⟨y,hy,k,hk1,hk2⟩:=aHX (n:=p.length) (c:=n) (fun q k => L k (p.getD q 0)) h1
  refine absurd (hk y (fun l hl => ?_) k hk1) hk2;unfold aPy;rw [show yN (fun k => mul (y k) (L k l)) n = yN (fun k => yN (fun q => mul (y k) (mul (L k (p.getD q 0)) (L' q l))) p.length) n from kN fun k hk => by rw [CT,← h.aWT hk hl],PO];refine yQ fun q hq => ?_
  rw [show yN (fun k => mul (y k) (mul (L k (p.getD q 0)) (L' q l))) n = yN (fun k => mul (mul (L k (p.getD q 0)) (y k)) (L' q l)) n from kN fun k _ => by rw [← mul_assoc,mul_comm (y k)],SP];have e:=hy q hq;unfold uW at e;rw [e,eO]
 ·have:=h.xY.le;omega
end Go.Proofs.Yteofcbkjhdadpaa
namespace Go.Proofs.Yteofcbkjhdadpaa
open Gf
theorem wD.skip {n c top col : Nat} {L A L' A' : List (List UInt8)} {piv p' : List Nat} (hz : ∀ i',top≤i'→i' < n→fH L i' col = 0) (h : wD n c top (col + 1) L A piv L' A' p') : wD n c top col L A piv L' A' p':=by
 have e : ∀ {j'},col≤j'→(∀ i',top≤i'→i' < n→fH L i' j' = 0) ∨ col + 1≤j':=fun {j'} hj => by
  rcases Nat.lt_or_ge col j' with h1 | h1
  ·exact .inr h1
  ·obtain rfl : col = j':=by omega
   exact .inl hz
 cases h with
 | full h => exact .full h
 | none h hz' =>
  refine .none h fun j' h1 h2 => ?_
  rcases e h1 with h3 | h3
  ·exact h3
  ·exact hz' j' h3 h2
 | step h hi hti hj hcj hx hzi hz' hr =>
  refine .step h hi hti hj (by omega) hx hzi (fun j' h1 h2 => ?_) hr
  rcases e h1 with h3 | h3
  ·exact h3
  ·exact hz' j' h3 h2
theorem wD.out {n c top col : Nat} {L A : List (List UInt8)} {piv : List Nat} (h : c≤col) : wD n c top col L A piv L A piv:=by
 rcases Nat.lt_or_ge top n with h1 | h1
 ·exact .none h1 fun j' h2 h3 => by omega
 ·exact .full h1
structure ZH (m : Nat) (φ : List UInt8→List UInt8) : Prop where
 nil : φ [] = []
 scale : ∀ v xs,xs.length = m→φ (xs.map (mul v)) = (φ xs).map (mul v)
 mac : ∀ c xs ys,xs.length = m→ys.length = m→φ (mL xs c ys) = mL (φ xs) c (φ ys)
theorem lS {φ : List UInt8→List UInt8} (h : φ [] = []) (A : List (List UInt8)) (i : Nat) : (A.map φ).getD i [] = φ (A.getD i []):=by
 rw [List.getD_eq_getElem?_getD,List.getD_eq_getElem?_getD,List.getElem?_map]
 cases A[i]? with
 | none => exact h.symm
 | some x => rfl
theorem QF {φ : List UInt8→List UInt8} (A : List (List UInt8)) (i : Nat) (x : List UInt8) : (A.set i x).map φ = (A.map φ).set i (φ x):=by rw [List.map_set]
theorem aHf {m n : Nat} {φ : List UInt8→List UInt8} (h : ZH m φ) {A : List (List UInt8)} (hA : dL n m A) {i top : Nat} (hi : i < n) (v : UInt8) : (kM A i top v).map φ = kM (A.map φ) i top v:=by
 unfold kM;rw [QF,QF,h.scale v _ (hA.wid i hi),lS h.nil,lS h.nil]
theorem UW {m n c : Nat} {φ : List UInt8→List UInt8} (h : ZH m φ) {L A : List (List UInt8)} (hL : dL n c L) (hA : dL n m A) {top j : Nat} (ht : top < n) : ∀ k,k≤n→(iU top j L k A).map φ = iU top j L k (A.map φ)
 | 0,_ => rfl
 | k + 1,hk => by
  have ih:=UW h hL hA ht (j:=j) k (by omega);have hr:=(oH hL hA ht k (by omega) (j:=j)).1;rw [iU,iU]
  split
  ·rw [QF,h.mac _ _ _ (hr.wid k (by omega)) (hr.wid top ht),← lS h.nil,← lS h.nil,ih]
  ·exact ih
theorem wD.map {n c m top col : Nat} {φ : List UInt8→List UInt8} (hφ : ZH m φ) {L A L' A' : List (List UInt8)} {piv p' : List Nat} (h : wD n c top col L A piv L' A' p') : dL n c L→dL n m A→wD n c top col L (A.map φ) piv L' (A'.map φ) p':=by
 induction h with
 | full h => exact fun _ _ => .full h
 | none h hz => exact fun _ _ => .none h hz
 | @step top col i j L A L' A' piv piv' h hi hti hj hcj hx hzi hz hr ih =>
  intro hl ha;have s1:=jR hl hi h (inv (fH L i j));have s2:=jR ha hi h (inv (fH L i j));have q:=ih (kS s1 h n (Nat.le_refl n) (j:=j)).1 (oH s1 s2 h n (Nat.le_refl n) (j:=j)).1;rw [UW hφ s1 s2 h n (Nat.le_refl n),aHf hφ ha hi] at q;exact .step h hi hti hj hcj hx hzi hz q
def DU (q : Nat) (xs : List UInt8) : List UInt8:=(xs.drop q).take 1
theorem aIx {m q : Nat} (hq : q < m) : ZH m (DU q) :=
 ⟨by simp [DU],fun v xs h => by simp [DU,List.map_drop,List.map_take],fun c xs ys h1 h2 => by
  unfold DU mL;rw [List.drop_zipWith,List.take_zipWith]⟩
def pK (L B : List (List UInt8)) : List (List UInt8):=List.zipWith (· ++ ·) L B
theorem mF {L B : List (List UInt8)} (h : L.length = B.length) (i : Nat) : (pK L B).getD i [] = L.getD i [] ++ B.getD i []:=by
 unfold pK;rw [List.getD_eq_getElem?_getD,List.getD_eq_getElem?_getD,List.getD_eq_getElem?_getD,List.getElem?_zipWith]
 rcases Nat.lt_or_ge i L.length with h1 | h1
 ·rw [List.getElem?_eq_getElem h1,List.getElem?_eq_getElem (by omega : i < B.length)];rfl
 ·rw [List.getElem?_eq_none h1,List.getElem?_eq_none (by omega : B.length≤i)];rfl
theorem vE {n c m : Nat} {L B : List (List UInt8)} (hL : dL n c L) (hB : dL n m B) : dL n (c + m) (pK L B) :=
 ⟨by simp [pK,hL.len,hB.len],fun i hi => by rw [mF (by rw [hL.len,hB.len]),List.length_append,hL.wid i hi,hB.wid i hi]⟩
theorem YY {n c m : Nat} {L B : List (List UInt8)} (hL : dL n c L) (hB : dL n m B) {k : Nat} (hk : k < n) (l : Nat) : fH (pK L B) k l = if l < c then fH L k l else fH B k (l - c):=by
 unfold fH;rw [mF (by rw [hL.len,hB.len]),List.getD_eq_getElem?_getD,List.getElem?_append,hL.wid k hk]
 split <;> rfl
theorem oZ {A B : List (List UInt8)} {n : Nat} (hA : A.length = n) (hB : B.length = n) (h : ∀ i,i < n→A.getD i [] = B.getD i []) : A = B:=by
 refine List.ext_getElem (by omega) fun i h1 h2 => ?_
 have e:=h i (by omega);rw [List.getD_eq_getElem?_getD,List.getD_eq_getElem?_getD,List.getElem?_eq_getElem h1,List.getElem?_eq_getElem h2] at e;exact e
theorem aAa {n c m : Nat} {L B : List (List UInt8)} (hL : dL n c L) (hB : dL n m B) {i top : Nat} (hi : i < n) (ht : top < n) (v : UInt8) : kM (pK L B) i top v = pK (kM L i top v) (kM B i top v):=by
 have e : L.length = B.length:=by rw [hL.len,hB.len]
 have r1:=jR hL hi ht v;have r2:=jR hB hi ht v;refine oZ (jR (vE hL hB) hi ht v).len (vE r1 r2).len fun k hk => ?_
 have c1:=mF (L:=kM L i top v) (B:=kM B i top v) (by rw [r1.len,r2.len]) k;rw [c1,BD (vE hL hB) hi ht,BD hL hi ht,BD hB hi ht,mF e,mF e,mF e]
 split
 ·rw [List.map_append]
 ·split <;> rfl
theorem aAq {a b c d : List UInt8} (x : UInt8) (h : a.length = c.length) : mL (a ++ b) x (c ++ d) = mL a x c ++ mL b x d:=by
 unfold mL;exact List.zipWith_append h
theorem aGg {n c m : Nat} {L B : List (List UInt8)} (hL : dL n c L) (hB : dL n m B) {top j : Nat} (ht : top < n) (hj : j < c) : dN top j n (pK L B) = pK (dN top j n L) (iU top j L n B):=by
 have e : L.length = B.length:=by rw [hL.len,hB.len]
 have r0:=vE hL hB;have r1:=(kS hL ht n (Nat.le_refl n) (j:=j))
 have r2:=(oH hL hB ht n (Nat.le_refl n) (j:=j))
 have r3:=(kS r0 ht n (Nat.le_refl n) (j:=j))
 refine oZ r3.1.len (vE r1.1 r2.1).len fun k hk => ?_
 have c1:=mF (L:=dN top j n L) (B:=iU top j L n B) (by rw [r1.1.len,r2.1.len]) k;rw [c1,r3.2,r1.2,r2.2,mF e,mF e,YY hL hB hk,if_pos hj]
 by_cases h : k < n∧k≠top∧fH L k j≠0
 ·rw [if_pos h,if_pos h,if_pos h,aAq _ (by rw [hL.wid k hk,hL.wid top ht])]
 ·rw [if_neg h,if_neg h,if_neg h]
theorem wD.cat {n c m top col : Nat} {L A L' A' : List (List UInt8)} {piv p' : List Nat} (h : wD n c top col L A piv L' A' p') : dL n c L→dL n m A→piv.length = top→p'.length = n → ∀ (X : List (List UInt8)),∃ X',wD n (c + m) top col (pK L A) X piv (pK L' A') X' p':=by
 induction h with
 | full h => exact fun _ _ _ _ X => ⟨X,.full h⟩
 | none h hz => intro _ _ h1 h2;omega
 | @step top col i j L A L' A' piv piv' h hi hti hj hcj hx hzi hz hr ih =>
  intro hl ha h1 h2 X;have s1:=jR hl hi h (inv (fH L i j));have s2:=jR ha hi h (inv (fH L i j));have e : ∀ k l,k < n→l < c→fH (pK L A) k l = fH L k l:=fun k l hk hl2 => by rw [YY hl ha hk,if_pos hl2]
  obtain ⟨X',q⟩:=ih (kS s1 h n (Nat.le_refl n) (j:=j)).1 (oH s1 s2 h n (Nat.le_refl n) (j:=j)).1 (by rw [List.length_append,h1];rfl) h2 (iU top j (kM (pK L A) i top (inv (fH L i j))) n (kM X i top (inv (fH L i j))));refine ⟨X',.step h hi hti (by omega) hcj (by rw [e i j hi hj];exact hx) (fun i' h3 h4 => by rw [e i' j (by omega) hj];exact hzi i' h3 h4) (fun j' h3 h4 i' h5 h6 => by rw [e i' j' h6 (by omega)];exact hz j' h3 h4 i' h5 h6) ?_⟩;rw [e i j hi hj,aAa hl ha hi h,aGg s1 s2 h hj,← aAa hl ha hi h];exact q
end Go.Proofs.Yteofcbkjhdadpaa
namespace Go.Proofs.Yteofcbkjhdadpaa
open Go.RowKit
theorem GD {ops : Array Oper} {rest : List Oper} {o : Oper} {a : Act} {w0 : World} {Q : Exit→Act→World→Prop} (t e : TypeId) (z : Value) (bytes : Nat) (ht : Try.prog.underlying t = some (.slice e))
  (hinf : (Try.prog.info? e).map (fun i => (i.zero,i.size,i.bytes)) = some (some z,1,bytes)) (hzs : z.cells.size = 1) (s x : Operand) (hgd : o.guard = none)
  (ho : o.op = .call { callee:=.builtin .append,args:=#[s,x],argTypes:=#[t,t] })
  (base : Nat) (v : Value) (n : Nat) (xs : List Value) (y : Value) (hy : y.oneCell' = true) (hs : a.eval s = v) (hown : w0.ownsRow base e 1 v n xs) (g0 : Nat) (hx : a.eval x = .slice (some ⟨g0,0,none⟩) 1 1) (hg0 : g0 = w0.heap.size)
  (hlen : n + 1≤maxLen) (hbytes : (n + 1) * bytes≤140737488355328) (hbase : base≤w0.heap.size)
  (h : ∀ v' w',w'.ownsRow base e 1 v' (n + 1) (xs ++ [y])→Below base w0 w'→w0.grownBy w' v.ownBlock→wpList Try.prog ops Q rest (a.put o.dst v') w') :
  wpList Try.prog ops Q (o :: rest) a (w0.alloc (.cells #[y] e)):=by
 subst hg0;obtain ⟨i,hi,hz,hsz,hby⟩:=info_parts hinf;refine wpList_append_own _ hgd s x t ho base e i z 1 bytes ht hi hz hsz hby hzs (by decide) v n xs hs (World.ownsRow.alloc hown _) ⟨w0.heap.size,0,none⟩ 1 1 [y] hx rfl ?_ ?_ hlen hbytes (by simp;omega) ?_
 ·intro j u hu
  have hj : j = 0:=by
   rcases Nat.lt_or_ge j 1 with hlt | hge
   ·omega
   ·rw [List.getElem?_eq_none (by simpa using hge)] at hu;cases hu
  subst hj;simp only [List.getElem?_cons_zero,Option.some.injEq] at hu;subst hu
  simp [Addr.add]
 ·intro u hu
  rw [List.mem_singleton.1 hu];exact hy
 ·intro v' w' hown' hg _
  refine h v' w' hown' ?_ ?_
  ·exact ((Below.refl base w0).alloc hbase _).grown hg (by simp;omega) (fun k hk => (hown.lt k hk).1)
  ·exact ⟨hg.os,hg.tape,hg.output,Nat.le_trans (by simp) hg.size,fun k hk hne => (hg.block k (by simp;omega) hne).trans (Below.heap_alloc _ _ _ hk)⟩
theorem qE {o : Oper} {a : Act} {w0 : World} {K : Act→World→Prop} {Q : Exit→Act→World→Prop} (t e : TypeId) (z : Value) (bytes : Nat) (ht : Try.prog.underlying t = some (.slice e))
  (hinf : (Try.prog.info? e).map (fun i => (i.zero,i.size,i.bytes)) = some (some z,1,bytes)) (hzs : z.cells.size = 1) (s x : Operand)
  (ho : o.op = .call { callee:=.builtin .append,args:=#[s,x],argTypes:=#[t,t] })
  (base : Nat) (v : Value) (n : Nat) (xs : List Value) (y : Value) (hy : y.oneCell' = true) (hs : a.eval s = v) (hown : w0.ownsRow base e 1 v n xs) (g0 : Nat) (hx : a.eval x = .slice (some ⟨g0,0,none⟩) 1 1) (hg0 : g0 = w0.heap.size)
  (hlen : n + 1≤maxLen) (hbytes : (n + 1) * bytes≤140737488355328) (hbase : base≤w0.heap.size)
  (h : ∀ g cap w',w'.ownsRow base e 1 (.slice (some ⟨g,0,none⟩) (n + 1) cap) (n + 1) (xs ++ [y])→Below base w0 w'→w0.grownBy w' v.ownBlock→(v.ownBlock = some g ∨ g = w0.heap.size + 1)→K (a.put o.dst (.slice (some ⟨g,0,none⟩) (n + 1) cap)) w') :
  o.wp Try.prog a (w0.alloc (.cells #[y] e)) K Q:=by
 subst hg0;obtain ⟨i,hi,hz,hsz,hby⟩:=info_parts hinf;refine wp_append_lies _ s x t ho base e i z 1 bytes ht hi hz hsz hby hzs (by decide) v n xs hs (World.ownsRow.alloc hown _) ⟨w0.heap.size,0,none⟩ 1 1 [y] hx rfl ?_ ?_ (by decide) hlen hbytes (by show base≤(w0.alloc (.cells #[y] e)).heap.size;simp;omega) (w0.heap.size + 1) (by show (w0.alloc (.cells #[y] e)).heap.size = _;simp) ?_
 ·intro j u hu
  have hj : j = 0:=by
   rcases Nat.lt_or_ge j 1 with hlt | hge
   ·omega
   ·rw [List.getElem?_eq_none (by simpa using hge)] at hu;cases hu
  subst hj;simp only [List.getElem?_cons_zero,Option.some.injEq] at hu;subst hu
  simp [Addr.add]
 ·intro u hu
  rw [List.mem_singleton.1 hu];exact hy
 ·intro g cap w' hown' hg hat _
  refine h g cap w' hown' ?_ ?_ hat
  ·exact ((Below.refl base w0).alloc hbase _).grown hg (by show base≤(w0.alloc (.cells #[y] e)).heap.size;simp;omega) (fun k hk => (hown.lt k hk).1)
  ·exact ⟨hg.os,hg.tape,hg.output,Nat.le_trans (show w0.heap.size≤(w0.alloc (.cells #[y] e)).heap.size by simp) hg.size,fun k hk hne => (hg.block k (show k < (w0.alloc (.cells #[y] e)).heap.size by simp;omega) hne).trans (Below.heap_alloc _ _ _ hk)⟩
theorem EM {ops : Array Oper} {rest : List Oper} {o : Oper} {a : Act} {w0 : World} {Q : Exit→Act→World→Prop} (t e : TypeId) (z : Value) (bytes : Nat) (ht : Try.prog.underlying t = some (.slice e))
  (hinf : (Try.prog.info? e).map (fun i => (i.zero,i.size,i.bytes)) = some (some z,1,bytes)) (hzs : z.cells.size = 1) (s x : Operand) (hgd : o.guard = none)
  (ho : o.op = .call { callee:=.builtin .append,args:=#[s,x],argTypes:=#[t,t] })
  (base : Nat) (v : Value) (n : Nat) (xs : List Value) (y : Value) (hy : y.oneCell' = true) (hs : a.eval s = v) (hown : w0.ownsRow base e 1 v n xs) (g0 : Nat) (hx : a.eval x = .slice (some ⟨g0,0,none⟩) 1 1) (hg0 : g0 = w0.heap.size)
  (hlen : n + 1≤maxLen) (hbytes : (n + 1) * bytes≤140737488355328) (hbase : base≤w0.heap.size)
  (h : ∀ g cap w',w'.ownsRow base e 1 (.slice (some ⟨g,0,none⟩) (n + 1) cap) (n + 1) (xs ++ [y])→Below base w0 w'→w0.grownBy w' v.ownBlock→(v.ownBlock = some g ∨ g = w0.heap.size + 1)→wpList Try.prog ops Q rest (a.put o.dst (.slice (some ⟨g,0,none⟩) (n + 1) cap)) w') :
  wpList Try.prog ops Q (o :: rest) a (w0.alloc (.cells #[y] e)):=by
 subst hg0;obtain ⟨i,hi,hz,hsz,hby⟩:=info_parts hinf;refine wpList_append_lies _ hgd s x t ho base e i z 1 bytes ht hi hz hsz hby hzs (by decide) v n xs hs (World.ownsRow.alloc hown _) ⟨w0.heap.size,0,none⟩ 1 1 [y] hx rfl ?_ ?_ (by decide) hlen hbytes (by simp;omega) (w0.heap.size + 1) (by simp) ?_
 ·intro j u hu
  have hj : j = 0:=by
   rcases Nat.lt_or_ge j 1 with hlt | hge
   ·omega
   ·rw [List.getElem?_eq_none (by simpa using hge)] at hu;cases hu
  subst hj;simp only [List.getElem?_cons_zero,Option.some.injEq] at hu;subst hu
  simp [Addr.add]
 ·intro u hu
  rw [List.mem_singleton.1 hu];exact hy
 ·intro g cap w' hown' hg hat _
  refine h g cap w' hown' ?_ ?_ hat
  ·exact ((Below.refl base w0).alloc hbase _).grown hg (by simp;omega) (fun k hk => (hown.lt k hk).1)
  ·exact ⟨hg.os,hg.tape,hg.output,Nat.le_trans (by simp) hg.size,fun k hk hne => (hg.block k (by simp;omega) hne).trans (Below.heap_alloc _ _ _ hk)⟩
theorem QK : (Try.prog.info? 3).map (fun i => (i.zero,i.size,i.bytes)) = some (some (.int .i64 0),1,8):=by kernel_rfl
theorem BG : (Try.prog.info? 22).map (fun i => (i.zero,i.size,i.bytes)) = some (some (.slice none 0 0),1,24):=by kernel_rfl
def nVs (zs : List Nat) : List Value:=zs.map fun (z : Nat) => Value.int .i64 (z : Int)
theorem QB (xs ys : List Nat) : nVs (xs ++ ys) = nVs xs ++ nVs ys:=by simp [nVs]
def rP (w : World) (base : Nat) (v : Value) (zs : List Nat) : Prop:=w.ownsRow base 3 1 v zs.length (nVs zs)
end Go.Proofs.Yteofcbkjhdadpaa
namespace Go.Proofs.Yteofcbkjhdadpaa
open Go.RowKit
structure FP (w w' : World) (Al Aa : Option Addr) : Prop where
 os : w'.os = w.os
 tape : w'.tape = w.tape
 output : w'.output = w.output
 size : w.heap.size≤w'.heap.size
 block : ∀ k,k < w.heap.size→Al≠some ⟨k,0,none⟩→Aa≠some ⟨k,0,none⟩→w'.heap[k]? = w.heap[k]?
def aLO (w : World) (gr : Nat) (Al Aa : Option Addr) (n capl c m : Nat) (L A : List (List UInt8)) (e : Ending) (w' : World) : Prop :=
 ∃ (v : Value) (piv : List Nat) (L' A' : List (List UInt8)),e = .returned v∧rP w' w.heap.size v piv∧wD n c 0 0 L A [] L' A' piv∧Gz w' gr Al Aa n capl c m L' A'∧FP w w' Al Aa
structure aBi (w wr : World) (gr gb g5 : Nat) (Al Aa : Option Addr) (n capl c m top col : Nat) (v : Value) (piv : List Nat) (L A L1 A1 : List (List UInt8)) : Prop where
 go : ∀ L' A' p',wD n c top col L1 A1 piv L' A' p'→wD n c 0 0 L A [] L' A' p'
 own : rP wr (w.heap.size + 1) v piv
 hlen : piv.length = top
 htop : top≤n
 hcol : col≤64
 gz : Gz wr gr Al Aa n capl c m L1 A1
 chg : FP w wr Al Aa
 box : wr.cell? ⟨gb,0,none⟩ = some (.pointer (some ⟨gr,0,none⟩))
 cell : wr.cell? ⟨g5,0,none⟩ = some (.int .i64 (top : Int))
 new : w.heap.size≤g5
 newb : w.heap.size≤gb
 ne : ∀ k,v.ownBlock = some k→k≠g5∧k≠gb
 gne : gb≠g5
theorem FP.refl (w : World) (Al Aa : Option Addr) : FP w w Al Aa:=⟨rfl,rfl,rfl,Nat.le_refl _,fun _ _ _ _ => rfl⟩
theorem FP.below {w a b : World} {Al Aa : Option Addr} (h : FP w a Al Aa) (hb : Below w.heap.size a b) : FP w b Al Aa :=
 ⟨hb.os.trans h.os,hb.tape.trans h.tape,hb.output.trans h.output,Nat.le_trans h.size hb.size,fun k hk n1 n2 => (hb.block k hk).trans (h.block k hk n1 n2)⟩
theorem FP.chg {w a b : World} {gl ga : Nat} (h : FP w a (some ⟨gl,0,none⟩) (some ⟨ga,0,none⟩)) (hc : Chg a b gl ga) : FP w b (some ⟨gl,0,none⟩) (some ⟨ga,0,none⟩) :=
 ⟨hc.os.trans h.os,hc.tape.trans h.tape,hc.output.trans h.output,Nat.le_trans h.size hc.size,fun k hk n1 n2 => (hc.block k (Nat.lt_of_lt_of_le hk h.size) (by rintro rfl;exact n1 rfl) (by rintro rfl;exact n2 rfl)).trans (h.block k hk n1 n2)⟩
theorem Gz.below {w w' : World} {gr : Nat} {Al Aa : Option Addr} {n capl c m : Nat} {L A : List (List UInt8)} (h : Gz w gr Al Aa n capl c m L A) (hb : Below w.heap.size w w') : Gz w' gr Al Aa n capl c m L A :=
 ⟨h.row.below hb h.row.lt,h.l.below hb,h.also.below hb,h.le,h.ne⟩
theorem aBi.drew {w wr : World} {gr gb g5 : Nat} {Al Aa : Option Addr} {n capl c m top col : Nat} {v : Value} {piv : List Nat} {L A L1 A1 : List (List UInt8)} (h : aBi w wr gr gb g5 Al Aa n capl c m top col v piv L A L1 A1) : aBi w wr.drew gr gb g5 Al Aa n capl c m top col v piv L A L1 A1 :=
 ⟨h.go,h.own,h.hlen,h.htop,h.hcol,h.gz.below (Below.drew (Below.refl _ _)),h.chg.below (Below.drew (Below.refl _ _)),h.box,h.cell,h.new,h.newb,h.ne,h.gne⟩
theorem aHK {x y : World} {a : Value} {t : TypeId} (h : Below (x.alloc (.cells #[a] t)).heap.size (x.alloc (.cells #[a] t)) y) : Row y x.heap.size t [a]:=(Row.new x [a] t).below h (by simp)
theorem aFN {x y : World} {a : Value} {t : TypeId} (h : Below (x.alloc (.cells #[a] t)).drew.heap.size (x.alloc (.cells #[a] t)).drew y) : Row y x.heap.size t [a]:=(show Row (x.alloc (.cells #[a] t)).drew x.heap.size t [a] from Row.new x [a] t).below h (show x.heap.size < (x.alloc (.cells #[a] t)).heap.size by simp)
theorem NH {w : World} {base n : Nat} {v : Value} {xs : List Value} {t : TypeId} (h : w.ownsRow base t 1 v n xs) {g : Nat} (hb : v.ownBlock = some g) : ∃ ys,Row w g t ys:=by
 rcases h with ⟨_,⟨h0,_⟩ | ⟨g',c,cur,h0,hg,hh,_⟩⟩
 ·rw [h0] at hb;cases hb
 ·rw [h0] at hb
  injection hb with hb;subst hb;exact ⟨cur.toList,hh⟩
theorem rP.rowOf {w : World} {base : Nat} {v : Value} {zs : List Nat} (h : rP w base v zs) {g : Nat} (hb : v.ownBlock = some g) : ∃ ys,Row w g 3 ys:=NH h hb
theorem Below.nB {w w' : World} (h : Below w.heap.size w w') {p : Addr} {v : Value} (hc : w.cell? p = some v) : w'.cell? p = some v:=(h.cell (World.block_lt_of_cell? w p hc)).trans hc
theorem Gz.aCu {w w' : World} {gr : Nat} {Al Aa : Option Addr} {n capl c m : Nat} {L A : List (List UInt8)} (h : Gz w gr Al Aa n capl c m L A) {ob : Option Nat} (hg : w.grownBy w' ob) (ho : ∀ g,ob = some g → ∃ ys,Row w g 3 ys) : Gz w' gr Al Aa n capl c m L A:=by
 cases ob with
 | none => exact h.below ⟨hg.os,hg.tape,hg.output,hg.size,fun k hk => hg.block k hk (by simp)⟩
 | some g =>
  obtain ⟨ys,hr⟩:=ho g rfl;have hne : ∀ {A' : Option Addr} {c' : Nat} {X : List (List UInt8)},qC w A' n c' X→qC w' A' n c' X:=fun {A' c' X} hl => by
   rcases Nat.eq_zero_or_pos n with h0 | h0
   ·exact ⟨hl.1,hl.2.1,fun h1 => by omega⟩
   ·obtain ⟨_,lv,e,hrow⟩:=hl.row h0
    refine hl.grown hg hr (by decide) ?_;rw [e];intro e2;injection e2 with e2;injection e2 with e2;exact Row.yR hrow hr (by decide) e2
  refine ⟨h.row.of_block (hg.block gr h.row.lt ?_),hne h.l,hne h.also,h.le,h.ne⟩;intro e2;injection e2 with e2;exact Row.yR h.row hr (by decide) e2
structure aCM (w wr : World) (gr gb g5 gl ga n capl c m top j k : Nat) (v : Value) (piv : List Nat) (L2 A2 : List (List UInt8)) : Prop where
 gz : Gz wr gr (some ⟨gl,0,none⟩) (some ⟨ga,0,none⟩) n capl c m (dN top j k L2) (iU top j L2 k A2)
 chg : FP w wr (some ⟨gl,0,none⟩) (some ⟨ga,0,none⟩)
 own : rP wr (w.heap.size + 1) v piv
 cell : wr.cell? ⟨g5,0,none⟩ = some (.int .i64 (top : Int))
 box : wr.cell? ⟨gb,0,none⟩ = some (.pointer (some ⟨gr,0,none⟩))
theorem rP.qA {w w' : World} {base : Nat} {v : Value} {zs : List Nat} (h : rP w base v zs) (hk : ∀ g,base≤g→g < w.heap.size→w'.heap[g]? = w.heap[g]?) : rP w' base v zs:=by
 rcases h with ⟨h0,h1 | ⟨g,c,cur,h1,hg,hh,h2⟩⟩
 ·exact ⟨h0,.inl h1⟩
 ·exact ⟨h0,.inr ⟨g,c,cur,h1,hg,(hk g hg (xG hh)).trans hh,h2⟩⟩
theorem rP.mono {w : World} {b b' : Nat} {v : Value} {zs : List Nat} (h : rP w b v zs) (hb : b'≤b) : rP w b' v zs:=by
 rcases h with ⟨h0,h1 | ⟨g,c,cur,h1,hg,hh,h2⟩⟩
 ·exact ⟨h0,.inl h1⟩
 ·exact ⟨h0,.inr ⟨g,c,cur,h1,Nat.le_trans hb hg,hh,h2⟩⟩
theorem aCM.below {w wr wx : World} {gr gb g5 gl ga n capl c m top j k : Nat} {v : Value} {piv : List Nat} {L2 A2 : List (List UInt8)} (h : aCM w wr gr gb g5 gl ga n capl c m top j k v piv L2 A2) (hb : Below wr.heap.size wr wx) : aCM w wx gr gb g5 gl ga n capl c m top j k v piv L2 A2 :=
 ⟨h.gz.below hb,h.chg.below (hb.mono h.chg.size),h.own.qA fun g _ hg => hb.block g hg,Below.nB hb h.cell,Below.nB hb h.box⟩
theorem GO (gr : Nat) (Al Aa : Option Addr) (n capl c m : Nat) (L A : List (List UInt8)) (w : World) (h : Gz w gr Al Aa n capl c m L A) (hn : n≤64) (hc : c≤64) (hm : m≤64) :
  Calls Try.prog 81 #[.pointer (some ⟨gr,0,none⟩)] w (aLO w gr Al Aa n capl c m L A):=by
 have hmf : ∀ (fn : Fn) (first cap : Array Value) (w : World),(Instr.makeFunc fn first cap).run Try.prog w = .ok (.func fn first cap) w:=fun _ _ _ _ => rfl
 have H:=Lib.hid h;clear h;go_enter Try.func81,Try.ntmps81;have hb0 : Below w.heap.size w ((w.alloc (.cells #[.pointer (some ⟨gr,0,none⟩)] 92)).alloc (.cells #[.int .i64 0] 3)):=((Below.refl _ _).alloc (Nat.le_refl _) _).alloc (by simp) _;have HST:=Lib.hid (show aBi w ((w.alloc (.cells #[.pointer (some ⟨gr,0,none⟩)] 92)).alloc (.cells #[.int .i64 0] 3)) gr w.heap.size (w.heap.size + 1) Al Aa n capl c m 0 0 (.slice none 0 0) [] L A L A from
  ⟨fun _ _ _ h => h,World.ownsRow_nil _ _ _ _,rfl,Nat.zero_le _,by omega,H.out.below hb0,(FP.refl w Al Aa).below hb0,by simp,by simp,by omega,by omega,(fun k h => by cases h),by omega⟩)
 have HGR:=Lib.hid (show gr < w.heap.size from H.out.row.lt);have HALT:=Lib.hid (show 0 < n→(∀ g,Al = some ⟨g,0,none⟩→g < w.heap.size) ∧ ∀ g,Aa = some ⟨g,0,none⟩→g < w.heap.size from fun h0 => ⟨fun g e => by obtain ⟨g',lv,e',hr⟩:=H.out.l.row h0;rw [e] at e';injection e' with e';injection e' with e';subst e';exact hr.lt,fun g e => by obtain ⟨g',lv,e',hr⟩:=H.out.also.row h0;rw [e] at e';injection e' with e';injection e' with e';subst e';exact hr.lt⟩);have HANE:=Lib.hid H.out.ne;clear hb0 H;go_wp2_with fail
 go_loopg [3,5,6] n (fun k s3 s5 s6 wr => ∃ (top col g5 : Nat) (piv : List Nat) (L1 A1 : List (List UInt8)),s5 = .pointer (some ⟨g5,0,none⟩)∧s6 = .int .i64 (col : Int)∧k = n - top∧aBi w wr gr w.heap.size g5 Al Aa n capl c m top col s3 piv L A L1 A1)
 case atStart => exact ⟨0,0,_,_,_,_,rfl,rfl,rfl,HST.out⟩
 case round =>
  clear HST;obtain ⟨top,col,g5,piv,L1,A1,rfl,rfl,hk,hst⟩:=hrel;have HST:=Lib.hid hst;have b1:=hst.box;have b5:=hst.cell;have r0 : wr.cell? ⟨gr,0,none⟩ = some (.slice Al n capl):=hst.gz.row.cell 0;have ht:=hst.htop;clear hst
  by_cases hlt : top < n
  ·go_wp2_with fail
   go_region
   obtain ⟨wx,hwx⟩ : ∃ wx : World,wx = wr.drew:=⟨_,rfl⟩
   have hst:=HST.out.drew;rw [← hwx] at hst;have HX:=Lib.hid hst;have b1 : wx.cell? ⟨w.heap.size,0,none⟩ = some (.pointer (some ⟨gr,0,none⟩)):=hst.box;have HSK:=Lib.hid (aBT gr Al Aa n capl c m top col L1 A1 wx hst.gz hn hc hlt (by have:=hst.hcol;omega));rw [hwx] at HSK;clear hst r0;go_wp2_with fail
   refine HSK.out.mono ?_;rintro e w1 ⟨i,j,b,rfl,rfl,hyes,hno⟩;have HY:=Lib.hid hyes;have HN:=Lib.hid hno;clear hyes hno HSK;rw [← hwx];have HWX:=Lib.hid hwx;clear hwx b5
   cases b
   ·go_wp2_with fail
    go_ret;have h:=HX.out;exact ⟨_,piv,L1,A1,rfl,rP.mono (World.ownsRow.alloc h.own _) (Nat.le_succ _),h.go _ _ _ (wD.none hlt (HN.out (by simp))),h.gz.below ((Below.refl _ _).alloc (Nat.le_refl _) _),h.chg.below ((Below.refl _ _).alloc h.chg.size _)⟩
   ·obtain ⟨hi,hti,hj,hcj,hx,hzi,hz⟩:=HY.out rfl
    have HYY:=Lib.hid (And.intro hx (And.intro hzi hz));clear hx hzi hz HN HY;have HOWN:=Lib.hid (show ∃ u,u = u3∧rP wx (w.heap.size + 1) u3 piv from ⟨_,rfl,HX.out.own⟩);have hbx : w.heap.size≤wx.heap.size:=HX.out.chg.size;have hpl : piv.length + 1≤64:=by have:=HX.out.hlen;omega
    have hb7:=HX.out.box;have h5:=HX.out.cell;go_wp2_with (at_builtin;refine GD 37 3 (.int .i64 0) 8 Try.underlying37 QK rfl (.tmp 37) (.tmp 39) rfl rfl (w.heap.size + 1) u3 piv.length (nVs piv) (.int .i64 (j : Int)) rfl rfl (World.ownsRow.alloc HX.out.own _) _ rfl (by simp) (by simp only [maxLen];omega) (by omega) (by simp;omega) ?_;intro v1 w1 ho1 hb1 hg1)
    have hown0:=HX.out.own;have hgz0 : Gz (wx.alloc (.cells #[.int .i64 (i : Int)] 3)) gr Al Aa n capl c m L1 A1:=HX.out.gz.below ((Below.refl _ _).alloc (Nat.le_refl _) _);have hgz1 : Gz w1 gr Al Aa n capl c m L1 A1:=hgz0.aCu hg1 (fun g hb => rP.rowOf (World.ownsRow.alloc hown0 _) hb);have hobb : ∀ k,u3.ownBlock = some k→k≠g5∧k≠w.heap.size∧k≠wx.heap.size:=fun k hk => ⟨(HX.out.ne k hk).1,(HX.out.ne k hk).2,by have:=(hown0.lt k hk).2;omega⟩
    have hcellk : ∀ (a : Addr) (q : Value),(wx.alloc (.cells #[.int .i64 (i : Int)] 3)).cell? a = some q→(∀ k,u3.ownBlock = some k→k≠a.block)→w1.cell? a = some q:=fun a q h1 h2 => (World.cell?_of_block (hg1.block a.block (World.block_lt_of_cell? _ a h1) (fun e => h2 _ e.symm rfl))).trans h1
    have k5 : w1.cell? ⟨g5,0,none⟩ = some (.int .i64 (top : Int)):=hcellk _ _ (by rw [World.cell?_alloc_old _ _ _ (Nat.ne_of_lt (gQ h5))];exact h5) (fun k hk => (hobb k hk).1);have kb : w1.cell? ⟨w.heap.size,0,none⟩ = some (.pointer (some ⟨gr,0,none⟩)):=hcellk _ _ (by rw [World.cell?_alloc_old _ _ _ (Nat.ne_of_lt (gQ hb7))];exact hb7) (fun k hk => (hobb k hk).2.1);have ki : w1.cell? ⟨wx.heap.size,0,none⟩ = some (.int .i64 (i : Int)):=hcellk _ _ (by simp) (fun k hk => (hobb k hk).2.2);have kr : w1.cell? ⟨gr,0,none⟩ = some (.slice Al n capl):=hgz1.row.cell 0;obtain ⟨gl,Ai,ci,rfl,hgl,hci,hfi,hlei,hri⟩:=hgz1.l.at_ hi;have hwi:=hgz1.l.width hi;obtain ⟨g',o',rfl,hg',hcell⟩:=mJ hri.rd (k:=j) (by omega);obtain ⟨xv,hxv⟩ : ∃ xv,xv = fH L1 i j:=⟨_,rfl⟩
    replace hcell : w1.cell? ⟨g',o' + j,none⟩ = some (.int .u8 (xv.toNat : Int)):=by rw [hxv];exact hcell
    have HXV:=Lib.hid hxv;have HGZ1:=Lib.hid hgz1;have HO1:=Lib.hid ho1;have ZN:=Lib.hid (hb1.mono (Nat.le_succ w.heap.size));have HG1:=Lib.hid hg1;have HK5:=Lib.hid k5;have HKB:=Lib.hid kb;have HKI:=Lib.hid ki;have HOB:=Lib.hid hobb;clear hown0 hgz0 hgz1 hobb hcellk ho1 hb1 hg1 hxv hri hwi k5 hb7 h5 b1
    go_cut [10,11] from 15 to 87 (fun s10 s11 wx' => ∃ g10 : Nat,s10 = .pointer (some ⟨g10,0,none⟩)∧w1.heap.size≤g10∧wx'.cell? ⟨g10,0,none⟩ = some (.int .u8 ((Gf.inv xv).toNat : Int))∧Below w1.heap.size w1 wx')
    case first =>
     obtain ⟨P,hP⟩ : ∃ P : World→Prop,P = fun x => Below w1.heap.size w1 x:=⟨_,rfl⟩
     have hp0 : P w1:=by rw [hP];exact Below.refl _ _
     have HB:=Lib.hid (show ∀ x : World,P x→Calls Try.prog 43 #[.int .u8 (xv.toNat : Int)] x fun e w' => e = .returned (.tuple #[.int .u8 ((Gf.inv xv).toNat : Int),.int .i64 (Gf.EX xv)])∧Below x.heap.size x w' from fun x _ => UF xv x);have HG:=Lib.hid (show ∀ x y : World,P x→Below x.heap.size x y→P y by rw [hP];exact fun x y q hb => q.trans (hb.mono q.size));have HA:=Lib.hid (show ∀ (x : World) o,P x→P (x.alloc o) by rw [hP];exact fun x o q => q.alloc q.size o);have HD:=Lib.hid (show ∀ (x : World),P x→P x.drew by rw [hP];exact fun x q => q.drew);have HCC:=Lib.hid (show ∀ x : World,P x→x.cell? ⟨w.heap.size,0,none⟩ = some (.pointer (some ⟨gr,0,none⟩))∧x.cell? ⟨wx.heap.size,0,none⟩ = some (.int .i64 (i : Int))∧x.cell? ⟨gr,0,none⟩ = some (.slice (some ⟨gl,0,none⟩) n capl)∧x.cell? ⟨gl,i,none⟩ = some (.slice (some ⟨g',o',none⟩) c ci)∧x.cell? ⟨g',o' + j,none⟩ = some (.int .u8 (xv.toNat : Int)) by
      rw [hP];exact fun x q => ⟨Below.nB q kb,Below.nB q ki,Below.nB q kr,Below.nB q hci,Below.nB q hcell⟩)
     have HST:=Lib.hid (show ∀ (x : World) (a : Addr) (u : Value),w1.heap.size≤a.block→P x→P (x.setCell a u) by
      rw [hP];exact fun x a u ha q => q.setCell ha u)
     have HPS:=Lib.hid (show ∀ (x : World),P x→w1.heap.size≤x.heap.size by rw [hP];exact fun x q => q.size);have HFIN:=Lib.hid (show ∀ x,P x→Below w1.heap.size w1 x by rw [hP];exact fun x q => q);clear hP kb ki kr hci hcell;have hc5:=HCC.out _ hp0
     go_region_held3 (fun x => P x∧x.cell? ⟨w.heap.size,0,none⟩ = some (.pointer (some ⟨gr,0,none⟩))∧x.cell? ⟨wx.heap.size,0,none⟩ = some (.int .i64 (i : Int))∧x.cell? ⟨gr,0,none⟩ = some (.slice (some ⟨gl,0,none⟩) n capl)∧x.cell? ⟨gl,i,none⟩ = some (.slice (some ⟨g',o',none⟩) c ci)∧x.cell? ⟨g',o' + j,none⟩ = some (.int .u8 (xv.toNat : Int)))
      (first | (refine ⟨?_,HCC.out _ ?_⟩ <;> (repeat' (first | with_reducible exact hp0 | with_reducible refine HD.out _ ?_ | with_reducible exact hpb | with_reducible refine HA.out _ _ ?_ | with_reducible refine HST.out _ _ _ (by (try dsimp only);(try simp only [World.size_alloc]);first | omega | (simp;omega)) ?_))))
      (first | (go_at_call 43;(try go_split_ands);(with_reducible refine (HB.out _ (by assumption)).mono ?_);rintro e wb ⟨rfl,hbm⟩;have hpb:=HG.out _ _ (by assumption) hbm;have hzb:=HPS.out _ hpb;(try ((first | (have rA:=aHK hbm) | (have rA:=aFN hbm));(try simp only [World.size_alloc] at rA);have cA:=rA.cell 0;have fA:=rA.frozen 0;have lA:=rA.lt))))
     all_goals (go_split_ands;go_wp2_with fail;go_meet;refine ⟨_,rfl,by (try dsimp only);omega,?_,HFIN.out _ (by assumption)⟩;first | exact aGq cA | (simp;done))
    case rest =>
     obtain ⟨g10,rfl,hg10,ho10,hb10⟩:=hcut
     rename World => w2
     have aLW:=Lib.hid hb10;have hgz2 : Gz w2 gr (some ⟨gl,0,none⟩) Aa n capl c m L1 A1:=HGZ1.out.below hb10;obtain ⟨ga,A0,c0,rfl,hga,_,_,_,_⟩:=hgz2.also.at_ hi;obtain ⟨_,lvl,e1,hrl⟩:=hgz2.l.row (by omega);simp only [Option.some.injEq,Addr.mk.injEq,and_true] at e1;subst e1;obtain ⟨_,lva,e1,hra⟩:=hgz2.also.row (by omega);simp only [Option.some.injEq,Addr.mk.injEq,and_true] at e1;subst e1;have hw1 : w.heap.size≤w1.heap.size:=by have:=ZN.out.size;simp at this;omega
     have hlt1 : gl < w.heap.size:=(HALT.out (by omega)).1 gl rfl;have hlt2 : ga < w.heap.size:=(HALT.out (by omega)).2 ga rfl;have hgne : gl≠ga:=fun e => HANE.out gl rfl (by rw [e])
     have hgrl : gr≠gl:=Row.yR hgz2.row hrl (by decide);have hgra : gr≠ga:=Row.yR hgz2.row hra (by decide);have hn5 : w.heap.size≤g5:=HX.out.new;have k5 : w2.cell? ⟨g5,0,none⟩ = some (.int .i64 (top : Int)):=Below.nB hb10 HK5.out;have kb2 : w2.cell? ⟨w.heap.size,0,none⟩ = some (.pointer (some ⟨gr,0,none⟩)):=Below.nB hb10 HKB.out;have ki2 : w2.cell? ⟨wx.heap.size,0,none⟩ = some (.int .i64 (i : Int)):=Below.nB hb10 HKI.out;have HSW:=Lib.hid (MY w.heap.size gr gl ga n capl c m L1 A1 (kM L1 i top (Gf.inv xv)) (kM A1 i top (Gf.inv xv)) (.pointer (some ⟨g5,0,none⟩)) (.pointer (some ⟨wx.heap.size,0,none⟩)) (.pointer (some ⟨g10,0,none⟩)) w2 hgz2 (by omega) kb2 (by omega) hgrl hgra hgne
      (PH (some ⟨gl,0,none⟩) n capl c L1 wx.heap.size g5 g10 i top (Gf.inv xv) w2 hgz2.l hi hlt hn (by omega) ki2 k5 ho10 (fun g e => by injection e with e;injection e with e;omega))
      (fun w1' hg1' hl1' => PH (some ⟨ga,0,none⟩) n n m A1 wx.heap.size g5 g10 i top (Gf.inv xv) w1' hl1' hi hlt hn (by omega) (hg1'.cell ki2 (by simp;omega)) (hg1'.cell k5 (by simp;omega)) (hg1'.cell ho10 (by simp;omega)) (fun g e => by injection e with e;injection e with e;omega)))
     have HR:=Lib.hid (And.intro hgrl (And.intro hgra hgne));have HW1:=Lib.hid hw1;have HLT:=Lib.hid (And.intro hlt1 hlt2);have HN5:=Lib.hid hn5;have aRT:=Lib.hid k5;have HKB2:=Lib.hid kb2;clear hgz2 hrl hra hga hlt1 hlt2 hgne hgrl hgra hn5 k5 kb2 ki2 kb ki kr hci hcell hgl hfi hlei hg' ho10 hb10;go_wp2_with fail
     refine HSW.out.mono ?_;rintro e w3 ⟨rfl,hgz3,hch3⟩;have hin : aCM w w3 gr w.heap.size g5 gl ga n capl c m top j 0 v1 (piv ++ [j]) (kM L1 i top (Gf.inv xv)) (kM A1 i top (Gf.inv xv)):=by
      obtain ⟨hlt1,hlt2⟩:=HLT.out;have hn5:=HN5.out;have hw1:=HW1.out;refine ⟨hgz3,?_,?_,hch3.cell aRT.out (by dsimp only;omega) (by dsimp only;omega),hch3.cell HKB2.out (by dsimp only;omega) (by dsimp only;omega)⟩
      ·exact ((((HX.out.chg.below ((Below.refl _ _).alloc HX.out.chg.size _)).below ZN.out).below (aLW.out.mono hw1))).chg hch3
      ·have h1 : rP w1 (w.heap.size + 1) v1 (piv ++ [j]):=by
        unfold rP;rw [QB,List.length_append];exact HO1.out
       exact (h1.qA fun g _ hg => aLW.out.block g hg).qA fun g h2 h3 => hch3.block g h3 (by omega) (by omega)
     have HIN:=Lib.hid hin;have r0 : w3.cell? ⟨gr,0,none⟩ = some (.slice (some ⟨gl,0,none⟩) n capl):=hgz3.row.cell 0;have rb:=hin.box;clear hin hgz3 hch3 HSW aRT HKB2 HKB HKI HK5 HG1 HOB HGZ1;obtain ⟨L2,hL2⟩ : ∃ L2,L2 = kM L1 i top (Gf.inv xv):=⟨_,rfl⟩
     obtain ⟨A2,hA2⟩ : ∃ A2,A2 = kM A1 i top (Gf.inv xv):=⟨_,rfl⟩
     rw [← hL2,← hA2] at HIN;have HL2:=Lib.hid hL2;have HA2:=Lib.hid hA2;clear hL2 hA2;go_wp2_with fail
     clear r0 rb
     go_loopg [63] n (fun kk s63 wr2 => ∃ k : Nat,s63 = .int .i64 (k : Int)∧k≤n∧kk = n - k∧aCM w wr2 gr w.heap.size g5 gl ga n capl c m top j k v1 (piv ++ [j]) L2 A2)
     case atStart => exact ⟨0,rfl,by omega,rfl,HIN.out⟩
     case round =>
      clear HIN;obtain ⟨k,rfl,hkn,hkk,hin⟩:=hrel
      rename World => w4
      have HIN:=Lib.hid hin;have rb:=hin.box;have r0 : w4.cell? ⟨gr,0,none⟩ = some (.slice (some ⟨gl,0,none⟩) n capl):=hin.gz.row.cell 0;clear hin
      by_cases hkl : k < n
      ·have hin:=HIN.out
       obtain ⟨w5,hw5⟩ : ∃ w5,w5 = w4.alloc (.cells #[.int .i64 (k : Int)] 3):=⟨_,rfl⟩
       have hb45 : Below w4.heap.size w4 w5:=by rw [hw5];exact (Below.refl _ _).alloc (Nat.le_refl _) _
       have h12 : w5.cell? ⟨w4.heap.size,0,none⟩ = some (.int .i64 (k : Int)):=by rw [hw5];simp
       have h12s : w4.heap.size < w5.heap.size:=by rw [hw5];simp
       have hin5:=hin.below hb45;have rb5:=hin5.box;have r05 : w5.cell? ⟨gr,0,none⟩ = some (.slice (some ⟨gl,0,none⟩) n capl):=hin5.gz.row.cell 0;obtain ⟨gl',Ak,ck,e1,hgl,hck,hfk,hlek,hrk⟩:=hin5.gz.l.at_ hkl;simp only [Option.some.injEq,Addr.mk.injEq,and_true] at e1;subst e1;have hwk:=hin5.gz.l.width hkl;obtain ⟨g',o',rfl,hg',hcell⟩:=mJ hrk.rd (k:=j) (by omega);obtain ⟨x,hx⟩ : ∃ x,x = fH (dN top j k L2) k j:=⟨_,rfl⟩
       replace hcell : w5.cell? ⟨g',o' + j,none⟩ = some (.int .u8 (x.toNat : Int)):=by rw [hx];exact hcell
       have HX2:=Lib.hid hx;have HIN5:=Lib.hid hin5;have HW5:=Lib.hid hw5;have HSZ:=Lib.hid (show w.heap.size + 1≤w4.heap.size from Nat.lt_of_le_of_lt (Nat.le_refl _) (World.block_lt_of_cell? w4 _ rb));have hlek:=hrk;clear hin hin5 hx hrk hlek hwk hfk hgl;go_wp2_with fail
       rw [← HW5.out];have HW5b:=Lib.hid hw5;clear hw5 r0 rb
       go_cut [13] from 66 to 76 (fun s13 wx' => ∃ g13,s13 = .pointer (some ⟨g13,0,none⟩)∧w5.heap.size≤g13∧wx'.cell? ⟨g13,0,none⟩ = some (.int .u8 (x.toNat : Int))∧Below w5.heap.size w5 wx')
       case first =>
        obtain ⟨P,hP⟩ : ∃ P : World→Prop,P = fun x => Below w5.heap.size w5 x:=⟨_,rfl⟩
        have hp0 : P w5:=by rw [hP];exact Below.refl _ _
        have HA:=Lib.hid (show ∀ (x : World) o,P x→P (x.alloc o) by rw [hP];exact fun x o q => q.alloc q.size o);have HD:=Lib.hid (show ∀ (x : World),P x→P x.drew by rw [hP];exact fun x q => q.drew);have HCC:=Lib.hid (show ∀ y : World,P y→y.cell? ⟨w.heap.size,0,none⟩ = some (.pointer (some ⟨gr,0,none⟩))∧y.cell? ⟨w4.heap.size,0,none⟩ = some (.int .i64 (k : Int))∧y.cell? ⟨gr,0,none⟩ = some (.slice (some ⟨gl,0,none⟩) n capl)∧y.cell? ⟨gl,k,none⟩ = some (.slice (some ⟨g',o',none⟩) c ck)∧y.cell? ⟨g',o' + j,none⟩ = some (.int .u8 (x.toNat : Int)) by
         rw [hP];exact fun y q => ⟨Below.nB q rb5,Below.nB q h12,Below.nB q r05,Below.nB q hck,Below.nB q hcell⟩)
        have HST:=Lib.hid (show ∀ (x : World) (a : Addr) (u : Value),w5.heap.size≤a.block→P x→P (x.setCell a u) by
         rw [hP];exact fun x a u ha q => q.setCell ha u)
        have HPS:=Lib.hid (show ∀ (x : World),P x→w5.heap.size≤x.heap.size by rw [hP];exact fun x q => q.size);have HFIN:=Lib.hid (show ∀ x,P x→Below w5.heap.size w5 x by rw [hP];exact fun x q => q);clear hP rb5 h12 r05 hck hcell;have hc5:=HCC.out _ hp0
        go_region_held3 (fun y => P y∧y.cell? ⟨w.heap.size,0,none⟩ = some (.pointer (some ⟨gr,0,none⟩))∧y.cell? ⟨w4.heap.size,0,none⟩ = some (.int .i64 (k : Int))∧y.cell? ⟨gr,0,none⟩ = some (.slice (some ⟨gl,0,none⟩) n capl)∧y.cell? ⟨gl,k,none⟩ = some (.slice (some ⟨g',o',none⟩) c ck)∧y.cell? ⟨g',o' + j,none⟩ = some (.int .u8 (x.toNat : Int)))
         (first | (refine ⟨?_,HCC.out _ ?_⟩ <;> (repeat' (first | with_reducible exact hp0 | with_reducible refine HD.out _ ?_ | with_reducible refine HA.out _ _ ?_ | with_reducible refine HST.out _ _ _ (by (try dsimp only);(try simp only [World.size_alloc]);first | omega | (simp;omega)) ?_))))
         (fail)
        all_goals (go_split_ands;go_wp2_with fail;go_meet;refine ⟨_,rfl,by (try dsimp only);omega,?_,HFIN.out _ (by assumption)⟩;first | (simp;done))
       case rest =>
        obtain ⟨g13,rfl,hg13,ho13,hb13⟩:=hcut
        rename World => w6
        have hin6:=HIN5.out.below hb13;have h12b : w6.cell? ⟨w4.heap.size,0,none⟩ = some (.int .i64 (k : Int)):=Below.nB hb13 h12;have h5b:=hin6.cell;have rb6:=hin6.box;have HIN6:=Lib.hid hin6;have HSTEP:=Lib.hid (show ∀ w' : World,Gz w' gr (some ⟨gl,0,none⟩) (some ⟨ga,0,none⟩) n capl c m (dN top j (k + 1) L2) (iU top j L2 (k + 1) A2)→Chg w6 w' gl ga→aCM w w' gr w.heap.size g5 gl ga n capl c m top j (k + 1) v1 (piv ++ [j]) L2 A2 from fun w' q1 q2 => by
         obtain ⟨hlt1,hlt2⟩:=HLT.out;have hn5:=HN5.out;have hin6:=HIN6.out;exact ⟨q1,hin6.chg.chg q2,hin6.own.qA fun g h2 h3 => q2.block g h3 (by omega) (by omega),q2.cell hin6.cell (by dsimp only;omega) (by dsimp only;omega),q2.cell hin6.box (by dsimp only;omega) (by dsimp only;omega)⟩)
        have HSTAY:=Lib.hid (show (k = top ∨ x = 0)→aCM w w6 gr w.heap.size g5 gl ga n capl c m top j (k + 1) v1 (piv ++ [j]) L2 A2 from fun q => by
         have hin6:=HIN6.out;have e : ¬ (k≠top∧fH (dN top j k L2) k j≠0):=fun h => by
          rcases q with q | q
          ·exact h.1 q
          ·exact h.2 (HX2.out ▸ q)
         refine ⟨?_,hin6.chg,hin6.own,hin6.cell,hin6.box⟩;rw [dN,iU,if_neg e,if_neg e];exact hin6.gz)
        clear hin6 hb13 h12 hck hcell rb5 r05
        by_cases hkt : k = top
        ·have b1 : ((k : Int) != (top : Int)) = false:=by subst hkt;simp
         go_wp2_with fail
         go_roundg (n - (k + 1))
         case rel => exact ⟨k + 1,by go_num,by omega,rfl,HSTAY.out (.inl hkt)⟩
         case measure => omega
        ·have b1 : ((k : Int) != (top : Int)) = true:=by rw [bne_iff_ne];omega
         by_cases hx0 : x.toNat = 0
         ·have hx1 : (x.toNat : Int) = 0:=by omega
          rw [hx1] at ho13;go_wp2_with fail
          go_roundg (n - (k + 1))
          case rel => exact ⟨k + 1,by go_num,by omega,rfl,HSTAY.out (.inr (UInt8.toNat_inj.1 hx0))⟩
          case measure => omega
         ·have b2 : ((x.toNat : Int) != 0) = true:=by rw [bne_iff_ne];omega
          have HCA:=Lib.hid (show Calls Try.prog 93 #[.func (.func 97) #[] #[.pointer (some ⟨w4.heap.size,0,none⟩),.pointer (some ⟨g13,0,none⟩),.pointer (some ⟨g5,0,none⟩)],.pointer (some ⟨w.heap.size,0,none⟩)] w6 fun e w' => e = .returned (.tuple #[])∧Gz w' gr (some ⟨gl,0,none⟩) (some ⟨ga,0,none⟩) n capl c m (dN top j (k + 1) L2) (iU top j L2 (k + 1) A2)∧Chg w6 w' gl ga by
           obtain ⟨hlt1,hlt2⟩:=HLT.out;obtain ⟨hgrl,hgra,hgne⟩:=HR.out;have hn5:=HN5.out;have hsz:=HSZ.out;have hin6:=HIN6.out;have e : k≠top∧fH (dN top j k L2) k j≠0:=⟨hkt,fun e => hx0 (by rw [HX2.out,e];rfl)⟩
           rw [dN,iU,if_pos e,if_pos e,← HX2.out];exact RG w.heap.size gr gl ga n capl c m _ _ _ _ (.pointer (some ⟨w4.heap.size,0,none⟩)) (.pointer (some ⟨g13,0,none⟩)) (.pointer (some ⟨g5,0,none⟩)) w6 hin6.gz (by omega) hin6.box (by omega) hgrl hgra hgne
            (JM (some ⟨gl,0,none⟩) n capl c _ w4.heap.size g13 g5 k top x w6 hin6.gz.l hkl hlt hkt hn (by omega) h12b hin6.cell ho13 (fun g e => by injection e with e;injection e with e;omega))
            (fun w1' hg1' hl1' => JM (some ⟨ga,0,none⟩) n n m _ w4.heap.size g13 g5 k top x w1' hl1' hkl hlt hkt hn (by omega) (hg1'.cell h12b (by simp;omega)) (hg1'.cell hin6.cell (by simp;omega)) (hg1'.cell ho13 (by simp;omega)) (fun g e => by injection e with e;injection e with e;omega)))
          go_wp2_with fail
          refine HCA.out.mono ?_;rintro e w7 ⟨rfl,hgz7,hch7⟩;have HI7:=Lib.hid (HSTEP.out w7 hgz7 hch7);clear hgz7 hch7 HCA HSTEP HSTAY HIN6 ho13 h12b h5b rb6;go_wp2_with fail
          go_roundg (n - (k + 1))
          case rel => exact ⟨k + 1,by go_num,by omega,rfl,HI7.out⟩
          case measure => omega
      ·obtain rfl : k = n:=by omega
       have h5b:=HIN.out.cell;clear rb r0;go_wp2_with fail
       go_roundg (k - (top + 1))
       case rel =>
        have hin:=HIN.out;have hsz : w.heap.size + 1≤w4.heap.size:=Nat.lt_of_le_of_lt (Nat.le_refl _) (World.block_lt_of_cell? w4 _ hin.box);obtain ⟨hx,hzi,hz⟩:=HYY.out;have hb : Below w4.heap.size w4 (w4.alloc (.cells #[.int .i64 ((top : Int) + 1)] 3)):=(Below.refl _ _).alloc (Nat.le_refl _) _;refine ⟨top + 1,j + 1,w4.heap.size,piv ++ [j],_,_,rfl,by go_num,rfl,fun L' A' p' h => HX.out.go _ _ _ (wD.step hlt hi hti hj hcj hx hzi hz ?_),hin.own.qA fun g _ hg => hb.block g hg,by rw [List.length_append,HX.out.hlen];rfl,hlt,by omega,hin.gz.below hb,hin.chg.below (hb.mono hin.chg.size),Below.nB hb hin.box,by simp,by omega,Nat.le_refl _,fun q hq => ?_,by omega⟩
        ·rw [← HXV.out,← HL2.out,← HA2.out]
         exact h
        ·have:=hin.own.lt q hq
         omega
       case measure => omega
  ·go_wp2_with fail
   go_region
   go_wp2_with fail
   go_ret;have h:=HST.out;exact ⟨_,piv,L1,A1,rfl,h.own.mono (Nat.le_succ _),h.go _ _ _ (wD.full (by omega)),h.drew.gz,h.drew.chg⟩
end Go.Proofs.Yteofcbkjhdadpaa
namespace Go.Proofs
open Go.Shelf
def Try.WT : Go.Shelf.Ren:=⟨fun | 4 => 92 | n => n,fun | 22 => 22 | 4 => 4 | 5 => 5 | n => n,fun | n => n⟩
theorem Try.aAs : Go.Proofs.SlLaysK.n4 Try.prog Try.WT:={
 mixed:=by kernel_rfl
 f4:=Try.func92.trans (congrArg some (by kernel_rfl))
 t4:=Try.underlying4
 a4:=Try.isAgg4
 z4:=Try.sizeOf4
 v4:=Try.zeroValue4
 t22:=Try.underlying22
 a22:=Try.isAgg22
 z22:=Try.sizeOf22
 v22:=Try.zeroValue22
 t5:=Try.underlying5
 i5:=by kernel_rfl }
open Go.RowKit Go.Lib in
theorem Try.bytes_Clone_at (a : Addr) (n c : Nat) (xs : List Int) (w : World) (hx : xs.length = n) (hbig : n≤140737488355328) (hc : ∀ i,i < n→w.cell? (a.add i) = some (.int .u8 (xs.getD i 0))) :
  Calls Try.prog 92 #[.slice (some a) n c] w fun e w' => ∃ v',e = .returned v'∧w'.ownsRow w.heap.size 5 1 v' n (xs.map (Value.int .u8))∧v'≠.slice none 0 0∧Below w.heap.size w w':=Any.bytes_Clone_at Try.aAs a n c xs w hx hbig hc
open Go.RowKit Go.Lib in
theorem Try.bytes_Clone_nil (n c : Nat) (w : World) :
  Calls Try.prog 92 #[.slice none n c] w fun e w' => e = .returned (.slice none 0 0)∧w' = w:=Any.bytes_Clone_nil Try.aAs n c w
def Try.SY : Go.Shelf.Ren:=⟨fun | 14 => 99 | 15 => 101 | n => n,fun | 26 => 62 | 22 => 22 | 3 => 3 | 4 => 4 | 0 => 0 | 9 => 9 | 20 => 20 | 5 => 5 | n => n,fun | n => n⟩
theorem Try.DB : Go.Proofs.SlLaysJ.n14 Try.prog Try.SY:={
 mixed:=by kernel_rfl
 f14:=Try.func99.trans (congrArg some (by kernel_rfl))
 f15:=Try.func101.trans (congrArg some (by kernel_rfl))
 t0:=Try.underlying0
 a0:=Try.isAgg0
 z0:=Try.sizeOf0
 v0:=Try.zeroValue0
 t3:=Try.underlying3
 a3:=Try.isAgg3
 z3:=Try.sizeOf3
 v3:=Try.zeroValue3
 t4:=Try.underlying4
 a4:=Try.isAgg4
 z4:=Try.sizeOf4
 v4:=Try.zeroValue4
 t9:=Try.underlying9
 a9:=Try.isAgg9
 z9:=Try.sizeOf9
 v9:=Try.zeroValue9
 t20:=Try.underlying20
 a20:=Try.isAgg20
 z20:=Try.sizeOf20
 v20:=Try.zeroValue20
 t22:=Try.underlying22
 a22:=Try.isAgg22
 z22:=Try.sizeOf22
 v22:=Try.zeroValue22
 t26:=Try.underlying62
 a26:=Try.isAgg62
 z26:=Try.sizeOf62
 v26:=Try.zeroValue62
 t5:=Try.underlying5
 z5:=Try.sizeOf5
 i5:=by kernel_rfl }
open Go.RowKit Go.Lib in
theorem Try.bytes_Join_many (b o n c : Nat) (vs : List Value) (ls : List (List UInt8)) (sv : Value) (sep : List UInt8) (w : World) (hn : ls.length = n) (h2 : 2≤n) (hP : Lib.PartsAt w ⟨b,o,none⟩ vs ls) (hcap : n≤c) (hS : Lib.HoldsBytes w sv sep) (hn47 : n≤140737488355328) (hlen : Lib.lens ls + sep.length * (n - 1)≤140737488355328) :
  Calls Try.prog 99 #[.slice (some ⟨b,o,none⟩) n c,sv] w fun e w' => ∃ v',e = .returned v'∧Lib.FreshBytes w.heap.size w' v' (Lib.join ls sep)∧Below w.heap.size w w':=Any.bytes_Join_many Try.DB b o n c vs ls sv sep w hn h2 hP hcap hS hn47 hlen
open Go.RowKit Go.Lib in
theorem Try.bytes_Join_none (p : Option Addr) (c : Nat) (sv : Value) (w : World) :
  Calls Try.prog 99 #[.slice p 0 c,sv] w fun e w' => e = .returned (.slice (some ⟨w.heap.size,0,none⟩) 0 0)∧w' = w.alloc (.cells #[] 5):=Any.bytes_Join_none Try.DB p c sv w
open Go.RowKit Go.Lib in
theorem Try.bytes_Join_one (b o c : Nat) (ad0 : Addr) (c0 : Nat) (l0 : List UInt8) (sv : Value) (w : World) (hcell : w.cell? ⟨b,o,none⟩ = some (.slice (some ad0) l0.length c0)) (hc : ∀ (i : Nat) x,l0[i]? = some x→w.cell? (ad0.add i) = some (.int .u8 (x.toNat : Int))) (h0 : 0 < l0.length) (hs : l0.length≤140737488355328) :
  Calls Try.prog 99 #[.slice (some ⟨b,o,none⟩) 1 c,sv] w fun e w' => ∃ v',e = .returned v'∧Lib.FreshBytes w.heap.size w' v' l0∧Below w.heap.size w w':=Any.bytes_Join_one Try.DB b o c ad0 c0 l0 sv w hcell hc h0 hs
open Go.RowKit Go.Lib in
theorem Try.bytes_Join_one_empty (b o c : Nat) (p0 : Option Addr) (c0 : Nat) (sv : Value) (w : World) (hcell : w.cell? ⟨b,o,none⟩ = some (.slice p0 0 c0)) :
  Calls Try.prog 99 #[.slice (some ⟨b,o,none⟩) 1 c,sv] w fun e w' => e = .returned (.slice none 0 0)∧w' = w:=Any.bytes_Join_one_empty Try.DB b o c p0 c0 sv w hcell
end Go.Proofs
namespace Go.Proofs.Yteofcbkjhdadpaa
open Go.RowKit
theorem LL {B : Nat} {w : World} {v : Value} {l : List UInt8} (h : Lib.FreshBytes B w v l) : ∃ A k,v = .slice A l.length k∧Rd w w.heap.size A l.length (dK l)∧l.length≤k ∧ ∀ a,A = some a→B≤a.block:=by
 obtain ⟨g,cap,zs,rfl,hg,hl,hm,hz,hr,hb,hc,hf⟩:=h;refine ⟨_,_,rfl,⟨bC l,fun hn => ⟨g,0,rfl,?_,fun j u hu => ?_⟩⟩,hl,fun a e => by injection e with e;subst e;exact hg⟩
 ·exact World.block_lt_of_cell? w ⟨g,0,none⟩ (hc 0 (by omega))
 ·have hj : j < l.length:=by
   rcases Nat.lt_or_ge j l.length with h1 | h1
   ·exact h1
   ·rw [List.getElem?_eq_none (by rw [bC];exact h1)] at hu;cases hu
  rw [Nat.zero_add,hc j (by omega),← hu,rN l j hj];have hjz : j < zs.length:=by omega
  have e1 : zs.getD j 0 = zs[j]:=by rw [List.getD_eq_getElem?_getD,List.getElem?_eq_getElem hjz];rfl
  have e2 : l[j]? = some (UInt8.ofNat zs[j].toNat):=by
   rw [← hb];unfold Lib.bytesOf;rw [List.getElem?_map,List.getElem?_take,if_pos hj,List.getElem?_eq_getElem hjz];rfl
  rw [List.getElem?_eq_getElem hj] at e2;injection e2 with e2;have h0:=hr zs[j] (List.getElem_mem hjz);rw [e1,e2,UInt8.toNat_ofNat']
  congr 2
  omega
theorem QG {n c : Nat} {L : List (List UInt8)} (h1 : L.length = n) (h2 : ∀ i,i < n→(L.getD i []).length = c) : L.flatten.length = n * c∧Lib.lens L = n * c:=by
 have h3 : ∀ x∈L,x.length = c:=fun x hx => by
  obtain ⟨i,hi,rfl⟩:=List.getElem_of_mem hx;have:=h2 i (by omega)
  rwa [List.getD_eq_getElem?_getD,List.getElem?_eq_getElem hi] at this
 have h4 : (L.map (·.length)).sum = n * c:=by
  subst h1;clear h2
  induction L with
  | nil => simp
  | cons x L ih =>
   rw [List.map_cons,List.sum_cons,ih (fun y hy => h3 y (List.mem_cons_of_mem _ hy)),h3 x List.mem_cons_self,List.length_cons,Nat.add_mul];omega
 exact ⟨by rw [List.length_flatten];exact h4,h4⟩
theorem aFY (L : List (List UInt8)) : Lib.join L [] = L.flatten:=by
 cases L with
 | nil => rfl
 | cons x r => rw [Lib.join_cons];unfold Lib.joinTail;simp
theorem aFX {w : World} {g n c : Nat} {L : List (List UInt8)} (h : qC w (some ⟨g,0,none⟩) n c L) (hn : 0 < n) : ∃ vs,Lib.PartsAt w ⟨g,0,none⟩ vs L:=by
 obtain ⟨g',lv,e,hr,hl,hc⟩:=h.2.2 hn;simp only [Option.some.injEq,Addr.mk.injEq,and_true] at e;subst e;refine ⟨lv.take n,by rw [List.length_take,h.1];omega,fun i v hv => ?_,fun i v l hv hl => ?_⟩
 ·rw [List.getElem?_take] at hv
  split at hv
  ·rw [tV,Nat.zero_add,hr.cell,hv]
  ·cases hv
 ·have hi : i < n:=by
   rcases Nat.lt_or_ge i n with h1 | h1
   ·exact h1
   ·rw [List.getElem?_eq_none (by rw [h.1];exact h1)] at hl;cases hl
  obtain ⟨Ai,ci,e1,e2,e3⟩:=hc i hi;rw [List.getElem?_take,if_pos hi,e1] at hv;injection hv with hv;have el : L.getD i [] = l:=by rw [List.getD_eq_getElem?_getD,hl];rfl
  have hw : l.length = c:=by rw [← el];exact h.2.1 i hi
  rw [el] at e3;refine ⟨Ai,ci,by rw [← hv,hw],fun e => ?_,fun a e j x hx => ?_⟩
  ·rcases Nat.eq_zero_or_pos l.length with h1 | h1
   ·exact List.eq_nil_of_length_eq_zero h1
   ·obtain ⟨_,_,_,e4,_⟩:=e3 h1
    rw [e] at e4;cases e4
  ·have hj : j < l.length:=by
    rcases Nat.lt_or_ge j l.length with h1 | h1
    ·exact h1
    ·rw [List.getElem?_eq_none h1] at hx;cases hx
   obtain ⟨g2,o,rfl,h3⟩:=mJ e3.rd hj;simp only [Option.some.injEq] at e;subst e;obtain ⟨_,h4⟩:=h3;rw [tV];rw [List.getD_eq_getElem?_getD,hx] at h4;exact h4
theorem aCs (A : Option Addr) (n cap c : Nat) (L : List (List UInt8)) (w : World) (h : qC w A n c L) (hn : n≤64) (hc : c≤64) (hcap : n≤cap) :
  Calls Try.prog 99 #[.slice A n cap,.slice none 0 0] w fun e w' => ∃ A' k',e = .returned (.slice A' (n * c) k')∧Rd w' w'.heap.size A' (n * c) (dK L.flatten)∧n * c≤k'∧(∀ a,A' = some a→w.heap.size≤a.block)∧Below w.heap.size w w':=by
 have hf:=QG h.1 h.2.1;have hp : n * c≤4096:=Nat.le_trans (Nat.mul_le_mul hn hc) (by omega)
 rcases Nat.lt_trichotomy n 1 with h1 | h1 | h1
 ·obtain rfl : n = 0:=by omega
  obtain rfl:=List.eq_nil_of_length_eq_zero h.1;refine (Try.bytes_Join_none A cap (.slice none 0 0) w).mono ?_;rintro e w' ⟨rfl,rfl⟩;refine ⟨_,0,by rw [Nat.zero_mul],?_,by omega,fun a e => by injection e with e;subst e;exact Nat.le_refl _,(Below.refl _ _).alloc (Nat.le_refl _) _⟩;rw [Nat.zero_mul];exact Rd.nil
 ·subst h1
  obtain ⟨l,rfl⟩ : ∃ l,L = [l]:=by
   have:=h.1
   match L,this with
   | [l],_ => exact ⟨l,rfl⟩
  obtain ⟨g,Ai,ci,rfl,hg,hci,_,hle,hr⟩:=h.at_ (i:=0) (by omega);have hw : l.length = c:=h.width (i:=0) (by omega);have e0 : [l].getD 0 [] = l:=rfl;rw [e0] at hr;rw [Nat.one_mul]
  rcases Nat.eq_zero_or_pos c with hz | hz
  ·subst hz
   refine (Try.bytes_Join_one_empty g 0 cap Ai ci (.slice none 0 0) w hci).mono ?_;rintro e w' ⟨rfl,rfl⟩;obtain rfl:=List.eq_nil_of_length_eq_zero hw;exact ⟨none,0,rfl,Rd.nil,Nat.le_refl _,(fun a e => by cases e),Below.refl _ _⟩
  ·obtain ⟨g2,o,rfl,hg2⟩:=mJ hr.rd (k:=0) (by omega)
   rw [← hw] at hci;refine (Try.bytes_Join_one g 0 cap ⟨g2,o,none⟩ ci l (.slice none 0 0) w hci (fun i x hx => ?_) (by omega) (by omega)).mono ?_
   ·have hi : i < l.length:=by
     rcases Nat.lt_or_ge i l.length with h1 | h1
     ·exact h1
     ·rw [List.getElem?_eq_none h1] at hx;cases hx
    obtain ⟨g3,o3,e3,_,h4⟩:=mJ hr.rd hi;simp only [Option.some.injEq,Addr.mk.injEq,and_true] at e3;obtain ⟨rfl,rfl⟩:=e3;rw [tV];rw [List.getD_eq_getElem?_getD,hx] at h4;exact h4
   ·rintro e w' ⟨v',rfl,hfr,hb⟩
    obtain ⟨A',k,rfl,hrd,hk,hA⟩:=LL hfr;rw [hw] at hrd hk ⊢;exact ⟨A',k,rfl,by simpa using hrd,hk,hA,hb⟩
 ·obtain ⟨g,lv,rfl,_⟩:=h.row (by omega)
  obtain ⟨vs,hP⟩:=aFX h (by omega);refine (Try.bytes_Join_many g 0 n cap vs L (.slice none 0 0) [] w h.1 (by omega) hP hcap ⟨none,0,rfl,fun _ => rfl,fun a e => by cases e⟩ (by omega) (by rw [hf.2];simp;omega)).mono ?_;rintro e w' ⟨v',rfl,hfr,hb⟩;rw [aFY] at hfr;obtain ⟨A',k,rfl,hrd,hk,hA⟩:=LL hfr;rw [hf.1] at hrd hk ⊢;exact ⟨A',k,rfl,hrd,hk,hA,hb⟩
theorem aAR (A : Option Addr) (n cap : Nat) (xs : List UInt8) (w : World) (h : Rd w w.heap.size A n (dK xs)) (hn : n≤4096) :
  Calls Try.prog 92 #[.slice A n cap] w fun e w' => ∃ A' k',e = .returned (.slice A' n k')∧AP w' A' xs∧n≤k'∧Below w.heap.size w w':=by
 have hl : xs.length = n:=by have:=h.len;rwa [bC] at this
 cases A with
 | none =>
  obtain rfl : n = 0:=by
   rcases Nat.eq_zero_or_pos n with h1 | h1
   ·exact h1
   ·obtain ⟨_,_,e,_⟩:=h.2 h1;cases e
  obtain rfl:=List.eq_nil_of_length_eq_zero hl;refine (Try.bytes_Clone_nil 0 cap w).mono ?_;rintro e w' ⟨rfl,rfl⟩;exact ⟨none,0,rfl,AP.nil _ _,Nat.le_refl _,Below.refl _ _⟩
 | some a =>
  have e3 : (xs.map fun x => (x.toNat : Int)).map (Value.int .u8) = dK xs:=by unfold dK;rw [List.map_map];rfl
  refine (Try.bytes_Clone_at a n cap (xs.map fun x => (x.toNat : Int)) w (by rw [List.length_map];exact hl) (by omega) (fun i hi => ?_)).mono ?_
  ·obtain ⟨g,o,e,hg,hcell⟩:=mJ h hi
   injection e with e;subst e;rw [tV,hcell]
   congr 2
   rw [List.getD_eq_getElem?_getD,List.getD_eq_getElem?_getD,List.getElem?_map,List.getElem?_eq_getElem (by omega : i < xs.length)];rfl
  ·rintro e w' ⟨v',rfl,ho,hne,hb⟩
   rw [e3] at ho
   rcases ho with ⟨h0,⟨h1,_⟩ | ⟨g,k,cur,rfl,hr⟩⟩
   ·exact absurd h1 hne
   ·have hO : eJ w' w.heap.size (some ⟨g,0,none⟩) n k xs:=⟨hl,h0,.inr ⟨g,k,cur,rfl,hr⟩⟩
    exact ⟨_,k,rfl,AP.WO hO,hO.le',hb⟩
end Go.Proofs.Yteofcbkjhdadpaa
namespace Go.Proofs.Yteofcbkjhdadpaa
open Go.RowKit
theorem Rd.off {w : World} {n : Nat} {A : Option Addr} {xs : List Value} (h : Rd w w.heap.size A n xs) {p : Addr} (hp : ∀ a,A = some a→a.block≠p.block) (u : Value) : Rd (w.setCell p u) (w.setCell p u).heap.size A n xs:=by
 refine ⟨h.1,fun hn => ?_⟩;obtain ⟨g,o,e,hg,hc⟩:=h.2 hn;refine ⟨g,o,e,by simpa using hg,fun j v hv => ?_⟩;exact cell_far (hc j v hv) (.inl fun e2 => hp _ e e2.symm)
theorem BU (gr : Nat) (Al : Option Addr) (n capl c : Nat) (L : List (List UInt8)) (w : World) (r0 : w.cell? ⟨gr,0,none⟩ = some (.slice Al n capl)) (r2 : w.cell? ⟨gr,2,none⟩ = some (.int .i64 (c : Int))) (h : qC w Al n c L) (hle : n≤capl) (hn : n≤64) (hc : c≤64) :
  Calls Try.prog 82 #[.pointer (some ⟨gr,0,none⟩)] w fun e w' => ∃ A' k',e = .returned (mV n c A' (n * c) k')∧Rd w' w'.heap.size A' (n * c) (dK L.flatten)∧n * c≤k'∧(∀ a,A' = some a→w.heap.size≤a.block)∧Below w.heap.size w w':=by
 obtain ⟨p,hp⟩ : ∃ p,p = n * c:=⟨_,rfl⟩
 have HL:=Lib.hid (show ∀ x : World,Below w.heap.size w x→Calls Try.prog 99 #[.slice Al n capl,.slice none 0 0] x fun e w' => ∃ A' k',e = .returned (.slice A' p k')∧Rd w' w'.heap.size A' p (dK L.flatten)∧p≤k'∧(∀ a,A' = some a→x.heap.size≤a.block)∧Below x.heap.size x w' by
  rw [hp];exact fun x q => aCs Al n capl c L x (h.below q) hn hc hle)
 rw [← hp];clear h hp;go_enter Try.func82,Try.ntmps82;go_wp2_with fail
 obtain ⟨w1,hw1⟩ : ∃ w1,w1 = w.alloc (.cells #[.int .i64 0,.int .i64 0,.slice none 0 0] 24):=⟨_,rfl⟩
 have hb1 : Below w.heap.size w w1:=by rw [hw1];exact (Below.refl _ _).alloc (Nat.le_refl _) _
 have hrow : Row w1 w.heap.size 24 [.int .i64 0,.int .i64 0,.slice none 0 0]:=by rw [hw1];exact Row.new w _ _
 rw [← hw1];obtain ⟨P,hP⟩ : ∃ P : World→Prop,P = fun x => Below w.heap.size w x ∧ ∃ a b c,Row x w.heap.size 24 [a,b,c]:=⟨_,rfl⟩
 have hp0 : P w1:=by rw [hP];exact ⟨hb1,_,_,_,hrow⟩
 have HG:=Lib.hid (show ∀ x y : World,P x→Below x.heap.size x y→P y by rw [hP];exact fun x y ⟨q,a,b,c,r⟩ hb => ⟨q.trans (hb.mono q.size),a,b,c,r.below hb r.lt⟩);have HD:=Lib.hid (show ∀ (x : World),P x→P x.drew by rw [hP];exact fun x ⟨q,a,b,c,r⟩ => ⟨q.drew,a,b,c,Row.drewN r 1⟩);have HST:=Lib.hid (show ∀ (x : World) (i : Nat) (u : Value),i < 3→P x→P (x.setCell ⟨w.heap.size,i,none⟩ u) by
  rw [hP];rintro x i u hi ⟨q,a,b,c,r⟩;refine ⟨q.setCell (Nat.le_refl _) u,?_⟩;have r':=r.set i u
  match i,hi with
  | 0,_ => exact ⟨_,_,_,r'⟩
  | 1,_ => exact ⟨_,_,_,r'⟩
  | 2,_ => exact ⟨_,_,_,r'⟩)
 have HB:=Lib.hid (show ∀ x : World,P x→Calls Try.prog 99 #[.slice Al n capl,.slice none 0 0] x fun e w' => ∃ A' k',e = .returned (.slice A' p k')∧Rd w' w'.heap.size A' p (dK L.flatten)∧p≤k'∧(∀ a,A' = some a→x.heap.size≤a.block)∧Below x.heap.size x w' by
  rw [hP];exact fun x q => HL.out x q.1)
 have HCC:=Lib.hid (show ∀ x : World,P x→x.cell? ⟨gr,0,none⟩ = some (.slice Al n capl)∧x.cell? ⟨gr,2,none⟩ = some (.int .i64 (c : Int)) by
  rw [hP];exact fun x q => ⟨Below.nB q.1 r0,Below.nB q.1 r2⟩)
 have HROW:=Lib.hid (show ∀ x : World,P x→(∃ a b c,Row x w.heap.size 24 [a,b,c])∧Below w.heap.size w x by rw [hP];exact fun x q => ⟨q.2,q.1⟩);have HS:=Lib.hid (show w.heap.size < w1.heap.size from hrow.lt);clear hP hrow hb1 hw1 r0 r2 HL;have hc5:=HCC.out _ hp0
 go_region_held3 (fun x => P x∧x.cell? ⟨gr,0,none⟩ = some (.slice Al n capl)∧x.cell? ⟨gr,2,none⟩ = some (.int .i64 (c : Int)))
  (first | (refine ⟨?_,HCC.out _ ?_⟩ <;> (repeat' (first | with_reducible exact hp0 | with_reducible refine HD.out _ ?_ | with_reducible exact hpb | with_reducible refine HST.out _ _ _ (by decide) ?_))))
  (first | (go_at_call 99;(try go_split_ands);(with_reducible refine (HB.out _ (by assumption)).mono ?_);rintro e wb ⟨A',k',rfl,hrd,hk,hA,hbm⟩;have hpb:=HG.out _ _ (by assumption) hbm;obtain ⟨⟨a0,b0,c0,hrb⟩,hbb⟩:=HROW.out _ hpb;obtain ⟨e0,e1,e2,f0,f1,f2⟩:=hrb.three))
 have hA' : ∀ a,A' = some a→a.block≠w.heap.size:=fun a e => by
  have:=hA a e;have h2 : w1.drew.heap.size = w1.heap.size:=rfl;have:=HS.out;omega
 have HAW:=Lib.hid (show ∀ a,A' = some a→w.heap.size≤a.block from fun a e => by
  have:=hA a e;have h2 : w1.drew.heap.size = w1.heap.size:=rfl;have:=HS.out;omega)
 have hlt:=hrb.lt;have HRD:=Lib.hid hrd;have HA:=Lib.hid hA';have HBB:=Lib.hid hbb;clear hrd hA hA' hbb hrb;go_wp2_with fail
 refine bodyPost_ret (v:=mV n c A' p k') (by simp [results,Try.results82,go_sem,e0,e1,e2,hlt]) rfl ⟨A',k',rfl,?_,hk,HAW.out,bZ HBB.out (Nat.le_refl _) _ _ _⟩;exact ((HRD.out.off HA.out _).off HA.out _).off HA.out _
theorem SZ (gr : Nat) (Al Aa : Option Addr) (n capl c m : Nat) (L A : List (List UInt8)) (w : World) (h : Gz w gr Al Aa n capl c m L A) (hn : n≤64) (hc : c≤64) :
  Calls Try.prog 82 #[.pointer (some ⟨gr,0,none⟩)] w fun e w' => ∃ A' k',e = .returned (mV n c A' (n * c) k')∧Rd w' w'.heap.size A' (n * c) (dK L.flatten)∧n * c≤k'∧(∀ a,A' = some a→w.heap.size≤a.block)∧Below w.heap.size w w' :=
 BU gr Al n capl c L w (h.row.cell 0) (h.row.cell 2) h.l h.le hn hc
theorem aCr (n : Nat) (hn : n≤4096) (w : World) :
  (Instr.makeSlice 62 (.int .i64 (n : Int)) (.int .i64 (n : Int))).run Try.prog w = .ok (.slice (some ⟨w.heap.size,0,none⟩) n n) (w.alloc (.cells (madeCells #[.slice none 0 0] n) 22)):=by
 obtain ⟨i,hi,hz,hs,hb⟩:=info_parts BG;have h:=run_make (P:=Try.prog) w 62 22 i _ Try.underlying62 hi hz .i64 .i64 (n : Int) (n : Int) (by omega) (by omega) (by rw [hb];omega) (by omega);rw [hs,Nat.mul_one,Int.toNat_natCast] at h;exact h
def iF (xs : List UInt8) (r c : Nat) : List (List UInt8):=(List.range r).map fun i => (xs.drop (i * c)).take c
theorem CW (xs : List UInt8) (r c : Nat) : (iF xs r c).length = r:=by simp [iF]
theorem CX (xs : List UInt8) (r c : Nat) {i : Nat} (hi : i < r) : (iF xs r c).getD i [] = (xs.drop (i * c)).take c:=by
 unfold iF;rw [List.getD_eq_getElem?_getD,List.getElem?_map,List.getElem?_range hi];rfl
theorem JY {xs : List UInt8} {r c : Nat} (h : xs.length = r * c) {i : Nat} (hi : i < r) : ((iF xs r c).getD i []).length = c:=by
 rw [CX xs r c hi,List.length_take,List.length_drop,h];have : (i + 1) * c≤r * c:=Nat.mul_le_mul_right c hi;rw [Nat.add_mul] at this;omega
def lQ (A : Option Addr) (c : Nat) (k : Nat) : List Value:=(List.range k).map fun i => .slice (vP A c (i * c)) c c
theorem WA (A : Option Addr) (c k : Nat) : lQ A c (k + 1) = lQ A c k ++ [.slice (vP A c (k * c)) c c]:=by
 unfold lQ;rw [List.range_succ,List.map_append];rfl
theorem aAc (A : Option Addr) (c k : Nat) : (lQ A c k).length = k:=by simp [lQ]
theorem aAd (A : Option Addr) (c k : Nat) {i : Nat} (hi : i < k) : (lQ A c k)[i]? = some (.slice (vP A c (i * c)) c c):=by
 unfold lQ;rw [List.getElem?_map,List.getElem?_range hi];rfl
theorem AP.aCu {w w' : World} {A : Option Addr} {xs : List UInt8} (h : AP w A xs) {ob : Option Nat} (hg : w.grownBy w' ob) {t : TypeId} (ho : ∀ g,ob = some g → ∃ ys,Row w g t ys) (ht : t≠5) : AP w' A xs:=by
 cases ob with
 | none => exact h.below ⟨hg.os,hg.tape,hg.output,hg.size,fun k hk => hg.block k hk (by simp)⟩
 | some g =>
  obtain ⟨ys,hr⟩:=ho g rfl;exact h.grown hg hr ht
def aCL (w : World) (A : Option Addr) : Prop:=∀ g,A = some ⟨g,0,none⟩→w.heap.size≤g
theorem CY (i j : Nat) : (List.replicate i ([] : List UInt8)).getD j [] = []:=by
 rw [List.getD_eq_getElem?_getD,List.getElem?_replicate]
 split <;> rfl
structure aJb (w wr : World) (gm ga gr r c na ka : Nat) (A D : Option Addr) (xs : List UInt8) (i : Nat) (v : Value) : Prop where
 m : Row wr gm 24 [.int .i64 (r : Int),.int .i64 (c : Int),.slice A na ka]
 a : Row wr ga 22 (List.replicate r (.slice none 0 0))
 s : Row wr gr 95 [v,.slice (some ⟨ga,0,none⟩) r r,.int .i64 (c : Int)]
 own : wr.ownsRow (w.heap.size + 3) 22 1 v i (lQ D c i)
 data : AP wr D xs
 below : Below w.heap.size w wr
theorem TV (r c na ka : Nat) (A : Option Addr) (xs : List UInt8) (w : World) (hx : Rd w w.heap.size A na (dK xs)) (hna : Hid (na = r * c)) (hka : na≤ka) (hr : r≤64) (hc : c≤64) :
  Calls Try.prog 80 #[mV r c A na ka] w fun e w' => ∃ gr Al Aa capl,e = .returned (.pointer (some ⟨gr,0,none⟩))∧Gz w' gr Al Aa r capl c 0 (iF xs r c) (List.replicate r [])∧w.heap.size≤gr∧aCL w Al∧aCL w Aa∧Below w.heap.size w w' ∧ ∃ ga,Aa = some ⟨ga,0,none⟩∧Row w' ga 22 (List.replicate r (.slice none 0 0)):=by
 have hp : na≤4096:=by rw [hna.out];exact Nat.le_trans (Nat.mul_le_mul hr hc) (by omega)
 have HX:=Lib.hid hx;have hmk : ∀ w : World,(Instr.makeSlice 62 (.int .i64 (r : Int)) (.int .i64 (r : Int))).run Try.prog w = .ok (.slice (some ⟨w.heap.size,0,none⟩) r r) (w.alloc (.cells (madeCells #[.slice none 0 0] r) 22)):=fun w => aCr r (by omega) w
 clear hx;go_enter Try.func80,Try.ntmps80;go_wp2_with fail
 go_region
 obtain ⟨W2,hW2⟩ : ∃ W2,W2 = (((w.alloc (.cells #[.int .i64 (r : Int),.int .i64 (c : Int),.slice A na ka] 24)).alloc (.cells (madeCells #[.slice none 0 0] r) 22)).alloc (.cells #[.slice none 0 0,.slice (some ⟨w.heap.size + 1,0,none⟩) r r,.int .i64 (c : Int)] 95)).drew:=⟨_,rfl⟩
 have b2 : Below w.heap.size w W2:=by rw [hW2];exact ((((Below.refl _ _).alloc (Nat.le_refl _) _).alloc (by simp) _).alloc (by simp;omega) _).drew
 have m2 : Row W2 w.heap.size 24 [.int .i64 (r : Int),.int .i64 (c : Int),.slice A na ka]:=by rw [hW2];exact Row.drewN (((Row.new w _ _).alloc _).alloc _) 1
 have a2 : Row W2 (w.heap.size + 1) 22 (List.replicate r (.slice none 0 0)):=by
  rw [hW2];have q:=Row.made (w.alloc (.cells #[.int .i64 (r : Int),.int .i64 (c : Int),.slice A na ka] 24)) (.slice none 0 0) r 22;simp only [World.size_alloc] at q;exact Row.drewN (q.alloc _) 1
 have s2 : Row W2 (w.heap.size + 1 + 1) 95 [.slice none 0 0,.slice (some ⟨w.heap.size + 1,0,none⟩) r r,.int .i64 (c : Int)]:=by
  rw [hW2];have q:=Row.new ((w.alloc (.cells #[.int .i64 (r : Int),.int .i64 (c : Int),.slice A na ka] 24)).alloc (.cells (madeCells #[.slice none 0 0] r) 22)) [.slice none 0 0,.slice (some ⟨w.heap.size + 1,0,none⟩) r r,.int .i64 (c : Int)] 95;simp only [World.size_alloc] at q;exact Row.drewN q 1
 rw [← hW2];have HW2:=Lib.hid hW2;have HCL:=Lib.hid (aAR A na ka xs W2 (HX.out.go b2) hp);have yL:=Lib.hid b2;have HM2:=Lib.hid m2;have HA2:=Lib.hid a2;have HS2:=Lib.hid s2;obtain ⟨c0,c1,c2,f0,f1,f2⟩:=m2.three;clear hW2 b2 m2 a2 s2 hmk;go_wp2_with fail
 refine HCL.out.mono ?_;rintro e w3 ⟨D,kD,rfl,hrd,hkD,hb3⟩;obtain ⟨gr,hgr⟩ : ∃ g,g = w.heap.size + 1 + 1:=⟨_,rfl⟩
 obtain ⟨ga,hga⟩ : ∃ g,g = w.heap.size + 1:=⟨_,rfl⟩
 obtain ⟨gm,hgm⟩ : ∃ g,g = w.heap.size:=⟨_,rfl⟩
 have hst : aJb w w3 gm ga gr r c na ka A D xs 0 (.slice none 0 0):=by
  rw [hgr,hga,hgm];exact ⟨HM2.out.below hb3 HM2.out.lt,HA2.out.below hb3 HA2.out.lt,HS2.out.below hb3 HS2.out.lt,World.ownsRow_nil _ _ _ _,hrd,yL.out.trans (hb3.mono yL.out.size)⟩
 obtain ⟨c0,c1,c2,f0,f1,f2⟩:=hst.m.three;have HST:=Lib.hid hst;rw [← hgr,← hga,← hgm];have HGG:=Lib.hid (show gm = w.heap.size∧ga = w.heap.size + 1∧gr = w.heap.size + 1 + 1 from ⟨hgm,hga,hgr⟩);clear hst hgr hga hgm hrd hb3 HCL yL HM2 HA2 HS2 HW2;go_wp2_with fail
 clear c0 c1 c2 f0 f1 f2
 go_loopg [20] r (fun k s20 wr => ∃ (i : Nat) (v : Value),s20 = .int .i64 (i : Int)∧i≤r∧k = r - i∧aJb w wr gm ga gr r c na ka A D xs i v)
 case atStart => exact ⟨0,_,rfl,by omega,rfl,HST.out⟩
 case round =>
  clear HST;obtain ⟨i,v,rfl,hir,hk,hst⟩:=hrel
  rename World => w4
  obtain ⟨c0,c1,c2,f0,f1,f2⟩:=hst.m.three;obtain ⟨d0,d1,d2,g0,g1,g2⟩:=hst.s.three;have HST:=Lib.hid hst;clear hst
  by_cases hlt : i < r
  ·obtain ⟨fr,hfr⟩ : ∃ k,k = i * c:=⟨_,rfl⟩
   obtain ⟨tt,hto⟩ : ∃ k,k = (i + 1) * c:=⟨_,rfl⟩
   have hft : fr + c = tt:=by rw [hfr,hto,Nat.add_mul];omega
   have hton : tt≤na:=by rw [hto,hna.out];exact Nat.mul_le_mul_right c hlt
   have e1 : IntKind.i64.wrap ((i : Int) * (c : Int)) = (fr : Int):=by rw [← Int.natCast_mul,← hfr,IntKind.wrap_i64];omega
   have e2 : IntKind.i64.wrap (((i : Int) + 1) * (c : Int)) = (tt : Int):=by
    have : ((i : Int) + 1) * (c : Int) = ((i + 1) * c : Nat):=by simp
    rw [this,← hto,IntKind.wrap_i64];omega
   have e3 : IntKind.i64.wrap ((i : Int) + 1) = (i : Int) + 1:=by rw [IntKind.wrap_i64];omega
   have HFR:=Lib.hid (And.intro hfr (And.intro hto hft));have hft2 : fr≤tt:=by omega
   clear hfr hto hft;go_wp2_with fail
   go_quiet (fail)
   go_wp2_with fail
   obtain ⟨w5,hw5⟩ : ∃ x,x = w4.drewN nq:=⟨_,rfl⟩
   have hst : aJb w w5 gm ga gr r c na ka A D xs i v:=by
    rw [hw5];exact ⟨HST.out.m.drewN _,HST.out.a.drewN _,HST.out.s.drewN _,HST.out.own,HST.out.data,below_drewN HST.out.below _⟩
   rw [← hw5];have d5 : w5.cell? ⟨gr,0,none⟩ = some v:=hst.s.cell 0;have f5 : w5.frozen? ⟨gr,0,none⟩ = false:=hst.s.frozen 0;have HST5:=Lib.hid hst;clear hst hw5 c0 c1 c2 f0 f1 f2 d0 d1 d2 g0 g1 g2 HST;have b0 : (0 : Int)≤(fr : Int):=by omega
   have b1 : (fr : Int)≤(tt : Int):=by omega
   have b2 : (tt : Int)≤(na : Int):=by omega
   have b3 : (na : Int)≤(kD : Int):=by omega
   have bk : tt≤kD:=by omega
   have hg3:=HGG.out;obtain ⟨w5d,hw5d⟩ : ∃ x,x = w5.drew:=⟨_,rfl⟩
   have HSTD:=Lib.hid (show aJb w w5d gm ga gr r c na ka A D xs i v by
    rw [hw5d];exact ⟨HST5.out.m.drewN 1,HST5.out.a.drewN 1,HST5.out.s.drewN 1,World.ownsRow.drew HST5.out.own,HST5.out.data,HST5.out.below.drew⟩)
   have HD:=Lib.hid hw5d;clear hw5d;have HBS:=Lib.hid (show w.heap.size + 3≤w5d.heap.size by have:=HSTD.out.s.lt;omega);have HNB:=Lib.hid (show some gr≠v.ownBlock by
    intro e;have:=(HSTD.out.own.lt gr e.symm).1;omega)
   have HFR6:=Lib.hid (show ∀ (g cap : Nat) (w6 : World) (y : Value),w6.ownsRow (w.heap.size + 3) 22 1 (.slice (some ⟨g,0,none⟩) (i + 1) cap) (i + 1) (lQ D c i ++ [y])→Below (w.heap.size + 3) w5d w6→w5d.grownBy w6 v.ownBlock→w6.frozen? ⟨gr,0,none⟩ = false from
    fun g cap w6 y h1 h2 h3 => (HSTD.out.s.below h2 (by omega)).frozen 0)
   have HNEXT:=Lib.hid (show ∀ (g cap : Nat) (w6 : World) (y : Value),w6.ownsRow (w.heap.size + 3) 22 1 (.slice (some ⟨g,0,none⟩) (i + 1) cap) (i + 1) (lQ D c i ++ [y])→Below (w.heap.size + 3) w5d w6→w5d.grownBy w6 v.ownBlock→y = .slice (vP D c (i * c)) c c→aJb w (w6.setCell ⟨gr,0,none⟩ (.slice (some ⟨g,0,none⟩) (i + 1) cap)) gm ga gr r c na ka A D xs (i + 1) (.slice (some ⟨g,0,none⟩) (i + 1) cap) by
    rintro g cap w6 y h1 h2 h3 rfl;have q:=HSTD.out;have s6:=q.s.below h2 (by omega);refine ⟨(q.m.below h2 (by omega)).FG (by show gm≠gr;omega) _,(q.a.below h2 (by omega)).FG (by show ga≠gr;omega) _,s6.set 0 _,?_,?_,(q.below.trans (h2.mono (by omega))).setCell (by show w.heap.size≤gr;omega) _⟩
    ·rw [WA]
     exact ownsRow_setCell_below h1 (by show gr < _;omega) _
    ·exact (q.data.aCu h3 (fun g hg => NH q.own hg) (by decide)).set s6 (by decide) _)
   clear hg3
   by_cases hz : tt = fr
   ·have EQ:=Lib.hid (show Value.slice D 0 0 = .slice (vP D c (i * c)) c c by
     have:=HFR.out;have hc0 : c = 0:=by omega
     unfold vP;rw [if_pos hc0,hc0])
    subst hz;refine wp_region_held_drew (S:=fun _ => True) (by kernel_rfl) trivial (fun hHeld => ?_);rw [← HD.out];have d5d : w5d.cell? ⟨gr,0,none⟩ = some v:=HSTD.out.s.cell 0;clear d5 f5;refine wpAnyH_take (i:=0) (v:=?_) rfl (by kernel_rfl) (by kernel_rfl) (by kernel_rfl) (fun _ _ _ h => h) (Or.inl ⟨by rfl,?_⟩) (by assumption) ?_;rotate_left
    ·(intro w hSw;(try dsimp only at hSw);go_simp;(try with_reducible rfl))
    (try simp only [Act.put,cO,cL,cP]);refine wpAnyH_take (i:=1) (v:=?_) rfl (by kernel_rfl) (by kernel_rfl) (by kernel_rfl) (fun _ _ _ h => h) (Or.inl ⟨by rfl,?_⟩) (by assumption) ?_;rotate_left
    ·(intro w hSw;(try dsimp only at hSw);go_simp;(try with_reducible rfl))
    (try simp only [Act.put,cO,cL,cP]);refine wpAnyH_take (i:=2) (v:=?_) rfl (by kernel_rfl) (by kernel_rfl) (by kernel_rfl) (fun _ _ _ h => h) (Or.inl ⟨by rfl,?_⟩) (by assumption) ?_;rotate_left
    ·(intro w hSw;(try dsimp only at hSw);go_simp;(try with_reducible rfl))
    (try simp only [Act.put,cO,cL,cP]);refine wpAnyH_take (i:=3) (v:=?_) rfl (by kernel_rfl) (by kernel_rfl) (by kernel_rfl) (fun _ _ _ h => h) (Or.inl ⟨by rfl,?_⟩) (by assumption) ?_;rotate_left
    ·(intro w hSw;(try dsimp only at hSw);go_simp;(try with_reducible rfl))
    (try simp only [Act.put,cO,cL,cP]);refine wpAnyH_take (i:=5) (v:=?_) rfl (by kernel_rfl) (by kernel_rfl) (by kernel_rfl) (fun _ _ _ h => h) (Or.inl ⟨by rfl,?_⟩) (by assumption) ?_;rotate_left
    ·(intro w hSw;(try dsimp only at hSw);go_simp;(try with_reducible rfl))
    (try simp only [Act.put,cO,cL,cP]);refine wpAnyH_take (i:=6) (v:=?_) rfl (by kernel_rfl) (by kernel_rfl) (by kernel_rfl) (fun _ _ _ h => h) (Or.inl ⟨by rfl,?_⟩) (by assumption) ?_;rotate_left
    ·(intro w hSw;(try dsimp only at hSw);go_simp;(try with_reducible rfl))
    (try simp only [Act.put,cO,cL,cP]);refine wpAnyH_take (i:=7) (v:=?_) rfl (by kernel_rfl) (by kernel_rfl) (by kernel_rfl) (fun _ _ _ h => h) (Or.inl ⟨by rfl,?_⟩) (by assumption) ?_;rotate_left
    ·(intro w hSw;(try dsimp only at hSw);go_simp;(try with_reducible rfl))
    (try simp only [Act.put,cO,cL,cP]);refine wpAnyH_take (i:=8) (v:=?_) rfl (by kernel_rfl) (by kernel_rfl) (by kernel_rfl) (fun _ _ _ h => h) (Or.inl ⟨by rfl,?_⟩) (by assumption) ?_;rotate_left
    ·(intro w hSw;(try dsimp only at hSw);go_simp;(try with_reducible rfl))
    (try simp only [Act.put,cO,cL,cP]);refine wpAnyH_take (i:=9) (v:=?_) rfl (by kernel_rfl) (by kernel_rfl) (by kernel_rfl) (fun _ _ _ h => h) (Or.inl ⟨by rfl,?_⟩) (by assumption) ?_;rotate_left
    ·(intro w hSw;(try dsimp only at hSw);go_simp;(try with_reducible rfl))
    (try simp only [Act.put,cO,cL,cP]);refine wpAnyH_ready (rs:=[4,10]) (by kernel_rfl) (by simp) ?_;refine AllReadyH.cons rfl (fun K hK => ?_) (AllReadyH.cons rfl (fun K hK => ?_) AllReadyH.nil)
    ·go_simp
     refine hK.out _ _ trivial (fun hHeld => ?_);clear hK K;(try simp only [Act.put,cO,cL,cP]);refine wpAnyH_ready (rs:=[10]) (by kernel_rfl) (by simp) ?_;refine AllReadyH.cons rfl (fun K hK => ?_) AllReadyH.nil;go_simp;refine hK.out _ _ trivial (fun hHeld => ?_);clear hK K;(try simp only [Act.put,cO,cL,cP]);refine wpAnyH_ready (rs:=[11]) (by kernel_rfl) (by simp) ?_;refine AllReadyH.cons rfl (fun K hK => ?_) AllReadyH.nil;refine qE 62 22 (.slice none 0 0) 24 Try.underlying62 BG rfl (.tmp 36) (.tmp 42) (by rfl) (w.heap.size + 3) v i (lQ D c i) (.slice D 0 0) (by rfl) (by rfl) HSTD.out.own w5d.heap.size (by rfl) rfl (by simp only [maxLen];omega) (by omega) HBS.out ?_;intro g cap w6 ho6 hb6 hg6 hat;have d6 : w6.cell? ⟨gr,0,none⟩ = some v:=hg6.cell d5d HNB.out;have f6 : w6.frozen? ⟨gr,0,none⟩ = false:=HFR6.out g cap w6 _ ho6 hb6 hg6;have HS6:=Lib.hid (HNEXT.out g cap w6 _ ho6 hb6 hg6 (by rw [EQ.out]));clear ho6 hb6 hg6 hat d5d;refine hK.out _ _ trivial (fun hHeld => ?_);clear hK K;(try simp only [Act.put,cO,cL,cP]);refine wpAnyH_take (i:=12) (v:=?_) rfl (by kernel_rfl) (by kernel_rfl) (by kernel_rfl) (fun _ _ _ h => h) (Or.inl ⟨by rfl,?_⟩) (by assumption) ?_;rotate_left
     ·(intro w hSw;(try dsimp only at hSw);go_simp;(try with_reducible rfl))
     (try simp only [Act.put,cO,cL,cP]);refine wpAnyH_take (i:=13) (v:=?_) rfl (by kernel_rfl) (by kernel_rfl) (by kernel_rfl) (fun _ _ _ h => h) (Or.inl ⟨by rfl,?_⟩) (by assumption) ?_;rotate_left
     ·(intro w hSw;(try dsimp only at hSw);go_simp;(try with_reducible rfl))
     (try simp only [Act.put,cO,cL,cP]);refine wpAnyH_ready (rs:=[14]) (by kernel_rfl) (by simp) ?_;refine AllReadyH.cons rfl (fun K hK => ?_) AllReadyH.nil;go_simp;refine hK.out _ _ trivial (fun hHeld => ?_);clear hK K;(try simp only [Act.put,cO,cL,cP]);refine wpAnyH_done (by kernel_rfl) ?_ _;go_wp2_with fail
     go_roundg (r - (i + 1))
     case rel => exact ⟨i + 1,_,by go_num,by omega,rfl,HS6.out⟩
     case measure => omega
    ·go_simp
     refine hK.out _ _ trivial (fun hHeld => ?_);clear hK K;(try simp only [Act.put,cO,cL,cP]);have d5e : (w5d.alloc (.cells #[.slice D 0 0] 22)).cell? ⟨gr,0,none⟩ = some v:=Below.nB ((Below.refl _ _).alloc (Nat.le_refl _) _) d5d;refine wpAnyH_ready (rs:=[4]) (by kernel_rfl) (by simp) ?_;refine AllReadyH.cons rfl (fun K hK => ?_) AllReadyH.nil;go_simp;refine hK.out _ _ trivial (fun hHeld => ?_);clear hK K;(try simp only [Act.put,cO,cL,cP]);refine wpAnyH_ready (rs:=[11]) (by kernel_rfl) (by simp) ?_;refine AllReadyH.cons rfl (fun K hK => ?_) AllReadyH.nil;refine qE 62 22 (.slice none 0 0) 24 Try.underlying62 BG rfl (.tmp 36) (.tmp 42) (by rfl) (w.heap.size + 3) v i (lQ D c i) (.slice D 0 0) (by rfl) (by rfl) HSTD.out.own w5d.heap.size (by rfl) rfl (by simp only [maxLen];omega) (by omega) HBS.out ?_;intro g cap w6 ho6 hb6 hg6 hat;have d6 : w6.cell? ⟨gr,0,none⟩ = some v:=hg6.cell d5d HNB.out;have f6 : w6.frozen? ⟨gr,0,none⟩ = false:=HFR6.out g cap w6 _ ho6 hb6 hg6;have HS6:=Lib.hid (HNEXT.out g cap w6 _ ho6 hb6 hg6 (by rw [EQ.out]));clear ho6 hb6 hg6 hat d5d;refine hK.out _ _ trivial (fun hHeld => ?_);clear hK K;(try simp only [Act.put,cO,cL,cP]);refine wpAnyH_take (i:=12) (v:=?_) rfl (by kernel_rfl) (by kernel_rfl) (by kernel_rfl) (fun _ _ _ h => h) (Or.inl ⟨by rfl,?_⟩) (by assumption) ?_;rotate_left
     ·(intro w hSw;(try dsimp only at hSw);go_simp;(try with_reducible rfl))
     (try simp only [Act.put,cO,cL,cP]);refine wpAnyH_take (i:=13) (v:=?_) rfl (by kernel_rfl) (by kernel_rfl) (by kernel_rfl) (fun _ _ _ h => h) (Or.inl ⟨by rfl,?_⟩) (by assumption) ?_;rotate_left
     ·(intro w hSw;(try dsimp only at hSw);go_simp;(try with_reducible rfl))
     (try simp only [Act.put,cO,cL,cP]);refine wpAnyH_ready (rs:=[14]) (by kernel_rfl) (by simp) ?_;refine AllReadyH.cons rfl (fun K hK => ?_) AllReadyH.nil;go_simp;refine hK.out _ _ trivial (fun hHeld => ?_);clear hK K;(try simp only [Act.put,cO,cL,cP]);refine wpAnyH_done (by kernel_rfl) ?_ _;go_wp2_with fail
     go_roundg (r - (i + 1))
     case rel => exact ⟨i + 1,_,by go_num,by omega,rfl,HS6.out⟩
     case measure => omega
   ·have EQ:=Lib.hid (show Value.slice (Option.map (fun x => x.add fr) D) (tt - fr) (tt - fr) = .slice (vP D c (i * c)) c c by
     have:=HFR.out;have hc0 : ¬ c = 0:=by omega
     unfold vP;rw [if_neg hc0,this.1.symm,show tt - fr = c by omega])
    refine wp_region_held_drew (S:=fun _ => True) (by kernel_rfl) trivial (fun hHeld => ?_);rw [← HD.out];have d5d : w5d.cell? ⟨gr,0,none⟩ = some v:=HSTD.out.s.cell 0;clear d5 f5;refine wpAnyH_take (i:=0) (v:=?_) rfl (by kernel_rfl) (by kernel_rfl) (by kernel_rfl) (fun _ _ _ h => h) (Or.inl ⟨by rfl,?_⟩) (by assumption) ?_;rotate_left
    ·(intro w hSw;(try dsimp only at hSw);go_simp;(try with_reducible rfl))
    (try simp only [Act.put,cO,cL,cP]);refine wpAnyH_take (i:=1) (v:=?_) rfl (by kernel_rfl) (by kernel_rfl) (by kernel_rfl) (fun _ _ _ h => h) (Or.inl ⟨by rfl,?_⟩) (by assumption) ?_;rotate_left
    ·(intro w hSw;(try dsimp only at hSw);go_simp;(try with_reducible rfl))
    (try simp only [Act.put,cO,cL,cP]);refine wpAnyH_take (i:=2) (v:=?_) rfl (by kernel_rfl) (by kernel_rfl) (by kernel_rfl) (fun _ _ _ h => h) (Or.inl ⟨by rfl,?_⟩) (by assumption) ?_;rotate_left
    ·(intro w hSw;(try dsimp only at hSw);go_simp;(try with_reducible rfl))
    (try simp only [Act.put,cO,cL,cP]);refine wpAnyH_take (i:=3) (v:=?_) rfl (by kernel_rfl) (by kernel_rfl) (by kernel_rfl) (fun _ _ _ h => h) (Or.inl ⟨by rfl,?_⟩) (by assumption) ?_;rotate_left
    ·(intro w hSw;(try dsimp only at hSw);go_simp;(try with_reducible rfl))
    (try simp only [Act.put,cO,cL,cP]);refine wpAnyH_take (i:=5) (v:=?_) rfl (by kernel_rfl) (by kernel_rfl) (by kernel_rfl) (fun _ _ _ h => h) (Or.inl ⟨by rfl,?_⟩) (by assumption) ?_;rotate_left
    ·(intro w hSw;(try dsimp only at hSw);go_simp;(try with_reducible rfl))
    (try simp only [Act.put,cO,cL,cP]);refine wpAnyH_take (i:=6) (v:=?_) rfl (by kernel_rfl) (by kernel_rfl) (by kernel_rfl) (fun _ _ _ h => h) (Or.inl ⟨by rfl,?_⟩) (by assumption) ?_;rotate_left
    ·(intro w hSw;(try dsimp only at hSw);go_simp;(try with_reducible rfl))
    (try simp only [Act.put,cO,cL,cP]);refine wpAnyH_take (i:=7) (v:=?_) rfl (by kernel_rfl) (by kernel_rfl) (by kernel_rfl) (fun _ _ _ h => h) (Or.inl ⟨by rfl,?_⟩) (by assumption) ?_;rotate_left
    ·(intro w hSw;(try dsimp only at hSw);go_simp;(try with_reducible rfl))
    (try simp only [Act.put,cO,cL,cP]);refine wpAnyH_take (i:=8) (v:=?_) rfl (by kernel_rfl) (by kernel_rfl) (by kernel_rfl) (fun _ _ _ h => h) (Or.inl ⟨by rfl,?_⟩) (by assumption) ?_;rotate_left
    ·(intro w hSw;(try dsimp only at hSw);go_simp;(try with_reducible rfl))
    (try simp only [Act.put,cO,cL,cP]);refine wpAnyH_take (i:=9) (v:=?_) rfl (by kernel_rfl) (by kernel_rfl) (by kernel_rfl) (fun _ _ _ h => h) (Or.inl ⟨by rfl,?_⟩) (by assumption) ?_;rotate_left
    ·(intro w hSw;(try dsimp only at hSw);go_simp;(try with_reducible rfl))
    (try simp only [Act.put,cO,cL,cP]);refine wpAnyH_ready (rs:=[4,10]) (by kernel_rfl) (by simp) ?_;refine AllReadyH.cons rfl (fun K hK => ?_) (AllReadyH.cons rfl (fun K hK => ?_) AllReadyH.nil)
    ·go_simp
     refine hK.out _ _ trivial (fun hHeld => ?_);clear hK K;(try simp only [Act.put,cO,cL,cP]);refine wpAnyH_ready (rs:=[10]) (by kernel_rfl) (by simp) ?_;refine AllReadyH.cons rfl (fun K hK => ?_) AllReadyH.nil;go_simp;refine hK.out _ _ trivial (fun hHeld => ?_);clear hK K;(try simp only [Act.put,cO,cL,cP]);refine wpAnyH_ready (rs:=[11]) (by kernel_rfl) (by simp) ?_;refine AllReadyH.cons rfl (fun K hK => ?_) AllReadyH.nil;refine qE 62 22 (.slice none 0 0) 24 Try.underlying62 BG rfl (.tmp 36) (.tmp 42) (by rfl) (w.heap.size + 3) v i (lQ D c i) (.slice (Option.map (fun x => x.add fr) D) (tt - fr) (tt - fr)) (by rfl) (by rfl) HSTD.out.own w5d.heap.size (by rfl) rfl (by simp only [maxLen];omega) (by omega) HBS.out ?_;intro g cap w6 ho6 hb6 hg6 hat;have d6 : w6.cell? ⟨gr,0,none⟩ = some v:=hg6.cell d5d HNB.out;have f6 : w6.frozen? ⟨gr,0,none⟩ = false:=HFR6.out g cap w6 _ ho6 hb6 hg6;have HS6:=Lib.hid (HNEXT.out g cap w6 _ ho6 hb6 hg6 (by rw [EQ.out]));clear ho6 hb6 hg6 hat d5d;refine hK.out _ _ trivial (fun hHeld => ?_);clear hK K;(try simp only [Act.put,cO,cL,cP]);refine wpAnyH_take (i:=12) (v:=?_) rfl (by kernel_rfl) (by kernel_rfl) (by kernel_rfl) (fun _ _ _ h => h) (Or.inl ⟨by rfl,?_⟩) (by assumption) ?_;rotate_left
     ·(intro w hSw;(try dsimp only at hSw);go_simp;(try with_reducible rfl))
     (try simp only [Act.put,cO,cL,cP]);refine wpAnyH_take (i:=13) (v:=?_) rfl (by kernel_rfl) (by kernel_rfl) (by kernel_rfl) (fun _ _ _ h => h) (Or.inl ⟨by rfl,?_⟩) (by assumption) ?_;rotate_left
     ·(intro w hSw;(try dsimp only at hSw);go_simp;(try with_reducible rfl))
     (try simp only [Act.put,cO,cL,cP]);refine wpAnyH_ready (rs:=[14]) (by kernel_rfl) (by simp) ?_;refine AllReadyH.cons rfl (fun K hK => ?_) AllReadyH.nil;go_simp;refine hK.out _ _ trivial (fun hHeld => ?_);clear hK K;(try simp only [Act.put,cO,cL,cP]);refine wpAnyH_done (by kernel_rfl) ?_ _;go_wp2_with fail
     go_roundg (r - (i + 1))
     case rel => exact ⟨i + 1,_,by go_num,by omega,rfl,HS6.out⟩
     case measure => omega
    ·go_simp
     refine hK.out _ _ trivial (fun hHeld => ?_);clear hK K;(try simp only [Act.put,cO,cL,cP]);have d5e : (w5d.alloc (.cells #[.slice (Option.map (fun x => x.add fr) D) (tt - fr) (tt - fr)] 22)).cell? ⟨gr,0,none⟩ = some v:=Below.nB ((Below.refl _ _).alloc (Nat.le_refl _) _) d5d;refine wpAnyH_ready (rs:=[4]) (by kernel_rfl) (by simp) ?_;refine AllReadyH.cons rfl (fun K hK => ?_) AllReadyH.nil;go_simp;refine hK.out _ _ trivial (fun hHeld => ?_);clear hK K;(try simp only [Act.put,cO,cL,cP]);refine wpAnyH_ready (rs:=[11]) (by kernel_rfl) (by simp) ?_;refine AllReadyH.cons rfl (fun K hK => ?_) AllReadyH.nil;refine qE 62 22 (.slice none 0 0) 24 Try.underlying62 BG rfl (.tmp 36) (.tmp 42) (by rfl) (w.heap.size + 3) v i (lQ D c i) (.slice (Option.map (fun x => x.add fr) D) (tt - fr) (tt - fr)) (by rfl) (by rfl) HSTD.out.own w5d.heap.size (by rfl) rfl (by simp only [maxLen];omega) (by omega) HBS.out ?_;intro g cap w6 ho6 hb6 hg6 hat;have d6 : w6.cell? ⟨gr,0,none⟩ = some v:=hg6.cell d5d HNB.out;have f6 : w6.frozen? ⟨gr,0,none⟩ = false:=HFR6.out g cap w6 _ ho6 hb6 hg6;have HS6:=Lib.hid (HNEXT.out g cap w6 _ ho6 hb6 hg6 (by rw [EQ.out]));clear ho6 hb6 hg6 hat d5d;refine hK.out _ _ trivial (fun hHeld => ?_);clear hK K;(try simp only [Act.put,cO,cL,cP]);refine wpAnyH_take (i:=12) (v:=?_) rfl (by kernel_rfl) (by kernel_rfl) (by kernel_rfl) (fun _ _ _ h => h) (Or.inl ⟨by rfl,?_⟩) (by assumption) ?_;rotate_left
     ·(intro w hSw;(try dsimp only at hSw);go_simp;(try with_reducible rfl))
     (try simp only [Act.put,cO,cL,cP]);refine wpAnyH_take (i:=13) (v:=?_) rfl (by kernel_rfl) (by kernel_rfl) (by kernel_rfl) (fun _ _ _ h => h) (Or.inl ⟨by rfl,?_⟩) (by assumption) ?_;rotate_left
     ·(intro w hSw;(try dsimp only at hSw);go_simp;(try with_reducible rfl))
     (try simp only [Act.put,cO,cL,cP]);refine wpAnyH_ready (rs:=[14]) (by kernel_rfl) (by simp) ?_;refine AllReadyH.cons rfl (fun K hK => ?_) AllReadyH.nil;go_simp;refine hK.out _ _ trivial (fun hHeld => ?_);clear hK K;(try simp only [Act.put,cO,cL,cP]);refine wpAnyH_done (by kernel_rfl) ?_ _;go_wp2_with fail
     go_roundg (r - (i + 1))
     case rel => exact ⟨i + 1,_,by go_num,by omega,rfl,HS6.out⟩
     case measure => omega
  ·obtain rfl : i = r:=by omega
   go_wp2_with fail
   go_ret;have q:=HST.out;have hg3:=HGG.out;have hl : xs.length = na:=by have:=HX.out.len;rwa [bC] at this
   have hl2 : xs.length = i * c:=hl.trans hna.out;have hv : ∃ Al capl,v = .slice Al i capl∧i≤capl∧(0 < i → ∃ g cur,Al = some ⟨g,0,none⟩∧w4.heap[g]? = some (Obj.cells cur 22 (0,0))∧w.heap.size + 3≤g∧cur.toList.take i = lQ D c i):=by
    rcases q.own with ⟨h0,⟨h1,h2⟩ | ⟨g,k,cur,h1,hg,hh,h2,h3,h4,h5⟩⟩
    ·exact ⟨none,0,by rw [h1,h2],by omega,fun h => by omega⟩
    ·exact ⟨_,k,h1,h2,fun _ => ⟨g,cur,rfl,hh,hg,by simpa using h5⟩⟩
   obtain ⟨Al,capl,rfl,hcap,hblk⟩:=hv;refine ⟨gr,Al,some ⟨ga,0,none⟩,capl,rfl,⟨q.s,⟨CW _ _ _,fun j hj => JY hl2 hj,fun h0 => ?_⟩,⟨List.length_replicate,fun j hj => by rw [CY];rfl,fun h0 => ⟨ga,_,rfl,q.a,by simp,fun j hj => ⟨none,0,by rw [List.getElem?_replicate,if_pos hj],Nat.le_refl _,by rw [CY];exact AP.nil _ _⟩⟩⟩,hcap,?_⟩,by omega,fun g e => ?_,fun g e => by injection e with e;injection e with e;omega,q.below,ga,rfl,q.a⟩
   ·obtain ⟨g,cur,rfl,hh,hg,ht⟩:=hblk h0
    have hlen : i≤cur.toList.length:=by
     have h1 : (cur.toList.take i).length = i:=by rw [ht,aAc]
     rw [List.length_take] at h1;omega
    refine ⟨g,cur.toList,rfl,hh,hlen,fun j hj => ⟨vP D c (j * c),c,?_,Nat.le_refl _,?_⟩⟩
    ·rw [← aAd D c i hj,← ht,List.getElem?_take,if_pos hj]
    ·rw [CX _ _ _ hj]
     have h1 : (j + 1) * c≤i * c:=Nat.mul_le_mul_right c hj;rw [Nat.add_mul] at h1;refine q.data.sub hl2 (by omega) (fun hc0 g2 o e => ?_);rw [e,pJ (by omega)]
   ·intro g e e2
    injection e2 with e2;injection e2 with e2
    rcases Nat.eq_zero_or_pos i with h0 | h0
    ·have h6:=q.own
     subst h0
     rcases q.own with ⟨_,⟨h1,_⟩ | ⟨g',k,cur,h1,hg,_⟩⟩
     ·injection h1 with h1;rw [h1] at e;cases e
     ·injection h1 with h1;rw [h1] at e;injection e with e;injection e with e;omega
    ·obtain ⟨g',cur,h1,_,hg,_⟩:=hblk h0
     rw [h1] at e;injection e with e;injection e with e;omega
   ·rcases q.own with ⟨_,⟨h1,_⟩ | ⟨g',k,cur,h1,hg,_⟩⟩
    ·injection h1 with h1;rw [h1] at e;cases e
    ·injection h1 with h1;rw [h1] at e;injection e with e;injection e with e;omega
theorem aHL (r c na ka : Nat) (A : Option Addr) (xs : List UInt8) (w : World) (hx : Rd w w.heap.size A na (dK xs)) (hna : Hid (na = r * c)) (hka : na≤ka) (hr : r≤64) (hc : c≤64) :
  Calls Try.prog 80 #[mV r c A na ka] w fun e w' => ∃ gr Al Aa capl,e = .returned (.pointer (some ⟨gr,0,none⟩))∧Gz w' gr Al Aa r capl c 0 (iF xs r c) (List.replicate r [])∧w.heap.size≤gr∧aCL w Al∧aCL w Aa∧Below w.heap.size w w':=by
 refine (TV r c na ka A xs w hx hna hka hr hc).mono ?_;rintro e w' ⟨gr,Al,Aa,capl,h1,h2,h3,h4,h5,h6,_⟩;exact ⟨gr,Al,Aa,capl,h1,h2,h3,h4,h5,h6⟩
end Go.Proofs.Yteofcbkjhdadpaa
namespace Go.Proofs.Yteofcbkjhdadpaa
open Go.RowKit
def RY (zs : List Int) : List Value:=zs.map fun z => .int .i64 z
theorem lU (zs : List Int) : (RY zs).length = zs.length:=by simp [RY]
theorem WI {w : World} {B : Nat} {A : Option Addr} {n : Nat} {zs : List Int} (h : Rd w B A n (RY zs)) {k : Nat} (hk : k < n) :
  ∃ g o,A = some ⟨g,o,none⟩∧g < B∧w.cell? ⟨g,o + k,none⟩ = some (.int .i64 (zs.getD k 0)):=by
 obtain ⟨g,o,u,hA,hg,hu,hc⟩:=h.at_ hk;have hl : k < zs.length:=by have:=h.len;rw [lU] at this;omega
 refine ⟨g,o,hA,hg,?_⟩;rw [hc,← hu]
 simp [RY,List.getD,hl]
def mR (r : Int) (zs : List Int) : Bool:=zs.all fun z => decide (0≤z∧z < r)
theorem sI {r : Int} {zs : List Int} (h : mR r zs = true) {k : Nat} (hk : k < zs.length) : 0≤zs.getD k 0∧zs.getD k 0 < r:=by
 have:=List.all_eq_true.1 h _ (List.getElem_mem hk)
 simpa [List.getD,hk] using this
theorem GL {r : Int} {zs : List Int} (h : ∀ k,k < zs.length→0≤zs.getD k 0∧zs.getD k 0 < r) : mR r zs = true:=by
 unfold mR;rw [List.all_eq_true];intro z hz;obtain ⟨k,hk,rfl⟩:=List.getElem_of_mem hz;have:=h k hk
 simpa [List.getD,hk] using this
def lL (c : Nat) (xs : List UInt8) (zs : List Int) : List UInt8:=zs.flatMap fun z => (xs.drop (z.toNat * c)).take c
theorem GS {c r : Nat} {xs : List UInt8} {zs : List Int} (hx : xs.length = r * c) (h : mR r zs = true) : (lL c xs zs).length = zs.length * c:=by
 induction zs with
 | nil => simp [lL]
 | cons z zs ih =>
  simp only [mR,List.all_cons,Bool.and_eq_true,decide_eq_true_eq] at h;simp only [lL,List.flatMap_cons,List.length_append,List.length_take,List.length_drop,List.length_cons] at ih ⊢;rw [ih h.2,hx,Nat.add_mul];have h1 : (z.toNat + 1) * c≤r * c:=Nat.mul_le_mul_right c (by omega);rw [Nat.add_mul] at h1;omega
theorem KF {c : Nat} {xs : List UInt8} {zs : List Int} {i : Nat} (hi : i < zs.length) : lL c xs (zs.take (i + 1)) = lL c xs (zs.take i) ++ (xs.drop ((zs.getD i 0).toNat * c)).take c:=by
 rw [List.take_succ_eq_append_getElem hi];simp only [lL,List.flatMap_append,List.flatMap_cons,List.flatMap_nil,List.append_nil,List.getD];rw [List.getElem?_eq_getElem hi];rfl
def jX (rt : Bool) (r : Int) (zs : List Int) : Int:=if rt = false then 3 else if mR r zs = false then 2 else if 64 < zs.length then 4 else 0
def pkR (rt : Bool) (r : Int) (zs : List Int) : Int:=if jX rt r zs = 0 then zs.length else 0
def pkC (rt : Bool) (r c : Int) (zs : List Int) : Int:=if jX rt r zs = 0 then c else 0
def pkD (rt : Bool) (r c : Int) (xs : List UInt8) (zs : List Int) : List UInt8:=if jX rt r zs = 0 then lL c.toNat xs zs else []
end Go.Proofs.Yteofcbkjhdadpaa
namespace Go.Proofs.Yteofcbkjhdadpaa
open Gf
theorem dL.tail {n c : Nat} {x : List UInt8} {L : List (List UInt8)} (h : dL (n + 1) c (x :: L)) : x.length = c∧dL n c L :=
 ⟨h.wid 0 (by omega),by have:=h.len;simpa using this,fun i hi => h.wid (i + 1) (by omega)⟩
theorem iA {n c : Nat} {L : List (List UInt8)} (h : dL n c L) : L.flatten.length = n * c:=(QG h.len h.wid).1
theorem KO : ∀ {n c : Nat} {L : List (List UInt8)} (h : dL n c L) (i : Nat),i≤n→L.flatten.drop (i * c) = (L.drop i).flatten
 | _,c,L,h,0,_ => by simp
 | 0,c,L,h,i + 1,hi => by omega
 | n + 1,c,[],h,i + 1,hi => by have:=h.len;simp at this
 | n + 1,c,x :: L,h,i + 1,hi => by
  obtain ⟨h1,h2⟩:=h.tail;rw [List.flatten_cons,List.drop_succ_cons,← KO h2 i (by omega),List.drop_append,List.drop_eq_nil_of_le (by rw [h1,Nat.add_mul];omega),List.nil_append,h1]
  congr 1
  rw [Nat.add_mul];omega
theorem BZ {n c : Nat} {L : List (List UInt8)} (h : dL n c L) {i : Nat} (hi : i < n) : (L.flatten.drop (i * c)).take c = L.getD i []:=by
 have hl : i < L.length:=by rw [h.len];exact hi
 rw [KO h i (by omega),List.drop_eq_getElem_cons hl,List.flatten_cons];have e : L.getD i [] = L[i]:=by rw [List.getD_eq_getElem?_getD,List.getElem?_eq_getElem hl];rfl
 have hw : L[i].length = c:=by rw [← e];exact h.wid i hi
 rw [e,List.take_append,List.take_of_length_le (by omega),hw,Nat.sub_self,List.take_zero,List.append_nil]
theorem tJ {n c : Nat} {L : List (List UInt8)} (h : dL n c L) {i j : Nat} (hi : i < n) (hj : j < c) : L.flatten.getD (i * c + j) 0 = fH L i j:=by
 unfold fH;rw [← BZ h hi,List.getD_eq_getElem?_getD,List.getD_eq_getElem?_getD,List.getElem?_take,if_pos hj,List.getElem?_drop]
theorem aGe {n c : Nat} {L : List (List UInt8)} (h : dL n c L) : iF L.flatten n c = L:=by
 refine oZ (CW _ _ _) h.len fun i hi => ?_
 rw [CX _ _ _ hi,BZ h hi]
theorem sH {xs : List UInt8} {n c : Nat} (h : xs.length = n * c) : dL n c (iF xs n c):=⟨CW _ _ _,fun i hi => JY h hi⟩
theorem JX {xs : List UInt8} {n c : Nat} (h : xs.length = n * c) : (iF xs n c).flatten = xs:=by
 have hr:=sH h;refine List.ext_getElem (by rw [iA hr,h]) fun p h1 h2 => ?_
 rw [h] at h2
 rcases Nat.eq_zero_or_pos c with hc | hc
 ·subst hc;omega
 ·have hi : p / c < n:=(Nat.div_lt_iff_lt_mul hc).2 h2
  have hj : p % c < c:=Nat.mod_lt _ hc;have hp : p / c * c + p % c = p:=by rw [Nat.mul_comm];exact Nat.div_add_mod p c
  have e:=tJ hr hi hj;rw [hp] at e;unfold fH at e;rw [CX _ _ _ hi,List.getD_eq_getElem?_getD,List.getD_eq_getElem?_getD,List.getElem?_take,if_pos hj,List.getElem?_drop,hp,List.getElem?_eq_getElem h1,List.getElem?_eq_getElem (by omega : p < xs.length)] at e;exact e
theorem dL.set {n c : Nat} {L : List (List UInt8)} (h : dL n c L) {i : Nat} {x : List UInt8} (hi : i < n) (hx : x.length = c) : dL n c (L.set i x) :=
 ⟨by rw [List.length_set];exact h.len,fun k hk => by
  rw [eY (by rw [h.len];exact hi)]
  split
  ·exact hx
  ·exact h.wid k hk⟩
theorem UO {n c : Nat} {L : List (List UInt8)} (h : dL n c L) {i : Nat} {x : List UInt8} (hi : i < n) (hx : x.length = c) : over L.flatten (i * c) x = (L.set i x).flatten:=by
 have hl : i < L.length:=by rw [h.len];exact hi
 have e1 : L.flatten.take (i * c) = (L.take i).flatten:=by
  have h3 : (L.take i).flatten ++ (L.drop i).flatten = L.flatten:=by rw [← List.flatten_append,List.take_append_drop]
  have h4:=(QG (n:=i) (c:=c) (L:=L.take i) (by rw [List.length_take];omega) (fun k hk => by
   rw [List.getD_eq_getElem?_getD,List.getElem?_take,if_pos hk,← List.getD_eq_getElem?_getD];exact h.wid k (by omega))).1
  rw [← h3,List.take_append,h4,Nat.sub_self,List.take_zero,List.append_nil,List.take_of_length_le (by rw [h4];exact Nat.le_refl _)]
 have e2 : i * c + c = (i + 1) * c:=by rw [Nat.add_mul];omega
 unfold over;rw [hx,e1,e2,KO h (i + 1) (by omega),List.set_eq_take_append_cons_drop,if_pos hl,List.flatten_append,List.flatten_cons]
theorem aAH {n c : Nat} {L : List (List UInt8)} (h : dL n c L) {i j : Nat} (hi : i < n) (hj : j < c) (y : UInt8) : L.flatten.set (i * c + j) y = (L.set i ((L.getD i []).set j y)).flatten:=by
 have hr:=h.wid i hi;rw [← UO h hi (x:=(L.getD i []).set j y) (by rw [List.length_set];exact hr),← BZ h hi];have hlen:=iA h;have hle : (i + 1) * c≤n * c:=Nat.mul_le_mul_right c hi;rw [Nat.add_mul,Nat.one_mul] at hle;have hrl : ((L.flatten.drop (i * c)).take c).length = c:=by rw [List.length_take,List.length_drop];omega
 obtain ⟨q,hq⟩ : ∃ q,q = i * c:=⟨_,rfl⟩
 obtain ⟨N,hN⟩ : ∃ N,N = n * c:=⟨_,rfl⟩
 rw [← hq,← hN] at hle;rw [← hq] at hrl;rw [← hN] at hlen;rw [← hq];clear hq hN;refine List.ext_getElem? fun p => ?_
 have hl : (L.flatten.set (q + j) y)[p]? = if q + j = p then some y else L.flatten[p]? := by
  rw [List.getElem?_set]
  by_cases e : q + j = p
  ·rw [if_pos e,if_pos e,if_pos (by omega)]
  ·rw [if_neg e,if_neg e]
 rw [hl];unfold over;rw [List.getElem?_append,List.length_take,hlen,Nat.min_eq_left (by omega)]
 by_cases h1 : p < q
 ·rw [if_pos h1,if_neg (by omega),List.getElem?_take,if_pos h1]
 ·rw [if_neg h1,List.getElem?_append,List.length_set,hrl]
  by_cases h2 : p - q < c
  ·rw [if_pos h2,List.getElem?_set,hrl]
   by_cases h3 : j = p - q
   ·rw [if_pos h3,if_pos (by omega),if_pos (by omega)]
   ·rw [if_neg h3,if_neg (by omega),List.getElem?_take,if_pos h2,List.getElem?_drop,show q + (p - q) = p by omega]
  ·rw [if_neg h2,if_neg (by omega),List.getElem?_drop,show q + c + (p - q - c) = p by omega]
theorem aFG {n c : Nat} {L : List (List UInt8)} (h : dL n c L) {zs : List Int} (hz : mR n zs = true) : lL c L.flatten zs = (zs.map fun z => L.getD z.toNat []).flatten:=by
 unfold lL;rw [List.flatMap_def]
 congr 1
 refine List.map_congr_left fun z hzm => ?_
 have:=List.all_eq_true.1 hz z hzm;rw [decide_eq_true_eq] at this;exact BZ h (by omega)
def AM (L : List (List UInt8)) (j : Nat) : Nat→Nat→Option Nat
 | 0,_ => none
 | f + 1,i => if fH L i j≠0 then some i else AM L j f (i + 1)
theorem FF {L : List (List UInt8)} {j : Nat} : ∀ {f i k},AM L j f i = some k→i≤k∧k < i + f∧fH L k j≠0 ∧ ∀ i',i≤i'→i' < k→fH L i' j = 0
 | 0,i,k,h => by cases h
 | f + 1,i,k,h => by
  rw [AM] at h
  split at h
  ·injection h with h
   subst h;exact ⟨Nat.le_refl _,by omega,by assumption,fun i' h1 h2 => by omega⟩
  ·next hz =>
   obtain ⟨h1,h2,h3,h4⟩:=FF h;refine ⟨by omega,by omega,h3,fun i' h5 h6 => ?_⟩
   rcases Nat.lt_or_ge i i' with h7 | h7
   ·exact h4 i' h7 h6
   ·obtain rfl : i' = i:=by omega
    exact Classical.byContradiction fun hn => hz hn
theorem QR {L : List (List UInt8)} {j : Nat} : ∀ {f i},AM L j f i = none → ∀ i',i≤i'→i' < i + f→fH L i' j = 0
 | 0,i,_,i',h1,h2 => by omega
 | f + 1,i,h,i',h1,h2 => by
  rw [AM] at h
  split at h
  ·cases h
  ·next hz =>
   rcases Nat.lt_or_ge i i' with h7 | h7
   ·exact QR h i' h7 (by omega)
   ·obtain rfl : i' = i:=by omega
    exact Classical.byContradiction fun hn => hz hn
def ER (n c : Nat) : Nat→Nat→Nat→List (List UInt8)→List (List UInt8)→List Nat→List (List UInt8)×List (List UInt8)×List Nat
 | 0,_,_,L,A,piv => (L,A,piv)
 | f + 1,top,col,L,A,piv =>
  match AM L col (n - top) top with
  | none => ER n c f top (col + 1) L A piv
  | some i => ER n c f (top + 1) (col + 1) (dN top col n (kM L i top (inv (fH L i col)))) (iU top col (kM L i top (inv (fH L i col))) n (kM A i top (inv (fH L i col)))) (piv ++ [col])
theorem PW (n c : Nat) : ∀ (f top col : Nat) (L A : List (List UInt8)) (piv : List Nat),c≤col + f→col + f≤c ∨ f = 0→wD n c top col L A piv (ER n c f top col L A piv).1 (ER n c f top col L A piv).2.1 (ER n c f top col L A piv).2.2
 | 0,top,col,L,A,piv,h,_ => wD.out (by omega)
 | f + 1,top,col,L,A,piv,h,h' => by
  rw [ER]
  split
  ·next hf =>
   refine wD.skip (fun i' h1 h2 => QR hf i' h1 (by omega)) (PW n c f top (col + 1) L A piv (by omega) (by omega))
  ·next i hf =>
   obtain ⟨h1,h2,h3,h4⟩:=FF hf;exact wD.step (by omega) (by omega) h1 (by omega) (Nat.le_refl _) h3 h4 (fun j' h5 h6 => by omega) (PW n c f (top + 1) (col + 1) _ _ _ (by omega) (by omega))
def wX (n c : Nat) (L A : List (List UInt8)) : List (List UInt8)×List (List UInt8)×List Nat:=ER n c c 0 0 L A []
theorem mE (n c : Nat) (L A : List (List UInt8)) : wD n c 0 0 L A [] (wX n c L A).1 (wX n c L A).2.1 (wX n c L A).2.2:=PW n c c 0 0 L A [] (by omega) (by omega)
theorem wD.aMK {n c : Nat} {L A L' A' : List (List UInt8)} {p : List Nat} (h : wD n c 0 0 L A [] L' A' p) : L' = (wX n c L A).1∧A' = (wX n c L A).2.1∧p = (wX n c L A).2.2:=h.unique (mE n c L A)
end Go.Proofs.Yteofcbkjhdadpaa
namespace Go.Proofs.Yteofcbkjhdadpaa
open Go.RowKit
theorem FP.toBelow {w0 w w' : World} {Al Aa : Option Addr} (h : FP w w' Al Aa) (h1 : aCL w0 Al) (h2 : aCL w0 Aa) (hs : w0.heap.size≤w.heap.size) : Below w0.heap.size w w' :=
 ⟨h.os,h.tape,h.output,h.size,fun k hk => h.block k (by omega) (fun e => by have:=h1 k e;omega) (fun e => by have:=h2 k e;omega)⟩
theorem qK {r c : Nat} (hr : r≤64) (hc : c≤64) : bM (r : Int) (c : Int) (r * c) = true:=by
 unfold bM;rw [decide_eq_true_eq];exact ⟨⟨by omega,by omega⟩,⟨by omega,by omega⟩,by simp⟩
theorem rP.form {w : World} {base : Nat} {v : Value} {zs : List Nat} (h : rP w base v zs) : ∃ A k,v = .slice A zs.length k∧zs.length≤k:=by
 rcases h with ⟨h0,⟨h1,h2⟩ | ⟨g,c,cur,h1,hg,hh,h3,_⟩⟩
 ·exact ⟨none,0,by rw [h1,h2],by omega⟩
 ·exact ⟨_,c,h1,h3⟩
structure FO (w x : World) (r c na ka : Nat) (A : Option Addr) : Prop where
 below : Below w.heap.size w x
 m : Row x w.heap.size 24 [.int .i64 (r : Int),.int .i64 (c : Int),.slice A na ka]
 o : Row x (w.heap.size + 1) 24 [.int .i64 0,.int .i64 0,.slice none 0 0]
theorem FO.go {w x y : World} {r c na ka : Nat} {A : Option Addr} (h : FO w x r c na ka A) (hb : Below x.heap.size x y) : FO w y r c na ka A :=
 ⟨h.below.trans (hb.mono h.below.size),h.m.below hb h.m.lt,h.o.below hb h.o.lt⟩
theorem FO.go2 {w x y z : World} {r c na ka : Nat} {A : Option Addr} (h : FO w x r c na ka A) (hb : Below x.heap.size x y) (hc : Below x.heap.size y z) : FO w z r c na ka A :=
 h.go (hb.trans hc)
def aJi (r c na : Nat) (xs : List UInt8) (w : World) (e : Ending) (w' : World) : Prop :=
 ∃ A' k' v piv L' A2,e = .returned (.tuple #[mV r c A' na k',v,.int .i64 0])∧Rd w' w'.heap.size A' na (dK L'.flatten)∧na≤k'∧rP w' w.heap.size v piv∧wD r c 0 0 (iF xs r c) (List.replicate r []) [] L' A2 piv∧Below w.heap.size w w' ∧ ∀ a,A' = some a→w.heap.size≤a.block∧some a.block≠v.ownBlock
theorem LX (r c na ka : Nat) (A : Option Addr) (xs : List UInt8) (w : World) (hx : Rd w w.heap.size A na (dK xs)) (hna : Hid (na = r * c)) (hka : na≤ka) (hr : r≤64) (hc : c≤64) :
  Calls Try.prog 85 #[mV r c A na ka] w (aJi r c na xs w):=by
 have hrt : bM r c na = true:=by rw [hna.out];exact qK hr hc
 have HR:=Lib.hid (fun w => fF r c A na ka w);rw [hrt] at HR;have HX:=Lib.hid hx;have hp : na≤4096:=by rw [hna.out];exact Nat.le_trans (Nat.mul_le_mul hr hc) (by omega)
 clear hrt hx;obtain ⟨W2,hW2⟩ : ∃ W2,W2 = (w.alloc (.cells #[.int .i64 (r : Int),.int .i64 (c : Int),.slice A na ka] 24)).alloc (.cells #[.int .i64 0,.int .i64 0,.slice none 0 0] 24):=⟨_,rfl⟩
 have st : FO w W2 r c na ka A:=by
  rw [hW2];refine ⟨((Below.refl _ _).alloc (Nat.le_refl _) _).alloc (by simp) _,(Row.new w _ _).alloc _,?_⟩;have q:=Row.new (w.alloc (.cells #[.int .i64 (r : Int),.int .i64 (c : Int),.slice A na ka] 24)) [.int .i64 0,.int .i64 0,.slice none 0 0] 24
  simpa using q
 have HW2:=Lib.hid hW2;have HS2:=Lib.hid st;clear hW2 st;go_enter Try.func85,Try.ntmps85;go_wp2_with fail
 rw [← HW2.out];refine (HR.out W2).mono ?_;rintro e w3 ⟨rfl,hb3⟩;have st3:=HS2.out.go hb3;obtain ⟨c0,c1,c2,f0,f1,f2⟩:=st3.m.three;have HS3:=Lib.hid st3;have HOF:=Lib.hid (aHL r c na ka A xs w3 (HX.out.go st3.below) hna hka hr hc);clear hb3 st3;go_wp2_with fail
 refine HOF.out.mono ?_;rintro e w4 ⟨gr,Al,Aa,capl,rfl,hgz,hgr,hnl,hna2,hb4⟩;have HS4:=Lib.hid (HS3.out.go hb4);have HRE:=Lib.hid (GO gr Al Aa r capl c 0 _ _ w4 hgz hr hc (by omega));have HNL:=Lib.hid (And.intro hnl hna2);have OV:=Lib.hid hb4;clear hgz hnl hna2 hb4 c0 c1 c2 f0 f1 f2;go_wp2_with fail
 refine HRE.out.mono ?_;rintro e w5 ⟨v,piv,L',A2,rfl,hown,hred,hgz,hchg⟩;have hb5 : Below w3.heap.size w4 w5:=hchg.toBelow HNL.out.1 HNL.out.2 OV.out.size;have HS5:=Lib.hid ((HS3.out.go2 OV.out hb5));have HMA:=Lib.hid (SZ gr Al Aa r capl c 0 L' A2 w5 hgz hr hc);have HOW:=Lib.hid hown;have HRED:=Lib.hid hred;clear hown hred hgz hchg hb5;go_wp2_with fail
 refine HMA.out.mono ?_;rintro e w6 ⟨A',k',rfl,hrd,hk,hA,hb6⟩;rw [← hna.out] at hrd hk;rw [← hna.out];have st6:=HS5.out.go hb6;obtain ⟨d0,d1,d2,g0,g1,g2⟩:=st6.o.three;have hlt:=st6.o.lt;have HS6:=Lib.hid st6;have HRD:=Lib.hid hrd;have HO6:=Lib.hid (HOW.out.qA (fun g _ hg => hb6.block g hg));have bAB:=HS4.out.o.lt;clear hrd hb6 st6;go_wp2_with fail
 refine bodyPost_ret (v:=.tuple #[mV r c A' na k',v,.int .i64 0]) (by simp [results,Try.results85,go_sem,d0,d1,d2,hlt]) rfl ?_;have s6:=HS6.out;have hA2 : ∀ a,A' = some a→a.block≠w.heap.size + 1:=fun a e => by
  have:=hA a e;have:=HS5.out.o.lt;omega
 refine ⟨A',k',v,piv,L',A2,rfl,((HRD.out.off hA2 _).off hA2 _).off hA2 _,hk,(HO6.out.qA (fun g hb hg => by
  rw [Below.heap_setCell _ _ _ _ (by show g≠w.heap.size + 1;omega),Below.heap_setCell _ _ _ _ (by show g≠w.heap.size + 1;omega),Below.heap_setCell _ _ _ _ (by show g≠w.heap.size + 1;omega)])).mono (by omega),HRED.out,bZ s6.below (by omega) _ _ _,fun a e => ?_⟩
 have h1:=hA a e;have h2:=HS5.out.o.lt;refine ⟨by omega,fun h => ?_⟩;obtain ⟨ys,hrow⟩:=HOW.out.rowOf h.symm;have:=hrow.lt;omega
theorem QQ (r c : Int) (na ka : Nat) (A : Option Addr) (w : World) (hrt : Hid (bM r c na = false)) :
  Calls Try.prog 85 #[mV r c A na ka] w fun e w' => e = .returned (.tuple #[mV 0 0 none 0 0,.slice none 0 0,.int .i64 3])∧Below w.heap.size w w':=by
 have HR:=Lib.hid (fun w => fF r c A na ka w);rw [hrt.out] at HR;obtain ⟨W2,hW2⟩ : ∃ W2,W2 = (w.alloc (.cells #[.int .i64 r,.int .i64 c,.slice A na ka] 24)).alloc (.cells #[.int .i64 0,.int .i64 0,.slice none 0 0] 24):=⟨_,rfl⟩
 have hb2 : Below w.heap.size w W2:=by rw [hW2];exact ((Below.refl _ _).alloc (Nat.le_refl _) _).alloc (by simp) _
 have ho : Row W2 (w.heap.size + 1) 24 [.int .i64 0,.int .i64 0,.slice none 0 0]:=by
  rw [hW2];have q:=Row.new (w.alloc (.cells #[.int .i64 r,.int .i64 c,.slice A na ka] 24)) [.int .i64 0,.int .i64 0,.slice none 0 0] 24
  simpa using q
 have HW2:=Lib.hid hW2;have yL:=Lib.hid hb2;have HO:=Lib.hid ho;clear hW2 hb2 ho;go_enter Try.func85,Try.ntmps85;go_wp2_with fail
 rw [← HW2.out];refine (HR.out W2).mono ?_;rintro e w3 ⟨rfl,hb3⟩;have ho3:=HO.out.below hb3 HO.out.lt;obtain ⟨d0,d1,d2,g0,g1,g2⟩:=ho3.three;have hlt:=ho3.lt;have AU:=Lib.hid (yL.out.trans (hb3.mono yL.out.size));clear hb3 ho3;go_wp2_with fail
 refine bodyPost_ret (v:=.tuple #[mV 0 0 none 0 0,.slice none 0 0,.int .i64 3]) (by simp [results,Try.results85,go_sem,d0,d1,d2,hlt]) rfl ?_;exact ⟨rfl,bZ AU.out (by omega) _ _ _⟩
theorem aGd (r c na ka : Nat) (A : Option Addr) (xs : List UInt8) (w : World) (hx : Rd w w.heap.size A na (dK xs)) (hna : Hid (na = r * c)) (hka : na≤ka) (hr : r≤64) (hc : c≤64) :
  Calls Try.prog 57 #[mV r c A na ka] w fun e w' => ∃ (piv : List Nat) (L' A2 : List (List UInt8)),e = .returned (.tuple #[.int .i64 (piv.length : Int),.int .i64 0])∧wD r c 0 0 (iF xs r c) (List.replicate r []) [] L' A2 piv∧Below w.heap.size w w':=by
 have HRE:=Lib.hid (fun w1 (hb : Below w.heap.size w w1) => LX r c na ka A xs w1 (hx.go hb) hna hka hr hc);clear hx;go_enter Try.func57,Try.ntmps57;go_wp2_with fail
 refine (HRE.out _ ((Below.refl _ _).alloc (Nat.le_refl _) _)).mono ?_;rintro e w' ⟨A',k',v,piv,L',A2,rfl,hrd,hk,hown,hred,hb,_⟩;obtain ⟨Ap,kp,rfl,hkp⟩:=hown.form;have HRED:=Lib.hid hred;have HB:=Lib.hid hb;clear hrd hown hred hb;go_wp2_with fail
 refine bodyPost_ret (v:=.tuple #[.int .i64 (piv.length : Int),.int .i64 0]) (by simp [results,Try.results57,go_sem]) rfl ?_;have hs : w.heap.size≤w'.heap.size:=by have:=HB.out.size;simp at this;omega
 exact ⟨piv,L',A2,rfl,HRED.out,(((Below.refl _ _).alloc (Nat.le_refl _) _).trans (HB.out.mono (by simp))).alloc hs _⟩
theorem aIm (r c : Int) (na ka : Nat) (A : Option Addr) (w : World) (hrt : Hid (bM r c na = false)) :
  Calls Try.prog 57 #[mV r c A na ka] w fun e w' => e = .returned (.tuple #[.int .i64 0,.int .i64 3])∧Below w.heap.size w w':=by
 have HRE:=Lib.hid (fun w1 => QQ r c na ka A w1 hrt);go_enter Try.func57,Try.ntmps57;go_wp2_with fail
 refine (HRE.out _).mono ?_;rintro e w' ⟨rfl,hb⟩;have HB:=Lib.hid hb;clear hb;go_wp2_with fail
 refine bodyPost_ret (v:=.tuple #[.int .i64 0,.int .i64 3]) (by simp [results,Try.results57,go_sem]) rfl ?_;have hs : w.heap.size≤w'.heap.size:=by have:=HB.out.size;simp at this;omega
 exact ⟨rfl,(((Below.refl _ _).alloc (Nat.le_refl _) _).trans (HB.out.mono (by simp))).alloc hs _⟩
end Go.Proofs.Yteofcbkjhdadpaa
