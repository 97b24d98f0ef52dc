/- What the functions compute that the law BuildChecks reaches, proved by walking them; conditions stand at each theorem. -/
import Derived.Deep.RegionHeld3
import Derived.WalkMore
import Derived.Deep.LoopGhost
import Derived.BigRegion
import Derived.RegionTactic
import Derived.Deep.AppendLies
import Derived.Ground.SlbCloneProg
import Derived.Shelf.Bytes.SlClone
import Derived.Ground.SlbNamesProg
import Derived.Shelf.Bytes.SlJoin
import Derived.Deep.QuietTactic
import Derived.BigQuiet
import Derived.Test.YteofcbkjhdadpaaCBuildChecksA1
import Derived.Test.YteofcbkjhdadpaaProg
import Derived.Test.YteofcbkjhdadpaaCBuildChecksq
set_option maxHeartbeats 3200000
set_option maxRecDepth 100000
set_option linter.unusedSimpArgs false
set_option linter.unusedVariables false
namespace Go.Proofs.Yteofcbkjhdadpaa
open Go.RowKit
theorem aUw (ra ca rb cb : Int) (A B : Option Addr) (na nb cap capb : Nat) (w : World) (h : vH ra ca na rb cb nb = false) :
  Calls Try.prog 50 #[mV ra ca A na cap,mV rb cb B nb capb] w fun e w' => e = .returned (.tuple #[mV 0 0 none 0 0,.int .i64 3])∧Below w.heap.size w w':=by
 have pQ:=Lib.hid (fun w => gM ra ca A na cap w);have RE:=Lib.hid (fun w => gM rb cb B nb capb w);have S:=(((Ctx.start w).box [.int .i64 ra,.int .i64 ca,.slice A na cap]).box [.int .i64 rb,.int .i64 cb,.slice B nb capb]).box [.int .i64 0,.int .i64 0,.slice none 0 0];simp only [World.size_alloc] at S;obtain ⟨c0,c1,c2⟩:=S.cells 2 rfl;obtain ⟨d0,d1,d2⟩:=S.cells 1 rfl;obtain ⟨e0,e1,e2,f0,f1,f2⟩:=(S.row 0 rfl).three;have hsz:=S.lt 0 rfl;have hc : bY ra ca na = false ∨ (bY ra ca na = true∧bY rb cb nb = false) ∨ (bY ra ca na = true∧bY rb cb nb = true∧(ca == rb) = false):=by
  unfold vH at h
  cases h1 : bY ra ca na
  ·exact .inl rfl
  ·cases h2 : bY rb cb nb
   ·exact .inr (.inl ⟨rfl,rfl⟩)
   ·rw [h1,h2] at h;simp at h;exact .inr (.inr ⟨rfl,rfl,by simpa using h⟩)
 clear h;go_enter Try.func50,Try.ntmps50
 rcases hc with h1 | ⟨h1,h2⟩ | ⟨h1,h2,h3⟩
 ·rw [h1] at pQ
  clear h1;go_wp2_with (go_at_call 76;refine (pQ.out _).mono ?_;rintro e w1 ⟨rfl,hb⟩;replace S:=S.go hb;clear hb c0 c1 c2 d0 d1 d2 e0 e1 e2 f0 f1 f2 hsz;have hsz:=S.lt 0 rfl;obtain ⟨c0,c1,c2⟩:=S.cells 2 rfl;obtain ⟨d0,d1,d2⟩:=S.cells 1 rfl;obtain ⟨e0,e1,e2,f0,f1,f2⟩:=(S.row 0 rfl).three)
  exact bodyPost_ret (v:=.tuple #[mV 0 0 none 0 0,.int .i64 3]) (by simp [results,Try.results50,go_sem,e0,e1,e2,f0,f1,f2]) rfl ⟨rfl,cV S.below (by omega) _ _ _⟩
 ·rw [h1] at pQ
  rw [h2] at RE;clear h1 h2;go_wp2_with (go_at_call 76;(first | (with_reducible refine (pQ.out _).mono ?_) | (with_reducible refine (RE.out _).mono ?_));rintro e w1 ⟨rfl,hb⟩;replace S:=S.go hb;clear hb c0 c1 c2 d0 d1 d2 e0 e1 e2 f0 f1 f2 hsz;have hsz:=S.lt 0 rfl;obtain ⟨c0,c1,c2⟩:=S.cells 2 rfl;obtain ⟨d0,d1,d2⟩:=S.cells 1 rfl;obtain ⟨e0,e1,e2,f0,f1,f2⟩:=(S.row 0 rfl).three)
  exact bodyPost_ret (v:=.tuple #[mV 0 0 none 0 0,.int .i64 3]) (by simp [results,Try.results50,go_sem,e0,e1,e2,f0,f1,f2]) rfl ⟨rfl,cV S.below (by omega) _ _ _⟩
 ·rw [h1] at pQ
  rw [h2] at RE;clear h1 h2;go_wp2_with (go_at_call 76;(first | (with_reducible refine (pQ.out _).mono ?_) | (with_reducible refine (RE.out _).mono ?_));rintro e w1 ⟨rfl,hb⟩;replace S:=S.go hb;clear hb c0 c1 c2 d0 d1 d2 e0 e1 e2 f0 f1 f2 hsz;have hsz:=S.lt 0 rfl;obtain ⟨c0,c1,c2⟩:=S.cells 2 rfl;obtain ⟨d0,d1,d2⟩:=S.cells 1 rfl;obtain ⟨e0,e1,e2,f0,f1,f2⟩:=(S.row 0 rfl).three)
  exact bodyPost_ret (v:=.tuple #[mV 0 0 none 0 0,.int .i64 3]) (by simp [results,Try.results50,go_sem,e0,e1,e2,f0,f1,f2]) rfl ⟨rfl,cV S.below (by omega) _ _ _⟩
def muR (b : Bool) (ra : Int) : Int:=if b then ra else 0
def muE (b : Bool) : Int:=if b then 0 else 3
def muN (b : Bool) (ra cb : Int) : Nat:=if b then ra.toNat * cb.toNat else 0
def muD (b : Bool) (ra ca cb : Int) (xs ys : List UInt8) : List UInt8:=if b then aAW ra.toNat ca.toNat cb.toNat xs ys else []
theorem rW {r c : Int} {n : Nat} (h : bY r c n = true) : ∃ a b : Nat,r = a∧c = b∧a≤64∧b≤64∧n = a * b:=by
 simp [bY] at h
 refine ⟨r.toNat,c.toNat,by omega,by omega,by omega,by omega,?_⟩;apply Int.ofNat_inj.1;rw [Int.natCast_mul,Int.toNat_of_nonneg h.1.1,Int.toNat_of_nonneg h.2.1.1];exact h.2.2
theorem aMX {ra ca rb cb : Int} {na nb : Nat} (h : vH ra ca na rb cb nb = true) : ∃ a b c : Nat,ra = a∧ca = b∧rb = b∧cb = c∧a≤64∧b≤64∧c≤64∧na = a * b∧nb = b * c:=by
 simp [vH] at h
 obtain ⟨a,b,h1,h2,h3,h4,h5⟩:=rW h.1.1;obtain ⟨b',c,h6,h7,h8,h9,h10⟩:=rW h.1.2;have:=h.2;obtain rfl : b = b':=by omega
 exact ⟨a,b,c,h1,h2,h6,h7,h3,h4,h9,h5,h10⟩
theorem aQc (ra ca rb cb : Int) (A B : Option Addr) (na nb cap capb : Nat) (xs ys : List UInt8) (w : World) (hx : Rd w w.heap.size A na (fQ xs)) (hy : Rd w w.heap.size B nb (fQ ys)) (hcap : na≤cap) (hcapb : nb≤capb) :
  Calls Try.prog 50 #[mV ra ca A na cap,mV rb cb B nb capb] w fun e w' => ∃ g,e = .returned (.tuple #[mV (muR (vH ra ca na rb cb nb) ra) (muR (vH ra ca na rb cb nb) cb) g (muN (vH ra ca na rb cb nb) ra cb) (muN (vH ra ca na rb cb nb) ra cb),.int .i64 (muE (vH ra ca na rb cb nb))]) ∧
   iR w' w.heap.size g (muN (vH ra ca na rb cb nb) ra cb) (muN (vH ra ca na rb cb nb) ra cb) (muD (vH ra ca na rb cb nb) ra ca cb xs ys)∧Below w.heap.size w w':=by
 by_cases h : vH ra ca na rb cb nb = true
 ·rw [h]
  obtain ⟨a,b,c,rfl,rfl,rfl,rfl,h1,h2,h3,rfl,rfl⟩:=aMX h;refine (aPZ a b c _ _ _ A B cap capb xs ys w h1 h2 h3 (Lib.hid rfl) (Lib.hid rfl) (Lib.hid rfl) hx hy hcap hcapb).mono ?_;rintro e w' ⟨g,rfl,hr,hg,hb⟩;refine ⟨some ⟨g,0,none⟩,by simp [muR,muE,muN],?_,hb⟩;have : a * c≤64 * 64:=Nat.mul_le_mul h1 h3;simp only [muN,muD,if_true,Int.toNat_natCast];exact hr.aKX hg (lZ _ _ _) (by simp only [maxLen];omega)
 ·have h : vH ra ca na rb cb nb = false:=by simpa using h
  rw [h];refine (aUw ra ca rb cb A B na nb cap capb w h).mono ?_;rintro e w' ⟨rfl,hb⟩;exact ⟨none,by simp [muR,muE,muN],⟨rfl,rfl,.inl ⟨rfl,rfl⟩⟩,hb⟩
end Go.Proofs.Yteofcbkjhdadpaa
namespace Go.Proofs.Yteofcbkjhdadpaa
def YH (ra ca : Int) (na : Nat) (rb cb : Int) (nb : Nat) : Int:=if bY ra ca na && bY rb cb nb && (ca == cb) then (if ra + rb≤64 then 0 else 4) else 3
end Go.Proofs.Yteofcbkjhdadpaa
namespace Go.Proofs.Yteofcbkjhdadpaa
open Go.RowKit
theorem aHi (n : Nat) (xs : List UInt8) (h : xs.length≤n) : over (List.replicate n 0) 0 xs = xs ++ List.replicate (n - xs.length) 0:=by
 simp [over,List.drop_replicate]
theorem aKY (xs ys : List UInt8) (m k : Nat) (hk : xs.length = k) (h : ys.length = m) : over (xs ++ List.replicate m 0) k ys = xs ++ ys:=by
 subst hk;rw [YT _ _ _ _ rfl,List.drop_replicate,h,Nat.sub_self,List.replicate_zero,List.append_nil]
theorem aUQ {x : World} {g : Nat} {t : TypeId} {ys : List Value} (r : Row x g t ys) : Row x.drew g t ys:=r
theorem aKv (ra rb c na nb r p : Nat) (A B : Option Addr) (cap capb : Nat) (xs ys : List UInt8) (w : World) (hra : ra≤64) (hrb : rb≤64) (h64 : r≤64) (hc : c≤64) (hsum : (ra : Int) + (rb : Int) = (r : Int)) (hna : Hid (na = ra * c)) (hnb : Hid (nb = rb * c)) (hp : Hid (p = r * c)) (hpp : Hid (p = na + nb))
  (hx : Rd w w.heap.size A na (fQ xs)) (hy : Rd w w.heap.size B nb (fQ ys)) (hcap : na≤cap) (hcapb : nb≤capb) :
  Calls Try.prog 70 #[mV ra c A na cap,mV rb c B nb capb] w fun e w' => ∃ g,e = .returned (.tuple #[mV r c (some ⟨g,0,none⟩) p p,.int .i64 0])∧Row w' g 5 (fQ (xs ++ ys))∧w.heap.size≤g∧Below w.heap.size w w':=by
 have pQ:=Lib.hid (fun w => gM ra c A na cap w);have RE:=Lib.hid (fun w => gM rb c B nb capb w);rw [show bY ra c na = true by simp [bY,hna.out];omega] at pQ;rw [show bY rb c nb = true by simp [bY,hnb.out];omega] at RE;have hsd:=aBo h64;have hpb : p≤4096:=by rw [hp.out];exact Nat.le_trans (Nat.mul_le_mul h64 hc) (by omega)
 have hq : ((c : Int) != (c : Int)) = false:=by rw [bne_eq_false_iff_eq]
 have S:=(((Ctx.start w).box [.int .i64 ra,.int .i64 c,.slice A na cap]).box [.int .i64 rb,.int .i64 c,.slice B nb capb]).box [.int .i64 0,.int .i64 0,.slice none 0 0];simp only [World.size_alloc] at S;obtain ⟨c0,c1,c2⟩:=S.cells 2 rfl;obtain ⟨d0,d1,d2⟩:=S.cells 1 rfl;have hsz:=S.lt 0 rfl;go_enter Try.func70,Try.ntmps70;go_wp2_with (first | (go_at_call 76;(first | (with_reducible refine (pQ.out _).mono ?_) | (with_reducible refine (RE.out _).mono ?_));rintro e w1 ⟨rfl,hb⟩;replace S:=S.go hb;clear hb c0 c1 c2 d0 d1 d2 hsz;have hsz:=S.lt 0 rfl;obtain ⟨c0,c1,c2⟩:=S.cells 2 rfl;obtain ⟨d0,d1,d2⟩:=S.cells 1 rfl) | (go_at_call 77;refine (mG _ _).mono ?_;rintro e w' ⟨rfl,rfl⟩))
 refine (LM r c p _ h64 hc hp).mono ?_;rintro e w2 ⟨gm,rfl,hrow,hgm,hb⟩;have hgl:=hrow.lt;replace S:=S.go hb;clear hb c0 c1 c2 d0 d1 d2 pQ RE;replace S:=S.box [.int .i64 (r : Int),.int .i64 (c : Int),.slice (some ⟨gm,0,none⟩) p p];replace hrow:=hrow.alloc (.cells #[.int .i64 (r : Int),.int .i64 (c : Int),.slice (some ⟨gm,0,none⟩) p p] 24);go_wp2_with fail
 obtain ⟨BS,hBS⟩ : ∃ BS : List (Nat×List Value),BS = [(w2.heap.size,[.int .i64 (r : Int),.int .i64 (c : Int),.slice (some ⟨gm,0,none⟩) p p]),(w.heap.size + 1 + 1,[.int .i64 0,.int .i64 0,.slice none 0 0]),(w.heap.size + 1,[.int .i64 rb,.int .i64 c,.slice B nb capb]),(w.heap.size,[.int .i64 ra,.int .i64 c,.slice A na cap])]:=⟨_,rfl⟩
 rw [← hBS] at S;have hxl : xs.length = na:=by have:=hx.len;rw [cB] at this;exact this
 have hyl : ys.length = nb:=by have:=hy.len;rw [cB] at this;exact this
 have hpn:=hpp.out;have e1 : over (List.replicate p 0) 0 (xs.take p) = xs ++ List.replicate nb 0:=by rw [List.take_of_length_le (by omega),aHi _ _ (by omega)];congr 2;omega
 have e2 : over (xs ++ List.replicate nb 0) na (ys.take (p - na)) = xs ++ ys:=by rw [List.take_of_length_le (by omega)];exact aKY _ _ _ _ hxl hyl
 have e3 : (xs.take p).length = na:=by rw [List.take_of_length_le (by omega)];exact hxl
 have e4 : (ys.take (p - na)).length = nb:=by rw [List.take_of_length_le (by omega)];exact hyl
 have e5 : (xs ++ List.replicate nb 0).length = p:=by rw [List.length_append,List.length_replicate];omega
 have E1:=Lib.hid e1;have E2:=Lib.hid e2;have E3:=Lib.hid e3;have E4:=Lib.hid e4;have E5:=Lib.hid e5;obtain ⟨P,hP⟩ : ∃ P : World→Prop,P = fun x => Ctx w x BS []:=⟨_,rfl⟩
 have hp0 : P (w2.alloc (.cells #[.int .i64 (r : Int),.int .i64 (c : Int),.slice (some ⟨gm,0,none⟩) p p] 24)):=by rw [hP];exact S
 have HD:=Lib.hid (show ∀ x : World,P x→P x.drew by rw [hP];exact fun x q => q.drew);have HG:=Lib.hid (show ∀ x y : World,P x→x.grownBy y (some gm)→P y by
  rw [hP];refine fun x y q hg => q.grown hg (by omega) ?_
  rw [hBS]
  simp
  omega)
 have HC:=Lib.hid (show ∀ x : World,P x→x.cell? ⟨w2.heap.size,2,none⟩ = some (.slice (some ⟨gm,0,none⟩) p p)∧x.cell? ⟨w.heap.size,2,none⟩ = some (.slice A na cap)∧x.cell? ⟨w.heap.size + 1,2,none⟩ = some (.slice B nb capb) by
  rw [hP,hBS];exact fun x q => ⟨(q.cells 0 rfl).2.2,(q.cells 3 rfl).2.2,(q.cells 2 rfl).2.2⟩)
 have HX:=Lib.hid (show ∀ x : World,P x→Rd x x.heap.size A na (fQ xs)∧Rd x x.heap.size B nb (fQ ys) by rw [hP];exact fun x q => ⟨hx.go q.below,hy.go q.below⟩);have HF:=Lib.hid (show ∀ x : World,P x→Ctx w x BS [] by rw [hP];exact fun x q => q);have HBS:=Lib.hid hBS;have h1 : (0 : Int)≤(na : Int):=by omega
 have h2 : (na : Int)≤(p : Int):=by omega
 have hrd:=aUQ hrow;clear hP S hBS e1 e2 e3 e4 e5 hxl hyl hpn hrow;have hc:=HC.out _ hp0
 go_region_held3 (fun x => P x∧x.cell? ⟨w2.heap.size,2,none⟩ = some (.slice (some ⟨gm,0,none⟩) p p)∧x.cell? ⟨w.heap.size,2,none⟩ = some (.slice A na cap)∧x.cell? ⟨w.heap.size + 1,2,none⟩ = some (.slice B nb capb))
  (first | (go_split_ands;have q:=HD.out _ hp0;exact ⟨q,HC.out _ q⟩) | (go_split_ands;have q:=HG.out _ _ (by assumption) hg9;exact ⟨q,HC.out _ q⟩) | (go_split_ands;have q:=HG.out _ _ (by assumption) hg8;exact ⟨q,HC.out _ q⟩))
  (first | (go_split_ands;refine zJ _ _ (by rfl) (by rfl) (some ⟨gm,0,none⟩) A p p na cap (by rfl) (by rfl) gm 0 _ xs hrd _ (HX.out _ (by assumption)).1 (fun _ => rfl) (by rw [E3.out,List.length_replicate];have:=hpp.out;omega) ?_;rw [E1.out,E3.out];intro w8 hrow8 hg8) | (go_split_ands;refine zJ _ _ (by rfl) (by rfl) _ B _ _ nb capb (by rfl) (by rfl) gm na _ ys hrow8 _ (HX.out _ (by assumption)).2 (by intro hl;rw [E4.out] at hl;exact if_neg (by have:=hpp.out;omega)) (by rw [E4.out,E5.out];have:=hpp.out;omega) ?_;rw [E2.out];intro w9 hrow9 hg9))
 go_split_ands;have hF:=HF.out w9 (by assumption);rw [HBS.out] at hF;obtain ⟨t0,t1,t2,_,_,_⟩:=(hF.row 0 rfl).three;obtain ⟨z0,z1,z2,f0,f1,f2⟩:=(hF.row 1 rfl).three;have hl1:=hF.lt 1 rfl;have hbel:=hF.below;clear hF;go_wp2_with fail
 ·rename_i h
  have h' : p = na:=h;clear h;subst h';refine bodyPost_ret (v:=.tuple #[mV r c (some ⟨gm,0,none⟩) p p,.int .i64 0]) (by simp [results,Try.results70,go_sem,z0,z1,z2,f0,f1,f2]) rfl ⟨gm,rfl,?_,by omega,cV hbel (by omega) _ _ _⟩;exact hrow9.JP (by omega) _ _ _
 ·refine bodyPost_ret (v:=.tuple #[mV r c (some ⟨gm,0,none⟩) p p,.int .i64 0]) (by simp [results,Try.results70,go_sem,z0,z1,z2,f0,f1,f2]) rfl ⟨gm,rfl,?_,by omega,cV hbel (by omega) _ _ _⟩
  exact hrow9.JP (by omega) _ _ _
theorem aMq (ra ca rb cb : Int) (A B : Option Addr) (na nb cap capb : Nat) (E : Int) (w : World) (h : YH ra ca na rb cb nb = E) (hE : E≠0) :
  Calls Try.prog 70 #[mV ra ca A na cap,mV rb cb B nb capb] w fun e w' => e = .returned (.tuple #[mV 0 0 none 0 0,.int .i64 E])∧Below w.heap.size w w':=by
 have pQ:=Lib.hid (fun w => gM ra ca A na cap w);have RE:=Lib.hid (fun w => gM rb cb B nb capb w);have S:=(((Ctx.start w).box [.int .i64 ra,.int .i64 ca,.slice A na cap]).box [.int .i64 rb,.int .i64 cb,.slice B nb capb]).box [.int .i64 0,.int .i64 0,.slice none 0 0];simp only [World.size_alloc] at S;obtain ⟨c0,c1,c2⟩:=S.cells 2 rfl;obtain ⟨d0,d1,d2⟩:=S.cells 1 rfl;obtain ⟨e0,e1,e2,f0,f1,f2⟩:=(S.row 0 rfl).three;have hsz:=S.lt 0 rfl;have hc : (bY ra ca na = false∧E = 3) ∨ (bY ra ca na = true∧bY rb cb nb = false∧E = 3) ∨ (bY ra ca na = true∧bY rb cb nb = true∧(ca != cb) = true∧E = 3) ∨ (bY ra ca na = true∧bY rb cb nb = true∧(ca != cb) = false∧mH (ra + rb) = false∧(-9223372036854775808≤ra + rb∧ra + rb≤9223372036854775807)∧E = 4):=by
  unfold YH at h
  cases h1 : bY ra ca na
  ·rw [h1] at h;simp at h;exact .inl ⟨rfl,h.symm⟩
  ·cases h2 : bY rb cb nb
   ·rw [h1,h2] at h;simp at h;exact .inr (.inl ⟨rfl,rfl,h.symm⟩)
   ·by_cases h3 : ca = cb
    ·rw [h1,h2,h3] at h
     simp at h
     by_cases h4 : ra + rb≤64
     ·rw [if_pos h4] at h;omega
     ·rw [if_neg h4] at h
      simp [bY] at h1 h2
      exact .inr (.inr (.inr ⟨rfl,rfl,by simpa using h3,by simp [mH];omega,by omega,h.symm⟩))
    ·rw [h1,h2] at h;simp [h3] at h;exact .inr (.inr (.inl ⟨rfl,rfl,by simpa using h3,h.symm⟩))
 clear h hE
 rcases hc with ⟨h1,rfl⟩ | ⟨h1,h2,rfl⟩ | ⟨h1,h2,h3,rfl⟩ | ⟨h1,h2,h3,h4,⟨h5,h6⟩,rfl⟩
 ·rw [h1] at pQ
  clear h1;go_enter Try.func70,Try.ntmps70;go_wp2_with (go_at_call 76;refine (pQ.out _).mono ?_;rintro e w1 ⟨rfl,hb⟩;replace S:=S.go hb;clear hb c0 c1 c2 d0 d1 d2 e0 e1 e2 f0 f1 f2 hsz;have hsz:=S.lt 0 rfl;obtain ⟨c0,c1,c2⟩:=S.cells 2 rfl;obtain ⟨d0,d1,d2⟩:=S.cells 1 rfl;obtain ⟨e0,e1,e2,f0,f1,f2⟩:=(S.row 0 rfl).three)
  exact bodyPost_ret (v:=.tuple #[mV 0 0 none 0 0,.int .i64 3]) (by simp [results,Try.results70,go_sem,e0,e1,e2,f0,f1,f2]) rfl ⟨rfl,cV S.below (by omega) _ _ _⟩
 ·rw [h1] at pQ
  rw [h2] at RE;clear h1 h2;go_enter Try.func70,Try.ntmps70;go_wp2_with (go_at_call 76;(first | (with_reducible refine (pQ.out _).mono ?_) | (with_reducible refine (RE.out _).mono ?_));rintro e w1 ⟨rfl,hb⟩;replace S:=S.go hb;clear hb c0 c1 c2 d0 d1 d2 e0 e1 e2 f0 f1 f2 hsz;have hsz:=S.lt 0 rfl;obtain ⟨c0,c1,c2⟩:=S.cells 2 rfl;obtain ⟨d0,d1,d2⟩:=S.cells 1 rfl;obtain ⟨e0,e1,e2,f0,f1,f2⟩:=(S.row 0 rfl).three)
  exact bodyPost_ret (v:=.tuple #[mV 0 0 none 0 0,.int .i64 3]) (by simp [results,Try.results70,go_sem,e0,e1,e2,f0,f1,f2]) rfl ⟨rfl,cV S.below (by omega) _ _ _⟩
 ·rw [h1] at pQ
  rw [h2] at RE;clear h1 h2;go_enter Try.func70,Try.ntmps70;go_wp2_with (go_at_call 76;(first | (with_reducible refine (pQ.out _).mono ?_) | (with_reducible refine (RE.out _).mono ?_));rintro e w1 ⟨rfl,hb⟩;replace S:=S.go hb;clear hb c0 c1 c2 d0 d1 d2 e0 e1 e2 f0 f1 f2 hsz;have hsz:=S.lt 0 rfl;obtain ⟨c0,c1,c2⟩:=S.cells 2 rfl;obtain ⟨d0,d1,d2⟩:=S.cells 1 rfl;obtain ⟨e0,e1,e2,f0,f1,f2⟩:=(S.row 0 rfl).three)
  exact bodyPost_ret (v:=.tuple #[mV 0 0 none 0 0,.int .i64 3]) (by simp [results,Try.results70,go_sem,e0,e1,e2,f0,f1,f2]) rfl ⟨rfl,cV S.below (by omega) _ _ _⟩
 ·rw [h1] at pQ
  rw [h2] at RE;clear h1 h2;have e4 : IntKind.i64.wrap (ra + rb) = ra + rb:=by rw [IntKind.wrap_i64];omega
  clear h5 h6;go_enter Try.func70,Try.ntmps70;go_wp2_with (first | (go_at_call 76;(first | (with_reducible refine (pQ.out _).mono ?_) | (with_reducible refine (RE.out _).mono ?_));rintro e w1 ⟨rfl,hb⟩;replace S:=S.go hb;clear hb c0 c1 c2 d0 d1 d2 e0 e1 e2 f0 f1 f2 hsz;have hsz:=S.lt 0 rfl;obtain ⟨c0,c1,c2⟩:=S.cells 2 rfl;obtain ⟨d0,d1,d2⟩:=S.cells 1 rfl;obtain ⟨e0,e1,e2,f0,f1,f2⟩:=(S.row 0 rfl).three) | (go_at_call 77;refine (mG _ _).mono ?_;rintro e w' ⟨rfl,rfl⟩))
  exact bodyPost_ret (v:=.tuple #[mV 0 0 none 0 0,.int .i64 4]) (by simp [results,Try.results70,go_sem,e0,e1,e2,f0,f1,f2]) rfl ⟨rfl,cV S.below (by omega) _ _ _⟩
end Go.Proofs.Yteofcbkjhdadpaa
namespace Go.Proofs.Yteofcbkjhdadpaa
open Go.RowKit Go.Proofs.aH.bJ
def AL.f (a0 a1 : Int) (l : List Int) (b0 b1 : Int) (m : List Int) : Option (Int×Int×List Int×Int) :=
 if (inU l && inU m) = true then (if YH a0 a1 l.length b0 b1 m.length = 0 then some (a0 + b0,a1,l ++ m,0) else some (0,0,[],YH a0 a1 l.length b0 b1 m.length)) else none
theorem aLb (xs ys : List UInt8) : nI xs ++ nI ys = nI (xs ++ ys):=by simp [nI]
theorem AL.calls (aK : Int) (aI : Int) (bI : Option Addr) (bH : Nat) (aQ : List Int) (fS : Int) (fR : Int) (wQ : Option Addr) (wF : Nat) (fZ : List Int) (r1 : Int) (r2 : Int) (r3 : List Int) (r4 : Int) (w : World) (hr0_2 : Kd.C (Kd.int .u8) w bI aQ.length aQ) (hc0_2 : aQ.length≤bH) (hr1_2 : Kd.C (Kd.int .u8) w wQ fZ.length fZ) (hc1_2 : fZ.length≤wF) (h : AL.f aK aI aQ fS fR fZ = some (r1,r2,r3,r4)) :
  Calls Try.prog 70 #[.agg #[.int .i64 aK,.int .i64 aI,.slice bI aQ.length bH],.agg #[.int .i64 fS,.int .i64 fR,.slice wQ fZ.length wF]] w fun e w' => ∃ uT : Value,e = .returned (.tuple #[.agg #[.int .i64 r1,.int .i64 r2,uT],.int .i64 r4])∧Kd.R (Kd.int .u8) 5 w' w.heap.size (fun _ => True) uT r3∧Below w.heap.size w w':=by
 unfold AL.f at h
 split at h
 ·rename_i hi
  simp only [Bool.and_eq_true] at hi;obtain ⟨xs,rfl⟩:=AN hi.1;obtain ⟨ys,rfl⟩:=AN hi.2;simp only [bT] at h hc0_2 hc1_2 ⊢
  split at h
  ·rename_i hm
   simp only [Option.some.injEq,Prod.mk.injEq] at h;obtain ⟨rfl,rfl,rfl,rfl⟩:=h;unfold YH at hm
   split at hm
   ·rename_i h1
    simp only [Bool.and_eq_true,beq_iff_eq] at h1
    split at hm
    ·rename_i h64
     obtain ⟨a,b,rfl,rfl,k1,k2,k3⟩:=rW h1.1.1;obtain ⟨a',b',rfl,k4,k5,k6,k7⟩:=rW h1.1.2;obtain rfl : b' = b:=by have:=h1.2;omega
     obtain rfl:=k4;have e : (a : Int) + (a' : Int) = ((a + a' : Nat) : Int):=by omega
     refine (aKv a a' b' xs.length ys.length (a + a') ((a + a') * b') bI wQ bH wF xs ys w k1 k5 (by omega) k2 e (Lib.hid k3) (Lib.hid k7) (Lib.hid rfl) (Lib.hid (by rw [Nat.add_mul,k3,k7])) (AK hr0_2) (AK hr1_2) hc0_2 hc1_2).mono ?_;rintro e' w' ⟨g,rfl,ho,hg,hb⟩;rw [e];have hb4 : (a + a') * b'≤64 * 64:=Nat.mul_le_mul (by omega) k2;refine ⟨_,rfl,?_,hb⟩;rw [aLb];exact zG (ho.aKX hg (by rw [List.length_append,k3,k7,Nat.add_mul]) (by simp only [maxLen];omega))
    ·cases hm
   ·cases hm
  ·rename_i hm
   simp only [Option.some.injEq,Prod.mk.injEq] at h;obtain ⟨rfl,rfl,rfl,rfl⟩:=h;refine (aMq aK aI fS fR bI wQ xs.length ys.length bH wF _ w rfl hm).mono ?_;rintro e w' ⟨rfl,hb⟩;exact ⟨_,rfl,Kd.IE _ _ _ _ _,hb⟩
 ·cases h
end Go.Proofs.Yteofcbkjhdadpaa
namespace Go.Proofs.Yteofcbkjhdadpaa
open Go.RowKit
theorem aMf (r c : Int) (A : Option Addr) (n cap : Nat) (w : World) (h : bY r c n = false) :
  Calls Try.prog 58 #[mV r c A n cap] w fun e w' => e = .returned (.tuple #[mV 0 0 none 0 0,.int .i64 3])∧Below w.heap.size w w':=by
 have pQ:=Lib.hid (fun w => gM r c A n cap w);rw [h] at pQ;clear h;have S:=((Ctx.start w).box [.int .i64 r,.int .i64 c,.slice A n cap]).box [.int .i64 0,.int .i64 0,.slice none 0 0];simp only [World.size_alloc] at S;obtain ⟨c0,c1,c2⟩:=S.cells 1 rfl;obtain ⟨e0,e1,e2,f0,f1,f2⟩:=(S.row 0 rfl).three;have hsz:=S.lt 0 rfl;go_enter Try.func58,Try.ntmps58;go_wp2_with (go_at_call 76;refine (pQ.out _).mono ?_;rintro e w1 ⟨rfl,hb⟩;replace S:=S.go hb;clear hb c0 c1 c2 e0 e1 e2 f0 f1 f2 hsz;have hsz:=S.lt 0 rfl;obtain ⟨c0,c1,c2⟩:=S.cells 1 rfl;obtain ⟨e0,e1,e2,f0,f1,f2⟩:=(S.row 0 rfl).three)
 exact bodyPost_ret (v:=.tuple #[mV 0 0 none 0 0,.int .i64 3]) (by simp [results,Try.results58,go_sem,e0,e1,e2,f0,f1,f2]) rfl ⟨rfl,cV S.below (by omega) _ _ _⟩
theorem aKa (r c n : Nat) (A : Option Addr) (cap : Nat) (xs : List UInt8) (w : World) (hr : r≤64) (hc : c≤64) (hn : Hid (n = r * c)) (hx : Rd w w.heap.size A n (fQ xs)) (hcap : n≤cap) :
  Calls Try.prog 58 #[mV r c A n cap] w fun e w' => ∃ g,e = .returned (.tuple #[mV c r g n n,.int .i64 0])∧iR w' w.heap.size g n n (eR r c xs)∧Below w.heap.size w w':=by
 have pQ:=Lib.hid (fun w => gM r c A n cap w);rw [show bY r c n = true by simp [bY,hn.out];omega] at pQ;have HT:=Lib.hid (fun w h => PA r c n A cap xs w hr hc hn h hcap);have hle : n≤64 * 64:=by rw [hn.out];exact Nat.mul_le_mul hr hc
 have S:=(((Ctx.start w).add hx).box [.int .i64 r,.int .i64 c,.slice A n cap]).box [.int .i64 0,.int .i64 0,.slice none 0 0];simp only [World.size_alloc] at S;obtain ⟨c0,c1,c2⟩:=S.cells 1 rfl;obtain ⟨e0,e1,e2,f0,f1,f2⟩:=(S.row 0 rfl).three;have hsz:=S.lt 0 rfl;have hs2:=S.below.size;go_enter Try.func58,Try.ntmps58;go_wp2_with (go_at_call 76;refine (pQ.out _).mono ?_;rintro e w1 ⟨rfl,hb⟩;replace S:=S.go hb;clear hb c0 c1 c2 e0 e1 e2 f0 f1 f2 hsz;have hsz:=S.lt 0 rfl;obtain ⟨c0,c1,c2⟩:=S.cells 1 rfl;obtain ⟨e0,e1,e2,f0,f1,f2⟩:=(S.row 0 rfl).three)
 refine (HT.out _ (S.rd 0 rfl)).mono ?_;rintro e w2 ⟨g,rfl,hrow,hg,hb⟩;replace S:=S.go hb;clear hb c0 c1 c2 e0 e1 e2 f0 f1 f2;obtain ⟨e0,e1,e2,f0,f1,f2⟩:=(S.row 0 rfl).three;go_wp2_with fail
 refine bodyPost_ret (v:=.tuple #[mV c r (some ⟨g,0,none⟩) n n,.int .i64 0]) (by simp [results,Try.results58,go_sem,e0,e1,e2,f0,f1,f2]) rfl ⟨some ⟨g,0,none⟩,rfl,?_,cV S.below (by omega) _ _ _⟩;exact (hrow.JP (by omega) _ _ _).aKX (by omega) (by rw [eR,lZ,hn.out,Nat.mul_comm]) (by simp only [maxLen];omega)
end Go.Proofs.Yteofcbkjhdadpaa
namespace Go.Proofs.Yteofcbkjhdadpaa
open Go.RowKit Go.Proofs.aH.bJ
def eV.f (a0 a1 : Int) (l : List Int) : Option (Int×Int×List Int×Int) :=
 if inU l = true then (if bY a0 a1 l.length = true then some (a1,a0,nI (eR a0.toNat a1.toNat (l.map GZ)),0) else some (0,0,[],3)) else none
theorem eV.calls (aK : Int) (aI : Int) (bI : Option Addr) (bH : Nat) (aQ : List Int) (r1 : Int) (r2 : Int) (r3 : List Int) (r4 : Int) (w : World) (hr0_2 : Kd.C (Kd.int .u8) w bI aQ.length aQ) (hc0_2 : aQ.length≤bH) (h : eV.f aK aI aQ = some (r1,r2,r3,r4)) :
  Calls Try.prog 58 #[.agg #[.int .i64 aK,.int .i64 aI,.slice bI aQ.length bH]] w fun e w' => ∃ uT : Value,e = .returned (.tuple #[.agg #[.int .i64 r1,.int .i64 r2,uT],.int .i64 r4])∧Kd.R (Kd.int .u8) 5 w' w.heap.size (fun _ => True) uT r3∧Below w.heap.size w w':=by
 unfold eV.f at h
 split at h
 ·rename_i hi
  obtain ⟨xs,rfl⟩:=AN hi;simp only [bT,xG] at h hc0_2 ⊢
  split at h
  ·rename_i hm
   simp only [Option.some.injEq,Prod.mk.injEq] at h;obtain ⟨rfl,rfl,rfl,rfl⟩:=h;obtain ⟨a,b,rfl,rfl,h1,h2,h3⟩:=rW hm;refine (aKa a b xs.length bI bH xs w h1 h2 (Lib.hid h3) (AK hr0_2) hc0_2).mono ?_;rintro e w' ⟨g,rfl,ho,hb⟩;exact ⟨_,rfl,zG ho,hb⟩
  ·rename_i hm
   simp only [Option.some.injEq,Prod.mk.injEq] at h;obtain ⟨rfl,rfl,rfl,rfl⟩:=h;refine (aMf aK aI bI xs.length bH w (by simpa using hm)).mono ?_;rintro e w' ⟨rfl,hb⟩;exact ⟨_,rfl,Kd.IE _ _ _ _ _,hb⟩
 ·cases h
end Go.Proofs.Yteofcbkjhdadpaa
namespace Go.Proofs.Yteofcbkjhdadpaa
open Go.RowKit
def ID (w : World) (A : Option Addr) (xs : List UInt8) : Prop :=
 0 < xs.length → ∃ g o cells,A = some ⟨g,o,none⟩∧w.heap[g]? = some (Obj.cells cells 5 (0,0)) ∧ ∀ j,j < xs.length→cells[o + j]? = some (.int .u8 ((xs.getD j 0).toNat : Int))
section
variable {w w' : World} {A : Option Addr} {xs : List UInt8}
theorem DF {w : World} {g : Nat} {o : Obj} (h : w.heap[g]? = some o) : g < w.heap.size:=by
 rcases Nat.lt_or_ge g w.heap.size with hlt | hge
 ·exact hlt
 ·rw [Array.getElem?_eq_none hge] at h;cases h
theorem ID.nil (w : World) (A : Option Addr) : ID w A []:=fun h => absurd h (by simp)
theorem ID.rd (h : ID w A xs) : Rd w w.heap.size A xs.length (fQ xs):=by
 refine ⟨cB xs,fun hn => ?_⟩;obtain ⟨g,o,cells,rfl,hb,hc⟩:=h hn;refine ⟨g,o,rfl,DF hb,fun j u hu => ?_⟩;have hj : j < xs.length:=by
  rcases Nat.lt_or_ge j xs.length with hlt | hge
  ·exact hlt
  ·rw [List.getElem?_eq_none (by rw [cB];exact hge)] at hu;cases hu
 rw [cell_of_row w g (o + j) cells 5 (0,0) hb,hc j hj,← hu,wH xs j hj]
 simp [List.getD,hj]
theorem ID.vJ (h : ID w A xs) (hk : ∀ (g : Nat) (cells : Array Value),w.heap[g]? = some (Obj.cells cells 5 (0,0))→w'.heap[g]? = w.heap[g]?) : ID w' A xs:=by
 intro hn;obtain ⟨g,o,cells,e,hb,hc⟩:=h hn;exact ⟨g,o,cells,e,(hk g cells hb).trans hb,hc⟩
theorem ID.below (h : ID w A xs) (hb : Below w.heap.size w w') : ID w' A xs:=h.vJ fun g cells hg => hb.block g (DF hg)
theorem ID.grown (h : ID w A xs) {g' : Nat} (hg : w.grownBy w' (some g')) {t : TypeId} {ys : List Value} (hr : Row w g' t ys) (ht : t≠5) : ID w' A xs :=
 h.vJ fun g cells hb => hg.block g (DF hb) (by
  intro e;injection e with e;subst e;unfold Row at hr;rw [hb] at hr;injection hr with hr;injection hr with _ e2;exact ht e2.symm)
theorem ID.set (h : ID w A xs) {p : Addr} {t : TypeId} {ys : List Value} (hr : Row w p.block t ys) (ht : t≠5) (u : Value) : ID (w.setCell p u) A xs :=
 h.vJ fun g cells hb => Below.heap_setCell w p u g (by
  rintro rfl;unfold Row at hr;rw [hb] at hr;injection hr with hr;injection hr with _ e2;exact ht e2.symm)
theorem ID.aCW {base n cap : Nat} (h : iR w base A n cap xs) : ID w A xs:=by
 intro hn
 rcases h.2.2 with ⟨_,h0⟩ | ⟨g,c,cur,hv,hg,hh,h1,h2,h3,h4⟩
 ·have:=h.1;omega
 ·simp only [Value.slice.injEq] at hv
  obtain ⟨rfl,_,_⟩:=hv;refine ⟨g,0,cur,rfl,hh,fun j hj => ?_⟩;have e : (fQ xs)[j]? = some (.int .u8 ((xs[j]).toNat : Int)):=wH xs j hj;rw [Nat.zero_add];have h5 : cur[j]? = (fQ xs)[j]? := by
   rw [← h4,List.getElem?_take,if_pos (by have:=h.1;omega),Array.getElem?_toList]
  rw [h5,e]
  simp [List.getD,hj]
theorem ID.sub {k c n : Nat} (h : ID w A xs) (hl : xs.length = n) (hk : k + c≤n) {A' : Option Addr} (hA : 0 < c → ∀ g o,A = some ⟨g,o,none⟩→A' = some ⟨g,o + k,none⟩) : ID w A' ((xs.drop k).take c):=by
 have hlen : ((xs.drop k).take c).length = c:=by rw [List.length_take,List.length_drop];omega
 intro hn;rw [hlen] at hn;obtain ⟨g,o,cells,rfl,hb,hc⟩:=h (by omega);refine ⟨g,o + k,cells,hA hn g o rfl,hb,fun j hj => ?_⟩;rw [hlen] at hj;rw [Nat.add_assoc,hc (k + j) (by omega)];have e : ((xs.drop k).take c).getD j 0 = xs.getD (k + j) 0:=by
  rw [List.getD_eq_getElem?_getD,List.getElem?_take,if_pos hj,List.getElem?_drop,List.getD_eq_getElem?_getD]
 rw [e]
end
def uU (w : World) (A : Option Addr) (n c : Nat) (L : List (List UInt8)) : Prop :=
 L.length = n∧(∀ i,i < n→(L.getD i []).length = c)∧(0 < n → ∃ g lv,A = some ⟨g,0,none⟩∧Row w g 22 lv∧n≤lv.length ∧ ∀ i,i < n → ∃ Ai ci,lv[i]? = some (.slice Ai c ci)∧c≤ci∧ID w Ai (L.getD i []))
section
variable {w w' : World} {A : Option Addr} {n c : Nat} {L : List (List UInt8)}
theorem uU.len (h : uU w A n c L) : L.length = n:=h.1
theorem uU.width (h : uU w A n c L) {i : Nat} (hi : i < n) : (L.getD i []).length = c:=h.2.1 i hi
theorem uU.at_ (h : uU w A n c L) {i : Nat} (hi : i < n) : ∃ g Ai ci,A = some ⟨g,0,none⟩∧g < w.heap.size∧w.cell? ⟨g,i,none⟩ = some (.slice Ai c ci)∧w.frozen? ⟨g,i,none⟩ = false∧c≤ci∧ID w Ai (L.getD i []):=by
 obtain ⟨g,lv,e,hr,hl,hc⟩:=h.2.2 (by omega);obtain ⟨Ai,ci,h1,h2,h3⟩:=hc i hi;exact ⟨g,Ai,ci,e,hr.lt,by rw [hr.cell,h1],hr.frozen i,h2,h3⟩
theorem uU.row (h : uU w A n c L) (hn : 0 < n) : ∃ g lv,A = some ⟨g,0,none⟩∧Row w g 22 lv:=by
 obtain ⟨g,lv,e,hr,_⟩:=h.2.2 hn;exact ⟨g,lv,e,hr⟩
theorem uU.vJ (h : uU w A n c L) (h1 : ∀ (g : Nat) (cells : Array Value),w.heap[g]? = some (Obj.cells cells 5 (0,0))→w'.heap[g]? = w.heap[g]?) (h2 : ∀ g : Nat,A = some ⟨g,0,none⟩→w'.heap[g]? = w.heap[g]?) : uU w' A n c L:=by
 refine ⟨h.1,h.2.1,fun hn => ?_⟩;obtain ⟨g,lv,e,hr,hl,hc⟩:=h.2.2 hn;refine ⟨g,lv,e,hr.of_block (h2 g e),hl,fun i hi => ?_⟩;obtain ⟨Ai,ci,q1,q2,q3⟩:=hc i hi;exact ⟨Ai,ci,q1,q2,q3.vJ h1⟩
theorem uU.below (h : uU w A n c L) (hb : Below w.heap.size w w') : uU w' A n c L:=by
 refine ⟨h.1,h.2.1,fun hn => ?_⟩;obtain ⟨g,lv,e,hr,hl,hc⟩:=h.2.2 hn;refine ⟨g,lv,e,hr.below hb hr.lt,hl,fun i hi => ?_⟩;obtain ⟨Ai,ci,q1,q2,q3⟩:=hc i hi;exact ⟨Ai,ci,q1,q2,q3.below hb⟩
theorem uU.drewN (h : uU w A n c L) (k : Nat) : uU (w.drewN k) A n c L:=h
theorem uU.drew (h : uU w A n c L) : uU w.drew A n c L:=h
theorem uU.NS (h : uU w A n c L) {p : Addr} {t : TypeId} {ys : List Value} (hr : Row w p.block t ys) (ht : t≠5) (hA : A≠some ⟨p.block,0,none⟩) (u : Value) : uU (w.setCell p u) A n c L:=by
 refine h.vJ (fun g cells hb => Below.heap_setCell w p u g ?_) (fun g e => Below.heap_setCell w p u g ?_)
 ·rintro rfl
  unfold Row at hr;rw [hb] at hr;injection hr with hr;injection hr with _ e2;exact ht e2.symm
 ·rintro rfl
  exact hA e
theorem uU.grown (h : uU w A n c L) {g' : Nat} (hg : w.grownBy w' (some g')) {t : TypeId} {ys : List Value} (hr : Row w g' t ys) (ht : t≠5) (hA : A≠some ⟨g',0,none⟩) : uU w' A n c L:=by
 refine ⟨h.1,h.2.1,fun hn => ?_⟩;obtain ⟨g,lv,e,hr2,hl,hc⟩:=h.2.2 hn;refine ⟨g,lv,e,hr2.of_block (hg.block g hr2.lt (fun e2 => by injection e2 with e2;subst e2;exact hA e)),hl,fun i hi => ?_⟩;obtain ⟨Ai,ci,q1,q2,q3⟩:=hc i hi;exact ⟨Ai,ci,q1,q2,q3.grown hg hr ht⟩
theorem gE {L : List (List UInt8)} {i j : Nat} {x : List UInt8} (h : i < L.length) : (L.set i x).getD j [] = if j = i then x else L.getD j []:=by
 rw [List.getD_eq_getElem?_getD,List.getD_eq_getElem?_getD,List.getElem?_set]
 by_cases e : i = j
 ·rw [if_pos e,if_pos h,if_pos e.symm];rfl
 ·rw [if_neg e,if_neg (fun h2 => e h2.symm)]
theorem uU.store (h : uU w A n c L) {i : Nat} (hi : i < n) {g : Nat} (hA : A = some ⟨g,0,none⟩) {A' : Option Addr} {c' : Nat} {x : List UInt8} (hx : x.length = c) (hc' : c≤c') (hr : ID w A' x) : uU (w.setCell ⟨g,i,none⟩ (.slice A' c c')) A n c (L.set i x):=by
 obtain ⟨g2,lv,e,hrow,hl,hc⟩:=h.2.2 (by omega);rw [hA] at e;simp only [Option.some.injEq,Addr.mk.injEq,and_true] at e;subst e;have hne : (22 : TypeId)≠5:=by decide
 refine ⟨by rw [List.length_set];exact h.1,fun j hj => ?_,fun _ => ⟨g,lv.set i (.slice A' c c'),hA,hrow.set i _,by rw [List.length_set];exact hl,fun j hj => ?_⟩⟩
 ·rw [gE (by rw [h.1];exact hi)]
  split
  ·exact hx
  ·exact h.2.1 j hj
 ·rw [gE (by rw [h.1];exact hi),List.getElem?_set]
  by_cases e : i = j
  ·rw [if_pos e,if_pos (by omega),if_pos e.symm]
   exact ⟨A',c',rfl,hc',hr.set hrow hne _⟩
  ·obtain ⟨Ai,ci,q1,q2,q3⟩:=hc j hj
   rw [if_neg e,if_neg (fun h2 => e h2.symm)];exact ⟨Ai,ci,q1,q2,q3.set hrow hne _⟩
end
end Go.Proofs.Yteofcbkjhdadpaa
namespace Go.Proofs.Yteofcbkjhdadpaa
open Go.RowKit
def gL (L : List (List UInt8)) (i j : Nat) : UInt8:=(L.getD i []).getD j 0
structure Gz (w : World) (gr : Nat) (Al Aa : Option Addr) (n capl c m : Nat) (L A : List (List UInt8)) : Prop where
 row : Row w gr 95 [.slice Al n capl,.slice Aa n n,.int .i64 (c : Int)]
 l : uU w Al n c L
 also : uU w Aa n m A
 le : n≤capl
 ne : ∀ g,Al = some ⟨g,0,none⟩→Aa≠some ⟨g,0,none⟩
theorem aGO (gr : Nat) (Al Aa : Option Addr) (n capl c m top col : Nat) (L A : List (List UInt8)) (w : World) (h : Gz w gr Al Aa n capl c m L A) (hn : n≤64) (hc : c≤64) (htop : top < n) (hcol : col≤65) :
  Calls Try.prog 94 #[.pointer (some ⟨gr,0,none⟩),.int .i64 (top : Int),.int .i64 (col : Int)] w fun e w' => ∃ (i j : Nat) (b : Bool),e = .returned (.tuple #[.int .i64 (i : Int),.int .i64 (j : Int),.bool b])∧w = w' ∧
   (b = true→i < n∧top≤i∧j < c∧col≤j∧gL L i j≠0∧(∀ i',top≤i'→i' < i→gL L i' j = 0) ∧ ∀ j',col≤j'→j' < j → ∀ i',top≤i'→i' < n→gL L i' j' = 0) ∧
   (b = false → ∀ j',col≤j'→j' < c → ∀ i',top≤i'→i' < n→gL L i' j' = 0):=by
 have r0 : w.cell? ⟨gr,0,none⟩ = some (.slice Al n capl):=h.row.cell 0;have r2 : w.cell? ⟨gr,2,none⟩ = some (.int .i64 (c : Int)):=h.row.cell 2;have HL:=Lib.hid h.l;clear h;go_enter Try.func94,Try.ntmps94;go_wp2_with fail
 go_step3
 go_wp2_with fail
 go_step3
 go_wp2_with fail
 go_loopg [6,7,8] (c - col) (fun k s6 s7 s8 wr => ∃ (j ii : Nat),s6 = .int .i64 (ii : Int)∧s7 = .int .i64 (j : Int)∧s8 = .bool false∧wr = w∧col≤j∧k = c - j∧(∀ j',col≤j'→j' < j→j' < c → ∀ i',top≤i'→i' < n→gL L i' j' = 0))
 case atStart => exact ⟨col,0,rfl,rfl,rfl,rfl,Nat.le_refl _,rfl,fun j' h1 h2 => by omega⟩
 case round =>
  obtain ⟨j,ii,rfl,rfl,rfl,rfl,hj,hk,hz⟩:=hrel;have HZ:=Lib.hid hz;clear hz;obtain ⟨wo,rfl⟩ : ∃ wo : World,wo = wr:=⟨_,rfl⟩
  obtain ⟨ko,rfl⟩ : ∃ ko : Nat,ko = gk:=⟨_,rfl⟩
  by_cases hjc : j < c
  ·go_wp2_with fail
   go_loopg [6,8] (n - top) (fun k s6 s8 wr2 => ∃ (i : Nat),s6 = .int .i64 (i : Int)∧s8 = .bool false∧wr2 = wo∧top≤i∧i≤n∧k = n - i ∧ ∀ i',top≤i'→i' < i→gL L i' j = 0)
   case atStart => exact ⟨top,rfl,rfl,rfl,Nat.le_refl _,by omega,rfl,fun i' h1 h2 => by omega⟩
   case round =>
    obtain ⟨i,rfl,rfl,rfl,hti,hin,hk2,hzi⟩:=hrel;have HZI:=Lib.hid hzi;clear hzi
    by_cases hi2 : i < n
    ·obtain ⟨g,Ai,ci,rfl,hg,hci,hfi,hle,hri⟩:=HL.out.at_ hi2
     have hwd:=HL.out.width hi2;obtain ⟨g',o,rfl,hg',hcell⟩:=qE hri.rd (k:=j) (by omega);obtain ⟨x,hx⟩ : ∃ x,x = gL L i j:=⟨_,rfl⟩
     replace hcell : wr.cell? ⟨g',o + j,none⟩ = some (.int .u8 (x.toNat : Int)):=by rw [hx];exact hcell
     have HX:=Lib.hid hx;clear hx hri hwd
     by_cases hx0 : x.toNat = 0
     ·have hx1 : (x.toNat : Int) = 0:=by omega
      rw [hx1] at hcell;go_wp2_with fail
      go_roundg (n - (i + 1))
      case rel =>
       refine ⟨i + 1,by go_num,rfl,rfl,by omega,by omega,rfl,fun i' h1 h2 => ?_⟩
       rcases Nat.lt_or_ge i' i with h3 | h3
       ·exact HZI.out i' h1 h3
       ·obtain rfl : i' = i:=by omega
        rw [← HX.out];exact UInt8.toNat_inj.1 hx0
      case measure => omega
     ·have hx1 : ((x.toNat : Int) == 0) = false:=by simp;omega
      go_wp2_with fail
      try rw [Exit.noGoto_ret]
      refine bodyPost_ret (v:=.tuple #[.int .i64 (i : Int),.int .i64 (j : Int),.bool true]) (by simp [results,Try.results94,go_sem]) rfl ?_;refine ⟨i,j,true,rfl,rfl,fun _ => ⟨hi2,hti,hjc,hj,?_,HZI.out,fun j' h1 h2 i' h3 h4 => HZ.out j' h1 h2 (by omega) i' h3 h4⟩,fun h => by cases h⟩;rw [← HX.out];rintro rfl;exact hx0 rfl
    ·obtain rfl : i = n:=by omega
     go_wp2_with fail
     go_roundg (c - (j + 1))
     case rel =>
      refine ⟨j + 1,i,rfl,by go_num,rfl,rfl,by omega,rfl,fun j' h1 h2 h3 i' h4 h5 => ?_⟩
      rcases Nat.lt_or_ge j' j with h6 | h6
      ·exact HZ.out j' h1 h6 h3 i' h4 h5
      ·obtain rfl : j' = j:=by omega
       exact HZI.out i' h4 h5
     case measure => omega
  ·go_wp2_with fail
   try rw [Exit.noGoto_ret]
   refine bodyPost_ret (v:=.tuple #[.int .i64 (ii : Int),.int .i64 (j : Int),.bool false]) (by simp [results,Try.results94,go_sem]) rfl ?_;exact ⟨ii,j,false,rfl,rfl,(fun h => by cases h),fun _ j' h1 h2 i' h3 h4 => HZ.out j' h1 (by omega) h2 i' h3 h4⟩
end Go.Proofs.Yteofcbkjhdadpaa
namespace Go.Proofs.Yteofcbkjhdadpaa
open Go.RowKit
theorem IZ (c : UInt8) (A : Option Addr) (n cap : Nat) (xs : List UInt8) (w : World) (hr : Rd w w.heap.size A n (fQ xs)) (hn : n≤140737488355328) :
  Calls Try.prog 96 #[.int .u8 (c.toNat : Int),.slice A n cap] w fun e w' => ∃ A' cap',e = .returned (.slice A' n cap')∧iR w' w.heap.size A' n cap' (xs.map (Gf.mul c))∧Below w.heap.size w w':=by
 obtain ⟨Z,hzv,HZ0,HSZ⟩:=FN;have hmk:=FY n (by omega);go_enter Try.func96,Try.ntmps96;go_wp2_with (first | (go_at_call 90;refine (JZ _).mono ?_;rintro e w1 ⟨T,hT,rfl,hb1⟩) | (refine xB (.tmp 5) (.tmp 9) rfl rfl T Z hT HZ0 HSZ rfl rfl ?_;intro w2 hs2 hg2 hb2))
 have hrow:=BJ w2 n;rw [hs2] at hrow;have hbW : Below w.heap.size w (w2.alloc (.cells (madeCells #[.int .u8 0] n) 5)):=(hb1.trans (hb2.mono hb1.size)).alloc (by have:=hb1.size;omega) _;have ht:=(pA.mk hT hg2).of_block (w':=w2.alloc (.cells (madeCells #[.int .u8 0] n) 5)) (Below.heap_alloc w2 _ _ (by omega));have hsz:=hb1.size;rw [← aLm (fun j => Gf.mul c (xs.getD j 0)) n] at hrow;have HF:=Lib.hid (aNM (fun j => Gf.mul c (xs.getD j 0)) n);have HR:=Lib.hid (aAT xs (Gf.mul c));have HL:=Lib.hid (show xs.length = n by have:=hr.len;rw [cB] at this;exact this);have HT:=Lib.hid ht;have HW:=Lib.hid hrow;have HB:=Lib.hid hbW;clear hrow ht hbW hg2 hmk hzv hT HSZ HZ0 hs2 hb2
 go_loopw [15] (fun v15 wr => ∃ i : Nat,i≤n∧v15 = .int .i64 (i : Int)∧Row wr (w1.heap.size + 1) 5 (fQ (EB (fun j => Gf.mul c (xs.getD j 0)) n i))∧pA wr w1.heap.size∧Below w.heap.size w wr) (fun v15 _ => n - (intOf v15).toNat)
 case atStart => exact ⟨0,by omega,rfl,HW.out,HT.out,HB.out⟩
 case round =>
  obtain ⟨i,hi,rfl,hrow,ht,hb⟩:=hrel;clear HT HW HB
  by_cases hlt : i < n
  ·obtain ⟨g,o,rfl,hg,hcell⟩:=qE (hr.below hb (Nat.le_refl _)) hlt
   obtain ⟨old,hst⟩:=hrow.has (i:=i) (by rw [cB,aNL _ hi];exact hlt);have hfz:=hrow.frozen i;have HST:=Lib.hid hrow;have RE:=Lib.hid hr;have HB:=Lib.hid hb;obtain ⟨x,hx⟩ : ∃ x,x = xs.getD i 0:=⟨_,rfl⟩
   rw [← hx] at hcell;have HX:=Lib.hid hx;clear hx hr hrow hb;go_wp2_with (go_at_call 100;refine (XY _ _ _ _ ht).mono ?_;rintro e w' ⟨rfl,nd,rfl⟩)
   go_roundw
   case rel =>
    refine ⟨i + 1,by omega,by go_num,?_,?_,?_⟩
    ·have h:=(HST.out.drewN nd).set i (.int .u8 ((Gf.mul c (xs.getD i 0)).toNat : Int))
     rw [aEz] at h;have e:=aNK (fun j => Gf.mul c (xs.getD j 0)) hlt;rw [e,← HX.out] at h;exact h
    ·exact (ht.drewN nd).of_block (Below.heap_setCell _ _ _ _ (by simp))
    ·exact (below_drewN HB.out nd).setCell (by simp;omega) _
   case measure => simp [intOf];omega
  ·obtain rfl : i = n:=by omega
   rw [HF.out] at hrow;rw [show (List.range i).map (fun j => Gf.mul c (xs.getD j 0)) = xs.map (Gf.mul c) by rw [← HR.out,HL.out]] at hrow;go_wp2_with fail
   go_ret;exact ⟨_,_,rfl,hrow.aKX (by omega) (by rw [List.length_map,HL.out]) (by simp only [maxLen];omega),hb⟩
end Go.Proofs.Yteofcbkjhdadpaa
namespace Go.Proofs.Yteofcbkjhdadpaa
open Go.RowKit
theorem aQh {dst src : List UInt8} (c : UInt8) (h : dst.length = src.length) : (List.range src.length).map (fun j => Gf.add (Gf.mul c (src.getD j 0)) (dst.getD j 0)) = Gf.sY dst c src:=by
 have h1:=YQ dst src (fun d s => Gf.add d (Gf.mul c s)) h;rw [h] at h1;unfold Gf.sY;rw [← h1];apply List.map_congr_left;intro j _;exact Gf.add_comm _ _
theorem aLh (dst : Option Addr) (n dc : Nat) (c : UInt8) (src : Option Addr) (sc : Nat) (ds ss : List UInt8) (w : World) (hd : Rd w w.heap.size dst n (fQ ds)) (hs : Rd w w.heap.size src n (fQ ss)) (hn : n≤140737488355328) :
  Calls Try.prog 98 #[.slice dst n dc,.int .u8 (c.toNat : Int),.slice src n sc] w fun e w' => ∃ A' cap',e = .returned (.tuple #[.slice A' n cap',.int .i64 0])∧iR w' w.heap.size A' n cap' (Gf.sY ds c ss)∧Below w.heap.size w w':=by
 have hq : ((n : Int) != (n : Int)) = false:=by rw [bne_eq_false_iff_eq]
 have hld : ds.length = n:=by have:=hd.len;rw [cB] at this;exact this
 have hls : ss.length = n:=by have:=hs.len;rw [cB] at this;exact this
 have HLD:=Lib.hid hld;have HLS:=Lib.hid hls;have HF:=Lib.hid (show XX (fun j => Gf.add (Gf.mul c (ss.getD j 0)) (ds.getD j 0)) (ss.map (Gf.mul c)) n = Gf.sY ds c ss by
  have h:=aTT (fun j => Gf.add (Gf.mul c (ss.getD j 0)) (ds.getD j 0)) (ss.map (Gf.mul c));rw [List.length_map,hls] at h;rw [h,← aQh c (by omega),hls])
 clear hld hls;go_enter Try.func98,Try.ntmps98;go_wp2_with (go_at_call 96;refine (IZ _ _ _ _ ss _ hs hn).mono ?_;rintro e w1 ⟨A1,c1,rfl,ho1,hb1⟩)
 rw [← aPx (fun j => Gf.add (Gf.mul c (ss.getD j 0)) (ds.getD j 0)) (ss.map (Gf.mul c))] at ho1;have HO:=Lib.hid ho1;have HB:=Lib.hid hb1;clear ho1 hb1
 go_loopw [21] (fun v21 wr => ∃ i : Nat,i≤n∧v21 = .int .i64 (i : Int)∧iR wr w.heap.size A1 n c1 (XX (fun j => Gf.add (Gf.mul c (ss.getD j 0)) (ds.getD j 0)) (ss.map (Gf.mul c)) i)∧Below w.heap.size w wr) (fun v21 _ => n - (intOf v21).toNat)
 case atStart => exact ⟨0,by omega,rfl,HO.out,HB.out⟩
 case round =>
  obtain ⟨i,hi,rfl,ho,hb⟩:=hrel;clear HO HB
  by_cases hlt : i < n
  ·obtain ⟨g,o,rfl,hg,hcell⟩:=qE (hd.below hb (Nat.le_refl _)) hlt
   obtain ⟨g1,rfl,hg1,_,hcell1,aXT⟩:=ho.at_ hlt;have hl : i < (ss.map (Gf.mul c)).length:=by rw [List.length_map,HLS.out];exact hlt
   rw [aTS _ hl,aNa _ (by rw [HLS.out];exact hlt)] at hcell1;have HU:=Lib.hid (aTR (fun j => Gf.add (Gf.mul c (ss.getD j 0)) (ds.getD j 0)) hl);have HS:=Lib.hid (ho.store i (Gf.add (Gf.mul c (ss.getD i 0)) (ds.getD i 0)));have hx:=GS (Gf.mul c (ss.getD i 0)) (ds.getD i 0);generalize Gf.mul c (ss.getD i 0) = y at *;generalize ds.getD i 0 = d at *;have HB:=Lib.hid hb;have HD:=Lib.hid hd;clear hb hl ho hd;go_wp2_with fail
   go_roundw
   case rel =>
    refine ⟨i + 1,by omega,by go_num,?_,?_⟩
    ·have h:=HS.out
     rw [HU.out] at h;exact h
    ·exact HB.out.setCell (by simp;omega) _
   case measure => simp [intOf];omega
  ·obtain rfl : i = n:=by omega
   rw [HF.out] at ho;go_wp2_with fail
   go_ret2
   exact ⟨_,_,rfl,ho,hb⟩
end Go.Proofs.Yteofcbkjhdadpaa
namespace Go.Proofs.Yteofcbkjhdadpaa
open Go.RowKit
theorem BN {a w : World} {row : Option Nat} (h : a.grownBy w row) : a.grownBy w.drew row:=⟨h.os,h.tape,h.output,h.size,h.block⟩
theorem cell_far {w : World} {p q : Addr} {u v : Value} (h : w.cell? q = some v) (hne : p.block≠q.block ∨ p.off≠q.off) : (w.setCell p u).cell? q = some v :=
 (World.cell?_setCell_other w p q u (by rintro rfl;rcases hne with h | h <;> exact h rfl)).trans h
theorem aLw {w : World} {p : Addr} {u v : Value} (h : w.cell? p = some v) : (w.setCell p u).cell? p = some u:=by
 first | exact World.cell?_setCell_same _ _ _ _ h | exact World.cell?_setCell_same w p u h | exact World.cell?_setCell h | simp [h]
theorem iR.le' {w : World} {base n cap : Nat} {A : Option Addr} {xs : List UInt8} (h : iR w base A n cap xs) : n≤cap:=by
 rcases h.2.2 with ⟨h1,h2⟩ | ⟨g,c,cur,hv,hg,hh,h3,_⟩
 ·omega
 ·simp only [Value.slice.injEq] at hv
  obtain ⟨_,_,rfl⟩:=hv;exact h3
theorem YC (A : Option Addr) (n cap c : Nat) (L : List (List UInt8)) (gi gt go i top : Nat) (over : UInt8) (w : World) (hL : uU w A n c L) (hi : i < n) (ht : top < n) (hn : n≤64) (hc : c≤140737488355328)
  (bi : w.cell? ⟨gi,0,none⟩ = some (.int .i64 (i : Int))) (bt : w.cell? ⟨gt,0,none⟩ = some (.int .i64 (top : Int))) (bo : w.cell? ⟨go,0,none⟩ = some (.int .u8 (over.toNat : Int)))
  (hgi : ∀ g,A = some ⟨g,0,none⟩→g≠gi∧g≠gt∧g≠go) :
  Calls Try.prog 95 #[.slice A n cap,.pointer (some ⟨gt,0,none⟩),.pointer (some ⟨gi,0,none⟩),.pointer (some ⟨go,0,none⟩)] w fun e w' => e = .returned (.tuple #[])∧uU w' A n c ((L.set i (L.getD top [])).set top ((L.getD i []).map (Gf.mul over))) ∧ ∃ g,A = some ⟨g,0,none⟩∧w.grownBy w' (some g):=by
 obtain ⟨g,Ai,ci,rfl,hg,hci,hfi,hle,hri⟩:=hL.at_ hi;obtain ⟨g2,At,ct,e2,_,hct,hft,hlt,hrt⟩:=hL.at_ ht;simp only [Option.some.injEq,Addr.mk.injEq,and_true] at e2;subst e2;obtain ⟨n1,n2,n3⟩:=hgi g rfl;have HL:=Lib.hid hL;have i0 : (0 : Int)≤(i : Int):=by omega
 have i1 : (i : Int) < (n : Int):=by omega
 have t0 : (0 : Int)≤(top : Int):=by omega
 have t1 : (top : Int) < (n : Int):=by omega
 clear hL hgi;go_enter Try.func95,Try.ntmps95;go_wp2_with fail
 obtain ⟨_,lv,e4,hrow⟩:=HL.out.row (by omega);simp only [Option.some.injEq,Addr.mk.injEq,and_true] at e4;subst e4;have HROWT:=Lib.hid hrow;clear hrow
 by_cases hit : i = top
 ·subst hit
  go_region
  go_wp2_with fail
  obtain ⟨W2,hW2⟩ : ∃ W2,W2 = ((w.setCell ⟨g,i,none⟩ (.slice Ai c ci)).setCell ⟨g,i,none⟩ (.slice Ai c ci)).drew:=⟨_,rfl⟩
  have hL2 : uU W2 (some ⟨g,0,none⟩) n c ((L.set i (L.getD i [])).set i (L.getD i [])):=by rw [hW2];exact uU.drew ((HL.out.store hi rfl (HL.out.width hi) hle hri).store hi rfl (HL.out.width hi) hle (hri.set (HROWT.out : Row w g _ _) (by decide) _))
  have hg2 : w.grownBy W2 (some g):=by rw [hW2];exact BN (lY (p:=⟨g,i,none⟩) (lY (p:=⟨g,i,none⟩) (World.grownBy.refl w (some g)) (.inl rfl) _) (.inl rfl) _)
  rw [← hW2];have HW2:=Lib.hid hW2;clear hW2 hci hct hfi hft hri hrt;obtain ⟨g3,At2,ct2,e3,hg3,hct2,hft2,hlt2,hrt2⟩:=hL2.at_ hi;simp only [Option.some.injEq,Addr.mk.injEq,and_true] at e3;subst e3;have bt2 : W2.cell? ⟨gt,0,none⟩ = some (.int .i64 (i : Int)):=(World.cell?_of_block (w:=w) (w':=W2) (a:=⟨gt,0,none⟩) (hg2.block gt (jH bt) (by simp;omega))).trans bt;have bo2 : W2.cell? ⟨go,0,none⟩ = some (.int .u8 (over.toNat : Int)):=(World.cell?_of_block (w:=w) (w':=W2) (a:=⟨go,0,none⟩) (hg2.block go (jH bo) (by simp;omega))).trans bo;have HLG:=Lib.hid (show ((L.set i (L.getD i [])).set i (L.getD i [])).getD i [] = L.getD i [] by rw [gE (by rw [List.length_set,HL.out.len];exact hi),if_pos rfl]);rw [HLG.out] at hrt2;have hwid : (L.getD i []).length = c:=HL.out.width hi;have hrd:=hrt2.rd;rw [hwid] at hrd;have HSC:=Lib.hid (IZ over At2 c ct2 (L.getD i []) W2.drew (show Rd W2.drew W2.drew.heap.size At2 c (fQ (L.getD i [])) from hrd) hc);have HL2:=Lib.hid hL2;have HG2:=Lib.hid hg2;have HWID:=Lib.hid hwid;have HLT1:=Lib.hid (jH bt2);have HLT2:=Lib.hid (jH bo2);clear hL2 hg2 hwid hrd hrt2 bi bt bo;refine wp_region_held_drew (S:=(fun w' => w'.cell? ⟨gt,0,none⟩ = some (.int .i64 (i : Int))∧w'.cell? ⟨go,0,none⟩ = some (.int .u8 (over.toNat : Int)))) (by kernel_rfl) ⟨bt2,bo2⟩ (fun hHeld => ?_);refine wpAnyH_take (i:=0) (v:=?_) rfl (by kernel_rfl) (by kernel_rfl) (by kernel_rfl) (fun _ _ _ h => h) (Or.inl ⟨by rfl,?_⟩) (by assumption) ?_
  rotate_left
  ·(intro w hSw;(try dsimp only at hSw);go_simp;(try with_reducible rfl))
  (try simp only [Act.put,cT,cS,cU]);refine wpAnyH_take (i:=1) (v:=?_) rfl (by kernel_rfl) (by kernel_rfl) (by kernel_rfl) (fun _ _ _ h => h) (Or.inl ⟨by rfl,?_⟩) (by assumption) ?_;rotate_left
  ·(intro w hSw;(try dsimp only at hSw);go_simp;(try with_reducible rfl))
  (try simp only [Act.put,cT,cS,cU]);refine wpAnyH_take (i:=2) (v:=?_) rfl (by kernel_rfl) (by kernel_rfl) (by kernel_rfl) (fun _ _ _ h => h) (Or.inl ⟨by rfl,?_⟩) (by assumption) ?_;rotate_left
  ·(intro w hSw;(try dsimp only at hSw);go_simp;(try with_reducible rfl))
  (try simp only [Act.put,cT,cS,cU]);refine wpAnyH_take (i:=3) (v:=?_) rfl (by kernel_rfl) (by kernel_rfl) (by kernel_rfl) (fun _ _ _ h => h) (Or.inl ⟨by rfl,?_⟩) (by assumption) ?_;rotate_left
  ·(intro w hSw;(try dsimp only at hSw);go_simp;(try with_reducible rfl))
  (try simp only [Act.put,cT,cS,cU]);refine wpAnyH_take (i:=4) (v:=?_) rfl (by kernel_rfl) (by kernel_rfl) (by kernel_rfl) (fun _ _ _ h => h) (Or.inl ⟨by rfl,?_⟩) (by assumption) ?_;rotate_left
  ·(intro w hSw;(try dsimp only at hSw);go_simp;(try with_reducible rfl))
  (try simp only [Act.put,cT,cS,cU]);refine wpAnyH_take (i:=5) (v:=?_) rfl (by kernel_rfl) (by kernel_rfl) (by kernel_rfl) (fun _ _ _ h => h) (Or.inl ⟨by rfl,?_⟩) (by assumption) ?_;rotate_left
  ·(intro w hSw;(try dsimp only at hSw);go_simp;(try with_reducible rfl))
  (try simp only [Act.put,cT,cS,cU]);refine wpAnyH_ready (rs:=[6]) (by kernel_rfl) (by simp) ?_;refine AllReadyH.cons rfl (fun K hK => ?_) AllReadyH.nil;go_simp;refine hK.out _ _ hHeld (fun hHeld => ?_);clear hK K;(try simp only [Act.put,cT,cS,cU]);refine wpAnyH_ready (rs:=[7]) (by kernel_rfl) (by simp) ?_;refine AllReadyH.cons rfl (fun K hK => ?_) AllReadyH.nil;go_simp;refine HSC.out.mono ?_;rintro e w3 ⟨A3,c3,rfl,o3,hb⟩;have hc3 : w3.cell? ⟨g,i,none⟩ = some (.slice At2 c ct2):=(hb.cell (p:=⟨g,i,none⟩) hg3).trans hct2;have hf3 : w3.frozen? ⟨g,i,none⟩ = false:=(hb.frozen (p:=⟨g,i,none⟩) hg3).trans hft2;have HO3:=Lib.hid o3;have VJ:=Lib.hid hb;clear hb o3;go_wp2_with fail
  refine hK.out _ _ ⟨(VJ.out.cell (p:=⟨gt,0,none⟩) HLT1.out).trans hHeld.1,(VJ.out.cell (p:=⟨go,0,none⟩) HLT2.out).trans hHeld.2⟩ (fun hHeld => ?_);clear hK K;(try simp only [Act.put,cT,cS,cU]);refine wpAnyH_take (i:=8) (v:=?_) rfl (by kernel_rfl) (by kernel_rfl) (by kernel_rfl) (fun _ _ _ h => h) (Or.inl ⟨by rfl,?_⟩) (by assumption) ?_;rotate_left
  ·(intro w hSw;(try dsimp only at hSw);go_simp;(try with_reducible rfl))
  (try simp only [Act.put,cT,cS,cU]);refine wpAnyH_ready (rs:=[9]) (by kernel_rfl) (by simp) ?_;refine AllReadyH.cons rfl (fun K hK => ?_) AllReadyH.nil;go_simp;refine hK.out _ _ ⟨cell_far hHeld.1 (.inl n2),cell_far hHeld.2 (.inl n3)⟩ (fun hHeld => ?_);clear hK K;(try simp only [Act.put,cT,cS,cU]);refine wpAnyH_done (by kernel_rfl) ?_ _;have HF:=Lib.hid (show uU (w3.setCell ⟨g,i,none⟩ (.slice A3 c c3)) (some ⟨g,0,none⟩) n c ((L.set i (L.getD i [])).set i ((L.getD i []).map (Gf.mul over))) by
   have h:=((HL2.out.drew).below VJ.out).store hi rfl (by rw [List.length_map];exact HWID.out) HO3.out.le' (ID.aCW HO3.out);rw [List.set_set] at h;exact h)
  have HGF:=Lib.hid (show w.grownBy (w3.setCell ⟨g,i,none⟩ (.slice A3 c c3)) (some g) from lY (p:=⟨g,i,none⟩) (GO (a:=w) (w:=W2.drew) (BN HG2.out) VJ.out) (.inl rfl) _);go_wp2_with fail
  go_end0
  exact ⟨rfl,HF.out,g,rfl,HGF.out⟩
 ·have hne : top≠i:=fun h => hit h.symm
  go_region
  go_wp2_with fail
  obtain ⟨W2,hW2⟩ : ∃ W2,W2 = ((w.setCell ⟨g,i,none⟩ (.slice At c ct)).setCell ⟨g,top,none⟩ (.slice Ai c ci)).drew:=⟨_,rfl⟩
  have hL2 : uU W2 (some ⟨g,0,none⟩) n c ((L.set i (L.getD top [])).set top (L.getD i [])):=by rw [hW2];exact uU.drew ((HL.out.store hi rfl (HL.out.width ht) hlt hrt).store ht rfl (HL.out.width hi) hle (hri.set (HROWT.out : Row w g _ _) (by decide) _))
  have hg2 : w.grownBy W2 (some g):=by rw [hW2];exact BN (lY (p:=⟨g,top,none⟩) (lY (p:=⟨g,i,none⟩) (World.grownBy.refl w (some g)) (.inl rfl) _) (.inl rfl) _)
  rw [← hW2];have HW2:=Lib.hid hW2;clear hW2 hci hct hfi hft hri hrt;obtain ⟨g3,At2,ct2,e3,hg3,hct2,hft2,hlt2,hrt2⟩:=hL2.at_ ht;simp only [Option.some.injEq,Addr.mk.injEq,and_true] at e3;subst e3;have bt2 : W2.cell? ⟨gt,0,none⟩ = some (.int .i64 (top : Int)):=(World.cell?_of_block (w:=w) (w':=W2) (a:=⟨gt,0,none⟩) (hg2.block gt (jH bt) (by simp;omega))).trans bt;have bo2 : W2.cell? ⟨go,0,none⟩ = some (.int .u8 (over.toNat : Int)):=(World.cell?_of_block (w:=w) (w':=W2) (a:=⟨go,0,none⟩) (hg2.block go (jH bo) (by simp;omega))).trans bo;have HLG:=Lib.hid (show ((L.set i (L.getD top [])).set top (L.getD i [])).getD top [] = L.getD i [] by rw [gE (by rw [List.length_set,HL.out.len];exact ht),if_pos rfl]);rw [HLG.out] at hrt2;have hwid : (L.getD i []).length = c:=HL.out.width hi;have hrd:=hrt2.rd;rw [hwid] at hrd;have HSC:=Lib.hid (IZ over At2 c ct2 (L.getD i []) W2.drew (show Rd W2.drew W2.drew.heap.size At2 c (fQ (L.getD i [])) from hrd) hc);have HL2:=Lib.hid hL2;have HG2:=Lib.hid hg2;have HWID:=Lib.hid hwid;have HLT1:=Lib.hid (jH bt2);have HLT2:=Lib.hid (jH bo2);clear hL2 hg2 hwid hrd hrt2 bi bt bo;refine wp_region_held_drew (S:=(fun w' => w'.cell? ⟨gt,0,none⟩ = some (.int .i64 (top : Int))∧w'.cell? ⟨go,0,none⟩ = some (.int .u8 (over.toNat : Int)))) (by kernel_rfl) ⟨bt2,bo2⟩ (fun hHeld => ?_);refine wpAnyH_take (i:=0) (v:=?_) rfl (by kernel_rfl) (by kernel_rfl) (by kernel_rfl) (fun _ _ _ h => h) (Or.inl ⟨by rfl,?_⟩) (by assumption) ?_
  rotate_left
  ·(intro w hSw;(try dsimp only at hSw);go_simp;(try with_reducible rfl))
  (try simp only [Act.put,cT,cS,cU]);refine wpAnyH_take (i:=1) (v:=?_) rfl (by kernel_rfl) (by kernel_rfl) (by kernel_rfl) (fun _ _ _ h => h) (Or.inl ⟨by rfl,?_⟩) (by assumption) ?_;rotate_left
  ·(intro w hSw;(try dsimp only at hSw);go_simp;(try with_reducible rfl))
  (try simp only [Act.put,cT,cS,cU]);refine wpAnyH_take (i:=2) (v:=?_) rfl (by kernel_rfl) (by kernel_rfl) (by kernel_rfl) (fun _ _ _ h => h) (Or.inl ⟨by rfl,?_⟩) (by assumption) ?_;rotate_left
  ·(intro w hSw;(try dsimp only at hSw);go_simp;(try with_reducible rfl))
  (try simp only [Act.put,cT,cS,cU]);refine wpAnyH_take (i:=3) (v:=?_) rfl (by kernel_rfl) (by kernel_rfl) (by kernel_rfl) (fun _ _ _ h => h) (Or.inl ⟨by rfl,?_⟩) (by assumption) ?_;rotate_left
  ·(intro w hSw;(try dsimp only at hSw);go_simp;(try with_reducible rfl))
  (try simp only [Act.put,cT,cS,cU]);refine wpAnyH_take (i:=4) (v:=?_) rfl (by kernel_rfl) (by kernel_rfl) (by kernel_rfl) (fun _ _ _ h => h) (Or.inl ⟨by rfl,?_⟩) (by assumption) ?_;rotate_left
  ·(intro w hSw;(try dsimp only at hSw);go_simp;(try with_reducible rfl))
  (try simp only [Act.put,cT,cS,cU]);refine wpAnyH_take (i:=5) (v:=?_) rfl (by kernel_rfl) (by kernel_rfl) (by kernel_rfl) (fun _ _ _ h => h) (Or.inl ⟨by rfl,?_⟩) (by assumption) ?_;rotate_left
  ·(intro w hSw;(try dsimp only at hSw);go_simp;(try with_reducible rfl))
  (try simp only [Act.put,cT,cS,cU]);refine wpAnyH_ready (rs:=[6]) (by kernel_rfl) (by simp) ?_;refine AllReadyH.cons rfl (fun K hK => ?_) AllReadyH.nil;go_simp;refine hK.out _ _ hHeld (fun hHeld => ?_);clear hK K;(try simp only [Act.put,cT,cS,cU]);refine wpAnyH_ready (rs:=[7]) (by kernel_rfl) (by simp) ?_;refine AllReadyH.cons rfl (fun K hK => ?_) AllReadyH.nil;go_simp;refine HSC.out.mono ?_;rintro e w3 ⟨A3,c3,rfl,o3,hb⟩;have hc3 : w3.cell? ⟨g,top,none⟩ = some (.slice At2 c ct2):=(hb.cell (p:=⟨g,top,none⟩) hg3).trans hct2;have hf3 : w3.frozen? ⟨g,top,none⟩ = false:=(hb.frozen (p:=⟨g,top,none⟩) hg3).trans hft2;have HO3:=Lib.hid o3;have VJ:=Lib.hid hb;clear hb o3;go_wp2_with fail
  refine hK.out _ _ ⟨(VJ.out.cell (p:=⟨gt,0,none⟩) HLT1.out).trans hHeld.1,(VJ.out.cell (p:=⟨go,0,none⟩) HLT2.out).trans hHeld.2⟩ (fun hHeld => ?_);clear hK K;(try simp only [Act.put,cT,cS,cU]);refine wpAnyH_take (i:=8) (v:=?_) rfl (by kernel_rfl) (by kernel_rfl) (by kernel_rfl) (fun _ _ _ h => h) (Or.inl ⟨by rfl,?_⟩) (by assumption) ?_;rotate_left
  ·(intro w hSw;(try dsimp only at hSw);go_simp;(try with_reducible rfl))
  (try simp only [Act.put,cT,cS,cU]);refine wpAnyH_ready (rs:=[9]) (by kernel_rfl) (by simp) ?_;refine AllReadyH.cons rfl (fun K hK => ?_) AllReadyH.nil;go_simp;refine hK.out _ _ ⟨cell_far hHeld.1 (.inl n2),cell_far hHeld.2 (.inl n3)⟩ (fun hHeld => ?_);clear hK K;(try simp only [Act.put,cT,cS,cU]);refine wpAnyH_done (by kernel_rfl) ?_ _;have HF:=Lib.hid (show uU (w3.setCell ⟨g,top,none⟩ (.slice A3 c c3)) (some ⟨g,0,none⟩) n c ((L.set i (L.getD top [])).set top ((L.getD i []).map (Gf.mul over))) by
   have h:=((HL2.out.drew).below VJ.out).store ht rfl (by rw [List.length_map];exact HWID.out) HO3.out.le' (ID.aCW HO3.out);rw [List.set_set] at h;exact h)
  have HGF:=Lib.hid (show w.grownBy (w3.setCell ⟨g,top,none⟩ (.slice A3 c c3)) (some g) from lY (p:=⟨g,top,none⟩) (GO (a:=w) (w:=W2.drew) (BN HG2.out) VJ.out) (.inl rfl) _);go_wp2_with fail
  go_end0
  exact ⟨rfl,HF.out,g,rfl,HGF.out⟩
theorem RC (A : Option Addr) (n cap c : Nat) (L : List (List UInt8)) (gk gc gt k top : Nat) (x : UInt8) (w : World) (hL : uU w A n c L) (hk : k < n) (ht : top < n) (hkt : k≠top) (hn : n≤64) (hc : c≤140737488355328)
  (bk : w.cell? ⟨gk,0,none⟩ = some (.int .i64 (k : Int))) (bt : w.cell? ⟨gt,0,none⟩ = some (.int .i64 (top : Int))) (bc : w.cell? ⟨gc,0,none⟩ = some (.int .u8 (x.toNat : Int)))
  (hgi : ∀ g,A = some ⟨g,0,none⟩→g≠gk∧g≠gt∧g≠gc) :
  Calls Try.prog 97 #[.slice A n cap,.pointer (some ⟨gk,0,none⟩),.pointer (some ⟨gc,0,none⟩),.pointer (some ⟨gt,0,none⟩)] w fun e w' => e = .returned (.tuple #[])∧uU w' A n c (L.set k (Gf.sY (L.getD k []) x (L.getD top []))) ∧ ∃ g,A = some ⟨g,0,none⟩∧w.grownBy w' (some g):=by
 obtain ⟨g,Ak,ck,rfl,hg,hck,hfk,hle,hrk⟩:=hL.at_ hk;obtain ⟨g2,At,ct,e2,_,hct,hft,hlt,hrt⟩:=hL.at_ ht;simp only [Option.some.injEq,Addr.mk.injEq,and_true] at e2;subst e2;obtain ⟨n1,n2,n3⟩:=hgi g rfl;have k0 : (0 : Int)≤(k : Int):=by omega
 have k1 : (k : Int) < (n : Int):=by omega
 have t0 : (0 : Int)≤(top : Int):=by omega
 have t1 : (top : Int) < (n : Int):=by omega
 have wk:=hL.width hk;have wt:=hL.width ht;have hrk2:=hrk.rd;have hrt2:=hrt.rd;rw [wk] at hrk2;rw [wt] at hrt2;have HMC:=Lib.hid (aLh Ak c ck x At ct (L.getD k []) (L.getD top []) w.drew (show Rd w.drew w.drew.heap.size Ak c (fQ (L.getD k [])) from hrk2) (show Rd w.drew w.drew.heap.size At c (fQ (L.getD top [])) from hrt2) hc);have HWID:=Lib.hid (show (Gf.sY (L.getD k []) x (L.getD top [])).length = c by unfold Gf.sY;rw [List.length_zipWith,wk,wt,Nat.min_self]);have HL:=Lib.hid hL;have HLK:=Lib.hid (jH bk);have HLT:=Lib.hid (jH bt);have HLC:=Lib.hid (jH bc);clear hL hgi hrk hrt hrk2 hrt2 wk wt;go_enter Try.func97,Try.ntmps97;go_wp2_with fail
 have HGG:=Lib.hid hg;have HCT:=Lib.hid hct;refine wp_region_held_drew (S:=(fun w' => w'.cell? ⟨gk,0,none⟩ = some (.int .i64 (k : Int))∧w'.cell? ⟨gt,0,none⟩ = some (.int .i64 (top : Int))∧w'.cell? ⟨gc,0,none⟩ = some (.int .u8 (x.toNat : Int))∧w'.cell? ⟨g,top,none⟩ = some (.slice At c ct))) (by kernel_rfl) ⟨bk,bt,bc,hct⟩ (fun hHeld => ?_);refine wpAnyH_take (i:=0) (v:=?_) rfl (by kernel_rfl) (by kernel_rfl) (by kernel_rfl) (fun _ _ _ h => h) (Or.inl ⟨by rfl,?_⟩) (by assumption) ?_;rotate_left
 ·(intro w hSw;(try dsimp only at hSw);go_simp;(try with_reducible rfl))
 (try simp only [Act.put,cT,cS,cU]);refine wpAnyH_take (i:=1) (v:=?_) rfl (by kernel_rfl) (by kernel_rfl) (by kernel_rfl) (fun _ _ _ h => h) (Or.inl ⟨by rfl,?_⟩) (by assumption) ?_;rotate_left
 ·(intro w hSw;(try dsimp only at hSw);go_simp;(try with_reducible rfl))
 (try simp only [Act.put,cT,cS,cU]);refine wpAnyH_take (i:=2) (v:=?_) rfl (by kernel_rfl) (by kernel_rfl) (by kernel_rfl) (fun _ _ _ h => h) (Or.inl ⟨by rfl,?_⟩) (by assumption) ?_;rotate_left
 ·(intro w hSw;(try dsimp only at hSw);go_simp;(try with_reducible rfl))
 (try simp only [Act.put,cT,cS,cU]);refine wpAnyH_take (i:=3) (v:=?_) rfl (by kernel_rfl) (by kernel_rfl) (by kernel_rfl) (fun _ _ _ h => h) (Or.inl ⟨by rfl,?_⟩) (by assumption) ?_;rotate_left
 ·(intro w hSw;(try dsimp only at hSw);go_simp;(try with_reducible rfl))
 (try simp only [Act.put,cT,cS,cU]);refine wpAnyH_take (i:=4) (v:=?_) rfl (by kernel_rfl) (by kernel_rfl) (by kernel_rfl) (fun _ _ _ h => h) (Or.inl ⟨by rfl,?_⟩) (by assumption) ?_;rotate_left
 ·(intro w hSw;(try dsimp only at hSw);go_simp;(try with_reducible rfl))
 (try simp only [Act.put,cT,cS,cU]);refine wpAnyH_take (i:=6) (v:=?_) rfl (by kernel_rfl) (by kernel_rfl) (by kernel_rfl) (fun _ _ _ h => h) (Or.inl ⟨by rfl,?_⟩) (by assumption) ?_;rotate_left
 ·(intro w hSw;(try dsimp only at hSw);go_simp;(try with_reducible rfl))
 (try simp only [Act.put,cT,cS,cU]);refine wpAnyH_take (i:=7) (v:=?_) rfl (by kernel_rfl) (by kernel_rfl) (by kernel_rfl) (fun _ _ _ h => h) (Or.inl ⟨by rfl,?_⟩) (by assumption) ?_;rotate_left
 ·(intro w hSw;(try dsimp only at hSw);go_simp;(try with_reducible rfl))
 (try simp only [Act.put,cT,cS,cU]);refine wpAnyH_take (i:=8) (v:=?_) rfl (by kernel_rfl) (by kernel_rfl) (by kernel_rfl) (fun _ _ _ h => h) (Or.inl ⟨by rfl,?_⟩) (by assumption) ?_;rotate_left
 ·(intro w hSw;(try dsimp only at hSw);go_simp;(try with_reducible rfl))
 (try simp only [Act.put,cT,cS,cU]);refine wpAnyH_take (i:=9) (v:=?_) rfl (by kernel_rfl) (by kernel_rfl) (by kernel_rfl) (fun _ _ _ h => h) (Or.inl ⟨by rfl,?_⟩) (by assumption) ?_;rotate_left
 ·(intro w hSw;(try dsimp only at hSw);go_simp;(try with_reducible rfl))
 (try simp only [Act.put,cT,cS,cU]);refine wpAnyH_take (i:=10) (v:=?_) rfl (by kernel_rfl) (by kernel_rfl) (by kernel_rfl) (fun _ _ _ h => h) (Or.inl ⟨by rfl,?_⟩) (by assumption) ?_;rotate_left
 ·(intro w hSw;(try dsimp only at hSw);go_simp;(try with_reducible rfl))
 (try simp only [Act.put,cT,cS,cU]);refine wpAnyH_ready (rs:=[5]) (by kernel_rfl) (by simp) ?_;refine AllReadyH.cons rfl (fun K hK => ?_) AllReadyH.nil;go_simp;refine hK.out _ _ hHeld (fun hHeld => ?_);clear hK K;(try simp only [Act.put,cT,cS,cU]);refine wpAnyH_ready (rs:=[11]) (by kernel_rfl) (by simp) ?_;refine AllReadyH.cons rfl (fun K hK => ?_) AllReadyH.nil;go_simp;refine HMC.out.mono ?_;rintro e w3 ⟨A3,c3,rfl,o3,hb⟩;have hc3 : w3.cell? ⟨g,k,none⟩ = some (.slice Ak c ck):=(hb.cell (p:=⟨g,k,none⟩) hg).trans hck;have hf3 : w3.frozen? ⟨g,k,none⟩ = false:=(hb.frozen (p:=⟨g,k,none⟩) hg).trans hfk;have HO3:=Lib.hid o3;have VJ:=Lib.hid hb;clear hb o3;go_wp2_with fail
 refine hK.out _ _ ⟨(VJ.out.cell (p:=⟨gk,0,none⟩) HLK.out).trans hHeld.1,(VJ.out.cell (p:=⟨gt,0,none⟩) HLT.out).trans hHeld.2.1,(VJ.out.cell (p:=⟨gc,0,none⟩) HLC.out).trans hHeld.2.2.1,(VJ.out.cell (p:=⟨g,top,none⟩) HGG.out).trans hHeld.2.2.2⟩ (fun hHeld => ?_);clear hK K;(try simp only [Act.put,cT,cS,cU]);refine wpAnyH_take (i:=12) (v:=?_) rfl (by kernel_rfl) (by kernel_rfl) (by kernel_rfl) (fun _ _ _ h => h) (Or.inl ⟨by rfl,?_⟩) (by assumption) ?_;rotate_left
 ·(intro w hSw;(try dsimp only at hSw);go_simp;(try with_reducible rfl))
 (try simp only [Act.put,cT,cS,cU]);refine wpAnyH_take (i:=13) (v:=?_) rfl (by kernel_rfl) (by kernel_rfl) (by kernel_rfl) (fun _ _ _ h => h) (Or.inl ⟨by rfl,?_⟩) (by assumption) ?_;rotate_left
 ·(intro w hSw;(try dsimp only at hSw);go_simp;(try with_reducible rfl))
 (try simp only [Act.put,cT,cS,cU]);refine wpAnyH_take (i:=14) (v:=?_) rfl (by kernel_rfl) (by kernel_rfl) (by kernel_rfl) (fun _ _ _ h => h) (Or.inl ⟨by rfl,?_⟩) (by assumption) ?_;rotate_left
 ·(intro w hSw;(try dsimp only at hSw);go_simp;(try with_reducible rfl))
 (try simp only [Act.put,cT,cS,cU]);refine wpAnyH_take (i:=15) (v:=?_) rfl (by kernel_rfl) (by kernel_rfl) (by kernel_rfl) (fun _ _ _ h => h) (Or.inl ⟨by rfl,?_⟩) (by assumption) ?_;rotate_left
 ·(intro w hSw;(try dsimp only at hSw);go_simp;(try with_reducible rfl))
 (try simp only [Act.put,cT,cS,cU]);refine wpAnyH_ready (rs:=[16]) (by kernel_rfl) (by simp) ?_;refine AllReadyH.cons rfl (fun K hK => ?_) AllReadyH.nil;go_simp;refine hK.out _ _ ⟨cell_far hHeld.1 (.inl n1),cell_far hHeld.2.1 (.inl n2),cell_far hHeld.2.2.1 (.inl n3),cell_far hHeld.2.2.2 (.inr hkt)⟩ (fun hHeld => ?_);clear hK K;(try simp only [Act.put,cT,cS,cU]);refine wpAnyH_done (by kernel_rfl) ?_ _;have HF:=Lib.hid (show uU (w3.setCell ⟨g,k,none⟩ (.slice A3 c c3)) (some ⟨g,0,none⟩) n c (L.set k (Gf.sY (L.getD k []) x (L.getD top []))) from
  ((HL.out.drew).below VJ.out).store hk rfl HWID.out HO3.out.le' (ID.aCW HO3.out))
 have HGF:=Lib.hid (show w.grownBy (w3.setCell ⟨g,k,none⟩ (.slice A3 c c3)) (some g) from lY (p:=⟨g,k,none⟩) (GO (a:=w) (w:=w.drew) (BN (World.grownBy.refl w (some g))) VJ.out) (.inl rfl) _);go_wp2_with fail
 go_end0
 exact ⟨rfl,HF.out,g,rfl,HGF.out⟩
end Go.Proofs.Yteofcbkjhdadpaa
namespace Go.Proofs.Yteofcbkjhdadpaa
open Go.RowKit
structure Chg (w w' : World) (gl ga : Nat) : Prop where
 os : w'.os = w.os
 tape : w'.tape = w.tape
 output : w'.output = w.output
 size : w.heap.size≤w'.heap.size
 block : ∀ k,k < w.heap.size→k≠gl→k≠ga→w'.heap[k]? = w.heap[k]?
theorem Chg.below {w w' : World} {gl ga B : Nat} (h : Chg w w' gl ga) (hl : B≤gl) (ha : B≤ga) (hB : B≤w.heap.size) : Below B w w':=⟨h.os,h.tape,h.output,h.size,fun k hk => h.block k (by omega) (by omega) (by omega)⟩
theorem Chg.two {w w1 w2 : World} {gl ga : Nat} (h1 : w.grownBy w1 (some gl)) (h2 : w1.grownBy w2 (some ga)) : Chg w w2 gl ga :=
 ⟨h2.os.trans h1.os,h2.tape.trans h1.tape,h2.output.trans h1.output,Nat.le_trans h1.size h2.size,fun k hk n1 n2 => (h2.block k (Nat.lt_of_lt_of_le hk h1.size) (by simpa using n2)).trans (h1.block k hk (by simpa using n1))⟩
theorem Chg.cell {w w' : World} {gl ga : Nat} (h : Chg w w' gl ga) {a : Addr} {v : Value} (hc : w.cell? a = some v) (n1 : a.block≠gl) (n2 : a.block≠ga) : w'.cell? a = some v:=(World.cell?_of_block (h.block a.block (World.block_lt_of_cell? w a hc) n1 n2)).trans hc
theorem Row.EL {w : World} {g g' : Nat} {t t' : TypeId} {ys ys' : List Value} (h : Row w g t ys) (h' : Row w g' t' ys') (ht : t≠t') : g≠g':=by
 rintro rfl;unfold Row at h h';rw [h] at h';injection h' with h';injection h' with _ e2;exact ht e2
theorem VH (gb gr gl ga n capl c m : Nat) (L A L1 A1 : List (List UInt8)) (p q r : Value) (w : World) (h : Gz w gr (some ⟨gl,0,none⟩) (some ⟨ga,0,none⟩) n capl c m L A) (h0 : 0 < n)
  (hb : w.cell? ⟨gb,0,none⟩ = some (.pointer (some ⟨gr,0,none⟩))) (hgb : gb≠gl) (hgr : gr≠gl) (hgr2 : gr≠ga) (hne : gl≠ga)
  (D1 : Calls Try.prog 95 #[.slice (some ⟨gl,0,none⟩) n capl,p,q,r] w fun e w' => e = .returned (.tuple #[])∧uU w' (some ⟨gl,0,none⟩) n c L1 ∧ ∃ g,(some ⟨gl,0,none⟩ : Option Addr) = some ⟨g,0,none⟩∧w.grownBy w' (some g))
  (D2 : ∀ w1,w.grownBy w1 (some gl)→uU w1 (some ⟨ga,0,none⟩) n m A→Calls Try.prog 95 #[.slice (some ⟨ga,0,none⟩) n n,p,q,r] w1 fun e w' => e = .returned (.tuple #[])∧uU w' (some ⟨ga,0,none⟩) n m A1 ∧ ∃ g,(some ⟨ga,0,none⟩ : Option Addr) = some ⟨g,0,none⟩∧w1.grownBy w' (some g)) :
  Calls Try.prog 93 #[.func (.func 95) #[] #[p,q,r],.pointer (some ⟨gb,0,none⟩)] w fun e w' => e = .returned (.tuple #[])∧Gz w' gr (some ⟨gl,0,none⟩) (some ⟨ga,0,none⟩) n capl c m L1 A1∧Chg w w' gl ga:=by
 have c0 : w.cell? ⟨gr,0,none⟩ = some (.slice (some ⟨gl,0,none⟩) n capl):=h.row.cell 0;have c1 : w.cell? ⟨gr,1,none⟩ = some (.slice (some ⟨ga,0,none⟩) n n):=h.row.cell 1;have H:=Lib.hid h;clear h;go_enter Try.func93,Try.ntmps93;go_wp2_with fail
 refine D1.mono ?_;rintro e w1 ⟨rfl,hl1,g,e1,hg1⟩;injection e1 with e1;injection e1 with e1;subst e1;have hbb:=hg1.cell hb (by simpa using hgb);have hcc:=hg1.cell c1 (by simpa using hgr);obtain ⟨_,lv,e4,hrow⟩:=H.out.l.row h0;injection e4 with e4;injection e4 with e4;subst e4;have ha1 : uU w1 (some ⟨ga,0,none⟩) n m A:=H.out.also.grown hg1 hrow (by decide) (by intro e;injection e with e;injection e with e;exact hne e.symm);have HD2:=Lib.hid (D2 w1 hg1 ha1);have HL1:=Lib.hid hl1;have HG1:=Lib.hid hg1;have HA1:=Lib.hid ha1;clear D1 D2 hl1 hg1 ha1 c0 c1 hb hrow;go_wp2_with fail
 refine HD2.out.mono ?_;rintro e w2 ⟨rfl,hl2,g,e1,hg2⟩;injection e1 with e1;injection e1 with e1;subst e1;obtain ⟨_,lv2,e4,hrow2⟩:=HA1.out.row h0;injection e4 with e4;injection e4 with e4;subst e4;have hch:=Chg.two HG1.out hg2;have hf : uU w2 (some ⟨gl,0,none⟩) n c L1:=HL1.out.grown hg2 hrow2 (by decide) (by intro e;injection e with e;injection e with e;exact hne e);have hrw:=H.out.row.of_block (hch.block gr H.out.row.lt hgr hgr2);have HR:=Lib.hid (show Gz w2 gr (some ⟨gl,0,none⟩) (some ⟨ga,0,none⟩) n capl c m L1 A1 from ⟨hrw,hf,hl2,H.out.le,H.out.ne⟩);have HC:=Lib.hid hch;clear hl2 hg2 hrow2 hch hf hrw hbb hcc;go_wp2_with fail
 go_end0
 exact ⟨rfl,HR.out,HC.out⟩
theorem aAb (gb gr gl ga n capl c m : Nat) (L A L1 A1 : List (List UInt8)) (p q r : Value) (w : World) (h : Gz w gr (some ⟨gl,0,none⟩) (some ⟨ga,0,none⟩) n capl c m L A) (h0 : 0 < n)
  (hb : w.cell? ⟨gb,0,none⟩ = some (.pointer (some ⟨gr,0,none⟩))) (hgb : gb≠gl) (hgr : gr≠gl) (hgr2 : gr≠ga) (hne : gl≠ga)
  (D1 : Calls Try.prog 97 #[.slice (some ⟨gl,0,none⟩) n capl,p,q,r] w fun e w' => e = .returned (.tuple #[])∧uU w' (some ⟨gl,0,none⟩) n c L1 ∧ ∃ g,(some ⟨gl,0,none⟩ : Option Addr) = some ⟨g,0,none⟩∧w.grownBy w' (some g))
  (D2 : ∀ w1,w.grownBy w1 (some gl)→uU w1 (some ⟨ga,0,none⟩) n m A→Calls Try.prog 97 #[.slice (some ⟨ga,0,none⟩) n n,p,q,r] w1 fun e w' => e = .returned (.tuple #[])∧uU w' (some ⟨ga,0,none⟩) n m A1 ∧ ∃ g,(some ⟨ga,0,none⟩ : Option Addr) = some ⟨g,0,none⟩∧w1.grownBy w' (some g)) :
  Calls Try.prog 93 #[.func (.func 97) #[] #[p,q,r],.pointer (some ⟨gb,0,none⟩)] w fun e w' => e = .returned (.tuple #[])∧Gz w' gr (some ⟨gl,0,none⟩) (some ⟨ga,0,none⟩) n capl c m L1 A1∧Chg w w' gl ga:=by
 have c0 : w.cell? ⟨gr,0,none⟩ = some (.slice (some ⟨gl,0,none⟩) n capl):=h.row.cell 0;have c1 : w.cell? ⟨gr,1,none⟩ = some (.slice (some ⟨ga,0,none⟩) n n):=h.row.cell 1;have H:=Lib.hid h;clear h;go_enter Try.func93,Try.ntmps93;go_wp2_with fail
 refine D1.mono ?_;rintro e w1 ⟨rfl,hl1,g,e1,hg1⟩;injection e1 with e1;injection e1 with e1;subst e1;have hbb:=hg1.cell hb (by simpa using hgb);have hcc:=hg1.cell c1 (by simpa using hgr);obtain ⟨_,lv,e4,hrow⟩:=H.out.l.row h0;injection e4 with e4;injection e4 with e4;subst e4;have ha1 : uU w1 (some ⟨ga,0,none⟩) n m A:=H.out.also.grown hg1 hrow (by decide) (by intro e;injection e with e;injection e with e;exact hne e.symm);have HD2:=Lib.hid (D2 w1 hg1 ha1);have HL1:=Lib.hid hl1;have HG1:=Lib.hid hg1;have HA1:=Lib.hid ha1;clear D1 D2 hl1 hg1 ha1 c0 c1 hb hrow;go_wp2_with fail
 refine HD2.out.mono ?_;rintro e w2 ⟨rfl,hl2,g,e1,hg2⟩;injection e1 with e1;injection e1 with e1;subst e1;obtain ⟨_,lv2,e4,hrow2⟩:=HA1.out.row h0;injection e4 with e4;injection e4 with e4;subst e4;have hch:=Chg.two HG1.out hg2;have hf : uU w2 (some ⟨gl,0,none⟩) n c L1:=HL1.out.grown hg2 hrow2 (by decide) (by intro e;injection e with e;injection e with e;exact hne e);have hrw:=H.out.row.of_block (hch.block gr H.out.row.lt hgr hgr2);have HR:=Lib.hid (show Gz w2 gr (some ⟨gl,0,none⟩) (some ⟨ga,0,none⟩) n capl c m L1 A1 from ⟨hrw,hf,hl2,H.out.le,H.out.ne⟩);have HC:=Lib.hid hch;clear hl2 hg2 hrow2 hch hf hrw hbb hcc;go_wp2_with fail
 go_end0
 exact ⟨rfl,HR.out,HC.out⟩
end Go.Proofs.Yteofcbkjhdadpaa
namespace Go.Proofs.Yteofcbkjhdadpaa
open Go.RowKit
def rU (L : List (List UInt8)) (i top : Nat) (v : UInt8) : List (List UInt8):=(L.set i (L.getD top [])).set top ((L.getD i []).map (Gf.mul v))
def eZ (top j : Nat) : Nat→List (List UInt8)→List (List UInt8)
 | 0,L => L
 | k + 1,L => if k≠top∧gL (eZ top j k L) k j≠0 then (eZ top j k L).set k (Gf.sY ((eZ top j k L).getD k []) (gL (eZ top j k L) k j) ((eZ top j k L).getD top [])) else eZ top j k L
def nR (top j : Nat) (L : List (List UInt8)) : Nat→List (List UInt8)→List (List UInt8)
 | 0,A => A
 | k + 1,A => if k≠top∧gL (eZ top j k L) k j≠0 then (nR top j L k A).set k (Gf.sY ((nR top j L k A).getD k []) (gL (eZ top j k L) k j) ((nR top j L k A).getD top [])) else nR top j L k A
inductive DS (n c : Nat) : Nat→Nat→List (List UInt8)→List (List UInt8)→List Nat→List (List UInt8)→List (List UInt8)→List Nat→Prop
 | full {top col : Nat} {L A : List (List UInt8)} {piv : List Nat} (h : n≤top) : DS n c top col L A piv L A piv
 | none {top col : Nat} {L A : List (List UInt8)} {piv : List Nat} (h : top < n) (hz : ∀ j',col≤j'→j' < c → ∀ i',top≤i'→i' < n→gL L i' j' = 0) : DS n c top col L A piv L A piv
 | step {top col i j : Nat} {L A L' A' : List (List UInt8)} {piv piv' : List Nat} (h : top < n) (hi : i < n) (hti : top≤i) (hj : j < c) (hcj : col≤j) (hx : gL L i j≠0) (hzi : ∀ i',top≤i'→i' < i→gL L i' j = 0)
   (hz : ∀ j',col≤j'→j' < j → ∀ i',top≤i'→i' < n→gL L i' j' = 0)
   (hr : DS n c (top + 1) (j + 1) (eZ top j n (rU L i top (Gf.inv (gL L i j)))) (nR top j (rU L i top (Gf.inv (gL L i j))) n (rU A i top (Gf.inv (gL L i j)))) (piv ++ [j]) L' A' piv') : DS n c top col L A piv L' A' piv'
theorem DS.unique {n c top col : Nat} {L A L1 A1 L2 A2 : List (List UInt8)} {piv p1 p2 : List Nat} (h1 : DS n c top col L A piv L1 A1 p1) : DS n c top col L A piv L2 A2 p2→L1 = L2∧A1 = A2∧p1 = p2:=by
 induction h1 with
 | full h => intro h2;cases h2 with
  | full => exact ⟨rfl,rfl,rfl⟩
  | none => exact ⟨rfl,rfl,rfl⟩
  | step h' => omega
 | none h hz => intro h2;cases h2 with
  | full h' => exact ⟨rfl,rfl,rfl⟩
  | none => exact ⟨rfl,rfl,rfl⟩
  | step h' hi hti hj hcj hx => exact absurd (hz _ hcj hj _ hti hi) hx
 | @step top col i j L A L' A' piv piv' h hi hti hj hcj hx hzi hz hr ih => intro h2;cases h2 with
  | full h' => omega
  | none h' hz' => exact absurd (hz' _ hcj hj _ hti hi) hx
  | @step _ _ i2 j2 _ _ _ _ _ _ h' hi' hti' hj' hcj' hx' hzi' hz' hr' =>
   obtain rfl : j = j2:=by
    rcases Nat.lt_trichotomy j j2 with e | e | e
    ·exact absurd (hz' _ hcj e _ hti hi) hx
    ·exact e
    ·exact absurd (hz _ hcj' e _ hti' hi') hx'
   obtain rfl : i = i2:=by
    rcases Nat.lt_trichotomy i i2 with e | e | e
    ·exact absurd (hzi' _ hti e) hx
    ·exact e
    ·exact absurd (hzi _ hti' e) hx'
   exact ih hr'
end Go.Proofs.Yteofcbkjhdadpaa
namespace Go.Proofs.Yteofcbkjhdadpaa
open Gf
abbrev Mx:=Nat→Nat→UInt8
def qX (f : Nat→UInt8) : Nat→UInt8
 | 0 => 0
 | n + 1 => add (qX f n) (f n)
theorem eQ {f g : Nat→UInt8} : ∀ {n},(∀ i,i < n→f i = g i)→qX f n = qX g n
 | 0,_ => rfl
 | n + 1,h => by rw [qX,qX,eQ (n:=n) (fun i hi => h i (by omega)),h n (by omega)]
theorem yW {f : Nat→UInt8} : ∀ {n},(∀ i,i < n→f i = 0)→qX f n = 0
 | 0,_ => rfl
 | n + 1,h => by rw [qX,yW (n:=n) (fun i hi => h i (by omega)),h n (by omega)];rfl
theorem PF (f g : Nat→UInt8) : ∀ n,qX (fun i => add (f i) (g i)) n = add (qX f n) (qX g n)
 | 0 => (add_zero 0).symm
 | n + 1 => by
  rw [qX,qX,qX,PF f g n,add_assoc,add_assoc,add_left_comm (f n)]
theorem FV (c : UInt8) (f : Nat→UInt8) : ∀ n,qX (fun i => mul c (f i)) n = mul c (qX f n)
 | 0 => (mul_zero c).symm
 | n + 1 => by rw [qX,qX,FV c f n,mul_add]
theorem MF (c : UInt8) (f : Nat→UInt8) (n : Nat) : qX (fun i => mul (f i) c) n = mul (qX f n) c:=by
 rw [mul_comm,← FV];exact eQ fun i _ => mul_comm _ _
theorem pJ {f : Nat→UInt8} {q : Nat} : ∀ {n},q < n→(∀ i,i < n→i≠q→f i = 0)→qX f n = f q
 | 0,h,_ => by omega
 | n + 1,h,hz => by
  rw [qX]
  rcases Nat.lt_or_ge q n with h1 | h1
  ·rw [pJ h1 (fun i hi hne => hz i (by omega) hne),hz n (by omega) (by omega),add_zero]
  ·obtain rfl : q = n:=by omega
   rw [yW (fun i hi => hz i (by omega) (by omega)),zero_add]
theorem PE (f : Nat→Nat→UInt8) (m : Nat) : ∀ n,qX (fun i => qX (fun j => f i j) m) n = qX (fun j => qX (fun i => f i j) n) m
 | 0 => (yW (fun _ _ => rfl)).symm
 | n + 1 => by
  rw [qX,PE f m n,← PF];rfl
theorem aMr {f : Nat→UInt8} {m : Nat} : ∀ {n},m≤n→(∀ i,m≤i→i < n→f i = 0)→qX f n = qX f m
 | 0,h,_ => by
         obtain rfl : m = 0:=by omega
         rfl
 | n + 1,h,hz => by
  rcases Nat.lt_or_ge n m with h1 | h1
  ·obtain rfl : m = n + 1:=by omega
   rfl
  ·rw [qX,hz n h1 (by omega),add_zero,aMr h1 (fun i h2 h3 => hz i h2 (by omega))]
def sS (M : Mx) (c : Nat) (x : Nat→UInt8) (k : Nat) : UInt8:=qX (fun l => mul (M k l) (x l)) c
def DZ (M : Mx) (i top : Nat) (v : UInt8) : Mx:=fun k l => if k = top then mul v (M i l) else if k = i then M top l else M k l
def aBa (S : Mx) (C : Nat→UInt8) (top : Nat) : Mx:=fun k l => if k = top then S k l else add (S k l) (mul (C k) (S top l))
def stF (M : Mx) (i top j : Nat) : Mx:=aBa (DZ M i top (inv (M i j))) (fun k => DZ M i top (inv (M i j)) k j) top
def stA (M A : Mx) (i top j : Nat) : Mx:=aBa (DZ A i top (inv (M i j))) (fun k => DZ M i top (inv (M i j)) k j) top
inductive sA (n c : Nat) : Nat→Nat→Mx→Mx→List Nat→Mx→Mx→List Nat→Prop
 | full {top col : Nat} {L A : Mx} {piv : List Nat} (h : n≤top) : sA n c top col L A piv L A piv
 | none {top col : Nat} {L A : Mx} {piv : List Nat} (h : top < n) (hz : ∀ j',col≤j'→j' < c → ∀ i',top≤i'→i' < n→L i' j' = 0) : sA n c top col L A piv L A piv
 | step {top col i j : Nat} {L A L' A' : Mx} {piv piv' : List Nat} (h : top < n) (hi : i < n) (hti : top≤i) (hj : j < c) (hcj : col≤j) (hx : L i j≠0) (hzi : ∀ i',top≤i'→i' < i→L i' j = 0)
   (hz : ∀ j',col≤j'→j' < j → ∀ i',top≤i'→i' < n→L i' j' = 0)
   (hr : sA n c (top + 1) (j + 1) (stF L i top j) (stA L A i top j) (piv ++ [j]) L' A' piv') : sA n c top col L A piv L' A' piv'
structure fC (n c : Nat) (L : List (List UInt8)) : Prop where
 len : L.length = n
 wid : ∀ i,i < n→(L.getD i []).length = c
theorem aRx {n c : Nat} {L : List (List UInt8)} (h : fC n c L) {k : Nat} (hk : n≤k) (l : Nat) : gL L k l = 0:=by
 have e : L.getD k [] = []:=by
  rw [List.getD_eq_getElem?_getD,List.getElem?_eq_none (by rw [h.len];exact hk)];rfl
 unfold gL;rw [e];rfl
theorem PW (v : UInt8) (xs : List UInt8) (l : Nat) : (xs.map (mul v)).getD l 0 = mul v (xs.getD l 0):=by
 rw [List.getD_eq_getElem?_getD,List.getD_eq_getElem?_getD,List.getElem?_map]
 cases xs[l]? with
 | none => exact (mul_zero v).symm
 | some x => rfl
theorem aIt {ds ss : List UInt8} (c : UInt8) (h : ds.length = ss.length) (l : Nat) : (sY ds c ss).getD l 0 = add (ds.getD l 0) (mul c (ss.getD l 0)):=by
 unfold sY;rw [List.getD_eq_getElem?_getD,List.getD_eq_getElem?_getD,List.getD_eq_getElem?_getD,List.getElem?_zipWith]
 rcases Nat.lt_or_ge l ss.length with h1 | h1
 ·rw [List.getElem?_eq_getElem h1,List.getElem?_eq_getElem (by omega : l < ds.length)]
  rfl
 ·rw [List.getElem?_eq_none h1,List.getElem?_eq_none (by omega : ds.length≤l)]
  simp [mul_zero,add_zero]
theorem BM {ds ss : List UInt8} (c : UInt8) (h : ds.length = ss.length) : (sY ds c ss).length = ds.length:=by simp [sY,h]
theorem aEV {n c : Nat} {L : List (List UInt8)} (h : fC n c L) {i top : Nat} (hi : i < n) (ht : top < n) (v : UInt8) (k : Nat) :
  (rU L i top v).getD k [] = if k = top then (L.getD i []).map (mul v) else if k = i then L.getD top [] else L.getD k []:=by
 unfold rU;rw [gE (by rw [List.length_set,h.len];exact ht),gE (by rw [h.len];exact hi)]
theorem xE {n c : Nat} {L : List (List UInt8)} (h : fC n c L) {i top : Nat} (hi : i < n) (ht : top < n) (v : UInt8) : fC n c (rU L i top v):=by
 refine ⟨by simp [rU,h.len],fun k hk => ?_⟩;rw [aEV h hi ht]
 split
 ·rw [List.length_map];exact h.wid i hi
 ·split
  ·exact h.wid top ht
  ·exact h.wid k hk
theorem aIi {n c : Nat} {L : List (List UInt8)} (h : fC n c L) {i top : Nat} (hi : i < n) (ht : top < n) (v : UInt8) : gL (rU L i top v) = DZ (gL L) i top v:=by
 funext k l
 unfold gL DZ;rw [aEV h hi ht]
 split
 ·exact PW v _ l
 ·split <;> rfl
theorem uG {n c : Nat} {L : List (List UInt8)} (h : fC n c L) {top j : Nat} (ht : top < n) : ∀ m,m≤n→fC n c (eZ top j m L) ∧ ∀ k,(eZ top j m L).getD k [] = if k < m∧k≠top∧gL L k j≠0 then sY (L.getD k []) (gL L k j) (L.getD top []) else L.getD k []
 | 0,_ => ⟨h,fun k => by rw [if_neg (by omega)];rfl⟩
 | m + 1,hm => by
  obtain ⟨hr,ih⟩:=uG h ht m (by omega) (j:=j);have e1 : (eZ top j m L).getD m [] = L.getD m []:=by rw [ih,if_neg (by omega)]
  have e2 : (eZ top j m L).getD top [] = L.getD top []:=by rw [ih,if_neg (by simp)]
  have e3 : gL (eZ top j m L) m j = gL L m j:=by unfold gL;rw [e1]
  rw [eZ,e1,e2,e3]
  by_cases hc : m≠top∧gL L m j≠0
  ·rw [if_pos hc]
   have hl : (sY (L.getD m []) (gL L m j) (L.getD top [])).length = c:=by
    rw [BM _ (by rw [h.wid m (by omega),h.wid top ht])];exact h.wid m (by omega)
   have hg : ∀ k,((eZ top j m L).set m (sY (L.getD m []) (gL L m j) (L.getD top []))).getD k [] = if k = m then sY (L.getD m []) (gL L m j) (L.getD top []) else (eZ top j m L).getD k []:=fun k => gE (by rw [hr.len];omega)
   refine ⟨⟨by rw [List.length_set];exact hr.len,fun k hk => ?_⟩,fun k => ?_⟩
   ·rw [hg]
    split
    ·exact hl
    ·exact hr.wid k hk
   ·rw [hg,ih]
    by_cases hk : k = m
    ·subst hk
     rw [if_pos rfl,if_pos ⟨by omega,hc⟩]
    ·rw [if_neg hk]
     by_cases h2 : k < m∧k≠top∧gL L k j≠0
     ·rw [if_pos h2,if_pos ⟨by omega,h2.2⟩]
     ·rw [if_neg h2,if_neg (fun h3 => h2 ⟨by omega,h3.2⟩)]
  ·rw [if_neg hc]
   refine ⟨hr,fun k => ?_⟩;rw [ih]
   by_cases h2 : k < m∧k≠top∧gL L k j≠0
   ·rw [if_pos h2,if_pos ⟨by omega,h2.2⟩]
   ·rw [if_neg h2]
    refine (if_neg (fun h3 => ?_)).symm
    by_cases hk : k = m
    ·subst hk;exact hc h3.2
    ·exact h2 ⟨by omega,h3.2⟩
theorem xH {n c m0 : Nat} {L A : List (List UInt8)} (h : fC n c L) (hA : fC n m0 A) {top j : Nat} (ht : top < n) : ∀ m,m≤n→fC n m0 (nR top j L m A) ∧ ∀ k,(nR top j L m A).getD k [] = if k < m∧k≠top∧gL L k j≠0 then sY (A.getD k []) (gL L k j) (A.getD top []) else A.getD k []
 | 0,_ => ⟨hA,fun k => by rw [if_neg (by omega)];rfl⟩
 | m + 1,hm => by
  obtain ⟨hr,ih⟩:=xH h hA ht m (by omega) (j:=j);have e1 : (nR top j L m A).getD m [] = A.getD m []:=by rw [ih,if_neg (by omega)]
  have e2 : (nR top j L m A).getD top [] = A.getD top []:=by rw [ih,if_neg (by simp)]
  have e3 : gL (eZ top j m L) m j = gL L m j:=by unfold gL;rw [(uG h ht m (by omega) (j:=j)).2,if_neg (by omega)]
  rw [nR,e1,e2,e3]
  by_cases hc : m≠top∧gL L m j≠0
  ·rw [if_pos hc]
   have hl : (sY (A.getD m []) (gL L m j) (A.getD top [])).length = m0:=by
    rw [BM _ (by rw [hA.wid m (by omega),hA.wid top ht])];exact hA.wid m (by omega)
   have hg : ∀ k,((nR top j L m A).set m (sY (A.getD m []) (gL L m j) (A.getD top []))).getD k [] = if k = m then sY (A.getD m []) (gL L m j) (A.getD top []) else (nR top j L m A).getD k []:=fun k => gE (by rw [hr.len];omega)
   refine ⟨⟨by rw [List.length_set];exact hr.len,fun k hk => ?_⟩,fun k => ?_⟩
   ·rw [hg]
    split
    ·exact hl
    ·exact hr.wid k hk
   ·rw [hg,ih]
    by_cases hk : k = m
    ·subst hk
     rw [if_pos rfl,if_pos ⟨by omega,hc⟩]
    ·rw [if_neg hk]
     by_cases h2 : k < m∧k≠top∧gL L k j≠0
     ·rw [if_pos h2,if_pos ⟨by omega,h2.2⟩]
     ·rw [if_neg h2,if_neg (fun h3 => h2 ⟨by omega,h3.2⟩)]
  ·rw [if_neg hc]
   refine ⟨hr,fun k => ?_⟩;rw [ih]
   by_cases h2 : k < m∧k≠top∧gL L k j≠0
   ·rw [if_pos h2,if_pos ⟨by omega,h2.2⟩]
   ·rw [if_neg h2]
    refine (if_neg (fun h3 => ?_)).symm
    by_cases hk : k = m
    ·subst hk;exact hc h3.2
    ·exact h2 ⟨by omega,h3.2⟩
theorem aFG {n c m0 : Nat} {L A : List (List UInt8)} (h : fC n c L) (hA : fC n m0 A) {top j : Nat} (ht : top < n) : gL (nR top j L n A) = aBa (gL A) (fun k => gL L k j) top:=by
 funext k l
 have e:=(xH h hA ht n (Nat.le_refl n) (j:=j)).2 k;show ((nR top j L n A).getD k []).getD l 0 = _;rw [e];unfold aBa
 by_cases hk : k = top
 ·rw [if_pos hk,if_neg (by simp [hk])];rfl
 ·rw [if_neg hk]
  by_cases hn : k < n
  ·have hl : (A.getD k []).length = (A.getD top []).length:=by rw [hA.wid k hn,hA.wid top ht]
   by_cases hc : gL L k j = 0
   ·rw [if_neg (by simp [hc])]
    simp only [hc,eS,add_zero];rfl
   ·rw [if_pos ⟨hn,hk,hc⟩,aIt _ hl];rfl
  ·rw [if_neg (fun h3 => hn h3.1)]
   simp only [aRx h (Nat.le_of_not_lt hn),eS,add_zero];rfl
theorem JQ {top j : Nat} {L : List (List UInt8)} : ∀ m,eZ top j m L = nR top j L m L
 | 0 => rfl
 | m + 1 => by rw [eZ,nR,JQ m]
theorem DS.toF {n c m top col : Nat} {L A L' A' : List (List UInt8)} {piv p' : List Nat} (h : DS n c top col L A piv L' A' p') : fC n c L→fC n m A→sA n c top col (gL L) (gL A) piv (gL L') (gL A') p'∧fC n c L'∧fC n m A':=by
 induction h with
 | full h => exact fun hl ha => ⟨.full h,hl,ha⟩
 | none h hz => exact fun hl ha => ⟨.none h hz,hl,ha⟩
 | @step top col i j L A L' A' piv piv' h hi hti hj hcj hx hzi hz hr ih =>
  intro hl ha;have s1:=xE hl hi h (inv (gL L i j));have s2:=xE ha hi h (inv (gL L i j));have e1:=uG s1 h n (Nat.le_refl n) (j:=j);have e2:=xH s1 s2 h n (Nat.le_refl n) (j:=j);obtain ⟨q1,q2,q3⟩:=ih e1.1 e2.1;refine ⟨.step h hi hti hj hcj hx hzi hz ?_,q2,q3⟩;rw [JQ,aFG s1 s1 h,aFG s1 s2 h,aIi hl hi h,aIi ha hi h] at q1;exact q1
end Go.Proofs.Yteofcbkjhdadpaa
namespace Go.Proofs.Yteofcbkjhdadpaa
open Gf
theorem aHk {v a b : UInt8} (hv : v≠0) (h : mul v a = mul v b) : a = b:=by
 have e : mul (inv v) (mul v a) = mul (inv v) (mul v b):=by rw [h]
 rwa [← mul_assoc,← mul_assoc,inv_mul hv,one_mul,one_mul] at e
theorem SY {a b c : UInt8} (h : add a c = add b c) : a = b:=by
 have e : add (add a c) c = add (add b c) c:=by rw [h]
 rwa [add_assoc,add_assoc,KD,add_zero,add_zero] at e
theorem zC (M : Mx) (i top : Nat) (v : UInt8) (c : Nat) (x : Nat→UInt8) (k : Nat) :
  sS (DZ M i top v) c x k = if k = top then mul v (sS M c x i) else if k = i then sS M c x top else sS M c x k:=by
 unfold sS DZ
 split
 ·rw [← FV]
  exact eQ fun l _ => mul_assoc _ _ _
 ·split <;> rfl
theorem EO (S : Mx) (C : Nat→UInt8) (top c : Nat) (x : Nat→UInt8) (k : Nat) :
  sS (aBa S C top) c x k = if k = top then sS S c x k else add (sS S c x k) (mul (C k) (sS S c x top)):=by
 unfold sS aBa
 split
 ·rfl
 ·rw [← FV,← PF]
  exact eQ fun l _ => by rw [add_mul,mul_assoc]
def aLE (n c m : Nat) (M A : Mx) (x y : Nat→UInt8) : Prop:=∀ k,k < n→sS M c x k = sS A m y k
theorem aPI {n c m : Nat} {M A : Mx} {x y : Nat→UInt8} {i top : Nat} {v : UInt8} (hv : v≠0) (hi : i < n) (ht : top < n) : aLE n c m (DZ M i top v) (DZ A i top v) x y ↔ aLE n c m M A x y:=by
 constructor
 ·intro h k hk
  by_cases e1 : k = i
  ·have h1:=h top ht
   rw [zC,zC,if_pos rfl,if_pos rfl] at h1;rw [e1];exact aHk hv h1
  ·by_cases e2 : k = top
   ·have h1:=h i hi
    have hne : ¬ i = top:=fun e => e1 (e2.trans e.symm)
    rw [zC,zC,if_neg hne,if_neg hne,if_pos rfl,if_pos rfl] at h1;rw [e2];exact h1
   ·have h1:=h k hk
    rw [zC,zC,if_neg e2,if_neg e2,if_neg e1,if_neg e1] at h1;exact h1
 ·intro h k hk
  rw [zC,zC,h i hi,h top ht,h k hk]
theorem aPJ {n c m : Nat} {S T : Mx} {C : Nat→UInt8} {x y : Nat→UInt8} {top : Nat} (ht : top < n) : aLE n c m (aBa S C top) (aBa T C top) x y ↔ aLE n c m S T x y:=by
 constructor
 ·intro h
  have h0:=h top ht;rw [EO,EO,if_pos rfl,if_pos rfl] at h0;intro k hk;have h1:=h k hk;rw [EO,EO] at h1
  by_cases e : k = top
  ·rw [e];exact h0
  ·rw [if_neg e,if_neg e,h0] at h1
   exact SY h1
 ·intro h k hk
  rw [EO,EO,h top ht,h k hk]
theorem sA.sat {n c m top col : Nat} {L A L' A' : Mx} {piv p' : List Nat} {x y : Nat→UInt8} (h : sA n c top col L A piv L' A' p') : aLE n c m L' A' x y ↔ aLE n c m L A x y:=by
 induction h with
 | full => exact Iff.rfl
 | none => exact Iff.rfl
 | step h hi hti hj hcj hx hzi hz hr ih =>
  exact ih.trans ((aPJ h).trans (aPI (aNg hx) hi h))
structure Ech (n c top col : Nat) (M : Mx) (piv : List Nat) : Prop where
 len : piv.length = top
 le : top≤n
 ltc : ∀ q,q < top→piv.getD q 0 < c
 lt : ∀ q,q < top→piv.getD q 0 < col
 mono : ∀ p q,p < q→q < top→piv.getD p 0 < piv.getD q 0
 one : ∀ k q,k < n→q < top→M k (piv.getD q 0) = if k = q then 1 else 0
 low : ∀ k l,top≤k→k < n→l < col→M k l = 0
 left : ∀ q l,q < top→l < piv.getD q 0→M q l = 0
theorem TU {p : List Nat} {j q : Nat} : (p ++ [j]).getD q 0 = if q < p.length then p.getD q 0 else if q = p.length then j else 0:=by
 rw [List.getD_eq_getElem?_getD,List.getD_eq_getElem?_getD,List.getElem?_append]
 by_cases h : q < p.length
 ·rw [if_pos h,if_pos h]
 ·rw [if_neg h,if_neg h]
  by_cases e : q = p.length
  ·rw [if_pos e,e,Nat.sub_self];rfl
  ·rw [if_neg e,List.getElem?_eq_none (by simp;omega)];rfl
theorem Ech.step {n c top col i j : Nat} {M : Mx} {piv : List Nat} (h : Ech n c top col M piv) (ht : top < n) (hi : i < n) (hti : top≤i) (hj : j < c) (hcj : col≤j) (hx : M i j≠0)
  (hz : ∀ j',col≤j'→j' < j → ∀ i',top≤i'→i' < n→M i' j' = 0) : Ech n c (top + 1) (j + 1) (stF M i top j) (piv ++ [j]):=by
 have hp : ∀ q,q < top→(piv ++ [j]).getD q 0 = piv.getD q 0:=fun q hq => by rw [TU,if_pos (by rw [h.len];exact hq)]
 have hp2 : (piv ++ [j]).getD top 0 = j:=by rw [TU,h.len,if_neg (by omega),if_pos rfl]
 have z : ∀ k l,top≤k→k < n→l < j→M k l = 0:=fun k l h1 h2 h3 => by
  rcases Nat.lt_or_ge l col with h4 | h4
  ·exact h.low k l h1 h2 h4
  ·exact hz l h4 h3 k h1 h2
 have s0 : ∀ k l,top≤k→k < n→l < j→DZ M i top (inv (M i j)) k l = 0:=fun k l h1 h2 h3 => by
  unfold DZ
  split
  ·rw [z i l hti hi h3,mul_zero]
  ·split
   ·exact z top l (Nat.le_refl _) ht h3
   ·exact z k l h1 h2 h3
 have s1 : ∀ k l,k < top→DZ M i top (inv (M i j)) k l = M k l:=fun k l h1 => by
  unfold DZ;rw [if_neg (by omega),if_neg (by omega)]
 have sj : DZ M i top (inv (M i j)) top j = 1:=by
  unfold DZ;rw [if_pos rfl];exact inv_mul hx
 have tt : ∀ l,stF M i top j top l = DZ M i top (inv (M i j)) top l:=fun l => by unfold stF aBa;rw [if_pos rfl]
 have tk : ∀ k l,k≠top→stF M i top j k l = add (DZ M i top (inv (M i j)) k l) (mul (DZ M i top (inv (M i j)) k j) (DZ M i top (inv (M i j)) top l)):=fun k l hk => by unfold stF aBa;rw [if_neg hk]
 have tj : ∀ k,k≠top→stF M i top j k j = 0:=fun k hk => by rw [tk k j hk,sj,mul_one,KD]
 have tl : ∀ k l,k≠top→l < j→stF M i top j k l = DZ M i top (inv (M i j)) k l:=fun k l hk hl => by rw [tk k l hk,s0 top l (Nat.le_refl _) ht hl,mul_zero,add_zero]
 refine ⟨by rw [List.length_append,h.len];rfl,ht,fun q hq => ?_,fun q hq => ?_,fun p q hpq hq => ?_,fun k q hk hq => ?_,fun k l hk hn hl => ?_,fun q l hq hl => ?_⟩
 ·rcases Nat.lt_or_ge q top with h1 | h1
  ·rw [hp q h1];exact h.ltc q h1
  ·obtain rfl : q = top:=by omega
   rw [hp2];exact hj
 ·rcases Nat.lt_or_ge q top with h1 | h1
  ·rw [hp q h1];have:=h.lt q h1;omega
  ·obtain rfl : q = top:=by omega
   rw [hp2];omega
 ·rcases Nat.lt_or_ge q top with h1 | h1
  ·rw [hp q h1,hp p (by omega)];exact h.mono p q hpq h1
  ·obtain rfl : q = top:=by omega
   rw [hp2,hp p hpq];have:=h.lt p hpq;omega
 ·rcases Nat.lt_or_ge q top with h1 | h1
  ·rw [hp q h1]
   have hlj : piv.getD q 0 < j:=by have:=h.lt q h1;omega
   by_cases e : k = top
   ·rw [e,tt,s0 top _ (Nat.le_refl _) ht hlj,if_neg (by omega)]
   ·rw [tl k _ e hlj]
    rcases Nat.lt_or_ge k top with h2 | h2
    ·rw [s1 k _ h2,h.one k q hk h1]
    ·rw [s0 k _ h2 hk hlj,if_neg (by omega)]
  ·obtain rfl : q = top:=by omega
   rw [hp2]
   by_cases e : k = q
   ·rw [e,tt,sj,if_pos rfl]
   ·rw [tj k e,if_neg e]
 ·rcases Nat.lt_or_ge l j with h1 | h1
  ·rw [tl k l (by omega) h1,s0 k l (by omega) hn h1]
  ·obtain rfl : l = j:=by omega
   exact tj k (by omega)
 ·rcases Nat.lt_or_ge q top with h1 | h1
  ·rw [hp q h1] at hl
   have hlj : l < j:=by have:=h.lt q h1;omega
   rw [tl q l (by omega) hlj,s1 q l h1,h.left q l h1 hl]
  ·obtain rfl : q = top:=by omega
   rw [hp2] at hl;rw [tt,s0 q l (Nat.le_refl _) ht hl]
structure GU (n c : Nat) (M : Mx) (p : List Nat) : Prop where
 le : p.length≤n
 ltc : ∀ q,q < p.length→p.getD q 0 < c
 mono : ∀ s q,s < q→q < p.length→p.getD s 0 < p.getD q 0
 one : ∀ k q,k < n→q < p.length→M k (p.getD q 0) = if k = q then 1 else 0
 low : ∀ k l,p.length≤k→k < n→l < c→M k l = 0
 left : ∀ q l,q < p.length→l < p.getD q 0→M q l = 0
theorem sA.ech {n c top col : Nat} {L A L' A' : Mx} {piv p' : List Nat} (h : sA n c top col L A piv L' A' p') : Ech n c top col L piv→GU n c L' p':=by
 induction h with
 | @full top col L A piv h => exact fun e => ⟨by rw [e.len];exact e.le,by rw [e.len];exact e.ltc,by rw [e.len];exact e.mono,by rw [e.len];exact e.one,by rw [e.len];intro k l h1 h2;omega,by rw [e.len];exact e.left⟩
 | @none top col L A piv h hz => exact fun e => ⟨by rw [e.len];exact e.le,by rw [e.len];exact e.ltc,by rw [e.len];exact e.mono,by rw [e.len];exact e.one,by
   rw [e.len];intro k l h1 h2 h3
   rcases Nat.lt_or_ge l col with h4 | h4
   ·exact e.low k l h1 h2 h4
   ·exact hz l h4 h3 k h1 h2,by rw [e.len];exact e.left⟩
 | step h hi hti hj hcj hx hzi hz hr ih => exact fun e => ih (e.step h hi hti hj hcj hx hz)
theorem Ech.zero (n c : Nat) (M : Mx) : Ech n c 0 0 M [] :=
 ⟨rfl,Nat.zero_le _,by intro q h;omega,by intro q h;omega,by intro p q h1 h2;omega,by intro k q h1 h2;omega,by intro k l h1 h2 h3;omega,by intro q l h;omega⟩
theorem sA.BI {n c : Nat} {L A L' A' : Mx} {p' : List Nat} (h : sA n c 0 0 L A [] L' A' p') : GU n c L' p':=h.ech (Ech.zero n c L)
theorem exists_least {P : Nat→Prop} : ∀ n,P n → ∃ m,P m ∧ ∀ k,k < m → ¬ P k:=by
 intro n
 induction n using Nat.strongRecOn with
 | _ n ih =>
  intro h
  by_cases e : ∃ k,k < n∧P k
  ·obtain ⟨k,h1,h2⟩:=e
   exact ih k h1 h2
  ·exact ⟨n,h,fun k h1 h2 => e ⟨k,h1,h2⟩⟩
theorem sA.total (n c : Nat) : ∀ (d top col : Nat) (L A : Mx) (piv : List Nat),d = n - top → ∃ L' A' p',sA n c top col L A piv L' A' p'
 | 0,top,col,L,A,piv,hd => ⟨L,A,piv,.full (by omega)⟩
 | d + 1,top,col,L,A,piv,hd => by
  by_cases e : ∃ j,(col≤j∧j < c) ∧ ∃ i,(top≤i∧i < n)∧L i j≠0
  ·obtain ⟨j0,hj0⟩:=e
   obtain ⟨j,⟨⟨h1,h2⟩,i0,hi0⟩,hm⟩:=exists_least (P:=fun j => (col≤j∧j < c) ∧ ∃ i,(top≤i∧i < n)∧L i j≠0) j0 hj0;obtain ⟨i,⟨⟨h3,h4⟩,h5⟩,hmi⟩:=exists_least (P:=fun i => (top≤i∧i < n)∧L i j≠0) i0 hi0;obtain ⟨L',A',p',hr⟩:=sA.total n c d (top + 1) (j + 1) (stF L i top j) (stA L A i top j) (piv ++ [j]) (by omega);refine ⟨L',A',p',.step (by omega) h4 h3 h2 h1 h5 (fun i' h6 h7 => ?_) (fun j' h6 h7 i' h8 h9 => ?_) hr⟩
   ·exact Classical.byContradiction fun hn => hmi i' h7 ⟨⟨h6,by omega⟩,hn⟩
   ·exact Classical.byContradiction fun hn => hm j' h7 ⟨⟨h6,by omega⟩,i',⟨h8,h9⟩,hn⟩
  ·exact ⟨L,A,piv,.none (by omega) fun j' h1 h2 i' h3 h4 => Classical.byContradiction fun hn => e ⟨j',⟨h1,h2⟩,i',⟨h3,h4⟩,hn⟩⟩
theorem sA.unique {n c top col : Nat} {L A1 A2 L1 L2 B1 B2 : Mx} {piv p1 p2 : List Nat} (h1 : sA n c top col L A1 piv L1 B1 p1) : ∀ {A2 : Mx},sA n c top col L A2 piv L2 B2 p2→L1 = L2∧p1 = p2:=by
 induction h1 with
 | full h => intro A2 h2;cases h2 with
  | full => exact ⟨rfl,rfl⟩
  | none => exact ⟨rfl,rfl⟩
  | step h' => omega
 | none h hz => intro A2 h2;cases h2 with
  | full h' => exact ⟨rfl,rfl⟩
  | none => exact ⟨rfl,rfl⟩
  | step h' hi hti hj hcj hx => exact absurd (hz _ hcj hj _ hti hi) hx
 | @step top col i j L A L' A' piv piv' h hi hti hj hcj hx hzi hz hr ih => intro A2 h2;cases h2 with
  | full h' => omega
  | none h' hz' => exact absurd (hz' _ hcj hj _ hti hi) hx
  | @step _ _ i2 j2 _ _ _ _ _ _ h' hi' hti' hj' hcj' hx' hzi' hz' hr' =>
   obtain rfl : j = j2:=by
    rcases Nat.lt_trichotomy j j2 with e | e | e
    ·exact absurd (hz' _ hcj e _ hti hi) hx
    ·exact e
    ·exact absurd (hz _ hcj' e _ hti' hi') hx'
   obtain rfl : i = i2:=by
    rcases Nat.lt_trichotomy i i2 with e | e | e
    ·exact absurd (hzi' _ hti e) hx
    ·exact e
    ·exact absurd (hzi _ hti' e) hx'
   exact ih hr'
def spr (p : List Nat) (z : Nat→UInt8) (t : Nat) : UInt8:=qX (fun q => if p.getD q 0 = t then z q else 0) p.length
def ME (l t : Nat) : UInt8:=if t = l then 1 else 0
theorem aFI (M : Mx) (c : Nat) (x y : Nat→UInt8) (k : Nat) : sS M c (fun t => add (x t) (y t)) k = add (sS M c x k) (sS M c y k):=by
 unfold sS;rw [← PF];exact eQ fun l _ => mul_add _ _ _
theorem EN (M : Mx) {c l : Nat} (h : l < c) (k : Nat) : sS M c (ME l) k = M k l:=by
 unfold sS;rw [pJ h (fun i _ hne => by rw [ME,if_neg hne,mul_zero]),ME,if_pos rfl,mul_one]
theorem ZM (M : Mx) {c : Nat} {p : List Nat} (hp : ∀ q,q < p.length→p.getD q 0 < c) (z : Nat→UInt8) (k : Nat) : sS M c (spr p z) k = qX (fun q => mul (M k (p.getD q 0)) (z q)) p.length:=by
 unfold sS spr;rw [show qX (fun l => mul (M k l) (qX (fun q => if p.getD q 0 = l then z q else 0) p.length)) c = qX (fun l => qX (fun q => mul (M k l) (if p.getD q 0 = l then z q else 0)) p.length) c from eQ fun l _ => (FV _ _ _).symm,PE];refine eQ fun q hq => ?_
 rw [pJ (hp q hq) (fun i _ hne => by rw [if_neg (fun e => hne e.symm),mul_zero]),if_pos rfl]
def VD (p : List Nat) (M' : Mx) (l : Nat) (t : Nat) : UInt8:=add (ME l t) (spr p (fun q => M' q l) t)
theorem GU.ker {n c : Nat} {M' : Mx} {p : List Nat} (h : GU n c M' p) {l : Nat} (hl : l < c) {k : Nat} (hk : k < n) : sS M' c (VD p M' l) k = 0:=by
 unfold VD;rw [aFI,EN _ hl,ZM _ h.ltc]
 rcases Nat.lt_or_ge k p.length with h1 | h1
 ·rw [pJ (q:=k) h1 (fun i hi hne => by rw [h.one k i hk hi,if_neg (fun e => hne e.symm),eS]),h.one k k hk h1,if_pos rfl,one_mul,KD]
 ·rw [yW (fun i hi => by rw [h.one k i hk hi,if_neg (by omega),eS]),h.low k l h1 hk hl];rfl
def aOG (n c : Nat) (M : Mx) (x : Nat→UInt8) : Prop:=∀ k,k < n→sS M c x k = 0
theorem sA.SL {n c top col : Nat} {L A L' A' : Mx} {piv p' : List Nat} {x : Nat→UInt8} (h : sA n c top col L A piv L' A' p') : aOG n c L' x ↔ aOG n c L x:=by
 have e:=h.sat (m:=0) (x:=x) (y:=fun _ => 0);exact e
theorem sA.aYB {n c : Nat} {L A L' A' : Mx} {p : List Nat} (h : sA n c 0 0 L A [] L' A' p) {k l : Nat} (hk : k < n) (hl : l < c) : L k l = qX (fun q => mul (L k (p.getD q 0)) (L' q l)) p.length:=by
 have e:=(h.SL (x:=VD p L' l)).1 (fun k hk => h.BI.ker hl hk) k hk;unfold VD at e;rw [aFI,EN _ hl,ZM _ h.BI.ltc] at e;exact (add_eq_zero _ _).1 e
theorem GU.ge {n c : Nat} {M : Mx} {p : List Nat} (h : GU n c M p) : ∀ q,q < p.length→q≤p.getD q 0
 | 0,_ => Nat.zero_le _
 | q + 1,hq => by have h1:=h.ge q (by omega);have h2:=h.mono q (q + 1) (by omega) hq;omega
theorem GU.up {n c : Nat} {M : Mx} {p : List Nat} (h : GU n c M p) : ∀ d q,q + d < p.length→p.getD q 0 + d≤p.getD (q + d) 0
 | 0,q,_ => Nat.le_refl _
 | d + 1,q,hq => by
  have h1:=h.up d q (by omega);have h2 : p.getD (q + d) 0 < p.getD (q + (d + 1)) 0:=h.mono (q + d) (q + (d + 1)) (by omega) hq;omega
theorem GU.aIu {n c : Nat} {M : Mx} {p : List Nat} (h : GU n c M p) : p.length≤c:=by
 rcases Nat.lt_or_ge 0 p.length with h1 | h1
 ·have h2:=h.ge (p.length - 1) (by omega);have h3:=h.ltc (p.length - 1) (by omega);omega
 ·omega
theorem GU.full {n c : Nat} {M : Mx} {p : List Nat} (h : GU n c M p) (hc : p.length = c) {q : Nat} (hq : q < c) : p.getD q 0 = q:=by
 have h1:=h.ge q (by omega);have h2:=h.up (c - 1 - q) q (by omega);have h3:=h.ltc (q + (c - 1 - q)) (by omega);omega
theorem GU.free {n c : Nat} {M : Mx} {p : List Nat} (h : GU n c M p) (hc : p.length < c) : ∃ l,l < c ∧ ∀ q,q < p.length→p.getD q 0≠l:=by
 have H : ∀ m,m≤p.length→(∀ q,q < m→p.getD q 0 = q) ∨ ∃ l,l < c ∧ ∀ q,q < p.length→p.getD q 0≠l:=by
  intro m
  induction m with
  | zero => exact fun _ => .inl fun q hq => by omega
  | succ m ih =>
   intro hm
   rcases ih (by omega) with h1 | h1
   ·by_cases e : p.getD m 0 = m
    ·refine .inl fun q hq => ?_
     rcases Nat.lt_or_ge q m with h2 | h2
     ·exact h1 q h2
     ·obtain rfl : q = m:=by omega
      exact e
    ·refine .inr ⟨m,by omega,fun q hq => ?_⟩
     have h3:=h.ge m (by omega)
     rcases Nat.lt_trichotomy q m with h2 | h2 | h2
     ·rw [h1 q h2];omega
     ·rw [h2];exact e
     ·have:=h.mono m q h2 hq;omega
   ·exact .inr h1
 rcases H p.length (Nat.le_refl _) with h1 | h1
 ·exact ⟨p.length,hc,fun q hq => by rw [h1 q hq];omega⟩
 ·exact h1
theorem SM {p : List Nat} {M' : Mx} {l : Nat} (h : ∀ q,q < p.length→p.getD q 0≠l) : VD p M' l l = 1:=by
 unfold VD spr ME;rw [if_pos rfl,yW (fun q hq => by rw [if_neg (h q hq)])];rfl
theorem sA.aBs {n c : Nat} {L A L' A' : Mx} {p : List Nat} (h : sA n c 0 0 L A [] L' A' p) : p.length = c ↔ ∀ x,aOG n c L x → ∀ l,l < c→x l = 0:=by
 constructor
 ·intro hc x hx l hl
  have e:=(h.SL (x:=x)).2 hx l (by have:=h.BI.le;omega);unfold sS at e;rw [pJ hl (fun i hi hne => by
   have h1:=h.BI.one l i (by have:=h.BI.le;omega) (by omega);rw [h.BI.full hc hi] at h1;rw [h1,if_neg (fun e => hne e.symm),eS])] at e
  have h1:=h.BI.one l l (by have:=h.BI.le;omega) (by omega);rw [h.BI.full hc hl,if_pos rfl] at h1
  rwa [h1,one_mul] at e
 ·intro hk
  rcases Nat.lt_or_ge p.length c with h1 | h1
  ·obtain ⟨l,hl,hf⟩:=h.BI.free h1
   have e:=hk (VD p L' l) ((h.SL).1 (fun k hk => h.BI.ker hl hk)) l hl;rw [SM hf] at e;exact absurd e (by decide)
  ·have:=h.BI.aIu;omega
theorem aNe {n c : Nat} (M : Mx) (h : n < c) : ∃ x,aOG n c M x ∧ ∃ l,l < c∧x l≠0:=by
 obtain ⟨L',A',p,hr⟩:=sA.total n c (n - 0) 0 0 M M [] rfl;obtain ⟨l,hl,hf⟩:=hr.BI.free (by have:=hr.BI.le;omega);exact ⟨VD p L' l,(hr.SL).1 (fun k hk => hr.BI.ker hl hk),l,hl,by rw [SM hf];decide⟩
def aWf (M : Mx) (n : Nat) (y : Nat→UInt8) (l : Nat) : UInt8:=qX (fun k => mul (y k) (M k l)) n
theorem sA.aKI {n c : Nat} {L A L' A' : Mx} {p : List Nat} (h : sA n c 0 0 L A [] L' A' p) (hk : ∀ y,(∀ l,l < c→aWf L n y l = 0) → ∀ k,k < n→y k = 0) : p.length = n:=by
 rcases Nat.lt_or_ge p.length n with h1 | h1
 ·obtain ⟨y,hy,k,hk1,hk2⟩:=aNe (n:=p.length) (c:=n) (fun q k => L k (p.getD q 0)) h1
  refine absurd (hk y (fun l hl => ?_) k hk1) hk2;unfold aWf;rw [show qX (fun k => mul (y k) (L k l)) n = qX (fun k => qX (fun q => mul (y k) (mul (L k (p.getD q 0)) (L' q l))) p.length) n from eQ fun k hk => by rw [FV,← h.aYB hk hl],PE];refine yW fun q hq => ?_
  rw [show qX (fun k => mul (y k) (mul (L k (p.getD q 0)) (L' q l))) n = qX (fun k => mul (mul (L k (p.getD q 0)) (y k)) (L' q l)) n from eQ fun k _ => by rw [← mul_assoc,mul_comm (y k)],MF];have e:=hy q hq;unfold sS at e;rw [e,eS]
 ·have:=h.BI.le;omega
end Go.Proofs.Yteofcbkjhdadpaa
namespace Go.Proofs.Yteofcbkjhdadpaa
open Gf
theorem DS.skip {n c top col : Nat} {L A L' A' : List (List UInt8)} {piv p' : List Nat} (hz : ∀ i',top≤i'→i' < n→gL L i' col = 0) (h : DS n c top (col + 1) L A piv L' A' p') : DS n c top col L A piv L' A' p':=by
 have e : ∀ {j'},col≤j'→(∀ i',top≤i'→i' < n→gL L i' j' = 0) ∨ col + 1≤j':=fun {j'} hj => by
  rcases Nat.lt_or_ge col j' with h1 | h1
  ·exact .inr h1
  ·obtain rfl : col = j':=by omega
   exact .inl hz
 cases h with
 | full h => exact .full h
 | none h hz' =>
  refine .none h fun j' h1 h2 => ?_
  rcases e h1 with h3 | h3
  ·exact h3
  ·exact hz' j' h3 h2
 | step h hi hti hj hcj hx hzi hz' hr =>
  refine .step h hi hti hj (by omega) hx hzi (fun j' h1 h2 => ?_) hr
  rcases e h1 with h3 | h3
  ·exact h3
  ·exact hz' j' h3 h2
theorem DS.out {n c top col : Nat} {L A : List (List UInt8)} {piv : List Nat} (h : c≤col) : DS n c top col L A piv L A piv:=by
 rcases Nat.lt_or_ge top n with h1 | h1
 ·exact .none h1 fun j' h2 h3 => by omega
 ·exact .full h1
theorem aVs {p p' : List Nat} (h1 : ∀ s q,s < q→q < p.length→p.getD s 0 < p.getD q 0) (h2 : ∀ s q,s < q→q < p'.length→p'.getD s 0 < p'.getD q 0)
  (h3 : ∀ l,(∃ q,q < p.length∧p.getD q 0 = l) ↔ ∃ q,q < p'.length∧p'.getD q 0 = l) : p = p':=by
 have le : ∀ {a : List Nat},(∀ s q,s < q→q < a.length→a.getD s 0 < a.getD q 0) → ∀ s q,s≤q→q < a.length→a.getD s 0≤a.getD q 0:=fun {a} h s q h4 h5 => by
  rcases Nat.lt_or_ge s q with h6 | h6
  ·exact Nat.le_of_lt (h s q h6 h5)
  ·obtain rfl : s = q:=by omega
   exact Nat.le_refl _
 have H : ∀ q,(q < p.length ↔ q < p'.length)∧(q < p.length→p.getD q 0 = p'.getD q 0):=by
  intro q
  induction q using Nat.strongRecOn with
  | _ q ih =>
   have a : q < p.length→q < p'.length∧p'.getD q 0≤p.getD q 0:=fun hq => by
    obtain ⟨s,hs,es⟩:=(h3 (p.getD q 0)).1 ⟨q,hq,rfl⟩
    rcases Nat.lt_or_ge s q with h4 | h4
    ·have h5:=(ih s h4).2 (by omega)
     have h6:=h1 s q h4 hq;omega
    ·have h7:=le h2 q s h4 hs
     exact ⟨by omega,by omega⟩
   have b : q < p'.length→q < p.length∧p.getD q 0≤p'.getD q 0:=fun hq => by
    obtain ⟨s,hs,es⟩:=(h3 (p'.getD q 0)).2 ⟨q,hq,rfl⟩
    rcases Nat.lt_or_ge s q with h4 | h4
    ·have h5:=(ih s h4).2 hs
     have h6:=h2 s q h4 hq;omega
    ·have h7:=le h1 q s h4 hs
     exact ⟨by omega,by omega⟩
   refine ⟨⟨fun h => (a h).1,fun h => (b h).1⟩,fun h => ?_⟩;have:=(a h).2;have:=(b (a h).1).2;omega
 have hl : p.length = p'.length:=by
  rcases Nat.lt_trichotomy p.length p'.length with h | h | h
  ·exact absurd ((H p.length).1.2 h) (by omega)
  ·exact h
  ·exact absurd ((H p'.length).1.1 h) (by omega)
 refine List.ext_getElem hl fun q hq hq' => ?_
 have e:=(H q).2 hq;rw [List.getD_eq_getElem?_getD,List.getD_eq_getElem?_getD,List.getElem?_eq_getElem hq,List.getElem?_eq_getElem hq'] at e;exact e
theorem GU.aRn {n c : Nat} {M : Mx} {p : List Nat} (h : GU n c M p) {l : Nat} (hl : l < c) : (∃ q,q < p.length∧p.getD q 0 = l) ↔ ¬ ∃ x,aOG n c M x∧x l = 1 ∧ ∀ t,l < t→t < c→x t = 0:=by
 constructor
 ·rintro ⟨q,hq,e⟩ ⟨x,hx,h1,h2⟩
  have e2:=hx q (by have:=h.le;omega);unfold sS at e2;rw [pJ hl (fun t ht hne => by
   rcases Nat.lt_or_ge t l with h3 | h3
   ·rw [h.left q t hq (by omega),eS]
   ·rw [h2 t (by omega) ht,mul_zero])] at e2
  have h4:=h.one q q (by have:=h.le;omega) hq;rw [e,if_pos rfl] at h4;rw [h4,h1,mul_one] at e2;exact absurd e2 (by decide)
 ·intro hn
  refine Classical.byContradiction fun hp => hn ⟨VD p M l,fun k hk => h.ker hl hk,SM fun q hq e => hp ⟨q,hq,e⟩,fun t ht htc => ?_⟩
  unfold VD spr ME;rw [if_neg (by omega),yW (fun q hq => ?_)];rfl
  split
  ·next e => exact h.left q l hq (by omega)
  ·rfl
structure aHH (m : Nat) (φ : List UInt8→List UInt8) : Prop where
 nil : φ [] = []
 scale : ∀ v xs,xs.length = m→φ (xs.map (mul v)) = (φ xs).map (mul v)
 mac : ∀ c xs ys,xs.length = m→ys.length = m→φ (sY xs c ys) = sY (φ xs) c (φ ys)
theorem AM {φ : List UInt8→List UInt8} (h : φ [] = []) (A : List (List UInt8)) (i : Nat) : (A.map φ).getD i [] = φ (A.getD i []):=by
 rw [List.getD_eq_getElem?_getD,List.getD_eq_getElem?_getD,List.getElem?_map]
 cases A[i]? with
 | none => exact h.symm
 | some x => rfl
theorem YX {φ : List UInt8→List UInt8} (A : List (List UInt8)) (i : Nat) (x : List UInt8) : (A.set i x).map φ = (A.map φ).set i (φ x):=by rw [List.map_set]
theorem aMo {m n : Nat} {φ : List UInt8→List UInt8} (h : aHH m φ) {A : List (List UInt8)} (hA : fC n m A) {i top : Nat} (hi : i < n) (v : UInt8) : (rU A i top v).map φ = rU (A.map φ) i top v:=by
 unfold rU;rw [YX,YX,h.scale v _ (hA.wid i hi),AM h.nil,AM h.nil]
theorem aBR {m n c : Nat} {φ : List UInt8→List UInt8} (h : aHH m φ) {L A : List (List UInt8)} (hL : fC n c L) (hA : fC n m A) {top j : Nat} (ht : top < n) : ∀ k,k≤n→(nR top j L k A).map φ = nR top j L k (A.map φ)
 | 0,_ => rfl
 | k + 1,hk => by
  have ih:=aBR h hL hA ht (j:=j) k (by omega);have hr:=(xH hL hA ht k (by omega) (j:=j)).1;rw [nR,nR]
  split
  ·rw [YX,h.mac _ _ _ (hr.wid k (by omega)) (hr.wid top ht),← AM h.nil,← AM h.nil,ih]
  ·exact ih
theorem DS.map {n c m top col : Nat} {φ : List UInt8→List UInt8} (hφ : aHH m φ) {L A L' A' : List (List UInt8)} {piv p' : List Nat} (h : DS n c top col L A piv L' A' p') : fC n c L→fC n m A→DS n c top col L (A.map φ) piv L' (A'.map φ) p':=by
 induction h with
 | full h => exact fun _ _ => .full h
 | none h hz => exact fun _ _ => .none h hz
 | @step top col i j L A L' A' piv piv' h hi hti hj hcj hx hzi hz hr ih =>
  intro hl ha;have s1:=xE hl hi h (inv (gL L i j));have s2:=xE ha hi h (inv (gL L i j));have q:=ih (uG s1 h n (Nat.le_refl n) (j:=j)).1 (xH s1 s2 h n (Nat.le_refl n) (j:=j)).1;rw [aBR hφ s1 s2 h n (Nat.le_refl n),aMo hφ ha hi] at q;exact .step h hi hti hj hcj hx hzi hz q
def mW (L B : List (List UInt8)) : List (List UInt8):=List.zipWith (· ++ ·) L B
theorem SV {L B : List (List UInt8)} (h : L.length = B.length) (i : Nat) : (mW L B).getD i [] = L.getD i [] ++ B.getD i []:=by
 unfold mW;rw [List.getD_eq_getElem?_getD,List.getD_eq_getElem?_getD,List.getD_eq_getElem?_getD,List.getElem?_zipWith]
 rcases Nat.lt_or_ge i L.length with h1 | h1
 ·rw [List.getElem?_eq_getElem h1,List.getElem?_eq_getElem (by omega : i < B.length)];rfl
 ·rw [List.getElem?_eq_none h1,List.getElem?_eq_none (by omega : B.length≤i)];rfl
theorem SU {n c m : Nat} {L B : List (List UInt8)} (hL : fC n c L) (hB : fC n m B) : fC n (c + m) (mW L B) :=
 ⟨by simp [mW,hL.len,hB.len],fun i hi => by rw [SV (by rw [hL.len,hB.len]),List.length_append,hL.wid i hi,hB.wid i hi]⟩
theorem aJq {n c m : Nat} {L B : List (List UInt8)} (hL : fC n c L) (hB : fC n m B) {k : Nat} (hk : k < n) (l : Nat) : gL (mW L B) k l = if l < c then gL L k l else gL B k (l - c):=by
 unfold gL;rw [SV (by rw [hL.len,hB.len]),List.getD_eq_getElem?_getD,List.getElem?_append,hL.wid k hk]
 split <;> rfl
theorem yX {A B : List (List UInt8)} {n : Nat} (hA : A.length = n) (hB : B.length = n) (h : ∀ i,i < n→A.getD i [] = B.getD i []) : A = B:=by
 refine List.ext_getElem (by omega) fun i h1 h2 => ?_
 have e:=h i (by omega);rw [List.getD_eq_getElem?_getD,List.getD_eq_getElem?_getD,List.getElem?_eq_getElem h1,List.getElem?_eq_getElem h2] at e;exact e
end Go.Proofs.Yteofcbkjhdadpaa
namespace Go.Proofs.Yteofcbkjhdadpaa
open Go.RowKit
theorem OZ {ops : Array Oper} {rest : List Oper} {o : Oper} {a : Act} {w0 : World} {Q : Exit→Act→World→Prop} (t e : TypeId) (z : Value) (bytes : Nat) (ht : Try.prog.underlying t = some (.slice e))
  (hinf : (Try.prog.info? e).map (fun i => (i.zero,i.size,i.bytes)) = some (some z,1,bytes)) (hzs : z.cells.size = 1) (s x : Operand) (hgd : o.guard = none)
  (ho : o.op = .call { callee:=.builtin .append,args:=#[s,x],argTypes:=#[t,t] })
  (base : Nat) (v : Value) (n : Nat) (xs : List Value) (y : Value) (hy : y.oneCell' = true) (hs : a.eval s = v) (hown : w0.ownsRow base e 1 v n xs) (g0 : Nat) (hx : a.eval x = .slice (some ⟨g0,0,none⟩) 1 1) (hg0 : g0 = w0.heap.size)
  (hlen : n + 1≤maxLen) (hbytes : (n + 1) * bytes≤140737488355328) (hbase : base≤w0.heap.size)
  (h : ∀ v' w',w'.ownsRow base e 1 v' (n + 1) (xs ++ [y])→Below base w0 w'→w0.grownBy w' v.ownBlock→wpList Try.prog ops Q rest (a.put o.dst v') w') :
  wpList Try.prog ops Q (o :: rest) a (w0.alloc (.cells #[y] e)):=by
 subst hg0;obtain ⟨i,hi,hz,hsz,hby⟩:=info_parts hinf;refine wpList_append_own _ hgd s x t ho base e i z 1 bytes ht hi hz hsz hby hzs (by decide) v n xs hs (World.ownsRow.alloc hown _) ⟨w0.heap.size,0,none⟩ 1 1 [y] hx rfl ?_ ?_ hlen hbytes (by simp;omega) ?_
 ·intro j u hu
  have hj : j = 0:=by
   rcases Nat.lt_or_ge j 1 with hlt | hge
   ·omega
   ·rw [List.getElem?_eq_none (by simpa using hge)] at hu;cases hu
  subst hj;simp only [List.getElem?_cons_zero,Option.some.injEq] at hu;subst hu
  simp [Addr.add]
 ·intro u hu
  rw [List.mem_singleton.1 hu];exact hy
 ·intro v' w' hown' hg _
  refine h v' w' hown' ?_ ?_
  ·exact ((Below.refl base w0).alloc hbase _).grown hg (by simp;omega) (fun k hk => (hown.lt k hk).1)
  ·exact ⟨hg.os,hg.tape,hg.output,Nat.le_trans (by simp) hg.size,fun k hk hne => (hg.block k (by simp;omega) hne).trans (Below.heap_alloc _ _ _ hk)⟩
theorem uW {o : Oper} {a : Act} {w0 : World} {K : Act→World→Prop} {Q : Exit→Act→World→Prop} (t e : TypeId) (z : Value) (bytes : Nat) (ht : Try.prog.underlying t = some (.slice e))
  (hinf : (Try.prog.info? e).map (fun i => (i.zero,i.size,i.bytes)) = some (some z,1,bytes)) (hzs : z.cells.size = 1) (s x : Operand)
  (ho : o.op = .call { callee:=.builtin .append,args:=#[s,x],argTypes:=#[t,t] })
  (base : Nat) (v : Value) (n : Nat) (xs : List Value) (y : Value) (hy : y.oneCell' = true) (hs : a.eval s = v) (hown : w0.ownsRow base e 1 v n xs) (g0 : Nat) (hx : a.eval x = .slice (some ⟨g0,0,none⟩) 1 1) (hg0 : g0 = w0.heap.size)
  (hlen : n + 1≤maxLen) (hbytes : (n + 1) * bytes≤140737488355328) (hbase : base≤w0.heap.size)
  (h : ∀ g cap w',w'.ownsRow base e 1 (.slice (some ⟨g,0,none⟩) (n + 1) cap) (n + 1) (xs ++ [y])→Below base w0 w'→w0.grownBy w' v.ownBlock→(v.ownBlock = some g ∨ g = w0.heap.size + 1)→K (a.put o.dst (.slice (some ⟨g,0,none⟩) (n + 1) cap)) w') :
  o.wp Try.prog a (w0.alloc (.cells #[y] e)) K Q:=by
 subst hg0;obtain ⟨i,hi,hz,hsz,hby⟩:=info_parts hinf;refine wp_append_lies _ s x t ho base e i z 1 bytes ht hi hz hsz hby hzs (by decide) v n xs hs (World.ownsRow.alloc hown _) ⟨w0.heap.size,0,none⟩ 1 1 [y] hx rfl ?_ ?_ (by decide) hlen hbytes (by show base≤(w0.alloc (.cells #[y] e)).heap.size;simp;omega) (w0.heap.size + 1) (by show (w0.alloc (.cells #[y] e)).heap.size = _;simp) ?_
 ·intro j u hu
  have hj : j = 0:=by
   rcases Nat.lt_or_ge j 1 with hlt | hge
   ·omega
   ·rw [List.getElem?_eq_none (by simpa using hge)] at hu;cases hu
  subst hj;simp only [List.getElem?_cons_zero,Option.some.injEq] at hu;subst hu
  simp [Addr.add]
 ·intro u hu
  rw [List.mem_singleton.1 hu];exact hy
 ·intro g cap w' hown' hg hat _
  refine h g cap w' hown' ?_ ?_ hat
  ·exact ((Below.refl base w0).alloc hbase _).grown hg (by show base≤(w0.alloc (.cells #[y] e)).heap.size;simp;omega) (fun k hk => (hown.lt k hk).1)
  ·exact ⟨hg.os,hg.tape,hg.output,Nat.le_trans (show w0.heap.size≤(w0.alloc (.cells #[y] e)).heap.size by simp) hg.size,fun k hk hne => (hg.block k (show k < (w0.alloc (.cells #[y] e)).heap.size by simp;omega) hne).trans (Below.heap_alloc _ _ _ hk)⟩
theorem MX {ops : Array Oper} {rest : List Oper} {o : Oper} {a : Act} {w0 : World} {Q : Exit→Act→World→Prop} (t e : TypeId) (z : Value) (bytes : Nat) (ht : Try.prog.underlying t = some (.slice e))
  (hinf : (Try.prog.info? e).map (fun i => (i.zero,i.size,i.bytes)) = some (some z,1,bytes)) (hzs : z.cells.size = 1) (s x : Operand) (hgd : o.guard = none)
  (ho : o.op = .call { callee:=.builtin .append,args:=#[s,x],argTypes:=#[t,t] })
  (base : Nat) (v : Value) (n : Nat) (xs : List Value) (y : Value) (hy : y.oneCell' = true) (hs : a.eval s = v) (hown : w0.ownsRow base e 1 v n xs) (g0 : Nat) (hx : a.eval x = .slice (some ⟨g0,0,none⟩) 1 1) (hg0 : g0 = w0.heap.size)
  (hlen : n + 1≤maxLen) (hbytes : (n + 1) * bytes≤140737488355328) (hbase : base≤w0.heap.size)
  (h : ∀ g cap w',w'.ownsRow base e 1 (.slice (some ⟨g,0,none⟩) (n + 1) cap) (n + 1) (xs ++ [y])→Below base w0 w'→w0.grownBy w' v.ownBlock→(v.ownBlock = some g ∨ g = w0.heap.size + 1)→wpList Try.prog ops Q rest (a.put o.dst (.slice (some ⟨g,0,none⟩) (n + 1) cap)) w') :
  wpList Try.prog ops Q (o :: rest) a (w0.alloc (.cells #[y] e)):=by
 subst hg0;obtain ⟨i,hi,hz,hsz,hby⟩:=info_parts hinf;refine wpList_append_lies _ hgd s x t ho base e i z 1 bytes ht hi hz hsz hby hzs (by decide) v n xs hs (World.ownsRow.alloc hown _) ⟨w0.heap.size,0,none⟩ 1 1 [y] hx rfl ?_ ?_ (by decide) hlen hbytes (by simp;omega) (w0.heap.size + 1) (by simp) ?_
 ·intro j u hu
  have hj : j = 0:=by
   rcases Nat.lt_or_ge j 1 with hlt | hge
   ·omega
   ·rw [List.getElem?_eq_none (by simpa using hge)] at hu;cases hu
  subst hj;simp only [List.getElem?_cons_zero,Option.some.injEq] at hu;subst hu
  simp [Addr.add]
 ·intro u hu
  rw [List.mem_singleton.1 hu];exact hy
 ·intro g cap w' hown' hg hat _
  refine h g cap w' hown' ?_ ?_ hat
  ·exact ((Below.refl base w0).alloc hbase _).grown hg (by simp;omega) (fun k hk => (hown.lt k hk).1)
  ·exact ⟨hg.os,hg.tape,hg.output,Nat.le_trans (by simp) hg.size,fun k hk hne => (hg.block k (by simp;omega) hne).trans (Below.heap_alloc _ _ _ hk)⟩
theorem ZC : (Try.prog.info? 3).map (fun i => (i.zero,i.size,i.bytes)) = some (some (.int .i64 0),1,8):=by kernel_rfl
theorem JA : (Try.prog.info? 22).map (fun i => (i.zero,i.size,i.bytes)) = some (some (.slice none 0 0),1,24):=by kernel_rfl
def nVs (zs : List Nat) : List Value:=zs.map fun (z : Nat) => Value.int .i64 (z : Int)
theorem YU (xs ys : List Nat) : nVs (xs ++ ys) = nVs xs ++ nVs ys:=by simp [nVs]
def wL (w : World) (base : Nat) (v : Value) (zs : List Nat) : Prop:=w.ownsRow base 3 1 v zs.length (nVs zs)
end Go.Proofs.Yteofcbkjhdadpaa
namespace Go.Proofs.Yteofcbkjhdadpaa
open Go.RowKit
structure OD (w w' : World) (Al Aa : Option Addr) : Prop where
 os : w'.os = w.os
 tape : w'.tape = w.tape
 output : w'.output = w.output
 size : w.heap.size≤w'.heap.size
 block : ∀ k,k < w.heap.size→Al≠some ⟨k,0,none⟩→Aa≠some ⟨k,0,none⟩→w'.heap[k]? = w.heap[k]?
def aRD (w : World) (gr : Nat) (Al Aa : Option Addr) (n capl c m : Nat) (L A : List (List UInt8)) (e : Ending) (w' : World) : Prop :=
 ∃ (v : Value) (piv : List Nat) (L' A' : List (List UInt8)),e = .returned v∧wL w' w.heap.size v piv∧DS n c 0 0 L A [] L' A' piv∧Gz w' gr Al Aa n capl c m L' A'∧OD w w' Al Aa
structure aGf (w wr : World) (gr gb g5 : Nat) (Al Aa : Option Addr) (n capl c m top col : Nat) (v : Value) (piv : List Nat) (L A L1 A1 : List (List UInt8)) : Prop where
 go : ∀ L' A' p',DS n c top col L1 A1 piv L' A' p'→DS n c 0 0 L A [] L' A' p'
 own : wL wr (w.heap.size + 1) v piv
 hlen : piv.length = top
 htop : top≤n
 hcol : col≤64
 gz : Gz wr gr Al Aa n capl c m L1 A1
 chg : OD w wr Al Aa
 box : wr.cell? ⟨gb,0,none⟩ = some (.pointer (some ⟨gr,0,none⟩))
 cell : wr.cell? ⟨g5,0,none⟩ = some (.int .i64 (top : Int))
 new : w.heap.size≤g5
 newb : w.heap.size≤gb
 ne : ∀ k,v.ownBlock = some k→k≠g5∧k≠gb
 gne : gb≠g5
theorem OD.refl (w : World) (Al Aa : Option Addr) : OD w w Al Aa:=⟨rfl,rfl,rfl,Nat.le_refl _,fun _ _ _ _ => rfl⟩
theorem OD.below {w a b : World} {Al Aa : Option Addr} (h : OD w a Al Aa) (hb : Below w.heap.size a b) : OD w b Al Aa :=
 ⟨hb.os.trans h.os,hb.tape.trans h.tape,hb.output.trans h.output,Nat.le_trans h.size hb.size,fun k hk n1 n2 => (hb.block k hk).trans (h.block k hk n1 n2)⟩
theorem OD.chg {w a b : World} {gl ga : Nat} (h : OD w a (some ⟨gl,0,none⟩) (some ⟨ga,0,none⟩)) (hc : Chg a b gl ga) : OD w b (some ⟨gl,0,none⟩) (some ⟨ga,0,none⟩) :=
 ⟨hc.os.trans h.os,hc.tape.trans h.tape,hc.output.trans h.output,Nat.le_trans h.size hc.size,fun k hk n1 n2 => (hc.block k (Nat.lt_of_lt_of_le hk h.size) (by rintro rfl;exact n1 rfl) (by rintro rfl;exact n2 rfl)).trans (h.block k hk n1 n2)⟩
theorem Gz.below {w w' : World} {gr : Nat} {Al Aa : Option Addr} {n capl c m : Nat} {L A : List (List UInt8)} (h : Gz w gr Al Aa n capl c m L A) (hb : Below w.heap.size w w') : Gz w' gr Al Aa n capl c m L A :=
 ⟨h.row.below hb h.row.lt,h.l.below hb,h.also.below hb,h.le,h.ne⟩
theorem aGf.drew {w wr : World} {gr gb g5 : Nat} {Al Aa : Option Addr} {n capl c m top col : Nat} {v : Value} {piv : List Nat} {L A L1 A1 : List (List UInt8)} (h : aGf w wr gr gb g5 Al Aa n capl c m top col v piv L A L1 A1) : aGf w wr.drew gr gb g5 Al Aa n capl c m top col v piv L A L1 A1 :=
 ⟨h.go,h.own,h.hlen,h.htop,h.hcol,h.gz.below (Below.drew (Below.refl _ _)),h.chg.below (Below.drew (Below.refl _ _)),h.box,h.cell,h.new,h.newb,h.ne,h.gne⟩
theorem aMR {x y : World} {a : Value} {t : TypeId} (h : Below (x.alloc (.cells #[a] t)).heap.size (x.alloc (.cells #[a] t)) y) : Row y x.heap.size t [a]:=(Row.new x [a] t).below h (by simp)
theorem aKZ {x y : World} {a : Value} {t : TypeId} (h : Below (x.alloc (.cells #[a] t)).drew.heap.size (x.alloc (.cells #[a] t)).drew y) : Row y x.heap.size t [a]:=(show Row (x.alloc (.cells #[a] t)).drew x.heap.size t [a] from Row.new x [a] t).below h (show x.heap.size < (x.alloc (.cells #[a] t)).heap.size by simp)
theorem VS {w : World} {base n : Nat} {v : Value} {xs : List Value} {t : TypeId} (h : w.ownsRow base t 1 v n xs) {g : Nat} (hb : v.ownBlock = some g) : ∃ ys,Row w g t ys:=by
 rcases h with ⟨_,⟨h0,_⟩ | ⟨g',c,cur,h0,hg,hh,_⟩⟩
 ·rw [h0] at hb;cases hb
 ·rw [h0] at hb
  injection hb with hb;subst hb;exact ⟨cur.toList,hh⟩
theorem wL.rowOf {w : World} {base : Nat} {v : Value} {zs : List Nat} (h : wL w base v zs) {g : Nat} (hb : v.ownBlock = some g) : ∃ ys,Row w g 3 ys:=VS h hb
theorem Below.qO {w w' : World} (h : Below w.heap.size w w') {p : Addr} {v : Value} (hc : w.cell? p = some v) : w'.cell? p = some v:=(h.cell (World.block_lt_of_cell? w p hc)).trans hc
theorem Gz.aHr {w w' : World} {gr : Nat} {Al Aa : Option Addr} {n capl c m : Nat} {L A : List (List UInt8)} (h : Gz w gr Al Aa n capl c m L A) {ob : Option Nat} (hg : w.grownBy w' ob) (ho : ∀ g,ob = some g → ∃ ys,Row w g 3 ys) : Gz w' gr Al Aa n capl c m L A:=by
 cases ob with
 | none => exact h.below ⟨hg.os,hg.tape,hg.output,hg.size,fun k hk => hg.block k hk (by simp)⟩
 | some g =>
  obtain ⟨ys,hr⟩:=ho g rfl;have hne : ∀ {A' : Option Addr} {c' : Nat} {X : List (List UInt8)},uU w A' n c' X→uU w' A' n c' X:=fun {A' c' X} hl => by
   rcases Nat.eq_zero_or_pos n with h0 | h0
   ·exact ⟨hl.1,hl.2.1,fun h1 => by omega⟩
   ·obtain ⟨_,lv,e,hrow⟩:=hl.row h0
    refine hl.grown hg hr (by decide) ?_;rw [e];intro e2;injection e2 with e2;injection e2 with e2;exact Row.EL hrow hr (by decide) e2
  refine ⟨h.row.of_block (hg.block gr h.row.lt ?_),hne h.l,hne h.also,h.le,h.ne⟩;intro e2;injection e2 with e2;exact Row.EL h.row hr (by decide) e2
structure aHK (w wr : World) (gr gb g5 gl ga n capl c m top j k : Nat) (v : Value) (piv : List Nat) (L2 A2 : List (List UInt8)) : Prop where
 gz : Gz wr gr (some ⟨gl,0,none⟩) (some ⟨ga,0,none⟩) n capl c m (eZ top j k L2) (nR top j L2 k A2)
 chg : OD w wr (some ⟨gl,0,none⟩) (some ⟨ga,0,none⟩)
 own : wL wr (w.heap.size + 1) v piv
 cell : wr.cell? ⟨g5,0,none⟩ = some (.int .i64 (top : Int))
 box : wr.cell? ⟨gb,0,none⟩ = some (.pointer (some ⟨gr,0,none⟩))
theorem wL.vJ {w w' : World} {base : Nat} {v : Value} {zs : List Nat} (h : wL w base v zs) (hk : ∀ g,base≤g→g < w.heap.size→w'.heap[g]? = w.heap[g]?) : wL w' base v zs:=by
 rcases h with ⟨h0,h1 | ⟨g,c,cur,h1,hg,hh,h2⟩⟩
 ·exact ⟨h0,.inl h1⟩
 ·exact ⟨h0,.inr ⟨g,c,cur,h1,hg,(hk g hg (DF hh)).trans hh,h2⟩⟩
theorem wL.mono {w : World} {b b' : Nat} {v : Value} {zs : List Nat} (h : wL w b v zs) (hb : b'≤b) : wL w b' v zs:=by
 rcases h with ⟨h0,h1 | ⟨g,c,cur,h1,hg,hh,h2⟩⟩
 ·exact ⟨h0,.inl h1⟩
 ·exact ⟨h0,.inr ⟨g,c,cur,h1,Nat.le_trans hb hg,hh,h2⟩⟩
theorem aHK.below {w wr wx : World} {gr gb g5 gl ga n capl c m top j k : Nat} {v : Value} {piv : List Nat} {L2 A2 : List (List UInt8)} (h : aHK w wr gr gb g5 gl ga n capl c m top j k v piv L2 A2) (hb : Below wr.heap.size wr wx) : aHK w wx gr gb g5 gl ga n capl c m top j k v piv L2 A2 :=
 ⟨h.gz.below hb,h.chg.below (hb.mono h.chg.size),h.own.vJ fun g _ hg => hb.block g hg,Below.qO hb h.cell,Below.qO hb h.box⟩
theorem PO (gr : Nat) (Al Aa : Option Addr) (n capl c m : Nat) (L A : List (List UInt8)) (w : World) (h : Gz w gr Al Aa n capl c m L A) (hn : n≤64) (hc : c≤64) (hm : m≤64) :
  Calls Try.prog 81 #[.pointer (some ⟨gr,0,none⟩)] w (aRD w gr Al Aa n capl c m L A):=by
 have hmf : ∀ (fn : Fn) (first cap : Array Value) (w : World),(Instr.makeFunc fn first cap).run Try.prog w = .ok (.func fn first cap) w:=fun _ _ _ _ => rfl
 have H:=Lib.hid h;clear h;go_enter Try.func81,Try.ntmps81;have hb0 : Below w.heap.size w ((w.alloc (.cells #[.pointer (some ⟨gr,0,none⟩)] 92)).alloc (.cells #[.int .i64 0] 3)):=((Below.refl _ _).alloc (Nat.le_refl _) _).alloc (by simp) _;have HST:=Lib.hid (show aGf w ((w.alloc (.cells #[.pointer (some ⟨gr,0,none⟩)] 92)).alloc (.cells #[.int .i64 0] 3)) gr w.heap.size (w.heap.size + 1) Al Aa n capl c m 0 0 (.slice none 0 0) [] L A L A from
  ⟨fun _ _ _ h => h,World.ownsRow_nil _ _ _ _,rfl,Nat.zero_le _,by omega,H.out.below hb0,(OD.refl w Al Aa).below hb0,by simp,by simp,by omega,by omega,(fun k h => by cases h),by omega⟩)
 have HGR:=Lib.hid (show gr < w.heap.size from H.out.row.lt);have HALT:=Lib.hid (show 0 < n→(∀ g,Al = some ⟨g,0,none⟩→g < w.heap.size) ∧ ∀ g,Aa = some ⟨g,0,none⟩→g < w.heap.size from fun h0 => ⟨fun g e => by obtain ⟨g',lv,e',hr⟩:=H.out.l.row h0;rw [e] at e';injection e' with e';injection e' with e';subst e';exact hr.lt,fun g e => by obtain ⟨g',lv,e',hr⟩:=H.out.also.row h0;rw [e] at e';injection e' with e';injection e' with e';subst e';exact hr.lt⟩);have HANE:=Lib.hid H.out.ne;clear hb0 H;go_wp2_with fail
 go_loopg [3,5,6] n (fun k s3 s5 s6 wr => ∃ (top col g5 : Nat) (piv : List Nat) (L1 A1 : List (List UInt8)),s5 = .pointer (some ⟨g5,0,none⟩)∧s6 = .int .i64 (col : Int)∧k = n - top∧aGf w wr gr w.heap.size g5 Al Aa n capl c m top col s3 piv L A L1 A1)
 case atStart => exact ⟨0,0,_,_,_,_,rfl,rfl,rfl,HST.out⟩
 case round =>
  clear HST;obtain ⟨top,col,g5,piv,L1,A1,rfl,rfl,hk,hst⟩:=hrel;have HST:=Lib.hid hst;have b1:=hst.box;have b5:=hst.cell;have r0 : wr.cell? ⟨gr,0,none⟩ = some (.slice Al n capl):=hst.gz.row.cell 0;have ht:=hst.htop;clear hst
  by_cases hlt : top < n
  ·go_wp2_with fail
   go_region
   obtain ⟨wx,hwx⟩ : ∃ wx : World,wx = wr.drew:=⟨_,rfl⟩
   have hst:=HST.out.drew;rw [← hwx] at hst;have HX:=Lib.hid hst;have b1 : wx.cell? ⟨w.heap.size,0,none⟩ = some (.pointer (some ⟨gr,0,none⟩)):=hst.box;have HSK:=Lib.hid (aGO gr Al Aa n capl c m top col L1 A1 wx hst.gz hn hc hlt (by have:=hst.hcol;omega));rw [hwx] at HSK;clear hst r0;go_wp2_with fail
   refine HSK.out.mono ?_;rintro e w1 ⟨i,j,b,rfl,rfl,hyes,hno⟩;have HY:=Lib.hid hyes;have HN:=Lib.hid hno;clear hyes hno HSK;rw [← hwx];have HWX:=Lib.hid hwx;clear hwx b5
   cases b
   ·go_wp2_with fail
    go_ret;have h:=HX.out;exact ⟨_,piv,L1,A1,rfl,wL.mono (World.ownsRow.alloc h.own _) (Nat.le_succ _),h.go _ _ _ (DS.none hlt (HN.out (by simp))),h.gz.below ((Below.refl _ _).alloc (Nat.le_refl _) _),h.chg.below ((Below.refl _ _).alloc h.chg.size _)⟩
   ·obtain ⟨hi,hti,hj,hcj,hx,hzi,hz⟩:=HY.out rfl
    have HYY:=Lib.hid (And.intro hx (And.intro hzi hz));clear hx hzi hz HN HY;have HOWN:=Lib.hid (show ∃ u,u = u3∧wL wx (w.heap.size + 1) u3 piv from ⟨_,rfl,HX.out.own⟩);have hbx : w.heap.size≤wx.heap.size:=HX.out.chg.size;have hpl : piv.length + 1≤64:=by have:=HX.out.hlen;omega
    have hb7:=HX.out.box;have h5:=HX.out.cell;go_wp2_with (at_builtin;refine OZ 37 3 (.int .i64 0) 8 Try.underlying37 ZC rfl (.tmp 37) (.tmp 39) rfl rfl (w.heap.size + 1) u3 piv.length (nVs piv) (.int .i64 (j : Int)) rfl rfl (World.ownsRow.alloc HX.out.own _) _ rfl (by simp) (by simp only [maxLen];omega) (by omega) (by simp;omega) ?_;intro v1 w1 ho1 hb1 hg1)
    have hown0:=HX.out.own;have hgz0 : Gz (wx.alloc (.cells #[.int .i64 (i : Int)] 3)) gr Al Aa n capl c m L1 A1:=HX.out.gz.below ((Below.refl _ _).alloc (Nat.le_refl _) _);have hgz1 : Gz w1 gr Al Aa n capl c m L1 A1:=hgz0.aHr hg1 (fun g hb => wL.rowOf (World.ownsRow.alloc hown0 _) hb);have hobb : ∀ k,u3.ownBlock = some k→k≠g5∧k≠w.heap.size∧k≠wx.heap.size:=fun k hk => ⟨(HX.out.ne k hk).1,(HX.out.ne k hk).2,by have:=(hown0.lt k hk).2;omega⟩
    have hcellk : ∀ (a : Addr) (q : Value),(wx.alloc (.cells #[.int .i64 (i : Int)] 3)).cell? a = some q→(∀ k,u3.ownBlock = some k→k≠a.block)→w1.cell? a = some q:=fun a q h1 h2 => (World.cell?_of_block (hg1.block a.block (World.block_lt_of_cell? _ a h1) (fun e => h2 _ e.symm rfl))).trans h1
    have k5 : w1.cell? ⟨g5,0,none⟩ = some (.int .i64 (top : Int)):=hcellk _ _ (by rw [World.cell?_alloc_old _ _ _ (Nat.ne_of_lt (jH h5))];exact h5) (fun k hk => (hobb k hk).1);have kb : w1.cell? ⟨w.heap.size,0,none⟩ = some (.pointer (some ⟨gr,0,none⟩)):=hcellk _ _ (by rw [World.cell?_alloc_old _ _ _ (Nat.ne_of_lt (jH hb7))];exact hb7) (fun k hk => (hobb k hk).2.1);have ki : w1.cell? ⟨wx.heap.size,0,none⟩ = some (.int .i64 (i : Int)):=hcellk _ _ (by simp) (fun k hk => (hobb k hk).2.2);have kr : w1.cell? ⟨gr,0,none⟩ = some (.slice Al n capl):=hgz1.row.cell 0;obtain ⟨gl,Ai,ci,rfl,hgl,hci,hfi,hlei,hri⟩:=hgz1.l.at_ hi;have hwi:=hgz1.l.width hi;obtain ⟨g',o',rfl,hg',hcell⟩:=qE hri.rd (k:=j) (by omega);obtain ⟨xv,hxv⟩ : ∃ xv,xv = gL L1 i j:=⟨_,rfl⟩
    replace hcell : w1.cell? ⟨g',o' + j,none⟩ = some (.int .u8 (xv.toNat : Int)):=by rw [hxv];exact hcell
    have HXV:=Lib.hid hxv;have HGZ1:=Lib.hid hgz1;have HO1:=Lib.hid ho1;have HB1:=Lib.hid (hb1.mono (Nat.le_succ w.heap.size));have HG1:=Lib.hid hg1;have HK5:=Lib.hid k5;have HKB:=Lib.hid kb;have HKI:=Lib.hid ki;have HOB:=Lib.hid hobb;clear hown0 hgz0 hgz1 hobb hcellk ho1 hb1 hg1 hxv hri hwi k5 hb7 h5 b1
    go_cut [10,11] from 15 to 87 (fun s10 s11 wx' => ∃ g10 : Nat,s10 = .pointer (some ⟨g10,0,none⟩)∧w1.heap.size≤g10∧wx'.cell? ⟨g10,0,none⟩ = some (.int .u8 ((Gf.inv xv).toNat : Int))∧Below w1.heap.size w1 wx')
    case first =>
     obtain ⟨P,hP⟩ : ∃ P : World→Prop,P = fun x => Below w1.heap.size w1 x:=⟨_,rfl⟩
     have hp0 : P w1:=by rw [hP];exact Below.refl _ _
     have HB:=Lib.hid (show ∀ x : World,P x→Calls Try.prog 43 #[.int .u8 (xv.toNat : Int)] x fun e w' => e = .returned (.tuple #[.int .u8 ((Gf.inv xv).toNat : Int),.int .i64 (Gf.QB xv)])∧Below x.heap.size x w' from fun x _ => aBD xv x);have HG:=Lib.hid (show ∀ x y : World,P x→Below x.heap.size x y→P y by rw [hP];exact fun x y q hb => q.trans (hb.mono q.size));have HA:=Lib.hid (show ∀ (x : World) o,P x→P (x.alloc o) by rw [hP];exact fun x o q => q.alloc q.size o);have HD:=Lib.hid (show ∀ (x : World),P x→P x.drew by rw [hP];exact fun x q => q.drew);have HCC:=Lib.hid (show ∀ x : World,P x→x.cell? ⟨w.heap.size,0,none⟩ = some (.pointer (some ⟨gr,0,none⟩))∧x.cell? ⟨wx.heap.size,0,none⟩ = some (.int .i64 (i : Int))∧x.cell? ⟨gr,0,none⟩ = some (.slice (some ⟨gl,0,none⟩) n capl)∧x.cell? ⟨gl,i,none⟩ = some (.slice (some ⟨g',o',none⟩) c ci)∧x.cell? ⟨g',o' + j,none⟩ = some (.int .u8 (xv.toNat : Int)) by
      rw [hP];exact fun x q => ⟨Below.qO q kb,Below.qO q ki,Below.qO q kr,Below.qO q hci,Below.qO q hcell⟩)
     have HST:=Lib.hid (show ∀ (x : World) (a : Addr) (u : Value),w1.heap.size≤a.block→P x→P (x.setCell a u) by
      rw [hP];exact fun x a u ha q => q.setCell ha u)
     have HPS:=Lib.hid (show ∀ (x : World),P x→w1.heap.size≤x.heap.size by rw [hP];exact fun x q => q.size);have HFIN:=Lib.hid (show ∀ x,P x→Below w1.heap.size w1 x by rw [hP];exact fun x q => q);clear hP kb ki kr hci hcell;have hc5:=HCC.out _ hp0
     go_region_held3 (fun x => P x∧x.cell? ⟨w.heap.size,0,none⟩ = some (.pointer (some ⟨gr,0,none⟩))∧x.cell? ⟨wx.heap.size,0,none⟩ = some (.int .i64 (i : Int))∧x.cell? ⟨gr,0,none⟩ = some (.slice (some ⟨gl,0,none⟩) n capl)∧x.cell? ⟨gl,i,none⟩ = some (.slice (some ⟨g',o',none⟩) c ci)∧x.cell? ⟨g',o' + j,none⟩ = some (.int .u8 (xv.toNat : Int)))
      (first | (refine ⟨?_,HCC.out _ ?_⟩ <;> (repeat' (first | with_reducible exact hp0 | with_reducible refine HD.out _ ?_ | with_reducible exact hpb | with_reducible refine HA.out _ _ ?_ | with_reducible refine HST.out _ _ _ (by (try dsimp only);(try simp only [World.size_alloc]);first | omega | (simp;omega)) ?_))))
      (first | (go_at_call 43;(try go_split_ands);(with_reducible refine (HB.out _ (by assumption)).mono ?_);rintro e wb ⟨rfl,hbm⟩;have hpb:=HG.out _ _ (by assumption) hbm;have hzb:=HPS.out _ hpb;(try ((first | (have rA:=aMR hbm) | (have rA:=aKZ hbm));(try simp only [World.size_alloc] at rA);have cA:=rA.cell 0;have fA:=rA.frozen 0;have lA:=rA.lt))))
     all_goals (go_split_ands;go_wp2_with fail;go_meet;refine ⟨_,rfl,by (try dsimp only);omega,?_,HFIN.out _ (by assumption)⟩;first | exact aLw cA | (simp;done))
    case rest =>
     obtain ⟨g10,rfl,hg10,ho10,hb10⟩:=hcut
     rename World => w2
     have aRH:=Lib.hid hb10;have hgz2 : Gz w2 gr (some ⟨gl,0,none⟩) Aa n capl c m L1 A1:=HGZ1.out.below hb10;obtain ⟨ga,A0,c0,rfl,hga,_,_,_,_⟩:=hgz2.also.at_ hi;obtain ⟨_,lvl,e1,hrl⟩:=hgz2.l.row (by omega);simp only [Option.some.injEq,Addr.mk.injEq,and_true] at e1;subst e1;obtain ⟨_,lva,e1,hra⟩:=hgz2.also.row (by omega);simp only [Option.some.injEq,Addr.mk.injEq,and_true] at e1;subst e1;have hw1 : w.heap.size≤w1.heap.size:=by have:=HB1.out.size;simp at this;omega
     have hlt1 : gl < w.heap.size:=(HALT.out (by omega)).1 gl rfl;have hlt2 : ga < w.heap.size:=(HALT.out (by omega)).2 ga rfl;have hgne : gl≠ga:=fun e => HANE.out gl rfl (by rw [e])
     have hgrl : gr≠gl:=Row.EL hgz2.row hrl (by decide);have hgra : gr≠ga:=Row.EL hgz2.row hra (by decide);have hn5 : w.heap.size≤g5:=HX.out.new;have k5 : w2.cell? ⟨g5,0,none⟩ = some (.int .i64 (top : Int)):=Below.qO hb10 HK5.out;have kb2 : w2.cell? ⟨w.heap.size,0,none⟩ = some (.pointer (some ⟨gr,0,none⟩)):=Below.qO hb10 HKB.out;have ki2 : w2.cell? ⟨wx.heap.size,0,none⟩ = some (.int .i64 (i : Int)):=Below.qO hb10 HKI.out;have HSW:=Lib.hid (VH w.heap.size gr gl ga n capl c m L1 A1 (rU L1 i top (Gf.inv xv)) (rU A1 i top (Gf.inv xv)) (.pointer (some ⟨g5,0,none⟩)) (.pointer (some ⟨wx.heap.size,0,none⟩)) (.pointer (some ⟨g10,0,none⟩)) w2 hgz2 (by omega) kb2 (by omega) hgrl hgra hgne
      (YC (some ⟨gl,0,none⟩) n capl c L1 wx.heap.size g5 g10 i top (Gf.inv xv) w2 hgz2.l hi hlt hn (by omega) ki2 k5 ho10 (fun g e => by injection e with e;injection e with e;omega))
      (fun w1' hg1' hl1' => YC (some ⟨ga,0,none⟩) n n m A1 wx.heap.size g5 g10 i top (Gf.inv xv) w1' hl1' hi hlt hn (by omega) (hg1'.cell ki2 (by simp;omega)) (hg1'.cell k5 (by simp;omega)) (hg1'.cell ho10 (by simp;omega)) (fun g e => by injection e with e;injection e with e;omega)))
     have HR:=Lib.hid (And.intro hgrl (And.intro hgra hgne));have HW1:=Lib.hid hw1;have HLT:=Lib.hid (And.intro hlt1 hlt2);have HN5:=Lib.hid hn5;have aZK:=Lib.hid k5;have HKB2:=Lib.hid kb2;clear hgz2 hrl hra hga hlt1 hlt2 hgne hgrl hgra hn5 k5 kb2 ki2 kb ki kr hci hcell hgl hfi hlei hg' ho10 hb10;go_wp2_with fail
     refine HSW.out.mono ?_;rintro e w3 ⟨rfl,hgz3,hch3⟩;have hin : aHK w w3 gr w.heap.size g5 gl ga n capl c m top j 0 v1 (piv ++ [j]) (rU L1 i top (Gf.inv xv)) (rU A1 i top (Gf.inv xv)):=by
      obtain ⟨hlt1,hlt2⟩:=HLT.out;have hn5:=HN5.out;have hw1:=HW1.out;refine ⟨hgz3,?_,?_,hch3.cell aZK.out (by dsimp only;omega) (by dsimp only;omega),hch3.cell HKB2.out (by dsimp only;omega) (by dsimp only;omega)⟩
      ·exact ((((HX.out.chg.below ((Below.refl _ _).alloc HX.out.chg.size _)).below HB1.out).below (aRH.out.mono hw1))).chg hch3
      ·have h1 : wL w1 (w.heap.size + 1) v1 (piv ++ [j]):=by
        unfold wL;rw [YU,List.length_append];exact HO1.out
       exact (h1.vJ fun g _ hg => aRH.out.block g hg).vJ fun g h2 h3 => hch3.block g h3 (by omega) (by omega)
     have HIN:=Lib.hid hin;have r0 : w3.cell? ⟨gr,0,none⟩ = some (.slice (some ⟨gl,0,none⟩) n capl):=hgz3.row.cell 0;have rb:=hin.box;clear hin hgz3 hch3 HSW aZK HKB2 HKB HKI HK5 HG1 HOB HGZ1;obtain ⟨L2,hL2⟩ : ∃ L2,L2 = rU L1 i top (Gf.inv xv):=⟨_,rfl⟩
     obtain ⟨A2,hA2⟩ : ∃ A2,A2 = rU A1 i top (Gf.inv xv):=⟨_,rfl⟩
     rw [← hL2,← hA2] at HIN;have HL2:=Lib.hid hL2;have HA2:=Lib.hid hA2;clear hL2 hA2;go_wp2_with fail
     clear r0 rb
     go_loopg [63] n (fun kk s63 wr2 => ∃ k : Nat,s63 = .int .i64 (k : Int)∧k≤n∧kk = n - k∧aHK w wr2 gr w.heap.size g5 gl ga n capl c m top j k v1 (piv ++ [j]) L2 A2)
     case atStart => exact ⟨0,rfl,by omega,rfl,HIN.out⟩
     case round =>
      clear HIN;obtain ⟨k,rfl,hkn,hkk,hin⟩:=hrel
      rename World => w4
      have HIN:=Lib.hid hin;have rb:=hin.box;have r0 : w4.cell? ⟨gr,0,none⟩ = some (.slice (some ⟨gl,0,none⟩) n capl):=hin.gz.row.cell 0;clear hin
      by_cases hkl : k < n
      ·have hin:=HIN.out
       obtain ⟨w5,hw5⟩ : ∃ w5,w5 = w4.alloc (.cells #[.int .i64 (k : Int)] 3):=⟨_,rfl⟩
       have hb45 : Below w4.heap.size w4 w5:=by rw [hw5];exact (Below.refl _ _).alloc (Nat.le_refl _) _
       have h12 : w5.cell? ⟨w4.heap.size,0,none⟩ = some (.int .i64 (k : Int)):=by rw [hw5];simp
       have h12s : w4.heap.size < w5.heap.size:=by rw [hw5];simp
       have hin5:=hin.below hb45;have rb5:=hin5.box;have r05 : w5.cell? ⟨gr,0,none⟩ = some (.slice (some ⟨gl,0,none⟩) n capl):=hin5.gz.row.cell 0;obtain ⟨gl',Ak,ck,e1,hgl,hck,hfk,hlek,hrk⟩:=hin5.gz.l.at_ hkl;simp only [Option.some.injEq,Addr.mk.injEq,and_true] at e1;subst e1;have hwk:=hin5.gz.l.width hkl;obtain ⟨g',o',rfl,hg',hcell⟩:=qE hrk.rd (k:=j) (by omega);obtain ⟨x,hx⟩ : ∃ x,x = gL (eZ top j k L2) k j:=⟨_,rfl⟩
       replace hcell : w5.cell? ⟨g',o' + j,none⟩ = some (.int .u8 (x.toNat : Int)):=by rw [hx];exact hcell
       have HX2:=Lib.hid hx;have HIN5:=Lib.hid hin5;have HW5:=Lib.hid hw5;have HSZ:=Lib.hid (show w.heap.size + 1≤w4.heap.size from Nat.lt_of_le_of_lt (Nat.le_refl _) (World.block_lt_of_cell? w4 _ rb));have hlek:=hrk;clear hin hin5 hx hrk hlek hwk hfk hgl;go_wp2_with fail
       rw [← HW5.out];have HW5b:=Lib.hid hw5;clear hw5 r0 rb
       go_cut [13] from 66 to 76 (fun s13 wx' => ∃ g13,s13 = .pointer (some ⟨g13,0,none⟩)∧w5.heap.size≤g13∧wx'.cell? ⟨g13,0,none⟩ = some (.int .u8 (x.toNat : Int))∧Below w5.heap.size w5 wx')
       case first =>
        obtain ⟨P,hP⟩ : ∃ P : World→Prop,P = fun x => Below w5.heap.size w5 x:=⟨_,rfl⟩
        have hp0 : P w5:=by rw [hP];exact Below.refl _ _
        have HA:=Lib.hid (show ∀ (x : World) o,P x→P (x.alloc o) by rw [hP];exact fun x o q => q.alloc q.size o);have HD:=Lib.hid (show ∀ (x : World),P x→P x.drew by rw [hP];exact fun x q => q.drew);have HCC:=Lib.hid (show ∀ y : World,P y→y.cell? ⟨w.heap.size,0,none⟩ = some (.pointer (some ⟨gr,0,none⟩))∧y.cell? ⟨w4.heap.size,0,none⟩ = some (.int .i64 (k : Int))∧y.cell? ⟨gr,0,none⟩ = some (.slice (some ⟨gl,0,none⟩) n capl)∧y.cell? ⟨gl,k,none⟩ = some (.slice (some ⟨g',o',none⟩) c ck)∧y.cell? ⟨g',o' + j,none⟩ = some (.int .u8 (x.toNat : Int)) by
         rw [hP];exact fun y q => ⟨Below.qO q rb5,Below.qO q h12,Below.qO q r05,Below.qO q hck,Below.qO q hcell⟩)
        have HST:=Lib.hid (show ∀ (x : World) (a : Addr) (u : Value),w5.heap.size≤a.block→P x→P (x.setCell a u) by
         rw [hP];exact fun x a u ha q => q.setCell ha u)
        have HPS:=Lib.hid (show ∀ (x : World),P x→w5.heap.size≤x.heap.size by rw [hP];exact fun x q => q.size);have HFIN:=Lib.hid (show ∀ x,P x→Below w5.heap.size w5 x by rw [hP];exact fun x q => q);clear hP rb5 h12 r05 hck hcell;have hc5:=HCC.out _ hp0
        go_region_held3 (fun y => P y∧y.cell? ⟨w.heap.size,0,none⟩ = some (.pointer (some ⟨gr,0,none⟩))∧y.cell? ⟨w4.heap.size,0,none⟩ = some (.int .i64 (k : Int))∧y.cell? ⟨gr,0,none⟩ = some (.slice (some ⟨gl,0,none⟩) n capl)∧y.cell? ⟨gl,k,none⟩ = some (.slice (some ⟨g',o',none⟩) c ck)∧y.cell? ⟨g',o' + j,none⟩ = some (.int .u8 (x.toNat : Int)))
         (first | (refine ⟨?_,HCC.out _ ?_⟩ <;> (repeat' (first | with_reducible exact hp0 | with_reducible refine HD.out _ ?_ | with_reducible refine HA.out _ _ ?_ | with_reducible refine HST.out _ _ _ (by (try dsimp only);(try simp only [World.size_alloc]);first | omega | (simp;omega)) ?_))))
         (fail)
        all_goals (go_split_ands;go_wp2_with fail;go_meet;refine ⟨_,rfl,by (try dsimp only);omega,?_,HFIN.out _ (by assumption)⟩;first | (simp;done))
       case rest =>
        obtain ⟨g13,rfl,hg13,ho13,hb13⟩:=hcut
        rename World => w6
        have hin6:=HIN5.out.below hb13;have h12b : w6.cell? ⟨w4.heap.size,0,none⟩ = some (.int .i64 (k : Int)):=Below.qO hb13 h12;have h5b:=hin6.cell;have rb6:=hin6.box;have HIN6:=Lib.hid hin6;have HSTEP:=Lib.hid (show ∀ w' : World,Gz w' gr (some ⟨gl,0,none⟩) (some ⟨ga,0,none⟩) n capl c m (eZ top j (k + 1) L2) (nR top j L2 (k + 1) A2)→Chg w6 w' gl ga→aHK w w' gr w.heap.size g5 gl ga n capl c m top j (k + 1) v1 (piv ++ [j]) L2 A2 from fun w' q1 q2 => by
         obtain ⟨hlt1,hlt2⟩:=HLT.out;have hn5:=HN5.out;have hin6:=HIN6.out;exact ⟨q1,hin6.chg.chg q2,hin6.own.vJ fun g h2 h3 => q2.block g h3 (by omega) (by omega),q2.cell hin6.cell (by dsimp only;omega) (by dsimp only;omega),q2.cell hin6.box (by dsimp only;omega) (by dsimp only;omega)⟩)
        have HSTAY:=Lib.hid (show (k = top ∨ x = 0)→aHK w w6 gr w.heap.size g5 gl ga n capl c m top j (k + 1) v1 (piv ++ [j]) L2 A2 from fun q => by
         have hin6:=HIN6.out;have e : ¬ (k≠top∧gL (eZ top j k L2) k j≠0):=fun h => by
          rcases q with q | q
          ·exact h.1 q
          ·exact h.2 (HX2.out ▸ q)
         refine ⟨?_,hin6.chg,hin6.own,hin6.cell,hin6.box⟩;rw [eZ,nR,if_neg e,if_neg e];exact hin6.gz)
        clear hin6 hb13 h12 hck hcell rb5 r05
        by_cases hkt : k = top
        ·have b1 : ((k : Int) != (top : Int)) = false:=by subst hkt;simp
         go_wp2_with fail
         go_roundg (n - (k + 1))
         case rel => exact ⟨k + 1,by go_num,by omega,rfl,HSTAY.out (.inl hkt)⟩
         case measure => omega
        ·have b1 : ((k : Int) != (top : Int)) = true:=by rw [bne_iff_ne];omega
         by_cases hx0 : x.toNat = 0
         ·have hx1 : (x.toNat : Int) = 0:=by omega
          rw [hx1] at ho13;go_wp2_with fail
          go_roundg (n - (k + 1))
          case rel => exact ⟨k + 1,by go_num,by omega,rfl,HSTAY.out (.inr (UInt8.toNat_inj.1 hx0))⟩
          case measure => omega
         ·have b2 : ((x.toNat : Int) != 0) = true:=by rw [bne_iff_ne];omega
          have HCA:=Lib.hid (show Calls Try.prog 93 #[.func (.func 97) #[] #[.pointer (some ⟨w4.heap.size,0,none⟩),.pointer (some ⟨g13,0,none⟩),.pointer (some ⟨g5,0,none⟩)],.pointer (some ⟨w.heap.size,0,none⟩)] w6 fun e w' => e = .returned (.tuple #[])∧Gz w' gr (some ⟨gl,0,none⟩) (some ⟨ga,0,none⟩) n capl c m (eZ top j (k + 1) L2) (nR top j L2 (k + 1) A2)∧Chg w6 w' gl ga by
           obtain ⟨hlt1,hlt2⟩:=HLT.out;obtain ⟨hgrl,hgra,hgne⟩:=HR.out;have hn5:=HN5.out;have hsz:=HSZ.out;have hin6:=HIN6.out;have e : k≠top∧gL (eZ top j k L2) k j≠0:=⟨hkt,fun e => hx0 (by rw [HX2.out,e];rfl)⟩
           rw [eZ,nR,if_pos e,if_pos e,← HX2.out];exact aAb w.heap.size gr gl ga n capl c m _ _ _ _ (.pointer (some ⟨w4.heap.size,0,none⟩)) (.pointer (some ⟨g13,0,none⟩)) (.pointer (some ⟨g5,0,none⟩)) w6 hin6.gz (by omega) hin6.box (by omega) hgrl hgra hgne
            (RC (some ⟨gl,0,none⟩) n capl c _ w4.heap.size g13 g5 k top x w6 hin6.gz.l hkl hlt hkt hn (by omega) h12b hin6.cell ho13 (fun g e => by injection e with e;injection e with e;omega))
            (fun w1' hg1' hl1' => RC (some ⟨ga,0,none⟩) n n m _ w4.heap.size g13 g5 k top x w1' hl1' hkl hlt hkt hn (by omega) (hg1'.cell h12b (by simp;omega)) (hg1'.cell hin6.cell (by simp;omega)) (hg1'.cell ho13 (by simp;omega)) (fun g e => by injection e with e;injection e with e;omega)))
          go_wp2_with fail
          refine HCA.out.mono ?_;rintro e w7 ⟨rfl,hgz7,hch7⟩;have HI7:=Lib.hid (HSTEP.out w7 hgz7 hch7);clear hgz7 hch7 HCA HSTEP HSTAY HIN6 ho13 h12b h5b rb6;go_wp2_with fail
          go_roundg (n - (k + 1))
          case rel => exact ⟨k + 1,by go_num,by omega,rfl,HI7.out⟩
          case measure => omega
      ·obtain rfl : k = n:=by omega
       have h5b:=HIN.out.cell;clear rb r0;go_wp2_with fail
       go_roundg (k - (top + 1))
       case rel =>
        have hin:=HIN.out;have hsz : w.heap.size + 1≤w4.heap.size:=Nat.lt_of_le_of_lt (Nat.le_refl _) (World.block_lt_of_cell? w4 _ hin.box);obtain ⟨hx,hzi,hz⟩:=HYY.out;have hb : Below w4.heap.size w4 (w4.alloc (.cells #[.int .i64 ((top : Int) + 1)] 3)):=(Below.refl _ _).alloc (Nat.le_refl _) _;refine ⟨top + 1,j + 1,w4.heap.size,piv ++ [j],_,_,rfl,by go_num,rfl,fun L' A' p' h => HX.out.go _ _ _ (DS.step hlt hi hti hj hcj hx hzi hz ?_),hin.own.vJ fun g _ hg => hb.block g hg,by rw [List.length_append,HX.out.hlen];rfl,hlt,by omega,hin.gz.below hb,hin.chg.below (hb.mono hin.chg.size),Below.qO hb hin.box,by simp,by omega,Nat.le_refl _,fun q hq => ?_,by omega⟩
        ·rw [← HXV.out,← HL2.out,← HA2.out]
         exact h
        ·have:=hin.own.lt q hq
         omega
       case measure => omega
  ·go_wp2_with fail
   go_region
   go_wp2_with fail
   go_ret;have h:=HST.out;exact ⟨_,piv,L1,A1,rfl,h.own.mono (Nat.le_succ _),h.go _ _ _ (DS.full (by omega)),h.drew.gz,h.drew.chg⟩
end Go.Proofs.Yteofcbkjhdadpaa
namespace Go.Proofs
open Go.Shelf
def Try.aDa : Go.Shelf.Ren:=⟨fun | 4 => 92 | n => n,fun | 22 => 22 | 4 => 4 | 5 => 5 | n => n,fun | n => n⟩
theorem Try.aFo : Go.Proofs.SlLaysK.n4 Try.prog Try.aDa:={
 mixed:=by kernel_rfl
 f4:=Try.func92.trans (congrArg some (by kernel_rfl))
 t4:=Try.underlying4
 a4:=Try.isAgg4
 z4:=Try.sizeOf4
 v4:=Try.zeroValue4
 t22:=Try.underlying22
 a22:=Try.isAgg22
 z22:=Try.sizeOf22
 v22:=Try.zeroValue22
 t5:=Try.underlying5
 i5:=by kernel_rfl }
open Go.RowKit Go.Lib in
theorem Try.bytes_Clone_at (a : Addr) (n c : Nat) (xs : List Int) (w : World) (hx : xs.length = n) (hbig : n≤140737488355328) (hc : ∀ i,i < n→w.cell? (a.add i) = some (.int .u8 (xs.getD i 0))) :
  Calls Try.prog 92 #[.slice (some a) n c] w fun e w' => ∃ v',e = .returned v'∧w'.ownsRow w.heap.size 5 1 v' n (xs.map (Value.int .u8))∧v'≠.slice none 0 0∧Below w.heap.size w w':=Any.bytes_Clone_at Try.aFo a n c xs w hx hbig hc
open Go.RowKit Go.Lib in
theorem Try.bytes_Clone_nil (n c : Nat) (w : World) :
  Calls Try.prog 92 #[.slice none n c] w fun e w' => e = .returned (.slice none 0 0)∧w' = w:=Any.bytes_Clone_nil Try.aFo n c w
def Try.aAX : Go.Shelf.Ren:=⟨fun | 14 => 99 | 15 => 101 | n => n,fun | 26 => 62 | 22 => 22 | 3 => 3 | 4 => 4 | 0 => 0 | 9 => 9 | 20 => 20 | 5 => 5 | n => n,fun | n => n⟩
theorem Try.LC : Go.Proofs.SlLaysJ.n14 Try.prog Try.aAX:={
 mixed:=by kernel_rfl
 f14:=Try.func99.trans (congrArg some (by kernel_rfl))
 f15:=Try.func101.trans (congrArg some (by kernel_rfl))
 t0:=Try.underlying0
 a0:=Try.isAgg0
 z0:=Try.sizeOf0
 v0:=Try.zeroValue0
 t3:=Try.underlying3
 a3:=Try.isAgg3
 z3:=Try.sizeOf3
 v3:=Try.zeroValue3
 t4:=Try.underlying4
 a4:=Try.isAgg4
 z4:=Try.sizeOf4
 v4:=Try.zeroValue4
 t9:=Try.underlying9
 a9:=Try.isAgg9
 z9:=Try.sizeOf9
 v9:=Try.zeroValue9
 t20:=Try.underlying20
 a20:=Try.isAgg20
 z20:=Try.sizeOf20
 v20:=Try.zeroValue20
 t22:=Try.underlying22
 a22:=Try.isAgg22
 z22:=Try.sizeOf22
 v22:=Try.zeroValue22
 t26:=Try.underlying62
 a26:=Try.isAgg62
 z26:=Try.sizeOf62
 v26:=Try.zeroValue62
 t5:=Try.underlying5
 z5:=Try.sizeOf5
 i5:=by kernel_rfl }
open Go.RowKit Go.Lib in
theorem Try.bytes_Join_many (b o n c : Nat) (vs : List Value) (ls : List (List UInt8)) (sv : Value) (sep : List UInt8) (w : World) (hn : ls.length = n) (h2 : 2≤n) (hP : Lib.PartsAt w ⟨b,o,none⟩ vs ls) (hcap : n≤c) (hS : Lib.HoldsBytes w sv sep) (hn47 : n≤140737488355328) (hlen : Lib.lens ls + sep.length * (n - 1)≤140737488355328) :
  Calls Try.prog 99 #[.slice (some ⟨b,o,none⟩) n c,sv] w fun e w' => ∃ v',e = .returned v'∧Lib.FreshBytes w.heap.size w' v' (Lib.join ls sep)∧Below w.heap.size w w':=Any.bytes_Join_many Try.LC b o n c vs ls sv sep w hn h2 hP hcap hS hn47 hlen
open Go.RowKit Go.Lib in
theorem Try.bytes_Join_none (p : Option Addr) (c : Nat) (sv : Value) (w : World) :
  Calls Try.prog 99 #[.slice p 0 c,sv] w fun e w' => e = .returned (.slice (some ⟨w.heap.size,0,none⟩) 0 0)∧w' = w.alloc (.cells #[] 5):=Any.bytes_Join_none Try.LC p c sv w
open Go.RowKit Go.Lib in
theorem Try.bytes_Join_one (b o c : Nat) (ad0 : Addr) (c0 : Nat) (l0 : List UInt8) (sv : Value) (w : World) (hcell : w.cell? ⟨b,o,none⟩ = some (.slice (some ad0) l0.length c0)) (hc : ∀ (i : Nat) x,l0[i]? = some x→w.cell? (ad0.add i) = some (.int .u8 (x.toNat : Int))) (h0 : 0 < l0.length) (hs : l0.length≤140737488355328) :
  Calls Try.prog 99 #[.slice (some ⟨b,o,none⟩) 1 c,sv] w fun e w' => ∃ v',e = .returned v'∧Lib.FreshBytes w.heap.size w' v' l0∧Below w.heap.size w w':=Any.bytes_Join_one Try.LC b o c ad0 c0 l0 sv w hcell hc h0 hs
open Go.RowKit Go.Lib in
theorem Try.bytes_Join_one_empty (b o c : Nat) (p0 : Option Addr) (c0 : Nat) (sv : Value) (w : World) (hcell : w.cell? ⟨b,o,none⟩ = some (.slice p0 0 c0)) :
  Calls Try.prog 99 #[.slice (some ⟨b,o,none⟩) 1 c,sv] w fun e w' => e = .returned (.slice none 0 0)∧w' = w:=Any.bytes_Join_one_empty Try.LC b o c p0 c0 sv w hcell
end Go.Proofs
namespace Go.Proofs.Yteofcbkjhdadpaa
open Go.RowKit
theorem TQ {B : Nat} {w : World} {v : Value} {l : List UInt8} (h : Lib.FreshBytes B w v l) : ∃ A k,v = .slice A l.length k∧Rd w w.heap.size A l.length (fQ l)∧l.length≤k ∧ ∀ a,A = some a→B≤a.block:=by
 obtain ⟨g,cap,zs,rfl,hg,hl,hm,hz,hr,hb,hc,hf⟩:=h;refine ⟨_,_,rfl,⟨cB l,fun hn => ⟨g,0,rfl,?_,fun j u hu => ?_⟩⟩,hl,fun a e => by injection e with e;subst e;exact hg⟩
 ·exact World.block_lt_of_cell? w ⟨g,0,none⟩ (hc 0 (by omega))
 ·have hj : j < l.length:=by
   rcases Nat.lt_or_ge j l.length with h1 | h1
   ·exact h1
   ·rw [List.getElem?_eq_none (by rw [cB];exact h1)] at hu;cases hu
  rw [Nat.zero_add,hc j (by omega),← hu,wH l j hj];have hjz : j < zs.length:=by omega
  have e1 : zs.getD j 0 = zs[j]:=by rw [List.getD_eq_getElem?_getD,List.getElem?_eq_getElem hjz];rfl
  have e2 : l[j]? = some (UInt8.ofNat zs[j].toNat):=by
   rw [← hb];unfold Lib.bytesOf;rw [List.getElem?_map,List.getElem?_take,if_pos hj,List.getElem?_eq_getElem hjz];rfl
  rw [List.getElem?_eq_getElem hj] at e2;injection e2 with e2;have h0:=hr zs[j] (List.getElem_mem hjz);rw [e1,e2,UInt8.toNat_ofNat']
  congr 2
  omega
theorem YY {n c : Nat} {L : List (List UInt8)} (h1 : L.length = n) (h2 : ∀ i,i < n→(L.getD i []).length = c) : L.flatten.length = n * c∧Lib.lens L = n * c:=by
 have h3 : ∀ x∈L,x.length = c:=fun x hx => by
  obtain ⟨i,hi,rfl⟩:=List.getElem_of_mem hx;have:=h2 i (by omega)
  rwa [List.getD_eq_getElem?_getD,List.getElem?_eq_getElem hi] at this
 have h4 : (L.map (·.length)).sum = n * c:=by
  subst h1;clear h2
  induction L with
  | nil => simp
  | cons x L ih =>
   rw [List.map_cons,List.sum_cons,ih (fun y hy => h3 y (List.mem_cons_of_mem _ hy)),h3 x List.mem_cons_self,List.length_cons,Nat.add_mul];omega
 exact ⟨by rw [List.length_flatten];exact h4,h4⟩
theorem aLj (L : List (List UInt8)) : Lib.join L [] = L.flatten:=by
 cases L with
 | nil => rfl
 | cons x r => rw [Lib.join_cons];unfold Lib.joinTail;simp
theorem aLi {w : World} {g n c : Nat} {L : List (List UInt8)} (h : uU w (some ⟨g,0,none⟩) n c L) (hn : 0 < n) : ∃ vs,Lib.PartsAt w ⟨g,0,none⟩ vs L:=by
 obtain ⟨g',lv,e,hr,hl,hc⟩:=h.2.2 hn;simp only [Option.some.injEq,Addr.mk.injEq,and_true] at e;subst e;refine ⟨lv.take n,by rw [List.length_take,h.1];omega,fun i v hv => ?_,fun i v l hv hl => ?_⟩
 ·rw [List.getElem?_take] at hv
  split at hv
  ·rw [zF,Nat.zero_add,hr.cell,hv]
  ·cases hv
 ·have hi : i < n:=by
   rcases Nat.lt_or_ge i n with h1 | h1
   ·exact h1
   ·rw [List.getElem?_eq_none (by rw [h.1];exact h1)] at hl;cases hl
  obtain ⟨Ai,ci,e1,e2,e3⟩:=hc i hi;rw [List.getElem?_take,if_pos hi,e1] at hv;injection hv with hv;have el : L.getD i [] = l:=by rw [List.getD_eq_getElem?_getD,hl];rfl
  have hw : l.length = c:=by rw [← el];exact h.2.1 i hi
  rw [el] at e3;refine ⟨Ai,ci,by rw [← hv,hw],fun e => ?_,fun a e j x hx => ?_⟩
  ·rcases Nat.eq_zero_or_pos l.length with h1 | h1
   ·exact List.eq_nil_of_length_eq_zero h1
   ·obtain ⟨_,_,_,e4,_⟩:=e3 h1
    rw [e] at e4;cases e4
  ·have hj : j < l.length:=by
    rcases Nat.lt_or_ge j l.length with h1 | h1
    ·exact h1
    ·rw [List.getElem?_eq_none h1] at hx;cases hx
   obtain ⟨g2,o,rfl,h3⟩:=qE e3.rd hj;simp only [Option.some.injEq] at e;subst e;obtain ⟨_,h4⟩:=h3;rw [zF];rw [List.getD_eq_getElem?_getD,hx] at h4;exact h4
theorem aHo (A : Option Addr) (n cap c : Nat) (L : List (List UInt8)) (w : World) (h : uU w A n c L) (hn : n≤64) (hc : c≤64) (hcap : n≤cap) :
  Calls Try.prog 99 #[.slice A n cap,.slice none 0 0] w fun e w' => ∃ A' k',e = .returned (.slice A' (n * c) k')∧Rd w' w'.heap.size A' (n * c) (fQ L.flatten)∧n * c≤k'∧(∀ a,A' = some a→w.heap.size≤a.block)∧Below w.heap.size w w':=by
 have hf:=YY h.1 h.2.1;have hp : n * c≤4096:=Nat.le_trans (Nat.mul_le_mul hn hc) (by omega)
 rcases Nat.lt_trichotomy n 1 with h1 | h1 | h1
 ·obtain rfl : n = 0:=by omega
  obtain rfl:=List.eq_nil_of_length_eq_zero h.1;refine (Try.bytes_Join_none A cap (.slice none 0 0) w).mono ?_;rintro e w' ⟨rfl,rfl⟩;refine ⟨_,0,by rw [Nat.zero_mul],?_,by omega,fun a e => by injection e with e;subst e;exact Nat.le_refl _,(Below.refl _ _).alloc (Nat.le_refl _) _⟩;rw [Nat.zero_mul];exact Rd.nil
 ·subst h1
  obtain ⟨l,rfl⟩ : ∃ l,L = [l]:=by
   have:=h.1
   match L,this with
   | [l],_ => exact ⟨l,rfl⟩
  obtain ⟨g,Ai,ci,rfl,hg,hci,_,hle,hr⟩:=h.at_ (i:=0) (by omega);have hw : l.length = c:=h.width (i:=0) (by omega);have e0 : [l].getD 0 [] = l:=rfl;rw [e0] at hr;rw [Nat.one_mul]
  rcases Nat.eq_zero_or_pos c with hz | hz
  ·subst hz
   refine (Try.bytes_Join_one_empty g 0 cap Ai ci (.slice none 0 0) w hci).mono ?_;rintro e w' ⟨rfl,rfl⟩;obtain rfl:=List.eq_nil_of_length_eq_zero hw;exact ⟨none,0,rfl,Rd.nil,Nat.le_refl _,(fun a e => by cases e),Below.refl _ _⟩
  ·obtain ⟨g2,o,rfl,hg2⟩:=qE hr.rd (k:=0) (by omega)
   rw [← hw] at hci;refine (Try.bytes_Join_one g 0 cap ⟨g2,o,none⟩ ci l (.slice none 0 0) w hci (fun i x hx => ?_) (by omega) (by omega)).mono ?_
   ·have hi : i < l.length:=by
     rcases Nat.lt_or_ge i l.length with h1 | h1
     ·exact h1
     ·rw [List.getElem?_eq_none h1] at hx;cases hx
    obtain ⟨g3,o3,e3,_,h4⟩:=qE hr.rd hi;simp only [Option.some.injEq,Addr.mk.injEq,and_true] at e3;obtain ⟨rfl,rfl⟩:=e3;rw [zF];rw [List.getD_eq_getElem?_getD,hx] at h4;exact h4
   ·rintro e w' ⟨v',rfl,hfr,hb⟩
    obtain ⟨A',k,rfl,hrd,hk,hA⟩:=TQ hfr;rw [hw] at hrd hk ⊢;exact ⟨A',k,rfl,by simpa using hrd,hk,hA,hb⟩
 ·obtain ⟨g,lv,rfl,_⟩:=h.row (by omega)
  obtain ⟨vs,hP⟩:=aLi h (by omega);refine (Try.bytes_Join_many g 0 n cap vs L (.slice none 0 0) [] w h.1 (by omega) hP hcap ⟨none,0,rfl,fun _ => rfl,fun a e => by cases e⟩ (by omega) (by rw [hf.2];simp;omega)).mono ?_;rintro e w' ⟨v',rfl,hfr,hb⟩;rw [aLj] at hfr;obtain ⟨A',k,rfl,hrd,hk,hA⟩:=TQ hfr;rw [hf.1] at hrd hk ⊢;exact ⟨A',k,rfl,hrd,hk,hA,hb⟩
theorem aFL (A : Option Addr) (n cap : Nat) (xs : List UInt8) (w : World) (h : Rd w w.heap.size A n (fQ xs)) (hn : n≤4096) :
  Calls Try.prog 92 #[.slice A n cap] w fun e w' => ∃ A' k',e = .returned (.slice A' n k')∧ID w' A' xs∧n≤k'∧Below w.heap.size w w':=by
 have hl : xs.length = n:=by have:=h.len;rwa [cB] at this
 cases A with
 | none =>
  obtain rfl : n = 0:=by
   rcases Nat.eq_zero_or_pos n with h1 | h1
   ·exact h1
   ·obtain ⟨_,_,e,_⟩:=h.2 h1;cases e
  obtain rfl:=List.eq_nil_of_length_eq_zero hl;refine (Try.bytes_Clone_nil 0 cap w).mono ?_;rintro e w' ⟨rfl,rfl⟩;exact ⟨none,0,rfl,ID.nil _ _,Nat.le_refl _,Below.refl _ _⟩
 | some a =>
  have e3 : (xs.map fun x => (x.toNat : Int)).map (Value.int .u8) = fQ xs:=by unfold fQ;rw [List.map_map];rfl
  refine (Try.bytes_Clone_at a n cap (xs.map fun x => (x.toNat : Int)) w (by rw [List.length_map];exact hl) (by omega) (fun i hi => ?_)).mono ?_
  ·obtain ⟨g,o,e,hg,hcell⟩:=qE h hi
   injection e with e;subst e;rw [zF,hcell]
   congr 2
   rw [List.getD_eq_getElem?_getD,List.getD_eq_getElem?_getD,List.getElem?_map,List.getElem?_eq_getElem (by omega : i < xs.length)];rfl
  ·rintro e w' ⟨v',rfl,ho,hne,hb⟩
   rw [e3] at ho
   rcases ho with ⟨h0,⟨h1,_⟩ | ⟨g,k,cur,rfl,hr⟩⟩
   ·exact absurd h1 hne
   ·have hO : iR w' w.heap.size (some ⟨g,0,none⟩) n k xs:=⟨hl,h0,.inr ⟨g,k,cur,rfl,hr⟩⟩
    exact ⟨_,k,rfl,ID.aCW hO,hO.le',hb⟩
end Go.Proofs.Yteofcbkjhdadpaa
namespace Go.Proofs.Yteofcbkjhdadpaa
open Go.RowKit
theorem Rd.off {w : World} {n : Nat} {A : Option Addr} {xs : List Value} (h : Rd w w.heap.size A n xs) {p : Addr} (hp : ∀ a,A = some a→a.block≠p.block) (u : Value) : Rd (w.setCell p u) (w.setCell p u).heap.size A n xs:=by
 refine ⟨h.1,fun hn => ?_⟩;obtain ⟨g,o,e,hg,hc⟩:=h.2 hn;refine ⟨g,o,e,by simpa using hg,fun j v hv => ?_⟩;exact cell_far (hc j v hv) (.inl fun e2 => hp _ e e2.symm)
theorem JK (gr : Nat) (Al : Option Addr) (n capl c : Nat) (L : List (List UInt8)) (w : World) (r0 : w.cell? ⟨gr,0,none⟩ = some (.slice Al n capl)) (r2 : w.cell? ⟨gr,2,none⟩ = some (.int .i64 (c : Int))) (h : uU w Al n c L) (hle : n≤capl) (hn : n≤64) (hc : c≤64) :
  Calls Try.prog 82 #[.pointer (some ⟨gr,0,none⟩)] w fun e w' => ∃ A' k',e = .returned (mV n c A' (n * c) k')∧Rd w' w'.heap.size A' (n * c) (fQ L.flatten)∧n * c≤k'∧(∀ a,A' = some a→w.heap.size≤a.block)∧Below w.heap.size w w':=by
 obtain ⟨p,hp⟩ : ∃ p,p = n * c:=⟨_,rfl⟩
 have HL:=Lib.hid (show ∀ x : World,Below w.heap.size w x→Calls Try.prog 99 #[.slice Al n capl,.slice none 0 0] x fun e w' => ∃ A' k',e = .returned (.slice A' p k')∧Rd w' w'.heap.size A' p (fQ L.flatten)∧p≤k'∧(∀ a,A' = some a→x.heap.size≤a.block)∧Below x.heap.size x w' by
  rw [hp];exact fun x q => aHo Al n capl c L x (h.below q) hn hc hle)
 rw [← hp];clear h hp;go_enter Try.func82,Try.ntmps82;go_wp2_with fail
 obtain ⟨w1,hw1⟩ : ∃ w1,w1 = w.alloc (.cells #[.int .i64 0,.int .i64 0,.slice none 0 0] 24):=⟨_,rfl⟩
 have hb1 : Below w.heap.size w w1:=by rw [hw1];exact (Below.refl _ _).alloc (Nat.le_refl _) _
 have hrow : Row w1 w.heap.size 24 [.int .i64 0,.int .i64 0,.slice none 0 0]:=by rw [hw1];exact Row.new w _ _
 rw [← hw1];obtain ⟨P,hP⟩ : ∃ P : World→Prop,P = fun x => Below w.heap.size w x ∧ ∃ a b c,Row x w.heap.size 24 [a,b,c]:=⟨_,rfl⟩
 have hp0 : P w1:=by rw [hP];exact ⟨hb1,_,_,_,hrow⟩
 have HG:=Lib.hid (show ∀ x y : World,P x→Below x.heap.size x y→P y by rw [hP];exact fun x y ⟨q,a,b,c,r⟩ hb => ⟨q.trans (hb.mono q.size),a,b,c,r.below hb r.lt⟩);have HD:=Lib.hid (show ∀ (x : World),P x→P x.drew by rw [hP];exact fun x ⟨q,a,b,c,r⟩ => ⟨q.drew,a,b,c,Row.drewN r 1⟩);have HST:=Lib.hid (show ∀ (x : World) (i : Nat) (u : Value),i < 3→P x→P (x.setCell ⟨w.heap.size,i,none⟩ u) by
  rw [hP];rintro x i u hi ⟨q,a,b,c,r⟩;refine ⟨q.setCell (Nat.le_refl _) u,?_⟩;have r':=r.set i u
  match i,hi with
  | 0,_ => exact ⟨_,_,_,r'⟩
  | 1,_ => exact ⟨_,_,_,r'⟩
  | 2,_ => exact ⟨_,_,_,r'⟩)
 have HB:=Lib.hid (show ∀ x : World,P x→Calls Try.prog 99 #[.slice Al n capl,.slice none 0 0] x fun e w' => ∃ A' k',e = .returned (.slice A' p k')∧Rd w' w'.heap.size A' p (fQ L.flatten)∧p≤k'∧(∀ a,A' = some a→x.heap.size≤a.block)∧Below x.heap.size x w' by
  rw [hP];exact fun x q => HL.out x q.1)
 have HCC:=Lib.hid (show ∀ x : World,P x→x.cell? ⟨gr,0,none⟩ = some (.slice Al n capl)∧x.cell? ⟨gr,2,none⟩ = some (.int .i64 (c : Int)) by
  rw [hP];exact fun x q => ⟨Below.qO q.1 r0,Below.qO q.1 r2⟩)
 have HROW:=Lib.hid (show ∀ x : World,P x→(∃ a b c,Row x w.heap.size 24 [a,b,c])∧Below w.heap.size w x by rw [hP];exact fun x q => ⟨q.2,q.1⟩);have HS:=Lib.hid (show w.heap.size < w1.heap.size from hrow.lt);clear hP hrow hb1 hw1 r0 r2 HL;have hc5:=HCC.out _ hp0
 go_region_held3 (fun x => P x∧x.cell? ⟨gr,0,none⟩ = some (.slice Al n capl)∧x.cell? ⟨gr,2,none⟩ = some (.int .i64 (c : Int)))
  (first | (refine ⟨?_,HCC.out _ ?_⟩ <;> (repeat' (first | with_reducible exact hp0 | with_reducible refine HD.out _ ?_ | with_reducible exact hpb | with_reducible refine HST.out _ _ _ (by decide) ?_))))
  (first | (go_at_call 99;(try go_split_ands);(with_reducible refine (HB.out _ (by assumption)).mono ?_);rintro e wb ⟨A',k',rfl,hrd,hk,hA,hbm⟩;have hpb:=HG.out _ _ (by assumption) hbm;obtain ⟨⟨a0,b0,c0,hrb⟩,hbb⟩:=HROW.out _ hpb;obtain ⟨e0,e1,e2,f0,f1,f2⟩:=hrb.three))
 have hA' : ∀ a,A' = some a→a.block≠w.heap.size:=fun a e => by
  have:=hA a e;have h2 : w1.drew.heap.size = w1.heap.size:=rfl;have:=HS.out;omega
 have HAW:=Lib.hid (show ∀ a,A' = some a→w.heap.size≤a.block from fun a e => by
  have:=hA a e;have h2 : w1.drew.heap.size = w1.heap.size:=rfl;have:=HS.out;omega)
 have hlt:=hrb.lt;have HRD:=Lib.hid hrd;have HA:=Lib.hid hA';have HBB:=Lib.hid hbb;clear hrd hA hA' hbb hrb;go_wp2_with fail
 refine bodyPost_ret (v:=mV n c A' p k') (by simp [results,Try.results82,go_sem,e0,e1,e2,hlt]) rfl ⟨A',k',rfl,?_,hk,HAW.out,cV HBB.out (Nat.le_refl _) _ _ _⟩;exact ((HRD.out.off HA.out _).off HA.out _).off HA.out _
theorem aAY (gr : Nat) (Al Aa : Option Addr) (n capl c m : Nat) (L A : List (List UInt8)) (w : World) (h : Gz w gr Al Aa n capl c m L A) (hn : n≤64) (hc : c≤64) :
  Calls Try.prog 82 #[.pointer (some ⟨gr,0,none⟩)] w fun e w' => ∃ A' k',e = .returned (mV n c A' (n * c) k')∧Rd w' w'.heap.size A' (n * c) (fQ L.flatten)∧n * c≤k'∧(∀ a,A' = some a→w.heap.size≤a.block)∧Below w.heap.size w w' :=
 JK gr Al n capl c L w (h.row.cell 0) (h.row.cell 2) h.l h.le hn hc
theorem aHn (n : Nat) (hn : n≤4096) (w : World) :
  (Instr.makeSlice 62 (.int .i64 (n : Int)) (.int .i64 (n : Int))).run Try.prog w = .ok (.slice (some ⟨w.heap.size,0,none⟩) n n) (w.alloc (.cells (madeCells #[.slice none 0 0] n) 22)):=by
 obtain ⟨i,hi,hz,hs,hb⟩:=info_parts JA;have h:=run_make (P:=Try.prog) w 62 22 i _ Try.underlying62 hi hz .i64 .i64 (n : Int) (n : Int) (by omega) (by omega) (by rw [hb];omega) (by omega);rw [hs,Nat.mul_one,Int.toNat_natCast] at h;exact h
def jW (xs : List UInt8) (r c : Nat) : List (List UInt8):=(List.range r).map fun i => (xs.drop (i * c)).take c
theorem RX (xs : List UInt8) (r c : Nat) : (jW xs r c).length = r:=by simp [jW]
theorem RY (xs : List UInt8) (r c : Nat) {i : Nat} (hi : i < r) : (jW xs r c).getD i [] = (xs.drop (i * c)).take c:=by
 unfold jW;rw [List.getD_eq_getElem?_getD,List.getElem?_map,List.getElem?_range hi];rfl
theorem RW {xs : List UInt8} {r c : Nat} (h : xs.length = r * c) {i : Nat} (hi : i < r) : ((jW xs r c).getD i []).length = c:=by
 rw [RY xs r c hi,List.length_take,List.length_drop,h];have : (i + 1) * c≤r * c:=Nat.mul_le_mul_right c hi;rw [Nat.add_mul] at this;omega
def pK (A : Option Addr) (c : Nat) (k : Nat) : List Value:=(List.range k).map fun i => .slice (BK A c (i * c)) c c
theorem aCJ (A : Option Addr) (c k : Nat) : pK A c (k + 1) = pK A c k ++ [.slice (BK A c (k * c)) c c]:=by
 unfold pK;rw [List.range_succ,List.map_append];rfl
theorem aEY (A : Option Addr) (c k : Nat) : (pK A c k).length = k:=by simp [pK]
theorem aEZ (A : Option Addr) (c k : Nat) {i : Nat} (hi : i < k) : (pK A c k)[i]? = some (.slice (BK A c (i * c)) c c):=by
 unfold pK;rw [List.getElem?_map,List.getElem?_range hi];rfl
theorem ID.aHr {w w' : World} {A : Option Addr} {xs : List UInt8} (h : ID w A xs) {ob : Option Nat} (hg : w.grownBy w' ob) {t : TypeId} (ho : ∀ g,ob = some g → ∃ ys,Row w g t ys) (ht : t≠5) : ID w' A xs:=by
 cases ob with
 | none => exact h.below ⟨hg.os,hg.tape,hg.output,hg.size,fun k hk => hg.block k hk (by simp)⟩
 | some g =>
  obtain ⟨ys,hr⟩:=ho g rfl;exact h.grown hg hr ht
def aHJ (w : World) (A : Option Addr) : Prop:=∀ g,A = some ⟨g,0,none⟩→w.heap.size≤g
theorem KY (i j : Nat) : (List.replicate i ([] : List UInt8)).getD j [] = []:=by
 rw [List.getD_eq_getElem?_getD,List.getElem?_replicate]
 split <;> rfl
structure aOE (w wr : World) (gm ga gr r c na ka : Nat) (A D : Option Addr) (xs : List UInt8) (i : Nat) (v : Value) : Prop where
 m : Row wr gm 24 [.int .i64 (r : Int),.int .i64 (c : Int),.slice A na ka]
 a : Row wr ga 22 (List.replicate r (.slice none 0 0))
 s : Row wr gr 95 [v,.slice (some ⟨ga,0,none⟩) r r,.int .i64 (c : Int)]
 own : wr.ownsRow (w.heap.size + 3) 22 1 v i (pK D c i)
 data : ID wr D xs
 below : Below w.heap.size w wr
theorem aBu (r c na ka : Nat) (A : Option Addr) (xs : List UInt8) (w : World) (hx : Rd w w.heap.size A na (fQ xs)) (hna : Hid (na = r * c)) (hka : na≤ka) (hr : r≤64) (hc : c≤64) :
  Calls Try.prog 80 #[mV r c A na ka] w fun e w' => ∃ gr Al Aa capl,e = .returned (.pointer (some ⟨gr,0,none⟩))∧Gz w' gr Al Aa r capl c 0 (jW xs r c) (List.replicate r [])∧w.heap.size≤gr∧aHJ w Al∧aHJ w Aa∧Below w.heap.size w w' ∧ ∃ ga,Aa = some ⟨ga,0,none⟩∧Row w' ga 22 (List.replicate r (.slice none 0 0)):=by
 have hp : na≤4096:=by rw [hna.out];exact Nat.le_trans (Nat.mul_le_mul hr hc) (by omega)
 have HX:=Lib.hid hx;have hmk : ∀ w : World,(Instr.makeSlice 62 (.int .i64 (r : Int)) (.int .i64 (r : Int))).run Try.prog w = .ok (.slice (some ⟨w.heap.size,0,none⟩) r r) (w.alloc (.cells (madeCells #[.slice none 0 0] r) 22)):=fun w => aHn r (by omega) w
 clear hx;go_enter Try.func80,Try.ntmps80;go_wp2_with fail
 go_region
 obtain ⟨W2,hW2⟩ : ∃ W2,W2 = (((w.alloc (.cells #[.int .i64 (r : Int),.int .i64 (c : Int),.slice A na ka] 24)).alloc (.cells (madeCells #[.slice none 0 0] r) 22)).alloc (.cells #[.slice none 0 0,.slice (some ⟨w.heap.size + 1,0,none⟩) r r,.int .i64 (c : Int)] 95)).drew:=⟨_,rfl⟩
 have b2 : Below w.heap.size w W2:=by rw [hW2];exact ((((Below.refl _ _).alloc (Nat.le_refl _) _).alloc (by simp) _).alloc (by simp;omega) _).drew
 have m2 : Row W2 w.heap.size 24 [.int .i64 (r : Int),.int .i64 (c : Int),.slice A na ka]:=by rw [hW2];exact Row.drewN (((Row.new w _ _).alloc _).alloc _) 1
 have a2 : Row W2 (w.heap.size + 1) 22 (List.replicate r (.slice none 0 0)):=by
  rw [hW2];have q:=Row.made (w.alloc (.cells #[.int .i64 (r : Int),.int .i64 (c : Int),.slice A na ka] 24)) (.slice none 0 0) r 22;simp only [World.size_alloc] at q;exact Row.drewN (q.alloc _) 1
 have s2 : Row W2 (w.heap.size + 1 + 1) 95 [.slice none 0 0,.slice (some ⟨w.heap.size + 1,0,none⟩) r r,.int .i64 (c : Int)]:=by
  rw [hW2];have q:=Row.new ((w.alloc (.cells #[.int .i64 (r : Int),.int .i64 (c : Int),.slice A na ka] 24)).alloc (.cells (madeCells #[.slice none 0 0] r) 22)) [.slice none 0 0,.slice (some ⟨w.heap.size + 1,0,none⟩) r r,.int .i64 (c : Int)] 95;simp only [World.size_alloc] at q;exact Row.drewN q 1
 rw [← hW2];have HW2:=Lib.hid hW2;have HCL:=Lib.hid (aFL A na ka xs W2 (HX.out.go b2) hp);have MU:=Lib.hid b2;have HM2:=Lib.hid m2;have HA2:=Lib.hid a2;have HS2:=Lib.hid s2;obtain ⟨c0,c1,c2,f0,f1,f2⟩:=m2.three;clear hW2 b2 m2 a2 s2 hmk;go_wp2_with fail
 refine HCL.out.mono ?_;rintro e w3 ⟨D,kD,rfl,hrd,hkD,hb3⟩;obtain ⟨gr,hgr⟩ : ∃ g,g = w.heap.size + 1 + 1:=⟨_,rfl⟩
 obtain ⟨ga,hga⟩ : ∃ g,g = w.heap.size + 1:=⟨_,rfl⟩
 obtain ⟨gm,hgm⟩ : ∃ g,g = w.heap.size:=⟨_,rfl⟩
 have hst : aOE w w3 gm ga gr r c na ka A D xs 0 (.slice none 0 0):=by
  rw [hgr,hga,hgm];exact ⟨HM2.out.below hb3 HM2.out.lt,HA2.out.below hb3 HA2.out.lt,HS2.out.below hb3 HS2.out.lt,World.ownsRow_nil _ _ _ _,hrd,MU.out.trans (hb3.mono MU.out.size)⟩
 obtain ⟨c0,c1,c2,f0,f1,f2⟩:=hst.m.three;have HST:=Lib.hid hst;rw [← hgr,← hga,← hgm];have HGG:=Lib.hid (show gm = w.heap.size∧ga = w.heap.size + 1∧gr = w.heap.size + 1 + 1 from ⟨hgm,hga,hgr⟩);clear hst hgr hga hgm hrd hb3 HCL MU HM2 HA2 HS2 HW2;go_wp2_with fail
 clear c0 c1 c2 f0 f1 f2
 go_loopg [20] r (fun k s20 wr => ∃ (i : Nat) (v : Value),s20 = .int .i64 (i : Int)∧i≤r∧k = r - i∧aOE w wr gm ga gr r c na ka A D xs i v)
 case atStart => exact ⟨0,_,rfl,by omega,rfl,HST.out⟩
 case round =>
  clear HST;obtain ⟨i,v,rfl,hir,hk,hst⟩:=hrel
  rename World => w4
  obtain ⟨c0,c1,c2,f0,f1,f2⟩:=hst.m.three;obtain ⟨d0,d1,d2,g0,g1,g2⟩:=hst.s.three;have HST:=Lib.hid hst;clear hst
  by_cases hlt : i < r
  ·obtain ⟨fr,hfr⟩ : ∃ k,k = i * c:=⟨_,rfl⟩
   obtain ⟨tt,hto⟩ : ∃ k,k = (i + 1) * c:=⟨_,rfl⟩
   have hft : fr + c = tt:=by rw [hfr,hto,Nat.add_mul];omega
   have hton : tt≤na:=by rw [hto,hna.out];exact Nat.mul_le_mul_right c hlt
   have e1 : IntKind.i64.wrap ((i : Int) * (c : Int)) = (fr : Int):=by rw [← Int.natCast_mul,← hfr,IntKind.wrap_i64];omega
   have e2 : IntKind.i64.wrap (((i : Int) + 1) * (c : Int)) = (tt : Int):=by
    have : ((i : Int) + 1) * (c : Int) = ((i + 1) * c : Nat):=by simp
    rw [this,← hto,IntKind.wrap_i64];omega
   have e3 : IntKind.i64.wrap ((i : Int) + 1) = (i : Int) + 1:=by rw [IntKind.wrap_i64];omega
   have HFR:=Lib.hid (And.intro hfr (And.intro hto hft));have hft2 : fr≤tt:=by omega
   clear hfr hto hft;go_wp2_with fail
   go_quiet (fail)
   go_wp2_with fail
   obtain ⟨w5,hw5⟩ : ∃ x,x = w4.drewN nq:=⟨_,rfl⟩
   have hst : aOE w w5 gm ga gr r c na ka A D xs i v:=by
    rw [hw5];exact ⟨HST.out.m.drewN _,HST.out.a.drewN _,HST.out.s.drewN _,HST.out.own,HST.out.data,below_drewN HST.out.below _⟩
   rw [← hw5];have d5 : w5.cell? ⟨gr,0,none⟩ = some v:=hst.s.cell 0;have f5 : w5.frozen? ⟨gr,0,none⟩ = false:=hst.s.frozen 0;have HST5:=Lib.hid hst;clear hst hw5 c0 c1 c2 f0 f1 f2 d0 d1 d2 g0 g1 g2 HST;have b0 : (0 : Int)≤(fr : Int):=by omega
   have b1 : (fr : Int)≤(tt : Int):=by omega
   have b2 : (tt : Int)≤(na : Int):=by omega
   have b3 : (na : Int)≤(kD : Int):=by omega
   have bk : tt≤kD:=by omega
   have hg3:=HGG.out;obtain ⟨w5d,hw5d⟩ : ∃ x,x = w5.drew:=⟨_,rfl⟩
   have HSTD:=Lib.hid (show aOE w w5d gm ga gr r c na ka A D xs i v by
    rw [hw5d];exact ⟨HST5.out.m.drewN 1,HST5.out.a.drewN 1,HST5.out.s.drewN 1,World.ownsRow.drew HST5.out.own,HST5.out.data,HST5.out.below.drew⟩)
   have HD:=Lib.hid hw5d;clear hw5d;have HBS:=Lib.hid (show w.heap.size + 3≤w5d.heap.size by have:=HSTD.out.s.lt;omega);have HNB:=Lib.hid (show some gr≠v.ownBlock by
    intro e;have:=(HSTD.out.own.lt gr e.symm).1;omega)
   have HFR6:=Lib.hid (show ∀ (g cap : Nat) (w6 : World) (y : Value),w6.ownsRow (w.heap.size + 3) 22 1 (.slice (some ⟨g,0,none⟩) (i + 1) cap) (i + 1) (pK D c i ++ [y])→Below (w.heap.size + 3) w5d w6→w5d.grownBy w6 v.ownBlock→w6.frozen? ⟨gr,0,none⟩ = false from
    fun g cap w6 y h1 h2 h3 => (HSTD.out.s.below h2 (by omega)).frozen 0)
   have HNEXT:=Lib.hid (show ∀ (g cap : Nat) (w6 : World) (y : Value),w6.ownsRow (w.heap.size + 3) 22 1 (.slice (some ⟨g,0,none⟩) (i + 1) cap) (i + 1) (pK D c i ++ [y])→Below (w.heap.size + 3) w5d w6→w5d.grownBy w6 v.ownBlock→y = .slice (BK D c (i * c)) c c→aOE w (w6.setCell ⟨gr,0,none⟩ (.slice (some ⟨g,0,none⟩) (i + 1) cap)) gm ga gr r c na ka A D xs (i + 1) (.slice (some ⟨g,0,none⟩) (i + 1) cap) by
    rintro g cap w6 y h1 h2 h3 rfl;have q:=HSTD.out;have s6:=q.s.below h2 (by omega);refine ⟨(q.m.below h2 (by omega)).NS (by show gm≠gr;omega) _,(q.a.below h2 (by omega)).NS (by show ga≠gr;omega) _,s6.set 0 _,?_,?_,(q.below.trans (h2.mono (by omega))).setCell (by show w.heap.size≤gr;omega) _⟩
    ·rw [aCJ]
     exact ownsRow_setCell_below h1 (by show gr < _;omega) _
    ·exact (q.data.aHr h3 (fun g hg => VS q.own hg) (by decide)).set s6 (by decide) _)
   clear hg3
   by_cases hz : tt = fr
   ·have EQ:=Lib.hid (show Value.slice D 0 0 = .slice (BK D c (i * c)) c c by
     have:=HFR.out;have hc0 : c = 0:=by omega
     unfold BK;rw [if_pos hc0,hc0])
    subst hz;refine wp_region_held_drew (S:=fun _ => True) (by kernel_rfl) trivial (fun hHeld => ?_);rw [← HD.out];have d5d : w5d.cell? ⟨gr,0,none⟩ = some v:=HSTD.out.s.cell 0;clear d5 f5;refine wpAnyH_take (i:=0) (v:=?_) rfl (by kernel_rfl) (by kernel_rfl) (by kernel_rfl) (fun _ _ _ h => h) (Or.inl ⟨by rfl,?_⟩) (by assumption) ?_;rotate_left
    ·(intro w hSw;(try dsimp only at hSw);go_simp;(try with_reducible rfl))
    (try simp only [Act.put,cT,cS,cU]);refine wpAnyH_take (i:=1) (v:=?_) rfl (by kernel_rfl) (by kernel_rfl) (by kernel_rfl) (fun _ _ _ h => h) (Or.inl ⟨by rfl,?_⟩) (by assumption) ?_;rotate_left
    ·(intro w hSw;(try dsimp only at hSw);go_simp;(try with_reducible rfl))
    (try simp only [Act.put,cT,cS,cU]);refine wpAnyH_take (i:=2) (v:=?_) rfl (by kernel_rfl) (by kernel_rfl) (by kernel_rfl) (fun _ _ _ h => h) (Or.inl ⟨by rfl,?_⟩) (by assumption) ?_;rotate_left
    ·(intro w hSw;(try dsimp only at hSw);go_simp;(try with_reducible rfl))
    (try simp only [Act.put,cT,cS,cU]);refine wpAnyH_take (i:=3) (v:=?_) rfl (by kernel_rfl) (by kernel_rfl) (by kernel_rfl) (fun _ _ _ h => h) (Or.inl ⟨by rfl,?_⟩) (by assumption) ?_;rotate_left
    ·(intro w hSw;(try dsimp only at hSw);go_simp;(try with_reducible rfl))
    (try simp only [Act.put,cT,cS,cU]);refine wpAnyH_take (i:=5) (v:=?_) rfl (by kernel_rfl) (by kernel_rfl) (by kernel_rfl) (fun _ _ _ h => h) (Or.inl ⟨by rfl,?_⟩) (by assumption) ?_;rotate_left
    ·(intro w hSw;(try dsimp only at hSw);go_simp;(try with_reducible rfl))
    (try simp only [Act.put,cT,cS,cU]);refine wpAnyH_take (i:=6) (v:=?_) rfl (by kernel_rfl) (by kernel_rfl) (by kernel_rfl) (fun _ _ _ h => h) (Or.inl ⟨by rfl,?_⟩) (by assumption) ?_;rotate_left
    ·(intro w hSw;(try dsimp only at hSw);go_simp;(try with_reducible rfl))
    (try simp only [Act.put,cT,cS,cU]);refine wpAnyH_take (i:=7) (v:=?_) rfl (by kernel_rfl) (by kernel_rfl) (by kernel_rfl) (fun _ _ _ h => h) (Or.inl ⟨by rfl,?_⟩) (by assumption) ?_;rotate_left
    ·(intro w hSw;(try dsimp only at hSw);go_simp;(try with_reducible rfl))
    (try simp only [Act.put,cT,cS,cU]);refine wpAnyH_take (i:=8) (v:=?_) rfl (by kernel_rfl) (by kernel_rfl) (by kernel_rfl) (fun _ _ _ h => h) (Or.inl ⟨by rfl,?_⟩) (by assumption) ?_;rotate_left
    ·(intro w hSw;(try dsimp only at hSw);go_simp;(try with_reducible rfl))
    (try simp only [Act.put,cT,cS,cU]);refine wpAnyH_take (i:=9) (v:=?_) rfl (by kernel_rfl) (by kernel_rfl) (by kernel_rfl) (fun _ _ _ h => h) (Or.inl ⟨by rfl,?_⟩) (by assumption) ?_;rotate_left
    ·(intro w hSw;(try dsimp only at hSw);go_simp;(try with_reducible rfl))
    (try simp only [Act.put,cT,cS,cU]);refine wpAnyH_ready (rs:=[4,10]) (by kernel_rfl) (by simp) ?_;refine AllReadyH.cons rfl (fun K hK => ?_) (AllReadyH.cons rfl (fun K hK => ?_) AllReadyH.nil)
    ·go_simp
     refine hK.out _ _ trivial (fun hHeld => ?_);clear hK K;(try simp only [Act.put,cT,cS,cU]);refine wpAnyH_ready (rs:=[10]) (by kernel_rfl) (by simp) ?_;refine AllReadyH.cons rfl (fun K hK => ?_) AllReadyH.nil;go_simp;refine hK.out _ _ trivial (fun hHeld => ?_);clear hK K;(try simp only [Act.put,cT,cS,cU]);refine wpAnyH_ready (rs:=[11]) (by kernel_rfl) (by simp) ?_;refine AllReadyH.cons rfl (fun K hK => ?_) AllReadyH.nil;refine uW 62 22 (.slice none 0 0) 24 Try.underlying62 JA rfl (.tmp 36) (.tmp 42) (by rfl) (w.heap.size + 3) v i (pK D c i) (.slice D 0 0) (by rfl) (by rfl) HSTD.out.own w5d.heap.size (by rfl) rfl (by simp only [maxLen];omega) (by omega) HBS.out ?_;intro g cap w6 ho6 hb6 hg6 hat;have d6 : w6.cell? ⟨gr,0,none⟩ = some v:=hg6.cell d5d HNB.out;have f6 : w6.frozen? ⟨gr,0,none⟩ = false:=HFR6.out g cap w6 _ ho6 hb6 hg6;have HS6:=Lib.hid (HNEXT.out g cap w6 _ ho6 hb6 hg6 (by rw [EQ.out]));clear ho6 hb6 hg6 hat d5d;refine hK.out _ _ trivial (fun hHeld => ?_);clear hK K;(try simp only [Act.put,cT,cS,cU]);refine wpAnyH_take (i:=12) (v:=?_) rfl (by kernel_rfl) (by kernel_rfl) (by kernel_rfl) (fun _ _ _ h => h) (Or.inl ⟨by rfl,?_⟩) (by assumption) ?_;rotate_left
     ·(intro w hSw;(try dsimp only at hSw);go_simp;(try with_reducible rfl))
     (try simp only [Act.put,cT,cS,cU]);refine wpAnyH_take (i:=13) (v:=?_) rfl (by kernel_rfl) (by kernel_rfl) (by kernel_rfl) (fun _ _ _ h => h) (Or.inl ⟨by rfl,?_⟩) (by assumption) ?_;rotate_left
     ·(intro w hSw;(try dsimp only at hSw);go_simp;(try with_reducible rfl))
     (try simp only [Act.put,cT,cS,cU]);refine wpAnyH_ready (rs:=[14]) (by kernel_rfl) (by simp) ?_;refine AllReadyH.cons rfl (fun K hK => ?_) AllReadyH.nil;go_simp;refine hK.out _ _ trivial (fun hHeld => ?_);clear hK K;(try simp only [Act.put,cT,cS,cU]);refine wpAnyH_done (by kernel_rfl) ?_ _;go_wp2_with fail
     go_roundg (r - (i + 1))
     case rel => exact ⟨i + 1,_,by go_num,by omega,rfl,HS6.out⟩
     case measure => omega
    ·go_simp
     refine hK.out _ _ trivial (fun hHeld => ?_);clear hK K;(try simp only [Act.put,cT,cS,cU]);have d5e : (w5d.alloc (.cells #[.slice D 0 0] 22)).cell? ⟨gr,0,none⟩ = some v:=Below.qO ((Below.refl _ _).alloc (Nat.le_refl _) _) d5d;refine wpAnyH_ready (rs:=[4]) (by kernel_rfl) (by simp) ?_;refine AllReadyH.cons rfl (fun K hK => ?_) AllReadyH.nil;go_simp;refine hK.out _ _ trivial (fun hHeld => ?_);clear hK K;(try simp only [Act.put,cT,cS,cU]);refine wpAnyH_ready (rs:=[11]) (by kernel_rfl) (by simp) ?_;refine AllReadyH.cons rfl (fun K hK => ?_) AllReadyH.nil;refine uW 62 22 (.slice none 0 0) 24 Try.underlying62 JA rfl (.tmp 36) (.tmp 42) (by rfl) (w.heap.size + 3) v i (pK D c i) (.slice D 0 0) (by rfl) (by rfl) HSTD.out.own w5d.heap.size (by rfl) rfl (by simp only [maxLen];omega) (by omega) HBS.out ?_;intro g cap w6 ho6 hb6 hg6 hat;have d6 : w6.cell? ⟨gr,0,none⟩ = some v:=hg6.cell d5d HNB.out;have f6 : w6.frozen? ⟨gr,0,none⟩ = false:=HFR6.out g cap w6 _ ho6 hb6 hg6;have HS6:=Lib.hid (HNEXT.out g cap w6 _ ho6 hb6 hg6 (by rw [EQ.out]));clear ho6 hb6 hg6 hat d5d;refine hK.out _ _ trivial (fun hHeld => ?_);clear hK K;(try simp only [Act.put,cT,cS,cU]);refine wpAnyH_take (i:=12) (v:=?_) rfl (by kernel_rfl) (by kernel_rfl) (by kernel_rfl) (fun _ _ _ h => h) (Or.inl ⟨by rfl,?_⟩) (by assumption) ?_;rotate_left
     ·(intro w hSw;(try dsimp only at hSw);go_simp;(try with_reducible rfl))
     (try simp only [Act.put,cT,cS,cU]);refine wpAnyH_take (i:=13) (v:=?_) rfl (by kernel_rfl) (by kernel_rfl) (by kernel_rfl) (fun _ _ _ h => h) (Or.inl ⟨by rfl,?_⟩) (by assumption) ?_;rotate_left
     ·(intro w hSw;(try dsimp only at hSw);go_simp;(try with_reducible rfl))
     (try simp only [Act.put,cT,cS,cU]);refine wpAnyH_ready (rs:=[14]) (by kernel_rfl) (by simp) ?_;refine AllReadyH.cons rfl (fun K hK => ?_) AllReadyH.nil;go_simp;refine hK.out _ _ trivial (fun hHeld => ?_);clear hK K;(try simp only [Act.put,cT,cS,cU]);refine wpAnyH_done (by kernel_rfl) ?_ _;go_wp2_with fail
     go_roundg (r - (i + 1))
     case rel => exact ⟨i + 1,_,by go_num,by omega,rfl,HS6.out⟩
     case measure => omega
   ·have EQ:=Lib.hid (show Value.slice (Option.map (fun x => x.add fr) D) (tt - fr) (tt - fr) = .slice (BK D c (i * c)) c c by
     have:=HFR.out;have hc0 : ¬ c = 0:=by omega
     unfold BK;rw [if_neg hc0,this.1.symm,show tt - fr = c by omega])
    refine wp_region_held_drew (S:=fun _ => True) (by kernel_rfl) trivial (fun hHeld => ?_);rw [← HD.out];have d5d : w5d.cell? ⟨gr,0,none⟩ = some v:=HSTD.out.s.cell 0;clear d5 f5;refine wpAnyH_take (i:=0) (v:=?_) rfl (by kernel_rfl) (by kernel_rfl) (by kernel_rfl) (fun _ _ _ h => h) (Or.inl ⟨by rfl,?_⟩) (by assumption) ?_;rotate_left
    ·(intro w hSw;(try dsimp only at hSw);go_simp;(try with_reducible rfl))
    (try simp only [Act.put,cT,cS,cU]);refine wpAnyH_take (i:=1) (v:=?_) rfl (by kernel_rfl) (by kernel_rfl) (by kernel_rfl) (fun _ _ _ h => h) (Or.inl ⟨by rfl,?_⟩) (by assumption) ?_;rotate_left
    ·(intro w hSw;(try dsimp only at hSw);go_simp;(try with_reducible rfl))
    (try simp only [Act.put,cT,cS,cU]);refine wpAnyH_take (i:=2) (v:=?_) rfl (by kernel_rfl) (by kernel_rfl) (by kernel_rfl) (fun _ _ _ h => h) (Or.inl ⟨by rfl,?_⟩) (by assumption) ?_;rotate_left
    ·(intro w hSw;(try dsimp only at hSw);go_simp;(try with_reducible rfl))
    (try simp only [Act.put,cT,cS,cU]);refine wpAnyH_take (i:=3) (v:=?_) rfl (by kernel_rfl) (by kernel_rfl) (by kernel_rfl) (fun _ _ _ h => h) (Or.inl ⟨by rfl,?_⟩) (by assumption) ?_;rotate_left
    ·(intro w hSw;(try dsimp only at hSw);go_simp;(try with_reducible rfl))
    (try simp only [Act.put,cT,cS,cU]);refine wpAnyH_take (i:=5) (v:=?_) rfl (by kernel_rfl) (by kernel_rfl) (by kernel_rfl) (fun _ _ _ h => h) (Or.inl ⟨by rfl,?_⟩) (by assumption) ?_;rotate_left
    ·(intro w hSw;(try dsimp only at hSw);go_simp;(try with_reducible rfl))
    (try simp only [Act.put,cT,cS,cU]);refine wpAnyH_take (i:=6) (v:=?_) rfl (by kernel_rfl) (by kernel_rfl) (by kernel_rfl) (fun _ _ _ h => h) (Or.inl ⟨by rfl,?_⟩) (by assumption) ?_;rotate_left
    ·(intro w hSw;(try dsimp only at hSw);go_simp;(try with_reducible rfl))
    (try simp only [Act.put,cT,cS,cU]);refine wpAnyH_take (i:=7) (v:=?_) rfl (by kernel_rfl) (by kernel_rfl) (by kernel_rfl) (fun _ _ _ h => h) (Or.inl ⟨by rfl,?_⟩) (by assumption) ?_;rotate_left
    ·(intro w hSw;(try dsimp only at hSw);go_simp;(try with_reducible rfl))
    (try simp only [Act.put,cT,cS,cU]);refine wpAnyH_take (i:=8) (v:=?_) rfl (by kernel_rfl) (by kernel_rfl) (by kernel_rfl) (fun _ _ _ h => h) (Or.inl ⟨by rfl,?_⟩) (by assumption) ?_;rotate_left
    ·(intro w hSw;(try dsimp only at hSw);go_simp;(try with_reducible rfl))
    (try simp only [Act.put,cT,cS,cU]);refine wpAnyH_take (i:=9) (v:=?_) rfl (by kernel_rfl) (by kernel_rfl) (by kernel_rfl) (fun _ _ _ h => h) (Or.inl ⟨by rfl,?_⟩) (by assumption) ?_;rotate_left
    ·(intro w hSw;(try dsimp only at hSw);go_simp;(try with_reducible rfl))
    (try simp only [Act.put,cT,cS,cU]);refine wpAnyH_ready (rs:=[4,10]) (by kernel_rfl) (by simp) ?_;refine AllReadyH.cons rfl (fun K hK => ?_) (AllReadyH.cons rfl (fun K hK => ?_) AllReadyH.nil)
    ·go_simp
     refine hK.out _ _ trivial (fun hHeld => ?_);clear hK K;(try simp only [Act.put,cT,cS,cU]);refine wpAnyH_ready (rs:=[10]) (by kernel_rfl) (by simp) ?_;refine AllReadyH.cons rfl (fun K hK => ?_) AllReadyH.nil;go_simp;refine hK.out _ _ trivial (fun hHeld => ?_);clear hK K;(try simp only [Act.put,cT,cS,cU]);refine wpAnyH_ready (rs:=[11]) (by kernel_rfl) (by simp) ?_;refine AllReadyH.cons rfl (fun K hK => ?_) AllReadyH.nil;refine uW 62 22 (.slice none 0 0) 24 Try.underlying62 JA rfl (.tmp 36) (.tmp 42) (by rfl) (w.heap.size + 3) v i (pK D c i) (.slice (Option.map (fun x => x.add fr) D) (tt - fr) (tt - fr)) (by rfl) (by rfl) HSTD.out.own w5d.heap.size (by rfl) rfl (by simp only [maxLen];omega) (by omega) HBS.out ?_;intro g cap w6 ho6 hb6 hg6 hat;have d6 : w6.cell? ⟨gr,0,none⟩ = some v:=hg6.cell d5d HNB.out;have f6 : w6.frozen? ⟨gr,0,none⟩ = false:=HFR6.out g cap w6 _ ho6 hb6 hg6;have HS6:=Lib.hid (HNEXT.out g cap w6 _ ho6 hb6 hg6 (by rw [EQ.out]));clear ho6 hb6 hg6 hat d5d;refine hK.out _ _ trivial (fun hHeld => ?_);clear hK K;(try simp only [Act.put,cT,cS,cU]);refine wpAnyH_take (i:=12) (v:=?_) rfl (by kernel_rfl) (by kernel_rfl) (by kernel_rfl) (fun _ _ _ h => h) (Or.inl ⟨by rfl,?_⟩) (by assumption) ?_;rotate_left
     ·(intro w hSw;(try dsimp only at hSw);go_simp;(try with_reducible rfl))
     (try simp only [Act.put,cT,cS,cU]);refine wpAnyH_take (i:=13) (v:=?_) rfl (by kernel_rfl) (by kernel_rfl) (by kernel_rfl) (fun _ _ _ h => h) (Or.inl ⟨by rfl,?_⟩) (by assumption) ?_;rotate_left
     ·(intro w hSw;(try dsimp only at hSw);go_simp;(try with_reducible rfl))
     (try simp only [Act.put,cT,cS,cU]);refine wpAnyH_ready (rs:=[14]) (by kernel_rfl) (by simp) ?_;refine AllReadyH.cons rfl (fun K hK => ?_) AllReadyH.nil;go_simp;refine hK.out _ _ trivial (fun hHeld => ?_);clear hK K;(try simp only [Act.put,cT,cS,cU]);refine wpAnyH_done (by kernel_rfl) ?_ _;go_wp2_with fail
     go_roundg (r - (i + 1))
     case rel => exact ⟨i + 1,_,by go_num,by omega,rfl,HS6.out⟩
     case measure => omega
    ·go_simp
     refine hK.out _ _ trivial (fun hHeld => ?_);clear hK K;(try simp only [Act.put,cT,cS,cU]);have d5e : (w5d.alloc (.cells #[.slice (Option.map (fun x => x.add fr) D) (tt - fr) (tt - fr)] 22)).cell? ⟨gr,0,none⟩ = some v:=Below.qO ((Below.refl _ _).alloc (Nat.le_refl _) _) d5d;refine wpAnyH_ready (rs:=[4]) (by kernel_rfl) (by simp) ?_;refine AllReadyH.cons rfl (fun K hK => ?_) AllReadyH.nil;go_simp;refine hK.out _ _ trivial (fun hHeld => ?_);clear hK K;(try simp only [Act.put,cT,cS,cU]);refine wpAnyH_ready (rs:=[11]) (by kernel_rfl) (by simp) ?_;refine AllReadyH.cons rfl (fun K hK => ?_) AllReadyH.nil;refine uW 62 22 (.slice none 0 0) 24 Try.underlying62 JA rfl (.tmp 36) (.tmp 42) (by rfl) (w.heap.size + 3) v i (pK D c i) (.slice (Option.map (fun x => x.add fr) D) (tt - fr) (tt - fr)) (by rfl) (by rfl) HSTD.out.own w5d.heap.size (by rfl) rfl (by simp only [maxLen];omega) (by omega) HBS.out ?_;intro g cap w6 ho6 hb6 hg6 hat;have d6 : w6.cell? ⟨gr,0,none⟩ = some v:=hg6.cell d5d HNB.out;have f6 : w6.frozen? ⟨gr,0,none⟩ = false:=HFR6.out g cap w6 _ ho6 hb6 hg6;have HS6:=Lib.hid (HNEXT.out g cap w6 _ ho6 hb6 hg6 (by rw [EQ.out]));clear ho6 hb6 hg6 hat d5d;refine hK.out _ _ trivial (fun hHeld => ?_);clear hK K;(try simp only [Act.put,cT,cS,cU]);refine wpAnyH_take (i:=12) (v:=?_) rfl (by kernel_rfl) (by kernel_rfl) (by kernel_rfl) (fun _ _ _ h => h) (Or.inl ⟨by rfl,?_⟩) (by assumption) ?_;rotate_left
     ·(intro w hSw;(try dsimp only at hSw);go_simp;(try with_reducible rfl))
     (try simp only [Act.put,cT,cS,cU]);refine wpAnyH_take (i:=13) (v:=?_) rfl (by kernel_rfl) (by kernel_rfl) (by kernel_rfl) (fun _ _ _ h => h) (Or.inl ⟨by rfl,?_⟩) (by assumption) ?_;rotate_left
     ·(intro w hSw;(try dsimp only at hSw);go_simp;(try with_reducible rfl))
     (try simp only [Act.put,cT,cS,cU]);refine wpAnyH_ready (rs:=[14]) (by kernel_rfl) (by simp) ?_;refine AllReadyH.cons rfl (fun K hK => ?_) AllReadyH.nil;go_simp;refine hK.out _ _ trivial (fun hHeld => ?_);clear hK K;(try simp only [Act.put,cT,cS,cU]);refine wpAnyH_done (by kernel_rfl) ?_ _;go_wp2_with fail
     go_roundg (r - (i + 1))
     case rel => exact ⟨i + 1,_,by go_num,by omega,rfl,HS6.out⟩
     case measure => omega
  ·obtain rfl : i = r:=by omega
   go_wp2_with fail
   go_ret;have q:=HST.out;have hg3:=HGG.out;have hl : xs.length = na:=by have:=HX.out.len;rwa [cB] at this
   have hl2 : xs.length = i * c:=hl.trans hna.out;have hv : ∃ Al capl,v = .slice Al i capl∧i≤capl∧(0 < i → ∃ g cur,Al = some ⟨g,0,none⟩∧w4.heap[g]? = some (Obj.cells cur 22 (0,0))∧w.heap.size + 3≤g∧cur.toList.take i = pK D c i):=by
    rcases q.own with ⟨h0,⟨h1,h2⟩ | ⟨g,k,cur,h1,hg,hh,h2,h3,h4,h5⟩⟩
    ·exact ⟨none,0,by rw [h1,h2],by omega,fun h => by omega⟩
    ·exact ⟨_,k,h1,h2,fun _ => ⟨g,cur,rfl,hh,hg,by simpa using h5⟩⟩
   obtain ⟨Al,capl,rfl,hcap,hblk⟩:=hv;refine ⟨gr,Al,some ⟨ga,0,none⟩,capl,rfl,⟨q.s,⟨RX _ _ _,fun j hj => RW hl2 hj,fun h0 => ?_⟩,⟨List.length_replicate,fun j hj => by rw [KY];rfl,fun h0 => ⟨ga,_,rfl,q.a,by simp,fun j hj => ⟨none,0,by rw [List.getElem?_replicate,if_pos hj],Nat.le_refl _,by rw [KY];exact ID.nil _ _⟩⟩⟩,hcap,?_⟩,by omega,fun g e => ?_,fun g e => by injection e with e;injection e with e;omega,q.below,ga,rfl,q.a⟩
   ·obtain ⟨g,cur,rfl,hh,hg,ht⟩:=hblk h0
    have hlen : i≤cur.toList.length:=by
     have h1 : (cur.toList.take i).length = i:=by rw [ht,aEY]
     rw [List.length_take] at h1;omega
    refine ⟨g,cur.toList,rfl,hh,hlen,fun j hj => ⟨BK D c (j * c),c,?_,Nat.le_refl _,?_⟩⟩
    ·rw [← aEZ D c i hj,← ht,List.getElem?_take,if_pos hj]
    ·rw [RY _ _ _ hj]
     have h1 : (j + 1) * c≤i * c:=Nat.mul_le_mul_right c hj;rw [Nat.add_mul] at h1;refine q.data.sub hl2 (by omega) (fun hc0 g2 o e => ?_);rw [e,tY (by omega)]
   ·intro g e e2
    injection e2 with e2;injection e2 with e2
    rcases Nat.eq_zero_or_pos i with h0 | h0
    ·have h6:=q.own
     subst h0
     rcases q.own with ⟨_,⟨h1,_⟩ | ⟨g',k,cur,h1,hg,_⟩⟩
     ·injection h1 with h1;rw [h1] at e;cases e
     ·injection h1 with h1;rw [h1] at e;injection e with e;injection e with e;omega
    ·obtain ⟨g',cur,h1,_,hg,_⟩:=hblk h0
     rw [h1] at e;injection e with e;injection e with e;omega
   ·rcases q.own with ⟨_,⟨h1,_⟩ | ⟨g',k,cur,h1,hg,_⟩⟩
    ·injection h1 with h1;rw [h1] at e;cases e
    ·injection h1 with h1;rw [h1] at e;injection e with e;injection e with e;omega
theorem aMT (r c na ka : Nat) (A : Option Addr) (xs : List UInt8) (w : World) (hx : Rd w w.heap.size A na (fQ xs)) (hna : Hid (na = r * c)) (hka : na≤ka) (hr : r≤64) (hc : c≤64) :
  Calls Try.prog 80 #[mV r c A na ka] w fun e w' => ∃ gr Al Aa capl,e = .returned (.pointer (some ⟨gr,0,none⟩))∧Gz w' gr Al Aa r capl c 0 (jW xs r c) (List.replicate r [])∧w.heap.size≤gr∧aHJ w Al∧aHJ w Aa∧Below w.heap.size w w':=by
 refine (aBu r c na ka A xs w hx hna hka hr hc).mono ?_;rintro e w' ⟨gr,Al,Aa,capl,h1,h2,h3,h4,h5,h6,_⟩;exact ⟨gr,Al,Aa,capl,h1,h2,h3,h4,h5,h6⟩
end Go.Proofs.Yteofcbkjhdadpaa
namespace Go.Proofs.Yteofcbkjhdadpaa
open Go.RowKit
def iVs (zs : List Int) : List Value:=zs.map fun z => .int .i64 z
theorem pL (zs : List Int) : (iVs zs).length = zs.length:=by simp [iVs]
theorem aCQ {w : World} {B : Nat} {A : Option Addr} {n : Nat} {zs : List Int} (h : Rd w B A n (iVs zs)) {k : Nat} (hk : k < n) :
  ∃ g o,A = some ⟨g,o,none⟩∧g < B∧w.cell? ⟨g,o + k,none⟩ = some (.int .i64 (zs.getD k 0)):=by
 obtain ⟨g,o,u,hA,hg,hu,hc⟩:=h.at_ hk;have hl : k < zs.length:=by have:=h.len;rw [pL] at this;omega
 refine ⟨g,o,hA,hg,?_⟩;rw [hc,← hu]
 simp [iVs,List.getD,hl]
def qJ (r : Int) (zs : List Int) : Bool:=zs.all fun z => decide (0≤z∧z < r)
theorem xF {r : Int} {zs : List Int} (h : qJ r zs = true) {k : Nat} (hk : k < zs.length) : 0≤zs.getD k 0∧zs.getD k 0 < r:=by
 have:=List.all_eq_true.1 h _ (List.getElem_mem hk)
 simpa [List.getD,hk] using this
theorem PL {r : Int} {zs : List Int} (h : ∀ k,k < zs.length→0≤zs.getD k 0∧zs.getD k 0 < r) : qJ r zs = true:=by
 unfold qJ;rw [List.all_eq_true];intro z hz;obtain ⟨k,hk,rfl⟩:=List.getElem_of_mem hz;have:=h k hk
 simpa [List.getD,hk] using this
def pD (c : Nat) (xs : List UInt8) (zs : List Int) : List UInt8:=zs.flatMap fun z => (xs.drop (z.toNat * c)).take c
theorem PT {c r : Nat} {xs : List UInt8} {zs : List Int} (hx : xs.length = r * c) (h : qJ r zs = true) : (pD c xs zs).length = zs.length * c:=by
 induction zs with
 | nil => simp [pD]
 | cons z zs ih =>
  simp only [qJ,List.all_cons,Bool.and_eq_true,decide_eq_true_eq] at h;simp only [pD,List.flatMap_cons,List.length_append,List.length_take,List.length_drop,List.length_cons] at ih ⊢;rw [ih h.2,hx,Nat.add_mul];have h1 : (z.toNat + 1) * c≤r * c:=Nat.mul_le_mul_right c (by omega);rw [Nat.add_mul] at h1;omega
theorem SH {c : Nat} {xs : List UInt8} {zs : List Int} {i : Nat} (hi : i < zs.length) : pD c xs (zs.take (i + 1)) = pD c xs (zs.take i) ++ (xs.drop ((zs.getD i 0).toNat * c)).take c:=by
 rw [List.take_succ_eq_append_getElem hi];simp only [pD,List.flatMap_append,List.flatMap_cons,List.flatMap_nil,List.append_nil,List.getD];rw [List.getElem?_eq_getElem hi];rfl
def nG (rt : Bool) (r : Int) (zs : List Int) : Int:=if rt = false then 3 else if qJ r zs = false then 2 else if 64 < zs.length then 4 else 0
def pkR (rt : Bool) (r : Int) (zs : List Int) : Int:=if nG rt r zs = 0 then zs.length else 0
def pkC (rt : Bool) (r c : Int) (zs : List Int) : Int:=if nG rt r zs = 0 then c else 0
def pkD (rt : Bool) (r c : Int) (xs : List UInt8) (zs : List Int) : List UInt8:=if nG rt r zs = 0 then pD c.toNat xs zs else []
end Go.Proofs.Yteofcbkjhdadpaa
namespace Go.Proofs.Yteofcbkjhdadpaa
open Gf
theorem fC.tail {n c : Nat} {x : List UInt8} {L : List (List UInt8)} (h : fC (n + 1) c (x :: L)) : x.length = c∧fC n c L :=
 ⟨h.wid 0 (by omega),by have:=h.len;simpa using this,fun i hi => h.wid (i + 1) (by omega)⟩
theorem oS {n c : Nat} {L : List (List UInt8)} (h : fC n c L) : L.flatten.length = n * c:=(YY h.len h.wid).1
theorem SP : ∀ {n c : Nat} {L : List (List UInt8)} (h : fC n c L) (i : Nat),i≤n→L.flatten.drop (i * c) = (L.drop i).flatten
 | _,c,L,h,0,_ => by simp
 | 0,c,L,h,i + 1,hi => by omega
 | n + 1,c,[],h,i + 1,hi => by have:=h.len;simp at this
 | n + 1,c,x :: L,h,i + 1,hi => by
  obtain ⟨h1,h2⟩:=h.tail;rw [List.flatten_cons,List.drop_succ_cons,← SP h2 i (by omega),List.drop_append,List.drop_eq_nil_of_le (by rw [h1,Nat.add_mul];omega),List.nil_append,h1]
  congr 1
  rw [Nat.add_mul];omega
theorem QS {n c : Nat} {L : List (List UInt8)} (h : fC n c L) {i : Nat} (hi : i < n) : (L.flatten.drop (i * c)).take c = L.getD i []:=by
 have hl : i < L.length:=by rw [h.len];exact hi
 rw [SP h i (by omega),List.drop_eq_getElem_cons hl,List.flatten_cons];have e : L.getD i [] = L[i]:=by rw [List.getD_eq_getElem?_getD,List.getElem?_eq_getElem hl];rfl
 have hw : L[i].length = c:=by rw [← e];exact h.wid i hi
 rw [e,List.take_append,List.take_of_length_le (by omega),hw,Nat.sub_self,List.take_zero,List.append_nil]
theorem yQ {n c : Nat} {L : List (List UInt8)} (h : fC n c L) {i j : Nat} (hi : i < n) (hj : j < c) : L.flatten.getD (i * c + j) 0 = gL L i j:=by
 unfold gL;rw [← QS h hi,List.getD_eq_getElem?_getD,List.getD_eq_getElem?_getD,List.getElem?_take,if_pos hj,List.getElem?_drop]
theorem oF {xs : List UInt8} {n c : Nat} (h : xs.length = n * c) : fC n c (jW xs n c):=⟨RX _ _ _,fun i hi => RW h hi⟩
theorem AV {xs : List UInt8} {n c : Nat} (h : xs.length = n * c) : (jW xs n c).flatten = xs:=by
 have hr:=oF h;refine List.ext_getElem (by rw [oS hr,h]) fun p h1 h2 => ?_
 rw [h] at h2
 rcases Nat.eq_zero_or_pos c with hc | hc
 ·subst hc;omega
 ·have hi : p / c < n:=(Nat.div_lt_iff_lt_mul hc).2 h2
  have hj : p % c < c:=Nat.mod_lt _ hc;have hp : p / c * c + p % c = p:=by rw [Nat.mul_comm];exact Nat.div_add_mod p c
  have e:=yQ hr hi hj;rw [hp] at e;unfold gL at e;rw [RY _ _ _ hi,List.getD_eq_getElem?_getD,List.getD_eq_getElem?_getD,List.getElem?_take,if_pos hj,List.getElem?_drop,hp,List.getElem?_eq_getElem h1,List.getElem?_eq_getElem (by omega : p < xs.length)] at e;exact e
theorem fC.set {n c : Nat} {L : List (List UInt8)} (h : fC n c L) {i : Nat} {x : List UInt8} (hi : i < n) (hx : x.length = c) : fC n c (L.set i x) :=
 ⟨by rw [List.length_set];exact h.len,fun k hk => by
  rw [gE (by rw [h.len];exact hi)]
  split
  ·exact hx
  ·exact h.wid k hk⟩
theorem aBM {n c : Nat} {L : List (List UInt8)} (h : fC n c L) {i : Nat} {x : List UInt8} (hi : i < n) (hx : x.length = c) : over L.flatten (i * c) x = (L.set i x).flatten:=by
 have hl : i < L.length:=by rw [h.len];exact hi
 have e1 : L.flatten.take (i * c) = (L.take i).flatten:=by
  have h3 : (L.take i).flatten ++ (L.drop i).flatten = L.flatten:=by rw [← List.flatten_append,List.take_append_drop]
  have h4:=(YY (n:=i) (c:=c) (L:=L.take i) (by rw [List.length_take];omega) (fun k hk => by
   rw [List.getD_eq_getElem?_getD,List.getElem?_take,if_pos hk,← List.getD_eq_getElem?_getD];exact h.wid k (by omega))).1
  rw [← h3,List.take_append,h4,Nat.sub_self,List.take_zero,List.append_nil,List.take_of_length_le (by rw [h4];exact Nat.le_refl _)]
 have e2 : i * c + c = (i + 1) * c:=by rw [Nat.add_mul];omega
 unfold over;rw [hx,e1,e2,SP h (i + 1) (by omega),List.set_eq_take_append_cons_drop,if_pos hl,List.flatten_append,List.flatten_cons]
theorem aFE {n c : Nat} {L : List (List UInt8)} (h : fC n c L) {i j : Nat} (hi : i < n) (hj : j < c) (y : UInt8) : L.flatten.set (i * c + j) y = (L.set i ((L.getD i []).set j y)).flatten:=by
 have hr:=h.wid i hi;rw [← aBM h hi (x:=(L.getD i []).set j y) (by rw [List.length_set];exact hr),← QS h hi];have hlen:=oS h;have hle : (i + 1) * c≤n * c:=Nat.mul_le_mul_right c hi;rw [Nat.add_mul,Nat.one_mul] at hle;have hrl : ((L.flatten.drop (i * c)).take c).length = c:=by rw [List.length_take,List.length_drop];omega
 obtain ⟨q,hq⟩ : ∃ q,q = i * c:=⟨_,rfl⟩
 obtain ⟨N,hN⟩ : ∃ N,N = n * c:=⟨_,rfl⟩
 rw [← hq,← hN] at hle;rw [← hq] at hrl;rw [← hN] at hlen;rw [← hq];clear hq hN;refine List.ext_getElem? fun p => ?_
 have hl : (L.flatten.set (q + j) y)[p]? = if q + j = p then some y else L.flatten[p]? := by
  rw [List.getElem?_set]
  by_cases e : q + j = p
  ·rw [if_pos e,if_pos e,if_pos (by omega)]
  ·rw [if_neg e,if_neg e]
 rw [hl];unfold over;rw [List.getElem?_append,List.length_take,hlen,Nat.min_eq_left (by omega)]
 by_cases h1 : p < q
 ·rw [if_pos h1,if_neg (by omega),List.getElem?_take,if_pos h1]
 ·rw [if_neg h1,List.getElem?_append,List.length_set,hrl]
  by_cases h2 : p - q < c
  ·rw [if_pos h2,List.getElem?_set,hrl]
   by_cases h3 : j = p - q
   ·rw [if_pos h3,if_pos (by omega),if_pos (by omega)]
   ·rw [if_neg h3,if_neg (by omega),List.getElem?_take,if_pos h2,List.getElem?_drop,show q + (p - q) = p by omega]
  ·rw [if_neg h2,if_neg (by omega),List.getElem?_drop,show q + c + (p - q - c) = p by omega]
theorem aKS {n c : Nat} {L : List (List UInt8)} (h : fC n c L) {zs : List Int} (hz : qJ n zs = true) : pD c L.flatten zs = (zs.map fun z => L.getD z.toNat []).flatten:=by
 unfold pD;rw [List.flatMap_def]
 congr 1
 refine List.map_congr_left fun z hzm => ?_
 have:=List.all_eq_true.1 hz z hzm;rw [decide_eq_true_eq] at this;exact QS h (by omega)
def IC (L : List (List UInt8)) (j : Nat) : Nat→Nat→Option Nat
 | 0,_ => none
 | f + 1,i => if gL L i j≠0 then some i else IC L j f (i + 1)
theorem NQ {L : List (List UInt8)} {j : Nat} : ∀ {f i k},IC L j f i = some k→i≤k∧k < i + f∧gL L k j≠0 ∧ ∀ i',i≤i'→i' < k→gL L i' j = 0
 | 0,i,k,h => by cases h
 | f + 1,i,k,h => by
  rw [IC] at h
  split at h
  ·injection h with h
   subst h;exact ⟨Nat.le_refl _,by omega,by assumption,fun i' h1 h2 => by omega⟩
  ·next hz =>
   obtain ⟨h1,h2,h3,h4⟩:=NQ h;refine ⟨by omega,by omega,h3,fun i' h5 h6 => ?_⟩
   rcases Nat.lt_or_ge i i' with h7 | h7
   ·exact h4 i' h7 h6
   ·obtain rfl : i' = i:=by omega
    exact Classical.byContradiction fun hn => hz hn
theorem ZJ {L : List (List UInt8)} {j : Nat} : ∀ {f i},IC L j f i = none → ∀ i',i≤i'→i' < i + f→gL L i' j = 0
 | 0,i,_,i',h1,h2 => by omega
 | f + 1,i,h,i',h1,h2 => by
  rw [IC] at h
  split at h
  ·cases h
  ·next hz =>
   rcases Nat.lt_or_ge i i' with h7 | h7
   ·exact ZJ h i' h7 (by omega)
   ·obtain rfl : i' = i:=by omega
    exact Classical.byContradiction fun hn => hz hn
def NC (n c : Nat) : Nat→Nat→Nat→List (List UInt8)→List (List UInt8)→List Nat→List (List UInt8)×List (List UInt8)×List Nat
 | 0,_,_,L,A,piv => (L,A,piv)
 | f + 1,top,col,L,A,piv =>
  match IC L col (n - top) top with
  | none => NC n c f top (col + 1) L A piv
  | some i => NC n c f (top + 1) (col + 1) (eZ top col n (rU L i top (inv (gL L i col)))) (nR top col (rU L i top (inv (gL L i col))) n (rU A i top (inv (gL L i col)))) (piv ++ [col])
theorem YO (n c : Nat) : ∀ (f top col : Nat) (L A : List (List UInt8)) (piv : List Nat),c≤col + f→col + f≤c ∨ f = 0→DS n c top col L A piv (NC n c f top col L A piv).1 (NC n c f top col L A piv).2.1 (NC n c f top col L A piv).2.2
 | 0,top,col,L,A,piv,h,_ => DS.out (by omega)
 | f + 1,top,col,L,A,piv,h,h' => by
  rw [NC]
  split
  ·next hf =>
   refine DS.skip (fun i' h1 h2 => ZJ hf i' h1 (by omega)) (YO n c f top (col + 1) L A piv (by omega) (by omega))
  ·next i hf =>
   obtain ⟨h1,h2,h3,h4⟩:=NQ hf;exact DS.step (by omega) (by omega) h1 (by omega) (Nat.le_refl _) h3 h4 (fun j' h5 h6 => by omega) (YO n c f (top + 1) (col + 1) _ _ _ (by omega) (by omega))
def kA (n c : Nat) (L A : List (List UInt8)) : List (List UInt8)×List (List UInt8)×List Nat:=NC n c c 0 0 L A []
theorem uF (n c : Nat) (L A : List (List UInt8)) : DS n c 0 0 L A [] (kA n c L A).1 (kA n c L A).2.1 (kA n c L A).2.2:=YO n c c 0 0 L A [] (by omega) (by omega)
theorem DS.aYA {n c : Nat} {L A L' A' : List (List UInt8)} {p : List Nat} (h : DS n c 0 0 L A [] L' A' p) : L' = (kA n c L A).1∧A' = (kA n c L A).2.1∧p = (kA n c L A).2.2:=h.unique (uF n c L A)
end Go.Proofs.Yteofcbkjhdadpaa
namespace Go.Proofs.Yteofcbkjhdadpaa
open Go.RowKit
theorem OD.toBelow {w0 w w' : World} {Al Aa : Option Addr} (h : OD w w' Al Aa) (h1 : aHJ w0 Al) (h2 : aHJ w0 Aa) (hs : w0.heap.size≤w.heap.size) : Below w0.heap.size w w' :=
 ⟨h.os,h.tape,h.output,h.size,fun k hk => h.block k (by omega) (fun e => by have:=h1 k e;omega) (fun e => by have:=h2 k e;omega)⟩
theorem vD {r c : Nat} (hr : r≤64) (hc : c≤64) : bY (r : Int) (c : Int) (r * c) = true:=by
 unfold bY;rw [decide_eq_true_eq];exact ⟨⟨by omega,by omega⟩,⟨by omega,by omega⟩,by simp⟩
theorem wL.form {w : World} {base : Nat} {v : Value} {zs : List Nat} (h : wL w base v zs) : ∃ A k,v = .slice A zs.length k∧zs.length≤k:=by
 rcases h with ⟨h0,⟨h1,h2⟩ | ⟨g,c,cur,h1,hg,hh,h3,_⟩⟩
 ·exact ⟨none,0,by rw [h1,h2],by omega⟩
 ·exact ⟨_,c,h1,h3⟩
structure OC (w x : World) (r c na ka : Nat) (A : Option Addr) : Prop where
 below : Below w.heap.size w x
 m : Row x w.heap.size 24 [.int .i64 (r : Int),.int .i64 (c : Int),.slice A na ka]
 o : Row x (w.heap.size + 1) 24 [.int .i64 0,.int .i64 0,.slice none 0 0]
theorem OC.go {w x y : World} {r c na ka : Nat} {A : Option Addr} (h : OC w x r c na ka A) (hb : Below x.heap.size x y) : OC w y r c na ka A :=
 ⟨h.below.trans (hb.mono h.below.size),h.m.below hb h.m.lt,h.o.below hb h.o.lt⟩
theorem OC.go2 {w x y z : World} {r c na ka : Nat} {A : Option Addr} (h : OC w x r c na ka A) (hb : Below x.heap.size x y) (hc : Below x.heap.size y z) : OC w z r c na ka A :=
 h.go (hb.trans hc)
def aOO (r c na : Nat) (xs : List UInt8) (w : World) (e : Ending) (w' : World) : Prop :=
 ∃ A' k' v piv L' A2,e = .returned (.tuple #[mV r c A' na k',v,.int .i64 0])∧Rd w' w'.heap.size A' na (fQ L'.flatten)∧na≤k'∧wL w' w.heap.size v piv∧DS r c 0 0 (jW xs r c) (List.replicate r []) [] L' A2 piv∧Below w.heap.size w w' ∧ ∀ a,A' = some a→w.heap.size≤a.block∧some a.block≠v.ownBlock
theorem UC (r c na ka : Nat) (A : Option Addr) (xs : List UInt8) (w : World) (hx : Rd w w.heap.size A na (fQ xs)) (hna : Hid (na = r * c)) (hka : na≤ka) (hr : r≤64) (hc : c≤64) :
  Calls Try.prog 85 #[mV r c A na ka] w (aOO r c na xs w):=by
 have hrt : bY r c na = true:=by rw [hna.out];exact vD hr hc
 have HR:=Lib.hid (fun w => gM r c A na ka w);rw [hrt] at HR;have HX:=Lib.hid hx;have hp : na≤4096:=by rw [hna.out];exact Nat.le_trans (Nat.mul_le_mul hr hc) (by omega)
 clear hrt hx;obtain ⟨W2,hW2⟩ : ∃ W2,W2 = (w.alloc (.cells #[.int .i64 (r : Int),.int .i64 (c : Int),.slice A na ka] 24)).alloc (.cells #[.int .i64 0,.int .i64 0,.slice none 0 0] 24):=⟨_,rfl⟩
 have st : OC w W2 r c na ka A:=by
  rw [hW2];refine ⟨((Below.refl _ _).alloc (Nat.le_refl _) _).alloc (by simp) _,(Row.new w _ _).alloc _,?_⟩;have q:=Row.new (w.alloc (.cells #[.int .i64 (r : Int),.int .i64 (c : Int),.slice A na ka] 24)) [.int .i64 0,.int .i64 0,.slice none 0 0] 24
  simpa using q
 have HW2:=Lib.hid hW2;have HS2:=Lib.hid st;clear hW2 st;go_enter Try.func85,Try.ntmps85;go_wp2_with fail
 rw [← HW2.out];refine (HR.out W2).mono ?_;rintro e w3 ⟨rfl,hb3⟩;have st3:=HS2.out.go hb3;obtain ⟨c0,c1,c2,f0,f1,f2⟩:=st3.m.three;have HS3:=Lib.hid st3;have HOF:=Lib.hid (aMT r c na ka A xs w3 (HX.out.go st3.below) hna hka hr hc);clear hb3 st3;go_wp2_with fail
 refine HOF.out.mono ?_;rintro e w4 ⟨gr,Al,Aa,capl,rfl,hgz,hgr,hnl,hna2,hb4⟩;have HS4:=Lib.hid (HS3.out.go hb4);have HRE:=Lib.hid (PO gr Al Aa r capl c 0 _ _ w4 hgz hr hc (by omega));have HNL:=Lib.hid (And.intro hnl hna2);have HB4:=Lib.hid hb4;clear hgz hnl hna2 hb4 c0 c1 c2 f0 f1 f2;go_wp2_with fail
 refine HRE.out.mono ?_;rintro e w5 ⟨v,piv,L',A2,rfl,hown,hred,hgz,hchg⟩;have hb5 : Below w3.heap.size w4 w5:=hchg.toBelow HNL.out.1 HNL.out.2 HB4.out.size;have HS5:=Lib.hid ((HS3.out.go2 HB4.out hb5));have HMA:=Lib.hid (aAY gr Al Aa r capl c 0 L' A2 w5 hgz hr hc);have HOW:=Lib.hid hown;have HRED:=Lib.hid hred;clear hown hred hgz hchg hb5;go_wp2_with fail
 refine HMA.out.mono ?_;rintro e w6 ⟨A',k',rfl,hrd,hk,hA,hb6⟩;rw [← hna.out] at hrd hk;rw [← hna.out];have st6:=HS5.out.go hb6;obtain ⟨d0,d1,d2,g0,g1,g2⟩:=st6.o.three;have hlt:=st6.o.lt;have HS6:=Lib.hid st6;have HRD:=Lib.hid hrd;have HO6:=Lib.hid (HOW.out.vJ (fun g _ hg => hb6.block g hg));have bIF:=HS4.out.o.lt;clear hrd hb6 st6;go_wp2_with fail
 refine bodyPost_ret (v:=.tuple #[mV r c A' na k',v,.int .i64 0]) (by simp [results,Try.results85,go_sem,d0,d1,d2,hlt]) rfl ?_;have s6:=HS6.out;have hA2 : ∀ a,A' = some a→a.block≠w.heap.size + 1:=fun a e => by
  have:=hA a e;have:=HS5.out.o.lt;omega
 refine ⟨A',k',v,piv,L',A2,rfl,((HRD.out.off hA2 _).off hA2 _).off hA2 _,hk,(HO6.out.vJ (fun g hb hg => by
  rw [Below.heap_setCell _ _ _ _ (by show g≠w.heap.size + 1;omega),Below.heap_setCell _ _ _ _ (by show g≠w.heap.size + 1;omega),Below.heap_setCell _ _ _ _ (by show g≠w.heap.size + 1;omega)])).mono (by omega),HRED.out,cV s6.below (by omega) _ _ _,fun a e => ?_⟩
 have h1:=hA a e;have h2:=HS5.out.o.lt;refine ⟨by omega,fun h => ?_⟩;obtain ⟨ys,hrow⟩:=HOW.out.rowOf h.symm;have:=hrow.lt;omega
theorem ZI (r c : Int) (na ka : Nat) (A : Option Addr) (w : World) (hrt : Hid (bY r c na = false)) :
  Calls Try.prog 85 #[mV r c A na ka] w fun e w' => e = .returned (.tuple #[mV 0 0 none 0 0,.slice none 0 0,.int .i64 3])∧Below w.heap.size w w':=by
 have HR:=Lib.hid (fun w => gM r c A na ka w);rw [hrt.out] at HR;obtain ⟨W2,hW2⟩ : ∃ W2,W2 = (w.alloc (.cells #[.int .i64 r,.int .i64 c,.slice A na ka] 24)).alloc (.cells #[.int .i64 0,.int .i64 0,.slice none 0 0] 24):=⟨_,rfl⟩
 have hb2 : Below w.heap.size w W2:=by rw [hW2];exact ((Below.refl _ _).alloc (Nat.le_refl _) _).alloc (by simp) _
 have ho : Row W2 (w.heap.size + 1) 24 [.int .i64 0,.int .i64 0,.slice none 0 0]:=by
  rw [hW2];have q:=Row.new (w.alloc (.cells #[.int .i64 r,.int .i64 c,.slice A na ka] 24)) [.int .i64 0,.int .i64 0,.slice none 0 0] 24
  simpa using q
 have HW2:=Lib.hid hW2;have MU:=Lib.hid hb2;have HO:=Lib.hid ho;clear hW2 hb2 ho;go_enter Try.func85,Try.ntmps85;go_wp2_with fail
 rw [← HW2.out];refine (HR.out W2).mono ?_;rintro e w3 ⟨rfl,hb3⟩;have ho3:=HO.out.below hb3 HO.out.lt;obtain ⟨d0,d1,d2,g0,g1,g2⟩:=ho3.three;have hlt:=ho3.lt;have VJ:=Lib.hid (MU.out.trans (hb3.mono MU.out.size));clear hb3 ho3;go_wp2_with fail
 refine bodyPost_ret (v:=.tuple #[mV 0 0 none 0 0,.slice none 0 0,.int .i64 3]) (by simp [results,Try.results85,go_sem,d0,d1,d2,hlt]) rfl ?_;exact ⟨rfl,cV VJ.out (by omega) _ _ _⟩
theorem aLl (r c na ka : Nat) (A : Option Addr) (xs : List UInt8) (w : World) (hx : Rd w w.heap.size A na (fQ xs)) (hna : Hid (na = r * c)) (hka : na≤ka) (hr : r≤64) (hc : c≤64) :
  Calls Try.prog 57 #[mV r c A na ka] w fun e w' => ∃ (piv : List Nat) (L' A2 : List (List UInt8)),e = .returned (.tuple #[.int .i64 (piv.length : Int),.int .i64 0])∧DS r c 0 0 (jW xs r c) (List.replicate r []) [] L' A2 piv∧Below w.heap.size w w':=by
 have HRE:=Lib.hid (fun w1 (hb : Below w.heap.size w w1) => UC r c na ka A xs w1 (hx.go hb) hna hka hr hc);clear hx;go_enter Try.func57,Try.ntmps57;go_wp2_with fail
 refine (HRE.out _ ((Below.refl _ _).alloc (Nat.le_refl _) _)).mono ?_;rintro e w' ⟨A',k',v,piv,L',A2,rfl,hrd,hk,hown,hred,hb,_⟩;obtain ⟨Ap,kp,rfl,hkp⟩:=hown.form;have HRED:=Lib.hid hred;have HB:=Lib.hid hb;clear hrd hown hred hb;go_wp2_with fail
 refine bodyPost_ret (v:=.tuple #[.int .i64 (piv.length : Int),.int .i64 0]) (by simp [results,Try.results57,go_sem]) rfl ?_;have hs : w.heap.size≤w'.heap.size:=by have:=HB.out.size;simp at this;omega
 exact ⟨piv,L',A2,rfl,HRED.out,(((Below.refl _ _).alloc (Nat.le_refl _) _).trans (HB.out.mono (by simp))).alloc hs _⟩
theorem aNJ (r c : Int) (na ka : Nat) (A : Option Addr) (w : World) (hrt : Hid (bY r c na = false)) :
  Calls Try.prog 57 #[mV r c A na ka] w fun e w' => e = .returned (.tuple #[.int .i64 0,.int .i64 3])∧Below w.heap.size w w':=by
 have HRE:=Lib.hid (fun w1 => ZI r c na ka A w1 hrt);go_enter Try.func57,Try.ntmps57;go_wp2_with fail
 refine (HRE.out _).mono ?_;rintro e w' ⟨rfl,hb⟩;have HB:=Lib.hid hb;clear hb;go_wp2_with fail
 refine bodyPost_ret (v:=.tuple #[.int .i64 0,.int .i64 3]) (by simp [results,Try.results57,go_sem]) rfl ?_;have hs : w.heap.size≤w'.heap.size:=by have:=HB.out.size;simp at this;omega
 exact ⟨rfl,(((Below.refl _ _).alloc (Nat.le_refl _) _).trans (HB.out.mono (by simp))).alloc hs _⟩
end Go.Proofs.Yteofcbkjhdadpaa
