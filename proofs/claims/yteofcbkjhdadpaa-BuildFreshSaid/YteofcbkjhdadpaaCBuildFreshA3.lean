/- What the functions compute that the law BuildFresh reaches, proved by walking them; conditions stand at each theorem. -/
import Derived.Deep.RegionHeld3
import Derived.Deep.QuietTactic
import Derived.BigQuiet
import Derived.BigRegion
import Derived.RegionTactic
import Derived.ProofKit
import Derived.OpenShut
import Derived.ChangeOld
import Derived.SizedLaws
import Derived.Lib.SmallJoins
import Derived.Test.YteofcbkjhdadpaaCBuildFreshA2
import Derived.Test.YteofcbkjhdadpaaCBuildFreshA1
import Derived.Test.YteofcbkjhdadpaaCBuildFreshw1
import Derived.Test.YteofcbkjhdadpaaCBuildFreshq
set_option maxHeartbeats 6400000
set_option maxRecDepth 100000
set_option linter.unusedSimpArgs false
set_option linter.unusedVariables false
namespace Go.Proofs.Yteofcbkjhdadpaa
open Go.RowKit
def qF (n k : Nat) : List UInt8:=(List.replicate n 0).set k 1
def WX (n : Nat) : List (List UInt8):=(List.range n).map (qF n)
theorem vD (n k : Nat) : (qF n k).length = n:=by simp [qF]
theorem NK (n : Nat) : (WX n).length = n:=by simp [WX]
theorem HJ {n k : Nat} (h : k < n) : (WX n).getD k [] = qF n k:=by
 unfold WX;rw [List.getD_eq_getElem?_getD,List.getElem?_map,List.getElem?_range h];rfl
theorem AP.aOb {w : World} {g : Nat} {xs : List UInt8} (h : Row w g 5 (dK xs)) : AP w (some ⟨g,0,none⟩) xs:=by
 intro hn;refine ⟨g,0,_,rfl,h,fun j hj => ?_⟩;rw [Nat.zero_add];simp only [List.getElem?_toArray];rw [rN xs j hj]
 simp [List.getD,hj]
structure aOJ (w wr : World) (n na ka gr ga capl : Nat) (A Al : Option Addr) (L : List (List UInt8)) (i : Nat) : Prop where
 box : FO w wr n n na ka A
 row : Row wr gr 95 [.slice Al n capl,.slice (some ⟨ga,0,none⟩) n n,.int .i64 (n : Int)]
 l : qC wr Al n n L
 also : ∃ vs : List Value,Row wr ga 22 vs∧n≤vs.length ∧ ∀ k,k < i → ∃ g,vs[k]? = some (.slice (some ⟨g,0,none⟩) n n)∧Row wr g 5 (dK (qF n k))∧w.heap.size≤g
theorem YQ (n na ka : Nat) (A : Option Addr) (xs : List UInt8) (w : World) (hx : Rd w w.heap.size A na (dK xs)) (hna : Hid (na = n * n)) (hka : na≤ka) (hr : n≤64) :
  Calls Try.prog 49 #[mV n n A na ka] w fun e w' => ∃ (piv : List Nat) (L' A2 : List (List UInt8)),wD n n 0 0 (iF xs n n) (WX n) [] L' A2 piv∧Below w.heap.size w w' ∧
   ((piv.length < n∧e = .returned (.tuple #[mV 0 0 none 0 0,.int .i64 6])) ∨ (piv.length = n ∧ ∃ A' k',e = .returned (.tuple #[mV n n A' na k',.int .i64 0])∧Rd w' w'.heap.size A' na (dK A2.flatten)∧na≤k')):=by
 have hrt : bM n n na = true:=by rw [hna.out];exact qK hr hr
 have HR:=Lib.hid (fun w => fF n n A na ka w);rw [hrt] at HR;have HX:=Lib.hid hx;have hp : na≤4096:=by rw [hna.out];exact Nat.le_trans (Nat.mul_le_mul hr hr) (by omega)
 clear hrt hx;obtain ⟨W2,hW2⟩ : ∃ W2,W2 = (w.alloc (.cells #[.int .i64 (n : Int),.int .i64 (n : Int),.slice A na ka] 24)).alloc (.cells #[.int .i64 0,.int .i64 0,.slice none 0 0] 24):=⟨_,rfl⟩
 have st : FO w W2 n n na ka A:=by
  rw [hW2];refine ⟨((Below.refl _ _).alloc (Nat.le_refl _) _).alloc (by simp) _,(Row.new w _ _).alloc _,?_⟩;have q:=Row.new (w.alloc (.cells #[.int .i64 (n : Int),.int .i64 (n : Int),.slice A na ka] 24)) [.int .i64 0,.int .i64 0,.slice none 0 0] 24
  simpa using q
 have HW2:=Lib.hid hW2;have HS2:=Lib.hid st;clear hW2 st;have hnn : ((n : Int) != (n : Int)) = false:=by simp
 go_enter Try.func49,Try.ntmps49;go_wp2_with fail
 rw [← HW2.out];refine (HR.out W2).mono ?_;rintro e w3 ⟨rfl,hb3⟩;have st3:=HS2.out.go hb3;obtain ⟨c0,c1,c2,f0,f1,f2⟩:=st3.m.three;have HS3:=Lib.hid st3;have HOF:=Lib.hid (TV n n na ka A xs w3 (HX.out.go st3.below) hna hka hr hr);clear hb3 st3;go_wp2_with fail
 refine HOF.out.mono ?_;rintro e w4 ⟨gr,Al,Aa,capl,rfl,hgz,hgr,hnl,hna2,hb4,ga,rfl,hra⟩;have hs4:=HS3.out.go hb4;have d1 : w4.cell? ⟨gr,1,none⟩ = some (.slice (some ⟨ga,0,none⟩) n n):=hgz.row.cell 1;have HS4:=Lib.hid hs4;have HGZ:=Lib.hid hgz;have HNL:=Lib.hid (And.intro hnl hna2);have OV:=Lib.hid hb4;have bAC:=HS3.out.o.lt;have HIV:=Lib.hid (show aOJ w w4 n na ka gr ga capl A Al (iF xs n n) 0 from ⟨hs4,hgz.row,hgz.l,_,hra,by simp,fun k h => by omega⟩);have hgga : gr≠ga:=Row.yR hgz.row hra (by decide);have hgal : ∀ g,Al = some ⟨g,0,none⟩→g≠ga:=fun g e e2 => hgz.ne g e (by rw [e2])
 have hgaw : w3.heap.size≤ga:=hna2 ga rfl;have HNE:=Lib.hid (And.intro hgga (And.intro hgal hgaw));clear hgga hgal hgaw hra hgz hnl hna2 hb4 c0 c1 c2 f0 f1 f2 hs4;go_wp2_with fail
 clear d1;have hmk : ∀ w : World,(Instr.makeSlice 22 (.int .i64 (n : Int)) (.int .i64 (n : Int))).run Try.prog w = .ok (.slice (some ⟨w.heap.size,0,none⟩) n n) (w.alloc (.cells (madeCells #[.int .u8 0] n) 5)):=fun w => zW n (by omega) w
 go_loopg [24] n (fun k s24 wr => ∃ i : Nat,s24 = .int .i64 (i : Int)∧i≤n∧k = n - i∧aOJ w wr n na ka gr ga capl A Al (iF xs n n) i)
 case atStart => exact ⟨0,rfl,by omega,rfl,HIV.out⟩
 case round =>
  clear HIV;obtain ⟨i,rfl,hin,hk,hst⟩:=hrel
  rename World => w5
  obtain ⟨vs,hvs,hvl,hvr⟩:=hst.also;obtain ⟨c0,c1,c2,f0,f1,f2⟩:=hst.box.m.three;have d1 : w5.cell? ⟨gr,1,none⟩ = some (.slice (some ⟨ga,0,none⟩) n n):=hst.row.cell 1;have HST:=Lib.hid hst;have HVS:=Lib.hid hvs;have HVR:=Lib.hid hvr;clear hst hvr
  by_cases hlt : i < n
  ·obtain ⟨old,hold⟩:=hvs.has (i:=i) (by omega)
   have hfz : w5.frozen? ⟨ga,i,none⟩ = false:=hvs.frozen i;have hrow2:=hvs.alloc (.cells (madeCells #[.int .u8 0] n) 5);have hold2 : (w5.alloc (.cells (madeCells #[.int .u8 0] n) 5)).cell? ⟨ga,i,none⟩ = some old:=Below.nB ((Below.refl _ _).alloc (Nat.le_refl _) _) hold;have aOf : (w5.alloc (.cells (madeCells #[.int .u8 0] n) 5)).frozen? ⟨ga,i,none⟩ = false:=hrow2.frozen i;clear hrow2;have i0 : (0 : Int)≤(i : Int):=by omega
   have i1 : (i : Int) < (n : Int):=by omega
   obtain ⟨P,hP⟩ : ∃ P : World→Prop,P = fun x => x.cell? ⟨gr,1,none⟩ = some (.slice (some ⟨ga,0,none⟩) n n)∧x.cell? ⟨w.heap.size,1,none⟩ = some (.int .i64 (n : Int)):=⟨_,rfl⟩
   have hp0 : P w5:=by rw [hP];exact ⟨d1,c1⟩
   have HA:=Lib.hid (show ∀ (x : World) o,P x→P (x.alloc o) by
    rw [hP];exact fun x o q => ⟨Below.nB ((Below.refl _ _).alloc (Nat.le_refl _) _) q.1,Below.nB ((Below.refl _ _).alloc (Nat.le_refl _) _) q.2⟩)
   have HD:=Lib.hid (show ∀ (x : World),P x→P x.drew by rw [hP];exact fun x q => q);have HSE:=Lib.hid (show ∀ (x : World) u,P x→P (x.setCell ⟨ga,i,none⟩ u) by
    rw [hP];obtain ⟨n1,n2,n3⟩:=HNE.out;exact fun x u q => ⟨cell_far q.1 (.inl fun e => n1 e.symm),cell_far q.2 (.inl (by show ga≠w.heap.size;omega))⟩)
   have HCC:=Lib.hid (show ∀ x : World,P x→x.cell? ⟨gr,1,none⟩ = some (.slice (some ⟨ga,0,none⟩) n n)∧x.cell? ⟨w.heap.size,1,none⟩ = some (.int .i64 (n : Int)) by rw [hP];exact fun x q => q);clear hP c0 c2 f0 f1 f2 hvs;go_wp2_with fail
   go_region_held3 (fun x => P x∧x.cell? ⟨gr,1,none⟩ = some (.slice (some ⟨ga,0,none⟩) n n)∧x.cell? ⟨w.heap.size,1,none⟩ = some (.int .i64 (n : Int)))
    (first | (refine ⟨?_,HCC.out _ ?_⟩ <;> (repeat' (first | with_reducible exact hp0 | with_reducible refine HD.out _ ?_ | with_reducible refine HA.out _ _ ?_ | with_reducible refine HSE.out _ _ ?_))))
    (fail)
   obtain ⟨G,hG⟩ : ∃ G,G = w5.heap.size:=⟨_,rfl⟩
   obtain ⟨W7,hW7⟩ : ∃ W7,W7 = ((w5.alloc (.cells (madeCells #[.int .u8 0] n) 5)).setCell ⟨ga,i,none⟩ (.slice (some ⟨w5.heap.size,0,none⟩) n n)).drew:=⟨_,rfl⟩
   have hgaG : ga≠G:=by rw [hG];exact Nat.ne_of_lt HVS.out.lt
   have r7 : Row W7 ga 22 (vs.set i (.slice (some ⟨G,0,none⟩) n n)):=by
    rw [hW7,hG];exact Row.drewN ((HVS.out.alloc _).set i _) 1
   have z7 : Row W7 G 5 (List.replicate n (.int .u8 0)):=by
    rw [hW7,hG];exact Row.drewN ((Row.made w5 (.int .u8 0) n 5).FG (by show w5.heap.size≠ga;rw [← hG];exact hgaG.symm) _) 1
   have hk7 : ∀ k,k < w5.heap.size→k≠ga→W7.heap[k]? = w5.heap[k]? := fun k h1 h2 => by
    rw [hW7];show ((w5.alloc (.cells (madeCells #[.int .u8 0] n) 5)).setCell ⟨ga,i,none⟩ (.slice (some ⟨w5.heap.size,0,none⟩) n n)).heap[k]? = _;rw [Below.heap_setCell _ _ _ _ h2];exact Below.heap_alloc _ _ _ h1
   have hbl7 : Below w.heap.size w W7:=by
    rw [hW7];exact ((HST.out.box.below.alloc HST.out.box.below.size _).setCell (by show w.heap.size≤ga;have:=HNE.out.2.2;omega) _).drew
   have e7 : W7.cell? ⟨gr,1,none⟩ = some (.slice (some ⟨ga,0,none⟩) n n):=(World.cell?_of_block (hk7 gr HST.out.row.lt HNE.out.1)).trans d1;have g7 : W7.cell? ⟨ga,i,none⟩ = some (.slice (some ⟨G,0,none⟩) n n):=by
    rw [r7.cell,List.getElem?_set_self (by omega)]
   have h7 : W7.cell? ⟨G,i,none⟩ = some (.int .u8 0):=by
    rw [z7.cell,List.getElem?_replicate,if_pos hlt]
   have k7 : W7.frozen? ⟨G,i,none⟩ = false:=z7.frozen i;rw [← hW7];rw [← hG];have HNX:=Lib.hid (show aOJ w (W7.setCell ⟨G,i,none⟩ (.int .u8 1)) n na ka gr ga capl A Al (iF xs n n) (i + 1) by
    have hk8 : ∀ k,k < w5.heap.size→k≠ga→(W7.setCell ⟨G,i,none⟩ (.int .u8 1)).heap[k]? = w5.heap[k]? := fun k h1 h2 => by
     rw [Below.heap_setCell _ _ _ _ (by show k≠G;omega)];exact hk7 k h1 h2
    have q:=HST.out;obtain ⟨n1,n2,n3⟩:=HNE.out;refine ⟨⟨hbl7.setCell (by show w.heap.size≤G;have:=q.box.below.size;omega) _,q.box.m.of_block (hk8 _ q.box.m.lt (by omega)),q.box.o.of_block (hk8 _ q.box.o.lt (by omega))⟩,q.row.of_block (hk8 _ q.row.lt n1),q.l.qA (fun g cells hg => hk8 g (xG hg) (fun e => ?_)) (fun g e => ?_),⟨_,r7.FG (by show ga≠G;exact hgaG) _,by rw [List.length_set];exact hvl,fun k hk => ?_⟩⟩
    ·exact Row.yR (show Row w5 g 5 cells.toList from hg) HVS.out (by decide) e
    ·obtain ⟨_,lv,e2,hr⟩:=q.l.row (by omega)
     rw [e] at e2;injection e2 with e2;injection e2 with e2;subst e2;exact hk8 g hr.lt (n2 g e)
    ·rcases Nat.lt_or_ge k i with h1 | h1
     ·obtain ⟨g,e1,e2,e3⟩:=HVR.out k h1
      refine ⟨g,?_,e2.of_block (hk8 g e2.lt (fun e => Row.yR e2 HVS.out (by decide) e)),e3⟩;rw [List.getElem?_set_ne (by omega)];exact e1
     ·obtain rfl : k = i:=by omega
      refine ⟨G,by rw [List.getElem?_set_self (by omega)],?_,by have:=q.box.below.size;omega⟩;have q8:=z7.set k (.int .u8 1);have e : (List.replicate n (Value.int .u8 0)).set k (.int .u8 1) = dK (qF n k):=by
       unfold qF dK;rw [List.map_set,List.map_replicate];rfl
      rw [e] at q8;exact q8)
   clear hold hold2 hfz aOf c1 d1 r7 z7 hk7 hbl7 hW7 hG hgaG hp0;go_wp2_with fail
   go_roundg (n - (i + 1))
   case rel => exact ⟨i + 1,by go_num,by omega,rfl,HNX.out⟩
   case measure => omega
  ·obtain rfl : i = n:=by omega
   have q:=HST.out;have hls : qC w5 (some ⟨ga,0,none⟩) i i (WX i):=by
    refine ⟨NK i,fun k hk => by rw [HJ hk,vD],fun h0 => ⟨ga,vs,rfl,HVS.out,hvl,fun k hk => ?_⟩⟩;obtain ⟨g,e1,e2,_⟩:=HVR.out k hk;exact ⟨_,_,e1,Nat.le_refl _,by rw [HJ hk];exact AP.aOb e2⟩
   have hgz : Gz w5 gr Al (some ⟨ga,0,none⟩) i capl i i (iF xs i i) (WX i):=⟨q.row,q.l,hls,HGZ.out.le,HGZ.out.ne⟩
   have HRE:=Lib.hid (GO gr Al (some ⟨ga,0,none⟩) i capl i i (iF xs i i) (WX i) w5.drew (hgz.below (Below.drew (Below.refl _ _))) hr hr hr);clear hls hgz d1 c1 c2 f0 f1 f2 hvs;have HSTAY:=Lib.hid (show ∀ y : World,FP w5.drew y Al (some ⟨ga,0,none⟩)→FO w y i i na ka A by
    intro y h;have q:=HST.out;obtain ⟨n1,n2,n3⟩:=HNE.out;have hA : aCL w3 Al:=HNL.out.1;have hb : ∀ g,Al = some ⟨g,0,none⟩→w.heap.size + 1 < g:=fun g e => by have:=hA g e;omega
    refine ⟨q.box.below.drew.trans (h.toBelow (w0:=w) (fun g e => by have:=hb g e;omega) (fun g e => by injection e with e;injection e with e;omega) q.box.below.size),q.box.m.of_block (h.block _ q.box.m.lt (fun e => by have:=hb _ e;omega) (fun e => by injection e with e;injection e with e;omega)),q.box.o.of_block (h.block _ q.box.o.lt (fun e => by have:=hb _ e;omega) (fun e => by injection e with e;injection e with e;omega))⟩)
   go_wp2_with fail
   go_region_held3 (fun x => x.cell? ⟨w.heap.size,0,none⟩ = some (.int .i64 (i : Int)))
    (first | assumption)
    (first | (go_at_call 81;(with_reducible refine HRE.out.mono ?_);rintro e w6 ⟨v,piv,L',A2,rfl,hown,hred,hgz,hchg⟩;have hbx6:=HSTAY.out _ hchg;have hcc:=hbx6.m.cell 0;obtain ⟨Ap,kp,rfl,hkp⟩:=hown.form))
   obtain ⟨d0,d1,d2,g0,g1,g2⟩:=hbx6.o.three;have hlt6:=hbx6.o.lt;have hxl : xs.length = i * i:=by have:=HX.out.len;rw [bC] at this;rw [this,hna.out]
   have hpl : piv.length≤i:=(hred.toF (m:=i) ⟨CW _ _ _,fun k hk => JY hxl hk⟩ ⟨NK i,fun k hk => by rw [HJ hk,vD]⟩).1.xY.le;have HBX:=Lib.hid hbx6;have HRED:=Lib.hid hred;have HGZ6:=Lib.hid hgz;have HXL:=Lib.hid hxl;clear hown hred hgz hchg hbx6 hcc c0 hxl
   by_cases hpi : piv.length < i
   ·have hpi2 : (piv.length : Int) < (i : Int):=by omega
    go_wp2_with fail
    refine bodyPost_ret (v:=.tuple #[mV 0 0 none 0 0,.int .i64 6]) (by simp [results,Try.results49,go_sem,d0,d1,d2,hlt6]) rfl ?_;exact ⟨piv,L',A2,HRED.out,bZ HBX.out.below (by omega) _ _ _,.inl ⟨hpi,rfl⟩⟩
   ·have hpi2 : ¬ (piv.length : Int) < (i : Int):=by omega
    have e0 : w6.cell? ⟨gr,0,none⟩ = some (.slice Al i capl):=HGZ6.out.row.cell 0;have e1 : w6.cell? ⟨gr,1,none⟩ = some (.slice (some ⟨ga,0,none⟩) i i):=HGZ6.out.row.cell 1;have h0 : w6.frozen? ⟨gr,0,none⟩ = false:=HGZ6.out.row.frozen 0;obtain ⟨W7,hW7⟩ : ∃ W7,W7 = w6.setCell ⟨gr,0,none⟩ (.slice (some ⟨ga,0,none⟩) i i):=⟨_,rfl⟩
    have hgw : w.heap.size + 1 < gr:=by omega
    have hrow7 : Row W7 gr 95 [.slice (some ⟨ga,0,none⟩) i i,.slice (some ⟨ga,0,none⟩) i i,.int .i64 (i : Int)]:=by rw [hW7];exact HGZ6.out.row.set 0 _
    have hl7 : qC W7 (some ⟨ga,0,none⟩) i i A2:=by
     rw [hW7];exact HGZ6.out.also.FG (p:=⟨gr,0,none⟩) HGZ6.out.row (by decide) (fun e => by injection e with e;injection e with e;exact HNE.out.1 e.symm) _
    have hbox7 : FO w W7 i i na ka A:=by
     rw [hW7];exact ⟨HBX.out.below.setCell (by show w.heap.size≤gr;omega) _,HBX.out.m.FG (by show w.heap.size≠gr;omega) _,HBX.out.o.FG (by show w.heap.size + 1≠gr;omega) _⟩
    have HMA:=Lib.hid (BU gr (some ⟨ga,0,none⟩) i i i A2 W7 (hrow7.cell 0) (hrow7.cell 2) hl7 (Nat.le_refl _) hr hr);have HB7:=Lib.hid hbox7;have HW7:=Lib.hid hW7;clear hrow7 hl7 hbox7 hW7 d0 d1 d2 g0 g1 g2;go_wp2_with fail
    rw [← HW7.out];refine HMA.out.mono ?_;rintro e w8 ⟨A',k',rfl,hrd,hk8,hA,hb8⟩;rw [← hna.out] at hrd hk8;rw [← hna.out];have hb:=HB7.out.go hb8;obtain ⟨d0,d1,d2,g0,g1,g2⟩:=hb.o.three;have hlt8:=hb.o.lt;have HRD:=Lib.hid hrd;have HB8:=Lib.hid hb;clear hrd hb8 hb e0 e1 h0;go_wp2_with fail
    refine bodyPost_ret (v:=.tuple #[mV i i A' na k',.int .i64 0]) (by simp [results,Try.results49,go_sem,d0,d1,d2,hlt8]) rfl ?_;have hA2 : ∀ a,A' = some a→a.block≠w.heap.size + 1:=fun a e => by
     have:=hA a e;have:=HB7.out.o.lt;omega
    exact ⟨piv,L',A2,HRED.out,bZ HB8.out.below (by omega) _ _ _,.inr ⟨by omega,A',k',rfl,((HRD.out.off hA2 _).off hA2 _).off hA2 _,hk8⟩⟩
end Go.Proofs.Yteofcbkjhdadpaa
namespace Go.Proofs.Yteofcbkjhdadpaa
open Go.RowKit
def CN (r c : Int) (n : Nat) (xs : List UInt8) (zs : List Int) (w : World) (e : Ending) (w' : World) : Prop :=
 ∃ A' n' cap',e = .returned (.tuple #[mV (pkR (bM r c n) r zs) (pkC (bM r c n) r c zs) A' n' cap',.int .i64 (jX (bM r c n) r zs)])∧eJ w' w.heap.size A' n' cap' (pkD (bM r c n) r c xs zs)∧Below w.heap.size w w'
theorem aHE (w : World) (base : Nat) : eJ w base none 0 0 []:=⟨rfl,rfl,.inl ⟨rfl,rfl⟩⟩
theorem jW {r c : Int} {n : Nat} {xs : List UInt8} {zs : List Int} {w w' : World} {E : Int} (h : jX (bM r c n) r zs = E) (hE : E≠0) (hb : Below w.heap.size w w') :
  CN r c n xs zs w (.returned (.tuple #[mV 0 0 none 0 0,.int .i64 E])) w':=by
 refine ⟨none,0,0,?_,?_,hb⟩
 ·unfold pkR pkC;rw [h,if_neg hE,if_neg hE]
 ·unfold pkD;rw [h,if_neg hE];exact aHE _ _
end Go.Proofs.Yteofcbkjhdadpaa
namespace Go.Proofs.Yteofcbkjhdadpaa
open Go.RowKit
def aSq (w : World) (g k : Nat) (row new : List UInt8) : Prop:=∃ l,k + row.length≤l.length∧over l k row = new∧Row w g 5 (dK l)
theorem aFF {c r : Nat} {xs : List UInt8} {zs : List Int} {j m : Nat} (hx : xs.length = r * c) (hrows : mR r zs = true) (hm : zs.length = m) (hj : j < m) :
  over (lL c xs (zs.take j) ++ List.replicate ((m - j) * c) 0) (j * c) ((xs.drop ((zs.getD j 0).toNat * c)).take c) = lL c xs (zs.take (j + 1)) ++ List.replicate ((m - (j + 1)) * c) 0:=by
 have hr' : mR r (zs.take j) = true:=by
  unfold mR at hrows ⊢;rw [List.all_eq_true] at hrows ⊢;exact fun z hz => hrows z (List.mem_of_mem_take hz)
 have hl:=GS (c:=c) hx hr';rw [List.length_take,Nat.min_eq_left (by omega)] at hl;rw [QA _ _ _ _ hl,KF (by omega)]
 congr 1
 have hg:=sI hrows (k:=j) (by omega);have hrow : ((xs.drop ((zs.getD j 0).toNat * c)).take c).length = c:=by
  rw [List.length_take,List.length_drop,hx];have h1 : ((zs.getD j 0).toNat + 1) * c≤r * c:=Nat.mul_le_mul_right c (by omega);rw [Nat.add_mul] at h1;omega
 rw [hrow,List.drop_replicate]
 congr 1
 obtain ⟨q,hq⟩ : ∃ q,m - j = q + 1:=⟨m - j - 1,by omega⟩
 rw [hq,show m - (j + 1) = q by omega,Nat.add_mul];omega
theorem aCh (r c : Int) (A : Option Addr) (n cap : Nat) (xs : List UInt8) (Az : Option Addr) (nz capz : Nat) (zs : List Int) (w : World) (hr : Rd w w.heap.size A n (dK xs)) (hz : Rd w w.heap.size Az nz (RY zs)) (hnz : nz≤140737488355328) (hnc : n≤cap) :
  Calls Try.prog 48 #[mV r c A n cap,.slice Az nz capz] w (CN r c n xs zs w):=by
 have hlz : zs.length = nz:=by have:=hz.len;rw [lU] at this;exact this
 have HLZ:=Lib.hid hlz;clear hlz;have b2:=(Row.new w [.int .i64 r,.int .i64 c,.slice A n cap] 24).alloc (.cells #[.int .i64 0,.int .i64 0,.slice none 0 0] 24);have b4:=Row.new (w.alloc (.cells #[.int .i64 r,.int .i64 c,.slice A n cap] 24)) [.int .i64 0,.int .i64 0,.slice none 0 0] 24;rw [World.size_alloc] at b4;have hB : Below w.heap.size w ((w.alloc (.cells #[.int .i64 r,.int .i64 c,.slice A n cap] 24)).alloc (.cells #[.int .i64 0,.int .i64 0,.slice none 0 0] 24)):=((Below.refl _ _).alloc (Nat.le_refl _) _).alloc (by simp) _;have yL:=Lib.hid b2;have OV:=Lib.hid b4;have HB:=Lib.hid hB;clear b2 b4 hB
 by_cases hrt : bM r c n = true
 ·obtain ⟨rr,cc,rfl,rfl,hr64,hc64,hnrc⟩ : ∃ a b : Nat,r = a∧c = b∧a≤64∧b≤64∧n = a * b:=by
   simp [bM] at hrt
   refine ⟨r.toNat,c.toNat,by omega,by omega,by omega,by omega,?_⟩;apply Int.ofNat_inj.1;rw [Int.natCast_mul,Int.toNat_of_nonneg hrt.1.1,Int.toNat_of_nonneg hrt.2.1.1];exact hrt.2.2
  have HN:=Lib.hid hnrc;have HRT:=Lib.hid hrt;have oA:=Lib.hid (fun w => fF rr cc A n cap w);rw [hrt] at oA;clear hnrc hrt;go_enter Try.func48,Try.ntmps48;go_wp2_with (go_at_call 76;refine (oA.out _).mono ?_;rintro e w1 ⟨rfl,hb1⟩;have b2:=yL.out.below hb1 (by simp;omega);have b4:=OV.out.below hb1 (by simp);have hB:=HB.out.trans (hb1.mono HB.out.size);obtain ⟨c20,BA,c22,f20,f21,f22⟩:=b2.three;obtain ⟨c40,c41,OS,f40,f41,f42⟩:=b4.three)
  clear yL OV HB oA hb1
  go_loop [17] (fun v17 => ∃ i : Nat,i≤nz∧v17 = .int .i64 (i : Int)∧Hid (∀ k,k < i→0≤zs.getD k 0∧zs.getD k 0 < (rr : Int))) (fun v17 => nz - (intOf v17).toNat)
  case atStart => exact ⟨0,by omega,rfl,fun k hk => by omega⟩
  case round =>
   obtain ⟨i,hi,rfl,HG⟩:=hrel
   by_cases hlt : i < nz
   ·obtain ⟨g,o,rfl,hg,hcell⟩:=WI (hz.below hB (Nat.le_refl _)) hlt
    obtain ⟨z,hzi⟩ : ∃ z,z = zs.getD i 0:=⟨_,rfl⟩
    rw [← hzi] at hcell;have HZI:=Lib.hid hzi;clear hzi
    by_cases h1 : z < 0
    ·have HE:=Lib.hid (show jX (bM rr cc n) rr zs = 2 by
      have hn : mR rr zs = false:=by
       by_cases h : mR rr zs = true
       ·have:=sI h (k:=i) (by rw [HLZ.out];exact hlt);rw [← HZI.out] at this;omega
       ·simpa using h
      simp [jX,HRT.out,hn])
     have d1 : decide (z < 0) = true:=by simpa using h1
     go_wp2_with fail
     exact bodyPost_ret (v:=.tuple #[mV 0 0 none 0 0,.int .i64 2]) (by simp [results,Try.results48,go_sem,c40,c41,OS,f40,f41,f42]) rfl (jW HE.out (by omega) (bZ hB (by omega) _ _ _))
    ·have d1 : decide (z < 0) = false:=by simpa using h1
     by_cases h2 : (rr : Int)≤z
     ·have HE:=Lib.hid (show jX (bM rr cc n) rr zs = 2 by
       have hn : mR rr zs = false:=by
        by_cases h : mR rr zs = true
        ·have:=sI h (k:=i) (by rw [HLZ.out];exact hlt);rw [← HZI.out] at this;omega
        ·simpa using h
       simp [jX,HRT.out,hn])
      have d2 : decide ((rr : Int)≤z) = true:=by simpa using h2
      go_wp2_with fail
      exact bodyPost_ret (v:=.tuple #[mV 0 0 none 0 0,.int .i64 2]) (by simp [results,Try.results48,go_sem,c40,c41,OS,f40,f41,f42]) rfl (jW HE.out (by omega) (bZ hB (by omega) _ _ _))
     ·have d2 : decide ((rr : Int)≤z) = false:=by simpa using h2
      have HZ:=Lib.hid (show 0≤z∧z < (rr : Int) by omega);go_wp2_with fail
      go_round
      case rel => exact ⟨i + 1,by omega,by go_num,fun k hk => by
       by_cases e : k = i
       ·rw [e,← HZI.out];exact HZ.out
       ·exact HG.out k (by omega)⟩
      case measure => simp [intOf];omega
   ·obtain rfl : i = nz:=by omega
    have HROWS:=Lib.hid (GL (r:=(rr : Int)) (zs:=zs) (by rw [HLZ.out];exact HG.out));clear HG
    by_cases h64 : i≤64
    ·have hsd:=TQ h64
     go_wp2_with (go_at_call 77;refine (jA _ _).mono ?_;rintro e w' ⟨rfl,rfl⟩)
     have HE:=Lib.hid (show jX (bM rr cc n) rr zs = 0 by
      simp [jX,HRT.out,HROWS.out,HLZ.out];omega)
     obtain ⟨p,hp⟩ : ∃ p,p = i * cc:=⟨_,rfl⟩
     have HP:=Lib.hid hp;clear hp;refine (DM i cc p _ h64 hc64 HP).mono ?_;rintro e w2 ⟨go,rfl,hrow,hgo,hb2⟩;have hs12:=hb2.size;have hgl:=hrow.lt;have hb8 : Below w2.heap.size w2 (w2.alloc (.cells #[.int .i64 (i : Int),.int .i64 (cc : Int),.slice (some ⟨go,0,none⟩) p p] 24)):=(Below.refl _ _).alloc (Nat.le_refl _) _;have HB8:=Lib.hid (Row.new w2 [.int .i64 (i : Int),.int .i64 (cc : Int),.slice (some ⟨go,0,none⟩) p p] 24);have yL:=Lib.hid ((b2.below hb2 b2.lt).alloc (.cells #[.int .i64 (i : Int),.int .i64 (cc : Int),.slice (some ⟨go,0,none⟩) p p] 24));have OV:=Lib.hid ((b4.below hb2 b4.lt).alloc (.cells #[.int .i64 (i : Int),.int .i64 (cc : Int),.slice (some ⟨go,0,none⟩) p p] 24));have HB:=Lib.hid ((hB.trans (hb2.mono hB.size)).alloc (by have:=hB.size;omega) (.cells #[.int .i64 (i : Int),.int .i64 (cc : Int),.slice (some ⟨go,0,none⟩) p p] 24));have HROW:=Lib.hid (hrow.alloc (.cells #[.int .i64 (i : Int),.int .i64 (cc : Int),.slice (some ⟨go,0,none⟩) p p] 24));have l2:=b2.lt;have l4:=b4.lt;obtain ⟨q40,q41,q42,p40,p41,p42⟩:=OV.out.three;have hsB:=hB.size;clear b2 b4 hB hb2 hrow hb8;clear c20 BA c22 c40 c41 OS f20 f21 f22 f40 f41 f42;go_wp2_with fail
     go_loopw [43] (fun v43 wr => ∃ j : Nat,j≤i∧v43 = .int .i64 (j : Int)∧Row wr go 5 (dK (lL cc xs (zs.take j) ++ List.replicate ((i - j) * cc) 0))∧Row wr w.heap.size 24 [.int .i64 (rr : Int),.int .i64 (cc : Int),.slice A n cap]∧Row wr w2.heap.size 24 [.int .i64 (i : Int),.int .i64 (cc : Int),.slice (some ⟨go,0,none⟩) p p]∧Row wr (w.heap.size + 1) 24 [.int .i64 0,.int .i64 0,.slice none 0 0]∧Below w.heap.size w wr) (fun v43 _ => i - (intOf v43).toNat)
     case atStart => exact ⟨0,by omega,rfl,by
      have e : lL cc xs (zs.take 0) ++ List.replicate ((i - 0) * cc) 0 = List.replicate p 0:=by rw [HP.out];simp [lL]
      rw [e];exact HROW.out,yL.out,HB8.out,OV.out,HB.out⟩
     case round =>
      obtain ⟨j,hj,rfl,hcur,b2,b8,b4,hB⟩:=hrel;clear HROW yL HB8 OV HB q40 q41 q42 p40 p41 p42
      by_cases hlj : j < i
      ·obtain ⟨g,o,rfl,hg,hcell⟩:=WI (hz.below hB (Nat.le_refl _)) hlj
       have hzb:=sI HROWS.out (k:=j) (by rw [HLZ.out];exact hlj);obtain ⟨z,hzi⟩ : ∃ z : Nat,zs.getD j 0 = z:=⟨(zs.getD j 0).toNat,by omega⟩
       rw [hzi] at hcell hzb;have hzr : z < rr:=by omega
       have hx : xs.length = rr * cc:=by have:=hr.len;rw [bC] at this;rw [this,HN.out]
       have HST:=Lib.hid (aFF (c:=cc) (r:=rr) (xs:=xs) (zs:=zs) (j:=j) (m:=i) hx HROWS.out HLZ.out hlj);rw [hzi,Int.toNat_natCast] at HST;obtain ⟨k,hk⟩ : ∃ k,k = j * cc:=⟨_,rfl⟩
       obtain ⟨kz,hkz⟩ : ∃ kz,kz = z * cc:=⟨_,rfl⟩
       have hk1 : k + cc = (j + 1) * cc:=by rw [hk,Nat.add_mul];omega
       have hkz1 : kz + cc = (z + 1) * cc:=by rw [hkz,Nat.add_mul];omega
       have hkp : k + cc≤p:=by rw [hk1,HP.out];exact Nat.mul_le_mul_right cc hlj
       have hkn : kz + cc≤n:=by rw [hkz1,HN.out];exact Nat.mul_le_mul_right cc hzr
       rw [← hk,← hkz] at HST;obtain ⟨row,hrow⟩ : ∃ row,row = (xs.drop kz).take cc:=⟨_,rfl⟩
       rw [← hrow] at HST;have hrl : row.length = cc:=by rw [hrow,List.length_take,List.length_drop,hx];have:=HN.out;omega
       have hcl : (lL cc xs (zs.take j) ++ List.replicate ((i - j) * cc) 0).length = p:=by
        have h1 : mR (rr : Int) (zs.take j) = true:=by
         have h0:=HROWS.out;unfold mR at h0 ⊢;rw [List.all_eq_true] at h0 ⊢;exact fun z hz => h0 z (List.mem_of_mem_take hz)
        rw [List.length_append,GS hx h1,List.length_replicate,List.length_take,HLZ.out,Nat.min_eq_left (by omega),← Nat.add_mul,HP.out]
        congr 1
        omega
       generalize lL cc xs (zs.take j) ++ List.replicate ((i - j) * cc) 0 = cur at *;obtain ⟨new,hnew⟩ : ∃ new,new = lL cc xs (zs.take (j + 1)) ++ List.replicate ((i - (j + 1)) * cc) 0:=⟨_,rfl⟩
       rw [← hnew] at HST;have oA:=Lib.hid (fun w => pP i cc j (some ⟨go,0,none⟩) p p k (k + cc) w h64 hc64 hlj hk hk1 hkp (Nat.le_refl _));have FN:=Lib.hid (fun w => pP rr cc z A n cap kz (kz + cc) w hr64 hc64 hzr hkz hkz1 hkn hnc);have HSRC:=Lib.hid (fun (x : World) (hb : Below w.heap.size w x) => aCa (k:=kz) (c:=cc) (hr.below hb (Nat.le_refl _)) hkn);rw [← hrow] at HSRC;have HDST:=Lib.hid (show 0 < (row.take cc).length→vP (some ⟨go,0,none⟩) cc k = some ⟨go,k,none⟩ by
        intro h;rw [List.length_take,hrl] at h;rw [pJ (by omega),Nat.zero_add])
       have htk : row.take cc = row:=List.take_of_length_le (by omega);obtain ⟨P,hP⟩ : ∃ P : World→Prop,P = fun x => Below w.heap.size w x∧Row x w.heap.size 24 [.int .i64 (rr : Int),.int .i64 (cc : Int),.slice A n cap]∧Row x w2.heap.size 24 [.int .i64 (i : Int),.int .i64 (cc : Int),.slice (some ⟨go,0,none⟩) p p]∧Row x (w.heap.size + 1) 24 [.int .i64 0,.int .i64 0,.slice none 0 0]∧aSq x go k row new:=⟨_,rfl⟩
       have hp0 : P wr:=by rw [hP];exact ⟨hB,b2,b8,b4,cur,by omega,HST.out,hcur⟩
       have HG:=Lib.hid (show ∀ x y : World,P x→Below x.heap.size x y→P y by
        rw [hP];rintro x y ⟨q1,q2,q3,q4,l,h1,h2,h3⟩ hb;exact ⟨q1.trans (hb.mono q1.size),q2.below hb q2.lt,q3.below hb q3.lt,q4.below hb q4.lt,l,h1,h2,h3.below hb h3.lt⟩)
       have HD:=Lib.hid (show ∀ x : World,P x→P x.drew by rw [hP];exact fun x q => ⟨q.1.drew,q.2⟩);have HC:=Lib.hid (show ∀ w' : World,P w'→w'.cell? ⟨w2.heap.size,0,none⟩ = some (.int .i64 (i : Int))∧w'.cell? ⟨w2.heap.size,1,none⟩ = some (.int .i64 (cc : Int))∧w'.cell? ⟨w2.heap.size,2,none⟩ = some (.slice (some ⟨go,0,none⟩) p p)∧w'.cell? ⟨w.heap.size,0,none⟩ = some (.int .i64 (rr : Int))∧w'.cell? ⟨w.heap.size,1,none⟩ = some (.int .i64 (cc : Int))∧w'.cell? ⟨w.heap.size,2,none⟩ = some (.slice A n cap) by
        rw [hP];rintro x ⟨q1,q2,q3,q4,_⟩;exact ⟨q3.cell 0,q3.cell 1,q3.cell 2,q2.cell 0,q2.cell 1,q2.cell 2⟩)
       have HCUR:=Lib.hid (show ∀ x : World,P x→aSq x go k row new by rw [hP];exact fun x q => q.2.2.2.2);have HBEL:=Lib.hid (show ∀ x : World,P x→Below w.heap.size w x by rw [hP];exact fun x q => q.1);have HGG:=Lib.hid (show ∀ x y : World,P x→Row y go 5 (dK new)→x.grownBy y (some go)→P y by
        rw [hP];rintro x y ⟨q1,q2,q3,q4,l,h1,h2,h3⟩ hy hg;refine ⟨q1.trans (tO hg q1.size (fun k hk => by injection hk with hk;omega)),q2.of_block (hg.block _ q2.lt (fun e => by injection e with e;omega)),q3.of_block (hg.block _ q3.lt (fun e => by injection e with e;omega)),q4.of_block (hg.block _ q4.lt (fun e => by injection e with e;omega)),new,?_,?_,hy⟩
        ·rw [← h2,LM h1];exact h1
        ·rw [← h2,aCl _ _ _ h1])
       have HALL:=Lib.hid (show ∀ x : World,P x→Below w.heap.size w x∧Row x w.heap.size 24 [.int .i64 (rr : Int),.int .i64 (cc : Int),.slice A n cap]∧Row x w2.heap.size 24 [.int .i64 (i : Int),.int .i64 (cc : Int),.slice (some ⟨go,0,none⟩) p p]∧Row x (w.heap.size + 1) 24 [.int .i64 0,.int .i64 0,.slice none 0 0] by rw [hP];exact fun x q => ⟨q.1,q.2.1,q.2.2.1,q.2.2.2.1⟩);have HNEW:=Lib.hid hnew;have HRL:=Lib.hid hrl;have HTK:=Lib.hid htk;clear hP hk hkz hk1 hkz1 hrow hnew hcur b2 b8 b4 hB hx hcl hzi htk hrl;go_wp2_with fail
       have hc:=HC.out _ hp0
       go_region_held3 (fun w' => P w'∧w'.cell? ⟨w2.heap.size,0,none⟩ = some (.int .i64 (i : Int))∧w'.cell? ⟨w2.heap.size,1,none⟩ = some (.int .i64 (cc : Int))∧w'.cell? ⟨w2.heap.size,2,none⟩ = some (.slice (some ⟨go,0,none⟩) p p)∧w'.cell? ⟨w.heap.size,0,none⟩ = some (.int .i64 (rr : Int))∧w'.cell? ⟨w.heap.size,1,none⟩ = some (.int .i64 (cc : Int))∧w'.cell? ⟨w.heap.size,2,none⟩ = some (.slice A n cap))
        (first | (go_split_ands;have q:=HG.out _ _ (by assumption) hbk;exact ⟨q,HC.out _ q⟩) | (go_split_ands;have q:=HGG.out _ _ (by assumption) hrow9 hg9;exact ⟨q,HC.out _ q⟩) | (go_split_ands;have q:=HD.out _ (by assumption);exact ⟨q,HC.out _ q⟩))
        (first | (go_at_call 79;(first | (with_reducible refine (oA.out _).mono ?_) | (with_reducible refine (FN.out _).mono ?_));rintro e wk ⟨rfl,hbk⟩) | (go_split_ands;obtain ⟨l,hl1,hl2,hl3⟩:=HCUR.out _ (by assumption);refine uC _ _ (by rfl) (by rfl) (vP (some ⟨go,0,none⟩) cc k) (vP A cc kz) cc cc cc cc (by rfl) (by rfl) go k l row hl3 w.heap.size (HSRC.out _ (HBEL.out _ (by assumption))) HDST.out (by rw [HTK.out];exact hl1) ?_;rw [HTK.out,hl2];intro w9 hrow9 hg9))
       go_wp2_with fail
       go_split_ands;have hfin:=HALL.out w9 (by assumption)
       go_roundw
       case rel => exact ⟨j + 1,by omega,by go_num,by rw [← HNEW.out];exact hrow9,hfin.2.1,hfin.2.2.1,hfin.2.2.2,hfin.1⟩
       case measure => simp [intOf];omega
      ·obtain rfl : j = i:=by omega
       obtain ⟨c40,c41,OS,f40,f41,f42⟩:=b4.three;obtain ⟨c80,c81,c82,_,_,_⟩:=b8.three;go_wp2_with fail
       refine bodyPost_ret (v:=.tuple #[mV j cc (some ⟨go,0,none⟩) p p,.int .i64 0]) (by simp [results,Try.results48,go_sem,c40,c41,OS,f40,f41,f42]) rfl ?_;have hfin : lL cc xs (zs.take j) ++ List.replicate ((j - j) * cc) 0 = pkD (bM rr cc n) rr cc xs zs:=by
        unfold pkD;rw [HE.out,if_pos rfl,Int.toNat_natCast,List.take_of_length_le (by rw [HLZ.out];omega)]
        simp
       rw [hfin] at hcur;have hpl : (pkD (bM rr cc n) rr cc xs zs).length = p:=by
        have hx : xs.length = rr * cc:=by have:=hr.len;rw [bC] at this;rw [this,HN.out]
        unfold pkD;rw [HE.out,if_pos rfl,Int.toNat_natCast,GS hx HROWS.out,HLZ.out,HP.out]
       refine ⟨some ⟨go,0,none⟩,p,p,?_,(hcur.CA (by omega) _ _ _).aFL (by omega) hpl ?_,bZ hB (by omega) _ _ _⟩
       ·unfold pkR pkC
        rw [HE.out,if_pos rfl,if_pos rfl,HLZ.out]
       ·have : p≤64 * 64:=by rw [HP.out];exact Nat.mul_le_mul h64 hc64
        simp only [maxLen];omega
    ·have hsd : jB (i : Int) = false:=by simp [jB];omega
     have HE:=Lib.hid (show jX (bM rr cc n) rr zs = 4 by
      simp [jX,HRT.out,HROWS.out,HLZ.out];omega)
     go_wp2_with (go_at_call 77;refine (jA _ _).mono ?_;rintro e w' ⟨rfl,rfl⟩)
     exact bodyPost_ret (v:=.tuple #[mV 0 0 none 0 0,.int .i64 4]) (by simp [results,Try.results48,go_sem,c40,c41,OS,f40,f41,f42]) rfl (jW HE.out (by omega) (bZ hB (by omega) _ _ _))
 ·have hrt : bM r c n = false:=by simpa using hrt
  have HE:=Lib.hid (show jX (bM r c n) r zs = 3 by simp [jX,hrt]);have oA:=Lib.hid (fun w => fF r c A n cap w);rw [hrt] at oA;clear hrt;go_enter Try.func48,Try.ntmps48;go_wp2_with (go_at_call 76;refine (oA.out _).mono ?_;rintro e w1 ⟨rfl,hb1⟩;have b4:=OV.out.below hb1 (by simp);have hB:=HB.out.trans (hb1.mono HB.out.size);obtain ⟨c40,c41,OS,f40,f41,f42⟩:=b4.three)
  exact bodyPost_ret (v:=.tuple #[mV 0 0 none 0 0,.int .i64 3]) (by simp [results,Try.results48,go_sem,c40,c41,OS,f40,f41,f42]) rfl (jW HE.out (by omega) (bZ hB (by omega) _ _ _))
end Go.Proofs.Yteofcbkjhdadpaa
namespace Go.Proofs.Yteofcbkjhdadpaa
open Go.RowKit
theorem TZ (n : Nat) (hn : n≤4096) (w : World) :
  (Instr.makeSlice 37 (.int .i64 (n : Int)) (.int .i64 (n : Int))).run Try.prog w = .ok (.slice (some ⟨w.heap.size,0,none⟩) n n) (w.alloc (.cells (madeCells #[.int .i64 0] n) 3)):=by
 obtain ⟨i,hi,hz,hs,hb⟩:=info_parts QK;have h:=run_make (P:=Try.prog) w 37 3 i _ Try.underlying37 hi hz .i64 .i64 (n : Int) (n : Int) (by omega) (by omega) (by rw [hb];omega) (by omega);rw [hs,Nat.mul_one,Int.toNat_natCast] at h;exact h
def MK (c i : Nat) : List Int:=(List.range c).map fun k => if k < i then (k : Int) else 0
theorem oD (c i : Nat) : (MK c i).length = c:=by simp [MK]
theorem ZR (c : Nat) : RY (MK c 0) = List.replicate c (.int .i64 0):=by
 unfold RY MK;rw [List.map_map];exact List.ext_getElem (by simp) fun k h1 h2 => by simp
theorem aDa (c i : Nat) : (RY (MK c i)).set i (.int .i64 (i : Int)) = RY (MK c (i + 1)):=by
 refine List.ext_getElem (by simp [RY,MK]) fun k h1 h2 => ?_
 simp only [RY,MK,List.getElem_set,List.getElem_map,List.getElem_range]
 by_cases e : i = k
 ·rw [if_pos e,if_pos (by omega),e]
 ·rw [if_neg e]
  by_cases h3 : k < i
  ·rw [if_pos h3,if_pos (by omega)]
  ·rw [if_neg h3,if_neg (by omega)]
theorem aGS {r c : Nat} (h : c≤r) : mR r (MK c c) = true:=by
 refine GL fun k hk => ?_
 rw [oD] at hk;unfold MK;rw [List.getD_eq_getElem?_getD,List.getElem?_map,List.getElem?_range hk]
 simp [hk]
 omega
theorem aDi (c : Nat) (xs : List UInt8) : ∀ m,m≤c→m * c≤xs.length→lL c xs ((MK c c).take m) = xs.take (m * c)
 | 0,_,_ => by simp [lL]
 | m + 1,hm,hl => by
  rw [KF (by rw [oD];omega),aDi c xs m (by omega) (by rw [Nat.add_mul] at hl;omega)];have e : ((MK c c).getD m 0).toNat = m:=by
   unfold MK;rw [List.getD_eq_getElem?_getD,List.getElem?_map,List.getElem?_range (by omega)]
   simp
   omega
  rw [e,Nat.add_mul,Nat.one_mul,List.take_add]
def lJ (r c : Int) (n : Nat) : Bool:=bM r c n && decide (c≤r)
theorem PE (r c : Int) (A : Option Addr) (n cap : Nat) (w : World) : Calls Try.prog 47 #[mV r c A n cap] w fun e w' => e = .returned (.bool (lJ r c n))∧Below w.heap.size w w':=by
 have HR:=Lib.hid (fun w => fF r c A n cap w)
 cases h : bM r c n with
 | false =>
  rw [h] at HR;have HT:=Lib.hid (show lJ r c n = false by unfold lJ;rw [h];rfl);clear h;go_enter Try.func47,Try.ntmps47;go_wp2_with fail
  refine (HR.out _).mono ?_;rintro e w1 ⟨rfl,hb⟩;have HB:=Lib.hid (((Below.refl w.heap.size w).alloc (Nat.le_refl _) (.cells #[.int .i64 r,.int .i64 c,.slice A n cap] 24)).trans (hb.mono (by simp)));clear hb;go_wp2_with fail
  go_ret;exact ⟨by rw [HT.out];rfl,HB.out⟩
 | true =>
  rw [h] at HR
  by_cases hc : c≤r
  ·have HT:=Lib.hid (show lJ r c n = true by unfold lJ;rw [h,decide_eq_true hc];rfl)
   clear h;go_enter Try.func47,Try.ntmps47;go_wp2_with fail
   refine (HR.out _).mono ?_;rintro e w1 ⟨rfl,hb⟩;have hrow:=(Row.new w [.int .i64 r,.int .i64 c,.slice A n cap] 24).below hb (by simp);obtain ⟨c0,c1,c2,_,_,_⟩:=hrow.three;have HB:=Lib.hid (((Below.refl w.heap.size w).alloc (Nat.le_refl _) (.cells #[.int .i64 r,.int .i64 c,.slice A n cap] 24)).trans (hb.mono (by simp)));clear hb hrow;go_wp2_with fail
   go_ret;exact ⟨by rw [HT.out];rfl,HB.out⟩
  ·have HT:=Lib.hid (show lJ r c n = false by unfold lJ;rw [h,decide_eq_false hc];rfl)
   clear h;go_enter Try.func47,Try.ntmps47;go_wp2_with fail
   refine (HR.out _).mono ?_;rintro e w1 ⟨rfl,hb⟩;have hrow:=(Row.new w [.int .i64 r,.int .i64 c,.slice A n cap] 24).below hb (by simp);obtain ⟨c0,c1,c2,_,_,_⟩:=hrow.three;have HB:=Lib.hid (((Below.refl w.heap.size w).alloc (Nat.le_refl _) (.cells #[.int .i64 r,.int .i64 c,.slice A n cap] 24)).trans (hb.mono (by simp)));clear hb hrow;go_wp2_with fail
   go_ret;exact ⟨by rw [HT.out];show Ending.returned (.bool (decide (c≤r))) = _;rw [decide_eq_false (by omega)],HB.out⟩
theorem aNG (r c : Int) (A : Option Addr) (n cap : Nat) (w : World) (h : Hid (lJ r c n = false)) :
  Calls Try.prog 14 #[mV r c A n cap] w fun e w' => e = .returned (.tuple #[mV 0 0 none 0 0,.int .i64 3])∧Below w.heap.size w w':=by
 have HR:=Lib.hid (fun w => PE r c A n cap w);rw [h.out] at HR;obtain ⟨W2,hW2⟩ : ∃ W2,W2 = (w.alloc (.cells #[.int .i64 r,.int .i64 c,.slice A n cap] 24)).alloc (.cells #[.int .i64 0,.int .i64 0,.slice none 0 0] 24):=⟨_,rfl⟩
 have hb2 : Below w.heap.size w W2:=by rw [hW2];exact ((Below.refl _ _).alloc (Nat.le_refl _) _).alloc (by simp) _
 have ho : Row W2 (w.heap.size + 1) 24 [.int .i64 0,.int .i64 0,.slice none 0 0]:=by
  rw [hW2];have q:=Row.new (w.alloc (.cells #[.int .i64 r,.int .i64 c,.slice A n cap] 24)) [.int .i64 0,.int .i64 0,.slice none 0 0] 24
  simpa using q
 have HW2:=Lib.hid hW2;have yL:=Lib.hid hb2;have HO:=Lib.hid ho;clear hW2 hb2 ho;go_enter Try.func14,Try.ntmps14;go_wp2_with fail
 rw [← HW2.out];refine (HR.out W2).mono ?_;rintro e w3 ⟨rfl,hb3⟩;have ho3:=HO.out.below hb3 HO.out.lt;obtain ⟨d0,d1,d2,g0,g1,g2⟩:=ho3.three;have hlt:=ho3.lt;have AU:=Lib.hid (yL.out.trans (hb3.mono yL.out.size));clear hb3 ho3;go_wp2_with fail
 refine bodyPost_ret (v:=.tuple #[mV 0 0 none 0 0,.int .i64 3]) (by simp [results,Try.results14,go_sem,d0,d1,d2,hlt]) rfl ?_;exact ⟨rfl,bZ AU.out (by omega) _ _ _⟩
theorem aJS (r c na ka : Nat) (A : Option Addr) (xs : List UInt8) (w : World) (hx : Rd w w.heap.size A na (dK xs)) (hna : Hid (na = r * c)) (hka : na≤ka) (hr : r≤64) (hcr : c≤r) :
  Calls Try.prog 14 #[mV r c A na ka] w fun e w' => ∃ (piv : List Nat) (L' A2 : List (List UInt8)),wD c c 0 0 (iF (xs.take (c * c)) c c) (WX c) [] L' A2 piv∧Below w.heap.size w w' ∧
   ((piv.length < c∧e = .returned (.tuple #[mV 0 0 none 0 0,.int .i64 6])) ∨ (piv.length = c ∧ ∃ A',e = .returned (.tuple #[mV r c A' na na,.int .i64 0])∧eJ w' w.heap.size A' na na (aAp r c c xs A2.flatten))):=by
 have hc : c≤64:=by omega
 have hrt : lJ r c na = true:=by unfold lJ;rw [hna.out,qK hr hc,Bool.true_and,decide_eq_true_eq];omega
 have HR:=Lib.hid (fun w => PE r c A na ka w);rw [hrt] at HR;have HX:=Lib.hid hx;have hp : na≤4096:=by rw [hna.out];exact Nat.le_trans (Nat.mul_le_mul hr hc) (by omega)
 have hmk : ∀ w : World,(Instr.makeSlice 37 (.int .i64 (c : Int)) (.int .i64 (c : Int))).run Try.prog w = .ok (.slice (some ⟨w.heap.size,0,none⟩) c c) (w.alloc (.cells (madeCells #[.int .i64 0] c) 3)):=fun w => TZ c (by omega) w
 clear hrt hx;obtain ⟨W2,hW2⟩ : ∃ W2,W2 = (w.alloc (.cells #[.int .i64 (r : Int),.int .i64 (c : Int),.slice A na ka] 24)).alloc (.cells #[.int .i64 0,.int .i64 0,.slice none 0 0] 24):=⟨_,rfl⟩
 have st : FO w W2 r c na ka A:=by
  rw [hW2];refine ⟨((Below.refl _ _).alloc (Nat.le_refl _) _).alloc (by simp) _,(Row.new w _ _).alloc _,?_⟩;have q:=Row.new (w.alloc (.cells #[.int .i64 (r : Int),.int .i64 (c : Int),.slice A na ka] 24)) [.int .i64 0,.int .i64 0,.slice none 0 0] 24
  simpa using q
 have HW2:=Lib.hid hW2;have HS2:=Lib.hid st;clear hW2 st;go_enter Try.func14,Try.ntmps14;go_wp2_with fail
 rw [← HW2.out];refine (HR.out W2).mono ?_;rintro e w3 ⟨rfl,hb3⟩;have st3:=HS2.out.go hb3;obtain ⟨c0,c1,c2,f0,f1,f2⟩:=st3.m.three;have HS3:=Lib.hid st3;obtain ⟨W4,hW4⟩ : ∃ W4,W4 = w3.alloc (.cells (madeCells #[.int .i64 0] c) 3):=⟨_,rfl⟩
 have hb4 : Below w3.heap.size w3 W4:=by rw [hW4];exact (Below.refl _ _).alloc (Nat.le_refl _) _
 have r4 : Row W4 w3.heap.size 3 (RY (MK c 0)):=by rw [hW4,ZR];exact Row.made w3 _ c _
 have HW4:=Lib.hid hW4;have HS4:=Lib.hid (HS3.out.go hb4);have TK:=Lib.hid r4;clear hb3 st3 hW4 hb4 r4;go_wp2_with fail
 clear hmk;rw [← HW4.out];obtain ⟨gf,hgf⟩ : ∃ gf,gf = w3.heap.size:=⟨_,rfl⟩
 rw [← hgf] at TK;rw [← hgf];have hgw : w.heap.size + 1 < gf:=by rw [hgf];exact HS3.out.o.lt
 clear hgf c0 c1 c2 f0 f1 f2
 go_loopg [18] c (fun k s18 wr => ∃ i : Nat,s18 = .int .i64 (i : Int)∧i≤c∧k = c - i∧FO w wr r c na ka A∧Row wr gf 3 (RY (MK c i)))
 case atStart => exact ⟨0,rfl,by omega,rfl,HS4.out,TK.out⟩
 case round =>
  clear TK;obtain ⟨i,rfl,hic,hk,hbx,hrow⟩:=hrel
  rename World => w5
  have HBX:=Lib.hid hbx;have HROW:=Lib.hid hrow
  by_cases hlt : i < c
  ·obtain ⟨old,hold⟩:=hrow.has (i:=i) (by rw [lU,oD];exact hlt)
   have hfz : w5.frozen? ⟨gf,i,none⟩ = false:=hrow.frozen i;have i0 : (0 : Int)≤(i : Int):=by omega
   have i1 : (i : Int) < (c : Int):=by omega
   clear hbx hrow;go_wp2_with fail
   go_roundg (c - (i + 1))
   case rel =>
    refine ⟨i + 1,by go_num,by omega,rfl,⟨HBX.out.below.setCell (by show w.heap.size≤gf;omega) _,HBX.out.m.FG (by show w.heap.size≠gf;omega) _,HBX.out.o.FG (by show w.heap.size + 1≠gf;omega) _⟩,?_⟩;rw [← aDa];exact HROW.out.set i _
   case measure => omega
  ·obtain rfl : i = c:=by omega
   obtain ⟨c0,c1,c2,f0,f1,f2⟩:=hbx.m.three;have hzs : Rd w5 w5.heap.size (some ⟨gf,0,none⟩) i (RY (MK i i)):=by
    refine ⟨by rw [lU,oD],fun h0 => ⟨gf,0,rfl,hrow.lt,fun j u hu => ?_⟩⟩;rw [Nat.zero_add,hrow.cell,hu]
   have hxl : xs.length = r * i:=by have:=HX.out.len;rw [bC] at this;rw [this,hna.out]
   have hpk : jX (bM r i na) r (MK i i) = 0:=by
    rw [hna.out,qK hr hc];unfold jX;rw [if_neg (by simp),aGS (by omega),if_neg (by simp),oD,if_neg (by omega)]
   have hPP:=aCh r i A na ka xs (some ⟨gf,0,none⟩) i i (MK i i) w5 (HX.out.go hbx.below) hzs (by omega) hka;unfold CN at hPP;unfold pkR pkC pkD at hPP;rw [hpk] at hPP;have hpd : lL i xs (MK i i) = xs.take (i * i):=by
    have h:=aDi i xs i (Nat.le_refl _) (by rw [hxl];exact Nat.mul_le_mul_right i hcr)
    rwa [List.take_of_length_le (by rw [oD];exact Nat.le_refl _)] at h
   simp only [if_true,Int.toNat_natCast,oD] at hPP;rw [hpd] at hPP;have HPP:=Lib.hid hPP;have HXL:=Lib.hid hxl;clear hPP hpd hpk hzs hxl hbx hrow;go_wp2_with fail
   refine HPP.out.mono ?_;rintro e w6 ⟨A6,n6,k6,rfl,ho6,hb6⟩;obtain ⟨T,hT⟩ : ∃ T,T = xs.take (i * i):=⟨_,rfl⟩
   have hn6 : n6 = i * i:=by
    have h1:=ho6.1;rw [List.length_take,HXL.out] at h1;have h2 : i * i≤r * i:=Nat.mul_le_mul_right i hcr;omega
   rw [← hT] at ho6;have HT:=Lib.hid hT;have HN6:=Lib.hid hn6;clear hn6;have hbx6:=HBX.out.go hb6;obtain ⟨W7,hW7⟩ : ∃ W7,W7 = w6.alloc (.cells #[.int .i64 (i : Int),.int .i64 (i : Int),.slice A6 n6 k6] 24):=⟨_,rfl⟩
   have hb7 : Below w6.heap.size w6 W7:=by rw [hW7];exact (Below.refl _ _).alloc (Nat.le_refl _) _
   have HIN:=Lib.hid (YQ i n6 k6 A6 T W7 (ho6.rd.go hb7) HN6 ho6.le' hc);have HB7:=Lib.hid (hbx6.go hb7);have HW7:=Lib.hid hW7;have HB6:=Lib.hid hbx6;have hgt : w6.heap.size < W7.heap.size:=by rw [hW7];simp
   clear ho6 hb6 hbx6 hW7 hb7 c0 c1 c2 f0 f1 f2 hT HPP;go_wp2_with fail
   rw [← HW7.out];refine HIN.out.mono ?_;rintro e w8 ⟨piv,L',A2,hred,hb8,hcase⟩;have HRED:=Lib.hid hred;have hbx8:=HB7.out.go hb8
   rcases hcase with ⟨hlt2,rfl⟩ | ⟨heq,A8,k8,rfl,hrd8,hk8⟩
   ·have hw9 : Below w8.heap.size w8 (w8.alloc (.cells #[.int .i64 0,.int .i64 0,.slice none 0 0] 24)):=(Below.refl _ _).alloc (Nat.le_refl _) _
    have hbx9:=hbx8.go hw9;obtain ⟨d0,d1,d2,g0,g1,g2⟩:=hbx9.o.three;have hlt9:=hbx9.o.lt;have HB9:=Lib.hid hbx9;clear hred hb8 hbx8 hw9 hbx9;go_wp2_with fail
    refine bodyPost_ret (v:=.tuple #[mV 0 0 none 0 0,.int .i64 6]) (by simp [results,Try.results14,go_sem,d0,d1,d2,hlt9]) rfl ?_;exact ⟨piv,L',A2,by rw [← HT.out];exact HRED.out,bZ HB9.out.below (by omega) _ _ _,.inl ⟨hlt2,rfl⟩⟩
   ·obtain ⟨W9,hW9⟩ : ∃ W9,W9 = w8.alloc (.cells #[.int .i64 (i : Int),.int .i64 (i : Int),.slice A8 n6 k8] 24):=⟨_,rfl⟩
    have hb9 : Below w8.heap.size w8 W9:=by rw [hW9];exact (Below.refl _ _).alloc (Nat.le_refl _) _
    have hbx9:=hbx8.go hb9;have hMU:=aKo r i i i A A8 na n6 ka k8 xs A2.flatten W9 (HX.out.go hbx9.below) (hrd8.go hb9) hka hk8;have hmb : qN r i na i i n6 = true:=by
     unfold qN;rw [hna.out,HN6.out,qK hr hc,qK hc hc]
     simp
    rw [hmb] at hMU;have hmn : muN true r i = na:=by unfold muN;rw [if_pos rfl,hna.out];simp
    rw [hmn] at hMU;simp only [muR,muE,muD,if_true,Int.toNat_natCast] at hMU;have HMU:=Lib.hid hMU;have HB9:=Lib.hid hbx9;have HW9:=Lib.hid hW9;obtain ⟨c0,c1,c2,_,_,_⟩:=hbx8.m.three;have hl8:=hbx8.m.lt;clear hred hb8 hbx8 hb9 hbx9 hMU hmb hmn hrd8 hW9;go_wp2_with fail
    rw [← HW9.out];refine HMU.out.mono ?_;rintro e w10 ⟨A10,rfl,ho10,hb10⟩;have hbx10:=HB9.out.go hb10;obtain ⟨d0,d1,d2,g0,g1,g2⟩:=hbx10.o.three;have hlt10:=hbx10.o.lt;have aXd:=Lib.hid ho10;have aLW:=Lib.hid hbx10;clear ho10 hb10 hbx10;go_wp2_with fail
    refine bodyPost_ret (v:=.tuple #[mV r i A10 na na,.int .i64 0]) (by simp [results,Try.results14,go_sem,d0,d1,d2,hlt10]) rfl ?_;refine ⟨piv,L',A2,by rw [← HT.out];exact HRED.out,bZ aLW.out.below (by omega) _ _ _,.inr ⟨heq,A10,rfl,?_⟩⟩;exact (aXd.out.CA (by have:=HB9.out.o.lt;omega) _ _ _).mono (by have:=HB9.out.below.size;omega)
end Go.Proofs.Yteofcbkjhdadpaa
namespace Go.Proofs.Yteofcbkjhdadpaa
open Go.RowKit
def AH (n i top : Nat) : List Int:=((MK n n).set top (i : Int)).set i (top : Int)
def PK (L : List (List UInt8)) (i top : Nat) : List (List UInt8):=(L.set i (L.getD top [])).set top (L.getD i [])
theorem yP (n i top : Nat) : (AH n i top).length = n:=by simp [AH,oD]
theorem aBO (n i top : Nat) : ((RY (MK n n)).set top (.int .i64 (i : Int))).set i (.int .i64 (top : Int)) = RY (AH n i top):=by simp [RY,AH,List.map_set]
theorem aGT {n k : Nat} (hk : k < n) : (MK n n)[k]? = some (k : Int):=by
 unfold MK;rw [List.getElem?_map,List.getElem?_range hk]
 simp [hk]
theorem TO {n i top k : Nat} (hi : i < n) (ht : top < n) (hk : k < n) : (AH n i top)[k]? = some (((if i = k then top else if top = k then i else k : Nat)) : Int):=by
 unfold AH;rw [List.getElem?_set,List.length_set,oD,List.getElem?_set,oD,aGT hk]
 by_cases h1 : i = k
 ·rw [if_pos h1,if_pos h1,if_pos hi]
 ·rw [if_neg h1,if_neg h1]
  by_cases h2 : top = k
  ·rw [if_pos h2,if_pos h2,if_pos ht]
  ·rw [if_neg h2,if_neg h2]
theorem PI {n i top : Nat} (hi : i < n) (ht : top < n) : mR n (AH n i top) = true:=by
 refine GL fun k hk => ?_
 rw [yP] at hk;rw [List.getD_eq_getElem?_getD,TO hi ht hk];simp only [Option.getD_some]
 split
 ·omega
 ·split <;> omega
theorem PJ {n c i top : Nat} {L : List (List UInt8)} (h : dL n c L) (hi : i < n) (ht : top < n) : dL n c (PK L i top):=(h.set hi (h.wid top ht)).set ht (h.wid i hi)
theorem JW {n c i top : Nat} {L : List (List UInt8)} (h : dL n c L) (hi : i < n) (ht : top < n) (k : Nat) : (PK L i top).getD k [] = if k = top then L.getD i [] else if k = i then L.getD top [] else L.getD k []:=by
 unfold PK;rw [eY (by rw [List.length_set,h.len];exact ht),eY (by rw [h.len];exact hi)]
theorem aFl {n c i top : Nat} {L : List (List UInt8)} (h : dL n c L) (hi : i < n) (ht : top < n) : (AH n i top).map (fun z => L.getD z.toNat []) = PK L i top:=by
 refine oZ (by rw [List.length_map,yP]) (PJ h hi ht).len fun k hk => ?_
 rw [JW h hi ht,List.getD_eq_getElem?_getD,List.getElem?_map,TO hi ht hk];simp only [Option.map_some,Option.getD_some,Int.toNat_natCast]
 by_cases h1 : i = k
 ·subst h1
  by_cases h2 : i = top
  ·subst h2;simp
  ·rw [if_pos rfl,if_neg h2,if_pos rfl]
 ·rw [if_neg h1]
  by_cases h2 : top = k
  ·rw [if_pos h2,if_pos h2.symm]
  ·rw [if_neg h2,if_neg (fun e => h2 e.symm),if_neg (fun e => h1 e.symm)]
theorem aBP (L : List (List UInt8)) {n c i top : Nat} (h : dL n c L) (hi : i < n) (ht : top < n) (v : UInt8) : (PK L i top).set top ((L.getD i []).map (Gf.mul v)) = kM L i top v:=by
 unfold PK kM;rw [List.set_set]
theorem UU {n c top j k : Nat} {S : List (List UInt8)} (h : dL n c S) (ht : top < n) (hk : k < n) (hkt : k≠top) :
  (dN top j k S).set k (Gf.mL (S.getD k []) (fH S k j) (S.getD top [])) = dN top j (k + 1) S:=by
 have r:=kS h ht k (by omega) (j:=j);have e1 : (dN top j k S).getD k [] = S.getD k []:=by rw [r.2,if_neg (by omega)]
 have e2 : (dN top j k S).getD top [] = S.getD top []:=by rw [r.2,if_neg (by simp)]
 have e3 : fH (dN top j k S) k j = fH S k j:=by unfold fH;rw [e1]
 rw [dN,e1,e2,e3]
 by_cases h0 : fH S k j = 0
 ·rw [if_neg (fun h => h.2 h0),h0]
  have e4 : Gf.mL (S.getD k []) 0 (S.getD top []) = S.getD k []:=by
   refine List.ext_getElem? fun p => ?_
   unfold Gf.mL;rw [List.getElem?_zipWith];have hw1:=h.wid k hk;have hw2:=h.wid top ht
   rcases Nat.lt_or_ge p c with hp | hp
   ·rw [List.getElem?_eq_getElem (by omega),List.getElem?_eq_getElem (by omega)]
    simp [Gf.eO,Gf.add_zero]
   ·rw [List.getElem?_eq_none (by omega),List.getElem?_eq_none (by omega)]
  rw [e4,← e1];refine oZ (by rw [List.length_set];exact r.1.len) r.1.len fun q hq => ?_
  rw [eY (by rw [r.1.len];exact hk)]
  split
  ·next e => rw [e]
  ·rfl
 ·rw [if_pos ⟨hkt,h0⟩]
theorem UT {top j : Nat} {S : List (List UInt8)} : dN top j (top + 1) S = dN top j top S:=by rw [dN,if_neg (by simp)]
def kR (row T : List UInt8) (x : UInt8) (l : Nat) : List UInt8:=(Gf.mL row x T).take l ++ row.drop l
theorem KG {row T : List UInt8} {x : UInt8} {c l : Nat} (h1 : row.length = c) (h2 : T.length = c) (hl : l≤c) : (kR row T x l).length = c:=by
 unfold kR;rw [List.length_append,List.length_take,List.length_drop,vS x (by omega)];omega
theorem PY (row T : List UInt8) (x : UInt8) : kR row T x 0 = row:=by simp [kR]
theorem TU {row T : List UInt8} {x : UInt8} {c : Nat} (h1 : row.length = c) (h2 : T.length = c) : kR row T x c = Gf.mL row x T:=by
 unfold kR;rw [List.take_of_length_le (by rw [vS x (by omega)];omega),List.drop_eq_nil_of_le (by omega),List.append_nil]
theorem aAk {row T : List UInt8} {x : UInt8} {c l : Nat} (h1 : row.length = c) (h2 : T.length = c) (hl : l < c) : (kR row T x l).getD l 0 = row.getD l 0:=by
 unfold kR;rw [List.getD_eq_getElem?_getD,List.getElem?_append_right (by rw [List.length_take,vS x (by omega)];omega),List.length_take,vS x (by omega),Nat.min_eq_left (by omega),Nat.sub_self,List.getElem?_drop,Nat.add_zero,← List.getD_eq_getElem?_getD]
theorem PZ {row T : List UInt8} {x : UInt8} {c l : Nat} (h1 : row.length = c) (h2 : T.length = c) (hl : l < c) : (kR row T x l).set l (Gf.add (row.getD l 0) (Gf.mul x (T.getD l 0))) = kR row T x (l + 1):=by
 have hm : (Gf.mL row x T).length = c:=by rw [vS x (by omega)];exact h1
 have e:=aDn x (show row.length = T.length by omega) l;rw [List.getD_eq_getElem?_getD,List.getElem?_eq_getElem (by omega : l < (Gf.mL row x T).length)] at e;simp only [Option.getD_some] at e;unfold kR;rw [List.set_append_right _ _ (by rw [List.length_take,hm];omega),List.length_take,hm,Nat.min_eq_left (by omega),Nat.sub_self,List.drop_eq_getElem_cons (by omega : l < row.length),cL,List.take_succ_eq_append_getElem (by omega),List.append_assoc,← e];rfl
theorem ZU {α : Type} (C B : List α) (off m n : Nat) (hB : B.length = m) (h1 : off + m≤n) (h2 : n≤C.length) :
  (C.take off ++ (B ++ C.drop (off + m))).take n = (C.take n).take off ++ (B ++ (C.take n).drop (off + m)):=by
 refine List.ext_getElem? fun p => ?_
 rw [List.getElem?_take,List.getElem?_append,List.getElem?_append,List.getElem?_append,List.getElem?_append,List.length_take,List.length_take,List.length_take,hB];simp only [List.getElem?_take,List.getElem?_drop];have e1 : min off C.length = off:=by omega
 have e2 : min off (min n C.length) = off:=by omega
 rw [e1,e2]
 by_cases h3 : p < off
 ·rw [if_pos (by omega),if_pos h3,if_pos h3,if_pos h3,if_pos h3,if_pos (by omega)]
 ·by_cases h4 : p - off < m
  ·rw [if_pos (by omega),if_neg h3,if_neg h3,if_pos h4,if_pos h4]
  ·rw [if_neg h3,if_neg h3,if_neg h4,if_neg h4]
   by_cases h5 : p < n
   ·rw [if_pos h5,if_pos (by omega)]
   ·rw [if_neg h5,if_neg (by omega)]
theorem SQ (W : World) (ty : TypeId) (g off dl dc m sc base n cap : Nat) (sp : Option Addr) (cur ss : List UInt8) (hg : eJ W base (some ⟨g,0,none⟩) n cap cur) (hr : Rd W W.heap.size sp m (dK ss)) (hm0 : 0 < m) (hml : m≤dl) (hfit : off + m≤n) :
  ∃ w',(Builtin.copy_ #[22,22] ty #[.slice (some ⟨g,off,none⟩) dl dc,.slice sp m sc]).run Try.prog W = .ok (goInt m) w'∧eJ w' base (some ⟨g,0,none⟩) n cap (over cur off ss)∧W.grownBy w' (some g):=by
 have hlm : ss.length = m:=by have:=hr.len;rwa [bC] at this
 obtain ⟨g2,o2,rfl,_,hc⟩:=hr.2 hm0
 rcases hg.2.2 with ⟨h0,_⟩ | ⟨g',k,cells,hv,hb,hh,hnk,hkm,hsz,htk⟩
 ·cases h0
 ·injection hv with hv1 hv2 hv3
  injection hv1 with hv1;injection hv1 with hv1;subst hv1 hv3;have hbl : (dK ss).length = m:=by rw [bC,hlm]
  have hcs : cells.toList.length = cap:=by simp [hsz]
  have hfit2 : off + (dK ss).length≤cells.size:=by rw [hbl,hsz];omega
  have hrun:=run_copy_row (P:=Try.prog) W 22 22 ty 5 g off dl dc ⟨g2,o2,none⟩ m sc cells 5 (dK ss) Try.underlying22 VS hh (by rw [hbl];exact (Nat.min_eq_left hml).symm)
   (fun j v hj => by rw [tV];exact hc j v hj) hfit2 (fun v hv => OT hv)
  rw [hbl] at hrun;have hol : (over cur off ss).length = n:=by rw [LM (by rw [hlm,hg.1];omega)];exact hg.1
  rw [List.append_assoc] at hrun;refine ⟨_,hrun,⟨hol,by rw [bC,hol];omega,.inr ⟨g,cap,_,rfl,hb,setRow_heap W g _ _ 5 (0,0) hh,hnk,hkm,?_,?_⟩⟩,⟨rfl,rfl,rfl,by simp [World.setRow],fun k hk hne => setRow_other W g k _ (fun e => hne (by rw [e]))⟩⟩
  ·simp only [List.size_toArray,List.length_append,List.length_take,List.length_drop,hbl,hcs];omega
  ·have htk2 : cells.toList.take n = dK cur:=by simpa using htk
   rw [← aAl];unfold splice;rw [hbl,← htk2,Nat.mul_one];simp only [List.toList_toArray];exact ZU _ _ _ _ _ hbl (by omega) (by omega)
end Go.Proofs.Yteofcbkjhdadpaa
namespace Go.Proofs.Yteofcbkjhdadpaa
open Go.RowKit
theorem kO (r c : Int) (A : Option Addr) (n cap : Nat) (w : World) : Calls Try.prog 17 #[mV r c A n cap] w fun e w' => e = .returned (.bool (bM r c n))∧Below w.heap.size w w':=by
 have hB : Below w.heap.size w (w.alloc (.cells #[.int .i64 r,.int .i64 c,.slice A n cap] 24)):=(Below.refl _ _).alloc (Nat.le_refl _) _;have HB:=Lib.hid hB;clear hB
 by_cases h1 : 0≤r
 ·have d1 : decide (0≤r) = true:=by simpa using h1
  by_cases h2 : r≤64
  ·have d2 : decide (r≤64) = true:=by simpa using h2
   by_cases h3 : 0≤c
   ·have d3 : decide (0≤c) = true:=by simpa using h3
    by_cases h4 : c≤64
    ·have d4 : decide (c≤64) = true:=by simpa using h4
     obtain ⟨p,hp⟩ : ∃ p,p = r * c:=⟨_,rfl⟩
     have hb:=GR h1 h2 h3 h4;have e1 : IntKind.i64.wrap (r * c) = p:=by rw [IntKind.wrap_i64,hp];omega
     have H:=Lib.hid (show bM r c n = decide ((n : Int) = p) by rw [hp];simp [bM,h1,h2,h3,h4]);clear hb hp
     by_cases hn : (n : Int) = p
     ·have q : ((n : Int) == p) = true:=by simpa using hn
      have HN:=Lib.hid (show decide ((n : Int) = p) = true by simpa using hn);clear hn;go_enter Try.func17,Try.ntmps17;go_wp2_with fail
      go_ret;exact ⟨by rw [H.out,HN.out];rfl,HB.out⟩
     ·have q : ((n : Int) == p) = false:=by simpa using hn
      have HN:=Lib.hid (show decide ((n : Int) = p) = false by simpa using hn);clear hn;go_enter Try.func17,Try.ntmps17;go_wp2_with fail
      go_ret;exact ⟨by rw [H.out,HN.out];rfl,HB.out⟩
    ·have d4 : decide (c≤64) = false:=by simpa using h4
     have H:=Lib.hid (show bM r c n = false by simp [bM,h4]);go_enter Try.func17,Try.ntmps17;go_wp2_with fail
     go_ret;exact ⟨by rw [H.out];rfl,HB.out⟩
   ·have d3 : decide (0≤c) = false:=by simpa using h3
    have H:=Lib.hid (show bM r c n = false by simp [bM,h3]);go_enter Try.func17,Try.ntmps17;go_wp2_with fail
    go_ret;exact ⟨by rw [H.out];rfl,HB.out⟩
  ·have d2 : decide (r≤64) = false:=by simpa using h2
   have H:=Lib.hid (show bM r c n = false by simp [bM,h2]);go_enter Try.func17,Try.ntmps17;go_wp2_with fail
   go_ret;exact ⟨by rw [H.out];rfl,HB.out⟩
 ·have d1 : decide (0≤r) = false:=by simpa using h1
  have H:=Lib.hid (show bM r c n = false by simp [bM,h1]);go_enter Try.func17,Try.ntmps17;go_wp2_with fail
  go_ret;exact ⟨by rw [H.out];rfl,HB.out⟩
end Go.Proofs.Yteofcbkjhdadpaa
namespace Go.Proofs.Yteofcbkjhdadpaa
open Go.RowKit
theorem JK (r c i j k : Nat) (A : Option Addr) (n cap : Nat) (xs : List UInt8) (w : World) (hr : Rd w w.heap.size A n (dK xs)) (hk : Hid (k = i * c)) (hkj : k + j < n) (hn : n≤4096) :
  Calls Try.prog 25 #[mV r c A n cap,.int .i64 (i : Int),.int .i64 (j : Int)] w fun e w' => e = .returned (.int .u8 ((xs.getD (k + j) 0).toNat : Int))∧Below w.heap.size w w':=by
 have e1 : IntKind.i64.wrap ((i : Int) * (c : Int)) = (k : Int):=by rw [← Int.natCast_mul,← hk.out,IntKind.wrap_i64];omega
 have hB : Below w.heap.size w (w.alloc (Obj.cells #[.int .i64 (r : Int),.int .i64 (c : Int),.slice A n cap] 24)):=(Below.refl _ _).alloc (Nat.le_refl _) _;obtain ⟨g,o,rfl,hg,hcell⟩:=mJ (hr.below hB (Nat.le_refl _)) hkj;have HB:=Lib.hid hB;have HR:=Lib.hid hr;obtain ⟨x,hx⟩ : ∃ x,x = xs.getD (k + j) 0:=⟨_,rfl⟩
 rw [← hx] at hcell ⊢;have hcell2:=(World.cell?_alloc_lt w (Obj.cells #[.int .i64 (r : Int),.int .i64 (c : Int),.slice (some ⟨g,o,none⟩) n cap] 24) ⟨g,o + (k + j),none⟩ (by omega)).symm.trans hcell;clear hx hB hr hcell;go_enter Try.func25,Try.ntmps25;go_wp2_with fail
 go_ret;exact ⟨rfl,HB.out⟩
end Go.Proofs.Yteofcbkjhdadpaa
namespace Go.Proofs.Yteofcbkjhdadpaa
open Go.RowKit
def EP (rt : Bool) (r i : Int) : Int:=if rt = false then 3 else if 0≤i∧i < r then 0 else 2
def aFp (rt : Bool) (r c i : Int) (xs : List UInt8) : List UInt8:=if EP rt r i = 0 then (xs.drop (i.toNat * c.toNat)).take c.toNat else []
def ZG (r c i : Int) (n : Nat) (xs : List UInt8) (w : World) (e : Ending) (w' : World) : Prop :=
 ∃ A' n' cap',e = .returned (.tuple #[.slice A' n' cap',.int .i64 (EP (bM r c n) r i)])∧eJ w' w.heap.size A' n' cap' (aFp (bM r c n) r c i xs)∧Below w.heap.size w w'
theorem BH {r c i : Int} {n : Nat} {xs : List UInt8} {w w' : World} {E : Int} (h : EP (bM r c n) r i = E) (hE : E≠0) (hb : Below w.heap.size w w') :
  ZG r c i n xs w (.returned (.tuple #[.slice none 0 0,.int .i64 E])) w':=by
 refine ⟨none,0,0,by rw [h],?_,hb⟩;unfold aFp;rw [h,if_neg hE];exact ⟨rfl,rfl,.inl ⟨rfl,rfl⟩⟩
theorem aBV {r c : Int} {n : Nat} (hrt : bM r c n = true) : ∃ a b : Nat,r = a∧c = b∧a≤64∧b≤64∧n = a * b:=by
 simp [bM] at hrt
 refine ⟨r.toNat,c.toNat,by omega,by omega,by omega,by omega,?_⟩;apply Int.ofNat_inj.1;rw [Int.natCast_mul,Int.toNat_of_nonneg hrt.1.1,Int.toNat_of_nonneg hrt.2.1.1];exact hrt.2.2
theorem aFo (xs : List UInt8) {k c j : Nat} (hj : j < c) (hk : k + c≤xs.length) : ((xs.drop k).take c).take j ++ [xs.getD (k + j) 0] = ((xs.drop k).take c).take (j + 1):=by
 have hl : j < ((xs.drop k).take c).length:=by rw [List.length_take,List.length_drop];omega
 rw [List.take_succ_eq_append_getElem hl]
 congr 2
 have : k + j < xs.length:=by omega
 simp [List.getD,this]
theorem GM (r c i : Int) (A : Option Addr) (n cap : Nat) (xs : List UInt8) (w : World) (hr : Rd w w.heap.size A n (dK xs)) :
  Calls Try.prog 54 #[mV r c A n cap,.int .i64 i] w (ZG r c i n xs w):=by
 have yL:=Lib.hid (Row.new w [.int .i64 r,.int .i64 c,.slice A n cap] 24);have HB:=Lib.hid (show Below w.heap.size w (w.alloc (.cells #[.int .i64 r,.int .i64 c,.slice A n cap] 24)) from (Below.refl _ _).alloc (Nat.le_refl _) _)
 by_cases hrt : bM r c n = true
 ·obtain ⟨rr,cc,rfl,rfl,hr64,hc64,hnrc⟩:=aBV hrt
  have HN:=Lib.hid hnrc;have HRT:=Lib.hid hrt;have oA:=Lib.hid (fun w => kO rr cc A n cap w);rw [hrt] at oA;have hn4 : n≤4096:=by rw [hnrc];exact Nat.le_trans (Nat.mul_le_mul hr64 hc64) (by omega)
  clear hnrc hrt
  by_cases h1 : i < 0
  ·have HE:=Lib.hid (show EP (bM rr cc n) rr i = 2 by simp [EP,HRT.out];omega)
   have d1 : decide (i < 0) = true:=by simpa using h1
   go_enter Try.func54,Try.ntmps54;go_wp2_with (go_at_call 17;refine (oA.out _).mono ?_;rintro e w1 ⟨rfl,hb1⟩;obtain ⟨c20,BA,c22,f20,f21,f22⟩:=(yL.out.below hb1 (by simp)).three)
   go_ret2
   exact BH HE.out (by omega) (HB.out.trans (hb1.mono HB.out.size))
  have d1 : decide (i < 0) = false:=by simpa using h1
  by_cases h2 : (rr : Int)≤i
  ·have HE:=Lib.hid (show EP (bM rr cc n) rr i = 2 by simp [EP,HRT.out];omega)
   have d2 : decide ((rr : Int)≤i) = true:=by simpa using h2
   go_enter Try.func54,Try.ntmps54;go_wp2_with (go_at_call 17;refine (oA.out _).mono ?_;rintro e w1 ⟨rfl,hb1⟩;obtain ⟨c20,BA,c22,f20,f21,f22⟩:=(yL.out.below hb1 (by simp)).three)
   go_ret2
   exact BH HE.out (by omega) (HB.out.trans (hb1.mono HB.out.size))
  have d2 : decide ((rr : Int)≤i) = false:=by simpa using h2
  obtain ⟨ii,rfl⟩ : ∃ ii : Nat,i = ii:=⟨i.toNat,by omega⟩
  have hir : ii < rr:=by omega
  have d3 : decide (rr≤ii) = false:=by simpa using hir
  have HE:=Lib.hid (show EP (bM rr cc n) rr (ii : Int) = 0 by simp [EP,HRT.out];omega);obtain ⟨k,hk⟩ : ∃ k,k = ii * cc:=⟨_,rfl⟩
  have hkn : k + cc≤n:=by
   have h1 : (ii + 1) * cc≤rr * cc:=Nat.mul_le_mul_right cc hir;rw [Nat.add_mul,← hk] at h1;rw [HN.out];omega
  have HK:=Lib.hid hk;have hx : xs.length = n:=by have:=hr.len;rw [bC] at this;exact this
  have HX:=Lib.hid hx;have HRow:=Lib.hid (show ((xs.drop k).take cc).length = cc by rw [List.length_take,List.length_drop,hx];omega);clear hk h1 h2 hx;go_enter Try.func54,Try.ntmps54;go_wp2_with (go_at_call 17;refine (oA.out _).mono ?_;rintro e w1 ⟨rfl,hb1⟩;have b2:=yL.out.below hb1 (by simp);have hB:=HB.out.trans (hb1.mono HB.out.size);obtain ⟨c20,BA,c22,f20,f21,f22⟩:=b2.three)
  have HB2':=Lib.hid b2;have HB':=Lib.hid hB;clear b2 hB c20 BA c22 f20 f21 f22 hb1 d1 d2 d3 HB yL
  go_loopw [6,7] (fun v6 v7 wr => ∃ j : Nat,j≤cc∧v7 = .int .i64 (j : Int)∧kI wr (w.heap.size + 1) v6 (((xs.drop k).take cc).take j)∧Row wr w.heap.size 24 [.int .i64 (rr : Int),.int .i64 (cc : Int),.slice A n cap]∧Below w.heap.size w wr) (fun _ v7 _ => cc - (intOf v7).toNat)
  case atStart => exact ⟨0,by omega,rfl,by rw [List.take_zero];exact kI.nil _ _,HB2'.out,HB'.out⟩
  case round =>
   obtain ⟨j,hj,rfl,ho,b2,hB⟩:=hrel;clear HB2' HB';obtain ⟨c20,BA,c22,f20,f21,f22⟩:=b2.three
   by_cases hlj : j < cc
   ·have HST:=Lib.hid (aFo xs (k:=k) hlj (by rw [HX.out];exact hkn))
    have HL:=Lib.hid (show (((xs.drop k).take cc).take j).length = j by rw [List.length_take,HRow.out];omega);generalize ((xs.drop k).take cc).take j = l at *;have HAT:=Lib.hid (fun w (h : Rd w w.heap.size A n (dK xs)) => JK rr cc ii j k A n cap xs w h HK (by omega) hn4);generalize xs.getD (k + j) 0 = x at *;have HO:=Lib.hid ho;have HBB:=Lib.hid hB;have RR:=(hr.below hB (Nat.le_refl _)).more hB.size;have l2:=b2.lt;clear ho hB;go_wp2_with (first | (go_at_call 25;refine (HAT.out _ RR).mono ?_;rintro e w2 ⟨rfl,hb2⟩;have o2:=HO.out.below hb2;have b22:=b2.below hb2 b2.lt;have hB2:=HBB.out.trans (hb2.mono HBB.out.size)) | (at_builtin;refine pH (.tmp 25) (.tmp 30) rfl rfl (w.heap.size + 1) _ l x rfl o2 rfl (by rw [HL.out];omega) b22.lt ?_;intro v1 w3 ho3 hb3 hg3))
    go_roundw
    case rel => exact ⟨j + 1,by omega,by go_num,by rw [← HST.out];exact ho3,b22.of_block (hg3.block _ b22.lt (fun e => by have:=o2.JJ _ e.symm;omega)),hB2.trans (hb3.mono (by omega))⟩
    case measure => simp [intOf];omega
   ·obtain rfl : j = cc:=by omega
    rw [List.take_of_length_le (by rw [HRow.out];omega)] at ho;obtain ⟨A1,c1,rfl,ho1⟩:=ho.WB HRow.out;go_wp2_with fail
    go_ret2
    refine ⟨A1,j,c1,by rw [HE.out];rfl,?_,hB⟩;unfold aFp;rw [HE.out,if_pos rfl,Int.toNat_natCast,Int.toNat_natCast,← HK.out];exact ho1.mono (by omega)
 ·have hrt : bM r c n = false:=by simpa using hrt
  have HE:=Lib.hid (show EP (bM r c n) r i = 3 by simp [EP,hrt]);have oA:=Lib.hid (fun w => kO r c A n cap w);rw [hrt] at oA;clear hrt;go_enter Try.func54,Try.ntmps54;go_wp2_with (go_at_call 17;refine (oA.out _).mono ?_;rintro e w1 ⟨rfl,hb1⟩)
  go_ret2
  exact BH HE.out (by omega) (HB.out.trans (hb1.mono HB.out.size))
end Go.Proofs.Yteofcbkjhdadpaa
namespace Go.Proofs.Yteofcbkjhdadpaa
open Go.RowKit
theorem SS (r c : Int) (A : Option Addr) (n cap : Nat) (xs : List UInt8) (Az : Option Addr) (nz capz : Nat) (zs : List Int) (w : World) (hr : Rd w w.heap.size A n (dK xs)) (hz : Rd w w.heap.size Az nz (RY zs)) (hnz : nz≤140737488355328) :
  Calls Try.prog 22 #[mV r c A n cap,.slice Az nz capz] w (CN r c n xs zs w):=by
 have hlz : zs.length = nz:=by have:=hz.len;rw [lU] at this;exact this
 have HLZ:=Lib.hid hlz;clear hlz;have b2:=(Row.new w [.int .i64 r,.int .i64 c,.slice A n cap] 24).alloc (.cells #[.int .i64 0,.int .i64 0,.slice none 0 0] 24);have b4:=Row.new (w.alloc (.cells #[.int .i64 r,.int .i64 c,.slice A n cap] 24)) [.int .i64 0,.int .i64 0,.slice none 0 0] 24;rw [World.size_alloc] at b4;have hB : Below w.heap.size w ((w.alloc (.cells #[.int .i64 r,.int .i64 c,.slice A n cap] 24)).alloc (.cells #[.int .i64 0,.int .i64 0,.slice none 0 0] 24)):=((Below.refl _ _).alloc (Nat.le_refl _) _).alloc (by simp) _;have yL:=Lib.hid b2;have OV:=Lib.hid b4;have HB:=Lib.hid hB;clear b2 b4 hB
 by_cases hrt : bM r c n = true
 ·obtain ⟨rr,cc,rfl,rfl,hr64,hc64,hnrc⟩ : ∃ a b : Nat,r = a∧c = b∧a≤64∧b≤64∧n = a * b:=by
   simp [bM] at hrt
   refine ⟨r.toNat,c.toNat,by omega,by omega,by omega,by omega,?_⟩;apply Int.ofNat_inj.1;rw [Int.natCast_mul,Int.toNat_of_nonneg hrt.1.1,Int.toNat_of_nonneg hrt.2.1.1];exact hrt.2.2
  have HN:=Lib.hid hnrc;have HRT:=Lib.hid hrt;have oA:=Lib.hid (fun w => kO rr cc A n cap w);rw [hrt] at oA;clear hnrc hrt;go_enter Try.func22,Try.ntmps22;go_wp2_with (go_at_call 17;refine (oA.out _).mono ?_;rintro e w1 ⟨rfl,hb1⟩;have b2:=yL.out.below hb1 (by simp;omega);have b4:=OV.out.below hb1 (by simp);have hB:=HB.out.trans (hb1.mono HB.out.size);have HB2':=Lib.hid b2;have HB4':=Lib.hid b4;have HB':=Lib.hid hB;clear b2 b4 hB)
  clear yL OV HB oA hb1
  go_loopw [6] (fun v17 wr => ∃ i : Nat,i≤nz∧v17 = .int .i64 (i : Int)∧Hid (∀ k,k < i→0≤zs.getD k 0∧zs.getD k 0 < (rr : Int))∧Row wr w.heap.size 24 [.int .i64 (rr : Int),.int .i64 (cc : Int),.slice A n cap]∧Row wr (w.heap.size + 1) 24 [.int .i64 0,.int .i64 0,.slice none 0 0]∧Below w.heap.size w wr) (fun v17 _ => nz - (intOf v17).toNat)
  case atStart => exact ⟨0,by omega,rfl,fun k hk => by omega,HB2'.out,HB4'.out,HB'.out⟩
  case round =>
   obtain ⟨i,hi,rfl,HG,b2,b4,hB⟩:=hrel;clear HB2' HB4' HB';obtain ⟨c20,BA,c22,f20,f21,f22⟩:=b2.three;obtain ⟨c40,c41,OS,f40,f41,f42⟩:=b4.three
   by_cases hlt : i < nz
   ·obtain ⟨g,o,rfl,hg,hcell⟩:=WI (hz.below hB (Nat.le_refl _)) hlt
    obtain ⟨z,hzi⟩ : ∃ z,z = zs.getD i 0:=⟨_,rfl⟩
    rw [← hzi] at hcell;have HZI:=Lib.hid hzi;clear hzi
    by_cases h1 : z < 0
    ·have HE:=Lib.hid (show jX (bM rr cc n) rr zs = 2 by
      have hn : mR rr zs = false:=by
       by_cases h : mR rr zs = true
       ·have:=sI h (k:=i) (by rw [HLZ.out];exact hlt);rw [← HZI.out] at this;omega
       ·simpa using h
      simp [jX,HRT.out,hn])
     have d1 : decide (z < 0) = true:=by simpa using h1
     go_wp2_with fail
     go_quiet (fail)
     go_wp2_with fail
     exact bodyPost_ret (v:=.tuple #[mV 0 0 none 0 0,.int .i64 2]) (by simp [results,Try.results22,go_sem,c40,c41,OS,f40,f41,f42]) rfl (jW HE.out (by omega) (bZ (below_drewN hB _) (by omega) _ _ _))
    ·have d1 : decide (z < 0) = false:=by simpa using h1
     by_cases h2 : (rr : Int)≤z
     ·have HE:=Lib.hid (show jX (bM rr cc n) rr zs = 2 by
       have hn : mR rr zs = false:=by
        by_cases h : mR rr zs = true
        ·have:=sI h (k:=i) (by rw [HLZ.out];exact hlt);rw [← HZI.out] at this;omega
        ·simpa using h
       simp [jX,HRT.out,hn])
      have d2 : decide ((rr : Int)≤z) = true:=by simpa using h2
      go_wp2_with fail
      go_quiet (fail)
      go_wp2_with fail
      exact bodyPost_ret (v:=.tuple #[mV 0 0 none 0 0,.int .i64 2]) (by simp [results,Try.results22,go_sem,c40,c41,OS,f40,f41,f42]) rfl (jW HE.out (by omega) (bZ (below_drewN hB _) (by omega) _ _ _))
     ·have d2 : decide ((rr : Int)≤z) = false:=by simpa using h2
      have HZ:=Lib.hid (show 0≤z∧z < (rr : Int) by omega);go_wp2_with fail
      go_quiet (fail)
      go_wp2_with fail
      go_roundw
      case rel => exact ⟨i + 1,by omega,by go_num,fun k hk => by
       by_cases e : k = i
       ·rw [e,← HZI.out];exact HZ.out
       ·exact HG.out k (by omega),b2.drewN _,b4.drewN _,below_drewN hB _⟩
      case measure => simp [intOf];omega
   ·obtain rfl : i = nz:=by omega
    have HROWS:=Lib.hid (GL (r:=(rr : Int)) (zs:=zs) (by rw [HLZ.out];exact HG.out));clear HG;have l2:=b2.lt;have l4:=b4.lt
    by_cases h64 : 64 < i
    ·have HE:=Lib.hid (show jX (bM rr cc n) rr zs = 4 by
      simp [jX,HRT.out,HROWS.out,HLZ.out];omega)
     go_wp2_with fail
     exact bodyPost_ret (v:=.tuple #[mV 0 0 none 0 0,.int .i64 4]) (by simp [results,Try.results22,go_sem,c40,c41,OS,f40,f41,f42]) rfl (jW HE.out (by omega) (bZ hB (by omega) _ _ _))
    ·have HE:=Lib.hid (show jX (bM rr cc n) rr zs = 0 by
      simp [jX,HRT.out,HROWS.out,HLZ.out];omega)
     obtain ⟨wo,rfl⟩ : ∃ wo : World,wo = wr:=⟨_,rfl⟩
     have HB8:=Lib.hid (Row.new wo [.int .i64 (i : Int),.int .i64 (cc : Int),.slice none 0 0] 24);have yL:=Lib.hid (b2.alloc (.cells #[.int .i64 (i : Int),.int .i64 (cc : Int),.slice none 0 0] 24));have OV:=Lib.hid (b4.alloc (.cells #[.int .i64 (i : Int),.int .i64 (cc : Int),.slice none 0 0] 24));have HB:=Lib.hid (hB.alloc hB.size (.cells #[.int .i64 (i : Int),.int .i64 (cc : Int),.slice none 0 0] 24));have hsB : w.heap.size≤wo.heap.size:=hB.size;clear b2 b4 hB;go_wp2_with fail
     go_loopw [8,9] (fun v8 v9 wr => ∃ (j : Nat) (v : Value),j≤i∧v8 = .int .i64 (j : Int)∧kI wr (wo.heap.size + 1) v (lL cc xs (zs.take j))∧Row wr w.heap.size 24 [.int .i64 (rr : Int),.int .i64 (cc : Int),.slice A n cap]∧Row wr wo.heap.size 24 [.int .i64 (i : Int),.int .i64 (cc : Int),v]∧Row wr (w.heap.size + 1) 24 [.int .i64 0,.int .i64 0,.slice none 0 0]∧Below w.heap.size w wr) (fun v8 _ _ => i - (intOf v8).toNat)
     case atStart => exact ⟨0,.slice none 0 0,by omega,rfl,kI.nil _ _,yL.out,HB8.out,OV.out,HB.out⟩
     case round =>
      obtain ⟨j,v,hj,rfl,ho,b2,b8,b4,hB⟩:=hrel;clear yL HB8 OV HB
      by_cases hlj : j < i
      ·obtain ⟨g,o,rfl,hg,hcell⟩:=WI hz hlj
       have hzb:=sI HROWS.out (k:=j) (by rw [HLZ.out];exact hlj);obtain ⟨z,hzi⟩ : ∃ z : Nat,zs.getD j 0 = z:=⟨(zs.getD j 0).toNat,by omega⟩
       rw [hzi] at hcell hzb;have hzr : z < rr:=by omega
       have HSN:=Lib.hid (KF (c:=cc) (xs:=xs) (zs:=zs) (i:=j) (by rw [HLZ.out];exact hlj));rw [hzi,Int.toNat_natCast] at HSN;have HROWD:=Lib.hid (show aFp (bM rr cc n) rr cc (z : Int) xs = (xs.drop (z * cc)).take cc by
        have h : EP (bM rr cc n) rr (z : Int) = 0:=by simp [EP,HRT.out];omega
        unfold aFp;rw [h,if_pos rfl,Int.toNat_natCast,Int.toNat_natCast])
       have HLEN:=Lib.hid (show (lL cc xs (zs.take j)).length + n≤140737488355328∧((xs.drop (z * cc)).take cc).length≤n by
        have h1 : mR (rr : Int) (zs.take j) = true:=by
         have h0:=HROWS.out;unfold mR at h0 ⊢;rw [List.all_eq_true] at h0 ⊢;exact fun z hz => h0 z (List.mem_of_mem_take hz)
        have hx : xs.length = rr * cc:=by have:=hr.len;rw [bC] at this;rw [this,HN.out]
        rw [GS hx h1,List.length_take,HLZ.out,Nat.min_eq_left (by omega)];have h2 : j * cc≤64 * 64:=Nat.mul_le_mul (by omega) hc64;have h3 : n≤64 * 64:=by rw [HN.out];exact Nat.mul_le_mul hr64 hc64
        exact ⟨by omega,by rw [List.length_take,List.length_drop,hx,HN.out];omega⟩)
       generalize lL cc xs (zs.take j) = D at *;generalize (xs.drop (z * cc)).take cc = row at *;obtain ⟨P,hP⟩ : ∃ P : World→Prop,P = fun x => Below w.heap.size w x∧Row x w.heap.size 24 [.int .i64 (rr : Int),.int .i64 (cc : Int),.slice A n cap]∧Row x wo.heap.size 24 [.int .i64 (i : Int),.int .i64 (cc : Int),v]∧Row x (w.heap.size + 1) 24 [.int .i64 0,.int .i64 0,.slice none 0 0]∧kI x (wo.heap.size + 1) v D:=⟨_,rfl⟩
       have hp0 : P wr:=by rw [hP];exact ⟨hB,b2,b8,b4,ho⟩
       have HG:=Lib.hid (show ∀ x y : World,P x→Below x.heap.size x y→P y by
        rw [hP];rintro x y ⟨q1,q2,q3,q4,q5⟩ hb;exact ⟨q1.trans (hb.mono q1.size),q2.below hb q2.lt,q3.below hb q3.lt,q4.below hb q4.lt,q5.below hb⟩)
       have HD:=Lib.hid (show ∀ x : World,P x→P x.drew by rw [hP];exact fun x q => ⟨q.1.drew,q.2⟩);have HC:=Lib.hid (show ∀ w' : World,P w'→w'.cell? ⟨w.heap.size,0,none⟩ = some (.int .i64 (rr : Int))∧w'.cell? ⟨w.heap.size,1,none⟩ = some (.int .i64 (cc : Int))∧w'.cell? ⟨w.heap.size,2,none⟩ = some (.slice A n cap)∧w'.cell? ⟨g,o + j,none⟩ = some (.int .i64 (z : Int)) by
        rw [hP];rintro x ⟨q1,q2,q3,q4,_⟩;exact ⟨q2.cell 0,q2.cell 1,q2.cell 2,(q1.cell (p:=⟨g,o + j,none⟩) hg).trans hcell⟩)
       have HBEL:=Lib.hid (show ∀ x : World,P x→Below w.heap.size w x by rw [hP];exact fun x q => q.1);have HALL:=Lib.hid (show ∀ x : World,P x→Below w.heap.size w x∧Row x w.heap.size 24 [.int .i64 (rr : Int),.int .i64 (cc : Int),.slice A n cap]∧Row x wo.heap.size 24 [.int .i64 (i : Int),.int .i64 (cc : Int),v]∧Row x (w.heap.size + 1) 24 [.int .i64 0,.int .i64 0,.slice none 0 0]∧kI x (wo.heap.size + 1) v D by rw [hP];exact fun x q => q);clear hP b2 b8 b4 hB ho hcell hzi;go_wp2_with fail
       have hc:=HC.out _ hp0
       go_region_held3 (fun w' => P w'∧w'.cell? ⟨w.heap.size,0,none⟩ = some (.int .i64 (rr : Int))∧w'.cell? ⟨w.heap.size,1,none⟩ = some (.int .i64 (cc : Int))∧w'.cell? ⟨w.heap.size,2,none⟩ = some (.slice A n cap)∧w'.cell? ⟨g,o + j,none⟩ = some (.int .i64 (z : Int)))
        (first | (go_split_ands;have q:=HG.out _ _ (by assumption) hbk;exact ⟨q,HC.out _ q⟩) | (go_split_ands;have q:=HD.out _ (by assumption);exact ⟨q,HC.out _ q⟩))
        (first | (go_at_call 54;(try go_split_ands);refine (GM (rr : Int) (cc : Int) (z : Int) A n cap xs _ ?_).mono ?_;exact (hr.below (HBEL.out _ (by assumption)) (Nat.le_refl _)).more (HBEL.out _ (by assumption)).size;rintro e wk ⟨A1,n1,c1,rfl,hro,hbk⟩))
       go_split_ands;obtain ⟨hB,b2,b8,b4,ho⟩:=HALL.out wk (by assumption);rw [HROWD.out] at hro;have hrol:=hro.1;obtain ⟨q80,q81,q82,p80,p81,p82⟩:=b8.three;have l8:=b8.lt;have hn1 : n1≤n:=by have:=HLEN.out.2;omega
       go_wp2_with (at_builtin;refine sD (.tmp 61) (.tmp 62) rfl rfl (wo.heap.size + 1) v D row rfl ho wk.heap.size A1 n1 c1 rfl hro.rd (by have:=HLEN.out.1;omega) l8 ?_;intro v1 w3 ho3 hg3 hat3;obtain ⟨A3,c3,rfl,hob3⟩:=ho3.slice;have b83:=b8.of_block (hg3.block _ b8.lt (fun e => by have:=ho.JJ _ e.symm;omega));obtain ⟨r80,r81,r82,s80,s81,s82⟩:=b83.three)
       go_roundw
       case rel =>
        refine ⟨j + 1,.slice A3 (D ++ row).length c3,by omega,by go_num,?_,?_,?_,?_,?_⟩
        ·rw [HSN.out];exact (hob3.FG (p:=⟨wo.heap.size,2,none⟩) (by simp) _).2
        ·exact (b2.of_block (hg3.block _ b2.lt (fun e => by have:=ho.JJ _ e.symm;omega))).FG (by simp;omega) _
        ·rw [List.length_append,hrol];exact b83.set 2 _
        ·exact (b4.of_block (hg3.block _ b4.lt (fun e => by have:=ho.JJ _ e.symm;omega))).FG (by simp;omega) _
        ·exact (hB.trans (tO hg3 hB.size (fun k e => by have:=ho.JJ _ e;omega))).setCell (by simp;omega) _
       case measure => simp [intOf];omega
      ·obtain rfl : j = i:=by omega
       obtain ⟨c40,c41,OS,f40,f41,f42⟩:=b4.three;obtain ⟨c80,c81,c82,_,_,_⟩:=b8.three;rw [List.take_of_length_le (by rw [HLZ.out];omega)] at ho;obtain ⟨A1,c1,rfl,ho1⟩:=ho.slice;go_wp2_with fail
       refine bodyPost_ret (v:=.tuple #[mV j cc A1 (lL cc xs zs).length c1,.int .i64 0]) (by simp [results,Try.results22,go_sem,c40,c41,OS,f40,f41,f42]) rfl ?_;refine ⟨A1,(lL cc xs zs).length,c1,?_,?_,bZ hB (by omega) _ _ _⟩
       ·unfold pkR pkC
        rw [HE.out,if_pos rfl,if_pos rfl,HLZ.out]
       ·unfold pkD
        rw [HE.out,if_pos rfl,Int.toNat_natCast];exact (ho1.CA (by omega) _ _ _).mono (by omega)
 ·have hrt : bM r c n = false:=by simpa using hrt
  have HE:=Lib.hid (show jX (bM r c n) r zs = 3 by simp [jX,hrt]);have oA:=Lib.hid (fun w => kO r c A n cap w);rw [hrt] at oA;clear hrt;go_enter Try.func22,Try.ntmps22;go_wp2_with (go_at_call 17;refine (oA.out _).mono ?_;rintro e w1 ⟨rfl,hb1⟩;have b4:=OV.out.below hb1 (by simp);have hB:=HB.out.trans (hb1.mono HB.out.size);obtain ⟨c40,c41,OS,f40,f41,f42⟩:=b4.three)
  exact bodyPost_ret (v:=.tuple #[mV 0 0 none 0 0,.int .i64 3]) (by simp [results,Try.results22,go_sem,c40,c41,OS,f40,f41,f42]) rfl (jW HE.out (by omega) (bZ hB (by omega) _ _ _))
end Go.Proofs.Yteofcbkjhdadpaa
namespace Go.Proofs.Yteofcbkjhdadpaa
open Go.RowKit
theorem CZ (a : Nat) (ha : a < 9223372036854775808) : (BitVec.ofInt 64 (a : Int)).toNat = a:=by
 rw [BitVec.ofInt_natCast,BitVec.toNat_ofNat];exact Nat.mod_eq_of_lt (by omega)
theorem aAy (a b : Nat) (ha : a < 9223372036854775808) (hb : b < 9223372036854775808) : bits .and .i64 (a : Int) (b : Int) = ((a &&& b : Nat) : Int):=by
 have hx : a &&& b < 2 ^ 63:=Nat.and_lt_two_pow _ (by omega);show IntKind.i64.wrap ((BitVec.ofInt 64 (a : Int) &&& BitVec.ofInt 64 (b : Int)).toNat : Int) = _;rw [BitVec.toNat_and,CZ a ha,CZ b hb,IntKind.wrap_i64];omega
theorem LQ (a b : Nat) (ha : a < 9223372036854775808) (hb : b < 9223372036854775808) : bits .xor .i64 (a : Int) (b : Int) = ((a ^^^ b : Nat) : Int):=by
 have hx : a ^^^ b < 2 ^ 63:=Nat.xor_lt_two_pow (by omega) (by omega);show IntKind.i64.wrap ((BitVec.ofInt 64 (a : Int) ^^^ BitVec.ofInt 64 (b : Int)).toNat : Int) = _;rw [BitVec.toNat_xor,CZ a ha,CZ b hb,IntKind.wrap_i64];omega
theorem ZT (b : UInt8) (i : Nat) : (bits BinOp.and IntKind.u8 ((b.toNat : Int) / 2 ^ i) 1 == 1) = b.toNat.testBit i:=by
 have e : ((b.toNat : Int) / 2 ^ i) = ((b.toNat / 2 ^ i : Nat) : Int):=by simp
 have hb : b.toNat / 2 ^ i < 256:=Nat.lt_of_le_of_lt (Nat.div_le_self _ _) b.toNat_lt;rw [e,show (1 : Int) = ((1 : Nat) : Int) from rfl,u8_and_nat _ _ hb (by decide),Nat.and_one_is_mod,Nat.testBit_eq_decide_div_mod_eq,Bool.eq_iff_iff]
 simp
 omega
theorem TN (p i : Nat) (hp : p < 2 ^ 15) : (bits BinOp.and IntKind.i64 ((p : Int) / 2 ^ i) 1 == 1) = p.testBit i:=by
 have e : ((p : Int) / 2 ^ i) = ((p / 2 ^ i : Nat) : Int):=by simp
 have hb : p / 2 ^ i < 2 ^ 15:=Nat.lt_of_le_of_lt (Nat.div_le_self _ _) hp;rw [e,show (1 : Int) = ((1 : Nat) : Int) from rfl,aAy _ _ (by omega) (by decide),Nat.and_one_is_mod,Nat.testBit_eq_decide_div_mod_eq,Bool.eq_iff_iff]
 simp
 omega
theorem aDd (a i : Nat) (ha : a < 512) (hi : i < 8) : wrap64 (wrap64 (a : Int) * 2 ^ i) = ((a <<< i : Nat) : Int):=by
 have h1 : wrap64 (a : Int) = a:=by unfold wrap64;omega
 have h2 : a * 2 ^ i≤512 * 2 ^ 7:=Nat.mul_le_mul (by omega) (Nat.pow_le_pow_right (by omega) (by omega));have e : (a : Int) * 2 ^ i = ((a * 2 ^ i : Nat) : Int):=by simp
 rw [h1,Nat.shiftLeft_eq,e];unfold wrap64;omega
theorem WY {a b : Int} (h : a = b) : Value.int .i64 a = .int .i64 b:=by rw [h]
theorem aFs (a b : UInt8) (i : Nat) (hi : i < 8) (h : (bits BinOp.and IntKind.u8 ((b.toNat : Int) / 2 ^ i) 1 == 1) = true) :
  bits BinOp.xor IntKind.i64 (Gf.uI a.toNat b.toNat i : Int) (wrap64 (wrap64 (a.toNat : Int) * 2 ^ i)) = (Gf.uI a.toNat b.toNat (i + 1) : Int):=by
 rw [ZT] at h;have h1:=Gf.PL a.toNat b.toNat a.toNat_lt i (by omega);have ha:=a.toNat_lt;have h2 : a.toNat <<< i < 2 ^ 16:=by
  rw [Nat.shiftLeft_eq];have : a.toNat * 2 ^ i≤255 * 2 ^ 7:=Nat.mul_le_mul (by omega) (Nat.pow_le_pow_right (by omega) (by omega));omega
 rw [aDd _ _ (by omega) hi,LQ _ _ (by omega) (by omega)];simp only [Gf.uI,h,if_true]
theorem aFt (a b : UInt8) (i : Nat) (h : (bits BinOp.and IntKind.u8 ((b.toNat : Int) / 2 ^ i) 1 == 1) = false) :
  (Gf.uI a.toNat b.toNat i : Int) = (Gf.uI a.toNat b.toNat (i + 1) : Int):=by
 rw [ZT] at h
 simp [Gf.uI,h]
theorem aHl (p i : Nat) (hp : p < 2 ^ 15) (h8 : 8≤i) (hi : i≤14) (h : (bits BinOp.and IntKind.i64 ((p : Int) / 2 ^ i) 1 == 1) = true) :
  bits BinOp.xor IntKind.i64 (p : Int) (wrap64 (285 * 2 ^ (i - 8))) = (Gf.kP p i : Int):=by
 rw [TN _ _ hp] at h;have e:=aDd 285 (i - 8) (by omega) (by omega);have e1 : wrap64 ((285 : Nat) : Int) = 285:=by unfold wrap64;omega
 rw [e1] at e;have h2 : 285 <<< (i - 8) < 2 ^ 16:=by
  rw [Nat.shiftLeft_eq];have : 285 * 2 ^ (i - 8)≤285 * 2 ^ 6:=Nat.mul_le_mul (Nat.le_refl _) (Nat.pow_le_pow_right (by omega) (by omega));omega
 rw [e,LQ _ _ (by omega) (by omega)];simp only [Gf.kP,h,if_true]
theorem aHm (p i : Nat) (hp : p < 2 ^ 15) (h : (bits BinOp.and IntKind.i64 ((p : Int) / 2 ^ i) 1 == 1) = false) : (p : Int) = (Gf.kP p i : Int):=by
 rw [TN _ _ hp] at h
 simp [Gf.kP,h]
theorem qL (a b : UInt8) (w : World) :
  Calls Try.prog 24 #[.int .u8 (a.toNat : Int),.int .u8 (b.toNat : Int)] w fun e w' => e = .returned (.int .u8 ((Gf.mul a b).toNat : Int))∧w = w':=by
 go_enter Try.func24,Try.ntmps24;go_wp2_with fail
 go_loop [5,6] (fun v5 v6 => ∃ i : Nat,i≤8∧v5 = .int .i64 (Gf.uI a.toNat b.toNat i : Int)∧v6 = .int .i64 (i : Int)) (fun _ v6 => 8 - (intOf v6).toNat)
 case atStart => exact ⟨0,by omega,rfl,rfl⟩
 case round =>
  obtain ⟨i,hi,rfl,rfl⟩:=hrel
  by_cases hlt : i < 8
  ·go_wp2_with fail
   ·go_round
    case rel => exact ⟨i + 1,by omega,WY (aFs a b i hlt ‹_›),by go_num⟩
    case measure => simp [intOf];omega
   ·go_round
    case rel => exact ⟨i + 1,by omega,WY (aFt a b i ‹_›),by go_num⟩
    case measure => simp [intOf];omega
  ·obtain rfl : i = 8:=by omega
   have HL:=Gf.PL a.toNat b.toNat a.toNat_lt 8 (by omega);have HM:=Lib.hid (Gf.aJX a b);generalize Gf.uI a.toNat b.toNat 8 = s at *;go_wp2_with fail
   go_loop [5,7] (fun v5 v7 => ∃ (p n : Nat),n≤7∧p < 2 ^ 15∧v5 = .int .i64 (p : Int)∧v7 = .int .i64 ((n + 7 : Nat) : Int)∧Hid (Gf.WH n p = Gf.WG s)) (fun _ v7 => (intOf v7).toNat)
   case atStart => exact ⟨s,7,by omega,HL,rfl,rfl,rfl⟩
   case round =>
    obtain ⟨p,n,hn,hp,rfl,rfl,H⟩:=hrel
    by_cases hlt : 1≤n
    ·obtain ⟨m,rfl⟩ : ∃ m,n = m + 1:=⟨n - 1,by omega⟩
     have hm : m + 1 + 7 = m + 8:=by omega
     rw [hm];go_wp2_with fail
     ·go_round
      case rel => exact ⟨Gf.kP p (m + 8),m,by omega,Gf.TS _ _ (by omega) hp,WY (aHl p (m + 8) hp (by omega) (by omega) ‹_›),by go_num,H⟩
      case measure => simp [intOf];omega
     ·go_round
      case rel => exact ⟨Gf.kP p (m + 8),m,by omega,Gf.TS _ _ (by omega) hp,WY (aHm p (m + 8) hp ‹_›),by go_num,H⟩
      case measure => simp [intOf];omega
    ·obtain rfl : n = 0:=by omega
     go_wp2_with fail
     go_ret;have h:=H.out;rw [HM.out] at h;simp only [Gf.WH] at h;have hl:=(Gf.mul a b).toNat_lt;exact ⟨PT (by omega),rfl⟩
end Go.Proofs.Yteofcbkjhdadpaa
namespace Go.Proofs.Yteofcbkjhdadpaa
open Go.RowKit
theorem SD (xs : List UInt8) (g : UInt8→UInt8) {i : Nat} (h : i < xs.length) : (xs.take i).map g ++ [g (xs.getD i 0)] = (xs.take (i + 1)).map g:=by
 rw [List.take_succ_eq_append_getElem h,List.map_append]
 simp [List.getD,h]
theorem PV (c : UInt8) (A : Option Addr) (n cap : Nat) (xs : List UInt8) (w : World) (hr : Rd w w.heap.size A n (dK xs)) (hn : n≤140737488355328) :
  Calls Try.prog 55 #[.int .u8 (c.toNat : Int),.slice A n cap] w fun e w' => ∃ A' cap',e = .returned (.slice A' n cap')∧eJ w' w.heap.size A' n cap' (xs.map (Gf.mul c))∧Below w.heap.size w w':=by
 have HL:=Lib.hid (show xs.length = n by have:=hr.len;rw [bC] at this;exact this);go_enter Try.func55,Try.ntmps55;go_wp2_with fail
 go_loopw [5,6] (fun v5 v6 wr => ∃ i : Nat,i≤n∧v6 = .int .i64 (i : Int)∧kI wr w.heap.size v5 ((xs.take i).map (Gf.mul c))∧Below w.heap.size w wr) (fun _ v6 _ => n - (intOf v6).toNat)
 case atStart => exact ⟨0,by omega,rfl,kI.nil _ _,Below.refl _ _⟩
 case round =>
  obtain ⟨i,hi,rfl,ho,hb⟩:=hrel
  by_cases hlt : i < n
  ·obtain ⟨g,o,rfl,hg,hcell⟩:=mJ (hr.below hb (Nat.le_refl _)) hlt
   have HS:=Lib.hid (SD xs (Gf.mul c) (i:=i) (by rw [HL.out];exact hlt));have HLen:=Lib.hid (show ((xs.take i).map (Gf.mul c)).length = i by rw [List.length_map,List.length_take,HL.out];omega);generalize (xs.take i).map (Gf.mul c) = l at *;generalize xs.getD i 0 = x at *;have HO:=Lib.hid ho;have HB:=Lib.hid hb;have HR:=Lib.hid hr;clear ho hb hr;go_wp2_with (first | (go_at_call 24;refine (qL _ _ _).mono ?_;rintro e w' ⟨rfl,rfl⟩) | (at_builtin;refine pH (.tmp 13) (.tmp 20) rfl rfl w.heap.size _ l (Gf.mul c x) rfl HO.out rfl (by rw [HLen.out];omega) HB.out.size ?_;intro v1 w1 ho1 hb1 hg1))
   go_roundw
   case rel => exact ⟨i + 1,by omega,by go_num,by rw [← HS.out];exact ho1,HB.out.trans hb1⟩
   case measure => simp [intOf];omega
  ·obtain rfl : i = n:=by omega
   rw [List.take_of_length_le (by rw [HL.out];omega)] at ho;obtain ⟨A1,c1,rfl,ho1⟩:=ho.slice;rw [List.length_map,HL.out] at *;go_wp2_with fail
   go_ret;exact ⟨_,_,rfl,ho1,hb⟩
end Go.Proofs.Yteofcbkjhdadpaa
namespace Go.Proofs.Yteofcbkjhdadpaa
open Go.RowKit
theorem aNC (a b : UInt8) : ((a.toNat : Int) == (b.toNat : Int)) = decide (a = b):=by
 rw [Bool.eq_iff_iff];simp only [beq_iff_eq,decide_eq_true_eq];exact ⟨fun h => UInt8.toNat_inj.1 (Int.ofNat_inj.1 h),fun h => by rw [h]⟩
theorem aNA (a : UInt8) : ((a.toNat : Int) == 1) = decide (a = 1):=aNC a 1
theorem aNB (n : Nat) (h : n < 256) : ∃ u : UInt8,u.toNat = n:=⟨UInt8.ofNat n,by rw [UInt8.toNat_ofNat'];omega⟩
theorem GN (a : UInt8) (w : World) :
  Calls Try.prog 46 #[.int .u8 (a.toNat : Int)] w fun e w' => e = .returned (.tuple #[.int .u8 ((Gf.inv a).toNat : Int),.int .i64 (Gf.EX a)])∧w = w':=by
 go_enter Try.func46,Try.ntmps46;go_wp2_with fail
 go_loop [4] (fun v4 => ∃ b : Nat,1≤b∧b≤256∧v4 = .int .i64 (b : Int)∧Hid (∀ u : UInt8,1≤u.toNat→u.toNat < b→Gf.mul a u≠1)) (fun v4 => 256 - (intOf v4).toNat)
 case atStart => exact ⟨1,by omega,by omega,rfl,fun u h1 h2 => by omega⟩
 case round =>
  obtain ⟨b,hb1,hb2,rfl,HB⟩:=hrel
  by_cases hlt : b < 256
  ·obtain ⟨u,rfl⟩:=aNB b hlt
   have hq:=aNA (Gf.mul a u);have hw : (u.toNat : Int) % 256 = (u.toNat : Int):=by omega
   by_cases hm : Gf.mul a u = 1
   ·rw [decide_eq_true hm] at hq
    have H1:=Lib.hid (Gf.aCt hm);have H2:=Lib.hid (show Gf.EX a = 0 by unfold Gf.EX;rw [if_neg (by rintro rfl;rw [Gf.eO] at hm;exact absurd hm (by decide))]);clear hm;go_wp2_with (go_at_call 24;refine (qL _ _ _).mono ?_;rintro e w' ⟨rfl,rfl⟩)
    go_ret2
    exact ⟨by rw [← H1.out,H2.out];rfl,rfl⟩
   ·rw [decide_eq_false hm] at hq
    have HM:=Lib.hid hm;clear hm;go_wp2_with (go_at_call 24;refine (qL _ _ _).mono ?_;rintro e w' ⟨rfl,rfl⟩)
    go_round
    case rel =>
     refine ⟨u.toNat + 1,by omega,by omega,by go_num,fun v h1 h2 => ?_⟩
     by_cases e : v.toNat = u.toNat
     ·rw [UInt8.toNat_inj.1 e];exact HM.out
     ·exact HB.out v h1 (by omega)
    case measure => simp [intOf];omega
  ·obtain rfl : b = 256:=by omega
   have hz : a = 0:=by
    by_cases h : a = 0
    ·exact h
    ·have h1:=HB.out (Gf.inv a) (Nat.pos_of_ne_zero fun e => Gf.aIa h ((toNat_zero _).1 e)) (Gf.inv a).toNat_lt
     exact absurd (Gf.aDm h) h1
   have H1:=Lib.hid (show Gf.inv a = 0 by rw [hz];rfl);have H2:=Lib.hid (show Gf.EX a = 5 by unfold Gf.EX;rw [if_pos hz]);clear hz;go_wp2_with fail
   go_ret2
   exact ⟨by rw [H1.out,H2.out];rfl,rfl⟩
end Go.Proofs.Yteofcbkjhdadpaa
namespace Go.Proofs.Yteofcbkjhdadpaa
open Go.RowKit
theorem QW (A : Option Addr) (n cap : Nat) (xs : List UInt8) (w : World) (hr : Rd w w.heap.size A n (dK xs)) (hn : n≤140737488355328) :
  Calls Try.prog 41 #[.slice A n cap] w fun e w' => ∃ v,e = .returned v∧kI w' w.heap.size v xs∧Below w.heap.size w w':=by
 go_enter Try.func41,Try.ntmps41;go_wp2_with (at_builtin;refine sD (.tmp 3) (.tmp 4) rfl rfl w.heap.size _ [] xs rfl (aFJ w _ (Nat.le_refl _) _ rfl) w.heap.size A n cap rfl (hr.below ((Below.refl _ _).alloc (Nat.le_refl _) _) (Nat.le_refl _)) (by simpa using hn) (by simp) ?_;intro v1 w1 ho1 hg1 hat1)
 go_ret;exact ⟨_,rfl,ho1,((Below.refl _ _).alloc (Nat.le_refl _) _).trans (tO hg1 (by simp) (fun k hk => Nat.le_of_eq (Option.some.inj hk)))⟩
theorem aIw (A : Option Addr) (n cap : Nat) (xs : List UInt8) (w : World) (hr : Rd w w.heap.size A n (dK xs)) (hn : n≤140737488355328) :
  Calls Try.prog 41 #[.slice A n cap] w fun e w' => ∃ A' cap',e = .returned (.slice A' n cap')∧eJ w' w.heap.size A' n cap' xs∧Below w.heap.size w w':=by
 refine (QW A n cap xs w hr hn).mono ?_;rintro e w' ⟨v,rfl,ho,hb⟩;obtain ⟨A',cap',rfl,ho'⟩:=ho.WB (n:=n) (by have:=hr.len;rw [bC] at this;exact this);exact ⟨A',cap',rfl,ho',hb⟩
end Go.Proofs.Yteofcbkjhdadpaa
namespace Go.Proofs.Yteofcbkjhdadpaa
open Go.RowKit
theorem LP (r c : Int) (A : Option Addr) (n cap : Nat) (xs : List UInt8) (w : World) (hr : Rd w w.heap.size A n (dK xs)) (hn : n≤140737488355328) :
  Calls Try.prog 40 #[mV r c A n cap] w fun e w' => ∃ A' cap',e = .returned (mV r c A' n cap')∧eJ w' w.heap.size A' n cap' xs∧Below w.heap.size w w':=by
 have S:=(((Ctx.start w).box [.int .i64 r,.int .i64 c,.slice A n cap]).box [.int .i64 0,.int .i64 0,.slice none 0 0])
 simp only [World.size_alloc] at S;obtain ⟨c0,c1,c2⟩:=S.cells 1 rfl;go_enter Try.func40,Try.ntmps40;go_wp2_with fail
 refine (aIw A n cap xs _ (hr.go S.below) hn).mono ?_;rintro e w1 ⟨A',cap',rfl,ho,hb⟩;have S1:=S.go hb;have hl1:=S1.lt 1 rfl;have hl0:=S1.lt 0 rfl;have hoB:=ho.mono (base':=w.heap.size) S.below.size;obtain ⟨d0,d1,d2,e0,e1,e2⟩:=(S1.row 1 rfl).three;obtain ⟨f0,f1,f2,g0,g1,g2⟩:=(S1.row 0 rfl).three;have HS1:=Lib.hid S1;have HO:=Lib.hid ho;clear S S1 ho hb c0 c1 c2;go_wp2_with fail
 have ho2 : eJ w1 (w.heap.size + 1 + 1) A' n cap' xs:=by
  have h:=HO.out;simp only [World.size_alloc] at h;exact h
 refine bodyPost_ret (v:=mV r c A' n cap') (by simp [results,Try.results40,go_sem,f0,f1,f2,g0,g1,g2,mV]) rfl ⟨A',cap',rfl,?_,?_⟩
 ·exact ((((ho2.FG (p:=⟨w.heap.size,2,none⟩) (by dsimp only;omega) _).FG (p:=⟨w.heap.size + 1,0,none⟩) (by dsimp only;omega) _).FG (p:=⟨w.heap.size + 1,1,none⟩) (by dsimp only;omega) _).FG (p:=⟨w.heap.size + 1,2,none⟩) (by dsimp only;omega) _).mono (by omega)
 ·exact bZ (HS1.out.below.setCell (Nat.le_refl _) _) (by omega) _ _ _
end Go.Proofs.Yteofcbkjhdadpaa
namespace Go.Proofs.Yteofcbkjhdadpaa
open Go.RowKit
structure wC (w wr : World) (gB n c na ka : Nat) (A D : Option Addr) (kD : Nat) (v : Value) (piv : List Nat) (L : List (List UInt8)) : Prop where
 box : FO w wr n c na ka A
 b5 : Row wr gB 24 [.int .i64 (n : Int),.int .i64 (c : Int),.slice D na kD]
 data : eJ wr (w.heap.size + 2) D na kD L.flatten
 own : rP wr (w.heap.size + 2) v piv
 rect : dL n c L
theorem wC.below {w wr wx : World} {gB n c na ka : Nat} {A D : Option Addr} {kD : Nat} {v : Value} {piv : List Nat} {L : List (List UInt8)} (h : wC w wr gB n c na ka A D kD v piv L) (hb : Below wr.heap.size wr wx) : wC w wx gB n c na ka A D kD v piv L :=
 ⟨h.box.go hb,h.b5.below hb h.b5.lt,h.data.below hb (Nat.le_refl _),h.own.qA fun g _ hg => hb.block g hg,h.rect⟩
theorem rP.aMm {w w' : World} {base : Nat} {v : Value} {zs : List Nat} (h : rP w base v zs) (hk : ∀ g,base≤g→g < w.heap.size→(∃ ys,Row w g 3 ys)→w'.heap[g]? = w.heap[g]?) : rP w' base v zs:=by
 rcases h with ⟨h0,h1 | ⟨g,c,cur,h1,hg,hh,h2⟩⟩
 ·exact ⟨h0,.inl h1⟩
 ·exact ⟨h0,.inr ⟨g,c,cur,h1,hg,(hk g hg (xG hh) ⟨cur.toList,hh⟩).trans hh,h2⟩⟩
theorem eJ.aNI {w : World} {base n cap g : Nat} {xs : List UInt8} (h : eJ w base (some ⟨g,0,none⟩) n cap xs) : ∃ ys,Row w g 5 ys:=by
 rcases h.2.2 with ⟨h0,_⟩ | ⟨g',k,cells,hv,hb,hh,_⟩
 ·cases h0
 ·injection hv with hv1 hv2 hv3
  injection hv1 with hv1;injection hv1 with hv1;subst hv1;exact ⟨cells.toList,hh⟩
theorem wC.write {w wr wx : World} {gB n c na ka gD : Nat} {A : Option Addr} {kD : Nat} {v : Value} {piv : List Nat} {P S : List (List UInt8)} (h : wC w wr gB n c na ka A (some ⟨gD,0,none⟩) kD v piv P) (hg : wr.grownBy wx (some gD)) (ho : eJ wx (w.heap.size + 2) (some ⟨gD,0,none⟩) na kD S.flatten) (hS : dL n c S) (hgD : w.heap.size≤gD) :
  wC w wx gB n c na ka A (some ⟨gD,0,none⟩) kD v piv S:=by
 obtain ⟨ys,hr⟩:=h.data.aNI;have hm : ∀ {g : Nat} {cs : List Value},Row wr g 24 cs→Row wx g 24 cs:=fun {g cs} q => q.of_block (hg.block g q.lt (fun e => by injection e with e;exact Row.yR q hr (by decide) e))
 refine ⟨⟨h.box.below.trans ⟨hg.os,hg.tape,hg.output,hg.size,fun k hk => hg.block k (by have:=h.box.below.size;omega) (fun e => by injection e with e;omega)⟩,hm h.box.m,hm h.box.o⟩,hm h.b5,ho,h.own.aMm fun g _ hl q => ?_,hS⟩;obtain ⟨zs,q⟩:=q;exact hg.block g hl (fun e => by injection e with e;exact Row.yR q hr (by decide) e)
theorem wC.app {w wr wx : World} {gB n c na ka : Nat} {A D : Option Addr} {kD : Nat} {v v' : Value} {piv piv' : List Nat} {L : List (List UInt8)} (h : wC w wr gB n c na ka A D kD v piv L) (hg : wr.grownBy wx v.ownBlock) (hb : Below (w.heap.size + 2) wr wx) (ho : rP wx (w.heap.size + 2) v' piv') :
  wC w wx gB n c na ka A D kD v' piv' L:=by
 have hk : ∀ {g : Nat} {t : TypeId} {cs : List Value},Row wr g t cs→t≠3→wx.heap[g]? = wr.heap[g]? := fun {g t cs} q ht => hg.block g q.lt (fun e => by
  obtain ⟨ys,hr⟩:=rP.rowOf h.own e.symm;exact Row.yR q hr ht rfl)
 refine ⟨⟨h.box.below.trans (hb.mono (by omega)),h.box.m.of_block (hk h.box.m (by decide)),h.box.o.of_block (hk h.box.o (by decide))⟩,h.b5.of_block (hk h.b5 (by decide)),h.data.qA fun g e => ?_,ho,h.rect⟩;subst e;obtain ⟨ys,hr⟩:=h.data.aNI;exact hk hr (by decide)
theorem wC.aPw {w wr wx : World} {gB n c na ka : Nat} {A D D2 : Option Addr} {kD kD2 : Nat} {v : Value} {piv : List Nat} {L P : List (List UInt8)} (h : wC w wr gB n c na ka A D kD v piv L) (hb : Below wr.heap.size wr wx) (ho : eJ wx wr.heap.size D2 na kD2 P.flatten) (hP : dL n c P) (hg : w.heap.size + 2≤gB) :
  wC w (((wx.setCell ⟨gB,0,none⟩ (.int .i64 (n : Int))).setCell ⟨gB,1,none⟩ (.int .i64 (c : Int))).setCell ⟨gB,2,none⟩ (.slice D2 na kD2)) gB n c na ka A D2 kD2 v piv P:=by
 have q:=h.below hb;have hl:=h.b5.lt;refine ⟨⟨bZ q.box.below (by omega) _ _ _,q.box.m.CA (by omega) _ _ _,q.box.o.CA (by omega) _ _ _⟩,q.b5.aPx _ _ _,(ho.CA hl _ _ _).mono (by omega),q.own.aMm fun g hg1 hg2 hg3 => ?_,hP⟩;replace hg3 : g≠gB:=fun e => by obtain ⟨ys,hr⟩:=hg3;rw [e] at hr;exact Row.yR hr q.b5 (by decide) rfl
 have hne : g≠gB ∨ g = gB:=by omega
 rcases hne with hne | hne
 ·rw [Below.heap_setCell _ _ _ _ hne,Below.heap_setCell _ _ _ _ hne,Below.heap_setCell _ _ _ _ hne]
 ·exact absurd hne hg3
theorem WD (n c na ka : Nat) (A : Option Addr) (xs : List UInt8) (w : World) (hx : Rd w w.heap.size A na (dK xs)) (hna : Hid (na = n * c)) (hka : na≤ka) (hn : n≤64) (hc : c≤64) :
  Calls Try.prog 20 #[mV n c A na ka] w fun e w' => ∃ A' k' v piv L' A2 A3,e = .returned (.tuple #[mV n c A' na k',v,.int .i64 0])∧eJ w' w.heap.size A' na k' L'.flatten∧rP w' w.heap.size v piv∧wD n c 0 0 (iF xs n c) A2 [] L' A3 piv∧dL n 0 A2∧Below w.heap.size w w':=by
 have hxl : xs.length = n * c:=by have:=hx.len;rw [bC] at this;rw [this,hna.out]
 have hp : na≤4096:=by rw [hna.out];exact Nat.le_trans (Nat.mul_le_mul hn hc) (by omega)
 have HR:=Lib.hid (fun w => kO n c A na ka w);rw [show bM n c na = true by rw [hna.out];exact qK hn hc] at HR;have HX:=Lib.hid hx;have HXL:=Lib.hid hxl;clear hx hxl;obtain ⟨W2,hW2⟩ : ∃ W2,W2 = (w.alloc (.cells #[.int .i64 (n : Int),.int .i64 (c : Int),.slice A na ka] 24)).alloc (.cells #[.int .i64 0,.int .i64 0,.slice none 0 0] 24):=⟨_,rfl⟩
 have st : FO w W2 n c na ka A:=by
  rw [hW2];refine ⟨((Below.refl _ _).alloc (Nat.le_refl _) _).alloc (by simp) _,(Row.new w _ _).alloc _,?_⟩;have q:=Row.new (w.alloc (.cells #[.int .i64 (n : Int),.int .i64 (c : Int),.slice A na ka] 24)) [.int .i64 0,.int .i64 0,.slice none 0 0] 24
  simpa using q
 have HW2:=Lib.hid hW2;have HS2:=Lib.hid st;clear hW2 st;go_enter Try.func20,Try.ntmps20;go_wp2_with fail
 rw [← HW2.out];refine (HR.out W2).mono ?_;rintro e w3 ⟨rfl,hb3⟩;have st3:=HS2.out.go hb3;obtain ⟨c0,c1,c2,f0,f1,f2⟩:=st3.m.three;have HS3:=Lib.hid st3;have HCP:=Lib.hid (LP n c A na ka xs w3 (HX.out.go st3.below) (by omega));clear hb3 st3;go_wp2_with fail
 refine HCP.out.mono ?_;rintro e w4 ⟨D,kD,rfl,ho4,hb4⟩;obtain ⟨W5,hW5⟩ : ∃ W5,W5 = w4.alloc (.cells #[.int .i64 (n : Int),.int .i64 (c : Int),.slice D na kD] 24):=⟨_,rfl⟩
 have hb5 : Below w4.heap.size w4 W5:=by rw [hW5];exact (Below.refl _ _).alloc (Nat.le_refl _) _
 obtain ⟨gB,hgB⟩ : ∃ gB,gB = w4.heap.size:=⟨_,rfl⟩
 have hsz:=HS3.out.o.lt;have hst : wC w W5 gB n c na ka A D kD (.slice none 0 0) [] (iF xs n c):=by
  refine ⟨(HS3.out.go hb4).go hb5,by rw [hW5,hgB];exact Row.new w4 _ _,?_,World.ownsRow_nil _ _ _ _,sH HXL.out⟩;rw [JX HXL.out];exact (ho4.below hb5 (Nat.le_refl _)).mono (by omega)
 have hgw : w.heap.size + 2≤gB:=by rw [hgB];have:=hb4.size;omega
 have HST:=Lib.hid hst;have HW5:=Lib.hid hW5;have HGB:=Lib.hid hgB;clear ho4 hb4 hW5 hb5 hgB hst c0 c1 c2 f0 f1 f2;go_wp2_with fail
 rw [← HGB.out,← HW5.out];obtain ⟨L0,hL0⟩ : ∃ L0,L0 = iF xs n c:=⟨_,rfl⟩
 rw [← hL0] at HST;have HL0:=Lib.hid hL0;clear hL0
 go_loopg [6,7] c (fun k s6 s7 wr => ∃ (j : Nat) (D : Option Addr) (kD : Nat) (v : Value) (piv : List Nat) (L A1 : List (List UInt8)),s6 = v∧s7 = .int .i64 (j : Int)∧j≤c∧k = c - j∧wC w wr gB n c na ka A D kD v piv L∧piv.length≤n∧dL n 0 A1∧(∀ L' A' p',wD n c piv.length j L A1 piv L' A' p'→wD n c 0 0 L0 (List.replicate n []) [] L' A' p'))
 case atStart => exact ⟨0,D,kD,_,[],L0,List.replicate n [],rfl,rfl,by omega,rfl,HST.out,by simp,⟨by simp,fun i hi => by rw [CY];rfl⟩,fun _ _ _ h => h⟩
 case round =>
  clear HST;obtain ⟨j,D,kD,v,piv,L,A1,rfl,rfl,hjc,hk,hst,hpl,hrA,hgo⟩:=hrel
  rename World => w6
  obtain ⟨Ap,kp,rfl,hkp⟩:=hst.own.form;obtain ⟨c0,c1,c2,f0,f1,f2⟩:=hst.b5.three;have HST:=Lib.hid hst;have HGO:=Lib.hid hgo;have HRA:=Lib.hid hrA;clear hst hgo hrA
  by_cases hj : j < c
  ·by_cases hpn : piv.length < n
   ·go_upto_block 2 with (fail)
    go_cut [9] from 41 to 54 (fun s9 wx => ∃ i : Nat,s9 = .int .i64 (i : Int)∧piv.length≤i∧i≤n∧wC w wx gB n c na ka A D kD (.slice Ap piv.length kp) piv L∧(∀ i',piv.length≤i'→i' < i→fH L i' j = 0)∧(i < n→fH L i j≠0))
    case first =>
     go_wp2_with fail
     clear c0 c1 c2 f0 f1 f2
     go_loopg [9] (n - piv.length) (fun k s9 wr => ∃ i : Nat,s9 = .int .i64 (i : Int)∧piv.length≤i∧i≤n∧k = n - i∧wC w wr gB n c na ka A D kD (.slice Ap piv.length kp) piv L∧(∀ i',piv.length≤i'→i' < i→fH L i' j = 0))
     case atStart => exact ⟨piv.length,rfl,Nat.le_refl _,hpl,rfl,HST.out,fun i' h1 h2 => by omega⟩
     case round =>
      clear HST;obtain ⟨i,rfl,hpi,hin,hk2,hst,hz⟩:=hrel
      rename World => w7
      obtain ⟨c0,c1,c2,f0,f1,f2⟩:=hst.b5.three;have HST:=Lib.hid hst;have HZ:=Lib.hid hz
      by_cases hi : i < n
      ·have hlt2 : i * c + j < na:=by
        rw [hna.out];have h1 : (i + 1) * c≤n * c:=Nat.mul_le_mul_right c hi;rw [Nat.add_mul] at h1;omega
       have hAT:=JK n c i j (i * c) D na kD L.flatten w7 hst.data.rd (Lib.hid rfl) hlt2 hp;rw [tJ hst.rect hi hj] at hAT;obtain ⟨x,hx⟩ : ∃ x,x = fH L i j:=⟨_,rfl⟩
       rw [← hx] at hAT;have HAT:=Lib.hid hAT;have HX3:=Lib.hid hx;clear hst hz hlt2 hAT hx;go_wp2_with fail
       refine HAT.out.mono ?_;rintro e w8 ⟨rfl,hb8⟩;have HS8:=Lib.hid (HST.out.below hb8);clear hb8
       by_cases hx0 : x.toNat = 0
       ·have hx1 : (x.toNat : Int) = 0:=by omega
        have hx2 : ((x.toNat : Int) == 0) = true:=by rw [hx1];rfl
        go_wp2_with fail
        go_roundg (n - (i + 1))
        case rel =>
         refine ⟨i + 1,by go_num,by omega,by omega,rfl,HS8.out,fun i' h1 h2 => ?_⟩
         rcases Nat.lt_or_ge i' i with h3 | h3
         ·exact HZ.out i' h1 h3
         ·obtain rfl : i' = i:=by omega
          rw [← HX3.out];exact UInt8.toNat_inj.1 hx0
        case measure => omega
       ·have hx2 : ((x.toNat : Int) == 0) = false:=by rw [beq_eq_false_iff_ne];omega
        go_wp2_with fail
        go_meet
        refine ⟨i,rfl,hpi,hin,HS8.out,HZ.out,fun _ => ?_⟩;rw [← HX3.out];rintro rfl;exact hx0 rfl
      ·clear hst hz
       go_wp2_with fail
       go_meet
       exact ⟨i,rfl,hpi,hin,HST.out,HZ.out,fun h => absurd h hi⟩
    case rest =>
     obtain ⟨i,rfl,hpi,hin,hst,hz,hnz⟩:=hcut
     rename World => w7
     clear HST c0 c1 c2 f0 f1 f2;obtain ⟨c0,c1,c2,f0,f1,f2⟩:=hst.b5.three;have HST:=Lib.hid hst;have HZ:=Lib.hid hz;have HNZ:=Lib.hid hnz;clear hst hz hnz
     by_cases hi : i = n
     ·have hb1 : ((i : Int) == (n : Int)) = true:=by rw [hi];simp
      go_wp2_with fail
      go_roundg (c - (j + 1))
      case rel => exact ⟨j + 1,D,kD,_,piv,L,A1,rfl,by go_num,by omega,rfl,HST.out,hpl,HRA.out,fun L' A' p' h => HGO.out L' A' p' (wD.skip (fun i' h1 h2 => HZ.out i' h1 (by omega)) h)⟩
      case measure => omega
     ·have hb1 : ((i : Int) == (n : Int)) = false:=by rw [beq_eq_false_iff_ne];omega
      have hi2 : i < n:=by omega
      have hmk : ∀ w : World,(Instr.makeSlice 37 (.int .i64 (n : Int)) (.int .i64 (n : Int))).run Try.prog w = .ok (.slice (some ⟨w.heap.size,0,none⟩) n n) (w.alloc (.cells (madeCells #[.int .i64 0] n) 3)):=fun w => TZ n (by omega) w
      obtain ⟨W8,hW8⟩ : ∃ W8,W8 = w7.alloc (.cells (madeCells #[.int .i64 0] n) 3):=⟨_,rfl⟩
      obtain ⟨gO,hgO⟩ : ∃ gO,gO = w7.heap.size:=⟨_,rfl⟩
      have hb8 : Below w7.heap.size w7 W8:=by rw [hW8];exact (Below.refl _ _).alloc (Nat.le_refl _) _
      have r8 : Row W8 gO 3 (RY (MK n 0)):=by rw [hW8,hgO,ZR];exact Row.made w7 _ n _
      have HW8:=Lib.hid hW8;have HGO8:=Lib.hid hgO;have HR8:=Lib.hid r8;have HB8:=Lib.hid hb8;have hgOw : gB < gO:=by rw [hgO];exact HST.out.b5.lt
      clear hW8 hgO r8 hb8;go_wp2_with fail
      clear hmk c0 c1 c2 f0 f1 f2;rw [← HW8.out,← HGO8.out]
      go_loopg [11] n (fun k s11 wr => ∃ q : Nat,s11 = .int .i64 (q : Int)∧q≤n∧k = n - q∧Below w7.heap.size w7 wr∧Row wr gO 3 (RY (MK n q)))
      case atStart => exact ⟨0,rfl,by omega,rfl,HB8.out,HR8.out⟩
      case round =>
       clear HR8 HB8;obtain ⟨q,rfl,hqn,hk3,hb9,hr9⟩:=hrel
       rename World => w9
       obtain ⟨c0,c1,c2,f0,f1,f2⟩:=(HST.out.below hb9).b5.three;have HB9:=Lib.hid hb9;have HR9:=Lib.hid hr9
       by_cases hq : q < n
       ·obtain ⟨old,hold⟩:=hr9.has (i:=q) (by rw [lU,oD];exact hq)
        have hfz : w9.frozen? ⟨gO,q,none⟩ = false:=hr9.frozen q;have q0 : (0 : Int)≤(q : Int):=by omega
        have q1 : (q : Int) < (n : Int):=by omega
        clear hb9 hr9;go_wp2_with fail
        go_roundg (n - (q + 1))
        case rel =>
         refine ⟨q + 1,by go_num,by omega,rfl,HB9.out.setCell (by show w7.heap.size≤gO;rw [HGO8.out];exact Nat.le_refl _) _,?_⟩;rw [← aDa];exact HR9.out.set q _
        case measure => omega
       ·obtain rfl : q = n:=by omega
        obtain ⟨old1,hold1⟩:=hr9.has (i:=piv.length) (by rw [lU,oD];exact hpn);obtain ⟨old2,hold2⟩:=(hr9.set piv.length (.int .i64 (i : Int))).has (i:=i) (by rw [List.length_set,lU,oD];exact hi2);have aQE : w9.frozen? ⟨gO,piv.length,none⟩ = false:=hr9.frozen _;have aOf : (w9.setCell ⟨gO,piv.length,none⟩ (.int .i64 (i : Int))).frozen? ⟨gO,i,none⟩ = false:=(hr9.set piv.length (.int .i64 (i : Int))).frozen _;obtain ⟨W10,hW10⟩ : ∃ W10,W10 = (w9.setCell ⟨gO,piv.length,none⟩ (.int .i64 (i : Int))).setCell ⟨gO,i,none⟩ (.int .i64 (piv.length : Int)):=⟨_,rfl⟩
        have hr10 : Row W10 gO 3 (RY (AH q i piv.length)):=by
         rw [hW10,← aBO];exact (hr9.set _ _).set _ _
        have hb10 : Below w7.heap.size w7 W10:=by
         rw [hW10];exact (hb9.setCell (by show w7.heap.size≤gO;rw [HGO8.out];exact Nat.le_refl _) _).setCell (by show w7.heap.size≤gO;rw [HGO8.out];exact Nat.le_refl _) _
        have hs10:=HST.out.below hb10;have hzs : Rd W10 W10.heap.size (some ⟨gO,0,none⟩) q (RY (AH q i piv.length)):=by
         refine ⟨by rw [lU,yP],fun h0 => ⟨gO,0,rfl,hr10.lt,fun j u hu => ?_⟩⟩;rw [Nat.zero_add,hr10.cell,hu]
        have hPP:=SS q c D na kD L.flatten (some ⟨gO,0,none⟩) q q (AH q i piv.length) W10 hs10.data.rd hzs (by omega);have hpk : jX (bM q c na) q (AH q i piv.length) = 0:=by
         rw [hna.out,qK hn hc];unfold jX;rw [if_neg (by simp),PI hi2 hpn,if_neg (by simp),yP,if_neg (by omega)]
        unfold CN at hPP;unfold pkR pkC pkD at hPP;rw [hpk] at hPP;simp only [if_true,Int.toNat_natCast,yP] at hPP;rw [aFG hs10.rect (PI hi2 hpn),aFl hs10.rect hi2 hpn] at hPP;have HPP:=Lib.hid hPP;have HS10:=Lib.hid hs10;have HW10:=Lib.hid hW10;have i0 : (0 : Int)≤(i : Int):=by omega
        have i1 : (i : Int) < (q : Int):=by omega
        have p1 : (piv.length : Int) < (q : Int):=by omega
        clear hPP hs10 hW10 hb10 hr10 hzs hpk hb9 hr9 HR9 HB9;go_wp2_with fail
        rw [← HW10.out];refine HPP.out.mono ?_;rintro e w11 ⟨D2,n2,kD2,rfl,ho11,hb11⟩;obtain ⟨P,hP⟩ : ∃ P,P = PK L i piv.length:=⟨_,rfl⟩
        have hPr : dL q c P:=by rw [hP];exact PJ HS10.out.rect hi2 hpn
        rw [← hP] at ho11;obtain rfl : na = n2:=by
         have h1:=ho11.1;rw [iA hPr] at h1;rw [hna.out];omega
        obtain ⟨W12,hW12⟩ : ∃ W12,W12 = ((w11.setCell ⟨gB,0,none⟩ (.int .i64 (q : Int))).setCell ⟨gB,1,none⟩ (.int .i64 (c : Int))).setCell ⟨gB,2,none⟩ (.slice D2 na kD2):=⟨_,rfl⟩
        have hs12 : wC w W12 gB q c na ka A D2 kD2 (.slice Ap piv.length kp) piv P:=by
         rw [hW12];exact HS10.out.aPw hb11 ho11 hPr hgw
        obtain ⟨m0,hm0⟩ : ∃ m0,m0 = piv.length * c:=⟨_,rfl⟩
        have hm1 : m0 + c≤na:=by
         rw [hm0,hna.out];have h1 : (piv.length + 1) * c≤q * c:=Nat.mul_le_mul_right c hpn;rw [Nat.add_mul] at h1;omega
        obtain ⟨x,hx⟩ : ∃ x,x = fH L i j:=⟨_,rfl⟩
        have hAT:=JK q c piv.length j m0 D2 na kD2 P.flatten W12 hs12.data.rd (Lib.hid hm0) (by omega) hp;rw [hm0,tJ hPr hpn hj] at hAT;have hxP : fH P piv.length j = x:=by
         rw [hx,hP];unfold fH;rw [JW HS10.out.rect hi2 hpn,if_pos rfl]
        rw [hxP] at hAT;have HAT:=Lib.hid hAT;have HS12:=Lib.hid hs12;have HW12:=Lib.hid hW12;have HP:=Lib.hid hP;have HPR:=Lib.hid hPr;have HX4:=Lib.hid hx;have HM0:=Lib.hid hm0;obtain ⟨e0,e1,e2,h0,h1,h2⟩:=(HS10.out.below hb11).b5.three;clear hAT hs12 hW12 hP hPr hx hm0 hxP ho11 hb11 c0 c1 c2 f0 f1 f2 hold1 hold2 aQE aOf;go_wp2_with fail
        rw [← HW12.out];refine HAT.out.mono ?_;rintro e w13 ⟨rfl,hb13⟩;have hs13:=HS12.out.below hb13;have hRW:=GM q c (piv.length : Int) D2 na kD2 P.flatten w13 hs13.data.rd;unfold ZG at hRW;unfold aFp at hRW;have hre : EP (bM q c na) q (piv.length : Int) = 0:=by
         rw [hna.out,qK hn hc];unfold EP;rw [if_neg (by simp),if_pos ⟨by omega,by omega⟩]
        rw [hre] at hRW;simp only [if_true,Int.toNat_natCast] at hRW;rw [BZ HPR.out hpn] at hRW;have hPi : P.getD piv.length [] = L.getD i []:=by rw [HP.out,JW HS10.out.rect hi2 hpn,if_pos rfl]
        rw [hPi] at hRW;have hLi : (L.getD i []).length = c:=HS10.out.rect.wid i hi2;have HRW:=Lib.hid hRW;have HIV:=Lib.hid (GN x w13);have HS13:=Lib.hid hs13;have HLI:=Lib.hid hLi;obtain ⟨c0,c1,c2,f0,f1,f2⟩:=hs13.b5.three;clear e0 e1 e2 h0 h1 h2 hs13 hRW hre hPi hb13 hLi;go_wp2_with fail
        refine HIV.out.mono ?_;rintro e w13' ⟨rfl,rfl⟩;go_wp2_with fail
        refine HRW.out.mono ?_;rintro e w14 ⟨R0,n14,k14,rfl,ho14,hb14⟩;obtain rfl : c = n14:=by rw [← HLI.out];exact ho14.1
        have HSC:=Lib.hid (PV (Gf.inv x) R0 c k14 (L.getD i []) w14 ho14.rd (by omega));have HS14:=Lib.hid (HS13.out.below hb14);clear c0 c1 c2 f0 f1 f2 ho14 hb14;go_wp2_with fail
        refine HSC.out.mono ?_;rintro e w15 ⟨R1,k15,rfl,ho15,hb15⟩;have hs15:=HS14.out.below hb15;obtain ⟨gD,hgD,hgDb,hgDl,_,_⟩:=hs15.data.at_ (i:=0) (by omega);subst hgD;obtain ⟨T,hT⟩ : ∃ T,T = (L.getD i []).map (Gf.mul (Gf.inv x)):=⟨_,rfl⟩
        rw [← hT] at ho15;have HT:=Lib.hid hT;have aOL:=Lib.hid ho15;have HS15:=Lib.hid hs15;have e1 : IntKind.i64.wrap ((piv.length : Int) * (c : Int)) = (m0 : Int):=by rw [← Int.natCast_mul,← HM0.out,IntKind.wrap_i64];omega
        have hnk : na≤kD2:=hs15.data.le';obtain ⟨c0,c1,c2,f0,f1,f2⟩:=hs15.b5.three;have m00 : (0 : Int)≤(m0 : Int):=by omega
        have m01 : (m0 : Int)≤(na : Int):=by omega
        have m02 : (na : Int)≤(kD2 : Int):=by omega
        have m03 : m0≤na:=by omega
        have m04 : ¬ kD2 = m0:=by omega
        obtain ⟨gD',hgD',_,hgD14,_,_⟩:=HS14.out.data.at_ (i:=0) (by omega);injection hgD' with hgD';injection hgD' with hgD';subst hgD';have HRN:=Lib.hid (show ∀ a,R1 = some a→a.block≠gD from fun a e => by
         rcases ho15.2.2 with ⟨h0,_⟩ | ⟨g',k,cells,hv,hb,hh,_⟩
         ·injection h0 with h0;rw [h0] at e;cases e
         ·injection hv with hv1 hv2 hv3
          rw [hv1] at e;injection e with e;subst e;show g'≠gD;omega)
        have HOV:=Lib.hid (show over P.flatten m0 T = (P.set piv.length T).flatten by
         rw [HM0.out];exact UO HPR.out hpn ho15.1)
        have HTL:=Lib.hid (show T.length = c from ho15.1);clear hT ho15 hs15 hb15;obtain ⟨w16,hrun,ho16,hg16⟩:=SQ w15 3 gD m0 (na - m0) (kD2 - m0) c k15 (w.heap.size + 2) na kD2 R1 P.flatten T HS15.out.data aOL.out.rd (by omega) (by omega) (by omega);rw [HOV.out] at ho16;have HS16:=Lib.hid (HS15.out.write hg16 ho16 (HPR.out.set hpn HTL.out) (by omega));have aRK:=Lib.hid (show Rd w16 w16.heap.size R1 c (dK T) from (aOL.out.qA (fun g e => hg16.block g (by have:=(aOL.out.row g (by rw [e];rfl)).2;omega) (fun e2 => by injection e2 with e2;exact HRN.out _ e e2))).rd);clear ho16 hg16;go_wp2_with fail
        obtain ⟨S,hS⟩ : ∃ S,S = P.set piv.length T:=⟨_,rfl⟩
        rw [← hS] at HS16;have HSS:=Lib.hid (show S = kM L i piv.length (Gf.inv (fH L i j)) by
         rw [hS,HP.out,HT.out,HX4.out];exact aBP L HS10.out.rect hi2 hpn _)
        have HST0:=Lib.hid (show S.getD piv.length [] = T by rw [hS,eY (by rw [HPR.out.len];exact hpn),if_pos rfl]);have HSR:=Lib.hid HS16.out.rect;clear hS c0 c1 c2 f0 f1 f2 e1 m00 m01 m02 m03 m04
        go_loopg [16] q (fun k s16 wr => ∃ kk : Nat,s16 = .int .i64 (kk : Int)∧kk≤q∧k = q - kk∧wC w wr gB q c na ka A (some ⟨gD,0,none⟩) kD2 (.slice Ap piv.length kp) piv (dN piv.length j kk S)∧Rd wr wr.heap.size R1 c (dK T))
        case atStart => exact ⟨0,rfl,by omega,rfl,HS16.out,aRK.out⟩
        case round =>
         clear HS16 aRK;obtain ⟨kk,rfl,hkq,hk4,hst,hrt⟩:=hrel
         rename World => w17
         obtain ⟨c0,c1,c2,f0,f1,f2⟩:=hst.b5.three;have HST:=Lib.hid hst;have HRT:=Lib.hid hrt
         by_cases hkk : kk < q
         ·by_cases hkt : kk = piv.length
          ·have hb2 : ((kk : Int) != (piv.length : Int)) = false:=by rw [hkt];simp
           have HE:=Lib.hid (show wC w w17 gB q c na ka A (some ⟨gD,0,none⟩) kD2 (.slice Ap piv.length kp) piv (dN piv.length j (kk + 1) S) by
            have e : dN piv.length j (kk + 1) S = dN piv.length j kk S:=by rw [hkt];exact UT
            rw [e];exact hst)
           clear hst hrt;go_wp2_with fail
           go_roundg (q - (kk + 1))
           case rel => exact ⟨kk + 1,by go_num,by omega,rfl,HE.out,HRT.out⟩
           case measure => omega
          ·have hb2 : ((kk : Int) != (piv.length : Int)) = true:=by rw [bne_iff_ne];omega
           obtain ⟨mk,hmk⟩ : ∃ mk,mk = kk * c:=⟨_,rfl⟩
           have hmk1 : mk + c≤na:=by
            rw [hmk,hna.out];have h1 : (kk + 1) * c≤q * c:=Nat.mul_le_mul_right c hkk;rw [Nat.add_mul] at h1;omega
           have hAT2:=JK q c kk j mk (some ⟨gD,0,none⟩) na kD2 (dN piv.length j kk S).flatten w17 hst.data.rd (Lib.hid hmk) (by omega) hp;rw [hmk,tJ hst.rect hkk hj] at hAT2;have hrowk : (dN piv.length j kk S).getD kk [] = S.getD kk []:=by rw [(kS HSR.out hpn kk (by omega) (j:=j)).2,if_neg (by omega)]
           have hyk : fH (dN piv.length j kk S) kk j = fH S kk j:=by unfold fH;rw [hrowk]
           rw [hyk] at hAT2;obtain ⟨y,hy⟩ : ∃ y,y = fH S kk j:=⟨_,rfl⟩
           rw [← hy] at hAT2;have HAT2:=Lib.hid hAT2;have HROWK:=Lib.hid hrowk;have HY:=Lib.hid hy;have HMK:=Lib.hid hmk;clear hst hrt hAT2 hrowk hyk hy hmk;go_wp2_with fail
           refine HAT2.out.mono ?_;rintro e w18 ⟨rfl,hb18⟩;obtain ⟨E,hE⟩ : ∃ E,E = dN piv.length j kk S:=⟨_,rfl⟩
           obtain ⟨row,hrow⟩ : ∃ row,row = S.getD kk []:=⟨_,rfl⟩
           have hs18:=HST.out.below hb18;rw [← hE] at hs18;have HER:=Lib.hid hs18.rect;have HRL:=Lib.hid (show row.length = c by rw [hrow];exact HSR.out.wid kk hkk);have hs18' : wC w w18 gB q c na ka A (some ⟨gD,0,none⟩) kD2 (.slice Ap piv.length kp) piv (E.set kk (kR row T y 0)):=by
            have e : E.set kk (kR row T y 0) = E:=by
             rw [PY];refine oZ (by rw [List.length_set];exact HER.out.len) HER.out.len fun p hp2 => ?_
             rw [eY (by rw [HER.out.len];exact hkk)]
             split
             ·next e => rw [e,hrow,hE];exact HROWK.out.symm
             ·rfl
            rw [e];exact hs18
           have HS18:=Lib.hid hs18';have aRJ:=Lib.hid (HRT.out.go hb18);have HNXT:=Lib.hid (show E.set kk (kR row T y c) = dN piv.length j (kk + 1) S by
            rw [TU HRL.out HTL.out,hE,hrow,HY.out,← HST0.out];exact UU HSR.out hpn hkk hkt)
           clear hs18 hs18' hb18 hE hrow HST HRT c0 c1 c2 f0 f1 f2;go_wp2_with fail
           go_loopg [18] c (fun k s18 wr => ∃ l : Nat,s18 = .int .i64 (l : Int)∧l≤c∧k = c - l∧wC w wr gB q c na ka A (some ⟨gD,0,none⟩) kD2 (.slice Ap piv.length kp) piv (E.set kk (kR row T y l))∧Rd wr wr.heap.size R1 c (dK T))
           case atStart => exact ⟨0,rfl,by omega,rfl,HS18.out,aRJ.out⟩
           case round =>
            clear HS18 aRJ;obtain ⟨l,rfl,hlc,hk5,hst,hrt⟩:=hrel
            rename World => w19
            obtain ⟨c0,c1,c2,f0,f1,f2⟩:=hst.b5.three;have HST:=Lib.hid hst;have HRT:=Lib.hid hrt
            by_cases hlt3 : l < c
            ·obtain ⟨pp,hpp⟩ : ∃ pp,pp = mk + l:=⟨_,rfl⟩
             have hml : pp < na:=by omega
             have hEs : dL q c (E.set kk (kR row T y l)):=HER.out.set hkk (KG HRL.out HTL.out hlc);obtain ⟨u,hu⟩ : ∃ u,u = row.getD l 0:=⟨_,rfl⟩
             obtain ⟨tv,htv⟩ : ∃ tv,tv = T.getD l 0:=⟨_,rfl⟩
             have hval : (E.set kk (kR row T y l)).flatten.getD pp 0 = u:=by
              rw [hpp,HMK.out,tJ hEs hkk hlt3];unfold fH;rw [eY (by rw [HER.out.len];exact hkk),if_pos rfl,aAk HRL.out HTL.out hlt3,hu]
             obtain ⟨g5,hg5,_,_,hcl,hfz⟩:=hst.data.at_ (i:=pp) hml;injection hg5 with hg5;injection hg5 with hg5;subst hg5;rw [hval] at hcl;obtain ⟨gR,oR,hR1,hgR,hcR⟩:=mJ hrt (k:=l) hlt3;rw [← htv] at hcR;subst hR1;have e1 : IntKind.i64.wrap ((kk : Int) * (c : Int)) = (mk : Int):=by rw [← Int.natCast_mul,← HMK.out,IntKind.wrap_i64];omega
             have e2 : IntKind.i64.wrap ((mk : Int) + (l : Int)) = (pp : Int):=by rw [IntKind.wrap_i64];omega
             have l0 : (0 : Int)≤(l : Int):=by omega
             have l1 : (l : Int) < (c : Int):=by omega
             have l2 : (0 : Int)≤(pp : Int):=by omega
             have l3 : (pp : Int) < (na : Int):=by omega
             have hxo:=xP u (Gf.mul y tv);have HMU:=Lib.hid (fun w => qL y tv w);have HNW:=Lib.hid (show (E.set kk (kR row T y l)).flatten.set pp (Gf.add u (Gf.mul y tv)) = (E.set kk (kR row T y (l + 1))).flatten by
              rw [hpp,HMK.out,aAH hEs hkk hlt3,eY (by rw [HER.out.len];exact hkk),if_pos rfl,List.set_set,hu,htv,PZ HRL.out HTL.out hlt3])
             have HPPP:=Lib.hid hpp;have HFIN:=Lib.hid (show wC w (w19.setCell ⟨gD,pp,none⟩ (.int .u8 ((Gf.add u (Gf.mul y tv)).toNat : Int))).drew gB q c na ka A (some ⟨gD,0,none⟩) kD2 (.slice Ap piv.length kp) piv (E.set kk (kR row T y (l + 1))) by
              refine (hst.write (wx:=w19.setCell ⟨gD,pp,none⟩ (.int .u8 ((Gf.add u (Gf.mul y tv)).toNat : Int))) (gN (p:=⟨gD,pp,none⟩) (World.grownBy.refl w19 (some gD)) (.inl rfl) _) ?_ (HER.out.set hkk (KG HRL.out HTL.out hlt3)) (by omega)).below (Below.drew (Below.refl _ _));rw [← HNW.out];exact hst.data.store pp _)
             have HRFIN:=Lib.hid (show Rd (w19.setCell ⟨gD,pp,none⟩ (.int .u8 ((Gf.add u (Gf.mul y tv)).toNat : Int))).drew (w19.setCell ⟨gD,pp,none⟩ (.int .u8 ((Gf.add u (Gf.mul y tv)).toNat : Int))).drew.heap.size (some ⟨gR,oR,none⟩) c (dK T) from hrt.off (p:=⟨gD,pp,none⟩) HRN.out _);clear hst hrt hval hu htv hpp c0 f0 f1 f2;go_wp2_with fail
             have hgBD : gB≠gD:=fun e => by
              obtain ⟨ys,hr⟩:=HST.out.data.aNI;exact Row.yR HST.out.b5 hr (by decide) e
             have hgRD : gR≠gD:=HRN.out _ rfl;have HGR:=Lib.hid (And.intro hgBD hgRD);clear hgBD hgRD;refine wp_region_held_drew (S:=(fun w' => w'.cell? ⟨gB,1,none⟩ = some (.int .i64 (c : Int))∧w'.cell? ⟨gB,2,none⟩ = some (.slice (some ⟨gD,0,none⟩) na kD2)∧w'.cell? ⟨gR,oR + l,none⟩ = some (.int .u8 (tv.toNat : Int)))) (by kernel_rfl) ⟨c1,c2,hcR⟩ (fun hHeld => ?_);refine wpAnyH_take (i:=0) (v:=?_) rfl (by kernel_rfl) (by kernel_rfl) (by kernel_rfl) (fun _ _ _ h => h) (Or.inl ⟨by rfl,?_⟩) (by assumption) ?_;rotate_left
             ·(intro w hSw;(try dsimp only at hSw);go_simp;(try with_reducible rfl))
             (try simp only [Act.put,cO,cL,cP]);refine wpAnyH_take (i:=1) (v:=?_) rfl (by kernel_rfl) (by kernel_rfl) (by kernel_rfl) (fun _ _ _ h => h) (Or.inl ⟨by rfl,?_⟩) (by assumption) ?_;rotate_left
             ·(intro w hSw;(try dsimp only at hSw);go_simp;(try with_reducible rfl))
             (try simp only [Act.put,cO,cL,cP]);refine wpAnyH_take (i:=2) (v:=?_) rfl (by kernel_rfl) (by kernel_rfl) (by kernel_rfl) (fun _ _ _ h => h) (Or.inl ⟨by rfl,?_⟩) (by assumption) ?_;rotate_left
             ·(intro w hSw;(try dsimp only at hSw);go_simp;(try with_reducible rfl))
             (try simp only [Act.put,cO,cL,cP]);refine wpAnyH_take (i:=3) (v:=?_) rfl (by kernel_rfl) (by kernel_rfl) (by kernel_rfl) (fun _ _ _ h => h) (Or.inl ⟨by rfl,?_⟩) (by assumption) ?_;rotate_left
             ·(intro w hSw;(try dsimp only at hSw);go_simp;(try with_reducible rfl))
             (try simp only [Act.put,cO,cL,cP]);refine wpAnyH_take (i:=4) (v:=?_) rfl (by kernel_rfl) (by kernel_rfl) (by kernel_rfl) (fun _ _ _ h => h) (Or.inl ⟨by rfl,?_⟩) (by assumption) ?_;rotate_left
             ·(intro w hSw;(try dsimp only at hSw);go_simp;(try with_reducible rfl))
             (try simp only [Act.put,cO,cL,cP]);refine wpAnyH_take (i:=5) (v:=?_) rfl (by kernel_rfl) (by kernel_rfl) (by kernel_rfl) (fun _ _ _ h => h) (Or.inl ⟨by rfl,?_⟩) (by assumption) ?_;rotate_left
             ·(intro w hSw;(try dsimp only at hSw);go_simp;(try with_reducible rfl))
             (try simp only [Act.put,cO,cL,cP]);refine wpAnyH_take (i:=6) (v:=?_) rfl (by kernel_rfl) (by kernel_rfl) (by kernel_rfl) (fun _ _ _ h => h) (Or.inl ⟨by rfl,?_⟩) (by assumption) ?_;rotate_left
             ·(intro w hSw;(try dsimp only at hSw);go_simp;(try with_reducible rfl))
             (try simp only [Act.put,cO,cL,cP]);refine wpAnyH_take (i:=7) (v:=?_) rfl (by kernel_rfl) (by kernel_rfl) (by kernel_rfl) (fun _ _ _ h => h) (Or.inl ⟨by rfl,?_⟩) (by assumption) ?_;rotate_left
             ·(intro w hSw;(try dsimp only at hSw);go_simp;(try with_reducible rfl))
             (try simp only [Act.put,cO,cL,cP]);refine wpAnyH_take (i:=10) (v:=?_) rfl (by kernel_rfl) (by kernel_rfl) (by kernel_rfl) (fun _ _ _ h => h) (Or.inl ⟨by rfl,?_⟩) (by assumption) ?_;rotate_left
             ·(intro w hSw;(try dsimp only at hSw);go_simp;(try with_reducible rfl))
             (try simp only [Act.put,cO,cL,cP]);refine wpAnyH_take (i:=11) (v:=?_) rfl (by kernel_rfl) (by kernel_rfl) (by kernel_rfl) (fun _ _ _ h => h) (Or.inl ⟨by rfl,?_⟩) (by assumption) ?_;rotate_left
             ·(intro w hSw;(try dsimp only at hSw);go_simp;(try with_reducible rfl))
             (try simp only [Act.put,cO,cL,cP]);refine wpAnyH_take (i:=12) (v:=?_) rfl (by kernel_rfl) (by kernel_rfl) (by kernel_rfl) (fun _ _ _ h => h) (Or.inl ⟨by rfl,?_⟩) (by assumption) ?_;rotate_left
             ·(intro w hSw;(try dsimp only at hSw);go_simp;(try with_reducible rfl))
             (try simp only [Act.put,cO,cL,cP]);refine wpAnyH_take (i:=13) (v:=?_) rfl (by kernel_rfl) (by kernel_rfl) (by kernel_rfl) (fun _ _ _ h => h) (Or.inl ⟨by rfl,?_⟩) (by assumption) ?_;rotate_left
             ·(intro w hSw;(try dsimp only at hSw);go_simp;(try with_reducible rfl))
             (try simp only [Act.put,cO,cL,cP]);refine wpAnyH_take (i:=14) (v:=?_) rfl (by kernel_rfl) (by kernel_rfl) (by kernel_rfl) (fun _ _ _ h => h) (Or.inl ⟨by rfl,?_⟩) (by assumption) ?_;rotate_left
             ·(intro w hSw;(try dsimp only at hSw);go_simp;(try with_reducible rfl))
             (try simp only [Act.put,cO,cL,cP]);refine wpAnyH_take (i:=8) (v:=?_) rfl (by kernel_rfl) (by kernel_rfl) (by kernel_rfl) (fun _ _ _ h => h) (Or.inl ⟨by rfl,?_⟩) (by assumption) ?_;rotate_left
             ·(intro w hSw;(try dsimp only at hSw);go_simp;(try with_reducible rfl))
             (try simp only [Act.put,cO,cL,cP]);refine wpAnyH_ready (rs:=[9,15]) (by kernel_rfl) (by simp) ?_;refine AllReadyH.cons rfl (fun K hK => ?_) (AllReadyH.cons rfl (fun K hK => ?_) AllReadyH.nil)
             ·go_simp
              refine hK.out _ _ hHeld (fun hHeld => ?_);clear hK K;(try simp only [Act.put,cO,cL,cP]);refine wpAnyH_ready (rs:=[15]) (by kernel_rfl) (by simp) ?_;refine AllReadyH.cons rfl (fun K hK => ?_) AllReadyH.nil;go_simp;refine (HMU.out _).mono ?_;rintro e wk ⟨rfl,rfl⟩;go_wp2_with fail
              refine hK.out _ _ hHeld (fun hHeld => ?_);clear hK K;(try simp only [Act.put,cO,cL,cP]);refine wpAnyH_take (i:=16) (v:=?_) rfl (by kernel_rfl) (by kernel_rfl) (by kernel_rfl) (fun _ _ _ h => h) (Or.inl ⟨by rfl,?_⟩) (by assumption) ?_;rotate_left
              ·(intro w hSw;(try dsimp only at hSw);go_simp;(try with_reducible rfl))
              (try simp only [Act.put,cO,cL,cP]);refine wpAnyH_take (i:=17) (v:=?_) rfl (by kernel_rfl) (by kernel_rfl) (by kernel_rfl) (fun _ _ _ h => h) (Or.inl ⟨by rfl,?_⟩) (by assumption) ?_;rotate_left
              ·(intro w hSw;(try dsimp only at hSw);go_simp;(try with_reducible rfl))
              (try simp only [Act.put,cO,cL,cP]);refine wpAnyH_ready (rs:=[18]) (by kernel_rfl) (by simp) ?_;refine AllReadyH.cons rfl (fun K hK => ?_) AllReadyH.nil;go_simp;refine hK.out _ _ ⟨cell_far hHeld.1 (.inl fun e => HGR.out.1 e.symm),cell_far hHeld.2.1 (.inl fun e => HGR.out.1 e.symm),cell_far hHeld.2.2 (.inl fun e => HGR.out.2 e.symm)⟩ (fun hHeld => ?_);clear hK K;(try simp only [Act.put,cO,cL,cP]);refine wpAnyH_done (by kernel_rfl) ?_ _;go_wp2_with fail
              go_roundg (c - (l + 1))
              case rel => exact ⟨l + 1,by go_num,by omega,rfl,HFIN.out,HRFIN.out⟩
              case measure => omega
             ·go_simp
              refine (HMU.out _).mono ?_;rintro e wk ⟨rfl,rfl⟩;go_wp2_with fail
              refine hK.out _ _ hHeld (fun hHeld => ?_);clear hK K;(try simp only [Act.put,cO,cL,cP]);refine wpAnyH_ready (rs:=[9]) (by kernel_rfl) (by simp) ?_;refine AllReadyH.cons rfl (fun K hK => ?_) AllReadyH.nil;go_simp;refine hK.out _ _ hHeld (fun hHeld => ?_);clear hK K;(try simp only [Act.put,cO,cL,cP]);refine wpAnyH_take (i:=16) (v:=?_) rfl (by kernel_rfl) (by kernel_rfl) (by kernel_rfl) (fun _ _ _ h => h) (Or.inl ⟨by rfl,?_⟩) (by assumption) ?_;rotate_left
              ·(intro w hSw;(try dsimp only at hSw);go_simp;(try with_reducible rfl))
              (try simp only [Act.put,cO,cL,cP]);refine wpAnyH_take (i:=17) (v:=?_) rfl (by kernel_rfl) (by kernel_rfl) (by kernel_rfl) (fun _ _ _ h => h) (Or.inl ⟨by rfl,?_⟩) (by assumption) ?_;rotate_left
              ·(intro w hSw;(try dsimp only at hSw);go_simp;(try with_reducible rfl))
              (try simp only [Act.put,cO,cL,cP]);refine wpAnyH_ready (rs:=[18]) (by kernel_rfl) (by simp) ?_;refine AllReadyH.cons rfl (fun K hK => ?_) AllReadyH.nil;go_simp;refine hK.out _ _ ⟨cell_far hHeld.1 (.inl fun e => HGR.out.1 e.symm),cell_far hHeld.2.1 (.inl fun e => HGR.out.1 e.symm),cell_far hHeld.2.2 (.inl fun e => HGR.out.2 e.symm)⟩ (fun hHeld => ?_);clear hK K;(try simp only [Act.put,cO,cL,cP]);refine wpAnyH_done (by kernel_rfl) ?_ _;go_wp2_with fail
              go_roundg (c - (l + 1))
              case rel => exact ⟨l + 1,by go_num,by omega,rfl,HFIN.out,HRFIN.out⟩
              case measure => omega
            ·obtain rfl : l = c:=by omega
             have HE2:=Lib.hid (show wC w w19 gB q l na ka A (some ⟨gD,0,none⟩) kD2 (.slice Ap piv.length kp) piv (dN piv.length j (kk + 1) S) by rw [← HNXT.out];exact hst);clear hst hrt;go_wp2_with fail
             go_roundg (q - (kk + 1))
             case rel => exact ⟨kk + 1,by go_num,by omega,rfl,HE2.out,HRT.out⟩
             case measure => omega
         ·obtain rfl : kk = q:=by omega
          clear hst hrt;go_wp2_with (at_builtin;refine EM 37 3 (.int .i64 0) 8 Try.underlying37 QK rfl (.tmp 148) (.tmp 150) rfl rfl (w.heap.size + 2) (.slice Ap piv.length kp) piv.length (nVs piv) (.int .i64 (j : Int)) rfl rfl HST.out.own _ rfl rfl (by simp only [maxLen];omega) (by omega) (by have:=HST.out.b5.lt;omega) ?_;intro g cap w20 ho20 hb20 hg20 hat;have HS20:=Lib.hid (HST.out.app hg20 hb20 (show rP w20 (w.heap.size + 2) (.slice (some ⟨g,0,none⟩) (piv.length + 1) cap) (piv ++ [j]) by unfold rP;rw [QB,List.length_append];exact ho20));clear ho20 hb20 hg20 hat)
          go_roundg (c - (j + 1))
          case rel =>
           have hrs : dL kk 0 (kM A1 i piv.length (Gf.inv (fH L i j))):=jR HRA.out hi2 hpn _;refine ⟨j + 1,some ⟨gD,0,none⟩,kD2,_,piv ++ [j],dN piv.length j kk S,iU piv.length j S kk (kM A1 i piv.length (Gf.inv (fH L i j))),rfl,by go_num,by omega,rfl,HS20.out,by rw [List.length_append];simp;omega,(oH HSR.out hrs hpn kk (Nat.le_refl _) (j:=j)).1,fun L' A' p' h => HGO.out L' A' p' (wD.step hpn hi2 hpi hj (Nat.le_refl _) (HNZ.out hi2) HZ.out (fun j' h1 h2 => by omega) ?_)⟩;rw [← HSS.out];rw [List.length_append] at h;exact h
          case measure => omega
   ·obtain ⟨d0,d1,d2,g0,g1,g2⟩:=HST.out.box.o.three
    have hlt9:=HST.out.box.o.lt;go_wp2_with fail
    refine bodyPost_ret (v:=.tuple #[mV n c D na kD,.slice Ap piv.length kp,.int .i64 0]) (by simp [results,Try.results20,go_sem,d0,d1,d2,hlt9]) rfl ?_;have q:=HST.out;refine ⟨D,kD,_,piv,L,List.replicate n [],A1,rfl,(q.data.CA (by omega) _ _ _).mono (by omega),(q.own.qA fun g hb hg => ?_).mono (by omega),?_,⟨by simp,fun i hi => by rw [CY];rfl⟩,bZ q.box.below (by omega) _ _ _⟩
    ·rw [Below.heap_setCell _ _ _ _ (by show g≠w.heap.size + 1;omega),Below.heap_setCell _ _ _ _ (by show g≠w.heap.size + 1;omega),Below.heap_setCell _ _ _ _ (by show g≠w.heap.size + 1;omega)]
    ·rw [← HL0.out]
     exact HGO.out L A1 piv (wD.full (by omega))
  ·obtain ⟨d0,d1,d2,g0,g1,g2⟩:=HST.out.box.o.three
   have hlt9:=HST.out.box.o.lt;go_wp2_with fail
   refine bodyPost_ret (v:=.tuple #[mV n c D na kD,.slice Ap piv.length kp,.int .i64 0]) (by simp [results,Try.results20,go_sem,d0,d1,d2,hlt9]) rfl ?_;have q:=HST.out;refine ⟨D,kD,_,piv,L,List.replicate n [],A1,rfl,(q.data.CA (by omega) _ _ _).mono (by omega),(q.own.qA fun g hb hg => ?_).mono (by omega),?_,⟨by simp,fun i hi => by rw [CY];rfl⟩,bZ q.box.below (by omega) _ _ _⟩
   ·rw [Below.heap_setCell _ _ _ _ (by show g≠w.heap.size + 1;omega),Below.heap_setCell _ _ _ _ (by show g≠w.heap.size + 1;omega),Below.heap_setCell _ _ _ _ (by show g≠w.heap.size + 1;omega)]
   ·rw [← HL0.out]
    exact HGO.out L A1 piv (wD.out (by omega))
theorem aAf (r c : Int) (na ka : Nat) (A : Option Addr) (w : World) (hrt : Hid (bM r c na = false)) :
  Calls Try.prog 20 #[mV r c A na ka] w fun e w' => e = .returned (.tuple #[mV 0 0 none 0 0,.slice none 0 0,.int .i64 3])∧Below w.heap.size w w':=by
 have HR:=Lib.hid (fun w => kO r c A na ka w);rw [hrt.out] at HR;obtain ⟨W2,hW2⟩ : ∃ W2,W2 = (w.alloc (.cells #[.int .i64 r,.int .i64 c,.slice A na ka] 24)).alloc (.cells #[.int .i64 0,.int .i64 0,.slice none 0 0] 24):=⟨_,rfl⟩
 have hb2 : Below w.heap.size w W2:=by rw [hW2];exact ((Below.refl _ _).alloc (Nat.le_refl _) _).alloc (by simp) _
 have ho : Row W2 (w.heap.size + 1) 24 [.int .i64 0,.int .i64 0,.slice none 0 0]:=by
  rw [hW2];have q:=Row.new (w.alloc (.cells #[.int .i64 r,.int .i64 c,.slice A na ka] 24)) [.int .i64 0,.int .i64 0,.slice none 0 0] 24
  simpa using q
 have HW2:=Lib.hid hW2;have yL:=Lib.hid hb2;have HO:=Lib.hid ho;clear hW2 hb2 ho;go_enter Try.func20,Try.ntmps20;go_wp2_with fail
 rw [← HW2.out];refine (HR.out W2).mono ?_;rintro e w3 ⟨rfl,hb3⟩;have ho3:=HO.out.below hb3 HO.out.lt;obtain ⟨d0,d1,d2,g0,g1,g2⟩:=ho3.three;have hlt:=ho3.lt;have AU:=Lib.hid (yL.out.trans (hb3.mono yL.out.size));clear hb3 ho3;go_wp2_with fail
 refine bodyPost_ret (v:=.tuple #[mV 0 0 none 0 0,.slice none 0 0,.int .i64 3]) (by simp [results,Try.results20,go_sem,d0,d1,d2,hlt]) rfl ?_;exact ⟨rfl,bZ AU.out (by omega) _ _ _⟩
end Go.Proofs.Yteofcbkjhdadpaa
namespace Go.Proofs.Yteofcbkjhdadpaa
open Go.RowKit Go.Proofs.aG.aX
def nZ (zs : List Nat) : List Int:=zs.map fun (z : Nat) => (z : Int)
theorem uE (zs : List Nat) : (nZ zs).length = zs.length:=by simp [nZ]
theorem VC {w : World} {base : Nat} {v : Value} {zs : List Nat} {ok : Nat→Prop} (h : rP w base v zs) (hk : ∀ k,v.ownBlock = some k→ok k) : Kd.R (Kd.int .i64) 3 w base ok v (nZ zs):=by
 refine Kd.tW ?_ hk;have e : wN (Value.int .i64) (nZ zs) = nVs zs:=by simp [wN,nVs,nZ]
 rw [uE,e];exact h
theorem ME {w : World} {b1 b2 n1 n2 : Nat} {v1 v2 : Value} {t1 t2 : TypeId} {xs1 xs2 : List Value} (h1 : w.ownsRow b1 t1 1 v1 n1 xs1) (h2 : w.ownsRow b2 t2 1 v2 n2 xs2) (ht : t1≠t2) : ∀ k,v1.ownBlock = some k→some k≠v2.ownBlock:=by
 intro k e e2;obtain ⟨ys,r1⟩:=NH h1 e;obtain ⟨zs,r2⟩:=NH h2 e2.symm;exact Row.yR r1 r2 ht rfl
def SN (c : Nat) (xs : List UInt8) : List (List UInt8)×List (List UInt8)×List Nat:=wX c c (iF (xs.take (c * c)) c c) (WX c)
def dV.f (a0 a1 : Int) (l : List Int) : Option (Int×Int×List Int×Int) :=
 if inU l = true then (if lJ a0 a1 l.length = true then (if (SN a1.toNat (l.map zS)).2.2.length < a1.toNat then some (0,0,[],6) else some (a0,a1,nI (aAp a0.toNat a1.toNat a1.toNat (l.map zS) (SN a1.toNat (l.map zS)).2.1.flatten),0)) else some (0,0,[],3)) else none
theorem BC {r c : Int} {n : Nat} (h : lJ r c n = true) : ∃ a b : Nat,r = a∧c = b∧a≤64∧b≤a∧n = a * b:=by
 unfold lJ at h;rw [Bool.and_eq_true,decide_eq_true_eq] at h;obtain ⟨a,b,h1,h2,h3,h4,h5⟩:=oF h.1;exact ⟨a,b,h1,h2,h3,by omega,h5⟩
theorem dV.calls (aN : Int) (aJ : Int) (bL : Option Addr) (bK : Nat) (aT : List Int) (r1 : Int) (r2 : Int) (r3 : List Int) (r4 : Int) (w : World) (hr0_2 : Kd.C (Kd.int .u8) w bL aT.length aT) (hc0_2 : aT.length≤bK) (h : dV.f aN aJ aT = some (r1,r2,r3,r4)) :
  Calls Try.prog 14 #[.agg #[.int .i64 aN,.int .i64 aJ,.slice bL aT.length bK]] w fun e w' => ∃ pF : Value,e = .returned (.tuple #[.agg #[.int .i64 r1,.int .i64 r2,pF],.int .i64 r4])∧Kd.R (Kd.int .u8) 5 w' w.heap.size (fun _ => True) pF r3∧Below w.heap.size w w':=by
 unfold dV.f at h
 split at h
 ·rename_i hi
  obtain ⟨xs,rfl⟩:=sW hi;simp only [aZ,nN] at h hc0_2 ⊢
  split at h
  ·rename_i hm
   obtain ⟨a,b,rfl,rfl,ha,hb,hn⟩:=BC hm;simp only [Int.toNat_natCast] at h;refine (aJS a b xs.length bK bL xs w (uP hr0_2) (Lib.hid hn) hc0_2 ha hb).mono ?_;rintro e w' ⟨piv,L',A2,hred,hbel,hcase⟩;obtain ⟨_,e2,e3⟩:=hred.aMK;have es : wX b b (iF (xs.take (b * b)) b b) (WX b) = SN b xs:=rfl;rw [es] at e2 e3
   rcases hcase with ⟨hlt,rfl⟩ | ⟨heq,A',rfl,ho⟩
   ·rw [e3] at hlt
    rw [if_pos hlt] at h;simp only [Option.some.injEq,Prod.mk.injEq] at h;obtain ⟨rfl,rfl,rfl,rfl⟩:=h;exact ⟨_,rfl,Kd.AQ _ _ _ _ _,hbel⟩
   ·rw [e3] at heq
    rw [if_neg (by omega)] at h;simp only [Option.some.injEq,Prod.mk.injEq] at h;obtain ⟨rfl,rfl,rfl,rfl⟩:=h;rw [e2] at ho;exact ⟨_,rfl,tW ho,hbel⟩
  ·rename_i hm
   simp only [Option.some.injEq,Prod.mk.injEq] at h;obtain ⟨rfl,rfl,rfl,rfl⟩:=h;refine (aNG aN aJ bL xs.length bK w (Lib.hid (by simpa using hm))).mono ?_;rintro e w' ⟨rfl,hb⟩;exact ⟨_,rfl,Kd.AQ _ _ _ _ _,hb⟩
 ·cases h
def vQ (n c : Nat) (xs : List UInt8) : List (List UInt8)×List (List UInt8)×List Nat:=wX n c (iF xs n c) (List.replicate n [])
def gF.f (a0 a1 : Int) (l : List Int) : Option (Int×Int×List Int×List Int×Int) :=
 if inU l = true then (if bM a0 a1 l.length = true then some (a0,a1,nI (vQ a0.toNat a1.toNat (l.map zS)).1.flatten,nZ (vQ a0.toNat a1.toNat (l.map zS)).2.2,0) else some (0,0,[],[],3)) else none
theorem qB.aWd {n c : Nat} {L A1 A2 L1 L2 B1 B2 : List (List UInt8)} {p1 p2 : List Nat} {m1 m2 : Nat} (hL : dL n c L) (hA1 : dL n m1 A1) (hA2 : dL n m2 A2) (h1 : wD n c 0 0 L A1 [] L1 B1 p1) (h2 : wD n c 0 0 L A2 [] L2 B2 p2) : L1 = L2∧p1 = p2:=by
 obtain ⟨f1,r1,_⟩:=h1.toF hL hA1;obtain ⟨f2,r2,_⟩:=h2.toF hL hA2;obtain ⟨e1,e2⟩:=qB.unique (A2:=fH A2) f1 f2;refine ⟨oZ r1.len r2.len fun i hi => ?_,e2⟩;refine List.ext_getElem (by have a:=r1.wid i hi;have b:=r2.wid i hi;omega) fun j h3 h4 => ?_
 have e:=congrFun (congrFun e1 i) j;unfold fH at e;rw [List.getD_eq_getElem?_getD,List.getElem?_eq_getElem h3,List.getD_eq_getElem?_getD (l:=L2.getD i []),List.getElem?_eq_getElem h4] at e;exact e
theorem sJ (n : Nat) : dL n 0 (List.replicate n []):=⟨by simp,fun i hi => by rw [CY];rfl⟩
theorem NG {n c m : Nat} {xs : List UInt8} {A L' A' : List (List UInt8)} {p : List Nat} (hx : xs.length = n * c) (hA : dL n m A) (h : wD n c 0 0 (iF xs n c) A [] L' A' p) : L' = (vQ n c xs).1∧p = (vQ n c xs).2.2 :=
 qB.aWd (sH hx) hA (sJ n) h (mE n c (iF xs n c) (List.replicate n []))
theorem gF.calls (aN : Int) (aJ : Int) (bL : Option Addr) (bK : Nat) (aT : List Int) (r1 : Int) (r2 : Int) (r3 : List Int) (r4 : List Int) (r5 : Int) (w : World) (hr0_2 : Kd.C (Kd.int .u8) w bL aT.length aT) (hc0_2 : aT.length≤bK) (h : gF.f aN aJ aT = some (r1,r2,r3,r4,r5)) :
  Calls Try.prog 20 #[.agg #[.int .i64 aN,.int .i64 aJ,.slice bL aT.length bK]] w fun e w' => ∃ pF v3_ : Value,e = .returned (.tuple #[.agg #[.int .i64 r1,.int .i64 r2,pF],v3_,.int .i64 r5])∧Kd.R (Kd.int .u8) 5 w' w.heap.size (fun k_ => some k_≠v3_.ownBlock) pF r3∧Kd.R (Kd.int .i64) 3 w' w.heap.size (fun k_ => some k_≠pF.ownBlock) v3_ r4∧Below w.heap.size w w':=by
 unfold gF.f at h
 split at h
 ·rename_i hi
  obtain ⟨xs,rfl⟩:=sW hi;simp only [aZ,nN] at h hc0_2 ⊢
  split at h
  ·rename_i hm
   obtain ⟨a,b,rfl,rfl,ha,hb,hn⟩:=oF hm;simp only [Int.toNat_natCast,Option.some.injEq,Prod.mk.injEq] at h;obtain ⟨rfl,rfl,rfl,rfl,rfl⟩:=h;refine (WD a b xs.length bK bL xs w (uP hr0_2) (Lib.hid hn) hc0_2 ha hb).mono ?_;rintro e w' ⟨A',k',v,piv,L',A2,A3,rfl,ho,hown,hred,hrA,hbel⟩;obtain ⟨e1,e2⟩:=NG hn hrA hred;subst e1 e2;exact ⟨_,_,rfl,aBj ho (ME ho.2 hown (by decide)),VC hown (ME hown ho.2 (by decide)),hbel⟩
  ·rename_i hm
   simp only [Option.some.injEq,Prod.mk.injEq] at h;obtain ⟨rfl,rfl,rfl,rfl,rfl⟩:=h;refine (aAf aN aJ xs.length bK bL w (Lib.hid (by simpa using hm))).mono ?_;rintro e w' ⟨rfl,hb⟩;exact ⟨_,_,rfl,Kd.AQ _ _ _ _ _,Kd.AQ _ _ _ _ _,hb⟩
 ·cases h
end Go.Proofs.Yteofcbkjhdadpaa
namespace Go.Proofs.Yteofcbkjhdadpaa
open Go.RowKit Go.Proofs.aG.aX Go.Proofs.aG.eN
theorem aLK {w : World} {e base B cap : Nat} {A : Option Addr} {xs : List UInt8} {ok : Nat→Prop} (h : Rd w B A xs.length (dK xs)) (hB : B≤w.heap.size) (hm : xs.length≤9223372036854775807) (hc : xs.length≤cap) (hok : ∀ a,A = some a→ok a.block) :
  Kd.V (Kd.int .u8) e w base ok (.slice A xs.length cap) (nI xs):=by
 refine ⟨A,cap,by rw [aZ],by rw [aZ];exact hc,fun W' hW => ?_⟩;refine nK (B:=w.heap.size) ⟨h.1,fun hn => ?_⟩ hm;obtain ⟨g,o,rfl,hg,hcl⟩:=h.2 hn;exact ⟨g,o,rfl,by omega,fun j u hu => (World.cell?_of_block (hW g (hok _ rfl) (by omega))).trans (hcl j u hu)⟩
def iT.f (a0 a1 : Int) (l : List Int) : Option (Int×Int×List Int×List Int×Int) :=
 if inU l = true then (if bM a0 a1 l.length = true then some (a0,a1,nI (vQ a0.toNat a1.toNat (l.map zS)).1.flatten,nZ (vQ a0.toNat a1.toNat (l.map zS)).2.2,0) else some (0,0,[],[],3)) else none
theorem iT.calls (aN : Int) (aJ : Int) (bL : Option Addr) (bK : Nat) (aT : List Int) (r1 : Int) (r2 : Int) (r3 : List Int) (r4 : List Int) (r5 : Int) (w : World) (hr0_2 : Kd.C (Kd.int .u8) w bL aT.length aT) (hc0_2 : aT.length≤bK) (h : iT.f aN aJ aT = some (r1,r2,r3,r4,r5)) :
  Calls Try.prog 85 #[.agg #[.int .i64 aN,.int .i64 aJ,.slice bL aT.length bK]] w fun e w' => ∃ pF v3_ : Value,e = .returned (.tuple #[.agg #[.int .i64 r1,.int .i64 r2,pF],v3_,.int .i64 r5])∧Kd.V (Kd.int .u8) 5 w' w.heap.size (fun k_ => w.heap.size≤k_∧some k_≠v3_.ownBlock) pF r3∧Kd.R (Kd.int .i64) 3 w' w.heap.size (fun k_ => some k_≠pF.ownBlock) v3_ r4∧Below w.heap.size w w':=by
 unfold iT.f at h
 split at h
 ·rename_i hi
  obtain ⟨xs,rfl⟩:=sW hi;simp only [aZ,nN] at h hc0_2 ⊢
  split at h
  ·rename_i hm
   obtain ⟨a,b,rfl,rfl,ha,hb,hn⟩:=oF hm;simp only [Int.toNat_natCast,Option.some.injEq,Prod.mk.injEq] at h;obtain ⟨rfl,rfl,rfl,rfl,rfl⟩:=h;refine (LX a b xs.length bK bL xs w (uP hr0_2) (Lib.hid hn) hc0_2 ha hb).mono ?_;rintro e w' ⟨A',k',v,piv,L',A2,rfl,hrd,hk,hown,hred,hbel,hA⟩;obtain ⟨e1,e2⟩:=NG hn (sJ a) hred;subst e1 e2;have hl : (vQ a b xs).1.flatten.length = xs.length:=by
    have:=hrd.len;rw [bC] at this;exact this
   have hmax : xs.length≤9223372036854775807:=by rw [hn];exact Nat.le_trans (Nat.mul_le_mul ha hb) (by omega)
   rw [← hl] at hrd hk ⊢;refine ⟨_,_,rfl,aLK hrd (Nat.le_refl _) (by omega) hk hA,VC hown (fun k hk he => ?_),hbel⟩
   cases A' with
   | none => simp [Value.ownBlock] at he
   | some a' => 
    have:=(hA a' rfl).2;rw [hk] at this;simp only [Value.ownBlock,Option.map_some] at he;exact this he.symm
  ·rename_i hm
   simp only [Option.some.injEq,Prod.mk.injEq] at h;obtain ⟨rfl,rfl,rfl,rfl,rfl⟩:=h;refine (QQ aN aJ xs.length bK bL w (Lib.hid (by simpa using hm))).mono ?_;rintro e w' ⟨rfl,hb⟩;exact ⟨_,_,rfl,Kd.aMW _ _ _ _ _,Kd.AQ _ _ _ _ _,hb⟩
 ·cases h
def gW.f (a0 a1 : Int) (l : List Int) : Option (Int×Int) :=
 if inU l = true then (if bM a0 a1 l.length = true then some (((vQ a0.toNat a1.toNat (l.map zS)).2.2.length : Int),0) else some (0,3)) else none
theorem gW.calls (aN : Int) (aJ : Int) (bL : Option Addr) (bK : Nat) (aT : List Int) (r1 : Int) (r2 : Int) (w : World) (hr0_2 : Kd.C (Kd.int .u8) w bL aT.length aT) (hc0_2 : aT.length≤bK) (h : gW.f aN aJ aT = some (r1,r2)) :
  Calls Try.prog 57 #[.agg #[.int .i64 aN,.int .i64 aJ,.slice bL aT.length bK]] w fun e w' => e = .returned (.tuple #[.int .i64 r1,.int .i64 r2])∧Below w.heap.size w w':=by
 unfold gW.f at h
 split at h
 ·rename_i hi
  obtain ⟨xs,rfl⟩:=sW hi;simp only [aZ,nN] at h hc0_2 ⊢
  split at h
  ·rename_i hm
   obtain ⟨a,b,rfl,rfl,ha,hb,hn⟩:=oF hm;simp only [Int.toNat_natCast,Option.some.injEq,Prod.mk.injEq] at h;obtain ⟨rfl,rfl⟩:=h;refine (aGd a b xs.length bK bL xs w (uP hr0_2) (Lib.hid hn) hc0_2 ha hb).mono ?_;rintro e w' ⟨piv,L',A2,rfl,hred,hbel⟩;obtain ⟨e1,e2⟩:=NG hn (sJ a) hred;subst e1 e2;exact ⟨rfl,hbel⟩
  ·rename_i hm
   simp only [Option.some.injEq,Prod.mk.injEq] at h;obtain ⟨rfl,rfl⟩:=h;exact aIm aN aJ xs.length bK bL w (Lib.hid (by simpa using hm))
 ·cases h
end Go.Proofs.Yteofcbkjhdadpaa
namespace Go.Proofs.Yteofcbkjhdadpaa
open Go.RowKit
theorem aFQ (a b : UInt8) (w : World) :
  Calls Try.prog 64 #[.int .u8 (a.toNat : Int),.int .u8 (b.toNat : Int)] w fun e w' => e = .returned (.int .u8 ((Gf.mul a b).toNat : Int))∧w = w':=by
 go_enter Try.func64,Try.ntmps64;go_wp2_with fail
 go_loop [0,1,5] (fun v0 v1 v5 => ∃ (n : Nat) (x y p : UInt8),v0 = .int .u8 (x.toNat : Int)∧v1 = .int .u8 (y.toNat : Int)∧v5 = .int .u8 (p.toNat : Int)∧Hid (Gf.uJ n x y p = Gf.mul a b∧y.toNat < 2 ^ n)) (fun _ v1 _ => (intOf v1).toNat)
 case atStart => exact ⟨8,a,b,0,rfl,rfl,rfl,rfl,b.toNat_lt⟩
 case round =>
  obtain ⟨n,x,y,p,rfl,rfl,rfl,H⟩:=hrel
  by_cases hy : y = 0
  ·have hy1 : ((y.toNat : Int) != 0) = false:=by show (!((y.toNat : Int) == 0)) = false;rw [sE,hy];rfl
   have HY:=Lib.hid hy;clear hy;go_wp2_with fail
   go_ret;obtain ⟨H1,_⟩:=H.out;rw [HY.out,Gf.aCp] at H1;exact ⟨PT (by rw [H1]),rfl⟩
  ·have hy1 : ((y.toNat : Int) != 0) = true:=by show (!((y.toNat : Int) == 0)) = true;rw [sE,decide_eq_false hy];rfl
   have hpos : 0 < y.toNat:=Nat.pos_of_ne_zero (fun h => hy ((toNat_zero y).1 h));have hs:=aBS y;obtain ⟨m,rfl⟩ : ∃ m,n = m + 1:=by
    cases n with
    | zero => exact absurd H.out.2 (by simp;omega)
    | succ m => exact ⟨m,rfl⟩
   have HS:=Lib.hid hs;clear hs
   by_cases h1 : y &&& 1 = 0
   ·have hb : (bits .and .u8 (y.toNat : Int) 1 != 0) = false:=by rw [RI,h1];rfl
    have H1:=Lib.hid h1;clear h1 hy;go_wp2_with (go_at_call 87;refine (AB _ _).mono ?_;rintro e w' ⟨rfl,rfl⟩)
    go_round
    case rel =>
     refine ⟨m,Gf.TD x,y >>> 1,p,rfl,by rw [HS.out],rfl,?_,?_⟩
     ·have h:=H.out.1
      simp only [Gf.uJ,H1.out,if_true] at h;exact h
     ·have h:=H.out.2
      rw [VT];omega
    case measure => simp [intOf];omega
   ·have hb : (bits .and .u8 (y.toNat : Int) 1 != 0) = true:=by rw [RI,decide_eq_false h1];rfl
    have H1:=Lib.hid h1;clear h1 hy;go_wp2_with (go_at_call 87;refine (AB _ _).mono ?_;rintro e w' ⟨rfl,rfl⟩)
    go_round
    case rel =>
     refine ⟨m,Gf.TD x,y >>> 1,Gf.add p x,rfl,by rw [HS.out],by rw [xP],?_,?_⟩
     ·have h:=H.out.1
      simp only [Gf.uJ] at h;rw [if_neg H1.out] at h;exact h
     ·have h:=H.out.2
      rw [VT];omega
    case measure => simp [intOf];omega
end Go.Proofs.Yteofcbkjhdadpaa
namespace Go.Proofs.Yteofcbkjhdadpaa
open Go.RowKit Go.Proofs.aG.aX
def oG.f (a b : Int) : Option Int:=if (CG a && CG b) = true then some ((Gf.mul (zS a) (zS b)).toNat : Int) else none
theorem oG.calls (a0 : Int) (a1 : Int) (r : Int) (w : World)  (h : oG.f a0 a1 = some r) :
  Calls Try.prog 64 #[.int .u8 a0,.int .u8 a1] w fun e w' => e = .returned (.int .u8 r)∧nX w w':=by
 unfold oG.f at h
 split at h
 ·rename_i hi
  rw [Bool.and_eq_true] at hi;obtain rfl:=Option.some.inj h;have hc:=aFQ (zS a0) (zS a1) w;rw [JU hi.1,JU hi.2] at hc;refine hc.mono ?_;rintro e w' ⟨rfl,rfl⟩;exact ⟨rfl,0,rfl⟩
 ·cases h
end Go.Proofs.Yteofcbkjhdadpaa
namespace Go.Proofs.Yteofcbkjhdadpaa
open Go.RowKit Go.Proofs.aG.aX
def eK.f (a : Int) : Option (Int×Int):=if CG a = true then some (((Gf.inv (zS a)).toNat : Int),Gf.EX (zS a)) else none
theorem eK.calls (a0 : Int) (r1 : Int) (r2 : Int) (w : World)  (h : eK.f a0 = some (r1,r2)) :
  Calls Try.prog 46 #[.int .u8 a0] w fun e w' => e = .returned (.tuple #[.int .u8 r1,.int .i64 r2])∧nX w w':=by
 unfold eK.f at h
 split at h
 ·rename_i hi
  simp only [Option.some.injEq,Prod.mk.injEq] at h;obtain ⟨rfl,rfl⟩:=h;have hc:=GN (zS a0) w;rw [JU hi] at hc;refine hc.mono ?_;rintro e w' ⟨rfl,rfl⟩;exact ⟨rfl,0,rfl⟩
 ·cases h
end Go.Proofs.Yteofcbkjhdadpaa
namespace Go.Proofs.Yteofcbkjhdadpaa
open Go.RowKit Go.Proofs.aG.aX
def cI.f (a b : Int) : Option Int:=if (CG a && CG b) = true then some ((Gf.mul (zS a) (zS b)).toNat : Int) else none
theorem cI.calls (a0 : Int) (a1 : Int) (r : Int) (w : World)  (h : cI.f a0 a1 = some r) :
  Calls Try.prog 24 #[.int .u8 a0,.int .u8 a1] w fun e w' => e = .returned (.int .u8 r)∧nX w w':=by
 unfold cI.f at h
 split at h
 ·rename_i hi
  rw [Bool.and_eq_true] at hi;obtain rfl:=Option.some.inj h;have hc:=qL (zS a0) (zS a1) w;rw [JU hi.1,JU hi.2] at hc;refine hc.mono ?_;rintro e w' ⟨rfl,rfl⟩;exact ⟨rfl,0,rfl⟩
 ·cases h
end Go.Proofs.Yteofcbkjhdadpaa
namespace Go.Proofs.Yteofcbkjhdadpaa
open Go.RowKit
theorem aAb (A : Option Addr) (n cap base : Nat) (xs : List UInt8) (m : UInt8) (w : World) (ho : eJ w base A n cap xs) (hbase : base≤w.heap.size) (hn : n + 3≤140737488355328) :
  Calls Try.prog 42 #[.slice A n cap,.int .u8 (m.toNat : Int)] w fun e w' => e = .returned (.tuple #[])∧w.grownBy w' (Value.slice A n cap).ownBlock:=by
 obtain ⟨row,hrow⟩ : ∃ row,row = (Value.slice A n cap).ownBlock:=⟨_,rfl⟩
 rw [← hrow];have HR:=Lib.hid hrow;clear hrow;go_enter Try.func42,Try.ntmps42;go_wp2_with fail
 go_loopw [4] (fun v4 wr => ∃ (i : Nat) (ys : List UInt8),i≤n∧v4 = .int .i64 (i : Int)∧eJ wr base A n cap ys∧w.grownBy wr row) (fun v4 _ => n - (intOf v4).toNat)
 case atStart => exact ⟨0,xs,by omega,rfl,ho,World.grownBy.refl w _⟩
 case round =>
  obtain ⟨i,ys,hi,rfl,hoy,hg⟩:=hrel;have HO0:=Lib.hid ho;clear ho
  by_cases hlt : i < n
  ·obtain ⟨g,rfl,hg1,hg2,hcell,hfz⟩:=hoy.at_ hlt
   obtain ⟨k,hk⟩ : ∃ k : UInt8,(k.toNat : Int) = (i : Int) % 256:=⟨UInt8.ofNat i,by rw [UInt8.toNat_ofNat'];omega⟩
   have hx : bits BinOp.xor IntKind.u8 (m.toNat : Int) ((i : Int) % 256) = ((Gf.add m k).toNat : Int):=by rw [← hk];exact xP m k
   have HK:=Lib.hid hk;have HO:=Lib.hid hoy;have HG:=Lib.hid hg;clear hoy hg hk;go_wp2_with fail
   go_roundw
   case rel => exact ⟨i + 1,_,by omega,by go_num,HO.out.store i (Gf.add m k),gN HG.out (.inl (by rw [HR.out];rfl)) _⟩
   case measure => simp [intOf];omega
  ·obtain rfl : i = n:=by omega
   have HL:=Lib.hid hoy.1;have HO:=Lib.hid hoy;have HG:=Lib.hid hg;clear hoy hg;have hsz:=HG.out.size;go_wp2_with (at_builtin;refine sD (.tmp 19) (.tmp 23) rfl rfl base _ ys [m,m,m] rfl (by have h:=World.ownsRow.alloc HO.out.2 (.cells (dK [m,m,m]).toArray 5);unfold kI;rw [HL.out];exact h) (wr.heap.size + 1) (some ⟨wr.heap.size,0,none⟩) 3 3 rfl (aNJ wr [m,m,m] 3 rfl _) (by rw [HL.out];exact hn) (by simp;omega) ?_;intro v1 w1 ho1 hg1 hat1;obtain ⟨A1,c1,rfl,hob⟩:=ho1.WB (n:=i + 3) (by rw [List.length_append,HL.out];rfl))
   have HA:=Lib.hid (show ∀ g1,A1 = some ⟨g1,0,none⟩→some g1 = row ∨ w.heap.size≤g1 by
    intro g1 h;subst h
    rcases hat1 with e | e
    ·exact .inl (by rw [HR.out];exact e)
    ·refine .inr ?_
     simp [Value.ownBlock] at e
     omega)
   have HG1:=Lib.hid (show w.grownBy w1 row by
    have h1:=aAA HG.out (.cells (dK [m,m,m]).toArray 5);rw [HR.out] at h1 ⊢;exact h1.trans hg1)
   have HOB:=Lib.hid hob;clear hat1 hg1 ho1 hob HG HO HL
   go_loopw [5] (fun v5 wr => ∃ (j : Nat) (zs : List UInt8),j≤i + 3∧v5 = .int .i64 (j : Int)∧eJ wr base A1 (i + 3) c1 zs∧w.grownBy wr row) (fun v5 _ => (i + 3) - (intOf v5).toNat)
   case atStart => exact ⟨0,_,by omega,rfl,HOB.out,HG1.out⟩
   case round =>
    obtain ⟨j,zs,hj,rfl,hoz,hg⟩:=hrel;clear HOB HG1
    by_cases hlt : j < i + 3
    ·obtain ⟨g,rfl,hg1,hg2,hcell,hfz⟩:=hoz.at_ hlt
     have HO:=Lib.hid hoz;have HG:=Lib.hid hg;clear hoz hg;go_wp2_with fail
     go_roundw
     case rel => exact ⟨j + 1,_,by omega,by go_num,HO.out.store j m,gN HG.out (HA.out _ rfl) _⟩
     case measure => simp [intOf];omega
    ·obtain rfl : j = i + 3:=by omega
     go_wp2_with fail
     go_end0
     exact ⟨rfl,hg⟩
end Go.Proofs.Yteofcbkjhdadpaa
namespace Go.Proofs.Yteofcbkjhdadpaa
open Go.RowKit
structure TJ where
 A : Option Addr
 n : Nat
 cap : Nat
 xs : List UInt8
def TJ.v (r : TJ) : Value:=.slice r.A r.n r.cap
structure mA (w : World) (B : Nat) (R : List TJ) : Prop where
 own : ∀ r∈R,eJ w B r.A r.n r.cap r.xs
 apart : R.Pairwise fun r s => aET r.A s.A
section
variable {w w' : World} {B : Nat} {R : List TJ}
theorem mA.nil (w : World) (B : Nat) : mA w B []:=⟨fun r h => absurd h (by simp),List.Pairwise.nil⟩
theorem mA.go (h : mA w B R) (hb : Below w.heap.size w w') : mA w' B R:=⟨fun r hr => (h.own r hr).below hb (Nat.le_refl _),h.apart⟩
theorem mA.drewN (h : mA w B R) (k : Nat) : mA (w.drewN k) B R:=⟨fun r hr => (h.own r hr).drewN k,h.apart⟩
theorem mA.lt (h : mA w B R) {r : TJ} (hr : r∈R) {g : Nat} (e : r.A = some ⟨g,0,none⟩) : B≤g∧g < w.heap.size:=by
 have h1:=h.own r hr;rw [e] at h1;exact h1.row g rfl
theorem mA.snoc (h : mA w B R) (hb : Below w.heap.size w w') (hB : B≤w.heap.size) {A : Option Addr} {n cap : Nat} {xs : List UInt8} (ho : eJ w' w.heap.size A n cap xs) : mA w' B (R ++ [⟨A,n,cap,xs⟩]):=by
 refine ⟨fun r hr => ?_,?_⟩
 ·rcases List.mem_append.1 hr with h1 | h1
  ·exact (h.own r h1).below hb (Nat.le_refl _)
  ·obtain rfl:=List.mem_singleton.1 h1
   exact ho.mono hB
 ·rw [List.pairwise_append]
  refine ⟨h.apart,List.pairwise_singleton _ _,fun r hr s hs => ?_⟩;obtain rfl:=List.mem_singleton.1 hs;intro g e1 e2;have h1:=h.lt hr e1;subst e2;have h2:=(ho.row g rfl).1;omega
theorem TJ.block {r : TJ} {base : Nat} (ho : eJ w base r.A r.n r.cap r.xs) {k : Nat} (e : r.v.ownBlock = some k) : r.A = some ⟨k,0,none⟩:=by
 rcases ho.addr with h | ⟨g,h⟩
 ·unfold TJ.v at e
  rw [h] at e
  cases e
 ·unfold TJ.v at e
  rw [h] at e ⊢;simp only [Value.ownBlock,Option.some.injEq] at e;subst e;rfl
theorem mA.spoilt {r : TJ} (h : mA w B (r :: R)) (hg : w.grownBy w' r.v.ownBlock) : mA w' B R:=by
 have hp:=List.pairwise_cons.1 h.apart;refine ⟨fun s hs => (h.own s (List.mem_cons_of_mem _ hs)).qA fun g e => ?_,hp.2⟩;have hl:=h.lt (List.mem_cons_of_mem _ hs) e;refine hg.block g hl.2 fun e2 => ?_
 have e3:=TJ.block (h.own r (List.mem_cons_self ..)) e2.symm;exact hp.1 s hs g e3 e
theorem mA.aBU {r : TJ} (h : mA w B (r :: R)) (hg : w.grownBy w' r.v.ownBlock) {gl : Nat} {t : TypeId} {ys : List Value} (hr : Row w gl t ys) (hne : ∀ s∈r :: R,s.A≠some ⟨gl,0,none⟩) : Row w' gl t ys:=by
 refine hr.of_block (hg.block gl hr.lt fun e2 => ?_);exact hne r (List.mem_cons_self ..) (TJ.block (h.own r (List.mem_cons_self ..)) e2.symm)
theorem mA.ZA {r : TJ} {w0 : World} (h : mA w B (r :: R)) (hg : w.grownBy w' r.v.ownBlock) (hb : Below B w0 w) (hB : B≤w.heap.size) : Below B w0 w':=by
 refine hb.trans (tO hg hB fun k e => ?_);exact (h.lt (List.mem_cons_self ..) (TJ.block (h.own r (List.mem_cons_self ..)) e)).1
theorem mA.head {r : TJ} (h : mA w B (r :: R)) : eJ w B r.A r.n r.cap r.xs:=h.own r (List.mem_cons_self ..)
theorem aGh {R : List TJ} {i : Nat} (hi : i < R.length) : ∃ r,R.drop i = r :: R.drop (i + 1)∧r∈R∧(R.map TJ.v)[i]? = some (.slice r.A r.n r.cap):=by
 refine ⟨R[i],List.drop_eq_getElem_cons hi,List.getElem_mem _,?_⟩;rw [List.getElem?_map,List.getElem?_eq_getElem hi];rfl
end
structure Kp (w0 w : World) (rs : List (Option Addr×Nat×List UInt8)) : Prop where
 below : Below w0.heap.size w0 w
 rds : ∀ r∈rs,Rd w w.heap.size r.1 r.2.1 (dK r.2.2)
section
variable {w0 w w' : World} {rs : List (Option Addr×Nat×List UInt8)}
theorem Kp.start (w : World) : Kp w w []:=⟨Below.refl _ _,fun r h => absurd h (by simp)⟩
theorem Kp.go (h : Kp w0 w rs) (hb : Below w.heap.size w w') : Kp w0 w' rs:=⟨h.below.trans (hb.mono h.below.size),fun r hm => (h.rds r hm).go hb⟩
theorem Kp.add {A : Option Addr} {n : Nat} {xs : List UInt8} (h : Kp w0 w rs) (hr : Rd w w.heap.size A n (dK xs)) : Kp w0 w ((A,n,xs) :: rs) :=
 ⟨h.below,fun r hm => by
  rcases List.mem_cons.1 hm with rfl | hm
  ·exact hr
  ·exact h.rds r hm⟩
theorem Kp.rd (h : Kp w0 w rs) (i : Nat) {A : Option Addr} {n : Nat} {xs : List UInt8} (e : rs[i]? = some (A,n,xs)) : Rd w w.heap.size A n (dK xs):=h.rds _ (List.mem_of_getElem? e)
theorem Kp.drewN (h : Kp w0 w rs) (k : Nat) : Kp w0 (w.drewN k) rs:=h.go (below_drewN (Below.refl _ _) k)
end
end Go.Proofs.Yteofcbkjhdadpaa
namespace Go.Proofs.Yteofcbkjhdadpaa
theorem BP (c : Nat) : dL c c (WX c):=⟨NK c,fun i hi => by rw [HJ hi,vD]⟩
section
variable {c : Nat} {L : List (List UInt8)} (hL : dL c c L)
abbrev gH (c : Nat) (L : List (List UInt8)) : List (List UInt8)×List (List UInt8)×List Nat:=wX c c L (WX c)
include hL
theorem aAv : dL c c (gH c L).1∧dL c c (gH c L).2.1:=((mE c c L (WX c)).toF hL (BP c)).2
theorem aKy (hp : (gH c L).2.2.length = c) {t : Nat} (ht : t < c) : (gH c L).2.2.getD t 0 = t:=((mE c c L (WX c)).toF hL (BP c)).1.xY.full hp ht
omit hL in
end
end Go.Proofs.Yteofcbkjhdadpaa
namespace Go.Proofs.Yteofcbkjhdadpaa
open Gf
/-! what Kernel makes of a reduced form -/
def WU (c : Nat) (R : List (List UInt8)) (p : List Nat) (j : Nat) : Nat→List UInt8
 | 0 => (List.replicate c 0).set j 1
 | m + 1 => (WU c R p j m).set (p.getD m 0) (fH R m j)
theorem BL (c : Nat) (R : List (List UInt8)) (p : List Nat) (j : Nat) : ∀ m,(WU c R p j m).length = c
 | 0 => by simp [WU]
 | m + 1 => by rw [WU,List.length_set,BL c R p j m]
section
variable {c : Nat} {R : List (List UInt8)} {p : List Nat}
def iM (c : Nat) (R : List (List UInt8)) (p : List Nat) : Nat→Nat→Nat→List (List UInt8)
 | 0,_,_ => []
 | d + 1,j,a => if a < p.length∧p.getD a 0 = j then iM c R p d (j + 1) (a + 1) else WU c R p j p.length :: iM c R p d (j + 1) a
def aHY (c : Nat) (R : List (List UInt8)) (p : List Nat) : List (List UInt8):=iM c R p c 0 0
structure yK (p : List Nat) (j a : Nat) : Prop where
 lo : ∀ q,q < a→p.getD q 0 < j
 hi : ∀ q,a≤q→q < p.length→j≤p.getD q 0
 le : a≤p.length
theorem yK.yes {j a : Nat} (h : yK p j a) (hm : ∀ s q,s < q→q < p.length→p.getD s 0 < p.getD q 0) (ha : a < p.length) (e : p.getD a 0 = j) : yK p (j + 1) (a + 1) :=
 ⟨fun q hq => by
  rcases Nat.lt_or_ge q a with h1 | h1
  ·have:=h.lo q h1;omega
  ·obtain rfl : q = a:=by omega
   omega,fun q h1 h2 => by have:=hm a q (by omega) h2;omega,by omega⟩
theorem yK.no {j a : Nat} (h : yK p j a) (hm : ∀ s q,s < q→q < p.length→p.getD s 0 < p.getD q 0) (e : ¬ (a < p.length∧p.getD a 0 = j)) : yK p (j + 1) a ∧ ∀ q,q < p.length→p.getD q 0≠j:=by
 have hq : ∀ q,a≤q→q < p.length→j + 1≤p.getD q 0:=fun q h1 h2 => by
  have h3:=h.hi q h1 h2;have h4 : p.getD q 0≠j:=by
   rcases Nat.eq_or_lt_of_le h1 with h5 | h5
   ·subst h5
    exact fun h6 => e ⟨h2,h6⟩
   ·have:=hm a q h5 h2
    have:=h.hi a (Nat.le_refl _) (by omega);omega
  omega
 refine ⟨⟨fun q h1 => by have:=h.lo q h1;omega,hq,h.le⟩,fun q h1 => ?_⟩
 rcases Nat.lt_or_ge q a with h2 | h2
 ·have:=h.lo q h2;omega
 ·have:=hq q h2 h1;omega
section
variable (hm : ∀ s q,s < q→q < p.length→p.getD s 0 < p.getD q 0)
include hm
theorem BN : ∀ d j a,yK p j a→(∀ q,q < p.length→p.getD q 0 < j + d)→(iM c R p d j a).length + (p.length - a) = d
 | 0,j,a,h,hl => by
  have : a = p.length:=by
   rcases Nat.lt_or_ge a p.length with h1 | h1
   ·have:=h.hi a (Nat.le_refl _) h1
    have:=hl a h1;omega
   ·have:=h.le;omega
  simp [iM,this]
 | d + 1,j,a,h,hl => by
  rw [iM]
  by_cases e : a < p.length∧p.getD a 0 = j
  ·rw [if_pos e]
   have:=BN d (j + 1) (a + 1) (h.yes hm e.1 e.2) (fun q hq => by have:=hl q hq;omega);have:=e.1;omega
  ·rw [if_neg e,List.length_cons]
   have:=BN d (j + 1) a (h.no hm e).1 (fun q hq => by have:=hl q hq;omega);omega
omit hm in
theorem BM : ∀ d j a,∀ row∈iM c R p d j a,row.length = c
 | 0,j,a,row,hr => by simp [iM] at hr
 | d + 1,j,a,row,hr => by
  rw [iM] at hr
  split at hr
  ·exact BM d _ _ row hr
  ·rcases List.mem_cons.1 hr with rfl | hr
   ·exact BL _ _ _ _ _
   ·exact BM d _ _ row hr
theorem UC (hp : ∀ q,q < p.length→p.getD q 0 < c) : dL (c - p.length) c (aHY c R p):=by
 have h0 : yK p 0 0:=⟨fun q h => by omega,fun q _ _ => Nat.zero_le _,Nat.zero_le _⟩
 have h1:=BN (c:=c) (R:=R) hm c 0 0 h0 (fun q hq => by have:=hp q hq;omega);refine ⟨by unfold aHY;omega,fun i hi => BM (R:=R) (p:=p) c 0 0 _ ?_⟩;have hlt : i < (aHY c R p).length:=by unfold aHY;omega
 rw [List.getD_eq_getElem?_getD,List.getElem?_eq_getElem hlt];exact List.getElem_mem hlt
end
end
section
variable {n c : Nat} {R : List (List UInt8)} {p : List Nat}
end
/-! equations -/
end Go.Proofs.Yteofcbkjhdadpaa
namespace Go.Proofs.Yteofcbkjhdadpaa
open Go.RowKit Go.Proofs.aG.aX
theorem BK (xs : List UInt8) (i : Nat) (x : UInt8) : (nI xs).set i (x.toNat : Int) = nI (xs.set i x):=by simp [nI,List.map_set]
theorem aDk (xs : List UInt8) (x : UInt8) : nI xs ++ [(x.toNat : Int)] = nI (xs ++ [x]):=by simp [nI]
theorem aCn (xs ys : List UInt8) : nI xs ++ nI ys = nI (xs ++ ys):=by simp [nI]
theorem KI (n : Nat) : List.replicate n (0 : Int) = nI (List.replicate n 0):=by simp [nI]
theorem aKj (xs : List UInt8) (n : Nat) : (nI xs).take n = nI (xs.take n):=by simp [nI,List.map_take]
theorem AJ (xs : List UInt8) (i : Nat) : rd (nI xs) (i : Int) = ((xs.getD i 0).toNat : Int):=by
 unfold rd nI;rw [Int.toNat_natCast,List.getD_eq_getElem?_getD,List.getElem?_map,List.getD_eq_getElem?_getD]
 cases xs[i]? <;> simp
theorem w64 {e : Int} (h0 : -9223372036854775808≤e) (h1 : e≤9223372036854775807) : wrap64 e = e:=by
 unfold wrap64;omega
theorem eM {i : Nat} (h : i≤9223372036854775806) : wrap64 ((i : Int) + 1) = ((i + 1 : Nat) : Int):=by
 rw [w64 (by omega) (by omega)];rfl
theorem GF {i c : Nat} (h : i * c≤9223372036854775807) : wrap64 ((i : Int) * (c : Int)) = ((i * c : Nat) : Int):=by
 rw [← Int.natCast_mul,w64 (by omega) (by omega)]
theorem aJK {i c : Nat} (h : i + c≤9223372036854775807) : wrap64 ((i : Int) + (c : Int)) = ((i + c : Nat) : Int):=by
 rw [← Int.natCast_add,w64 (by omega) (by omega)]
theorem pO {i c j : Nat} (h : i * c + j≤9223372036854775807) : wrap64 (wrap64 ((i : Int) * (c : Int)) + (j : Int)) = ((i * c + j : Nat) : Int):=by
 rw [GF (by omega),aJK h]
theorem TA (xs : List UInt8) (p : Nat) (x : UInt8) (h : p < xs.length) : (xs.set p x).getD p 0 = x:=by
 rw [List.getD_eq_getElem?_getD,List.getElem?_set]
 simp [h]
theorem aEF (a b : UInt8) : Go.bits .xor .u8 (a.toNat : Int) (b.toNat : Int) = ((Gf.add a b).toNat : Int):=xP a b
end Go.Proofs.Yteofcbkjhdadpaa
namespace Go.Proofs.Yteofcbkjhdadpaa
open Go.RowKit Go.Proofs.aG.aX
theorem WS {xs : List UInt8} {n : Nat} {x : UInt8} (h : x∈xs.take n) : ∃ k,k < n∧k < xs.length∧xs.getD k 0 = x:=by
 obtain ⟨k,hk,e⟩:=List.mem_iff_getElem.1 h;rw [List.length_take] at hk;refine ⟨k,by omega,by omega,?_⟩;rw [List.getElem_take] at e;rw [← e]
 simp [List.getD,show k < xs.length by omega]
def JE (xs ys : List UInt8) : Int:=if kT xs ys = 0 then (xs.length : Int) else 0
def JF (xs ys : List UInt8) : Int:=if kT xs ys = 0 then (ys.length : Int) else 0
def DV (xs ys : List UInt8) : List UInt8:=if kT xs ys = 0 then aCz xs ys else []
theorem aIl (xs ys : List UInt8) (hx : xs.length≤140737488355328) (hy : ys.length≤140737488355328) : oJ.f (nI xs) (nI ys) = some (JE xs ys,JF xs ys,nI (DV xs ys),kT xs ys):=by
 unfold oJ.f;rw [BO,BO,aZ,aZ,decide_eq_true hx,decide_eq_true hy,nN,nN];rfl
end Go.Proofs.Yteofcbkjhdadpaa
namespace Go.Proofs.Yteofcbkjhdadpaa
open Gf
/-! Vandermonde: what is left of a sum of powers when a root is taken out -/
end Go.Proofs.Yteofcbkjhdadpaa
namespace Go.Proofs.Yteofcbkjhdadpaa
open Gf
theorem ofNat_inj {a b : Nat} (ha : a < 256) (hb : b < 256) (h : UInt8.ofNat a = UInt8.ofNat b) : a = b:=by
 have e:=congrArg UInt8.toNat h;rw [UInt8.toNat_ofNat',UInt8.toNat_ofNat'] at e;omega
/-! Reed -/
section
variable {k n : Nat} {V : List UInt8} (hk : k≤n) (hn : n≤64) (hV : V.length = n * k) (hv : ∀ i j,i < n→j < k→V.getD (i * k + j) 0 = npow (UInt8.ofNat i) j)
include hk hn hV hv
omit hn hv in
omit hn in
omit hn in
omit hn in
end
/-! Cross -/
end Go.Proofs.Yteofcbkjhdadpaa
namespace Go.Proofs.Yteofcbkjhdadpaa
end Go.Proofs.Yteofcbkjhdadpaa
namespace Go.Proofs.Yteofcbkjhdadpaa
open Go.ChangeShapes Go.WideShapes Go.ChangeAt Go.RowKit
theorem aHI : ownKnob Try.prog.godebug = none:=by kernel_rfl
theorem QI : laidOutB Try.prog = true:=by kernel_rfl
theorem aPn {n : Int} (h : (Lit.int .u8 n).wf = true) : ∃ u : UInt8,n = (u.toNat : Int):=by
 have hb:=bounds_u8 h;refine ⟨UInt8.ofNat n.toNat,?_⟩;rw [UInt8.toNat_ofNat'];omega
theorem aGU : ∀ {zs : List Int},(∀ n∈zs,(Lit.int .u8 n).wf = true) → ∃ xs : List UInt8,zs = xs.map fun x => (x.toNat : Int)
 | [],_ => ⟨[],rfl⟩
 | z :: zs,h => by
  obtain ⟨u,hu⟩:=aPn (h z (by simp));obtain ⟨xs,hx⟩:=aGU (zs:=zs) (fun n hn => h n (by simp [hn]));exact ⟨u :: xs,by simp [hu,hx]⟩
theorem EV {H : Type} {enc : TypeId×Value→H} {W : World} {d : DataW H} {p : List MemPlace} {a : Option Addr} {len cap : Nat}
  (h : DataW.Trod enc Try.prog W 0 (fun _ => true) true 22 (.slice a len cap) d p) :
  ∃ (xs : List UInt8),Rd W W.heap.size a len (dK xs)∧len≤cap∧cap≤maxLen∧((d = .nil∧cap = 0) ∨ ∃ es rs : List (DataW H),d = .slice es rs∧es.length + rs.length = cap):=by
 obtain ⟨fuel,hf⟩:=h;have hlt:=DataW.trod_lt fuel _ _ _ hf
 rcases open_ints Try.underlying22 Try.underlying5 (by kernel_rfl) hf with ⟨hcs,hx⟩ | ⟨x,l,c,zs,hcs,_,hl,hm,hz,hx,hcell,hwz⟩
 ·simp [Value.cells] at hcs
  obtain ⟨rfl,rfl,rfl⟩:=hcs;exact ⟨[],Rd.nil,Nat.le_refl _,Nat.zero_le _,.inl ⟨by simpa using congrArg Prod.fst hx,rfl⟩⟩
 ·simp [Value.cells] at hcs
  obtain ⟨rfl,rfl,rfl⟩:=hcs;simp only [if_true] at hz;obtain ⟨xs,rfl⟩:=aGU hwz;rw [List.length_map] at hz;refine ⟨xs.take len,⟨by simp [dK];omega,fun hn => ?_⟩,hl,hm,.inr ⟨_,_,by simpa using congrArg Prod.fst hx,by simp [lits];omega⟩⟩;obtain ⟨g,o,rfl,hc⟩:=ints_at hcell (by rw [List.length_map];omega);refine ⟨g,o,rfl,?_,fun j u hu => ?_⟩
  ·have hp : p = MemPlace.row ⟨g,o,none⟩ ((xs.map fun x => (x.toNat : Int)).length):=by simpa using congrArg Prod.snd hx
   have:=hlt (.cell g o) (by rw [hp];simp [MemPlace.row];omega);exact this
  ·have hj : j < (dK (xs.take len)).length:=by
    rcases Nat.lt_or_ge j (dK (xs.take len)).length with hlt | hge
    ·exact hlt
    ·rw [List.getElem?_eq_none hge] at hu;cases hu
   rw [bC,List.length_take] at hj;rw [hc j (by rw [List.length_map];omega)];rw [← hu];have hx : (xs.map fun x => (x.toNat : Int)).getD j 0 = ((xs[j]'(by omega)).toNat : Int):=by simp [List.getD];rw [List.getElem?_eq_getElem (by omega)];rfl
   rw [hx,rN _ _ (by rw [List.length_take];omega),List.getElem_take]
theorem CF : Try.prog.bytesOf 5 = 1:=by kernel_rfl
end Go.Proofs.Yteofcbkjhdadpaa
namespace Go.Proofs.Yteofcbkjhdadpaa
open Go.ChangeShapes Go.WideShapes Go.ChangeAt Go.RowKit Go.Joins
theorem YV : Try.prog.cellsOf 24 = 3:=by kernel_rfl
theorem aBb {H : Type} {enc : TypeId×Value→H} {W : World} {fuel : Nat} {v : Value} {y : DataW H×List MemPlace}
  (hf : DataW.trod enc Try.prog W 0 (fun _ => true) true fuel 22 [v] = some y) :
  ∃ (a : Option Addr) (len cap : Nat) (xs : List UInt8),v = .slice a len cap∧Rd W W.heap.size a len (dK xs)∧len≤cap∧cap≤maxLen∧((y.1 = .nil∧cap = 0) ∨ ∃ es rs : List (DataW H),y.1 = .slice es rs∧es.length + rs.length = cap):=by
 have hv : ∃ a len cap,v = .slice a len cap:=by
  rcases open_ints Try.underlying22 Try.underlying5 (by kernel_rfl) hf with ⟨hcs,_⟩ | ⟨x,l,c,zs,hcs,_⟩
  ·simp at hcs;exact ⟨_,_,_,hcs⟩
  ·simp at hcs;exact ⟨_,_,_,hcs⟩
 obtain ⟨a,len,cap,rfl⟩:=hv;have h : DataW.Trod enc Try.prog W 0 (fun _ => true) true 22 (.slice a len cap) y.1 y.2:=⟨fuel,hf⟩
 obtain ⟨xs,h1,h2,h3,h4⟩:=EV h;exact ⟨a,len,cap,xs,rfl,h1,h2,h3,h4⟩
theorem aAm {H : Type} {enc : TypeId×Value→H} {W : World} {r : Reach} {b0 : Nat} {v : Value} {d : DataW H} {p : List MemPlace}
  (hv : Value.okWide Try.prog W r b0 24 v) (h : DataW.Trod enc Try.prog W 0 (fun _ => true) true 24 v d p) :
  ∃ (rr cc : Int) (a : Option Addr) (n cap : Nat) (xs : List UInt8) (d2 : DataW H),v = mV rr cc a n cap∧(Lit.int .i64 rr).wf = true∧(Lit.int .i64 cc).wf = true∧Rd W W.heap.size a n (dK xs)∧n≤cap∧cap≤maxLen ∧
   d = .agg [.lit (.int .i64 rr),.lit (.int .i64 cc),d2]∧((d2 = .nil∧cap = 0) ∨ ∃ es rs : List (DataW H),d2 = .slice es rs∧es.length + rs.length = cap):=by
 obtain ⟨v0,v1,v2,y0,y1,y2,m,rfl,rfl,rfl,t0,t1,t2⟩:=open_agg3 Try.underlying24 (by kernel_rfl) YV hv h;obtain ⟨rr,e0,rfl,w0⟩:=DataW.trod_int Try.underlying3 t0;obtain ⟨cc,e1,rfl,w1⟩:=DataW.trod_int Try.underlying3 t1;obtain ⟨a,n,cap,xs,rfl,h1,h2,h3,h4⟩:=aBb t2
 simp at e0 e1
 subst e0;subst e1;exact ⟨rr,cc,a,n,cap,xs,y2.1,rfl,w0,w1,h1,h2,h3,rfl,h4⟩
theorem WC {H : Type} {ts : List TypeId} {ds : List (DataW H)} {j : Nat} {a b : DataW H} {d2 : DataW H} {cap : Nat} (h : (DataW.weightsEach Try.prog ts ds).all (· ≤ reachBytes) = true)
  (ht : ts[j]? = some 24) (hd : ds[j]? = some (.agg [a,b,d2])) (hs : (d2 = .nil∧cap = 0) ∨ ∃ es rs : List (DataW H),d2 = .slice es rs∧es.length + rs.length = cap) : cap≤140737488351232:=by
 rcases hs with ⟨_,h0⟩ | ⟨es,rs,rfl,hl⟩
 ·omega
 ·have:=List.all_eq_true.1 h _ (DataW.weights_mem_each ht hd ((es.length + rs.length) * Try.prog.bytesOf 5) (by
   simp only [DataW.weights,Try.underlying24,DataW.weightsEach,List.map,Array.toList,Try.underlying22]
   simp))
  rw [CF] at this;simp only [reachBytes] at this;have h2:=of_decide_eq_true this;omega
end Go.Proofs.Yteofcbkjhdadpaa
